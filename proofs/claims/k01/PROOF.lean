import PyProof.Rows.All
import Wide.All
import OpenK.AllK
import Wide.FinOn
import HandS.ForMost
import HandS.ForExc
import HandS.IsInst
import HandS.TupAny
import HandS.TupMul
import HandS.Wide
import HandS.Style
import HandS.Strs
import HandS.FStr
import HandS.RaiseMore
import HandS.ExcIs
import HandS.ExcSuper
import HandS.Small
import HandS.Replace
import KE.KIndexOf
import PyProof.ListStr
import KE.DataEq
import KE.SortData
import KE.LtData
import HandS.Zip
import HandS.HeadHook2
import HandS.HeadEnd
import HandS.Codes
import PySem.Challenge.RW_clipforms_k01_contents_of_any_object
import HandS.Head2
set_option Elab.async false
set_option linter.all false
set_option autoImplicit false
set_option maxRecDepth 100000
/-! Cip1: the small language and what its texts mean. -/
namespace Cip
open PySem

abbrev Key := L2.Key

inductive D where
  | non | bl (b : Bool) | int (i : Int) | str (x : Str) | tup (xs : List D) | lst (xs : List D) | dct (ks : List Key) (vs : List D) | scr (xs : List D) | ref (k : Nat)

inductive MO where
  | lst (xs : List D)
  | dct (lk : Bool) (ks : List Key) (vs : List D)
  | ins (c : Nat) (fs : List (Nat × D))
  | exc (c : Nat) (fs : List (Nat × D))

abbrev Store := List MO
abbrev Env := List (Option D)

inductive BOp where | add | sub | mul | mod | fdiv | pow
inductive COp where | eq | ne | lt | le | gt | ge | isin | nin
/-- built-in calls -/
inductive BI where | len | abs | int | str | repr | sum | all | any | max2 | min2 | tuple | list | sorted | set | lenset
/-- methods of texts, tuples, lists that change nothing -/
inductive BM where | join | split | upper | count | rstrip | tindex | lindex | sindex
/-- what is walked -/
inductive IK where | val | enum | zip2 | zip3 | rng1 | rng2 | items | vals
inductive Ty where | int | str | bool | tuple | list | dict | cls (c : Nat) | verr

inductive Tg where | nm (i : Nat) | tup (ts : List Tg)

inductive E where
  | nul
  | non | bl (b : Bool) | int (i : Int) | str (x : Str)
  | var (i : Nat) | con (i : Nat)
  | bin (o : BOp) (a b : E) | neg (a : E)
  | cmp (o : COp) (a b : E) | chn (o p : COp) (a b c : E) | chn3 (o p q : COp) (a b c d : E)
  | isn (a : E) | notn (a : E)
  | and (es : List E) | or (es : List E) | not (a : E) | ite (c a b : E)
  | tup (es : List E) | lst (es : List E) | mut (a : E)
  | dct (es : List E)
  | idx (a i : E) | slc (a lo hi : E) | rev (a : E)
  | fld (a : E) (f : Nat)
  | call (f : Nat) (es : List E) | mth (c : Nat) (a : E) (f : Nat) (es : List E) | new (c : Nat) (es : List E)
  | bi (b : BI) (es : List E) | bm (m : BM) (a : E) (es : List E)
  | isi (a : E) (t : Ty)
  | fst (es : List E)
  | lc (own : List Nat) (t : Tg) (k : IK) (its : List E) (c e : E)
  | app (a e : E) | ext (a e : E) | pop (a : E)

inductive S where
  | asg (t : Tg) (e : E) | sfld (a : E) (f : Nat) (e : E) | ssub (a i e : E)
  | aug (i : Nat) (o : BOp) (e : E) | augf (a : E) (f : Nat) (o : BOp) (e : E)
  | ite (c : E) (a b : List S) | for (t : Tg) (k : IK) (its : List E) (body : List S) | whl (c : E) (body : List S)
  | ret (e : E) | exp (e : E) | pass
  | raise (c : Nat) (es : List E)
  | tri (body : List S) (c : Nat) (i : Nat) (h : List S)

def E.nulB : E → Bool
  | .nul => true
  | _ => false

def D.isNon : D → Bool
  | .non => true
  | _ => false
/-- what an expression comes to -/
inductive R (α : Type) where
  | ok (a : α) (st : Store) | ex (c : Nat) (fs : List (Nat × D)) (st : Store) | stk
def R.bind {α β : Type} (r : R α) (k : α → Store → R β) : R β := match r with
  | .ok a st => k a st
  | .ex c fs st => .ex c fs st
  | .stk => .stk
def R.of {α : Type} (o : Option α) (st : Store) : R α := match o with
  | some a => .ok a st
  | none => .stk
/-- what a statement comes to -/
inductive SR where
  | nx (env : Env) (st : Store) | rt (d : D) (st : Store) | ex (c : Nat) (fs : List (Nat × D)) (env : Env) (st : Store) | stk
def SR.bind (r : SR) (k : Env → Store → SR) : SR := match r with
  | .nx env st => k env st
  | .rt d st => .rt d st
  | .ex c fs env st => .ex c fs env st
  | .stk => .stk
def R.s {α : Type} (r : R α) (env : Env) (k : α → Store → SR) : SR := match r with
  | .ok a st => k a st
  | .ex c fs st => .ex c fs env st
  | .stk => .stk

/-! ### data -/
mutual
/-- there is a list in it -/
def hasL : PyData → Bool
  | .tuple xs => hasLs xs
  | .list _ => true
  | .none | .bool _ | .int _ | .str _ | .dict _ => false
def hasLs : List PyData → Bool
  | [] => false
  | x :: xs => hasL x || hasLs xs
end
mutual
def pyW (rf : Nat → Option PyData) : D → Option PyData
  | .non => some .none
  | .bl b => some (.bool b)
  | .int i => some (.int i)
  | .str x => some (.str x)
  | .tup xs => (pysW rf xs).map .tuple
  | .lst xs => (pysW rf xs).map .list
  | .dct ks _ => if ks.isEmpty then some (.dict []) else none
  | .scr _ => none
  | .ref k => rf k
def pysW (rf : Nat → Option PyData) : List D → Option (List PyData)
  | [] => some []
  | x :: xs => match pyW rf x, pysW rf xs with
    | some a, some b => some (a :: b)
    | _, _ => none
end
/-- the data behind a reference, to the depth n -/
def pyR : Nat → Store → Nat → Option PyData
  | 0, _, _ => none
  | n + 1, st, k => match st[k]? with
    | some (.lst xs) => (pysW (pyR n st) xs).map .list
    | some (.dct false [] _) => some (.dict [])
    | _ => none
def py (st : Store) (d : D) : Option PyData := pyW (pyR 8 st) d

/-- the items of a list or a tuple -/
def seqD (st : Store) : D → Option (List D)
  | .tup xs => some xs
  | .lst xs => some xs
  | .scr xs => some xs
  | .ref k => match st[k]? with
    | some (.lst xs) => some xs
    | _ => none
  | _ => none
def lstD (st : Store) : D → Option (List D)
  | .lst xs => some xs
  | .ref k => match st[k]? with
    | some (.lst xs) => some xs
    | _ => none
  | _ => none

def lsqD (st : Store) : D → Option (List D)
  | .lst xs => some xs
  | .scr xs => some xs
  | .ref k => match st[k]? with
    | some (.lst xs) => some xs
    | _ => none
  | _ => none

def strMul (x : Str) (n : Int) : Str := ⟨(List.replicate n.toNat x.cps.toList).flatten.toArray⟩
def addD (st : Store) : D → D → Option D
  | .int i, .int j => some (.int (i + j))
  | .str x, .str y => if x.length + y.length ≤ sizeLine then some (.str (x ++ y)) else none
  | .tup xs, .tup ys => if xs.length + ys.length ≤ sizeLine then some (.tup (xs ++ ys)) else none
  | a, b => match lstD st a, lstD st b with
    | some xs, some ys => if xs.length + ys.length ≤ sizeLine then some (.lst (xs ++ ys)) else none
    | _, _ => none
def mulD (st : Store) : D → D → Option D
  | .int i, .int j => if (-(2 ^ 64) < i ∧ i < 2 ^ 64) ∨ (-(2 ^ 64) < j ∧ j < 2 ^ 64) then some (.int (i * j)) else none
  | .str x, .int j => if -(2 ^ 31) ≤ j ∧ j < 2 ^ 31 ∧ x.length * j.toNat ≤ sizeLine then some (.str (strMul x j)) else none
  | .tup xs, .int j => if -(2 ^ 31) ≤ j ∧ j < 2 ^ 31 ∧ xs.length * j.toNat ≤ sizeLine then some (.tup (List.replicate j.toNat xs).flatten) else none
  | a, .int j => match lstD st a with
    | some xs => if -(2 ^ 31) ≤ j ∧ j < 2 ^ 31 ∧ xs.length * j.toNat ≤ sizeLine then some (.lst (List.replicate j.toNat xs).flatten) else none
    | none => none
  | _, _ => none
def binD (st : Store) : BOp → D → D → Option D
  | .add, a, b => addD st a b
  | .sub, .int i, .int j => some (.int (i - j))
  | .mul, a, b => mulD st a b
  | .mod, .int i, .int j => if j = 0 then none else some (.int (i.fmod j))
  | .fdiv, .int i, .int j => if j ≠ 0 ∧ j.natAbs < 1073741824 then some (.int (i.fdiv j)) else none
  | .pow, .int i, .int j => if 0 ≤ j ∧ j ≤ 1000 ∧ i.natAbs < 2 ^ 64 then some (.int (i ^ j.toNat)) else none
  | _, _, _ => none

def eqP (st : Store) (a b : D) : Option Bool := match py st a, py st b with
  | some x, some y => if x.plain && y.plain && decide (min x.depth y.depth ≤ 100) then some (PyData.eqv x y) else none
  | _, _ => none
/-- lists of unlike lengths: no item is looked at -/
def eqL (st : Store) (a b : D) : Option Bool := match lstD st a, lstD st b with
  | some xs, some ys => if xs.length = ys.length then none else some false
  | _, _ => none
def eqD (st : Store) (a b : D) : Option Bool := match eqP st a b with
  | some r => some r
  | none => eqL st a b
def ltStr (x y : Str) : Bool := decide (x.cps.toList < y.cps.toList)
def ltD (st : Store) : D → D → Option Bool
  | .int i, .int j => some (decide (i < j))
  | .str x, .str y => some (ltStr x y)
  | _, _ => none
def leD (st : Store) : D → D → Option Bool
  | .int i, .int j => some (decide (i ≤ j))
  | .str x, .str y => some (!ltStr y x)
  | _, _ => none
/-- x stands in the text y -/
def subStr (x y : Str) : Bool := !(Builtin.Str.occurrences y x 0 y.length 1).isEmpty
def inD (st : Store) (x c : D) : Option Bool := match c with
  | .str y => match x with
    | .str z => some (subStr z y)
    | _ => none
  | c => match py st c, py st x with
    | some (.list ps), some d => if d.plain && PyData.plainAll ps && decide (min (PyData.depthAll ps) d.depth ≤ 100) then some (ps.any fun y => PyData.eqv y d) else none
    | some (.tuple ps), some d => if d.plain && PyData.plainAll ps && decide (min (PyData.depthAll ps) d.depth ≤ 100) then some (ps.any fun y => PyData.eqv y d) else none
    | _, _ => none
def cmpD (st : Store) : COp → D → D → Option Bool
  | .eq, a, b => eqD st a b
  | .ne, a, b => (eqD st a b).map (!·)
  | .lt, a, b => ltD st a b
  | .gt, a, b => ltD st b a
  | .le, a, b => leD st a b
  | .ge, a, b => leD st b a
  | .isin, a, b => inD st a b
  | .nin, a, b => (inD st a b).map (!·)

/-- the place i of n -/
def ixD {α : Type} (xs : List α) (i : Int) : Option α := L2.atI xs i
def idxD (st : Store) : D → D → Option D
  | .str x, .int i => (ixD x.cps.toList i).map fun c => .str ⟨#[c]⟩
  | d, .int i => match seqD st d with
    | some xs => ixD xs i
    | none => none
  | _, _ => none
def bnd : D → Option (Option Int)
  | .int i => some (some i)
  | _ => none
def cutL {α : Type} (xs : List α) (lo hi : Option Int) : List α := (xs.drop (HT.sIx xs.length 0 lo)).take (HT.sIx xs.length xs.length hi - HT.sIx xs.length 0 lo)
def slcD (st : Store) (d : D) (lo hi : Option Int) : Option D := match d with
  | .str x => some (.str (L2.cutS x lo hi))
  | .tup xs => some (.tup (cutL xs lo hi))
  | d => match lsqD st d with
    | some xs => some (.lst (cutL xs lo hi))
    | none => none

/-! ### built-in calls -/
def maxTy (st : Store) : Ty → D → Option Bool
  | .int, .int _ => some true
  | .int, .bl _ => some true
  | .bool, .bl _ => some true
  | .str, .str _ => some true
  | .tuple, .tup _ => some true
  | .list, .lst _ => some true
  | .dict, .dct _ _ => some true
  | .list, .ref k => match st[k]? with
    | some (.lst _) => some true
    | some (.dct _ _ _) => some false
    | _ => none
  | .dict, .ref k => match st[k]? with
    | some (.lst _) => some false
    | some (.dct _ _ _) => some true
    | _ => none
  | _, .scr _ => none
  | _, .ref k => match st[k]? with
    | some (.lst _) => some false
    | some (.dct _ _ _) => some false
    | _ => none
  | _, _ => some false
def isiD (sub : Nat → Nat → Option Bool) (ve : Nat → Option Bool) (st : Store) (d : D) : Ty → Option Bool
  | .cls c => match d with
    | .ref k => match st[k]? with
      | some (.exc c' _) => sub c' c
      | _ => none
    | _ => none
  | .verr => match d with
    | .ref k => match st[k]? with
      | some (.exc c' _) => ve c'
      | _ => none
    | _ => none
  | t => maxTy st t d

def sumL : List D → Option Int
  | [] => some 0
  | .int i :: r => (sumL r).map (i + ·)
  | _ :: _ => none
def bools : List D → Option (List Bool)
  | [] => some []
  | .bl b :: r => (bools r).map (b :: ·)
  | _ :: _ => none
def strsD : List D → Option (List Str)
  | [] => some []
  | .str b :: r => (strsD r).map (b :: ·)
  | _ :: _ => none
def showI (i : Int) : Option Str := if i.natAbs.log2 < 1920 then some (toString i) else none
def strD : D → Option Str
  | .int i => showI i
  | .str x => some x
  | _ => none
def strDs : List D → Option (List Str)
  | [] => some []
  | d :: r => match strD d, strDs r with
    | some x, some xs => some (x :: xs)
    | _, _ => none
def reprD (st : Store) (d : D) : Option Str := match py st d with
  | some p => if !(p.hasDict && hasL p) && p.showable && decide (p.shown.length ≤ sizeLine) && decide (p.depth ≤ 100) then some p.shown else none
  | none => none
def lenD (st : Store) : D → Option Nat
  | .str x => some x.length
  | .dct ks _ => some ks.length
  | d => match seqD st d with
    | some xs => some xs.length
    | none => match d with
      | .ref k => match st[k]? with
        | some (.dct _ ks _) => some ks.length
        | _ => none
      | _ => none
/-- built-in calls of one value, of two -/
def bi1 (st : Store) : BI → D → Option D
  | .len, d => (lenD st d).map fun (n : Nat) => D.int (n : Int)
  | .abs, .int i => some (.int (if i < 0 then -i else i))
  | .int, .int i => some (.int i)
  | .int, .bl b => some (.int (if b then 1 else 0))
  | .str, .bl b => some (.str (if b then "True" else "False"))
  | .str, d => (strD d).map .str
  | .repr, d => (reprD st d).map .str
  | .sum, d => (lstD st d).bind fun xs => (sumL xs).map .int
  | .all, d => (lstD st d).bind fun xs => (bools xs).map fun bs => .bl (bs.all id)
  | .any, d => (lstD st d).bind fun xs => (bools xs).map fun bs => .bl (bs.any id)
  | .tuple, d => (seqD st d).map .tup
  | .list, .str x => some (.lst (x.cps.toList.map fun c => .str ⟨#[c]⟩))
  | .list, d => (seqD st d).map .lst
  | _, _ => none
def bi2 (st : Store) : BI → D → D → Option D
  | .max2, .int i, .int j => some (.int (if j > i then j else i))
  | .min2, .int i, .int j => some (.int (if j < i then j else i))
  | _, _, _ => none
def biD (st : Store) (b : BI) : List D → Option D
  | [d] => bi1 st b d
  | [d, e] => bi2 st b d e
  | _ => none
def joinOk (sep : Str) (xs : List Str) : Bool := decide ((xs.map (·.length)).sum + xs.length * sep.length ≤ 16777216)
def findIx (st : Store) (p : PyData) : List D → Option (Option Nat)
  | [] => some none
  | y :: ys => match py st y with
    | some z => if z.plain && decide (min z.depth p.depth ≤ 100) then (if PyData.eqv z p then some (some 0) else (findIx st p ys).map (Option.map (· + 1))) else none
    | none => none
def bmD (st : Store) : BM → D → List D → Option D
  | .join, .str sep, [d] => (seqD st d).bind fun xs => (strsD xs).bind fun ss => if joinOk sep ss && decide ((Txt.join sep ss).length ≤ sizeLine) then some (.str (Txt.join sep ss)) else none
  | .split, .str x, [.str y] => if 0 < y.length ∧ x.length + 2 ≤ sizeLine ∧ (Txt.split x y).length ≤ sizeLine ∧ ∀ z ∈ Txt.split x y, z.length ≤ sizeLine then some (.lst ((Txt.split x y).map .str)) else none
  | .upper, .str x, [] => if x.length ≤ 5592405 ∧ (Txt.upper x).length ≤ sizeLine then some (.str (Txt.upper x)) else none
  | .rstrip, .str x, [] => if (Txt.rstrip x).length ≤ sizeLine then some (.str (Txt.rstrip x)) else none
  | .count, .str x, [.str y] => some (.int (Txt.count x y))
  | .tindex, .tup xs, [.str y] => (strsD xs).bind fun ss => if y ∈ ss then some (.int (ss.idxOf y)) else none
  | .sindex, .str x, [.str y] => match Builtin.Str.occurrences x y 0 x.length 1 with
    | i :: _ => some (.int i)
    | [] => none
  | _, _, _ => none

/-- has the receiver such a method? -/
def bmOn (st : Store) : BM → D → Bool
  | .tindex, .tup _ => true
  | .tindex, _ => false
  | .lindex, d => (lstD st d).isSome
  | _, .str _ => true
  | _, _ => false
/-! ### what is walked, targets -/
def enumL (i : Nat) : List D → List D
  | [] => []
  | x :: xs => .tup [.int i, x] :: enumL (i + 1) xs
def zipL : List D → List D → List D
  | x :: xs, y :: ys => .tup [x, y] :: zipL xs ys
  | _, _ => []
def rngL (lo : Int) : Nat → List D
  | 0 => []
  | n + 1 => .int lo :: rngL (lo + 1) n
def walkD (st : Store) : IK → List D → Option (List D)
  | .val, [.str x] => some (x.cps.toList.map fun c => .str ⟨#[c]⟩)
  | .val, [d] => seqD st d
  | .enum, [d] => (lsqD st d).map (enumL 0)
  | .zip2, [.tup xs, .tup ys] => some (zipL xs ys)
  | .zip2, [a, b] => (lsqD st a).bind fun xs => (lsqD st b).map fun ys => zipL xs ys
  | .rng1, [.int n] => if -(2 ^ 62) ≤ n ∧ n < 2 ^ 62 then some (rngL 0 n.toNat) else none
  | .rng2, [.int a, .int b] => if -(2 ^ 62) ≤ a ∧ a < 2 ^ 62 ∧ -(2 ^ 62) ≤ b ∧ b < 2 ^ 62 then some (rngL a (b - a).toNat) else none
  | _, _ => none
mutual
def asgT (st : Store) : Tg → D → Env → Option Env
  | .nm i, d, env => some (env.set i (some d))
  | .tup ts, d, env => match d with
    | .tup xs => if xs.length = ts.length then asgTs st ts xs env else none
    | _ => none
def asgTs (st : Store) : List Tg → List D → Env → Option Env
  | [], _, env => some env
  | t :: ts, x :: xs, env => match asgT st t x env with
    | some env => asgTs st ts xs env
    | none => none
  | _ :: _, [], _ => none
end
def wipeE (env : Env) : List Nat → Env
  | [] => env
  | v :: vs => (wipeE env vs).set v none

/-! ### store -/
mutual
def D.mx : D → Nat
  | .non => 0
  | .bl _ => 0
  | .int _ => 0
  | .str _ => 0
  | .tup xs => D.mxs xs
  | .lst xs => D.mxs xs
  | .dct _ vs => D.mxs vs
  | .scr xs => D.mxs xs
  | .ref k => k + 1
def D.mxs : List D → Nat
  | [] => 0
  | x :: xs => max (D.mx x) (D.mxs xs)
end
def MO.mx : MO → Nat
  | .lst xs => D.mxs xs
  | .dct _ _ vs => D.mxs vs
  | .ins _ fs => D.mxs (fs.map (·.2))
  | .exc _ fs => D.mxs (fs.map (·.2))
/-- all that a call has made may go -/
def Loose (st0 st : Store) (d : List D) : Prop := D.mxs d ≤ st0.length ∧ ∀ k, k < st0.length → st[k]? = st0[k]? ∨ ∃ o, st[k]? = some o ∧ o.mx ≤ st0.length
open Classical in
noncomputable def gc (st0 : Store) (d : List D) (st : Store) : Store := if Loose st0 st d then st.take st0.length else st
noncomputable def retOf (st0 : Store) (r : SR) : R D := match r with
  | .nx _ st => .ok .non (gc st0 [.non] st)
  | .rt d st => .ok d (gc st0 [d] st)
  | .ex c fs _ st => .ex c fs (gc st0 (fs.map (·.2)) st)
  | .stk => .stk

/-- what a text leans on: constants, classes -/
structure Tx where
  con : Nat → Option D
  sub : Nat → Nat → Option Bool
  ve : Nat → Option Bool
  /-- an error's fields, from its arguments -/
  exf : Nat → List D → Option (List (Nat × D))
  ini : Nat → Option Nat
abbrev CF := Nat → List D → Store → R D

def setF (f : Nat) (d : D) : List (Nat × D) → List (Nat × D)
  | [] => [(f, d)]
  | (g, x) :: r => if g = f then (g, d) :: r else (g, x) :: setF f d r

section
variable (Γ : Tx) (cf : CF)
/-- a comprehension's turns -/
def keepL (r : Option D) (rs : List D) : List D := match r with
  | some d => d :: rs
  | none => rs
def lcL (f : D → Store → R (Option D)) : List D → Store → R (List D)
  | [], st => .ok [] st
  | x :: xs, st => (f x st).bind fun r st => (lcL f xs st).bind fun rs st => .ok (keepL r rs) st
def lcTurn (o : Option Env) (c : Env → Store → R Bool) (e : Env → Store → R D) (st : Store) : R (Option D) := match o with
  | some env => (c env st).bind fun r st => if r = true then (e env st).bind fun d st => .ok (some d) st else .ok none st
  | none => .stk
/-- the walked objects stand as they stood -/
def refsOf : List D → List Nat
  | [] => []
  | .ref k :: r => k :: refsOf r
  | _ :: r => refsOf r
def Still (ks : List Nat) (st0 st : Store) : Prop := ∀ k ∈ ks, st[k]? = st0[k]?
open Classical in
noncomputable def still (ks : List Nat) (st0 : Store) (st : Store) : Bool := decide (Still ks st0 st)
open Classical in
theorem still_ok {ks : List Nat} {st0 st : Store} : still ks st0 st = true ↔ Still ks st0 st := by
  unfold still
  exact decide_eq_true_iff
noncomputable def lcEnd (ks : List Nat) (st0 : Store) (r : R (List D)) : R D := match r with
  | .ok rs st => if still ks st0 st = true ∧ rs.length ≤ sizeLine then .ok (.lst rs) st else .stk
  | _ => .stk
def testR (r : R D) : R Bool := r.bind fun d st => match d with
  | .bl b => .ok b st
  | _ => .stk
def appD (st : Store) (x d : D) : R D := match x with
  | .ref k => match st[k]? with
    | some (.lst xs) => if xs.length < sizeLine then .ok .non (st.set k (.lst (xs ++ [d]))) else .stk
    | _ => .stk
  | _ => .stk
mutual
noncomputable def ev : E → Env → Store → R D
  | .nul, _, _ => .stk
  | .non, _, st => .ok .non st
  | .bl b, _, st => .ok (.bl b) st
  | .int i, _, st => .ok (.int i) st
  | .str x, _, st => .ok (.str x) st
  | .var i, env, st => match env[i]? with
    | some (some d) => .ok d st
    | _ => .stk
  | .con i, _, st => .of (Γ.con i) st
  | .bin o a b, env, st => (ev a env st).bind fun x st => (ev b env st).bind fun y st => .of (binD st o x y) st
  | .neg a, env, st => (ev a env st).bind fun x st => match x with
    | .int i => .ok (.int (-i)) st
    | _ => .stk
  | .cmp o a b, env, st => (ev a env st).bind fun x st => (ev b env st).bind fun y st => .of ((cmpD st o x y).map .bl) st
  | .chn o p a b c, env, st => (ev a env st).bind fun x st => (ev b env st).bind fun y st => (R.of (cmpD st o x y) st).bind fun r st =>
      if r = true then (ev c env st).bind fun z st => .of ((cmpD st p y z).map .bl) st else .ok (.bl false) st
  | .chn3 o p q a b c d, env, st => (ev a env st).bind fun x st => (ev b env st).bind fun y st => (R.of (cmpD st o x y) st).bind fun r st =>
      if r = true then (ev c env st).bind fun z st => (R.of (cmpD st p y z) st).bind fun r st =>
        if r = true then (ev d env st).bind fun w st => .of ((cmpD st q z w).map .bl) st else .ok (.bl false) st
      else .ok (.bl false) st
  | .isn a, env, st => (ev a env st).bind fun x st => .ok (.bl x.isNon) st
  | .notn a, env, st => (ev a env st).bind fun x st => .ok (.bl (!x.isNon)) st
  | .and es, env, st => (evAnd es env st).bind fun r st => .ok (.bl r) st
  | .or es, env, st => (evOr es env st).bind fun r st => .ok (.bl r) st
  | .not a, env, st => (testR (ev a env st)).bind fun r st => .ok (.bl (!r)) st
  | .ite c a b, env, st => (testR (ev c env st)).bind fun r st => if r = true then ev a env st else ev b env st
  | .tup es, env, st => (evs es env st).bind fun ds st => if ds.length ≤ sizeLine then .ok (.tup ds) st else .stk
  | .lst es, env, st => (evs es env st).bind fun ds st => if ds.length ≤ sizeLine then .ok (.lst ds) st else .stk
  | .mut a, env, st => (ev a env st).bind fun d st => match d with
    | .lst ds => .ok (.ref st.length) (st ++ [.lst ds])
    | .dct ks vs => .ok (.ref st.length) (st ++ [.dct false ks vs])
    | _ => .stk
  | .dct es, env, st => match es with
    | [] => .ok (.dct [] []) st
    | _ => .stk
  | .idx a i, env, st => (ev a env st).bind fun x st => (ev i env st).bind fun y st => .of (idxD st x y) st
  | .slc a lo hi, env, st => (ev a env st).bind fun x st => (if lo.nulB = true then .ok none st else (ev lo env st).bind fun d st => .of (bnd d) st : R (Option Int)).bind fun l st =>
      (if hi.nulB = true then .ok none st else (ev hi env st).bind fun d st => .of (bnd d) st : R (Option Int)).bind fun h st => .of (slcD st x l h) st
  | .rev a, env, st => (ev a env st).bind fun x st => .of ((lstD st x).map fun xs => .lst xs.reverse) st
  | .fld a f, env, st => (ev a env st).bind fun x st => match x with
    | .ref k => match st[k]? with
      | some (.ins _ fs) => .of (fs.lookup f) st
      | some (.exc _ fs) => .of (fs.lookup f) st
      | _ => .stk
    | _ => .stk
  | .call f es, env, st => (evs es env st).bind fun ds st => cf f ds st
  | .mth c a f es, env, st => (ev a env st).bind fun x st => match x with
    | .ref k => match st[k]? with
      | some (.ins c' _) => if c' = c then (evs es env st).bind fun ds st => cf f (.ref k :: ds) st else .stk
      | _ => .stk
    | _ => .stk
  | .new c es, env, st => (evs es env st).bind fun ds st => match Γ.ini c with
    | some f => (cf f (.ref st.length :: ds) (st ++ [.ins c []])).bind fun r st' => match r with
      | .non => .ok (.ref st.length) st'
      | _ => .stk
    | none => match Γ.exf c ds with
      | some fs => .ok (.ref st.length) (st ++ [.exc c fs])
      | none => .stk
  | .bi b es, env, st => (evs es env st).bind fun ds st => .of (biD st b ds) st
  | .bm m a es, env, st => (ev a env st).bind fun x st => if bmOn st m x = true then (evs es env st).bind fun ds st => .of (bmD st m x ds) st else .stk
  | .isi a t, env, st => (ev a env st).bind fun x st => .of ((isiD Γ.sub Γ.ve st x t).map .bl) st
  | .fst es, env, st => (evs es env st).bind fun ds st => match strDs ds with
    | some ss => if (ss.foldl (· + ·.length) 0) ≤ sizeLine then .ok (.str (ss.foldl (· ++ ·) Str.empty)) st else .stk
    | none => .stk
  | .lc own t k its c e, env, st => (evs its env st).bind fun ds st => match walkD st k ds with
    | some xs => lcEnd (refsOf ds) st (lcL (fun x st' => if still (refsOf ds) st st' = true then lcTurn (asgT st' t x (wipeE env own)) (fun env' st' => if c.nulB = true then .ok true st' else testR (ev c env' st')) (fun env' st' => ev e env' st') st' else .stk) xs st)
    | none => .stk
  | .app a e, env, st => (ev a env st).bind fun x st => if (lstD st x).isSome = true then (ev e env st).bind fun d st => appD st x d else .stk
  | .ext a e, env, st => (ev a env st).bind fun x st => (ev e env st).bind fun d st => match x, seqD st d with
    | .ref k, some ys => match st[k]? with
      | some (.lst xs) => if xs.length + ys.length ≤ sizeLine ∧ refsOf [d] ≠ [k] then .ok .non (st.set k (.lst (xs ++ ys))) else .stk
      | _ => .stk
    | _, _ => .stk
  | .pop a, env, st => (ev a env st).bind fun x st => match x with
    | .ref k => match st[k]? with
      | some (.lst xs) => match xs.getLast? with
        | some d => .ok d (st.set k (.lst xs.dropLast))
        | none => .stk
      | _ => .stk
    | _ => .stk
noncomputable def evs : List E → Env → Store → R (List D)
  | [], _, st => .ok [] st
  | e :: es, env, st => (ev e env st).bind fun d st => (evs es env st).bind fun ds st => .ok (d :: ds) st
noncomputable def evAnd : List E → Env → Store → R Bool
  | [], _, st => .ok true st
  | e :: es, env, st => (testR (ev e env st)).bind fun r st => if r = true then evAnd es env st else .ok false st
noncomputable def evOr : List E → Env → Store → R Bool
  | [], _, st => .ok false st
  | e :: es, env, st => (testR (ev e env st)).bind fun r st => if r = true then .ok true st else evOr es env st
end
/-! ### statements -/
def loopL (f : D → Env → Store → SR) (ok : Store → Bool) : List D → Env → Store → SR
  | [], env, st => if ok st = true then .nx env st else .stk
  | x :: xs, env, st => if ok st = true then (f x env st).bind fun env st => loopL f ok xs env st else .stk
def loopW (c : Env → Store → R Bool) (b : Env → Store → SR) : Nat → Env → Store → SR
  | 0, _, _ => .stk
  | n + 1, env, st => (c env st).s env fun r st => if r = true then (b env st).bind fun env st => loopW c b n env st else .nx env st
mutual
noncomputable def run : S → Env → Store → SR
  | .asg t e, env, st => (ev Γ cf e env st).s env fun d st => match asgT st t d env with
    | some env => .nx env st
    | none => .stk
  | .sfld a f e, env, st => (ev Γ cf e env st).s env fun d st => (ev Γ cf a env st).s env fun x st => match x with
    | .ref k => match st[k]? with
      | some (.ins c fs) => .nx env (st.set k (.ins c (setF f d fs)))
      | _ => .stk
    | _ => .stk
  | .ssub a i e, env, st => (ev Γ cf e env st).s env fun d st => (ev Γ cf a env st).s env fun x st => (ev Γ cf i env st).s env fun y st => match x, y with
    | .ref k, .int z => match st[k]? with
      | some (.lst xs) => match L2.ixN xs.length z with
        | some j => .nx env (st.set k (.lst (xs.set j d)))
        | none => .stk
      | _ => .stk
    | _, _ => .stk
  | .aug i o e, env, st => match env[i]? with
    | some (some x) => (ev Γ cf e env st).s env fun d st => match binD st o x d with
      | some r => .nx (env.set i (some r)) st
      | none => .stk
    | _ => .stk
  | .augf a f o e, env, st => (ev Γ cf a env st).s env fun x st => match x with
    | .ref k => match st[k]? with
      | some (.ins c fs) => match fs.lookup f with
        | some v => (ev Γ cf e env st).s env fun d st => match binD st o v d, st[k]? with
          | some r, some (.ins c fs) => .nx env (st.set k (.ins c (setF f r fs)))
          | _, _ => .stk
        | none => .stk
      | _ => .stk
    | _ => .stk
  | .ite c a b, env, st => (testR (ev Γ cf c env st)).s env fun r st => if r = true then runs a env st else runs b env st
  | .for t k its body, env, st => (evs Γ cf its env st).s env fun ds st => match walkD st k ds with
    | some xs => loopL (fun x env st => match asgT st t x env with
        | some env => runs body env st
        | none => .stk) (fun st' => still (refsOf ds) st st') xs env st
    | none => .stk
  | .whl c body, env, st => loopW (fun env st => testR (ev Γ cf c env st)) (fun env st => runs body env st) 1000000 env st
  | .ret e, env, st => (ev Γ cf e env st).s env fun d st => .rt d st
  | .exp e, env, st => (ev Γ cf e env st).s env fun _ st => .nx env st
  | .pass, env, st => .nx env st
  | .raise c es, env, st => (evs Γ cf es env st).s env fun ds st => match Γ.exf c ds with
    | some fs => .ex c fs env st
    | none => .stk
  | .tri body c i h, env, st => match runs body env st with
    | .ex c' fs env st => match Γ.sub c' c with
      | some true => (runs h (env.set i (some (.ref st.length))) (st ++ [.exc c' fs])).bind fun env st => .nx (env.set i none) st
      | some false => .ex c' fs env st
      | none => .stk
    | r => r
noncomputable def runs : List S → Env → Store → SR
  | [], env, st => .nx env st
  | s :: ss, env, st => (run s env st).bind fun env st => runs ss env st
end
end

structure FnDef where
  np : Nat
  ns : Nat
  body : List S
def startE (ns : Nat) (ds : List D) : Env := ds.map some ++ List.replicate (ns - ds.length) none
/-- a call, so many levels deep -/
noncomputable def callN (Γ : Tx) (fn : Nat → Option FnDef) : Nat → CF
  | 0, _, _, _ => .stk
  | n + 1, f, ds, st => match fn f with
    | some fd => if ds.length = fd.np then retOf st (runs Γ (callN Γ fn n) fd.body (startE fd.ns ds) st) else .stk
    | none => .stk
end Cip

/-! Cip2: how the values and the store lie in the heap. -/
namespace Cip
open PySem PySem.Spec PyProof.Rows L2

/-- where the classes stand, how the fields are called -/
structure Rz where
  K : PySem.W.Frag
  cls : Nat → Addr
  fnm : Nat → Str

/-- where the store's objects stand, and what no value leads to -/
structure Fi where
  ref : List Addr
  hid : List Addr
def Fi.push (φ : Fi) (p : Addr) : Fi := ⟨φ.ref ++ [p], φ.hid⟩
def Fi.no (φ : Fi) (a : Addr) : Prop := a ∉ φ.ref ∧ a ∉ φ.hid
/-- a list that no one writes: tracked and not of the store, or one of the written part -/
def SqF (K : PySem.W.Frag) (φ : Fi) (H : Hp) (a : Addr) (xs : List V) : Prop :=
  (Rd H a (.lst xs) ∧ φ.no a) ∨
    ∃ (o : Obj) (its : Array Value) (n : Nat), K.lookup a = some o ∧ o.cls = .type "list" ∧ o.dict = none ∧ o.data = .seq its n ∧ its.size ≤ sizeLine ∧ Vals xs its.toList
theorem SqF.sq {K : PySem.W.Frag} {φ : Fi} {H : Hp} {a : Addr} {xs : List V} (h : SqF K φ H a xs) : SqL K H a xs := h.elim (fun h => .inl h.1) .inr

section
variable (K : PySem.W.Frag) (φ : Fi) (H : Hp)
mutual
def Rep : D → V → Prop
  | .non, v => v = .non
  | .bl b, v => v = .bl b
  | .int i, v => v = .int i
  | .str x, v => v = .str x ∧ x.length ≤ sizeLine
  | .tup xs, v => ∃ a vs, v = .ref a ∧ SqT K H a vs ∧ xs.length ≤ sizeLine ∧ Reps xs vs
  | .lst xs, v => ∃ a vs, v = .ref a ∧ H a = some (.lst vs) ∧ φ.no a ∧ xs.length ≤ sizeLine ∧ Reps xs vs
  | .scr xs, v => ∃ a vs, v = .ref a ∧ SqF K φ H a vs ∧ xs.length ≤ sizeLine ∧ Reps xs vs
  | .dct ks ws, v => ∃ a kvs, v = .ref a ∧ H a = some (.dK kvs) ∧ φ.no a ∧ kvs.map (·.1) = ks ∧ Reps ws (kvs.map (·.2))
  | .ref k, v => ∃ a, φ.ref[k]? = some a ∧ v = .ref a
def Reps : List D → List V → Prop
  | [], vs => vs = []
  | x :: xs, vs => ∃ v r, vs = v :: r ∧ Rep x v ∧ Reps xs r
end
end

/-- no tuple stands there -/
def NoTup (H : Hp) (b : Addr) : Prop := ∀ xs, ¬ Rd H b (.tup xs)
/-- what a step leaves: new objects behind the old ones, what is not of the store as it was -/
structure Ext (φ : Fi) (H : Hp) (φ' : Fi) (H' : Hp) : Prop where
  more : ∃ ψ, φ'.ref = φ.ref ++ ψ ∧ ∀ a ∈ ψ, H a = none
  hid : φ'.hid = φ.hid
  keep : ∀ a o, H a = some o → a ∉ φ.ref → H' a = some o

section
variable {K : PySem.W.Frag} {φ φ' : Fi} {H H' : Hp}
theorem Ext.refl : Ext φ H φ H := ⟨⟨[], by simp, by simp⟩, rfl, fun _ _ h _ => h⟩
theorem Ext.notin (e : Ext φ H φ' H') {a : Addr} {o : HO} (h : H a = some o) (n : a ∉ φ.ref) : a ∉ φ'.ref := by
  obtain ⟨ψ, hφ, hn⟩ := e.more
  intro m
  rw [hφ] at m
  rcases List.mem_append.mp m with m | m
  · exact n m
  · rw [hn a m] at h; cases h
theorem Ext.no (e : Ext φ H φ' H') {a : Addr} {o : HO} (h : H a = some o) (n : φ.no a) : φ'.no a := ⟨e.notin h n.1, by rw [e.hid]; exact n.2⟩
theorem Ext.sqt (e : Ext φ H φ' H') (nt : ∀ b ∈ φ.ref, NoTup H b) {a : Addr} {vs : List V} (h : SqT K H a vs) : SqT K H' a vs := by
  rcases h with h | h
  · have n : a ∉ φ.ref := fun m => nt a m vs h
    rcases h with h | ⟨o, h⟩
    · exact .inl (.inl (e.keep _ _ h n))
    · exact .inl (.inr ⟨o, e.keep _ _ h n⟩)
  · exact .inr h
theorem Ext.sqf (e : Ext φ H φ' H') {a : Addr} {vs : List V} (h : SqF K φ H a vs) : SqF K φ' H' a vs := by
  rcases h with ⟨h | ⟨o, h⟩, n⟩ | h
  · exact .inl ⟨.inl (e.keep _ _ h n.1), e.no h n⟩
  · exact .inl ⟨.inr ⟨o, e.keep _ _ h n.1⟩, e.no h n⟩
  · exact .inr h
mutual
theorem Rep.ext (e : Ext φ H φ' H') (nt : ∀ b ∈ φ.ref, NoTup H b) : ∀ (d : D) (v : V), Rep K φ H d v → Rep K φ' H' d v
  | .non, _, h => h
  | .bl _, _, h => h
  | .int _, _, h => h
  | .str _, _, h => h
  | .tup xs, _, ⟨a, vs, h1, h2, h3, h4⟩ => ⟨a, vs, h1, e.sqt nt h2, h3, Reps.ext e nt xs vs h4⟩
  | .lst xs, _, ⟨a, vs, h1, h2, h3, h4, h5⟩ => ⟨a, vs, h1, e.keep _ _ h2 h3.1, e.no h2 h3, h4, Reps.ext e nt xs vs h5⟩
  | .scr xs, _, ⟨a, vs, h1, h2, h4, h5⟩ => ⟨a, vs, h1, e.sqf h2, h4, Reps.ext e nt xs vs h5⟩
  | .dct ks ws, _, ⟨a, kvs, h1, h2, h3, h4, h5⟩ => ⟨a, kvs, h1, e.keep _ _ h2 h3.1, e.no h2 h3, h4, Reps.ext e nt ws _ h5⟩
  | .ref k, _, ⟨a, h1, h2⟩ => ⟨a, by
      obtain ⟨ψ, hφ, _⟩ := e.more
      rw [hφ, List.getElem?_append_left (List.getElem?_eq_some_iff.mp h1).1]
      exact h1, h2⟩
theorem Reps.ext (e : Ext φ H φ' H') (nt : ∀ b ∈ φ.ref, NoTup H b) : ∀ (ds : List D) (vs : List V), Reps K φ H ds vs → Reps K φ' H' ds vs
  | [], _, h => h
  | x :: xs, _, ⟨v, r, h1, h2, h3⟩ => ⟨v, r, h1, Rep.ext e nt x v h2, Reps.ext e nt xs r h3⟩
end
theorem Reps.length : ∀ {ds : List D} {vs : List V}, Reps K φ H ds vs → vs.length = ds.length
  | [], _, h => by cases h; rfl
  | _ :: _, _, ⟨v, r, h1, h2, h3⟩ => by subst h1; simp [Reps.length h3]
theorem Reps.get : ∀ {ds : List D} {vs : List V} {i : Nat} {d : D}, Reps K φ H ds vs → ds[i]? = some d → ∃ v, vs[i]? = some v ∧ Rep K φ H d v
  | [], _, _, _, _, h => by simp at h
  | x :: xs, _, 0, d, ⟨v, r, h1, h2, h3⟩, h => by
    subst h1; simp at h; subst h; exact ⟨v, rfl, h2⟩
  | x :: xs, _, i + 1, d, ⟨v, r, h1, h2, h3⟩, h => by
    subst h1; simp at h; simpa using Reps.get h3 h
theorem Reps.get' : ∀ {ds : List D} {vs : List V} {i : Nat} {v : V}, Reps K φ H ds vs → vs[i]? = some v → ∃ d, ds[i]? = some d ∧ Rep K φ H d v
  | [], _, _, _, h', h => by cases h'; simp at h
  | x :: xs, _, 0, d, ⟨v, r, h1, h2, h3⟩, h => by
    subst h1; simp at h; subst h; exact ⟨x, rfl, h2⟩
  | x :: xs, _, i + 1, d, ⟨v, r, h1, h2, h3⟩, h => by
    subst h1; simp at h; simpa using Reps.get' h3 h
theorem Reps.append : ∀ {ds es : List D} {vs ws : List V}, Reps K φ H ds vs → Reps K φ H es ws → Reps K φ H (ds ++ es) (vs ++ ws)
  | [], _, _, _, h, h' => by cases h; exact h'
  | x :: xs, _, _, _, ⟨v, r, h1, h2, h3⟩, h' => ⟨v, _, by subst h1; rfl, h2, Reps.append h3 h'⟩
theorem Reps.take : ∀ {ds : List D} {vs : List V} (n : Nat), Reps K φ H ds vs → Reps K φ H (ds.take n) (vs.take n)
  | _, _, 0, _ => rfl
  | [], _, n + 1, h => by cases h; rfl
  | x :: xs, _, n + 1, ⟨v, r, h1, h2, h3⟩ => ⟨v, r.take n, by subst h1; rfl, h2, Reps.take n h3⟩
theorem Reps.drop : ∀ {ds : List D} {vs : List V} (n : Nat), Reps K φ H ds vs → Reps K φ H (ds.drop n) (vs.drop n)
  | _, _, 0, h => h
  | [], _, n + 1, h => by cases h; rfl
  | x :: xs, _, n + 1, ⟨v, r, h1, h2, h3⟩ => by subst h1; exact Reps.drop n h3
theorem Reps.set : ∀ {ds : List D} {vs : List V} (n : Nat) {d : D} {v : V}, Rep K φ H d v → Reps K φ H ds vs → Reps K φ H (ds.set n d) (vs.set n v)
  | [], _, _, _, _, _, h => by cases h; rfl
  | x :: xs, _, 0, _, _, h0, ⟨v, r, h1, h2, h3⟩ => ⟨_, r, by subst h1; rfl, h0, h3⟩
  | x :: xs, _, n + 1, _, _, h0, ⟨v, r, h1, h2, h3⟩ => ⟨v, _, by subst h1; rfl, h2, Reps.set n h0 h3⟩
theorem Reps.rev : ∀ {ds : List D} {vs : List V}, Reps K φ H ds vs → Reps K φ H ds.reverse vs.reverse
  | [], _, h => by cases h; rfl
  | x :: xs, _, ⟨v, r, h1, h2, h3⟩ => by
    subst h1
    rw [List.reverse_cons, List.reverse_cons]
    exact Reps.append (Reps.rev h3) ⟨v, [], rfl, h2, rfl⟩
theorem Reps.rep {ds : List D} {vs : List V} (h : Reps K φ H ds vs) : ∀ n : Nat, Reps K φ H (List.replicate n ds).flatten (List.replicate n vs).flatten
  | 0 => rfl
  | n + 1 => by
    rw [List.replicate_succ, List.replicate_succ, List.flatten_cons, List.flatten_cons]
    exact Reps.append h (Reps.rep h n)
end

/-- an own error at a -/
def XO (cls : Value) (d : Option Addr) (a : Addr) : HO := .ext fun h => ∃ (oe : Obj) (vs : Array Value), h.get? a = some oe ∧ Zc cls d oe ∧ oe.data = .fields vs

section
variable (T : Rz) (φ : Fi) (H : Hp)
/-- an error's fields in its own dict -/
def XF (fs : List (Nat × D)) (d : Option Addr) : Prop := fs ≠ [] → ∃ dd gs, d = some dd ∧ H dd = some (.xd gs) ∧ φ.no dd ∧ gs.map (·.1) = fs.map (fun p => T.fnm p.1) ∧ Reps T.K φ H (fs.map (·.2)) (gs.map (·.2))
def ORel : MO → Addr → Prop
  | .lst xs, a => ∃ vs, H a = some (.lst vs) ∧ xs.length ≤ sizeLine ∧ Reps T.K φ H xs vs
  | .dct lk ks ws, a => ∃ kvs, (if lk = true then ∃ o, H a = some (.frz o (.dK kvs)) else H a = some (.dK kvs)) ∧ kvs.map (·.1) = ks ∧ Reps T.K φ H ws (kvs.map (·.2))
  | .ins c fs, a => ∃ dx gs, H a = some (.ins (T.cls c) dx gs) ∧ gs.map (·.1) = fs.map (fun p => T.fnm p.1) ∧ Reps T.K φ H (fs.map (·.2)) (gs.map (·.2))
  | .exc c fs, a => ∃ d, H a = some (XO (.ref (T.cls c)) d a) ∧ XF T φ H fs d
structure Rel (st : Store) : Prop where
  len : φ.ref.length = st.length
  nd : φ.ref.Nodup
  at_ : ∀ (k : Nat) (o : MO), st[k]? = some o → ∃ a, φ.ref[k]? = some a ∧ ORel T φ H o a
  hid : ∀ a ∈ φ.hid, a ∉ φ.ref ∧ ∃ xs, H a = some (.lst xs)
end

section
variable {T : Rz} {φ φ' φ'' : Fi} {H H' H'' : Hp} {st st' : Store}
theorem ORel.noTup {o : MO} {a : Addr} (h : ORel T φ H o a) : NoTup H a := by
  intro xs r
  have key : ∀ u, H a = some u → (∀ ys, u ≠ .tup ys) → (∀ ob ys, u ≠ .frz ob (.tup ys)) → False := fun u e n1 n2 => by
    rcases r with r | ⟨ob, r⟩
    · rw [e] at r; exact n1 _ (Option.some.inj r)
    · rw [e] at r; exact n2 _ _ (Option.some.inj r)
  cases o with
  | lst _ => obtain ⟨_, e, _⟩ := h; exact key _ e (by simp) (by simp)
  | dct lk _ _ =>
    obtain ⟨_, e, _⟩ := h
    cases lk with
    | true => simp only [if_true] at e; obtain ⟨_, e⟩ := e; exact key _ e (by simp) (by simp)
    | false => simp only [Bool.false_eq_true, if_false] at e; exact key _ e (by simp) (by simp)
  | ins _ _ => obtain ⟨_, _, e, _⟩ := h; exact key _ e (by simp) (by simp)
  | exc _ _ => obtain ⟨_, e, _⟩ := h; exact key _ e (by simp [XO]) (by simp [XO])
theorem ORel.there {o : MO} {a : Addr} (h : ORel T φ H o a) : ∃ u, H a = some u := by
  cases o with
  | lst _ => obtain ⟨_, e, _⟩ := h; exact ⟨_, e⟩
  | dct lk _ _ =>
    obtain ⟨_, e, _⟩ := h
    cases lk with
    | true => simp only [if_true] at e; obtain ⟨_, e⟩ := e; exact ⟨_, e⟩
    | false => simp only [Bool.false_eq_true, if_false] at e; exact ⟨_, e⟩
  | ins _ _ => obtain ⟨_, _, e, _⟩ := h; exact ⟨_, e⟩
  | exc _ _ => obtain ⟨_, e, _⟩ := h; exact ⟨_, e⟩
theorem Rel.mem (r : Rel T φ H st) {a : Addr} (h : a ∈ φ.ref) : ∃ (k : Nat) (o : MO), st[k]? = some o ∧ φ.ref[k]? = some a ∧ ORel T φ H o a := by
  obtain ⟨k, hk⟩ := List.getElem?_of_mem h
  have hl : k < st.length := by rw [← r.len]; exact (List.getElem?_eq_some_iff.mp hk).1
  obtain ⟨a', h1, h2⟩ := r.at_ k st[k] (List.getElem?_eq_getElem hl)
  rw [hk] at h1; cases h1
  exact ⟨k, _, List.getElem?_eq_getElem hl, hk, h2⟩
theorem Rel.nt (r : Rel T φ H st) : ∀ b ∈ φ.ref, NoTup H b := fun b hb => let ⟨_, _, _, _, h⟩ := r.mem hb; h.noTup
theorem Rel.has (r : Rel T φ H st) {a : Addr} (h : a ∈ φ.ref) : ∃ u, H a = some u := let ⟨_, _, _, _, h⟩ := r.mem h; h.there
theorem Rel.fresh (r : Rel T φ H st) {p : Addr} (h : H p = none) : φ.no p := by
  refine ⟨fun m => ?_, fun m => ?_⟩
  · obtain ⟨u, e⟩ := r.has m
    rw [h] at e
    cases e
  · obtain ⟨_, u, e⟩ := r.hid p m
    rw [h] at e
    cases e
theorem Rel.rep (r : Rel T φ H st) (e : Ext φ H φ' H') {d : D} {v : V} (h : Rep T.K φ H d v) : Rep T.K φ' H' d v := Rep.ext e r.nt d v h
theorem Rel.reps (r : Rel T φ H st) (e : Ext φ H φ' H') {d : List D} {v : List V} (h : Reps T.K φ H d v) : Reps T.K φ' H' d v := Reps.ext e r.nt d v h
theorem Ext.trans (e : Ext φ H φ' H') (r : Rel T φ H st) (f : Ext φ' H' φ'' H'') (r' : Rel T φ' H' st') : Ext φ H φ'' H'' := by
  obtain ⟨ψ, hψ, nψ⟩ := e.more
  obtain ⟨χ, hχ, nχ⟩ := f.more
  refine ⟨⟨ψ ++ χ, by rw [hχ, hψ, List.append_assoc], fun a ha => ?_⟩, f.hid.trans e.hid, fun a o h n => f.keep a o (e.keep a o h n) (e.notin h n)⟩
  rcases List.mem_append.mp ha with ha | ha
  · exact nψ a ha
  · cases q : H a with
    | none => rfl
    | some o =>
      by_cases m : a ∈ φ.ref
      · obtain ⟨u, hu⟩ := r'.has (a := a) (by rw [hψ]; exact List.mem_append_left _ m)
        rw [nχ a ha] at hu; cases hu
      · have := e.keep a o q m
        rw [nχ a ha] at this; cases this
/-- what is new later is new now -/
theorem Ext.back (e : Ext φ H φ' H') (r' : Rel T φ' H' st') {p : Addr} (h : H' p = none) : H p = none := by
  cases q : H p with
  | none => rfl
  | some o =>
    by_cases m : p ∈ φ.ref
    · obtain ⟨ψ, hψ, _⟩ := e.more
      obtain ⟨u, hu⟩ := r'.has (a := p) (by rw [hψ]; exact List.mem_append_left _ m)
      rw [h] at hu; cases hu
    · have := e.keep p o q m
      rw [h] at this; cases this
theorem XF.ext (e : Ext φ H φ' H') (nt : ∀ b ∈ φ.ref, NoTup H b) {fs : List (Nat × D)} {d : Option Addr} (h : XF T φ H fs d) : XF T φ' H' fs d := fun hn => by
  obtain ⟨dd, gs, h1, h2, h3, h4, h5⟩ := h hn
  exact ⟨dd, gs, h1, e.keep _ _ h2 h3.1, e.no h2 h3, h4, Reps.ext e nt _ _ h5⟩
/-- an object of the store that stands as it stood -/
theorem ORel.ext (e : Ext φ H φ' H') (nt : ∀ b ∈ φ.ref, NoTup H b) {o : MO} {a : Addr} (ha : H' a = H a) (h : ORel T φ H o a) : ORel T φ' H' o a := by
  cases o with
  | lst _ => obtain ⟨vs, h1, h2, h3⟩ := h; exact ⟨vs, ha.trans h1, h2, Reps.ext e nt _ _ h3⟩
  | dct lk _ _ => obtain ⟨kvs, h1, h2, h3⟩ := h; exact ⟨kvs, by rw [ha]; exact h1, h2, Reps.ext e nt _ _ h3⟩
  | ins _ _ => obtain ⟨dx, gs, h1, h2, h3⟩ := h; exact ⟨dx, gs, ha.trans h1, h2, Reps.ext e nt _ _ h3⟩
  | exc _ _ => obtain ⟨d, h1, h2⟩ := h; exact ⟨d, ha.trans h1, h2.ext e nt⟩
/-- a new thing that is not of the store -/
theorem ext_new {p : Addr} {o : HO} (hp : H p = none) : Ext φ H φ (upd H p o) :=
  ⟨⟨[], by simp, by simp⟩, rfl, fun a u h _ => by rw [upd_ne (ne_of_none h hp)]; exact h⟩
theorem Rel.new (r : Rel T φ H st) {p : Addr} {o : HO} (hp : H p = none) : Rel T φ (upd H p o) st :=
  ⟨r.len, r.nd, fun k m h => by
    obtain ⟨a, h1, h2⟩ := r.at_ k m h
    obtain ⟨u, hu⟩ := h2.there
    exact ⟨a, h1, h2.ext (ext_new hp) r.nt (upd_ne (ne_of_none hu hp))⟩, fun a ha => by
    obtain ⟨h1, xs, h2⟩ := r.hid a ha
    exact ⟨h1, xs, by rw [upd_ne (ne_of_none h2 hp)]; exact h2⟩⟩
/-- an object of the store changes -/
theorem ext_set {p : Addr} {o : HO} (hp : p ∈ φ.ref) : Ext φ H φ (upd H p o) :=
  ⟨⟨[], by simp, by simp⟩, rfl, fun a u h n => by rw [upd_ne (fun e => n (by rw [e]; exact hp))]; exact h⟩
theorem Rel.put (r : Rel T φ H st) {k : Nat} {p : Addr} {o : HO} {m : MO} (hk : φ.ref[k]? = some p) (h : ORel T φ (upd H p o) m p) : Rel T φ (upd H p o) (st.set k m) := by
  have hp : p ∈ φ.ref := List.mem_of_getElem? hk
  refine ⟨by rw [r.len, List.length_set], r.nd, fun j x hj => ?_, fun a ha => ?_⟩
  rotate_left
  · obtain ⟨h1, xs, h2⟩ := r.hid a ha
    exact ⟨h1, xs, by rw [upd_ne (fun e => h1 (by rw [e]; exact hp))]; exact h2⟩
  by_cases e : j = k
  · subst e
    have hl : j < st.length := by rw [← r.len]; exact (List.getElem?_eq_some_iff.mp hk).1
    rw [List.getElem?_set_self hl] at hj
    cases hj
    exact ⟨p, hk, h⟩
  · rw [List.getElem?_set_ne (Ne.symm e)] at hj
    obtain ⟨a, h1, h2⟩ := r.at_ j x hj
    refine ⟨a, h1, h2.ext (ext_set hp) r.nt (upd_ne fun z => e ?_)⟩
    subst z
    exact L2.nd_ix r.nd h1 hk
end
end Cip

/-! Cip3: what is wanted behind an expression; the operators by values. -/
namespace Cip
open PySem PySem.Spec PyProof.Rows L2

/-- names: where the classes stand, how the fields are called -/
structure Nm where
  cls : Nat → Addr
  fnm : Nat → Str
abbrev rz (X : Cx) (t : Nm) : Rz := ⟨X.K, t.cls, t.fnm⟩

def D.isL : D → Bool
  | .lst _ => true
  | .dct _ _ => true
  | _ => false
/-- a list, a dict that was laid last, at a place where nothing was: Hb is the heap ahead of it -/
def Fresh (T : Rz) (H : Hp) (φ' : Fi) (H' : Hp) (st : Store) (d : D) (v : V) : Prop :=
  ∃ (p : Addr) (Hb : Hp) (o : HO), v = .ref p ∧ H' = upd Hb p o ∧ Hb p = none ∧ H p = none ∧ Rel T φ' Hb st ∧ match d with
    | .lst ds => ∃ vs, o = .lst vs ∧ ds.length ≤ sizeLine ∧ Reps T.K φ' Hb ds vs
    | .dct ks ws => ∃ kvs, o = .dK kvs ∧ kvs.map (·.1) = ks ∧ Reps T.K φ' Hb ws (kvs.map (·.2))
    | _ => True
abbrev RepT (α β : Type) : Type := Hp → Fi → Hp → Store → α → β → Prop
def repD (T : Rz) (fr : Bool) : RepT D V := fun H φ' H' st d v => Rep T.K φ' H' d v ∧ (fr = true → d.isL = true → Fresh T H φ' H' st d v)
def repS (T : Rz) : RepT (List D) (List V) := fun _ φ' H' _ d v => Reps T.K φ' H' d v
def repB : RepT Bool Bool := fun _ _ _ _ a b => a = b
/-- an error, as it is raised -/
def XV (T : Rz) (φ : Fi) (H : Hp) (c : Nat) (fs : List (Nat × D)) (cls : Value) (d : Option Addr) : Prop := cls = .ref (T.cls c) ∧ XF T φ H fs d
/-- what is wanted behind a computation that comes to r -/
def OutG {α β : Type} (T : Rz) (rep : RepT α β) (W : WX) (φ : Fi) (H : Hp) (σ : L2.St) (r : R α) (Q : β → Hp → Prop) : Prop := match r with
  | .ok d st => ∀ φ' H' v, Rel T φ' H' st → Ext φ H φ' H' → rep H φ' H' st d v → Q v H'
  | .ex c fs st => ∀ φ' H' cls dd, Rel T φ' H' st → Ext φ H φ' H' → XV T φ' H' c fs cls dd → W cls dd σ H'
  | .stk => False
/-- .. where the store stays -/
def OutO (T : Rz) (fr : Bool) (φ : Fi) (H : Hp) (st : Store) (o : Option D) (Q : VK) : Prop := match o with
  | some d => ∀ H' v, Rel T φ H' st → Ext φ H φ H' → repD T fr H φ H' st d v → Q v H'
  | none => False
/-- what is new later is new now -/
def Shift {α β : Type} (T : Rz) (rep : RepT α β) : Prop := ∀ (φ : Fi) (H : Hp) (φ1 : Fi) (H1 : Hp) (st1 : Store) (φ2 : Fi) (H2 : Hp) (st2 : Store) (c : α) (w : β), Ext φ H φ1 H1 → Rel T φ1 H1 st1 → rep H1 φ2 H2 st2 c w → rep H φ2 H2 st2 c w
structure EnvR (T : Rz) (φ : Fi) (H : Hp) (σ : L2.St) (env : Env) : Prop where
  len : σ.length = env.length
  get : ∀ (i : Nat) (d : D), env[i]? = some (some d) → ∃ v, σ[i]? = some (some v) ∧ Rep T.K φ H d v

section
variable {T : Rz} {W : WX} {φ φ' : Fi} {H H' : Hp} {σ : L2.St} {st st' : Store} {env : Env}
theorem OutG.imp {α β : Type} {rep : RepT α β} {r : R α} {Q Q' : β → Hp → Prop} (h : OutG T rep W φ H σ r Q) (hq : ∀ v H, Q v H → Q' v H) : OutG T rep W φ H σ r Q' := by
  cases r with
  | ok d st => exact fun φ' H' v a b c => hq _ _ (h φ' H' v a b c)
  | ex c fs st => exact h
  | stk => exact h
theorem OutG.shift {α β : Type} {rep : RepT α β} {r : R α} {Q : β → Hp → Prop} (sh : Shift T rep) (r0 : Rel T φ H st) (e1 : Ext φ H φ' H') (r1 : Rel T φ' H' st') (h : OutG T rep W φ H σ r Q) : OutG T rep W φ' H' σ r Q := by
  cases r with
  | stk => exact h
  | ex c fs st2 => exact fun φ2 H2 cls dd r2 e2 x => h φ2 H2 cls dd r2 (e1.trans r0 e2 r1) x
  | ok b st2 => exact fun φ2 H2 w r2 e2 p2 => h φ2 H2 w r2 (e1.trans r0 e2 r1) (sh _ _ _ _ _ _ _ _ _ _ e1 r1 p2)
theorem OutG.bind {α β γ δ : Type} {rep1 : RepT α β} {rep2 : RepT γ δ} {r : R α} {k : α → Store → R γ} {Q : δ → Hp → Prop} (r0 : Rel T φ H st) (sh : Shift T rep2) (h : OutG T rep2 W φ H σ (r.bind k) Q) :
    OutG T rep1 W φ H σ r (fun v H1 => ∃ φ1 st1 a, Rel T φ1 H1 st1 ∧ Ext φ H φ1 H1 ∧ rep1 H φ1 H1 st1 a v ∧ OutG T rep2 W φ1 H1 σ (k a st1) Q) := by
  cases r with
  | stk => exact h
  | ex c fs st => exact h
  | ok d st1 => exact fun φ1 H1 v r1 e1 p1 => ⟨φ1, st1, d, r1, e1, p1, OutG.shift sh r0 e1 r1 h⟩
theorem shD {fr : Bool} : Shift T (repD T fr) := fun φ H φ1 H1 st1 φ2 H2 st2 c w e r h =>
  ⟨h.1, fun q l => by
    obtain ⟨p, Hb, o, h1, h2, h3, h4, h5, h6⟩ := h.2 q l
    exact ⟨p, Hb, o, h1, h2, h3, e.back r h4, h5, h6⟩⟩
theorem shS : Shift T (repS T) := fun _ _ _ _ _ _ _ _ _ _ _ _ h => h
theorem shB : Shift T repB := fun _ _ _ _ _ _ _ _ _ _ _ _ h => h
theorem OutG.of {fr : Bool} {o : Option D} {Q : VK} (h : OutG T (repD T fr) W φ H σ (R.of o st) Q) : OutO T fr φ H st o Q := by
  cases o with
  | none => exact h
  | some d => exact fun H' v r e p => h φ H' v r e p
theorem OutG.of_ok {d : D} {fr : Bool} {Q : VK} (h : OutG T (repD T fr) W φ H σ (R.ok d st) Q) : OutO T fr φ H st (some d) Q := fun H' v r e p => h φ H' v r e p
theorem EnvR.ext (E : EnvR T φ H σ env) (r : Rel T φ H st) (e : Ext φ H φ' H') : EnvR T φ' H' σ env :=
  ⟨E.len, fun i d h => let ⟨v, h1, h2⟩ := E.get i d h; ⟨v, h1, r.rep e h2⟩⟩
theorem repD.weak {d : D} {v : V} (h : Rep T.K φ' H' d v) : repD T false H φ' H' st d v := ⟨h, fun z => by cases z⟩
theorem repD.no {fr : Bool} {d : D} {v : V} (h : Rep T.K φ' H' d v) (hd : d.isL = false) : repD T fr H φ' H' st d v := ⟨h, fun _ z => by rw [hd] at z; cases z⟩

/-! ### new things -/
theorem new_lst {p : Addr} {ds : List D} {vs : List V} (r : Rel T φ H st) (hp : H p = none) (hr : Reps T.K φ H ds vs) (hl : ds.length ≤ sizeLine) :
    Rel T φ (upd H p (.lst vs)) st ∧ Ext φ H φ (upd H p (.lst vs)) ∧ repD T true H φ (upd H p (.lst vs)) st (.lst ds) (.ref p) :=
  ⟨r.new hp, ext_new hp, ⟨p, vs, rfl, upd_same, r.fresh hp, hl, r.reps (ext_new hp) hr⟩, fun _ _ => ⟨p, H, _, rfl, rfl, hp, hp, r, vs, rfl, hl, hr⟩⟩
theorem new_tup {p : Addr} {ds : List D} {vs : List V} (r : Rel T φ H st) (hp : H p = none) (hr : Reps T.K φ H ds vs) (hl : ds.length ≤ sizeLine) :
    Rel T φ (upd H p (.tup vs)) st ∧ Ext φ H φ (upd H p (.tup vs)) ∧ Rep T.K φ (upd H p (.tup vs)) (.tup ds) (.ref p) :=
  ⟨r.new hp, ext_new hp, p, vs, rfl, .inl (.inl upd_same), hl, r.reps (ext_new hp) hr⟩
theorem OutO.lst {fr : Bool} {Q : VK} {ds : List D} {vs : List V} {p : Addr} (h : OutO T fr φ H st (some (.lst ds)) Q) (r : Rel T φ H st) (hp : H p = none) (hr : Reps T.K φ H ds vs) (hl : ds.length ≤ sizeLine) : Q (.ref p) (upd H p (.lst vs)) :=
  let ⟨a, b, c⟩ := new_lst r hp hr hl
  h _ _ a b ⟨c.1, fun _ _ => c.2 rfl rfl⟩
theorem OutO.tup {fr : Bool} {Q : VK} {ds : List D} {vs : List V} {p : Addr} (h : OutO T fr φ H st (some (.tup ds)) Q) (r : Rel T φ H st) (hp : H p = none) (hr : Reps T.K φ H ds vs) (hl : ds.length ≤ sizeLine) : Q (.ref p) (upd H p (.tup vs)) :=
  let ⟨a, b, c⟩ := new_tup r hp hr hl
  h _ _ a b (.no c rfl)
/-- a value that makes nothing -/
theorem OutO.flat {fr : Bool} {Q : VK} {d : D} {v : V} (h : OutO T fr φ H st (some d) Q) (r : Rel T φ H st) (hd : Rep T.K φ H d v) (hn : d.isL = false := by rfl) : Q v H :=
  h _ _ r .refl (.no hd hn)
theorem OutO.same {Q : VK} {d : D} {v : V} (h : OutO T false φ H st (some d) Q) (r : Rel T φ H st) (hd : Rep T.K φ H d v) : Q v H := h _ _ r .refl (.weak hd)

/-! ### looking at things -/
theorem lst_at {d : D} {v : V} {xs : List D} (r : Rel T φ H st) (h : Rep T.K φ H d v) (e : lstD st d = some xs) : ∃ a vs, v = .ref a ∧ H a = some (.lst vs) ∧ xs.length ≤ sizeLine ∧ Reps T.K φ H xs vs := by
  unfold lstD at e
  split at e
  · cases e
    obtain ⟨a, vs, h1, h2, h3, h4, h5⟩ := h
    exact ⟨a, vs, h1, h2, h4, h5⟩
  · rename_i k
    split at e
    · rename_i ys hy
      cases e
      obtain ⟨a, h1, h2⟩ := h
      obtain ⟨b, h3, vs, h4, h5, h6⟩ := r.at_ k _ hy
      rw [h1] at h3; cases h3
      exact ⟨a, vs, h2, h4, h5, h6⟩
    · cases e
  · cases e
theorem seq_at {d : D} {v : V} {xs : List D} (r : Rel T φ H st) (h : Rep T.K φ H d v) (e : seqD st d = some xs) : ∃ a vs, v = .ref a ∧ (SqL T.K H a vs ∨ SqT T.K H a vs) ∧ xs.length ≤ sizeLine ∧ Reps T.K φ H xs vs := by
  unfold seqD at e
  split at e
  · cases e
    obtain ⟨a, vs, h1, h2, h3, h4⟩ := h
    exact ⟨a, vs, h1, .inr h2, h3, h4⟩
  · cases e
    obtain ⟨a, vs, h1, h2, h3, h4, h5⟩ := h
    exact ⟨a, vs, h1, .inl (.inl (.inl h2)), h4, h5⟩
  · cases e
    obtain ⟨a, vs, h1, h2, h4, h5⟩ := h
    exact ⟨a, vs, h1, .inl h2.sq, h4, h5⟩
  · rename_i k
    split at e
    · rename_i ys hy
      cases e
      obtain ⟨a, h1, h2⟩ := h
      obtain ⟨b, h3, vs, h4, h5, h6⟩ := r.at_ k _ hy
      rw [h1] at h3; cases h3
      exact ⟨a, vs, h2, .inl (.inl (.inl h4)), h5, h6⟩
    · cases e
  · cases e
theorem lsq_at {d : D} {v : V} {xs : List D} (r : Rel T φ H st) (h : Rep T.K φ H d v) (e : lsqD st d = some xs) : ∃ a vs, v = .ref a ∧ SqL T.K H a vs ∧ xs.length ≤ sizeLine ∧ Reps T.K φ H xs vs := by
  unfold lsqD at e
  split at e
  · cases e
    obtain ⟨a, vs, h1, h2, h3, h4, h5⟩ := h
    exact ⟨a, vs, h1, .inl (.inl h2), h4, h5⟩
  · cases e
    obtain ⟨a, vs, h1, h2, h4, h5⟩ := h
    exact ⟨a, vs, h1, h2.sq, h4, h5⟩
  · rename_i k
    split at e
    · rename_i ys hy
      cases e
      obtain ⟨a, h1, h2⟩ := h
      obtain ⟨b, h3, vs, h4, h5, h6⟩ := r.at_ k _ hy
      rw [h1] at h3; cases h3
      exact ⟨a, vs, h2, .inl (.inl h4), h5, h6⟩
    · cases e
  · cases e
end
end Cip

/-! Cip4: the operators, by values. -/
namespace Cip
open PySem PySem.Spec PyProof.Rows L2

/-! ### values that read as data -/
/-- it reads so, and sys.modules is none of its parts if there is a dict in it -/
def RdA (h : Heap) (u : Value) (p : PyData) : Prop := ∃ as, Reads h u p as ∧ (hasL p = false → sysModules ∉ as)
def RdAs (h : Heap) (us : List Value) (ps : List PyData) : Prop := ∃ as, ReadsAll h us ps as ∧ (hasLs ps = false → sysModules ∉ as)
section
variable {X : Cx} {pins : List (Addr × Obj)} {σ : L2.St} {H : Hp} {s : Shared} {t : Nm} {φ : Fi} {st : Store}
theorem rd_list (I : Inv X pins σ H s) {a : Addr} {vs : List V} {ps : List PyData} (h : SqL X.K H a vs) (k : ∀ us, Vals vs us → RdAs s.heap us ps) : RdA s.heap (.ref a) (.list ps) := by
  obtain ⟨its, r, ⟨o, n, e1, e2, e3, e4⟩, _⟩ := I.list h
  obtain ⟨as, e5, _⟩ := k its r
  exact ⟨_, .list e1 e2 e4 (by simpa using e5), fun z => by cases z⟩
theorem rd_tup (I : Inv X pins σ H s) {a : Addr} {vs : List V} {ps : List PyData} (h : SqT X.K H a vs) (k : ∀ us, Vals vs us → RdAs s.heap us ps) : RdA s.heap (.ref a) (.tuple ps) := by
  obtain ⟨its, r, ⟨o, e1, e2, n, e4⟩, _⟩ := I.tuple h
  obtain ⟨as, e5, e6⟩ := k its r
  exact ⟨_, .tuple e1 e2 e4 (by simpa using e5), e6⟩
theorem rd_dct (I : Inv X pins σ H s) {a : Addr} (h : Rd H a (.dK [])) : RdA s.heap (.ref a) (.dict []) := by
  obtain ⟨_, hs, vs, kv, o, es, ep, e1, ⟨e2, _, _⟩, e3, _, e4, _⟩ := h.ok I.hok
  cases kv
  have e5 : es.toList = [] := by
    cases q : es.toList with
    | nil => rfl
    | cons a b => rw [q] at e4; cases e4
  refine ⟨[a], ?_, fun _ z => ?_⟩
  · have := Reads.dict (kvs := []) (as := []) (bs := []) e1 e2 e3 (by rw [e5]; exact .nil) (by rw [e5]; exact .nil)
    simpa using this
  · have : sysModules = a := by simpa using z
    rw [← this] at hs
    simp at hs
mutual
theorem rd_of {rf : Nat → Option PyData} (I : Inv X pins σ H s) (hrf : ∀ k p v u, rf k = some p → Rep X.K φ H (.ref k) v → RelV v u → RdA s.heap u p) :
    ∀ (d : D) (v : V) (u : Value) (p : PyData), pyW rf d = some p → Rep X.K φ H d v → RelV v u → RdA s.heap u p
  | .non, v, u, p, e, h, r => by cases e; cases h; cases r; exact ⟨[], .none, fun _ => by simp⟩
  | .bl b, v, u, p, e, h, r => by cases e; cases h; cases r; exact ⟨[], .bool b, fun _ => by simp⟩
  | .int b, v, u, p, e, h, r => by cases e; cases h; obtain ⟨t, rfl⟩ := r; exact ⟨[], .int b t, fun _ => by simp⟩
  | .str b, v, u, p, e, h, r => by cases e; obtain ⟨h, _⟩ := h; cases h; obtain ⟨t, rfl⟩ := r; exact ⟨[], .str b t, fun _ => by simp⟩
  | .tup xs, v, u, p, e, h, r => by
    obtain ⟨a, vs, h1, h2, h3, h4⟩ := h
    subst h1
    cases r
    simp only [pyW] at e
    cases q : pysW rf xs with
    | none => rw [q] at e; cases e
    | some ps =>
      rw [q] at e
      cases e
      exact rd_tup I h2 fun us ru => rd_ofs I hrf xs vs us ps q h4 ru
  | .lst xs, v, u, p, e, h, r => by
    obtain ⟨a, vs, h1, h2, h2', h3, h4⟩ := h
    subst h1
    cases r
    simp only [pyW] at e
    cases q : pysW rf xs with
    | none => rw [q] at e; cases e
    | some ps =>
      rw [q] at e
      cases e
      exact rd_list I (.inl (.inl h2)) fun us ru => rd_ofs I hrf xs vs us ps q h4 ru
  | .dct ks ws, v, u, p, e, h, r => by
    obtain ⟨a, kvs, h1, h2, h3, h4, h5⟩ := h
    subst h1
    cases r
    simp only [pyW] at e
    split at e
    · rename_i hk
      cases e
      have : kvs = [] := by
        cases kvs with
        | nil => rfl
        | cons x y => rw [← h4] at hk; cases hk
      subst this
      exact rd_dct I (.inl h2)
    · cases e
  | .scr _, v, u, p, e, h, r => by cases e
  | .ref k, v, u, p, e, h, r => hrf k p v u e h r
theorem rd_ofs {rf : Nat → Option PyData} (I : Inv X pins σ H s) (hrf : ∀ k p v u, rf k = some p → Rep X.K φ H (.ref k) v → RelV v u → RdA s.heap u p) :
    ∀ (ds : List D) (vs : List V) (us : List Value) (ps : List PyData), pysW rf ds = some ps → Reps X.K φ H ds vs → Vals vs us → RdAs s.heap us ps
  | [], vs, us, ps, e, h, r => by cases e; cases h; cases r; exact ⟨[], .nil, fun _ => by simp⟩
  | x :: xs, vs, us, ps, e, h, r => by
    obtain ⟨v, w, h1, h2, h3⟩ := h
    subst h1
    cases r with
    | cons r1 r2 =>
      simp only [pysW] at e
      cases q1 : pyW rf x with
      | none => rw [q1] at e; cases e
      | some a =>
        cases q2 : pysW rf xs with
        | none => rw [q1, q2] at e; cases e
        | some b =>
          rw [q1, q2] at e
          cases e
          obtain ⟨as, a1, a2⟩ := rd_of I hrf x v _ a q1 h2 r1
          obtain ⟨bs, b1, b2⟩ := rd_ofs I hrf xs w _ b q2 h3 r2
          refine ⟨_, .cons a1 b1, fun z m => ?_⟩
          have z' : (hasL a || hasLs b) = false := z
          rw [Bool.or_eq_false_iff] at z'
          exact (List.mem_append.mp m).elim (a2 z'.1) (b2 z'.2)
end
theorem rd_ref (I : Inv X pins σ H s) (r : Rel (rz X t) φ H st) : ∀ (n : Nat) (k : Nat) (p : PyData) (v : V) (u : Value), pyR n st k = some p → Rep X.K φ H (.ref k) v → RelV v u → RdA s.heap u p
  | 0, _, _, _, _, e, _, _ => by cases e
  | n + 1, k, p, v, u, e, h, ru => by
    obtain ⟨a, h1, h2⟩ := h
    subst h2
    cases ru
    simp only [pyR] at e
    split at e
    · rename_i xs hk
      obtain ⟨b, h3, vs, h4, h5, h6⟩ := r.at_ k _ hk
      rw [h1] at h3; cases h3
      cases q : pysW (pyR n st) xs with
      | none => rw [q] at e; cases e
      | some ps =>
        rw [q] at e
        cases e
        exact rd_list I (.inl (.inl h4)) fun us ru => rd_ofs I (rd_ref I r n) xs vs us ps q h6 ru
    · rename_i xs hk
      cases e
      obtain ⟨b, h3, kvs, h4, h5, _⟩ := r.at_ k _ hk
      rw [h1] at h3; cases h3
      simp only [Bool.false_eq_true, if_false] at h4
      have : kvs = [] := by
        cases kvs with
        | nil => rfl
        | cons x y => cases h5
      subst this
      exact rd_dct I (.inl h4)
    · cases e
theorem rd_py (I : Inv X pins σ H s) (r : Rel (rz X t) φ H st) {d : D} {v : V} {u : Value} {p : PyData} (e : py st d = some p) (h : Rep X.K φ H d v) (ru : RelV v u) : RdA s.heap u p :=
  rd_of I (rd_ref I r 8) d v u p e h ru
end
/-! ### == and in -/
/-- an operator over two values of ours -/
def rOO (T : Rz) (fr : Bool) (f : Store → D → D → Option D) : R2 := fun x y H Q => ∃ φ st d e, Rel T φ H st ∧ Rep T.K φ H d x ∧ Rep T.K φ H e y ∧ OutO T fr φ H st (f st d e) Q
section
variable {X : Cx} {t : Nm}
theorem OutO.bl {T : Rz} {fr : Bool} {φ : Fi} {H : Hp} {st : Store} {b : Bool} {Q : VK} (h : OutO T fr φ H st (some (.bl b)) Q) (r : Rel T φ H st) : Q (.bl b) H :=
  h.flat r rfl
/-- what == tells: of plain data, or of lists of unlike lengths -/
theorem eq_cases {st : Store} {a b : D} {r : Bool} (h : eqD st a b = some r) :
    (∃ p q, py st a = some p ∧ py st b = some q ∧ p.plain = true ∧ q.plain = true ∧ min p.depth q.depth ≤ 100 ∧ r = PyData.eqv p q) ∨ ∃ xs ys, lstD st a = some xs ∧ lstD st b = some ys ∧ xs.length ≠ ys.length ∧ r = false := by
  unfold eqD at h
  split at h
  · rename_i r' e
    cases h
    unfold eqP at e
    split at e
    · rename_i p q q1 q2
      split at e
      · rename_i hc
        simp only [Bool.and_eq_true, decide_eq_true_eq] at hc
        cases e
        exact .inl ⟨p, q, q1, q2, hc.1.1, hc.1.2, hc.2, rfl⟩
      · cases e
    · cases e
  · unfold eqL at h
    split at h
    · rename_i xs ys q1 q2
      split at h
      · cases h
      · rename_i hc
        cases h
        exact .inr ⟨xs, ys, q1, q2, hc, rfl⟩
    · cases h
theorem vals_len {vs : List V} {us : List Value} (h : Vals vs us) : us.length = vs.length := by
  induction h with
  | nil => rfl
  | cons _ _ ih => simp only [List.length_cons, ih]
theorem reps_len1 {K : W.Frag} {φ : Fi} {H : Hp} : ∀ {ds : List D} {vs : List V}, Reps K φ H ds vs → vs.length = ds.length
  | [], _, h => by cases h; rfl
  | _ :: _, _, ⟨_, _, e, _, h⟩ => by subst e; simp only [List.length_cons, reps_len1 h]
theorem unlike {pins : List (Addr × Obj)} {σ : L2.St} {H : Hp} {s : Shared} {φ : Fi} {st : Store} (I : Inv X pins σ H s) (r : Rel (rz X t) φ H st) {d e : D} {x y : V} {v u : Value} {xs ys : List D} (q1 : lstD st d = some xs) (q2 : lstD st e = some ys) (hn : xs.length ≠ ys.length) (hd : Rep X.K φ H d x) (he : Rep X.K φ H e y) (rx : RelV x v) (ry : RelV y u) :
    ∃ a b is js, v = .ref a ∧ u = .ref b ∧ s.heap.IsList a is ∧ s.heap.IsList b js ∧ (is.size != js.size) = true := by
  obtain ⟨a, vs, h1, h2, _, h4⟩ := lst_at r hd q1
  obtain ⟨b, ws, g1, g2, _, g4⟩ := lst_at r he q2
  subst h1 g1
  cases rx
  cases ry
  obtain ⟨is, r1, ⟨o, n, e1, e2, e3, e4⟩, _⟩ := I.list (.inl (.inl h2))
  obtain ⟨js, r2, ⟨o', n', f1, f2, f3, f4⟩, _⟩ := I.list (.inl (.inl g2))
  refine ⟨a, b, _, _, rfl, rfl, ⟨o, e1, e2, n, e4⟩, ⟨o', f1, f2, n', f4⟩, ?_⟩
  have l1 := vals_len r1
  have l2 := vals_len r2
  have l3 := reps_len1 h4
  have l4 := reps_len1 g4
  simp only [bne_iff_ne, ne_eq, List.size_toArray]
  omega
theorem opr_eq {fr : Bool} (hu : X.A.units + 110 < cLine) : OpR X (compareOp .Eq) (rOO (rz X t) fr fun st a b => (cmpD st .eq a b).map .bl) := by
  intro pins s σ H x y v u Q I rx ry ⟨φ, st, d, e, r, hd, he, h⟩
  simp only [cmpD] at h
  cases q : eqD st d e with
  | none => rw [q] at h; exact h.elim
  | some b =>
    rw [q] at h
    rcases eq_cases q with ⟨p, q, q1, q2, c1, c2, c3, rfl⟩ | ⟨xs, ys, q1, q2, c1, rfl⟩
    · obtain ⟨as, a1, _⟩ := rd_py I r q1 hd rx
      obtain ⟨bs, b1, _⟩ := rd_py I r q2 he ry
      exact SeqAt.eq_plain a1 b1 c1 c2 (by omega) ⟨.bl _, H, I, rfl, h.bl r⟩
    · obtain ⟨a, b, is, js, rfl, rfl, i1, i2, i3⟩ := unlike I r q1 q2 c1 hd he rx ry
      exact SeqAt.eq_list_lengthsAt i1 i2 i3 (by omega) ⟨.bl _, H, I, rfl, h.bl r⟩
theorem opr_ne {fr : Bool} (hu : X.A.units + 110 < cLine) : OpR X (compareOp .NotEq) (rOO (rz X t) fr fun st a b => (cmpD st .ne a b).map .bl) := by
  intro pins s σ H x y v u Q I rx ry ⟨φ, st, d, e, r, hd, he, h⟩
  simp only [cmpD] at h
  cases q : eqD st d e with
  | none => rw [q] at h; exact h.elim
  | some b =>
    rw [q] at h
    rcases eq_cases q with ⟨p, q, q1, q2, c1, c2, c3, rfl⟩ | ⟨xs, ys, q1, q2, c1, rfl⟩
    · obtain ⟨as, a1, _⟩ := rd_py I r q1 hd rx
      obtain ⟨bs, b1, _⟩ := rd_py I r q2 he ry
      exact SeqAt.ne_plain a1 b1 c1 c2 (by omega) ⟨.bl _, H, I, rfl, h.bl r⟩
    · obtain ⟨a, b, is, js, rfl, rfl, i1, i2, i3⟩ := unlike I r q1 q2 c1 hd he rx ry
      exact SeqAt.RcNeAt.lists_lengths i1 i2 i3 (by omega) _ _ _ _ ⟨.bl _, H, I, rfl, h.bl r⟩
/-- what in tells -/
theorem in_cases {st : Store} {x c : D} {b : Bool} (h : inD st x c = some b) :
    (∃ y z, c = .str y ∧ x = .str z ∧ b = subStr z y) ∨ ∃ ps d, (py st c = some (.list ps) ∨ py st c = some (.tuple ps)) ∧ py st x = some d ∧ d.plain = true ∧ PyData.plainAll ps = true ∧ min (PyData.depthAll ps) d.depth ≤ 100 ∧ b = ps.any fun y => PyData.eqv y d := by
  unfold inD at h
  split at h
  · split at h
    · cases h; exact .inl ⟨_, _, rfl, rfl, rfl⟩
    · cases h
  · split at h
    · rename_i ps d h1 h2
      split at h
      · rename_i hc
        simp only [Bool.and_eq_true, decide_eq_true_eq] at hc
        cases h
        exact .inr ⟨ps, d, .inl h1, h2, hc.1.1, hc.1.2, hc.2, rfl⟩
      · cases h
    · rename_i ps d h1 h2
      split at h
      · rename_i hc
        simp only [Bool.and_eq_true, decide_eq_true_eq] at hc
        cases h
        exact .inr ⟨ps, d, .inr h1, h2, hc.1.1, hc.1.2, hc.2, rfl⟩
      · cases h
    · cases h
theorem opr_in {fr : Bool} (hu : X.A.units + 110 < cLine) : OpR X (compareOp .In) (rOO (rz X t) fr fun st a b => (cmpD st .isin a b).map .bl) := by
  intro pins s σ H x y v u Q I rx ry ⟨φ, st, d, e, r, hd, he, h⟩
  simp only [cmpD] at h
  cases q : inD st d e with
  | none => rw [q] at h; exact h.elim
  | some b =>
    rw [q] at h
    rcases in_cases q with ⟨y', z', rfl, rfl, rfl⟩ | ⟨ps, d', hc, h2, h3, h4, h5, rfl⟩
    · obtain ⟨hd, _⟩ := hd
      obtain ⟨he, _⟩ := he
      subst hd he
      exact op_in_str pins s σ H _ _ v u Q I rx ry ⟨z', y', rfl, rfl, h.bl r⟩
    · obtain ⟨as, a1, _⟩ := rd_py I r h2 hd rx
      rcases hc with hc | hc
      · obtain ⟨bs, b1, _⟩ := rd_py I r hc he ry
        exact SeqAt.in_list_data b1 a1 h4 h3 (by omega) ⟨.bl _, H, I, rfl, h.bl r⟩
      · obtain ⟨bs, b1, _⟩ := rd_py I r hc he ry
        exact SeqAt.in_tuple_data b1 a1 h4 h3 (by omega) ⟨.bl _, H, I, rfl, h.bl r⟩
theorem opr_nin {fr : Bool} (hu : X.A.units + 110 < cLine) : OpR X (compareOp .NotIn) (rOO (rz X t) fr fun st a b => (cmpD st .nin a b).map .bl) := by
  intro pins s σ H x y v u Q I rx ry ⟨φ, st, d, e, r, hd, he, h⟩
  simp only [cmpD] at h
  cases q : inD st d e with
  | none => rw [q] at h; exact h.elim
  | some b =>
    rw [q] at h
    rcases in_cases q with ⟨y', z', rfl, rfl, rfl⟩ | ⟨ps, d', hc, h2, h3, h4, h5, rfl⟩
    · obtain ⟨hd, _⟩ := hd
      obtain ⟨he, _⟩ := he
      subst hd he
      exact op_notin_str pins s σ H _ _ v u Q I rx ry ⟨z', y', rfl, rfl, by simpa [subStr] using h.bl r⟩
    · obtain ⟨as, a1, _⟩ := rd_py I r h2 hd rx
      rcases hc with hc | hc
      · obtain ⟨bs, b1, _⟩ := rd_py I r hc he ry
        exact SeqAt.notIn_list_data b1 a1 h4 h3 (by omega) ⟨.bl _, H, I, rfl, h.bl r⟩
      · obtain ⟨bs, b1, _⟩ := rd_py I r hc he ry
        exact SeqAt.notIn_tuple_data b1 a1 h4 h3 (by omega) ⟨.bl _, H, I, rfl, h.bl r⟩
/-! ### order -/
theorem opr_lt {fr : Bool} : OpR X (compareOp .Lt) (rOO (rz X t) fr fun st a b => (cmpD st .lt a b).map .bl) := by
  intro pins s σ H x y v u Q I rx ry ⟨φ, st, d, e, r, hd, he, h⟩
  simp only [cmpD] at h
  unfold ltD at h
  split at h
  · cases hd; cases he
    exact op_lt pins s σ H _ _ v u Q I rx ry ⟨_, _, rfl, rfl, h.bl r⟩
  · cases hd.1; cases he.1
    exact op_lt_str pins s σ H _ _ v u Q I rx ry ⟨_, _, rfl, rfl, h.bl r⟩
  · exact h.elim
theorem opr_gt {fr : Bool} : OpR X (compareOp .Gt) (rOO (rz X t) fr fun st a b => (cmpD st .gt a b).map .bl) := by
  intro pins s σ H x y v u Q I rx ry ⟨φ, st, d, e, r, hd, he, h⟩
  simp only [cmpD] at h
  unfold ltD at h
  split at h
  · cases hd; cases he
    exact op_gt pins s σ H _ _ v u Q I rx ry ⟨_, _, rfl, rfl, h.bl r⟩
  · cases hd.1; cases he.1
    exact op_gt_str pins s σ H _ _ v u Q I rx ry ⟨_, _, rfl, rfl, h.bl r⟩
  · exact h.elim
theorem opr_le {fr : Bool} : OpR X (compareOp .LtE) (rOO (rz X t) fr fun st a b => (cmpD st .le a b).map .bl) := by
  intro pins s σ H x y v u Q I rx ry ⟨φ, st, d, e, r, hd, he, h⟩
  simp only [cmpD] at h
  unfold leD at h
  split at h
  · cases hd; cases he
    exact op_le pins s σ H _ _ v u Q I rx ry ⟨_, _, rfl, rfl, h.bl r⟩
  · cases hd.1; cases he.1
    exact op_le_str pins s σ H _ _ v u Q I rx ry ⟨_, _, rfl, rfl, h.bl r⟩
  · exact h.elim
theorem opr_ge {fr : Bool} : OpR X (compareOp .GtE) (rOO (rz X t) fr fun st a b => (cmpD st .ge a b).map .bl) := by
  intro pins s σ H x y v u Q I rx ry ⟨φ, st, d, e, r, hd, he, h⟩
  simp only [cmpD] at h
  unfold leD at h
  split at h
  · cases hd; cases he
    exact op_ge pins s σ H _ _ v u Q I rx ry ⟨_, _, rfl, rfl, h.bl r⟩
  · cases hd.1; cases he.1
    exact op_ge_str pins s σ H _ _ v u Q I rx ry ⟨_, _, rfl, rfl, h.bl r⟩
  · exact h.elim
/-- the operator of a comparison -/
def COp.py : COp → CmpOp
  | .eq => .Eq | .ne => .NotEq | .lt => .Lt | .le => .LtE | .gt => .Gt | .ge => .GtE | .isin => .In | .nin => .NotIn
theorem opr_cmp {fr : Bool} (hu : X.A.units + 110 < cLine) : ∀ o : COp, OpR X (compareOp o.py) (rOO (rz X t) fr fun st a b => (cmpD st o a b).map .bl)
  | .eq => opr_eq hu | .ne => opr_ne hu | .lt => opr_lt | .le => opr_le | .gt => opr_gt | .ge => opr_ge | .isin => opr_in hu | .nin => opr_nin hu
end
end Cip

set_option maxHeartbeats 4000000
/-! Cip5: arithmetic, by values. -/
namespace Cip
open PySem PySem.Spec PyProof.Rows L2

section
variable (l : Addr) (items : Array Value) (n : Nat) (dd : Option Addr) (sl : Array (Option Value)) (x : Int) (u : Tok)
theorem tupMul1 (c0 : (decide (x < -(2 ^ 63)) || decide (x ≥ 2 ^ 63)) = false) (c1 : (items.isEmpty || x == 1) = true) :
    Meets (Builtin.«tuple.__mul__» ⟨[.ref l, .int x u], []⟩) (fun _ R s => s.heap.get? l = some { cls := .type "tuple", dict := dd, data := .seq items n, slots := sl } ∧ R (.ok (.ret (Value.ref l))) s) :=
  .of_wp fun prog w A R s h => by
    obtain ⟨hp, g, d, tk, os⟩ := s
    obtain ⟨hl, h⟩ := h
    have f1 := AutoSeq1.idx_int
    wp_walk using wpAny_loadPart' hl
    repeat (first
      | (refine wpAny_ite_false (decide_eq_false (by rw [c0]; exact Bool.false_ne_true)) ?_; wp_walk using wpAny_loadPart' hl)
      | (refine wpAny_ite_true (decide_eq_true c1) ?_; wp_walk using wpAny_loadPart' hl))
    all_goals exact ⟨_, rfl, h⟩
theorem tupMul0 (c0 : (decide (x < -(2 ^ 63)) || decide (x ≥ 2 ^ 63)) = false) (c1 : (items.isEmpty || x == 1) = false) (c2 : (decide (x ≤ 0) || items.isEmpty) = true) :
    Meets (Builtin.«tuple.__mul__» ⟨[.ref l, .int x u], []⟩) (fun _ R s => s.heap.get? l = some { cls := .type "tuple", dict := dd, data := .seq items n, slots := sl } ∧
      R (.ok (.ret (Value.ref s.heap.objs.size))) { s with heap := s.heap.push { cls := Value.type "tuple", data := Data.seq #[] }, toks := s.toks }) :=
  .of_wp fun prog w A R s h => by
    obtain ⟨hp, g, d, tk, os⟩ := s
    obtain ⟨hl, h⟩ := h
    have f1 := AutoSeq1.idx_int
    wp_walk using wpAny_loadPart' hl
    repeat (first
      | (refine wpAny_ite_false (decide_eq_false (by rw [c0]; exact Bool.false_ne_true)) ?_; wp_walk using wpAny_loadPart' hl)
      | (refine wpAny_ite_false (decide_eq_false (by rw [c1]; exact Bool.false_ne_true)) ?_; wp_walk using wpAny_loadPart' hl)
      | (refine wpAny_ite_true (decide_eq_true c2) ?_; wp_walk using wpAny_loadPart' hl))
    all_goals exact ⟨_, rfl, h⟩
end
section
variable {X : Cx} {t : Nm}
theorem flat_one (xs : List V) : (List.replicate (1 : Int).toNat xs).flatten = xs := by
  rw [show (1 : Int).toNat = 1 from rfl]
  simp
theorem flat_nil (n : Nat) {α : Type} : (List.replicate n ([] : List α)).flatten = [] := by
  induction n with
  | zero => rfl
  | succ n ih => rw [List.replicate_succ, List.flatten_cons, ih]; rfl
theorem flat_len {α : Type} (xs : List α) : ∀ n : Nat, (List.replicate n xs).flatten.length = xs.length * n
  | 0 => by simp
  | n + 1 => by rw [List.replicate_succ, List.flatten_cons, List.length_append, flat_len xs n, Nat.mul_succ]; omega
theorem op_repA : OpR X (binaryOp .Mult) (fun x y H Q => ∃ l k xs, x = .ref l ∧ y = .int k ∧ SqT X.K H l xs ∧ -(2 ^ 31) ≤ k ∧ k < 2 ^ 31 ∧ xs.length * k.toNat ≤ sizeLine ∧
    ((List.replicate k.toNat xs).flatten = xs → Q (.ref l) H) ∧ ∀ p, H p = none → Q (.ref p) (upd H p (.tup (List.replicate k.toNat xs).flatten))) := by
  intro pins s σ H x y v u Q I rx ry h
  obtain ⟨l, k, xs, rfl, rfl, hT, h1, h2, hz, q1, q2⟩ := h
  cases rx
  obtain ⟨tk, rfl⟩ := ry
  obtain ⟨its, r, ⟨⟨cls, dd, data, sl⟩, ho, hc, n, hd⟩, hs⟩ := I.tuple hT
  simp only at hc hd
  subst hc hd
  have hle : its.length = xs.length := r.length.symm
  have c0 : (decide (k < -(2 ^ 63)) || decide (k ≥ 2 ^ 63)) = false := by
    rw [decide_eq_false (by omega), decide_eq_false (by omega)] <;> rfl
  have road : ∀ {Q' : Value → Shared → Prop} {post : Value → Shared → Prop},
      (∀ R : Result → Shared → Prop, (∀ vv ss, post vv ss → R (.ok (.ret vv)) ss) → True) → True := fun _ => trivial
  by_cases e1 : (its.toArray.isEmpty || k == 1) = true
  · have ef : (List.replicate k.toNat xs).flatten = xs := by
      rw [Bool.or_eq_true] at e1
      rcases e1 with e1 | e1
      · have : its = [] := by
          cases its with
          | nil => rfl
          | cons a b => cases e1
        have hx : xs = [] := List.eq_nil_of_length_eq_zero (by rw [← hle, this]; rfl)
        rw [hx]
        exact flat_nil _
      · rw [beq_iff_eq.mp e1]
        exact flat_one xs
    refine wpAny_binaryOp_repeat_ref (T := "tuple") (U := "int") (by decide) ⟨_, ho, rfl⟩ (fun s' => typeIs_int s' k tk) noFill_tuple_mul F.fills_int_mul F.slot_int_rmul repeat_tuple F.slot_int_index.lookup
      (call_meets F.slot_int_rmul (typeIs_int s k tk) F.entry_int_rmul (F.args_int_rmul_2 _ _) (int_rmul_tuple k tk l its.toArray n dd sl)
        ⟨ho, rfl, ⟨_, ho, rfl⟩, call_meets F.slot_tuple_mul ⟨_, ho, rfl⟩ F.entry_tuple_mul (F.args_tuple_mul_2 _ _) (tupMul1 l its.toArray n dd sl k tk c0 e1) ⟨ho, ?_⟩⟩)
    exact ⟨.ref l, H, I, rfl, q1 ef⟩
  · have e1' : (its.toArray.isEmpty || k == 1) = false := by simpa using e1
    by_cases e2 : k ≤ 0
    · have e3 : (decide (k ≤ 0) || its.toArray.isEmpty) = true := by rw [decide_eq_true e2] <;> rfl
      refine wpAny_binaryOp_repeat_ref (T := "tuple") (U := "int") (by decide) ⟨_, ho, rfl⟩ (fun s' => typeIs_int s' k tk) noFill_tuple_mul F.fills_int_mul F.slot_int_rmul repeat_tuple F.slot_int_index.lookup
        (call_meets F.slot_int_rmul (typeIs_int s k tk) F.entry_int_rmul (F.args_int_rmul_2 _ _) (int_rmul_tuple k tk l its.toArray n dd sl)
          ⟨ho, rfl, ⟨_, ho, rfl⟩, call_meets F.slot_tuple_mul ⟨_, ho, rfl⟩ F.entry_tuple_mul (F.args_tuple_mul_2 _ _) (tupMul0 l its.toArray n dd sl k tk c0 e1' e3) ⟨ho, ?_⟩⟩)
      have ek : k.toNat = 0 := by omega
      have q3 := q2 _ (I.hok.fresh (Nat.le_refl s.heap.objs.size))
      rw [ek] at q3
      exact ⟨.ref s.heap.objs.size, _, I.laid (t' := s.toks) (o := .tup []) (fun b ob q => Heap.get?_push_of_some _ q) (Nat.le_refl _) ⟨Nat.zero_le _, [], .nil, IsTup.new _ _⟩, rfl, q3⟩
    · have he : its.toArray.isEmpty = false := by
        rw [Bool.or_eq_false_iff] at e1'
        exact e1'.1
      have c2 : (decide (k ≤ 0) || its.toArray.isEmpty) = false := by rw [he, decide_eq_false e2] <;> rfl
      have hm : ((its.toArray.size : Nat) : Int) * k ≤ sizeLine := by
        rw [List.size_toArray, hle]
        have : (k.toNat : Int) = k := Int.toNat_of_nonneg (by omega)
        rw [← this]
        exact_mod_cast hz
      have hsl : (sizeLine : Int) ≤ (2 ^ 63 - 1) / 8 := by decide
      have c4 : Builtin.Tuple.tupleTooMany (((its.toArray.size : Nat) : Int) * k) = false := by
        unfold Builtin.Tuple.tupleTooMany
        exact decide_eq_false (by omega)
      have flen : (List.replicate k.toNat its).flatten.length ≤ sizeLine := by rw [flat_len, hle]; exact hz
      refine wpAny_binaryOp_repeat_ref (T := "tuple") (U := "int") (by decide) ⟨_, ho, rfl⟩ (fun s' => typeIs_int s' k tk) noFill_tuple_mul F.fills_int_mul F.slot_int_rmul repeat_tuple F.slot_int_index.lookup
        (call_meets F.slot_int_rmul (typeIs_int s k tk) F.entry_int_rmul (F.args_int_rmul_2 _ _) (int_rmul_tuple k tk l its.toArray n dd sl)
          ⟨ho, rfl, ⟨_, ho, rfl⟩, call_meets F.slot_tuple_mul ⟨_, ho, rfl⟩ F.entry_tuple_mul (F.args_tuple_mul_2 _ _) (tuple_mulW l its.toArray n dd sl k tk c0 e1' c2 (by omega) c4 (by rw [size_rep, List.size_toArray]; exact flen)) ⟨ho, ?_⟩⟩)
      rw [size_rep]
      exact ⟨.ref s.heap.objs.size, _, I.laid (t' := s.toks) (o := .tup (List.replicate k.toNat xs).flatten) (fun b ob q => Heap.get?_push_of_some _ q) (Nat.le_refl _) ⟨by rw [flat_len]; exact hz, _, r.rep k.toNat, IsTup.new _ _⟩, rfl, q2 _ (I.hok.fresh (Nat.le_refl _))⟩
theorem foldl_cps (x : Str) : ∀ (n : Nat) (a : Array Nat), (List.replicate n x.cps).foldl (· ++ ·) a = a ++ (List.replicate n x.cps.toList).flatten.toArray
  | 0, a => by simp
  | n + 1, a => by
    rw [List.replicate_succ, List.foldl_cons, foldl_cps x n, List.replicate_succ, List.flatten_cons]
    apply Array.toList_inj.mp
    simp
/-- a text times an int -/
theorem op_repS : OpR X (binaryOp .Mult) (fun x y H Q => ∃ z k, x = .str z ∧ y = .int k ∧ -(2 ^ 31) ≤ k ∧ k < 2 ^ 31 ∧ z.length * k.toNat ≤ sizeLine ∧ Q (.str (strMul z k)) H) := by
  intro pins s σ H x y v u Q I rx ry h
  obtain ⟨z, k, rfl, rfl, h1, h2, hz, q⟩ := h
  obtain ⟨t1, rfl⟩ := rx
  obtain ⟨t2, rfl⟩ := ry
  have c0 : (decide (k < -(2 ^ 63)) || decide (k ≥ 2 ^ 63)) = false := by
    rw [decide_eq_false (by omega), decide_eq_false (by omega)] <;> rfl
  refine PySem.P.mul_str c0 (fun g1 g2 => ?_) (fun g1 g2 => ?_) ?_
  · have hk : 0 < k := by omega
    have h3 : (k.toNat : Int) = k := Int.toNat_of_nonneg (by omega)
    have h4 : (z.length : Int) * k ≤ sizeLine := by rw [← h3]; exact_mod_cast hz
    have h5 : (sizeLine : Int) ≤ 2 ^ 63 - 1 := by decide
    rw [gt_iff_lt, Int.not_lt]
    exact (Int.le_ediv_iff_mul_le hk).mpr (by omega)
  · unfold Builtin.Str.tooLong
    exact decide_eq_false (by omega)
  · by_cases g1 : k < 1
    · rw [if_pos g1]
      have e : strMul z k = Str.empty := by
        unfold strMul
        rw [show k.toNat = 0 by omega]
        rfl
      exact ⟨by decide, .str Str.empty, H, I.tok _, ⟨_, rfl⟩, by rw [← e]; exact q⟩
    · rw [if_neg g1]
      by_cases g2 : (k == 1 || z.length == 0) = true
      · rw [if_pos g2]
        have e : strMul z k = z := by
          unfold strMul
          rw [Bool.or_eq_true] at g2
          rcases g2 with g2 | g2
          · rw [beq_iff_eq.mp g2, show (1 : Int).toNat = 1 from rfl]
            simp
          · have : z.cps.toList = [] := List.eq_nil_of_length_eq_zero (by simpa [Str.length] using g2)
            rw [this, flat_nil]
            cases z
            simp at this
            simp [this]
        exact ⟨.str z, H, I, ⟨_, rfl⟩, by rw [← e]; exact q⟩
      · rw [if_neg g2]
        have e : (⟨(List.replicate k.toNat z.cps).foldl (· ++ ·) #[]⟩ : Str) = strMul z k := by
          unfold strMul
          rw [foldl_cps]
          simp
        rw [e]
        refine ⟨?_, .str (strMul z k), H, I.tok _, ⟨_, rfl⟩, q⟩
        unfold strMul Str.length
        rw [List.size_toArray, flat_len]
        exact hz
/-- the operator of an arithmetic -/
def BOp.py : BOp → Operator
  | .add => .Add | .sub => .Sub | .mul => .Mult | .mod => .Mod | .fdiv => .FloorDiv | .pow => .Pow
theorem lst_of_add {st : Store} {a b d : D} (h : addD st a b = some d) : (∃ i j, a = .int i ∧ b = .int j ∧ d = .int (i + j)) ∨ (∃ x y, a = .str x ∧ b = .str y ∧ x.length + y.length ≤ sizeLine ∧ d = .str (x ++ y)) ∨
    (∃ xs ys, a = .tup xs ∧ b = .tup ys ∧ xs.length + ys.length ≤ sizeLine ∧ d = .tup (xs ++ ys)) ∨ ∃ xs ys, lstD st a = some xs ∧ lstD st b = some ys ∧ xs.length + ys.length ≤ sizeLine ∧ d = .lst (xs ++ ys) := by
  unfold addD at h
  split at h
  · cases h; exact .inl ⟨_, _, rfl, rfl, rfl⟩
  · split at h
    · rename_i hc; cases h; exact .inr (.inl ⟨_, _, rfl, rfl, hc, rfl⟩)
    · cases h
  · split at h
    · rename_i hc; cases h; exact .inr (.inr (.inl ⟨_, _, rfl, rfl, hc, rfl⟩))
    · cases h
  · split at h
    · rename_i xs ys h1 h2
      split at h
      · rename_i hc; cases h; exact .inr (.inr (.inr ⟨_, _, h1, h2, hc, rfl⟩))
      · cases h
    · cases h
theorem Str.len_append (x y : Str) : (x ++ y).length = x.length + y.length := by
  show (Str.append x y).length = _
  unfold Str.append Str.length
  simp
theorem opr_add {fr : Bool} : OpR X (binaryOp .Add) (rOO (rz X t) fr addD) := by
  intro pins s σ H x y v u Q I rx ry ⟨φ, st, a, b, r, ha, hb, h⟩
  cases q : addD st a b with
  | none => rw [q] at h; exact h.elim
  | some d =>
    rw [q] at h
    rcases lst_of_add q with ⟨i, j, rfl, rfl, rfl⟩ | ⟨i, j, rfl, rfl, hc, rfl⟩ | ⟨xs, ys, rfl, rfl, hc, rfl⟩ | ⟨xs, ys, h1, h2, hc, rfl⟩
    · cases ha; cases hb
      exact op_add pins s σ H _ _ v u Q I rx ry ⟨i, j, rfl, rfl, h.flat r rfl⟩
    · cases ha.1; cases hb.1
      exact op_add_str pins s σ H _ _ v u Q I rx ry ⟨i, j, rfl, rfl, hc, h.flat r ⟨rfl, by rw [Str.len_append]; exact hc⟩⟩
    · obtain ⟨l, vs, rfl, t1, z1, r1⟩ := ha
      obtain ⟨m, ws, rfl, t2, z2, r2⟩ := hb
      refine op_catA pins s σ H _ _ v u Q I rx ry ⟨l, m, vs, ws, rfl, rfl, t1, t2, by rw [r1.length, r2.length]; exact hc, fun e => ?_, fun _ e => ?_, fun _ _ p hp => ?_⟩
      · refine h.flat r ⟨m, ws, rfl, t2, by rw [List.length_append]; exact hc, ?_⟩
        have := r1.append r2
        rw [e, List.nil_append] at this
        exact this
      · refine h.flat r ⟨l, vs, rfl, t1, by rw [List.length_append]; exact hc, ?_⟩
        have := r1.append r2
        rw [e, List.append_nil] at this
        exact this
      · exact h.tup r hp (r1.append r2) (by rw [List.length_append]; exact hc)
    · obtain ⟨l, vs, rfl, t1, z1, r1⟩ := lst_at r ha h1
      obtain ⟨m, ws, rfl, t2, z2, r2⟩ := lst_at r hb h2
      exact op_cat pins s σ H _ _ v u Q I rx ry ⟨l, m, vs, ws, rfl, rfl, t1, t2, by rw [r1.length, r2.length]; exact hc, fun p hp => h.lst r hp (r1.append r2) (by rw [List.length_append]; exact hc)⟩
theorem opr_mul {fr : Bool} : OpR X (binaryOp .Mult) (rOO (rz X t) fr mulD) := by
  intro pins s σ H x y v u Q I rx ry ⟨φ, st, a, b, r, ha, hb, h⟩
  unfold mulD at h
  split at h
  · split at h
    · rename_i hc
      cases ha; cases hb
      exact op_mul pins s σ H _ _ v u Q I rx ry ⟨_, _, rfl, rfl, hc, h.flat r rfl⟩
    · exact h.elim
  · split at h
    · rename_i hc
      cases ha.1; cases hb
      refine op_repS pins s σ H _ _ v u Q I rx ry ⟨_, _, rfl, rfl, hc.1, hc.2.1, hc.2.2, h.flat r ⟨rfl, ?_⟩⟩
      unfold strMul Str.length
      rw [List.size_toArray, flat_len]
      exact hc.2.2
    · exact h.elim
  · split at h
    · rename_i hc
      obtain ⟨l, vs, rfl, t1, z1, r1⟩ := ha
      cases hb
      refine op_repA pins s σ H _ _ v u Q I rx ry ⟨l, _, vs, rfl, rfl, t1, hc.1, hc.2.1, by rw [r1.length]; exact hc.2.2, fun e => ?_, fun p hp => ?_⟩
      · refine h.flat r ⟨l, vs, rfl, t1, by rw [flat_len]; exact hc.2.2, ?_⟩
        have := r1.rep (Int.toNat ‹Int›)
        rw [e] at this
        exact this
      · exact h.tup r hp (r1.rep _) (by rw [flat_len]; exact hc.2.2)
    · exact h.elim
  · split at h
    · rename_i xs h1
      split at h
      · rename_i hc
        obtain ⟨l, vs, rfl, t1, z1, r1⟩ := lst_at r ha h1
        cases hb
        exact op_rep pins s σ H _ _ v u Q I rx ry ⟨l, _, vs, rfl, rfl, t1, by omega, by omega, by rw [r1.length]; exact hc.2.2, fun p hp => h.lst r hp (r1.rep _) (by rw [flat_len]; exact hc.2.2)⟩
      · exact h.elim
    · exact h.elim
  · exact h.elim
theorem opr_bin {fr : Bool} : ∀ o : BOp, OpR X (binaryOp o.py) (rOO (rz X t) fr fun st a b => binD st o a b)
  | .add => opr_add
  | .mul => opr_mul
  | .sub => by
    intro pins s σ H x y v u Q I rx ry ⟨φ, st, a, b, r, ha, hb, h⟩
    cases a with
    | int i => cases b with
      | int j => cases ha; cases hb; exact op_sub pins s σ H _ _ v u Q I rx ry ⟨_, _, rfl, rfl, h.flat r rfl⟩
      | _ => exact h.elim
    | _ => cases b <;> exact h.elim
  | .mod => by
    intro pins s σ H x y v u Q I rx ry ⟨φ, st, a, b, r, ha, hb, h⟩
    cases a with
    | int i => cases b with
      | int j =>
        simp only [binD] at h
        split at h
        · exact h.elim
        · rename_i hc
          cases ha; cases hb; exact op_modN pins s σ H _ _ v u Q I rx ry ⟨_, _, rfl, rfl, hc, h.flat r rfl⟩
      | _ => exact h.elim
    | _ => cases b <;> exact h.elim
  | .fdiv => by
    intro pins s σ H x y v u Q I rx ry ⟨φ, st, a, b, r, ha, hb, h⟩
    cases a with
    | int i => cases b with
      | int j =>
        simp only [binD] at h
        split at h
        · rename_i hc
          cases ha; cases hb; exact op_fdivN pins s σ H _ _ v u Q I rx ry ⟨_, _, rfl, rfl, hc, h.flat r rfl⟩
        · exact h.elim
      | _ => exact h.elim
    | _ => cases b <;> exact h.elim
  | .pow => by
    intro pins s σ H x y v u Q I rx ry ⟨φ, st, a, b, r, ha, hb, h⟩
    cases a with
    | int i => cases b with
      | int j =>
        simp only [binD] at h
        split at h
        · rename_i hc
          cases ha; cases hb; exact op_pow pins s σ H _ _ v u Q I rx ry ⟨_, _, rfl, rfl, ⟨hc.1, by omega, hc.2.2⟩, h.flat r rfl⟩
        · exact h.elim
      | _ => exact h.elim
    | _ => cases b <;> exact h.elim
end
end Cip

set_option maxHeartbeats 4000000
/-! Cip6: places, slices, built-in calls, methods, by values. -/
namespace Cip
open PySem PySem.Spec PyProof.Rows L2

section
variable {T : Rz} {φ : Fi} {H : Hp} {st : Store}
theorem atI_reps {ds : List D} {vs : List V} {i : Int} {d : D} (h : Reps T.K φ H ds vs) (e : L2.atI ds i = some d) : ∃ v, L2.atI vs i = some v ∧ Rep T.K φ H d v := by
  unfold L2.atI at e ⊢
  rw [h.length]
  cases q : L2.ixN ds.length i with
  | none => rw [q] at e; cases e
  | some j =>
    rw [q] at e
    obtain ⟨v, h1, h2⟩ := h.get (show ds[j]? = some d from e)
    exact ⟨v, h1, h2⟩
theorem cut_reps {ds : List D} {vs : List V} (h : Reps T.K φ H ds vs) (lo hi : Option Int) : Reps T.K φ H (cutL ds lo hi) (cutV vs lo hi) := by
  unfold cutL cutV
  rw [h.length]
  exact (h.drop _).take _
theorem cut_len {ds : List D} (lo hi : Option Int) : (cutL ds lo hi).length ≤ ds.length := by
  unfold cutL
  rw [List.length_take, List.length_drop]
  omega
theorem cut_whole {α : Type} {xs : List α} {lo hi : Option Int} (h : HT.sIx xs.length 0 lo = 0 ∧ HT.sIx xs.length xs.length hi = xs.length) : cutL xs lo hi = xs := by
  unfold cutL
  rw [h.1, h.2, List.drop_zero, Nat.sub_zero, List.take_length]
end
section
variable {X : Cx} {t : Nm}
theorem ixr_idx : IxR X (rOO (rz X t) false idxD) := by
  intro value slice pins s σ H x y v u Q I rx ry ⟨φ, st, a, b, r, ha, hb, h⟩ hs
  unfold idxD at h
  split at h
  · rename_i z i
    cases q : ixD z.cps.toList i with
    | none => rw [q] at h; exact h.elim
    | some c =>
      rw [q] at h
      have hz := ha.2
      cases ha.1; cases hb
      exact ix_str value slice pins s σ H _ _ v u Q I rx ry ⟨z, i, c, rfl, rfl, hz, q, h.flat r ⟨rfl, by show 1 ≤ sizeLine; decide⟩⟩ hs
  · rename_i i _
    cases hb
    split at h
    · rename_i xs h1
      cases q : ixD xs i with
      | none => rw [q] at h; exact h.elim
      | some d =>
        rw [q] at h
        obtain ⟨p, vs, rfl, h2, h3, h4⟩ := seq_at r ha h1
        obtain ⟨w, h5, h6⟩ := atI_reps h4 q
        rcases h2 with h2 | h2
        · exact ix_list value slice pins s σ H _ _ v u Q I rx ry ⟨p, vs, i, w, rfl, rfl, h2, h5, h.same r h6⟩ hs
        · exact ix_tup value slice pins s σ H _ _ v u Q I rx ry ⟨p, vs, i, w, rfl, rfl, h2, h5, h.same r h6⟩ hs
    · exact h.elim
  · exact h.elim
theorem slr_slc {fr : Bool} : SlR X (fun x lo hi H Q => ∃ φ st d, Rel (rz X t) φ H st ∧ Rep X.K φ H d x ∧ OutO (rz X t) fr φ H st (slcD st d lo hi) Q) := by
  intro pins s σ H x v vl vu lo hi sl Q I rx hs pl pu ⟨φ, st, d, r, hd, h⟩
  unfold slcD at h
  split at h
  · have hz := hd.2
    cases hd.1
    refine sl_str pins s σ H _ v vl vu lo hi sl Q I rx hs pl pu ⟨_, rfl, hz, h.flat r ⟨rfl, ?_⟩⟩
    unfold cutS Str.length
    rw [List.size_toArray, List.length_take, List.length_drop, Array.length_toList]
    exact Nat.le_trans (Nat.min_le_right _ _) (Nat.le_trans (Nat.sub_le _ _) hz)
  · obtain ⟨a, vs, rfl, h1, h2, h3⟩ := hd
    refine sl_tupA pins s σ H _ v vl vu lo hi sl Q I rx hs pl pu ⟨a, vs, rfl, h1, fun e => ?_, fun _ p hp => h.tup r hp (cut_reps h3 lo hi) (Nat.le_trans (cut_len lo hi) h2)⟩
    rw [h3.length] at e
    rw [cut_whole e] at h
    exact h.flat r ⟨a, vs, rfl, h1, h2, h3⟩
  · split at h
    · rename_i xs h1
      obtain ⟨p, vs, rfl, h2, h3, h4⟩ := lsq_at r hd h1
      exact sl_list pins s σ H _ v vl vu lo hi sl Q I rx hs pl pu ⟨p, vs, rfl, h2, fun q hq => h.lst r hq (cut_reps h4 lo hi) (Nat.le_trans (cut_len lo hi) h3)⟩
    · exact h.elim
/-! ### built-in calls -/
/-- a built-in call of one value -/
def C1 (X : Cx) (t : Nm) (f : Value) (g : Store → D → Option D) : Prop :=
  ∀ (fr : Bool) (pins : List (Addr × Obj)) (s : Shared) (σ : L2.St) (H : Hp) (v : V) (u : Value) (Q : VK) (φ : Fi) (st : Store) (d : D), Inv X pins σ H s → Vals [v] [u] → Rel (rz X t) φ H st → Rep X.K φ H d v → OutO (rz X t) fr φ H st (g st d) Q →
    wpAny (model X.prog X.w) X.A (call f [u]) (EP X pins σ Q) X.xe s
theorem c1_len : C1 X t (.builtin "len") fun st d => bi1 st .len d := by
  intro fr pins s σ H v u Q φ st d I ru r hd h
  simp only [bi1] at h
  cases q : lenD st d with
  | none => rw [q] at h; exact h.elim
  | some n =>
    rw [q] at h
    have hq : Q (.int n) H := h.flat r rfl
    unfold lenD at q
    split at q
    · cases q
      have hz := hd.2
      cases hd.1
      exact call_len_str pins s σ H _ _ Q I ru ⟨_, rfl, hz, hq⟩
    · cases q
      obtain ⟨a, kvs, rfl, h1, h2, h3, _⟩ := hd
      rw [← h3, List.length_map] at hq
      cases ru with
      | cons r1 r2 => cases r1; exact d_len I (.inl h1) fun t s' I' => ⟨.int kvs.length, H, I', ⟨t, rfl⟩, hq⟩
    · split at q
      · rename_i ys h1
        cases q
        obtain ⟨p, vs, rfl, h2, h3, h4⟩ := seq_at r hd h1
        rw [← h4.length] at hq
        exact call_len_seq pins s σ H _ _ Q I ru ⟨p, vs, rfl, h2, hq⟩
      · split at q
        · split at q
          · cases q
            rename_i k _ lk ks ws hk
            obtain ⟨a, e1, e2⟩ := hd
            cases e2
            obtain ⟨b, e3, kvs, e4, e5, _⟩ := r.at_ _ _ hk
            rw [e1] at e3; cases e3
            rw [← e5, List.length_map] at hq
            have e6 : Rd H a (.dK kvs) := by
              cases lk with
              | true => exact .inr e4
              | false => exact .inl e4
            cases ru with
            | cons r1 r2 => cases r1; exact d_len I e6 fun t s' I' => ⟨.int kvs.length, H, I', ⟨t, rfl⟩, hq⟩
          · cases q
        · cases q
theorem c1_abs : C1 X t (.builtin "abs") fun st d => bi1 st .abs d := by
  intro fr pins s σ H v u Q φ st d I ru r hd h
  cases d with
  | int i => cases hd; exact call_abs pins s σ H _ _ Q I ru ⟨i, rfl, h.flat r rfl⟩
  | _ => exact h.elim
theorem c1_int : C1 X t (.type "int") fun st d => bi1 st .int d := by
  intro fr pins s σ H v u Q φ st d I ru r hd h
  cases d with
  | int i => cases hd; exact call_int1 pins s σ H _ _ Q I ru (.inl ⟨i, rfl, h.flat r rfl⟩)
  | bl b => cases hd; exact call_int1 pins s σ H _ _ Q I ru (.inr ⟨b, rfl, h.flat r rfl⟩)
  | _ => exact h.elim
theorem showI_fits {i : Int} {x : Str} (h : showI i = some x) : i.natAbs.log2 < 1920 ∧ x = toString i ∧ x.length ≤ sizeLine := by
  unfold showI at h
  split at h
  · rename_i hc
    cases h
    exact ⟨hc, rfl, int_text_fits hc⟩
  · cases h
theorem c1_str : C1 X t (.type "str") fun st d => bi1 st .str d := by
  intro fr pins s σ H v u Q φ st d I ru r hd h
  cases d with
  | int i =>
    simp only [bi1, strD] at h
    cases q : showI i with
    | none => rw [q] at h; exact h.elim
    | some x =>
      rw [q] at h
      obtain ⟨h1, h2, h3⟩ := showI_fits q
      cases hd
      subst h2
      exact call_str_int pins s σ H _ _ Q I ru ⟨i, rfl, h1, h.flat r ⟨rfl, h3⟩⟩
  | bl b =>
    cases hd
    have h2 : ((if b then "True" else "False" : Str)).length ≤ sizeLine := by cases b <;> decide
    cases ru with
    | cons r1 r2 =>
      cases r2
      cases r1
      exact PySem.P.str_of_bool ⟨.str _, H, I.tok _, ⟨_, rfl⟩, h.flat r ⟨rfl, h2⟩⟩
  | str x =>
    have hz := hd.2
    cases hd.1
    exact SkE.call_str_str pins s σ H _ _ Q I ru ⟨x, rfl, h.flat r ⟨rfl, hz⟩⟩
  | _ => exact h.elim
theorem c1_repr (hg : X.A.guards = some []) (hu : X.A.units + 110 < cLine) : C1 X t (.builtin "repr") fun st d => bi1 st .repr d := by
  intro fr pins s σ H v u Q φ st d I ru r hd h
  simp only [bi1, reprD] at h
  cases q : py st d with
  | none => rw [q] at h; exact h.elim
  | some p =>
    rw [q] at h
    simp only at h
    split at h
    · rename_i hc
      simp only [Bool.and_eq_true, decide_eq_true_eq, Bool.not_eq_true', Bool.and_eq_false_iff] at hc
      obtain ⟨⟨⟨h1, h2⟩, h3⟩, h4⟩ := hc
      have hq : Q (.str p.shown) H := h.flat r ⟨rfl, h3⟩
      cases ru with
      | cons ru' _ =>
        obtain ⟨as, a1, a2⟩ := rd_py I r q hd ru'
        cases a1 with
        | none => exact PySem.P.repr_of_none ⟨.str _, H, I.tok _, ⟨_, rfl⟩, hq⟩
        | bool b => exact PySem.P.repr_of_bool ⟨.str _, H, I.tok _, ⟨_, rfl⟩, hq⟩
        | int i tk => exact PySem.P.repr_of_int (by simpa [PyData.showable] using h2) ⟨.str _, H, I.tok _, ⟨_, rfl⟩, hq⟩
        | str x tk => exact PySem.P.repr_of_str ⟨.str _, H, I.tok _, ⟨_, rfl⟩, hq⟩ h3
        | list e1 e2 e3 e4 => exact repr_of_reads' (.list e1 e2 e3 e4) h2 (fun z => by rcases h1 with h1 | h1; · rw [h1] at z; cases z
                                                                                       · exact a2 h1) hg (by omega) (fun _ _ e => e) (fun h' u tk hk => ⟨.str _, H, I.kept hk, ⟨_, rfl⟩, hq⟩) h3
        | tuple e1 e2 e3 e4 => exact repr_of_reads' (.tuple e1 e2 e3 e4) h2 (fun z => by rcases h1 with h1 | h1; · rw [h1] at z; cases z
                                                                                         · exact a2 h1) hg (by omega) (fun _ _ e => e) (fun h' u tk hk => ⟨.str _, H, I.kept hk, ⟨_, rfl⟩, hq⟩) h3
        | dict e1 e2 e3 e4 e5 => exact repr_of_reads' (.dict e1 e2 e3 e4 e5) h2 (fun z => by rcases h1 with h1 | h1; · rw [h1] at z; cases z
                                                                                             · exact a2 h1) hg (by omega) (fun _ _ e => e) (fun h' u tk hk => ⟨.str _, H, I.kept hk, ⟨_, rfl⟩, hq⟩) h3
    · exact h.elim
theorem sumL_ints {T : Rz} {φ : Fi} {H : Hp} : ∀ {xs : List D} {vs : List V} {n : Int}, Reps T.K φ H xs vs → sumL xs = some n → ∃ ns : List Int, vs = ns.map V.int ∧ ns.sum = n
  | [], _, n, h, e => by cases h; cases e; exact ⟨[], rfl, rfl⟩
  | x :: xs, _, n, ⟨v, r, h1, h2, h3⟩, e => by
    subst h1
    cases x with
    | int i =>
      simp only [sumL] at e
      cases q : sumL xs with
      | none => rw [q] at e; cases e
      | some m =>
        rw [q] at e
        cases e
        obtain ⟨ns, e1, e2⟩ := sumL_ints h3 q
        cases h2
        exact ⟨i :: ns, by rw [e1]; rfl, by rw [List.sum_cons, e2]⟩
    | _ => cases e
theorem bools_bls {T : Rz} {φ : Fi} {H : Hp} : ∀ {xs : List D} {vs : List V} {bs : List Bool}, Reps T.K φ H xs vs → bools xs = some bs → vs = bs.map V.bl
  | [], _, n, h, e => by cases h; cases e; rfl
  | x :: xs, _, n, ⟨v, r, h1, h2, h3⟩, e => by
    subst h1
    cases x with
    | bl i =>
      simp only [bools] at e
      cases q : bools xs with
      | none => rw [q] at e; cases e
      | some m =>
        rw [q] at e
        cases e
        cases h2
        rw [bools_bls h3 q]
        rfl
    | _ => cases e
theorem strs_strs {T : Rz} {φ : Fi} {H : Hp} : ∀ {xs : List D} {vs : List V} {bs : List Str}, Reps T.K φ H xs vs → strsD xs = some bs → vs = bs.map V.str
  | [], _, n, h, e => by cases h; cases e; rfl
  | x :: xs, _, n, ⟨v, r, h1, h2, h3⟩, e => by
    subst h1
    cases x with
    | str i =>
      simp only [strsD] at e
      cases q : strsD xs with
      | none => rw [q] at e; cases e
      | some m =>
        rw [q] at e
        cases e
        cases h2.1
        rw [strs_strs h3 q]
        rfl
    | _ => cases e
theorem c1_sum (hc : X.calm = true) : C1 X t (.builtin "sum") fun st d => bi1 st .sum d := by
  intro fr pins s σ H v u Q φ st d I ru r hd h
  simp only [bi1] at h
  cases q : lstD st d with
  | none => rw [q] at h; exact h.elim
  | some xs =>
    rw [q] at h
    simp only [Option.bind_some] at h
    cases q2 : sumL xs with
    | none => rw [q2] at h; exact h.elim
    | some n =>
      rw [q2] at h
      obtain ⟨p, vs, rfl, h2, h3, h4⟩ := lst_at r hd q
      obtain ⟨ns, rfl, rfl⟩ := sumL_ints h4 q2
      exact cr_sum hc pins s σ H _ _ Q I ru ⟨p, ns, rfl, .inl (.inl h2), h.flat r rfl⟩
theorem c1_all (hc : X.calm = true) : C1 X t (.builtin "all") fun st d => bi1 st .all d := by
  intro fr pins s σ H v u Q φ st d I ru r hd h
  simp only [bi1] at h
  cases q : lstD st d with
  | none => rw [q] at h; exact h.elim
  | some xs =>
    rw [q] at h
    simp only [Option.bind_some] at h
    cases q2 : bools xs with
    | none => rw [q2] at h; exact h.elim
    | some n =>
      rw [q2] at h
      obtain ⟨p, vs, rfl, h2, h3, h4⟩ := lst_at r hd q
      obtain rfl := bools_bls h4 q2
      exact cr_all hc pins s σ H _ _ Q I ru ⟨p, n, rfl, .inl (.inl h2), h.flat r rfl⟩
theorem c1_any (hc : X.calm = true) : C1 X t (.builtin "any") fun st d => bi1 st .any d := by
  intro fr pins s σ H v u Q φ st d I ru r hd h
  simp only [bi1] at h
  cases q : lstD st d with
  | none => rw [q] at h; exact h.elim
  | some xs =>
    rw [q] at h
    simp only [Option.bind_some] at h
    cases q2 : bools xs with
    | none => rw [q2] at h; exact h.elim
    | some n =>
      rw [q2] at h
      obtain ⟨p, vs, rfl, h2, h3, h4⟩ := lst_at r hd q
      obtain rfl := bools_bls h4 q2
      exact cr_any hc pins s σ H _ _ Q I ru ⟨p, n, rfl, .inl (.inl h2), h.flat r rfl⟩
theorem c1_tuple : C1 X t (.type "tuple") fun st d => bi1 st .tuple d := by
  intro fr pins s σ H v u Q φ st d I ru r hd h
  simp only [bi1] at h
  cases q : seqD st d with
  | none => rw [q] at h; exact h.elim
  | some xs =>
    rw [q] at h
    obtain ⟨p, vs, rfl, h2, h3, h4⟩ := seq_at r hd q
    refine call_tuple_of pins s σ H _ _ Q I ru ⟨p, vs, rfl, ?_⟩
    rcases h2 with h2 | h2
    · exact .inl ⟨h2, fun l hl => h.tup r hl h4 h3⟩
    · exact .inr ⟨h2, h.flat r ⟨p, vs, rfl, h2, h3, h4⟩⟩
end
end Cip

set_option maxHeartbeats 4000000
/-! Cip7: defs and calls, where no repr runs. -/
namespace Cip
open PySem PySem.Spec PyProof.Rows L2

/-- as FnOk, called where no guard stands -/
structure FnG (P : Program) (w : World) (K : PySem.W.Frag) (mg : Str → Option Value) (base : Heap) (k : Nat) (f : Addr) (fd : FuncData) (ps : List Str) (sp : Sp) : Prop where
  len : ∀ vs H Q E, sp vs H Q E → vs.length = ps.length
  run : ∀ (A : Around) (outer : List PySem.Env) (s : Shared) (H : Hp) (args : Args) (us : List Value) (vs : List V) (Q : VK) (E : XK), A.guards = some [] → Room k A → Env0 P w K mg base A outer s H → BindsTo s fd args (ps.zip us) → Vals vs us → sp vs H Q E →
    codeAny (model P w) A (.call (.ref f) args) (CR (L2.CX P w) outer P w H s Q E) s
section
variable {P : Program} {w : World} {K : PySem.W.Frag} {mg : Str → Option Value} {base : Heap}
theorem FnG.mono {j k : Nat} {f : Addr} {fd : FuncData} {ps : List Str} {sp : Sp} (F : FnG P w K mg base j f fd ps sp) (h : j ≤ k) : FnG P w K mg base k f fd ps sp :=
  ⟨F.len, fun A outer s H args us vs Q E hg hr => F.run A outer s H args us vs Q E hg (hr.mono h)⟩
/-- a def by its body -/
theorem fng_of {k : Nat} {f : Addr} {name qual : Str} {params : Arguments} {body : List Stmt} {scope : Scope} {dV kV doc pm cdv ct oc : Value} {an od : Option Addr}
    {osl : Array (Option Value)} {N ps : List Str} {sp : Sp} (lk : K.lookup f = some ⟨oc, od, .func (PySem.W.fnOf name qual params body scope dV kV doc pm an cdv ct), osl⟩) (hcd : PySem.W.codeIn K cdv qual = true) (S : FnScope N ps scope)
    (len : ∀ vs H Q E, sp vs H Q E → vs.length = ps.length)
    (hbody : ∀ (A : Around) (outer : List PySem.Env) (s : Shared) (H : Hp) (vs : List V) (Q : VK) (E : XK), (A.deeper (envOfC qual scope s.heap.objs.size f cdv)).guards = some [] → Room k (A.deeper (envOfC qual scope s.heap.objs.size f cdv)) → sp vs H Q E →
      ∃ t, PSs (cxOf (L2.CX P w) P w K mg base N qual scope f cdv A outer s H E) body t ∧ t { nx := fun _ H' => Q .non H', rt := Q } (start N vs) H) :
    FnG P w K mg base (k + 1) f (PySem.W.fnOf name qual params body scope dV kV doc pm an cdv ct) ps sp := by
  constructor
  · exact len
  · intro A outer s H args us vs Q E hg hr e0 hb r hsp
    have hl := len _ _ _ _ hsp
    have KX : K.In s.heap := e0.mod.kin.keeps fun b o e => (e0.bs b o e).1
    have lim : s.heap.NoLimit := e0.mod.nolimit.keeps fun b o e => (e0.bs b o e).1
    have kinds : ∀ y ∈ ps.zip us, scope.names.lookup y.1 = some .local ∨ (scope.names.lookup y.1 = some .cell ∧ ((cellsFrom (s.heap.objs.size + 1) scope.names []).lookup y.1).isSome = true) := by
      rintro ⟨n, v⟩ hy
      rcases S.par n (List.of_mem_zip hy).1 with q | q
      · exact .inl q
      · exact .inr ⟨q, PySem.W.cellsFrom_some _ _ _ (.inl q)⟩
    apply codeAny_call_function hr.depth (KX _ _ lk) rfl S.co S.gen rfl (PySem.W.codeRec_of KX hcd) (hb _ _ _ _ _)
    apply wpAny_newFunctionEnv_cells S.kind kinds
    intro env he s1 x
    subst he
    refine ⟨lim.keeps x.toInCall.keep, codeAny_func ?_⟩
    obtain ⟨tt, ht, hq⟩ := hbody A outer s H vs Q E hg (hr.deeper _) hsp
    have I : Inv (cxOf (L2.CX P w) P w K mg base N qual scope f cdv A outer s H E) [] (start N vs) H s1 := inv_start S hr.hd e0 hl r x
    apply wpAny_mono (ht.run [] s1 (start N vs) H _ I hq) _ (fun e s' hs => hs)
    intro fl s' hs
    cases fl with
    | ret u =>
      obtain ⟨v, σ', H', J, rv, q⟩ := hs
      exact ⟨v, H', J.os, J.bare, J.base, J.hok, rv, q⟩
    | next =>
      obtain ⟨σ', H', J, q⟩ := hs
      exact ⟨.non, H', J.os, J.bare, J.base, J.hok, rfl, q⟩
    | brk => exact hs.elim fun _ z => z.elim fun _ z => z.2.elim
    | cont => exact hs.elim fun _ z => z.elim fun _ z => z.2.elim
end

section
variable {X : Cx} {k : Nat} {f : Addr} {fd : FuncData} {ps : List Str} {sp : Sp} {W : WX}
/-- the callee runs; what it raises is in our air -/
theorem run_fng {pins : List (Addr × Obj)} {σ : L2.St} {H : Hp} {s : Shared} {Q : VK} {us : List Value} {vs : List V} (F : FnG X.prog X.w X.K X.mg X.base k f fd ps sp) (hg : X.A.guards = some []) (hr : Room k X.A) (hb : Binds X.K fd ps [])
    (tk : Takes X W) (I : Inv X pins σ H s) (r : Vals vs us) (h : sp vs H Q fun cls d H' => W cls d σ H') : wpAny (model X.prog X.w) X.A (call (.ref f) us) (EP X pins σ Q) X.xe s := by
  have hl : us.length = ps.length := by rw [← r.length]; exact F.len _ _ _ _ h
  have hbs := hb s us I.kIn (by rw [List.append_nil]; exact hl)
  rw [List.append_nil] at hbs
  apply wpAny_call (codeAny_mono (F.run X.A X.stack s H ⟨us, []⟩ us vs Q _ hg hr I.env0 hbs r h) _)
  intro r s' hq
  cases r with
  | error e => exact tk e s' (XE.of_call I (fun _ _ _ z => z) hq)
  | ok fl =>
    cases fl with
    | ret u => exact I.after hq
    | next => exact False.elim hq
    | brk => exact False.elim hq
    | cont => exact False.elim hq
/-- .. where nothing is let out -/
theorem Takes.none {X : Cx} : Takes X (fun _ _ _ _ => False) := takes0
end

/-- what a def of ours promises -/
def spOf (K : PySem.W.Frag) (t : Nm) (cf : CF) (f np : Nat) : Sp := fun vs H Q E => ∃ φ ds st, Rel ⟨K, t.cls, t.fnm⟩ φ H st ∧ Reps K φ H ds vs ∧ ds.length = np ∧
  match cf f ds st with
  | .ok d st' => ∀ φ' H' v, Rel ⟨K, t.cls, t.fnm⟩ φ' H' st' → Ext φ H φ' H' → Rep K φ' H' d v → Q v H'
  | .ex c fs st' => ∀ φ' H' cls dd, Rel ⟨K, t.cls, t.fnm⟩ φ' H' st' → Ext φ H φ' H' → XV ⟨K, t.cls, t.fnm⟩ φ' H' c fs cls dd → E cls dd H'
  | .stk => False
end Cip

set_option maxHeartbeats 4000000
/-! Cip8: a text of the small language held against a text of the row. -/
namespace Cip
open PySem PySem.Spec PyProof.Rows L2

/-- names of the row -/
structure Pn where
  con : Nat → Str
  has : Nat → Bool
  fn : Nat → Str
  fld : Nat → Str
  cls : Nat → Str
  mth : Nat → Str
def kindB (sc : Scope) (x : Str) (k : NameKind) : Bool := match sc.names.lookup x with
  | some k' => k' == k
  | none => false
theorem kindB_ok {sc : Scope} {x : Str} {k : NameKind} (h : kindB sc x k = true) : sc.names.lookup x = some k := by
  unfold kindB at h
  split at h
  · rename_i k' e
    rw [e, beq_iff_eq.mp h]
  · cases h
def nm0 (x : Str) : Bool := !(x == ("__debug__" : Str)) && !(x == ("__classdict__" : Str)) && !(x == ("super" : Str)) && !(x == ("__name__" : Str))
def visB (sc : Scope) (x : Str) : Bool := kindB sc x .local || kindB sc x .cell || kindB sc x .free
def glB (sc : Scope) (x : Str) : Bool := kindB sc x .globalImplicit && nm0 x
theorem visB_ok {sc : Scope} {x : Str} (h : visB sc x = true) : Vis sc x := by
  unfold visB at h
  rw [Bool.or_eq_true, Bool.or_eq_true] at h
  rcases h with (h | h) | h
  · exact .inl (kindB_ok h)
  · exact .inr (.inl (kindB_ok h))
  · exact .inr (.inr (kindB_ok h))
theorem nm0_d {x : Str} (h : nm0 x = true) : (x == ("__debug__" : Str)) = false := by
  unfold nm0 at h
  simp only [Bool.and_eq_true, Bool.not_eq_true'] at h
  exact h.1.1.1
theorem nm0_c {x : Str} (h : nm0 x = true) : (x == ("__classdict__" : Str)) = false := by
  unfold nm0 at h
  simp only [Bool.and_eq_true, Bool.not_eq_true'] at h
  exact h.1.1.2
theorem nm0_n {x : Str} (h : nm0 x = true) : x ≠ "__name__" := by
  unfold nm0 at h
  simp only [Bool.and_eq_true, Bool.not_eq_true'] at h
  intro e
  subst e
  exact absurd h.2 (by decide)

/-! ### the heads that stand in our texts -/
def headOk : Expr → Bool
  | .Starred _ _ => false
  | .Slice _ _ _ _ => false
  | .Set _ _ _ => false
  | _ => true
theorem head_star {x : Expr} {es : List Expr} {env : PySem.Env} (h : headOk x = true) : starEach (x :: es) env = (false, eval x env) :: starEach es env := by
  cases x <;> first | rfl | cases h
theorem head_ix {x : Expr} (h : headOk x = true) : PlainIx x := by
  intro o i
  cases x <;> first | rfl | cases h
theorem head_set {x : Expr} {env : PySem.Env} (h : headOk x = true) (v : Value) : foldedSetIterable x env v = pure v := by
  cases x <;> first | rfl | cases h
theorem head_marks {x : Expr} {op : CmpOp} (h : headOk x = true) : behindInMarks op x = false := by
  cases x <;> first | rfl | cases h
/-- the receiver of an attribute -/
def headA : Expr → Bool
  | .Name _ _ => true
  | .Attribute _ _ _ => true
  | .Subscript _ _ _ => true
  | .Constant _ _ _ => true
  | .Call _ (_ :: _) [] _ => true
  | .Call (.Attribute _ _ _) [] [] _ => true
  | .Tuple _ _ _ => true
  | _ => false
theorem headA_ok {x : Expr} {f : Str} {env : PySem.Env} (h : headA x = true) : attributeBase x f env (eval x env) = eval x env := by
  cases x <;> first | rfl | skip
  rename_i fn as ks pos
  cases as with
  | cons a r => cases fn <;> rfl
  | nil => cases fn <;> first | rfl | (cases ks <;> first | rfl | cases h)
def noStars (es : List Expr) : Bool := es.all headOk
theorem noStars_any {es : List Expr} {env : PySem.Env} {pos : Pos} (h : noStars es = true) : (backTo pos (starEach es env)).any (·.1) = false := by
  induction es with
  | nil => rfl
  | cons e r ih =>
    have h' : (headOk e && noStars r) = true := h
    rw [Bool.and_eq_true] at h'
    rw [head_star h'.1]
    show (false || (backTo pos (starEach r env)).any (·.1)) = false
    rw [ih h'.2] <;> rfl

/-! ### targets -/
mutual
def chkT (N : List Str) (sc : Scope) (fn : Str → Bool) : Tg → Expr → Bool
  | .nm i, .Name x _ => decide (N[i]? = some x) && ((kindB sc x .local) || (kindB sc x .cell && fn x))
  | .tup ts, .Tuple es _ _ => noStars es && chkTs N sc fn ts es
  | _, _ => false
def chkTs (N : List Str) (sc : Scope) (fn : Str → Bool) : List Tg → List Expr → Bool
  | [], [] => true
  | t :: ts, e :: es => chkT N sc fn t e && chkTs N sc fn ts es
  | _, _ => false
end
mutual
def Tg.vars : Tg → List Nat
  | .nm i => [i]
  | .tup ts => Tg.varss ts
def Tg.varss : List Tg → List Nat
  | [] => []
  | t :: ts => Tg.vars t ++ Tg.varss ts
end
def Tg.isTup : Tg → Bool
  | .tup _ => true
  | _ => false

def BI.nm : BI → Str
  | .len => "len" | .abs => "abs" | .int => "int" | .str => "str" | .repr => "repr" | .sum => "sum" | .all => "all" | .any => "any" | .max2 => "max" | .min2 => "min"
  | .tuple => "tuple" | .list => "list" | .sorted => "sorted" | .set => "set" | .lenset => "len"
def Ty.nm : Ty → Str
  | .int => "int" | .str => "str" | .bool => "bool" | .tuple => "tuple" | .list => "list" | .dict => "dict" | .cls _ => "" | .verr => "ValueError"
def BM.nm : BM → Str
  | .join => "join" | .split => "split" | .upper => "upper" | .count => "count" | .rstrip => "rstrip" | .tindex => "index" | .lindex => "index" | .sindex => "index"
/-- how many arguments; which are served -/
def BM.ar : BM → Nat
  | .join => 1 | .split => 1 | .upper => 0 | .count => 1 | .rstrip => 0 | .tindex => 1 | .lindex => 1 | .sindex => 1
def BM.okB : BM → E → Bool
  | .lindex, _ => false
  | .tindex, .con _ => true
  | .tindex, .tup _ => true
  | .tindex, _ => false
  | _, _ => true

/-- it makes a list or a dict that no one else has -/
def E.fresh : E → Bool
  | .lst _ => true
  | .lc _ _ _ _ _ _ => true
  | .dct _ => true
  | .bi .list _ => true
  | .bin _ _ _ => true
  | .slc _ _ _ => true
  | .bm .split _ _ => true
  | .rev _ => true
  | .ite _ a b => a.fresh && b.fresh
  | _ => false

/-! ### the forms of the row's text -/
abbrev CkE := Expr → Bool
abbrev CkS := List Expr → Bool
def kNon : CkE := fun x => match x with | .Constant .none _ _ => true | _ => false
def kBl (b : Bool) : CkE := fun x => match x with | .Constant (.bool c) _ _ => b == c | _ => false
def kInt (i : Int) : CkE := fun x => match x with | .Constant (.int j) _ _ => decide (i = j) | _ => false
def kStr (z : Str) : CkE := fun x => match x with | .Constant (.str y) _ _ => decide (z = y) && decide (z.length ≤ sizeLine) | _ => false
def kVar (N : List Str) (sc : Scope) (i : Nat) : CkE := fun x => match x with | .Name y _ => decide (N[i]? = some y) && visB sc y && nm0 y | _ => false
def kCon (sc : Scope) (n : Str) : CkE := fun x => match x with | .Name y _ => decide (n = y) && glB sc y | _ => false
def kBin (o : Operator) (a b : CkE) : CkE := fun x => match x with | .BinOp x op y _ => decide (o = op) && a x && b y | _ => false
def kUn (o : UnaryOp) (a : CkE) : CkE := fun x => match x with | .UnaryOp op x _ => decide (o = op) && a x | _ => false
def kCmp (o : CmpOp) (a b : CkE) : CkE := fun x => match x with | .Compare x [op] [y] _ => decide (o = op) && a x && b y | _ => false
def kChn (o p : CmpOp) (a b c : CkE) : CkE := fun x => match x with | .Compare x [op, op'] [y, z] _ => decide (o = op) && decide (p = op') && a x && b y && c z | _ => false
def kIsn (a : CkE) : CkE := fun x => match x with | .Compare x [.Is] [.Constant .none _ _] _ => a x | _ => false
def kNotn (a : CkE) : CkE := fun x => match x with | .Compare x [.IsNot] [.Constant .none _ _] _ => a x | _ => false
def kBoo (o : BoolOp) (as : CkS) : CkE := fun x => match x with | .BoolOp op xs _ => decide (o = op) && as xs | _ => false
def kIte (c a b : CkE) : CkE := fun x => match x with | .IfExp x y z _ => c x && a y && b z | _ => false
def kTup (as : CkS) : CkE := fun x => match x with | .Tuple xs _ _ => as xs | _ => false
def kLst (as : CkS) : CkE := fun x => match x with | .List xs _ => as xs | _ => false
def kDct : CkE := fun x => match x with | .Dict [] [] _ => true | _ => false
def kIdx (a b : CkE) : CkE := fun x => match x with | .Subscript x y _ => a x && b y | _ => false
def kOpt (nul : Bool) (a : CkE) : Option Expr → Bool := fun x => match x with | none => nul | some y => !nul && a y
def kSlc (a : CkE) (l h : Option Expr → Bool) : CkE := fun x => match x with | .Subscript x (.Slice lo hi none _) _ => a x && l lo && h hi | _ => false
def kCall (sc : Scope) (n : Str) (as : CkS) : CkE := fun x => match x with | .Call (.Name x _) xs [] _ => decide (n = x) && glB sc x && as xs | _ => false
def kMeth (m : Str) (a : CkE) (as : CkS) : CkE := fun x => match x with | .Call (.Attribute x m' ap) xs [] cp => decide (m = m') && headA x && (ap.endLine == cp.line) && a x && as xs | _ => false
def kFld (f : Str) (a : CkE) : CkE := fun x => match x with | .Attribute x g _ => decide (f = g) && headA x && a x | _ => false
def kIsi (sc : Scope) (ty : Str) (a : CkE) : CkE := fun x => match x with | .Call (.Name x _) [y, .Name z _] [] _ => decide (x = "isinstance") && glB sc x && a y && decide (ty = z) && glB sc z | _ => false
/-- what is walked -/
def kIt (sc : Scope) (k : IK) (tup : Bool) (n : Nat) (as : CkS) : CkE := fun x => match k with
  | .val => as [x] && n == 1
  | .enum => kCall sc "enumerate" as x && tup && n == 1
  | .zip2 => kCall sc "zip" as x && tup && n == 2
  | .rng1 => kCall sc "range" as x && n == 1
  | .rng2 => kCall sc "range" as x && n == 2
  | _ => false
def kOne (a : CkE) : CkS := fun xs => match xs with | [y] => a y | _ => false
def kIfs (nul : Bool) (a : CkE) : CkS := fun xs => match xs with | [] => nul | [y] => !nul && a y | _ => false
def kLc (N : List Str) (sc : Scope) (own : List Nat) (it : CkE) (tg : Scope → CkE) (e : Scope → CkE) (c : Scope → CkS) : CkE := fun x => match x with
  | .ListComp elt [⟨tgt, iter, ifs, 0⟩] scope _ => it iter && blkC N sc scope (own.map fun i => (N.getD i Str.empty, i)) && tg scope tgt && e scope elt && c scope ifs
  | _ => false
def BI.okB : BI → Bool
  | .sorted => false
  | .set => false
  | .lenset => false
  | _ => true
def ownTy : Ty → Bool
  | .cls _ => true
  | .verr => true
  | _ => false
def cellB (scope : Scope) : Str → Bool := fun x => scope.names.lookup x == some .cell
def kCons (a : CkE) (as : CkS) : CkS := fun xs => match xs with | x :: xs => a x && as xs | [] => false
mutual
def chk (P : Pn) (N : List Str) : E → Scope → Expr → Bool
  | .nul, _, _ => false
  | .non, _, x => kNon x
  | .bl b, _, x => kBl b x
  | .int i, _, x => kInt i x
  | .str z, _, x => kStr z x
  | .var i, sc, x => kVar N sc i x
  | .con i, sc, x => kCon sc (P.con i) x
  | .bin o a b, sc, x => kBin o.py (chk P N a sc) (chk P N b sc) x
  | .neg a, sc, x => kUn .USub (chk P N a sc) x
  | .cmp o a b, sc, x => kCmp o.py (chk P N a sc) (chk P N b sc) x
  | .chn o p a b c, sc, x => kChn o.py p.py (chk P N a sc) (chk P N b sc) (chk P N c sc) x
  | .chn3 _ _ _ _ _ _ _, _, _ => false
  | .isn a, sc, x => kIsn (chk P N a sc) x
  | .notn a, sc, x => kNotn (chk P N a sc) x
  | .and es, sc, x => kBoo .And (chks P N es sc) x && !es.isEmpty
  | .or es, sc, x => kBoo .Or (chks P N es sc) x && !es.isEmpty
  | .not a, sc, x => kUn .Not (chk P N a sc) x
  | .ite c a b, sc, x => kIte (chk P N c sc) (chk P N a sc) (chk P N b sc) x
  | .tup es, sc, x => kTup (chks P N es sc) x
  | .lst es, sc, x => kLst (chks P N es sc) x
  | .mut a, sc, x => chk P N a sc x && a.fresh
  | .dct es, _, x => kDct x && es.isEmpty
  | .idx a i, sc, x => kIdx (chk P N a sc) (chk P N i sc) x
  | .slc a lo hi, sc, x => kSlc (chk P N a sc) (kOpt lo.nulB (chk P N lo sc)) (kOpt hi.nulB (chk P N hi sc)) x
  | .rev _, _, _ => false
  | .fld _ _, _, _ => false
  | .call f es, sc, x => kCall sc (P.fn f) (chks P N es sc) x && P.has f
  | .mth _ _ _ _, _, _ => false
  | .new _ _, _, _ => false
  | .bi b es, sc, x => kCall sc b.nm (chks P N es sc) x && !es.isEmpty && b.okB
  | .bm m a es, sc, x => kMeth m.nm (chk P N a sc) (chks P N es sc) x && es.length == m.ar && m.okB a
  | .isi a ty, sc, x => kIsi sc ty.nm (chk P N a sc) x && !ownTy ty
  | .fst _, _, _ => false
  | .lc own t k its c e, sc, x => kLc N sc own (kIt sc k t.isTup its.length (chks P N its sc)) (fun scope => chkT N (relS scope sc) (cellB scope) t) (fun scope => chk P N e (relS scope sc)) (fun scope => kIfs c.nulB (chk P N c (relS scope sc))) x && t.vars.all fun i => own.contains i
  | .app a e, sc, x => kMeth "append" (chk P N a sc) (kOne (chk P N e sc)) x
  | .ext _ _, _, _ => false
  | .pop _, _, _ => false
def chks (P : Pn) (N : List Str) : List E → Scope → List Expr → Bool
  | [], _, xs => xs.isEmpty
  | e :: es, sc, xs => kCons (chk P N e sc) (chks P N es sc) xs
end
end Cip

set_option maxHeartbeats 4000000
/-! Cip9: an expression's text does what the small language says: the simple forms. -/
namespace Cip
open PySem PySem.Spec PyProof.Rows L2

/-- the built-in names that our texts use -/
def bltNames : List Str := ["len", "abs", "int", "str", "repr", "sum", "all", "any", "max", "min", "tuple", "list", "sorted", "set", "isinstance", "bool", "dict", "range", "enumerate", "zip"]
/-- what the top has left, for our texts -/
structure TopOk (Γ : Tx) (P : Pn) (t : Nm) (K : PySem.W.Frag) (mg : Str → Option Value) : Prop where
  con : ∀ i d, Γ.con i = some d → ∃ v u, mg (P.con i) = some u ∧ RelV v u ∧ d.isL = false ∧ (∀ φ H, Rep K φ H d v) ∧ ∀ ds, d = .tup ds → ∃ a o, v = .ref a ∧ K.lookup a = some o ∧ o.cls = .type "tuple" ∧ o.dict = none
  blt : ∀ x ∈ bltNames, mg x = none
structure Good (Γ : Tx) (cf : CF) (P : Pn) (t : Nm) (k : Nat) (X : Cx) (W : WX) : Prop where
  calm : X.calm = true
  nd : X.N.Nodup
  grd : X.A.guards = some []
  room : Room k X.A
  tk : Takes X W
  top : TopOk Γ P t X.K X.mg
  fns : ∀ f, P.has f = true → ∃ a fd ps, X.mg (P.fn f) = some (.ref a) ∧ PySem.W.keepIn X.K (.ref a) = true ∧ Binds X.K fd ps [] ∧ (∀ ds st, ds.length ≠ ps.length → cf f ds st = .stk) ∧ FnG X.prog X.w X.K X.mg X.base k a fd ps (spOf X.K t cf f ps.length)

section
variable {Γ : Tx} {cf : CF} {P : Pn} {t : Nm} {k : Nat}
/-- the reading of an expression, a test, arguments -/
def tI (Γ : Tx) (cf : CF) (T : Rz) (W : WX) (e : E) : TE := fun σ H Q => ∃ φ env st, Rel T φ H st ∧ EnvR T φ H σ env ∧ OutG T (repD T e.fresh) W φ H σ (ev Γ cf e env st) Q
def tT (Γ : Tx) (cf : CF) (T : Rz) (W : WX) (e : E) : TT := fun σ H Q => ∃ φ env st, Rel T φ H st ∧ EnvR T φ H σ env ∧ OutG T repB W φ H σ (testR (ev Γ cf e env st)) Q
def tIs (Γ : Tx) (cf : CF) (T : Rz) (W : WX) (es : List E) : TA := fun σ H Q => ∃ φ env st, Rel T φ H st ∧ EnvR T φ H σ env ∧ OutG T (repS T) W φ H σ (evs Γ cf es env st) Q
theorem pe_imp {X : Cx} {x : Expr} {t u : TE} (h : PE X x t) (hi : ∀ σ H Q, u σ H Q → t σ H Q) : PE X x u := ⟨fun pins s σ H Q I q => h.run pins s σ H Q I (hi σ H Q q)⟩
theorem pt_imp {X : Cx} {x : Expr} {t u : TT} (h : PT X x t) (hi : ∀ σ H Q, u σ H Q → t σ H Q) : PT X x u := ⟨fun pins s σ H Q I q => h.run pins s σ H Q I (hi σ H Q q)⟩
theorem pa_imp {X : Cx} {x : List Expr} {t u : TA} (h : PA X x t) (hi : ∀ σ H Q, u σ H Q → t σ H Q) : PA X x u := ⟨fun pos pins s σ H Q I q => h.run pos pins s σ H Q I (hi σ H Q q)⟩
/-- what is shown of an expression -/
def Snd (Γ : Tx) (cf : CF) (P : Pn) (t : Nm) (k : Nat) (e : E) : Prop := ∀ (X : Cx) (W : WX) (x : Expr), Good Γ cf P t k X W → chk P X.N e X.env.scope x = true → PE X x (tI Γ cf (rz X t) W e) ∧ headOk x = true
def SndT (Γ : Tx) (cf : CF) (P : Pn) (t : Nm) (k : Nat) (e : E) : Prop := ∀ (X : Cx) (W : WX) (x : Expr), Good Γ cf P t k X W → chk P X.N e X.env.scope x = true → PT X x (tT Γ cf (rz X t) W e)
def SndS (Γ : Tx) (cf : CF) (P : Pn) (t : Nm) (k : Nat) (es : List E) : Prop := ∀ (X : Cx) (W : WX) (xs : List Expr), Good Γ cf P t k X W → chks P X.N es X.env.scope xs = true → PA X xs (tIs Γ cf (rz X t) W es)

theorem Good.hu {X : Cx} {W : WX} (G : Good Γ cf P t k X W) : X.A.units + 110 < cLine := by have := G.room.un; omega
theorem Good.glob {X : Cx} {W : WX} (_ : Good Γ cf P t k X W) {x : Str} (h : glB X.env.scope x = true) : Gl X x := by
  unfold glB at h
  rw [Bool.and_eq_true] at h
  exact kindB_ok h.1
theorem glB_nm {sc : Scope} {x : Str} (h : glB sc x = true) : nm0 x = true := by
  unfold glB at h
  rw [Bool.and_eq_true] at h
  exact h.2

/-! ### constants and names -/
/-- a value that needs nothing -/
theorem out_ok {T : Rz} {W : WX} {φ : Fi} {H : Hp} {σ : L2.St} {st : Store} {d : D} {v : V} {fr : Bool} {Q : VK} (r : Rel T φ H st) (h : OutG T (repD T fr) W φ H σ (.ok d st) Q) (hd : Rep T.K φ H d v) (hn : d.isL = false ∨ fr = false) : Q v H :=
  h φ H v r .refl ⟨hd, fun z l => by rcases hn with hn | hn <;> simp_all⟩
theorem snd_non : Snd Γ cf P t k .non := by
  intro X W x G h
  simp only [chk, kNon] at h
  split at h
  · exact ⟨pe_imp pe_non fun σ H Q ⟨φ, env, st, r, E, o⟩ => out_ok (v := .non) r o rfl (.inl rfl), rfl⟩
  · cases h
theorem snd_bl {b : Bool} : Snd Γ cf P t k (.bl b) := by
  intro X W x G h
  simp only [chk, kBl] at h
  split at h
  · rename_i c _ _
    rw [beq_iff_eq] at h
    subst h
    exact ⟨pe_imp pe_bl fun σ H Q ⟨φ, env, st, r, E, o⟩ => out_ok (v := .bl b) r o rfl (.inl rfl), rfl⟩
  · cases h
theorem snd_int {i : Int} : Snd Γ cf P t k (.int i) := by
  intro X W x G h
  simp only [chk, kInt] at h
  split at h
  · rename_i c _ _
    have h := of_decide_eq_true h
    subst h
    exact ⟨pe_imp pe_int fun σ H Q ⟨φ, env, st, r, E, o⟩ => out_ok (v := .int i) r o rfl (.inl rfl), rfl⟩
  · cases h
theorem snd_str {z : Str} : Snd Γ cf P t k (.str z) := by
  intro X W x G h
  simp only [chk, kStr] at h
  split at h
  · rename_i c _ _
    rw [Bool.and_eq_true] at h
    have h1 := of_decide_eq_true h.1
    have h2 := of_decide_eq_true h.2
    subst h1
    exact ⟨pe_imp pe_str fun σ H Q ⟨φ, env, st, r, E, o⟩ => out_ok (v := .str z) r o ⟨rfl, h2⟩ (.inl rfl), rfl⟩
  · cases h
theorem snd_var {i : Nat} : Snd Γ cf P t k (.var i) := by
  intro X W x G h
  simp only [chk, kVar] at h
  split at h
  · rename_i y pos
    rw [Bool.and_eq_true, Bool.and_eq_true] at h
    refine ⟨pe_imp (pe_var (i := i) (of_decide_eq_true h.1.1) (visB_ok h.1.2) (nm0_d h.2) (nm0_c h.2)) fun σ H Q ⟨φ, env, st, r, E, o⟩ => ?_, rfl⟩
    simp only [ev] at o
    split at o
    · rename_i d hd
      obtain ⟨v, h1, h2⟩ := E.get i d hd
      exact ⟨v, h1, out_ok r o h2 (.inr rfl)⟩
    · exact o.elim
  · cases h
theorem snd_con {i : Nat} : Snd Γ cf P t k (.con i) := by
  intro X W x G h
  simp only [chk, kCon] at h
  split at h
  · rename_i y pos
    rw [Bool.and_eq_true] at h
    have hn := of_decide_eq_true h.1
    subst hn
    refine ⟨?_, rfl⟩
    cases q : Γ.con i with
    | none =>
      refine ⟨fun pins s σ H Q I ⟨φ, env, st, r, E, o⟩ => ?_⟩
      simp only [ev, q] at o
      exact o.elim
    | some d =>
      obtain ⟨v, u, h1, h2, h3, h4⟩ := G.top.con i d q
      refine pe_imp (pe_glob (v := v) (G.glob h.2) h1 h2 (nm0_d (glB_nm h.2))) fun σ H Q ⟨φ, env, st, r, E, o⟩ => ?_
      simp only [ev, q] at o
      exact out_ok r o (h4.1 φ H) (.inl h3)
  · cases h

/-! ### one step, two -/
/-- behind a: what follows, at the store that it left -/
theorem tI_then {α β : Type} {X : Cx} {W : WX} {rep : RepT α β} {a : E} {φ : Fi} {H : Hp} {σ : L2.St} {env : Env} {st : Store} {kk : D → Store → R α} {Q : β → Hp → Prop} (r : Rel (rz X t) φ H st) (E0 : EnvR (rz X t) φ H σ env)
    (sh : Shift (rz X t) rep) (o : OutG (rz X t) rep W φ H σ ((ev Γ cf a env st).bind kk) Q) {Q' : V → Hp → Prop}
    (hq : ∀ v H1 φ1 st1 d, Rel (rz X t) φ1 H1 st1 → Ext φ H φ1 H1 → EnvR (rz X t) φ1 H1 σ env → repD (rz X t) a.fresh H φ1 H1 st1 d v → OutG (rz X t) rep W φ1 H1 σ (kk d st1) Q → Q' v H1) : tI Γ cf (rz X t) W a σ H Q' :=
  ⟨φ, env, st, r, E0, (OutG.bind (rep1 := repD (rz X t) a.fresh) r sh o).imp fun v H1 ⟨φ1, st1, d, r1, e1, p1, o1⟩ => hq v H1 φ1 st1 d r1 e1 (E0.ext r e1) p1 o1⟩
theorem snd_op2 {a b : E} {e : E} {f : Store → D → D → Option D} {X : Cx} {W : WX} {z : Expr} (hev : ∀ env st, ev Γ cf e env st = (ev Γ cf a env st).bind fun x st => (ev Γ cf b env st).bind fun y st => .of (f st x y) st)
    (hz : PE X z (tOp (rOO (rz X t) e.fresh f) (tI Γ cf (rz X t) W a) (tI Γ cf (rz X t) W b))) : PE X z (tI Γ cf (rz X t) W e) := by
  refine pe_imp hz fun σ H Q ⟨φ, env, st, r, E, o⟩ => ?_
  rw [hev] at o
  exact tI_then r E shD o fun v H1 φ1 st1 d r1 e1 E1 p1 o1 => tI_then r1 E1 shD o1 fun w H2 φ2 st2 d2 r2 e2 E2 p2 o2 =>
    ⟨φ2, st2, d, d2, r2, r1.rep e2 p1.1, p2.1, o2.of⟩
theorem snd_bin {o : BOp} {a b : E} (ha : Snd Γ cf P t k a) (hb : Snd Γ cf P t k b) : Snd Γ cf P t k (.bin o a b) := by
  intro X W x G h
  simp only [chk, kBin] at h
  split at h
  · rename_i x op y pos
    simp only [Bool.and_eq_true] at h
    have h1 := of_decide_eq_true h.1.1
    subst h1
    exact ⟨snd_op2 (fun env st => by simp only [ev]) (pe_op (opr_bin o) (ha X W x G h.1.2).1 (hb X W y G h.2).1), rfl⟩
  · cases h
theorem snd_cmp {o : COp} {a b : E} (ha : Snd Γ cf P t k a) (hb : Snd Γ cf P t k b) : Snd Γ cf P t k (.cmp o a b) := by
  intro X W x G h
  simp only [chk, kCmp] at h
  split at h
  · rename_i x op y pos
    simp only [Bool.and_eq_true] at h
    have h1 := of_decide_eq_true h.1.1
    subst h1
    obtain ⟨hb1, hb2⟩ := hb X W y G h.2
    exact ⟨snd_op2 (fun env st => by simp only [ev]) (pe_cmpR (opr_cmp G.hu o) (ha X W x G h.1.2).1 hb1 (head_marks hb2)), rfl⟩
  · cases h
end
end Cip

set_option maxHeartbeats 4000000
/-! Cip10: tests, lists of expressions, displays, conditions. -/
namespace Cip
open PySem PySem.Spec PyProof.Rows L2

section
variable {Γ : Tx} {cf : CF} {P : Pn} {t : Nm} {k : Nat}
/-! ### tests -/
/-- a test that is its value's truth -/
def headV : Expr → Bool
  | .BoolOp _ _ _ => false
  | .UnaryOp .Not _ _ => false
  | .IfExp _ _ _ _ => false
  | .Compare _ _ _ _ => false
  | _ => true
theorem headV_ok {x : Expr} {env : PySem.Env} (h : headV x = true) (whole : Sem Value) : isTrue x env whole = (do let v ← whole; standAt x.pos; holding [v] (truthy v)) := by
  cases x <;> first | rfl | cases h | skip
  rename_i op a pos
  cases op <;> first | rfl | cases h
/-- a value's test, from its reading -/
theorem tT_tI {X : Cx} {W : WX} {e : E} {σ : L2.St} {H : Hp} {Q : Bool → Hp → Prop} (h : tT Γ cf (rz X t) W e σ H Q) : tI Γ cf (rz X t) W e σ H fun v H1 => ∃ c, v = .bl c ∧ Q c H1 := by
  obtain ⟨φ, env, st, r, E, o⟩ := h
  refine tI_then r E shB o fun v H1 φ1 st1 d r1 e1 E1 p1 o1 => ?_
  cases d with
  | bl b => exact ⟨b, p1.1, o1 φ1 H1 b r1 .refl rfl⟩
  | _ => exact o1.elim
theorem sndT_of {e : E} (h : Snd Γ cf P t k e) (hv : ∀ (N : List Str) (sc : Scope) (x : Expr), chk P N e sc x = true → headV x = true) : SndT Γ cf P t k e := by
  intro X W x G hc
  exact pt_imp (pt_val (h X W x G hc).1 (headV_ok (hv _ _ _ hc))) fun σ H Q q => tT_tI q
theorem sndT_cmp {o : COp} {a b : E} (ha : Snd Γ cf P t k a) (hb : Snd Γ cf P t k b) : SndT Γ cf P t k (.cmp o a b) := by
  intro X W x G h
  simp only [chk, kCmp] at h
  split at h
  · rename_i x op y pos
    simp only [Bool.and_eq_true] at h
    have h1 := of_decide_eq_true h.1.1
    subst h1
    obtain ⟨hb1, hb2⟩ := hb X W y G h.2
    refine pt_imp (pt_cmpR (opr_cmp (t := t) (fr := false) G.hu o) (ha X W x G h.1.2).1 hb1 (head_marks hb2)) fun σ H Q q => ?_
    obtain ⟨φ, env, st, r, E, o⟩ := tT_tI q
    simp only [ev] at o
    exact tI_then r E shD o fun v H1 φ1 st1 d r1 e1 E1 p1 o1 => tI_then r1 E1 shD o1 fun w H2 φ2 st2 d2 r2 e2 E2 p2 o2 =>
      ⟨φ2, st2, d, d2, r2, r1.rep e2 p1.1, p2.1, o2.of⟩
  · cases h
/-- the chain's two links -/
theorem tI_chn {X : Cx} {W : WX} {o p : COp} {a b c : E} {σ : L2.St} {H : Hp} {Q : VK} (h : tI Γ cf (rz X t) W (.chn o p a b c) σ H Q) :
    tChain (rOO (rz X t) false fun st a b => (cmpD st o a b).map .bl) (fun y w H Q => ∃ φ st d e, Rel (rz X t) φ H st ∧ Rep X.K φ H d y ∧ Rep X.K φ H e w ∧ OutO (rz X t) false φ H st ((cmpD st p d e).map .bl) Q)
      (tI Γ cf (rz X t) W a) (tI Γ cf (rz X t) W b) (tI Γ cf (rz X t) W c) σ H Q := by
  obtain ⟨φ, env, st, r, E, o0⟩ := h
  simp only [ev] at o0
  refine tI_then r E shD o0 fun v H1 φ1 st1 d r1 e1 E1 p1 o1 => tI_then r1 E1 shD o1 fun w H2 φ2 st2 d2 r2 e2 E2 p2 o2 => ?_
  refine ⟨φ2, st2, d, d2, r2, r1.rep e2 p1.1, p2.1, ?_⟩
  cases q : cmpD st2 o d d2 with
  | none => rw [q] at o2; exact o2.elim
  | some bb =>
    rw [q] at o2
    show OutO (rz X t) false φ2 H2 st2 ((cmpD st2 o d d2).map .bl) _
    rw [q]
    intro H3 z r3 e3 p3
    have hz : z = .bl bb := p3.1
    refine ⟨bb, hz, ?_⟩
    cases bb with
    | false =>
      rw [if_neg (by simp)]
      exact o2 φ2 H3 (.bl false) r3 e3 ⟨rfl, fun _ z => by cases z⟩
    | true =>
      rw [if_pos rfl]
      have o3 : OutG (rz X t) (repD (rz X t) false) W φ2 H2 σ ((ev Γ cf c env st2).bind fun z st => .of ((cmpD st p d2 z).map .bl) st) Q := o2
      have E3 := E2.ext r2 e3
      refine ⟨φ2, env, st2, r3, E3, ?_⟩
      have o4 := OutG.shift shD r2 e3 r3 o3
      exact (OutG.bind (rep1 := repD (rz X t) c.fresh) r3 shD o4).imp fun v5 H5 ⟨φ5, st5, d5, r5, e5, p5, o5⟩ => ⟨φ5, st5, d2, d5, r5, r3.rep e5 (r2.rep e3 p2.1), p5.1, o5.of⟩
theorem snd_chn {o p : COp} {a b c : E} (ha : Snd Γ cf P t k a) (hb : Snd Γ cf P t k b) (hc : Snd Γ cf P t k c) : Snd Γ cf P t k (.chn o p a b c) ∧ SndT Γ cf P t k (.chn o p a b c) := by
  constructor
  · intro X W x G h
    simp only [chk, kChn] at h
    split at h
    · rename_i x op op' y z pos
      simp only [Bool.and_eq_true] at h
      have h1 := of_decide_eq_true h.1.1.1.1
      have h2 := of_decide_eq_true h.1.1.1.2
      subst h1 h2
      obtain ⟨hc1, hc2⟩ := hc X W z G h.2
      obtain ⟨hb1, hb2⟩ := hb X W y G h.1.2
      exact ⟨pe_imp (pe_chain (opr_cmp (t := t) (fr := false) G.hu o) (opr_cmp (t := t) (fr := false) G.hu p) (ha X W x G h.1.1.2).1 hb1 hc1 (by show behindInMarks _ z = false; exact head_marks hc2)) fun σ H Q q => tI_chn q, rfl⟩
    · cases h
  · intro X W x G h
    simp only [chk, kChn] at h
    split at h
    · rename_i x op op' y z pos
      simp only [Bool.and_eq_true] at h
      have h1 := of_decide_eq_true h.1.1.1.1
      have h2 := of_decide_eq_true h.1.1.1.2
      subst h1 h2
      obtain ⟨hc1, hc2⟩ := hc X W z G h.2
      obtain ⟨hb1, hb2⟩ := hb X W y G h.1.2
      exact pt_imp (pt_chain (opr_cmp (t := t) (fr := false) G.hu o) (opr_cmp (t := t) (fr := false) G.hu p) (ha X W x G h.1.1.2).1 hb1 hc1 (by show behindInMarks _ z = false; exact head_marks hc2)) fun σ H Q q => tI_chn (tT_tI q)
    · cases h
theorem pair_non {X : Cx} {φ : Fi} {H : Hp} {d : D} {v : V} (h : Rep X.K φ H d v) : decide (v = .non) = d.isNon := by
  cases d with
  | non => cases h; rfl
  | bl _ => cases h; rfl
  | int _ => cases h; rfl
  | str _ => cases h.1; rfl
  | tup _ => obtain ⟨_, _, e, _⟩ := h; subst e; rfl
  | lst _ => obtain ⟨_, _, e, _⟩ := h; subst e; rfl
  | dct _ _ => obtain ⟨_, _, e, _⟩ := h; subst e; rfl
  | scr _ => obtain ⟨_, _, e, _⟩ := h; subst e; rfl
  | ref _ => obtain ⟨_, _, e⟩ := h; subst e; rfl
theorem tI_isn {X : Cx} {W : WX} {a : E} {σ : L2.St} {H : Hp} {Q : VK} (h : tI Γ cf (rz X t) W (.isn a) σ H Q) : tIsN (tI Γ cf (rz X t) W a) σ H Q := by
  obtain ⟨φ, env, st, r, E, o⟩ := h
  simp only [ev] at o
  exact tI_then r E shD o fun v H1 φ1 st1 d r1 e1 E1 p1 o1 => by
    rw [pair_non p1.1]
    exact out_ok r1 o1 rfl (.inl rfl)
theorem tI_notn {X : Cx} {W : WX} {a : E} {σ : L2.St} {H : Hp} {Q : VK} (h : tI Γ cf (rz X t) W (.notn a) σ H Q) : tNotN (tI Γ cf (rz X t) W a) σ H Q := by
  obtain ⟨φ, env, st, r, E, o⟩ := h
  simp only [ev] at o
  exact tI_then r E shD o fun v H1 φ1 st1 d r1 e1 E1 p1 o1 => by
    rw [pair_non p1.1]
    exact out_ok r1 o1 rfl (.inl rfl)
theorem snd_isn {a : E} (ha : Snd Γ cf P t k a) : Snd Γ cf P t k (.isn a) ∧ SndT Γ cf P t k (.isn a) := by
  constructor
  · intro X W x G h
    simp only [chk, kIsn] at h
    split at h
    · exact ⟨pe_imp (pe_cmp (pc_isN (ha X W _ G h).1) rfl) fun σ H Q q => tI_isn q, rfl⟩
    · cases h
  · intro X W x G h
    simp only [chk, kIsn] at h
    split at h
    · exact pt_imp (pt_cmp (pc_isN (ha X W _ G h).1) rfl) fun σ H Q q => tI_isn (tT_tI q)
    · cases h
theorem snd_notn {a : E} (ha : Snd Γ cf P t k a) : Snd Γ cf P t k (.notn a) ∧ SndT Γ cf P t k (.notn a) := by
  constructor
  · intro X W x G h
    simp only [chk, kNotn] at h
    split at h
    · exact ⟨pe_imp (pe_cmp (pc_notN (ha X W _ G h).1) rfl) fun σ H Q q => tI_notn q, rfl⟩
    · cases h
  · intro X W x G h
    simp only [chk, kNotn] at h
    split at h
    · exact pt_imp (pt_cmp (pc_notN (ha X W _ G h).1) rfl) fun σ H Q q => tI_notn (tT_tI q)
    · cases h
theorem snd_neg {a : E} (ha : Snd Γ cf P t k a) : Snd Γ cf P t k (.neg a) := by
  intro X W x G h
  simp only [chk, kUn] at h
  split at h
  · rename_i op x pos
    rw [Bool.and_eq_true] at h
    have h1 := of_decide_eq_true h.1
    subst h1
    refine ⟨pe_imp (pe_un un_neg (ha X W x G h.2).1) fun σ H Q ⟨φ, env, st, r, E, o⟩ => ?_, rfl⟩
    simp only [ev] at o
    refine tI_then r E shD o fun v H1 φ1 st1 d r1 e1 E1 p1 o1 => ?_
    cases d with
    | int i => exact ⟨i, p1.1, out_ok r1 o1 rfl (.inl rfl)⟩
    | _ => exact o1.elim
  · cases h
theorem testR_bl {α : Type} (r : R α) (f : α → Bool) : testR (r.bind fun b st => .ok (.bl (f b)) st) = r.bind fun b st => .ok (f b) st := by cases r <;> rfl
theorem snd_not {a : E} (ha : Snd Γ cf P t k a) (hT : SndT Γ cf P t k a) : Snd Γ cf P t k (.not a) ∧ SndT Γ cf P t k (.not a) := by
  constructor
  · intro X W x G h
    simp only [chk, kUn] at h
    split at h
    · rename_i op x pos
      rw [Bool.and_eq_true] at h
      have h1 := of_decide_eq_true h.1
      subst h1
      refine ⟨pe_imp (pe_not (ha X W x G h.2).1) fun σ H Q ⟨φ, env, st, r, E, o⟩ => ?_, rfl⟩
      simp only [ev] at o
      have o' := OutG.bind (rep1 := repB) r shD o
      exact tT_tI ⟨φ, env, st, r, E, o'.imp fun c H1 ⟨φ1, st1, b, r1, e1, p1, o1⟩ => by
        have : b = c := p1
        subst this
        exact out_ok r1 o1 rfl (.inl rfl)⟩
    · cases h
  · intro X W x G h
    simp only [chk, kUn] at h
    split at h
    · rename_i op x pos
      rw [Bool.and_eq_true] at h
      have h1 := of_decide_eq_true h.1
      subst h1
      refine pt_imp (pt_not (hT X W x G h.2)) fun σ H Q ⟨φ, env, st, r, E, o⟩ => ?_
      simp only [ev] at o
      refine ⟨φ, env, st, r, E, ?_⟩
      have o2 := o
      rw [testR_bl] at o2
      exact (OutG.bind (rep1 := repB) r shB o2).imp fun c H1 ⟨φ1, st1, b, r1, e1, p1, o1⟩ => by
        have : b = c := p1
        subst this
        exact o1 φ1 H1 _ r1 .refl rfl
    · cases h
/-! ### and, or -/
def Snds (Γ : Tx) (cf : CF) (P : Pn) (t : Nm) (k : Nat) (es : List E) : Prop := ∀ e ∈ es, Snd Γ cf P t k e
def SndTs (Γ : Tx) (cf : CF) (P : Pn) (t : Nm) (k : Nat) (es : List E) : Prop := ∀ e ∈ es, SndT Γ cf P t k e
/-- the reading of several, to a truth -/
def tB2 (Γ : Tx) (cf : CF) (T : Rz) (W : WX) (f : List E → Env → Store → R Bool) (es : List E) : TT := fun σ H Q => ∃ φ env st, Rel T φ H st ∧ EnvR T φ H σ env ∧ OutG T repB W φ H σ (f es env st) Q
theorem chks_cons {N : List Str} {sc : Scope} {e : E} {es : List E} {xs : List Expr} (h : chks P N (e :: es) sc xs = true) : ∃ y ys, xs = y :: ys ∧ chk P N e sc y = true ∧ chks P N es sc ys = true := by
  simp only [chks, kCons] at h
  split at h
  · rename_i y ys
    rw [Bool.and_eq_true] at h
    exact ⟨y, ys, rfl, h.1, h.2⟩
  · cases h
theorem chks_nil {N : List Str} {sc : Scope} {xs : List Expr} (h : chks P N [] sc xs = true) : xs = [] := by
  simp only [chks] at h
  exact List.isEmpty_iff.mp h
/-- behind a test -/
theorem tT_then {α β : Type} {X : Cx} {W : WX} {rep : RepT α β} {a : E} {φ : Fi} {H : Hp} {σ : L2.St} {env : Env} {st : Store} {kk : Bool → Store → R α} {Q : β → Hp → Prop} (r : Rel (rz X t) φ H st) (E0 : EnvR (rz X t) φ H σ env)
    (sh : Shift (rz X t) rep)
    (o : OutG (rz X t) rep W φ H σ ((testR (ev Γ cf a env st)).bind kk) Q) {Q' : Bool → Hp → Prop}
    (hq : ∀ b H1 φ1 st1, Rel (rz X t) φ1 H1 st1 → Ext φ H φ1 H1 → EnvR (rz X t) φ1 H1 σ env → OutG (rz X t) rep W φ1 H1 σ (kk b st1) Q → Q' b H1) : tT Γ cf (rz X t) W a σ H Q' :=
  ⟨φ, env, st, r, E0, (OutG.bind (rep1 := repB) r sh o).imp fun v H1 ⟨φ1, st1, d, r1, e1, p1, o1⟩ => by
    have : d = v := p1
    subst this
    exact hq d H1 φ1 st1 r1 e1 (E0.ext r e1) o1⟩
theorem pe_ands : ∀ (es : List E) (X : Cx) (W : WX) (xs : List Expr) (pos : Pos), es ≠ [] → Snds Γ cf P t k es → Good Γ cf P t k X W → chks P X.N es X.env.scope xs = true →
    PE X (.BoolOp .And xs pos) (fun σ H Q => tB2 Γ cf (rz X t) W (evAnd Γ cf) es σ H fun b H1 => Q (.bl b) H1)
  | [], _, _, _, _, hn, _, _, _ => absurd rfl hn
  | [e], X, W, xs, pos, _, hs, G, h => by
    obtain ⟨y, ys, rfl, h1, h2⟩ := chks_cons h
    obtain rfl := chks_nil h2
    refine pe_imp (pe_one (hs e (by simp) X W y G h1).1) fun σ H Q ⟨φ, env, st, r, E, o⟩ => ?_
    simp only [evAnd] at o
    obtain ⟨φ', env', st', r', E', o'⟩ := tT_tI (tT_then (Q' := fun b H1 => Q (.bl b) H1) r E shB o fun b H1 φ1 st1 r1 e1 E1 o1 => by
      cases b with
      | true => rw [if_pos rfl] at o1; exact o1 φ1 H1 true r1 .refl rfl
      | false => rw [if_neg (by simp)] at o1; exact o1 φ1 H1 false r1 .refl rfl)
    exact ⟨φ', env', st', r', E', o'.imp fun v H1 ⟨c, e, q⟩ => by rw [e]; exact q⟩
  | e :: e' :: es, X, W, xs, pos, _, hs, G, h => by
    obtain ⟨y, ys, rfl, h1, h2⟩ := chks_cons h
    have ih := pe_ands (e' :: es) X W ys pos (by simp) (fun z hz => hs z (List.mem_cons_of_mem _ hz)) G h2
    obtain ⟨y', ys', rfl, _, _⟩ := chks_cons h2
    refine pe_imp (pe_and (hs e (by simp) X W y G h1).1 ih) fun σ H Q ⟨φ, env, st, r, E, o⟩ => ?_
    rw [evAnd] at o
    refine tT_tI (tT_then r E shB o fun b H1 φ1 st1 r1 e1 E1 o1 => ?_)
    cases b with
    | true =>
      rw [if_pos rfl] at o1
      rw [if_pos rfl]
      exact ⟨φ1, env, st1, r1, E1, o1⟩
    | false =>
      rw [if_neg (by simp)] at o1
      rw [if_neg (by simp)]
      exact o1 φ1 H1 false r1 .refl rfl
theorem pe_ors : ∀ (es : List E) (X : Cx) (W : WX) (xs : List Expr) (pos : Pos), es ≠ [] → Snds Γ cf P t k es → Good Γ cf P t k X W → chks P X.N es X.env.scope xs = true →
    PE X (.BoolOp .Or xs pos) (fun σ H Q => tB2 Γ cf (rz X t) W (evOr Γ cf) es σ H fun b H1 => Q (.bl b) H1)
  | [], _, _, _, _, hn, _, _, _ => absurd rfl hn
  | [e], X, W, xs, pos, _, hs, G, h => by
    obtain ⟨y, ys, rfl, h1, h2⟩ := chks_cons h
    obtain rfl := chks_nil h2
    refine pe_imp (pe_one (hs e (by simp) X W y G h1).1) fun σ H Q ⟨φ, env, st, r, E, o⟩ => ?_
    simp only [evOr] at o
    obtain ⟨φ', env', st', r', E', o'⟩ := tT_tI (tT_then (Q' := fun b H1 => Q (.bl b) H1) r E shB o fun b H1 φ1 st1 r1 e1 E1 o1 => by
      cases b with
      | true => rw [if_pos rfl] at o1; exact o1 φ1 H1 true r1 .refl rfl
      | false => rw [if_neg (by simp)] at o1; exact o1 φ1 H1 false r1 .refl rfl)
    exact ⟨φ', env', st', r', E', o'.imp fun v H1 ⟨c, e, q⟩ => by rw [e]; exact q⟩
  | e :: e' :: es, X, W, xs, pos, _, hs, G, h => by
    obtain ⟨y, ys, rfl, h1, h2⟩ := chks_cons h
    have ih := pe_ors (e' :: es) X W ys pos (by simp) (fun z hz => hs z (List.mem_cons_of_mem _ hz)) G h2
    obtain ⟨y', ys', rfl, _, _⟩ := chks_cons h2
    refine pe_imp (pe_or (hs e (by simp) X W y G h1).1 ih) fun σ H Q ⟨φ, env, st, r, E, o⟩ => ?_
    rw [evOr] at o
    refine tT_tI (tT_then r E shB o fun b H1 φ1 st1 r1 e1 E1 o1 => ?_)
    cases b with
    | true =>
      rw [if_pos rfl] at o1
      rw [if_pos rfl]
      exact o1 φ1 H1 true r1 .refl rfl
    | false =>
      rw [if_neg (by simp)] at o1
      rw [if_neg (by simp)]
      exact ⟨φ1, env, st1, r1, E1, o1⟩
theorem pw_ands : ∀ (es : List E) (X : Cx) (W : WX) (xs : List Expr) (pos : Pos), es ≠ [] → SndTs Γ cf P t k es → Good Γ cf P t k X W → chks P X.N es X.env.scope xs = true →
    PW X (.BoolOp .And xs pos) (tB2 Γ cf (rz X t) W (evAnd Γ cf) es)
  | [], _, _, _, _, hn, _, _, _ => absurd rfl hn
  | [e], X, W, xs, pos, _, hs, G, h => by
    obtain ⟨y, ys, rfl, h1, h2⟩ := chks_cons h
    obtain rfl := chks_nil h2
    have hw := pw_and1 (pos := pos) (hs e (by simp) X W y G h1)
    refine ⟨fun wh pins s σ H Q I ⟨φ, env, st, r, E, o⟩ => hw.run wh pins s σ H Q I ?_⟩
    rw [evAnd] at o
    refine tT_then r E shB o fun b H1 φ1 st1 r1 e1 E1 o1 => ?_
    cases b with
    | true => rw [if_pos rfl] at o1; simp only [evAnd] at o1; exact o1 φ1 H1 true r1 .refl rfl
    | false => rw [if_neg (by simp)] at o1; exact o1 φ1 H1 false r1 .refl rfl
  | e :: e' :: es, X, W, xs, pos, _, hs, G, h => by
    obtain ⟨y, ys, rfl, h1, h2⟩ := chks_cons h
    have ih := pw_ands (e' :: es) X W ys pos (by simp) (fun z hz => hs z (List.mem_cons_of_mem _ hz)) G h2
    obtain ⟨y', ys', rfl, _, _⟩ := chks_cons h2
    have hw := pw_and (hs e (by simp) X W y G h1) ih
    refine ⟨fun wh pins s σ H Q I ⟨φ, env, st, r, E, o⟩ => hw.run wh pins s σ H Q I ?_⟩
    rw [evAnd] at o
    refine tT_then r E shB o fun b H1 φ1 st1 r1 e1 E1 o1 => ?_
    cases b with
    | true =>
      rw [if_pos rfl] at o1
      rw [if_pos rfl]
      exact ⟨φ1, env, st1, r1, E1, o1⟩
    | false =>
      rw [if_neg (by simp)] at o1
      rw [if_neg (by simp)]
      exact o1 φ1 H1 false r1 .refl rfl
theorem pw_ors : ∀ (es : List E) (X : Cx) (W : WX) (xs : List Expr) (pos : Pos), es ≠ [] → SndTs Γ cf P t k es → Good Γ cf P t k X W → chks P X.N es X.env.scope xs = true →
    PW X (.BoolOp .Or xs pos) (tB2 Γ cf (rz X t) W (evOr Γ cf) es)
  | [], _, _, _, _, hn, _, _, _ => absurd rfl hn
  | [e], X, W, xs, pos, _, hs, G, h => by
    obtain ⟨y, ys, rfl, h1, h2⟩ := chks_cons h
    obtain rfl := chks_nil h2
    have hw := pw_or1 (pos := pos) (hs e (by simp) X W y G h1)
    refine ⟨fun wh pins s σ H Q I ⟨φ, env, st, r, E, o⟩ => hw.run wh pins s σ H Q I ?_⟩
    rw [evOr] at o
    refine tT_then r E shB o fun b H1 φ1 st1 r1 e1 E1 o1 => ?_
    cases b with
    | true => rw [if_pos rfl] at o1; exact o1 φ1 H1 true r1 .refl rfl
    | false => rw [if_neg (by simp)] at o1; simp only [evOr] at o1; exact o1 φ1 H1 false r1 .refl rfl
  | e :: e' :: es, X, W, xs, pos, _, hs, G, h => by
    obtain ⟨y, ys, rfl, h1, h2⟩ := chks_cons h
    have ih := pw_ors (e' :: es) X W ys pos (by simp) (fun z hz => hs z (List.mem_cons_of_mem _ hz)) G h2
    obtain ⟨y', ys', rfl, _, _⟩ := chks_cons h2
    have hw := pw_or (hs e (by simp) X W y G h1) ih
    refine ⟨fun wh pins s σ H Q I ⟨φ, env, st, r, E, o⟩ => hw.run wh pins s σ H Q I ?_⟩
    rw [evOr] at o
    refine tT_then r E shB o fun b H1 φ1 st1 r1 e1 E1 o1 => ?_
    cases b with
    | true =>
      rw [if_pos rfl] at o1
      rw [if_pos rfl]
      exact o1 φ1 H1 true r1 .refl rfl
    | false =>
      rw [if_neg (by simp)] at o1
      rw [if_neg (by simp)]
      exact ⟨φ1, env, st1, r1, E1, o1⟩
theorem ne_of_empty {es : List E} (h : (!es.isEmpty) = true) : es ≠ [] := by
  intro e
  subst e
  cases h
theorem snd_and {es : List E} (hs : Snds Γ cf P t k es) (hT : SndTs Γ cf P t k es) : Snd Γ cf P t k (.and es) ∧ SndT Γ cf P t k (.and es) := by
  constructor
  · intro X W x G h
    simp only [chk, kBoo] at h
    rw [Bool.and_eq_true] at h
    obtain ⟨h, hn⟩ := h
    split at h
    · rename_i op xs pos
      rw [Bool.and_eq_true] at h
      have h1 := of_decide_eq_true h.1
      subst h1
      refine ⟨pe_imp (pe_ands es X W xs pos (ne_of_empty hn) hs G h.2) fun σ H Q ⟨φ, env, st, r, E, o⟩ => ⟨φ, env, st, r, E, ?_⟩, rfl⟩
      simp only [ev] at o
      exact (OutG.bind (rep1 := repB) r shD o).imp fun v H1 ⟨φ1, st1, d, r1, e1, p1, o1⟩ => by
        have : d = v := p1
        subst this
        exact out_ok r1 o1 rfl (.inl rfl)
    · cases h
  · intro X W x G h
    simp only [chk, kBoo] at h
    rw [Bool.and_eq_true] at h
    obtain ⟨h, hn⟩ := h
    split at h
    · rename_i op xs pos
      rw [Bool.and_eq_true] at h
      have h1 := of_decide_eq_true h.1
      subst h1
      refine pt_imp (pw_ands es X W xs pos (ne_of_empty hn) hT G h.2).pt fun σ H Q ⟨φ, env, st, r, E, o⟩ => ⟨φ, env, st, r, E, ?_⟩
      simp only [ev] at o
      rw [testR_bl] at o
      exact (OutG.bind (rep1 := repB) r shB o).imp fun v H1 ⟨φ1, st1, d, r1, e1, p1, o1⟩ => by
        have : d = v := p1
        subst this
        exact o1 φ1 H1 d r1 .refl rfl
    · cases h
theorem snd_or {es : List E} (hs : Snds Γ cf P t k es) (hT : SndTs Γ cf P t k es) : Snd Γ cf P t k (.or es) ∧ SndT Γ cf P t k (.or es) := by
  constructor
  · intro X W x G h
    simp only [chk, kBoo] at h
    rw [Bool.and_eq_true] at h
    obtain ⟨h, hn⟩ := h
    split at h
    · rename_i op xs pos
      rw [Bool.and_eq_true] at h
      have h1 := of_decide_eq_true h.1
      subst h1
      refine ⟨pe_imp (pe_ors es X W xs pos (ne_of_empty hn) hs G h.2) fun σ H Q ⟨φ, env, st, r, E, o⟩ => ⟨φ, env, st, r, E, ?_⟩, rfl⟩
      simp only [ev] at o
      exact (OutG.bind (rep1 := repB) r shD o).imp fun v H1 ⟨φ1, st1, d, r1, e1, p1, o1⟩ => by
        have : d = v := p1
        subst this
        exact out_ok r1 o1 rfl (.inl rfl)
    · cases h
  · intro X W x G h
    simp only [chk, kBoo] at h
    rw [Bool.and_eq_true] at h
    obtain ⟨h, hn⟩ := h
    split at h
    · rename_i op xs pos
      rw [Bool.and_eq_true] at h
      have h1 := of_decide_eq_true h.1
      subst h1
      refine pt_imp (pw_ors es X W xs pos (ne_of_empty hn) hT G h.2).pt fun σ H Q ⟨φ, env, st, r, E, o⟩ => ⟨φ, env, st, r, E, ?_⟩
      simp only [ev] at o
      rw [testR_bl] at o
      exact (OutG.bind (rep1 := repB) r shB o).imp fun v H1 ⟨φ1, st1, d, r1, e1, p1, o1⟩ => by
        have : d = v := p1
        subst this
        exact o1 φ1 H1 d r1 .refl rfl
    · cases h
theorem OutG.fr {T : Rz} {W : WX} {φ : Fi} {H : Hp} {σ : L2.St} {f g : Bool} {o : R D} {Q : VK} (h : OutG T (repD T g) W φ H σ o Q) (hfg : g = true → f = true) : OutG T (repD T f) W φ H σ o Q := by
  cases o with
  | stk => exact h
  | ex _ _ _ => exact h
  | ok d st => exact fun φ' H' v a b c => h φ' H' v a b ⟨c.1, fun z l => c.2 (hfg z) l⟩
theorem snd_ite {c a b : E} (hc : SndT Γ cf P t k c) (ha : Snd Γ cf P t k a) (hb : Snd Γ cf P t k b) (haT : SndT Γ cf P t k a) (hbT : SndT Γ cf P t k b) : Snd Γ cf P t k (.ite c a b) ∧ SndT Γ cf P t k (.ite c a b) := by
  constructor
  · intro X W x G h
    simp only [chk, kIte] at h
    split at h
    · rename_i x y z pos
      simp only [Bool.and_eq_true] at h
      refine ⟨pe_imp (pe_ifExp (hc X W x G h.1.1) (ha X W y G h.1.2).1 (hb X W z G h.2).1) fun σ H Q ⟨φ, env, st, r, E, o⟩ => ?_, rfl⟩
      simp only [ev] at o
      refine tT_then r E shD o fun v H1 φ1 st1 r1 e1 E1 o1 => ?_
      cases v with
      | true =>
        rw [if_pos rfl] at o1
        rw [if_pos rfl]
        exact ⟨φ1, env, st1, r1, E1, o1.fr (fun z => (Bool.and_eq_true_iff.mp z).1)⟩
      | false =>
        rw [if_neg (by simp)] at o1
        rw [if_neg (by simp)]
        exact ⟨φ1, env, st1, r1, E1, o1.fr (fun z => (Bool.and_eq_true_iff.mp z).2)⟩
    · cases h
  · intro X W x G h
    simp only [chk, kIte] at h
    split at h
    · rename_i x y z pos
      simp only [Bool.and_eq_true] at h
      have h1 := hc X W x G h.1.1
      have h2 := haT X W y G h.1.2
      have h3 := hbT X W z G h.2
      refine ⟨fun pins s σ H Q I ⟨φ, env, st, r, E, o⟩ => ?_⟩
      have e : testR (ev Γ cf (.ite c a b) env st) = (testR (ev Γ cf c env st)).bind fun r st => if r = true then testR (ev Γ cf a env st) else testR (ev Γ cf b env st) := by
        simp only [ev]
        cases testR (ev Γ cf c env st) with
        | ok bb s => cases bb <;> rfl
        | ex _ _ _ => rfl
        | stk => rfl
      rw [e] at o
      refine PyProof.Rows.isTrue_IfExp (thn (h1.run pins s σ H (fun bb H1 => ∃ φ1 st1, Rel (rz X t) φ1 H1 st1 ∧ EnvR (rz X t) φ1 H1 σ env ∧ OutG (rz X t) repB W φ1 H1 σ (if bb = true then testR (ev Γ cf a env st1) else testR (ev Γ cf b env st1)) Q) I
        (tT_then r E shB o fun v H1 φ1 st1 r1 e1 E1 o1 => ⟨φ1, st1, r1, E1, o1⟩)) fun bb s1 ⟨H1, I1, φ1, st1, r1, E1, o1⟩ => ?_)
      cases bb with
      | true =>
        rw [if_pos rfl] at o1
        rw [if_pos rfl]
        exact h2.run pins s1 σ H1 Q I1 ⟨φ1, env, st1, r1, E1, o1⟩
      | false =>
        rw [if_neg (by simp)] at o1
        rw [if_neg (by simp)]
        exact h3.run pins s1 σ H1 Q I1 ⟨φ1, env, st1, r1, E1, o1⟩
    · cases h
end
end Cip

set_option maxHeartbeats 4000000
/-! Cip11: arguments, displays, places, calls. -/
namespace Cip
open PySem PySem.Spec PyProof.Rows L2

section
variable {Γ : Tx} {cf : CF} {P : Pn} {t : Nm} {k : Nat}
theorem evs_nil {env : Env} {st : Store} : evs Γ cf [] env st = .ok [] st := by simp only [evs]
/-- behind arguments -/
theorem tIs_then {α β : Type} {X : Cx} {W : WX} {rep : RepT α β} {as : List E} {φ : Fi} {H : Hp} {σ : L2.St} {env : Env} {st : Store} {kk : List D → Store → R α} {Q : β → Hp → Prop} (r : Rel (rz X t) φ H st) (E0 : EnvR (rz X t) φ H σ env)
    (sh : Shift (rz X t) rep) (o : OutG (rz X t) rep W φ H σ ((evs Γ cf as env st).bind kk) Q) {Q' : List V → Hp → Prop}
    (hq : ∀ v H1 φ1 st1 d, Rel (rz X t) φ1 H1 st1 → Ext φ H φ1 H1 → EnvR (rz X t) φ1 H1 σ env → Reps X.K φ1 H1 d v → OutG (rz X t) rep W φ1 H1 σ (kk d st1) Q → Q' v H1) : tIs Γ cf (rz X t) W as σ H Q' :=
  ⟨φ, env, st, r, E0, (OutG.bind (rep1 := repS (rz X t)) r sh o).imp fun v H1 ⟨φ1, st1, d, r1, e1, p1, o1⟩ => hq v H1 φ1 st1 d r1 e1 (E0.ext r e1) p1 o1⟩
theorem snd_args : ∀ (es : List E), Snds Γ cf P t k es → ∀ (X : Cx) (W : WX) (xs : List Expr), Good Γ cf P t k X W → chks P X.N es X.env.scope xs = true → PA X xs (tIs Γ cf (rz X t) W es) ∧ noStars xs = true
  | [], _, X, W, xs, G, h => by
    obtain rfl := chks_nil h
    refine ⟨pa_imp pa_nil fun σ H Q ⟨φ, env, st, r, E, o⟩ => ?_, rfl⟩
    rw [evs_nil] at o
    exact o φ H [] r .refl rfl
  | e :: es, hs, X, W, xs, G, h => by
    obtain ⟨y, ys, rfl, h1, h2⟩ := chks_cons h
    obtain ⟨ih, ih2⟩ := snd_args es (fun z hz => hs z (List.mem_cons_of_mem _ hz)) X W ys G h2
    obtain ⟨he, he2⟩ := hs e (by simp) X W y G h1
    refine ⟨pa_imp (pa_cons he ih (head_star he2)) fun σ H Q ⟨φ, env, st, r, E, o⟩ => ?_, by show (headOk y && noStars ys) = true; rw [he2, ih2] <;> rfl⟩
    simp only [evs] at o
    exact tI_then r E shS o fun v H1 φ1 st1 d r1 e1 E1 p1 o1 => tIs_then r1 E1 shS o1 fun w H2 φ2 st2 d2 r2 e2 E2 p2 o2 =>
      o2 φ2 H2 (v :: w) r2 .refl ⟨v, w, rfl, r1.rep e2 p1.1, p2⟩
/-! ### displays -/
theorem snd_tup {es : List E} (hs : Snds Γ cf P t k es) : Snd Γ cf P t k (.tup es) := by
  intro X W x G h
  simp only [chk, kTup] at h
  split at h
  · rename_i xs _ pos
    refine ⟨pe_imp (pe_tup (snd_args es hs X W xs G h).1) fun σ H Q ⟨φ, env, st, r, E, o⟩ => ?_, rfl⟩
    simp only [ev] at o
    refine tIs_then r E shD o fun v H1 φ1 st1 ds r1 e1 E1 p1 o1 => ?_
    split at o1
    · rename_i hz
      exact ⟨by rw [p1.length]; exact hz, fun p hp => o1.of_ok.tup r1 hp p1 hz⟩
    · exact o1.elim
  · cases h
theorem snd_lst {es : List E} (hs : Snds Γ cf P t k es) : Snd Γ cf P t k (.lst es) := by
  intro X W x G h
  simp only [chk, kLst] at h
  split at h
  · rename_i xs pos
    refine ⟨pe_imp (pe_lst (snd_args es hs X W xs G h).1) fun σ H Q ⟨φ, env, st, r, E, o⟩ => ?_, rfl⟩
    simp only [ev] at o
    refine tIs_then r E shD o fun v H1 φ1 st1 ds r1 e1 E1 p1 o1 => ?_
    split at o1
    · rename_i hz
      exact ⟨by rw [p1.length]; exact hz, fun p hp => o1.of_ok.lst r1 hp p1 hz⟩
    · exact o1.elim
  · cases h
/-- a thing that was laid last becomes one of the store -/
theorem ext_push {φ : Fi} {Hb : Hp} {p : Addr} {o : HO} (hp : Hb p = none) : Ext φ Hb (φ.push p) (upd Hb p o) :=
  ⟨⟨[p], rfl, fun a ha => by rw [List.mem_singleton.mp ha]; exact hp⟩, rfl, fun a u hu _ => by rw [upd_ne (ne_of_none hu hp)]; exact hu⟩
theorem push_at {T : Rz} {φ : Fi} {Hb : Hp} {st : Store} {p : Addr} (r : Rel T φ Hb st) : (φ.push p).ref[st.length]? = some p := by
  show (φ.ref ++ [p])[st.length]? = some p
  rw [← r.len, List.getElem?_append_right (Nat.le_refl _)]
  simp
theorem rel_push {T : Rz} {φ : Fi} {Hb : Hp} {st : Store} {p : Addr} {o : HO} {m : MO} (r : Rel T φ Hb st) (hp : Hb p = none) (h : ORel T (φ.push p) (upd Hb p o) m p) :
    Rel T (φ.push p) (upd Hb p o) (st ++ [m]) ∧ Ext φ Hb (φ.push p) (upd Hb p o) := by
  have e : Ext φ Hb (φ.push p) (upd Hb p o) := ext_push hp
  refine ⟨⟨?_, ?_, fun kk u hu => ?_, fun a ha => ?_⟩, e⟩
  · show (φ.ref ++ [p]).length = _
    rw [List.length_append, List.length_append, r.len] <;> rfl
  · show (φ.ref ++ [p]).Nodup
    refine List.nodup_append.mpr ⟨r.nd, by simp, fun a ha b hb => ?_⟩
    rw [List.mem_singleton.mp hb]
    intro q
    exact (r.fresh hp).1 (q ▸ ha)
  · by_cases hk : kk < st.length
    · rw [List.getElem?_append_left hk] at hu
      obtain ⟨a, h1, h2⟩ := r.at_ kk u hu
      obtain ⟨w, hw⟩ := h2.there
      refine ⟨a, ?_, h2.ext e r.nt (upd_ne (ne_of_none hw hp))⟩
      show (φ.ref ++ [p])[kk]? = some a
      rw [List.getElem?_append_left (by rw [r.len]; exact hk)]
      exact h1
    · have hk2 : kk = st.length := by
        have := (List.getElem?_eq_some_iff.mp hu).1
        rw [List.length_append] at this
        have e1 : [m].length = 1 := rfl
        omega
      subst hk2
      rw [List.getElem?_append_right (Nat.le_refl _)] at hu
      simp at hu
      subst hu
      exact ⟨p, push_at r, h⟩
  · obtain ⟨h1, xs, h2⟩ := r.hid a ha
    refine ⟨fun m => ?_, xs, by rw [upd_ne (ne_of_none h2 hp)]; exact h2⟩
    rcases List.mem_append.mp (show a ∈ φ.ref ++ [p] from m) with m | m
    · exact h1 m
    · rw [List.mem_singleton.mp m, hp] at h2
      cases h2
theorem ext_join {T : Rz} {φ φ1 : Fi} {H Hb : Hp} {st st1 : Store} {p : Addr} {o : HO} (r : Rel T φ H st) (e : Ext φ H φ1 (upd Hb p o)) (h0 : H p = none) (r1 : Rel T φ1 Hb st1) (hb : Hb p = none) : Ext φ H (φ1.push p) (upd Hb p o) := by
  obtain ⟨ψ, hψ, hn⟩ := e.more
  refine ⟨⟨ψ ++ [p], ?_, fun a ha => ?_⟩, e.hid, e.keep⟩
  · show φ1.ref ++ [p] = _
    rw [hψ, List.append_assoc]
  · rcases List.mem_append.mp ha with ha | ha
    · exact hn a ha
    · rw [List.mem_singleton.mp ha]; exact h0
theorem snd_mut {a : E} (ha : Snd Γ cf P t k a) : Snd Γ cf P t k (.mut a) := by
  intro X W x G h
  simp only [chk] at h
  rw [Bool.and_eq_true] at h
  obtain ⟨h1, hf⟩ := h
  obtain ⟨p1, p2⟩ := ha X W x G h1
  refine ⟨pe_imp p1 fun σ H Q ⟨φ, env, st, r, E, o⟩ => ⟨φ, env, st, r, E, ?_⟩, p2⟩
  simp only [ev] at o
  cases q : ev Γ cf a env st with
  | stk => rw [q] at o; exact o
  | ex c fs s => rw [q] at o; exact o
  | ok d st1 =>
    rw [q] at o
    intro φ1 H1 v r1 e1 p1
    cases d with
    | lst ds =>
      obtain ⟨p, Hb, ob, rfl, rfl, hb, h0, rb, vs, rfl, hz, hr⟩ := p1.2 hf rfl
      have hx : Ext φ1 Hb (φ1.push p) (upd Hb p (.lst vs)) := ext_push hb
      obtain ⟨rp, _⟩ := rel_push (m := .lst ds) rb hb ⟨vs, upd_same, hz, rb.reps hx hr⟩
      exact o (φ1.push p) _ (.ref p) rp (ext_join r e1 h0 rb hb) (.no ⟨p, push_at rb, rfl⟩ rfl)
    | dct ks ws =>
      obtain ⟨p, Hb, ob, rfl, rfl, hb, h0, rb, kvs, rfl, hz, hr⟩ := p1.2 hf rfl
      have hx : Ext φ1 Hb (φ1.push p) (upd Hb p (.dK kvs)) := ext_push hb
      obtain ⟨rp, _⟩ := rel_push (m := .dct false ks ws) rb hb ⟨kvs, by simp only [Bool.false_eq_true, if_false]; exact upd_same, hz, rb.reps hx hr⟩
      exact o (φ1.push p) _ (.ref p) rp (ext_join r e1 h0 rb hb) (.no ⟨p, push_at rb, rfl⟩ rfl)
    | _ => exact o.elim
/-! ### places -/
theorem snd_idx {a i : E} (ha : Snd Γ cf P t k a) (hi : Snd Γ cf P t k i) : Snd Γ cf P t k (.idx a i) := by
  intro X W x G h
  simp only [chk, kIdx] at h
  split at h
  · rename_i x y pos
    simp only [Bool.and_eq_true] at h
    obtain ⟨hi1, hi2⟩ := hi X W y G h.2
    exact ⟨snd_op2 (fun env st => by simp only [ev]) (pe_ix ixr_idx (ha X W x G h.1).1 hi1 (head_ix hi2)), rfl⟩
  · cases h
/-- a slice's part -/
theorem po_part {e : E} (he : Snd Γ cf P t k e) {X : Cx} {W : WX} (G : Good Γ cf P t k X W) {l : Option Expr} (h : kOpt e.nulB (chk P X.N e X.env.scope) l = true) :
    PO X l (fun σ H Q => ∃ φ env st, Rel (rz X t) φ H st ∧ EnvR (rz X t) φ H σ env ∧ OutG (rz X t) (fun _ _ _ _ (a : Option Int) (b : Option Int) => a = b) W φ H σ
      (if e.nulB = true then .ok none st else (ev Γ cf e env st).bind fun d st => .of (bnd d) st : R (Option Int)) Q) := by
  cases l with
  | none =>
    have hn : e.nulB = true := h
    refine ⟨fun pins s σ H Q I ⟨φ, env, st, r, E, o⟩ => po_none.run pins s σ H Q I ?_⟩
    rw [if_pos hn] at o
    exact o φ H none r .refl rfl
  | some y =>
    have h' : (!e.nulB && chk P X.N e X.env.scope y) = true := h
    rw [Bool.and_eq_true] at h'
    have hn : e.nulB = false := by simpa using h'.1
    refine ⟨fun pins s σ H Q I ⟨φ, env, st, r, E, o⟩ => (po_some (he X W y G h'.2).1).run pins s σ H Q I ?_⟩
    rw [if_neg (by rw [hn]; simp)] at o
    refine tI_then r E (fun _ _ _ _ _ _ _ _ _ _ _ _ h => h) o fun v H1 φ1 st1 d r1 e1 E1 p1 o1 => ?_
    cases d with
    | int i => exact ⟨i, p1.1, o1 φ1 H1 (some i) r1 .refl rfl⟩
    | _ => exact o1.elim
theorem snd_slc {a lo hi : E} (ha : Snd Γ cf P t k a) (hl : Snd Γ cf P t k lo) (hh : Snd Γ cf P t k hi) : Snd Γ cf P t k (.slc a lo hi) := by
  intro X W x G h
  simp only [chk, kSlc] at h
  split at h
  · rename_i x l u p2 pos
    simp only [Bool.and_eq_true] at h
    refine ⟨pe_imp (pe_slice (slr_slc (t := t) (fr := true)) (ha X W x G h.1.1).1 (po_part hl G h.1.2) (po_part hh G h.2)) fun σ H Q ⟨φ, env, st, r, E, o⟩ => ?_, rfl⟩
    simp only [ev] at o
    refine tI_then r E shD o fun v H1 φ1 st1 d r1 e1 E1 p1 o1 => ?_
    refine ⟨φ1, env, st1, r1, E1, (OutG.bind (rep1 := fun _ _ _ _ (a : Option Int) (b : Option Int) => a = b) r1 shD o1).imp fun l1 H2 ⟨φ2, st2, d2, r2, e2, p2, o3⟩ => ?_⟩
    have p2' : d2 = l1 := p2
    subst p2'
    refine ⟨φ2, env, st2, r2, E1.ext r1 e2, (OutG.bind (rep1 := fun _ _ _ _ (a : Option Int) (b : Option Int) => a = b) r2 shD o3).imp fun u1 H3 ⟨φ3, st3, d3, r3, e3, p3, o4⟩ => ?_⟩
    have p3' : d3 = u1 := p3
    subst p3'
    exact ⟨φ3, st3, d, r3, r2.rep e3 (r1.rep e2 p1.1), o4.of⟩
  · cases h
end
end Cip

set_option maxHeartbeats 4000000
/-! Cip12: calls. -/
namespace Cip
open PySem PySem.Spec PyProof.Rows L2

section
variable {Γ : Tx} {cf : CF} {P : Pn} {t : Nm} {k : Nat}
/-- a call's outcome, to the def's promise -/
theorem sp_of {X : Cx} {W : WX} {f : Nat} {φ : Fi} {H : Hp} {σ : L2.St} {st : Store} {ds : List D} {vs : List V} {Q : VK} (r : Rel (rz X t) φ H st) (hr : Reps X.K φ H ds vs) (o : OutG (rz X t) (repD (rz X t) false) W φ H σ (cf f ds st) Q) :
    spOf X.K t cf f ds.length vs H Q fun cls d H' => W cls d σ H' := by
  refine ⟨φ, ds, st, r, hr, rfl, ?_⟩
  cases q : cf f ds st with
  | ok d s => rw [q] at o; exact fun φ' H' v a b c => o φ' H' v a b (.weak c)
  | ex c fs s => rw [q] at o; exact o
  | stk => rw [q] at o; exact o
theorem sp_len {K : PySem.W.Frag} {f np : Nat} {vs : List V} {H : Hp} {Q : VK} {E : XK} (h : spOf K t cf f np vs H Q E) : vs.length = np := by
  obtain ⟨φ, ds, st, r, hr, hl, _⟩ := h
  rw [hr.length, hl]
theorem snd_call {f : Nat} {es : List E} (hs : Snds Γ cf P t k es) : Snd Γ cf P t k (.call f es) := by
  intro X W x G h
  simp only [chk, kCall] at h
  rw [Bool.and_eq_true] at h
  obtain ⟨h, hhas⟩ := h
  split at h
  · rename_i y _ xs pos
    simp only [Bool.and_eq_true] at h
    obtain ⟨a, fd, ps, hm, hk, hb, hl, F⟩ := G.fns f hhas
    obtain rfl := of_decide_eq_true h.1.1
    obtain ⟨hp, hns⟩ := snd_args es hs X W xs G h.2
    refine ⟨⟨fun pins s σ H Q I ⟨φ, env, st, r, E, o⟩ => ?_⟩, rfl⟩
    simp only [ev] at o
    -- the arguments, then the call
    have hA : tIs Γ cf (rz X t) W es σ H (fun vs H1 => spOf X.K t cf f ps.length vs H1 Q fun cls d H' => W cls d σ H') :=
      tIs_then r E shD o fun v H1 φ1 st1 ds r1 e1 E1 p1 o1 => by
        by_cases e : ds.length = ps.length
        · rw [← e]
          exact sp_of r1 p1 o1
        · rw [hl ds st1 e] at o1
          exact o1.elim
    refine wpAny_Call_Name_kw (ld_glob I (G.glob h.1.2) hm ?_ (nm0_d (glB_nm h.1.2)))
    cases xs with
    | nil =>
      refine PySem.W.callWith_K0 I.kIn hk ?_
      have he : es = [] := by
        cases es with
        | nil => rfl
        | cons e es => obtain ⟨_, _, e, _⟩ := chks_cons h.2; cases e
      subst he
      obtain ⟨φ', env', st', r', E', o'⟩ := hA
      rw [evs_nil] at o'
      exact run_fng (us := []) F G.grd G.room hb G.tk I .nil (o' φ' H [] r' .refl rfl)
    | cons y ys =>
      have hy : headOk y = true := by
        have : (headOk y && noStars ys) = true := hns
        exact (Bool.and_eq_true_iff.mp this).1
      have hys : noStars ys = true := by
        have : (headOk y && noStars ys) = true := hns
        exact (Bool.and_eq_true_iff.mp this).2
      refine PySem.W.callWith_K (h₀ := X.base) I.ok.mod.kin hk (thn (hp.run pos pins s σ H _ I hA) fun us s1 ⟨vs, H1, I1, ru, q⟩ => ⟨I1.kIn, ?_⟩) (head_star hy) (noStars_any hys)
      exact run_fng F G.grd G.room hb G.tk I1 ru q
  · cases h
/-! ### built-in calls -/
theorem reps1 {T : Rz} {φ : Fi} {H : Hp} {d : D} {vs : List V} (h : Reps T.K φ H [d] vs) : ∃ v, vs = [v] ∧ Rep T.K φ H d v := by
  obtain ⟨v, r, h1, h2, h3⟩ := h
  have h3 : r = [] := h3
  subst h3
  exact ⟨v, h1, h2⟩
theorem reps2 {T : Rz} {φ : Fi} {H : Hp} {d e : D} {vs : List V} (h : Reps T.K φ H [d, e] vs) : ∃ v w, vs = [v, w] ∧ Rep T.K φ H d v ∧ Rep T.K φ H e w := by
  obtain ⟨v, r, h1, h2, w, r2, h3, h4, h5⟩ := h
  have h5 : r2 = [] := h5
  subst h5
  exact ⟨v, w, by rw [h1, h3], h2, h4⟩
theorem cr_of1 {X : Cx} {f : Value} {g : Store → D → Option D} (h : C1 X t f g) (fr : Bool) : CallR X f (fun xs H Q => ∃ φ st d v, xs = [v] ∧ Rel (rz X t) φ H st ∧ Rep X.K φ H d v ∧ OutO (rz X t) fr φ H st (g st d) Q) := by
  intro pins s σ H xs us Q I ru ⟨φ, st, d, v, e, r, hd, o⟩
  subst e
  cases ru with
  | cons r1 r2 =>
    cases r2
    exact h fr pins s σ H v _ Q φ st d I (.cons r1 .nil) r hd o
theorem bi_one {X : Cx} {W : WX} {b : BI} {es : List E} {σ : L2.St} {H : Hp} {Q : VK} (hb : ∀ st d e, bi2 st b d e = none) (h : tI Γ cf (rz X t) W (.bi b es) σ H Q) :
    tCB (fun xs H Q => ∃ φ st d v, xs = [v] ∧ Rel (rz X t) φ H st ∧ Rep X.K φ H d v ∧ OutO (rz X t) (E.bi b es).fresh φ H st (bi1 st b d) Q) (tIs Γ cf (rz X t) W es) σ H Q := by
  obtain ⟨φ, env, st, r, E0, o⟩ := h
  simp only [ev] at o
  refine tIs_then r E0 shD o fun v H1 φ1 st1 ds r1 e1 E1 p1 o1 => ?_
  match ds, p1, o1 with
  | [], _, o1 => exact o1.elim
  | [d], p1, o1 =>
    obtain ⟨w, hw, hd⟩ := reps1 (T := rz X t) p1
    exact ⟨φ1, st1, d, w, hw, r1, hd, o1.of⟩
  | [d, e], _, o1 =>
    simp only [biD, hb] at o1
    exact o1.elim
  | _ :: _ :: _ :: _, _, o1 => exact o1.elim
theorem bi_two {X : Cx} {W : WX} {b : BI} {es : List E} {σ : L2.St} {H : Hp} {Q : VK} (hb : ∀ st d, bi1 st b d = none) (h : tI Γ cf (rz X t) W (.bi b es) σ H Q) :
    tCB (fun xs H Q => ∃ φ st d e v w, xs = [v, w] ∧ Rel (rz X t) φ H st ∧ Rep X.K φ H d v ∧ Rep X.K φ H e w ∧ OutO (rz X t) (E.bi b es).fresh φ H st (bi2 st b d e) Q) (tIs Γ cf (rz X t) W es) σ H Q := by
  obtain ⟨φ, env, st, r, E0, o⟩ := h
  simp only [ev] at o
  refine tIs_then r E0 shD o fun v H1 φ1 st1 ds r1 e1 E1 p1 o1 => ?_
  match ds, p1, o1 with
  | [], _, o1 => exact o1.elim
  | [d], _, o1 =>
    simp only [biD, hb] at o1
    exact o1.elim
  | [d, e], p1, o1 =>
    obtain ⟨v1, v2, hw, hd, he⟩ := reps2 (T := rz X t) p1
    exact ⟨φ1, st1, d, e, v1, v2, hw, r1, hd, he, o1.of⟩
  | _ :: _ :: _ :: _, _, o1 => exact o1.elim
theorem cr_max2 {X : Cx} (hc : X.calm = true) (fr : Bool) : CallR X (.builtin "max") (fun xs H Q => ∃ φ st d e v w, xs = [v, w] ∧ Rel (rz X t) φ H st ∧ Rep X.K φ H d v ∧ Rep X.K φ H e w ∧ OutO (rz X t) fr φ H st (bi2 st .max2 d e) Q) := by
  intro pins s σ H xs us Q I ru ⟨φ, st, d, e, v, w, hx, r, hd, he, o⟩
  subst hx
  cases d with
  | int i => cases e with
    | int j => cases hd; cases he; exact call_max2 hc pins s σ H _ us Q I ru ⟨i, j, rfl, o.flat r rfl⟩
    | _ => exact o.elim
  | _ => cases e <;> exact o.elim
theorem cr_min2 {X : Cx} (hc : X.calm = true) (fr : Bool) : CallR X (.builtin "min") (fun xs H Q => ∃ φ st d e v w, xs = [v, w] ∧ Rel (rz X t) φ H st ∧ Rep X.K φ H d v ∧ Rep X.K φ H e w ∧ OutO (rz X t) fr φ H st (bi2 st .min2 d e) Q) := by
  intro pins s σ H xs us Q I ru ⟨φ, st, d, e, v, w, hx, r, hd, he, o⟩
  subst hx
  cases d with
  | int i => cases e with
    | int j => cases hd; cases he; exact call_min2 hc pins s σ H _ us Q I ru ⟨i, j, rfl, o.flat r rfl⟩
    | _ => exact o.elim
  | _ => cases e <;> exact o.elim
theorem chars_reps {T : Rz} {φ : Fi} {H : Hp} : ∀ (cs : List Nat), Reps T.K φ H (cs.map fun c => D.str ⟨#[c]⟩) (cs.map fun c => V.str ⟨#[c]⟩)
  | [] => rfl
  | c :: cs => ⟨_, _, rfl, ⟨rfl, by show 1 ≤ sizeLine; decide⟩, chars_reps cs⟩
theorem vals_chars {x : Str} : ∀ (us : List Value) (cs : List Nat), us.length = cs.length → (∀ (j : Nat) (v : Value), us[j]? = some v → ∃ c u, cs[j]? = some c ∧ v = Value.str ⟨#[c]⟩ u) → Vals (cs.map fun c => V.str ⟨#[c]⟩) us
  | [], [], _, _ => .nil
  | u :: us, c :: cs, hl, h => by
    obtain ⟨c', tk, h1, h2⟩ := h 0 u rfl
    cases h1
    exact .cons ⟨tk, h2⟩ (vals_chars (x := x) us cs (by simpa using hl) fun j v hv => h (j + 1) v hv)
  | [], _ :: _, hl, _ => by cases hl
  | _ :: _, [], hl, _ => by cases hl
theorem c1_list {X : Cx} (hc : X.calm = true) : C1 X t (.type "list") fun st d => bi1 st .list d := by
  intro fr pins s σ H v u Q φ st d I ru r hd h
  by_cases hs : ∃ x, d = .str x
  · obtain ⟨x, rfl⟩ := hs
    have hz := hd.2
    cases hd.1
    cases ru with
    | cons r1 r2 =>
      cases r2
      obtain ⟨tk, rfl⟩ := r1
      refine call_list_str (I.ok.hd hc) x tk (hn := hz) fun h' tk' acc c' hk e hi => ?_
      have hv : Vals (x.cps.toList.map fun c => V.str ⟨#[c]⟩) acc.toList := vals_chars (x := x) _ _ (by rw [Array.length_toList, Array.length_toList, hi.1]) fun j w hw => by
        obtain ⟨c, tk2, q1, q2⟩ := hi.2 j w (by simpa using hw)
        exact ⟨c, tk2, by simpa using q1, q2⟩
      have hl : (x.cps.toList.map fun c => V.str ⟨#[c]⟩).length ≤ sizeLine := by
        rw [List.length_map, Array.length_toList]
        exact hz
      have I2 := I.laid (a := s.heap.objs.size) (o := .lst (x.cps.toList.map fun c => V.str ⟨#[c]⟩)) (t' := tk') (h' := h') hk (Nat.le_refl _) ⟨hl, acc.toList, c', hv, by simpa using e⟩
      refine ⟨.ref s.heap.objs.size, _, I2, rfl, ?_⟩
      exact h.lst r (I.hok.fresh (Nat.le_refl _)) (chars_reps _) (by rw [List.length_map, Array.length_toList]; exact hz)
  cases q : seqD st d with
  | some xs =>
    have h' : OutO (rz X t) fr φ H st (some (.lst xs)) Q := by
      cases d with
      | str x => cases q
      | _ => simp only [bi1, q] at h; exact h
    obtain ⟨p, vs, rfl, h2, h3, h4⟩ := seq_at r hd q
    exact call_list_of pins s σ H _ _ Q I ru ⟨p, vs, rfl, h2, fun l hl => h'.lst r hl h4 h3⟩
  | none =>
    cases d with
    | str x => exact absurd ⟨x, rfl⟩ hs
    | _ => simp only [bi1, q] at h; exact h.elim
/-- a built-in function, a type, by its name -/
theorem snd_biB {X : Cx} {W : WX} {b : BI} {id : String} {es : List E} {y : Str} {p pos : Pos} {xs : List Expr} {r : List V → Hp → VK → Prop} (hs : Snds Γ cf P t k es) (G : Good Γ cf P t k X W) (hy : glB X.env.scope y = true) (hm : y ∈ bltNames)
    (hb : bootBuiltins y = some (.builtin id)) (hc : CallR X (.builtin id) r) (hne : es ≠ []) (h : chks P X.N es X.env.scope xs = true)
    (hi : ∀ σ H Q, tI Γ cf (rz X t) W (.bi b es) σ H Q → tCB r (tIs Γ cf (rz X t) W es) σ H Q) : PE X (.Call (.Name y p) xs [] pos) (tI Γ cf (rz X t) W (.bi b es)) := by
  obtain ⟨hp, hns⟩ := snd_args es hs X W xs G h
  cases xs with
  | nil =>
    cases es with
    | nil => exact absurd rfl hne
    | cons e es => obtain ⟨_, _, e, _⟩ := chks_cons h; cases e
  | cons z zs =>
    have hz : (headOk z && noStars zs) = true := hns
    rw [Bool.and_eq_true] at hz
    exact pe_imp (pe_callB hc (G.glob hy) (G.top.blt y hm) hb hp (nm0_n (glB_nm hy)) (nm0_d (glB_nm hy)) (head_star hz.1) (noStars_any hz.2)) hi
theorem snd_biT {X : Cx} {W : WX} {b : BI} {id : String} {es : List E} {y : Str} {p pos : Pos} {xs : List Expr} {r : List V → Hp → VK → Prop} (hs : Snds Γ cf P t k es) (G : Good Γ cf P t k X W) (hy : glB X.env.scope y = true) (hm : y ∈ bltNames)
    (hb : bootBuiltins y = some (.type id)) (hc : CallR X (.type id) r) (hne : es ≠ []) (h : chks P X.N es X.env.scope xs = true)
    (hi : ∀ σ H Q, tI Γ cf (rz X t) W (.bi b es) σ H Q → tCB r (tIs Γ cf (rz X t) W es) σ H Q) : PE X (.Call (.Name y p) xs [] pos) (tI Γ cf (rz X t) W (.bi b es)) := by
  obtain ⟨hp, hns⟩ := snd_args es hs X W xs G h
  cases xs with
  | nil =>
    cases es with
    | nil => exact absurd rfl hne
    | cons e es => obtain ⟨_, _, e, _⟩ := chks_cons h; cases e
  | cons z zs =>
    have hz : (headOk z && noStars zs) = true := hns
    rw [Bool.and_eq_true] at hz
    exact pe_imp (pe_callTy hc (G.glob hy) (G.top.blt y hm) hb hp (nm0_n (glB_nm hy)) (nm0_d (glB_nm hy)) (head_star hz.1) (noStars_any hz.2)) hi
theorem snd_bi {b : BI} {es : List E} (hs : Snds Γ cf P t k es) : Snd Γ cf P t k (.bi b es) := by
  intro X W x G h
  simp only [chk, kCall] at h
  rw [Bool.and_eq_true, Bool.and_eq_true] at h
  obtain ⟨⟨h, hn⟩, hok⟩ := h
  have hne := ne_of_empty hn
  split at h
  · rename_i y _ xs pos
    simp only [Bool.and_eq_true] at h
    obtain ⟨⟨h1, h2⟩, h3⟩ := h
    have h1 := of_decide_eq_true h1
    subst h1
    refine ⟨?_, rfl⟩
    cases b with
    | len => exact snd_biB hs G h2 (by decide) (by decide +kernel) (cr_of1 c1_len _) hne h3 fun σ H Q q => bi_one (fun _ _ _ => rfl) q
    | abs => exact snd_biB hs G h2 (by decide) (by decide +kernel) (cr_of1 c1_abs _) hne h3 fun σ H Q q => bi_one (fun _ _ _ => rfl) q
    | int => exact snd_biT hs G h2 (by decide) (by decide +kernel) (cr_of1 c1_int _) hne h3 fun σ H Q q => bi_one (fun _ _ _ => rfl) q
    | str => exact snd_biT hs G h2 (by decide) (by decide +kernel) (cr_of1 c1_str _) hne h3 fun σ H Q q => bi_one (fun _ _ _ => rfl) q
    | repr => exact snd_biB hs G h2 (by decide) (by decide +kernel) (cr_of1 (c1_repr G.grd G.hu) _) hne h3 fun σ H Q q => bi_one (fun _ _ _ => rfl) q
    | sum => exact snd_biB hs G h2 (by decide) (by decide +kernel) (cr_of1 (c1_sum G.calm) _) hne h3 fun σ H Q q => bi_one (fun _ _ _ => rfl) q
    | all => exact snd_biB hs G h2 (by decide) (by decide +kernel) (cr_of1 (c1_all G.calm) _) hne h3 fun σ H Q q => bi_one (fun _ _ _ => rfl) q
    | any => exact snd_biB hs G h2 (by decide) (by decide +kernel) (cr_of1 (c1_any G.calm) _) hne h3 fun σ H Q q => bi_one (fun _ _ _ => rfl) q
    | tuple => exact snd_biT hs G h2 (by decide) (by decide +kernel) (cr_of1 c1_tuple _) hne h3 fun σ H Q q => bi_one (fun _ _ _ => rfl) q
    | max2 => exact snd_biB hs G h2 (by decide) (by decide +kernel) (cr_max2 G.calm _) hne h3 fun σ H Q q => bi_two (fun _ _ => rfl) q
    | min2 => exact snd_biB hs G h2 (by decide) (by decide +kernel) (cr_min2 G.calm _) hne h3 fun σ H Q q => bi_two (fun _ _ => rfl) q
    | list => exact snd_biT hs G h2 (by decide) (by decide +kernel) (cr_of1 (c1_list G.calm) _) hne h3 fun σ H Q q => bi_one (fun _ _ _ => rfl) q
    | sorted => cases hok
    | set => cases hok
    | lenset => cases hok
  · cases h
end
end Cip

set_option maxHeartbeats 4000000
/-! Cip13: isinstance, methods, the empty dict, append. -/
namespace Cip
open PySem PySem.Spec PyProof.Rows L2

section
variable {Γ : Tx} {cf : CF} {P : Pn} {t : Nm} {k : Nat}
/-! ### isinstance -/
theorem kit_no {K : PySem.W.Frag} {a b : String} {r : Bool} (h : kitB a b = some r) : PySem.W.kitOne K (.type a) (.type b) = some r := kit_ty h
def tyS : Ty → String
  | .int => "int" | .str => "str" | .bool => "bool" | .tuple => "tuple" | .list => "list" | .dict => "dict" | .cls _ => "" | .verr => "ValueError"
theorem sqt_ty {K : PySem.W.Frag} {H : Hp} {a : Addr} {vs : List V} (h : SqT K H a vs) : TyX K H (.ref a) (.type "tuple") := by
  rcases h with (h | ⟨o, h⟩) | ⟨o, its, n, h1, h2, h3, _⟩
  · exact .base (.tup h)
  · exact .fTuple h
  · exact .kTuple h1 h2
/-- the answer of isinstance, for built-in types -/
theorem isi_ok {T : Rz} {φ : Fi} {H : Hp} {st : Store} {d : D} {v : V} {ty : Ty} {b : Bool} (r : Rel T φ H st) (hd : Rep T.K φ H d v) (ho : ownTy ty = false) (h : maxTy st ty d = some b) :
    ∃ t, TyX T.K H v t ∧ PySem.W.kitOne T.K t (.type (tyS ty)) = some b := by
  have lst : ∀ {a : Addr} {vs : List V}, H a = some (.lst vs) → TyX T.K H (.ref a) (.type "list") := fun e => .base (.lst e)
  cases d with
  | non => cases hd; refine ⟨_, .base .non, ?_⟩; cases ty <;> first | (cases h; exact kit_ty (by decide +kernel)) | cases ho
  | bl x => cases hd; refine ⟨_, .base (.bl x), ?_⟩; cases ty <;> first | (cases h; exact kit_ty (by decide +kernel)) | cases ho
  | int x => cases hd; refine ⟨_, .base (.int x), ?_⟩; cases ty <;> first | (cases h; exact kit_ty (by decide +kernel)) | cases ho
  | str x => cases hd.1; refine ⟨_, .base (.str x), ?_⟩; cases ty <;> first | (cases h; exact kit_ty (by decide +kernel)) | cases ho
  | tup xs => obtain ⟨a, vs, rfl, h2, _⟩ := hd; refine ⟨_, sqt_ty h2, ?_⟩; cases ty <;> first | (cases h; exact kit_ty (by decide +kernel)) | cases ho
  | lst xs => obtain ⟨a, vs, rfl, h2, _⟩ := hd; refine ⟨_, lst h2, ?_⟩; cases ty <;> first | (cases h; exact kit_ty (by decide +kernel)) | cases ho
  | dct ks ws => obtain ⟨a, vs, rfl, h2, _⟩ := hd; refine ⟨_, .base (.dK h2), ?_⟩; cases ty <;> first | (cases h; exact kit_ty (by decide +kernel)) | cases ho
  | scr xs => cases ty <;> cases h
  | ref j =>
    obtain ⟨a, h1, rfl⟩ := hd
    cases q : st[j]? with
    | none => cases ty <;> simp [maxTy, q] at h
    | some o =>
      obtain ⟨a', h3, h4⟩ := r.at_ j o q
      rw [h1] at h3; cases h3
      cases o with
      | lst xs =>
        obtain ⟨vs, e, _⟩ := h4
        refine ⟨_, lst e, ?_⟩
        cases ty <;> first | (simp only [maxTy, q] at h; cases h; exact kit_ty (by decide +kernel)) | cases ho
      | dct lk ks ws =>
        obtain ⟨kvs, e, _⟩ := h4
        cases lk with
        | true =>
          simp only [if_true] at e
          obtain ⟨o, e⟩ := e
          refine ⟨_, .fDict e, ?_⟩
          cases ty <;> first | (simp only [maxTy, q] at h; cases h; exact kit_ty (by decide +kernel)) | cases ho
        | false =>
          simp only [Bool.false_eq_true, if_false] at e
          refine ⟨_, .base (.dK e), ?_⟩
          cases ty <;> first | (simp only [maxTy, q] at h; cases h; exact kit_ty (by decide +kernel)) | cases ho
      | ins c fs => cases ty <;> first | (simp only [maxTy, q] at h; cases h; done) | cases ho | skip
      | exc c fs => cases ty <;> first | (simp only [maxTy, q] at h; cases h; done) | cases ho | skip
theorem ty_boot {ty : Ty} (ho : ownTy ty = false) : bootBuiltins ty.nm = some (.type (tyS ty)) := by
  cases ty <;> first | decide +kernel | cases ho
theorem ty_blt {ty : Ty} (ho : ownTy ty = false) : ty.nm ∈ bltNames := by
  cases ty <;> first | decide | cases ho
theorem snd_isi {a : E} {ty : Ty} (ha : Snd Γ cf P t k a) : Snd Γ cf P t k (.isi a ty) := by
  intro X W x G h
  simp only [chk, kIsi] at h
  rw [Bool.and_eq_true] at h
  obtain ⟨h, ho⟩ := h
  have ho : ownTy ty = false := by simpa using ho
  split at h
  · rename_i n p y z p2 pos
    simp only [Bool.and_eq_true] at h
    obtain ⟨⟨⟨⟨h1, h2⟩, h3⟩, h4⟩, h5⟩ := h
    have h1 := of_decide_eq_true h1
    subst h1
    have h4 := of_decide_eq_true h4
    subst h4
    obtain ⟨hy, hy2⟩ := ha X W y G h3
    have hT : PE X (.Name ty.nm p2) (tC (.ty (tyS ty))) := pe_bltn (G.glob h5) (G.top.blt _ (ty_blt ho)) (ty_boot ho) rfl (nm0_n (glB_nm h5)) (nm0_d (glB_nm h5))
    refine ⟨pe_imp (pe_callB call_isi (G.glob h2) (G.top.blt _ (by decide)) (by decide +kernel) (pa_cons hy (pa_cons hT pa_nil rfl) (head_star hy2)) (by decide) (by decide) (head_star hy2) rfl) fun σ H Q ⟨φ, env, st, r, E, o⟩ => ?_, rfl⟩
    simp only [ev] at o
    refine tI_then r E shD o fun v H1 φ1 st1 d r1 e1 E1 p1 o1 => ?_
    cases q : isiD Γ.sub Γ.ve st1 d ty with
    | none => rw [q] at o1; exact o1.elim
    | some b =>
      rw [q] at o1
      have q' : maxTy st1 ty d = some b := by
        cases ty <;> first | exact q | cases ho
      obtain ⟨tt, q1, q2⟩ := isi_ok r1 p1.1 ho q'
      exact ⟨v, .ty (tyS ty), tt, .type (tyS ty), b, rfl, .ty _, q1, q2, out_ok r1 o1 rfl (.inl rfl)⟩
  · cases h
theorem snd_isiT {a : E} {ty : Ty} (ha : Snd Γ cf P t k a) : SndT Γ cf P t k (.isi a ty) := sndT_of (snd_isi ha) fun N sc x h => by
  simp only [chk, kIsi] at h
  rw [Bool.and_eq_true] at h
  obtain ⟨h, _⟩ := h
  split at h
  · rfl
  · cases h

/-! ### the empty dict -/
theorem snd_dct {es : List E} : Snd Γ cf P t k (.dct es) := by
  intro X W x G h
  simp only [chk, kDct] at h
  rw [Bool.and_eq_true] at h
  obtain ⟨h, hn⟩ := h
  obtain rfl := List.isEmpty_iff.mp hn
  split at h
  · refine ⟨pe_imp pe_dnewK fun σ H Q ⟨φ, env, st, r, E, o⟩ p hp => ?_, rfl⟩
    simp only [ev] at o
    have hx : Ext φ H φ (upd H p (.dK [])) := ext_new hp
    exact o φ _ (.ref p) (r.new hp) hx ⟨⟨p, [], rfl, upd_same, r.fresh hp, rfl, rfl⟩, fun _ _ => ⟨p, H, _, rfl, rfl, hp, hp, r, [], rfl, rfl, rfl⟩⟩
  · cases h
/-! ### append -/
theorem app_ok2 {T : Rz} {W : WX} {φ : Fi} {H : Hp} {σ : L2.St} {st : Store} {x d : D} {l : Addr} {w : V} {Q : VK} {fr : Bool} (r : Rel T φ H st) (hx : Rep T.K φ H x (.ref l)) (hd : Rep T.K φ H d w) (o : OutG T (repD T fr) W φ H σ (appD st x d) Q) : rAppend (.ref l) [w] H Q := by
  unfold appD at o
  split at o
  · rename_i k
    split at o
    · rename_i xs hk
      split at o
      · rename_i hz
        obtain ⟨a, h1, h2⟩ := hx
        cases h2
        obtain ⟨b, h3, vs, h4, h5, h6⟩ := r.at_ _ _ hk
        rw [h1] at h3; cases h3
        refine ⟨l, vs, w, rfl, rfl, h4, by rw [h6.length]; exact hz, ?_⟩
        have hm : l ∈ φ.ref := List.mem_of_getElem? h1
        have e : Ext φ H φ (upd H l (.lst (vs ++ [w]))) := ext_set hm
        refine o φ _ .non (r.put h1 ⟨vs ++ [w], upd_same, ?_, ?_⟩) e ⟨rfl, fun _ z => by cases z⟩
        · rw [List.length_append, List.length_singleton]; exact hz
        · exact (r.reps e h6).append ⟨w, [], rfl, r.rep e hd, rfl⟩
      · exact o.elim
    · exact o.elim
  · exact o.elim
theorem snd_app {a e : E} (ha : Snd Γ cf P t k a) (he : Snd Γ cf P t k e) : Snd Γ cf P t k (.app a e) := by
  intro X W x G h
  simp only [chk, kMeth] at h
  split at h
  · rename_i x m' ap xs cp
    simp only [Bool.and_eq_true] at h
    obtain ⟨⟨⟨⟨h1, h2⟩, h3⟩, h4⟩, h5⟩ := h
    have h1 := of_decide_eq_true h1
    subst h1
    unfold kOne at h5
    split at h5
    · rename_i y
      obtain ⟨hy, hy2⟩ := he X W y G h5
      have hst : ∀ (z : Expr) (r : List Expr), headOk z = true → starEach (z :: r) X.env = (false, eval z X.env) :: starEach r X.env := fun z r hz => head_star hz
      refine ⟨pe_imp (pe_bm F.plainAttrs_list F.slot_list_append F.type_list_append mt_append (ha X W x G h4).1 (pa_cons hy pa_nil (head_star hy2)) (headA_ok h2) (by rw [hst y [] hy2]; rfl) h3 (head_star hy2) rfl) fun σ H Q ⟨φ, env, st, r, E, o⟩ => ?_, rfl⟩
      simp only [ev] at o
      refine tI_then r E shD o fun v H1 φ1 st1 d r1 e1 E1 p1 o1 => ?_
      split at o1
      · rename_i hl
        obtain ⟨xs, hxs⟩ := Option.isSome_iff_exists.mp hl
        obtain ⟨p, vs, rfl, h6, h7, h8⟩ := lst_at r1 p1.1 hxs
        refine ⟨.inl ⟨rfl, vs, .inl (.inl h6)⟩, ?_⟩
        obtain ⟨φ', env', st', r', E', o'⟩ := tI_then r1 E1 shD o1 fun w H2 φ2 st2 d2 r2 e2 E2 p2 o2 => app_ok2 r2 (r1.rep e2 p1.1) p2.1 o2
        exact ⟨φ', env', st', r', E', o'.imp fun v H3 q => q⟩
      · exact o1.elim
    · cases h5
  · cases h
end
end Cip

set_option maxHeartbeats 4000000
/-! Cip14: methods that change nothing. -/
namespace Cip
open PySem PySem.Spec PyProof.Rows L2

section
variable {Γ : Tx} {cf : CF} {P : Pn} {t : Nm} {k : Nat}
/-- a method by values -/
def rBm (X : Cx) (t : Nm) (fr : Bool) (m : BM) : V → List V → Hp → VK → Prop := fun x xs H Q => ∃ φ st d ds, Rel (rz X t) φ H st ∧ Rep X.K φ H d x ∧ Reps X.K φ H ds xs ∧ OutO (rz X t) fr φ H st (bmD st m d ds) Q
theorem strs_reps {T : Rz} {φ : Fi} {H : Hp} {n : Nat} (hn : n ≤ sizeLine) : ∀ {ys : List Str}, (∀ y ∈ ys, y.length ≤ n) → Reps T.K φ H (ys.map D.str) (ys.map V.str)
  | [], _ => rfl
  | y :: ys, h => ⟨_, _, rfl, ⟨rfl, Nat.le_trans (h y (by simp)) hn⟩, strs_reps hn fun z hz => h z (List.mem_cons_of_mem _ hz)⟩
theorem bm_join {X : Cx} {fr : Bool} : MtR X "str.join" (rBm X t fr .join) := by
  intro pins s σ H x xs v us Q I rx rxs ⟨φ, st, d, ds, r, hd, hds, o⟩
  unfold bmD at o
  split at o <;> first | exact o.elim | (rename_i h; cases h) | skip
  rename_i sep e
  obtain ⟨w, hw, he⟩ := reps1 (T := rz X t) hds
  subst hw
  cases q1 : seqD st e with
  | none => rw [q1] at o; exact o.elim
  | some ys =>
    rw [q1] at o
    simp only [Option.bind_some] at o
    cases q2 : strsD ys with
    | none => rw [q2] at o; exact o.elim
    | some ss =>
      rw [q2] at o
      simp only [Option.bind_some] at o
      split at o
      · rename_i hj
        obtain ⟨p, vs, rfl, h2, h3, h4⟩ := seq_at r he q1
        have h5 := strs_strs h4 q2
        subst h5
        have hz := hd.2
        cases hd.1
        rw [Bool.and_eq_true] at hj
        have hj' := of_decide_eq_true hj.1
        exact mt_join pins s σ H _ _ v us Q I rx rxs ⟨sep, p, ss, rfl, rfl, h2, hj', o.flat r ⟨rfl, of_decide_eq_true hj.2⟩⟩
      · exact o.elim
theorem bm_upper {X : Cx} {fr : Bool} : MtR X "str.upper" (rBm X t fr .upper) := by
  intro pins s σ H x xs v us Q I rx rxs ⟨φ, st, d, ds, r, hd, hds, o⟩
  unfold bmD at o
  split at o <;> first | exact o.elim | (rename_i h; cases h) | skip
  rename_i z
  split at o
  · rename_i hz
    cases hd.1
    obtain rfl : xs = [] := hds
    exact mt_upper pins s σ H _ _ v us Q I rx rxs ⟨z, rfl, rfl, hz.1, o.flat r ⟨rfl, hz.2⟩⟩
  · exact o.elim
theorem bm_rstrip {X : Cx} {fr : Bool} : MtR X "str.rstrip" (rBm X t fr .rstrip) := by
  intro pins s σ H x xs v us Q I rx rxs ⟨φ, st, d, ds, r, hd, hds, o⟩
  unfold bmD at o
  split at o <;> first | exact o.elim | (rename_i h; cases h) | skip
  rename_i z
  split at o
  · rename_i hz
    have hz2 := hd.2
    cases hd.1
    obtain rfl : xs = [] := hds
    exact mt_rstrip pins s σ H _ _ v us Q I rx rxs ⟨z, rfl, rfl, hz2, o.flat r ⟨rfl, hz⟩⟩
  · exact o.elim
theorem bm_count {X : Cx} {fr : Bool} : MtR X "str.count" (rBm X t fr .count) := by
  intro pins s σ H x xs v us Q I rx rxs ⟨φ, st, d, ds, r, hd, hds, o⟩
  unfold bmD at o
  split at o <;> first | exact o.elim | (rename_i h; cases h) | skip
  rename_i z y
  cases hd.1
  obtain ⟨w, hw, he⟩ := reps1 (T := rz X t) hds
  subst hw
  cases he.1
  exact mt_count pins s σ H _ _ v us Q I rx rxs ⟨z, y, rfl, rfl, o.flat r rfl⟩
theorem bm_sindex {X : Cx} {fr : Bool} : MtR X "str.index" (rBm X t fr .sindex) := by
  intro pins s σ H x xs v us Q I rx rxs ⟨φ, st, d, ds, r, hd, hds, o⟩
  unfold bmD at o
  split at o <;> first | exact o.elim | (rename_i h; cases h) | skip
  rename_i z y
  split at o
  · rename_i i l hi
    cases hd.1
    obtain ⟨w, hw, he⟩ := reps1 (T := rz X t) hds
    subst hw
    cases he.1
    exact mt_sindex pins s σ H _ _ v us Q I rx rxs ⟨z, y, i, l, rfl, rfl, hi, o.flat r rfl⟩
  · exact o.elim
theorem bm_split {X : Cx} {fr : Bool} : MtR X "str.split" (rBm X t fr .split) := by
  intro pins s σ H x xs v us Q I rx rxs ⟨φ, st, d, ds, r, hd, hds, o⟩
  unfold bmD at o
  split at o <;> first | exact o.elim | (rename_i h; cases h) | skip
  rename_i z y
  split at o
  · rename_i hz
    cases hd.1
    obtain ⟨w, hw, he⟩ := reps1 (T := rz X t) hds
    subst hw
    cases he.1
    refine mt_split pins s σ H _ _ v us Q I rx rxs ⟨z, y, rfl, rfl, by simpa using Nat.pos_iff_ne_zero.mp hz.1, hz.2.1, fun p hp => o.lst r hp (strs_reps (Nat.le_refl _) hz.2.2.2) ?_⟩
    rw [List.length_map]
    exact hz.2.2.1
  · exact o.elim
theorem strsD_len : ∀ {xs : List D} {ss : List Str}, strsD xs = some ss → xs.length = ss.length
  | [], _, h => by cases h; rfl
  | x :: xs, ss, h => by
    cases x with
    | str z =>
      simp only [strsD] at h
      cases q : strsD xs with
      | none => rw [q] at h; cases h
      | some m => rw [q] at h; cases h; simp [strsD_len q]
    | _ => cases h
/-- tuple.index, by texts -/
theorem bm_tindex {X : Cx} {fr : Bool} : MtR X "tuple.index" (rBm X t fr .tindex) := by
  intro pins s σ H x xs v us Q I rx rxs ⟨φ, st, d, ds, r, hd, hds, o⟩
  unfold bmD at o
  split at o <;> first | exact o.elim | (rename_i h; cases h) | skip
  rename_i zs y
  cases q2 : strsD zs with
  | none => rw [q2] at o; exact o.elim
  | some ss =>
    rw [q2] at o
    simp only [Option.bind_some] at o
    split at o
    · rename_i hm
      obtain ⟨a, vs, rfl, h1, h2, h3⟩ := hd
      have h5 := strs_strs (T := rz X t) h3 q2
      subst h5
      obtain ⟨w, hw, he⟩ := reps1 (T := rz X t) hds
      subst hw
      cases he.1
      cases rx
      cases rxs with
      | cons r1 r2 =>
        cases r2
        obtain ⟨tk, rfl⟩ := r1
        obtain ⟨its, rv, ht, hz⟩ := I.tuple h1
        exact SeqAt.tuple_index_strs (show s.heap.IsTuple a its.toArray from ht) (strs_of_vals rv) hm ⟨.int (ss.idxOf y : Nat), H, I.tok _, ⟨_, rfl⟩, o.flat r rfl⟩
    · exact o.elim
/-- what is asked ahead of the call -/
def tBmG (X : Cx) (T : String) (r : V → List V → Hp → VK → Prop) (to : TE) (ta : TA) : TE := fun σ H Q => to σ H fun x H1 => (∀ pins s v, Inv X pins σ H1 s → RelV x v → s.TypeIs v T ∧ ∀ a, v = .ref a → ∃ ob, s.heap.get? a = some ob ∧ ob.dict = none) ∧ ta σ H1 fun xs H2 => r x xs H2 Q
theorem evalArgs_zero {M : Model} {A : Around} {E : Value → Shared → Prop} {s : Shared} {f : Value} {Q : Args → Shared → Prop} (h : wpAny M A (spliced []) (fun vs s' => Q ⟨vs, []⟩ s') E s) : wpAny M A (evalArgs f true [] []) Q E s := by
  unfold evalArgs
  show wpAny M A (spliced [] >>= _) Q E s
  refine wpAny_bind (wpAny_mono h (fun vs s' h' => ?_) fun _ _ x => x)
  refine wpAny_holding ?_
  exact wpAny_bind (wpAny_pure (wpAny_bind (wpAny_pure (wpAny_pure h'))))
theorem pe_bmG {X : Cx} {T id : String} {name : Str} {r : V → List V → Hp → VK → Prop} {o : Expr} {es : List Expr} {to : TE} {ta : TA} {apos cpos : Pos} (pa : PlainAttrs T) (slot : Slot T name id) (hty : typeOf (.builtin id) = pure (.type "method_descriptor")) (hm : MtR X id r)
    (ho : PE X o to) (ha : PA X es ta) (hbase : attributeBase o name X.env (eval o X.env) = eval o X.env) (hns : noStars es = true) (hl : es.length ≤ 1)
    (hline : (apos.endLine == cpos.line) = true) : PE X (.Call (.Attribute o name apos) es [] cpos) (tBmG X T r to ta) := by
  refine ⟨fun pins s σ H Q I h => ?_⟩
  match es, ha, hns, hl with
  | [], ha, _, _ =>
    refine wpAny_Call_method0_late hbase hline (thn (ho.run pins s σ H _ I h) fun v s1 ⟨x, H1, I1, r1, ty, q1⟩ => ?_)
    obtain ⟨h1, h2⟩ := ty pins s1 v I1 r1
    refine ⟨T, id, pa, slot, hty, h1, h2, Calls.callWith_builtin rfl (evalArgs_zero ?_)⟩
    have hA := ha.run cpos pins s1 σ H1 _ I1 q1
    exact thn hA fun us s2 ⟨vs, H2, I2, r2, q2⟩ => hm pins s2 σ H2 x vs v us Q I2 r1 r2 q2
  | [e], ha, hns, _ =>
    have he : headOk e = true := by
      have h' : (headOk e && noStars []) = true := hns
      exact (Bool.and_eq_true_iff.mp h').1
    have hs : starEach [e] X.env = (false, eval e X.env) :: starEach [] X.env := head_star he
    refine wpAny_Call_method_late hbase (by rw [hs]; rfl) hline rfl (thn (ho.run pins s σ H _ I h) fun v s1 ⟨x, H1, I1, r1, ty, q1⟩ => ?_)
    obtain ⟨h1, h2⟩ := ty pins s1 v I1 r1
    refine ⟨T, id, pa, slot, hty, h1, h2, ?_⟩
    have hA := ha.run cpos pins s1 σ H1 _ I1 q1
    rw [hs] at hA ⊢
    refine Calls.callWith_builtin (by rfl) (Calls.evalArgs_plain ?_)
    exact thn hA fun us s2 ⟨vs, H2, I2, r2, q2⟩ => hm pins s2 σ H2 x vs v us Q I2 r1 r2 q2
  | _ :: _ :: _, _, _, hl => exact absurd hl (by simp)
/-- the receiver's type -/
def bmTy : BM → String
  | .tindex => "tuple"
  | .lindex => "list"
  | _ => "str"
theorem bm_on {X : Cx} {pins : List (Addr × Obj)} {σ : L2.St} {s : Shared} {φ : Fi} {H : Hp} {st : Store} {m : BM} {d : D} {x : V} {v : Value} (r : Rel (rz X t) φ H st) (hd : Rep X.K φ H d x) (hk : m = .tindex → ∃ a o, x = .ref a ∧ X.K.lookup a = some o ∧ o.cls = .type "tuple" ∧ o.dict = none) (hl : m ≠ .lindex) (h : bmOn st m d = true) (I : Inv X pins σ H s) (rx : RelV x v) :
    s.TypeIs v (bmTy m) ∧ ∀ a, v = .ref a → ∃ ob, s.heap.get? a = some ob ∧ ob.dict = none := by
  have str : ∀ {z : Str}, d = .str z → s.TypeIs v "str" ∧ ∀ a, v = .ref a → ∃ ob, s.heap.get? a = some ob ∧ ob.dict = none := fun e => by
    subst e
    cases hd.1
    obtain ⟨tk, rfl⟩ := rx
    exact ⟨typeIs_str _ _ _, fun _ e => nomatch e⟩
  cases m with
  | lindex => exact absurd rfl hl
  | join => cases d <;> first | exact str rfl | (cases h; done)
  | split => cases d <;> first | exact str rfl | (cases h; done)
  | upper => cases d <;> first | exact str rfl | (cases h; done)
  | count => cases d <;> first | exact str rfl | (cases h; done)
  | rstrip => cases d <;> first | exact str rfl | (cases h; done)
  | sindex => cases d <;> first | exact str rfl | (cases h; done)
  | tindex =>
    obtain ⟨a, o, rfl, h2, h3, h4⟩ := hk rfl
    cases rx
    exact ⟨⟨o, I.kIn _ _ h2, h3⟩, fun b e => by cases e; exact ⟨o, I.kIn _ _ h2, h4⟩⟩
theorem snd_bmA {m : BM} {id : String} {a : E} {es : List E} {X : Cx} {W : WX} {x : Expr} {xs : List Expr} {ap cp : Pos} (G : Good Γ cf P t k X W) (pa : PlainAttrs (bmTy m)) (slot : Slot (bmTy m) m.nm id) (hty : typeOf (.builtin id) = pure (.type "method_descriptor"))
    (hm : MtR X id (rBm X t (E.bm m a es).fresh m)) (hc : m = .tindex → ∃ i, a = .con i) (hli : m ≠ .lindex) (ha : Snd Γ cf P t k a) (hs : Snds Γ cf P t k es) (h1 : chk P X.N a X.env.scope x = true) (h2 : chks P X.N es X.env.scope xs = true) (hx : headA x = true) (hl : xs.length ≤ 1) (hline : (ap.endLine == cp.line) = true) :
    PE X (.Call (.Attribute x m.nm ap) xs [] cp) (tI Γ cf (rz X t) W (.bm m a es)) := by
  obtain ⟨hp, hns⟩ := snd_args es hs X W xs G h2
  by_cases hti : m = .tindex
  · -- the receiver is a constant
    obtain ⟨i, rfl⟩ := hc hti
    simp only [chk, kCon] at h1
    split at h1
    · rename_i y pos
      rw [Bool.and_eq_true] at h1
      have hn := of_decide_eq_true h1.1
      subst hn
      cases q : Γ.con i with
      | none =>
        refine ⟨fun pins s σ H Q I ⟨φ, env, st, r, E, o⟩ => ?_⟩
        simp only [ev, q] at o
        exact o.elim
      | some d =>
        obtain ⟨v, u, h3, h4, h5, h6, h7⟩ := G.top.con i d q
        refine pe_imp (pe_bmG pa slot hty hm (pe_glob (v := v) (G.glob h1.2) h3 h4 (nm0_d (glB_nm h1.2))) hp (headA_ok hx) hns hl hline) fun σ H Q ⟨φ, env, st, r, E, o⟩ => ?_
        simp only [ev, q] at o
        have o : OutG (rz X t) (repD (rz X t) (Cip.E.bm m (.con i) es).fresh) W φ H σ (if bmOn st m d = true then (evs Γ cf es env st).bind fun ds st => .of (bmD st m d ds) st else .stk) Q := o
        split at o
        · rename_i hon
          refine ⟨fun pins s v' I rx => bm_on r (h6 φ H) (fun _ => ?_) hli hon I rx, tIs_then r E shD o fun ws H2 φ2 st2 ds r2 e2 E2 p2 o2 => ?_⟩
          · subst hti
            cases d <;> first | (cases hon; done) | skip
            exact h7 _ rfl
          · exact ⟨φ2, st2, d, ds, r2, h6 φ2 H2, p2, o2.of⟩
        · exact o.elim
    · cases h1
  refine pe_imp (pe_bmG pa slot hty hm (ha X W x G h1).1 hp (headA_ok hx) hns hl hline) fun σ H Q ⟨φ, env, st, r, E, o⟩ => ?_
  simp only [ev] at o
  refine tI_then r E shD o fun v H1 φ1 st1 d r1 e1 E1 p1 o1 => ?_
  split at o1
  · rename_i hon
    refine ⟨fun pins s v I rx => bm_on r1 p1.1 (fun e => absurd e hti) hli hon I rx, tIs_then r1 E1 shD o1 fun ws H2 φ2 st2 ds r2 e2 E2 p2 o2 => ?_⟩
    exact ⟨φ2, st2, d, ds, r2, r1.rep e2 p1.1, p2, o2.of⟩
  · exact o1.elim
/-- the place of a thing in a display -/
def tTix (r : V → List V → Hp → VK → Prop) (tt ta : TA) : TE := fun σ H Q => tt σ H fun xs H1 => xs.length ≤ sizeLine ∧ ∀ q, H1 q = none → ta σ (upd H1 q (.tup xs)) fun ws H2 => r (.ref q) ws H2 Q
theorem pe_tix {X : Cx} {r : V → List V → Hp → VK → Prop} {ts : List Expr} {kk : Nat} {p ap cp : Pos} {e : Expr} {tt ta : TA} (hm : MtR X "tuple.index" r) (ht : PA X ts tt) (ha : PA X [e] ta) (he : headOk e = true) (hline : (ap.endLine == cp.line) = true) :
    PE X (.Call (.Attribute (.Tuple ts kk p) "index" ap) [e] [] cp) (tTix r tt ta) := by
  refine ⟨fun pins s σ H Q I h => ?_⟩
  have hs : starEach [e] X.env = (false, eval e X.env) :: starEach [] X.env := head_star he
  refine wpAny_Call_method_late rfl (by rw [hs]; rfl) hline rfl (wpAny_Tuple_spliced (thn (ht.run p pins s σ H _ I h) fun us s1 ⟨xs, H1, I1, r1, hz, q⟩ => ⟨by rw [← r1.length]; exact hz, ?_⟩))
  have hf : H1 s1.heap.objs.size = none := I1.hok.fresh (Nat.le_refl _)
  have g := Heap.get?_push_size s1.heap (o := { cls := .type "tuple", data := .seq us.toArray }) rfl
  have I2 : Inv X pins σ (upd H1 s1.heap.objs.size (.tup xs)) { s1 with heap := s1.heap.push { cls := .type "tuple", data := .seq us.toArray } } :=
    I1.laid (t' := s1.toks) (fun b u e => Heap.get?_push_of_some _ e) (Nat.le_refl _) ⟨hz, us, r1, ⟨_, g, rfl, _, rfl⟩⟩
  refine ⟨"tuple", "tuple.index", F.plainAttrs_tuple, F.slot_tuple_index, F.type_tuple_index, ⟨_, g, rfl⟩, fun a e => by cases e; exact ⟨_, g, rfl⟩, ?_⟩
  have hA := ha.run cp pins _ σ _ _ I2 (q _ hf)
  rw [hs] at hA ⊢
  refine Calls.callWith_builtin (by rfl) (Calls.evalArgs_plain ?_)
  exact thn hA fun vs s2 ⟨ws, H2, I3, r2, q2⟩ => hm pins s2 σ H2 (.ref s1.heap.objs.size) ws _ vs Q I3 rfl r2 q2
theorem snd_tix {ts es : List E} (hts : Snds Γ cf P t k ts) (hs : Snds Γ cf P t k es) {X : Cx} {W : WX} {x : Expr} {xs : List Expr} {ap cp : Pos} (G : Good Γ cf P t k X W) (h1 : chk P X.N (.tup ts) X.env.scope x = true) (h2 : chks P X.N es X.env.scope xs = true) (hl : es.length = 1)
    (hline : (ap.endLine == cp.line) = true) : PE X (.Call (.Attribute x "index" ap) xs [] cp) (tI Γ cf (rz X t) W (.bm .tindex (.tup ts) es)) := by
  simp only [chk, kTup] at h1
  split at h1
  · rename_i ys kk pos
    obtain ⟨ht, _⟩ := snd_args ts hts X W ys G h1
    obtain ⟨hp, hns⟩ := snd_args es hs X W xs G h2
    match es, hl, hp, h2 with
    | [e], _, hp, h2 =>
      obtain ⟨y, yr, rfl, _, h4⟩ := chks_cons h2
      obtain rfl := chks_nil h4
      have he : headOk y = true := by
        have h' : (headOk y && noStars []) = true := hns
        exact (Bool.and_eq_true_iff.mp h').1
      refine pe_imp (pe_tix (bm_tindex (t := t) (fr := (E.bm .tindex (.tup ts) [e]).fresh)) ht hp he hline) fun σ H Q ⟨φ, env, st, r, E, o⟩ => ?_
      simp only [ev] at o
      have o : OutG (rz X t) (repD (rz X t) (Cip.E.bm .tindex (.tup ts) [e]).fresh) W φ H σ ((evs Γ cf ts env st).bind fun ds st => if ds.length ≤ sizeLine then (evs Γ cf [e] env st).bind fun ws st => .of (bmD st .tindex (.tup ds) ws) st else .stk) Q := by
        revert o
        cases evs Γ cf ts env st with
        | stk => exact id
        | ex _ _ _ => exact id
        | ok ds st1 =>
          intro o
          simp only [R.bind] at o ⊢
          by_cases hz : ds.length ≤ sizeLine
          · rw [if_pos hz] at o ⊢; exact o
          · rw [if_neg hz] at o; exact o.elim
      refine tIs_then r E shD o fun v H1 φ1 st1 ds r1 e1 E1 p1 o1 => ?_
      split at o1
      · rename_i hz
        refine ⟨by rw [p1.length]; exact hz, fun q hq => ?_⟩
        obtain ⟨ra, ea, pa⟩ := new_tup r1 hq p1 hz
        have o2 := OutG.shift shD r1 ea ra o1
        exact tIs_then ra (E1.ext r1 ea) shD o2 fun ws H2 φ2 st2 ds2 r2 e2 E2 p2 o3 => ⟨φ2, st2, .tup ds, ds2, r2, ra.rep e2 pa, p2, o3.of⟩
      · exact o1.elim
  · cases h1
theorem chks_len : ∀ {es : List E} {N : List Str} {sc : Scope} {xs : List Expr}, chks P N es sc xs = true → xs.length = es.length
  | [], _, _, _, h => by rw [chks_nil h]; rfl
  | e :: es, _, _, _, h => by
    obtain ⟨y, ys, rfl, _, h2⟩ := chks_cons h
    simp [chks_len h2]
theorem ar_le (m : BM) : m.ar ≤ 1 := by cases m <;> decide
theorem snd_bm {m : BM} {a : E} {es : List E} (ha : Snd Γ cf P t k a) (hts : ∀ ts, a = .tup ts → Snds Γ cf P t k ts) (hs : Snds Γ cf P t k es) : Snd Γ cf P t k (.bm m a es) := by
  intro X W x G h
  simp only [chk, kMeth] at h
  rw [Bool.and_eq_true, Bool.and_eq_true] at h
  obtain ⟨⟨h, hn⟩, hok⟩ := h
  split at h
  · rename_i y m' ap xs cp
    simp only [Bool.and_eq_true] at h
    obtain ⟨⟨⟨⟨h1, h2⟩, h3⟩, h4⟩, h5⟩ := h
    have h1 := of_decide_eq_true h1
    subst h1
    have hl : xs.length ≤ 1 := by
      rw [chks_len h5, beq_iff_eq.mp hn]
      exact ar_le m
    refine ⟨?_, rfl⟩
    have no : ∀ {m' : BM}, m' ≠ .tindex → (m' = .tindex → ∃ i, a = .con i) := fun h e => absurd e h
    cases m with
    | join => exact snd_bmA G F.plainAttrs_str F.slot_str_join F.type_str_join bm_join (fun h => nomatch h) (fun h => nomatch h) ha hs h4 h5 h2 hl h3
    | split => exact snd_bmA G F.plainAttrs_str F.slot_str_split F.type_str_split bm_split (fun h => nomatch h) (fun h => nomatch h) ha hs h4 h5 h2 hl h3
    | upper => exact snd_bmA G F.plainAttrs_str F.slot_str_upper F.type_str_upper bm_upper (fun h => nomatch h) (fun h => nomatch h) ha hs h4 h5 h2 hl h3
    | count => exact snd_bmA G F.plainAttrs_str F.slot_str_count F.type_str_count bm_count (fun h => nomatch h) (fun h => nomatch h) ha hs h4 h5 h2 hl h3
    | rstrip => exact snd_bmA G F.plainAttrs_str F.slot_str_rstrip F.type_str_rstrip bm_rstrip (fun h => nomatch h) (fun h => nomatch h) ha hs h4 h5 h2 hl h3
    | sindex => exact snd_bmA G F.plainAttrs_str F.slot_str_index F.type_str_index bm_sindex (fun h => nomatch h) (fun h => nomatch h) ha hs h4 h5 h2 hl h3
    | tindex =>
      cases a with
      | con i => exact snd_bmA G F.plainAttrs_tuple F.slot_tuple_index F.type_tuple_index bm_tindex (fun _ => ⟨i, rfl⟩) (fun h => nomatch h) ha hs h4 h5 h2 hl h3
      | tup ts => exact snd_tix (hts ts rfl) hs G h4 h5 (beq_iff_eq.mp hn) h3
      | _ => cases hok
    | lindex => cases hok
  · cases h
end
end Cip

set_option maxHeartbeats 4000000
/-! Cip15: hidden places; what is walked. -/
namespace Cip
open PySem PySem.Spec PyProof.Rows L2

/-! ### hidden places -/
section
variable {K : PySem.W.Frag} {T : Rz} {φ φ' : Fi} {H H' : Hp} {st : Store} {D0 : Addr}
/-- an object that no value leads to may change -/
structure Alt (φ φ' : Fi) (H H' : Hp) (D0 : Addr) : Prop where
  inH : D0 ∈ φ.hid
  noT : NoTup H D0
  eq : ∀ a, a ≠ D0 → H' a = H a
  ref : φ'.ref = φ.ref
  sub : ∀ a ∈ φ'.hid, a ∈ φ.hid
theorem Alt.no (A : Alt φ φ' H H' D0) {a : Addr} (h : φ.no a) : φ'.no a ∧ a ≠ D0 := ⟨⟨by rw [A.ref]; exact h.1, fun m => h.2 (A.sub a m)⟩, fun e => h.2 (e ▸ A.inH)⟩
theorem Alt.sqt (A : Alt φ φ' H H' D0) {a : Addr} {vs : List V} (h : SqT K H a vs) : SqT K H' a vs := by
  rcases h with h | h
  · have n : a ≠ D0 := fun e => A.noT vs (e ▸ h)
    rcases h with h | ⟨o, h⟩
    · exact .inl (.inl (by rw [A.eq a n]; exact h))
    · exact .inl (.inr ⟨o, by rw [A.eq a n]; exact h⟩)
  · exact .inr h
theorem Alt.sqf (A : Alt φ φ' H H' D0) {a : Addr} {vs : List V} (h : SqF K φ H a vs) : SqF K φ' H' a vs := by
  rcases h with ⟨h, n⟩ | h
  · obtain ⟨n1, n2⟩ := A.no n
    rcases h with h | ⟨o, h⟩
    · exact .inl ⟨.inl (by rw [A.eq a n2]; exact h), n1⟩
    · exact .inl ⟨.inr ⟨o, by rw [A.eq a n2]; exact h⟩, n1⟩
  · exact .inr h
mutual
theorem Rep.alt (A : Alt φ φ' H H' D0) : ∀ (d : D) (v : V), Rep K φ H d v → Rep K φ' H' d v
  | .non, _, h => h
  | .bl _, _, h => h
  | .int _, _, h => h
  | .str _, _, h => h
  | .tup xs, _, ⟨a, vs, h1, h2, h3, h4⟩ => ⟨a, vs, h1, A.sqt h2, h3, Reps.alt A xs vs h4⟩
  | .lst xs, _, ⟨a, vs, h1, h2, h3, h4, h5⟩ => ⟨a, vs, h1, by rw [A.eq a (A.no h3).2]; exact h2, (A.no h3).1, h4, Reps.alt A xs vs h5⟩
  | .scr xs, _, ⟨a, vs, h1, h2, h4, h5⟩ => ⟨a, vs, h1, A.sqf h2, h4, Reps.alt A xs vs h5⟩
  | .dct ks ws, _, ⟨a, kvs, h1, h2, h3, h4, h5⟩ => ⟨a, kvs, h1, by rw [A.eq a (A.no h3).2]; exact h2, (A.no h3).1, h4, Reps.alt A ws _ h5⟩
  | .ref k, _, ⟨a, h1, h2⟩ => ⟨a, by rw [A.ref]; exact h1, h2⟩
theorem Reps.alt (A : Alt φ φ' H H' D0) : ∀ (ds : List D) (vs : List V), Reps K φ H ds vs → Reps K φ' H' ds vs
  | [], _, h => h
  | x :: xs, _, ⟨v, r, h1, h2, h3⟩ => ⟨v, r, h1, Rep.alt A x v h2, Reps.alt A xs r h3⟩
end
theorem ORel.alt (A : Alt φ φ' H H' D0) {o : MO} {a : Addr} (hn : a ≠ D0) (h : ORel T φ H o a) : ORel T φ' H' o a := by
  cases o with
  | lst _ => obtain ⟨vs, h1, h2, h3⟩ := h; exact ⟨vs, (A.eq a hn).trans h1, h2, Reps.alt A _ _ h3⟩
  | dct lk _ _ => obtain ⟨kvs, h1, h2, h3⟩ := h; exact ⟨kvs, by rw [A.eq a hn]; exact h1, h2, Reps.alt A _ _ h3⟩
  | ins _ _ => obtain ⟨dx, gs, h1, h2, h3⟩ := h; exact ⟨dx, gs, (A.eq a hn).trans h1, h2, Reps.alt A _ _ h3⟩
  | exc _ _ =>
    obtain ⟨d, h1, h2⟩ := h
    refine ⟨d, (A.eq a hn).trans h1, fun z => ?_⟩
    obtain ⟨dd, gs, e1, e2, e3, e4, e5⟩ := h2 z
    exact ⟨dd, gs, e1, by rw [A.eq dd (A.no e3).2]; exact e2, (A.no e3).1, e4, Reps.alt A _ _ e5⟩
theorem Rel.alt (A : Alt φ φ' H H' D0) (r : Rel T φ H st) (hh : ∀ a ∈ φ'.hid, ∃ xs, H' a = some (.lst xs)) : Rel T φ' H' st :=
  ⟨by rw [A.ref]; exact r.len, by rw [A.ref]; exact r.nd, fun k o h => by
    obtain ⟨a, h1, h2⟩ := r.at_ k o h
    exact ⟨a, by rw [A.ref]; exact h1, h2.alt A fun e => (r.hid D0 A.inH).1 (e ▸ List.mem_of_getElem? h1)⟩, fun a ha => ⟨by rw [A.ref]; exact (r.hid a (A.sub a ha)).1, hh a ha⟩⟩
/-- more is hidden, where nothing stood -/
structure Hide (φ φ' : Fi) (H : Hp) : Prop where
  ref : φ'.ref = φ.ref
  sub : ∀ a ∈ φ'.hid, a ∈ φ.hid ∨ H a = none
theorem Hide.no (A : Hide φ φ' H) {a : Addr} {o : HO} (e : H a = some o) (h : φ.no a) : φ'.no a := ⟨by rw [A.ref]; exact h.1, fun m => by
  rcases A.sub a m with m | m
  · exact h.2 m
  · rw [e] at m; cases m⟩
mutual
theorem Rep.hide (A : Hide φ φ' H) : ∀ (d : D) (v : V), Rep K φ H d v → Rep K φ' H d v
  | .non, _, h => h
  | .bl _, _, h => h
  | .int _, _, h => h
  | .str _, _, h => h
  | .tup xs, _, ⟨a, vs, h1, h2, h3, h4⟩ => ⟨a, vs, h1, h2, h3, Reps.hide A xs vs h4⟩
  | .lst xs, _, ⟨a, vs, h1, h2, h3, h4, h5⟩ => ⟨a, vs, h1, h2, A.no h2 h3, h4, Reps.hide A xs vs h5⟩
  | .scr xs, _, ⟨a, vs, h1, h2, h4, h5⟩ => ⟨a, vs, h1, h2.elim (fun h => .inl ⟨h.1, h.1.elim (fun z => A.no z h.2) (fun ⟨_, z⟩ => A.no z h.2)⟩) .inr, h4, Reps.hide A xs vs h5⟩
  | .dct ks ws, _, ⟨a, kvs, h1, h2, h3, h4, h5⟩ => ⟨a, kvs, h1, h2, A.no h2 h3, h4, Reps.hide A ws _ h5⟩
  | .ref k, _, ⟨a, h1, h2⟩ => ⟨a, by rw [A.ref]; exact h1, h2⟩
theorem Reps.hide (A : Hide φ φ' H) : ∀ (ds : List D) (vs : List V), Reps K φ H ds vs → Reps K φ' H ds vs
  | [], _, h => h
  | x :: xs, _, ⟨v, r, h1, h2, h3⟩ => ⟨v, r, h1, Rep.hide A x v h2, Reps.hide A xs r h3⟩
end
theorem ORel.hide (A : Hide φ φ' H) {o : MO} {a : Addr} (h : ORel T φ H o a) : ORel T φ' H o a := by
  cases o with
  | lst _ => obtain ⟨vs, h1, h2, h3⟩ := h; exact ⟨vs, h1, h2, Reps.hide A _ _ h3⟩
  | dct lk _ _ => obtain ⟨kvs, h1, h2, h3⟩ := h; exact ⟨kvs, h1, h2, Reps.hide A _ _ h3⟩
  | ins _ _ => obtain ⟨dx, gs, h1, h2, h3⟩ := h; exact ⟨dx, gs, h1, h2, Reps.hide A _ _ h3⟩
  | exc _ _ =>
    obtain ⟨d, h1, h2⟩ := h
    refine ⟨d, h1, fun z => ?_⟩
    obtain ⟨dd, gs, e1, e2, e3, e4, e5⟩ := h2 z
    exact ⟨dd, gs, e1, e2, A.no e2 e3, e4, Reps.hide A _ _ e5⟩
/-- a list is laid that no value leads to -/
def Fi.hide (φ : Fi) (a : Addr) : Fi := ⟨φ.ref, a :: φ.hid⟩
theorem hide_one {a : Addr} (h : H a = none) : Hide φ (φ.hide a) H := ⟨rfl, fun b hb => (List.mem_cons.mp hb).elim (fun e => .inr (e ▸ h)) .inl⟩
theorem Rel.hide {a : Addr} {xs : List V} (r : Rel T φ H st) (h : H a = none) : Rel T (φ.hide a) (upd H a (.lst xs)) st :=
  ⟨r.len, r.nd, fun k o hk => by
    obtain ⟨b, h1, h2⟩ := r.at_ k o hk
    obtain ⟨u, hu⟩ := h2.there
    exact ⟨b, h1, ORel.ext (φ := φ.hide a) (φ' := φ.hide a) (ext_new h) r.nt (upd_ne (ne_of_none hu h)) (h2.hide (hide_one h))⟩, fun b hb => by
    rcases List.mem_cons.mp hb with e | hb
    · rw [e]
      exact ⟨(r.fresh h).1, xs, upd_same⟩
    · obtain ⟨h1, ys, h2⟩ := r.hid b hb
      exact ⟨h1, ys, by rw [upd_ne (ne_of_none h2 h)]; exact h2⟩⟩
theorem rep_hide {a : Addr} {xs : List V} {d : D} {v : V} (r : Rel T φ H st) (h : H a = none) (hd : Rep T.K φ H d v) : Rep T.K (φ.hide a) (upd H a (.lst xs)) d v := Rep.ext (φ := φ.hide a) (φ' := φ.hide a) (ext_new h) r.nt d v (Rep.hide (hide_one h) d v hd)
theorem EnvR.hide {a : Addr} {xs : List V} {σ : L2.St} {env : Env} (E : EnvR T φ H σ env) (r : Rel T φ H st) (h : H a = none) : EnvR T (φ.hide a) (upd H a (.lst xs)) σ env :=
  ⟨E.len, fun i d hd => let ⟨v, h1, h2⟩ := E.get i d hd; ⟨v, h1, rep_hide r h h2⟩⟩
theorem EnvR.alt {σ : L2.St} {env : Env} (A : Alt φ φ' H H' D0) (E : EnvR T φ H σ env) : EnvR T φ' H' σ env :=
  ⟨E.len, fun i d hd => let ⟨v, h1, h2⟩ := E.get i d hd; ⟨v, h1, Rep.alt A d v h2⟩⟩
end

/-! ### what is walked -/
/-- what an iterator gives, as long as the walked objects stand -/
def WalkJ (T : Rz) (ds xs : List D) (φ0 : Fi) (H0 : Hp) (st0 : Store) (J : It) : Prop :=
  ∀ φ H st, Rel T φ H st → Ext ⟨φ0.ref, φ.hid⟩ H0 φ H → (∀ a ∈ φ.hid, a ∈ φ0.hid ∨ H0 a = none) → Still (refsOf ds) st0 st →
    J.stop xs.length H ∧ ∀ i d, xs[i]? = some d → J.go i H ∧ ∀ x H', J.yld i H x H' → Rel T φ H' st ∧ Ext φ H φ H' ∧ Rep T.K φ H' d x
section
variable {T : Rz} {φ0 φ : Fi} {H0 H : Hp} {st0 st : Store} {d : D} {v : V} {xs ds : List D}
theorem still_lsq (h : Still (refsOf ds) st0 st) (hd : d ∈ ds) (e : lsqD st0 d = some xs) : lsqD st d = some xs := by
  have key : ∀ k, d = .ref k → st[k]? = st0[k]? := fun k e => by
    subst e
    refine h k ?_
    clear h e
    induction ds with
    | nil => cases hd
    | cons y ys ih =>
      rcases List.mem_cons.mp hd with e | hd
      · subst e; exact List.mem_cons_self
      · have := ih hd
        cases y <;> first | exact this | exact List.mem_cons_of_mem _ this
  cases d with
  | ref k =>
    simp only [lsqD] at e ⊢
    rw [key k rfl]
    exact e
  | _ => exact e
theorem rep_walk (h : Rep T.K φ0 H0 d v) (r0 : Rel T φ0 H0 st0) (r : Rel T φ H st) (e : Ext ⟨φ0.ref, φ.hid⟩ H0 φ H) (hh : ∀ a ∈ φ.hid, a ∈ φ0.hid ∨ H0 a = none) : Rep T.K φ H d v :=
  Rep.ext e r0.nt d v (Rep.hide (φ := φ0) (φ' := ⟨φ0.ref, φ.hid⟩) ⟨rfl, hh⟩ d v h)
theorem walk_list {a : Addr} {d : D} (h0 : Rep T.K φ0 H0 d (.ref a)) (r0 : Rel T φ0 H0 st0) (e0 : lsqD st0 d = some xs) (hd : d ∈ ds) : WalkJ T ds xs φ0 H0 st0 (Itl T.K a) := by
  intro φ H st r e hh hs
  have e1 := still_lsq hs hd e0
  obtain ⟨p, vs, h1, h2, h3, h4⟩ := lsq_at r (rep_walk h0 r0 r e hh) e1
  cases h1
  refine ⟨⟨vs, h2, by rw [h4.length]; exact Nat.le_refl _⟩, fun i d hi => ?_⟩
  obtain ⟨x, hx, hr⟩ := h4.get hi
  refine ⟨⟨vs, x, h2, hx⟩, fun y H' ⟨e1, e2⟩ => ?_⟩
  subst e1
  have := e2 vs h2
  rw [hx] at this
  cases this
  exact ⟨r, .refl, hr⟩
theorem walk_tup {a : Addr} {xs : List D} (h0 : Rep T.K φ0 H0 (.tup xs) (.ref a)) (r0 : Rel T φ0 H0 st0) : WalkJ T ds xs φ0 H0 st0 (Itt T.K a) := by
  intro φ H st r e hh hs
  obtain ⟨p, vs, h1, h2, h3, h4⟩ := rep_walk h0 r0 r e hh
  cases h1
  refine ⟨⟨vs, h2, by rw [h4.length]; exact Nat.le_refl _⟩, fun i d hi => ?_⟩
  obtain ⟨x, hx, hr⟩ := h4.get hi
  refine ⟨⟨vs, x, h2, hx⟩, fun y H' ⟨e1, e2⟩ => ?_⟩
  subst e1
  have := e2 vs h2
  rw [hx] at this
  cases this
  exact ⟨r, .refl, hr⟩
theorem walk_str {z : Str} : WalkJ T ds (z.cps.toList.map fun c => .str ⟨#[c]⟩) φ0 H0 st0 (Its z) := by
  intro φ H st r e hh hs
  refine ⟨?_, fun i d hi => ?_⟩
  · show z.cps.size ≤ _
    rw [List.length_map, Array.length_toList]
    exact Nat.le_refl _
  · rw [List.getElem?_map] at hi
    cases q : z.cps.toList[i]? with
    | none => rw [q] at hi; cases hi
    | some c =>
      rw [q] at hi
      cases hi
      have q' : z.cps[i]? = some c := by rw [← Array.getElem?_toList]; exact q
      refine ⟨(Array.getElem?_eq_some_iff.mp q').1, fun y H' ⟨e1, c', e2, e3⟩ => ?_⟩
      rw [q'] at e2
      cases e2
      subst e1 e3
      exact ⟨r, .refl, rfl, by show 1 ≤ sizeLine; decide⟩
theorem rngL_get : ∀ (n : Nat) (lo : Int) (i : Nat) (d : D), (rngL lo n)[i]? = some d → i < n ∧ d = .int (lo + i)
  | 0, _, _, _, h => by simp [rngL] at h
  | n + 1, lo, 0, d, h => by
    simp [rngL] at h
    exact ⟨by omega, by rw [← h]; simp⟩
  | n + 1, lo, i + 1, d, h => by
    have h' : (rngL (lo + 1) n)[i]? = some d := by simpa [rngL] using h
    obtain ⟨h1, h2⟩ := rngL_get n (lo + 1) i d h'
    refine ⟨by omega, ?_⟩
    rw [h2]
    congr 1
    push_cast
    omega
theorem rngL_len : ∀ (n : Nat) (lo : Int), (rngL lo n).length = n
  | 0, _ => rfl
  | n + 1, lo => by simp [rngL, rngL_len n]
theorem walk_rng {lo : Int} {n : Nat} : WalkJ T ds (rngL lo n) φ0 H0 st0 (Itr lo n) := by
  intro φ H st r e hh hs
  refine ⟨by show n ≤ _; rw [rngL_len]; exact Nat.le_refl _, fun i d hi => ?_⟩
  obtain ⟨h1, h2⟩ := rngL_get n lo i d hi
  refine ⟨h1, fun y H' ⟨e1, e2⟩ => ?_⟩
  subst e1 e2 h2
  exact ⟨r, .refl, rfl⟩
theorem enumL_get : ∀ (xs : List D) (n i : Nat) (d : D), (enumL n xs)[i]? = some d → ∃ x, xs[i]? = some x ∧ d = .tup [.int ((n + i : Nat) : Int), x]
  | [], _, _, _, h => by simp [enumL] at h
  | x :: xs, n, 0, d, h => by
    simp [enumL] at h
    exact ⟨x, rfl, by rw [← h]; simp⟩
  | x :: xs, n, i + 1, d, h => by
    have h' : (enumL (n + 1) xs)[i]? = some d := by simpa [enumL] using h
    obtain ⟨y, h1, h2⟩ := enumL_get xs (n + 1) i d h'
    refine ⟨y, by simpa using h1, ?_⟩
    rw [h2, show n + 1 + i = n + (i + 1) by omega]
theorem enumL_len : ∀ (xs : List D) (n : Nat), (enumL n xs).length = xs.length
  | [], _ => rfl
  | x :: xs, n => by simp [enumL, enumL_len xs]
theorem walk_enum {a : Addr} {d : D} (h0 : Rep T.K φ0 H0 d (.ref a)) (r0 : Rel T φ0 H0 st0) (e0 : lsqD st0 d = some xs) (hd : d ∈ ds) : WalkJ T ds (enumL 0 xs) φ0 H0 st0 (Ite T.K a) := by
  intro φ H st r e hh hs
  have e1 := still_lsq hs hd e0
  obtain ⟨p, vs, h1, h2, h3, h4⟩ := lsq_at r (rep_walk h0 r0 r e hh) e1
  cases h1
  refine ⟨⟨vs, h2, by rw [enumL_len, h4.length]; exact Nat.le_refl _⟩, fun i d hi => ?_⟩
  obtain ⟨y, hy, rfl⟩ := enumL_get xs 0 i d hi
  obtain ⟨x, hx, hr⟩ := h4.get hy
  refine ⟨⟨vs, x, h2, hx⟩, fun z H' ⟨q, x', e1, e2, e3, e4⟩ => ?_⟩
  subst e1 e3
  have := e4 vs h2
  rw [hx] at this
  cases this
  have hz : 2 ≤ sizeLine := by decide
  exact new_tup r e2 ⟨_, _, rfl, by show V.int _ = V.int _; rw [Nat.zero_add], x, [], rfl, hr, rfl⟩ hz
theorem zipL_get : ∀ (xs ys : List D) (i : Nat) (d : D), (zipL xs ys)[i]? = some d → ∃ x y, xs[i]? = some x ∧ ys[i]? = some y ∧ d = .tup [x, y]
  | [], _, _, _, h => by simp [zipL] at h
  | _ :: _, [], _, _, h => by simp [zipL] at h
  | x :: xs, y :: ys, 0, d, h => by
    simp [zipL] at h
    exact ⟨x, y, rfl, rfl, h.symm⟩
  | x :: xs, y :: ys, i + 1, d, h => by
    have h' : (zipL xs ys)[i]? = some d := by simpa [zipL] using h
    obtain ⟨a, b, h1, h2, h3⟩ := zipL_get xs ys i d h'
    exact ⟨a, b, by simpa using h1, by simpa using h2, h3⟩
theorem zipL_len : ∀ (xs ys : List D), xs.length ≤ (zipL xs ys).length ∨ ys.length ≤ (zipL xs ys).length
  | [], _ => .inl (Nat.zero_le _)
  | _ :: _, [] => .inr (Nat.zero_le _)
  | x :: xs, y :: ys => by
    rcases zipL_len xs ys with h | h
    · exact .inl (by simpa [zipL] using h)
    · exact .inr (by simpa [zipL] using h)
theorem walk_zip {a b : Addr} {c d : D} {ys : List D} (h0 : Rep T.K φ0 H0 c (.ref a)) (h0' : Rep T.K φ0 H0 d (.ref b)) (r0 : Rel T φ0 H0 st0) (e0 : lsqD st0 c = some xs) (e0' : lsqD st0 d = some ys) (hc : c ∈ ds) (hd : d ∈ ds) :
    WalkJ T ds (zipL xs ys) φ0 H0 st0 (Itz T.K a b) := by
  intro φ H st r e hh hs
  obtain ⟨p, vs, h1, h2, h3, h4⟩ := lsq_at r (rep_walk h0 r0 r e hh) (still_lsq hs hc e0)
  obtain ⟨p', ws, h1', h2', h3', h4'⟩ := lsq_at r (rep_walk h0' r0 r e hh) (still_lsq hs hd e0')
  cases h1; cases h1'
  refine ⟨⟨vs, ws, h2, h2', by rw [h4.length, h4'.length]; exact zipL_len xs ys⟩, fun i d hi => ?_⟩
  obtain ⟨y, y', hy, hy', rfl⟩ := zipL_get xs ys i d hi
  obtain ⟨x, hx, hr⟩ := h4.get hy
  obtain ⟨x', hx', hr'⟩ := h4'.get hy'
  refine ⟨⟨vs, ws, x, x', h2, h2', hx, hx'⟩, fun z H' ⟨q, u, u', e1, e2, e3, e4, e5⟩ => ?_⟩
  subst e1 e3
  have e6 := e4 vs h2
  rw [hx] at e6
  cases e6
  have e7 := e5 ws h2'
  rw [hx'] at e7
  cases e7
  have hz : 2 ≤ sizeLine := by decide
  exact new_tup r e2 ⟨x, _, rfl, hr, x', [], rfl, hr', rfl⟩ hz
theorem walk_zipT {a b : Addr} {xs ys : List D} (h0 : Rep T.K φ0 H0 (.tup xs) (.ref a)) (h0' : Rep T.K φ0 H0 (.tup ys) (.ref b)) (r0 : Rel T φ0 H0 st0) : WalkJ T ds (zipL xs ys) φ0 H0 st0 (RZ.ItzT T.K a b) := by
  intro φ H st r e hh hs
  obtain ⟨p, vs, h1, h2, h3, h4⟩ := rep_walk h0 r0 r e hh
  obtain ⟨p', ws, h1', h2', h3', h4'⟩ := rep_walk h0' r0 r e hh
  cases h1; cases h1'
  refine ⟨⟨vs, ws, h2, h2', by rw [h4.length, h4'.length]; exact zipL_len xs ys⟩, fun i d hi => ?_⟩
  obtain ⟨y, y', hy, hy', rfl⟩ := zipL_get xs ys i d hi
  obtain ⟨x, hx, hr⟩ := h4.get hy
  obtain ⟨x', hx', hr'⟩ := h4'.get hy'
  refine ⟨⟨vs, ws, x, x', h2, h2', hx, hx'⟩, fun z H' ⟨q, u, u', e1, e2, e3, e4, e5⟩ => ?_⟩
  subst e1 e3
  have e6 := e4 vs h2
  rw [hx] at e6
  cases e6
  have e7 := e5 ws h2'
  rw [hx'] at e7
  cases e7
  have hz : 2 ≤ sizeLine := by decide
  exact new_tup r e2 ⟨x, _, rfl, hr, x', [], rfl, hr', rfl⟩ hz
end
end Cip

set_option maxHeartbeats 4000000
/-! Cip16: targets; iterators. -/
namespace Cip
open PySem PySem.Spec PyProof.Rows L2

theorem wipe_get (σ : L2.St) : ∀ (vs : List Nat) (j : Nat), (wipe σ vs)[j]? = if j ∈ vs then (if j < σ.length then some none else none) else σ[j]?
  | [], j => by simp [wipe]
  | v :: vs, j => by
    unfold wipe
    by_cases e : v = j
    · subst e
      rw [if_pos List.mem_cons_self, List.getElem?_set]
      rw [if_pos rfl, wipe_length]
    · rw [List.getElem?_set_ne e, wipe_get σ vs j]
      have : (j ∈ v :: vs) ↔ (j ∈ vs) := by
        rw [List.mem_cons]
        exact ⟨fun h => h.elim (fun h => absurd h.symm e) id, .inr⟩
      by_cases h : j ∈ vs
      · rw [if_pos h, if_pos (this.mpr h)]
      · rw [if_neg h, if_neg (fun z => h (this.mp z))]
theorem wipe_set {σ : L2.St} {i : Nat} {x : Option V} {vs : List Nat} (h : i ∈ vs) : wipe (σ.set i x) vs = wipe σ vs := by
  apply List.ext_getElem?
  intro j
  rw [wipe_get, wipe_get, List.length_set]
  by_cases hj : j ∈ vs
  · rw [if_pos hj, if_pos hj]
  · rw [if_neg hj, if_neg hj, List.getElem?_set_ne (fun e : i = j => hj (e ▸ h))]
theorem wipeE_length (env : Env) : ∀ vs : List Nat, (wipeE env vs).length = env.length
  | [] => rfl
  | v :: vs => by unfold wipeE; rw [List.length_set, wipeE_length env vs]
theorem wipeE_get (σ : Env) : ∀ (vs : List Nat) (j : Nat), (wipeE σ vs)[j]? = if j ∈ vs then (if j < σ.length then some none else none) else σ[j]?
  | [], j => by simp [wipeE]
  | v :: vs, j => by
    unfold wipeE
    by_cases e : v = j
    · subst e
      rw [if_pos List.mem_cons_self, List.getElem?_set]
      rw [if_pos rfl, wipeE_length]
    · rw [List.getElem?_set_ne e, wipeE_get σ vs j]
      have : (j ∈ v :: vs) ↔ (j ∈ vs) := by
        rw [List.mem_cons]
        exact ⟨fun h => h.elim (fun h => absurd h.symm e) id, .inr⟩
      by_cases h : j ∈ vs
      · rw [if_pos h, if_pos (this.mpr h)]
      · rw [if_neg h, if_neg (fun z => h (this.mp z))]
section
variable {T : Rz} {φ : Fi} {H : Hp} {σ : L2.St} {env : Env}
theorem EnvR.set {i : Nat} {d : D} {v : V} (E : EnvR T φ H σ env) (h : Rep T.K φ H d v) : EnvR T φ H (σ.set i (some v)) (env.set i (some d)) := by
  refine ⟨by rw [List.length_set, List.length_set, E.len], fun j d' hj => ?_⟩
  by_cases e : i = j
  · subst e
    have hl : i < env.length := by
      have := (List.getElem?_eq_some_iff.mp hj).1
      rwa [List.length_set] at this
    rw [List.getElem?_set_self hl] at hj
    cases hj
    exact ⟨v, List.getElem?_set_self (by rw [E.len]; exact hl), h⟩
  · rw [List.getElem?_set_ne e] at hj
    obtain ⟨w, h1, h2⟩ := E.get j d' hj
    exact ⟨w, by rw [List.getElem?_set_ne e]; exact h1, h2⟩
theorem EnvR.unset {i : Nat} (E : EnvR T φ H σ env) : EnvR T φ H (σ.set i none) (env.set i none) := by
  refine ⟨by rw [List.length_set, List.length_set, E.len], fun j d' hj => ?_⟩
  by_cases e : i = j
  · subst e
    by_cases hl : i < env.length
    · rw [List.getElem?_set_self hl] at hj; cases hj
    · rw [List.getElem?_eq_none (by rw [List.length_set]; omega)] at hj; cases hj
  · rw [List.getElem?_set_ne e] at hj
    obtain ⟨w, h1, h2⟩ := E.get j d' hj
    exact ⟨w, by rw [List.getElem?_set_ne e]; exact h1, h2⟩
theorem EnvR.wipe (E : EnvR T φ H σ env) (vs : List Nat) : EnvR T φ H (L2.wipe σ vs) (wipeE env vs) := by
  refine ⟨by rw [wipe_length, wipeE_length, E.len], fun j d' hj => ?_⟩
  rw [wipeE_get] at hj
  by_cases h : j ∈ vs
  · rw [if_pos h] at hj
    by_cases h' : j < env.length
    · rw [if_pos h'] at hj; cases hj
    · rw [if_neg h'] at hj; cases hj
  · rw [if_neg h] at hj
    obtain ⟨w, h1, h2⟩ := E.get j d' hj
    exact ⟨w, by rw [wipe_get, if_neg h]; exact h1, h2⟩
end
/-- the reading of a target -/
def gT (T : Rz) (t : Tg) : TG := fun v σ H Q => ∃ φ env st d env', Rel T φ H st ∧ EnvR T φ H σ env ∧ Rep T.K φ H d v ∧ asgT st t d env = some env' ∧
  ∀ σ', EnvR T φ H σ' env' → (∀ vs, (∀ i ∈ t.vars, i ∈ vs) → wipe σ' vs = wipe σ vs) → Q σ' H
def gTs (T : Rz) (ts : List Tg) : TGs := fun vs σ H Q => ∃ φ env st ds env', Rel T φ H st ∧ EnvR T φ H σ env ∧ Reps T.K φ H ds vs ∧ ds.length = ts.length ∧ asgTs st ts ds env = some env' ∧
  ∀ σ', EnvR T φ H σ' env' → (∀ vs, (∀ i ∈ Tg.varss ts, i ∈ vs) → wipe σ' vs = wipe σ vs) → Q σ' H
theorem assignEach_head {e : Expr} {es : List Expr} {env : PySem.Env} (h : headOk e = true) : assignEach (e :: es) env = (false, assign e env) :: assignEach es env := by
  cases e <;> first | rfl | cases h
theorem assignEach_len {env : PySem.Env} : ∀ {es : List Expr}, noStars es = true → (assignEach es env).length = es.length ∧ (assignEach es env).findIdx? (·.1) = none
  | [], _ => ⟨rfl, rfl⟩
  | e :: es, h => by
    have h' : (headOk e && noStars es) = true := h
    rw [Bool.and_eq_true] at h'
    rw [assignEach_head h'.1]
    obtain ⟨h1, h2⟩ := assignEach_len (env := env) h'.2
    exact ⟨by simp [h1], by simp [List.findIdx?_cons, h2]⟩
theorem pg_imp {X : Cx} {x : Expr} {t u : TG} (h : PG X x t) (hi : ∀ v σ H Q, u v σ H Q → t v σ H Q) : PG X x u := ⟨fun pins s σ H v w Q I r q => h.run pins s σ H v w Q I r (hi v σ H Q q)⟩
theorem pgs_imp {X : Cx} {x : List Expr} {t u : TGs} (h : PGs X x t) (hi : ∀ v σ H Q, u v σ H Q → t v σ H Q) : PGs X x u := ⟨fun pins s σ H v w Q I r q => h.run pins s σ H v w Q I r (hi v σ H Q q)⟩
theorem loc_of {X : Cx} {x : Str} (h : ((kindB X.env.scope x .local) || (kindB X.env.scope x .cell && X.fn x)) = true) : Loc X.env.scope x ∧ (X.fn x = true ∨ X.env.scope.names.lookup x = some .local) := by
  rw [Bool.or_eq_true] at h
  rcases h with h | h
  · exact ⟨.inl (kindB_ok h), .inr (kindB_ok h)⟩
  · rw [Bool.and_eq_true] at h
    exact ⟨.inr (kindB_ok h.1), .inl h.2⟩
mutual
theorem pg_tg {X : Cx} {t : Nm} (hc : X.calm = true) (hN : X.N.Nodup) : ∀ (g : Tg) (e : Expr), chkT X.N X.env.scope X.fn g e = true → PG X e (gT (rz X t) g)
  | .nm i, e, h => by
    unfold chkT at h
    split at h
    · rename_i j x pos he
      cases he
      rw [Bool.and_eq_true] at h
      obtain ⟨h1, h2⟩ := loc_of h.2
      refine pg_imp (pg_name hN (of_decide_eq_true h.1) h1 h2) fun v σ H Q ⟨φ, env, st, d, env', r, E, hd, ha, q⟩ => ?_
      cases ha
      exact q _ (E.set hd) fun vs hv => wipe_set (hv _ (by simp [Tg.vars]))
    · rename_i he; cases he
    · cases h
  | .tup ts, e, h => by
    unfold chkT at h
    split at h
    · rename_i he; cases he
    · rename_i ts' es kk pos he
      cases he
      rw [Bool.and_eq_true] at h
      obtain ⟨h1, h2⟩ := assignEach_len (env := X.env) h.1
      obtain ⟨ih, hl⟩ := pgs_tg hc hN ts es h.1 h.2
      refine pg_imp (pg_tup hc ih h1 h2) fun v σ H Q ⟨φ, env, st, d, env', r, E, hd, ha, q⟩ => ?_
      unfold asgT at ha
      split at ha
      · rename_i ds
        split at ha
        · rename_i hlen
          obtain ⟨a, vs, rfl, q1, q2, q3⟩ := hd
          exact ⟨a, vs, rfl, q1, by rw [q3.length, hlen, hl], φ, env, st, ds, env', r, E, q3, hlen, ha, q⟩
        · cases ha
      · cases ha
    · cases h
theorem pgs_tg {X : Cx} {t : Nm} (hc : X.calm = true) (hN : X.N.Nodup) : ∀ (gs : List Tg) (es : List Expr), noStars es = true → chkTs X.N X.env.scope X.fn gs es = true → PGs X es (gTs (rz X t) gs) ∧ gs.length = es.length
  | [], es, hs, h => by
    cases es with
    | nil =>
      refine ⟨pgs_imp pgs_nil fun v σ H Q ⟨φ, env, st, ds, env', r, E, hd, hl, ha, q⟩ => ?_, rfl⟩
      have e : ds = [] := List.length_eq_zero_iff.mp hl
      subst e
      cases ha
      exact ⟨hd, q σ E fun _ _ => rfl⟩
    | cons _ _ => cases h
  | g :: gs, es, hs, h => by
    cases es with
    | nil => cases h
    | cons e es =>
      have hs' : (headOk e && noStars es) = true := hs
      rw [Bool.and_eq_true] at hs'
      unfold chkTs at h
      rw [Bool.and_eq_true] at h
      obtain ⟨ih, hl⟩ := pgs_tg hc hN gs es hs'.2 h.2
      have h1 := pg_tg (t := t) hc hN g e h.1
      refine ⟨pgs_imp (pgs_cons h1 ih (by rw [assignEach_head hs'.1]; rfl)) fun v σ H Q ⟨φ, env, st, ds, env', r, E, hd, hl, ha, q⟩ => ?_, by simp [hl]⟩
      cases ds with
      | nil => cases hl
      | cons d ds =>
        obtain ⟨x, xs, e1, e2, e3⟩ := hd
        subst e1
        unfold asgTs at ha
        split at ha
        · rename_i env1 he1
          refine ⟨x, xs, rfl, φ, env, st, d, env1, r, E, e2, he1, fun σ1 E1 w1 => ⟨φ, env1, st, ds, env', r, E1, e3, by simpa using hl, ha, fun σ2 E2 w2 => q σ2 E2 fun vs hv => ?_⟩⟩
          rw [w2 vs fun i hi => hv i (by simp [Tg.varss, hi]), w1 vs fun i hi => hv i (by simp [Tg.varss, hi])]
        · cases ha
end
end Cip

set_option maxHeartbeats 4000000
/-! Cip17: iterators. -/
namespace Cip
open PySem PySem.Spec PyProof.Rows L2

section
variable {Γ : Tx} {cf : CF} {P : Pn} {t : Nm} {k : Nat}
/-- the walked things and what walking them gives -/
noncomputable def wkR (Γ : Tx) (cf : CF) (ik : IK) (its : List E) (env : Env) (st : Store) : R (List D × List D) := (evs Γ cf its env st).bind fun ds st => match walkD st ik ds with
  | some xs => .ok (ds, xs) st
  | none => .stk
def repJ (T : Rz) : RepT (List D × List D) It := fun _ φ' H' st p J => WalkJ T p.1 p.2 φ' H' st J
theorem shJ {T : Rz} : Shift T (repJ T) := fun _ _ _ _ _ _ _ _ _ _ _ _ h => h
def tWk (Γ : Tx) (cf : CF) (T : Rz) (W : WX) (ik : IK) (its : List E) : TI := fun σ H R => ∃ φ env st, Rel T φ H st ∧ EnvR T φ H σ env ∧ OutG T (repJ T) W φ H σ (wkR Γ cf ik its env st) R
theorem pi_imp {X : Cx} {tg x : Expr} {t u : TI} (h : PI X tg x t) (hi : ∀ σ H R, u σ H R → t σ H R) : PI X tg x u := ⟨fun pins s σ H R I q => h.run pins s σ H R I (hi σ H R q)⟩
/-- a list, a tuple, a text, walked -/
def iAny (K : PySem.W.Frag) (tl : TE) : TI := fun σ H R => tl σ H fun x H1 => (∃ a xs, x = .ref a ∧ SqL K H1 a xs ∧ R (Itl K a) H1) ∨ (∃ a xs, x = .ref a ∧ SqT K H1 a xs ∧ R (Itt K a) H1) ∨ ∃ z, x = .str z ∧ R (Its z) H1
theorem pi_any {X : Cx} {tg l : Expr} {tl : TE} (hl : PE X l tl) : PI X tg l (iAny X.K tl) := by
  refine ⟨fun pins s σ H R I h => ?_⟩
  refine thn (hl.run pins s σ H _ I h) fun v s1 ⟨x, H1, I1, r1, q1⟩ => ?_
  rcases q1 with ⟨a, xs, rfl, hq, q⟩ | ⟨a, xs, rfl, hq, q⟩ | ⟨z, rfl, q⟩
  · cases r1
    obtain ⟨its, rv, p, hz⟩ := I1.list hq
    exact wpAny_pyIter_list p.isList (pi_one (tk := s1.toks) I1 _ (turn_list a _) ⟨_, Heap.get?_push_size _ rfl, rfl, rfl⟩ q)
  · cases r1
    obtain ⟨its, rv, p, hz⟩ := I1.tuple hq
    exact wpAny_pyIter_tuple (show s1.heap.IsTuple a its.toArray from p) (pi_one (tk := s1.toks) I1 _ (turn_tuple a _) ⟨_, Heap.get?_push_size _ rfl, rfl, rfl⟩ q)
  · obtain ⟨t, rfl⟩ := r1
    cases ha : z.cps.all (· < 128)
    · exact wpAny_pyIter_wide ha (pi_one (tk := s1.toks) I1 _ (turn_str _ z t "str_iterator" (.inr rfl)) ⟨_, Heap.get?_push_size _ rfl, rfl, rfl⟩ q)
    · exact wpAny_pyIter_ascii ha (pi_one (tk := s1.toks) I1 _ (turn_str _ z t "str_ascii_iterator" (.inl rfl)) ⟨_, Heap.get?_push_size _ rfl, rfl, rfl⟩ q)
theorem evs_one {α : Type} {a : E} {env : Env} {st : Store} {f : List D → Store → R α} : (evs Γ cf [a] env st).bind f = (ev Γ cf a env st).bind fun d st => f [d] st := by
  simp only [evs]
  cases ev Γ cf a env st <;> rfl
theorem kCall_ok {sc : Scope} {n : Str} {as : CkS} {x : Expr} (h : kCall sc n as x = true) : ∃ p xs pos, x = .Call (.Name n p) xs [] pos ∧ glB sc n = true ∧ as xs = true := by
  unfold kCall at h
  split at h
  · rename_i y p xs pos
    rw [Bool.and_eq_true, Bool.and_eq_true] at h
    obtain rfl := of_decide_eq_true h.1.1
    exact ⟨p, xs, pos, rfl, h.1.2, h.2⟩
  · cases h
theorem lsq_val {T : Rz} {φ : Fi} {H : Hp} {st : Store} {d : D} {v : V} {xs : List D} (r : Rel T φ H st) (h : Rep T.K φ H d v) (e : lsqD st d = some xs) : ∃ a vs, v = .ref a ∧ SqL T.K H a vs := let ⟨a, vs, h1, h2, _⟩ := lsq_at r h e; ⟨a, vs, h1, h2⟩
theorem snd_it {ik : IK} {its : List E} {tup : Bool} (hs : Snds Γ cf P t k its) {X : Cx} {W : WX} {tg x : Expr} (G : Good Γ cf P t k X W) (htg : tup = true → ∃ es kk p, tg = .Tuple es kk p)
    (h : kIt X.env.scope ik tup its.length (chks P X.N its X.env.scope) x = true) : PI X tg x (tWk Γ cf (rz X t) W ik its) ∧ headOk x = true := by
  cases ik with
  | val =>
    have h' : (chks P X.N its X.env.scope [x] && its.length == 1) = true := h
    rw [Bool.and_eq_true] at h'
    match its, h'.2, h'.1 with
    | [a], _, h1 =>
      obtain ⟨y, ys, e, h2, _⟩ := chks_cons h1
      cases e
      obtain ⟨ha, ha2⟩ := hs a (by simp) X W x G h2
      refine ⟨pi_imp (pi_any ha) fun σ H R ⟨φ, env, st, r, E0, o⟩ => ?_, ha2⟩
      unfold wkR at o
      rw [evs_one] at o
      refine tI_then r E0 shJ o fun v H1 φ1 st1 d r1 e1 E1 p1 o1 => ?_
      have hd := p1.1
      have seq : ∀ xs, lsqD st1 d = some xs → walkD st1 .val [d] = some xs → (∃ a xs, v = .ref a ∧ SqL X.K H1 a xs ∧ R (Itl X.K a) H1) := fun xs e2 e3 => by
        rw [e3] at o1
        obtain ⟨a, vs, rfl, h4⟩ := lsq_val r1 hd e2
        exact ⟨a, vs, rfl, h4, o1 φ1 H1 _ r1 .refl (walk_list hd r1 e2 (by simp))⟩
      cases d with
      | str z =>
        cases hd.1
        exact .inr (.inr ⟨z, rfl, o1 φ1 H1 _ r1 .refl walk_str⟩)
      | tup xs =>
        obtain ⟨a, vs, rfl, h4, h5⟩ := id hd
        exact .inr (.inl ⟨a, vs, rfl, h4, o1 φ1 H1 _ r1 .refl (walk_tup hd r1)⟩)
      | lst xs => exact .inl (seq xs rfl rfl)
      | scr xs => exact .inl (seq xs rfl rfl)
      | ref j =>
        cases q : st1[j]? with
        | none => simp only [walkD, seqD, q] at o1; exact o1.elim
        | some m =>
          cases m with
          | lst xs => exact .inl (seq xs (by simp only [lsqD, q]) (by simp only [walkD, seqD, q]))
          | _ => simp only [walkD, seqD, q] at o1; exact o1.elim
      | _ => exact o1.elim
  | enum =>
    have h' : (kCall X.env.scope "enumerate" (chks P X.N its X.env.scope) x && tup && its.length == 1) = true := h
    rw [Bool.and_eq_true, Bool.and_eq_true] at h'
    obtain ⟨p, xs, pos, rfl, h1, h2⟩ := kCall_ok h'.1.1
    obtain ⟨es, kk, tp, rfl⟩ := htg h'.1.2
    match its, h'.2, h2, hs with
    | [a], _, h2, hs =>
      obtain ⟨hp, hns⟩ := snd_args [a] hs X W xs G h2
      obtain ⟨y, ys, rfl, _, h4⟩ := chks_cons h2
      obtain rfl := chks_nil h4
      have hy : headOk y = true := (Bool.and_eq_true_iff.mp (show (headOk y && noStars []) = true from hns)).1
      refine ⟨pi_imp (pi_enum (G.glob h1) (G.top.blt _ (by decide)) hp (head_star hy)) fun σ H R ⟨φ, env, st, r, E0, o⟩ => ?_, rfl⟩
      unfold wkR at o
      refine tIs_then r E0 shJ o fun v H1 φ1 st1 ds r1 e1 E1 p1 o1 => ?_
      match ds, p1, o1 with
      | [d], p1, o1 =>
        obtain ⟨w, rfl, hd⟩ := reps1 (T := rz X t) p1
        cases q : lsqD st1 d with
        | none => simp only [walkD, q] at o1; exact o1.elim
        | some zs =>
          simp only [walkD, q] at o1
          obtain ⟨a, vs, rfl, h5⟩ := lsq_val r1 hd q
          exact ⟨a, vs, rfl, h5, o1 φ1 H1 _ r1 .refl (walk_enum hd r1 q (by simp))⟩
      | [], _, o1 => exact o1.elim
      | d :: _ :: _, _, o1 => cases d <;> exact o1.elim
  | zip2 =>
    have h' : (kCall X.env.scope "zip" (chks P X.N its X.env.scope) x && tup && its.length == 2) = true := h
    rw [Bool.and_eq_true, Bool.and_eq_true] at h'
    obtain ⟨p, xs, pos, rfl, h1, h2⟩ := kCall_ok h'.1.1
    obtain ⟨es, kk, tp, rfl⟩ := htg h'.1.2
    match its, h'.2, h2, hs with
    | [a, b], _, h2, hs =>
      obtain ⟨hp, hns⟩ := snd_args [a, b] hs X W xs G h2
      obtain ⟨y, ys, rfl, _, h4⟩ := chks_cons h2
      obtain ⟨z, zs, rfl, _, h4⟩ := chks_cons h4
      obtain rfl := chks_nil h4
      have hyz := Bool.and_eq_true_iff.mp (show (headOk y && noStars [z]) = true from hns)
      refine ⟨pi_imp (RZ.pi_zipA (G.glob h1) (G.top.blt _ (by decide)) hp (head_star hyz.1) (noStars_any hyz.2)) fun σ H R ⟨φ, env, st, r, E0, o⟩ => ?_, rfl⟩
      unfold wkR at o
      refine tIs_then r E0 shJ o fun v H1 φ1 st1 ds r1 e1 E1 p1 o1 => ?_
      match ds, p1, o1 with
      | [d, d'], p1, o1 =>
        obtain ⟨w, w', rfl, hd, hd'⟩ := reps2 (T := rz X t) p1
        have seq : ∀ us us', lsqD st1 d = some us → lsqD st1 d' = some us' → walkD st1 .zip2 [d, d'] = some (zipL us us') → ∃ a b xs ys, [w, w'] = [.ref a, .ref b] ∧ ((SqL X.K H1 a xs ∧ SqL X.K H1 b ys ∧ R (Itz X.K a b) H1) ∨ (SqT X.K H1 a xs ∧ SqT X.K H1 b ys ∧ R (RZ.ItzT X.K a b) H1)) := fun us us' e2 e2' e3 => by
          rw [e3] at o1
          obtain ⟨a, vs, rfl, h5⟩ := lsq_val r1 hd e2
          obtain ⟨b, ws, rfl, h5'⟩ := lsq_val r1 hd' e2'
          exact ⟨a, b, vs, ws, rfl, .inl ⟨h5, h5', o1 φ1 H1 _ r1 .refl (walk_zip hd hd' r1 e2 e2' (by simp) (by simp))⟩⟩
        have gen : (∀ us us', ¬ (d = .tup us ∧ d' = .tup us')) → ∃ a b xs ys, [w, w'] = [.ref a, .ref b] ∧ ((SqL X.K H1 a xs ∧ SqL X.K H1 b ys ∧ R (Itz X.K a b) H1) ∨ (SqT X.K H1 a xs ∧ SqT X.K H1 b ys ∧ R (RZ.ItzT X.K a b) H1)) := fun hn => by
          have e4 : walkD st1 .zip2 [d, d'] = (lsqD st1 d).bind fun xs => (lsqD st1 d').map fun ys => zipL xs ys := by
            cases d <;> first | rfl | (cases d' <;> first | rfl | exact absurd ⟨rfl, rfl⟩ (hn _ _))
          cases q : lsqD st1 d with
          | none => simp only [e4, q, Option.bind_none] at o1; exact o1.elim
          | some us =>
            cases q' : lsqD st1 d' with
            | none => simp only [e4, q, q', Option.bind_some, Option.map_none] at o1; exact o1.elim
            | some us' => exact seq us us' q q' (by rw [e4, q, q']; rfl)
        by_cases ht : ∃ us us', d = .tup us ∧ d' = .tup us'
        · obtain ⟨us, us', rfl, rfl⟩ := ht
          obtain ⟨a, vs, rfl, h5, _⟩ := id hd
          obtain ⟨b, ws, rfl, h5', _⟩ := id hd'
          exact ⟨a, b, vs, ws, rfl, .inr ⟨h5, h5', o1 φ1 H1 _ r1 .refl (walk_zipT hd hd' r1)⟩⟩
        · exact gen fun us us' e => ht ⟨us, us', e⟩
      | [], _, o1 => exact o1.elim
      | [d], _, o1 => cases d <;> exact o1.elim
      | d :: d' :: _ :: _, _, o1 => cases d <;> first | exact o1.elim | (cases d' <;> exact o1.elim)
  | rng1 =>
    have h' : (kCall X.env.scope "range" (chks P X.N its X.env.scope) x && its.length == 1) = true := h
    rw [Bool.and_eq_true] at h'
    obtain ⟨p, xs, pos, rfl, h1, h2⟩ := kCall_ok h'.1
    match its, h'.2, h2, hs with
    | [a], _, h2, hs =>
      obtain ⟨hp, hns⟩ := snd_args [a] hs X W xs G h2
      obtain ⟨y, ys, rfl, _, h4⟩ := chks_cons h2
      obtain rfl := chks_nil h4
      have hy : headOk y = true := (Bool.and_eq_true_iff.mp (show (headOk y && noStars []) = true from hns)).1
      refine ⟨pi_imp (pi_range1 (G.glob h1) (G.top.blt _ (by decide)) hp (head_star hy)) fun σ H R ⟨φ, env, st, r, E0, o⟩ => ?_, rfl⟩
      unfold wkR at o
      refine tIs_then r E0 shJ o fun v H1 φ1 st1 ds r1 e1 E1 p1 o1 => ?_
      match ds, p1, o1 with
      | [d], p1, o1 =>
        obtain ⟨w, rfl, hd⟩ := reps1 (T := rz X t) p1
        cases d with
        | int n =>
          cases hd
          by_cases hz : -(2 ^ 62) ≤ n ∧ n < 2 ^ 62
          · simp only [walkD, if_pos hz] at o1
            exact ⟨n, rfl, hz.1, hz.2, o1 φ1 H1 _ r1 .refl walk_rng⟩
          · simp only [walkD, if_neg hz] at o1
            exact o1.elim
        | _ => exact o1.elim
      | [], _, o1 => exact o1.elim
      | d :: _ :: _, _, o1 => cases d <;> exact o1.elim
  | rng2 =>
    have h' : (kCall X.env.scope "range" (chks P X.N its X.env.scope) x && its.length == 2) = true := h
    rw [Bool.and_eq_true] at h'
    obtain ⟨p, xs, pos, rfl, h1, h2⟩ := kCall_ok h'.1
    match its, h'.2, h2, hs with
    | [a, b], _, h2, hs =>
      obtain ⟨hp, hns⟩ := snd_args [a, b] hs X W xs G h2
      obtain ⟨y, ys, rfl, _, h4⟩ := chks_cons h2
      obtain ⟨z, zs, rfl, _, h4⟩ := chks_cons h4
      obtain rfl := chks_nil h4
      have hyz := Bool.and_eq_true_iff.mp (show (headOk y && noStars [z]) = true from hns)
      have hz : headOk z = true := (Bool.and_eq_true_iff.mp (show (headOk z && noStars []) = true from hyz.2)).1
      refine ⟨pi_imp (pi_range2 (G.glob h1) (G.top.blt _ (by decide)) hp (by rw [head_star hyz.1, head_star hz]; rfl) (by rw [head_star hz]; rfl)) fun σ H R ⟨φ, env, st, r, E0, o⟩ => ?_, rfl⟩
      unfold wkR at o
      refine tIs_then r E0 shJ o fun v H1 φ1 st1 ds r1 e1 E1 p1 o1 => ?_
      match ds, p1, o1 with
      | [d, d'], p1, o1 =>
        obtain ⟨w, w', rfl, hd, hd'⟩ := reps2 (T := rz X t) p1
        cases d with
        | int n =>
          cases d' with
          | int m =>
            cases hd; cases hd'
            by_cases hz : -(2 ^ 62) ≤ n ∧ n < 2 ^ 62 ∧ -(2 ^ 62) ≤ m ∧ m < 2 ^ 62
            · simp only [walkD, if_pos hz] at o1
              exact ⟨n, m, rfl, hz, o1 φ1 H1 _ r1 .refl walk_rng⟩
            · simp only [walkD, if_neg hz] at o1
              exact o1.elim
          | _ => exact o1.elim
        | _ => cases d' <;> exact o1.elim
      | [], _, o1 => exact o1.elim
      | [d], _, o1 => cases d <;> exact o1.elim
      | d :: d' :: _ :: _, _, o1 => cases d <;> first | exact o1.elim | (cases d' <;> exact o1.elim)
  | zip3 => cases h
  | items => cases h
  | vals => cases h
end
end Cip

set_option maxHeartbeats 4000000
/-! Cip18: comprehensions. -/
namespace Cip
open PySem PySem.Spec PyProof.Rows L2

abbrev Wf : WX := fun _ _ _ _ => False
section
variable {Γ : Tx} {cf : CF} {P : Pn} {t : Nm} {k : Nat}
/-- a clause's tests -/
noncomputable def tstR (Γ : Tx) (cf : CF) (c : E) (env : Env) (st : Store) : R Bool := if c.nulB = true then .ok true st else testR (ev Γ cf c env st)
def tTn (Γ : Tx) (cf : CF) (T : Rz) (W : WX) (c : E) : TT := fun σ H Q => ∃ φ env st, Rel T φ H st ∧ EnvR T φ H σ env ∧ OutG T repB W φ H σ (tstR Γ cf c env st) Q
theorem pts_imp {X : Cx} {x : List Expr} {t u : TT} (h : PTs X x t) (hi : ∀ σ H Q, u σ H Q → t σ H Q) : PTs X x u := ⟨fun pins s σ H Q I q => h.run pins s σ H Q I (hi σ H Q q)⟩
theorem snd_ifs {c : E} (hc : SndT Γ cf P t k c) {X : Cx} {W : WX} {xs : List Expr} (G : Good Γ cf P t k X W) (h : kIfs c.nulB (chk P X.N c X.env.scope) xs = true) : PTs X xs (tTn Γ cf (rz X t) W c) := by
  unfold kIfs at h
  split at h
  · refine pts_imp pts_nil fun σ H Q ⟨φ, env, st, r, E, o⟩ => ?_
    unfold tstR at o
    rw [if_pos h] at o
    exact o φ H true r .refl rfl
  · rename_i y
    rw [Bool.and_eq_true] at h
    have hn : c.nulB = false := by simpa using h.1
    refine pts_imp (pts_one (hc X W y G h.2)) fun σ H Q ⟨φ, env, st, r, E, o⟩ => ⟨φ, env, st, r, E, ?_⟩
    unfold tstR at o
    rw [if_neg (by rw [hn]; simp)] at o
    exact o
  · cases h
theorem OutG.get {α β : Type} {T : Rz} {rep : RepT α β} {W : WX} {φ : Fi} {H : Hp} {σ : L2.St} {a : α} {st : Store} {r : R α} {Q : β → Hp → Prop} (e : r = .ok a st) (h : ∀ φ' H' v, Rel T φ' H' st → Ext φ H φ' H' → rep H φ' H' st a v → Q v H') : OutG T rep W φ H σ r Q := by
  subst e
  exact h
theorem R.bind_ok {α β : Type} {r : R α} {f : α → Store → R β} {b : β} {st : Store} (h : r.bind f = .ok b st) : ∃ a s, r = .ok a s ∧ f a s = .ok b st := by
  cases r with
  | ok a s => exact ⟨a, s, rfl, h⟩
  | ex _ _ _ => cases h
  | stk => cases h
theorem Ext.trans2 {T : Rz} {φ φ' φ'' : Fi} {H H' H'' : Hp} {st' : Store} (e : Ext φ H φ' H') (f : Ext φ' H' φ'' H'') (r' : Rel T φ' H' st') : Ext φ H φ'' H'' := by
  obtain ⟨ψ, hψ, nψ⟩ := e.more
  obtain ⟨χ, hχ, nχ⟩ := f.more
  refine ⟨⟨ψ ++ χ, by rw [hχ, hψ, List.append_assoc], fun a ha => ?_⟩, f.hid.trans e.hid, fun a o h n => f.keep a o (e.keep a o h n) (e.notin h n)⟩
  rcases List.mem_append.mp ha with ha | ha
  · exact nψ a ha
  · cases q : H a with
    | none => rfl
    | some o =>
      by_cases m : a ∈ φ.ref
      · obtain ⟨u, hu⟩ := r'.has (a := a) (by rw [hψ]; exact List.mem_append_left _ m)
        rw [nχ a ha] at hu; cases hu
      · have := e.keep a o q m
        rw [nχ a ha] at this; cases this
/-- the state behind i turns -/
structure LcW (T : Rz) (φ1 : Fi) (H1 : Hp) (D0 : Addr) (σ : L2.St) (env : Env) (own : List Nat) (f : D → Store → R (Option D)) (xs rs : List D) (stE : Store) (i m : Nat) (H : Hp) : Prop where
  ex : ∃ φ st acc accV rest, φ.hid = D0 :: φ1.hid ∧ Rel T φ H st ∧ Ext ⟨φ1.ref, D0 :: φ1.hid⟩ H1 φ H ∧ H D0 = some (.lst accV) ∧ Reps T.K φ H acc accV ∧ EnvR T φ H (wipe σ own) (wipeE env own) ∧
    lcL f (xs.drop i) st = .ok rest stE ∧ rs = acc ++ rest
  le : i ≤ xs.length
  ms : m = xs.length - i
theorem lc_turns {T : Rz} {W : WX} {tg : Tg} {c e : E} {own : List Nat} {φ1 : Fi} {H1 : Hp} {σ : L2.St} {env : Env} {st1 : Store} {ds xs : List D} {J : It} {Q : VK} {g : TG} {tt : TT} {te : TE}
    (hg : ∀ v σ H Q, gT T tg v σ H Q → g v σ H Q) (ht : ∀ σ H Q, tTn Γ cf T Wf c σ H Q → tt σ H Q) (he : ∀ σ H Q, tI Γ cf T Wf e σ H Q → te σ H Q) (hv : ∀ i ∈ tg.vars, i ∈ own)
    (r1 : Rel T φ1 H1 st1) (E1 : EnvR T φ1 H1 σ env) (hJ : WalkJ T ds xs φ1 H1 st1 J)
    (o : OutG T (repD T true) W φ1 H1 σ (lcEnd (refsOf ds) st1 (lcL (fun x st' => if still (refsOf ds) st1 st' = true then lcTurn (asgT st' tg x (wipeE env own)) (fun env' st' => if c.nulB = true then .ok true st' else testR (ev Γ cf c env' st')) (fun env' st' => ev Γ cf e env' st') st' else .stk) xs st1)) Q)
    {D0 : Addr} (hD : H1 D0 = none) : ∃ Wi : Nat → Nat → Hp → Prop, (∃ m, Wi 0 m (upd H1 D0 (.lst []))) ∧ ∀ i m H, Wi i m H →
      (J.stop i H ∧ Q (.ref D0) H) ∨ (J.go i H ∧ ∃ Nx : Hp → Prop, (∀ H', Nx H' → ∃ m', m' < m ∧ Wi (i + 1) m' H') ∧ ∀ x H', J.yld i H x H' → g x (wipe σ own) H' fun σ2 H2 => wipe σ2 own = wipe σ own ∧ tt σ2 H2 fun b H3 =>
        if b = true then te σ2 H3 fun y H4 => ∃ acc, H4 D0 = some (.lst acc) ∧ acc.length < sizeLine ∧ Nx (upd H4 D0 (.lst (acc ++ [y]))) else Nx H3) := by
  generalize hf : (fun x st' => if still (refsOf ds) st1 st' = true then lcTurn (asgT st' tg x (wipeE env own)) (fun env' st' => if c.nulB = true then .ok true st' else testR (ev Γ cf c env' st')) (fun env' st' => ev Γ cf e env' st') st' else .stk : D → Store → R (Option D)) = f at o
  cases q : lcL f xs st1 with
  | stk => rw [q] at o; exact o.elim
  | ex _ _ _ => rw [q] at o; exact o.elim
  | ok rs stE =>
    rw [q] at o
    unfold lcEnd at o
    simp only at o
    split at o
    · rename_i hz
      refine ⟨LcW T φ1 H1 D0 σ env own f xs rs stE, ⟨xs.length, ⟨⟨φ1.hide D0, st1, [], [], rs, rfl, r1.hide hD, ?_, upd_same, rfl, (E1.hide r1 hD).wipe own, by rw [List.drop_zero]; exact q, rfl⟩, Nat.zero_le _, by simp⟩⟩, fun i m H w => ?_⟩
      · exact ⟨⟨[], by simp [Fi.hide], by simp⟩, rfl, fun a u h _ => by rw [upd_ne (ne_of_none h hD)]; exact h⟩
      obtain ⟨⟨φ, st, acc, accV, rest, hh, r, ex, hl, hr, hE, hrun, hrs⟩, hle, hms⟩ := w
      have hin : D0 ∈ φ.hid := by rw [hh]; exact List.mem_cons_self
      have hhid : ∀ a ∈ φ.hid, a ∈ φ1.hid ∨ H1 a = none := fun a ha => by
        rw [hh] at ha
        rcases List.mem_cons.mp ha with e | ha
        · exact .inr (e ▸ hD)
        · exact .inl ha
      have ex' : Ext ⟨φ1.ref, φ.hid⟩ H1 φ H := by rw [hh]; exact ex
      by_cases hi : i = xs.length
      · -- the end
        subst hi
        rw [List.drop_length] at hrun
        have hrun' : R.ok [] st = R.ok rest stE := hrun
        cases hrun'
        rw [List.append_nil] at hrs
        subst hrs
        have hst : Still (refsOf ds) st1 stE := by
          exact still_ok.mp hz.1
        refine .inl ⟨(hJ φ H stE r ex' hhid hst).1, ?_⟩
        -- nothing is hidden any more
        have nt : NoTup H D0 := fun ys h => by
          rcases h with h | ⟨ob, h⟩ <;> rw [hl] at h <;> cases h
        have hD1 : D0 ∉ φ1.hid := fun m => by obtain ⟨_, xs, e⟩ := r1.hid D0 m; rw [hD] at e; cases e
        have A : Alt φ ⟨φ.ref, φ1.hid⟩ H H D0 := ⟨hin, nt, fun _ _ => rfl, rfl, fun a ha => by rw [hh]; exact List.mem_cons_of_mem _ ha⟩
        have rE : Rel T ⟨φ.ref, φ1.hid⟩ H stE := r.alt A fun a ha => (r.hid a (A.sub a ha)).2
        have eE : Ext φ1 H1 ⟨φ.ref, φ1.hid⟩ H := ⟨ex.more, rfl, ex.keep⟩
        have hl2 : rs.length ≤ sizeLine := hz.2
        refine o ⟨φ.ref, φ1.hid⟩ H (.ref D0) rE eE ⟨⟨D0, accV, rfl, hl, ⟨(r.hid D0 hin).1, hD1⟩, hl2, Reps.alt A _ _ hr⟩, fun _ _ => ?_⟩
        let Hb : Hp := fun b => if b = D0 then none else H b
        have hb : Hb D0 = none := if_pos rfl
        have hbn : ∀ a, a ≠ D0 → Hb a = H a := fun a ha => if_neg ha
        have eqH : H = upd Hb D0 (.lst accV) := by
          funext b
          by_cases e : b = D0
          · subst e; rw [upd_same]; exact hl
          · rw [upd_ne e, hbn b e]
        have B : Alt φ ⟨φ.ref, φ1.hid⟩ H Hb D0 := ⟨hin, nt, hbn, rfl, A.sub⟩
        refine ⟨D0, Hb, .lst accV, rfl, eqH, hb, hD, r.alt B fun a ha => ?_, accV, rfl, hl2, Reps.alt B _ _ hr⟩
        obtain ⟨_, ys, e⟩ := r.hid a (A.sub a ha)
        exact ⟨ys, by rw [hbn a (fun e => hD1 (e ▸ ha))]; exact e⟩
      · -- a turn
        have hlt : i < xs.length := Nat.lt_of_le_of_ne hle hi
        rw [List.drop_eq_getElem_cons hlt] at hrun
        obtain ⟨re, st2, q1, q2⟩ := R.bind_ok (show (f xs[i] st).bind _ = _ from hrun)
        obtain ⟨rs2, st3, q3, q4⟩ := R.bind_ok q2
        cases q4
        subst hf
        simp only at q1
        split at q1
        · rename_i hs
          have hst : Still (refsOf ds) st1 st := by
            exact still_ok.mp hs
          obtain ⟨_, hit⟩ := hJ φ H st r ex' hhid hst
          obtain ⟨hgo, hy⟩ := hit i xs[i] (List.getElem?_eq_getElem hlt)
          refine .inr ⟨hgo, LcW T φ1 H1 D0 σ env own _ xs rs stE (i + 1) (m - 1), fun H' w => ⟨m - 1, by omega, w⟩, fun x H' hx => ?_⟩
          obtain ⟨r2, e2, hx2⟩ := hy x H' hx
          unfold lcTurn at q1
          cases q5 : asgT st tg xs[i] (wipeE env own) with
          | none => rw [q5] at q1; cases q1
          | some env' =>
            rw [q5] at q1
            simp only at q1
            refine hg _ _ _ _ ⟨φ, wipeE env own, st, xs[i], env', r2, hE.ext r e2, hx2, q5, fun σ2 E2 w2 => ⟨?_, ?_⟩⟩
            · rw [w2 own hv]
              apply List.ext_getElem?
              intro j
              rw [wipe_get, wipe_get, wipe_length]
              by_cases hj : j ∈ own
              · rw [if_pos hj, if_pos hj]
              · rw [if_neg hj, if_neg hj]
            · obtain ⟨b, st4, q6, q7⟩ := R.bind_ok q1
              refine ht _ _ _ ⟨φ, env', st, r2, E2, OutG.get q6 fun φ3 H3 b3 r3 e3 hb3 => ?_⟩
              have hb3 : b = b3 := hb3
              subst hb3
              have l3 : H3 D0 = some (.lst accV) := e3.keep _ _ (e2.keep _ _ hl (r.hid D0 hin).1) (r.hid D0 hin).1
              have e13 : Ext φ H φ3 H3 := e2.trans r e3 r2
              cases b with
              | false =>
                rw [if_neg (by simp)] at q7 ⊢
                cases q7
                exact ⟨⟨φ3, st2, acc, accV, rs2, e13.hid.trans hh, r3, ex.trans2 e13 r, l3, r.reps e13 hr, hE.ext r e13, q3, hrs⟩, hlt, by omega⟩
              | true =>
                rw [if_pos rfl] at q7 ⊢
                obtain ⟨d, st5, q8, q9⟩ := R.bind_ok q7
                cases q9
                refine he _ _ _ ⟨φ3, env', st4, r3, E2.ext r2 e3, OutG.get q8 fun φ4 H4 y r4 e4 hy4 => ?_⟩
                have hin4 : D0 ∈ φ4.hid := by rw [e4.hid, e13.hid]; exact hin
                have l4 : H4 D0 = some (.lst accV) := e4.keep _ _ l3 (r3.hid D0 (by rw [e13.hid]; exact hin)).1
                have e14 : Ext φ H φ4 H4 := e13.trans r e4 r3
                have nt4 : NoTup H4 D0 := fun ys h => by
                  rcases h with h | ⟨ob, h⟩ <;> rw [l4] at h <;> cases h
                have A : Alt φ4 φ4 H4 (upd H4 D0 (.lst (accV ++ [y]))) D0 := ⟨hin4, nt4, fun a ha => upd_ne ha, rfl, fun a ha => ha⟩
                have lenr : rs.length = acc.length + (1 + rs2.length) := by
                  rw [hrs, List.length_append]
                  simp [keepL]
                  omega
                have hz2 := hz.2
                refine ⟨accV, l4, by rw [hr.length]; omega, ⟨φ4, st2, acc ++ [d], accV ++ [y], rs2, e14.hid.trans hh, r4.alt A fun a ha => ?_, ?_, upd_same, ?_, (hE.ext r e14).alt A, q3, by rw [hrs]; simp [keepL]⟩, hlt, by omega⟩
                · by_cases e : a = D0
                  · exact ⟨_, by rw [e]; exact upd_same⟩
                  · rw [upd_ne e]; exact (r4.hid a ha).2
                · have e5 := ex.trans2 e14 r
                  exact ⟨e5.more, e5.hid, fun a u h n => by rw [upd_ne (ne_of_none h hD)]; exact e5.keep a u h n⟩
                · exact (Reps.alt A _ _ (r.reps e14 hr)).append ⟨y, [], rfl, Rep.alt A _ _ hy4.1, rfl⟩
        · cases q1
    · exact o.elim
theorem Good.blk {X : Cx} {W : WX} (G : Good Γ cf P t k X W) {s : Shared} {H : Hp} {scope : Scope} {cenv : PySem.Env} {fp : List Addr} : Good Γ cf P t k (X.blk s H scope cenv fp) Wf :=
  ⟨G.calm, G.nd, G.grd, G.room, Takes.none, G.top, G.fns⟩
theorem chkT_tup {N : List Str} {sc : Scope} {fn : Str → Bool} {g : Tg} {x : Expr} (h : chkT N sc fn g x = true) (hg : g.isTup = true) : ∃ es kk p, x = .Tuple es kk p := by
  cases g with
  | nm i => cases hg
  | tup ts =>
    cases x with
    | Tuple es kk p => exact ⟨_, _, _, rfl⟩
    | _ => simp [chkT] at h
theorem own_map {N : List Str} (own : List Nat) : (own.map fun i => (N.getD i Str.empty, i)).map (·.2) = own := by
  induction own with
  | nil => rfl
  | cons i r ih => simp only [List.map_cons, ih]
theorem lc_bind {ds : List D} {ik : IK} {its : List E} {env : Env} {st : Store} (F : List D → List D → Store → R D) :
    ((evs Γ cf its env st).bind fun ds st => match walkD st ik ds with
    | some xs => F ds xs st
    | none => .stk) = (wkR Γ cf ik its env st).bind fun p st => F p.1 p.2 st := by
  unfold wkR
  cases evs Γ cf its env st with
  | stk => rfl
  | ex _ _ _ => rfl
  | ok ds st =>
    simp only [R.bind]
    cases walkD st ik ds <;> rfl
/-- a comprehension, as a value and as what a name is given on the same line -/
theorem lc_parts {own : List Nat} {g : Tg} {ik : IK} {its : List E} {c e : E} (hs : Snds Γ cf P t k its) (hc : SndT Γ cf P t k c) (he : Snd Γ cf P t k e) {X : Cx} {W : WX} {elt tgt iter : Expr} {ifs : List Expr} {scope : Scope} {pos : Pos} (G : Good Γ cf P t k X W)
    (h : chk P X.N (.lc own g ik its c e) X.env.scope (.ListComp elt [⟨tgt, iter, ifs, 0⟩] scope pos) = true) :
    ∃ te : TE, PE X (.ListComp elt [⟨tgt, iter, ifs, 0⟩] scope pos) te ∧ (∀ σ H Q, tI Γ cf (rz X t) W (.lc own g ik its c e) σ H Q → te σ H Q) ∧
      ∀ (i : Nat) (y : Str) (py spos : Pos), X.N[i]? = some y → X.env.scope.names.lookup y = some .local → swapsWith (.ListComp elt [⟨tgt, iter, ifs, 0⟩] scope pos) (some (.Name y py)) spos.line X.env = pure true →
        PS X (.Assign [.Name y py] (.ListComp elt [⟨tgt, iter, ifs, 0⟩] scope pos) spos) (tAsg te (gName i)) := by
  simp only [chk, kLc] at h
  simp only [Bool.and_eq_true] at h
  obtain ⟨⟨⟨⟨⟨h1, h2⟩, h3⟩, h4⟩, h5⟩, h6⟩ := h
  have hv : ∀ i ∈ g.vars, i ∈ own := fun i hi => by
    have := List.all_eq_true.mp h6 i hi
    simpa using this
  obtain ⟨hi, hi2⟩ := snd_it hs G (fun z => chkT_tup h3 z) h1
  have hg : ∀ (s : Shared) (H : Hp) (C : Addr) (cl : List (Str × Addr)) (fp : List Addr), PG (X.blk s H scope (compEnvC scope cl C X.env) fp) tgt (gT (rz X t) g) := fun s H C cl fp =>
    pg_tg (X := X.blk s H scope (compEnvC scope cl C X.env) fp) (t := t) G.calm G.nd g tgt h3
  have ht : ∀ (s : Shared) (H : Hp) (C : Addr) (cl : List (Str × Addr)) (fp : List Addr), PTs (X.blk s H scope (compEnvC scope cl C X.env) fp) ifs (tTn Γ cf (rz X t) Wf c) := fun s H C cl fp =>
    snd_ifs (X := X.blk s H scope (compEnvC scope cl C X.env) fp) hc G.blk h5
  have hE : ∀ (s : Shared) (H : Hp) (C : Addr) (cl : List (Str × Addr)) (fp : List Addr), PE (X.blk s H scope (compEnvC scope cl C X.env) fp) elt (tI Γ cf (rz X t) Wf e) := fun s H C cl fp =>
    (he (X.blk s H scope (compEnvC scope cl C X.env) fp) Wf elt G.blk h4).1
  refine ⟨_, pe_lc G.calm G.nd hi (blkOk_by h2) hg ht hE (fun x => head_set hi2 x), fun σ H Q ⟨φ, env, st, r, E0, o⟩ => ?_, fun i y py spos q1 q2 q3 => ps_setLc G.calm G.nd q1 q2 q3 hi (blkOk_by h2) hg ht hE (fun x => head_set hi2 x)⟩
  rw [own_map]
  simp only [ev] at o
  have o2 := (lc_bind (Γ := Γ) (cf := cf) (ds := []) (ik := ik) (its := its) (env := env) (st := st) (F := fun ds xs st => lcEnd (refsOf ds) st (lcL (fun x st' => if still (refsOf ds) st st' = true then lcTurn (asgT st' g x (wipeE env own)) (fun env' st' => if c.nulB = true then .ok true st' else testR (ev Γ cf c env' st')) (fun env' st' => ev Γ cf e env' st') st' else .stk) xs st))).symm ▸ o
  refine ⟨φ, env, st, r, E0, (OutG.bind (rep1 := repJ (rz X t)) r shD o2).imp fun J H1 ⟨φ1, st1, p, r1, e1, hJ, o1⟩ D0 hD => ?_⟩
  exact lc_turns (fun _ _ _ _ q => q) (fun _ _ _ q => q) (fun _ _ _ q => q) hv r1 (E0.ext r e1) hJ o1 hD
theorem snd_lc {own : List Nat} {g : Tg} {ik : IK} {its : List E} {c e : E} (hs : Snds Γ cf P t k its) (hc : SndT Γ cf P t k c) (he : Snd Γ cf P t k e) : Snd Γ cf P t k (.lc own g ik its c e) := by
  intro X W x G h
  have h0 := h
  simp only [chk, kLc] at h
  split at h
  · obtain ⟨te, h1, h2, _⟩ := lc_parts hs hc he G h0
    exact ⟨pe_imp h1 h2, rfl⟩
  · cases h
end
end Cip

set_option maxHeartbeats 4000000
/-! Cip19: every expression. -/
namespace Cip
open PySem PySem.Spec PyProof.Rows L2

section
variable {Γ : Tx} {cf : CF} {P : Pn} {t : Nm} {k : Nat}
theorem both_of {e : E} (h : Snd Γ cf P t k e) (hv : ∀ (N : List Str) (sc : Scope) (x : Expr), chk P N e sc x = true → headV x = true) : Snd Γ cf P t k e ∧ SndT Γ cf P t k e := ⟨h, sndT_of h hv⟩
theorem both_no {e : E} (h : ∀ (N : List Str) (sc : Scope) (x : Expr), chk P N e sc x = false) : Snd Γ cf P t k e ∧ SndT Γ cf P t k e :=
  ⟨fun X W x G hc => (Bool.noConfusion ((h _ _ _).symm.trans hc)), fun X W x G hc => (Bool.noConfusion ((h _ _ _).symm.trans hc))⟩
theorem sndT_mut {a : E} (ha : SndT Γ cf P t k a) : SndT Γ cf P t k (.mut a) := by
  intro X W x G h
  simp only [chk] at h
  rw [Bool.and_eq_true] at h
  refine pt_imp (ha X W x G h.1) fun σ H Q ⟨φ, env, st, r, E, o⟩ => ⟨φ, env, st, r, E, ?_⟩
  simp only [ev] at o
  cases q : ev Γ cf a env st with
  | stk => rw [q] at o; exact o
  | ex c fs s => rw [q] at o; exact o
  | ok d s => rw [q] at o; cases d <;> exact o.elim
mutual
theorem snd_all : ∀ e : E, Snd Γ cf P t k e ∧ SndT Γ cf P t k e
  | .nul => both_no fun _ _ _ => rfl
  | .non => both_of snd_non fun N sc x h => by simp only [chk, kNon] at h; split at h <;> first | rfl | cases h
  | .bl b => both_of snd_bl fun N sc x h => by simp only [chk, kBl] at h; split at h <;> first | rfl | cases h
  | .int i => both_of snd_int fun N sc x h => by simp only [chk, kInt] at h; split at h <;> first | rfl | cases h
  | .str z => both_of snd_str fun N sc x h => by simp only [chk, kStr] at h; split at h <;> first | rfl | cases h
  | .var i => both_of snd_var fun N sc x h => by simp only [chk, kVar] at h; split at h <;> first | rfl | cases h
  | .con i => both_of snd_con fun N sc x h => by simp only [chk, kCon] at h; split at h <;> first | rfl | cases h
  | .bin o a b => both_of (snd_bin (snd_all a).1 (snd_all b).1) fun N sc x h => by simp only [chk, kBin] at h; split at h <;> first | rfl | cases h
  | .neg a => both_of (snd_neg (snd_all a).1) fun N sc x h => by
    simp only [chk, kUn] at h
    split at h
    · rw [Bool.and_eq_true] at h
      have h1 := of_decide_eq_true h.1
      subst h1
      rfl
    · cases h
  | .cmp o a b => ⟨snd_cmp (snd_all a).1 (snd_all b).1, sndT_cmp (snd_all a).1 (snd_all b).1⟩
  | .chn o p a b c => snd_chn (snd_all a).1 (snd_all b).1 (snd_all c).1
  | .chn3 _ _ _ _ _ _ _ => both_no fun _ _ _ => rfl
  | .isn a => snd_isn (snd_all a).1
  | .notn a => snd_notn (snd_all a).1
  | .and es => snd_and (snd_alls es).1 (snd_alls es).2
  | .or es => snd_or (snd_alls es).1 (snd_alls es).2
  | .not a => snd_not (snd_all a).1 (snd_all a).2
  | .ite c a b => snd_ite (snd_all c).2 (snd_all a).1 (snd_all b).1 (snd_all a).2 (snd_all b).2
  | .tup es => both_of (snd_tup (snd_alls es).1) fun N sc x h => by simp only [chk, kTup] at h; split at h <;> first | rfl | cases h
  | .lst es => both_of (snd_lst (snd_alls es).1) fun N sc x h => by simp only [chk, kLst] at h; split at h <;> first | rfl | cases h
  | .mut a => ⟨snd_mut (snd_all a).1, sndT_mut (snd_all a).2⟩
  | .dct es => both_of snd_dct fun N sc x h => by
    simp only [chk, kDct] at h
    rw [Bool.and_eq_true] at h
    obtain ⟨h, _⟩ := h
    split at h <;> first | rfl | cases h
  | .idx a i => both_of (snd_idx (snd_all a).1 (snd_all i).1) fun N sc x h => by simp only [chk, kIdx] at h; split at h <;> first | rfl | cases h
  | .slc a lo hi => both_of (snd_slc (snd_all a).1 (snd_all lo).1 (snd_all hi).1) fun N sc x h => by simp only [chk, kSlc] at h; split at h <;> first | rfl | cases h
  | .rev _ => both_no fun _ _ _ => rfl
  | .fld _ _ => both_no fun _ _ _ => rfl
  | .call f es => both_of (snd_call (snd_alls es).1) fun N sc x h => by
    simp only [chk, kCall] at h
    rw [Bool.and_eq_true] at h
    obtain ⟨h, _⟩ := h
    split at h <;> first | rfl | cases h
  | .mth _ _ _ _ => both_no fun _ _ _ => rfl
  | .new _ _ => both_no fun _ _ _ => rfl
  | .bi b es => both_of (snd_bi (snd_alls es).1) fun N sc x h => by
    simp only [chk, kCall] at h
    rw [Bool.and_eq_true, Bool.and_eq_true] at h
    obtain ⟨⟨h, _⟩, _⟩ := h
    split at h <;> first | rfl | cases h
  | .bm m a es => both_of (snd_bm (snd_all a).1 (snd_rcv a) (snd_alls es).1) fun N sc x h => by
    simp only [chk, kMeth] at h
    rw [Bool.and_eq_true, Bool.and_eq_true] at h
    obtain ⟨⟨h, _⟩, _⟩ := h
    split at h <;> first | rfl | cases h
  | .isi a ty => ⟨snd_isi (snd_all a).1, snd_isiT (snd_all a).1⟩
  | .fst _ => both_no fun _ _ _ => rfl
  | .lc own g ik its c e => both_of (snd_lc (snd_alls its).1 (snd_all c).2 (snd_all e).1) fun N sc x h => by simp only [chk, kLc] at h; split at h <;> first | rfl | cases h
  | .app a e => both_of (snd_app (snd_all a).1 (snd_all e).1) fun N sc x h => by simp only [chk, kMeth] at h; split at h <;> first | rfl | cases h
  | .ext _ _ => both_no fun _ _ _ => rfl
  | .pop _ => both_no fun _ _ _ => rfl
theorem snd_rcv : ∀ (a : E) (ts : List E), a = .tup ts → Snds Γ cf P t k ts
  | .tup es, ts, e => by
    have h := (snd_alls es).1
    cases e
    exact h
  | .nul, _, e | .non, _, e | .bl _, _, e | .int _, _, e | .str _, _, e | .var _, _, e | .con _, _, e | .bin _ _ _, _, e | .neg _, _, e | .cmp _ _ _, _, e | .chn _ _ _ _ _, _, e | .chn3 _ _ _ _ _ _ _, _, e
  | .isn _, _, e | .notn _, _, e | .and _, _, e | .or _, _, e | .not _, _, e | .ite _ _ _, _, e | .lst _, _, e | .mut _, _, e | .dct _, _, e | .idx _ _, _, e | .slc _ _ _, _, e | .rev _, _, e | .fld _ _, _, e
  | .call _ _, _, e | .mth _ _ _ _, _, e | .new _ _, _, e | .bi _ _, _, e | .bm _ _ _, _, e | .isi _ _, _, e | .fst _, _, e | .lc _ _ _ _ _ _, _, e | .app _ _, _, e | .ext _ _, _, e | .pop _, _, e => by cases e
theorem snd_alls : ∀ es : List E, Snds Γ cf P t k es ∧ SndTs Γ cf P t k es
  | [] => ⟨fun _ h => (List.not_mem_nil h).elim, fun _ h => (List.not_mem_nil h).elim⟩
  | e :: es => by
    have h1 := snd_all e
    have h2 := snd_alls es
    refine ⟨fun x hx => ?_, fun x hx => ?_⟩
    · rcases List.mem_cons.mp hx with q | q
      · subst q; exact h1.1
      · exact h2.1 x q
    · rcases List.mem_cons.mp hx with q | q
      · subst q; exact h1.2
      · exact h2.2 x q
end
end
end Cip

set_option maxHeartbeats 4000000
/-! Cip20: statements: what is wanted; the simple ones. -/
namespace Cip
open PySem PySem.Spec PyProof.Rows L2

/-- what is wanted behind a statement that comes to r -/
def OutS (T : Rz) (W : WX) (φ : Fi) (H : Hp) (r : SR) (D : Ends) : Prop := match r with
  | .nx env st => ∀ φ' H' σ', Rel T φ' H' st → Ext φ H φ' H' → EnvR T φ' H' σ' env → D.nx σ' H'
  | .rt d st => ∀ φ' H' v, Rel T φ' H' st → Ext φ H φ' H' → Rep T.K φ' H' d v → D.rt v H'
  | .ex c fs env st => ∀ φ' H' σ' cls dd, Rel T φ' H' st → Ext φ H φ' H' → EnvR T φ' H' σ' env → XV T φ' H' c fs cls dd → W cls dd σ' H'
  | .stk => False
section
variable {T : Rz} {W : WX} {φ φ' : Fi} {H H' : Hp} {σ : L2.St} {st st' : Store} {env : Env} {D : Ends}
theorem OutS.shift {r : SR} (r0 : Rel T φ H st) (e1 : Ext φ H φ' H') (r1 : Rel T φ' H' st') (h : OutS T W φ H r D) : OutS T W φ' H' r D := by
  cases r with
  | nx env s => exact fun φ2 H2 σ2 r2 e2 E2 => h φ2 H2 σ2 r2 (e1.trans2 e2 r1) E2
  | rt d s => exact fun φ2 H2 v r2 e2 p2 => h φ2 H2 v r2 (e1.trans2 e2 r1) p2
  | ex c fs env s => exact fun φ2 H2 σ2 cls dd r2 e2 E2 x => h φ2 H2 σ2 cls dd r2 (e1.trans2 e2 r1) E2 x
  | stk => exact h
theorem OutS.bind {r : SR} {k : Env → Store → SR} (r0 : Rel T φ H st) (h : OutS T W φ H (r.bind k) D) {N : L2.St → Hp → Prop} (hn : ∀ φ1 H1 σ1 env1 st1, Rel T φ1 H1 st1 → Ext φ H φ1 H1 → EnvR T φ1 H1 σ1 env1 → OutS T W φ1 H1 (k env1 st1) D → N σ1 H1)
    {bk ct : L2.St → Hp → Prop} : OutS T W φ H r { nx := N, rt := D.rt, bk := bk, ct := ct } := by
  cases r with
  | nx env s => exact fun φ2 H2 σ2 r2 e2 E2 => hn φ2 H2 σ2 env s r2 e2 E2 (OutS.shift r0 e2 r2 h)
  | rt d s => exact h
  | ex c fs env s => exact h
  | stk => exact h
theorem OutS.s {α β : Type} {rep : RepT α β} {r : R α} {k : α → Store → SR} (r0 : Rel T φ H st) (E0 : EnvR T φ H σ env) (h : OutS T W φ H (r.s env k) D) :
    OutG T rep W φ H σ r (fun v H1 => ∃ φ1 st1 a, Rel T φ1 H1 st1 ∧ Ext φ H φ1 H1 ∧ rep H φ1 H1 st1 a v ∧ EnvR T φ1 H1 σ env ∧ OutS T W φ1 H1 (k a st1) D) := by
  cases r with
  | stk => exact h
  | ex c fs s => exact fun φ1 H1 cls dd r1 e1 x => h φ1 H1 σ cls dd r1 e1 (E0.ext r0 e1) x
  | ok a s => exact fun φ1 H1 v r1 e1 p1 => ⟨φ1, s, a, r1, e1, p1, E0.ext r0 e1, OutS.shift r0 e1 r1 h⟩
end
structure GoodS (Γ : Tx) (cf : CF) (P : Pn) (t : Nm) (k : Nat) (X : Cx) (W : WX) : Prop extends Good Γ cf P t k X W where
  own : PassesOwn (model X.prog X.w) X.A X.env X.xe
  stk : X.stack = X.env :: X.outer
  frm : X.env.frame = some X.env.locals

section
variable {Γ : Tx} {cf : CF} {P : Pn} {t : Nm} {k : Nat}
def tS (Γ : Tx) (cf : CF) (T : Rz) (W : WX) (s : S) : TS := fun D σ H => ∃ φ env st, Rel T φ H st ∧ EnvR T φ H σ env ∧ OutS T W φ H (run Γ cf s env st) D
def tSs (Γ : Tx) (cf : CF) (T : Rz) (W : WX) (ss : List S) : TS := fun D σ H => ∃ φ env st, Rel T φ H st ∧ EnvR T φ H σ env ∧ OutS T W φ H (runs Γ cf ss env st) D
theorem ps_imp {X : Cx} {x : Stmt} {t u : TS} (h : PS X x t) (hi : ∀ D σ H, u D σ H → t D σ H) : PS X x u := ⟨fun pins s σ H D I q => h.run pins s σ H D I (hi D σ H q)⟩
theorem pss_imp {X : Cx} {x : List Stmt} {t u : TS} (h : PSs X x t) (hi : ∀ D σ H, u D σ H → t D σ H) : PSs X x u := ⟨fun pins s σ H D I q => h.run pins s σ H D I (hi D σ H q)⟩
/-- behind an expression, in a statement -/
theorem tI_s {X : Cx} {W : WX} {a : E} {φ : Fi} {H : Hp} {σ : L2.St} {env : Env} {st : Store} {kk : D → Store → SR} {D : Ends} (r : Rel (rz X t) φ H st) (E0 : EnvR (rz X t) φ H σ env) (o : OutS (rz X t) W φ H ((ev Γ cf a env st).s env kk) D) {Q' : V → Hp → Prop}
    (hq : ∀ v H1 φ1 st1 d, Rel (rz X t) φ1 H1 st1 → Ext φ H φ1 H1 → EnvR (rz X t) φ1 H1 σ env → repD (rz X t) a.fresh H φ1 H1 st1 d v → OutS (rz X t) W φ1 H1 (kk d st1) D → Q' v H1) : tI Γ cf (rz X t) W a σ H Q' :=
  ⟨φ, env, st, r, E0, (OutS.s (rep := repD (rz X t) a.fresh) r E0 o).imp fun v H1 ⟨φ1, st1, d, r1, e1, p1, E1, o1⟩ => hq v H1 φ1 st1 d r1 e1 E1 p1 o1⟩
theorem tT_s {X : Cx} {W : WX} {a : E} {φ : Fi} {H : Hp} {σ : L2.St} {env : Env} {st : Store} {kk : Bool → Store → SR} {D : Ends} (r : Rel (rz X t) φ H st) (E0 : EnvR (rz X t) φ H σ env) (o : OutS (rz X t) W φ H ((testR (ev Γ cf a env st)).s env kk) D) {Q' : Bool → Hp → Prop}
    (hq : ∀ b H1 φ1 st1, Rel (rz X t) φ1 H1 st1 → Ext φ H φ1 H1 → EnvR (rz X t) φ1 H1 σ env → OutS (rz X t) W φ1 H1 (kk b st1) D → Q' b H1) : tT Γ cf (rz X t) W a σ H Q' :=
  ⟨φ, env, st, r, E0, (OutS.s (rep := repB) r E0 o).imp fun v H1 ⟨φ1, st1, d, r1, e1, p1, E1, o1⟩ => by
    have : d = v := p1
    subst this
    exact hq d H1 φ1 st1 r1 e1 E1 o1⟩
def SndP (Γ : Tx) (cf : CF) (P : Pn) (t : Nm) (k : Nat) (ck : List Str → Scope → (Str → Bool) → Stmt → Bool) (s : S) : Prop := ∀ (X : Cx) (W : WX) (x : Stmt), GoodS Γ cf P t k X W → ck X.N X.env.scope X.fn x = true → PS X x (tS Γ cf (rz X t) W s)
end

/-! ### statements held against texts -/
def isCmp : Expr → Bool
  | .ListComp _ _ _ _ => true
  | .SetComp _ _ _ _ => true
  | .DictComp _ _ _ _ _ => true
  | _ => false
def isTupX : Expr → Bool
  | .Tuple _ _ _ => true
  | .List _ _ => true
  | _ => false
theorem sw_plain {e : Expr} {tg : Option Expr} {l : Nat} {env : PySem.Env} (h : isCmp e = false) : swapsWith e tg l env = pure false := by
  cases e <;> first | rfl | cases h
theorem sws_plain {e tg : Expr} {l : Nat} {env : PySem.Env} (h : isCmp e = false) : swapsWithSole [tg] e l env = pure false := sw_plain h
theorem sps_plain {e tg : Expr} {env : PySem.Env} (h : (isTupX tg && isTupX e) = false) : swappedStores [tg] e env = pure none := by
  cases tg <;> first | rfl | (cases e <;> first | rfl | cases h)
theorem as_one {tg : Expr} {env : PySem.Env} (h : headOk tg = true) : (assignEach [tg] env).map (·.2) = [assign tg env] := by
  rw [assignEach_head h] <;> rfl
def nmsOf (sc : Scope) (ts : List Expr) : List Str := ts.filterMap fun x => match x with
  | .Name id pos => if sc.names.lookup id == some .local && pos.line == (ts.head?.map (·.pos.line)).getD 0 then some id else none
  | _ => none
theorem sps_none {ts vs : List Expr} {k k2 : Nat} {p p2 : Pos} {env : PySem.Env} (h : (!(ts.length == 2 || ts.length == 3) || vs.length != ts.length || (nmsOf env.scope ts).length != ts.length || vs.all (foldedForSure 8)) = true) :
    swappedStores [.Tuple ts k p] (.Tuple vs k2 p2) env = pure none := by
  unfold swappedStores
  simp only
  have e : (List.filterMap (fun x => match x with
    | Expr.Name id pos => if (env.kindOf id == some NameKind.local && pos.line == (Option.map (fun x => x.pos.line) ts.head?).getD 0) = true then some id else none
    | x => none) ts) = nmsOf env.scope ts := rfl
  by_cases h1 : (!(ts.length == 2 || ts.length == 3) || vs.length != ts.length || env.blockKind != ScopeKind.function) = true
  · rw [if_pos h1]
  · rw [if_neg h1]
    split
    · rfl
    · split
      · rfl
      · rename_i h3
        rw [if_pos]
        simp only [Bool.or_eq_true] at h h1 h3
        rcases h with ((h | h) | h) | h
        · exact absurd (.inl (.inl h)) h1
        · exact absurd (.inl (.inr h)) h1
        · exact absurd (.inl h) h3
        · exact h
theorem bk_fun {env : PySem.Env} (hk : env.scope.kind = .function) : env.blockKind = .function := by unfold Env.blockKind; rw [hk]; rfl
theorem star_no {e : Expr} (h : headOk e = true) : (match e with | .Starred _ _ => true | _ => false) = false := by
  cases e <;> first | rfl | cases h
theorem sps_two {x y : Str} {px py p p2 : Pos} {a b : Expr} {k k2 : Nat} {env : PySem.Env} (hk : env.scope.kind = .function) (hx : env.scope.names.lookup x = some .local) (hy : env.scope.names.lookup y = some .local) (hl : (py.line == px.line) = true) (hxy : (x == y) = false)
    (ha : headOk a = true) (hb : headOk b = true) (hf : ([a, b].all (foldedForSure 8)) = false) (hc : ([a, b].all (constantsAlone 8)) = false) : swappedStores [.Tuple [.Name x px, .Name y py] k p] (.Tuple [a, b] k2 p2) env = pure (some [x, y]) := by
  have kx : env.kindOf x = some .local := hx
  have ky : env.kindOf y = some .local := hy
  have hl' : py.line = px.line := by simpa using hl
  have hyx : (y == x) = false := by rw [BEq.comm]; exact hxy
  unfold swappedStores
  simp only [List.all_cons, List.all_nil, Bool.and_true] at hf hc
  simp [bk_fun hk, kx, ky, hl', Expr.pos, hxy, hyx, hf, hc, List.eraseDups_cons]
  intro h
  exfalso
  rcases h with h | h
  · cases a <;> first | (cases h; done) | (cases ha; done)
  · cases b <;> first | (cases h; done) | (cases hb; done)
theorem sps_three {x y z : Str} {px py pz p p2 : Pos} {a b c : Expr} {k k2 : Nat} {env : PySem.Env} (hk : env.scope.kind = .function) (hx : env.scope.names.lookup x = some .local) (hy : env.scope.names.lookup y = some .local) (hz : env.scope.names.lookup z = some .local)
    (hl : (py.line == px.line) = true) (hl2 : (pz.line == px.line) = true) (hxy : (x == y) = false) (hxz : (x == z) = false) (hyz : (y == z) = false)
    (ha : headOk a = true) (hb : headOk b = true) (hc' : headOk c = true) (hf : ([a, b, c].all (foldedForSure 8)) = false) (hc : ([a, b, c].all (constantsAlone 8)) = false) : swappedStores [.Tuple [.Name x px, .Name y py, .Name z pz] k p] (.Tuple [a, b, c] k2 p2) env = pure (some [x, y, z]) := by
  have kx : env.kindOf x = some .local := hx
  have ky : env.kindOf y = some .local := hy
  have kz : env.kindOf z = some .local := hz
  have hl' : py.line = px.line := by simpa using hl
  have hl2' : pz.line = px.line := by simpa using hl2
  have hyx : (y == x) = false := by rw [BEq.comm]; exact hxy
  have hzx : (z == x) = false := by rw [BEq.comm]; exact hxz
  have hzy : (z == y) = false := by rw [BEq.comm]; exact hyz
  unfold swappedStores
  simp only [List.all_cons, List.all_nil, Bool.and_true] at hf hc
  simp [bk_fun hk, kx, ky, kz, hl', hl2', Expr.pos, hxy, hyx, hxz, hzx, hyz, hzy, hf, hc, List.eraseDups_cons]
  intro h
  exfalso
  rcases h with h | h | h
  · cases a <;> first | (cases h; done) | (cases ha; done)
  · cases b <;> first | (cases h; done) | (cases hb; done)
  · cases c <;> first | (cases h; done) | (cases hc'; done)
theorem sw_false {elt : Expr} {gs : List Comprehension} {scope : Scope} {pos py : Pos} {y : Str} {l : Nat} {env : PySem.Env} (hk : env.scope.kind = .function)
    (h : ((env.scope.names.lookup y == some .local) && (py.line == pos.line) && !(scope.names.any fun (n, k) => n == y && (k == .local || k == .cell))) = false) : swapsWith (.ListComp elt gs scope pos) (some (.Name y py)) l env = pure false := by
  have e : env.kindOf y = env.scope.names.lookup y := rfl
  unfold swapsWith
  simp only [bk_fun hk, e, Expr.pos]
  have : ((ScopeKind.function == ScopeKind.function) && (env.scope.names.lookup y == some NameKind.local) && (py.line == pos.line) && !(scope.names.any fun (n, k) => n == y && (k == .local || k == .cell))) = false := by
    rw [show (ScopeKind.function == ScopeKind.function) = true from rfl, Bool.true_and]
    exact h
  exact congrArg pure this

/-! ### matchers -/
def swB (sc s : Scope) (n : Str) (q p : Pos) : Bool := (sc.names.lookup n == some .local) && (q.line == p.line) && !(s.names.any fun (m, k) => m == n && (k == .local || k == .cell))
def E.lcB : E → Bool
  | .lc _ _ _ _ _ _ => true
  | .mut (.lc _ _ _ _ _ _) => true
  | _ => false
def kPlain (N : List Str) (sc : Scope) (fn : Str → Bool) (t : Tg) (tg y : Expr) : Bool := !isCmp y && !(isTupX tg && isTupX y) && headOk tg && chkT N sc fn t tg
def kLcSw (N : List Str) (sc : Scope) (t : Tg) (e : E) (tg y : Expr) : Bool := match tg, y, t with
  | .Name n q, .ListComp _ [⟨_, _, _, 0⟩] s p, .nm i => swB sc s n q p && decide (N[i]? = some n) && e.lcB
  | _, _, _ => false
def kLcPl (N : List Str) (sc : Scope) (fn : Str → Bool) (t : Tg) (tg y : Expr) : Bool := match tg, y with
  | .Name n q, .ListComp _ _ s p => !swB sc s n q p && chkT N sc fn t (.Name n q)
  | .Tuple ts k r, .ListComp _ _ _ _ => chkT N sc fn t (.Tuple ts k r)
  | _, _ => false
def kTupPl (N : List Str) (sc : Scope) (fn : Str → Bool) (t : Tg) (tg y : Expr) : Bool := match tg, y with
  | .Tuple ts k r, .Tuple vs _ _ => (!(ts.length == 2 || ts.length == 3) || vs.length != ts.length || (nmsOf sc ts).length != ts.length || vs.all (foldedForSure 8)) && chkT N sc fn t (.Tuple ts k r)
  | _, _ => false
def kPar2 (N : List Str) (sc : Scope) (t : Tg) (e : E) (tg y : Expr) : Bool := match t, tg, e, y with
  | .tup [.nm i, .nm j], .Tuple [.Name x px, .Name z pz] _ _, .tup [_, _], .Tuple [u, v] _ _ =>
    decide (N[i]? = some x) && decide (N[j]? = some z) && i != j && kindB sc x .local && kindB sc z .local && (pz.line == px.line) && !(x == z) && !([u, v].all (foldedForSure 8)) && !([u, v].all (constantsAlone 8))
  | _, _, _, _ => false
def kPar3 (N : List Str) (sc : Scope) (t : Tg) (e : E) (tg y : Expr) : Bool := match t, tg, e, y with
  | .tup [.nm i, .nm j, .nm l], .Tuple [.Name x px, .Name z pz, .Name w pw] _ _, .tup [_, _, _], .Tuple [u, v, r] _ _ =>
    decide (N[i]? = some x) && decide (N[j]? = some z) && decide (N[l]? = some w) && i != j && i != l && j != l && kindB sc x .local && kindB sc z .local && kindB sc w .local && (pz.line == px.line) && (pw.line == px.line) && !(x == z) && !(x == w) && !(z == w) && !([u, v, r].all (foldedForSure 8)) && !([u, v, r].all (constantsAlone 8))
  | _, _, _, _ => false
def kAsg (N : List Str) (sc : Scope) (fn : Str → Bool) (t : Tg) (e : E) (ck : CkE) : Stmt → Bool := fun x => match x with
  | .Assign [tg] y _ => ck y && (kPlain N sc fn t tg y || kLcSw N sc t e tg y || kLcPl N sc fn t tg y || kTupPl N sc fn t tg y || kPar2 N sc t e tg y || kPar3 N sc t e tg y)
  | _ => false
def kSub (ca ci ce : CkE) : Stmt → Bool := fun x => match x with
  | .Assign [.Subscript a i _] y _ => !isCmp y && ca a && ci i && ce y
  | _ => false
def kIfS (c : CkE) (a b : List Stmt → Bool) : Stmt → Bool := fun x => match x with
  | .If y u v _ => c y && a u && b v
  | _ => false
def kForS (tg it : CkE) (b : List Stmt → Bool) : Stmt → Bool := fun x => match x with
  | .For g i u [] _ => tg g && it i && b u
  | _ => false
def kWhl (c : CkE) (b : List Stmt → Bool) : Stmt → Bool := fun x => match x with
  | .While y u [] _ => c y && b u
  | _ => false
def kRet (nul : Bool) (c : CkE) : Stmt → Bool := fun x => match x with
  | .Return (some y) _ => c y
  | .Return none _ => nul
  | _ => false
def kExp (c : CkE) : Stmt → Bool := fun x => match x with
  | .Expr y _ => !isCmp y && c y
  | _ => false
def kPass : Stmt → Bool := fun x => match x with
  | .Pass _ => true
  | _ => false
def kConsS (a : Stmt → Bool) (b : List Stmt → Bool) : List Stmt → Bool := fun xs => match xs with
  | x :: xs => a x && b xs
  | [] => false
def E.nonB : E → Bool
  | .non => true
  | _ => false
mutual
def chkS (P : Pn) (N : List Str) : S → Scope → (Str → Bool) → Stmt → Bool
  | .asg t e, sc, fn, x => kAsg N sc fn t e (chk P N e sc) x
  | .ssub a i e, sc, _, x => kSub (chk P N a sc) (chk P N i sc) (chk P N e sc) x
  | .ite c a b, sc, fn, x => kIfS (chk P N c sc) (chkSs P N a sc fn) (chkSs P N b sc fn) x
  | .for t k its body, sc, fn, x => kForS (chkT N sc fn t) (kIt sc k t.isTup its.length (chks P N its sc)) (chkSs P N body sc fn) x
  | .whl c body, sc, fn, x => kWhl (chk P N c sc) (chkSs P N body sc fn) x
  | .ret e, sc, _, x => kRet e.nonB (chk P N e sc) x
  | .exp e, sc, _, x => kExp (chk P N e sc) x
  | .pass, _, _, x => kPass x
  | .sfld _ _ _, _, _, _ => false
  | .aug _ _ _, _, _, _ => false
  | .augf _ _ _ _, _, _, _ => false
  | .raise _ _, _, _, _ => false
  | .tri _ _ _ _, _, _, _ => false
def chkSs (P : Pn) (N : List Str) : List S → Scope → (Str → Bool) → List Stmt → Bool
  | [], _, _, xs => xs.isEmpty
  | s :: ss, sc, fn, xs => kConsS (chkS P N s sc fn) (chkSs P N ss sc fn) xs
end
end Cip

set_option maxHeartbeats 4000000
/-! Cip21: statements. -/
namespace Cip
open PySem PySem.Spec PyProof.Rows L2

section
variable {Γ : Tx} {cf : CF} {P : Pn} {t : Nm} {k : Nat}
theorem not_tt {b : Bool} (h : (!b) = true) : b = false := by
  cases b with
  | false => rfl
  | true => cases h
theorem ps_kind {X : Cx} {x : Stmt} {u : TS} (h : X.env.scope.kind = .function → PS X x u) : PS X x u := ⟨fun pins s σ H D I q => (h I.ok.kind).run pins s σ H D I q⟩
theorem asg_pl {g : Tg} {e : E} (he : Snd Γ cf P t k e) {X : Cx} {W : WX} {tg y : Expr} {pos : Pos} (G : GoodS Γ cf P t k X W) (hc : chk P X.N e X.env.scope y = true) (hsw : swapsWithSole [tg] y pos.line X.env = pure false) (hw : swappedStores [tg] y X.env = pure none) (hh : headOk tg = true)
    (hT : chkT X.N X.env.scope X.fn g tg = true) : PS X (.Assign [tg] y pos) (tS Γ cf (rz X t) W (.asg g e)) := by
  refine ps_imp (ps_asg (he X W y G.toGood hc).1 (pg_tg (t := t) G.calm G.nd g tg hT) hsw hw (as_one hh)) fun D σ H ⟨φ, env, st, r, E, o⟩ => ?_
  simp only [run] at o
  refine tI_s r E o fun v H1 φ1 st1 d r1 e1 E1 p1 o1 => ?_
  cases q : asgT st1 g d env with
  | none => rw [q] at o1; exact o1.elim
  | some env' =>
    rw [q] at o1
    exact ⟨φ1, env, st1, d, env', r1, E1, p1.1, q, fun σ' E' _ => o1 φ1 H1 σ' r1 .refl E'⟩
theorem tI_mut {a : E} (hf : a.fresh = true) {X : Cx} {W : WX} {σ : L2.St} {H : Hp} {Q : VK} (h : tI Γ cf (rz X t) W (.mut a) σ H Q) : tI Γ cf (rz X t) W a σ H Q := by
  obtain ⟨φ, env, st, r, E, o⟩ := h
  refine ⟨φ, env, st, r, E, ?_⟩
  simp only [ev] at o
  cases q : ev Γ cf a env st with
  | stk => rw [q] at o; exact o
  | ex c fs s => rw [q] at o; exact o
  | ok d st1 =>
    rw [q] at o
    intro φ1 H1 v r1 e1 p1
    cases d with
    | lst ds =>
      obtain ⟨p, Hb, ob, rfl, rfl, hb, h0, rb, vs, rfl, hz, hr⟩ := p1.2 hf rfl
      have hx : Ext φ1 Hb (φ1.push p) (upd Hb p (.lst vs)) := ext_push hb
      obtain ⟨rp, _⟩ := rel_push (m := .lst ds) rb hb ⟨vs, upd_same, hz, rb.reps hx hr⟩
      exact o (φ1.push p) _ (.ref p) rp (ext_join r e1 h0 rb hb) (.no ⟨p, push_at rb, rfl⟩ rfl)
    | dct ks ws =>
      obtain ⟨p, Hb, ob, rfl, rfl, hb, h0, rb, kvs, rfl, hz, hr⟩ := p1.2 hf rfl
      have hx : Ext φ1 Hb (φ1.push p) (upd Hb p (.dK kvs)) := ext_push hb
      obtain ⟨rp, _⟩ := rel_push (m := .dct false ks ws) rb hb ⟨kvs, by simp only [Bool.false_eq_true, if_false]; exact upd_same, hz, rb.reps hx hr⟩
      exact o (φ1.push p) _ (.ref p) rp (ext_join r e1 h0 rb hb) (.no ⟨p, push_at rb, rfl⟩ rfl)
    | _ => exact o.elim
theorem asg_lc {own : List Nat} {g : Tg} {ik : IK} {its : List E} {c e : E} {i : Nat} {X : Cx} {W : WX} {elt tgt iter : Expr} {ifs : List Expr} {scope : Scope} {p q pos : Pos} {n : Str} {e0 : E} (h0 : e0 = .lc own g ik its c e ∨ e0 = .mut (.lc own g ik its c e)) (G : GoodS Γ cf P t k X W)
    (h : chk P X.N e0 X.env.scope (.ListComp elt [⟨tgt, iter, ifs, 0⟩] scope p) = true) (hi : X.N[i]? = some n) (hs : swB X.env.scope scope n q p = true) :
    PS X (.Assign [.Name n q] (.ListComp elt [⟨tgt, iter, ifs, 0⟩] scope p) pos) (tS Γ cf (rz X t) W (.asg (.nm i) e0)) := by
  refine ps_kind fun hk => ?_
  unfold swB at hs
  rw [Bool.and_eq_true, Bool.and_eq_true] at hs
  obtain ⟨⟨h1, h2⟩, h3⟩ := hs
  have h1 : X.env.scope.names.lookup n = some .local := by simpa using h1
  have hsw := sw_true (elt := elt) (gs := [⟨tgt, iter, ifs, 0⟩]) (l := pos.line) hk h1 h2 (by simpa using h3)
  have hlc : chk P X.N (.lc own g ik its c e) X.env.scope (.ListComp elt [⟨tgt, iter, ifs, 0⟩] scope p) = true := by
    rcases h0 with h0 | h0
    · subst h0; exact h
    · subst h0
      simp only [chk] at h ⊢
      exact (Bool.and_eq_true_iff.mp h).1
  obtain ⟨te, _, hte, hps⟩ := lc_parts (snd_alls its).1 (snd_all c).2 (snd_all e).1 G.toGood hlc
  refine ps_imp (hps i n q pos hi h1 hsw) fun D σ H ⟨φ, env, st, r, E, o⟩ => hte _ _ _ ?_
  simp only [run] at o
  have key : tI Γ cf (rz X t) W e0 σ H fun x H1 => gName i x σ H1 D.nx := tI_s r E o fun v H1 φ1 st1 d r1 e1 E1 p1 o1 => o1 φ1 H1 _ r1 .refl (E1.set p1.1)
  rcases h0 with h0 | h0
  · subst h0; exact key
  · subst h0; exact tI_mut rfl key
theorem snd_asg {g : Tg} {e : E} : SndP Γ cf P t k (fun N sc fn x => kAsg N sc fn g e (chk P N e sc) x) (.asg g e) := by
  intro X W x G h
  have he := (snd_all (Γ := Γ) (cf := cf) (P := P) (t := t) (k := k) e).1
  simp only [kAsg] at h
  split at h
  · rename_i tg y pos
    rw [Bool.and_eq_true] at h
    obtain ⟨hc, h⟩ := h
    simp only [Bool.or_eq_true] at h
    rcases h with ((((h | h) | h) | h) | h) | h
    · unfold kPlain at h
      simp only [Bool.and_eq_true] at h
      obtain ⟨⟨⟨h1, h2⟩, h3⟩, h4⟩ := h
      exact asg_pl he G hc (sws_plain (by simpa using h1)) (sps_plain (not_tt h2)) h3 h4
    · unfold kLcSw at h
      split at h
      · rename_i n q elt tgt iter ifs s p i
        simp only [Bool.and_eq_true] at h
        obtain ⟨⟨h1, h2⟩, h3⟩ := h
        unfold E.lcB at h3
        split at h3
        · exact asg_lc (.inl rfl) G hc (of_decide_eq_true h2) h1
        · exact asg_lc (.inr rfl) G hc (of_decide_eq_true h2) h1
        · cases h3
      · cases h
    · unfold kLcPl at h
      split at h
      · rename_i n q elt gs s p
        rw [Bool.and_eq_true] at h
        exact ps_kind fun hk => asg_pl he G hc (sw_false (l := pos.line) hk (not_tt h.1)) rfl rfl h.2
      · exact asg_pl he G hc rfl rfl rfl h
      · cases h
    · unfold kTupPl at h
      split at h
      · rw [Bool.and_eq_true] at h
        exact asg_pl he G hc rfl (sps_none h.1) rfl h.2
      · cases h
    · unfold kPar2 at h
      split at h
      · rename_i i j x px z pz k1 p1 a b u v k2 p2
        simp only [Bool.and_eq_true] at h
        obtain ⟨⟨⟨⟨⟨⟨⟨⟨h1, h2⟩, h3⟩, h4⟩, h5⟩, h6⟩, h7⟩, h8⟩, h9⟩ := h
        simp only [chk, kTup] at hc
        obtain ⟨hp, hns⟩ := snd_args [a, b] (snd_alls [a, b]).1 X W [u, v] G.toGood hc
        have hu := Bool.and_eq_true_iff.mp (show (headOk u && noStars [v]) = true from hns)
        have hv : headOk v = true := (Bool.and_eq_true_iff.mp (show (headOk v && noStars []) = true from hu.2)).1
        refine ps_kind fun hk => ?_
        have hsp := sps_two (p := p1) (p2 := p2) (k := k1) (k2 := k2) hk (kindB_ok h4) (kindB_ok h5) h6 (by simpa using h7) hu.1 hv (not_tt h8) (not_tt h9)
        refine ps_imp (ps_par G.calm G.nd (of_decide_eq_true h1) (of_decide_eq_true h2) (by simpa using h3) (kindB_ok h4) (kindB_ok h5) hp hsp) fun D σ H ⟨φ, env, st, r, E, o⟩ => ?_
        simp only [run, ev] at o
        have o2 : OutS (rz X t) W φ H ((evs Γ cf [a, b] env st).s env fun ds st => match asgT st (.tup [.nm i, .nm j]) (.tup ds) env with
          | some env => .nx env st
          | none => .stk) D := by
          revert o
          cases evs Γ cf [a, b] env st with
          | stk => exact id
          | ex _ _ _ => exact id
          | ok ds st1 =>
            intro o
            simp only [R.bind, R.s] at o ⊢
            by_cases hz : ds.length ≤ sizeLine
            · rw [if_pos hz] at o; exact o
            · rw [if_neg hz] at o; exact o.elim
        refine ⟨φ, env, st, r, E, (OutS.s (rep := repS (rz X t)) r E o2).imp fun vs H1 ⟨φ1, st1, ds, r1, e1, p1, E1, o1⟩ => ?_⟩
        match ds, p1, o1 with
        | [d, d'], p1, o1 =>
          obtain ⟨w, w', rfl, hd, hd'⟩ := reps2 (T := rz X t) p1
          exact ⟨w, w', rfl, o1 φ1 H1 _ r1 .refl ((E1.set hd).set hd')⟩
        | [], _, o1 => exact o1.elim
        | [_], _, o1 => exact o1.elim
        | _ :: _ :: _ :: _, _, o1 => exact absurd o1 (by simp [asgT, OutS])
      · cases h
    · unfold kPar3 at h
      split at h
      · rename_i i j l x px z pz w pw k1 p1 a b c u v r k2 p2
        simp only [Bool.and_eq_true] at h
        obtain ⟨⟨⟨⟨⟨⟨⟨⟨⟨⟨⟨⟨⟨⟨⟨h1, h2⟩, h2'⟩, h3⟩, h3'⟩, h3''⟩, h4⟩, h5⟩, h5'⟩, h6⟩, h6'⟩, h7⟩, h7'⟩, h7''⟩, h8⟩, h9⟩ := h
        simp only [chk, kTup] at hc
        obtain ⟨hp, hns⟩ := snd_args [a, b, c] (snd_alls [a, b, c]).1 X W [u, v, r] G.toGood hc
        have hu := Bool.and_eq_true_iff.mp (show (headOk u && noStars [v, r]) = true from hns)
        have hv := Bool.and_eq_true_iff.mp (show (headOk v && noStars [r]) = true from hu.2)
        have hr : headOk r = true := (Bool.and_eq_true_iff.mp (show (headOk r && noStars []) = true from hv.2)).1
        refine ps_kind fun hk => ?_
        have hsp := sps_three (p := p1) (p2 := p2) (k := k1) (k2 := k2) hk (kindB_ok h4) (kindB_ok h5) (kindB_ok h5') h6 h6' (by simpa using h7) (by simpa using h7') (by simpa using h7'') hu.1 hv.1 hr (not_tt h8) (not_tt h9)
        refine ps_imp (ps_par3 G.calm G.nd (of_decide_eq_true h1) (of_decide_eq_true h2) (of_decide_eq_true h2') (by simpa using h3) (by simpa using h3') (by simpa using h3'') (kindB_ok h4) (kindB_ok h5) (kindB_ok h5') hp hsp) fun D σ H ⟨φ, env, st, r, E, o⟩ => ?_
        simp only [run, ev] at o
        have o2 : OutS (rz X t) W φ H ((evs Γ cf [a, b, c] env st).s env fun ds st => match asgT st (.tup [.nm i, .nm j, .nm l]) (.tup ds) env with
          | some env => .nx env st
          | none => .stk) D := by
          revert o
          cases evs Γ cf [a, b, c] env st with
          | stk => exact id
          | ex _ _ _ => exact id
          | ok ds st1 =>
            intro o
            simp only [R.bind, R.s] at o ⊢
            by_cases hz : ds.length ≤ sizeLine
            · rw [if_pos hz] at o; exact o
            · rw [if_neg hz] at o; exact o.elim
        refine ⟨φ, env, st, r, E, (OutS.s (rep := repS (rz X t)) r E o2).imp fun vs H1 ⟨φ1, st1, ds, r1, e1, p1, E1, o1⟩ => ?_⟩
        match ds, p1, o1 with
        | [d, d', d''], p1, o1 =>
          obtain ⟨w, ws, rfl, hd, p2⟩ := p1
          obtain ⟨w', w'', rfl, hd', hd''⟩ := reps2 (T := rz X t) p2
          exact ⟨w, w', w'', rfl, o1 φ1 H1 _ r1 .refl (((E1.set hd).set hd').set hd'')⟩
        | [], _, o1 => exact o1.elim
        | [_], _, o1 => exact o1.elim
        | [_, _], _, o1 => exact o1.elim
        | _ :: _ :: _ :: _ :: _, _, o1 => exact absurd o1 (by simp [asgT, OutS])
      · cases h
  · cases h
end
end Cip

set_option maxHeartbeats 4000000
/-! Cip22: places that are written, ways, loops; every statement. -/
namespace Cip
open PySem PySem.Spec PyProof.Rows L2

section
variable {Γ : Tx} {cf : CF} {P : Pn} {t : Nm} {k : Nat}
def SndPs (Γ : Tx) (cf : CF) (P : Pn) (t : Nm) (k : Nat) (ss : List S) : Prop := ∀ (X : Cx) (W : WX) (xs : List Stmt), GoodS Γ cf P t k X W → chkSs P X.N ss X.env.scope X.fn xs = true → PSs X xs (tSs Γ cf (rz X t) W ss)
theorem sub_form {o i : Expr} {pos : Pos} {env : PySem.Env} (h : headOk i = true) (v : Value) : assign (.Subscript o i pos) env v = (do
      let ov ← holding [v] (eval o env)
      let iv ← holding [v, ov] (eval i env)
      standAt pos
      holding [v, ov, iv] (setItem ov iv v)
      release [v, ov, iv] []) := by
  cases i <;> first | rfl | cases h
theorem snd_ssub {a i e : E} : SndP Γ cf P t k (fun N sc _ x => kSub (chk P N a sc) (chk P N i sc) (chk P N e sc) x) (.ssub a i e) := by
  intro X W x G h
  simp only [kSub] at h
  split at h
  · rename_i y j p z pos
    simp only [Bool.and_eq_true] at h
    obtain ⟨⟨⟨h1, h2⟩, h3⟩, h4⟩ := h
    have ha := ((snd_all (Γ := Γ) (cf := cf) (P := P) (t := t) (k := k) a).1 X W y G.toGood h2).1
    obtain ⟨hi, hi2⟩ := (snd_all (Γ := Γ) (cf := cf) (P := P) (t := t) (k := k) i).1 X W j G.toGood h3
    have he := ((snd_all (Γ := Γ) (cf := cf) (P := P) (t := t) (k := k) e).1 X W z G.toGood h4).1
    refine ps_imp (ps_asg he (pg_sub ha hi set_list (sub_form hi2)) (sws_plain (not_tt h1)) rfl rfl) fun D σ H ⟨φ, env, st, r, E, o⟩ => ?_
    simp only [run] at o
    refine tI_s r E o fun v H1 φ1 st1 d r1 e1 E1 p1 o1 => tI_s r1 E1 o1 fun w H2 φ2 st2 x r2 e2 E2 p2 o2 => tI_s r2 E2 o2 fun u H3 φ3 st3 y r3 e3 E3 p3 o3 => ?_
    split at o3
    · rename_i kk zz
      split at o3
      · rename_i xs hk
        split at o3
        · rename_i jj hj
          obtain ⟨l, h5, rfl⟩ := r2.rep e3 p2.1
          obtain rfl : u = .int zz := p3.1
          obtain ⟨b, h6, vs, h7, h8, h9⟩ := r3.at_ _ _ hk
          rw [h5] at h6; cases h6
          refine ⟨l, vs, zz, jj, rfl, rfl, h7, by rw [h9.length]; exact hj, ?_⟩
          have hm : l ∈ φ3.ref := List.mem_of_getElem? h5
          have ex : Ext φ3 H3 φ3 (upd H3 l (.lst (vs.set jj v))) := ext_set hm
          have hd := r1.rep e2 p1.1
          refine o3 φ3 _ σ (r3.put h5 ⟨_, upd_same, ?_, ?_⟩) ex (E3.ext r3 ex)
          · rw [List.length_set]; exact h8
          · exact (r3.reps ex h9).set jj (r3.rep ex (r2.rep e3 hd))
        · exact o3.elim
      · exact o3.elim
    · exact o3.elim
  · cases h
theorem snd_ret {e : E} : SndP Γ cf P t k (fun N sc _ x => kRet e.nonB (chk P N e sc) x) (.ret e) := by
  intro X W x G h
  simp only [kRet] at h
  split at h
  · rename_i y pos
    refine ps_imp (ps_ret ((snd_all (Γ := Γ) (cf := cf) (P := P) (t := t) (k := k) e).1 X W y G.toGood h).1) fun D σ H ⟨φ, env, st, r, E, o⟩ => ?_
    simp only [run] at o
    exact tI_s r E o fun v H1 φ1 st1 d r1 e1 E1 p1 o1 => o1 φ1 H1 v r1 .refl p1.1
  · refine ps_imp ps_retN fun D σ H ⟨φ, env, st, r, E, o⟩ => ?_
    unfold Cip.E.nonB at h
    split at h
    · simp only [run, ev, R.s] at o
      exact o φ H .non r .refl rfl
    · cases h
  · cases h
theorem snd_exp {e : E} : SndP Γ cf P t k (fun N sc _ x => kExp (chk P N e sc) x) (.exp e) := by
  intro X W x G h
  simp only [kExp] at h
  split at h
  · rename_i y pos
    rw [Bool.and_eq_true] at h
    refine ps_imp (ps_expr ((snd_all (Γ := Γ) (cf := cf) (P := P) (t := t) (k := k) e).1 X W y G.toGood h.2).1 (sw_plain (not_tt h.1))) fun D σ H ⟨φ, env, st, r, E, o⟩ => ?_
    simp only [run] at o
    exact tI_s r E o fun v H1 φ1 st1 d r1 e1 E1 p1 o1 => o1 φ1 H1 σ r1 .refl E1
  · cases h
theorem snd_pass : SndP Γ cf P t k (fun _ _ _ x => kPass x) .pass := by
  intro X W x G h
  simp only [kPass] at h
  split at h
  · refine ps_imp ps_pass fun D σ H ⟨φ, env, st, r, E, o⟩ => ?_
    simp only [run] at o
    exact o φ H σ r .refl E
  · cases h
theorem snd_ifS {c : E} {a b : List S} (ha : SndPs Γ cf P t k a) (hb : SndPs Γ cf P t k b) : SndP Γ cf P t k (fun N sc fn x => kIfS (chk P N c sc) (chkSs P N a sc fn) (chkSs P N b sc fn) x) (.ite c a b) := by
  intro X W x G h
  simp only [kIfS] at h
  split at h
  · rename_i y u v pos
    rw [Bool.and_eq_true, Bool.and_eq_true] at h
    refine ps_imp (ps_if ((snd_all (Γ := Γ) (cf := cf) (P := P) (t := t) (k := k) c).2 X W y G.toGood h.1.1) (ha X W u G h.1.2) (hb X W v G h.2)) fun D σ H ⟨φ, env, st, r, E, o⟩ => ?_
    simp only [run] at o
    refine tT_s r E o fun b H1 φ1 st1 r1 e1 E1 o1 => ?_
    cases b with
    | true =>
      rw [if_pos rfl] at o1 ⊢
      exact ⟨φ1, env, st1, r1, E1, o1⟩
    | false =>
      rw [if_neg (by simp)] at o1 ⊢
      exact ⟨φ1, env, st1, r1, E1, o1⟩
  · cases h
/-! ### loops -/
structure ForW (T : Rz) (W : WX) (φ1 : Fi) (H1 : Hp) (f : D → Env → Store → SR) (ok : Store → Bool) (xs : List D) (D0 : Ends) (i m : Nat) (σ : L2.St) (H : Hp) : Prop where
  ex : ∃ φ env st, Rel T φ H st ∧ Ext φ1 H1 φ H ∧ EnvR T φ H σ env ∧ OutS T W φ H (loopL f ok (xs.drop i) env st) D0
  le : i ≤ xs.length
  ms : m = xs.length - i
theorem snd_for {g : Tg} {ik : IK} {its : List E} {body : List S} (hb : SndPs Γ cf P t k body) : SndP Γ cf P t k (fun N sc fn x => kForS (chkT N sc fn g) (kIt sc ik g.isTup its.length (chks P N its sc)) (chkSs P N body sc fn) x) (.for g ik its body) := by
  intro X W x G h
  simp only [kForS] at h
  split at h
  · rename_i tg it u pos
    rw [Bool.and_eq_true, Bool.and_eq_true] at h
    obtain ⟨⟨h1, h2⟩, h3⟩ := h
    obtain ⟨hi, hi2⟩ := snd_it (snd_alls (Γ := Γ) (cf := cf) (P := P) (t := t) (k := k) its).1 G.toGood (fun z => chkT_tup h1 z) h2
    refine ps_imp (ps_for G.own G.calm hi (pg_tg (t := t) G.calm G.nd g tg h1) (hb X W u G h3) (fun x => head_set hi2 x)) fun D σ H ⟨φ, env, st, r, E, o⟩ => ?_
    simp only [run] at o
    have o2 : OutS (rz X t) W φ H ((wkR Γ cf ik its env st).s env fun p st => loopL (fun x env st => match asgT st g x env with
        | some env => runs Γ cf body env st
        | none => .stk) (fun st' => still (refsOf p.1) st st') p.2 env st) D := by
      revert o
      unfold wkR
      cases evs Γ cf its env st with
      | stk => exact id
      | ex _ _ _ => exact id
      | ok ds st1 =>
        intro o
        simp only [R.bind, R.s] at o ⊢
        cases q : walkD st1 ik ds with
        | none => rw [q] at o; exact o.elim
        | some xs => rw [q] at o; exact o
    refine ⟨φ, env, st, r, E, (OutS.s (rep := repJ (rz X t)) r E o2).imp fun J H1 ⟨φ1, st1, p, r1, e1, hJ, E1, o1⟩ => ?_⟩
    obtain ⟨ds, xs⟩ := p
    have hJ : WalkJ (rz X t) ds xs φ1 H1 st1 J := hJ
    refine ⟨ForW (rz X t) W φ1 H1 _ _ xs D, ⟨xs.length, ⟨⟨φ1, env, st1, r1, .refl, E1, by rw [List.drop_zero]; exact o1⟩, Nat.zero_le _, by simp⟩⟩, fun i m σ H w => ?_⟩
    obtain ⟨⟨φ2, env2, st2, r2, e2, E2, o3⟩, hle, hms⟩ := w
    have hhid : ∀ a ∈ φ2.hid, a ∈ φ1.hid ∨ H1 a = none := fun a ha => .inl (e2.hid ▸ ha)
    have ex' : Ext ⟨φ1.ref, φ2.hid⟩ H1 φ2 H := ⟨e2.more, rfl, e2.keep⟩
    by_cases hil : i = xs.length
    · subst hil
      rw [List.drop_length] at o3
      unfold loopL at o3
      split at o3
      · rename_i hs
        exact .inl ⟨(hJ φ2 H st2 r2 ex' hhid (still_ok.mp hs)).1, o3 φ2 H σ r2 .refl E2⟩
      · exact o3.elim
    · have hlt : i < xs.length := Nat.lt_of_le_of_ne hle hil
      rw [List.drop_eq_getElem_cons hlt] at o3
      unfold loopL at o3
      split at o3
      · rename_i hs
        obtain ⟨hgo, hy⟩ := (hJ φ2 H st2 r2 ex' hhid (still_ok.mp hs)).2 i xs[i] (List.getElem?_eq_getElem hlt)
        refine .inr ⟨hgo, ForW (rz X t) W φ1 H1 _ _ xs D (i + 1) (m - 1), fun σ' H' w => ⟨m - 1, by omega, w⟩, fun x H' hx => ?_⟩
        obtain ⟨r3, e3, p3⟩ := hy x H' hx
        cases q : asgT st2 g xs[i] env2 with
        | none => rw [q] at o3; exact o3.elim
        | some env3 =>
          rw [q] at o3
          refine ⟨φ2, env2, st2, xs[i], env3, r3, E2.ext r2 e3, p3, q, fun σ' E' _ => ⟨φ2, env3, st2, r3, E', ?_⟩⟩
          exact OutS.bind r3 (OutS.shift r2 e3 r3 o3) fun φ4 H4 σ4 env4 st4 r4 e4 E4 o4 => ⟨⟨φ4, env4, st4, r4, (e2.trans2 e3 r2).trans2 e4 r3, E4, o4⟩, hlt, by omega⟩
      · exact o3.elim
  · cases h
structure WhlW (T : Rz) (W : WX) (c : Env → Store → R Bool) (b : Env → Store → SR) (D0 : Ends) (n : Nat) (σ : L2.St) (H : Hp) : Prop where
  ex : ∃ φ env st, Rel T φ H st ∧ EnvR T φ H σ env ∧ OutS T W φ H (loopW c b n env st) D0
theorem snd_whl {c : E} {body : List S} (hb : SndPs Γ cf P t k body) : SndP Γ cf P t k (fun N sc fn x => kWhl (chk P N c sc) (chkSs P N body sc fn) x) (.whl c body) := by
  intro X W x G h
  simp only [kWhl] at h
  split at h
  · rename_i y u pos
    rw [Bool.and_eq_true] at h
    refine ps_imp (ps_while G.own ((snd_all (Γ := Γ) (cf := cf) (P := P) (t := t) (k := k) c).2 X W y G.toGood h.1) (hb X W u G h.2)) fun D σ H ⟨φ, env, st, r, E, o⟩ => ?_
    simp only [run] at o
    refine ⟨WhlW (rz X t) W (fun env st => testR (ev Γ cf c env st)) (fun env st => runs Γ cf body env st) D, ⟨_, ⟨φ, env, st, r, E, o⟩⟩, fun m σ H ⟨⟨φ1, env1, st1, r1, E1, o1⟩⟩ => ?_⟩
    cases m with
    | zero => exact o1.elim
    | succ n =>
      unfold loopW at o1
      refine tT_s r1 E1 o1 fun b H2 φ2 st2 r2 e2 E2 o2 => ?_
      cases b with
      | true =>
        rw [if_pos rfl] at o2 ⊢
        refine ⟨WhlW (rz X t) W (fun env st => testR (ev Γ cf c env st)) (fun env st => runs Γ cf body env st) D n, fun σ' H' w => ⟨n, Nat.lt_succ_self n, w⟩, φ2, env1, st2, r2, E2, ?_⟩
        exact OutS.bind r2 o2 fun φ4 H4 σ4 env4 st4 r4 e4 E4 o4 => ⟨φ4, env4, st4, r4, E4, o4⟩
      | false =>
        rw [if_neg (by simp)] at o2 ⊢
        exact o2 φ2 H2 σ r2 .refl E2
  · cases h
/-! ### all -/
mutual
theorem snd_stm : ∀ s : S, SndP Γ cf P t k (fun N sc fn x => chkS P N s sc fn x) s
  | .asg _ _ => snd_asg
  | .ssub _ _ _ => snd_ssub
  | .ite _ a b => snd_ifS (snd_stms a) (snd_stms b)
  | .for _ _ _ body => snd_for (snd_stms body)
  | .whl _ body => snd_whl (snd_stms body)
  | .ret _ => snd_ret
  | .exp _ => snd_exp
  | .pass => snd_pass
  | .sfld _ _ _ => fun _ _ _ _ h => Bool.noConfusion h
  | .aug _ _ _ => fun _ _ _ _ h => Bool.noConfusion h
  | .augf _ _ _ _ => fun _ _ _ _ h => Bool.noConfusion h
  | .raise _ _ => fun _ _ _ _ h => Bool.noConfusion h
  | .tri _ _ _ _ => fun _ _ _ _ h => Bool.noConfusion h
theorem snd_stms : ∀ ss : List S, SndPs Γ cf P t k ss
  | [] => fun X W xs G h => by
    have e : xs = [] := List.isEmpty_iff.mp h
    subst e
    refine pss_imp pss_nil fun D σ H ⟨φ, env, st, r, E, o⟩ => ?_
    simp only [runs] at o
    exact o φ H σ r .refl E
  | s :: ss => fun X W xs G h => by
    simp only [chkSs, kConsS] at h
    split at h
    · rename_i y ys
      rw [Bool.and_eq_true] at h
      refine pss_imp (pss_cons (snd_stm s X W y G h.1) (snd_stms ss X W ys G h.2)) fun D σ H ⟨φ, env, st, r, E, o⟩ => ?_
      simp only [runs] at o
      exact ⟨φ, env, st, r, E, OutS.bind r o fun φ1 H1 σ1 env1 st1 r1 e1 E1 o1 => ⟨φ1, env1, st1, r1, E1, o1⟩⟩
    · cases h
end
end
end Cip

set_option maxHeartbeats 4000000
/-! Cip23: what a call leaves behind; defs. -/
namespace Cip
open PySem PySem.Spec PyProof.Rows L2

/-! ### what a call has made may go -/
section
variable {K : PySem.W.Frag} {T : Rz} {φ φ' : Fi} {H H' : Hp} {st st0 : Store}
mutual
theorem Rep.mx : ∀ (d : D) (v : V), Rep K φ H d v → D.mx d ≤ φ.ref.length
  | .non, _, _ => Nat.zero_le _
  | .bl _, _, _ => Nat.zero_le _
  | .int _, _, _ => Nat.zero_le _
  | .str _, _, _ => Nat.zero_le _
  | .tup xs, _, ⟨a, vs, h1, h2, h3, h4⟩ => Reps.mx xs vs h4
  | .lst xs, _, ⟨a, vs, h1, h2, h3, h4, h5⟩ => Reps.mx xs vs h5
  | .scr xs, _, ⟨a, vs, h1, h2, h4, h5⟩ => Reps.mx xs vs h5
  | .dct ks ws, _, ⟨a, kvs, h1, h2, h3, h4, h5⟩ => Reps.mx ws _ h5
  | .ref k, _, ⟨a, h1, h2⟩ => (List.getElem?_eq_some_iff.mp h1).1
theorem Reps.mx : ∀ (ds : List D) (vs : List V), Reps K φ H ds vs → D.mxs ds ≤ φ.ref.length
  | [], _, _ => Nat.zero_le _
  | x :: xs, _, ⟨v, r, h1, h2, h3⟩ => Nat.max_le.mpr ⟨Rep.mx x v h2, Reps.mx xs r h3⟩
end
theorem ORel.mx {o : MO} {a : Addr} (h : ORel T φ H o a) : o.mx ≤ φ.ref.length := by
  cases o with
  | lst _ => obtain ⟨vs, h1, h2, h3⟩ := h; exact Reps.mx _ _ h3
  | dct lk _ _ => obtain ⟨kvs, h1, h2, h3⟩ := h; exact Reps.mx _ _ h3
  | ins _ _ => obtain ⟨dx, gs, h1, h2, h3⟩ := h; exact Reps.mx _ _ h3
  | exc _ fs =>
    obtain ⟨d, h1, h2⟩ := h
    cases fs with
    | nil => exact Nat.zero_le _
    | cons p fs =>
      obtain ⟨dd, gs, e1, e2, e3, e4, e5⟩ := h2 (by simp)
      exact Reps.mx _ _ e5
/-- the first objects alone -/
structure Cut (φ φ' : Fi) : Prop where
  ref : ∃ ψ, φ'.ref = φ.ref ++ ψ
  hid : φ'.hid = φ.hid
theorem Cut.no (c : Cut φ φ') {a : Addr} (h : φ'.no a) : φ.no a := by
  obtain ⟨ψ, e⟩ := c.ref
  exact ⟨fun m => h.1 (by rw [e]; exact List.mem_append_left _ m), by rw [← c.hid]; exact h.2⟩
mutual
theorem Rep.cut (c : Cut φ φ') : ∀ (d : D) (v : V), D.mx d ≤ φ.ref.length → Rep K φ' H d v → Rep K φ H d v
  | .non, _, _, h => h
  | .bl _, _, _, h => h
  | .int _, _, _, h => h
  | .str _, _, _, h => h
  | .tup xs, _, hm, ⟨a, vs, h1, h2, h3, h4⟩ => ⟨a, vs, h1, h2, h3, Reps.cut c xs vs hm h4⟩
  | .lst xs, _, hm, ⟨a, vs, h1, h2, h3, h4, h5⟩ => ⟨a, vs, h1, h2, c.no h3, h4, Reps.cut c xs vs hm h5⟩
  | .scr xs, _, hm, ⟨a, vs, h1, h2, h4, h5⟩ => ⟨a, vs, h1, h2.elim (fun h => .inl ⟨h.1, c.no h.2⟩) .inr, h4, Reps.cut c xs vs hm h5⟩
  | .dct ks ws, _, hm, ⟨a, kvs, h1, h2, h3, h4, h5⟩ => ⟨a, kvs, h1, h2, c.no h3, h4, Reps.cut c ws _ hm h5⟩
  | .ref k, _, hm, ⟨a, h1, h2⟩ => ⟨a, by
      obtain ⟨ψ, e⟩ := c.ref
      rw [e, List.getElem?_append_left (show k < φ.ref.length from hm)] at h1
      exact h1, h2⟩
theorem Reps.cut (c : Cut φ φ') : ∀ (ds : List D) (vs : List V), D.mxs ds ≤ φ.ref.length → Reps K φ' H ds vs → Reps K φ H ds vs
  | [], _, _, h => h
  | x :: xs, _, hm, ⟨v, r, h1, h2, h3⟩ => ⟨v, r, h1, Rep.cut c x v (Nat.le_trans (Nat.le_max_left _ _) hm) h2, Reps.cut c xs r (Nat.le_trans (Nat.le_max_right _ _) hm) h3⟩
end
theorem ORel.cut (c : Cut φ φ') {o : MO} {a : Addr} (hm : o.mx ≤ φ.ref.length) (h : ORel T φ' H o a) : ORel T φ H o a := by
  cases o with
  | lst _ => obtain ⟨vs, h1, h2, h3⟩ := h; exact ⟨vs, h1, h2, Reps.cut c _ _ hm h3⟩
  | dct lk _ _ => obtain ⟨kvs, h1, h2, h3⟩ := h; exact ⟨kvs, h1, h2, Reps.cut c _ _ hm h3⟩
  | ins _ _ => obtain ⟨dx, gs, h1, h2, h3⟩ := h; exact ⟨dx, gs, h1, h2, Reps.cut c _ _ hm h3⟩
  | exc _ _ =>
    obtain ⟨d, h1, h2⟩ := h
    refine ⟨d, h1, fun z => ?_⟩
    obtain ⟨dd, gs, e1, e2, e3, e4, e5⟩ := h2 z
    exact ⟨dd, gs, e1, e2, c.no e3, e4, Reps.cut c _ _ hm e5⟩
/-- what is left where the rest goes -/
theorem gc_ok {ds : List D} (r0 : Rel T φ H st0) (r : Rel T φ' H' st) (e : Ext φ H φ' H') : ∃ φ2, Rel T φ2 H' (gc st0 ds st) ∧ Ext φ H φ2 H' ∧ (∀ vs, Reps T.K φ' H' ds vs → Reps T.K φ2 H' ds vs) ∧ ∀ a, φ'.no a → φ2.no a := by
  unfold gc
  split
  · rename_i hl
    obtain ⟨ψ, eψ, _⟩ := e.more
    have c : Cut φ φ' := ⟨⟨ψ, eψ⟩, e.hid⟩
    have hn : st0.length = φ.ref.length := r0.len.symm
    have hle : st0.length ≤ st.length := by rw [← r.len, eψ, List.length_append, hn]; exact Nat.le_add_right _ _
    refine ⟨φ, ⟨?_, r0.nd, fun k o hk => ?_, fun a ha => ?_⟩, ⟨⟨[], by simp, by simp⟩, rfl, fun a o h n => e.keep a o h n⟩, fun vs hv => Reps.cut c _ _ (by rw [← hn]; exact hl.1) hv, fun a h => c.no h⟩
    · rw [List.length_take, Nat.min_eq_left hle]; exact r0.len
    · have hk1 : k < st0.length := by
        have := (List.getElem?_eq_some_iff.mp hk).1
        rw [List.length_take] at this
        omega
      rw [List.getElem?_take_of_lt hk1] at hk
      obtain ⟨a, h1, h2⟩ := r.at_ k o hk
      rw [eψ, List.getElem?_append_left (by rw [← hn]; exact hk1)] at h1
      refine ⟨a, h1, h2.cut c ?_⟩
      rcases hl.2 k hk1 with q | ⟨o', q1, q2⟩
      · rw [hk] at q
        obtain ⟨a', _, h4⟩ := r0.at_ k o q.symm
        exact h4.mx
      · rw [hk] at q1
        cases q1
        rw [← hn]
        exact q2
    · obtain ⟨h1, h2⟩ := r.hid a (by rw [e.hid]; exact ha)
      exact ⟨fun m => h1 (by rw [eψ]; exact List.mem_append_left _ m), h2⟩
  · exact ⟨φ', r, e, fun _ h => h, fun _ h => h⟩
end

/-! ### a def -/
section
variable {Γ : Tx} {P : Pn} {t : Nm} {k : Nat}
theorem startE_ok {T : Rz} {φ : Fi} {H : Hp} {N : List Str} {ds : List D} {vs : List V} (hr : Reps T.K φ H ds vs) (hl : ds.length ≤ N.length) : EnvR T φ H (start N vs) (startE N.length ds) := by
  have e : start N vs = vs.map some ++ List.replicate (N.length - vs.length) none := by
    rfl
  refine ⟨?_, fun i d hd => ?_⟩
  · rw [e]
    unfold startE
    simp only [List.length_append, List.length_map, List.length_replicate]
    rw [hr.length]
  · unfold startE at hd
    by_cases hi : i < ds.length
    · rw [List.getElem?_append_left (by rw [List.length_map]; exact hi), List.getElem?_map] at hd
      cases q : ds[i]? with
      | none => rw [q] at hd; cases hd
      | some d' =>
        rw [q] at hd
        cases hd
        obtain ⟨v, h1, h2⟩ := hr.get q
        refine ⟨v, ?_, h2⟩
        rw [e, List.getElem?_append_left (by rw [List.length_map, hr.length]; exact hi), List.getElem?_map, h1]
        rfl
    · rw [List.getElem?_append_right (by rw [List.length_map]; omega)] at hd
      rw [List.getElem?_replicate] at hd
      split at hd <;> cases hd
/-- a def keeps its promise -/
theorem fng_def {cf : CF} {W0 : World} {K : PySem.W.Frag} {mg : Str → Option Value} {base : Heap} {Pr : Program} {f : Nat} {a : Addr} {x qual : Str} {params : Arguments} {body : List Stmt} {scope : Scope} {fd : FuncData} {N ps : List Str} {bd : List S}
    (F : FunD K x qual params body scope [] [] a fd) (S : FnScope N ps scope) (hN : ps.length ≤ N.length) (hc : chkSs P N bd scope (fun _ => true) body = true)
    (top : TopOk Γ P t K mg) (fns : ∀ f, P.has f = true → ∃ a fd ps, mg (P.fn f) = some (.ref a) ∧ PySem.W.keepIn K (.ref a) = true ∧ Binds K fd ps [] ∧ (∀ ds st, ds.length ≠ ps.length → cf f ds st = .stk) ∧ FnG Pr W0 K mg base k a fd ps (spOf K t cf f ps.length))
    {cf' : CF} (hcf : ∀ ds st, ds.length = ps.length → cf' f ds st = retOf st (runs Γ cf bd (startE N.length ds) st)) :
    FnG Pr W0 K mg base (k + 1) a fd ps (spOf K t cf' f ps.length) := by
  obtain ⟨oc, od, dV, kV, doc, pm, an, cdv, ct, osl, rfl, lk, hcd, _, _⟩ := F.ex
  refine fng_of lk hcd S (fun vs H Q E h => sp_len h) fun A outer s H vs Q E hg hr hsp => ?_
  let X := cxOf (L2.CX Pr W0) Pr W0 K mg base N qual scope a cdv A outer s H E
  have tk : Takes X (fun cls d _ H' => E cls d H') := takes_of rfl rfl rfl rfl
  have own : PassesOwn (model X.prog X.w) X.A X.env X.xe := passes_of (X := X) (K := fun e s'' => L2.CX Pr W0 outer H s E e s'') (E₁ := fun e' s'' => L2.CX Pr W0 outer H s E e' s'') rfl
  have G : GoodS Γ cf P t k X (fun cls d _ H' => E cls d H') := ⟨⟨rfl, S.nd, hg, hr, tk, top, fns⟩, own, rfl, rfl⟩
  refine ⟨_, snd_stms bd X _ body G hc, ?_⟩
  obtain ⟨φ, ds, st, r, hrs, hl, o⟩ := hsp
  refine ⟨φ, startE N.length ds, st, r, startE_ok (T := rz X t) hrs (by rw [hl]; exact hN), ?_⟩
  rw [hcf ds st hl] at o
  cases q : runs Γ cf bd (startE N.length ds) st with
  | stk => rw [q] at o; exact o.elim
  | nx env st1 =>
    rw [q] at o
    intro φ1 H1 σ1 r1 e1 E1
    obtain ⟨φ2, r2, e2, h2, h2n⟩ := gc_ok (ds := [.non]) r r1 e1
    exact o φ2 H1 .non r2 e2 rfl
  | rt d st1 =>
    rw [q] at o
    intro φ1 H1 v r1 e1 p1
    obtain ⟨φ2, r2, e2, h2, h2n⟩ := gc_ok (ds := [d]) r r1 e1
    obtain ⟨v', ws, e3, h3, _⟩ := h2 [v] ⟨v, [], rfl, p1, rfl⟩
    cases e3
    exact o φ2 H1 v r2 e2 h3
  | ex c fs env st1 =>
    rw [q] at o
    intro φ1 H1 σ1 cls dd r1 e1 E1 x1
    obtain ⟨φ2, r2, e2, h2, h2n⟩ := gc_ok (ds := fs.map (·.2)) r r1 e1
    refine o φ2 H1 cls dd r2 e2 ⟨x1.1, fun z => ?_⟩
    obtain ⟨d1, gs, q1, q2, q3, q4, q5⟩ := x1.2 z
    exact ⟨d1, gs, q1, q2, h2n _ q3, q4, h2 _ q5⟩
end
end Cip

set_option maxHeartbeats 4000000
/-! Cip24: constants, tables of defs, the law's end. -/
namespace Cip
open PySem PySem.Spec PyProof.Rows L2

/-! ### constants -/
mutual
/-- the object u of the written part is the value d -/
def conB (K : PySem.W.Frag) : D → Value → Bool
  | .non, u => match u with | .none => true | _ => false
  | .bl b, u => match u with | .bool c => b == c | _ => false
  | .int i, u => match u with | .int j _ => decide (i = j) | _ => false
  | .str x, u => match u with | .str y _ => decide (x = y) && decide (x.length ≤ sizeLine) | _ => false
  | .tup ds, u => match u with
    | .ref a => match K.lookup a with
      | some ⟨.type c, none, .seq its _, _⟩ => decide (c = "tuple") && decide (its.size ≤ sizeLine) && conBs K ds its.toList
      | _ => false
    | _ => false
  | .lst _, _ => false
  | .dct _ _, _ => false
  | .scr _, _ => false
  | .ref _, _ => false
def conBs (K : PySem.W.Frag) : List D → List Value → Bool
  | [], us => us.isEmpty
  | d :: ds, us => match us with
    | u :: us => conB K d u && conBs K ds us
    | [] => false
end
section
variable {K : PySem.W.Frag}
mutual
theorem conB_ok : ∀ (d : D) (u : Value), conB K d u = true → ∃ v, RelV v u ∧ d.isL = false ∧ (∀ φ H, Rep K φ H d v) ∧ ∀ ds, d = .tup ds → ∃ a o, v = .ref a ∧ K.lookup a = some o ∧ o.cls = .type "tuple" ∧ o.dict = none
  | .non, u, h => by
    unfold conB at h
    split at h
    · exact ⟨.non, rfl, rfl, fun _ _ => rfl, fun _ e => nomatch e⟩
    · cases h
  | .bl b, u, h => by
    unfold conB at h
    split at h
    · obtain rfl := beq_iff_eq.mp h
      exact ⟨.bl b, rfl, rfl, fun _ _ => rfl, fun _ e => nomatch e⟩
    · cases h
  | .int i, u, h => by
    unfold conB at h
    split at h
    · obtain rfl := of_decide_eq_true h
      exact ⟨.int i, ⟨_, rfl⟩, rfl, fun _ _ => rfl, fun _ e => nomatch e⟩
    · cases h
  | .str x, u, h => by
    unfold conB at h
    split at h
    · rw [Bool.and_eq_true] at h
      obtain rfl := of_decide_eq_true h.1
      exact ⟨.str x, ⟨_, rfl⟩, rfl, fun _ _ => ⟨rfl, of_decide_eq_true h.2⟩, fun _ e => nomatch e⟩
    · cases h
  | .tup ds, u, h => by
    unfold conB at h
    split at h
    · rename_i a
      split at h
      · rename_i c its n sl hk
        rw [Bool.and_eq_true, Bool.and_eq_true] at h
        obtain ⟨⟨h1, h2⟩, h3⟩ := h
        obtain rfl := of_decide_eq_true h1
        obtain ⟨vs, q1, q2, q3⟩ := conBs_ok ds its.toList h3
        refine ⟨.ref a, rfl, rfl, fun φ H => ⟨a, vs, rfl, .inr ⟨_, its, n, hk, rfl, rfl, of_decide_eq_true h2, q1⟩, ?_, q3 φ H⟩, fun _ _ => ⟨a, _, rfl, hk, rfl, rfl⟩⟩
        rw [q2, Array.length_toList]
        exact of_decide_eq_true h2
      · cases h
    · cases h
  | .lst _, _, h => by cases h
  | .dct _ _, _, h => by cases h
  | .scr _, _, h => by cases h
  | .ref _, _, h => by cases h
theorem conBs_ok : ∀ (ds : List D) (us : List Value), conBs K ds us = true → ∃ vs, Vals vs us ∧ ds.length = us.length ∧ ∀ φ H, Reps K φ H ds vs
  | [], us, h => by
    obtain rfl : us = [] := List.isEmpty_iff.mp h
    exact ⟨[], .nil, rfl, fun _ _ => rfl⟩
  | d :: ds, us, h => by
    unfold conBs at h
    split at h
    · rename_i u us
      rw [Bool.and_eq_true] at h
      obtain ⟨v, q1, _, q2, _⟩ := conB_ok d u h.1
      obtain ⟨vs, q3, q4, q5⟩ := conBs_ok ds us h.2
      exact ⟨v :: vs, .cons q1 q3, by simp [q4], fun φ H => ⟨v, vs, rfl, q2 φ H, q5 φ H⟩⟩
    · cases h
end
end
/-- the module's names that stand for values -/
def consB (K : PySem.W.Frag) (cons : List (Str × D)) : Bool := cons.all fun p => match PySem.W.nsIn K mainGlobals p.1 with
  | some (some u) => conB K p.2 u
  | _ => false

/-! ### the Hook -/
abbrev AlC : Type := Bool × He.AlD
def obsC (cons : List (Str × D)) (fa : List He.Fa) (fn : List He.DefD) (K : PySem.W.Frag) : AlC := (consB K cons, He.obsD fa fn K)
def obsCG (n : Nat) (cons : List (Str × D)) (fa : List He.Fa) (fn : List He.DefD) (g : Addr → Option Obj) : AlC := obsC cons fa fn (He.frG g (He.asD g n))
def hookC (n : Nat) (cons : List (Str × D)) (fa : List He.Fa) (fn : List He.DefD) : PySem.W.Hook where
  α := AlC
  obs := fun s => obsCG n cons fa fn s.heap.get?
  val := fun _ => (true, He.valD fn)
  says := fun _ h => ∃ K : PySem.W.Frag, K.In h ∧ consB K cons = true ∧ He.SaysD fa fn K
  of := fun _ _ e => ⟨_, He.frG_in, congrArg (fun z : AlC => z.1) e, congrArg (fun z : AlC => z.2) e⟩
  keeps := fun _ _ _ ⟨K, hK, c⟩ k => ⟨K, PySem.W.Frag.In.keeps hK k, c⟩
theorem obsCG_eq {n : Nat} {cons : List (Str × D)} {fa : List He.Fa} {fn : List He.DefD} {g : Addr → Option Obj} {s : Shared} (h : ∀ a, g a = s.heap.get? a) : obsCG n cons fa fn g = (hookC n cons fa fn).obs s := by
  have e : g = s.heap.get? := funext h
  rw [e] <;> rfl

/-! ### tables -/
/-- a def of the text: its name, its slots' names, its parameters, what it does -/
structure FT where
  name : Str
  N : List Str
  np : Nat
  body : List S
def FT.ps (t : FT) : List Str := t.N.take t.np
def FT.fd (t : FT) : FnDef := ⟨t.np, t.N.length, t.body⟩
def fnOfTab (tab : List FT) : Nat → Option FnDef := fun i => tab[i]?.map FT.fd
def dsC (st : Stmt) : Str × Arguments × List Stmt × Scope := match st with
  | .FunctionDef n a b _ _ _ sc _ _ _ => (n, a, b, sc)
  | _ => (Str.empty, ⟨[], [], none, [], [], none, []⟩, [], ⟨.function, [], false, false, []⟩)
def defOfS (st : Stmt) : He.DefD := ⟨((dsC st).1, none), (dsC st).1, (dsC st).1, (dsC st).2.1, (dsC st).2.2.1, (dsC st).2.2.2, [], []⟩
def plainA (a : Arguments) (ps : List Str) : Bool := a.posonlyargs.isEmpty && a.kwonlyargs.isEmpty && a.vararg.isNone && a.kwarg.isNone && decide (a.args.map (·.arg) = ps)
/-- a def's text against its row -/
def FT.ok (P : Pn) (t : FT) (st : Stmt) : Bool := decide (t.name = (dsC st).1) && plainA (dsC st).2.1 t.ps && C8.scC t.N t.ps (dsC st).2.2.2 && decide (t.np ≤ t.N.length) && chkSs P t.N t.body (dsC st).2.2.2 (fun _ => true) (dsC st).2.2.1
def tabOk (P : Pn) : List FT → List Stmt → Bool
  | [], [] => true
  | t :: ts, s :: ss => t.ok P s && tabOk P ts ss
  | _, _ => false
theorem tabOk_get {P : Pn} : ∀ {tab : List FT} {sts : List Stmt}, tabOk P tab sts = true → ∀ (i : Nat) (t : FT), tab[i]? = some t → ∃ s, sts[i]? = some s ∧ t.ok P s = true
  | [], [], _, i, t, h => by simp at h
  | [], _ :: _, hh, _, _, _ => by cases hh
  | _ :: _, [], hh, _, _, _ => by cases hh
  | t0 :: ts, s0 :: ss, hh, i, t, h => by
    unfold tabOk at hh
    rw [Bool.and_eq_true] at hh
    cases i with
    | zero => simp at h; subst h; exact ⟨s0, rfl, hh.1⟩
    | succ i => simpa using tabOk_get hh.2 i t (by simpa using h)
/-- every parameter is given -/
theorem zip_lookup : ∀ {ps : List Str} {us : List Value}, ps.Nodup → ps.length = us.length → ∀ n ∈ ps, ((ps.zip us).lookup n).isSome = true
  | [], _, _, _, _, h => (List.not_mem_nil h).elim
  | p :: ps, [], _, h, _, _ => by cases h
  | p :: ps, u :: us, hn, hl, n, hm => by
    rw [List.zip_cons_cons, List.lookup_cons]
    by_cases e : (n == p) = true
    · rw [e] <;> rfl
    · rw [Bool.not_eq_true] at e
      rw [e]
      rcases List.mem_cons.mp hm with q | q
      · subst q; simp at e
      · exact zip_lookup (List.nodup_cons.mp hn).2 (by simpa using hl) n q
theorem filterMap_same {α β : Type} {f g : α → Option β} : ∀ {l : List α}, (∀ x ∈ l, f x = g x) → l.filterMap f = l.filterMap g
  | [], _ => rfl
  | a :: l, h => by
    rw [List.filterMap_cons, List.filterMap_cons, h a (by simp), filterMap_same fun x hx => h x (List.mem_cons_of_mem _ hx)]
theorem zip_filter : ∀ {ps : List Str} {us : List Value}, ps.Nodup → ps.length = us.length → ps.filterMap (fun n => ((ps.zip us).lookup n).map (n, ·)) = ps.zip us
  | [], _, _, _ => by simp
  | p :: ps, [], _, h => by cases h
  | p :: ps, u :: us, hn, hl => by
    have hn' := List.nodup_cons.mp hn
    rw [List.zip_cons_cons, List.filterMap_cons]
    simp only [List.lookup_cons, beq_self_eq_true, Option.map_some]
    congr 1
    have ih := zip_filter hn'.2 (show ps.length = us.length by simpa using hl)
    refine Eq.trans (filterMap_same fun n hm => ?_) ih
    have e : (n == p) = false := beq_eq_false_iff_ne.mpr fun e => hn'.1 (e ▸ hm)
    rw [e]
theorem bind_plain {x qual : Str} {params : Arguments} {body : List Stmt} {scope : Scope} {ps : List Str} {kV doc pm cdv ct : Value} {an : Option Addr} {us : List Value} (hp : plainA params ps = true) (hn : ps.Nodup) (hl : us.length = ps.length) :
    bindArgs (PySem.W.fnOf x qual params body scope .none kV doc pm an cdv ct) ⟨us, []⟩ = pure (ps.zip us) := by
  obtain ⟨po, ar, va, ko, kd, kw, de⟩ := params
  unfold plainA at hp
  simp only [Bool.and_eq_true] at hp
  obtain ⟨⟨⟨⟨h1, h2⟩, h3⟩, h4⟩, h5⟩ := hp
  obtain rfl : po = [] := List.isEmpty_iff.mp h1
  obtain rfl : ko = [] := List.isEmpty_iff.mp h2
  obtain rfl : va = none := by simpa using h3
  obtain rfl : kw = none := by simpa using h4
  obtain rfl := of_decide_eq_true h5
  have hf := zip_filter hn hl.symm
  have hsome := zip_lookup hn hl.symm
  have hmiss : ((ar.map (·.arg)).filter fun n => (((ar.map (·.arg)).zip us).lookup n).isNone) = [] := by
    rw [List.filter_eq_nil_iff]
    intro n hm
    have := hsome n hm
    cases q : ((ar.map (·.arg)).zip us).lookup n <;> simp_all
  have e0 : seqItems? .none = (pure none : Sem (Option (Array Value))) := rfl
  unfold bindArgs PySem.W.fnOf
  simp only [e0]
  have pb : ∀ {α β : Type} (a : α) (f : α → Sem β), (pure a >>= f) = f a := fun a f => rfl
  simp [pb, hl, hmiss, hf]
  rw [if_neg]
  · rw [← List.filterMap_map, hf]
  · have ht : ∀ (l : List Value), List.take ((List.map (fun x : Arg => x.arg) [] ++ List.map (fun x => x.arg) ar).length - (List.drop ((#[] : Array Value).size - (List.map (fun x : Arg => x.arg) [] ++ List.map (fun x => x.arg) ar).length) ([] : List Value)).length) (List.map (fun x : Arg => x.arg) [] ++ List.map (fun x => x.arg) ar) = List.map (fun x => x.arg) ar := by
      intro l
      simp
      rw [List.take_of_length_le]
      simp
    rw [ht [], hmiss]
    simp
end Cip

set_option maxHeartbeats 4000000
/-! Cip25: all defs of a table; the law's end. -/
namespace Cip
open PySem PySem.Spec PyProof.Rows L2

def pnOf (tab : List FT) (cons : List (Str × D)) : Pn where
  con := fun i => (cons.getD i (Str.empty, .non)).1
  has := fun i => decide (i < tab.length)
  fn := fun i => (tab.getD i ⟨Str.empty, [], 0, []⟩).name
  fld := fun _ => Str.empty
  cls := fun _ => Str.empty
  mth := fun _ => Str.empty
def txOf (cons : List (Str × D)) : Tx where
  con := fun i => cons[i]?.map (·.2)
  sub := fun _ _ => none
  ve := fun _ => none
  exf := fun _ _ => none
  ini := fun _ => none
def faOf (tab : List FT) : List He.Fa := tab.map (fun t => .glo t.name) ++ bltNames.map .free
def fnOf (sts : List Stmt) : List He.DefD := sts.map defOfS
section
variable {tab : List FT} {cons : List (Str × D)} {sts : List Stmt} {K : PySem.W.Frag} {h : Heap} {mg : Str → Option Value} {t : Nm}
theorem top_ok {P : Pn} (KX : K.In h) (G : h.Ns mainGlobals mg) (cc : consB K cons = true) (c : He.SaysD (faOf tab) (fnOf sts) K) (hP : P.con = (pnOf tab cons).con) : TopOk (txOf cons) P t K mg := by
  refine ⟨fun i d hi => ?_, fun x hx => ?_⟩
  · have hi : cons[i]?.map (·.2) = some d := hi
    cases q : cons[i]? with
    | none => rw [q] at hi; cases hi
    | some p =>
      rw [q] at hi
      cases hi
      have hm := List.all_eq_true.mp cc p (List.mem_of_getElem? q)
      split at hm
      · rename_i u hu
        obtain ⟨v, h1, h2, h3, h4⟩ := conB_ok p.2 u hm
        refine ⟨v, u, ?_, h1, h2, h3, h4⟩
        have e : P.con i = p.1 := by
          rw [hP]
          show (cons.getD i (Str.empty, .non)).1 = p.1
          rw [List.getD_eq_getElem?_getD, q] <;> rfl
        rw [e]
        exact PySem.W.mg_of KX G hu
      · cases hm
  · obtain ⟨j, hj⟩ := List.getElem?_of_mem hx
    have hq : (faOf tab)[tab.length + j]? = some (.free x) := by
      unfold faOf
      rw [List.getElem?_append_right (by rw [List.length_map]; omega), List.length_map, Nat.add_sub_cancel_left, List.getElem?_map, hj]
      rfl
    exact He.free_ok KX G (c.fact _ hq)
theorem all_fng {Pr : Program} {W0 : World} {P : Pn} (KX : K.In h) (G : h.Ns mainGlobals mg) (cc : consB K cons = true) (c : He.SaysD (faOf tab) (fnOf sts) K) (hP : P = pnOf tab cons) (hT : tabOk P tab sts = true) :
    ∀ (n : Nat) (f : Nat), P.has f = true → ∃ ft a fd, tab[f]? = some ft ∧ mg (P.fn f) = some (.ref a) ∧ PySem.W.keepIn K (.ref a) = true ∧ Binds K fd ft.ps [] ∧ (∀ ds st, ds.length ≠ ft.ps.length → callN (txOf cons) (fnOfTab tab) n f ds st = .stk) ∧
      (∀ (s : Shared) (us : List Value), us.length = ft.ps.length → BindsTo s fd ⟨us, []⟩ (ft.ps.zip us)) ∧ ∀ base : Heap, FnG Pr W0 K mg base n a fd ft.ps (spOf K t (callN (txOf cons) (fnOfTab tab) n) f ft.ps.length) := by
  have one : ∀ (f : Nat), P.has f = true → ∃ ft a fd, tab[f]? = some ft ∧ mg (P.fn f) = some (.ref a) ∧ (∃ st, ft.ok P st = true ∧ FunD K (dsC st).1 (dsC st).1 (dsC st).2.1 (dsC st).2.2.1 (dsC st).2.2.2 [] [] a fd) := by
    intro f hf
    subst hP
    have hl : f < tab.length := of_decide_eq_true hf
    have hft : tab[f]? = some tab[f] := List.getElem?_eq_getElem hl
    obtain ⟨st, hst, hok⟩ := tabOk_get hT f tab[f] hft
    have hdd : (fnOf sts)[f]? = some (defOfS st) := by
      unfold fnOf
      rw [List.getElem?_map, hst] <;> rfl
    obtain ⟨fd, F⟩ := c.def_ f hdd
    have hfa : (faOf tab)[f]? = some (.glo tab[f].name) := by
      unfold faOf
      rw [List.getElem?_append_left (by rw [List.length_map]; exact hl), List.getElem?_map, hft] <;> rfl
    have hg := He.glo_ok KX G (c.fact f hfa)
    have hnm : tab[f].name = (dsC st).1 := by
      have hok' := hok
      unfold FT.ok at hok'
      simp only [Bool.and_eq_true] at hok'
      exact of_decide_eq_true hok'.1.1.1.1
    refine ⟨tab[f], He.ga K tab[f].name, fd, hft, ?_, st, hok, ?_⟩
    · have e : (pnOf tab cons).fn f = tab[f].name := by
        show (tab.getD f ⟨Str.empty, [], 0, []⟩).name = _
        rw [List.getD_eq_getElem?_getD, hft] <;> rfl
      rw [e]
      exact hg
    · rw [hnm]
      exact F
  have top : TopOk (txOf cons) P t K mg := top_ok KX G cc c (by rw [hP])
  intro n
  induction n with
  | zero =>
    intro f hf
    obtain ⟨ft, a, fd, h1, h2, st, h3, F⟩ := one f hf
    have h3' := h3
    unfold FT.ok at h3'
    simp only [Bool.and_eq_true] at h3'
    obtain ⟨⟨⟨⟨k1, k2⟩, k3⟩, k4⟩, k5⟩ := h3'
    have S := C8.fnScope_by k3
    have nd : ft.ps.Nodup := by
      have := S.nd
      unfold FT.ps
      exact List.Nodup.sublist (List.take_sublist _ _) this
    refine ⟨ft, a, fd, h1, h2, F.kp, F.bindsN fun _ _ _ _ _ _ us hl => bind_plain k2 nd hl, fun _ _ _ => rfl, fun s us hl => FunD.bindsA F (fun _ _ _ _ _ _ us hl => bind_plain k2 nd hl) s us hl, fun base => ⟨fun vs H Q E h => sp_len h, fun A outer s H args us vs Q E hg hr e0 hb r hsp => ?_⟩⟩
    obtain ⟨_, _, _, _, _, _, o⟩ := hsp
    exact o.elim
  | succ n ih =>
    intro f hf
    obtain ⟨ft, a, fd, h1, h2, st, h3, F⟩ := one f hf
    have h3' := h3
    unfold FT.ok at h3'
    simp only [Bool.and_eq_true] at h3'
    obtain ⟨⟨⟨⟨k1, k2⟩, k3⟩, k4⟩, k5⟩ := h3'
    have S := C8.fnScope_by k3
    have hnp : ft.np ≤ ft.N.length := of_decide_eq_true k4
    have hps : ft.ps.length = ft.np := by
      unfold FT.ps
      rw [List.length_take, Nat.min_eq_left hnp]
    have nd : ft.ps.Nodup := by
      have := S.nd
      unfold FT.ps
      exact List.Nodup.sublist (List.take_sublist _ _) this
    have hfn : fnOfTab tab f = some ft.fd := by
      unfold fnOfTab
      rw [h1] <;> rfl
    refine ⟨ft, a, fd, h1, h2, F.kp, F.bindsN fun _ _ _ _ _ _ us hl => bind_plain k2 nd hl, fun ds st hne => ?_, fun s us hl => FunD.bindsA F (fun _ _ _ _ _ _ us hl => bind_plain k2 nd hl) s us hl, fun base => fng_def (cf := callN (txOf cons) (fnOfTab tab) n) F S (by rw [hps]; exact hnp) k5 top (fun g hg => ?_) fun ds st he => ?_⟩
    · show (match fnOfTab tab f with
        | some fd => if ds.length = fd.np then retOf st (runs (txOf cons) (callN (txOf cons) (fnOfTab tab) n) fd.body (startE fd.ns ds) st) else .stk
        | none => .stk) = .stk
      rw [hfn]
      exact if_neg (by rw [hps] at hne; exact hne)
    · obtain ⟨ft', a', fd', _, q2, q3, q4, q5, _, q7⟩ := ih g hg
      exact ⟨a', fd', ft'.ps, q2, q3, q4, q5, q7 base⟩
    · show (match fnOfTab tab f with
        | some fd => if ds.length = fd.np then retOf st (runs (txOf cons) (callN (txOf cons) (fnOfTab tab) n) fd.body (startE fd.ns ds) st) else .stk
        | none => .stk) = _
      rw [hfn]
      exact if_pos (by rw [hps] at he; exact he)
end

/-! ### the law's end -/
section
variable {P : Program} {w : World} {K : PySem.W.Frag} {mg mb : Str → Option Value} {k : Nat} {fa a : Addr} {fd : FuncData} {x : Str} {sp : Sp} {s₁ : Shared} {vs : List Value} {ns : List Int}
/-- behind the call: the answer is True, the old objects stand -/
def Won (s₁ : Shared) (r : Result) (s' : Shared) : Prop := r = .ok (.ret (.bool true)) ∧ OldK s₁.heap s'.heap ∧ s'.os = s₁.os ∧ AllBare s'.gens
theorem won_at {H : Hp} {base : Heap} (hr : Room k callerA) (F : FnG P w K mg base k fa fd [x] sp) (hbind : ∀ (s : Shared) (u : Value), BindsTo s fd ⟨[u], []⟩ [(x, u)]) (e0 : Env0 P w K mg base callerA [] s₁ H) (hO : Only H)
    (hsp : sp [.ref a] H (fun v _ => v = .bl true) fun _ _ _ => False) : codeAny (model P w) callerA (.call (.ref fa) ⟨[.ref a], []⟩) (Won s₁) s₁ := by
  refine codeAny_mono (F.run callerA [] s₁ H ⟨[.ref a], []⟩ [.ref a] [.ref a] _ _ rfl hr e0 (hbind s₁ (.ref a)) (.cons rfl .nil) hsp) fun r s' h => ?_
  cases r with
  | error e =>
    obtain ⟨_, _, _, _, _, _, _, _, _, _, _, _, hE⟩ := h
    exact hE.elim
  | ok fl =>
    cases fl with
    | ret u =>
      obtain ⟨v, H', os, bare, un, hok', r', q⟩ := h
      obtain rfl : v = .bl true := q
      obtain rfl : u = Value.bool true := r'
      refine ⟨rfl, OldK.of_keep fun b o e => ?_, os, bare⟩
      rcases hO b with z | ⟨ob, xs, z⟩
      · exact un.keep b o e z (fun z => by cases z) (fun z => by cases z)
      · have g := (e0.hok b _ z).1
        rw [e] at g
        cases g
        exact (hok' b _ (un.frzs b _ _ z)).1
    | next => exact h.elim
    | brk => exact h.elim
    | cont => exact h.elim
/-- the heap in which the script alone is known, where it is none of the written part -/
def scrH (K : PySem.W.Frag) (a : Addr) (o : Obj) (xs : List V) : Hp := fun b => if b = a ∧ K.lookup a = none then some (.frz o (.lst xs)) else none
theorem law_won (KX : K.In s₁.heap) (hns : s₁.heap.Ns mainGlobals mg) (hb : s₁.heap.Ns builtinsNs mb) (hbb : ∀ x : Str, x ≠ "__name__" → mb x = bootBuiltins x) (hlim : s₁.heap.NoLimit) (hg : s₁.gens = #[])
    (ha : s₁.heap.get? a = some { cls := .type "list", data := .seq vs.toArray }) (hi : IntsAre vs ns) (hl : ns.length ≤ sizeLine) (hr : Room k callerA)
    (F : ∀ base : Heap, K.In base → base.Ns mainGlobals mg → FnG P w K mg base k fa fd [x] sp) (hbind : ∀ (s : Shared) (u : Value), BindsTo s fd ⟨[u], []⟩ [(x, u)])
    (hsp : ∀ H : Hp, Only H → SqL K H a (ns.map V.int) → sp [.ref a] H (fun v _ => v = .bl true) fun _ _ _ => False) : codeAny (model P w) callerA (.call (.ref fa) ⟨[.ref a], []⟩) (Won s₁) s₁ := by
  have rv := vals_ints hi
  generalize hob : ({ cls := .type "list", data := .seq vs.toArray } : Obj) = ob at ha
  generalize hH : scrH K a ob (ns.map V.int) = H
  have some_at : ∀ {b : Addr} {u : HO}, H b = some u → b = a ∧ K.lookup a = none ∧ u = .frz ob (.lst (ns.map V.int)) := fun {b u} e => by
    rw [← hH] at e
    unfold scrH at e
    split at e
    · rename_i hc
      cases e
      exact ⟨hc.1, hc.2, rfl⟩
    · cases e
  have hO : Only H := fun b => by
    cases q : H b with
    | none => exact .inl rfl
    | some u => exact .inr ⟨_, _, congrArg some (some_at q).2.2⟩
  have hS : SqL K H a (ns.map V.int) := by
    cases q : K.lookup a with
    | none => exact .inl (.inr ⟨ob, by rw [← hH]; exact if_pos ⟨rfl, q⟩⟩)
    | some o =>
      have e := KX a o q
      rw [ha] at e
      cases e
      refine .inr ⟨ob, vs.toArray, 0, q, ?_, ?_, ?_, ?_, by simpa using rv⟩
      · rw [← hob]
      · rw [← hob]
      · rw [← hob]
      · rw [List.size_toArray, hi.length]; exact hl
  have hok : HOk P w H s₁.heap := fun b u e => by
    obtain ⟨e1, _, e3⟩ := some_at e
    subst e1 e3
    rw [← hob] at ha ⊢
    exact ⟨ha, by rw [List.length_map]; exact hl, vs, _, rv, ha⟩
  have free : ∀ {b : Addr} {o : Obj} {es : Array DictEntry} {ep : Nat}, s₁.heap.get? b = some o → o.data = .dict es ep → H b = none := fun {b o es ep} e d => by
    cases q : H b with
    | none => rfl
    | some u =>
      obtain ⟨e1, _, _⟩ := some_at q
      subst e1
      rw [ha] at e
      cases e
      rw [← hob] at d
      cases (show Data.seq vs.toArray _ = Data.dict es ep from d)
  have ns_of : ∀ {b : Addr} {m : Str → Option Value}, s₁.heap.Ns b m → (hidT s₁.heap H).Ns b m := fun ⟨o, es, ep, e, d, r⟩ => ⟨o, es, ep, hidT_get e (free e d), d, r⟩
  have hKb : K.In (hidT s₁.heap H) := fun b o e => hidT_get (KX b o e) (by
    cases q : H b with
    | none => rfl
    | some u =>
      obtain ⟨e1, e2, _⟩ := some_at q
      subst e1
      rw [e2] at e
      cases e)
  have hM : Mod K mg (hidT s₁.heap H) := by
    obtain ⟨mc, c1, c2⟩ := hlim
    exact ⟨hKb, ns_of hns, ⟨mb, ns_of hb, hbb⟩, mc, ns_of c1, c2⟩
  have e0 : Env0 P w K mg (hidT s₁.heap H) callerA [] s₁ H :=
    ⟨rfl, hM, fun b o e => of_hidT e, Nat.le_of_eq (hidT_size _ _), trivial, fun b hb => absurd (show b ∈ ([] : List Addr) from hb) (by simp), hok, .of_eq hg⟩
  exact won_at hr (F _ hKb (ns_of hns)) hbind e0 hO (hsp H hO hS)
end
/-- the goal that the head leaves, from the law's promise -/
theorem walk_won {l : PySem.W.OpenLaw} {n k : Nat} {q : Program} {loose : List Str} {XP : (Str → Option Value) → Heap → Prop} {YP : World → Heap → Prop} {d : DefRec} {x : Str}
    (hn : l.most = some n) (hn2 : n ≤ sizeLine) (hdf : d.params.defaults = []) (hr : Room k callerA)
    (F : ∀ (w : World) (mg : Str → Option Value) (fa : Addr) (h : Heap), YP w h → h.Ns mainGlobals mg → mg d.name = some (.ref fa) →
      ∃ (K : PySem.W.Frag) (fd : FuncData) (sp : Sp), K.In h ∧ (∀ (s : Shared) (u : Value), BindsTo s fd ⟨[u], []⟩ [(x, u)]) ∧
        (∀ (H : Hp) (a : Addr) (ns : List Int), ns.length ≤ n → Only H → SqL K H a (ns.map V.int) → sp [.ref a] H (fun v _ => v = .bl true) fun _ _ _ => False) ∧
        ∀ base : Heap, K.In base → base.Ns mainGlobals mg → FnG l.prog w K mg base k fa fd [x] sp) :
    PySem.W.WalkO q loose XP YP l.row.toRowW d [] (fun f vs => PySem.call f vs) := by
  refine Att.attach_call hn hdf fun w s₀ s₁ mg mb fa o pm cd doc a vs ns G Y ho hd hcd hmg hobj hints hlen hg => ?_
  obtain ⟨K, fd, sp, KX, hb, hsp, hF⟩ := F w mg fa _ Y G.T.g hmg
  exact law_won KX G.T.g G.T.b G.T.builtins G.T.nolimit hg hobj hints (Nat.le_trans hlen hn2) hr hF hb fun H hO hS => hsp H a ns hlen hO hS
/-- the script, as our language has it -/
theorem ints_reps {K : PySem.W.Frag} {φ : Fi} {H : Hp} : ∀ ns : List Int, Reps K φ H (ns.map D.int) (ns.map V.int)
  | [] => rfl
  | n :: ns => ⟨_, _, rfl, rfl, ints_reps ns⟩
theorem sp_law {K : PySem.W.Frag} {t : Nm} {cf : CF} {i : Nat} {H : Hp} {a : Addr} {ns : List Int} (hl : ns.length ≤ sizeLine) (hS : SqL K H a (ns.map V.int)) (h : ∃ st, cf i [.scr (ns.map .int)] [] = .ok (.bl true) st) :
    spOf K t cf i 1 [.ref a] H (fun v _ => v = .bl true) fun _ _ _ => False := by
  obtain ⟨st, h⟩ := h
  refine ⟨⟨[], []⟩, [.scr (ns.map .int)], [], ⟨rfl, List.nodup_nil, fun k o e => by simp at e, fun a ha => by cases ha⟩, ?_, rfl, ?_⟩
  · refine ⟨.ref a, [], rfl, ⟨a, ns.map V.int, rfl, ?_, by rw [List.length_map]; exact hl, ints_reps ns⟩, rfl⟩
    exact hS.elim (fun h => .inl ⟨h, List.not_mem_nil, List.not_mem_nil⟩) .inr
  · rw [h]
    exact fun φ' H' v _ _ p => p
/-- THE LAW, from its mathematics -/
theorem law_walk {l : PySem.W.OpenLaw} {n k i : Nat} {q : Program} {loose : List Str} {XP : (Str → Option Value) → Heap → Prop} {d : DefRec} {x : Str} {dn : Nat} {tab : List FT} {cons : List (Str × D)} {sts : List Stmt} {ft : FT}
    (hn : l.most = some n) (hn2 : n ≤ sizeLine) (hdf : d.params.defaults = []) (hr : Room k callerA) (hT : tabOk (pnOf tab cons) tab sts = true) (hi : tab[i]? = some ft) (hnm : ft.name = d.name) (hps : ft.ps = [x])
    (math : ∀ ns : List Int, ns.length ≤ n → ∃ st, callN (txOf cons) (fnOfTab tab) k i [.scr (ns.map .int)] [] = .ok (.bl true) st) :
    PySem.W.WalkO q loose XP (hookC dn cons (faOf tab) (fnOf sts)).says l.row.toRowW d [] (fun f vs => PySem.call f vs) := by
  refine walk_won (x := x) hn hn2 hdf hr fun w mg fa h Y G hmg => ?_
  obtain ⟨K, KX, cc, c⟩ := Y
  have hil : i < tab.length := (List.getElem?_eq_some_iff.mp hi).1
  have hhas : (pnOf tab cons).has i = true := decide_eq_true hil
  have hname : (pnOf tab cons).fn i = d.name := by
    show (tab.getD i ⟨Str.empty, [], 0, []⟩).name = _
    rw [List.getD_eq_getElem?_getD, hi]
    exact hnm
  obtain ⟨ft', a', fd, q1, q2, q3, q4, q5, q6, q7⟩ := all_fng (Pr := l.prog) (W0 := w) (t := ⟨fun _ => 0, fun _ => Str.empty⟩) KX G cc c rfl hT k i hhas
  rw [hi] at q1
  cases q1
  rw [hname, hmg] at q2
  cases q2
  rw [hps] at q6 q7
  exact ⟨K, fd, spOf K ⟨fun _ => 0, fun _ => Str.empty⟩ (callN (txOf cons) (fnOfTab tab) k) i 1, KX, fun s u => q6 s [u] rfl, fun H a ns h1 h2 h3 => sp_law (Nat.le_trans h1 hn2) h3 (math ns h1), fun base _ _ => q7 base⟩
end Cip

set_option maxHeartbeats 4000000
/-! Cip26: what a text comes to: a calculus. -/
namespace Cip
open PySem

/-- it comes to a value, of which Q holds -/
def WP {α : Type} (r : R α) (Q : α → Store → Prop) : Prop := match r with
  | .ok a st => Q a st
  | _ => False
def WS (r : SR) (N : Env → Store → Prop) (V : D → Store → Prop) : Prop := match r with
  | .nx e st => N e st
  | .rt d st => V d st
  | _ => False
section
variable {α β : Type} {Γ : Tx} {cf : CF}
theorem WP_ok {a : α} {st : Store} {Q : α → Store → Prop} : WP (.ok a st) Q ↔ Q a st := Iff.rfl
theorem WP_stk {Q : α → Store → Prop} : WP (.stk : R α) Q ↔ False := Iff.rfl
theorem WP_bind {r : R α} {k : α → Store → R β} {Q : β → Store → Prop} : WP (r.bind k) Q ↔ WP r fun a st => WP (k a st) Q := by cases r <;> exact Iff.rfl
theorem WP_of {o : Option α} {st : Store} {Q : α → Store → Prop} : WP (R.of o st) Q ↔ ∃ a, o = some a ∧ Q a st := by
  cases o with
  | none => exact ⟨fun h => h.elim, fun ⟨_, h, _⟩ => (nomatch h)⟩
  | some a => exact ⟨fun h => ⟨a, rfl, h⟩, fun ⟨_, h, q⟩ => by cases h; exact q⟩
theorem WP_some {a : α} {st : Store} {Q : α → Store → Prop} : WP (R.of (some a) st) Q ↔ Q a st := Iff.rfl
theorem WP.imp {r : R α} {Q Q' : α → Store → Prop} (h : WP r Q) (hq : ∀ a st, Q a st → Q' a st) : WP r Q' := by
  cases r with
  | ok a st => exact hq a st h
  | _ => exact h
theorem WP_test {r : R D} {Q : Bool → Store → Prop} : WP (testR r) Q ↔ WP r fun d st => ∃ b, d = .bl b ∧ Q b st := by
  cases r with
  | ok d st => cases d with
    | bl b => exact ⟨fun h => ⟨b, rfl, h⟩, fun ⟨_, h, q⟩ => by cases h; exact q⟩
    | _ => exact ⟨fun h => h.elim, fun ⟨_, h, _⟩ => (nomatch h)⟩
  | _ => exact Iff.rfl
theorem WP_get {r : R α} {Q : α → Store → Prop} (h : WP r Q) : ∃ a st, r = .ok a st ∧ Q a st := by
  cases r with
  | ok a st => exact ⟨a, st, rfl, h⟩
  | _ => exact h.elim
theorem WP_eq {r : R α} {a : α} {st : Store} (h : r = .ok a st) {Q : α → Store → Prop} (q : Q a st) : WP r Q := by rw [h]; exact q
theorem WS_nx {e : Env} {st : Store} {N : Env → Store → Prop} {V : D → Store → Prop} : WS (.nx e st) N V ↔ N e st := Iff.rfl
theorem WS_rt {d : D} {st : Store} {N : Env → Store → Prop} {V : D → Store → Prop} : WS (.rt d st) N V ↔ V d st := Iff.rfl
theorem WS_stk {N : Env → Store → Prop} {V : D → Store → Prop} : WS .stk N V ↔ False := Iff.rfl
theorem WS_bind {r : SR} {k : Env → Store → SR} {N : Env → Store → Prop} {V : D → Store → Prop} : WS (r.bind k) N V ↔ WS r (fun e st => WS (k e st) N V) V := by cases r <;> exact Iff.rfl
theorem WS_s {r : R α} {env : Env} {k : α → Store → SR} {N : Env → Store → Prop} {V : D → Store → Prop} : WS (r.s env k) N V ↔ WP r fun a st => WS (k a st) N V := by cases r <;> exact Iff.rfl
theorem WS.imp {r : SR} {N N' : Env → Store → Prop} {V V' : D → Store → Prop} (h : WS r N V) (hn : ∀ e st, N e st → N' e st) (hv : ∀ d st, V d st → V' d st) : WS r N' V' := by
  cases r with
  | nx e st => exact hn e st h
  | rt d st => exact hv d st h
  | _ => exact h
theorem still_refl {ks : List Nat} {st : Store} : still ks st st = true := still_ok.mpr fun _ _ => rfl
/-- a loop over things: I holds of what is left -/
theorem WS_loop {f : D → Env → Store → SR} {ok : Store → Bool} {N : Env → Store → Prop} {V : D → Store → Prop} (I : List D → Env → Store → Prop) (hok : ∀ rest env st, I rest env st → ok st = true)
    (step : ∀ x rest env st, I (x :: rest) env st → WS (f x env st) (fun env' st' => I rest env' st') V) (done : ∀ env st, I [] env st → N env st) : ∀ (xs : List D) (env : Env) (st : Store), I xs env st → WS (loopL f ok xs env st) N V
  | [], env, st, h => by
    unfold loopL
    rw [if_pos (hok _ _ _ h)]
    exact done env st h
  | x :: xs, env, st, h => by
    unfold loopL
    rw [if_pos (hok _ _ _ h), WS_bind]
    exact (step x xs env st h).imp (fun e s q => WS_loop I hok step done xs e s q) fun _ _ q => q
/-- while: by a measure -/
theorem WS_while {c : Env → Store → R Bool} {b : Env → Store → SR} {N : Env → Store → Prop} {V : D → Store → Prop} (I : Nat → Env → Store → Prop)
    (step : ∀ m env st, I m env st → WP (c env st) fun r st' => if r = true then WS (b env st') (fun env' st'' => ∃ m', m' < m ∧ I m' env' st'') V else N env st') : ∀ (n m : Nat) (env : Env) (st : Store), m < n → I m env st → WS (loopW c b n env st) N V
  | 0, m, env, st, hm, _ => absurd hm (Nat.not_lt_zero _)
  | n + 1, m, env, st, hm, h => by
    unfold loopW
    rw [WS_s]
    refine (step m env st h).imp fun r st' q => ?_
    cases r with
    | true =>
      rw [if_pos rfl] at q ⊢
      rw [WS_bind]
      exact q.imp (fun e s ⟨m', h1, h2⟩ => WS_while I step n m' e s (by omega) h2) fun _ _ q => q
    | false =>
      rw [if_neg (by simp)] at q ⊢
      exact q
/-- a comprehension's turns -/
theorem WP_lcL {f : D → Store → R (Option D)} {Q : List D → Store → Prop} (I : List D → List D → Store → Prop) (step : ∀ x rest acc st, I (x :: rest) acc st → WP (f x st) fun r st' => I rest (acc ++ (match r with | some d => [d] | none => [])) st') :
    ∀ (xs acc : List D) (st : Store), I xs acc st → (∀ acc' st', I [] (acc ++ acc') st' → Q acc' st') → WP (lcL f xs st) Q
  | [], acc, st, h, hq => hq [] st (by rw [List.append_nil]; exact h)
  | x :: xs, acc, st, h, hq => by
    unfold lcL
    rw [WP_bind]
    refine (step x xs acc st h).imp fun r st' q => ?_
    rw [WP_bind]
    refine WP_lcL I step xs _ st' q fun acc' st'' q2 => hq _ st'' ?_
    cases r with
    | none => simpa [keepL] using q2
    | some d => simpa [keepL] using q2
/-- .. where nothing but a value comes of a turn -/
theorem lcL_pure {f : D → Store → R (Option D)} {st : Store} (g : D → Option D) : ∀ (xs : List D), (∀ x ∈ xs, f x st = .ok (g x) st) → lcL f xs st = .ok (xs.filterMap g) st
  | [], _ => rfl
  | x :: xs, h => by
    unfold lcL
    rw [h x (by simp)]
    show (lcL f xs st).bind _ = _
    rw [lcL_pure g xs fun y hy => h y (List.mem_cons_of_mem _ hy), List.filterMap_cons]
    cases g x <;> rfl

/-! ### calls -/
theorem gc_same {st0 st : Store} {ds : List D} (h : st.length = st0.length) : gc st0 ds st = st := by
  unfold gc
  split
  · rw [← h, List.take_length]
  · rfl
theorem gc_drop {st0 st1 new : Store} {ds : List D} (hl : st1.length = st0.length) (hd : D.mxs ds ≤ st0.length) (hs : ∀ k, k < st0.length → st1[k]? = st0[k]? ∨ ∃ o, st1[k]? = some o ∧ o.mx ≤ st0.length) : gc st0 ds (st1 ++ new) = st1 := by
  unfold gc
  rw [if_pos, List.take_append_of_le_length (by omega), ← hl, List.take_length]
  refine ⟨hd, fun k hk => ?_⟩
  rw [List.getElem?_append_left (by omega)]
  exact hs k hk
variable {tab : List FT}
/-- a call, by its body -/
theorem call_wp {n f : Nat} {ft : FT} {ds : List D} {st : Store} {Q : D → Store → Prop} (ht : tab[f]? = some ft) (hl : ds.length = ft.np)
    (h : WS (runs Γ (callN Γ (fnOfTab tab) n) ft.body (startE ft.N.length ds) st) (fun _ st' => Q .non (gc st [.non] st')) (fun d st' => Q d (gc st [d] st'))) : WP (callN Γ (fnOfTab tab) (n + 1) f ds st) Q := by
  have e : callN Γ (fnOfTab tab) (n + 1) f ds st = retOf st (runs Γ (callN Γ (fnOfTab tab) n) ft.body (startE ft.N.length ds) st) := by
    show (match fnOfTab tab f with
      | some fd => if ds.length = fd.np then retOf st (runs Γ (callN Γ (fnOfTab tab) n) fd.body (startE fd.ns ds) st) else .stk
      | none => .stk) = _
    have : fnOfTab tab f = some ft.fd := by unfold fnOfTab; rw [ht] <;> rfl
    rw [this]
    exact if_pos hl
  rw [e]
  cases q : runs Γ (callN Γ (fnOfTab tab) n) ft.body (startE ft.N.length ds) st with
  | nx e s => rw [q] at h; exact h
  | rt d s => rw [q] at h; exact h
  | ex _ _ _ _ => rw [q] at h; exact h.elim
  | stk => rw [q] at h; exact h.elim
/-- .. that leaves the store as long as it was -/
theorem call_same {n f : Nat} {ft : FT} {ds : List D} {st : Store} {Q : D → Store → Prop} (ht : tab[f]? = some ft) (hl : ds.length = ft.np)
    (h : WS (runs Γ (callN Γ (fnOfTab tab) n) ft.body (startE ft.N.length ds) st) (fun _ st' => st'.length = st.length ∧ Q .non st') (fun d st' => st'.length = st.length ∧ Q d st')) : WP (callN Γ (fnOfTab tab) (n + 1) f ds st) Q :=
  call_wp ht hl (h.imp (fun _ st' ⟨h1, h2⟩ => by rw [gc_same h1]; exact h2) fun d st' ⟨h1, h2⟩ => by rw [gc_same h1]; exact h2)
/-! ### every form -/
section
variable {env : Env} {st : Store} {Q : D → Store → Prop} {N : Env → Store → Prop} {V : D → Store → Prop}
theorem ex_ite {α : Type} {c : Prop} [Decidable c] {x : α} {Q : α → Prop} : (∃ d, (if c then some x else none) = some d ∧ Q d) ↔ c ∧ Q x := by
  by_cases h : c
  · rw [if_pos h]
    exact ⟨fun ⟨_, e, q⟩ => (by cases e; exact ⟨h, q⟩), fun ⟨_, q⟩ => ⟨x, rfl, q⟩⟩
  · rw [if_neg h]
    exact ⟨fun ⟨_, e, _⟩ => (nomatch e), fun ⟨q, _⟩ => absurd q h⟩
theorem ex_some {α : Type} {x : α} {Q : α → Prop} : (∃ d, some x = some d ∧ Q d) ↔ Q x := ⟨fun ⟨_, e, q⟩ => by cases e; exact q, fun q => ⟨x, rfl, q⟩⟩
theorem ex_none {α : Type} {Q : α → Prop} : (∃ d, (none : Option α) = some d ∧ Q d) ↔ False := ⟨fun ⟨_, e, _⟩ => (nomatch e), fun q => q.elim⟩
theorem ex_bl {b : Bool} {Q : Bool → Prop} : (∃ c, D.bl b = .bl c ∧ Q c) ↔ Q b := ⟨fun ⟨_, e, q⟩ => by cases e; exact q, fun q => ⟨b, rfl, q⟩⟩
theorem ex_map {α β : Type} {o : Option α} {f : α → β} {Q : β → Prop} : (∃ d, o.map f = some d ∧ Q d) ↔ ∃ a, o = some a ∧ Q (f a) := by
  cases o with
  | none => exact ⟨fun ⟨_, e, _⟩ => (nomatch e), fun ⟨_, e, _⟩ => (nomatch e)⟩
  | some a => exact ⟨fun ⟨_, e, q⟩ => ⟨a, rfl, by cases e; exact q⟩, fun ⟨_, e, q⟩ => ⟨f a, rfl, by cases e; exact q⟩⟩
theorem w_non : WP (ev Γ cf .non env st) Q ↔ Q .non st := by simp only [ev, WP_ok]
theorem w_bl {b : Bool} : WP (ev Γ cf (.bl b) env st) Q ↔ Q (.bl b) st := by simp only [ev, WP_ok]
theorem w_int {i : Int} : WP (ev Γ cf (.int i) env st) Q ↔ Q (.int i) st := by simp only [ev, WP_ok]
theorem w_str {x : Str} : WP (ev Γ cf (.str x) env st) Q ↔ Q (.str x) st := by simp only [ev, WP_ok]
theorem w_var {i : Nat} : WP (ev Γ cf (.var i) env st) Q ↔ ∃ d, env[i]? = some (some d) ∧ Q d st := by
  simp only [ev]
  split
  · rename_i d h
    rw [h]
    exact ⟨fun q => ⟨d, rfl, q⟩, fun ⟨_, e, q⟩ => by cases e; exact q⟩
  · rename_i h
    exact ⟨fun q => False.elim q, fun ⟨d, e, _⟩ => (h d e).elim⟩
theorem w_con {i : Nat} : WP (ev Γ cf (.con i) env st) Q ↔ ∃ d, Γ.con i = some d ∧ Q d st := by simp only [ev, WP_of]
theorem w_bin {o : BOp} {a b : E} : WP (ev Γ cf (.bin o a b) env st) Q ↔ WP (ev Γ cf a env st) fun x st => WP (ev Γ cf b env st) fun y st => ∃ d, binD st o x y = some d ∧ Q d st := by simp only [ev, WP_bind, WP_of]
theorem w_neg {a : E} : WP (ev Γ cf (.neg a) env st) Q ↔ WP (ev Γ cf a env st) fun x st => ∃ i, x = .int i ∧ Q (.int (-i)) st := by
  simp only [ev, WP_bind]
  constructor
  · exact fun h => h.imp fun d st q => by
      cases d with
      | int i => exact ⟨i, rfl, q⟩
      | _ => exact q.elim
  · exact fun h => h.imp fun d st ⟨i, e, q⟩ => by subst e; exact q
theorem w_cmp {o : COp} {a b : E} : WP (ev Γ cf (.cmp o a b) env st) Q ↔ WP (ev Γ cf a env st) fun x st => WP (ev Γ cf b env st) fun y st => ∃ r, cmpD st o x y = some r ∧ Q (.bl r) st := by simp only [ev, WP_bind, WP_of, ex_map]
theorem w_chn {o p : COp} {a b c : E} : WP (ev Γ cf (.chn o p a b c) env st) Q ↔ WP (ev Γ cf a env st) fun x st => WP (ev Γ cf b env st) fun y st => ∃ r, cmpD st o x y = some r ∧
    WP (if r = true then (ev Γ cf c env st).bind fun z st => .of ((cmpD st p y z).map .bl) st else .ok (.bl false) st) Q := by simp only [ev, WP_bind, WP_of]
theorem w_isn {a : E} : WP (ev Γ cf (.isn a) env st) Q ↔ WP (ev Γ cf a env st) fun x st => Q (.bl x.isNon) st := by simp only [ev, WP_bind, WP_ok]
theorem w_notn {a : E} : WP (ev Γ cf (.notn a) env st) Q ↔ WP (ev Γ cf a env st) fun x st => Q (.bl (!x.isNon)) st := by simp only [ev, WP_bind, WP_ok]
theorem w_and {es : List E} : WP (ev Γ cf (.and es) env st) Q ↔ WP (evAnd Γ cf es env st) fun b st => Q (.bl b) st := by simp only [ev, WP_bind, WP_ok]
theorem w_or {es : List E} : WP (ev Γ cf (.or es) env st) Q ↔ WP (evOr Γ cf es env st) fun b st => Q (.bl b) st := by simp only [ev, WP_bind, WP_ok]
theorem w_not {a : E} : WP (ev Γ cf (.not a) env st) Q ↔ WP (ev Γ cf a env st) fun d st => ∃ b, d = .bl b ∧ Q (.bl (!b)) st := by simp only [ev, WP_bind, WP_ok, WP_test]
theorem w_ite {c a b : E} : WP (ev Γ cf (.ite c a b) env st) Q ↔ WP (ev Γ cf c env st) fun d st => ∃ r, d = .bl r ∧ WP (if r = true then ev Γ cf a env st else ev Γ cf b env st) Q := by simp only [ev, WP_bind, WP_test]
theorem w_tup {es : List E} : WP (ev Γ cf (.tup es) env st) Q ↔ WP (evs Γ cf es env st) fun ds st => ds.length ≤ sizeLine ∧ Q (.tup ds) st := by
  simp only [ev, WP_bind]
  constructor
  · refine fun h => h.imp fun ds st q => ?_
    split at q
    · exact ⟨by assumption, q⟩
    · exact q.elim
  · exact fun h => h.imp fun ds st ⟨h1, h2⟩ => by rw [if_pos h1]; exact h2
theorem w_lst {es : List E} : WP (ev Γ cf (.lst es) env st) Q ↔ WP (evs Γ cf es env st) fun ds st => ds.length ≤ sizeLine ∧ Q (.lst ds) st := by
  simp only [ev, WP_bind]
  constructor
  · refine fun h => h.imp fun ds st q => ?_
    split at q
    · exact ⟨by assumption, q⟩
    · exact q.elim
  · exact fun h => h.imp fun ds st ⟨h1, h2⟩ => by rw [if_pos h1]; exact h2
theorem w_mutL {a : E} {R : D → Store → Prop} (hR : ∀ d st, R d st → ∃ xs, d = .lst xs ∧ Q (.ref st.length) (st ++ [.lst xs])) (h : WP (ev Γ cf a env st) R) : WP (ev Γ cf (.mut a) env st) Q := by
  simp only [ev, WP_bind]
  refine h.imp fun d st q => ?_
  obtain ⟨xs, e, q2⟩ := hR d st q
  subst e
  exact q2
theorem w_dct : WP (ev Γ cf (.dct []) env st) Q ↔ Q (.dct [] []) st := by simp only [ev, WP_ok]
theorem w_idx {a i : E} : WP (ev Γ cf (.idx a i) env st) Q ↔ WP (ev Γ cf a env st) fun x st => WP (ev Γ cf i env st) fun y st => ∃ d, idxD st x y = some d ∧ Q d st := by simp only [ev, WP_bind, WP_of]
theorem w_slc {a lo hi : E} : WP (ev Γ cf (.slc a lo hi) env st) Q ↔ WP (ev Γ cf a env st) fun x st => WP (if lo.nulB = true then .ok none st else (ev Γ cf lo env st).bind fun d st => .of (bnd d) st : R (Option Int)) fun l st =>
    WP (if hi.nulB = true then .ok none st else (ev Γ cf hi env st).bind fun d st => .of (bnd d) st : R (Option Int)) fun h st => ∃ d, slcD st x l h = some d ∧ Q d st := by simp only [ev, WP_bind, WP_of]
theorem w_call {f : Nat} {es : List E} : WP (ev Γ cf (.call f es) env st) Q ↔ WP (evs Γ cf es env st) fun ds st => WP (cf f ds st) Q := by simp only [ev, WP_bind]
theorem w_bi {b : BI} {es : List E} : WP (ev Γ cf (.bi b es) env st) Q ↔ WP (evs Γ cf es env st) fun ds st => ∃ d, biD st b ds = some d ∧ Q d st := by simp only [ev, WP_bind, WP_of]
theorem w_bm {m : BM} {a : E} {es : List E} : WP (ev Γ cf (.bm m a es) env st) Q ↔ WP (ev Γ cf a env st) fun x st => bmOn st m x = true ∧ WP (evs Γ cf es env st) fun ds st => ∃ d, bmD st m x ds = some d ∧ Q d st := by
  simp only [ev, WP_bind]
  constructor
  · refine fun h => h.imp fun x st q => ?_
    split at q
    · rw [WP_bind] at q
      exact ⟨by assumption, q.imp fun ds st q => WP_of.mp q⟩
    · exact q.elim
  · exact fun h => h.imp fun x st ⟨h1, h2⟩ => by rw [if_pos h1, WP_bind]; exact h2.imp fun ds st q => WP_of.mpr q
theorem w_isi {a : E} {t : Ty} : WP (ev Γ cf (.isi a t) env st) Q ↔ WP (ev Γ cf a env st) fun x st => ∃ r, isiD Γ.sub Γ.ve st x t = some r ∧ Q (.bl r) st := by simp only [ev, WP_bind, WP_of, ex_map]
theorem w_app {a e : E} : WP (ev Γ cf (.app a e) env st) Q ↔ WP (ev Γ cf a env st) fun x st => (lstD st x).isSome = true ∧ WP (ev Γ cf e env st) fun d st => WP (appD st x d) Q := by
  simp only [ev, WP_bind]
  constructor
  · refine fun h => h.imp fun x st q => ?_
    split at q
    · rw [WP_bind] at q
      exact ⟨by assumption, q⟩
    · exact q.elim
  · exact fun h => h.imp fun x st ⟨h1, h2⟩ => by rw [if_pos h1, WP_bind]; exact h2
theorem w_evs0 {Q : List D → Store → Prop} : WP (evs Γ cf [] env st) Q ↔ Q [] st := by simp only [evs, WP_ok]
theorem w_evs {e : E} {es : List E} {Q : List D → Store → Prop} : WP (evs Γ cf (e :: es) env st) Q ↔ WP (ev Γ cf e env st) fun d st => WP (evs Γ cf es env st) fun ds st => Q (d :: ds) st := by simp only [evs, WP_bind, WP_ok]
theorem w_and0 {Q : Bool → Store → Prop} : WP (evAnd Γ cf [] env st) Q ↔ Q true st := by simp only [evAnd, WP_ok]
theorem w_or0 {Q : Bool → Store → Prop} : WP (evOr Γ cf [] env st) Q ↔ Q false st := by simp only [evOr, WP_ok]
theorem w_and1 {e : E} {es : List E} {Q : Bool → Store → Prop} : WP (evAnd Γ cf (e :: es) env st) Q ↔ WP (ev Γ cf e env st) fun d st => ∃ r, d = .bl r ∧ WP (if r = true then evAnd Γ cf es env st else .ok false st) Q := by simp only [evAnd, WP_bind, WP_test]
theorem w_or1 {e : E} {es : List E} {Q : Bool → Store → Prop} : WP (evOr Γ cf (e :: es) env st) Q ↔ WP (ev Γ cf e env st) fun d st => ∃ r, d = .bl r ∧ WP (if r = true then .ok true st else evOr Γ cf es env st) Q := by simp only [evOr, WP_bind, WP_test]
/-- a comprehension -/
theorem w_lc {own : List Nat} {t : Tg} {k : IK} {its : List E} {c e : E} {P0 : List D → Store → Prop} (h : WP (evs Γ cf its env st) P0) (hR : ∀ ds st, P0 ds st → ∃ xs, walkD st k ds = some xs ∧
    WP (lcL (fun x st' => if still (refsOf ds) st st' = true then lcTurn (asgT st' t x (wipeE env own)) (fun env' st' => if c.nulB = true then .ok true st' else testR (ev Γ cf c env' st')) (fun env' st' => ev Γ cf e env' st') st' else .stk) xs st)
      fun rs st' => still (refsOf ds) st st' = true ∧ rs.length ≤ sizeLine ∧ Q (.lst rs) st') : WP (ev Γ cf (.lc own t k its c e) env st) Q := by
  simp only [ev, WP_bind]
  refine h.imp fun ds st q => ?_
  obtain ⟨xs, e1, q⟩ := hR ds st q
  rw [e1]
  obtain ⟨rs, st', e2, h1, h2, h3⟩ := WP_get q
  simp only
  rw [e2]
  unfold lcEnd
  simp only
  rw [if_pos ⟨h1, h2⟩]
  exact h3
/-- .. of which nothing comes but the values -/
theorem w_lcP {own : List Nat} {t : Tg} {k : IK} {its : List E} {c e : E} {P0 : List D → Store → Prop} (h : WP (evs Γ cf its env st) P0) (p : D → Bool) (g : D → D)
    (hR : ∀ ds st, P0 ds st → ∃ xs, walkD st k ds = some xs ∧ xs.length ≤ sizeLine ∧ (∀ x ∈ xs, ∃ env', asgT st t x (wipeE env own) = some env' ∧ (c.nulB = true ∧ p x = true ∨ c.nulB = false ∧ ev Γ cf c env' st = .ok (.bl (p x)) st) ∧ (p x = true → ev Γ cf e env' st = .ok (g x) st)) ∧
      Q (.lst ((xs.filter p).map g)) st) : WP (ev Γ cf (.lc own t k its c e) env st) Q := by
  refine w_lc h fun ds st q => ?_
  obtain ⟨xs, e1, hl, hx, q⟩ := hR ds st q
  refine ⟨xs, e1, ?_⟩
  rw [lcL_pure (fun x => if p x = true then some (g x) else none) xs fun x hm => ?_]
  · have hf : xs.filterMap (fun x => if p x = true then some (g x) else none) = (xs.filter p).map g := by
      clear hx e1 hl q
      induction xs with
      | nil => rfl
      | cons x xs ih =>
        rw [List.filterMap_cons, List.filter_cons]
        by_cases hp : p x = true
        · rw [if_pos hp, if_pos hp, List.map_cons, ← ih]
        · rw [if_neg hp, if_neg hp, ← ih]
    rw [hf]
    refine ⟨still_refl, ?_, q⟩
    rw [List.length_map]
    exact Nat.le_trans (List.length_filter_le _ _) hl
  · rw [if_pos still_refl]
    obtain ⟨env', h1, h2, h3⟩ := hx x hm
    rw [h1]
    unfold lcTurn
    simp only
    have key : (if c.nulB = true then R.ok true st else testR (ev Γ cf c env' st)) = .ok (p x) st := by
      rcases h2 with ⟨q1, q2⟩ | ⟨q1, q2⟩
      · rw [if_pos q1, q2]
      · rw [if_neg (by rw [q1]; simp), q2]
        rfl
    rw [key]
    show (if p x = true then (ev Γ cf e env' st).bind fun d st => .ok (some d) st else .ok none st) = _
    by_cases hp : p x = true
    · rw [if_pos hp, if_pos hp, h3 hp]
      rfl
    · rw [if_neg hp, if_neg hp]
/-! ### statements -/
theorem s_nil : WS (runs Γ cf [] env st) N V ↔ N env st := by simp only [runs, WS_nx]
theorem s_cons {s : S} {ss : List S} : WS (runs Γ cf (s :: ss) env st) N V ↔ WS (run Γ cf s env st) (fun env st => WS (runs Γ cf ss env st) N V) V := by simp only [runs, WS_bind]
theorem s_asg {t : Tg} {e : E} : WS (run Γ cf (.asg t e) env st) N V ↔ WP (ev Γ cf e env st) fun d st => ∃ env', asgT st t d env = some env' ∧ N env' st := by
  simp only [run, WS_s]
  constructor
  · refine fun h => h.imp fun d st q => ?_
    cases e : asgT st t d env with
    | none => rw [e] at q; exact q.elim
    | some env' => rw [e] at q; exact ⟨env', rfl, q⟩
  · exact fun h => h.imp fun d st ⟨env', e, q⟩ => by rw [e]; exact q
theorem s_ite {c : E} {a b : List S} : WS (run Γ cf (.ite c a b) env st) N V ↔ WP (ev Γ cf c env st) fun d st => ∃ r, d = .bl r ∧ WS (if r = true then runs Γ cf a env st else runs Γ cf b env st) N V := by simp only [run, WS_s, WP_test]
theorem s_ret {e : E} : WS (run Γ cf (.ret e) env st) N V ↔ WP (ev Γ cf e env st) V := by simp only [run, WS_s, WS_rt]
theorem s_exp {e : E} : WS (run Γ cf (.exp e) env st) N V ↔ WP (ev Γ cf e env st) fun _ st => N env st := by simp only [run, WS_s, WS_nx]
theorem s_pass : WS (run Γ cf .pass env st) N V ↔ N env st := by simp only [run, WS_nx]
theorem s_ssub {a i e : E} {R : D → D → D → Store → Prop} (h : WP (ev Γ cf e env st) fun d st => WP (ev Γ cf a env st) fun x st => WP (ev Γ cf i env st) fun y st => R d x y st)
    (hR : ∀ d x y st, R d x y st → ∃ k z xs j, x = .ref k ∧ y = .int z ∧ st[k]? = some (.lst xs) ∧ L2.ixN xs.length z = some j ∧ N env (st.set k (.lst (xs.set j d)))) : WS (run Γ cf (.ssub a i e) env st) N V := by
  simp only [run, WS_s]
  refine h.imp fun d st q => q.imp fun x st q => q.imp fun y st q => ?_
  obtain ⟨k, z, xs, j, e1, e2, e3, e4, q2⟩ := hR d x y st q
  subst e1 e2
  simp only [e3, e4]
  exact q2
theorem s_for {t : Tg} {k : IK} {its : List E} {body : List S} {P0 : List D → Store → Prop} (h : WP (evs Γ cf its env st) P0) (hR : ∀ ds st, P0 ds st → ∃ xs, walkD st k ds = some xs ∧
    WS (loopL (fun x env st => match asgT st t x env with
        | some env => runs Γ cf body env st
        | none => .stk) (fun st' => still (refsOf ds) st st') xs env st) N V) : WS (run Γ cf (.for t k its body) env st) N V := by
  simp only [run, WS_s]
  refine h.imp fun ds st q => ?_
  obtain ⟨xs, e, q⟩ := hR ds st q
  rw [e]
  exact q
theorem s_whl {c : E} {body : List S} (h : WS (loopW (fun env st => testR (ev Γ cf c env st)) (fun env st => runs Γ cf body env st) 1000000 env st) N V) : WS (run Γ cf (.whl c body) env st) N V := by
  simp only [run]
  exact h
theorem asg_nm {i : Nat} {d : D} : asgT st (.nm i) d env = some (env.set i (some d)) := by unfold asgT; rfl
theorem asgs_nil : asgTs st [] [] env = some env := by unfold asgTs; rfl
end
end

/-! ### on the ground -/
section
variable {st : Store} {i j : Int} {x y : Str} {a b : Bool} {xs ys : List D}
theorem ex_var {α : Type} {x : α} {Q : α → Prop} : (∃ d, some (some x) = some (some d) ∧ Q d) ↔ Q x := ⟨fun ⟨_, e, q⟩ => (by cases e; exact q), fun q => ⟨x, rfl, q⟩⟩
theorem ex_int {Q : Int → Prop} : (∃ c, D.int i = .int c ∧ Q c) ↔ Q i := ⟨fun ⟨_, e, q⟩ => (by cases e; exact q), fun q => ⟨i, rfl, q⟩⟩
theorem b_add_i : binD st .add (.int i) (.int j) = some (.int (i + j)) := rfl
theorem b_sub_i : binD st .sub (.int i) (.int j) = some (.int (i - j)) := rfl
theorem b_mul_i : binD st .mul (.int i) (.int j) = if (-(2 ^ 64) < i ∧ i < 2 ^ 64) ∨ (-(2 ^ 64) < j ∧ j < 2 ^ 64) then some (.int (i * j)) else none := rfl
theorem b_mod_i : binD st .mod (.int i) (.int j) = if ¬ j = 0 then some (.int (i.fmod j)) else none := by
  show (if j = 0 then none else some (D.int (i.fmod j))) = _
  by_cases h : j = 0
  · rw [if_pos h, if_neg (fun n => n h)]
  · rw [if_neg h, if_pos h]
theorem b_div_i : binD st .fdiv (.int i) (.int j) = if j ≠ 0 ∧ j.natAbs < 1073741824 then some (.int (i.fdiv j)) else none := rfl
theorem b_pow_i : binD st .pow (.int i) (.int j) = if 0 ≤ j ∧ j ≤ 1000 ∧ i.natAbs < 2 ^ 64 then some (.int (i ^ j.toNat)) else none := rfl
theorem b_add_s : binD st .add (.str x) (.str y) = if x.length + y.length ≤ sizeLine then some (.str (x ++ y)) else none := rfl
theorem b_add_t : binD st .add (.tup xs) (.tup ys) = if xs.length + ys.length ≤ sizeLine then some (.tup (xs ++ ys)) else none := rfl
theorem b_add_l : binD st .add (.lst xs) (.lst ys) = if xs.length + ys.length ≤ sizeLine then some (.lst (xs ++ ys)) else none := rfl
theorem b_mul_s : binD st .mul (.str x) (.int j) = if -(2 ^ 31) ≤ j ∧ j < 2 ^ 31 ∧ x.length * j.toNat ≤ sizeLine then some (.str (strMul x j)) else none := rfl
theorem b_mul_t : binD st .mul (.tup xs) (.int j) = if -(2 ^ 31) ≤ j ∧ j < 2 ^ 31 ∧ xs.length * j.toNat ≤ sizeLine then some (.tup (List.replicate j.toNat xs).flatten) else none := rfl
theorem b_mul_l : binD st .mul (.lst xs) (.int j) = if -(2 ^ 31) ≤ j ∧ j < 2 ^ 31 ∧ xs.length * j.toNat ≤ sizeLine then some (.lst (List.replicate j.toNat xs).flatten) else none := rfl
theorem beq_dec {α : Type} [BEq α] [LawfulBEq α] [DecidableEq α] (a b : α) : (a == b) = decide (a = b) := by
  rw [Bool.eq_iff_iff]
  simp
theorem c_lt_i : cmpD st .lt (.int i) (.int j) = some (decide (i < j)) := rfl
theorem c_le_i : cmpD st .le (.int i) (.int j) = some (decide (i ≤ j)) := rfl
theorem c_gt_i : cmpD st .gt (.int i) (.int j) = some (decide (j < i)) := rfl
theorem c_ge_i : cmpD st .ge (.int i) (.int j) = some (decide (j ≤ i)) := rfl
theorem c_lt_s : cmpD st .lt (.str x) (.str y) = some (ltStr x y) := rfl
theorem c_le_s : cmpD st .le (.str x) (.str y) = some (!ltStr y x) := rfl
theorem c_eq_i : cmpD st .eq (D.int i) (.int j) = some (decide (i = j)) := by
  show some (PyData.eqv (.int i) (.int j)) = _
  simp only [PyData.eqv, beq_dec]
theorem c_ne_i : cmpD st .ne (D.int i) (.int j) = some (!decide (i = j)) := by
  show some (!PyData.eqv (.int i) (.int j)) = _
  simp only [PyData.eqv, beq_dec]
theorem c_eq_s : cmpD st .eq (D.str x) (.str y) = some (decide (x = y)) := by
  show some (PyData.eqv (.str x) (.str y)) = _
  simp only [PyData.eqv, beq_dec]
theorem c_ne_s : cmpD st .ne (D.str x) (.str y) = some (!decide (x = y)) := by
  show some (!PyData.eqv (.str x) (.str y)) = _
  simp only [PyData.eqv, beq_dec]
end

/-! ### the rest, as steps -/
def ssubD (st : Store) (x y d : D) : Option Store := match x, y with
  | .ref k, .int z => match st[k]? with
    | some (.lst xs) => match L2.ixN xs.length z with
      | some j => some (st.set k (.lst (xs.set j d)))
      | none => none
    | _ => none
  | _, _ => none
def appS (st : Store) (x d : D) : Option Store := match x with
  | .ref k => match st[k]? with
    | some (.lst xs) => if xs.length < sizeLine then some (st.set k (.lst (xs ++ [d]))) else none
    | _ => none
  | _ => none
def mutP (Q : D → Store → Prop) (st : Store) : D → Prop
  | .lst ds => Q (.ref st.length) (st ++ [.lst ds])
  | .dct ks vs => Q (.ref st.length) (st ++ [.dct false ks vs])
  | _ => False
section
variable {Γ : Tx} {cf : CF} {env : Env} {st : Store} {Q : D → Store → Prop} {N : Env → Store → Prop} {V : D → Store → Prop}
theorem s_ssubD {a i e : E} : WS (run Γ cf (.ssub a i e) env st) N V ↔ WP (ev Γ cf e env st) fun d st => WP (ev Γ cf a env st) fun x st => WP (ev Γ cf i env st) fun y st => ∃ st', ssubD st x y d = some st' ∧ N env st' := by
  simp only [run, WS_s]
  constructor
  · refine fun h => h.imp fun d st q => q.imp fun x st q => q.imp fun y st q => ?_
    split at q
    · rename_i k z
      split at q
      · rename_i xs hk
        split at q
        · rename_i j hj
          exact ⟨_, by simp only [ssubD, hk, hj], q⟩
        · exact q.elim
      · exact q.elim
    · exact q.elim
  · refine fun h => h.imp fun d st q => q.imp fun x st q => q.imp fun y st q => ?_
    obtain ⟨st', e, q⟩ := q
    unfold ssubD at e
    split at e
    · split at e
      · rename_i hk
        split at e
        · rename_i hj
          cases e
          first | exact q | (simp only [hk, hj]; exact q)
        · cases e
      · cases e
    · cases e
theorem s_forD {t : Tg} {k : IK} {its : List E} {body : List S} : WS (run Γ cf (.for t k its body) env st) N V ↔ WP (evs Γ cf its env st) fun ds st => ∃ xs, walkD st k ds = some xs ∧
    WS (loopL (fun x env st => match asgT st t x env with
        | some env => runs Γ cf body env st
        | none => .stk) (fun st' => still (refsOf ds) st st') xs env st) N V := by
  constructor
  · intro h
    simp only [run, WS_s] at h
    refine h.imp fun ds st q => ?_
    cases e : walkD st k ds with
    | none => rw [e] at q; exact q.elim
    | some xs => rw [e] at q; exact ⟨xs, rfl, q⟩
  · exact fun h => s_for h fun ds st q => q
theorem s_whlD {c : E} {body : List S} : WS (run Γ cf (.whl c body) env st) N V ↔ WS (loopW (fun env st => testR (ev Γ cf c env st)) (fun env st => runs Γ cf body env st) 1000000 env st) N V := by simp only [run]
theorem w_lcD {own : List Nat} {t : Tg} {k : IK} {its : List E} {c e : E} : WP (ev Γ cf (.lc own t k its c e) env st) Q ↔ WP (evs Γ cf its env st) fun ds st => ∃ xs, walkD st k ds = some xs ∧
    WP (lcL (fun x st' => if still (refsOf ds) st st' = true then lcTurn (asgT st' t x (wipeE env own)) (fun env' st' => if c.nulB = true then .ok true st' else testR (ev Γ cf c env' st')) (fun env' st' => ev Γ cf e env' st') st' else .stk) xs st)
      fun rs st' => still (refsOf ds) st st' = true ∧ rs.length ≤ sizeLine ∧ Q (.lst rs) st' := by
  constructor
  · intro h
    simp only [ev, WP_bind] at h
    refine h.imp fun ds st q => ?_
    cases e1 : walkD st k ds with
    | none => rw [e1] at q; exact q.elim
    | some xs =>
      rw [e1] at q
      refine ⟨xs, rfl, ?_⟩
      simp only at q
      revert q
      generalize lcL _ xs st = r
      intro q
      cases r with
      | ok rs st' =>
        unfold lcEnd at q
        simp only at q
        split at q
        · rename_i hz
          exact ⟨hz.1, hz.2, q⟩
        · exact q.elim
      | _ => exact q.elim
  · exact fun h => w_lc h fun ds st q => q
theorem w_mutD {a : E} : WP (ev Γ cf (.mut a) env st) Q ↔ WP (ev Γ cf a env st) fun d st => mutP Q st d := by
  simp only [ev, WP_bind]
  constructor
  · refine fun h => h.imp fun d st q => ?_
    cases d <;> exact q
  · refine fun h => h.imp fun d st q => ?_
    cases d <;> exact q
theorem mut_lst {ds : List D} : mutP Q st (.lst ds) ↔ Q (.ref st.length) (st ++ [.lst ds]) := Iff.rfl
theorem mut_dct {ks : List Key} {ds : List D} : mutP Q st (.dct ks ds) ↔ Q (.ref st.length) (st ++ [.dct false ks ds]) := Iff.rfl
theorem w_appD {a e : E} : WP (ev Γ cf (.app a e) env st) Q ↔ WP (ev Γ cf a env st) fun x st => (lstD st x).isSome = true ∧ WP (ev Γ cf e env st) fun d st => ∃ st', appS st x d = some st' ∧ Q .non st' := by
  rw [w_app]
  have key : ∀ (x d : D) (st : Store), WP (appD st x d) Q ↔ ∃ st', appS st x d = some st' ∧ Q .non st' := fun x d st => by
    cases x with
    | ref k =>
      cases h : st[k]? with
      | none => simp only [appD, appS, h, WP_stk, ex_none]
      | some m =>
        cases m with
        | lst xs =>
          by_cases hz : xs.length < sizeLine
          · simp only [appD, appS, h, if_pos hz, WP_ok, ex_some]
          · simp only [appD, appS, h, if_neg hz, WP_stk, ex_none]
        | _ => simp only [appD, appS, h, WP_stk, ex_none]
    | _ => simp only [appD, appS, WP_stk, ex_none]
  simp only [key]
/-- a slice's parts -/
theorem p_nul {a : E} {Q : Option Int → Store → Prop} (h : a.nulB = true) : WP (if a.nulB = true then .ok none st else (ev Γ cf a env st).bind fun d st => .of (bnd d) st : R (Option Int)) Q ↔ Q none st := by rw [if_pos h]; exact Iff.rfl
theorem p_some {a : E} {Q : Option Int → Store → Prop} (h : a.nulB = false) : WP (if a.nulB = true then .ok none st else (ev Γ cf a env st).bind fun d st => .of (bnd d) st : R (Option Int)) Q ↔ WP (ev Γ cf a env st) fun d st => ∃ i, bnd d = some i ∧ Q i st := by
  rw [if_neg (by rw [h]; simp), WP_bind]
  simp only [WP_of]
theorem bnd_int {i : Int} : bnd (.int i) = some (some i) := rfl
/-! reading the store -/
theorem idx_at {u : Nat} {xs : List D} {i : Int} (h : st[u]? = some (.lst xs)) : idxD st (.ref u) (.int i) = L2.atI xs i := by
  simp only [idxD, seqD, h]
  rfl
theorem get_set {u : Nat} {o : MO} (h : u < st.length) : (st.set u o)[u]? = some o := List.getElem?_set_self h
theorem get_ne {u v : Nat} {o : MO} (h : u ≠ v) : (st.set u o)[v]? = st[v]? := List.getElem?_set_ne h
theorem ssub_at {u : Nat} {xs : List D} {z : Int} {j : Nat} {d : D} (h : st[u]? = some (.lst xs)) (hj : L2.ixN xs.length z = some j) : ssubD st (.ref u) (.int z) d = some (st.set u (.lst (xs.set j d))) := by simp only [ssubD, h, hj]
end

section
variable {st : Store} {env : Env}
theorem asg_tup2 {i j : Nat} {a b : D} : asgT st (.tup [.nm i, .nm j]) (.tup [a, b]) env = some ((env.set i (some a)).set j (some b)) := by
  simp only [asgT, asgTs, List.length_cons, List.length_nil, if_true]
theorem asg_tup3 {i j k : Nat} {a b c : D} : asgT st (.tup [.nm i, .nm j, .nm k]) (.tup [a, b, c]) env = some (((env.set i (some a)).set j (some b)).set k (some c)) := by
  simp only [asgT, asgTs, List.length_cons, List.length_nil, if_true]
theorem atI_nat {α : Type} {xs : List α} {i : Int} (h0 : 0 ≤ i) (h1 : i.toNat < xs.length) : L2.atI xs i = xs[i.toNat]? := by
  have e : L2.ixN xs.length i = some i.toNat := by
    unfold L2.ixN
    have h2 : i < (xs.length : Int) := by omega
    simp [h0, h2]
  unfold L2.atI
  rw [e] <;> rfl
theorem pys_ints {rf : Nat → Option PyData} : ∀ ns : List Int, pysW rf (ns.map .int) = some (ns.map PyData.int)
  | [] => rfl
  | n :: ns => by
    show (match pyW rf (.int n), pysW rf (ns.map .int) with
      | some a, some b => some (a :: b)
      | _, _ => none) = _
    rw [pys_ints ns]
    rfl
theorem plain_ints : ∀ ns : List Int, PyData.plainAll (ns.map PyData.int) = true
  | [] => rfl
  | n :: ns => by simp only [List.map_cons, PyData.plainAll, PyData.plain, plain_ints ns, Bool.and_self]
theorem ne_nil {c : Nat} {ns : List Int} (h : st[c]? = some (.lst (ns.map .int))) : cmpD st .ne (.ref c) (.lst []) = some (!ns.isEmpty) := by
  have e1 : py st (.ref c) = some (.list (ns.map .int)) := by
    show (match st[c]? with
      | some (.lst xs) => (pysW (pyR 7 st) xs).map PyData.list
      | some (.dct false [] _) => some (PyData.dict [])
      | _ => none) = _
    rw [h]
    simp only [pys_ints, Option.map_some]
  have e2 : py st (.lst []) = some (.list []) := rfl
  simp only [cmpD, eqD, eqP, e1, e2, PyData.plain, PyData.plainAll, plain_ints, Bool.and_self, PyData.depth, PyData.depthAll]
  cases ns with
  | nil => simp [PyData.eqv, PyData.eqvAll]
  | cons n ns => simp [PyData.eqv, PyData.eqvAll]
theorem len_at {c : Nat} {xs : List D} (h : st[c]? = some (.lst xs)) : biD st .len [.ref c] = some (.int xs.length) := by
  simp only [biD, bi1, lenD, seqD, h, Option.map_some]
theorem int_i {i : Int} : biD st .int [.int i] = some (.int i) := rfl
end

section
variable {Γ : Tx} {cf : CF} {env : Env} {st : Store} {Q : D → Store → Prop}
/-- a comprehension over a range: J stays true of the store, P holds of each value -/
theorem lcL_J {f : D → Store → R (Option D)} {xs : List D} {Q : List D → Store → Prop} (J : Store → Prop) (P : D → Prop) (hJ : J st) (hf : ∀ x ∈ xs, ∀ s, J s → WP (f x s) fun r s' => J s' ∧ ∃ d, r = some d ∧ P d)
    (hq : ∀ rs s, J s → rs.length = xs.length → (∀ d ∈ rs, P d) → Q rs s) : WP (lcL f xs st) Q := by
  refine WP_lcL (fun rest acc s => J s ∧ acc.length + rest.length = xs.length ∧ (∀ d ∈ acc, P d) ∧ ∀ x ∈ rest, x ∈ xs) (fun x rest acc s h => ?_) xs [] st ⟨hJ, by simp, by simp, fun _ h => h⟩ fun acc s h => ?_
  · obtain ⟨h1, h2, h3, h4⟩ := h
    refine (hf x (h4 x (by simp)) s h1).imp fun r s' ⟨q1, d, q2, q3⟩ => ?_
    subst q2
    refine ⟨q1, ?_, ?_, fun y hy => h4 y (List.mem_cons_of_mem _ hy)⟩
    · simp only [List.length_append, List.length_cons, List.length_nil] at h2 ⊢
      omega
    · intro e he
      rcases List.mem_append.mp he with he | he
      · exact h3 e he
      · rw [List.mem_singleton.mp he]; exact q3
  · obtain ⟨h1, h2, h3, _⟩ := h
    simp only [List.nil_append] at h2 h3
    exact hq acc s h1 (by simpa using h2) h3
theorem w_lc_rng {own : List Nat} {i : Nat} {a e : E} (J : Store → Prop) (P : D → Prop) (h : WP (ev Γ cf a env st) fun d s => ∃ n : Int, d = .int n ∧ (-(2 ^ 62) ≤ n ∧ n < 2 ^ 62) ∧ n.toNat ≤ sizeLine ∧ J s ∧
      (∀ (j : Int) (s' : Store), J s' → WP (ev Γ cf e ((wipeE env own).set i (some (.int j))) s') fun d s'' => J s'' ∧ P d) ∧ ∀ rs s', J s' → rs.length = n.toNat → (∀ d ∈ rs, P d) → Q (.lst rs) s') :
    WP (ev Γ cf (.lc own (.nm i) .rng1 [a] .nul e) env st) Q := by
  rw [w_lcD, w_evs]
  refine h.imp fun d s ⟨n, hd, hn, hz, hj, he, hq⟩ => ?_
  subst hd
  rw [w_evs0]
  refine ⟨rngL 0 n.toNat, by simp only [walkD, if_pos hn], ?_⟩
  refine lcL_J J P hj (fun x hx s' hs' => ?_) fun rs s' q1 q2 q3 => ?_
  · obtain ⟨k, hk⟩ := List.getElem?_of_mem hx
    obtain ⟨_, e1⟩ := rngL_get _ _ _ _ hk
    subst e1
    have e2 : still (refsOf [D.int n]) s s' = true := still_ok.mpr fun k hk => by cases hk
    rw [if_pos e2, asg_nm]
    unfold lcTurn
    simp only [E.nulB, if_true]
    show WP ((ev Γ cf e _ s').bind fun d st => .ok (some d) st) _
    rw [WP_bind]
    exact (he _ s' hs').imp fun d s'' ⟨z1, z2⟩ => ⟨z1, d, rfl, z2⟩
  · rw [rngL_len] at q2
    exact ⟨still_ok.mpr fun k hk => (by cases hk), by omega, hq rs s' q1 q2 q3⟩
theorem len_l {xs : List D} : biD st .len [.lst xs] = some (.int xs.length) := rfl
theorem len_t {xs : List D} : biD st .len [.tup xs] = some (.int xs.length) := rfl
theorem len_s {x : Str} : biD st .len [.str x] = some (.int x.length) := rfl
theorem idx_l {xs : List D} {i : Int} : idxD st (.lst xs) (.int i) = L2.atI xs i := rfl
theorem idx_t {xs : List D} {i : Int} : idxD st (.tup xs) (.int i) = L2.atI xs i := rfl
theorem tuple_l {xs : List D} : biD st .tuple [.lst xs] = some (.tup xs) := rfl
theorem tuple_r {c : Nat} {xs : List D} (h : st[c]? = some (.lst xs)) : biD st .tuple [.ref c] = some (.tup xs) := by simp only [biD, bi1, seqD, h, Option.map_some]
/-- one-sign texts -/
def one (c : Nat) : D := .str ⟨#[c]⟩
theorem strsD_one : ∀ cs : List Nat, strsD (cs.map one) = some (cs.map fun c => ⟨#[c]⟩)
  | [] => rfl
  | c :: cs => by
    show (strsD (cs.map one)).map _ = _
    rw [strsD_one cs]
    rfl
theorem join_one : ∀ cs : List Nat, Txt.join "" (cs.map fun c => (⟨#[c]⟩ : Str)) = ⟨cs.toArray⟩ := fun cs => by
  have h := PyProof.Rows.join_nil_signs ⟨cs.toArray⟩
  have e : PyProof.Rows.signs ⟨cs.toArray⟩ = cs.map fun c => (⟨#[c]⟩ : Str) := by
    unfold PyProof.Rows.signs
    simp
  rw [e] at h
  have e2 : ("" : Str) = ⟨#[]⟩ := by decide
  show Builtin.Str.glued _ _ = _
  rw [e2, StrLaws.glued_eq_join]
  exact h
end
end Cip

set_option maxHeartbeats 4000000
/-! Cip27: closed data: equality, texts of data. -/
namespace Cip
open PySem

mutual
/-- no object of the store in it -/
def Cl : D → Bool
  | .non => true
  | .bl _ => true
  | .int _ => true
  | .str _ => true
  | .tup xs => Cls xs
  | .lst xs => Cls xs
  | .dct ks _ => ks.isEmpty
  | .scr _ => false
  | .ref _ => false
def Cls : List D → Bool
  | [] => true
  | x :: xs => Cl x && Cls xs
end
mutual
def tp : D → PyData
  | .non => .none
  | .bl b => .bool b
  | .int i => .int i
  | .str x => .str x
  | .tup xs => .tuple (tps xs)
  | .lst xs => .list (tps xs)
  | .dct _ _ => .dict []
  | .scr _ => .none
  | .ref _ => .none
def tps : List D → List PyData
  | [] => []
  | x :: xs => tp x :: tps xs
end
mutual
theorem pyW_cl {rf : Nat → Option PyData} : ∀ d : D, Cl d = true → pyW rf d = some (tp d)
  | .non, _ => rfl
  | .bl _, _ => rfl
  | .int _, _ => rfl
  | .str _, _ => rfl
  | .tup xs, h => by simp only [pyW, tp, pysW_cl xs h, Option.map_some]
  | .lst xs, h => by simp only [pyW, tp, pysW_cl xs h, Option.map_some]
  | .dct ks vs, h => by
    have h : ks.isEmpty = true := h
    simp only [pyW, tp, h, if_true]
  | .scr _, h => by cases h
  | .ref _, h => by cases h
theorem pysW_cl {rf : Nat → Option PyData} : ∀ ds : List D, Cls ds = true → pysW rf ds = some (tps ds)
  | [], _ => rfl
  | x :: xs, h => by
    have h : (Cl x && Cls xs) = true := h
    rw [Bool.and_eq_true] at h
    simp only [pysW, tps, pyW_cl x h.1, pysW_cl xs h.2]
end
theorem py_cl {st : Store} {d : D} (h : Cl d = true) : py st d = some (tp d) := pyW_cl d h
theorem Cls_all : ∀ {xs : List D}, Cls xs = true ↔ ∀ x ∈ xs, Cl x = true
  | [] => ⟨fun _ _ h => (List.not_mem_nil h).elim, fun _ => rfl⟩
  | x :: xs => by
    show (Cl x && Cls xs) = true ↔ _
    rw [Bool.and_eq_true, Cls_all, List.forall_mem_cons]
theorem tps_map : ∀ xs : List D, tps xs = xs.map tp
  | [] => rfl
  | x :: xs => by simp only [tps, tps_map xs, List.map_cons]
mutual
/-- plain and closed: no dict -/
def Pn1 : D → Bool
  | .non => true
  | .bl _ => true
  | .int _ => true
  | .str _ => true
  | .tup xs => Pn1s xs
  | .lst xs => Pn1s xs
  | .dct _ _ => false
  | .scr _ => false
  | .ref _ => false
def Pn1s : List D → Bool
  | [] => true
  | x :: xs => Pn1 x && Pn1s xs
end
mutual
theorem pn_cl : ∀ d : D, Pn1 d = true → Cl d = true ∧ (tp d).plain = true ∧ d.mx = 0
  | .non, _ => ⟨rfl, rfl, rfl⟩
  | .bl _, _ => ⟨rfl, rfl, rfl⟩
  | .int _, _ => ⟨rfl, rfl, rfl⟩
  | .str _, _ => ⟨rfl, rfl, rfl⟩
  | .tup xs, h => by
    obtain ⟨h1, h2, h3⟩ := pns_cl xs h
    exact ⟨h1, by simp only [tp, PyData.plain]; exact h2, h3⟩
  | .lst xs, h => by
    obtain ⟨h1, h2, h3⟩ := pns_cl xs h
    exact ⟨h1, by simp only [tp, PyData.plain]; exact h2, h3⟩
  | .dct _ _, h => by cases h
  | .scr _, h => by cases h
  | .ref _, h => by cases h
theorem pns_cl : ∀ ds : List D, Pn1s ds = true → Cls ds = true ∧ PyData.plainAll (tps ds) = true ∧ D.mxs ds = 0
  | [], _ => ⟨rfl, rfl, rfl⟩
  | x :: xs, h => by
    have h : (Pn1 x && Pn1s xs) = true := h
    rw [Bool.and_eq_true] at h
    obtain ⟨h1, h2, h3⟩ := pn_cl x h.1
    obtain ⟨h4, h5, h6⟩ := pns_cl xs h.2
    refine ⟨?_, ?_, ?_⟩
    · show (Cl x && Cls xs) = true
      rw [h1, h4] <;> rfl
    · simp only [tps, PyData.plainAll, h2, h5, Bool.and_self]
    · show max (D.mx x) (D.mxs xs) = 0
      rw [h3, h6] <;> rfl
end
theorem Pn1s_all : ∀ {xs : List D}, Pn1s xs = true ↔ ∀ x ∈ xs, Pn1 x = true
  | [] => ⟨fun _ _ h => (List.not_mem_nil h).elim, fun _ => rfl⟩
  | x :: xs => by
    show (Pn1 x && Pn1s xs) = true ↔ _
    rw [Bool.and_eq_true, Pn1s_all, List.forall_mem_cons]
/-- == of plain data -/
theorem eq_pn {st : Store} {a b : D} (ha : Pn1 a = true) (hb : Pn1 b = true) (hd : min (tp a).depth (tp b).depth ≤ 100) : eqD st a b = some (PyData.eqv (tp a) (tp b)) := by
  obtain ⟨h1, h2, _⟩ := pn_cl a ha
  obtain ⟨h3, h4, _⟩ := pn_cl b hb
  simp only [eqD, eqP, py_cl h1, py_cl h3, h2, h4, Bool.and_self, Bool.true_and, if_pos (decide_eq_true hd)]
theorem c_eq_pn {st : Store} {a b : D} (ha : Pn1 a = true) (hb : Pn1 b = true) (hd : min (tp a).depth (tp b).depth ≤ 100) : cmpD st .eq a b = some (PyData.eqv (tp a) (tp b)) := eq_pn ha hb hd
theorem c_ne_pn {st : Store} {a b : D} (ha : Pn1 a = true) (hb : Pn1 b = true) (hd : min (tp a).depth (tp b).depth ≤ 100) : cmpD st .ne a b = some (!PyData.eqv (tp a) (tp b)) := by
  show (eqD st a b).map (!·) = _
  rw [eq_pn ha hb hd] <;> rfl
/-- a list of the store, against none -/
theorem ne_nilP {st : Store} {c : Nat} {xs : List D} (h : st[c]? = some (.lst xs)) (hp : Pn1s xs = true) : cmpD st .ne (.ref c) (.lst []) = some (!xs.isEmpty) := by
  obtain ⟨h1, h2, _⟩ := pns_cl xs hp
  have e1 : py st (.ref c) = some (.list (tps xs)) := by
    show (match st[c]? with
      | some (.lst xs) => (pysW (pyR 7 st) xs).map PyData.list
      | some (.dct false [] _) => some (PyData.dict [])
      | _ => none) = _
    rw [h]
    simp only [pysW_cl xs h1, Option.map_some]
  have e2 : py st (.lst []) = some (.list []) := rfl
  simp only [cmpD, eqD, eqP, e1, e2, PyData.plain, PyData.plainAll, h2, Bool.and_self, PyData.depth, PyData.depthAll]
  cases xs with
  | nil => simp [PyData.eqv, PyData.eqvAll, tps]
  | cons n ns => simp [PyData.eqv, PyData.eqvAll, tps]
/-! ### the text of data -/
mutual
/-- l: lists may stand there, c: an empty dict may -/
def Gd (l c : Bool) : D → Bool
  | .non => true
  | .bl _ => true
  | .int i => decide (i.natAbs < 10 ^ 25)
  | .str x => x.cps.toList.all fun n => decide (n < 16 ^ 8)
  | .tup xs => Gds l c xs
  | .lst xs => l && Gds l c xs
  | .dct ks _ => c && ks.isEmpty
  | .scr _ => false
  | .ref _ => false
def Gds (l c : Bool) : List D → Bool
  | [] => true
  | x :: xs => Gd l c x && Gds l c xs
end
mutual
def bk : D → Nat
  | .str x => x.cps.size
  | .tup xs => bks xs
  | .lst xs => bks xs
  | .non => 0
  | .bl _ => 0
  | .int _ => 0
  | .dct _ _ => 0
  | .scr _ => 0
  | .ref _ => 0
def bks : List D → Nat
  | [] => 0
  | x :: xs => bk x + 1 + bks xs
end
mutual
def dp : D → Nat
  | .tup xs => dps xs + 1
  | .lst xs => dps xs + 1
  | .dct _ _ => 1
  | .non => 0
  | .bl _ => 0
  | .int _ => 0
  | .str _ => 0
  | .scr _ => 0
  | .ref _ => 0
def dps : List D → Nat
  | [] => 0
  | x :: xs => max (dp x) (dps xs)
end
theorem int_short {i : Int} (h : i.natAbs < 10 ^ 25) : (PyData.shown (.int i)).length ≤ 26 ∧ i.natAbs.log2 < 1920 := by
  have e := int_text_length_le10 (k := 25) (by decide) h
  refine ⟨?_, ?_⟩
  · show (Str.ofString (toString i)).length ≤ 26
    rw [ofString_length]
    exact e
  · by_cases h0 : i.natAbs = 0
    · rw [h0]; decide
    · refine (Nat.log2_lt h0).mpr (Nat.lt_of_lt_of_le h ?_)
      exact Nat.le_trans (by decide : 10 ^ 25 ≤ 2 ^ 84) (Nat.pow_le_pow_right (by omega) (by omega))
mutual
theorem gd_ok {l c : Bool} : ∀ d : D, Gd l c d = true → Cl d = true ∧ (tp d).leavesShort 26 = true ∧ (tp d).showable = true ∧ (tp d).bulk = bk d ∧ (tp d).depth ≤ dp d ∧ (l = false → hasL (tp d) = false) ∧ (c = false → (tp d).hasDict = false)
  | .non, _ => ⟨rfl, rfl, rfl, rfl, Nat.le_refl _, fun _ => rfl, fun _ => rfl⟩
  | .bl _, _ => ⟨rfl, rfl, rfl, rfl, Nat.le_refl _, fun _ => rfl, fun _ => rfl⟩
  | .int i, h => by
    obtain ⟨h1, h2⟩ := int_short (of_decide_eq_true h)
    exact ⟨rfl, decide_eq_true h1, decide_eq_true h2, rfl, Nat.le_refl _, fun _ => rfl, fun _ => rfl⟩
  | .str x, h => ⟨rfl, h, rfl, rfl, Nat.le_refl _, fun _ => rfl, fun _ => rfl⟩
  | .tup xs, h => by
    obtain ⟨h1, h2, h3, h4, h5, h6, h7⟩ := gds_ok xs h
    refine ⟨h1, ?_, ?_, ?_, ?_, fun e => ?_, fun e => ?_⟩
    · simp only [tp, PyData.leavesShort]; exact h2
    · simp only [tp, PyData.showable]; exact h3
    · simp only [tp, PyData.bulk, bk]; exact h4
    · simp only [tp, PyData.depth, dp]; omega
    · simp only [tp, hasL]; exact h6 e
    · simp only [tp, PyData.hasDict]; exact h7 e
  | .lst xs, h => by
    have h : (l && Gds l c xs) = true := h
    rw [Bool.and_eq_true] at h
    obtain ⟨h1, h2, h3, h4, h5, h6, h7⟩ := gds_ok xs h.2
    refine ⟨h1, ?_, ?_, ?_, ?_, fun e => ?_, fun e => ?_⟩
    · simp only [tp, PyData.leavesShort]; exact h2
    · simp only [tp, PyData.showable]; exact h3
    · simp only [tp, PyData.bulk, bk]; exact h4
    · simp only [tp, PyData.depth, dp]; omega
    · rw [e] at h; cases h.1
    · simp only [tp, PyData.hasDict]; exact h7 e
  | .dct ks vs, h => by
    have h : (c && ks.isEmpty) = true := h
    rw [Bool.and_eq_true] at h
    exact ⟨h.2, rfl, rfl, rfl, Nat.le_refl _, fun _ => rfl, fun e => by rw [e] at h; cases h.1⟩
  | .scr _, h => by cases h
  | .ref _, h => by cases h
theorem gds_ok {l c : Bool} : ∀ ds : List D, Gds l c ds = true → Cls ds = true ∧ PyData.leavesShortAll 26 (tps ds) = true ∧ PyData.showableAll (tps ds) = true ∧ PyData.bulkAll (tps ds) = bks ds ∧ PyData.depthAll (tps ds) ≤ dps ds ∧ (l = false → hasLs (tps ds) = false) ∧ (c = false → PyData.hasDictAll (tps ds) = false)
  | [], _ => ⟨rfl, rfl, rfl, rfl, Nat.le_refl _, fun _ => rfl, fun _ => rfl⟩
  | x :: xs, h => by
    have h : (Gd l c x && Gds l c xs) = true := h
    rw [Bool.and_eq_true] at h
    obtain ⟨h1, h2, h3, h4, h5, h6, h7⟩ := gd_ok x h.1
    obtain ⟨g1, g2, g3, g4, g5, g6, g7⟩ := gds_ok xs h.2
    refine ⟨?_, ?_, ?_, ?_, ?_, fun e => ?_, fun e => ?_⟩
    · show (Cl x && Cls xs) = true
      rw [h1, g1] <;> rfl
    · simp only [tps, PyData.leavesShortAll, h2, g2, Bool.and_self]
    · simp only [tps, PyData.showableAll, h3, g3, Bool.and_self]
    · simp only [tps, PyData.bulkAll, bks, h4, g4]
    · simp only [tps, PyData.depthAll, dps]; omega
    · simp only [tps, hasLs, h6 e, g6 e, Bool.or_self]
    · simp only [tps, PyData.hasDictAll, h7 e, g7 e, Bool.or_self]
end
theorem Gds_all {l c : Bool} : ∀ {xs : List D}, Gds l c xs = true ↔ ∀ x ∈ xs, Gd l c x = true
  | [] => ⟨fun _ _ h => (List.not_mem_nil h).elim, fun _ => rfl⟩
  | x :: xs => by
    show (Gd l c x && Gds l c xs) = true ↔ _
    rw [Bool.and_eq_true, Gds_all, List.forall_mem_cons]
/-- the text is there -/
theorem repr_gd {st : Store} {l c : Bool} {d : D} (h : Gd l c d = true) (hm : l = false ∨ c = false) (hb : bk d ≤ 500000) (hd : dp d ≤ 100) : biD st .repr [d] = some (.str (tp d).shown) := by
  obtain ⟨h1, h2, h3, h4, h5, h6, h7⟩ := gd_ok d h
  have e := PyData.shown_le_bulk 26 (by decide) (tp d) h2
  rw [h4] at e
  have hz : sizeLine = 16777216 := by decide
  have hsz : (tp d).shown.length ≤ sizeLine := by omega
  have hmix : ((tp d).hasDict && hasL (tp d)) = false := by
    rcases hm with hm | hm
    · rw [h6 hm, Bool.and_false]
    · rw [h7 hm, Bool.false_and]
  show (reprD st d).map D.str = _
  unfold reprD
  rw [py_cl h1]
  simp only [hmix, h3, decide_eq_true hsz, decide_eq_true (Nat.le_trans h5 hd), Bool.not_false, Bool.and_self, if_true, Option.map_some]
end Cip

set_option maxHeartbeats 4000000
/-! Cip28: a list of anything, against the empty list. -/
namespace Cip
open PySem PySem.Spec PyProof.Rows L2
theorem eqP_nil {st : Store} {x : D} {xs : List D} : eqP st (.lst (x :: xs)) (.lst []) = none ∨ eqP st (.lst (x :: xs)) (.lst []) = some false := by
  have e2 : py st (.lst []) = some (.list []) := rfl
  have e1 : py st (.lst (x :: xs)) = none ∨ ∃ p ps, py st (.lst (x :: xs)) = some (.list (p :: ps)) := by
    show (pysW (pyR 8 st) (x :: xs)).map PyData.list = none ∨ ∃ p ps, (pysW (pyR 8 st) (x :: xs)).map PyData.list = some (.list (p :: ps))
    simp only [pysW]
    cases pyW (pyR 8 st) x with
    | none => exact .inl rfl
    | some a => cases pysW (pyR 8 st) xs with
      | none => exact .inl rfl
      | some as => exact .inr ⟨a, as, rfl⟩
  unfold eqP
  rcases e1 with e1 | ⟨p, ps, e1⟩
  · rw [e1]; exact .inl rfl
  · rw [e1, e2]
    simp only
    split
    · exact .inr (by simp [PyData.eqv, PyData.eqvAll])
    · exact .inl rfl
theorem eq_nilL {st : Store} (xs : List D) : cmpD st .eq (.lst xs) (.lst []) = some xs.isEmpty := by
  show eqD st _ _ = _
  unfold eqD
  cases xs with
  | nil =>
    have e2 : py st (.lst []) = some (.list []) := rfl
    have : eqP st (.lst []) (.lst []) = some true := by
      unfold eqP
      rw [e2]
      simp [PyData.plain, PyData.plainAll, PyData.depth, PyData.depthAll, PyData.eqv, PyData.eqvAll]
    rw [this] <;> rfl
  | cons x xs =>
    rcases eqP_nil (st := st) (x := x) (xs := xs) with h | h
    · rw [h]
      simp [eqL, lstD]
    · rw [h] <;> rfl
theorem ne_nilL {st : Store} (xs : List D) : cmpD st .ne (.lst xs) (.lst []) = some (!xs.isEmpty) := by
  have h := eq_nilL (st := st) xs
  have h : eqD st (.lst xs) (.lst []) = some xs.isEmpty := h
  show (eqD st _ _).map (!·) = _
  rw [h] <;> rfl
end Cip

set_option maxHeartbeats 0
namespace Cip
open PySem PySem.Spec PyProof.Rows L2
namespace Law
def cons : List (Str × D) := [("LETTERS", (.str "abcdefghijklmnopqrstuvwxyz")), ("DIGITS", (.str "0123456789")), ("MAX_WORD", (.int 12)), ("MAX_DEPTH", (.int 6)), ("MAX_CELLS", (.int 12)), ("MAX_LINES", (.int 200)), ("MAX_SHORT", (.int 40)), ("MAX_LONG", (.int 491))]
/-- is_integer -/
def f0 : FT := ⟨"is_integer", ["thing"], 1, [
  .ret (.and [(.isi (.var 0) .int), (.not (.isi (.var 0) .bool))])]⟩
/-- is_character -/
def f1 : FT := ⟨"is_character", ["sign"], 1, [
  .ret (.chn .le .le (.str " ") (.var 0) (.str "~"))]⟩
/-- is_word -/
def f2 : FT := ⟨"is_word", ["thing", "sign"], 1, [
  .ret (.and [(.isi (.var 0) .str), (.chn .lt .le (.int 0) (.bi .len [(.var 0)]) (.con 2)), (.bi .all [(.lc [1] (.nm 1) .val [(.var 0)] .nul (.cmp .isin (.var 1) (.bin .add (.con 0) (.con 1))))])])]⟩
/-- is_marks -/
def f3 : FT := ⟨"is_marks", ["thing", "part"], 1, [
  .ite (.or [(.not (.isi (.var 0) .tuple)), (.cmp .ne (.bi .len [(.var 0)]) (.int 3)), (.not (.bi .all [(.lc [1] (.nm 1) .val [(.slc (.var 0) (.int 1) .nul)] .nul (.isi (.var 1) .bool))]))]) [.ret (.bl false)] [],
  .ret (.and [(.isi (.idx (.var 0) (.int 0)) .str), (.or [(.cmp .eq (.idx (.var 0) (.int 0)) (.str "")), (.call 2 [(.idx (.var 0) (.int 0))])])])]⟩
/-- is_piece -/
def f4 : FT := ⟨"is_piece", ["thing", "sign"], 1, [
  .ite (.or [(.not (.isi (.var 0) .tuple)), (.cmp .ne (.bi .len [(.var 0)]) (.int 2)), (.not (.isi (.idx (.var 0) (.int 0)) .str)), (.cmp .eq (.idx (.var 0) (.int 0)) (.str ""))]) [.ret (.bl false)] [],
  .ret (.and [(.bi .all [(.lc [1] (.nm 1) .val [(.idx (.var 0) (.int 0))] .nul (.call 1 [(.var 1)]))]), (.call 3 [(.idx (.var 0) (.int 1))])])]⟩
/-- is_cell -/
def f5 : FT := ⟨"is_cell", ["thing", "one", "other", "piece"], 1, [
  .ite (.or [(.not (.isi (.var 0) .tuple)), (.not (.bi .all [(.lc [3] (.nm 3) .val [(.var 0)] .nul (.call 4 [(.var 3)]))]))]) [.ret (.bl false)] [],
  .ret (.bi .all [(.lc [1, 2] (.tup [(.nm 1), (.nm 2)]) .zip2 [(.var 0), (.slc (.var 0) (.int 1) .nul)] .nul (.cmp .ne (.idx (.var 1) (.int 1)) (.idx (.var 2) (.int 1))))])]⟩
/-- size_of -/
def f6 : FT := ⟨"size_of", ["cell", "text", "marks"], 1, [
  .ret (.bi .sum [(.lc [1, 2] (.tup [(.nm 1), (.nm 2)]) .val [(.var 0)] .nul (.bi .len [(.var 1)]))])]⟩
/-- is_line -/
def f7 : FT := ⟨"is_line", ["thing", "depth", "cells", "cell"], 1, [
  .ite (.or [(.not (.isi (.var 0) .tuple)), (.cmp .ne (.bi .len [(.var 0)]) (.int 2)), (.not (.call 0 [(.idx (.var 0) (.int 0))])), (.not (.isi (.idx (.var 0) (.int 1)) .tuple))]) [.ret (.bl false)] [],
  .asg (.tup [(.nm 1), (.nm 2)]) (.var 0),
  .ite (.or [(.not (.chn .le .le (.int 0) (.var 1) (.con 3))), (.not (.chn .lt .le (.int 0) (.bi .len [(.var 2)]) (.con 4))), (.not (.bi .all [(.lc [3] (.nm 3) .val [(.var 2)] .nul (.call 5 [(.var 3)]))]))]) [.ret (.bl false)] [],
  .ret (.bi .all [(.lc [3] (.nm 3) .val [(.var 2)] .nul (.cmp .le (.call 6 [(.var 3)]) (.ite (.cmp .eq (.bi .len [(.var 2)]) (.int 1)) (.con 7) (.con 6))))])]⟩
/-- is_content -/
def f8 : FT := ⟨"is_content", ["thing", "line"], 1, [
  .ret (.and [(.isi (.var 0) .tuple), (.chn .lt .le (.int 0) (.bi .len [(.var 0)]) (.con 5)), (.bi .all [(.lc [1] (.nm 1) .val [(.var 0)] .nul (.call 7 [(.var 1)]))])])]⟩
/-- _law_churned -/
def f9 : FT := ⟨"_law_churned", ["seed", "lap", "prime", "amount", "again"], 2, [
  .asg (.nm 2) (.int 2305843009213693921),
  .asg (.nm 3) (.bin .mod (.bin .add (.bin .add (.bin .mul (.var 0) (.int 6364136223846793005)) (.bin .mul (.var 1) (.int 1442695040888963407))) (.int 41)) (.var 2)),
  .for (.nm 4) .rng1 [(.int 4)] [.asg (.nm 3) (.bin .mod (.bin .add (.bin .add (.bin .add (.bin .mul (.var 3) (.var 3)) (.bin .mul (.int 7) (.var 3))) (.bin .mul (.int 8191) (.var 4))) (.var 1)) (.var 2))],
  .ret (.bin .add (.bin .mul (.var 3) (.var 2)) (.bin .mod (.bin .add (.bin .mul (.var 3) (.int 48271)) (.var 1)) (.var 2)))]⟩
/-- _law_urn_of -/
def f10 : FT := ⟨"_law_urn_of", ["script", "cells", "place", "cell"], 1, [
  .asg (.nm 1) (.mut (.lc [3] (.nm 3) .val [(.slc (.var 0) .nul (.int 18))] .nul (.bi .abs [(.var 3)]))),
  .for (.tup [(.nm 2), (.nm 3)]) .enum [(.slc (.var 0) (.int 18) (.int 60))] [.ssub (.var 1) (.bin .mod (.var 2) (.int 18)) (.bin .add (.idx (.var 1) (.bin .mod (.var 2) (.int 18))) (.bi .abs [(.var 3)]))],
  .ret (.mut (.lst [(.var 1), (.int 0), (.int 0), (.int 0)]))]⟩
/-- _law_upto -/
def f11 : FT := ⟨"_law_upto", ["urn", "bound", "cells", "place", "amount", "found"], 2, [
  .ite (.cmp .lt (.idx (.var 0) (.int 3)) (.var 1)) [.asg (.tup [(.nm 2), (.nm 3)]) (.tup [(.idx (.var 0) (.int 0)), (.idx (.var 0) (.int 1))]), .asg (.nm 4) (.ite (.cmp .ne (.var 2) (.lst [])) (.idx (.var 2) (.bin .mod (.var 3) (.bi .len [(.var 2)]))) (.int 0)), .ite (.or [(.cmp .ge (.var 3) (.bi .len [(.var 2)])), (.cmp .lt (.var 4) (.bin .pow (.int 10) (.int 16)))]) [.asg (.nm 4) (.call 9 [(.bin .mod (.bi .int [(.var 4)]) (.int 982451653)), (.var 3)])] [], .ssub (.var 0) (.int 1) (.bin .add (.var 3) (.int 1)), .ssub (.var 0) (.int 2) (.var 4), .ssub (.var 0) (.int 3) (.var 4)] [],
  .asg (.nm 5) (.bin .mod (.bi .int [(.idx (.var 0) (.int 2))]) (.var 1)),
  .ssub (.var 0) (.int 2) (.bin .fdiv (.idx (.var 0) (.int 2)) (.var 1)),
  .ssub (.var 0) (.int 3) (.bin .fdiv (.idx (.var 0) (.int 3)) (.var 1)),
  .ret (.var 5)]⟩
/-- _law_choice -/
def f12 : FT := ⟨"_law_choice", ["urn", "items"], 2, [
  .ret (.idx (.var 1) (.call 11 [(.var 0), (.bi .len [(.var 1)])]))]⟩
/-- _law_equal -/
def f13 : FT := ⟨"_law_equal", ["one", "other"], 2, [
  .ret (.cmp .eq (.bi .repr [(.var 0)]) (.bi .repr [(.var 1)]))]⟩
/-- _law_some_text -/
def f14 : FT := ⟨"_law_some_text", ["urn", "many", "signs", "turn"], 3, [
  .ret (.bm .join (.str "") [(.lc [3] (.nm 3) .rng1 [(.var 1)] .nul (.call 12 [(.var 0), (.var 2)]))])]⟩
/-- _law_some_marks -/
def f15 : FT := ⟨"_law_some_marks", ["urn", "link"], 1, [
  .asg (.nm 1) (.call 12 [(.var 0), (.lst [(.str ""), (.str ""), (.str ""), (.str "w"), (.str "w1"), (.str "abcdefghijk9")])]),
  .ret (.tup [(.var 1), (.cmp .eq (.call 11 [(.var 0), (.int 3)]) (.int 0)), (.cmp .eq (.call 11 [(.var 0), (.int 3)]) (.int 0))])]⟩
/-- _law_joined -/
def f16 : FT := ⟨"_law_joined", ["parts", "found", "text", "marks"], 1, [
  .asg (.nm 1) (.mut (.lst [])),
  .for (.tup [(.nm 2), (.nm 3)]) .val [(.var 0)] [.ite (.and [(.cmp .ne (.var 2) (.str "")), (.cmp .ne (.var 1) (.lst [])), (.cmp .eq (.idx (.idx (.var 1) (.neg (.int 1))) (.int 1)) (.var 3))]) [.ssub (.var 1) (.neg (.int 1)) (.tup [(.bin .add (.idx (.idx (.var 1) (.neg (.int 1))) (.int 0)) (.var 2)), (.var 3)])] [.ite (.cmp .ne (.var 2) (.str "")) [.exp (.app (.var 1) (.tup [(.var 2), (.var 3)]))] []]],
  .ret (.bi .tuple [(.var 1)])]⟩
/-- _law_some_cell -/
def f17 : FT := ⟨"_law_some_cell", ["urn", "most", "signs", "parts", "left", "many"], 3, [
  .asg (.tup [(.nm 3), (.nm 4)]) (.tup [(.mut (.lst [])), (.call 11 [(.var 0), (.bin .add (.var 1) (.int 1))])]),
  .whl (.cmp .gt (.var 4) (.int 0)) [.asg (.nm 5) (.bin .add (.int 1) (.call 11 [(.var 0), (.var 4)])), .exp (.app (.var 3) (.tup [(.call 14 [(.var 0), (.var 5), (.var 2)]), (.call 15 [(.var 0)])])), .asg (.nm 4) (.bin .sub (.var 4) (.var 5))],
  .ret (.call 16 [(.var 3)])]⟩
/-- _law_some_line -/
def f18 : FT := ⟨"_law_some_line", ["urn", "signs", "many", "most", "cell"], 2, [
  .asg (.nm 2) (.call 12 [(.var 0), (.lst [(.int 1), (.int 1), (.int 2), (.int 3), (.int 12)])]),
  .asg (.nm 3) (.call 12 [(.var 0), (.lst [(.int 3), (.int 9), (.ite (.cmp .gt (.var 2) (.int 1)) (.int 40) (.int 60))])]),
  .ret (.tup [(.call 12 [(.var 0), (.lst [(.int 0), (.int 0), (.int 1), (.int 2), (.int 6)])]), (.bi .tuple [(.lc [4] (.nm 4) .rng1 [(.var 2)] .nul (.call 17 [(.var 0), (.var 3), (.var 1)]))])])]⟩
/-- _law_some_content -/
def f19 : FT := ⟨"_law_some_content", ["urn", "signs", "line"], 2, [
  .ret (.bi .tuple [(.lc [2] (.nm 2) .rng1 [(.bin .add (.int 1) (.call 11 [(.var 0), (.int 4)]))] .nul (.call 18 [(.var 0), (.var 1)]))])]⟩
/-- _law_odd -/
def f20 : FT := ⟨"_law_odd", ["urn", "thing", "some", "place"], 2, [
  .asg (.nm 2) (.lst [.non, (.bl true), (.int 0), (.int 1), (.str ""), (.str "x"), (.tup []), (.lst []), (.dct []), (.tup [(.var 1)]), (.lst [(.var 1)]), (.bin .pow (.int 10) (.int 20)), (.str "A"), (.str "a b"), (.str "\n"), (.str "\t"), (.bin .sub (.int 0) (.int 1)), (.int 7)]),
  .ite (.isi (.var 1) .tuple) [.asg (.nm 2) (.bin .add (.var 2) (.lst [(.bi .list [(.var 1)]), (.bin .add (.var 1) (.tup [(.int 0)])), (.slc (.var 1) .nul (.neg (.int 1))), (.bin .add (.var 1) (.slc (.var 1) (.neg (.int 1)) .nul))]))] [],
  .ite (.isi (.var 1) .str) [.asg (.nm 3) (.call 11 [(.var 0), (.bin .add (.bi .len [(.var 1)]) (.int 1))]), .asg (.nm 2) (.bin .add (.var 2) (.lst [(.bin .add (.var 1) (.str "\n")), (.bin .add (.var 1) (.str " ")), (.bin .add (.bm .upper (.var 1) []) (.str "Z")), (.lst [(.var 1)]), (.bin .add (.var 1) (.str "\t"))])), .asg (.nm 2) (.bin .add (.var 2) (.lst [(.bin .add (.bin .add (.slc (.var 1) .nul (.var 3)) (.call 12 [(.var 0), (.lst [(.str "\n"), (.str "\t")])])) (.slc (.var 1) (.var 3) .nul))]))] [],
  .ite (.or [(.isi (.var 1) .bool), (.isi (.var 1) .int)]) [.asg (.nm 2) (.bin .add (.var 2) (.lst [(.bi .int [(.var 1)]), (.bin .add (.bi .int [(.var 1)]) (.int 1)), (.cmp .eq (.var 1) (.int 1)), (.cmp .eq (.var 1) (.int 0)), (.bi .str [(.var 1)])]))] [],
  .ret (.call 12 [(.var 0), (.var 2)])]⟩
/-- _law_changed -/
def f21 : FT := ⟨"_law_changed", ["urn", "thing", "place"], 2, [
  .ite (.or [(.not (.isi (.var 1) .tuple)), (.cmp .eq (.var 1) (.tup [])), (.cmp .eq (.call 11 [(.var 0), (.int 6)]) (.int 0))]) [.ret (.call 20 [(.var 0), (.var 1)])] [],
  .asg (.nm 2) (.call 11 [(.var 0), (.bi .len [(.var 1)])]),
  .ret (.bin .add (.bin .add (.slc (.var 1) .nul (.var 2)) (.tup [(.call 21 [(.var 0), (.idx (.var 1) (.var 2))])])) (.slc (.var 1) (.bin .add (.var 2) (.int 1)) .nul))]⟩
/-- _law_is_character -/
def f22 : FT := ⟨"_law_is_character", ["sign"], 1, [
  .ret (.chn .le .le (.str " ") (.var 0) (.str "~"))]⟩
/-- _law_is_link -/
def f23 : FT := ⟨"_law_is_link", ["thing", "small", "sign"], 1, [
  .asg (.nm 1) (.str "abcdefghijklmnopqrstuvwxyz0123456789"),
  .ret (.and [(.isi (.var 0) .str), (.chn .lt .lt (.int 0) (.bi .len [(.var 0)]) (.int 13)), (.cmp .eq (.lc [2] (.nm 2) .val [(.var 0)] (.cmp .nin (.var 2) (.var 1)) (.var 2)) (.lst []))])]⟩
/-- _law_is_piece -/
def f24 : FT := ⟨"_law_is_piece", ["thing", "marks", "sign"], 1, [
  .ite (.or [(.not (.isi (.var 0) .tuple)), (.cmp .ne (.bi .len [(.var 0)]) (.int 2)), (.not (.isi (.idx (.var 0) (.int 0)) .str)), (.cmp .eq (.idx (.var 0) (.int 0)) (.str ""))]) [.ret (.bl false)] [],
  .asg (.nm 1) (.idx (.var 0) (.int 1)),
  .ite (.cmp .ne (.lc [2] (.nm 2) .val [(.idx (.var 0) (.int 0))] (.not (.call 22 [(.var 2)])) (.var 2)) (.lst [])) [.ret (.bl false)] [],
  .ite (.or [(.not (.isi (.var 1) .tuple)), (.cmp .ne (.bi .len [(.var 1)]) (.int 3))]) [.ret (.bl false)] [],
  .ite (.or [(.not (.isi (.idx (.var 1) (.int 1)) .bool)), (.not (.isi (.idx (.var 1) (.int 2)) .bool))]) [.ret (.bl false)] [],
  .ret (.and [(.isi (.idx (.var 1) (.int 0)) .str), (.or [(.cmp .eq (.idx (.var 1) (.int 0)) (.str "")), (.call 23 [(.idx (.var 1) (.int 0))])])])]⟩
/-- _law_is_cell -/
def f25 : FT := ⟨"_law_is_cell", ["thing", "most", "twice", "one", "other", "piece"], 2, [
  .ite (.or [(.not (.isi (.var 0) .tuple)), (.cmp .ne (.lc [5] (.nm 5) .val [(.var 0)] (.not (.call 24 [(.var 5)])) (.var 5)) (.lst []))]) [.ret (.bl false)] [],
  .asg (.nm 2) (.lc [3, 4] (.tup [(.nm 3), (.nm 4)]) .zip2 [(.var 0), (.slc (.var 0) (.int 1) .nul)] (.cmp .eq (.idx (.var 3) (.int 1)) (.idx (.var 4) (.int 1))) (.int 1)),
  .ret (.and [(.cmp .eq (.var 2) (.lst [])), (.cmp .le (.bi .sum [(.lc [5] (.nm 5) .val [(.var 0)] .nul (.bi .len [(.idx (.var 5) (.int 0))]))]) (.var 1))])]⟩
/-- _law_is_line -/
def f26 : FT := ⟨"_law_is_line", ["thing", "depth", "cells", "cell"], 1, [
  .ite (.or [(.not (.isi (.var 0) .tuple)), (.cmp .ne (.bi .len [(.var 0)]) (.int 2)), (.not (.isi (.idx (.var 0) (.int 1)) .tuple))]) [.ret (.bl false)] [],
  .asg (.tup [(.nm 1), (.nm 2)]) (.var 0),
  .ite (.or [(.isi (.var 1) .bool), (.not (.isi (.var 1) .int)), (.not (.chn .le .le (.int 0) (.var 1) (.int 6))), (.not (.chn .le .le (.int 1) (.bi .len [(.var 2)]) (.int 12)))]) [.ret (.bl false)] [],
  .ret (.cmp .eq (.lc [3] (.nm 3) .val [(.var 2)] (.not (.call 25 [(.var 3), (.ite (.cmp .eq (.bi .len [(.var 2)]) (.int 1)) (.int 491) (.int 40))])) (.var 3)) (.lst []))]⟩
/-- _law_due -/
def f27 : FT := ⟨"_law_due", ["thing", "line"], 1, [
  .ite (.or [(.not (.isi (.var 0) .tuple)), (.not (.chn .le .le (.int 1) (.bi .len [(.var 0)]) (.int 200)))]) [.ret (.bl false)] [],
  .ret (.cmp .eq (.lc [1] (.nm 1) .val [(.var 0)] (.not (.call 26 [(.var 1)])) (.var 1)) (.lst []))]⟩
/-- _law_bounds -/
def f28 : FT := ⟨"_law_bounds", ["urn", "bare", "bold", "found", "many", "cell", "place", "link", "depth"], 1, [
  .asg (.tup [(.nm 1), (.nm 2)]) (.tup [(.tup [(.str ""), (.bl false), (.bl false)]), (.tup [(.str ""), (.bl true), (.bl false)])]),
  .asg (.nm 3) (.mut (.bin .add (.lc [4] (.nm 4) .val [(.tup [(.int 1), (.int 200), (.int 201)])] .nul (.bin .mul (.tup [(.tup [(.int 0), (.tup [(.tup [])])])]) (.var 4))) (.lc [8] (.nm 8) .val [(.tup [(.int 6), (.int 7)])] .nul (.tup [(.tup [(.var 8), (.tup [(.tup [])])])])))),
  .asg (.nm 3) (.mut (.bin .add (.var 3) (.lc [4] (.nm 4) .val [(.tup [(.int 12), (.int 13)])] .nul (.tup [(.tup [(.int 0), (.bin .mul (.tup [(.tup [])]) (.var 4))])])))),
  .for (.nm 4) .val [(.tup [(.int 40), (.int 41), (.int 491), (.int 492)])] [.asg (.nm 5) (.tup [(.tup [(.bin .mul (.str "x") (.bin .sub (.var 4) (.int 3))), (.var 1)]), (.tup [(.str "yyy"), (.var 2)])]), .asg (.nm 3) (.mut (.bin .add (.var 3) (.lst [(.tup [(.tup [(.int 0), (.tup [(.var 5)])])]), (.tup [(.tup [(.int 0), (.tup [(.var 5), (.tup [])])])]), (.tup [(.tup [(.int 0), (.tup [(.tup []), (.var 5)])])])])))],
  .for (.nm 4) .val [(.tup [(.int 30), (.int 60), (.int 199)])] [.asg (.nm 6) (.call 11 [(.var 0), (.var 4)]), .exp (.app (.var 3) (.bin .add (.bin .add (.bin .mul (.tup [(.tup [(.int 0), (.tup [(.tup [])])])]) (.var 6)) (.tup [(.tup [(.int 7), (.tup [(.tup [])])])])) (.bin .mul (.tup [(.tup [(.int 0), (.tup [(.tup [])])])]) (.bin .sub (.var 4) (.var 6)))))],
  .for (.nm 7) .val [(.tup [(.bin .mul (.str "a") (.int 12)), (.bin .mul (.str "a") (.int 13)), (.str "A"), (.str "a-b"), (.str " "), (.str "0")])] [.exp (.app (.var 3) (.tup [(.tup [(.int 0), (.tup [(.tup [(.tup [(.str "x"), (.tup [(.var 7), (.bl false), (.bl false)])])])])])]))],
  .ret (.var 3)]⟩
/-- _law_all_characters -/
def f29 : FT := ⟨"_law_all_characters", ["small"], 0, [
  .asg (.nm 0) (.str "abcdefghijklmnopqrstuvwxyz"),
  .ret (.bin .add (.bi .list [(.bin .add (.bin .add (.str " !\x23$&'()*+,-./:;<=>?\x40[]^_{|}~0123456789") (.var 0)) (.bm .upper (.var 0) []))]) (.lst [(.str "\""), (.str "\\"), (.str "`")]))]⟩
/-- law -/
def f30 : FT := ⟨"law", ["script", "urn", "things", "turn", "content", "thing", "before", "signs", "words", "sign", "word", "again"], 1, [
  .asg (.nm 1) (.call 10 [(.var 0)]),
  .asg (.nm 2) (.bin .add (.call 28 [(.var 1)]) (.lst [.non, (.int 0), (.tup []), (.lst []), (.str ""), (.dct []), (.bl true)])),
  .for (.nm 3) .rng1 [(.int 10)] [.asg (.nm 4) (.call 19 [(.var 1), (.bin .add (.bi .list [(.str "ab *|!~")]) (.lst [(.str " ")]))]), .asg (.nm 2) (.bin .add (.bin .add (.var 2) (.lst [(.var 4)])) (.lc [11] (.nm 11) .rng1 [(.int 8)] .nul (.call 21 [(.var 1), (.var 4)])))],
  .for (.nm 5) .val [(.var 2)] [.asg (.nm 6) (.bi .repr [(.var 5)]), .ite (.or [(.not (.call 13 [(.call 8 [(.var 5)]), (.call 27 [(.var 5)])])), (.cmp .ne (.bi .repr [(.var 5)]) (.var 6))]) [.ret (.bl false)] []],
  .asg (.nm 7) (.call 29 []),
  .ite (.cmp .ne (.lc [9] (.nm 9) .val [(.var 7)] (.not (.call 13 [(.call 2 [(.bin .add (.var 9) (.str "a"))]), (.call 23 [(.bin .add (.var 9) (.str "a"))])])) (.var 9)) (.lst [])) [.ret (.bl false)] [],
  .asg (.nm 8) (.lst [(.str ""), (.str "a"), (.str "0"), (.bin .mul (.str "a") (.int 12)), (.bin .mul (.str "a") (.int 13)), (.str "A"), (.str "a b"), (.str "_"), .non, (.int 1), (.bl true), (.lst [(.str "a")]), (.tup [(.str "a")]), (.str "a\n"), (.str "z9"), (.dct [])]),
  .ret (.cmp .eq (.lc [10] (.nm 10) .val [(.var 8)] (.not (.call 13 [(.call 2 [(.var 10)]), (.call 23 [(.var 10)])])) (.var 10)) (.lst []))]⟩
def tab : List FT := [f0, f1, f2, f3, f4, f5, f6, f7, f8, f9, f10, f11, f12, f13, f14, f15, f16, f17, f18, f19, f20, f21, f22, f23, f24, f25, f26, f27, f28, f29, f30]
abbrev sAt (i : Nat) : Stmt := (PySem.Challenge.pw_clipforms_k01_contents_of_any_object).main.body.getD i (.Pass ⟨0, 0, 0, 0⟩)
def sts : List Stmt := [sAt 9, sAt 10, sAt 11, sAt 12, sAt 13, sAt 14, sAt 15, sAt 16, sAt 17, sAt 19, sAt 20, sAt 21, sAt 22, sAt 23, sAt 24, sAt 25, sAt 26, sAt 27, sAt 28, sAt 29, sAt 30, sAt 31, sAt 32, sAt 33, sAt 34, sAt 35, sAt 36, sAt 37, sAt 38, sAt 39, sAt 40]

end Law
end Cip

set_option maxHeartbeats 4000000
namespace Cip
open PySem
local macro_rules | `(tactic| walk_at "cip") => `(tactic| simp only [s_cons, s_nil, s_asg, s_ret, s_ite, s_exp, s_pass, w_non, w_bl, w_int, w_str, w_var, w_con, w_bin, w_neg, w_cmp, w_isn, w_notn, w_and, w_or, w_not, w_ite, w_tup, w_lst, w_idx, w_call, s_ssubD, s_forD, s_whlD, w_mutD, w_appD, mut_lst, asg_tup2, asg_tup3, int_i, len_l, len_t, len_s, idx_l, idx_t, tuple_l, w_bi, w_isi, w_evs, w_evs0, w_and0, w_and1, w_or0, w_or1, asg_nm, ex_some, ex_var, ex_int, ex_bl, startE, List.length_cons, List.length_nil, List.map_cons, List.map_nil, List.getElem?_cons_zero, List.getElem?_cons_succ, List.set_cons_zero, List.set_cons_succ, List.cons_append, List.nil_append, List.replicate, ex_ite, b_add_i, b_sub_i, b_mul_i, b_mod_i, b_div_i, b_pow_i, b_add_s, b_add_t, b_add_l, b_mul_s, b_mul_t, b_mul_l, c_lt_i, c_le_i, c_gt_i, c_ge_i, c_lt_s, c_le_s, c_eq_i, c_ne_i, c_eq_s, c_ne_s, WP_ok, WS_nx, WS_rt, true_and, and_true])
namespace Law
noncomputable abbrev cf (n : Nat) : CF := callN (txOf cons) (fnOfTab tab) n
theorem fmod_rng (a b : Int) (hb : 0 < b) : 0 ≤ a.fmod b ∧ a.fmod b < b := ⟨Int.fmod_nonneg_of_pos a hb, Int.fmod_lt_of_pos a hb⟩
theorem churned {n : Nat} {s l : Int} {st : Store} {Q : D → Store → Prop} (hs : -(2 ^ 64) < s ∧ s < 2 ^ 64) (hq : ∀ r, Q (.int r) st) : WP (cf (n + 1) 9 [.int s, .int l] st) Q := by
  refine call_same (ft := f9) rfl rfl ?_
  unfold f9
  walk_at "cip"
  refine ⟨.inl hs, .inr (by decide), by decide, rngL 0 4, rfl, WS_loop (fun rest env st' => st' = st ∧ (∀ d ∈ rest, ∃ i, d = .int i) ∧ ∃ x a, env = [some (D.int s), some (D.int l), some (D.int 2305843009213693921), some (D.int a), x] ∧ 0 ≤ a ∧ a < 2305843009213693921)
    (fun rest env st' h => ?_) (fun x rest env st' h => ?_) (fun env st' h => ?_) _ _ _ ⟨rfl, ?_, _, _, rfl, fmod_rng _ _ (by decide)⟩⟩
  · obtain ⟨rfl, _⟩ := h
    exact still_refl
  · obtain ⟨rfl, h1, y, a, rfl, h2, h3⟩ := h
    obtain ⟨i, rfl⟩ := h1 x (by simp)
    walk_at "cip"
    have e : (2 : Int) ^ 64 = 18446744073709551616 := by decide
    exact ⟨.inl ⟨by omega, by omega⟩, .inl (by decide), .inl (by decide), by decide, fun d hd => h1 d (List.mem_cons_of_mem _ hd), _, _, rfl, fmod_rng _ _ (by decide)⟩
  · obtain ⟨rfl, _, y, a, rfl, h2, h3⟩ := h
    walk_at "cip"
    have e : (2 : Int) ^ 64 = 18446744073709551616 := by decide
    exact ⟨.inl ⟨by omega, by omega⟩, .inl ⟨by omega, by omega⟩, by decide, hq _⟩
  · intro d hd
    obtain ⟨j, hj⟩ := List.getElem?_of_mem hd
    obtain ⟨_, h⟩ := rngL_get 4 0 j d hj
    exact ⟨_, h⟩
/-- an urn stands at u, its cells at c -/
def UrnC (st : Store) (u c : Nat) : Prop := ∃ (ns : List Int) (p a l : Int), st[u]? = some (.lst [.ref c, .int p, .int a, .int l]) ∧ c ≠ u ∧ st[c]? = some (.lst (ns.map .int)) ∧ 0 ≤ p
def Urn (st : Store) (u : Nat) : Prop := ∃ c, UrnC st u c
/-- only the urn has changed -/
def Drawn (u : Nat) (st st' : Store) : Prop := st'.length = st.length ∧ (∀ k, k ≠ u → st'[k]? = st[k]?) ∧ ∃ c, UrnC st u c ∧ UrnC st' u c
theorem Drawn.refl {u : Nat} {st : Store} (h : Urn st u) : Drawn u st st := ⟨rfl, fun _ _ => rfl, h.elim fun c q => ⟨c, q, q⟩⟩
theorem Drawn.urn {u : Nat} {st st' : Store} (h : Drawn u st st') : Urn st' u := let ⟨_, _, c, _, q⟩ := h; ⟨c, q⟩
theorem UrnC.inj {u c d : Nat} {st : Store} (h : UrnC st u c) (g : UrnC st u d) : c = d := by
  obtain ⟨_, _, _, _, h1, _⟩ := h
  obtain ⟨_, _, _, _, g1, _⟩ := g
  rw [h1] at g1
  cases g1
  rfl
theorem Drawn.trans {u : Nat} {a b c : Store} (h : Drawn u a b) (g : Drawn u b c) : Drawn u a c := by
  obtain ⟨h1, h2, x, h3, h4⟩ := h
  obtain ⟨g1, g2, y, g3, g4⟩ := g
  have e := h4.inj g3
  subst e
  exact ⟨g1.trans h1, fun k hk => (g2 k hk).trans (h2 k hk), x, h3, g4⟩
theorem UrnC.lt {u c : Nat} {st : Store} (h : UrnC st u c) : u < st.length ∧ c < st.length := by
  obtain ⟨_, _, _, _, h1, _, h2, _⟩ := h
  exact ⟨(List.getElem?_eq_some_iff.mp h1).1, (List.getElem?_eq_some_iff.mp h2).1⟩
theorem UrnC.push {u c : Nat} {st new : Store} (h : UrnC st u c) : UrnC (st ++ new) u c := by
  obtain ⟨l1, l2⟩ := h.lt
  obtain ⟨ns, p, a, l, h1, h2, h3, h4⟩ := h
  exact ⟨ns, p, a, l, by rw [List.getElem?_append_left l1]; exact h1, h2, by rw [List.getElem?_append_left l2]; exact h3, h4⟩
theorem Urn.push {u : Nat} {st new : Store} (h : Urn st u) : Urn (st ++ new) u := h.elim fun c q => ⟨c, q.push⟩
/-- what was drawn with something behind -/
theorem Drawn.split {u : Nat} {a b new : Store} (hU : Urn a u) (h : Drawn u (a ++ new) b) : ∃ a', b = a' ++ new ∧ Drawn u a a' := by
  obtain ⟨c0, hc⟩ := hU
  obtain ⟨l1, l2⟩ := hc.lt
  obtain ⟨h1, h2, c, h3, h4⟩ := h
  have e := h3.inj hc.push
  subst e
  rw [List.length_append] at h1
  refine ⟨b.take a.length, ?_, ?_, fun k hk => ?_, c, hc, ?_⟩
  · apply List.ext_getElem?
    intro k
    by_cases hk : k < a.length
    · rw [List.getElem?_append_left (by rw [List.length_take]; omega), List.getElem?_take_of_lt hk]
    · rw [List.getElem?_append_right (by rw [List.length_take]; omega), h2 k (by omega), List.getElem?_append_right (by omega), List.length_take, Nat.min_eq_left (by omega)]
  · rw [List.length_take]; omega
  · by_cases hk2 : k < a.length
    · rw [List.getElem?_take_of_lt hk2, h2 k hk, List.getElem?_append_left hk2]
    · rw [List.getElem?_eq_none (by rw [List.length_take]; omega), List.getElem?_eq_none (by omega)]
  · obtain ⟨ns, p, x, l, q1, q2, q3, q4⟩ := h4
    exact ⟨ns, p, x, l, by rw [List.getElem?_take_of_lt l1]; exact q1, q2, by rw [List.getElem?_take_of_lt l2]; exact q3, q4⟩
theorem upto {n u : Nat} {b : Int} {st : Store} {Q : D → Store → Prop} (hU : Urn st u) (hb : 1 ≤ b ∧ b < 1073741824) (hq : ∀ r st', 0 ≤ r → r < b → Drawn u st st' → Q (.int r) st') : WP (cf (n + 2) 11 [.ref u, .int b] st) Q := by
  obtain ⟨c, ns, p, a, l, h1, h2, h3, h4⟩ := hU
  have hU0 : UrnC st u c := ⟨ns, p, a, l, h1, h2, h3, h4⟩
  have hu : u < st.length := (List.getElem?_eq_some_iff.mp h1).1
  have i0 := idx_at (i := 0) h1
  have i1 := idx_at (i := 1) h1
  have i2 := idx_at (i := 2) h1
  have i3 := idx_at (i := 3) h1
  have a0 : ∀ a b c d : D, L2.atI [a, b, c, d] 0 = some a := fun _ _ _ _ => rfl
  have a1 : ∀ a b c d : D, L2.atI [a, b, c, d] 1 = some b := fun _ _ _ _ => rfl
  have a2 : ∀ a b c d : D, L2.atI [a, b, c, d] 2 = some c := fun _ _ _ _ => rfl
  have a3 : ∀ a b c d : D, L2.atI [a, b, c, d] 3 = some d := fun _ _ _ _ => rfl
  refine call_same (ft := f11) rfl rfl ?_
  unfold f11
  walk_at "cip"
  simp only [i3, a3]
  walk_at "cip"
  -- behind the filling: an urn with its own numbers
  refine WS.imp (N := fun e s => ∃ p' a' l' x y z, e = [some (.ref u), some (.int b), x, y, z, none] ∧ s = st.set u (.lst [.ref c, .int p', .int a', .int l']) ∧ 0 ≤ p') (V := fun _ _ => False) ?_ ?_ (fun _ _ h => h.elim)
  · by_cases hl : l < b
    · rw [if_pos (by simpa using hl)]
      walk_at "cip"
      simp only [i0, i1, a0, a1]
      walk_at "cip"
      refine ⟨by decide, by decide, _, ne_nil h3, ?_⟩
      refine WP.imp (Q := fun d s => st = s ∧ ∃ a' : Int, d = .int a') ?_ ?_
      · cases hn : ns with
        | nil =>
          rw [if_neg (by simp)]
          walk_at "cip"
          exact ⟨0, rfl⟩
        | cons m ms =>
          rw [if_pos (by simp)]
          walk_at "cip"
          simp only [len_at h3]
          walk_at "cip"
          have hl : 0 < ((ns.map D.int).length : Int) := by rw [hn]; simp
          obtain ⟨r1, r2⟩ := fmod_rng p _ hl
          refine ⟨by omega, ?_⟩
          rw [idx_at h3, atI_nat r1 (by omega), List.getElem?_map]
          have hlen : (ns.map D.int).length = ns.length := List.length_map ..
          have hlt : (p.fmod ((ns.map D.int).length : Int)).toNat < ns.length := by omega
          rw [List.getElem?_eq_getElem hlt]
          exact ⟨_, rfl, _, rfl⟩
      · rintro d _ ⟨rfl, a', rfl⟩
        refine ⟨_, len_at h3, _, c_ge_i, ?_⟩
        refine WP.imp (Q := fun (_ : Bool) s => st = s) ?_ ?_
        · split
          · exact rfl
          · walk_at "cip"
            refine ⟨by decide, ?_⟩
            split <;> walk_at "cip"
        · rintro b1 _ rfl
          refine WS.imp (N := fun e s => st = s ∧ ∃ a'' : Int, e = [some (.ref u), some (.int b), some (.ref c), some (.int p), some (.int a''), none]) (V := fun _ _ => False) ?_ ?_ (fun _ _ h => h.elim)
          · cases b1 with
            | true =>
              rw [if_pos rfl]
              walk_at "cip"
              refine ⟨by decide, churned ?_ fun r => ?_⟩
              · have := fmod_rng a' 982451653 (by decide)
                have e : (2 : Int) ^ 64 = 18446744073709551616 := by decide
                omega
              · walk_at "cip"
                exact ⟨r, rfl⟩
            | false =>
              rw [if_neg (by simp)]
              walk_at "cip"
              exact ⟨a', rfl⟩
          · rintro e _ ⟨rfl, a'', rfl⟩
            walk_at "cip"
            have g0 : ∀ xs : List D, (st.set u (.lst xs))[u]? = some (.lst xs) := fun xs => get_set hu
            have gl : ∀ xs : List D, u < (st.set u (.lst xs)).length := fun xs => by rw [List.length_set]; exact hu
            refine ⟨_, ssub_at (j := 1) h1 rfl, _, ssub_at (j := 2) (get_set hu) rfl, _, ssub_at (j := 3) (get_set (gl _)) rfl, p + 1, a'', a'', some (.ref c), some (.int p), some (.int a''), rfl, ?_, by omega⟩
            simp only [List.set_set, List.set_cons_zero, List.set_cons_succ]
    · rw [if_neg (by simpa using hl)]
      walk_at "cip"
      refine ⟨p, a, l, none, none, none, rfl, ?_, h4⟩
      apply List.ext_getElem?
      intro k
      by_cases hk : u = k
      · subst hk
        rw [get_set hu, h1]
      · rw [get_ne hk]
  · rintro e s ⟨p', a', l', x, y, z, rfl, rfl, hp⟩
    have g1 := get_set (st := st) (u := u) (o := .lst [.ref c, .int p', .int a', .int l']) hu
    walk_at "cip"
    simp only [idx_at g1, a0, a1, a2, a3]
    walk_at "cip"
    have gl : ∀ o : MO, u < (st.set u o).length := fun o => by rw [List.length_set]; exact hu
    have g2 := get_set (st := st.set u (.lst [.ref c, .int p', .int a', .int l'])) (u := u) (o := .lst [.ref c, .int p', .int (a'.fdiv b), .int l']) (gl _)
    obtain ⟨r1, r2⟩ := fmod_rng a' b (by omega)
    refine ⟨by omega, ⟨by omega, by omega⟩, _, ssub_at (j := 2) g1 rfl, ?_⟩
    simp only [List.set_cons_zero, List.set_cons_succ]
    simp only [idx_at g2, a0, a1, a2, a3]
    walk_at "cip"
    refine ⟨⟨by omega, by omega⟩, _, ssub_at (j := 3) g2 rfl, by simp only [List.length_set], hq _ _ r1 r2 ⟨by simp only [List.length_set], fun k hk => ?_, c, hU0, ns, p', a'.fdiv b, l'.fdiv b, ?_, h2, ?_, hp⟩⟩
    · simp only [List.set_set]
      rw [get_ne (fun e => hk e.symm)]
    · simp only [List.set_set, List.set_cons_zero, List.set_cons_succ]
      rw [get_set hu]
    · simp only [List.set_set]
      rw [get_ne (fun e => h2 e.symm)]
      exact h3
theorem choice {n u : Nat} {xs : List D} {st : Store} {Q : D → Store → Prop} (hU : Urn st u) (hl : 1 ≤ xs.length ∧ xs.length < 1073741824) (hq : ∀ x st', x ∈ xs → Drawn u st st' → Q x st') : WP (cf (n + 3) 12 [.ref u, .lst xs] st) Q := by
  refine call_wp (ft := f12) rfl rfl ?_
  unfold f12
  walk_at "cip"
  refine upto hU ⟨by omega, by omega⟩ fun r st' h0 h1 h2 => ?_
  rw [idx_l, atI_nat h0 (by omega), List.getElem?_eq_getElem (by omega)]
  refine ⟨_, rfl, ?_⟩
  rw [gc_same h2.1]
  exact hq _ st' (List.getElem_mem _) h2
/-- texts of so many signs -/
theorem some_text {n u : Nat} {m : Int} {cs : List Nat} {st : Store} {Q : D → Store → Prop} (hU : Urn st u) (hc : 1 ≤ cs.length ∧ cs.length < 1073741824) (hm : 0 ≤ m ∧ m ≤ 1000) (hq : ∀ (ds : List Nat) st', ds.length = m.toNat → (∀ d ∈ ds, d ∈ cs) → Drawn u st st' → Q (.str ⟨ds.toArray⟩) st') :
    WP (cf (n + 4) 14 [.ref u, .int m, .lst (cs.map one)] st) Q := by
  refine call_wp (ft := f14) rfl rfl ?_
  unfold f14
  simp only [s_cons, s_ret, w_bm]
  walk_at "cip"
  refine ⟨rfl, w_lc_rng (J := fun s => Drawn u st s) (P := fun d => ∃ c ∈ cs, d = one c) ?_⟩
  walk_at "cip"
  have e62 : (2 : Int) ^ 62 = 4611686018427387904 := by decide
  have hz : 1000 ≤ sizeLine := by decide
  refine ⟨⟨by omega, by omega⟩, by omega, .refl hU, fun j s' hs' => ?_, fun rs s' q1 q2 q3 => ?_⟩
  · simp only [wipeE, List.set_cons_zero, List.set_cons_succ]
    walk_at "cip"
    refine choice hs'.urn (by rw [List.length_map]; exact hc) fun x s'' hx hs'' => ⟨hs'.trans hs'', ?_⟩
    obtain ⟨c, h1, h2⟩ := List.mem_map.mp hx
    exact ⟨c, h1, h2.symm⟩
  · -- the values are signs
    have key : ∃ ds : List Nat, rs = ds.map one ∧ ∀ d ∈ ds, d ∈ cs := by
      clear q2
      induction rs with
      | nil => exact ⟨[], rfl, by simp⟩
      | cons r rs ih =>
        obtain ⟨c, h1, h2⟩ := q3 r (by simp)
        obtain ⟨ds, h3, h4⟩ := ih fun d hd => q3 d (List.mem_cons_of_mem _ hd)
        refine ⟨c :: ds, by rw [h2, h3]; rfl, fun d hd => ?_⟩
        rcases List.mem_cons.mp hd with e | hd
        · rw [e]; exact h1
        · exact h4 d hd
    obtain ⟨ds, rfl, h4⟩ := key
    rw [List.length_map] at q2
    refine ⟨.str ⟨ds.toArray⟩, ?_, ?_⟩
    · simp only [bmD, seqD, Option.bind_some, strsD_one, join_one]
      rw [if_pos]
      have l1 : (⟨ds.toArray⟩ : Str).length = ds.length := by unfold Str.length; simp
      rw [Bool.and_eq_true]
      refine ⟨decide_eq_true ?_, decide_eq_true (by omega)⟩
      have l2 : ((ds.map fun c => (⟨#[c]⟩ : Str)).map (·.length)).sum = ds.length := by
        clear h4 q3 q2 l1 hq
        induction ds with
        | nil => rfl
        | cons d ds ih =>
          simp only [List.map_cons, List.sum_cons, List.length_cons, ih]
          have : (⟨#[d]⟩ : Str).length = 1 := rfl
          omega
      have l3 : ("" : Str).length = 0 := by decide
      rw [l2, l3, List.length_map]
      omega
    · rw [gc_same q1.1]
      exact hq ds s' q2 h4 q1
/-- marks: a link, two truths -/
def links : List Str := ["", "w", "w1", "abcdefghijk9"]
def isMarks (d : D) : Prop := ∃ l a b, l ∈ links ∧ d = .tup [.str l, .bl a, .bl b]
theorem some_marks {n u : Nat} {st : Store} {Q : D → Store → Prop} (hU : Urn st u) (hq : ∀ d st', isMarks d → Drawn u st st' → Q d st') : WP (cf (n + 4) 15 [.ref u] st) Q := by
  refine call_wp (ft := f15) rfl rfl ?_
  unfold f15
  walk_at "cip"
  refine ⟨by decide, choice hU (by decide) fun x s1 hx h1 => ?_⟩
  refine upto (b := 3) h1.urn (by decide) fun r s2 _ _ h2 => ?_
  walk_at "cip"
  refine upto (b := 3) h2.urn (by decide) fun r' s3 _ _ h3 => ?_
  walk_at "cip"
  refine ⟨by decide, ?_⟩
  have hd := h1.trans (h2.trans h3)
  rw [gc_same hd.1]
  refine hq _ s3 ?_ hd
  simp only [List.mem_cons, List.not_mem_nil, or_false] at hx
  rcases hx with h | h | h | h | h | h <;> subst h
  · exact ⟨_, _, _, by decide, rfl⟩
  · exact ⟨_, _, _, by decide, rfl⟩
  · exact ⟨_, _, _, by decide, rfl⟩
  · exact ⟨_, _, _, by decide, rfl⟩
  · exact ⟨_, _, _, by decide, rfl⟩
  · exact ⟨_, _, _, by decide, rfl⟩
end Law
end Cip

set_option maxHeartbeats 4000000
namespace Cip
open PySem
local macro_rules | `(tactic| walk_at "cip") => `(tactic| simp only [s_cons, s_nil, s_asg, s_ret, s_ite, s_exp, s_pass, w_non, w_bl, w_int, w_str, w_var, w_con, w_bin, w_neg, w_cmp, w_isn, w_notn, w_and, w_or, w_not, w_ite, w_tup, w_lst, w_idx, w_call, s_ssubD, s_forD, s_whlD, w_mutD, w_appD, mut_lst, asg_tup2, asg_tup3, int_i, len_l, len_t, len_s, idx_l, idx_t, tuple_l, w_bi, w_isi, w_evs, w_evs0, w_and0, w_and1, w_or0, w_or1, asg_nm, ex_some, ex_var, ex_int, ex_bl, startE, List.length_cons, List.length_nil, List.map_cons, List.map_nil, List.getElem?_cons_zero, List.getElem?_cons_succ, List.set_cons_zero, List.set_cons_succ, List.cons_append, List.nil_append, List.replicate, ex_ite, b_add_i, b_sub_i, b_mul_i, b_mod_i, b_div_i, b_pow_i, b_add_s, b_add_t, b_add_l, b_mul_s, b_mul_t, b_mul_l, c_lt_i, c_le_i, c_gt_i, c_ge_i, c_lt_s, c_le_s, c_eq_i, c_ne_i, c_eq_s, c_ne_s, WP_ok, WS_nx, WS_rt, true_and, and_true])
namespace Law
/-! contents, with types -/
structure Mk where
  l : Str
  b : Bool
  s : Bool
deriving DecidableEq
def Mk.d (m : Mk) : D := .tup [.str m.l, .bl m.b, .bl m.s]
abbrev Pc : Type := Str × Mk
def pcD (p : Pc) : D := .tup [.str p.1, p.2.d]
def cellD (c : List Pc) : D := .tup (c.map pcD)
abbrev Ln : Type := Int × List (List Pc)
def lineD (l : Ln) : D := .tup [.int l.1, .tup (l.2.map cellD)]
def contD (c : List Ln) : D := .tup (c.map lineD)
def joinStep (acc : List Pc) (p : Pc) : List Pc := if p.1 = "" then acc else match acc.getLast? with
  | some q => if q.2 = p.2 then acc.dropLast ++ [(q.1 ++ p.1, p.2)] else acc ++ [p]
  | none => [p]
def joinP (ps : List Pc) : List Pc := ps.foldl joinStep []
/-- all signs -/
def tot (ps : List Pc) : Nat := (ps.map fun p => p.1.length).sum
theorem mk_pn (m : Mk) : Pn1 m.d = true := rfl
theorem pc_pn (p : Pc) : Pn1 (pcD p) = true := rfl
theorem pcs_pn : ∀ ps : List Pc, Pn1s (ps.map pcD) = true
  | [] => rfl
  | p :: ps => by
    show (Pn1 (pcD p) && Pn1s (ps.map pcD)) = true
    rw [pc_pn, pcs_pn ps] <;> rfl
theorem cell_pn (c : List Pc) : Pn1 (cellD c) = true := pcs_pn c
theorem cells_pn : ∀ cs : List (List Pc), Pn1s (cs.map cellD) = true
  | [] => rfl
  | p :: ps => by
    show (Pn1 (cellD p) && Pn1s (ps.map cellD)) = true
    rw [cell_pn, cells_pn ps] <;> rfl
theorem line_pn (l : Ln) : Pn1 (lineD l) = true := by
  show (true && (Pn1s (l.2.map cellD) && true)) = true
  rw [cells_pn] <;> rfl
theorem lines_pn : ∀ cs : List Ln, Pn1s (cs.map lineD) = true
  | [] => rfl
  | p :: ps => by
    show (Pn1 (lineD p) && Pn1s (ps.map lineD)) = true
    rw [line_pn, lines_pn ps] <;> rfl
theorem cont_pn (c : List Ln) : Pn1 (contD c) = true := lines_pn c
theorem mk_eq (a b : Mk) : PyData.eqv (tp a.d) (tp b.d) = decide (a = b) := by
  obtain ⟨l, x, y⟩ := a
  obtain ⟨l', x', y'⟩ := b
  simp only [Mk.d, tp, tps, PyData.eqv, PyData.eqvAll, Bool.and_true]
  rw [Bool.eq_iff_iff]
  simp
theorem mk_dp (m : Mk) : (tp m.d).depth = 1 := by simp [Mk.d, tp, tps, PyData.depth, PyData.depthAll]
theorem str_app_len (a b : Str) : (a ++ b).length = a.length + b.length := strLen_append a b
theorem tot_app (a b : List Pc) : tot (a ++ b) = tot a + tot b := by unfold tot; rw [List.map_append, List.sum_append]
theorem last_split {α : Type} : ∀ {xs : List α} {q : α}, xs.getLast? = some q → xs.dropLast ++ [q] = xs
  | [], _, h => by cases h
  | [a], q, h => by cases h; rfl
  | a :: b :: r, q, h => by
    rw [List.getLast?_cons_cons] at h
    rw [List.dropLast_cons₂, List.cons_append, last_split h]
theorem asg_pc {st : Store} {env : Env} {i j : Nat} {p : Pc} : asgT st (.tup [.nm i, .nm j]) (pcD p) env = some ((env.set i (some (.str p.1))).set j (some p.2.d)) := asg_tup2
theorem joinStep_tot (acc : List Pc) (p : Pc) : tot (joinStep acc p) = tot acc + p.1.length ∧ (joinStep acc p).length ≤ acc.length + 1 := by
  unfold joinStep
  split
  · rename_i h
    rw [h]
    exact ⟨rfl, by omega⟩
  · split
    · rename_i q hq
      obtain ⟨acc0, e⟩ : ∃ acc0, acc = acc0 ++ [q] := by
        exact ⟨acc.dropLast, (last_split hq).symm⟩
      subst e
      split
      · rw [List.dropLast_concat, tot_app, tot_app]
        refine ⟨?_, by simp⟩
        simp only [tot, List.map_cons, List.map_nil, List.sum_cons, List.sum_nil, str_app_len]
        omega
      · rw [tot_app]
        exact ⟨by simp [tot], by simp⟩
    · rename_i hq
      have : acc = [] := List.getLast?_eq_none_iff.mp hq
      subst this
      exact ⟨by simp [tot], by simp⟩
theorem joined {n : Nat} {parts : D} {ps : List Pc} {st : Store} {Q : D → Store → Prop} (hw : ∀ new, walkD (st ++ new) .val [parts] = some (ps.map pcD)) (hk : ∀ k ∈ refsOf [parts], k < st.length) (hl : ps.length < 1000000) (ht : tot ps ≤ 1000000)
    (hq : Q (cellD (joinP ps)) st) : WP (cf (n + 1) 16 [parts] st) Q := by
  have hz : sizeLine = 16777216 := by decide
  refine call_wp (ft := f16) rfl rfl ?_
  unfold f16
  walk_at "cip"
  refine ⟨by decide, _, hw _, WS_loop (fun rest env s => ∃ (acc ps' : List Pc) (x y : Option D), rest = ps'.map pcD ∧ s = st ++ [.lst (acc.map pcD)] ∧ env = [some parts, some (.ref st.length), x, y] ∧ ps'.foldl joinStep acc = joinP ps ∧ acc.length + ps'.length ≤ ps.length ∧ tot acc + tot ps' ≤ tot ps)
    (fun rest env s h => ?_) (fun p rest env s h => ?_) (fun env s h => ?_) _ _ _ ⟨[], ps, _, _, rfl, rfl, rfl, rfl, by simp, by simp [tot]⟩⟩
  · obtain ⟨acc, ps', x, y, _, rfl, _⟩ := h
    refine still_ok.mpr fun k hkk => ?_
    have := hk k hkk
    rw [List.getElem?_append_left this, List.getElem?_append_left this]
  · obtain ⟨acc, ps', x, y, e, rfl, rfl, h1, h2, h3⟩ := h
    cases ps' with
    | nil => cases e
    | cons p' ps' =>
      simp only [List.map_cons, List.cons.injEq] at e
      obtain ⟨rfl, rfl⟩ := e
      have gF : (st ++ [MO.lst (acc.map pcD)])[st.length]? = some (.lst (acc.map pcD)) := by
        rw [List.getElem?_append_right (Nat.le_refl _)]
        simp
      have step := joinStep_tot acc p'
      have ht2 : tot (p' :: ps') = p'.1.length + tot ps' := by simp [tot]
      simp only [List.foldl_cons] at h1
      simp only [List.length_cons] at h2
      simp only [asg_pc]
      walk_at "cip"
      by_cases hp : p'.1 = ""
      · -- no text
        have ej : joinStep acc p' = acc := by unfold joinStep; rw [if_pos hp]
        rw [ej] at h1
        simp only [hp, decide_true, Bool.not_true, Bool.false_eq_true, if_false]
        walk_at "cip"
        simp only [hp, decide_true, Bool.not_true, Bool.false_eq_true, if_false]
        walk_at "cip"
        exact ⟨acc, ps', _, _, rfl, rfl, rfl, h1, by omega, by omega⟩
      · simp only [hp, decide_false, Bool.not_false, if_true]
        walk_at "cip"
        refine ⟨by decide, _, ne_nilP gF (pcs_pn acc), ?_⟩
        have hlen : (acc.map pcD).length = acc.length := List.length_map ..
        -- the text goes behind
        have app : joinStep acc p' = acc ++ [p'] → ∀ (W : List S), WS (runs (txOf cons) (callN (txOf cons) (fnOfTab tab) n) [.ite (.cmp .ne (.var 2) (.str "")) [.exp (.app (.var 1) (.tup [.var 2, .var 3]))] []]
            [some parts, some (.ref st.length), some (.str p'.1), some p'.2.d] (st ++ [MO.lst (acc.map pcD)])) (fun env' st' => ∃ (acc ps'' : List Pc) (x y : Option D), ps'.map pcD = ps''.map pcD ∧ st' = st ++ [MO.lst (acc.map pcD)] ∧ env' = [some parts, some (.ref st.length), x, y] ∧ ps''.foldl joinStep acc = joinP ps ∧ acc.length + ps''.length ≤ ps.length ∧ tot acc + tot ps'' ≤ tot ps) (fun d st' => Q d (gc st [d] st')) := fun ej _ => by
          rw [ej] at h1 step
          walk_at "cip"
          simp only [hp, decide_false, Bool.not_false, if_true]
          walk_at "cip"
          have e1 : (lstD (st ++ [MO.lst (acc.map pcD)]) (.ref st.length)).isSome = true := by simp only [lstD, gF, Option.isSome_some]
          have e2 : appS (st ++ [MO.lst (acc.map pcD)]) (.ref st.length) (.tup [.str p'.1, p'.2.d]) = some ((st ++ [MO.lst (acc.map pcD)]).set st.length (.lst ((acc.map pcD) ++ [pcD p']))) := by
            simp only [appS, gF]
            rw [if_pos (by omega)]
            rfl
          refine ⟨e1, by decide, _, e2, acc ++ [p'], ps', _, _, rfl, ?_, rfl, h1, by simp; omega, by omega⟩
          rw [List.set_append_right _ _ (Nat.le_refl _)]
          simp
        cases hacc : acc.getLast? with
        | none =>
          have ea : acc = [] := List.getLast?_eq_none_iff.mp hacc
          have ej : joinStep acc p' = acc ++ [p'] := by
            unfold joinStep
            rw [if_neg hp, hacc, ea]
            rfl
          rw [if_neg (by rw [ea]; simp)]
          walk_at "cip"
          exact app ej []
        | some q =>
          have es := last_split hacc
          have hne : acc ≠ [] := fun e => by rw [e] at hacc; cases hacc
          rw [if_pos (by cases acc with | nil => exact absurd rfl hne | cons _ _ => rfl)]
          have hpos : 0 < acc.length := List.length_pos_iff.mpr hne
          have il : idxD (st ++ [MO.lst (acc.map pcD)]) (.ref st.length) (.int (-1)) = some (pcD q) := by
            rw [idx_at gF]
            have e3 : L2.ixN (acc.map pcD).length (-1) = some (acc.length - 1) := by
              unfold L2.ixN
              rw [hlen]
              simp
              omega
            unfold L2.atI
            rw [e3]
            show (acc.map pcD)[acc.length - 1]? = _
            rw [List.getElem?_map, ← List.getLast?_eq_getElem?, hacc]
            rfl
          have iq0 : ∀ s : Store, idxD s (pcD q) (.int 0) = some (.str q.1) := fun _ => rfl
          have iq1 : ∀ s : Store, idxD s (pcD q) (.int 1) = some q.2.d := fun _ => rfl
          walk_at "cip"
          simp only [il, ex_some, iq1, ex_var]
          refine ⟨_, c_eq_pn (mk_pn q.2) (mk_pn p'.2) (by rw [mk_dp, mk_dp]; decide), ?_⟩
          rw [mk_eq]
          by_cases hm : q.2 = p'.2
          · have ej : joinStep acc p' = acc.dropLast ++ [(q.1 ++ p'.1, p'.2)] := by
              unfold joinStep
              rw [if_neg hp, hacc]
              simp only
              rw [if_pos hm]
            rw [ej] at h1 step
            have tq : q.1.length ≤ tot acc := by
              rw [← es, tot_app]
              simp [tot]
            rw [if_pos (decide_eq_true hm), w_and0, if_pos rfl]
            walk_at "cip"
            simp only [il, ex_some, iq0, ex_var]
            walk_at "cip"
            refine ⟨by omega, by decide, _, ssub_at (j := acc.length - 1) gF ?_, acc.dropLast ++ [(q.1 ++ p'.1, p'.2)], ps', _, _, rfl, ?_, rfl, h1, by omega, by omega⟩
            · unfold L2.ixN
              rw [hlen]
              simp
              omega
            · rw [List.set_append_right _ _ (Nat.le_refl _)]
              simp only [Nat.sub_self, List.set_cons_zero]
              congr 3
              have : (acc.map pcD).set (acc.length - 1) (.tup [.str (q.1 ++ p'.1), p'.2.d]) = (acc.dropLast ++ [(q.1 ++ p'.1, p'.2)]).map pcD := by
                conv => lhs; rw [← es]
                rw [List.map_append, List.map_append, List.set_append_right _ _ (by simp)]
                simp [pcD]
              exact this
          · have ej : joinStep acc p' = acc ++ [p'] := by
              unfold joinStep
              rw [if_neg hp, hacc]
              simp only
              rw [if_neg hm]
            rw [if_neg (by simp [hm]), WP_ok, if_neg (by simp)]
            exact app ej []
  · obtain ⟨acc, ps', x, y, e, rfl, rfl, h1, h2, h3⟩ := h
    have e0 : ps' = [] := by
      cases ps' with
      | nil => rfl
      | cons _ _ => cases e
    subst e0
    have gF : (st ++ [MO.lst (acc.map pcD)])[st.length]? = some (.lst (acc.map pcD)) := by
      rw [List.getElem?_append_right (Nat.le_refl _)]
      simp
    simp only [List.foldl_nil] at h1
    walk_at "cip"
    refine ⟨_, tuple_r gF, ?_⟩
    rw [gc_drop rfl (by rw [show D.mxs [D.tup (acc.map pcD)] = max (D.mxs (acc.map pcD)) 0 from rfl, (pns_cl _ (pcs_pn acc)).2.2]; exact Nat.zero_le _) fun k hk => .inl rfl, h1]
    exact hq
end Law
end Cip

set_option maxHeartbeats 4000000
namespace Cip
open PySem
local macro_rules | `(tactic| walk_at "cip") => `(tactic| simp only [s_cons, s_nil, s_asg, s_ret, s_ite, s_exp, s_pass, w_non, w_bl, w_int, w_str, w_var, w_con, w_bin, w_neg, w_cmp, w_isn, w_notn, w_and, w_or, w_not, w_ite, w_tup, w_lst, w_idx, w_call, s_ssubD, s_forD, s_whlD, w_mutD, w_appD, mut_lst, asg_tup2, asg_tup3, int_i, len_l, len_t, len_s, idx_l, idx_t, tuple_l, w_bi, w_isi, w_evs, w_evs0, w_and0, w_and1, w_or0, w_or1, asg_nm, ex_some, ex_var, ex_int, ex_bl, startE, List.length_cons, List.length_nil, List.map_cons, List.map_nil, List.getElem?_cons_zero, List.getElem?_cons_succ, List.set_cons_zero, List.set_cons_succ, List.cons_append, List.nil_append, List.replicate, ex_ite, b_add_i, b_sub_i, b_mul_i, b_mod_i, b_div_i, b_pow_i, b_add_s, b_add_t, b_add_l, b_mul_s, b_mul_t, b_mul_l, c_lt_i, c_le_i, c_gt_i, c_ge_i, c_lt_s, c_le_s, c_eq_i, c_ne_i, c_eq_s, c_ne_s, WP_ok, WS_nx, WS_rt, true_and, and_true])
namespace Law
/-- a piece over these signs -/
def okPc (cs : List Nat) (p : Pc) : Prop := p.1 ≠ "" ∧ (∀ c ∈ p.1.cps.toList, c ∈ cs) ∧ p.2.l ∈ links
theorem some_cell {n u : Nat} {m : Int} {cs : List Nat} {st : Store} {Q : D → Store → Prop} (hU : Urn st u) (hc : 1 ≤ cs.length ∧ cs.length < 1073741824) (hm : 0 ≤ m ∧ m ≤ 1000)
    (hq : ∀ (ps : List Pc) st', (∀ p ∈ ps, okPc cs p) → tot ps ≤ m.toNat → Drawn u st st' → Q (cellD (joinP ps)) st') : WP (cf (n + 5) 17 [.ref u, .int m, .lst (cs.map one)] st) Q := by
  refine call_wp (ft := f17) rfl rfl ?_
  unfold f17
  have e64 : (2 : Int) ^ 64 = 18446744073709551616 := by decide
  have hz : sizeLine = 16777216 := by decide
  try walk_at "cip"
  have hU1 : Urn (st ++ [MO.lst []]) u := hU.push
  refine ⟨by decide, upto (b := m + 1) hU1 (by omega) fun r s1 r0 r1 h1 => ?_⟩
  obtain ⟨s1', e1, h1'⟩ := Drawn.split hU h1
  subst e1
  refine ⟨by decide, ?_⟩

  refine WS_while (fun μ env s => ∃ (ps : List Pc) (s0 : Store) (left : Int) (x : Option D), μ = left.toNat ∧ 0 ≤ left ∧ (∀ p ∈ ps, okPc cs p) ∧ tot ps + left.toNat ≤ m.toNat ∧ ps.length ≤ tot ps ∧ Drawn u st s0 ∧ s = s0 ++ [MO.lst (ps.map pcD)] ∧
      env = [some (.ref u), some (.int m), some (.lst (cs.map one)), some (.ref st.length), some (.int left), x]) (fun μ env s h => ?_) 1000000 r.toNat _ _ (by omega) ⟨[], s1', r, none, rfl, r0, by simp, by simp [tot]; omega, by simp, h1', rfl, rfl⟩
  obtain ⟨ps, s0, left, x, rfl, l0, hp, ht, hpl, hD, rfl, rfl⟩ := h
  rw [WP_test]
  try walk_at "cip"
  have gF : (s0 ++ [MO.lst (ps.map pcD)])[st.length]? = some (.lst (ps.map pcD)) := by
    rw [← hD.1, List.getElem?_append_right (Nat.le_refl _)]
    simp
  by_cases hl : 0 < left
  · rw [if_pos (decide_eq_true hl)]
    try walk_at "cip"
    refine upto (b := left) hD.urn.push (by omega) fun r s2 r0 r1 h2 => ?_
    obtain ⟨s2', e2, h2'⟩ := Drawn.split hD.urn h2
    subst e2
    try walk_at "cip"
    have hD2 := hD.trans h2'
    have gF2 : (s2' ++ [MO.lst (ps.map pcD)])[st.length]? = some (.lst (ps.map pcD)) := by
      rw [← hD2.1, List.getElem?_append_right (Nat.le_refl _)]
      simp
    refine ⟨by simp only [lstD, gF2, Option.isSome_some], some_text (m := 1 + r) hD2.urn.push hc (by omega) fun ds s3 q1 q2 h3 => ?_⟩
    obtain ⟨s3', e3, h3'⟩ := Drawn.split hD2.urn h3
    subst e3
    have hD3 := hD2.trans h3'
    refine some_marks hD3.urn.push fun d s4 hd h4 => ?_
    obtain ⟨s4', e4, h4'⟩ := Drawn.split hD3.urn h4
    subst e4
    have hD4 := hD3.trans h4'
    obtain ⟨lk, a, b, hlk, rfl⟩ := hd
    have gF4 : (s4' ++ [MO.lst (ps.map pcD)])[st.length]? = some (.lst (ps.map pcD)) := by
      rw [← hD4.1, List.getElem?_append_right (Nat.le_refl _)]
      simp
    have hlen : (ps.map pcD).length = ps.length := List.length_map ..
    have dl : (⟨ds.toArray⟩ : Str).length = ds.length := by unfold Str.length; simp
    have happ : appS (s4' ++ [MO.lst (ps.map pcD)]) (.ref st.length) (.tup [.str ⟨ds.toArray⟩, .tup [.str lk, .bl a, .bl b]]) = some (s4' ++ [MO.lst ((ps ++ [((⟨ds.toArray⟩ : Str), (⟨lk, a, b⟩ : Mk))]).map pcD)]) := by
      simp only [appS, gF4]
      rw [if_pos (by omega), ← hD4.1, List.set_append_right _ _ (Nat.le_refl _)]
      simp [pcD, Mk.d]
    refine ⟨by decide, _, happ, _, ?_, ps ++ [((⟨ds.toArray⟩ : Str), (⟨lk, a, b⟩ : Mk))], s4', left - (1 + r), some (.int (1 + r)), rfl, by omega, ?_, ?_, ?_, hD4, rfl, rfl⟩
    · omega
    · intro p hpm
      rcases List.mem_append.mp hpm with hpm | hpm
      · exact hp p hpm
      · rw [List.mem_singleton.mp hpm]
        refine ⟨fun e => ?_, ?_, hlk⟩
        · have e' : (⟨ds.toArray⟩ : Str) = "" := e
          have : (⟨ds.toArray⟩ : Str).length = 0 := by rw [e']; decide
          omega
        · show ∀ c ∈ (ds.toArray).toList, c ∈ cs
          simpa using q2
    · rw [tot_app]
      simp only [tot, List.map_cons, List.map_nil, List.sum_cons, List.sum_nil, dl]
      simp only [tot] at ht
      omega
    · rw [tot_app]
      simp only [tot, List.length_append, List.length_cons, List.length_nil, List.map_cons, List.map_nil, List.sum_cons, List.sum_nil, dl]
      simp only [tot] at hpl
      omega
  · rw [if_neg (by simpa using hl)]
    try walk_at "cip"
    have hw : ∀ new, walkD (s0 ++ [MO.lst (ps.map pcD)] ++ new) .val [.ref st.length] = some (ps.map pcD) := fun new => by
      have : (s0 ++ [MO.lst (ps.map pcD)] ++ new)[st.length]? = some (.lst (ps.map pcD)) := by
        rw [List.append_assoc, ← hD.1, List.getElem?_append_right (Nat.le_refl _)]
        simp
      simp only [walkD, seqD, this]
    refine joined hw (fun k hk => ?_) (by omega) (by omega) ?_
    · have : k = st.length := by simpa [refsOf] using hk
      rw [this, List.length_append, hD.1]
      simp
    · rw [gc_drop hD.1 (by rw [show D.mxs [cellD (joinP ps)] = max (cellD (joinP ps)).mx 0 from rfl, (pn_cl _ (cell_pn _)).2.2]; exact Nat.zero_le _) fun k hk => ?_]
      · exact hq ps s0 hp (by omega) hD
      · by_cases e : k = u
        · subst e
          obtain ⟨_, _, c, hc1, hc2⟩ := hD
          obtain ⟨l1, l2⟩ := hc1.lt
          obtain ⟨_, _, _, _, q1, _⟩ := hc2
          refine .inr ⟨_, q1, ?_⟩
          show max (c + 1) _ ≤ _
          simp only [D.mxs, D.mx]
          omega
        · exact .inl (hD.2.1 k e)
/-- a cell as they are drawn -/
def okCell (cs : List Nat) (m : Nat) (c : List Pc) : Prop := ∃ ps, (∀ p ∈ ps, okPc cs p) ∧ tot ps ≤ m ∧ c = joinP ps
def okLine (cs : List Nat) (l : Ln) : Prop := l.1 ∈ [0, 1, 2, 6] ∧ l.2.length ∈ [1, 2, 3, 12] ∧ ∀ c ∈ l.2, okCell cs (if l.2.length = 1 then 60 else 40) c
def okCont (cs : List Nat) (c : List Ln) : Prop := 1 ≤ c.length ∧ c.length ≤ 4 ∧ ∀ l ∈ c, okLine cs l
/-- things of a list, each of them the image of something -/
theorem imgs {α : Type} {f : α → D} {P : α → Prop} : ∀ {rs : List D}, (∀ d ∈ rs, ∃ a, d = f a ∧ P a) → ∃ as : List α, rs = as.map f ∧ ∀ a ∈ as, P a
  | [], _ => ⟨[], rfl, by simp⟩
  | r :: rs, h => by
    obtain ⟨a, e, ha⟩ := h r (by simp)
    obtain ⟨as, e2, has⟩ := imgs fun d hd => h d (List.mem_cons_of_mem _ hd)
    refine ⟨a :: as, by rw [e, e2]; rfl, fun b hb => ?_⟩
    rcases List.mem_cons.mp hb with q | hb
    · rw [q]; exact ha
    · exact has b hb
theorem some_line {n u : Nat} {cs : List Nat} {st : Store} {Q : D → Store → Prop} (hU : Urn st u) (hc : 1 ≤ cs.length ∧ cs.length < 1073741824) (hq : ∀ l st', okLine cs l → Drawn u st st' → Q (lineD l) st') : WP (cf (n + 6) 18 [.ref u, .lst (cs.map one)] st) Q := by
  refine call_wp (ft := f18) rfl rfl ?_
  unfold f18
  have hz : sizeLine = 16777216 := by decide
  have e62 : (2 : Int) ^ 62 = 4611686018427387904 := by decide
  try walk_at "cip"
  refine ⟨by decide, choice hU (by decide) fun x s1 hx h1 => ?_⟩
  obtain ⟨k, hk, rfl⟩ : ∃ k : Int, k ∈ [(1 : Int), 2, 3, 12] ∧ x = .int k := by
    simp only [List.mem_cons, List.not_mem_nil, or_false] at hx
    rcases hx with h | h | h | h | h <;> subst h <;> exact ⟨_, by decide, rfl⟩
  try walk_at "cip"
  refine WP.imp (Q := fun d s => s1 = s ∧ d = .int (if 1 < k then 40 else 60)) ?_ ?_
  · by_cases h : 1 < k
    · rw [if_pos (decide_eq_true h), if_pos h]; try walk_at "cip"
    · rw [if_neg (by simpa using h), if_neg h]; try walk_at "cip"
  · rintro d _ ⟨rfl, rfl⟩
    refine ⟨by simp [hz], choice h1.urn (by simp) fun y s2 hy h2 => ?_⟩
    obtain ⟨m, hm, rfl⟩ : ∃ m : Int, (0 ≤ m ∧ m ≤ if k = 1 then 60 else 40) ∧ y = .int m := by
      simp only [List.mem_cons, List.not_mem_nil, or_false] at hy hk
      rcases hy with h | h | h <;> subst h
      · exact ⟨_, by constructor; · decide
                     · split <;> decide, rfl⟩
      · exact ⟨_, by constructor; · decide
                     · split <;> decide, rfl⟩
      · refine ⟨_, ?_, rfl⟩
        rcases hk with h | h | h | h <;> subst h <;> decide
    have hm2 : m ≤ 1000 := by
      have := hm.2
      split at this <;> omega
    try walk_at "cip"
    refine ⟨by decide, choice h2.urn (by decide) fun z s3 hz3 h3 => ?_⟩
    obtain ⟨dep, hdep, rfl⟩ : ∃ k : Int, k ∈ [(0 : Int), 1, 2, 6] ∧ z = .int k := by
      simp only [List.mem_cons, List.not_mem_nil, or_false] at hz3
      rcases hz3 with h | h | h | h | h <;> subst h <;> exact ⟨_, by decide, rfl⟩
    refine w_lc_rng (J := fun s => Drawn u s3 s) (P := fun d => ∃ c, d = cellD c ∧ okCell cs m.toNat c) ?_
    try walk_at "cip"
    have hk3 : 0 ≤ k ∧ k ≤ 12 := by
      simp only [List.mem_cons, List.not_mem_nil, or_false] at hk
      omega
    refine ⟨by omega, by omega, .refl h3.urn, fun j s' hs' => ?_, fun rs s' q1 q2 q3 => ?_⟩
    · simp only [wipeE, List.set_cons_zero, List.set_cons_succ]
      try walk_at "cip"
      exact some_cell hs'.urn hc ⟨hm.1, hm2⟩ fun ps s'' z1 z2 z3 => ⟨hs'.trans z3, joinP ps, rfl, ps, z1, z2, rfl⟩
    · obtain ⟨cells, rfl, hcells⟩ := imgs q3
      rw [List.length_map] at q2
      try walk_at "cip"
      have hD := h1.trans (h2.trans (h3.trans q1))
      refine ⟨by decide, ?_⟩
      rw [gc_same hD.1]
      refine hq (dep, cells) s' ⟨hdep, ?_, fun c hcm => ?_⟩ hD
      · show cells.length ∈ [1, 2, 3, 12]
        simp only [List.mem_cons, List.not_mem_nil, or_false] at hk ⊢
        omega
      · obtain ⟨ps, z1, z2, z3⟩ := hcells c hcm
        refine ⟨ps, z1, Nat.le_trans z2 ?_, z3⟩
        have := hm.2
        by_cases e : k = 1
        · rw [if_pos e] at this
          rw [if_pos (show cells.length = 1 by omega)]
          omega
        · rw [if_neg e] at this
          rw [if_neg (show ¬ cells.length = 1 by omega)]
          omega
theorem some_content {n u : Nat} {cs : List Nat} {st : Store} {Q : D → Store → Prop} (hU : Urn st u) (hc : 1 ≤ cs.length ∧ cs.length < 1073741824) (hq : ∀ c st', okCont cs c → Drawn u st st' → Q (contD c) st') : WP (cf (n + 7) 19 [.ref u, .lst (cs.map one)] st) Q := by
  refine call_wp (ft := f19) rfl rfl ?_
  unfold f19
  have hz : sizeLine = 16777216 := by decide
  have e62 : (2 : Int) ^ 62 = 4611686018427387904 := by decide
  try walk_at "cip"
  refine w_lc_rng (J := fun s => Drawn u st s) (P := fun d => ∃ l, d = lineD l ∧ okLine cs l) ?_
  try walk_at "cip"
  refine upto (b := 4) hU (by decide) fun r s1 r0 r1 h1 => ?_
  try walk_at "cip"
  refine ⟨by omega, by omega, h1, fun j s' hs' => ?_, fun rs s' q1 q2 q3 => ?_⟩
  · simp only [wipeE, List.set_cons_zero, List.set_cons_succ]
    try walk_at "cip"
    exact some_line hs'.urn hc fun l s'' z1 z2 => ⟨hs'.trans z2, l, rfl, z1⟩
  · obtain ⟨ls, rfl, hls⟩ := imgs q3
    rw [List.length_map] at q2
    try walk_at "cip"
    rw [gc_same q1.1]
    exact hq ls s' ⟨by omega, by omega, hls⟩ q1
end Law
end Cip

set_option maxHeartbeats 4000000
namespace Cip
open PySem
local macro_rules | `(tactic| walk_at "cip") => `(tactic| simp only [s_cons, s_nil, s_asg, s_ret, s_ite, s_exp, s_pass, w_non, w_bl, w_int, w_str, w_var, w_con, w_bin, w_neg, w_cmp, w_isn, w_notn, w_and, w_or, w_not, w_ite, w_tup, w_lst, w_idx, w_call, s_ssubD, s_forD, s_whlD, w_mutD, w_appD, mut_lst, asg_tup2, asg_tup3, int_i, len_l, len_t, len_s, idx_l, idx_t, tuple_l, w_bi, w_isi, w_evs, w_evs0, w_and0, w_and1, w_or0, w_or1, asg_nm, ex_some, ex_var, ex_int, ex_bl, startE, List.length_cons, List.length_nil, List.map_cons, List.map_nil, List.getElem?_cons_zero, List.getElem?_cons_succ, List.set_cons_zero, List.set_cons_succ, List.cons_append, List.nil_append, List.replicate, ex_ite, b_add_i, b_sub_i, b_mul_i, b_mod_i, b_div_i, b_pow_i, b_add_s, b_add_t, b_add_l, b_mul_s, b_mul_t, b_mul_l, c_lt_i, c_le_i, c_gt_i, c_ge_i, c_lt_s, c_le_s, c_eq_i, c_ne_i, c_eq_s, c_ne_s, WP_ok, WS_nx, WS_rt, true_and, and_true])
local macro_rules | `(tactic| walk_at "cip2") => `(tactic| simp only [s_cons, s_nil, s_asg, s_ret, s_ite, s_exp, s_pass, w_non, w_bl, w_int, w_str, w_var, w_con, w_bin, w_neg, w_cmp, w_isn, w_notn, w_and, w_or, w_not, w_ite, w_tup, w_lst, w_idx, w_call, s_ssubD, s_forD, s_whlD, w_mutD, w_appD, mut_lst, asg_tup2, asg_tup3, int_i, len_l, len_t, len_s, idx_l, idx_t, tuple_l, w_bi, w_isi, w_evs, w_evs0, w_and0, w_and1, w_or0, w_or1, asg_nm, ex_some, ex_var, ex_int, ex_bl, startE, List.length_cons, List.length_nil, List.map_cons, List.map_nil, List.getElem?_cons_zero, List.getElem?_cons_succ, List.set_cons_zero, List.set_cons_succ, List.cons_append, List.nil_append, List.replicate, ex_ite, b_add_i, b_sub_i, b_mul_i, b_mod_i, b_div_i, b_pow_i, b_add_s, b_add_t, b_add_l, b_mul_s, b_mul_t, b_mul_l, c_lt_i, c_le_i, c_gt_i, c_ge_i, c_lt_s, c_le_s, c_eq_i, c_ne_i, c_eq_s, c_ne_s, WP_ok, WS_nx, WS_rt, true_and, and_true, w_slc, E.nulB, eq_self, if_true, if_false, Bool.false_eq_true, WP_bind, WP_of, bnd_int, Bool.not_true, Bool.not_false])
namespace Law
theorem cut_map {α β : Type} (f : α → β) (xs : List α) (lo hi : Option Int) : cutL (xs.map f) lo hi = (cutL xs lo hi).map f := by
  unfold cutL
  rw [List.length_map, List.map_take, List.map_drop]
theorem cut_le {α : Type} (xs : List α) (lo hi : Option Int) : (cutL xs lo hi).length ≤ xs.length := by
  unfold cutL
  rw [List.length_take, List.length_drop]
  omega
theorem cut_ge {α : Type} (xs : List α) (h : cutL xs (some 18) (some 60) ≠ []) : (cutL xs none (some 18)).length = 18 := by
  have hl : 18 ≤ xs.length := by
    refine Nat.le_of_not_lt fun hlt => h ?_
    unfold cutL
    have e : HT.sIx xs.length 0 (some 18) = xs.length := by
      show (if (18 : Int) < 0 then ((18 : Int) + (xs.length : Int)).toNat else min (18 : Int).toNat xs.length) = _
      rw [if_neg (by decide)]
      have : (18 : Int).toNat = 18 := rfl
      omega
    rw [e, List.drop_length]
    simp
  unfold cutL
  have e : HT.sIx xs.length xs.length (some 18) = 18 := by
    show (if (18 : Int) < 0 then ((18 : Int) + (xs.length : Int)).toNat else min (18 : Int).toNat xs.length) = _
    rw [if_neg (by decide)]
    have : (18 : Int).toNat = 18 := rfl
    omega
  rw [e]
  show ((xs.drop 0).take (18 - 0)).length = 18
  rw [List.drop_zero, List.length_take]
  omega
theorem abs_d {i : Int} {st : Store} : biD st .abs [.int i] = some (.int (if i < 0 then -i else i)) := rfl
def absD : D → D
  | .int i => .int (if i < 0 then -i else i)
  | d => d
theorem abs_map (ns : List Int) : (ns.map D.int).map absD = (ns.map fun i => if i < 0 then -i else i).map D.int := by
  rw [List.map_map, List.map_map]
  rfl
theorem enum_ints : ∀ (ns : List Int) (k : Nat) (d : D), d ∈ enumL k (ns.map D.int) → ∃ (i : Nat) (v : Int), d = .tup [.int i, .int v]
  | [], _, _, h => (List.not_mem_nil h).elim
  | n :: ns, k, d, h => by
    simp only [List.map_cons, enumL] at h
    rcases List.mem_cons.mp h with h | h
    · exact ⟨k, n, h⟩
    · exact enum_ints ns (k + 1) d h
theorem urn_of {n : Nat} {ns : List Int} {st : Store} {Q : D → Store → Prop} (hl : ns.length ≤ 1000) (hq : ∀ st', st'.length = st.length + 2 → (∀ k, k < st.length → st'[k]? = st[k]?) → UrnC st' (st.length + 1) st.length → Q (.ref (st.length + 1)) st') :
    WP (cf (n + 1) 10 [.scr (ns.map .int)] st) Q := by
  have hz : sizeLine = 16777216 := by decide
  refine call_wp (ft := f10) rfl rfl ?_
  unfold f10
  simp only [s_cons, s_asg, w_mutD]
  have c1 : ∀ s : Store, slcD s (.scr (ns.map .int)) none (some 18) = some (.lst ((cutL ns none (some 18)).map .int)) := fun s => by
    rw [← cut_map]
    rfl
  have c2 : ∀ s : Store, slcD s (.scr (ns.map .int)) (some 18) (some 60) = some (.lst ((cutL ns (some 18) (some 60)).map .int)) := fun s => by
    rw [← cut_map]
    rfl
  have len1 : (cutL ns none (some 18)).length ≤ 1000 := Nat.le_trans (cut_le _ _ _) hl
  refine w_lcP (P0 := fun ds s => ds = [.lst ((cutL ns none (some 18)).map .int)] ∧ st = s) ?_ (fun _ => true) absD ?_
  · try walk_at "cip2"
    simp only [c1, ex_some]
    try walk_at "cip2"
  · rintro _ _ ⟨rfl, rfl⟩
    refine ⟨(cutL ns none (some 18)).map .int, rfl, by rw [List.length_map]; omega, fun x hx => ?_, ?_⟩
    · obtain ⟨i, _, rfl⟩ := List.mem_map.mp hx
      refine ⟨_, asg_nm, .inl ⟨rfl, rfl⟩, fun _ => ?_⟩
      simp only [ev, evs, wipeE, startE, List.length_cons, List.length_nil, List.map_cons, List.map_nil, List.cons_append, List.nil_append, List.replicate, List.set_cons_zero, List.set_cons_succ, List.getElem?_cons_zero, List.getElem?_cons_succ, R.bind]
      rfl
    · rw [List.filter_eq_self.mpr (fun _ _ => rfl), abs_map, mut_lst]
      generalize hcs : ((cutL ns none (some 18)).map fun i => if i < 0 then -i else i) = cs
      have hcl : cs.length = (cutL ns none (some 18)).length := by rw [← hcs, List.length_map]
      try walk_at "cip2"
      simp only [c2, ex_some]
      try walk_at "cip2"
      refine ⟨_, rfl, WS_loop (fun rest env s => ∃ (cs' : List Int) (x y : Option D), cs'.length = cs.length ∧ s = st ++ [MO.lst (cs'.map .int)] ∧ env = [some (.scr (ns.map .int)), some (.ref st.length), x, y] ∧ (rest ≠ [] → cs.length = 18) ∧ ∀ d ∈ rest, ∃ (i : Nat) (v : Int), d = .tup [.int i, .int v])
        (fun rest env s h => ?_) (fun x rest env s h => ?_) (fun env s h => ?_) _ _ _ ⟨cs, none, none, rfl, rfl, rfl, fun hne => ?_, fun d hd => enum_ints _ _ d hd⟩⟩
      · exact still_ok.mpr fun k hk => by cases hk
      · obtain ⟨cs', a, b, h1, rfl, rfl, h2, h3⟩ := h
        obtain ⟨i, v, rfl⟩ := h3 x (by simp)
        have h18 := h2 (by simp)
        have gF : (st ++ [MO.lst (cs'.map D.int)])[st.length]? = some (.lst (cs'.map .int)) := by
          rw [List.getElem?_append_right (Nat.le_refl _)]
          simp
        try walk_at "cip2"
        obtain ⟨r1, r2⟩ := fmod_rng (i : Int) 18 (by decide)
        have hlt : ((i : Int).fmod 18).toNat < (cs'.map D.int).length := by rw [List.length_map]; omega
        have hlt' : ((i : Int).fmod 18).toNat < cs'.length := by omega
        refine ⟨by decide, ?_⟩
        rw [idx_at gF, atI_nat r1 hlt, List.getElem?_map, List.getElem?_eq_getElem hlt']
        simp only [Option.map_some, ex_some, abs_d]
        try walk_at "cip2"
        refine ⟨by decide, _, ssub_at (j := ((i : Int).fmod 18).toNat) gF ?_, cs'.set ((i : Int).fmod 18).toNat (cs'[((i : Int).fmod 18).toNat] + if v < 0 then -v else v), _, _, by rw [List.length_set]; exact h1, ?_, rfl, fun _ => h18, fun d hd => h3 d (List.mem_cons_of_mem _ hd)⟩
        · unfold L2.ixN
          rw [List.length_map]
          have : (i : Int).fmod 18 < (cs'.length : Int) := by omega
          simp [r1, this]
        · rw [List.set_append_right _ _ (Nat.le_refl _), List.map_set]
          simp
      · obtain ⟨cs', a, b, h1, rfl, rfl, h2, h3⟩ := h
        try walk_at "cip2"
        refine ⟨by decide, ?_⟩
        have e : st ++ [MO.lst (cs'.map D.int)] ++ [MO.lst [.ref st.length, .int 0, .int 0, .int 0]] = st ++ [MO.lst (cs'.map D.int), MO.lst [.ref st.length, .int 0, .int 0, .int 0]] := by simp
        have hlen : (st ++ [MO.lst (cs'.map D.int)]).length = st.length + 1 := by simp
        rw [e, hlen]
        have hg : gc st [.ref (st.length + 1)] (st ++ [MO.lst (cs'.map D.int), MO.lst [.ref st.length, .int 0, .int 0, .int 0]]) = st ++ [MO.lst (cs'.map D.int), MO.lst [.ref st.length, .int 0, .int 0, .int 0]] := by
          unfold gc
          rw [if_neg]
          intro hL
          have := hL.1
          simp only [D.mxs, D.mx] at this
          omega
        rw [hg]
        refine hq _ (by simp) (fun k hk => by rw [List.getElem?_append_left hk]) ⟨cs', 0, 0, 0, ?_, by omega, ?_, by decide⟩
        · rw [List.getElem?_append_right (by omega)]
          simp
        · rw [List.getElem?_append_right (Nat.le_refl _)]
          simp
      · rw [hcl]
        refine cut_ge ns fun e => hne ?_
        rw [e]
        rfl
end Law
end Cip

set_option maxHeartbeats 4000000
namespace Cip
open PySem
local macro_rules | `(tactic| walk_at "cip") => `(tactic| simp only [s_cons, s_nil, s_asg, s_ret, s_ite, s_exp, s_pass, w_non, w_bl, w_int, w_str, w_var, w_con, w_bin, w_neg, w_cmp, w_isn, w_notn, w_and, w_or, w_not, w_ite, w_tup, w_lst, w_idx, w_call, s_ssubD, s_forD, s_whlD, w_mutD, w_appD, mut_lst, asg_tup2, asg_tup3, int_i, len_l, len_t, len_s, idx_l, idx_t, tuple_l, w_bi, w_isi, w_evs, w_evs0, w_and0, w_and1, w_or0, w_or1, asg_nm, ex_some, ex_var, ex_int, ex_bl, startE, List.length_cons, List.length_nil, List.map_cons, List.map_nil, List.getElem?_cons_zero, List.getElem?_cons_succ, List.set_cons_zero, List.set_cons_succ, List.cons_append, List.nil_append, List.replicate, ex_ite, b_add_i, b_sub_i, b_mul_i, b_mod_i, b_div_i, b_pow_i, b_add_s, b_add_t, b_add_l, b_mul_s, b_mul_t, b_mul_l, c_lt_i, c_le_i, c_gt_i, c_ge_i, c_lt_s, c_le_s, c_eq_i, c_ne_i, c_eq_s, c_ne_s, WP_ok, WS_nx, WS_rt, true_and, and_true])
local macro_rules | `(tactic| walk_at "cip2") => `(tactic| simp only [s_cons, s_nil, s_asg, s_ret, s_ite, s_exp, s_pass, w_non, w_bl, w_int, w_str, w_var, w_con, w_bin, w_neg, w_cmp, w_isn, w_notn, w_and, w_or, w_not, w_ite, w_tup, w_lst, w_idx, w_call, s_ssubD, s_forD, s_whlD, w_mutD, w_appD, mut_lst, asg_tup2, asg_tup3, int_i, len_l, len_t, len_s, idx_l, idx_t, tuple_l, w_bi, w_isi, w_evs, w_evs0, w_and0, w_and1, w_or0, w_or1, asg_nm, ex_some, ex_var, ex_int, ex_bl, startE, List.length_cons, List.length_nil, List.map_cons, List.map_nil, List.getElem?_cons_zero, List.getElem?_cons_succ, List.set_cons_zero, List.set_cons_succ, List.cons_append, List.nil_append, List.replicate, ex_ite, b_add_i, b_sub_i, b_mul_i, b_mod_i, b_div_i, b_pow_i, b_add_s, b_add_t, b_add_l, b_mul_s, b_mul_t, b_mul_l, c_lt_i, c_le_i, c_gt_i, c_ge_i, c_lt_s, c_le_s, c_eq_i, c_ne_i, c_eq_s, c_ne_s, WP_ok, WS_nx, WS_rt, true_and, and_true, w_slc, E.nulB, eq_self, if_true, if_false, Bool.false_eq_true, WP_bind, WP_of, bnd_int, Bool.not_true, Bool.not_false])
local macro_rules | `(tactic| walk_at "cip3") => `(tactic| simp only [s_cons, s_nil, s_asg, s_ret, s_ite, s_exp, s_pass, w_non, w_bl, w_int, w_str, w_var, w_con, w_bin, w_neg, w_cmp, w_isn, w_notn, w_and, w_or, w_not, w_ite, w_tup, w_lst, w_idx, w_call, s_ssubD, s_forD, s_whlD, w_mutD, w_appD, mut_lst, asg_tup2, asg_tup3, int_i, len_l, len_t, len_s, idx_l, idx_t, tuple_l, w_bi, w_isi, w_evs, w_evs0, w_and0, w_and1, w_or0, w_or1, asg_nm, ex_some, ex_var, ex_int, ex_bl, startE, List.length_cons, List.length_nil, List.map_cons, List.map_nil, List.getElem?_cons_zero, List.getElem?_cons_succ, List.set_cons_zero, List.set_cons_succ, List.cons_append, List.nil_append, List.replicate, ex_ite, b_add_i, b_sub_i, b_mul_i, b_mod_i, b_div_i, b_pow_i, b_add_s, b_add_t, b_add_l, b_mul_s, b_mul_t, b_mul_l, c_lt_i, c_le_i, c_gt_i, c_ge_i, c_lt_s, c_le_s, c_eq_i, c_ne_i, c_eq_s, c_ne_s, WP_ok, WS_nx, WS_rt, true_and, and_true, w_slc, E.nulB, eq_self, if_true, if_false, Bool.false_eq_true, WP_bind, WP_of, bnd_int, Bool.not_true, Bool.not_false, w_chn])
namespace Law
/-! M05: the two checks are one. -/
theorem ok_of {α : Type} {r : R α} {v : α} {st : Store} (h : WP r fun a s => a = v ∧ s = st) : r = .ok v st := by
  obtain ⟨a, s, e, rfl, rfl⟩ := WP_get h
  exact e
def isI (d : D) : Bool := match d with | .int _ => true | .bl _ => true | _ => false
def isB (d : D) : Bool := match d with | .bl _ => true | _ => false
def isS (d : D) : Bool := match d with | .str _ => true | _ => false
def isT (d : D) : Bool := match d with | .tup _ => true | _ => false
theorem isi_i {sub : Nat → Nat → Option Bool} {ve : Nat → Option Bool} {st : Store} {d : D} (h : Cl d = true) : isiD sub ve st d .int = some (isI d) := by
  cases d <;> first | rfl | cases h
theorem isi_b {sub : Nat → Nat → Option Bool} {ve : Nat → Option Bool} {st : Store} {d : D} (h : Cl d = true) : isiD sub ve st d .bool = some (isB d) := by
  cases d <;> first | rfl | cases h
theorem isi_s {sub : Nat → Nat → Option Bool} {ve : Nat → Option Bool} {st : Store} {d : D} (h : Cl d = true) : isiD sub ve st d .str = some (isS d) := by
  cases d <;> first | rfl | cases h
theorem isi_t {sub : Nat → Nat → Option Bool} {ve : Nat → Option Bool} {st : Store} {d : D} (h : Cl d = true) : isiD sub ve st d .tuple = some (isT d) := by
  cases d <;> first | rfl | cases h
theorem run_int {n : Nat} {d : D} {st : Store} (h : Cl d = true) : cf (n + 1) 0 [d] st = .ok (.bl (isI d && !isB d)) st := by
  refine ok_of (call_same (ft := f0) rfl rfl ?_)
  unfold f0
  walk_at "cip"
  rw [isi_i h]
  refine ⟨_, rfl, ?_⟩
  cases e : isI d with
  | false => simp [WP_ok]
  | true =>
    simp only [if_true]
    walk_at "cip"
    rw [isi_b h]
    refine ⟨_, rfl, ?_⟩
    cases isB d <;> simp [WP_ok, w_and0]
def okW (c : Nat) : Bool := subStr ⟨#[c]⟩ "abcdefghijklmnopqrstuvwxyz0123456789"
def wordB (d : D) : Bool := match d with
  | .str s => decide (0 < s.length) && decide (s.length ≤ 12) && s.cps.toList.all okW
  | _ => false
def okC (c : Nat) : Bool := !ltStr ⟨#[c]⟩ " " && !ltStr "~" ⟨#[c]⟩
theorem run_char {n c : Nat} {st : Store} : cf (n + 1) 1 [.str ⟨#[c]⟩] st = .ok (.bl (okC c)) st := by
  refine ok_of (call_same (ft := f1) rfl rfl ?_)
  unfold f1
  walk_at "cip3"
  unfold okC
  cases e : ltStr ⟨#[c]⟩ (Str.ofString " ") with
  | true => simp [WP_ok]
  | false =>
    simp only [Bool.not_false, if_true]
    walk_at "cip3"
    simp
theorem run_char2 {n c : Nat} {st : Store} : cf (n + 1) 22 [.str ⟨#[c]⟩] st = .ok (.bl (okC c)) st := by
  refine ok_of (call_same (ft := f22) rfl rfl ?_)
  unfold f22
  walk_at "cip3"
  unfold okC
  cases e : ltStr ⟨#[c]⟩ (Str.ofString " ") with
  | true => simp [WP_ok]
  | false =>
    simp only [Bool.not_false, if_true]
    walk_at "cip3"
    simp
theorem small {st : Store} : binD st .add (.str "abcdefghijklmnopqrstuvwxyz") (.str "0123456789") = some (.str "abcdefghijklmnopqrstuvwxyz0123456789") := by rfl
theorem filter_t {α : Type} (xs : List α) : xs.filter (fun _ => true) = xs := List.filter_eq_self.mpr fun _ _ => rfl
theorem bools_map {α : Type} (f : α → Bool) : ∀ xs : List α, bools (xs.map fun x => .bl (f x)) = some (xs.map f)
  | [] => rfl
  | x :: xs => by
    simp only [List.map_cons, bools, bools_map f xs, Option.map_some]
theorem all_map {α : Type} {st : Store} (f : α → Bool) (xs : List α) : biD st .all [.lst (xs.map fun x => .bl (f x))] = some (.bl (xs.all f)) := by
  simp only [biD, bi1, lstD, Option.bind_some, bools_map, Option.map_some, List.all_map, Function.comp_def, id]
/-- the letters of a text, each by itself -/
theorem run_word {n : Nat} {d : D} {st : Store} (h : Cl d = true) : cf (n + 1) 2 [d] st = .ok (.bl (wordB d)) st := by
  refine ok_of (call_same (ft := f2) rfl rfl ?_)
  unfold f2
  walk_at "cip3"
  rw [isi_s h]
  refine ⟨_, rfl, ?_⟩
  cases d with
  | str s =>
    simp only [isS, if_true]
    walk_at "cip3"
    have wz : wordB (.str s) = (decide (0 < (s.length : Int)) && (decide ((s.length : Int) ≤ 12) && s.cps.toList.all okW)) := by
      have e : decide (s.length ≤ 12) = decide ((s.length : Int) ≤ 12) := decide_eq_decide.mpr (by omega)
      have e' : decide (0 < s.length) = decide (0 < (s.length : Int)) := decide_eq_decide.mpr (by omega)
      simp only [wordB, Bool.and_assoc, e, e']
    rw [wz]
    cases e1 : decide (0 < (s.length : Int)) with
    | false => simp [WP_ok]
    | true =>
      simp only [if_true]
      walk_at "cip3"
      refine ⟨.int 12, rfl, _, rfl, _, rfl, ?_⟩
      cases e2 : decide ((s.length : Int) ≤ 12) with
      | false => simp [WP_ok]
      | true =>
        simp only [if_true]
        walk_at "cip3"
        refine w_lcP (P0 := fun ds s' => ds = [.str s] ∧ s' = st) ?_ (fun _ => true) (fun x => .bl (match x with | .str t => subStr t "abcdefghijklmnopqrstuvwxyz0123456789" | _ => false)) fun ds s' hp => ?_
        · walk_at "cip3"
        · obtain ⟨rfl, rfl⟩ := hp
          refine ⟨s.cps.toList.map one, rfl, ?_, fun x hx => ?_, ?_⟩
          · have : sizeLine = 16777216 := by decide
            have e2 := of_decide_eq_true e2
            rw [List.length_map]
            unfold Str.length at e2
            simp only [Array.length_toList]
            omega
          · obtain ⟨c, _, rfl⟩ := List.mem_map.mp hx
            refine ⟨_, rfl, .inl ⟨rfl, rfl⟩, fun _ => ok_of ?_⟩
            walk_at "cip3"
            exact ⟨_, rfl, _, rfl, _, rfl, _, small, _, rfl, rfl⟩
          · rw [filter_t, List.map_map]
            refine ⟨.bl (s.cps.toList.all okW), all_map okW _, _, rfl, ?_⟩
            cases s.cps.toList.all okW <;> simp [WP_ok, w_and0]
  | _ => simp [isS, wordB, WP_ok]
theorem filt_nil {α : Type} (f : α → Bool) (xs : List α) : (xs.filter fun x => !f x).isEmpty = xs.all f := by
  induction xs with
  | nil => rfl
  | cons x xs ih =>
    rw [List.filter_cons, List.all_cons]
    cases e : f x with
    | true => simpa using ih
    | false => simp
theorem run_word2 {n : Nat} {d : D} {st : Store} (h : Cl d = true) : cf (n + 1) 23 [d] st = .ok (.bl (wordB d)) st := by
  refine ok_of (call_same (ft := f23) rfl rfl ?_)
  unfold f23
  walk_at "cip3"
  rw [isi_s h]
  refine ⟨_, rfl, ?_⟩
  cases d with
  | str s =>
    simp only [isS, if_true]
    walk_at "cip3"
    have wz : wordB (.str s) = (decide (0 < (s.length : Int)) && (decide ((s.length : Int) < 13) && s.cps.toList.all okW)) := by
      have e : decide (s.length ≤ 12) = decide ((s.length : Int) < 13) := decide_eq_decide.mpr (by omega)
      have e' : decide (0 < s.length) = decide (0 < (s.length : Int)) := decide_eq_decide.mpr (by omega)
      simp only [wordB, Bool.and_assoc, e, e']
    rw [wz]
    cases e1 : decide (0 < (s.length : Int)) with
    | false => simp [WP_ok]
    | true =>
      simp only [if_true]
      walk_at "cip3"
      cases e2 : decide ((s.length : Int) < 13) with
      | false => simp [WP_ok]
      | true =>
        refine ⟨_, rfl, _, rfl, ?_⟩
        simp only [if_true]
        walk_at "cip3"
        refine w_lcP (P0 := fun ds s' => ds = [.str s] ∧ s' = st) ?_ (fun x => !(match x with | .str t => subStr t "abcdefghijklmnopqrstuvwxyz0123456789" | _ => false)) (fun x => x) fun ds s' hp => ?_
        · walk_at "cip3"
        · obtain ⟨rfl, rfl⟩ := hp
          refine ⟨s.cps.toList.map one, rfl, ?_, fun x hx => ?_, ?_⟩
          · have : sizeLine = 16777216 := by decide
            have e2 := of_decide_eq_true e2
            rw [List.length_map]
            unfold Str.length at e2
            simp only [Array.length_toList]
            omega
          · obtain ⟨c, _, rfl⟩ := List.mem_map.mp hx
            refine ⟨_, rfl, .inr ⟨rfl, ok_of ?_⟩, fun _ => ok_of ?_⟩
            · walk_at "cip3"
              exact ⟨_, rfl, _, rfl, _, rfl, rfl⟩
            · walk_at "cip3"
              exact ⟨_, rfl, rfl⟩
          · try walk_at "cip3"
            rw [List.map_id', eq_nilL, List.filter_map, List.isEmpty_map]
            have e3 : (List.filter ((fun x => !(match x with | .str t => subStr t "abcdefghijklmnopqrstuvwxyz0123456789" | _ => false : Bool)) ∘ one) s.cps.toList).isEmpty = s.cps.toList.all okW := filt_nil okW s.cps.toList
            rw [e3]
            refine ⟨Nat.zero_le _, _, rfl, ?_⟩
            cases s.cps.toList.all okW <;> simp [WP_ok, w_and0]
  | _ => simp [isS, wordB, WP_ok]
end Law
end Cip

set_option maxHeartbeats 4000000
namespace Cip
open PySem
local macro_rules | `(tactic| walk_at "cip") => `(tactic| simp only [s_cons, s_nil, s_asg, s_ret, s_ite, s_exp, s_pass, w_non, w_bl, w_int, w_str, w_var, w_con, w_bin, w_neg, w_cmp, w_isn, w_notn, w_and, w_or, w_not, w_ite, w_tup, w_lst, w_idx, w_call, s_ssubD, s_forD, s_whlD, w_mutD, w_appD, mut_lst, asg_tup2, asg_tup3, int_i, len_l, len_t, len_s, idx_l, idx_t, tuple_l, w_bi, w_isi, w_evs, w_evs0, w_and0, w_and1, w_or0, w_or1, asg_nm, ex_some, ex_var, ex_int, ex_bl, startE, List.length_cons, List.length_nil, List.map_cons, List.map_nil, List.getElem?_cons_zero, List.getElem?_cons_succ, List.set_cons_zero, List.set_cons_succ, List.cons_append, List.nil_append, List.replicate, ex_ite, b_add_i, b_sub_i, b_mul_i, b_mod_i, b_div_i, b_pow_i, b_add_s, b_add_t, b_add_l, b_mul_s, b_mul_t, b_mul_l, c_lt_i, c_le_i, c_gt_i, c_ge_i, c_lt_s, c_le_s, c_eq_i, c_ne_i, c_eq_s, c_ne_s, WP_ok, WS_nx, WS_rt, true_and, and_true])
local macro_rules | `(tactic| walk_at "cip2") => `(tactic| simp only [s_cons, s_nil, s_asg, s_ret, s_ite, s_exp, s_pass, w_non, w_bl, w_int, w_str, w_var, w_con, w_bin, w_neg, w_cmp, w_isn, w_notn, w_and, w_or, w_not, w_ite, w_tup, w_lst, w_idx, w_call, s_ssubD, s_forD, s_whlD, w_mutD, w_appD, mut_lst, asg_tup2, asg_tup3, int_i, len_l, len_t, len_s, idx_l, idx_t, tuple_l, w_bi, w_isi, w_evs, w_evs0, w_and0, w_and1, w_or0, w_or1, asg_nm, ex_some, ex_var, ex_int, ex_bl, startE, List.length_cons, List.length_nil, List.map_cons, List.map_nil, List.getElem?_cons_zero, List.getElem?_cons_succ, List.set_cons_zero, List.set_cons_succ, List.cons_append, List.nil_append, List.replicate, ex_ite, b_add_i, b_sub_i, b_mul_i, b_mod_i, b_div_i, b_pow_i, b_add_s, b_add_t, b_add_l, b_mul_s, b_mul_t, b_mul_l, c_lt_i, c_le_i, c_gt_i, c_ge_i, c_lt_s, c_le_s, c_eq_i, c_ne_i, c_eq_s, c_ne_s, WP_ok, WS_nx, WS_rt, true_and, and_true, w_slc, E.nulB, eq_self, if_true, if_false, Bool.false_eq_true, WP_bind, WP_of, bnd_int, Bool.not_true, Bool.not_false])
local macro_rules | `(tactic| walk_at "cip3") => `(tactic| simp only [s_cons, s_nil, s_asg, s_ret, s_ite, s_exp, s_pass, w_non, w_bl, w_int, w_str, w_var, w_con, w_bin, w_neg, w_cmp, w_isn, w_notn, w_and, w_or, w_not, w_ite, w_tup, w_lst, w_idx, w_call, s_ssubD, s_forD, s_whlD, w_mutD, w_appD, mut_lst, asg_tup2, asg_tup3, int_i, len_l, len_t, len_s, idx_l, idx_t, tuple_l, w_bi, w_isi, w_evs, w_evs0, w_and0, w_and1, w_or0, w_or1, asg_nm, ex_some, ex_var, ex_int, ex_bl, startE, List.length_cons, List.length_nil, List.map_cons, List.map_nil, List.getElem?_cons_zero, List.getElem?_cons_succ, List.set_cons_zero, List.set_cons_succ, List.cons_append, List.nil_append, List.replicate, ex_ite, b_add_i, b_sub_i, b_mul_i, b_mod_i, b_div_i, b_pow_i, b_add_s, b_add_t, b_add_l, b_mul_s, b_mul_t, b_mul_l, c_lt_i, c_le_i, c_gt_i, c_ge_i, c_lt_s, c_le_s, c_eq_i, c_ne_i, c_eq_s, c_ne_s, WP_ok, WS_nx, WS_rt, true_and, and_true, w_slc, E.nulB, eq_self, if_true, if_false, Bool.false_eq_true, WP_bind, WP_of, bnd_int, Bool.not_true, Bool.not_false, w_chn])
namespace Law
/-! M06: the checks of marks, pieces, cells, lines and contents. -/
section
variable {Γ : Tx} {cf : CF} {env : Env} {st : Store}
theorem w_eq {e : E} {d : D} {Q : D → Store → Prop} (h : ev Γ cf e env st = .ok d st) : WP (ev Γ cf e env st) Q ↔ Q d st := by rw [h, WP_ok]
/-- all(c for x in a) -/
theorem all_lc {i : Nat} {a c : E} {d : D} {xs : List D} (f : D → Bool) (h : ev Γ cf a env st = .ok d st) (hw : walkD st .val [d] = some xs) (hl : xs.length ≤ sizeLine)
    (hx : ∀ x ∈ xs, ev Γ cf c ((wipeE env [i]).set i (some x)) st = .ok (.bl (f x)) st) : ev Γ cf (.bi .all [.lc [i] (.nm i) .val [a] .nul c]) env st = .ok (.bl (xs.all f)) st := by
  refine ok_of ?_
  walk_at "cip3"
  refine w_lcP (P0 := fun ds s' => ds = [d] ∧ s' = st) ?_ (fun _ => true) (fun x => .bl (f x)) fun ds s' hp => ?_
  · walk_at "cip3"
    rw [w_eq h]
    exact ⟨rfl, rfl⟩
  · obtain ⟨rfl, rfl⟩ := hp
    refine ⟨xs, hw, hl, fun x hm => ⟨_, rfl, .inl ⟨rfl, rfl⟩, fun _ => hx x hm⟩, ?_⟩
    rw [filter_t]
    exact ⟨_, all_map f xs, rfl, rfl⟩
/-- [x for x in a if not c] == [] -/
theorem flt_lc {i : Nat} {a c : E} {d : D} {xs : List D} (f : D → Bool) (h : ev Γ cf a env st = .ok d st) (hw : walkD st .val [d] = some xs) (hl : xs.length ≤ sizeLine) (hi : i < env.length)
    (hx : ∀ x ∈ xs, ev Γ cf c ((wipeE env [i]).set i (some x)) st = .ok (.bl (f x)) st) : ev Γ cf (.cmp .eq (.lc [i] (.nm i) .val [a] (.not c) (.var i)) (.lst [])) env st = .ok (.bl (xs.all f)) st := by
  refine ok_of ?_
  walk_at "cip3"
  refine w_lcP (P0 := fun ds s' => ds = [d] ∧ s' = st) ?_ (fun x => !f x) (fun x => x) fun ds s' hp => ?_
  · walk_at "cip3"
    rw [w_eq h]
    exact ⟨rfl, rfl⟩
  · obtain ⟨rfl, rfl⟩ := hp
    refine ⟨xs, hw, hl, fun x hm => ⟨_, rfl, .inr ⟨rfl, ok_of ?_⟩, fun _ => ok_of ?_⟩, ?_⟩
    · walk_at "cip3"
      rw [w_eq (hx x hm)]
      exact ⟨_, rfl, rfl, rfl⟩
    · walk_at "cip3"
      have : i < ((wipeE env [i]).length) := by simpa [wipeE] using hi
      rw [List.getElem?_set_self this]
      exact ⟨x, rfl, rfl⟩
    · rw [List.map_id', eq_nilL, filt_nil]
      exact ⟨Nat.zero_le _, _, rfl, rfl, rfl⟩
end
def linkB (d : D) : Bool := match d with
  | .str l => l == "" || wordB (.str l)
  | _ => false
def marksB (d : D) : Bool := match d with
  | .tup [a, b, c] => isB b && isB c && linkB a
  | _ => false
theorem wp_run {α : Type} {r : R α} {v : α} {st : Store} {Q : α → Store → Prop} (h : r = .ok v st) (q : Q v st) : WP r Q := by rw [h, WP_ok]; exact q
theorem run_marks {n : Nat} {d : D} {st : Store} (h : Cl d = true) : cf (n + 2) 3 [d] st = .ok (.bl (marksB d)) st := by
  refine ok_of (call_same (ft := f3) rfl rfl ?_)
  unfold f3
  walk_at "cip3"
  rw [isi_t h]
  refine ⟨_, rfl, ?_⟩
  cases d with
  | tup xs =>
    simp only [isT, Bool.not_true, Bool.false_eq_true, if_false]
    walk_at "cip3"
    by_cases hl : xs.length = 3
    · obtain ⟨a, b, c, rfl⟩ : ∃ a b c, xs = [a, b, c] := by
        match xs, hl with
        | [a, b, c], _ => exact ⟨a, b, c, rfl⟩
      have hc : (Cl a && (Cl b && (Cl c && true))) = true := h
      simp only [Bool.and_eq_true] at hc
      obtain ⟨ha, hb, hcc, _⟩ := hc
      have key : ev (txOf cons) (cf (n + 1)) (.bi .all [.lc [1] (.nm 1) .val [.slc (.var 0) (.int 1) .nul] .nul (.isi (.var 1) .bool)]) [some (.tup [a, b, c]), none] st = .ok (.bl ([b, c].all isB)) st :=
        all_lc isB (d := .tup [b, c]) (ok_of (by walk_at "cip3"; exact ⟨_, rfl, rfl⟩)) rfl (show 2 ≤ sizeLine by decide) (fun x hx => ok_of (by
          have hx : x = b ∨ x = c := by simpa using hx
          have hx : Cl x = true := by rcases hx with rfl | rfl <;> assumption
          walk_at "cip3"
          exact ⟨_, rfl, _, isi_b hx, rfl⟩))
      rw [if_neg (by simp)]
      simp only [w_or1, w_not]
      rw [w_eq key]
      refine ⟨_, rfl, _, rfl, ?_⟩
      have mz : marksB (.tup [a, b, c]) = ([b, c].all isB && linkB a) := by
        show (isB b && isB c && linkB a) = _
        simp
      rw [mz]
      cases e : [b, c].all isB with
      | false =>
        simp only [Bool.not_false, if_true]
        walk_at "cip3"
        simp
      | true =>
        simp only [Bool.not_true, Bool.false_eq_true, if_false]
        walk_at "cip3"
        refine ⟨_, rfl, _, isi_s ha, ?_⟩
        cases a with
        | str l =>
          simp only [isS, if_true]
          walk_at "cip3"
          refine ⟨.str l, rfl, ?_⟩
          walk_at "cip3"
          have wz : linkB (.str l) = (decide (l = "") || wordB (.str l)) := rfl
          rw [wz]
          cases e2 : decide (l = Str.ofString "") with
          | true =>
            simp only [if_true]
            walk_at "cip3"
            simp
          | false =>
            simp only [Bool.false_eq_true, if_false]
            walk_at "cip3"
            refine ⟨.str l, rfl, ?_⟩
            refine wp_run (run_word ha) ⟨_, rfl, ?_⟩
            cases wordB (.str l) <;> simp [WP_ok, w_and0, w_or0]
        | _ => simp [isS, linkB, WP_ok]
    · have mz : marksB (.tup xs) = false := by
        match xs, hl with
        | [], _ => rfl
        | [a], _ => rfl
        | [a, b], _ => rfl
        | a :: b :: c :: e :: xs, _ => rfl
      rw [if_pos (by simp; omega), mz]
      walk_at "cip3"
  | _ => simp [isT, marksB, WP_ok, s_cons, s_ret, s_nil, w_bl, WS_rt]
end Law
end Cip

set_option maxHeartbeats 4000000
namespace Cip
open PySem
local macro_rules | `(tactic| walk_at "cip") => `(tactic| simp only [s_cons, s_nil, s_asg, s_ret, s_ite, s_exp, s_pass, w_non, w_bl, w_int, w_str, w_var, w_con, w_bin, w_neg, w_cmp, w_isn, w_notn, w_and, w_or, w_not, w_ite, w_tup, w_lst, w_idx, w_call, s_ssubD, s_forD, s_whlD, w_mutD, w_appD, mut_lst, asg_tup2, asg_tup3, int_i, len_l, len_t, len_s, idx_l, idx_t, tuple_l, w_bi, w_isi, w_evs, w_evs0, w_and0, w_and1, w_or0, w_or1, asg_nm, ex_some, ex_var, ex_int, ex_bl, startE, List.length_cons, List.length_nil, List.map_cons, List.map_nil, List.getElem?_cons_zero, List.getElem?_cons_succ, List.set_cons_zero, List.set_cons_succ, List.cons_append, List.nil_append, List.replicate, ex_ite, b_add_i, b_sub_i, b_mul_i, b_mod_i, b_div_i, b_pow_i, b_add_s, b_add_t, b_add_l, b_mul_s, b_mul_t, b_mul_l, c_lt_i, c_le_i, c_gt_i, c_ge_i, c_lt_s, c_le_s, c_eq_i, c_ne_i, c_eq_s, c_ne_s, WP_ok, WS_nx, WS_rt, true_and, and_true])
local macro_rules | `(tactic| walk_at "cip2") => `(tactic| simp only [s_cons, s_nil, s_asg, s_ret, s_ite, s_exp, s_pass, w_non, w_bl, w_int, w_str, w_var, w_con, w_bin, w_neg, w_cmp, w_isn, w_notn, w_and, w_or, w_not, w_ite, w_tup, w_lst, w_idx, w_call, s_ssubD, s_forD, s_whlD, w_mutD, w_appD, mut_lst, asg_tup2, asg_tup3, int_i, len_l, len_t, len_s, idx_l, idx_t, tuple_l, w_bi, w_isi, w_evs, w_evs0, w_and0, w_and1, w_or0, w_or1, asg_nm, ex_some, ex_var, ex_int, ex_bl, startE, List.length_cons, List.length_nil, List.map_cons, List.map_nil, List.getElem?_cons_zero, List.getElem?_cons_succ, List.set_cons_zero, List.set_cons_succ, List.cons_append, List.nil_append, List.replicate, ex_ite, b_add_i, b_sub_i, b_mul_i, b_mod_i, b_div_i, b_pow_i, b_add_s, b_add_t, b_add_l, b_mul_s, b_mul_t, b_mul_l, c_lt_i, c_le_i, c_gt_i, c_ge_i, c_lt_s, c_le_s, c_eq_i, c_ne_i, c_eq_s, c_ne_s, WP_ok, WS_nx, WS_rt, true_and, and_true, w_slc, E.nulB, eq_self, if_true, if_false, Bool.false_eq_true, WP_bind, WP_of, bnd_int, Bool.not_true, Bool.not_false])
local macro_rules | `(tactic| walk_at "cip3") => `(tactic| simp only [s_cons, s_nil, s_asg, s_ret, s_ite, s_exp, s_pass, w_non, w_bl, w_int, w_str, w_var, w_con, w_bin, w_neg, w_cmp, w_isn, w_notn, w_and, w_or, w_not, w_ite, w_tup, w_lst, w_idx, w_call, s_ssubD, s_forD, s_whlD, w_mutD, w_appD, mut_lst, asg_tup2, asg_tup3, int_i, len_l, len_t, len_s, idx_l, idx_t, tuple_l, w_bi, w_isi, w_evs, w_evs0, w_and0, w_and1, w_or0, w_or1, asg_nm, ex_some, ex_var, ex_int, ex_bl, startE, List.length_cons, List.length_nil, List.map_cons, List.map_nil, List.getElem?_cons_zero, List.getElem?_cons_succ, List.set_cons_zero, List.set_cons_succ, List.cons_append, List.nil_append, List.replicate, ex_ite, b_add_i, b_sub_i, b_mul_i, b_mod_i, b_div_i, b_pow_i, b_add_s, b_add_t, b_add_l, b_mul_s, b_mul_t, b_mul_l, c_lt_i, c_le_i, c_gt_i, c_ge_i, c_lt_s, c_le_s, c_eq_i, c_ne_i, c_eq_s, c_ne_s, WP_ok, WS_nx, WS_rt, true_and, and_true, w_slc, E.nulB, eq_self, if_true, if_false, Bool.false_eq_true, WP_bind, WP_of, bnd_int, Bool.not_true, Bool.not_false, w_chn])
namespace Law
/-! M07: pieces, cells, lines, contents. -/
theorem w_all {Γ : Tx} {cf : CF} {env : Env} {st : Store} {i : Nat} {a c : E} {d : D} {xs : List D} {Q : D → Store → Prop} (f : D → Bool) (h : ev Γ cf a env st = .ok d st) (hw : walkD st .val [d] = some xs) (hl : xs.length ≤ sizeLine)
    (hx : ∀ x ∈ xs, ev Γ cf c ((wipeE env [i]).set i (some x)) st = .ok (.bl (f x)) st) (q : Q (.bl (xs.all f)) st) : WP (ev Γ cf (.lc [i] (.nm i) .val [a] .nul c) env st) fun d st => ∃ d1, biD st .all [d] = some d1 ∧ Q d1 st := by
  have := all_lc f h hw hl hx
  have hW : WP (ev Γ cf (.bi .all [.lc [i] (.nm i) .val [a] .nul c]) env st) Q := wp_run this q
  simpa only [w_bi, w_evs, w_evs0, WP_ok] using hW
theorem two_le : 2 ≤ sizeLine := by decide
/-- a text that is not empty, of characters, no longer than a line of the model's -/
def textB (d : D) : Bool := match d with
  | .str s => !decide (s = "") && s.cps.toList.all okC
  | _ => false
def pieceB (d : D) : Bool := match d with
  | .tup [a, b] => textB a && marksB b
  | _ => false
theorem run_piece {n : Nat} {d : D} {st : Store} (h : Cl d = true) (hz : ∀ s b, d = .tup [.str s, b] → s.length ≤ sizeLine) : cf (n + 3) 4 [d] st = .ok (.bl (pieceB d)) st := by
  refine ok_of (call_same (ft := f4) rfl rfl ?_)
  unfold f4
  walk_at "cip3"
  rw [isi_t h]
  refine ⟨_, rfl, ?_⟩
  cases d with
  | tup xs =>
    simp only [isT, Bool.not_true, Bool.false_eq_true, if_false]
    walk_at "cip3"
    by_cases hl : xs.length = 2
    · obtain ⟨a, b, rfl⟩ : ∃ a b, xs = [a, b] := by
        match xs, hl with
        | [a, b], _ => exact ⟨a, b, rfl⟩
      have hc : (Cl a && (Cl b && true)) = true := h
      simp only [Bool.and_eq_true] at hc
      obtain ⟨ha, hb, _⟩ := hc
      rw [if_neg (by simp)]
      walk_at "cip3"
      refine ⟨a, rfl, _, isi_s ha, ?_⟩
      cases a with
      | str l =>
        have mz : pieceB (.tup [.str l, b]) = ((!decide (l = "") && l.cps.toList.all okC) && marksB b) := rfl
        rw [mz]
        simp only [isS, Bool.not_true, Bool.false_eq_true, if_false]
        walk_at "cip3"
        refine ⟨.str l, rfl, ?_⟩
        walk_at "cip3"
        cases e2 : decide (l = Str.ofString "") with
        | true =>
          simp only [if_true]
          walk_at "cip3"
          simp
        | false =>
          simp only [Bool.false_eq_true, if_false]
          walk_at "cip3"
          refine w_all (fun x => match x with | .str t => !ltStr t " " && !ltStr "~" t | _ => false) (d := .str l) (xs := l.cps.toList.map one) (ok_of (by walk_at "cip3"; exact ⟨_, rfl, rfl⟩)) rfl ?_ (fun x hx => ?_) ?_
          · rw [List.length_map]
            exact hz l b rfl
          · obtain ⟨c, _, rfl⟩ := List.mem_map.mp hx
            refine ok_of ?_
            walk_at "cip3"
            exact ⟨_, rfl, wp_run run_char ⟨rfl, rfl⟩⟩
          · have e3 : ((l.cps.toList.map one).all fun x => (match x with | .str t => !ltStr t " " && !ltStr "~" t | _ => false : Bool)) = l.cps.toList.all okC := by
              rw [List.all_map]
              rfl
            rw [e3]
            refine ⟨_, rfl, ?_⟩
            cases l.cps.toList.all okC with
            | false => simp [WP_ok]
            | true =>
              simp only [if_true]
              walk_at "cip3"
              refine ⟨b, rfl, wp_run (run_marks hb) ⟨_, rfl, ?_⟩⟩
              cases marksB b <;> simp [WP_ok, w_and0]
      | _ => simp [isS, pieceB, textB, WP_ok, s_cons, s_ret, s_nil, w_bl, WS_rt]
    · have mz : pieceB (.tup xs) = false := by
        match xs, hl with
        | [], _ => rfl
        | [a], _ => rfl
        | a :: b :: c :: xs, _ => rfl
      rw [if_pos (by simp; omega), mz]
      walk_at "cip3"
  | _ => simp [isT, pieceB, WP_ok, s_cons, s_ret, s_nil, w_bl, WS_rt]
end Law
end Cip

set_option maxHeartbeats 4000000
namespace Cip
open PySem
local macro_rules | `(tactic| walk_at "cip") => `(tactic| simp only [s_cons, s_nil, s_asg, s_ret, s_ite, s_exp, s_pass, w_non, w_bl, w_int, w_str, w_var, w_con, w_bin, w_neg, w_cmp, w_isn, w_notn, w_and, w_or, w_not, w_ite, w_tup, w_lst, w_idx, w_call, s_ssubD, s_forD, s_whlD, w_mutD, w_appD, mut_lst, asg_tup2, asg_tup3, int_i, len_l, len_t, len_s, idx_l, idx_t, tuple_l, w_bi, w_isi, w_evs, w_evs0, w_and0, w_and1, w_or0, w_or1, asg_nm, ex_some, ex_var, ex_int, ex_bl, startE, List.length_cons, List.length_nil, List.map_cons, List.map_nil, List.getElem?_cons_zero, List.getElem?_cons_succ, List.set_cons_zero, List.set_cons_succ, List.cons_append, List.nil_append, List.replicate, ex_ite, b_add_i, b_sub_i, b_mul_i, b_mod_i, b_div_i, b_pow_i, b_add_s, b_add_t, b_add_l, b_mul_s, b_mul_t, b_mul_l, c_lt_i, c_le_i, c_gt_i, c_ge_i, c_lt_s, c_le_s, c_eq_i, c_ne_i, c_eq_s, c_ne_s, WP_ok, WS_nx, WS_rt, true_and, and_true])
local macro_rules | `(tactic| walk_at "cip2") => `(tactic| simp only [s_cons, s_nil, s_asg, s_ret, s_ite, s_exp, s_pass, w_non, w_bl, w_int, w_str, w_var, w_con, w_bin, w_neg, w_cmp, w_isn, w_notn, w_and, w_or, w_not, w_ite, w_tup, w_lst, w_idx, w_call, s_ssubD, s_forD, s_whlD, w_mutD, w_appD, mut_lst, asg_tup2, asg_tup3, int_i, len_l, len_t, len_s, idx_l, idx_t, tuple_l, w_bi, w_isi, w_evs, w_evs0, w_and0, w_and1, w_or0, w_or1, asg_nm, ex_some, ex_var, ex_int, ex_bl, startE, List.length_cons, List.length_nil, List.map_cons, List.map_nil, List.getElem?_cons_zero, List.getElem?_cons_succ, List.set_cons_zero, List.set_cons_succ, List.cons_append, List.nil_append, List.replicate, ex_ite, b_add_i, b_sub_i, b_mul_i, b_mod_i, b_div_i, b_pow_i, b_add_s, b_add_t, b_add_l, b_mul_s, b_mul_t, b_mul_l, c_lt_i, c_le_i, c_gt_i, c_ge_i, c_lt_s, c_le_s, c_eq_i, c_ne_i, c_eq_s, c_ne_s, WP_ok, WS_nx, WS_rt, true_and, and_true, w_slc, E.nulB, eq_self, if_true, if_false, Bool.false_eq_true, WP_bind, WP_of, bnd_int, Bool.not_true, Bool.not_false])
local macro_rules | `(tactic| walk_at "cip3") => `(tactic| simp only [s_cons, s_nil, s_asg, s_ret, s_ite, s_exp, s_pass, w_non, w_bl, w_int, w_str, w_var, w_con, w_bin, w_neg, w_cmp, w_isn, w_notn, w_and, w_or, w_not, w_ite, w_tup, w_lst, w_idx, w_call, s_ssubD, s_forD, s_whlD, w_mutD, w_appD, mut_lst, asg_tup2, asg_tup3, int_i, len_l, len_t, len_s, idx_l, idx_t, tuple_l, w_bi, w_isi, w_evs, w_evs0, w_and0, w_and1, w_or0, w_or1, asg_nm, ex_some, ex_var, ex_int, ex_bl, startE, List.length_cons, List.length_nil, List.map_cons, List.map_nil, List.getElem?_cons_zero, List.getElem?_cons_succ, List.set_cons_zero, List.set_cons_succ, List.cons_append, List.nil_append, List.replicate, ex_ite, b_add_i, b_sub_i, b_mul_i, b_mod_i, b_div_i, b_pow_i, b_add_s, b_add_t, b_add_l, b_mul_s, b_mul_t, b_mul_l, c_lt_i, c_le_i, c_gt_i, c_ge_i, c_lt_s, c_le_s, c_eq_i, c_ne_i, c_eq_s, c_ne_s, WP_ok, WS_nx, WS_rt, true_and, and_true, w_slc, E.nulB, eq_self, if_true, if_false, Bool.false_eq_true, WP_bind, WP_of, bnd_int, Bool.not_true, Bool.not_false, w_chn])
namespace Law
/-! M08: the other check of pieces. -/
theorem at0 {α : Type} {x : α} {xs : List α} : L2.atI (x :: xs) 0 = some x := by
  rw [atI_nat (by decide) (by simp)] <;> rfl
theorem at1 {α : Type} {x y : α} {xs : List α} : L2.atI (x :: y :: xs) 1 = some y := by
  rw [atI_nat (by decide) (by simp)] <;> rfl
theorem at2 {α : Type} {x y z : α} {xs : List α} : L2.atI (x :: y :: z :: xs) 2 = some z := by
  rw [atI_nat (by decide) (by simp)] <;> rfl
theorem WP_if {α : Type} {b : Bool} {x y : R α} {Q : α → Store → Prop} : WP (if b = true then x else y) Q ↔ (b = true → WP x Q) ∧ (b = false → WP y Q) := by cases b <;> simp
theorem WS_if {b : Bool} {x y : SR} {N : Env → Store → Prop} {V : D → Store → Prop} : WS (if b = true then x else y) N V ↔ (b = true → WS x N V) ∧ (b = false → WS y N V) := by cases b <;> simp
theorem con0 : (txOf cons).con 0 = some (.str "abcdefghijklmnopqrstuvwxyz") := rfl
theorem con1 : (txOf cons).con 1 = some (.str "0123456789") := rfl
theorem con2 : (txOf cons).con 2 = some (.int 12) := rfl
theorem con3 : (txOf cons).con 3 = some (.int 6) := rfl
theorem con4 : (txOf cons).con 4 = some (.int 12) := rfl
theorem con5 : (txOf cons).con 5 = some (.int 200) := rfl
theorem con6 : (txOf cons).con 6 = some (.int 40) := rfl
theorem con7 : (txOf cons).con 7 = some (.int 491) := rfl
theorem isI_n  : isI (.non) = false := rfl
theorem isI_b {b : Bool} : isI (.bl b) = true := rfl
theorem isI_i {i : Int} : isI (.int i) = true := rfl
theorem isI_s {x : Str} : isI (.str x) = false := rfl
theorem isI_t {xs : List D} : isI (.tup xs) = false := rfl
theorem isI_l {xs : List D} : isI (.lst xs) = false := rfl
theorem isI_d {ks : List Key} {vs : List D} : isI (.dct ks vs) = false := rfl
theorem isI_c {xs : List D} : isI (.scr xs) = false := rfl
theorem isI_r {k : Nat} : isI (.ref k) = false := rfl
theorem isB_n  : isB (.non) = false := rfl
theorem isB_b {b : Bool} : isB (.bl b) = true := rfl
theorem isB_i {i : Int} : isB (.int i) = false := rfl
theorem isB_s {x : Str} : isB (.str x) = false := rfl
theorem isB_t {xs : List D} : isB (.tup xs) = false := rfl
theorem isB_l {xs : List D} : isB (.lst xs) = false := rfl
theorem isB_d {ks : List Key} {vs : List D} : isB (.dct ks vs) = false := rfl
theorem isB_c {xs : List D} : isB (.scr xs) = false := rfl
theorem isB_r {k : Nat} : isB (.ref k) = false := rfl
theorem isS_n  : isS (.non) = false := rfl
theorem isS_b {b : Bool} : isS (.bl b) = false := rfl
theorem isS_i {i : Int} : isS (.int i) = false := rfl
theorem isS_s {x : Str} : isS (.str x) = true := rfl
theorem isS_t {xs : List D} : isS (.tup xs) = false := rfl
theorem isS_l {xs : List D} : isS (.lst xs) = false := rfl
theorem isS_d {ks : List Key} {vs : List D} : isS (.dct ks vs) = false := rfl
theorem isS_c {xs : List D} : isS (.scr xs) = false := rfl
theorem isS_r {k : Nat} : isS (.ref k) = false := rfl
theorem isT_n  : isT (.non) = false := rfl
theorem isT_b {b : Bool} : isT (.bl b) = false := rfl
theorem isT_i {i : Int} : isT (.int i) = false := rfl
theorem isT_s {x : Str} : isT (.str x) = false := rfl
theorem isT_t {xs : List D} : isT (.tup xs) = true := rfl
theorem isT_l {xs : List D} : isT (.lst xs) = false := rfl
theorem isT_d {ks : List Key} {vs : List D} : isT (.dct ks vs) = false := rfl
theorem isT_c {xs : List D} : isT (.scr xs) = false := rfl
theorem isT_r {k : Nat} : isT (.ref k) = false := rfl
local macro_rules | `(tactic| walk_at "cip4") => `(tactic| simp only [s_cons, s_nil, s_asg, s_ret, s_ite, s_exp, s_pass, w_non, w_bl, w_int, w_str, w_var, w_con, w_bin, w_neg, w_cmp, w_isn, w_notn, w_and, w_or, w_not, w_ite, w_tup, w_lst, w_idx, w_call, s_ssubD, s_forD, s_whlD, w_mutD, w_appD, mut_lst, asg_tup2, asg_tup3, int_i, len_l, len_t, len_s, idx_l, idx_t, tuple_l, w_bi, w_isi, w_evs, w_evs0, w_and0, w_and1, w_or0, w_or1, asg_nm, ex_some, ex_var, ex_int, ex_bl, startE, List.length_cons, List.length_nil, List.map_cons, List.map_nil, List.getElem?_cons_zero, List.getElem?_cons_succ, List.set_cons_zero, List.set_cons_succ, List.cons_append, List.nil_append, List.replicate, ex_ite, b_add_i, b_sub_i, b_mul_i, b_mod_i, b_div_i, b_pow_i, b_add_s, b_add_t, b_add_l, b_mul_s, b_mul_t, b_mul_l, c_lt_i, c_le_i, c_gt_i, c_ge_i, c_lt_s, c_le_s, c_eq_i, c_ne_i, c_eq_s, c_ne_s, WP_ok, WS_nx, WS_rt, true_and, and_true, w_slc, E.nulB, eq_self, if_true, if_false, Bool.false_eq_true, WP_bind, WP_of, bnd_int, Bool.not_true, Bool.not_false, w_chn, at0, at1, at2, Option.map_some, WP_if, WS_if, isI_n, isI_b, isI_i, isI_s, isI_t, isI_l, isI_d, isI_c, isI_r, isB_n, isB_b, isB_i, isB_s, isB_t, isB_l, isB_d, isB_c, isB_r, isS_n, isS_b, isS_i, isS_s, isS_t, isS_l, isS_d, isS_c, isS_r, isT_n, isT_b, isT_i, isT_s, isT_t, isT_l, isT_d, isT_c, isT_r, true_imp_iff, false_imp_iff, Bool.true_eq_false, imp_self, wipeE, con0, con1, con2, con3, con4, con5, con6, con7, Nat.reduceAdd, Nat.reduceSub])
local macro_rules | `(tactic| walk_at "cip5") => `(tactic| simp only [s_cons, s_nil, s_asg, s_ret, s_ite, s_exp, s_pass, w_non, w_bl, w_int, w_str, w_var, w_con, w_bin, w_neg, w_cmp, w_isn, w_notn, w_and, w_or, w_not, w_ite, w_tup, w_lst, w_idx, w_call, s_ssubD, s_forD, s_whlD, w_mutD, w_appD, mut_lst, asg_tup2, asg_tup3, int_i, len_l, len_t, len_s, idx_l, idx_t, tuple_l, w_bi, w_isi, w_evs, w_evs0, w_and0, w_and1, w_or0, w_or1, asg_nm, ex_some, ex_var, ex_int, ex_bl, startE, List.length_cons, List.length_nil, List.map_cons, List.map_nil, List.getElem?_cons_zero, List.getElem?_cons_succ, List.set_cons_zero, List.set_cons_succ, List.cons_append, List.nil_append, List.replicate, ex_ite, b_add_i, b_sub_i, b_mul_i, b_mod_i, b_div_i, b_pow_i, b_add_s, b_add_t, b_add_l, b_mul_s, b_mul_t, b_mul_l, c_lt_i, c_le_i, c_gt_i, c_ge_i, c_lt_s, c_le_s, c_eq_i, c_ne_i, c_eq_s, c_ne_s, WP_ok, WS_nx, WS_rt, true_and, and_true, w_slc, E.nulB, eq_self, if_true, if_false, Bool.false_eq_true, WP_bind, WP_of, bnd_int, Bool.not_true, Bool.not_false, w_chn, at0, at1, at2, Option.map_some, WP_if, WS_if, isI_n, isI_b, isI_i, isI_s, isI_t, isI_l, isI_d, isI_c, isI_r, isB_n, isB_b, isB_i, isB_s, isB_t, isB_l, isB_d, isB_c, isB_r, isS_n, isS_b, isS_i, isS_s, isS_t, isS_l, isS_d, isS_c, isS_r, isT_n, isT_b, isT_i, isT_s, isT_t, isT_l, isT_d, isT_c, isT_r, true_imp_iff, false_imp_iff, Bool.true_eq_false, imp_self, wipeE, con0, con1, con2, con3, con4, con5, con6, con7, Nat.reduceAdd, Nat.reduceSub, *])
theorem flt_ne {Γ : Tx} {cf : CF} {env : Env} {st : Store} {i : Nat} {a c : E} {d : D} {xs : List D} (f : D → Bool) (h : ev Γ cf a env st = .ok d st) (hw : walkD st .val [d] = some xs) (hl : xs.length ≤ sizeLine) (hi : i < env.length)
    (hx : ∀ x ∈ xs, ev Γ cf c ((wipeE env [i]).set i (some x)) st = .ok (.bl (f x)) st) : ev Γ cf (.cmp .ne (.lc [i] (.nm i) .val [a] (.not c) (.var i)) (.lst [])) env st = .ok (.bl (!xs.all f)) st := by
  refine ok_of ?_
  walk_at "cip3"
  refine w_lcP (P0 := fun ds s' => ds = [d] ∧ s' = st) ?_ (fun x => !f x) (fun x => x) fun ds s' hp => ?_
  · walk_at "cip3"
    rw [w_eq h]
    exact ⟨rfl, rfl⟩
  · obtain ⟨rfl, rfl⟩ := hp
    refine ⟨xs, hw, hl, fun x hm => ⟨_, rfl, .inr ⟨rfl, ok_of ?_⟩, fun _ => ok_of ?_⟩, ?_⟩
    · walk_at "cip3"
      rw [w_eq (hx x hm)]
      exact ⟨_, rfl, rfl, rfl⟩
    · walk_at "cip3"
      have : i < ((wipeE env [i]).length) := by simpa [wipeE] using hi
      rw [List.getElem?_set_self this]
      exact ⟨x, rfl, rfl⟩
    · rw [List.map_id', ne_nilL, filt_nil]
      exact ⟨Nat.zero_le _, _, rfl, rfl, rfl⟩
theorem w_fne {Γ : Tx} {cf : CF} {env : Env} {st : Store} {i : Nat} {a c : E} {d : D} {xs : List D} {Q : Bool → Store → Prop} (f : D → Bool) (h : ev Γ cf a env st = .ok d st) (hw : walkD st .val [d] = some xs) (hl : xs.length ≤ sizeLine) (hi : i < env.length)
    (hx : ∀ x ∈ xs, ev Γ cf c ((wipeE env [i]).set i (some x)) st = .ok (.bl (f x)) st) (q : Q (!xs.all f) st) : WP (ev Γ cf (.lc [i] (.nm i) .val [a] (.not c) (.var i)) env st) fun x st => 0 ≤ sizeLine ∧ ∃ r, cmpD st .ne x (.lst []) = some r ∧ Q r st := by
  have hW : WP (ev Γ cf (.cmp .ne (.lc [i] (.nm i) .val [a] (.not c) (.var i)) (.lst [])) env st) (fun d st => ∃ r, d = .bl r ∧ Q r st) := wp_run (flt_ne f h hw hl hi hx) ⟨_, rfl, q⟩
  simp only [w_cmp, w_lst, w_evs0, WP_ok, List.length_nil] at hW
  refine hW.imp fun x st q => ?_
  simpa using q
theorem run_piece2 {n : Nat} {d : D} {st : Store} (h : Cl d = true) (hz : ∀ s b, d = .tup [.str s, b] → s.length ≤ sizeLine) : cf (n + 3) 24 [d] st = .ok (.bl (pieceB d)) st := by
  refine ok_of (call_same (ft := f24) rfl rfl ?_)
  unfold f24
  walk_at "cip3"
  rw [isi_t h]
  refine ⟨_, rfl, ?_⟩
  cases d with
  | tup xs =>
    simp only [isT, Bool.not_true, Bool.false_eq_true, if_false]
    walk_at "cip3"
    by_cases hl : xs.length = 2
    · obtain ⟨a, b, rfl⟩ : ∃ a b, xs = [a, b] := by
        match xs, hl with
        | [a, b], _ => exact ⟨a, b, rfl⟩
      have hc : (Cl a && (Cl b && true)) = true := h
      simp only [Bool.and_eq_true] at hc
      obtain ⟨ha, hb, _⟩ := hc
      rw [if_neg (by simp)]
      walk_at "cip3"
      refine ⟨a, rfl, _, isi_s ha, ?_⟩
      cases a with
      | str l =>
        have mz : pieceB (.tup [.str l, b]) = ((!decide (l = "") && l.cps.toList.all okC) && marksB b) := rfl
        rw [mz]
        simp only [isS, Bool.not_true, Bool.false_eq_true, if_false]
        walk_at "cip3"
        refine ⟨.str l, rfl, ?_⟩
        walk_at "cip3"
        cases e2 : decide (l = Str.ofString "") with
        | true =>
          simp only [if_true]
          walk_at "cip3"
          simp
        | false =>
          simp only [Bool.false_eq_true, if_false]
          walk_at "cip3"
          refine ⟨b, rfl, w_fne (fun x => match x with | .str t => !ltStr t " " && !ltStr "~" t | _ => false) (d := .str l) (xs := l.cps.toList.map one) (ok_of (by walk_at "cip3"; exact ⟨_, rfl, rfl⟩)) rfl ?_ (show 2 < 3 by decide) (fun x hx => ?_) ?_⟩
          · rw [List.length_map]
            exact hz l b rfl
          · obtain ⟨c, _, rfl⟩ := List.mem_map.mp hx
            refine ok_of ?_
            walk_at "cip3"
            exact ⟨_, rfl, wp_run run_char2 ⟨rfl, rfl⟩⟩
          · have e3 : ((l.cps.toList.map one).all fun x => (match x with | .str t => !ltStr t " " && !ltStr "~" t | _ => false : Bool)) = l.cps.toList.all okC := by
              rw [List.all_map]
              rfl
            rw [e3]
            cases l.cps.toList.all okC with
            | false =>
              simp only [Bool.not_false, if_true]
              walk_at "cip3"
              simp
            | true =>
              simp only [Bool.not_true, Bool.false_eq_true, if_false]
              walk_at "cip3"
              rw [isi_t hb]
              refine ⟨_, rfl, ?_⟩
              cases b with
              | tup ys =>
                by_cases hl3 : ys.length = 3
                · obtain ⟨p, q, r, rfl⟩ : ∃ p q r, ys = [p, q, r] := by
                    match ys, hl3 with
                    | [p, q, r], _ => exact ⟨p, q, r, rfl⟩
                  have hc3 : (Cl p && (Cl q && (Cl r && true))) = true := hb
                  simp only [Bool.and_eq_true] at hc3
                  obtain ⟨hp, hq, hr, _⟩ := hc3
                  have mz2 : marksB (.tup [p, q, r]) = (isB q && isB r && linkB p) := rfl
                  rw [mz2]
                  have i1 := fun sub ve st => @isi_b sub ve st q hq
                  have i2 := fun sub ve st => @isi_b sub ve st r hr
                  have i3 := fun sub ve st => @isi_s sub ve st p hp
                  clear mz2 mz e3
                  walk_at "cip5"
                  cases isB q with
                  | false => simp
                  | true => cases isB r with
                    | false => simp
                    | true => cases p with
                      | str lk =>
                        have wz : linkB (.str lk) = (decide (lk = "") || wordB (.str lk)) := rfl
                        rw [wz]
                        have c1 : ∀ st, cf (n + 2) 23 [.str lk] st = .ok (.bl (wordB (.str lk))) st := fun st => run_word2 hp
                        clear wz
                        walk_at "cip5"
                        cases decide (lk = Str.ofString "") <;> cases wordB (.str lk) <;> simp
                      | _ => simp [linkB, isS, WP_ok]
                · have mz2 : marksB (.tup ys) = false := by
                    match ys, hl3 with
                    | [], _ => rfl
                    | [a], _ => rfl
                    | [a, b], _ => rfl
                    | a :: b :: c :: e :: xs, _ => rfl
                  rw [mz2]
                  simp only [isT, Bool.not_true, Bool.false_eq_true, if_false]
                  walk_at "cip3"
                  rw [if_pos (by simp; omega)]
                  walk_at "cip3"
                  simp
              | _ => simp [isT, marksB, WP_ok, s_cons, s_ret, s_nil, w_bl, WS_rt]
      | _ => simp [isS, pieceB, textB, WP_ok, s_cons, s_ret, s_nil, w_bl, WS_rt]
    · have mz : pieceB (.tup xs) = false := by
        match xs, hl with
        | [], _ => rfl
        | [a], _ => rfl
        | a :: b :: c :: xs, _ => rfl
      rw [if_pos (by simp; omega), mz]
      walk_at "cip3"
  | _ => simp [isT, pieceB, WP_ok, s_cons, s_ret, s_nil, w_bl, WS_rt]
end Law
end Cip

set_option maxHeartbeats 4000000
/-! Cip29: the calculus, from outside in: what comes behind a value is not looked at before the value is there. -/
namespace Cip
open PySem
def EX {α : Type} (o : Option α) (P : α → Prop) : Prop := ∃ d, o = some d ∧ P d
def EB (d : D) (P : Bool → Prop) : Prop := ∃ b, d = .bl b ∧ P b
def EI (d : D) (P : Int → Prop) : Prop := ∃ i, d = .int i ∧ P i
/-- by a bool -/
def WB {α : Type} (b : Bool) (x y : R α) (Q : α → Store → Prop) : Prop := WP (if b = true then x else y) Q
def SB (b : Bool) (x y : SR) (N : Env → Store → Prop) (V : D → Store → Prop) : Prop := WS (if b = true then x else y) N V
section
variable {α β : Type} {Γ : Tx} {cf : CF} {env : Env} {st : Store} {Q : D → Store → Prop} {N : Env → Store → Prop} {V : D → Store → Prop}
theorem WB_t {x y : R α} {Q : α → Store → Prop} : WB true x y Q ↔ WP x Q := Iff.rfl
theorem WB_f {x y : R α} {Q : α → Store → Prop} : WB false x y Q ↔ WP y Q := Iff.rfl
theorem WB_n {b : Bool} {x y : R α} {Q : α → Store → Prop} : WB (!b) x y Q ↔ WB b y x Q := by cases b <;> exact Iff.rfl
theorem WB_if {b : Bool} {x y : R α} {Q : α → Store → Prop} : WB b x y Q ↔ (b = true → WP x Q) ∧ (b = false → WP y Q) := by cases b <;> simp [WB]
theorem WB_dec {p : Prop} [Decidable p] {x y : R α} {Q : α → Store → Prop} : WB (decide p) x y Q ↔ (p → WP x Q) ∧ (¬p → WP y Q) := by rw [WB_if]; simp
theorem WB_all {xs : List β} {f : β → Bool} {x y : R α} {Q : α → Store → Prop} : WB (xs.all f) x y Q ↔ ((xs.all f) = true → WP x Q) ∧ ((xs.all f) = false → WP y Q) := WB_if
theorem WB_any {xs : List β} {f : β → Bool} {x y : R α} {Q : α → Store → Prop} : WB (xs.any f) x y Q ↔ ((xs.any f) = true → WP x Q) ∧ ((xs.any f) = false → WP y Q) := WB_if
theorem WB_lt {a b : Str} {x y : R α} {Q : α → Store → Prop} : WB (ltStr a b) x y Q ↔ ((ltStr a b) = true → WP x Q) ∧ ((ltStr a b) = false → WP y Q) := WB_if
theorem WB_sub {a b : Str} {x y : R α} {Q : α → Store → Prop} : WB (subStr a b) x y Q ↔ ((subStr a b) = true → WP x Q) ∧ ((subStr a b) = false → WP y Q) := WB_if
theorem WB_emp {xs : List β} {x y : R α} {Q : α → Store → Prop} : WB (xs.isEmpty) x y Q ↔ ((xs.isEmpty) = true → WP x Q) ∧ ((xs.isEmpty) = false → WP y Q) := WB_if
theorem WB_eqv {a b : PyData} {x y : R α} {Q : α → Store → Prop} : WB (PyData.eqv a b) x y Q ↔ ((PyData.eqv a b) = true → WP x Q) ∧ ((PyData.eqv a b) = false → WP y Q) := WB_if
theorem WB_and {a b : Bool} {x y : R α} {Q : α → Store → Prop} : WB (a && b) x y Q ↔ ((a && b) = true → WP x Q) ∧ ((a && b) = false → WP y Q) := WB_if
theorem WB_or {a b : Bool} {x y : R α} {Q : α → Store → Prop} : WB (a || b) x y Q ↔ ((a || b) = true → WP x Q) ∧ ((a || b) = false → WP y Q) := WB_if
theorem SB_t {x y : SR} : SB true x y N V ↔ WS x N V := Iff.rfl
theorem SB_f {x y : SR} : SB false x y N V ↔ WS y N V := Iff.rfl
theorem SB_n {b : Bool} {x y : SR} : SB (!b) x y N V ↔ SB b y x N V := by cases b <;> exact Iff.rfl
theorem SB_if {b : Bool} {x y : SR} : SB b x y N V ↔ (b = true → WS x N V) ∧ (b = false → WS y N V) := by cases b <;> simp [SB]
theorem SB_dec {p : Prop} [Decidable p] {x y : SR} : SB (decide p) x y N V ↔ (p → WS x N V) ∧ (¬p → WS y N V) := by rw [SB_if]; simp
theorem SB_all {xs : List β} {f : β → Bool} {x y : SR} : SB (xs.all f) x y N V ↔ ((xs.all f) = true → WS x N V) ∧ ((xs.all f) = false → WS y N V) := SB_if
theorem SB_any {xs : List β} {f : β → Bool} {x y : SR} : SB (xs.any f) x y N V ↔ ((xs.any f) = true → WS x N V) ∧ ((xs.any f) = false → WS y N V) := SB_if
theorem SB_lt {a b : Str} {x y : SR} : SB (ltStr a b) x y N V ↔ ((ltStr a b) = true → WS x N V) ∧ ((ltStr a b) = false → WS y N V) := SB_if
theorem SB_sub {a b : Str} {x y : SR} : SB (subStr a b) x y N V ↔ ((subStr a b) = true → WS x N V) ∧ ((subStr a b) = false → WS y N V) := SB_if
theorem SB_emp {xs : List β} {x y : SR} : SB (xs.isEmpty) x y N V ↔ ((xs.isEmpty) = true → WS x N V) ∧ ((xs.isEmpty) = false → WS y N V) := SB_if
theorem SB_eqv {a b : PyData} {x y : SR} : SB (PyData.eqv a b) x y N V ↔ ((PyData.eqv a b) = true → WS x N V) ∧ ((PyData.eqv a b) = false → WS y N V) := SB_if
theorem SB_and {a b : Bool} {x y : SR} : SB (a && b) x y N V ↔ ((a && b) = true → WS x N V) ∧ ((a && b) = false → WS y N V) := SB_if
theorem SB_or {a b : Bool} {x y : SR} : SB (a || b) x y N V ↔ ((a || b) = true → WS x N V) ∧ ((a || b) = false → WS y N V) := SB_if
theorem EX_some {x : α} {P : α → Prop} : EX (some x) P ↔ P x := ex_some
theorem EX_none {P : α → Prop} : EX none P ↔ False := ex_none
theorem EB_bl {b : Bool} {P : Bool → Prop} : EB (.bl b) P ↔ P b := ex_bl
theorem EI_int {i : Int} {P : Int → Prop} : EI (.int i) P ↔ P i := ex_int
theorem EX_ite {c : Prop} [Decidable c] {x : α} {P : α → Prop} : EX (if c then some x else none) P ↔ c ∧ P x := ex_ite
theorem EX_map {o : Option α} {f : α → β} {P : β → Prop} : EX (o.map f) P ↔ EX o fun a => P (f a) := ex_map
theorem EX_mk {o : Option α} {P : α → Prop} (x : α) (h : o = some x) (p : P x) : EX o P := ⟨x, h, p⟩
theorem EX_eq {o : Option α} {x : α} (h : o = some x) {P : α → Prop} : EX o P ↔ P x := by rw [h]; exact EX_some
theorem EX_iff {o o' : Option α} (h : o = o') {P : α → Prop} : EX o P ↔ EX o' P := by rw [h]
theorem EX_imp {o : Option α} {P P' : α → Prop} (h : EX o P) (hp : ∀ x, P x → P' x) : EX o P' := let ⟨x, e, p⟩ := h; ⟨x, e, hp x p⟩
theorem WP_ofE {o : Option α} {Q : α → Store → Prop} : WP (R.of o st) Q ↔ EX o fun a => Q a st := WP_of
theorem wpk {e : E} {v : D} (h : ∀ st, ev Γ cf e env st = .ok v st) : ∀ (st : Store) (Q : D → Store → Prop), WP (ev Γ cf e env st) Q ↔ Q v st := by
  intro st Q
  rw [h st, WP_ok]
theorem wpc {r : Store → R D} {v : D} (h : ∀ st, r st = .ok v st) : ∀ (st : Store) (Q : D → Store → Prop), WP (r st) Q ↔ Q v st := by
  intro st Q
  rw [h st, WP_ok]
theorem l_var {i : Nat} : WP (ev Γ cf (.var i) env st) Q ↔ EX env[i]? fun o => EX o fun d => Q d st := by
  rw [w_var]
  constructor
  · exact fun ⟨d, h, q⟩ => ⟨some d, h, d, rfl, q⟩
  · exact fun ⟨o, h, d, h2, q⟩ => ⟨d, by rw [h, h2], q⟩
theorem l_con {i : Nat} : WP (ev Γ cf (.con i) env st) Q ↔ EX (Γ.con i) fun d => Q d st := w_con
theorem l_bin {o : BOp} {a b : E} : WP (ev Γ cf (.bin o a b) env st) Q ↔ WP (ev Γ cf a env st) fun x st => WP (ev Γ cf b env st) fun y st => EX (binD st o x y) fun d => Q d st := w_bin
theorem l_neg {a : E} : WP (ev Γ cf (.neg a) env st) Q ↔ WP (ev Γ cf a env st) fun x st => EI x fun i => Q (.int (-i)) st := w_neg
theorem l_cmp {o : COp} {a b : E} : WP (ev Γ cf (.cmp o a b) env st) Q ↔ WP (ev Γ cf a env st) fun x st => WP (ev Γ cf b env st) fun y st => EX (cmpD st o x y) fun r => Q (.bl r) st := w_cmp
theorem l_chn {o p : COp} {a b c : E} : WP (ev Γ cf (.chn o p a b c) env st) Q ↔ WP (ev Γ cf a env st) fun x st => WP (ev Γ cf b env st) fun y st => EX (cmpD st o x y) fun r =>
    WB r ((ev Γ cf c env st).bind fun z st => .of ((cmpD st p y z).map .bl) st) (.ok (.bl false) st) Q := w_chn
theorem l_not {a : E} : WP (ev Γ cf (.not a) env st) Q ↔ WP (ev Γ cf a env st) fun d st => EB d fun b => Q (.bl (!b)) st := w_not
theorem l_ite {c a b : E} : WP (ev Γ cf (.ite c a b) env st) Q ↔ WP (ev Γ cf c env st) fun d st => EB d fun r => WB r (ev Γ cf a env st) (ev Γ cf b env st) Q := w_ite
theorem l_tup {es : List E} : WP (ev Γ cf (.tup es) env st) Q ↔ WP (evs Γ cf es env st) fun ds st => ds.length ≤ 16777216 ∧ Q (.tup ds) st := w_tup
theorem l_lst {es : List E} : WP (ev Γ cf (.lst es) env st) Q ↔ WP (evs Γ cf es env st) fun ds st => ds.length ≤ 16777216 ∧ Q (.lst ds) st := w_lst
theorem l_idx {a i : E} : WP (ev Γ cf (.idx a i) env st) Q ↔ WP (ev Γ cf a env st) fun x st => WP (ev Γ cf i env st) fun y st => EX (idxD st x y) fun d => Q d st := w_idx
theorem l_slc {a lo hi : E} : WP (ev Γ cf (.slc a lo hi) env st) Q ↔ WP (ev Γ cf a env st) fun x st => WB lo.nulB (.ok none st) ((ev Γ cf lo env st).bind fun d st => .of (bnd d) st : R (Option Int)) fun l st =>
    WB hi.nulB (.ok none st) ((ev Γ cf hi env st).bind fun d st => .of (bnd d) st : R (Option Int)) fun h st => EX (slcD st x l h) fun d => Q d st := w_slc
theorem l_bi {b : BI} {es : List E} : WP (ev Γ cf (.bi b es) env st) Q ↔ WP (evs Γ cf es env st) fun ds st => EX (biD st b ds) fun d => Q d st := w_bi
theorem l_bm {m : BM} {a : E} {es : List E} : WP (ev Γ cf (.bm m a es) env st) Q ↔ WP (ev Γ cf a env st) fun x st => bmOn st m x = true ∧ WP (evs Γ cf es env st) fun ds st => EX (bmD st m x ds) fun d => Q d st := w_bm
theorem l_isi {a : E} {t : Ty} : WP (ev Γ cf (.isi a t) env st) Q ↔ WP (ev Γ cf a env st) fun x st => EX (isiD Γ.sub Γ.ve st x t) fun r => Q (.bl r) st := w_isi
theorem l_and1 {e : E} {es : List E} {Q : Bool → Store → Prop} : WP (evAnd Γ cf (e :: es) env st) Q ↔ WP (ev Γ cf e env st) fun d st => EB d fun r => WB r (evAnd Γ cf es env st) (.ok false st) Q := w_and1
theorem l_or1 {e : E} {es : List E} {Q : Bool → Store → Prop} : WP (evOr Γ cf (e :: es) env st) Q ↔ WP (ev Γ cf e env st) fun d st => EB d fun r => WB r (.ok true st) (evOr Γ cf es env st) Q := w_or1
theorem l_asg {t : Tg} {e : E} : WS (run Γ cf (.asg t e) env st) N V ↔ WP (ev Γ cf e env st) fun d st => EX (asgT st t d env) fun env' => N env' st := s_asg
theorem l_site {c : E} {a b : List S} : WS (run Γ cf (.ite c a b) env st) N V ↔ WP (ev Γ cf c env st) fun d st => EB d fun r => SB r (runs Γ cf a env st) (runs Γ cf b env st) N V := s_ite
theorem l_ssub {a i e : E} : WS (run Γ cf (.ssub a i e) env st) N V ↔ WP (ev Γ cf e env st) fun d st => WP (ev Γ cf a env st) fun x st => WP (ev Γ cf i env st) fun y st => EX (ssubD st x y d) fun st' => N env st' := s_ssubD
theorem l_app {a e : E} : WP (ev Γ cf (.app a e) env st) Q ↔ WP (ev Γ cf a env st) fun x st => (lstD st x).isSome = true ∧ WP (ev Γ cf e env st) fun d st => EX (appS st x d) fun st' => Q .non st' := w_appD
/-! data -/
theorem x_g0 {x : α} {xs : List α} {P : α → Prop} : EX (x :: xs)[0]? P ↔ P x := ex_some
theorem x_gs {x : α} {xs : List α} {i : Nat} {P : α → Prop} : EX (x :: xs)[i + 1]? P ↔ EX xs[i]? P := Iff.rfl
theorem x_at0 {x : α} {xs : List α} {P : α → Prop} : EX (L2.atI (x :: xs) 0) P ↔ P x := EX_eq (by rw [atI_nat (by decide) (by simp)] <;> rfl)
theorem x_at1 {x y : α} {xs : List α} {P : α → Prop} : EX (L2.atI (x :: y :: xs) 1) P ↔ P y := EX_eq (by rw [atI_nat (by decide) (by simp)] <;> rfl)
theorem x_at2 {x y z : α} {xs : List α} {P : α → Prop} : EX (L2.atI (x :: y :: z :: xs) 2) P ↔ P z := EX_eq (by rw [atI_nat (by decide) (by simp)] <;> rfl)
theorem x_a0 {d : D} {x : Option D} {xs : Env} {P : Env → Prop} : EX (asgT st (.nm 0) d (x :: xs)) P ↔ P (some d :: xs) := EX_eq (by unfold asgT; rfl)
theorem x_as {d : D} {x : Option D} {xs : Env} {i : Nat} {P : Env → Prop} : EX (asgT st (.nm (i + 1)) d (x :: xs)) P ↔ EX (asgT st (.nm i) d xs) fun e => P (x :: e) := by
  have e1 : asgT st (.nm (i + 1)) d (x :: xs) = some (x :: xs.set i (some d)) := by unfold asgT; rfl
  have e2 : asgT st (.nm i) d xs = some (xs.set i (some d)) := by unfold asgT; rfl
  rw [e1, e2, EX_some, EX_some]
theorem x_atup2 {i j : Nat} {a b : D} {P : Env → Prop} : EX (asgT st (.tup [.nm i, .nm j]) (.tup [a, b]) env) P ↔ EX (asgT st (.nm i) a env) fun e => EX (asgT st (.nm j) b e) P := by
  rw [asg_tup2, asg_nm, EX_some, EX_some, asg_nm, EX_some]
theorem x_atup3 {i j k : Nat} {a b c : D} {P : Env → Prop} : EX (asgT st (.tup [.nm i, .nm j, .nm k]) (.tup [a, b, c]) env) P ↔ EX (asgT st (.nm i) a env) fun e => EX (asgT st (.nm j) b e) fun e => EX (asgT st (.nm k) c e) P := by
  rw [asg_tup3, asg_nm, EX_some, EX_some, asg_nm, EX_some, asg_nm, EX_some]
section
variable {i j : Int} {x y : Str} {xs ys : List D} {P : D → Prop} {B : Bool → Prop}
theorem x_mod_i : EX (binD st .mod (.int i) (.int j)) P ↔ ¬ j = 0 ∧ P (.int (i.fmod j)) := by rw [b_mod_i, EX_ite]

theorem x_add_i : EX (binD st .add (.int i) (.int j)) P ↔ P (.int (i + j)) := EX_eq rfl
theorem x_sub_i : EX (binD st .sub (.int i) (.int j)) P ↔ P (.int (i - j)) := EX_eq rfl
theorem x_mul_i : EX (binD st .mul (.int i) (.int j)) P ↔ ((-(2 ^ 64) < i ∧ i < 2 ^ 64) ∨ (-(2 ^ 64) < j ∧ j < 2 ^ 64)) ∧ P (.int (i * j)) := EX_ite
theorem x_div_i : EX (binD st .fdiv (.int i) (.int j)) P ↔ (j ≠ 0 ∧ j.natAbs < 1073741824) ∧ P (.int (i.fdiv j)) := EX_ite
theorem x_pow_i : EX (binD st .pow (.int i) (.int j)) P ↔ (0 ≤ j ∧ j ≤ 1000 ∧ i.natAbs < 2 ^ 64) ∧ P (.int (i ^ j.toNat)) := EX_ite
theorem x_add_s : EX (binD st .add (.str x) (.str y)) P ↔ x.length + y.length ≤ 16777216 ∧ P (.str (x ++ y)) := EX_ite
theorem x_add_t : EX (binD st .add (.tup xs) (.tup ys)) P ↔ xs.length + ys.length ≤ 16777216 ∧ P (.tup (xs ++ ys)) := EX_ite
theorem x_add_l : EX (binD st .add (.lst xs) (.lst ys)) P ↔ xs.length + ys.length ≤ 16777216 ∧ P (.lst (xs ++ ys)) := EX_ite
theorem x_mul_s : EX (binD st .mul (.str x) (.int j)) P ↔ (-(2 ^ 31) ≤ j ∧ j < 2 ^ 31 ∧ x.length * j.toNat ≤ 16777216) ∧ P (.str (strMul x j)) := EX_ite
theorem x_mul_t : EX (binD st .mul (.tup xs) (.int j)) P ↔ (-(2 ^ 31) ≤ j ∧ j < 2 ^ 31 ∧ xs.length * j.toNat ≤ 16777216) ∧ P (.tup (List.replicate j.toNat xs).flatten) := EX_ite
theorem x_mul_l : EX (binD st .mul (.lst xs) (.int j)) P ↔ (-(2 ^ 31) ≤ j ∧ j < 2 ^ 31 ∧ xs.length * j.toNat ≤ 16777216) ∧ P (.lst (List.replicate j.toNat xs).flatten) := EX_ite
theorem x_lt_i : EX (cmpD st .lt (.int i) (.int j)) B ↔ B (decide (i < j)) := EX_eq (c_lt_i)
theorem x_le_i : EX (cmpD st .le (.int i) (.int j)) B ↔ B (decide (i ≤ j)) := EX_eq (c_le_i)
theorem x_gt_i : EX (cmpD st .gt (.int i) (.int j)) B ↔ B (decide (j < i)) := EX_eq (c_gt_i)
theorem x_ge_i : EX (cmpD st .ge (.int i) (.int j)) B ↔ B (decide (j ≤ i)) := EX_eq (c_ge_i)
theorem x_lt_s : EX (cmpD st .lt (.str x) (.str y)) B ↔ B (ltStr x y) := EX_eq (c_lt_s)
theorem x_le_s : EX (cmpD st .le (.str x) (.str y)) B ↔ B (!ltStr y x) := EX_eq (c_le_s)
theorem x_eq_i : EX (cmpD st .eq (.int i) (.int j)) B ↔ B (decide (i = j)) := EX_eq (c_eq_i)
theorem x_ne_i : EX (cmpD st .ne (.int i) (.int j)) B ↔ B (!decide (i = j)) := EX_eq (c_ne_i)
theorem x_eq_s : EX (cmpD st .eq (.str x) (.str y)) B ↔ B (decide (x = y)) := EX_eq (c_eq_s)
theorem x_ne_s : EX (cmpD st .ne (.str x) (.str y)) B ↔ B (!decide (x = y)) := EX_eq (c_ne_s)
theorem x_eq_nil : EX (cmpD st .eq (.lst xs) (.lst [])) B ↔ B xs.isEmpty := EX_eq (eq_nilL xs)
theorem x_ne_nil : EX (cmpD st .ne (.lst xs) (.lst [])) B ↔ B (!xs.isEmpty) := EX_eq (ne_nilL xs)
theorem x_in_s : EX (cmpD st .isin (.str x) (.str y)) B ↔ B (subStr x y) := EX_eq (rfl)
theorem x_nin_s : EX (cmpD st .nin (.str x) (.str y)) B ↔ B (!subStr x y) := EX_eq (rfl)
theorem x_len_l : EX (biD st .len [.lst xs]) P ↔ P (.int xs.length) := EX_eq rfl
theorem x_len_t : EX (biD st .len [.tup xs]) P ↔ P (.int xs.length) := EX_eq rfl
theorem x_len_s : EX (biD st .len [.str x]) P ↔ P (.int x.length) := EX_eq rfl
theorem x_tuple_l : EX (biD st .tuple [.lst xs]) P ↔ P (.tup xs) := EX_eq rfl
theorem x_tuple_t : EX (biD st .tuple [.tup xs]) P ↔ P (.tup xs) := EX_eq rfl
theorem x_list_t : EX (biD st .list [.tup xs]) P ↔ P (.lst xs) := EX_eq rfl
theorem x_list_l : EX (biD st .list [.lst xs]) P ↔ P (.lst xs) := EX_eq rfl
theorem x_list_s : EX (biD st .list [.str x]) P ↔ P (.lst (x.cps.toList.map one)) := EX_eq rfl
theorem x_int_i : EX (biD st .int [.int i]) P ↔ P (.int i) := EX_eq rfl
theorem x_int_b {b : Bool} : EX (biD st .int [.bl b]) P ↔ P (.int (if b then 1 else 0)) := EX_eq rfl
theorem x_abs : EX (biD st .abs [.int i]) P ↔ P (.int (if i < 0 then -i else i)) := EX_eq rfl
theorem x_str_s : EX (biD st .str [.str x]) P ↔ P (.str x) := EX_eq rfl
theorem x_slc_t {lo hi : Option Int} : EX (slcD st (.tup xs) lo hi) P ↔ P (.tup (cutL xs lo hi)) := EX_eq rfl
theorem x_slc_l {lo hi : Option Int} : EX (slcD st (.lst xs) lo hi) P ↔ P (.lst (cutL xs lo hi)) := EX_eq rfl
theorem x_slc_s {lo hi : Option Int} : EX (slcD st (.str x) lo hi) P ↔ P (.str (L2.cutS x lo hi)) := EX_eq rfl
theorem x_idx_t : EX (idxD st (.tup xs) (.int i)) P ↔ EX (L2.atI xs i) P := EX_iff rfl
theorem x_idx_l : EX (idxD st (.lst xs) (.int i)) P ↔ EX (L2.atI xs i) P := EX_iff rfl
theorem x_bnd {P : Option Int → Prop} : EX (bnd (.int i)) P ↔ P (some i) := ex_some
theorem x_str_i : EX (biD st .str [.int i]) P ↔ i.natAbs.log2 < 1920 ∧ P (.str (toString i)) := by
  have e : biD st .str [.int i] = if i.natAbs.log2 < 1920 then some (.str (toString i)) else none := by
    show (showI i).map D.str = _
    unfold showI
    split <;> rfl
  rw [e, EX_ite]
theorem x_str_b {b : Bool} : EX (biD st .str [.bl b]) P ↔ P (.str (if b then "True" else "False")) := EX_eq rfl
theorem x_upper : EX (bmD st .upper (.str x) []) P ↔ (x.length ≤ 5592405 ∧ (Txt.upper x).length ≤ 16777216) ∧ P (.str (Txt.upper x)) := EX_ite
theorem bools_mapG (f : α → Bool) : ∀ xs : List α, bools (xs.map fun x => .bl (f x)) = some (xs.map f)
  | [] => rfl
  | x :: xs => by simp only [List.map_cons, bools, bools_mapG f xs, Option.map_some]
theorem x_all {f : D → Bool} : EX (biD st .all [.lst (xs.map fun x => .bl (f x))]) P ↔ P (.bl (xs.all f)) := EX_eq (by
  simp only [biD, bi1, lstD, Option.bind_some, bools_mapG, Option.map_some, List.all_map, Function.comp_def, id])
theorem x_any {f : D → Bool} : EX (biD st .any [.lst (xs.map fun x => .bl (f x))]) P ↔ P (.bl (xs.any f)) := EX_eq (by
  simp only [biD, bi1, lstD, Option.bind_some, bools_mapG, Option.map_some, List.any_map, Function.comp_def, id])
theorem sum_mapG (f : α → Int) : ∀ xs : List α, sumL (xs.map fun x => .int (f x)) = some ((xs.map f).sum)
  | [] => rfl
  | x :: xs => by
    show (sumL (xs.map fun x => .int (f x))).map (f x + ·) = _
    rw [sum_mapG f xs] <;> rfl
theorem x_sum {f : D → Int} : EX (biD st .sum [.lst (xs.map fun x => .int (f x))]) P ↔ P (.int ((xs.map f).sum)) := EX_eq (by
  simp only [biD, bi1, lstD, Option.bind_some, sum_mapG, Option.map_some])
theorem filt_nilG (f : α → Bool) (xs : List α) : (xs.filter fun x => !f x).isEmpty = xs.all f := by
  induction xs with
  | nil => rfl
  | cons x xs ih =>
    rw [List.filter_cons, List.all_cons]
    cases e : f x with
    | true => simpa using ih
    | false => simp
theorem emp_flt {f : D → Bool} {g : D → D} : ((xs.filter fun x => !f x).map g).isEmpty = xs.all f := by rw [List.isEmpty_map, filt_nilG]
end
theorem sz : sizeLine = 16777216 := by decide
theorem nb_nul {x y : R α} {Q : α → Store → Prop} : WB (E.nulB (.nul)) x y Q ↔ WP x Q := Iff.rfl
theorem nb_int {i : Int} {x y : R α} {Q : α → Store → Prop} : WB (E.nulB (.int i)) x y Q ↔ WP y Q := Iff.rfl
theorem nb_var {i : Nat} {x y : R α} {Q : α → Store → Prop} : WB (E.nulB (.var i)) x y Q ↔ WP y Q := Iff.rfl
theorem nb_con {i : Nat} {x y : R α} {Q : α → Store → Prop} : WB (E.nulB (.con i)) x y Q ↔ WP y Q := Iff.rfl
theorem nb_bin {o : BOp} {a b : E} {x y : R α} {Q : α → Store → Prop} : WB (E.nulB (.bin o a b)) x y Q ↔ WP y Q := Iff.rfl
theorem nb_neg {a : E} {x y : R α} {Q : α → Store → Prop} : WB (E.nulB (.neg a)) x y Q ↔ WP y Q := Iff.rfl
theorem nb_idx {a b : E} {x y : R α} {Q : α → Store → Prop} : WB (E.nulB (.idx a b)) x y Q ↔ WP y Q := Iff.rfl
theorem nb_call {f : Nat} {es : List E} {x y : R α} {Q : α → Store → Prop} : WB (E.nulB (.call f es)) x y Q ↔ WP y Q := Iff.rfl
theorem nb_bi {f : BI} {es : List E} {x y : R α} {Q : α → Store → Prop} : WB (E.nulB (.bi f es)) x y Q ↔ WP y Q := Iff.rfl
theorem on_join {x : Str} : bmOn st .join (.str x) = true := rfl
theorem on_split {x : Str} : bmOn st .split (.str x) = true := rfl
theorem on_upper {x : Str} : bmOn st .upper (.str x) = true := rfl
theorem on_count {x : Str} : bmOn st .count (.str x) = true := rfl
theorem on_rstrip {x : Str} : bmOn st .rstrip (.str x) = true := rfl
theorem on_sindex {x : Str} : bmOn st .sindex (.str x) = true := rfl
theorem on_tindex {xs : List D} : bmOn st .tindex (.tup xs) = true := rfl
/-- [e for .. in ..], [.. if c], by values -/
theorem lc_G {own : List Nat} {t : Tg} {k : IK} {its : List E} {c e : E} {ds xs : List D} (p : D → Bool) (g : D → D) (h : evs Γ cf its env st = .ok ds st) (hw : walkD st k ds = some xs) (hl : xs.length ≤ 16777216) (hc : c.nulB = false)
    (hx : ∀ x ∈ xs, EX (asgT st t x (wipeE env own)) fun env' => ev Γ cf c env' st = .ok (.bl (p x)) st ∧ (p x = true → ev Γ cf e env' st = .ok (g x) st)) : ev Γ cf (.lc own t k its c e) env st = .ok (.lst ((xs.filter p).map g)) st := by
  have key : WP (ev Γ cf (.lc own t k its c e) env st) fun d s => d = .lst ((xs.filter p).map g) ∧ s = st := by
    refine w_lcP (P0 := fun ds' s' => ds' = ds ∧ s' = st) ?_ p g fun ds' s' hp => ?_
    · rw [h]
      exact ⟨rfl, rfl⟩
    · obtain ⟨rfl, rfl⟩ := hp
      refine ⟨xs, hw, by rw [sz]; exact hl, fun x hm => ?_, rfl, rfl⟩
      obtain ⟨env', h1, h2, h3⟩ := hx x hm
      exact ⟨env', h1, .inr ⟨hc, h2⟩, fun hp => h3 hp⟩
  obtain ⟨a, s, e, rfl, rfl⟩ := WP_get key
  exact e
theorem lc_M {own : List Nat} {t : Tg} {k : IK} {its : List E} {e : E} {ds xs : List D} (g : D → D) (h : evs Γ cf its env st = .ok ds st) (hw : walkD st k ds = some xs) (hl : xs.length ≤ 16777216)
    (hx : ∀ x ∈ xs, EX (asgT st t x (wipeE env own)) fun env' => ev Γ cf e env' st = .ok (g x) st) : ev Γ cf (.lc own t k its .nul e) env st = .ok (.lst (xs.map g)) st := by
  have key : WP (ev Γ cf (.lc own t k its .nul e) env st) fun d s => d = .lst (xs.map g) ∧ s = st := by
    refine w_lcP (P0 := fun ds' s' => ds' = ds ∧ s' = st) ?_ (fun _ => true) g fun ds' s' hp => ?_
    · rw [h]
      exact ⟨rfl, rfl⟩
    · obtain ⟨rfl, rfl⟩ := hp
      refine ⟨xs, hw, by rw [sz]; exact hl, fun x hm => ?_, ?_⟩
      · obtain ⟨env', h1, h2⟩ := hx x hm
        exact ⟨env', h1, .inl ⟨rfl, rfl⟩, fun _ => h2⟩
      · rw [show xs.filter (fun _ => true) = xs from List.filter_eq_self.mpr fun _ _ => rfl]
        exact ⟨rfl, rfl⟩
  obtain ⟨a, s, e, rfl, rfl⟩ := WP_get key
  exact e
/-- what comes to a value and leaves the store -/
def Is (r : R D) (v : D) (st : Store) : Prop := WP r fun d s => d = v ∧ s = st
theorem Is.eq {r : R D} {v : D} {st : Store} (h : Is r v st) : r = .ok v st := by
  obtain ⟨a, s, e, rfl, rfl⟩ := WP_get h
  exact e
theorem evs_i1 {e : E} {v : D} (h : ev Γ cf e env st = .ok v st) : evs Γ cf [e] env st = .ok [v] st := by
  simp only [evs, h, R.bind]
theorem evs_i2 {e e' : E} {v w : D} (h : ev Γ cf e env st = .ok v st) (h' : ev Γ cf e' env st = .ok w st) : evs Γ cf [e, e'] env st = .ok [v, w] st := by
  simp only [evs, h, h', R.bind]
end
theorem x_isi_nb {sub : Nat → Nat → Option Bool} {ve : Nat → Option Bool} {st : Store} {B : Bool → Prop} : EX (isiD sub ve st (.non) .bool) B ↔ B false := EX_eq rfl
theorem x_isi_ni {sub : Nat → Nat → Option Bool} {ve : Nat → Option Bool} {st : Store} {B : Bool → Prop} : EX (isiD sub ve st (.non) .int) B ↔ B false := EX_eq rfl
theorem x_isi_ns {sub : Nat → Nat → Option Bool} {ve : Nat → Option Bool} {st : Store} {B : Bool → Prop} : EX (isiD sub ve st (.non) .str) B ↔ B false := EX_eq rfl
theorem x_isi_nt {sub : Nat → Nat → Option Bool} {ve : Nat → Option Bool} {st : Store} {B : Bool → Prop} : EX (isiD sub ve st (.non) .tuple) B ↔ B false := EX_eq rfl
theorem x_isi_nl {sub : Nat → Nat → Option Bool} {ve : Nat → Option Bool} {st : Store} {B : Bool → Prop} : EX (isiD sub ve st (.non) .list) B ↔ B false := EX_eq rfl
theorem x_isi_nd {sub : Nat → Nat → Option Bool} {ve : Nat → Option Bool} {st : Store} {B : Bool → Prop} : EX (isiD sub ve st (.non) .dict) B ↔ B false := EX_eq rfl
theorem x_isi_bb {sub : Nat → Nat → Option Bool} {ve : Nat → Option Bool} {st : Store} {b : Bool} {B : Bool → Prop} : EX (isiD sub ve st (.bl b) .bool) B ↔ B true := EX_eq rfl
theorem x_isi_bi {sub : Nat → Nat → Option Bool} {ve : Nat → Option Bool} {st : Store} {b : Bool} {B : Bool → Prop} : EX (isiD sub ve st (.bl b) .int) B ↔ B true := EX_eq rfl
theorem x_isi_bs {sub : Nat → Nat → Option Bool} {ve : Nat → Option Bool} {st : Store} {b : Bool} {B : Bool → Prop} : EX (isiD sub ve st (.bl b) .str) B ↔ B false := EX_eq rfl
theorem x_isi_bt {sub : Nat → Nat → Option Bool} {ve : Nat → Option Bool} {st : Store} {b : Bool} {B : Bool → Prop} : EX (isiD sub ve st (.bl b) .tuple) B ↔ B false := EX_eq rfl
theorem x_isi_bl {sub : Nat → Nat → Option Bool} {ve : Nat → Option Bool} {st : Store} {b : Bool} {B : Bool → Prop} : EX (isiD sub ve st (.bl b) .list) B ↔ B false := EX_eq rfl
theorem x_isi_bd {sub : Nat → Nat → Option Bool} {ve : Nat → Option Bool} {st : Store} {b : Bool} {B : Bool → Prop} : EX (isiD sub ve st (.bl b) .dict) B ↔ B false := EX_eq rfl
theorem x_isi_ib {sub : Nat → Nat → Option Bool} {ve : Nat → Option Bool} {st : Store} {i : Int} {B : Bool → Prop} : EX (isiD sub ve st (.int i) .bool) B ↔ B false := EX_eq rfl
theorem x_isi_ii {sub : Nat → Nat → Option Bool} {ve : Nat → Option Bool} {st : Store} {i : Int} {B : Bool → Prop} : EX (isiD sub ve st (.int i) .int) B ↔ B true := EX_eq rfl
theorem x_isi_is {sub : Nat → Nat → Option Bool} {ve : Nat → Option Bool} {st : Store} {i : Int} {B : Bool → Prop} : EX (isiD sub ve st (.int i) .str) B ↔ B false := EX_eq rfl
theorem x_isi_it {sub : Nat → Nat → Option Bool} {ve : Nat → Option Bool} {st : Store} {i : Int} {B : Bool → Prop} : EX (isiD sub ve st (.int i) .tuple) B ↔ B false := EX_eq rfl
theorem x_isi_il {sub : Nat → Nat → Option Bool} {ve : Nat → Option Bool} {st : Store} {i : Int} {B : Bool → Prop} : EX (isiD sub ve st (.int i) .list) B ↔ B false := EX_eq rfl
theorem x_isi_id {sub : Nat → Nat → Option Bool} {ve : Nat → Option Bool} {st : Store} {i : Int} {B : Bool → Prop} : EX (isiD sub ve st (.int i) .dict) B ↔ B false := EX_eq rfl
theorem x_isi_sb {sub : Nat → Nat → Option Bool} {ve : Nat → Option Bool} {st : Store} {x : Str} {B : Bool → Prop} : EX (isiD sub ve st (.str x) .bool) B ↔ B false := EX_eq rfl
theorem x_isi_si {sub : Nat → Nat → Option Bool} {ve : Nat → Option Bool} {st : Store} {x : Str} {B : Bool → Prop} : EX (isiD sub ve st (.str x) .int) B ↔ B false := EX_eq rfl
theorem x_isi_ss {sub : Nat → Nat → Option Bool} {ve : Nat → Option Bool} {st : Store} {x : Str} {B : Bool → Prop} : EX (isiD sub ve st (.str x) .str) B ↔ B true := EX_eq rfl
theorem x_isi_st {sub : Nat → Nat → Option Bool} {ve : Nat → Option Bool} {st : Store} {x : Str} {B : Bool → Prop} : EX (isiD sub ve st (.str x) .tuple) B ↔ B false := EX_eq rfl
theorem x_isi_sl {sub : Nat → Nat → Option Bool} {ve : Nat → Option Bool} {st : Store} {x : Str} {B : Bool → Prop} : EX (isiD sub ve st (.str x) .list) B ↔ B false := EX_eq rfl
theorem x_isi_sd {sub : Nat → Nat → Option Bool} {ve : Nat → Option Bool} {st : Store} {x : Str} {B : Bool → Prop} : EX (isiD sub ve st (.str x) .dict) B ↔ B false := EX_eq rfl
theorem x_isi_tb {sub : Nat → Nat → Option Bool} {ve : Nat → Option Bool} {st : Store} {xs : List D} {B : Bool → Prop} : EX (isiD sub ve st (.tup xs) .bool) B ↔ B false := EX_eq rfl
theorem x_isi_ti {sub : Nat → Nat → Option Bool} {ve : Nat → Option Bool} {st : Store} {xs : List D} {B : Bool → Prop} : EX (isiD sub ve st (.tup xs) .int) B ↔ B false := EX_eq rfl
theorem x_isi_ts {sub : Nat → Nat → Option Bool} {ve : Nat → Option Bool} {st : Store} {xs : List D} {B : Bool → Prop} : EX (isiD sub ve st (.tup xs) .str) B ↔ B false := EX_eq rfl
theorem x_isi_tt {sub : Nat → Nat → Option Bool} {ve : Nat → Option Bool} {st : Store} {xs : List D} {B : Bool → Prop} : EX (isiD sub ve st (.tup xs) .tuple) B ↔ B true := EX_eq rfl
theorem x_isi_tl {sub : Nat → Nat → Option Bool} {ve : Nat → Option Bool} {st : Store} {xs : List D} {B : Bool → Prop} : EX (isiD sub ve st (.tup xs) .list) B ↔ B false := EX_eq rfl
theorem x_isi_td {sub : Nat → Nat → Option Bool} {ve : Nat → Option Bool} {st : Store} {xs : List D} {B : Bool → Prop} : EX (isiD sub ve st (.tup xs) .dict) B ↔ B false := EX_eq rfl
theorem x_isi_lb {sub : Nat → Nat → Option Bool} {ve : Nat → Option Bool} {st : Store} {xs : List D} {B : Bool → Prop} : EX (isiD sub ve st (.lst xs) .bool) B ↔ B false := EX_eq rfl
theorem x_isi_li {sub : Nat → Nat → Option Bool} {ve : Nat → Option Bool} {st : Store} {xs : List D} {B : Bool → Prop} : EX (isiD sub ve st (.lst xs) .int) B ↔ B false := EX_eq rfl
theorem x_isi_ls {sub : Nat → Nat → Option Bool} {ve : Nat → Option Bool} {st : Store} {xs : List D} {B : Bool → Prop} : EX (isiD sub ve st (.lst xs) .str) B ↔ B false := EX_eq rfl
theorem x_isi_lt {sub : Nat → Nat → Option Bool} {ve : Nat → Option Bool} {st : Store} {xs : List D} {B : Bool → Prop} : EX (isiD sub ve st (.lst xs) .tuple) B ↔ B false := EX_eq rfl
theorem x_isi_ll {sub : Nat → Nat → Option Bool} {ve : Nat → Option Bool} {st : Store} {xs : List D} {B : Bool → Prop} : EX (isiD sub ve st (.lst xs) .list) B ↔ B true := EX_eq rfl
theorem x_isi_ld {sub : Nat → Nat → Option Bool} {ve : Nat → Option Bool} {st : Store} {xs : List D} {B : Bool → Prop} : EX (isiD sub ve st (.lst xs) .dict) B ↔ B false := EX_eq rfl
theorem x_isi_db {sub : Nat → Nat → Option Bool} {ve : Nat → Option Bool} {st : Store} {ks : List Key} {vs : List D} {B : Bool → Prop} : EX (isiD sub ve st (.dct ks vs) .bool) B ↔ B false := EX_eq rfl
theorem x_isi_di {sub : Nat → Nat → Option Bool} {ve : Nat → Option Bool} {st : Store} {ks : List Key} {vs : List D} {B : Bool → Prop} : EX (isiD sub ve st (.dct ks vs) .int) B ↔ B false := EX_eq rfl
theorem x_isi_ds {sub : Nat → Nat → Option Bool} {ve : Nat → Option Bool} {st : Store} {ks : List Key} {vs : List D} {B : Bool → Prop} : EX (isiD sub ve st (.dct ks vs) .str) B ↔ B false := EX_eq rfl
theorem x_isi_dt {sub : Nat → Nat → Option Bool} {ve : Nat → Option Bool} {st : Store} {ks : List Key} {vs : List D} {B : Bool → Prop} : EX (isiD sub ve st (.dct ks vs) .tuple) B ↔ B false := EX_eq rfl
theorem x_isi_dl {sub : Nat → Nat → Option Bool} {ve : Nat → Option Bool} {st : Store} {ks : List Key} {vs : List D} {B : Bool → Prop} : EX (isiD sub ve st (.dct ks vs) .list) B ↔ B false := EX_eq rfl
theorem x_isi_dd {sub : Nat → Nat → Option Bool} {ve : Nat → Option Bool} {st : Store} {ks : List Key} {vs : List D} {B : Bool → Prop} : EX (isiD sub ve st (.dct ks vs) .dict) B ↔ B true := EX_eq rfl
end Cip

set_option maxHeartbeats 4000000
namespace Cip
open PySem
local macro_rules | `(tactic| walk_at "cip") => `(tactic| simp only [s_cons, s_nil, s_asg, s_ret, s_ite, s_exp, s_pass, w_non, w_bl, w_int, w_str, w_var, w_con, w_bin, w_neg, w_cmp, w_isn, w_notn, w_and, w_or, w_not, w_ite, w_tup, w_lst, w_idx, w_call, s_ssubD, s_forD, s_whlD, w_mutD, w_appD, mut_lst, asg_tup2, asg_tup3, int_i, len_l, len_t, len_s, idx_l, idx_t, tuple_l, w_bi, w_isi, w_evs, w_evs0, w_and0, w_and1, w_or0, w_or1, asg_nm, ex_some, ex_var, ex_int, ex_bl, startE, List.length_cons, List.length_nil, List.map_cons, List.map_nil, List.getElem?_cons_zero, List.getElem?_cons_succ, List.set_cons_zero, List.set_cons_succ, List.cons_append, List.nil_append, List.replicate, ex_ite, b_add_i, b_sub_i, b_mul_i, b_mod_i, b_div_i, b_pow_i, b_add_s, b_add_t, b_add_l, b_mul_s, b_mul_t, b_mul_l, c_lt_i, c_le_i, c_gt_i, c_ge_i, c_lt_s, c_le_s, c_eq_i, c_ne_i, c_eq_s, c_ne_s, WP_ok, WS_nx, WS_rt, true_and, and_true])
local macro_rules | `(tactic| walk_at "cip2") => `(tactic| simp only [s_cons, s_nil, s_asg, s_ret, s_ite, s_exp, s_pass, w_non, w_bl, w_int, w_str, w_var, w_con, w_bin, w_neg, w_cmp, w_isn, w_notn, w_and, w_or, w_not, w_ite, w_tup, w_lst, w_idx, w_call, s_ssubD, s_forD, s_whlD, w_mutD, w_appD, mut_lst, asg_tup2, asg_tup3, int_i, len_l, len_t, len_s, idx_l, idx_t, tuple_l, w_bi, w_isi, w_evs, w_evs0, w_and0, w_and1, w_or0, w_or1, asg_nm, ex_some, ex_var, ex_int, ex_bl, startE, List.length_cons, List.length_nil, List.map_cons, List.map_nil, List.getElem?_cons_zero, List.getElem?_cons_succ, List.set_cons_zero, List.set_cons_succ, List.cons_append, List.nil_append, List.replicate, ex_ite, b_add_i, b_sub_i, b_mul_i, b_mod_i, b_div_i, b_pow_i, b_add_s, b_add_t, b_add_l, b_mul_s, b_mul_t, b_mul_l, c_lt_i, c_le_i, c_gt_i, c_ge_i, c_lt_s, c_le_s, c_eq_i, c_ne_i, c_eq_s, c_ne_s, WP_ok, WS_nx, WS_rt, true_and, and_true, w_slc, E.nulB, eq_self, if_true, if_false, Bool.false_eq_true, WP_bind, WP_of, bnd_int, Bool.not_true, Bool.not_false])
local macro_rules | `(tactic| walk_at "cip3") => `(tactic| simp only [s_cons, s_nil, s_asg, s_ret, s_ite, s_exp, s_pass, w_non, w_bl, w_int, w_str, w_var, w_con, w_bin, w_neg, w_cmp, w_isn, w_notn, w_and, w_or, w_not, w_ite, w_tup, w_lst, w_idx, w_call, s_ssubD, s_forD, s_whlD, w_mutD, w_appD, mut_lst, asg_tup2, asg_tup3, int_i, len_l, len_t, len_s, idx_l, idx_t, tuple_l, w_bi, w_isi, w_evs, w_evs0, w_and0, w_and1, w_or0, w_or1, asg_nm, ex_some, ex_var, ex_int, ex_bl, startE, List.length_cons, List.length_nil, List.map_cons, List.map_nil, List.getElem?_cons_zero, List.getElem?_cons_succ, List.set_cons_zero, List.set_cons_succ, List.cons_append, List.nil_append, List.replicate, ex_ite, b_add_i, b_sub_i, b_mul_i, b_mod_i, b_div_i, b_pow_i, b_add_s, b_add_t, b_add_l, b_mul_s, b_mul_t, b_mul_l, c_lt_i, c_le_i, c_gt_i, c_ge_i, c_lt_s, c_le_s, c_eq_i, c_ne_i, c_eq_s, c_ne_s, WP_ok, WS_nx, WS_rt, true_and, and_true, w_slc, E.nulB, eq_self, if_true, if_false, Bool.false_eq_true, WP_bind, WP_of, bnd_int, Bool.not_true, Bool.not_false, w_chn])
local macro_rules | `(tactic| walk_at "z0") => `(tactic| simp only [startE, List.map_cons, List.map_nil, List.length_cons, List.length_nil, Nat.reduceAdd, Nat.reduceSub, List.replicate, List.cons_append, List.nil_append])
local macro_rules | `(tactic| walk_at "zx") => `(tactic| simp only [wipeE, List.set_cons_zero, List.set_cons_succ, ↓x_a0, ↓x_as, ↓x_atup2, ↓x_atup3])
namespace Law
/-! M09: cells, lines, contents. -/
theorem x_con0 {P : D → Prop} : EX ((txOf cons).con 0) P ↔ P (.str "abcdefghijklmnopqrstuvwxyz") := EX_eq rfl
theorem x_con1 {P : D → Prop} : EX ((txOf cons).con 1) P ↔ P (.str "0123456789") := EX_eq rfl
theorem x_con2 {P : D → Prop} : EX ((txOf cons).con 2) P ↔ P (.int 12) := EX_eq rfl
theorem x_con3 {P : D → Prop} : EX ((txOf cons).con 3) P ↔ P (.int 6) := EX_eq rfl
theorem x_con4 {P : D → Prop} : EX ((txOf cons).con 4) P ↔ P (.int 12) := EX_eq rfl
theorem x_con5 {P : D → Prop} : EX ((txOf cons).con 5) P ↔ P (.int 200) := EX_eq rfl
theorem x_con6 {P : D → Prop} : EX ((txOf cons).con 6) P ↔ P (.int 40) := EX_eq rfl
theorem x_con7 {P : D → Prop} : EX ((txOf cons).con 7) P ↔ P (.int 491) := EX_eq rfl
theorem WB_isI {d : D} {α : Type} {x y : R α} {Q : α → Store → Prop} : WB (isI d) x y Q ↔ (isI d = true → WP x Q) ∧ (isI d = false → WP y Q) := WB_if
theorem SB_isI {d : D} {x y : SR} {N : Env → Store → Prop} {V : D → Store → Prop} : SB (isI d) x y N V ↔ (isI d = true → WS x N V) ∧ (isI d = false → WS y N V) := SB_if
theorem WB_isB {d : D} {α : Type} {x y : R α} {Q : α → Store → Prop} : WB (isB d) x y Q ↔ (isB d = true → WP x Q) ∧ (isB d = false → WP y Q) := WB_if
theorem SB_isB {d : D} {x y : SR} {N : Env → Store → Prop} {V : D → Store → Prop} : SB (isB d) x y N V ↔ (isB d = true → WS x N V) ∧ (isB d = false → WS y N V) := SB_if
theorem WB_isS {d : D} {α : Type} {x y : R α} {Q : α → Store → Prop} : WB (isS d) x y Q ↔ (isS d = true → WP x Q) ∧ (isS d = false → WP y Q) := WB_if
theorem SB_isS {d : D} {x y : SR} {N : Env → Store → Prop} {V : D → Store → Prop} : SB (isS d) x y N V ↔ (isS d = true → WS x N V) ∧ (isS d = false → WS y N V) := SB_if
theorem WB_isT {d : D} {α : Type} {x y : R α} {Q : α → Store → Prop} : WB (isT d) x y Q ↔ (isT d = true → WP x Q) ∧ (isT d = false → WP y Q) := WB_if
theorem SB_isT {d : D} {x y : SR} {N : Env → Store → Prop} {V : D → Store → Prop} : SB (isT d) x y N V ↔ (isT d = true → WS x N V) ∧ (isT d = false → WS y N V) := SB_if
theorem xi_i {d : D} (h : Cl d = true) : ∀ {sub : Nat → Nat → Option Bool} {ve : Nat → Option Bool} {st : Store} {B : Bool → Prop}, EX (isiD sub ve st d .int) B ↔ B (isI d) := EX_eq (isi_i h)
theorem xi_b {d : D} (h : Cl d = true) : ∀ {sub : Nat → Nat → Option Bool} {ve : Nat → Option Bool} {st : Store} {B : Bool → Prop}, EX (isiD sub ve st d .bool) B ↔ B (isB d) := EX_eq (isi_b h)
theorem xi_s {d : D} (h : Cl d = true) : ∀ {sub : Nat → Nat → Option Bool} {ve : Nat → Option Bool} {st : Store} {B : Bool → Prop}, EX (isiD sub ve st d .str) B ↔ B (isS d) := EX_eq (isi_s h)
theorem xi_t {d : D} (h : Cl d = true) : ∀ {sub : Nat → Nat → Option Bool} {ve : Nat → Option Bool} {st : Store} {B : Bool → Prop}, EX (isiD sub ve st d .tuple) B ↔ B (isT d) := EX_eq (isi_t h)
theorem bk_mem : ∀ {xs : List D} {x : D}, x ∈ xs → bk x + 1 ≤ bks xs
  | y :: ys, x, h => by
    simp only [bks]
    rcases List.mem_cons.mp h with rfl | h
    · omega
    · have := bk_mem h; omega
theorem len_bks : ∀ xs : List D, xs.length ≤ bks xs
  | [] => Nat.zero_le _
  | y :: ys => by
    have := len_bks ys
    simp only [bks, List.length_cons]
    omega
/-- closed, and no larger than a line of the model's -/
def Sm (d : D) : Prop := Cl d = true ∧ bk d ≤ sizeLine
theorem Sm.mem {xs : List D} {x : D} (h : Sm (.tup xs)) (hx : x ∈ xs) : Sm x := ⟨Cls_all.mp h.1 x hx, by
  have h2 : bks xs ≤ sizeLine := h.2
  have := bk_mem hx
  omega⟩
theorem Sm.len {xs : List D} (h : Sm (.tup xs)) : xs.length ≤ sizeLine := Nat.le_trans (len_bks xs) h.2
theorem Sm.text {d : D} (h : Sm d) : ∀ s b, d = .tup [.str s, b] → s.length ≤ sizeLine := fun s b e => by
  subst e
  have h2 : s.cps.size + 1 + (bk b + 1 + 0) ≤ sizeLine := h.2
  show s.cps.size ≤ _
  omega
theorem cut_mem {α : Type} {xs : List α} {lo hi : Option Int} {x : α} (h : x ∈ cutL xs lo hi) : x ∈ xs := List.mem_of_mem_drop (List.mem_of_mem_take h)
theorem zip_mem : ∀ {xs ys : List D} {d : D}, d ∈ zipL xs ys → ∃ x y, x ∈ xs ∧ y ∈ ys ∧ d = .tup [x, y]
  | x :: xs, y :: ys, d, h => by
    simp only [zipL] at h
    rcases List.mem_cons.mp h with h | h
    · exact ⟨x, y, by simp, by simp, h⟩
    · obtain ⟨a, b, h1, h2, h3⟩ := zip_mem h
      exact ⟨a, b, List.mem_cons_of_mem _ h1, List.mem_cons_of_mem _ h2, h3⟩
  | [], _, d, h => by simp [zipL] at h
  | _ :: _, [], d, h => by simp [zipL] at h
theorem zip_len : ∀ xs ys : List D, (zipL xs ys).length ≤ xs.length
  | x :: xs, y :: ys => by
    have := zip_len xs ys
    simp only [zipL, List.length_cons]
    omega
  | [], _ => by simp [zipL]
  | _ :: _, [] => by simp [zipL]
theorem marks_shape {m : D} (h : marksB m = true) : ∃ l a b, m = .tup [.str l, .bl a, .bl b] := by
  unfold marksB at h
  split at h
  · rename_i a b c
    simp only [Bool.and_eq_true] at h
    obtain ⟨⟨h1, h2⟩, h3⟩ := h
    cases b with
    | bl b => cases c with
      | bl c => cases a with
        | str l => exact ⟨l, b, c, rfl⟩
        | _ => cases h3
      | _ => cases h2
    | _ => cases h1
  · cases h
theorem piece_shape {x : D} (h : pieceB x = true) : ∃ s m, x = .tup [.str s, m] ∧ marksB m = true := by
  unfold pieceB at h
  split at h
  · rename_i a b
    rw [Bool.and_eq_true] at h
    cases a with
    | str s => exact ⟨s, b, rfl, h.2⟩
    | _ => cases h.1
  · cases h
theorem ne_marks {st : Store} {a b : D} (ha : marksB a = true) (hb : marksB b = true) : cmpD st .ne a b = some (!PyData.eqv (tp a) (tp b)) := by
  obtain ⟨l, x, y, rfl⟩ := marks_shape ha
  obtain ⟨l', x', y', rfl⟩ := marks_shape hb
  exact c_ne_pn rfl rfl (by simp [tp, tps, PyData.depth, PyData.depthAll])
theorem eq_marks {st : Store} {a b : D} (ha : marksB a = true) (hb : marksB b = true) : cmpD st .eq a b = some (PyData.eqv (tp a) (tp b)) := by
  obtain ⟨l, x, y, rfl⟩ := marks_shape ha
  obtain ⟨l', x', y', rfl⟩ := marks_shape hb
  exact c_eq_pn rfl rfl (by simp [tp, tps, PyData.depth, PyData.depthAll])
/-- neighbours of unlike marks -/
def neB (d : D) : Bool := match d with
  | .tup [.tup [_, a], .tup [_, b]] => !PyData.eqv (tp a) (tp b)
  | _ => false
def adjB (xs : List D) : Bool := (zipL xs (cutL xs (some 1) none)).all neB
def cellB (d : D) : Bool := match d with
  | .tup xs => xs.all pieceB && adjB xs
  | _ => false
def txl (d : D) : Int := match d with
  | .tup [.str s, _] => s.length
  | _ => 0
def szB (m : Int) (d : D) : Bool := match d with
  | .tup xs => decide ((xs.map txl).sum ≤ m)
  | _ => false
theorem pair_shape {xs : List D} (hp : xs.all pieceB = true) {d : D} (hd : d ∈ zipL xs (cutL xs (some 1) none)) : ∃ s m s' m', d = .tup [.tup [.str s, m], .tup [.str s', m']] ∧ marksB m = true ∧ marksB m' = true := by
  obtain ⟨x, y, h1, h2, rfl⟩ := zip_mem hd
  have hp := List.all_eq_true.mp hp
  obtain ⟨s, m, rfl, hm⟩ := piece_shape (hp x h1)
  obtain ⟨s', m', rfl, hm'⟩ := piece_shape (hp y (cut_mem h2))
  exact ⟨s, m, s', m', rfl, hm, hm'⟩
theorem run_cell {n : Nat} {d : D} {st : Store} (h : Sm d) : cf (n + 4) 5 [d] st = .ok (.bl (cellB d)) st := by
  refine ok_of (call_same (ft := f5) rfl rfl ?_)
  unfold f5
  walk_at "z0"
  cases d with
  | tup xs =>
    have k1 := wpk fun st => lc_M (Γ := txOf cons) (cf := cf (n + 3)) (own := [3]) (t := .nm 3) (k := .val) (its := [.var 0]) (e := .call 4 [.var 3]) (env := [some (.tup xs), none, none, none]) (st := st) (ds := [.tup xs]) (xs := xs) (fun x => .bl (pieceB x))
      (evs_i1 (Is.eq (by unfold Is; simp only [↓s_cons, ↓s_nil, ↓l_asg, ↓s_ret, ↓l_site, ↓s_exp, ↓s_pass, ↓w_non, ↓w_bl, ↓w_int, ↓w_str, ↓l_var, ↓l_con, ↓l_bin, ↓l_neg, ↓l_cmp, ↓l_chn, ↓w_isn, ↓w_notn, ↓w_and, ↓w_or, ↓l_not, ↓l_ite, ↓l_tup, ↓l_lst, ↓w_dct, ↓w_mutD, ↓mut_lst, ↓mut_dct, ↓l_idx, ↓l_slc, ↓nb_nul, ↓nb_int, ↓nb_var, ↓nb_con, ↓nb_bin, ↓nb_neg, ↓nb_idx, ↓nb_call, ↓nb_bi, ↓w_call, ↓l_bi, ↓l_bm, ↓l_isi, ↓w_evs, ↓w_evs0, ↓w_and0, ↓l_and1, ↓w_or0, ↓l_or1, ↓l_ssub, ↓s_whlD, ↓l_app, ↓WP_ok, ↓WS_nx, ↓WS_rt, ↓WP_bind, ↓WP_ofE, ↓WB_t, ↓WB_f, ↓WB_n, ↓WB_dec, ↓WB_all, ↓WB_any, ↓WB_lt, ↓WB_sub, ↓WB_emp, ↓WB_eqv, ↓WB_and, ↓WB_or, ↓SB_t, ↓SB_f, ↓SB_n, ↓SB_dec, ↓SB_all, ↓SB_any, ↓SB_lt, ↓SB_sub, ↓SB_emp, ↓SB_eqv, ↓SB_and, ↓SB_or, ↓EX_some, ↓EX_none, ↓EX_map, ↓EB_bl, ↓EI_int, ↓x_g0, ↓x_gs, ↓x_at0, ↓x_at1, ↓x_at2, ↓x_a0, ↓x_as, ↓x_atup2, ↓x_atup3, ↓x_mod_i, ↓x_bnd, ↓x_str_i, ↓x_str_b, ↓x_upper, ↓x_all, ↓x_any, ↓x_sum, ↓x_add_i, ↓x_sub_i, ↓x_mul_i, ↓x_div_i, ↓x_pow_i, ↓x_add_s, ↓x_add_t, ↓x_add_l, ↓x_mul_s, ↓x_mul_t, ↓x_mul_l, ↓x_lt_i, ↓x_le_i, ↓x_gt_i, ↓x_ge_i, ↓x_lt_s, ↓x_le_s, ↓x_eq_i, ↓x_ne_i, ↓x_eq_s, ↓x_ne_s, ↓x_eq_nil, ↓x_ne_nil, ↓x_in_s, ↓x_nin_s, ↓x_len_l, ↓x_len_t, ↓x_len_s, ↓x_tuple_l, ↓x_tuple_t, ↓x_list_t, ↓x_list_l, ↓x_list_s, ↓x_int_i, ↓x_int_b, ↓x_abs, ↓x_str_s, ↓x_slc_t, ↓x_slc_l, ↓x_slc_s, ↓x_idx_t, ↓x_idx_l, ↓x_isi_nb, ↓x_isi_ni, ↓x_isi_ns, ↓x_isi_nt, ↓x_isi_nl, ↓x_isi_nd, ↓x_isi_bb, ↓x_isi_bi, ↓x_isi_bs, ↓x_isi_bt, ↓x_isi_bl, ↓x_isi_bd, ↓x_isi_ib, ↓x_isi_ii, ↓x_isi_is, ↓x_isi_it, ↓x_isi_il, ↓x_isi_id, ↓x_isi_sb, ↓x_isi_si, ↓x_isi_ss, ↓x_isi_st, ↓x_isi_sl, ↓x_isi_sd, ↓x_isi_tb, ↓x_isi_ti, ↓x_isi_ts, ↓x_isi_tt, ↓x_isi_tl, ↓x_isi_td, ↓x_isi_lb, ↓x_isi_li, ↓x_isi_ls, ↓x_isi_lt, ↓x_isi_ll, ↓x_isi_ld, ↓x_isi_db, ↓x_isi_di, ↓x_isi_ds, ↓x_isi_dt, ↓x_isi_dl, ↓x_isi_dd, emp_flt, List.length_cons, List.length_nil, on_join, on_split, on_upper, on_count, on_rstrip, on_sindex, on_tindex, true_and, and_true, eq_self, Nat.reduceAdd, Nat.reduceLeDiff, Nat.zero_add, isI_n, isI_b, isI_i, isI_s, isI_t, isI_l, isI_d, isI_c, isI_r, isB_n, isB_b, isB_i, isB_s, isB_t, isB_l, isB_d, isB_c, isB_r, isS_n, isS_b, isS_i, isS_s, isS_t, isS_l, isS_d, isS_c, isS_r, isT_n, isT_b, isT_i, isT_s, isT_t, isT_l, isT_d, isT_c, isT_r, ↓x_con0, ↓x_con1, ↓x_con2, ↓x_con3, ↓x_con4, ↓x_con5, ↓x_con6, ↓x_con7, ↓WB_isI, ↓WB_isB, ↓WB_isS, ↓WB_isT, ↓SB_isI, ↓SB_isB, ↓SB_isS, ↓SB_isT]))) rfl h.len fun x hx => (by
        walk_at "zx"
        refine Is.eq ?_
        unfold Is
        simp only [↓s_cons, ↓s_nil, ↓l_asg, ↓s_ret, ↓l_site, ↓s_exp, ↓s_pass, ↓w_non, ↓w_bl, ↓w_int, ↓w_str, ↓l_var, ↓l_con, ↓l_bin, ↓l_neg, ↓l_cmp, ↓l_chn, ↓w_isn, ↓w_notn, ↓w_and, ↓w_or, ↓l_not, ↓l_ite, ↓l_tup, ↓l_lst, ↓w_dct, ↓w_mutD, ↓mut_lst, ↓mut_dct, ↓l_idx, ↓l_slc, ↓nb_nul, ↓nb_int, ↓nb_var, ↓nb_con, ↓nb_bin, ↓nb_neg, ↓nb_idx, ↓nb_call, ↓nb_bi, ↓w_call, ↓l_bi, ↓l_bm, ↓l_isi, ↓w_evs, ↓w_evs0, ↓w_and0, ↓l_and1, ↓w_or0, ↓l_or1, ↓l_ssub, ↓s_whlD, ↓l_app, ↓WP_ok, ↓WS_nx, ↓WS_rt, ↓WP_bind, ↓WP_ofE, ↓WB_t, ↓WB_f, ↓WB_n, ↓WB_dec, ↓WB_all, ↓WB_any, ↓WB_lt, ↓WB_sub, ↓WB_emp, ↓WB_eqv, ↓WB_and, ↓WB_or, ↓SB_t, ↓SB_f, ↓SB_n, ↓SB_dec, ↓SB_all, ↓SB_any, ↓SB_lt, ↓SB_sub, ↓SB_emp, ↓SB_eqv, ↓SB_and, ↓SB_or, ↓EX_some, ↓EX_none, ↓EX_map, ↓EB_bl, ↓EI_int, ↓x_g0, ↓x_gs, ↓x_at0, ↓x_at1, ↓x_at2, ↓x_a0, ↓x_as, ↓x_atup2, ↓x_atup3, ↓x_mod_i, ↓x_bnd, ↓x_str_i, ↓x_str_b, ↓x_upper, ↓x_all, ↓x_any, ↓x_sum, ↓x_add_i, ↓x_sub_i, ↓x_mul_i, ↓x_div_i, ↓x_pow_i, ↓x_add_s, ↓x_add_t, ↓x_add_l, ↓x_mul_s, ↓x_mul_t, ↓x_mul_l, ↓x_lt_i, ↓x_le_i, ↓x_gt_i, ↓x_ge_i, ↓x_lt_s, ↓x_le_s, ↓x_eq_i, ↓x_ne_i, ↓x_eq_s, ↓x_ne_s, ↓x_eq_nil, ↓x_ne_nil, ↓x_in_s, ↓x_nin_s, ↓x_len_l, ↓x_len_t, ↓x_len_s, ↓x_tuple_l, ↓x_tuple_t, ↓x_list_t, ↓x_list_l, ↓x_list_s, ↓x_int_i, ↓x_int_b, ↓x_abs, ↓x_str_s, ↓x_slc_t, ↓x_slc_l, ↓x_slc_s, ↓x_idx_t, ↓x_idx_l, ↓x_isi_nb, ↓x_isi_ni, ↓x_isi_ns, ↓x_isi_nt, ↓x_isi_nl, ↓x_isi_nd, ↓x_isi_bb, ↓x_isi_bi, ↓x_isi_bs, ↓x_isi_bt, ↓x_isi_bl, ↓x_isi_bd, ↓x_isi_ib, ↓x_isi_ii, ↓x_isi_is, ↓x_isi_it, ↓x_isi_il, ↓x_isi_id, ↓x_isi_sb, ↓x_isi_si, ↓x_isi_ss, ↓x_isi_st, ↓x_isi_sl, ↓x_isi_sd, ↓x_isi_tb, ↓x_isi_ti, ↓x_isi_ts, ↓x_isi_tt, ↓x_isi_tl, ↓x_isi_td, ↓x_isi_lb, ↓x_isi_li, ↓x_isi_ls, ↓x_isi_lt, ↓x_isi_ll, ↓x_isi_ld, ↓x_isi_db, ↓x_isi_di, ↓x_isi_ds, ↓x_isi_dt, ↓x_isi_dl, ↓x_isi_dd, emp_flt, List.length_cons, List.length_nil, on_join, on_split, on_upper, on_count, on_rstrip, on_sindex, on_tindex, true_and, and_true, eq_self, Nat.reduceAdd, Nat.reduceLeDiff, Nat.zero_add, isI_n, isI_b, isI_i, isI_s, isI_t, isI_l, isI_d, isI_c, isI_r, isB_n, isB_b, isB_i, isB_s, isB_t, isB_l, isB_d, isB_c, isB_r, isS_n, isS_b, isS_i, isS_s, isS_t, isS_l, isS_d, isS_c, isS_r, isT_n, isT_b, isT_i, isT_s, isT_t, isT_l, isT_d, isT_c, isT_r, ↓x_con0, ↓x_con1, ↓x_con2, ↓x_con3, ↓x_con4, ↓x_con5, ↓x_con6, ↓x_con7, ↓WB_isI, ↓WB_isB, ↓WB_isS, ↓WB_isT, ↓SB_isI, ↓SB_isB, ↓SB_isS, ↓SB_isT, ↓wpc fun st => run_piece (n := n) (st := st) (h.mem hx).1 (h.mem hx).text])
    cases hp : xs.all pieceB with
    | false =>
      simp only [↓s_cons, ↓s_nil, ↓l_asg, ↓s_ret, ↓l_site, ↓s_exp, ↓s_pass, ↓w_non, ↓w_bl, ↓w_int, ↓w_str, ↓l_var, ↓l_con, ↓l_bin, ↓l_neg, ↓l_cmp, ↓l_chn, ↓w_isn, ↓w_notn, ↓w_and, ↓w_or, ↓l_not, ↓l_ite, ↓l_tup, ↓l_lst, ↓w_dct, ↓w_mutD, ↓mut_lst, ↓mut_dct, ↓l_idx, ↓l_slc, ↓nb_nul, ↓nb_int, ↓nb_var, ↓nb_con, ↓nb_bin, ↓nb_neg, ↓nb_idx, ↓nb_call, ↓nb_bi, ↓w_call, ↓l_bi, ↓l_bm, ↓l_isi, ↓w_evs, ↓w_evs0, ↓w_and0, ↓l_and1, ↓w_or0, ↓l_or1, ↓l_ssub, ↓s_whlD, ↓l_app, ↓WP_ok, ↓WS_nx, ↓WS_rt, ↓WP_bind, ↓WP_ofE, ↓WB_t, ↓WB_f, ↓WB_n, ↓WB_dec, ↓WB_all, ↓WB_any, ↓WB_lt, ↓WB_sub, ↓WB_emp, ↓WB_eqv, ↓WB_and, ↓WB_or, ↓SB_t, ↓SB_f, ↓SB_n, ↓SB_dec, ↓SB_all, ↓SB_any, ↓SB_lt, ↓SB_sub, ↓SB_emp, ↓SB_eqv, ↓SB_and, ↓SB_or, ↓EX_some, ↓EX_none, ↓EX_map, ↓EB_bl, ↓EI_int, ↓x_g0, ↓x_gs, ↓x_at0, ↓x_at1, ↓x_at2, ↓x_a0, ↓x_as, ↓x_atup2, ↓x_atup3, ↓x_mod_i, ↓x_bnd, ↓x_str_i, ↓x_str_b, ↓x_upper, ↓x_all, ↓x_any, ↓x_sum, ↓x_add_i, ↓x_sub_i, ↓x_mul_i, ↓x_div_i, ↓x_pow_i, ↓x_add_s, ↓x_add_t, ↓x_add_l, ↓x_mul_s, ↓x_mul_t, ↓x_mul_l, ↓x_lt_i, ↓x_le_i, ↓x_gt_i, ↓x_ge_i, ↓x_lt_s, ↓x_le_s, ↓x_eq_i, ↓x_ne_i, ↓x_eq_s, ↓x_ne_s, ↓x_eq_nil, ↓x_ne_nil, ↓x_in_s, ↓x_nin_s, ↓x_len_l, ↓x_len_t, ↓x_len_s, ↓x_tuple_l, ↓x_tuple_t, ↓x_list_t, ↓x_list_l, ↓x_list_s, ↓x_int_i, ↓x_int_b, ↓x_abs, ↓x_str_s, ↓x_slc_t, ↓x_slc_l, ↓x_slc_s, ↓x_idx_t, ↓x_idx_l, ↓x_isi_nb, ↓x_isi_ni, ↓x_isi_ns, ↓x_isi_nt, ↓x_isi_nl, ↓x_isi_nd, ↓x_isi_bb, ↓x_isi_bi, ↓x_isi_bs, ↓x_isi_bt, ↓x_isi_bl, ↓x_isi_bd, ↓x_isi_ib, ↓x_isi_ii, ↓x_isi_is, ↓x_isi_it, ↓x_isi_il, ↓x_isi_id, ↓x_isi_sb, ↓x_isi_si, ↓x_isi_ss, ↓x_isi_st, ↓x_isi_sl, ↓x_isi_sd, ↓x_isi_tb, ↓x_isi_ti, ↓x_isi_ts, ↓x_isi_tt, ↓x_isi_tl, ↓x_isi_td, ↓x_isi_lb, ↓x_isi_li, ↓x_isi_ls, ↓x_isi_lt, ↓x_isi_ll, ↓x_isi_ld, ↓x_isi_db, ↓x_isi_di, ↓x_isi_ds, ↓x_isi_dt, ↓x_isi_dl, ↓x_isi_dd, emp_flt, List.length_cons, List.length_nil, on_join, on_split, on_upper, on_count, on_rstrip, on_sindex, on_tindex, true_and, and_true, eq_self, Nat.reduceAdd, Nat.reduceLeDiff, Nat.zero_add, isI_n, isI_b, isI_i, isI_s, isI_t, isI_l, isI_d, isI_c, isI_r, isB_n, isB_b, isB_i, isB_s, isB_t, isB_l, isB_d, isB_c, isB_r, isS_n, isS_b, isS_i, isS_s, isS_t, isS_l, isS_d, isS_c, isS_r, isT_n, isT_b, isT_i, isT_s, isT_t, isT_l, isT_d, isT_c, isT_r, ↓x_con0, ↓x_con1, ↓x_con2, ↓x_con3, ↓x_con4, ↓x_con5, ↓x_con6, ↓x_con7, ↓WB_isI, ↓WB_isB, ↓WB_isS, ↓WB_isT, ↓SB_isI, ↓SB_isB, ↓SB_isS, ↓SB_isT, ↓k1, hp]
      simp [cellB, hp]
    | true =>
      have k2 := wpk fun st => lc_M (Γ := txOf cons) (cf := cf (n + 3)) (own := [1, 2]) (t := .tup [.nm 1, .nm 2]) (k := .zip2) (its := [.var 0, .slc (.var 0) (.int 1) .nul]) (e := .cmp .ne (.idx (.var 1) (.int 1)) (.idx (.var 2) (.int 1))) (env := [some (.tup xs), none, none, none]) (st := st) (ds := [.tup xs, .tup (cutL xs (some 1) none)]) (xs := zipL xs (cutL xs (some 1) none)) (fun x => .bl (neB x))
        (evs_i2 (Is.eq (by unfold Is; simp only [↓s_cons, ↓s_nil, ↓l_asg, ↓s_ret, ↓l_site, ↓s_exp, ↓s_pass, ↓w_non, ↓w_bl, ↓w_int, ↓w_str, ↓l_var, ↓l_con, ↓l_bin, ↓l_neg, ↓l_cmp, ↓l_chn, ↓w_isn, ↓w_notn, ↓w_and, ↓w_or, ↓l_not, ↓l_ite, ↓l_tup, ↓l_lst, ↓w_dct, ↓w_mutD, ↓mut_lst, ↓mut_dct, ↓l_idx, ↓l_slc, ↓nb_nul, ↓nb_int, ↓nb_var, ↓nb_con, ↓nb_bin, ↓nb_neg, ↓nb_idx, ↓nb_call, ↓nb_bi, ↓w_call, ↓l_bi, ↓l_bm, ↓l_isi, ↓w_evs, ↓w_evs0, ↓w_and0, ↓l_and1, ↓w_or0, ↓l_or1, ↓l_ssub, ↓s_whlD, ↓l_app, ↓WP_ok, ↓WS_nx, ↓WS_rt, ↓WP_bind, ↓WP_ofE, ↓WB_t, ↓WB_f, ↓WB_n, ↓WB_dec, ↓WB_all, ↓WB_any, ↓WB_lt, ↓WB_sub, ↓WB_emp, ↓WB_eqv, ↓WB_and, ↓WB_or, ↓SB_t, ↓SB_f, ↓SB_n, ↓SB_dec, ↓SB_all, ↓SB_any, ↓SB_lt, ↓SB_sub, ↓SB_emp, ↓SB_eqv, ↓SB_and, ↓SB_or, ↓EX_some, ↓EX_none, ↓EX_map, ↓EB_bl, ↓EI_int, ↓x_g0, ↓x_gs, ↓x_at0, ↓x_at1, ↓x_at2, ↓x_a0, ↓x_as, ↓x_atup2, ↓x_atup3, ↓x_mod_i, ↓x_bnd, ↓x_str_i, ↓x_str_b, ↓x_upper, ↓x_all, ↓x_any, ↓x_sum, ↓x_add_i, ↓x_sub_i, ↓x_mul_i, ↓x_div_i, ↓x_pow_i, ↓x_add_s, ↓x_add_t, ↓x_add_l, ↓x_mul_s, ↓x_mul_t, ↓x_mul_l, ↓x_lt_i, ↓x_le_i, ↓x_gt_i, ↓x_ge_i, ↓x_lt_s, ↓x_le_s, ↓x_eq_i, ↓x_ne_i, ↓x_eq_s, ↓x_ne_s, ↓x_eq_nil, ↓x_ne_nil, ↓x_in_s, ↓x_nin_s, ↓x_len_l, ↓x_len_t, ↓x_len_s, ↓x_tuple_l, ↓x_tuple_t, ↓x_list_t, ↓x_list_l, ↓x_list_s, ↓x_int_i, ↓x_int_b, ↓x_abs, ↓x_str_s, ↓x_slc_t, ↓x_slc_l, ↓x_slc_s, ↓x_idx_t, ↓x_idx_l, ↓x_isi_nb, ↓x_isi_ni, ↓x_isi_ns, ↓x_isi_nt, ↓x_isi_nl, ↓x_isi_nd, ↓x_isi_bb, ↓x_isi_bi, ↓x_isi_bs, ↓x_isi_bt, ↓x_isi_bl, ↓x_isi_bd, ↓x_isi_ib, ↓x_isi_ii, ↓x_isi_is, ↓x_isi_it, ↓x_isi_il, ↓x_isi_id, ↓x_isi_sb, ↓x_isi_si, ↓x_isi_ss, ↓x_isi_st, ↓x_isi_sl, ↓x_isi_sd, ↓x_isi_tb, ↓x_isi_ti, ↓x_isi_ts, ↓x_isi_tt, ↓x_isi_tl, ↓x_isi_td, ↓x_isi_lb, ↓x_isi_li, ↓x_isi_ls, ↓x_isi_lt, ↓x_isi_ll, ↓x_isi_ld, ↓x_isi_db, ↓x_isi_di, ↓x_isi_ds, ↓x_isi_dt, ↓x_isi_dl, ↓x_isi_dd, emp_flt, List.length_cons, List.length_nil, on_join, on_split, on_upper, on_count, on_rstrip, on_sindex, on_tindex, true_and, and_true, eq_self, Nat.reduceAdd, Nat.reduceLeDiff, Nat.zero_add, isI_n, isI_b, isI_i, isI_s, isI_t, isI_l, isI_d, isI_c, isI_r, isB_n, isB_b, isB_i, isB_s, isB_t, isB_l, isB_d, isB_c, isB_r, isS_n, isS_b, isS_i, isS_s, isS_t, isS_l, isS_d, isS_c, isS_r, isT_n, isT_b, isT_i, isT_s, isT_t, isT_l, isT_d, isT_c, isT_r, ↓x_con0, ↓x_con1, ↓x_con2, ↓x_con3, ↓x_con4, ↓x_con5, ↓x_con6, ↓x_con7, ↓WB_isI, ↓WB_isB, ↓WB_isS, ↓WB_isT, ↓SB_isI, ↓SB_isB, ↓SB_isS, ↓SB_isT])) (Is.eq (by unfold Is; simp only [↓s_cons, ↓s_nil, ↓l_asg, ↓s_ret, ↓l_site, ↓s_exp, ↓s_pass, ↓w_non, ↓w_bl, ↓w_int, ↓w_str, ↓l_var, ↓l_con, ↓l_bin, ↓l_neg, ↓l_cmp, ↓l_chn, ↓w_isn, ↓w_notn, ↓w_and, ↓w_or, ↓l_not, ↓l_ite, ↓l_tup, ↓l_lst, ↓w_dct, ↓w_mutD, ↓mut_lst, ↓mut_dct, ↓l_idx, ↓l_slc, ↓nb_nul, ↓nb_int, ↓nb_var, ↓nb_con, ↓nb_bin, ↓nb_neg, ↓nb_idx, ↓nb_call, ↓nb_bi, ↓w_call, ↓l_bi, ↓l_bm, ↓l_isi, ↓w_evs, ↓w_evs0, ↓w_and0, ↓l_and1, ↓w_or0, ↓l_or1, ↓l_ssub, ↓s_whlD, ↓l_app, ↓WP_ok, ↓WS_nx, ↓WS_rt, ↓WP_bind, ↓WP_ofE, ↓WB_t, ↓WB_f, ↓WB_n, ↓WB_dec, ↓WB_all, ↓WB_any, ↓WB_lt, ↓WB_sub, ↓WB_emp, ↓WB_eqv, ↓WB_and, ↓WB_or, ↓SB_t, ↓SB_f, ↓SB_n, ↓SB_dec, ↓SB_all, ↓SB_any, ↓SB_lt, ↓SB_sub, ↓SB_emp, ↓SB_eqv, ↓SB_and, ↓SB_or, ↓EX_some, ↓EX_none, ↓EX_map, ↓EB_bl, ↓EI_int, ↓x_g0, ↓x_gs, ↓x_at0, ↓x_at1, ↓x_at2, ↓x_a0, ↓x_as, ↓x_atup2, ↓x_atup3, ↓x_mod_i, ↓x_bnd, ↓x_str_i, ↓x_str_b, ↓x_upper, ↓x_all, ↓x_any, ↓x_sum, ↓x_add_i, ↓x_sub_i, ↓x_mul_i, ↓x_div_i, ↓x_pow_i, ↓x_add_s, ↓x_add_t, ↓x_add_l, ↓x_mul_s, ↓x_mul_t, ↓x_mul_l, ↓x_lt_i, ↓x_le_i, ↓x_gt_i, ↓x_ge_i, ↓x_lt_s, ↓x_le_s, ↓x_eq_i, ↓x_ne_i, ↓x_eq_s, ↓x_ne_s, ↓x_eq_nil, ↓x_ne_nil, ↓x_in_s, ↓x_nin_s, ↓x_len_l, ↓x_len_t, ↓x_len_s, ↓x_tuple_l, ↓x_tuple_t, ↓x_list_t, ↓x_list_l, ↓x_list_s, ↓x_int_i, ↓x_int_b, ↓x_abs, ↓x_str_s, ↓x_slc_t, ↓x_slc_l, ↓x_slc_s, ↓x_idx_t, ↓x_idx_l, ↓x_isi_nb, ↓x_isi_ni, ↓x_isi_ns, ↓x_isi_nt, ↓x_isi_nl, ↓x_isi_nd, ↓x_isi_bb, ↓x_isi_bi, ↓x_isi_bs, ↓x_isi_bt, ↓x_isi_bl, ↓x_isi_bd, ↓x_isi_ib, ↓x_isi_ii, ↓x_isi_is, ↓x_isi_it, ↓x_isi_il, ↓x_isi_id, ↓x_isi_sb, ↓x_isi_si, ↓x_isi_ss, ↓x_isi_st, ↓x_isi_sl, ↓x_isi_sd, ↓x_isi_tb, ↓x_isi_ti, ↓x_isi_ts, ↓x_isi_tt, ↓x_isi_tl, ↓x_isi_td, ↓x_isi_lb, ↓x_isi_li, ↓x_isi_ls, ↓x_isi_lt, ↓x_isi_ll, ↓x_isi_ld, ↓x_isi_db, ↓x_isi_di, ↓x_isi_ds, ↓x_isi_dt, ↓x_isi_dl, ↓x_isi_dd, emp_flt, List.length_cons, List.length_nil, on_join, on_split, on_upper, on_count, on_rstrip, on_sindex, on_tindex, true_and, and_true, eq_self, Nat.reduceAdd, Nat.reduceLeDiff, Nat.zero_add, isI_n, isI_b, isI_i, isI_s, isI_t, isI_l, isI_d, isI_c, isI_r, isB_n, isB_b, isB_i, isB_s, isB_t, isB_l, isB_d, isB_c, isB_r, isS_n, isS_b, isS_i, isS_s, isS_t, isS_l, isS_d, isS_c, isS_r, isT_n, isT_b, isT_i, isT_s, isT_t, isT_l, isT_d, isT_c, isT_r, ↓x_con0, ↓x_con1, ↓x_con2, ↓x_con3, ↓x_con4, ↓x_con5, ↓x_con6, ↓x_con7, ↓WB_isI, ↓WB_isB, ↓WB_isS, ↓WB_isT, ↓SB_isI, ↓SB_isB, ↓SB_isS, ↓SB_isT]))) rfl (Nat.le_trans (zip_len _ _) h.len) fun x hx => (by
          obtain ⟨s, m, s', m', rfl, hm, hm'⟩ := pair_shape hp hx
          walk_at "zx"
          refine Is.eq ?_
          unfold Is
          simp only [↓s_cons, ↓s_nil, ↓l_asg, ↓s_ret, ↓l_site, ↓s_exp, ↓s_pass, ↓w_non, ↓w_bl, ↓w_int, ↓w_str, ↓l_var, ↓l_con, ↓l_bin, ↓l_neg, ↓l_cmp, ↓l_chn, ↓w_isn, ↓w_notn, ↓w_and, ↓w_or, ↓l_not, ↓l_ite, ↓l_tup, ↓l_lst, ↓w_dct, ↓w_mutD, ↓mut_lst, ↓mut_dct, ↓l_idx, ↓l_slc, ↓nb_nul, ↓nb_int, ↓nb_var, ↓nb_con, ↓nb_bin, ↓nb_neg, ↓nb_idx, ↓nb_call, ↓nb_bi, ↓w_call, ↓l_bi, ↓l_bm, ↓l_isi, ↓w_evs, ↓w_evs0, ↓w_and0, ↓l_and1, ↓w_or0, ↓l_or1, ↓l_ssub, ↓s_whlD, ↓l_app, ↓WP_ok, ↓WS_nx, ↓WS_rt, ↓WP_bind, ↓WP_ofE, ↓WB_t, ↓WB_f, ↓WB_n, ↓WB_dec, ↓WB_all, ↓WB_any, ↓WB_lt, ↓WB_sub, ↓WB_emp, ↓WB_eqv, ↓WB_and, ↓WB_or, ↓SB_t, ↓SB_f, ↓SB_n, ↓SB_dec, ↓SB_all, ↓SB_any, ↓SB_lt, ↓SB_sub, ↓SB_emp, ↓SB_eqv, ↓SB_and, ↓SB_or, ↓EX_some, ↓EX_none, ↓EX_map, ↓EB_bl, ↓EI_int, ↓x_g0, ↓x_gs, ↓x_at0, ↓x_at1, ↓x_at2, ↓x_a0, ↓x_as, ↓x_atup2, ↓x_atup3, ↓x_mod_i, ↓x_bnd, ↓x_str_i, ↓x_str_b, ↓x_upper, ↓x_all, ↓x_any, ↓x_sum, ↓x_add_i, ↓x_sub_i, ↓x_mul_i, ↓x_div_i, ↓x_pow_i, ↓x_add_s, ↓x_add_t, ↓x_add_l, ↓x_mul_s, ↓x_mul_t, ↓x_mul_l, ↓x_lt_i, ↓x_le_i, ↓x_gt_i, ↓x_ge_i, ↓x_lt_s, ↓x_le_s, ↓x_eq_i, ↓x_ne_i, ↓x_eq_s, ↓x_ne_s, ↓x_eq_nil, ↓x_ne_nil, ↓x_in_s, ↓x_nin_s, ↓x_len_l, ↓x_len_t, ↓x_len_s, ↓x_tuple_l, ↓x_tuple_t, ↓x_list_t, ↓x_list_l, ↓x_list_s, ↓x_int_i, ↓x_int_b, ↓x_abs, ↓x_str_s, ↓x_slc_t, ↓x_slc_l, ↓x_slc_s, ↓x_idx_t, ↓x_idx_l, ↓x_isi_nb, ↓x_isi_ni, ↓x_isi_ns, ↓x_isi_nt, ↓x_isi_nl, ↓x_isi_nd, ↓x_isi_bb, ↓x_isi_bi, ↓x_isi_bs, ↓x_isi_bt, ↓x_isi_bl, ↓x_isi_bd, ↓x_isi_ib, ↓x_isi_ii, ↓x_isi_is, ↓x_isi_it, ↓x_isi_il, ↓x_isi_id, ↓x_isi_sb, ↓x_isi_si, ↓x_isi_ss, ↓x_isi_st, ↓x_isi_sl, ↓x_isi_sd, ↓x_isi_tb, ↓x_isi_ti, ↓x_isi_ts, ↓x_isi_tt, ↓x_isi_tl, ↓x_isi_td, ↓x_isi_lb, ↓x_isi_li, ↓x_isi_ls, ↓x_isi_lt, ↓x_isi_ll, ↓x_isi_ld, ↓x_isi_db, ↓x_isi_di, ↓x_isi_ds, ↓x_isi_dt, ↓x_isi_dl, ↓x_isi_dd, emp_flt, List.length_cons, List.length_nil, on_join, on_split, on_upper, on_count, on_rstrip, on_sindex, on_tindex, true_and, and_true, eq_self, Nat.reduceAdd, Nat.reduceLeDiff, Nat.zero_add, isI_n, isI_b, isI_i, isI_s, isI_t, isI_l, isI_d, isI_c, isI_r, isB_n, isB_b, isB_i, isB_s, isB_t, isB_l, isB_d, isB_c, isB_r, isS_n, isS_b, isS_i, isS_s, isS_t, isS_l, isS_d, isS_c, isS_r, isT_n, isT_b, isT_i, isT_s, isT_t, isT_l, isT_d, isT_c, isT_r, ↓x_con0, ↓x_con1, ↓x_con2, ↓x_con3, ↓x_con4, ↓x_con5, ↓x_con6, ↓x_con7, ↓WB_isI, ↓WB_isB, ↓WB_isS, ↓WB_isT, ↓SB_isI, ↓SB_isB, ↓SB_isS, ↓SB_isT, ↓EX_eq (ne_marks hm hm')]
          rfl)
      simp only [↓s_cons, ↓s_nil, ↓l_asg, ↓s_ret, ↓l_site, ↓s_exp, ↓s_pass, ↓w_non, ↓w_bl, ↓w_int, ↓w_str, ↓l_var, ↓l_con, ↓l_bin, ↓l_neg, ↓l_cmp, ↓l_chn, ↓w_isn, ↓w_notn, ↓w_and, ↓w_or, ↓l_not, ↓l_ite, ↓l_tup, ↓l_lst, ↓w_dct, ↓w_mutD, ↓mut_lst, ↓mut_dct, ↓l_idx, ↓l_slc, ↓nb_nul, ↓nb_int, ↓nb_var, ↓nb_con, ↓nb_bin, ↓nb_neg, ↓nb_idx, ↓nb_call, ↓nb_bi, ↓w_call, ↓l_bi, ↓l_bm, ↓l_isi, ↓w_evs, ↓w_evs0, ↓w_and0, ↓l_and1, ↓w_or0, ↓l_or1, ↓l_ssub, ↓s_whlD, ↓l_app, ↓WP_ok, ↓WS_nx, ↓WS_rt, ↓WP_bind, ↓WP_ofE, ↓WB_t, ↓WB_f, ↓WB_n, ↓WB_dec, ↓WB_all, ↓WB_any, ↓WB_lt, ↓WB_sub, ↓WB_emp, ↓WB_eqv, ↓WB_and, ↓WB_or, ↓SB_t, ↓SB_f, ↓SB_n, ↓SB_dec, ↓SB_all, ↓SB_any, ↓SB_lt, ↓SB_sub, ↓SB_emp, ↓SB_eqv, ↓SB_and, ↓SB_or, ↓EX_some, ↓EX_none, ↓EX_map, ↓EB_bl, ↓EI_int, ↓x_g0, ↓x_gs, ↓x_at0, ↓x_at1, ↓x_at2, ↓x_a0, ↓x_as, ↓x_atup2, ↓x_atup3, ↓x_mod_i, ↓x_bnd, ↓x_str_i, ↓x_str_b, ↓x_upper, ↓x_all, ↓x_any, ↓x_sum, ↓x_add_i, ↓x_sub_i, ↓x_mul_i, ↓x_div_i, ↓x_pow_i, ↓x_add_s, ↓x_add_t, ↓x_add_l, ↓x_mul_s, ↓x_mul_t, ↓x_mul_l, ↓x_lt_i, ↓x_le_i, ↓x_gt_i, ↓x_ge_i, ↓x_lt_s, ↓x_le_s, ↓x_eq_i, ↓x_ne_i, ↓x_eq_s, ↓x_ne_s, ↓x_eq_nil, ↓x_ne_nil, ↓x_in_s, ↓x_nin_s, ↓x_len_l, ↓x_len_t, ↓x_len_s, ↓x_tuple_l, ↓x_tuple_t, ↓x_list_t, ↓x_list_l, ↓x_list_s, ↓x_int_i, ↓x_int_b, ↓x_abs, ↓x_str_s, ↓x_slc_t, ↓x_slc_l, ↓x_slc_s, ↓x_idx_t, ↓x_idx_l, ↓x_isi_nb, ↓x_isi_ni, ↓x_isi_ns, ↓x_isi_nt, ↓x_isi_nl, ↓x_isi_nd, ↓x_isi_bb, ↓x_isi_bi, ↓x_isi_bs, ↓x_isi_bt, ↓x_isi_bl, ↓x_isi_bd, ↓x_isi_ib, ↓x_isi_ii, ↓x_isi_is, ↓x_isi_it, ↓x_isi_il, ↓x_isi_id, ↓x_isi_sb, ↓x_isi_si, ↓x_isi_ss, ↓x_isi_st, ↓x_isi_sl, ↓x_isi_sd, ↓x_isi_tb, ↓x_isi_ti, ↓x_isi_ts, ↓x_isi_tt, ↓x_isi_tl, ↓x_isi_td, ↓x_isi_lb, ↓x_isi_li, ↓x_isi_ls, ↓x_isi_lt, ↓x_isi_ll, ↓x_isi_ld, ↓x_isi_db, ↓x_isi_di, ↓x_isi_ds, ↓x_isi_dt, ↓x_isi_dl, ↓x_isi_dd, emp_flt, List.length_cons, List.length_nil, on_join, on_split, on_upper, on_count, on_rstrip, on_sindex, on_tindex, true_and, and_true, eq_self, Nat.reduceAdd, Nat.reduceLeDiff, Nat.zero_add, isI_n, isI_b, isI_i, isI_s, isI_t, isI_l, isI_d, isI_c, isI_r, isB_n, isB_b, isB_i, isB_s, isB_t, isB_l, isB_d, isB_c, isB_r, isS_n, isS_b, isS_i, isS_s, isS_t, isS_l, isS_d, isS_c, isS_r, isT_n, isT_b, isT_i, isT_s, isT_t, isT_l, isT_d, isT_c, isT_r, ↓x_con0, ↓x_con1, ↓x_con2, ↓x_con3, ↓x_con4, ↓x_con5, ↓x_con6, ↓x_con7, ↓WB_isI, ↓WB_isB, ↓WB_isS, ↓WB_isT, ↓SB_isI, ↓SB_isB, ↓SB_isS, ↓SB_isT, ↓k1, ↓k2, hp]
      simp [cellB, hp, adjB]
  | scr _ => cases h.1
  | ref _ => cases h.1
  | _ => simp only [↓s_cons, ↓s_nil, ↓l_asg, ↓s_ret, ↓l_site, ↓s_exp, ↓s_pass, ↓w_non, ↓w_bl, ↓w_int, ↓w_str, ↓l_var, ↓l_con, ↓l_bin, ↓l_neg, ↓l_cmp, ↓l_chn, ↓w_isn, ↓w_notn, ↓w_and, ↓w_or, ↓l_not, ↓l_ite, ↓l_tup, ↓l_lst, ↓w_dct, ↓w_mutD, ↓mut_lst, ↓mut_dct, ↓l_idx, ↓l_slc, ↓nb_nul, ↓nb_int, ↓nb_var, ↓nb_con, ↓nb_bin, ↓nb_neg, ↓nb_idx, ↓nb_call, ↓nb_bi, ↓w_call, ↓l_bi, ↓l_bm, ↓l_isi, ↓w_evs, ↓w_evs0, ↓w_and0, ↓l_and1, ↓w_or0, ↓l_or1, ↓l_ssub, ↓s_whlD, ↓l_app, ↓WP_ok, ↓WS_nx, ↓WS_rt, ↓WP_bind, ↓WP_ofE, ↓WB_t, ↓WB_f, ↓WB_n, ↓WB_dec, ↓WB_all, ↓WB_any, ↓WB_lt, ↓WB_sub, ↓WB_emp, ↓WB_eqv, ↓WB_and, ↓WB_or, ↓SB_t, ↓SB_f, ↓SB_n, ↓SB_dec, ↓SB_all, ↓SB_any, ↓SB_lt, ↓SB_sub, ↓SB_emp, ↓SB_eqv, ↓SB_and, ↓SB_or, ↓EX_some, ↓EX_none, ↓EX_map, ↓EB_bl, ↓EI_int, ↓x_g0, ↓x_gs, ↓x_at0, ↓x_at1, ↓x_at2, ↓x_a0, ↓x_as, ↓x_atup2, ↓x_atup3, ↓x_mod_i, ↓x_bnd, ↓x_str_i, ↓x_str_b, ↓x_upper, ↓x_all, ↓x_any, ↓x_sum, ↓x_add_i, ↓x_sub_i, ↓x_mul_i, ↓x_div_i, ↓x_pow_i, ↓x_add_s, ↓x_add_t, ↓x_add_l, ↓x_mul_s, ↓x_mul_t, ↓x_mul_l, ↓x_lt_i, ↓x_le_i, ↓x_gt_i, ↓x_ge_i, ↓x_lt_s, ↓x_le_s, ↓x_eq_i, ↓x_ne_i, ↓x_eq_s, ↓x_ne_s, ↓x_eq_nil, ↓x_ne_nil, ↓x_in_s, ↓x_nin_s, ↓x_len_l, ↓x_len_t, ↓x_len_s, ↓x_tuple_l, ↓x_tuple_t, ↓x_list_t, ↓x_list_l, ↓x_list_s, ↓x_int_i, ↓x_int_b, ↓x_abs, ↓x_str_s, ↓x_slc_t, ↓x_slc_l, ↓x_slc_s, ↓x_idx_t, ↓x_idx_l, ↓x_isi_nb, ↓x_isi_ni, ↓x_isi_ns, ↓x_isi_nt, ↓x_isi_nl, ↓x_isi_nd, ↓x_isi_bb, ↓x_isi_bi, ↓x_isi_bs, ↓x_isi_bt, ↓x_isi_bl, ↓x_isi_bd, ↓x_isi_ib, ↓x_isi_ii, ↓x_isi_is, ↓x_isi_it, ↓x_isi_il, ↓x_isi_id, ↓x_isi_sb, ↓x_isi_si, ↓x_isi_ss, ↓x_isi_st, ↓x_isi_sl, ↓x_isi_sd, ↓x_isi_tb, ↓x_isi_ti, ↓x_isi_ts, ↓x_isi_tt, ↓x_isi_tl, ↓x_isi_td, ↓x_isi_lb, ↓x_isi_li, ↓x_isi_ls, ↓x_isi_lt, ↓x_isi_ll, ↓x_isi_ld, ↓x_isi_db, ↓x_isi_di, ↓x_isi_ds, ↓x_isi_dt, ↓x_isi_dl, ↓x_isi_dd, emp_flt, List.length_cons, List.length_nil, on_join, on_split, on_upper, on_count, on_rstrip, on_sindex, on_tindex, true_and, and_true, eq_self, Nat.reduceAdd, Nat.reduceLeDiff, Nat.zero_add, isI_n, isI_b, isI_i, isI_s, isI_t, isI_l, isI_d, isI_c, isI_r, isB_n, isB_b, isB_i, isB_s, isB_t, isB_l, isB_d, isB_c, isB_r, isS_n, isS_b, isS_i, isS_s, isS_t, isS_l, isS_d, isS_c, isS_r, isT_n, isT_b, isT_i, isT_s, isT_t, isT_l, isT_d, isT_c, isT_r, ↓x_con0, ↓x_con1, ↓x_con2, ↓x_con3, ↓x_con4, ↓x_con5, ↓x_con6, ↓x_con7, ↓WB_isI, ↓WB_isB, ↓WB_isS, ↓WB_isT, ↓SB_isI, ↓SB_isB, ↓SB_isS, ↓SB_isT]; simp [cellB]; done
theorem sizes {n : Nat} {xs : List D} {st : Store} (h : Sm (.tup xs)) (hp : xs.all pieceB = true) : cf (n + 1) 6 [.tup xs] st = .ok (.int ((xs.map txl).sum)) st := by
  refine ok_of (call_same (ft := f6) rfl rfl ?_)
  unfold f6
  walk_at "z0"
  have k1 := wpk fun st => lc_M (Γ := txOf cons) (cf := cf n) (own := [1, 2]) (t := .tup [.nm 1, .nm 2]) (k := .val) (its := [.var 0]) (e := .bi .len [.var 1]) (env := [some (.tup xs), none, none]) (st := st) (ds := [.tup xs]) (xs := xs) (fun x => .int (txl x))
    (evs_i1 (Is.eq (by unfold Is; simp only [↓s_cons, ↓s_nil, ↓l_asg, ↓s_ret, ↓l_site, ↓s_exp, ↓s_pass, ↓w_non, ↓w_bl, ↓w_int, ↓w_str, ↓l_var, ↓l_con, ↓l_bin, ↓l_neg, ↓l_cmp, ↓l_chn, ↓w_isn, ↓w_notn, ↓w_and, ↓w_or, ↓l_not, ↓l_ite, ↓l_tup, ↓l_lst, ↓w_dct, ↓w_mutD, ↓mut_lst, ↓mut_dct, ↓l_idx, ↓l_slc, ↓nb_nul, ↓nb_int, ↓nb_var, ↓nb_con, ↓nb_bin, ↓nb_neg, ↓nb_idx, ↓nb_call, ↓nb_bi, ↓w_call, ↓l_bi, ↓l_bm, ↓l_isi, ↓w_evs, ↓w_evs0, ↓w_and0, ↓l_and1, ↓w_or0, ↓l_or1, ↓l_ssub, ↓s_whlD, ↓l_app, ↓WP_ok, ↓WS_nx, ↓WS_rt, ↓WP_bind, ↓WP_ofE, ↓WB_t, ↓WB_f, ↓WB_n, ↓WB_dec, ↓WB_all, ↓WB_any, ↓WB_lt, ↓WB_sub, ↓WB_emp, ↓WB_eqv, ↓WB_and, ↓WB_or, ↓SB_t, ↓SB_f, ↓SB_n, ↓SB_dec, ↓SB_all, ↓SB_any, ↓SB_lt, ↓SB_sub, ↓SB_emp, ↓SB_eqv, ↓SB_and, ↓SB_or, ↓EX_some, ↓EX_none, ↓EX_map, ↓EB_bl, ↓EI_int, ↓x_g0, ↓x_gs, ↓x_at0, ↓x_at1, ↓x_at2, ↓x_a0, ↓x_as, ↓x_atup2, ↓x_atup3, ↓x_mod_i, ↓x_bnd, ↓x_str_i, ↓x_str_b, ↓x_upper, ↓x_all, ↓x_any, ↓x_sum, ↓x_add_i, ↓x_sub_i, ↓x_mul_i, ↓x_div_i, ↓x_pow_i, ↓x_add_s, ↓x_add_t, ↓x_add_l, ↓x_mul_s, ↓x_mul_t, ↓x_mul_l, ↓x_lt_i, ↓x_le_i, ↓x_gt_i, ↓x_ge_i, ↓x_lt_s, ↓x_le_s, ↓x_eq_i, ↓x_ne_i, ↓x_eq_s, ↓x_ne_s, ↓x_eq_nil, ↓x_ne_nil, ↓x_in_s, ↓x_nin_s, ↓x_len_l, ↓x_len_t, ↓x_len_s, ↓x_tuple_l, ↓x_tuple_t, ↓x_list_t, ↓x_list_l, ↓x_list_s, ↓x_int_i, ↓x_int_b, ↓x_abs, ↓x_str_s, ↓x_slc_t, ↓x_slc_l, ↓x_slc_s, ↓x_idx_t, ↓x_idx_l, ↓x_isi_nb, ↓x_isi_ni, ↓x_isi_ns, ↓x_isi_nt, ↓x_isi_nl, ↓x_isi_nd, ↓x_isi_bb, ↓x_isi_bi, ↓x_isi_bs, ↓x_isi_bt, ↓x_isi_bl, ↓x_isi_bd, ↓x_isi_ib, ↓x_isi_ii, ↓x_isi_is, ↓x_isi_it, ↓x_isi_il, ↓x_isi_id, ↓x_isi_sb, ↓x_isi_si, ↓x_isi_ss, ↓x_isi_st, ↓x_isi_sl, ↓x_isi_sd, ↓x_isi_tb, ↓x_isi_ti, ↓x_isi_ts, ↓x_isi_tt, ↓x_isi_tl, ↓x_isi_td, ↓x_isi_lb, ↓x_isi_li, ↓x_isi_ls, ↓x_isi_lt, ↓x_isi_ll, ↓x_isi_ld, ↓x_isi_db, ↓x_isi_di, ↓x_isi_ds, ↓x_isi_dt, ↓x_isi_dl, ↓x_isi_dd, emp_flt, List.length_cons, List.length_nil, on_join, on_split, on_upper, on_count, on_rstrip, on_sindex, on_tindex, true_and, and_true, eq_self, Nat.reduceAdd, Nat.reduceLeDiff, Nat.zero_add, isI_n, isI_b, isI_i, isI_s, isI_t, isI_l, isI_d, isI_c, isI_r, isB_n, isB_b, isB_i, isB_s, isB_t, isB_l, isB_d, isB_c, isB_r, isS_n, isS_b, isS_i, isS_s, isS_t, isS_l, isS_d, isS_c, isS_r, isT_n, isT_b, isT_i, isT_s, isT_t, isT_l, isT_d, isT_c, isT_r, ↓x_con0, ↓x_con1, ↓x_con2, ↓x_con3, ↓x_con4, ↓x_con5, ↓x_con6, ↓x_con7, ↓WB_isI, ↓WB_isB, ↓WB_isS, ↓WB_isT, ↓SB_isI, ↓SB_isB, ↓SB_isS, ↓SB_isT]))) rfl h.len fun x hx => (by
      obtain ⟨s, m, rfl, hm⟩ := piece_shape (List.all_eq_true.mp hp x hx)
      walk_at "zx"
      refine Is.eq ?_
      unfold Is
      simp only [↓s_cons, ↓s_nil, ↓l_asg, ↓s_ret, ↓l_site, ↓s_exp, ↓s_pass, ↓w_non, ↓w_bl, ↓w_int, ↓w_str, ↓l_var, ↓l_con, ↓l_bin, ↓l_neg, ↓l_cmp, ↓l_chn, ↓w_isn, ↓w_notn, ↓w_and, ↓w_or, ↓l_not, ↓l_ite, ↓l_tup, ↓l_lst, ↓w_dct, ↓w_mutD, ↓mut_lst, ↓mut_dct, ↓l_idx, ↓l_slc, ↓nb_nul, ↓nb_int, ↓nb_var, ↓nb_con, ↓nb_bin, ↓nb_neg, ↓nb_idx, ↓nb_call, ↓nb_bi, ↓w_call, ↓l_bi, ↓l_bm, ↓l_isi, ↓w_evs, ↓w_evs0, ↓w_and0, ↓l_and1, ↓w_or0, ↓l_or1, ↓l_ssub, ↓s_whlD, ↓l_app, ↓WP_ok, ↓WS_nx, ↓WS_rt, ↓WP_bind, ↓WP_ofE, ↓WB_t, ↓WB_f, ↓WB_n, ↓WB_dec, ↓WB_all, ↓WB_any, ↓WB_lt, ↓WB_sub, ↓WB_emp, ↓WB_eqv, ↓WB_and, ↓WB_or, ↓SB_t, ↓SB_f, ↓SB_n, ↓SB_dec, ↓SB_all, ↓SB_any, ↓SB_lt, ↓SB_sub, ↓SB_emp, ↓SB_eqv, ↓SB_and, ↓SB_or, ↓EX_some, ↓EX_none, ↓EX_map, ↓EB_bl, ↓EI_int, ↓x_g0, ↓x_gs, ↓x_at0, ↓x_at1, ↓x_at2, ↓x_a0, ↓x_as, ↓x_atup2, ↓x_atup3, ↓x_mod_i, ↓x_bnd, ↓x_str_i, ↓x_str_b, ↓x_upper, ↓x_all, ↓x_any, ↓x_sum, ↓x_add_i, ↓x_sub_i, ↓x_mul_i, ↓x_div_i, ↓x_pow_i, ↓x_add_s, ↓x_add_t, ↓x_add_l, ↓x_mul_s, ↓x_mul_t, ↓x_mul_l, ↓x_lt_i, ↓x_le_i, ↓x_gt_i, ↓x_ge_i, ↓x_lt_s, ↓x_le_s, ↓x_eq_i, ↓x_ne_i, ↓x_eq_s, ↓x_ne_s, ↓x_eq_nil, ↓x_ne_nil, ↓x_in_s, ↓x_nin_s, ↓x_len_l, ↓x_len_t, ↓x_len_s, ↓x_tuple_l, ↓x_tuple_t, ↓x_list_t, ↓x_list_l, ↓x_list_s, ↓x_int_i, ↓x_int_b, ↓x_abs, ↓x_str_s, ↓x_slc_t, ↓x_slc_l, ↓x_slc_s, ↓x_idx_t, ↓x_idx_l, ↓x_isi_nb, ↓x_isi_ni, ↓x_isi_ns, ↓x_isi_nt, ↓x_isi_nl, ↓x_isi_nd, ↓x_isi_bb, ↓x_isi_bi, ↓x_isi_bs, ↓x_isi_bt, ↓x_isi_bl, ↓x_isi_bd, ↓x_isi_ib, ↓x_isi_ii, ↓x_isi_is, ↓x_isi_it, ↓x_isi_il, ↓x_isi_id, ↓x_isi_sb, ↓x_isi_si, ↓x_isi_ss, ↓x_isi_st, ↓x_isi_sl, ↓x_isi_sd, ↓x_isi_tb, ↓x_isi_ti, ↓x_isi_ts, ↓x_isi_tt, ↓x_isi_tl, ↓x_isi_td, ↓x_isi_lb, ↓x_isi_li, ↓x_isi_ls, ↓x_isi_lt, ↓x_isi_ll, ↓x_isi_ld, ↓x_isi_db, ↓x_isi_di, ↓x_isi_ds, ↓x_isi_dt, ↓x_isi_dl, ↓x_isi_dd, emp_flt, List.length_cons, List.length_nil, on_join, on_split, on_upper, on_count, on_rstrip, on_sindex, on_tindex, true_and, and_true, eq_self, Nat.reduceAdd, Nat.reduceLeDiff, Nat.zero_add, isI_n, isI_b, isI_i, isI_s, isI_t, isI_l, isI_d, isI_c, isI_r, isB_n, isB_b, isB_i, isB_s, isB_t, isB_l, isB_d, isB_c, isB_r, isS_n, isS_b, isS_i, isS_s, isS_t, isS_l, isS_d, isS_c, isS_r, isT_n, isT_b, isT_i, isT_s, isT_t, isT_l, isT_d, isT_c, isT_r, ↓x_con0, ↓x_con1, ↓x_con2, ↓x_con3, ↓x_con4, ↓x_con5, ↓x_con6, ↓x_con7, ↓WB_isI, ↓WB_isB, ↓WB_isS, ↓WB_isT, ↓SB_isI, ↓SB_isB, ↓SB_isS, ↓SB_isT]
      rfl)
  simp only [↓s_cons, ↓s_nil, ↓l_asg, ↓s_ret, ↓l_site, ↓s_exp, ↓s_pass, ↓w_non, ↓w_bl, ↓w_int, ↓w_str, ↓l_var, ↓l_con, ↓l_bin, ↓l_neg, ↓l_cmp, ↓l_chn, ↓w_isn, ↓w_notn, ↓w_and, ↓w_or, ↓l_not, ↓l_ite, ↓l_tup, ↓l_lst, ↓w_dct, ↓w_mutD, ↓mut_lst, ↓mut_dct, ↓l_idx, ↓l_slc, ↓nb_nul, ↓nb_int, ↓nb_var, ↓nb_con, ↓nb_bin, ↓nb_neg, ↓nb_idx, ↓nb_call, ↓nb_bi, ↓w_call, ↓l_bi, ↓l_bm, ↓l_isi, ↓w_evs, ↓w_evs0, ↓w_and0, ↓l_and1, ↓w_or0, ↓l_or1, ↓l_ssub, ↓s_whlD, ↓l_app, ↓WP_ok, ↓WS_nx, ↓WS_rt, ↓WP_bind, ↓WP_ofE, ↓WB_t, ↓WB_f, ↓WB_n, ↓WB_dec, ↓WB_all, ↓WB_any, ↓WB_lt, ↓WB_sub, ↓WB_emp, ↓WB_eqv, ↓WB_and, ↓WB_or, ↓SB_t, ↓SB_f, ↓SB_n, ↓SB_dec, ↓SB_all, ↓SB_any, ↓SB_lt, ↓SB_sub, ↓SB_emp, ↓SB_eqv, ↓SB_and, ↓SB_or, ↓EX_some, ↓EX_none, ↓EX_map, ↓EB_bl, ↓EI_int, ↓x_g0, ↓x_gs, ↓x_at0, ↓x_at1, ↓x_at2, ↓x_a0, ↓x_as, ↓x_atup2, ↓x_atup3, ↓x_mod_i, ↓x_bnd, ↓x_str_i, ↓x_str_b, ↓x_upper, ↓x_all, ↓x_any, ↓x_sum, ↓x_add_i, ↓x_sub_i, ↓x_mul_i, ↓x_div_i, ↓x_pow_i, ↓x_add_s, ↓x_add_t, ↓x_add_l, ↓x_mul_s, ↓x_mul_t, ↓x_mul_l, ↓x_lt_i, ↓x_le_i, ↓x_gt_i, ↓x_ge_i, ↓x_lt_s, ↓x_le_s, ↓x_eq_i, ↓x_ne_i, ↓x_eq_s, ↓x_ne_s, ↓x_eq_nil, ↓x_ne_nil, ↓x_in_s, ↓x_nin_s, ↓x_len_l, ↓x_len_t, ↓x_len_s, ↓x_tuple_l, ↓x_tuple_t, ↓x_list_t, ↓x_list_l, ↓x_list_s, ↓x_int_i, ↓x_int_b, ↓x_abs, ↓x_str_s, ↓x_slc_t, ↓x_slc_l, ↓x_slc_s, ↓x_idx_t, ↓x_idx_l, ↓x_isi_nb, ↓x_isi_ni, ↓x_isi_ns, ↓x_isi_nt, ↓x_isi_nl, ↓x_isi_nd, ↓x_isi_bb, ↓x_isi_bi, ↓x_isi_bs, ↓x_isi_bt, ↓x_isi_bl, ↓x_isi_bd, ↓x_isi_ib, ↓x_isi_ii, ↓x_isi_is, ↓x_isi_it, ↓x_isi_il, ↓x_isi_id, ↓x_isi_sb, ↓x_isi_si, ↓x_isi_ss, ↓x_isi_st, ↓x_isi_sl, ↓x_isi_sd, ↓x_isi_tb, ↓x_isi_ti, ↓x_isi_ts, ↓x_isi_tt, ↓x_isi_tl, ↓x_isi_td, ↓x_isi_lb, ↓x_isi_li, ↓x_isi_ls, ↓x_isi_lt, ↓x_isi_ll, ↓x_isi_ld, ↓x_isi_db, ↓x_isi_di, ↓x_isi_ds, ↓x_isi_dt, ↓x_isi_dl, ↓x_isi_dd, emp_flt, List.length_cons, List.length_nil, on_join, on_split, on_upper, on_count, on_rstrip, on_sindex, on_tindex, true_and, and_true, eq_self, Nat.reduceAdd, Nat.reduceLeDiff, Nat.zero_add, isI_n, isI_b, isI_i, isI_s, isI_t, isI_l, isI_d, isI_c, isI_r, isB_n, isB_b, isB_i, isB_s, isB_t, isB_l, isB_d, isB_c, isB_r, isS_n, isS_b, isS_i, isS_s, isS_t, isS_l, isS_d, isS_c, isS_r, isT_n, isT_b, isT_i, isT_s, isT_t, isT_l, isT_d, isT_c, isT_r, ↓x_con0, ↓x_con1, ↓x_con2, ↓x_con3, ↓x_con4, ↓x_con5, ↓x_con6, ↓x_con7, ↓WB_isI, ↓WB_isB, ↓WB_isS, ↓WB_isT, ↓SB_isI, ↓SB_isB, ↓SB_isS, ↓SB_isT, ↓k1]
end Law
end Cip

set_option maxHeartbeats 4000000
namespace Cip
open PySem
local macro_rules | `(tactic| walk_at "cip") => `(tactic| simp only [s_cons, s_nil, s_asg, s_ret, s_ite, s_exp, s_pass, w_non, w_bl, w_int, w_str, w_var, w_con, w_bin, w_neg, w_cmp, w_isn, w_notn, w_and, w_or, w_not, w_ite, w_tup, w_lst, w_idx, w_call, s_ssubD, s_forD, s_whlD, w_mutD, w_appD, mut_lst, asg_tup2, asg_tup3, int_i, len_l, len_t, len_s, idx_l, idx_t, tuple_l, w_bi, w_isi, w_evs, w_evs0, w_and0, w_and1, w_or0, w_or1, asg_nm, ex_some, ex_var, ex_int, ex_bl, startE, List.length_cons, List.length_nil, List.map_cons, List.map_nil, List.getElem?_cons_zero, List.getElem?_cons_succ, List.set_cons_zero, List.set_cons_succ, List.cons_append, List.nil_append, List.replicate, ex_ite, b_add_i, b_sub_i, b_mul_i, b_mod_i, b_div_i, b_pow_i, b_add_s, b_add_t, b_add_l, b_mul_s, b_mul_t, b_mul_l, c_lt_i, c_le_i, c_gt_i, c_ge_i, c_lt_s, c_le_s, c_eq_i, c_ne_i, c_eq_s, c_ne_s, WP_ok, WS_nx, WS_rt, true_and, and_true])
local macro_rules | `(tactic| walk_at "cip2") => `(tactic| simp only [s_cons, s_nil, s_asg, s_ret, s_ite, s_exp, s_pass, w_non, w_bl, w_int, w_str, w_var, w_con, w_bin, w_neg, w_cmp, w_isn, w_notn, w_and, w_or, w_not, w_ite, w_tup, w_lst, w_idx, w_call, s_ssubD, s_forD, s_whlD, w_mutD, w_appD, mut_lst, asg_tup2, asg_tup3, int_i, len_l, len_t, len_s, idx_l, idx_t, tuple_l, w_bi, w_isi, w_evs, w_evs0, w_and0, w_and1, w_or0, w_or1, asg_nm, ex_some, ex_var, ex_int, ex_bl, startE, List.length_cons, List.length_nil, List.map_cons, List.map_nil, List.getElem?_cons_zero, List.getElem?_cons_succ, List.set_cons_zero, List.set_cons_succ, List.cons_append, List.nil_append, List.replicate, ex_ite, b_add_i, b_sub_i, b_mul_i, b_mod_i, b_div_i, b_pow_i, b_add_s, b_add_t, b_add_l, b_mul_s, b_mul_t, b_mul_l, c_lt_i, c_le_i, c_gt_i, c_ge_i, c_lt_s, c_le_s, c_eq_i, c_ne_i, c_eq_s, c_ne_s, WP_ok, WS_nx, WS_rt, true_and, and_true, w_slc, E.nulB, eq_self, if_true, if_false, Bool.false_eq_true, WP_bind, WP_of, bnd_int, Bool.not_true, Bool.not_false])
local macro_rules | `(tactic| walk_at "cip3") => `(tactic| simp only [s_cons, s_nil, s_asg, s_ret, s_ite, s_exp, s_pass, w_non, w_bl, w_int, w_str, w_var, w_con, w_bin, w_neg, w_cmp, w_isn, w_notn, w_and, w_or, w_not, w_ite, w_tup, w_lst, w_idx, w_call, s_ssubD, s_forD, s_whlD, w_mutD, w_appD, mut_lst, asg_tup2, asg_tup3, int_i, len_l, len_t, len_s, idx_l, idx_t, tuple_l, w_bi, w_isi, w_evs, w_evs0, w_and0, w_and1, w_or0, w_or1, asg_nm, ex_some, ex_var, ex_int, ex_bl, startE, List.length_cons, List.length_nil, List.map_cons, List.map_nil, List.getElem?_cons_zero, List.getElem?_cons_succ, List.set_cons_zero, List.set_cons_succ, List.cons_append, List.nil_append, List.replicate, ex_ite, b_add_i, b_sub_i, b_mul_i, b_mod_i, b_div_i, b_pow_i, b_add_s, b_add_t, b_add_l, b_mul_s, b_mul_t, b_mul_l, c_lt_i, c_le_i, c_gt_i, c_ge_i, c_lt_s, c_le_s, c_eq_i, c_ne_i, c_eq_s, c_ne_s, WP_ok, WS_nx, WS_rt, true_and, and_true, w_slc, E.nulB, eq_self, if_true, if_false, Bool.false_eq_true, WP_bind, WP_of, bnd_int, Bool.not_true, Bool.not_false, w_chn])
local macro_rules | `(tactic| walk_at "z0") => `(tactic| simp only [startE, List.map_cons, List.map_nil, List.length_cons, List.length_nil, Nat.reduceAdd, Nat.reduceSub, List.replicate, List.cons_append, List.nil_append])

namespace Law
/-! M10: the other check of cells; lines and contents, both checks. -/
theorem run_cell2 {n : Nat} {d : D} {m : Int} {st : Store} (h : Sm d) : cf (n + 4) 25 [d, .int m] st = .ok (.bl (cellB d && szB m d)) st := by
  refine ok_of (call_same (ft := f25) rfl rfl ?_)
  unfold f25
  walk_at "z0"
  cases d with
  | tup xs =>
    have k1 := wpk fun st => lc_G (Γ := txOf cons) (cf := cf (n + 3)) (own := [5]) (t := .nm 5) (k := .val) (its := [.var 0]) (c := .not (.call 24 [.var 5])) (e := .var 5) (env := [some (.tup xs), some (.int m), none, none, none, none]) (st := st) (ds := [.tup xs]) (xs := xs) (fun x => !pieceB x) (fun x => x)
      (evs_i1 (Is.eq (by unfold Is; simp only [↓s_cons, ↓s_nil, ↓l_asg, ↓s_ret, ↓l_site, ↓s_exp, ↓s_pass, ↓w_non, ↓w_bl, ↓w_int, ↓w_str, ↓l_var, ↓l_con, ↓l_bin, ↓l_neg, ↓l_cmp, ↓l_chn, ↓w_isn, ↓w_notn, ↓w_and, ↓w_or, ↓l_not, ↓l_ite, ↓l_tup, ↓l_lst, ↓w_dct, ↓w_mutD, ↓mut_lst, ↓mut_dct, ↓l_idx, ↓l_slc, ↓nb_nul, ↓nb_int, ↓nb_var, ↓nb_con, ↓nb_bin, ↓nb_neg, ↓nb_idx, ↓nb_call, ↓nb_bi, ↓w_call, ↓l_bi, ↓l_bm, ↓l_isi, ↓w_evs, ↓w_evs0, ↓w_and0, ↓l_and1, ↓w_or0, ↓l_or1, ↓l_ssub, ↓s_whlD, ↓l_app, ↓WP_ok, ↓WS_nx, ↓WS_rt, ↓WP_bind, ↓WP_ofE, ↓WB_t, ↓WB_f, ↓WB_n, ↓WB_dec, ↓WB_all, ↓WB_any, ↓WB_lt, ↓WB_sub, ↓WB_emp, ↓WB_eqv, ↓WB_and, ↓WB_or, ↓SB_t, ↓SB_f, ↓SB_n, ↓SB_dec, ↓SB_all, ↓SB_any, ↓SB_lt, ↓SB_sub, ↓SB_emp, ↓SB_eqv, ↓SB_and, ↓SB_or, ↓EX_some, ↓EX_none, ↓EX_map, ↓EB_bl, ↓EI_int, ↓x_g0, ↓x_gs, ↓x_at0, ↓x_at1, ↓x_at2, ↓x_a0, ↓x_as, ↓x_atup2, ↓x_atup3, ↓x_mod_i, ↓x_bnd, ↓x_str_i, ↓x_str_b, ↓x_upper, ↓x_all, ↓x_any, ↓x_sum, ↓x_add_i, ↓x_sub_i, ↓x_mul_i, ↓x_div_i, ↓x_pow_i, ↓x_add_s, ↓x_add_t, ↓x_add_l, ↓x_mul_s, ↓x_mul_t, ↓x_mul_l, ↓x_lt_i, ↓x_le_i, ↓x_gt_i, ↓x_ge_i, ↓x_lt_s, ↓x_le_s, ↓x_eq_i, ↓x_ne_i, ↓x_eq_s, ↓x_ne_s, ↓x_eq_nil, ↓x_ne_nil, ↓x_in_s, ↓x_nin_s, ↓x_len_l, ↓x_len_t, ↓x_len_s, ↓x_tuple_l, ↓x_tuple_t, ↓x_list_t, ↓x_list_l, ↓x_list_s, ↓x_int_i, ↓x_int_b, ↓x_abs, ↓x_str_s, ↓x_slc_t, ↓x_slc_l, ↓x_slc_s, ↓x_idx_t, ↓x_idx_l, ↓x_isi_nb, ↓x_isi_ni, ↓x_isi_ns, ↓x_isi_nt, ↓x_isi_nl, ↓x_isi_nd, ↓x_isi_bb, ↓x_isi_bi, ↓x_isi_bs, ↓x_isi_bt, ↓x_isi_bl, ↓x_isi_bd, ↓x_isi_ib, ↓x_isi_ii, ↓x_isi_is, ↓x_isi_it, ↓x_isi_il, ↓x_isi_id, ↓x_isi_sb, ↓x_isi_si, ↓x_isi_ss, ↓x_isi_st, ↓x_isi_sl, ↓x_isi_sd, ↓x_isi_tb, ↓x_isi_ti, ↓x_isi_ts, ↓x_isi_tt, ↓x_isi_tl, ↓x_isi_td, ↓x_isi_lb, ↓x_isi_li, ↓x_isi_ls, ↓x_isi_lt, ↓x_isi_ll, ↓x_isi_ld, ↓x_isi_db, ↓x_isi_di, ↓x_isi_ds, ↓x_isi_dt, ↓x_isi_dl, ↓x_isi_dd, emp_flt, List.length_cons, List.length_nil, on_join, on_split, on_upper, on_count, on_rstrip, on_sindex, on_tindex, true_and, and_true, eq_self, Nat.reduceAdd, Nat.reduceLeDiff, Nat.zero_add, isI_n, isI_b, isI_i, isI_s, isI_t, isI_l, isI_d, isI_c, isI_r, isB_n, isB_b, isB_i, isB_s, isB_t, isB_l, isB_d, isB_c, isB_r, isS_n, isS_b, isS_i, isS_s, isS_t, isS_l, isS_d, isS_c, isS_r, isT_n, isT_b, isT_i, isT_s, isT_t, isT_l, isT_d, isT_c, isT_r, ↓x_con0, ↓x_con1, ↓x_con2, ↓x_con3, ↓x_con4, ↓x_con5, ↓x_con6, ↓x_con7, ↓WB_isI, ↓WB_isB, ↓WB_isS, ↓WB_isT, ↓SB_isI, ↓SB_isB, ↓SB_isS, ↓SB_isT]))) rfl h.len rfl fun x hx => (by
        simp only [wipeE, List.set_cons_zero, List.set_cons_succ, ↓x_a0, ↓x_as, ↓x_atup2, ↓x_atup3]
        refine ⟨Is.eq ?_, fun _ => Is.eq ?_⟩
        · unfold Is
          simp only [↓s_cons, ↓s_nil, ↓l_asg, ↓s_ret, ↓l_site, ↓s_exp, ↓s_pass, ↓w_non, ↓w_bl, ↓w_int, ↓w_str, ↓l_var, ↓l_con, ↓l_bin, ↓l_neg, ↓l_cmp, ↓l_chn, ↓w_isn, ↓w_notn, ↓w_and, ↓w_or, ↓l_not, ↓l_ite, ↓l_tup, ↓l_lst, ↓w_dct, ↓w_mutD, ↓mut_lst, ↓mut_dct, ↓l_idx, ↓l_slc, ↓nb_nul, ↓nb_int, ↓nb_var, ↓nb_con, ↓nb_bin, ↓nb_neg, ↓nb_idx, ↓nb_call, ↓nb_bi, ↓w_call, ↓l_bi, ↓l_bm, ↓l_isi, ↓w_evs, ↓w_evs0, ↓w_and0, ↓l_and1, ↓w_or0, ↓l_or1, ↓l_ssub, ↓s_whlD, ↓l_app, ↓WP_ok, ↓WS_nx, ↓WS_rt, ↓WP_bind, ↓WP_ofE, ↓WB_t, ↓WB_f, ↓WB_n, ↓WB_dec, ↓WB_all, ↓WB_any, ↓WB_lt, ↓WB_sub, ↓WB_emp, ↓WB_eqv, ↓WB_and, ↓WB_or, ↓SB_t, ↓SB_f, ↓SB_n, ↓SB_dec, ↓SB_all, ↓SB_any, ↓SB_lt, ↓SB_sub, ↓SB_emp, ↓SB_eqv, ↓SB_and, ↓SB_or, ↓EX_some, ↓EX_none, ↓EX_map, ↓EB_bl, ↓EI_int, ↓x_g0, ↓x_gs, ↓x_at0, ↓x_at1, ↓x_at2, ↓x_a0, ↓x_as, ↓x_atup2, ↓x_atup3, ↓x_mod_i, ↓x_bnd, ↓x_str_i, ↓x_str_b, ↓x_upper, ↓x_all, ↓x_any, ↓x_sum, ↓x_add_i, ↓x_sub_i, ↓x_mul_i, ↓x_div_i, ↓x_pow_i, ↓x_add_s, ↓x_add_t, ↓x_add_l, ↓x_mul_s, ↓x_mul_t, ↓x_mul_l, ↓x_lt_i, ↓x_le_i, ↓x_gt_i, ↓x_ge_i, ↓x_lt_s, ↓x_le_s, ↓x_eq_i, ↓x_ne_i, ↓x_eq_s, ↓x_ne_s, ↓x_eq_nil, ↓x_ne_nil, ↓x_in_s, ↓x_nin_s, ↓x_len_l, ↓x_len_t, ↓x_len_s, ↓x_tuple_l, ↓x_tuple_t, ↓x_list_t, ↓x_list_l, ↓x_list_s, ↓x_int_i, ↓x_int_b, ↓x_abs, ↓x_str_s, ↓x_slc_t, ↓x_slc_l, ↓x_slc_s, ↓x_idx_t, ↓x_idx_l, ↓x_isi_nb, ↓x_isi_ni, ↓x_isi_ns, ↓x_isi_nt, ↓x_isi_nl, ↓x_isi_nd, ↓x_isi_bb, ↓x_isi_bi, ↓x_isi_bs, ↓x_isi_bt, ↓x_isi_bl, ↓x_isi_bd, ↓x_isi_ib, ↓x_isi_ii, ↓x_isi_is, ↓x_isi_it, ↓x_isi_il, ↓x_isi_id, ↓x_isi_sb, ↓x_isi_si, ↓x_isi_ss, ↓x_isi_st, ↓x_isi_sl, ↓x_isi_sd, ↓x_isi_tb, ↓x_isi_ti, ↓x_isi_ts, ↓x_isi_tt, ↓x_isi_tl, ↓x_isi_td, ↓x_isi_lb, ↓x_isi_li, ↓x_isi_ls, ↓x_isi_lt, ↓x_isi_ll, ↓x_isi_ld, ↓x_isi_db, ↓x_isi_di, ↓x_isi_ds, ↓x_isi_dt, ↓x_isi_dl, ↓x_isi_dd, emp_flt, List.length_cons, List.length_nil, on_join, on_split, on_upper, on_count, on_rstrip, on_sindex, on_tindex, true_and, and_true, eq_self, Nat.reduceAdd, Nat.reduceLeDiff, Nat.zero_add, isI_n, isI_b, isI_i, isI_s, isI_t, isI_l, isI_d, isI_c, isI_r, isB_n, isB_b, isB_i, isB_s, isB_t, isB_l, isB_d, isB_c, isB_r, isS_n, isS_b, isS_i, isS_s, isS_t, isS_l, isS_d, isS_c, isS_r, isT_n, isT_b, isT_i, isT_s, isT_t, isT_l, isT_d, isT_c, isT_r, ↓x_con0, ↓x_con1, ↓x_con2, ↓x_con3, ↓x_con4, ↓x_con5, ↓x_con6, ↓x_con7, ↓WB_isI, ↓WB_isB, ↓WB_isS, ↓WB_isT, ↓SB_isI, ↓SB_isB, ↓SB_isS, ↓SB_isT, ↓wpc fun st => run_piece2 (n := n) (st := st) (h.mem hx).1 (h.mem hx).text]
        · unfold Is
          simp only [↓s_cons, ↓s_nil, ↓l_asg, ↓s_ret, ↓l_site, ↓s_exp, ↓s_pass, ↓w_non, ↓w_bl, ↓w_int, ↓w_str, ↓l_var, ↓l_con, ↓l_bin, ↓l_neg, ↓l_cmp, ↓l_chn, ↓w_isn, ↓w_notn, ↓w_and, ↓w_or, ↓l_not, ↓l_ite, ↓l_tup, ↓l_lst, ↓w_dct, ↓w_mutD, ↓mut_lst, ↓mut_dct, ↓l_idx, ↓l_slc, ↓nb_nul, ↓nb_int, ↓nb_var, ↓nb_con, ↓nb_bin, ↓nb_neg, ↓nb_idx, ↓nb_call, ↓nb_bi, ↓w_call, ↓l_bi, ↓l_bm, ↓l_isi, ↓w_evs, ↓w_evs0, ↓w_and0, ↓l_and1, ↓w_or0, ↓l_or1, ↓l_ssub, ↓s_whlD, ↓l_app, ↓WP_ok, ↓WS_nx, ↓WS_rt, ↓WP_bind, ↓WP_ofE, ↓WB_t, ↓WB_f, ↓WB_n, ↓WB_dec, ↓WB_all, ↓WB_any, ↓WB_lt, ↓WB_sub, ↓WB_emp, ↓WB_eqv, ↓WB_and, ↓WB_or, ↓SB_t, ↓SB_f, ↓SB_n, ↓SB_dec, ↓SB_all, ↓SB_any, ↓SB_lt, ↓SB_sub, ↓SB_emp, ↓SB_eqv, ↓SB_and, ↓SB_or, ↓EX_some, ↓EX_none, ↓EX_map, ↓EB_bl, ↓EI_int, ↓x_g0, ↓x_gs, ↓x_at0, ↓x_at1, ↓x_at2, ↓x_a0, ↓x_as, ↓x_atup2, ↓x_atup3, ↓x_mod_i, ↓x_bnd, ↓x_str_i, ↓x_str_b, ↓x_upper, ↓x_all, ↓x_any, ↓x_sum, ↓x_add_i, ↓x_sub_i, ↓x_mul_i, ↓x_div_i, ↓x_pow_i, ↓x_add_s, ↓x_add_t, ↓x_add_l, ↓x_mul_s, ↓x_mul_t, ↓x_mul_l, ↓x_lt_i, ↓x_le_i, ↓x_gt_i, ↓x_ge_i, ↓x_lt_s, ↓x_le_s, ↓x_eq_i, ↓x_ne_i, ↓x_eq_s, ↓x_ne_s, ↓x_eq_nil, ↓x_ne_nil, ↓x_in_s, ↓x_nin_s, ↓x_len_l, ↓x_len_t, ↓x_len_s, ↓x_tuple_l, ↓x_tuple_t, ↓x_list_t, ↓x_list_l, ↓x_list_s, ↓x_int_i, ↓x_int_b, ↓x_abs, ↓x_str_s, ↓x_slc_t, ↓x_slc_l, ↓x_slc_s, ↓x_idx_t, ↓x_idx_l, ↓x_isi_nb, ↓x_isi_ni, ↓x_isi_ns, ↓x_isi_nt, ↓x_isi_nl, ↓x_isi_nd, ↓x_isi_bb, ↓x_isi_bi, ↓x_isi_bs, ↓x_isi_bt, ↓x_isi_bl, ↓x_isi_bd, ↓x_isi_ib, ↓x_isi_ii, ↓x_isi_is, ↓x_isi_it, ↓x_isi_il, ↓x_isi_id, ↓x_isi_sb, ↓x_isi_si, ↓x_isi_ss, ↓x_isi_st, ↓x_isi_sl, ↓x_isi_sd, ↓x_isi_tb, ↓x_isi_ti, ↓x_isi_ts, ↓x_isi_tt, ↓x_isi_tl, ↓x_isi_td, ↓x_isi_lb, ↓x_isi_li, ↓x_isi_ls, ↓x_isi_lt, ↓x_isi_ll, ↓x_isi_ld, ↓x_isi_db, ↓x_isi_di, ↓x_isi_ds, ↓x_isi_dt, ↓x_isi_dl, ↓x_isi_dd, emp_flt, List.length_cons, List.length_nil, on_join, on_split, on_upper, on_count, on_rstrip, on_sindex, on_tindex, true_and, and_true, eq_self, Nat.reduceAdd, Nat.reduceLeDiff, Nat.zero_add, isI_n, isI_b, isI_i, isI_s, isI_t, isI_l, isI_d, isI_c, isI_r, isB_n, isB_b, isB_i, isB_s, isB_t, isB_l, isB_d, isB_c, isB_r, isS_n, isS_b, isS_i, isS_s, isS_t, isS_l, isS_d, isS_c, isS_r, isT_n, isT_b, isT_i, isT_s, isT_t, isT_l, isT_d, isT_c, isT_r, ↓x_con0, ↓x_con1, ↓x_con2, ↓x_con3, ↓x_con4, ↓x_con5, ↓x_con6, ↓x_con7, ↓WB_isI, ↓WB_isB, ↓WB_isS, ↓WB_isT, ↓SB_isI, ↓SB_isB, ↓SB_isS, ↓SB_isT])
    cases hp : xs.all pieceB with
    | false =>
      simp only [↓s_cons, ↓s_nil, ↓l_asg, ↓s_ret, ↓l_site, ↓s_exp, ↓s_pass, ↓w_non, ↓w_bl, ↓w_int, ↓w_str, ↓l_var, ↓l_con, ↓l_bin, ↓l_neg, ↓l_cmp, ↓l_chn, ↓w_isn, ↓w_notn, ↓w_and, ↓w_or, ↓l_not, ↓l_ite, ↓l_tup, ↓l_lst, ↓w_dct, ↓w_mutD, ↓mut_lst, ↓mut_dct, ↓l_idx, ↓l_slc, ↓nb_nul, ↓nb_int, ↓nb_var, ↓nb_con, ↓nb_bin, ↓nb_neg, ↓nb_idx, ↓nb_call, ↓nb_bi, ↓w_call, ↓l_bi, ↓l_bm, ↓l_isi, ↓w_evs, ↓w_evs0, ↓w_and0, ↓l_and1, ↓w_or0, ↓l_or1, ↓l_ssub, ↓s_whlD, ↓l_app, ↓WP_ok, ↓WS_nx, ↓WS_rt, ↓WP_bind, ↓WP_ofE, ↓WB_t, ↓WB_f, ↓WB_n, ↓WB_dec, ↓WB_all, ↓WB_any, ↓WB_lt, ↓WB_sub, ↓WB_emp, ↓WB_eqv, ↓WB_and, ↓WB_or, ↓SB_t, ↓SB_f, ↓SB_n, ↓SB_dec, ↓SB_all, ↓SB_any, ↓SB_lt, ↓SB_sub, ↓SB_emp, ↓SB_eqv, ↓SB_and, ↓SB_or, ↓EX_some, ↓EX_none, ↓EX_map, ↓EB_bl, ↓EI_int, ↓x_g0, ↓x_gs, ↓x_at0, ↓x_at1, ↓x_at2, ↓x_a0, ↓x_as, ↓x_atup2, ↓x_atup3, ↓x_mod_i, ↓x_bnd, ↓x_str_i, ↓x_str_b, ↓x_upper, ↓x_all, ↓x_any, ↓x_sum, ↓x_add_i, ↓x_sub_i, ↓x_mul_i, ↓x_div_i, ↓x_pow_i, ↓x_add_s, ↓x_add_t, ↓x_add_l, ↓x_mul_s, ↓x_mul_t, ↓x_mul_l, ↓x_lt_i, ↓x_le_i, ↓x_gt_i, ↓x_ge_i, ↓x_lt_s, ↓x_le_s, ↓x_eq_i, ↓x_ne_i, ↓x_eq_s, ↓x_ne_s, ↓x_eq_nil, ↓x_ne_nil, ↓x_in_s, ↓x_nin_s, ↓x_len_l, ↓x_len_t, ↓x_len_s, ↓x_tuple_l, ↓x_tuple_t, ↓x_list_t, ↓x_list_l, ↓x_list_s, ↓x_int_i, ↓x_int_b, ↓x_abs, ↓x_str_s, ↓x_slc_t, ↓x_slc_l, ↓x_slc_s, ↓x_idx_t, ↓x_idx_l, ↓x_isi_nb, ↓x_isi_ni, ↓x_isi_ns, ↓x_isi_nt, ↓x_isi_nl, ↓x_isi_nd, ↓x_isi_bb, ↓x_isi_bi, ↓x_isi_bs, ↓x_isi_bt, ↓x_isi_bl, ↓x_isi_bd, ↓x_isi_ib, ↓x_isi_ii, ↓x_isi_is, ↓x_isi_it, ↓x_isi_il, ↓x_isi_id, ↓x_isi_sb, ↓x_isi_si, ↓x_isi_ss, ↓x_isi_st, ↓x_isi_sl, ↓x_isi_sd, ↓x_isi_tb, ↓x_isi_ti, ↓x_isi_ts, ↓x_isi_tt, ↓x_isi_tl, ↓x_isi_td, ↓x_isi_lb, ↓x_isi_li, ↓x_isi_ls, ↓x_isi_lt, ↓x_isi_ll, ↓x_isi_ld, ↓x_isi_db, ↓x_isi_di, ↓x_isi_ds, ↓x_isi_dt, ↓x_isi_dl, ↓x_isi_dd, emp_flt, List.length_cons, List.length_nil, on_join, on_split, on_upper, on_count, on_rstrip, on_sindex, on_tindex, true_and, and_true, eq_self, Nat.reduceAdd, Nat.reduceLeDiff, Nat.zero_add, isI_n, isI_b, isI_i, isI_s, isI_t, isI_l, isI_d, isI_c, isI_r, isB_n, isB_b, isB_i, isB_s, isB_t, isB_l, isB_d, isB_c, isB_r, isS_n, isS_b, isS_i, isS_s, isS_t, isS_l, isS_d, isS_c, isS_r, isT_n, isT_b, isT_i, isT_s, isT_t, isT_l, isT_d, isT_c, isT_r, ↓x_con0, ↓x_con1, ↓x_con2, ↓x_con3, ↓x_con4, ↓x_con5, ↓x_con6, ↓x_con7, ↓WB_isI, ↓WB_isB, ↓WB_isS, ↓WB_isT, ↓SB_isI, ↓SB_isB, ↓SB_isS, ↓SB_isT, ↓k1, hp]
      simp [cellB, hp]
    | true =>
      have k2 := wpk fun st => lc_G (Γ := txOf cons) (cf := cf (n + 3)) (own := [3, 4]) (t := .tup [.nm 3, .nm 4]) (k := .zip2) (its := [.var 0, .slc (.var 0) (.int 1) .nul]) (c := .cmp .eq (.idx (.var 3) (.int 1)) (.idx (.var 4) (.int 1))) (e := .int 1) (env := [some (.tup xs), some (.int m), none, none, none, none]) (st := st) (ds := [.tup xs, .tup (cutL xs (some 1) none)]) (xs := zipL xs (cutL xs (some 1) none)) (fun x => !neB x) (fun _ => .int 1)
        (evs_i2 (Is.eq (by unfold Is; simp only [↓s_cons, ↓s_nil, ↓l_asg, ↓s_ret, ↓l_site, ↓s_exp, ↓s_pass, ↓w_non, ↓w_bl, ↓w_int, ↓w_str, ↓l_var, ↓l_con, ↓l_bin, ↓l_neg, ↓l_cmp, ↓l_chn, ↓w_isn, ↓w_notn, ↓w_and, ↓w_or, ↓l_not, ↓l_ite, ↓l_tup, ↓l_lst, ↓w_dct, ↓w_mutD, ↓mut_lst, ↓mut_dct, ↓l_idx, ↓l_slc, ↓nb_nul, ↓nb_int, ↓nb_var, ↓nb_con, ↓nb_bin, ↓nb_neg, ↓nb_idx, ↓nb_call, ↓nb_bi, ↓w_call, ↓l_bi, ↓l_bm, ↓l_isi, ↓w_evs, ↓w_evs0, ↓w_and0, ↓l_and1, ↓w_or0, ↓l_or1, ↓l_ssub, ↓s_whlD, ↓l_app, ↓WP_ok, ↓WS_nx, ↓WS_rt, ↓WP_bind, ↓WP_ofE, ↓WB_t, ↓WB_f, ↓WB_n, ↓WB_dec, ↓WB_all, ↓WB_any, ↓WB_lt, ↓WB_sub, ↓WB_emp, ↓WB_eqv, ↓WB_and, ↓WB_or, ↓SB_t, ↓SB_f, ↓SB_n, ↓SB_dec, ↓SB_all, ↓SB_any, ↓SB_lt, ↓SB_sub, ↓SB_emp, ↓SB_eqv, ↓SB_and, ↓SB_or, ↓EX_some, ↓EX_none, ↓EX_map, ↓EB_bl, ↓EI_int, ↓x_g0, ↓x_gs, ↓x_at0, ↓x_at1, ↓x_at2, ↓x_a0, ↓x_as, ↓x_atup2, ↓x_atup3, ↓x_mod_i, ↓x_bnd, ↓x_str_i, ↓x_str_b, ↓x_upper, ↓x_all, ↓x_any, ↓x_sum, ↓x_add_i, ↓x_sub_i, ↓x_mul_i, ↓x_div_i, ↓x_pow_i, ↓x_add_s, ↓x_add_t, ↓x_add_l, ↓x_mul_s, ↓x_mul_t, ↓x_mul_l, ↓x_lt_i, ↓x_le_i, ↓x_gt_i, ↓x_ge_i, ↓x_lt_s, ↓x_le_s, ↓x_eq_i, ↓x_ne_i, ↓x_eq_s, ↓x_ne_s, ↓x_eq_nil, ↓x_ne_nil, ↓x_in_s, ↓x_nin_s, ↓x_len_l, ↓x_len_t, ↓x_len_s, ↓x_tuple_l, ↓x_tuple_t, ↓x_list_t, ↓x_list_l, ↓x_list_s, ↓x_int_i, ↓x_int_b, ↓x_abs, ↓x_str_s, ↓x_slc_t, ↓x_slc_l, ↓x_slc_s, ↓x_idx_t, ↓x_idx_l, ↓x_isi_nb, ↓x_isi_ni, ↓x_isi_ns, ↓x_isi_nt, ↓x_isi_nl, ↓x_isi_nd, ↓x_isi_bb, ↓x_isi_bi, ↓x_isi_bs, ↓x_isi_bt, ↓x_isi_bl, ↓x_isi_bd, ↓x_isi_ib, ↓x_isi_ii, ↓x_isi_is, ↓x_isi_it, ↓x_isi_il, ↓x_isi_id, ↓x_isi_sb, ↓x_isi_si, ↓x_isi_ss, ↓x_isi_st, ↓x_isi_sl, ↓x_isi_sd, ↓x_isi_tb, ↓x_isi_ti, ↓x_isi_ts, ↓x_isi_tt, ↓x_isi_tl, ↓x_isi_td, ↓x_isi_lb, ↓x_isi_li, ↓x_isi_ls, ↓x_isi_lt, ↓x_isi_ll, ↓x_isi_ld, ↓x_isi_db, ↓x_isi_di, ↓x_isi_ds, ↓x_isi_dt, ↓x_isi_dl, ↓x_isi_dd, emp_flt, List.length_cons, List.length_nil, on_join, on_split, on_upper, on_count, on_rstrip, on_sindex, on_tindex, true_and, and_true, eq_self, Nat.reduceAdd, Nat.reduceLeDiff, Nat.zero_add, isI_n, isI_b, isI_i, isI_s, isI_t, isI_l, isI_d, isI_c, isI_r, isB_n, isB_b, isB_i, isB_s, isB_t, isB_l, isB_d, isB_c, isB_r, isS_n, isS_b, isS_i, isS_s, isS_t, isS_l, isS_d, isS_c, isS_r, isT_n, isT_b, isT_i, isT_s, isT_t, isT_l, isT_d, isT_c, isT_r, ↓x_con0, ↓x_con1, ↓x_con2, ↓x_con3, ↓x_con4, ↓x_con5, ↓x_con6, ↓x_con7, ↓WB_isI, ↓WB_isB, ↓WB_isS, ↓WB_isT, ↓SB_isI, ↓SB_isB, ↓SB_isS, ↓SB_isT])) (Is.eq (by unfold Is; simp only [↓s_cons, ↓s_nil, ↓l_asg, ↓s_ret, ↓l_site, ↓s_exp, ↓s_pass, ↓w_non, ↓w_bl, ↓w_int, ↓w_str, ↓l_var, ↓l_con, ↓l_bin, ↓l_neg, ↓l_cmp, ↓l_chn, ↓w_isn, ↓w_notn, ↓w_and, ↓w_or, ↓l_not, ↓l_ite, ↓l_tup, ↓l_lst, ↓w_dct, ↓w_mutD, ↓mut_lst, ↓mut_dct, ↓l_idx, ↓l_slc, ↓nb_nul, ↓nb_int, ↓nb_var, ↓nb_con, ↓nb_bin, ↓nb_neg, ↓nb_idx, ↓nb_call, ↓nb_bi, ↓w_call, ↓l_bi, ↓l_bm, ↓l_isi, ↓w_evs, ↓w_evs0, ↓w_and0, ↓l_and1, ↓w_or0, ↓l_or1, ↓l_ssub, ↓s_whlD, ↓l_app, ↓WP_ok, ↓WS_nx, ↓WS_rt, ↓WP_bind, ↓WP_ofE, ↓WB_t, ↓WB_f, ↓WB_n, ↓WB_dec, ↓WB_all, ↓WB_any, ↓WB_lt, ↓WB_sub, ↓WB_emp, ↓WB_eqv, ↓WB_and, ↓WB_or, ↓SB_t, ↓SB_f, ↓SB_n, ↓SB_dec, ↓SB_all, ↓SB_any, ↓SB_lt, ↓SB_sub, ↓SB_emp, ↓SB_eqv, ↓SB_and, ↓SB_or, ↓EX_some, ↓EX_none, ↓EX_map, ↓EB_bl, ↓EI_int, ↓x_g0, ↓x_gs, ↓x_at0, ↓x_at1, ↓x_at2, ↓x_a0, ↓x_as, ↓x_atup2, ↓x_atup3, ↓x_mod_i, ↓x_bnd, ↓x_str_i, ↓x_str_b, ↓x_upper, ↓x_all, ↓x_any, ↓x_sum, ↓x_add_i, ↓x_sub_i, ↓x_mul_i, ↓x_div_i, ↓x_pow_i, ↓x_add_s, ↓x_add_t, ↓x_add_l, ↓x_mul_s, ↓x_mul_t, ↓x_mul_l, ↓x_lt_i, ↓x_le_i, ↓x_gt_i, ↓x_ge_i, ↓x_lt_s, ↓x_le_s, ↓x_eq_i, ↓x_ne_i, ↓x_eq_s, ↓x_ne_s, ↓x_eq_nil, ↓x_ne_nil, ↓x_in_s, ↓x_nin_s, ↓x_len_l, ↓x_len_t, ↓x_len_s, ↓x_tuple_l, ↓x_tuple_t, ↓x_list_t, ↓x_list_l, ↓x_list_s, ↓x_int_i, ↓x_int_b, ↓x_abs, ↓x_str_s, ↓x_slc_t, ↓x_slc_l, ↓x_slc_s, ↓x_idx_t, ↓x_idx_l, ↓x_isi_nb, ↓x_isi_ni, ↓x_isi_ns, ↓x_isi_nt, ↓x_isi_nl, ↓x_isi_nd, ↓x_isi_bb, ↓x_isi_bi, ↓x_isi_bs, ↓x_isi_bt, ↓x_isi_bl, ↓x_isi_bd, ↓x_isi_ib, ↓x_isi_ii, ↓x_isi_is, ↓x_isi_it, ↓x_isi_il, ↓x_isi_id, ↓x_isi_sb, ↓x_isi_si, ↓x_isi_ss, ↓x_isi_st, ↓x_isi_sl, ↓x_isi_sd, ↓x_isi_tb, ↓x_isi_ti, ↓x_isi_ts, ↓x_isi_tt, ↓x_isi_tl, ↓x_isi_td, ↓x_isi_lb, ↓x_isi_li, ↓x_isi_ls, ↓x_isi_lt, ↓x_isi_ll, ↓x_isi_ld, ↓x_isi_db, ↓x_isi_di, ↓x_isi_ds, ↓x_isi_dt, ↓x_isi_dl, ↓x_isi_dd, emp_flt, List.length_cons, List.length_nil, on_join, on_split, on_upper, on_count, on_rstrip, on_sindex, on_tindex, true_and, and_true, eq_self, Nat.reduceAdd, Nat.reduceLeDiff, Nat.zero_add, isI_n, isI_b, isI_i, isI_s, isI_t, isI_l, isI_d, isI_c, isI_r, isB_n, isB_b, isB_i, isB_s, isB_t, isB_l, isB_d, isB_c, isB_r, isS_n, isS_b, isS_i, isS_s, isS_t, isS_l, isS_d, isS_c, isS_r, isT_n, isT_b, isT_i, isT_s, isT_t, isT_l, isT_d, isT_c, isT_r, ↓x_con0, ↓x_con1, ↓x_con2, ↓x_con3, ↓x_con4, ↓x_con5, ↓x_con6, ↓x_con7, ↓WB_isI, ↓WB_isB, ↓WB_isS, ↓WB_isT, ↓SB_isI, ↓SB_isB, ↓SB_isS, ↓SB_isT]))) rfl (Nat.le_trans (zip_len _ _) h.len) rfl fun x hx => (by
          obtain ⟨s, m, s', m', rfl, hm, hm'⟩ := pair_shape hp hx
          simp only [wipeE, List.set_cons_zero, List.set_cons_succ, ↓x_a0, ↓x_as, ↓x_atup2, ↓x_atup3]
          refine ⟨Is.eq ?_, fun _ => Is.eq ?_⟩
          · unfold Is
            simp only [↓s_cons, ↓s_nil, ↓l_asg, ↓s_ret, ↓l_site, ↓s_exp, ↓s_pass, ↓w_non, ↓w_bl, ↓w_int, ↓w_str, ↓l_var, ↓l_con, ↓l_bin, ↓l_neg, ↓l_cmp, ↓l_chn, ↓w_isn, ↓w_notn, ↓w_and, ↓w_or, ↓l_not, ↓l_ite, ↓l_tup, ↓l_lst, ↓w_dct, ↓w_mutD, ↓mut_lst, ↓mut_dct, ↓l_idx, ↓l_slc, ↓nb_nul, ↓nb_int, ↓nb_var, ↓nb_con, ↓nb_bin, ↓nb_neg, ↓nb_idx, ↓nb_call, ↓nb_bi, ↓w_call, ↓l_bi, ↓l_bm, ↓l_isi, ↓w_evs, ↓w_evs0, ↓w_and0, ↓l_and1, ↓w_or0, ↓l_or1, ↓l_ssub, ↓s_whlD, ↓l_app, ↓WP_ok, ↓WS_nx, ↓WS_rt, ↓WP_bind, ↓WP_ofE, ↓WB_t, ↓WB_f, ↓WB_n, ↓WB_dec, ↓WB_all, ↓WB_any, ↓WB_lt, ↓WB_sub, ↓WB_emp, ↓WB_eqv, ↓WB_and, ↓WB_or, ↓SB_t, ↓SB_f, ↓SB_n, ↓SB_dec, ↓SB_all, ↓SB_any, ↓SB_lt, ↓SB_sub, ↓SB_emp, ↓SB_eqv, ↓SB_and, ↓SB_or, ↓EX_some, ↓EX_none, ↓EX_map, ↓EB_bl, ↓EI_int, ↓x_g0, ↓x_gs, ↓x_at0, ↓x_at1, ↓x_at2, ↓x_a0, ↓x_as, ↓x_atup2, ↓x_atup3, ↓x_mod_i, ↓x_bnd, ↓x_str_i, ↓x_str_b, ↓x_upper, ↓x_all, ↓x_any, ↓x_sum, ↓x_add_i, ↓x_sub_i, ↓x_mul_i, ↓x_div_i, ↓x_pow_i, ↓x_add_s, ↓x_add_t, ↓x_add_l, ↓x_mul_s, ↓x_mul_t, ↓x_mul_l, ↓x_lt_i, ↓x_le_i, ↓x_gt_i, ↓x_ge_i, ↓x_lt_s, ↓x_le_s, ↓x_eq_i, ↓x_ne_i, ↓x_eq_s, ↓x_ne_s, ↓x_eq_nil, ↓x_ne_nil, ↓x_in_s, ↓x_nin_s, ↓x_len_l, ↓x_len_t, ↓x_len_s, ↓x_tuple_l, ↓x_tuple_t, ↓x_list_t, ↓x_list_l, ↓x_list_s, ↓x_int_i, ↓x_int_b, ↓x_abs, ↓x_str_s, ↓x_slc_t, ↓x_slc_l, ↓x_slc_s, ↓x_idx_t, ↓x_idx_l, ↓x_isi_nb, ↓x_isi_ni, ↓x_isi_ns, ↓x_isi_nt, ↓x_isi_nl, ↓x_isi_nd, ↓x_isi_bb, ↓x_isi_bi, ↓x_isi_bs, ↓x_isi_bt, ↓x_isi_bl, ↓x_isi_bd, ↓x_isi_ib, ↓x_isi_ii, ↓x_isi_is, ↓x_isi_it, ↓x_isi_il, ↓x_isi_id, ↓x_isi_sb, ↓x_isi_si, ↓x_isi_ss, ↓x_isi_st, ↓x_isi_sl, ↓x_isi_sd, ↓x_isi_tb, ↓x_isi_ti, ↓x_isi_ts, ↓x_isi_tt, ↓x_isi_tl, ↓x_isi_td, ↓x_isi_lb, ↓x_isi_li, ↓x_isi_ls, ↓x_isi_lt, ↓x_isi_ll, ↓x_isi_ld, ↓x_isi_db, ↓x_isi_di, ↓x_isi_ds, ↓x_isi_dt, ↓x_isi_dl, ↓x_isi_dd, emp_flt, List.length_cons, List.length_nil, on_join, on_split, on_upper, on_count, on_rstrip, on_sindex, on_tindex, true_and, and_true, eq_self, Nat.reduceAdd, Nat.reduceLeDiff, Nat.zero_add, isI_n, isI_b, isI_i, isI_s, isI_t, isI_l, isI_d, isI_c, isI_r, isB_n, isB_b, isB_i, isB_s, isB_t, isB_l, isB_d, isB_c, isB_r, isS_n, isS_b, isS_i, isS_s, isS_t, isS_l, isS_d, isS_c, isS_r, isT_n, isT_b, isT_i, isT_s, isT_t, isT_l, isT_d, isT_c, isT_r, ↓x_con0, ↓x_con1, ↓x_con2, ↓x_con3, ↓x_con4, ↓x_con5, ↓x_con6, ↓x_con7, ↓WB_isI, ↓WB_isB, ↓WB_isS, ↓WB_isT, ↓SB_isI, ↓SB_isB, ↓SB_isS, ↓SB_isT, ↓EX_eq (eq_marks hm hm')]
            simp [neB]
          · unfold Is
            simp only [↓s_cons, ↓s_nil, ↓l_asg, ↓s_ret, ↓l_site, ↓s_exp, ↓s_pass, ↓w_non, ↓w_bl, ↓w_int, ↓w_str, ↓l_var, ↓l_con, ↓l_bin, ↓l_neg, ↓l_cmp, ↓l_chn, ↓w_isn, ↓w_notn, ↓w_and, ↓w_or, ↓l_not, ↓l_ite, ↓l_tup, ↓l_lst, ↓w_dct, ↓w_mutD, ↓mut_lst, ↓mut_dct, ↓l_idx, ↓l_slc, ↓nb_nul, ↓nb_int, ↓nb_var, ↓nb_con, ↓nb_bin, ↓nb_neg, ↓nb_idx, ↓nb_call, ↓nb_bi, ↓w_call, ↓l_bi, ↓l_bm, ↓l_isi, ↓w_evs, ↓w_evs0, ↓w_and0, ↓l_and1, ↓w_or0, ↓l_or1, ↓l_ssub, ↓s_whlD, ↓l_app, ↓WP_ok, ↓WS_nx, ↓WS_rt, ↓WP_bind, ↓WP_ofE, ↓WB_t, ↓WB_f, ↓WB_n, ↓WB_dec, ↓WB_all, ↓WB_any, ↓WB_lt, ↓WB_sub, ↓WB_emp, ↓WB_eqv, ↓WB_and, ↓WB_or, ↓SB_t, ↓SB_f, ↓SB_n, ↓SB_dec, ↓SB_all, ↓SB_any, ↓SB_lt, ↓SB_sub, ↓SB_emp, ↓SB_eqv, ↓SB_and, ↓SB_or, ↓EX_some, ↓EX_none, ↓EX_map, ↓EB_bl, ↓EI_int, ↓x_g0, ↓x_gs, ↓x_at0, ↓x_at1, ↓x_at2, ↓x_a0, ↓x_as, ↓x_atup2, ↓x_atup3, ↓x_mod_i, ↓x_bnd, ↓x_str_i, ↓x_str_b, ↓x_upper, ↓x_all, ↓x_any, ↓x_sum, ↓x_add_i, ↓x_sub_i, ↓x_mul_i, ↓x_div_i, ↓x_pow_i, ↓x_add_s, ↓x_add_t, ↓x_add_l, ↓x_mul_s, ↓x_mul_t, ↓x_mul_l, ↓x_lt_i, ↓x_le_i, ↓x_gt_i, ↓x_ge_i, ↓x_lt_s, ↓x_le_s, ↓x_eq_i, ↓x_ne_i, ↓x_eq_s, ↓x_ne_s, ↓x_eq_nil, ↓x_ne_nil, ↓x_in_s, ↓x_nin_s, ↓x_len_l, ↓x_len_t, ↓x_len_s, ↓x_tuple_l, ↓x_tuple_t, ↓x_list_t, ↓x_list_l, ↓x_list_s, ↓x_int_i, ↓x_int_b, ↓x_abs, ↓x_str_s, ↓x_slc_t, ↓x_slc_l, ↓x_slc_s, ↓x_idx_t, ↓x_idx_l, ↓x_isi_nb, ↓x_isi_ni, ↓x_isi_ns, ↓x_isi_nt, ↓x_isi_nl, ↓x_isi_nd, ↓x_isi_bb, ↓x_isi_bi, ↓x_isi_bs, ↓x_isi_bt, ↓x_isi_bl, ↓x_isi_bd, ↓x_isi_ib, ↓x_isi_ii, ↓x_isi_is, ↓x_isi_it, ↓x_isi_il, ↓x_isi_id, ↓x_isi_sb, ↓x_isi_si, ↓x_isi_ss, ↓x_isi_st, ↓x_isi_sl, ↓x_isi_sd, ↓x_isi_tb, ↓x_isi_ti, ↓x_isi_ts, ↓x_isi_tt, ↓x_isi_tl, ↓x_isi_td, ↓x_isi_lb, ↓x_isi_li, ↓x_isi_ls, ↓x_isi_lt, ↓x_isi_ll, ↓x_isi_ld, ↓x_isi_db, ↓x_isi_di, ↓x_isi_ds, ↓x_isi_dt, ↓x_isi_dl, ↓x_isi_dd, emp_flt, List.length_cons, List.length_nil, on_join, on_split, on_upper, on_count, on_rstrip, on_sindex, on_tindex, true_and, and_true, eq_self, Nat.reduceAdd, Nat.reduceLeDiff, Nat.zero_add, isI_n, isI_b, isI_i, isI_s, isI_t, isI_l, isI_d, isI_c, isI_r, isB_n, isB_b, isB_i, isB_s, isB_t, isB_l, isB_d, isB_c, isB_r, isS_n, isS_b, isS_i, isS_s, isS_t, isS_l, isS_d, isS_c, isS_r, isT_n, isT_b, isT_i, isT_s, isT_t, isT_l, isT_d, isT_c, isT_r, ↓x_con0, ↓x_con1, ↓x_con2, ↓x_con3, ↓x_con4, ↓x_con5, ↓x_con6, ↓x_con7, ↓WB_isI, ↓WB_isB, ↓WB_isS, ↓WB_isT, ↓SB_isI, ↓SB_isB, ↓SB_isS, ↓SB_isT])
      have k3 := fun w => wpk fun st => lc_M (Γ := txOf cons) (cf := cf (n + 3)) (own := [5]) (t := .nm 5) (k := .val) (its := [.var 0]) (e := .bi .len [.idx (.var 5) (.int 0)]) (env := [some (.tup xs), some (.int m), w, none, none, none]) (st := st) (ds := [.tup xs]) (xs := xs) (fun x => .int (txl x))
        (evs_i1 (Is.eq (by unfold Is; simp only [↓s_cons, ↓s_nil, ↓l_asg, ↓s_ret, ↓l_site, ↓s_exp, ↓s_pass, ↓w_non, ↓w_bl, ↓w_int, ↓w_str, ↓l_var, ↓l_con, ↓l_bin, ↓l_neg, ↓l_cmp, ↓l_chn, ↓w_isn, ↓w_notn, ↓w_and, ↓w_or, ↓l_not, ↓l_ite, ↓l_tup, ↓l_lst, ↓w_dct, ↓w_mutD, ↓mut_lst, ↓mut_dct, ↓l_idx, ↓l_slc, ↓nb_nul, ↓nb_int, ↓nb_var, ↓nb_con, ↓nb_bin, ↓nb_neg, ↓nb_idx, ↓nb_call, ↓nb_bi, ↓w_call, ↓l_bi, ↓l_bm, ↓l_isi, ↓w_evs, ↓w_evs0, ↓w_and0, ↓l_and1, ↓w_or0, ↓l_or1, ↓l_ssub, ↓s_whlD, ↓l_app, ↓WP_ok, ↓WS_nx, ↓WS_rt, ↓WP_bind, ↓WP_ofE, ↓WB_t, ↓WB_f, ↓WB_n, ↓WB_dec, ↓WB_all, ↓WB_any, ↓WB_lt, ↓WB_sub, ↓WB_emp, ↓WB_eqv, ↓WB_and, ↓WB_or, ↓SB_t, ↓SB_f, ↓SB_n, ↓SB_dec, ↓SB_all, ↓SB_any, ↓SB_lt, ↓SB_sub, ↓SB_emp, ↓SB_eqv, ↓SB_and, ↓SB_or, ↓EX_some, ↓EX_none, ↓EX_map, ↓EB_bl, ↓EI_int, ↓x_g0, ↓x_gs, ↓x_at0, ↓x_at1, ↓x_at2, ↓x_a0, ↓x_as, ↓x_atup2, ↓x_atup3, ↓x_mod_i, ↓x_bnd, ↓x_str_i, ↓x_str_b, ↓x_upper, ↓x_all, ↓x_any, ↓x_sum, ↓x_add_i, ↓x_sub_i, ↓x_mul_i, ↓x_div_i, ↓x_pow_i, ↓x_add_s, ↓x_add_t, ↓x_add_l, ↓x_mul_s, ↓x_mul_t, ↓x_mul_l, ↓x_lt_i, ↓x_le_i, ↓x_gt_i, ↓x_ge_i, ↓x_lt_s, ↓x_le_s, ↓x_eq_i, ↓x_ne_i, ↓x_eq_s, ↓x_ne_s, ↓x_eq_nil, ↓x_ne_nil, ↓x_in_s, ↓x_nin_s, ↓x_len_l, ↓x_len_t, ↓x_len_s, ↓x_tuple_l, ↓x_tuple_t, ↓x_list_t, ↓x_list_l, ↓x_list_s, ↓x_int_i, ↓x_int_b, ↓x_abs, ↓x_str_s, ↓x_slc_t, ↓x_slc_l, ↓x_slc_s, ↓x_idx_t, ↓x_idx_l, ↓x_isi_nb, ↓x_isi_ni, ↓x_isi_ns, ↓x_isi_nt, ↓x_isi_nl, ↓x_isi_nd, ↓x_isi_bb, ↓x_isi_bi, ↓x_isi_bs, ↓x_isi_bt, ↓x_isi_bl, ↓x_isi_bd, ↓x_isi_ib, ↓x_isi_ii, ↓x_isi_is, ↓x_isi_it, ↓x_isi_il, ↓x_isi_id, ↓x_isi_sb, ↓x_isi_si, ↓x_isi_ss, ↓x_isi_st, ↓x_isi_sl, ↓x_isi_sd, ↓x_isi_tb, ↓x_isi_ti, ↓x_isi_ts, ↓x_isi_tt, ↓x_isi_tl, ↓x_isi_td, ↓x_isi_lb, ↓x_isi_li, ↓x_isi_ls, ↓x_isi_lt, ↓x_isi_ll, ↓x_isi_ld, ↓x_isi_db, ↓x_isi_di, ↓x_isi_ds, ↓x_isi_dt, ↓x_isi_dl, ↓x_isi_dd, emp_flt, List.length_cons, List.length_nil, on_join, on_split, on_upper, on_count, on_rstrip, on_sindex, on_tindex, true_and, and_true, eq_self, Nat.reduceAdd, Nat.reduceLeDiff, Nat.zero_add, isI_n, isI_b, isI_i, isI_s, isI_t, isI_l, isI_d, isI_c, isI_r, isB_n, isB_b, isB_i, isB_s, isB_t, isB_l, isB_d, isB_c, isB_r, isS_n, isS_b, isS_i, isS_s, isS_t, isS_l, isS_d, isS_c, isS_r, isT_n, isT_b, isT_i, isT_s, isT_t, isT_l, isT_d, isT_c, isT_r, ↓x_con0, ↓x_con1, ↓x_con2, ↓x_con3, ↓x_con4, ↓x_con5, ↓x_con6, ↓x_con7, ↓WB_isI, ↓WB_isB, ↓WB_isS, ↓WB_isT, ↓SB_isI, ↓SB_isB, ↓SB_isS, ↓SB_isT]))) rfl h.len fun x hx => (by
          obtain ⟨s, m, rfl, hm⟩ := piece_shape (List.all_eq_true.mp hp x hx)
          simp only [wipeE, List.set_cons_zero, List.set_cons_succ, ↓x_a0, ↓x_as, ↓x_atup2, ↓x_atup3]
          refine Is.eq ?_
          unfold Is
          simp only [↓s_cons, ↓s_nil, ↓l_asg, ↓s_ret, ↓l_site, ↓s_exp, ↓s_pass, ↓w_non, ↓w_bl, ↓w_int, ↓w_str, ↓l_var, ↓l_con, ↓l_bin, ↓l_neg, ↓l_cmp, ↓l_chn, ↓w_isn, ↓w_notn, ↓w_and, ↓w_or, ↓l_not, ↓l_ite, ↓l_tup, ↓l_lst, ↓w_dct, ↓w_mutD, ↓mut_lst, ↓mut_dct, ↓l_idx, ↓l_slc, ↓nb_nul, ↓nb_int, ↓nb_var, ↓nb_con, ↓nb_bin, ↓nb_neg, ↓nb_idx, ↓nb_call, ↓nb_bi, ↓w_call, ↓l_bi, ↓l_bm, ↓l_isi, ↓w_evs, ↓w_evs0, ↓w_and0, ↓l_and1, ↓w_or0, ↓l_or1, ↓l_ssub, ↓s_whlD, ↓l_app, ↓WP_ok, ↓WS_nx, ↓WS_rt, ↓WP_bind, ↓WP_ofE, ↓WB_t, ↓WB_f, ↓WB_n, ↓WB_dec, ↓WB_all, ↓WB_any, ↓WB_lt, ↓WB_sub, ↓WB_emp, ↓WB_eqv, ↓WB_and, ↓WB_or, ↓SB_t, ↓SB_f, ↓SB_n, ↓SB_dec, ↓SB_all, ↓SB_any, ↓SB_lt, ↓SB_sub, ↓SB_emp, ↓SB_eqv, ↓SB_and, ↓SB_or, ↓EX_some, ↓EX_none, ↓EX_map, ↓EB_bl, ↓EI_int, ↓x_g0, ↓x_gs, ↓x_at0, ↓x_at1, ↓x_at2, ↓x_a0, ↓x_as, ↓x_atup2, ↓x_atup3, ↓x_mod_i, ↓x_bnd, ↓x_str_i, ↓x_str_b, ↓x_upper, ↓x_all, ↓x_any, ↓x_sum, ↓x_add_i, ↓x_sub_i, ↓x_mul_i, ↓x_div_i, ↓x_pow_i, ↓x_add_s, ↓x_add_t, ↓x_add_l, ↓x_mul_s, ↓x_mul_t, ↓x_mul_l, ↓x_lt_i, ↓x_le_i, ↓x_gt_i, ↓x_ge_i, ↓x_lt_s, ↓x_le_s, ↓x_eq_i, ↓x_ne_i, ↓x_eq_s, ↓x_ne_s, ↓x_eq_nil, ↓x_ne_nil, ↓x_in_s, ↓x_nin_s, ↓x_len_l, ↓x_len_t, ↓x_len_s, ↓x_tuple_l, ↓x_tuple_t, ↓x_list_t, ↓x_list_l, ↓x_list_s, ↓x_int_i, ↓x_int_b, ↓x_abs, ↓x_str_s, ↓x_slc_t, ↓x_slc_l, ↓x_slc_s, ↓x_idx_t, ↓x_idx_l, ↓x_isi_nb, ↓x_isi_ni, ↓x_isi_ns, ↓x_isi_nt, ↓x_isi_nl, ↓x_isi_nd, ↓x_isi_bb, ↓x_isi_bi, ↓x_isi_bs, ↓x_isi_bt, ↓x_isi_bl, ↓x_isi_bd, ↓x_isi_ib, ↓x_isi_ii, ↓x_isi_is, ↓x_isi_it, ↓x_isi_il, ↓x_isi_id, ↓x_isi_sb, ↓x_isi_si, ↓x_isi_ss, ↓x_isi_st, ↓x_isi_sl, ↓x_isi_sd, ↓x_isi_tb, ↓x_isi_ti, ↓x_isi_ts, ↓x_isi_tt, ↓x_isi_tl, ↓x_isi_td, ↓x_isi_lb, ↓x_isi_li, ↓x_isi_ls, ↓x_isi_lt, ↓x_isi_ll, ↓x_isi_ld, ↓x_isi_db, ↓x_isi_di, ↓x_isi_ds, ↓x_isi_dt, ↓x_isi_dl, ↓x_isi_dd, emp_flt, List.length_cons, List.length_nil, on_join, on_split, on_upper, on_count, on_rstrip, on_sindex, on_tindex, true_and, and_true, eq_self, Nat.reduceAdd, Nat.reduceLeDiff, Nat.zero_add, isI_n, isI_b, isI_i, isI_s, isI_t, isI_l, isI_d, isI_c, isI_r, isB_n, isB_b, isB_i, isB_s, isB_t, isB_l, isB_d, isB_c, isB_r, isS_n, isS_b, isS_i, isS_s, isS_t, isS_l, isS_d, isS_c, isS_r, isT_n, isT_b, isT_i, isT_s, isT_t, isT_l, isT_d, isT_c, isT_r, ↓x_con0, ↓x_con1, ↓x_con2, ↓x_con3, ↓x_con4, ↓x_con5, ↓x_con6, ↓x_con7, ↓WB_isI, ↓WB_isB, ↓WB_isS, ↓WB_isT, ↓SB_isI, ↓SB_isB, ↓SB_isS, ↓SB_isT]
          rfl)
      simp only [↓s_cons, ↓s_nil, ↓l_asg, ↓s_ret, ↓l_site, ↓s_exp, ↓s_pass, ↓w_non, ↓w_bl, ↓w_int, ↓w_str, ↓l_var, ↓l_con, ↓l_bin, ↓l_neg, ↓l_cmp, ↓l_chn, ↓w_isn, ↓w_notn, ↓w_and, ↓w_or, ↓l_not, ↓l_ite, ↓l_tup, ↓l_lst, ↓w_dct, ↓w_mutD, ↓mut_lst, ↓mut_dct, ↓l_idx, ↓l_slc, ↓nb_nul, ↓nb_int, ↓nb_var, ↓nb_con, ↓nb_bin, ↓nb_neg, ↓nb_idx, ↓nb_call, ↓nb_bi, ↓w_call, ↓l_bi, ↓l_bm, ↓l_isi, ↓w_evs, ↓w_evs0, ↓w_and0, ↓l_and1, ↓w_or0, ↓l_or1, ↓l_ssub, ↓s_whlD, ↓l_app, ↓WP_ok, ↓WS_nx, ↓WS_rt, ↓WP_bind, ↓WP_ofE, ↓WB_t, ↓WB_f, ↓WB_n, ↓WB_dec, ↓WB_all, ↓WB_any, ↓WB_lt, ↓WB_sub, ↓WB_emp, ↓WB_eqv, ↓WB_and, ↓WB_or, ↓SB_t, ↓SB_f, ↓SB_n, ↓SB_dec, ↓SB_all, ↓SB_any, ↓SB_lt, ↓SB_sub, ↓SB_emp, ↓SB_eqv, ↓SB_and, ↓SB_or, ↓EX_some, ↓EX_none, ↓EX_map, ↓EB_bl, ↓EI_int, ↓x_g0, ↓x_gs, ↓x_at0, ↓x_at1, ↓x_at2, ↓x_a0, ↓x_as, ↓x_atup2, ↓x_atup3, ↓x_mod_i, ↓x_bnd, ↓x_str_i, ↓x_str_b, ↓x_upper, ↓x_all, ↓x_any, ↓x_sum, ↓x_add_i, ↓x_sub_i, ↓x_mul_i, ↓x_div_i, ↓x_pow_i, ↓x_add_s, ↓x_add_t, ↓x_add_l, ↓x_mul_s, ↓x_mul_t, ↓x_mul_l, ↓x_lt_i, ↓x_le_i, ↓x_gt_i, ↓x_ge_i, ↓x_lt_s, ↓x_le_s, ↓x_eq_i, ↓x_ne_i, ↓x_eq_s, ↓x_ne_s, ↓x_eq_nil, ↓x_ne_nil, ↓x_in_s, ↓x_nin_s, ↓x_len_l, ↓x_len_t, ↓x_len_s, ↓x_tuple_l, ↓x_tuple_t, ↓x_list_t, ↓x_list_l, ↓x_list_s, ↓x_int_i, ↓x_int_b, ↓x_abs, ↓x_str_s, ↓x_slc_t, ↓x_slc_l, ↓x_slc_s, ↓x_idx_t, ↓x_idx_l, ↓x_isi_nb, ↓x_isi_ni, ↓x_isi_ns, ↓x_isi_nt, ↓x_isi_nl, ↓x_isi_nd, ↓x_isi_bb, ↓x_isi_bi, ↓x_isi_bs, ↓x_isi_bt, ↓x_isi_bl, ↓x_isi_bd, ↓x_isi_ib, ↓x_isi_ii, ↓x_isi_is, ↓x_isi_it, ↓x_isi_il, ↓x_isi_id, ↓x_isi_sb, ↓x_isi_si, ↓x_isi_ss, ↓x_isi_st, ↓x_isi_sl, ↓x_isi_sd, ↓x_isi_tb, ↓x_isi_ti, ↓x_isi_ts, ↓x_isi_tt, ↓x_isi_tl, ↓x_isi_td, ↓x_isi_lb, ↓x_isi_li, ↓x_isi_ls, ↓x_isi_lt, ↓x_isi_ll, ↓x_isi_ld, ↓x_isi_db, ↓x_isi_di, ↓x_isi_ds, ↓x_isi_dt, ↓x_isi_dl, ↓x_isi_dd, emp_flt, List.length_cons, List.length_nil, on_join, on_split, on_upper, on_count, on_rstrip, on_sindex, on_tindex, true_and, and_true, eq_self, Nat.reduceAdd, Nat.reduceLeDiff, Nat.zero_add, isI_n, isI_b, isI_i, isI_s, isI_t, isI_l, isI_d, isI_c, isI_r, isB_n, isB_b, isB_i, isB_s, isB_t, isB_l, isB_d, isB_c, isB_r, isS_n, isS_b, isS_i, isS_s, isS_t, isS_l, isS_d, isS_c, isS_r, isT_n, isT_b, isT_i, isT_s, isT_t, isT_l, isT_d, isT_c, isT_r, ↓x_con0, ↓x_con1, ↓x_con2, ↓x_con3, ↓x_con4, ↓x_con5, ↓x_con6, ↓x_con7, ↓WB_isI, ↓WB_isB, ↓WB_isS, ↓WB_isT, ↓SB_isI, ↓SB_isB, ↓SB_isS, ↓SB_isT, ↓k1, ↓k2, ↓k3, hp]
      simp only [cellB, hp, szB, adjB, Bool.true_and]
      cases (zipL xs (cutL xs (some 1) none)).all neB <;> by_cases hz : (xs.map txl).sum ≤ m <;> simp [hz]
  | scr _ => cases h.1
  | ref _ => cases h.1
  | _ => simp only [↓s_cons, ↓s_nil, ↓l_asg, ↓s_ret, ↓l_site, ↓s_exp, ↓s_pass, ↓w_non, ↓w_bl, ↓w_int, ↓w_str, ↓l_var, ↓l_con, ↓l_bin, ↓l_neg, ↓l_cmp, ↓l_chn, ↓w_isn, ↓w_notn, ↓w_and, ↓w_or, ↓l_not, ↓l_ite, ↓l_tup, ↓l_lst, ↓w_dct, ↓w_mutD, ↓mut_lst, ↓mut_dct, ↓l_idx, ↓l_slc, ↓nb_nul, ↓nb_int, ↓nb_var, ↓nb_con, ↓nb_bin, ↓nb_neg, ↓nb_idx, ↓nb_call, ↓nb_bi, ↓w_call, ↓l_bi, ↓l_bm, ↓l_isi, ↓w_evs, ↓w_evs0, ↓w_and0, ↓l_and1, ↓w_or0, ↓l_or1, ↓l_ssub, ↓s_whlD, ↓l_app, ↓WP_ok, ↓WS_nx, ↓WS_rt, ↓WP_bind, ↓WP_ofE, ↓WB_t, ↓WB_f, ↓WB_n, ↓WB_dec, ↓WB_all, ↓WB_any, ↓WB_lt, ↓WB_sub, ↓WB_emp, ↓WB_eqv, ↓WB_and, ↓WB_or, ↓SB_t, ↓SB_f, ↓SB_n, ↓SB_dec, ↓SB_all, ↓SB_any, ↓SB_lt, ↓SB_sub, ↓SB_emp, ↓SB_eqv, ↓SB_and, ↓SB_or, ↓EX_some, ↓EX_none, ↓EX_map, ↓EB_bl, ↓EI_int, ↓x_g0, ↓x_gs, ↓x_at0, ↓x_at1, ↓x_at2, ↓x_a0, ↓x_as, ↓x_atup2, ↓x_atup3, ↓x_mod_i, ↓x_bnd, ↓x_str_i, ↓x_str_b, ↓x_upper, ↓x_all, ↓x_any, ↓x_sum, ↓x_add_i, ↓x_sub_i, ↓x_mul_i, ↓x_div_i, ↓x_pow_i, ↓x_add_s, ↓x_add_t, ↓x_add_l, ↓x_mul_s, ↓x_mul_t, ↓x_mul_l, ↓x_lt_i, ↓x_le_i, ↓x_gt_i, ↓x_ge_i, ↓x_lt_s, ↓x_le_s, ↓x_eq_i, ↓x_ne_i, ↓x_eq_s, ↓x_ne_s, ↓x_eq_nil, ↓x_ne_nil, ↓x_in_s, ↓x_nin_s, ↓x_len_l, ↓x_len_t, ↓x_len_s, ↓x_tuple_l, ↓x_tuple_t, ↓x_list_t, ↓x_list_l, ↓x_list_s, ↓x_int_i, ↓x_int_b, ↓x_abs, ↓x_str_s, ↓x_slc_t, ↓x_slc_l, ↓x_slc_s, ↓x_idx_t, ↓x_idx_l, ↓x_isi_nb, ↓x_isi_ni, ↓x_isi_ns, ↓x_isi_nt, ↓x_isi_nl, ↓x_isi_nd, ↓x_isi_bb, ↓x_isi_bi, ↓x_isi_bs, ↓x_isi_bt, ↓x_isi_bl, ↓x_isi_bd, ↓x_isi_ib, ↓x_isi_ii, ↓x_isi_is, ↓x_isi_it, ↓x_isi_il, ↓x_isi_id, ↓x_isi_sb, ↓x_isi_si, ↓x_isi_ss, ↓x_isi_st, ↓x_isi_sl, ↓x_isi_sd, ↓x_isi_tb, ↓x_isi_ti, ↓x_isi_ts, ↓x_isi_tt, ↓x_isi_tl, ↓x_isi_td, ↓x_isi_lb, ↓x_isi_li, ↓x_isi_ls, ↓x_isi_lt, ↓x_isi_ll, ↓x_isi_ld, ↓x_isi_db, ↓x_isi_di, ↓x_isi_ds, ↓x_isi_dt, ↓x_isi_dl, ↓x_isi_dd, emp_flt, List.length_cons, List.length_nil, on_join, on_split, on_upper, on_count, on_rstrip, on_sindex, on_tindex, true_and, and_true, eq_self, Nat.reduceAdd, Nat.reduceLeDiff, Nat.zero_add, isI_n, isI_b, isI_i, isI_s, isI_t, isI_l, isI_d, isI_c, isI_r, isB_n, isB_b, isB_i, isB_s, isB_t, isB_l, isB_d, isB_c, isB_r, isS_n, isS_b, isS_i, isS_s, isS_t, isS_l, isS_d, isS_c, isS_r, isT_n, isT_b, isT_i, isT_s, isT_t, isT_l, isT_d, isT_c, isT_r, ↓x_con0, ↓x_con1, ↓x_con2, ↓x_con3, ↓x_con4, ↓x_con5, ↓x_con6, ↓x_con7, ↓WB_isI, ↓WB_isB, ↓WB_isS, ↓WB_isT, ↓SB_isI, ↓SB_isB, ↓SB_isS, ↓SB_isT]; simp [cellB]; done
end Law
end Cip

set_option maxHeartbeats 4000000
namespace Cip
open PySem
local macro_rules | `(tactic| walk_at "cip") => `(tactic| simp only [s_cons, s_nil, s_asg, s_ret, s_ite, s_exp, s_pass, w_non, w_bl, w_int, w_str, w_var, w_con, w_bin, w_neg, w_cmp, w_isn, w_notn, w_and, w_or, w_not, w_ite, w_tup, w_lst, w_idx, w_call, s_ssubD, s_forD, s_whlD, w_mutD, w_appD, mut_lst, asg_tup2, asg_tup3, int_i, len_l, len_t, len_s, idx_l, idx_t, tuple_l, w_bi, w_isi, w_evs, w_evs0, w_and0, w_and1, w_or0, w_or1, asg_nm, ex_some, ex_var, ex_int, ex_bl, startE, List.length_cons, List.length_nil, List.map_cons, List.map_nil, List.getElem?_cons_zero, List.getElem?_cons_succ, List.set_cons_zero, List.set_cons_succ, List.cons_append, List.nil_append, List.replicate, ex_ite, b_add_i, b_sub_i, b_mul_i, b_mod_i, b_div_i, b_pow_i, b_add_s, b_add_t, b_add_l, b_mul_s, b_mul_t, b_mul_l, c_lt_i, c_le_i, c_gt_i, c_ge_i, c_lt_s, c_le_s, c_eq_i, c_ne_i, c_eq_s, c_ne_s, WP_ok, WS_nx, WS_rt, true_and, and_true])
local macro_rules | `(tactic| walk_at "cip2") => `(tactic| simp only [s_cons, s_nil, s_asg, s_ret, s_ite, s_exp, s_pass, w_non, w_bl, w_int, w_str, w_var, w_con, w_bin, w_neg, w_cmp, w_isn, w_notn, w_and, w_or, w_not, w_ite, w_tup, w_lst, w_idx, w_call, s_ssubD, s_forD, s_whlD, w_mutD, w_appD, mut_lst, asg_tup2, asg_tup3, int_i, len_l, len_t, len_s, idx_l, idx_t, tuple_l, w_bi, w_isi, w_evs, w_evs0, w_and0, w_and1, w_or0, w_or1, asg_nm, ex_some, ex_var, ex_int, ex_bl, startE, List.length_cons, List.length_nil, List.map_cons, List.map_nil, List.getElem?_cons_zero, List.getElem?_cons_succ, List.set_cons_zero, List.set_cons_succ, List.cons_append, List.nil_append, List.replicate, ex_ite, b_add_i, b_sub_i, b_mul_i, b_mod_i, b_div_i, b_pow_i, b_add_s, b_add_t, b_add_l, b_mul_s, b_mul_t, b_mul_l, c_lt_i, c_le_i, c_gt_i, c_ge_i, c_lt_s, c_le_s, c_eq_i, c_ne_i, c_eq_s, c_ne_s, WP_ok, WS_nx, WS_rt, true_and, and_true, w_slc, E.nulB, eq_self, if_true, if_false, Bool.false_eq_true, WP_bind, WP_of, bnd_int, Bool.not_true, Bool.not_false])
local macro_rules | `(tactic| walk_at "cip3") => `(tactic| simp only [s_cons, s_nil, s_asg, s_ret, s_ite, s_exp, s_pass, w_non, w_bl, w_int, w_str, w_var, w_con, w_bin, w_neg, w_cmp, w_isn, w_notn, w_and, w_or, w_not, w_ite, w_tup, w_lst, w_idx, w_call, s_ssubD, s_forD, s_whlD, w_mutD, w_appD, mut_lst, asg_tup2, asg_tup3, int_i, len_l, len_t, len_s, idx_l, idx_t, tuple_l, w_bi, w_isi, w_evs, w_evs0, w_and0, w_and1, w_or0, w_or1, asg_nm, ex_some, ex_var, ex_int, ex_bl, startE, List.length_cons, List.length_nil, List.map_cons, List.map_nil, List.getElem?_cons_zero, List.getElem?_cons_succ, List.set_cons_zero, List.set_cons_succ, List.cons_append, List.nil_append, List.replicate, ex_ite, b_add_i, b_sub_i, b_mul_i, b_mod_i, b_div_i, b_pow_i, b_add_s, b_add_t, b_add_l, b_mul_s, b_mul_t, b_mul_l, c_lt_i, c_le_i, c_gt_i, c_ge_i, c_lt_s, c_le_s, c_eq_i, c_ne_i, c_eq_s, c_ne_s, WP_ok, WS_nx, WS_rt, true_and, and_true, w_slc, E.nulB, eq_self, if_true, if_false, Bool.false_eq_true, WP_bind, WP_of, bnd_int, Bool.not_true, Bool.not_false, w_chn])
local macro_rules | `(tactic| walk_at "z0") => `(tactic| simp only [startE, List.map_cons, List.map_nil, List.length_cons, List.length_nil, Nat.reduceAdd, Nat.reduceSub, List.replicate, List.cons_append, List.nil_append])
local macro_rules | `(tactic| walk_at "zx") => `(tactic| simp only [wipeE, List.set_cons_zero, List.set_cons_succ, ↓x_a0, ↓x_as, ↓x_atup2, ↓x_atup3])
namespace Law
/-! M10b: lines and contents, both checks. -/
theorem cell_shape {x : D} (h : cellB x = true) : ∃ xs, x = .tup xs ∧ xs.all pieceB = true := by
  cases x with
  | tup xs =>
    have h : (xs.all pieceB && adjB xs) = true := h
    rw [Bool.and_eq_true] at h
    exact ⟨xs, rfl, h.1⟩
  | _ => cases h
def capOf (cs : List D) : Int := if decide ((cs.length : Int) = 1) = true then 491 else 40
def lineB (d : D) : Bool := match d with
  | .tup [.int i, .tup cs] => decide (0 ≤ i) && decide (i ≤ 6) && (decide (0 < (cs.length : Int)) && decide ((cs.length : Int) ≤ 12)) && (cs.all cellB && cs.all (szB (capOf cs)))
  | _ => false

theorem all_and {α : Type} (f g : α → Bool) : ∀ xs : List α, (xs.all fun x => f x && g x) = (xs.all f && xs.all g)
  | [] => rfl
  | x :: xs => by
    simp only [List.all_cons, all_and f g xs]
    cases f x <;> cases g x <;> simp
theorem line_no {xs : List D} (h : ¬ xs.length = 2) : lineB (.tup xs) = false := by
  match xs, h with
  | [], _ => rfl
  | [a], _ => simp [lineB]
  | a :: b :: c :: xs, _ => simp [lineB]
theorem run_line {n : Nat} {d : D} {st : Store} (h : Sm d) : cf (n + 5) 7 [d] st = .ok (.bl (lineB d)) st := by
  refine ok_of (call_same (ft := f7) rfl rfl ?_)
  unfold f7
  walk_at "z0"
  cases d with
  | tup xs =>
    by_cases hl : xs.length = 2
    · obtain ⟨a, b, rfl⟩ : ∃ a b, xs = [a, b] := by
        match xs, hl with
        | [a, b], _ => exact ⟨a, b, rfl⟩
      have ha : Sm a := h.mem (by simp)
      have hb : Sm b := h.mem (by simp)
      have e2 : decide ((([a, b].length : Nat) : Int) = 2) = true := by simp
      have c0 := wpc fun st => run_int (n := n + 3) (st := st) ha.1
      cases a with
      | int i => cases b with
        | tup cs =>
          have k1 := wpk fun st => lc_M (Γ := txOf cons) (cf := cf (n + 4)) (own := [3]) (t := .nm 3) (k := .val) (its := [.var 2]) (e := .call 5 [.var 3]) (env := [some (.tup [.int i, .tup cs]), some (.int i), some (.tup cs), none]) (st := st) (ds := [.tup cs]) (xs := cs) (fun x => .bl (cellB x))
            (evs_i1 (Is.eq (by unfold Is; simp only [↓s_cons, ↓s_nil, ↓l_asg, ↓s_ret, ↓l_site, ↓s_exp, ↓s_pass, ↓w_non, ↓w_bl, ↓w_int, ↓w_str, ↓l_var, ↓l_con, ↓l_bin, ↓l_neg, ↓l_cmp, ↓l_chn, ↓w_isn, ↓w_notn, ↓w_and, ↓w_or, ↓l_not, ↓l_ite, ↓l_tup, ↓l_lst, ↓w_dct, ↓w_mutD, ↓mut_lst, ↓mut_dct, ↓l_idx, ↓l_slc, ↓nb_nul, ↓nb_int, ↓nb_var, ↓nb_con, ↓nb_bin, ↓nb_neg, ↓nb_idx, ↓nb_call, ↓nb_bi, ↓w_call, ↓l_bi, ↓l_bm, ↓l_isi, ↓w_evs, ↓w_evs0, ↓w_and0, ↓l_and1, ↓w_or0, ↓l_or1, ↓l_ssub, ↓s_whlD, ↓l_app, ↓WP_ok, ↓WS_nx, ↓WS_rt, ↓WP_bind, ↓WP_ofE, ↓WB_t, ↓WB_f, ↓WB_n, ↓WB_dec, ↓WB_all, ↓WB_any, ↓WB_lt, ↓WB_sub, ↓WB_emp, ↓WB_eqv, ↓WB_and, ↓WB_or, ↓SB_t, ↓SB_f, ↓SB_n, ↓SB_dec, ↓SB_all, ↓SB_any, ↓SB_lt, ↓SB_sub, ↓SB_emp, ↓SB_eqv, ↓SB_and, ↓SB_or, ↓EX_some, ↓EX_none, ↓EX_map, ↓EB_bl, ↓EI_int, ↓x_g0, ↓x_gs, ↓x_at0, ↓x_at1, ↓x_at2, ↓x_a0, ↓x_as, ↓x_atup2, ↓x_atup3, ↓x_mod_i, ↓x_bnd, ↓x_str_i, ↓x_str_b, ↓x_upper, ↓x_all, ↓x_any, ↓x_sum, ↓x_add_i, ↓x_sub_i, ↓x_mul_i, ↓x_div_i, ↓x_pow_i, ↓x_add_s, ↓x_add_t, ↓x_add_l, ↓x_mul_s, ↓x_mul_t, ↓x_mul_l, ↓x_lt_i, ↓x_le_i, ↓x_gt_i, ↓x_ge_i, ↓x_lt_s, ↓x_le_s, ↓x_eq_i, ↓x_ne_i, ↓x_eq_s, ↓x_ne_s, ↓x_eq_nil, ↓x_ne_nil, ↓x_in_s, ↓x_nin_s, ↓x_len_l, ↓x_len_t, ↓x_len_s, ↓x_tuple_l, ↓x_tuple_t, ↓x_list_t, ↓x_list_l, ↓x_list_s, ↓x_int_i, ↓x_int_b, ↓x_abs, ↓x_str_s, ↓x_slc_t, ↓x_slc_l, ↓x_slc_s, ↓x_idx_t, ↓x_idx_l, ↓x_isi_nb, ↓x_isi_ni, ↓x_isi_ns, ↓x_isi_nt, ↓x_isi_nl, ↓x_isi_nd, ↓x_isi_bb, ↓x_isi_bi, ↓x_isi_bs, ↓x_isi_bt, ↓x_isi_bl, ↓x_isi_bd, ↓x_isi_ib, ↓x_isi_ii, ↓x_isi_is, ↓x_isi_it, ↓x_isi_il, ↓x_isi_id, ↓x_isi_sb, ↓x_isi_si, ↓x_isi_ss, ↓x_isi_st, ↓x_isi_sl, ↓x_isi_sd, ↓x_isi_tb, ↓x_isi_ti, ↓x_isi_ts, ↓x_isi_tt, ↓x_isi_tl, ↓x_isi_td, ↓x_isi_lb, ↓x_isi_li, ↓x_isi_ls, ↓x_isi_lt, ↓x_isi_ll, ↓x_isi_ld, ↓x_isi_db, ↓x_isi_di, ↓x_isi_ds, ↓x_isi_dt, ↓x_isi_dl, ↓x_isi_dd, emp_flt, List.length_cons, List.length_nil, on_join, on_split, on_upper, on_count, on_rstrip, on_sindex, on_tindex, true_and, and_true, eq_self, Nat.reduceAdd, Nat.reduceLeDiff, Nat.zero_add, isI_n, isI_b, isI_i, isI_s, isI_t, isI_l, isI_d, isI_c, isI_r, isB_n, isB_b, isB_i, isB_s, isB_t, isB_l, isB_d, isB_c, isB_r, isS_n, isS_b, isS_i, isS_s, isS_t, isS_l, isS_d, isS_c, isS_r, isT_n, isT_b, isT_i, isT_s, isT_t, isT_l, isT_d, isT_c, isT_r, ↓x_con0, ↓x_con1, ↓x_con2, ↓x_con3, ↓x_con4, ↓x_con5, ↓x_con6, ↓x_con7, ↓WB_isI, ↓WB_isB, ↓WB_isS, ↓WB_isT, ↓SB_isI, ↓SB_isB, ↓SB_isS, ↓SB_isT]))) rfl hb.len fun x hx => (by
              simp only [wipeE, List.set_cons_zero, List.set_cons_succ, ↓x_a0, ↓x_as, ↓x_atup2, ↓x_atup3]
              refine Is.eq ?_
              unfold Is
              simp only [↓s_cons, ↓s_nil, ↓l_asg, ↓s_ret, ↓l_site, ↓s_exp, ↓s_pass, ↓w_non, ↓w_bl, ↓w_int, ↓w_str, ↓l_var, ↓l_con, ↓l_bin, ↓l_neg, ↓l_cmp, ↓l_chn, ↓w_isn, ↓w_notn, ↓w_and, ↓w_or, ↓l_not, ↓l_ite, ↓l_tup, ↓l_lst, ↓w_dct, ↓w_mutD, ↓mut_lst, ↓mut_dct, ↓l_idx, ↓l_slc, ↓nb_nul, ↓nb_int, ↓nb_var, ↓nb_con, ↓nb_bin, ↓nb_neg, ↓nb_idx, ↓nb_call, ↓nb_bi, ↓w_call, ↓l_bi, ↓l_bm, ↓l_isi, ↓w_evs, ↓w_evs0, ↓w_and0, ↓l_and1, ↓w_or0, ↓l_or1, ↓l_ssub, ↓s_whlD, ↓l_app, ↓WP_ok, ↓WS_nx, ↓WS_rt, ↓WP_bind, ↓WP_ofE, ↓WB_t, ↓WB_f, ↓WB_n, ↓WB_dec, ↓WB_all, ↓WB_any, ↓WB_lt, ↓WB_sub, ↓WB_emp, ↓WB_eqv, ↓WB_and, ↓WB_or, ↓SB_t, ↓SB_f, ↓SB_n, ↓SB_dec, ↓SB_all, ↓SB_any, ↓SB_lt, ↓SB_sub, ↓SB_emp, ↓SB_eqv, ↓SB_and, ↓SB_or, ↓EX_some, ↓EX_none, ↓EX_map, ↓EB_bl, ↓EI_int, ↓x_g0, ↓x_gs, ↓x_at0, ↓x_at1, ↓x_at2, ↓x_a0, ↓x_as, ↓x_atup2, ↓x_atup3, ↓x_mod_i, ↓x_bnd, ↓x_str_i, ↓x_str_b, ↓x_upper, ↓x_all, ↓x_any, ↓x_sum, ↓x_add_i, ↓x_sub_i, ↓x_mul_i, ↓x_div_i, ↓x_pow_i, ↓x_add_s, ↓x_add_t, ↓x_add_l, ↓x_mul_s, ↓x_mul_t, ↓x_mul_l, ↓x_lt_i, ↓x_le_i, ↓x_gt_i, ↓x_ge_i, ↓x_lt_s, ↓x_le_s, ↓x_eq_i, ↓x_ne_i, ↓x_eq_s, ↓x_ne_s, ↓x_eq_nil, ↓x_ne_nil, ↓x_in_s, ↓x_nin_s, ↓x_len_l, ↓x_len_t, ↓x_len_s, ↓x_tuple_l, ↓x_tuple_t, ↓x_list_t, ↓x_list_l, ↓x_list_s, ↓x_int_i, ↓x_int_b, ↓x_abs, ↓x_str_s, ↓x_slc_t, ↓x_slc_l, ↓x_slc_s, ↓x_idx_t, ↓x_idx_l, ↓x_isi_nb, ↓x_isi_ni, ↓x_isi_ns, ↓x_isi_nt, ↓x_isi_nl, ↓x_isi_nd, ↓x_isi_bb, ↓x_isi_bi, ↓x_isi_bs, ↓x_isi_bt, ↓x_isi_bl, ↓x_isi_bd, ↓x_isi_ib, ↓x_isi_ii, ↓x_isi_is, ↓x_isi_it, ↓x_isi_il, ↓x_isi_id, ↓x_isi_sb, ↓x_isi_si, ↓x_isi_ss, ↓x_isi_st, ↓x_isi_sl, ↓x_isi_sd, ↓x_isi_tb, ↓x_isi_ti, ↓x_isi_ts, ↓x_isi_tt, ↓x_isi_tl, ↓x_isi_td, ↓x_isi_lb, ↓x_isi_li, ↓x_isi_ls, ↓x_isi_lt, ↓x_isi_ll, ↓x_isi_ld, ↓x_isi_db, ↓x_isi_di, ↓x_isi_ds, ↓x_isi_dt, ↓x_isi_dl, ↓x_isi_dd, emp_flt, List.length_cons, List.length_nil, on_join, on_split, on_upper, on_count, on_rstrip, on_sindex, on_tindex, true_and, and_true, eq_self, Nat.reduceAdd, Nat.reduceLeDiff, Nat.zero_add, isI_n, isI_b, isI_i, isI_s, isI_t, isI_l, isI_d, isI_c, isI_r, isB_n, isB_b, isB_i, isB_s, isB_t, isB_l, isB_d, isB_c, isB_r, isS_n, isS_b, isS_i, isS_s, isS_t, isS_l, isS_d, isS_c, isS_r, isT_n, isT_b, isT_i, isT_s, isT_t, isT_l, isT_d, isT_c, isT_r, ↓x_con0, ↓x_con1, ↓x_con2, ↓x_con3, ↓x_con4, ↓x_con5, ↓x_con6, ↓x_con7, ↓WB_isI, ↓WB_isB, ↓WB_isS, ↓WB_isT, ↓SB_isI, ↓SB_isB, ↓SB_isS, ↓SB_isT, ↓wpc fun st => run_cell (n := n) (st := st) (hb.mem hx)])
          cases hp : cs.all cellB with
          | false =>
            simp only [↓s_cons, ↓s_nil, ↓l_asg, ↓s_ret, ↓l_site, ↓s_exp, ↓s_pass, ↓w_non, ↓w_bl, ↓w_int, ↓w_str, ↓l_var, ↓l_con, ↓l_bin, ↓l_neg, ↓l_cmp, ↓l_chn, ↓w_isn, ↓w_notn, ↓w_and, ↓w_or, ↓l_not, ↓l_ite, ↓l_tup, ↓l_lst, ↓w_dct, ↓w_mutD, ↓mut_lst, ↓mut_dct, ↓l_idx, ↓l_slc, ↓nb_nul, ↓nb_int, ↓nb_var, ↓nb_con, ↓nb_bin, ↓nb_neg, ↓nb_idx, ↓nb_call, ↓nb_bi, ↓w_call, ↓l_bi, ↓l_bm, ↓l_isi, ↓w_evs, ↓w_evs0, ↓w_and0, ↓l_and1, ↓w_or0, ↓l_or1, ↓l_ssub, ↓s_whlD, ↓l_app, ↓WP_ok, ↓WS_nx, ↓WS_rt, ↓WP_bind, ↓WP_ofE, ↓WB_t, ↓WB_f, ↓WB_n, ↓WB_dec, ↓WB_all, ↓WB_any, ↓WB_lt, ↓WB_sub, ↓WB_emp, ↓WB_eqv, ↓WB_and, ↓WB_or, ↓SB_t, ↓SB_f, ↓SB_n, ↓SB_dec, ↓SB_all, ↓SB_any, ↓SB_lt, ↓SB_sub, ↓SB_emp, ↓SB_eqv, ↓SB_and, ↓SB_or, ↓EX_some, ↓EX_none, ↓EX_map, ↓EB_bl, ↓EI_int, ↓x_g0, ↓x_gs, ↓x_at0, ↓x_at1, ↓x_at2, ↓x_a0, ↓x_as, ↓x_atup2, ↓x_atup3, ↓x_mod_i, ↓x_bnd, ↓x_str_i, ↓x_str_b, ↓x_upper, ↓x_all, ↓x_any, ↓x_sum, ↓x_add_i, ↓x_sub_i, ↓x_mul_i, ↓x_div_i, ↓x_pow_i, ↓x_add_s, ↓x_add_t, ↓x_add_l, ↓x_mul_s, ↓x_mul_t, ↓x_mul_l, ↓x_lt_i, ↓x_le_i, ↓x_gt_i, ↓x_ge_i, ↓x_lt_s, ↓x_le_s, ↓x_eq_i, ↓x_ne_i, ↓x_eq_s, ↓x_ne_s, ↓x_eq_nil, ↓x_ne_nil, ↓x_in_s, ↓x_nin_s, ↓x_len_l, ↓x_len_t, ↓x_len_s, ↓x_tuple_l, ↓x_tuple_t, ↓x_list_t, ↓x_list_l, ↓x_list_s, ↓x_int_i, ↓x_int_b, ↓x_abs, ↓x_str_s, ↓x_slc_t, ↓x_slc_l, ↓x_slc_s, ↓x_idx_t, ↓x_idx_l, ↓x_isi_nb, ↓x_isi_ni, ↓x_isi_ns, ↓x_isi_nt, ↓x_isi_nl, ↓x_isi_nd, ↓x_isi_bb, ↓x_isi_bi, ↓x_isi_bs, ↓x_isi_bt, ↓x_isi_bl, ↓x_isi_bd, ↓x_isi_ib, ↓x_isi_ii, ↓x_isi_is, ↓x_isi_it, ↓x_isi_il, ↓x_isi_id, ↓x_isi_sb, ↓x_isi_si, ↓x_isi_ss, ↓x_isi_st, ↓x_isi_sl, ↓x_isi_sd, ↓x_isi_tb, ↓x_isi_ti, ↓x_isi_ts, ↓x_isi_tt, ↓x_isi_tl, ↓x_isi_td, ↓x_isi_lb, ↓x_isi_li, ↓x_isi_ls, ↓x_isi_lt, ↓x_isi_ll, ↓x_isi_ld, ↓x_isi_db, ↓x_isi_di, ↓x_isi_ds, ↓x_isi_dt, ↓x_isi_dl, ↓x_isi_dd, emp_flt, List.length_cons, List.length_nil, on_join, on_split, on_upper, on_count, on_rstrip, on_sindex, on_tindex, true_and, and_true, eq_self, Nat.reduceAdd, Nat.reduceLeDiff, Nat.zero_add, isI_n, isI_b, isI_i, isI_s, isI_t, isI_l, isI_d, isI_c, isI_r, isB_n, isB_b, isB_i, isB_s, isB_t, isB_l, isB_d, isB_c, isB_r, isS_n, isS_b, isS_i, isS_s, isS_t, isS_l, isS_d, isS_c, isS_r, isT_n, isT_b, isT_i, isT_s, isT_t, isT_l, isT_d, isT_c, isT_r, ↓x_con0, ↓x_con1, ↓x_con2, ↓x_con3, ↓x_con4, ↓x_con5, ↓x_con6, ↓x_con7, ↓WB_isI, ↓WB_isB, ↓WB_isS, ↓WB_isT, ↓SB_isI, ↓SB_isB, ↓SB_isS, ↓SB_isT, ↓c0, ↓k1, hp]
            simp [lineB, hp]
          | true =>
            have k2 := wpk fun st => lc_M (Γ := txOf cons) (cf := cf (n + 4)) (own := [3]) (t := .nm 3) (k := .val) (its := [.var 2]) (e := .cmp .le (.call 6 [.var 3]) (.ite (.cmp .eq (.bi .len [.var 2]) (.int 1)) (.con 7) (.con 6))) (env := [some (.tup [.int i, .tup cs]), some (.int i), some (.tup cs), none]) (st := st) (ds := [.tup cs]) (xs := cs) (fun x => .bl (szB (capOf cs) x))
              (evs_i1 (Is.eq (by unfold Is; simp only [↓s_cons, ↓s_nil, ↓l_asg, ↓s_ret, ↓l_site, ↓s_exp, ↓s_pass, ↓w_non, ↓w_bl, ↓w_int, ↓w_str, ↓l_var, ↓l_con, ↓l_bin, ↓l_neg, ↓l_cmp, ↓l_chn, ↓w_isn, ↓w_notn, ↓w_and, ↓w_or, ↓l_not, ↓l_ite, ↓l_tup, ↓l_lst, ↓w_dct, ↓w_mutD, ↓mut_lst, ↓mut_dct, ↓l_idx, ↓l_slc, ↓nb_nul, ↓nb_int, ↓nb_var, ↓nb_con, ↓nb_bin, ↓nb_neg, ↓nb_idx, ↓nb_call, ↓nb_bi, ↓w_call, ↓l_bi, ↓l_bm, ↓l_isi, ↓w_evs, ↓w_evs0, ↓w_and0, ↓l_and1, ↓w_or0, ↓l_or1, ↓l_ssub, ↓s_whlD, ↓l_app, ↓WP_ok, ↓WS_nx, ↓WS_rt, ↓WP_bind, ↓WP_ofE, ↓WB_t, ↓WB_f, ↓WB_n, ↓WB_dec, ↓WB_all, ↓WB_any, ↓WB_lt, ↓WB_sub, ↓WB_emp, ↓WB_eqv, ↓WB_and, ↓WB_or, ↓SB_t, ↓SB_f, ↓SB_n, ↓SB_dec, ↓SB_all, ↓SB_any, ↓SB_lt, ↓SB_sub, ↓SB_emp, ↓SB_eqv, ↓SB_and, ↓SB_or, ↓EX_some, ↓EX_none, ↓EX_map, ↓EB_bl, ↓EI_int, ↓x_g0, ↓x_gs, ↓x_at0, ↓x_at1, ↓x_at2, ↓x_a0, ↓x_as, ↓x_atup2, ↓x_atup3, ↓x_mod_i, ↓x_bnd, ↓x_str_i, ↓x_str_b, ↓x_upper, ↓x_all, ↓x_any, ↓x_sum, ↓x_add_i, ↓x_sub_i, ↓x_mul_i, ↓x_div_i, ↓x_pow_i, ↓x_add_s, ↓x_add_t, ↓x_add_l, ↓x_mul_s, ↓x_mul_t, ↓x_mul_l, ↓x_lt_i, ↓x_le_i, ↓x_gt_i, ↓x_ge_i, ↓x_lt_s, ↓x_le_s, ↓x_eq_i, ↓x_ne_i, ↓x_eq_s, ↓x_ne_s, ↓x_eq_nil, ↓x_ne_nil, ↓x_in_s, ↓x_nin_s, ↓x_len_l, ↓x_len_t, ↓x_len_s, ↓x_tuple_l, ↓x_tuple_t, ↓x_list_t, ↓x_list_l, ↓x_list_s, ↓x_int_i, ↓x_int_b, ↓x_abs, ↓x_str_s, ↓x_slc_t, ↓x_slc_l, ↓x_slc_s, ↓x_idx_t, ↓x_idx_l, ↓x_isi_nb, ↓x_isi_ni, ↓x_isi_ns, ↓x_isi_nt, ↓x_isi_nl, ↓x_isi_nd, ↓x_isi_bb, ↓x_isi_bi, ↓x_isi_bs, ↓x_isi_bt, ↓x_isi_bl, ↓x_isi_bd, ↓x_isi_ib, ↓x_isi_ii, ↓x_isi_is, ↓x_isi_it, ↓x_isi_il, ↓x_isi_id, ↓x_isi_sb, ↓x_isi_si, ↓x_isi_ss, ↓x_isi_st, ↓x_isi_sl, ↓x_isi_sd, ↓x_isi_tb, ↓x_isi_ti, ↓x_isi_ts, ↓x_isi_tt, ↓x_isi_tl, ↓x_isi_td, ↓x_isi_lb, ↓x_isi_li, ↓x_isi_ls, ↓x_isi_lt, ↓x_isi_ll, ↓x_isi_ld, ↓x_isi_db, ↓x_isi_di, ↓x_isi_ds, ↓x_isi_dt, ↓x_isi_dl, ↓x_isi_dd, emp_flt, List.length_cons, List.length_nil, on_join, on_split, on_upper, on_count, on_rstrip, on_sindex, on_tindex, true_and, and_true, eq_self, Nat.reduceAdd, Nat.reduceLeDiff, Nat.zero_add, isI_n, isI_b, isI_i, isI_s, isI_t, isI_l, isI_d, isI_c, isI_r, isB_n, isB_b, isB_i, isB_s, isB_t, isB_l, isB_d, isB_c, isB_r, isS_n, isS_b, isS_i, isS_s, isS_t, isS_l, isS_d, isS_c, isS_r, isT_n, isT_b, isT_i, isT_s, isT_t, isT_l, isT_d, isT_c, isT_r, ↓x_con0, ↓x_con1, ↓x_con2, ↓x_con3, ↓x_con4, ↓x_con5, ↓x_con6, ↓x_con7, ↓WB_isI, ↓WB_isB, ↓WB_isS, ↓WB_isT, ↓SB_isI, ↓SB_isB, ↓SB_isS, ↓SB_isT]))) rfl hb.len fun x hx => (by
                obtain ⟨xs, rfl, hxs⟩ := cell_shape (List.all_eq_true.mp hp x hx)
                simp only [wipeE, List.set_cons_zero, List.set_cons_succ, ↓x_a0, ↓x_as, ↓x_atup2, ↓x_atup3]
                refine Is.eq ?_
                unfold Is
                simp only [↓s_cons, ↓s_nil, ↓l_asg, ↓s_ret, ↓l_site, ↓s_exp, ↓s_pass, ↓w_non, ↓w_bl, ↓w_int, ↓w_str, ↓l_var, ↓l_con, ↓l_bin, ↓l_neg, ↓l_cmp, ↓l_chn, ↓w_isn, ↓w_notn, ↓w_and, ↓w_or, ↓l_not, ↓l_ite, ↓l_tup, ↓l_lst, ↓w_dct, ↓w_mutD, ↓mut_lst, ↓mut_dct, ↓l_idx, ↓l_slc, ↓nb_nul, ↓nb_int, ↓nb_var, ↓nb_con, ↓nb_bin, ↓nb_neg, ↓nb_idx, ↓nb_call, ↓nb_bi, ↓w_call, ↓l_bi, ↓l_bm, ↓l_isi, ↓w_evs, ↓w_evs0, ↓w_and0, ↓l_and1, ↓w_or0, ↓l_or1, ↓l_ssub, ↓s_whlD, ↓l_app, ↓WP_ok, ↓WS_nx, ↓WS_rt, ↓WP_bind, ↓WP_ofE, ↓WB_t, ↓WB_f, ↓WB_n, ↓WB_dec, ↓WB_all, ↓WB_any, ↓WB_lt, ↓WB_sub, ↓WB_emp, ↓WB_eqv, ↓WB_and, ↓WB_or, ↓SB_t, ↓SB_f, ↓SB_n, ↓SB_dec, ↓SB_all, ↓SB_any, ↓SB_lt, ↓SB_sub, ↓SB_emp, ↓SB_eqv, ↓SB_and, ↓SB_or, ↓EX_some, ↓EX_none, ↓EX_map, ↓EB_bl, ↓EI_int, ↓x_g0, ↓x_gs, ↓x_at0, ↓x_at1, ↓x_at2, ↓x_a0, ↓x_as, ↓x_atup2, ↓x_atup3, ↓x_mod_i, ↓x_bnd, ↓x_str_i, ↓x_str_b, ↓x_upper, ↓x_all, ↓x_any, ↓x_sum, ↓x_add_i, ↓x_sub_i, ↓x_mul_i, ↓x_div_i, ↓x_pow_i, ↓x_add_s, ↓x_add_t, ↓x_add_l, ↓x_mul_s, ↓x_mul_t, ↓x_mul_l, ↓x_lt_i, ↓x_le_i, ↓x_gt_i, ↓x_ge_i, ↓x_lt_s, ↓x_le_s, ↓x_eq_i, ↓x_ne_i, ↓x_eq_s, ↓x_ne_s, ↓x_eq_nil, ↓x_ne_nil, ↓x_in_s, ↓x_nin_s, ↓x_len_l, ↓x_len_t, ↓x_len_s, ↓x_tuple_l, ↓x_tuple_t, ↓x_list_t, ↓x_list_l, ↓x_list_s, ↓x_int_i, ↓x_int_b, ↓x_abs, ↓x_str_s, ↓x_slc_t, ↓x_slc_l, ↓x_slc_s, ↓x_idx_t, ↓x_idx_l, ↓x_isi_nb, ↓x_isi_ni, ↓x_isi_ns, ↓x_isi_nt, ↓x_isi_nl, ↓x_isi_nd, ↓x_isi_bb, ↓x_isi_bi, ↓x_isi_bs, ↓x_isi_bt, ↓x_isi_bl, ↓x_isi_bd, ↓x_isi_ib, ↓x_isi_ii, ↓x_isi_is, ↓x_isi_it, ↓x_isi_il, ↓x_isi_id, ↓x_isi_sb, ↓x_isi_si, ↓x_isi_ss, ↓x_isi_st, ↓x_isi_sl, ↓x_isi_sd, ↓x_isi_tb, ↓x_isi_ti, ↓x_isi_ts, ↓x_isi_tt, ↓x_isi_tl, ↓x_isi_td, ↓x_isi_lb, ↓x_isi_li, ↓x_isi_ls, ↓x_isi_lt, ↓x_isi_ll, ↓x_isi_ld, ↓x_isi_db, ↓x_isi_di, ↓x_isi_ds, ↓x_isi_dt, ↓x_isi_dl, ↓x_isi_dd, emp_flt, List.length_cons, List.length_nil, on_join, on_split, on_upper, on_count, on_rstrip, on_sindex, on_tindex, true_and, and_true, eq_self, Nat.reduceAdd, Nat.reduceLeDiff, Nat.zero_add, isI_n, isI_b, isI_i, isI_s, isI_t, isI_l, isI_d, isI_c, isI_r, isB_n, isB_b, isB_i, isB_s, isB_t, isB_l, isB_d, isB_c, isB_r, isS_n, isS_b, isS_i, isS_s, isS_t, isS_l, isS_d, isS_c, isS_r, isT_n, isT_b, isT_i, isT_s, isT_t, isT_l, isT_d, isT_c, isT_r, ↓x_con0, ↓x_con1, ↓x_con2, ↓x_con3, ↓x_con4, ↓x_con5, ↓x_con6, ↓x_con7, ↓WB_isI, ↓WB_isB, ↓WB_isS, ↓WB_isT, ↓SB_isI, ↓SB_isB, ↓SB_isS, ↓SB_isT, ↓wpc fun st => sizes (n := n + 3) (st := st) (hb.mem hx) hxs]
                unfold szB capOf
                by_cases h1 : (cs.length : Int) = 1 <;> simp [h1])
            simp only [↓s_cons, ↓s_nil, ↓l_asg, ↓s_ret, ↓l_site, ↓s_exp, ↓s_pass, ↓w_non, ↓w_bl, ↓w_int, ↓w_str, ↓l_var, ↓l_con, ↓l_bin, ↓l_neg, ↓l_cmp, ↓l_chn, ↓w_isn, ↓w_notn, ↓w_and, ↓w_or, ↓l_not, ↓l_ite, ↓l_tup, ↓l_lst, ↓w_dct, ↓w_mutD, ↓mut_lst, ↓mut_dct, ↓l_idx, ↓l_slc, ↓nb_nul, ↓nb_int, ↓nb_var, ↓nb_con, ↓nb_bin, ↓nb_neg, ↓nb_idx, ↓nb_call, ↓nb_bi, ↓w_call, ↓l_bi, ↓l_bm, ↓l_isi, ↓w_evs, ↓w_evs0, ↓w_and0, ↓l_and1, ↓w_or0, ↓l_or1, ↓l_ssub, ↓s_whlD, ↓l_app, ↓WP_ok, ↓WS_nx, ↓WS_rt, ↓WP_bind, ↓WP_ofE, ↓WB_t, ↓WB_f, ↓WB_n, ↓WB_dec, ↓WB_all, ↓WB_any, ↓WB_lt, ↓WB_sub, ↓WB_emp, ↓WB_eqv, ↓WB_and, ↓WB_or, ↓SB_t, ↓SB_f, ↓SB_n, ↓SB_dec, ↓SB_all, ↓SB_any, ↓SB_lt, ↓SB_sub, ↓SB_emp, ↓SB_eqv, ↓SB_and, ↓SB_or, ↓EX_some, ↓EX_none, ↓EX_map, ↓EB_bl, ↓EI_int, ↓x_g0, ↓x_gs, ↓x_at0, ↓x_at1, ↓x_at2, ↓x_a0, ↓x_as, ↓x_atup2, ↓x_atup3, ↓x_mod_i, ↓x_bnd, ↓x_str_i, ↓x_str_b, ↓x_upper, ↓x_all, ↓x_any, ↓x_sum, ↓x_add_i, ↓x_sub_i, ↓x_mul_i, ↓x_div_i, ↓x_pow_i, ↓x_add_s, ↓x_add_t, ↓x_add_l, ↓x_mul_s, ↓x_mul_t, ↓x_mul_l, ↓x_lt_i, ↓x_le_i, ↓x_gt_i, ↓x_ge_i, ↓x_lt_s, ↓x_le_s, ↓x_eq_i, ↓x_ne_i, ↓x_eq_s, ↓x_ne_s, ↓x_eq_nil, ↓x_ne_nil, ↓x_in_s, ↓x_nin_s, ↓x_len_l, ↓x_len_t, ↓x_len_s, ↓x_tuple_l, ↓x_tuple_t, ↓x_list_t, ↓x_list_l, ↓x_list_s, ↓x_int_i, ↓x_int_b, ↓x_abs, ↓x_str_s, ↓x_slc_t, ↓x_slc_l, ↓x_slc_s, ↓x_idx_t, ↓x_idx_l, ↓x_isi_nb, ↓x_isi_ni, ↓x_isi_ns, ↓x_isi_nt, ↓x_isi_nl, ↓x_isi_nd, ↓x_isi_bb, ↓x_isi_bi, ↓x_isi_bs, ↓x_isi_bt, ↓x_isi_bl, ↓x_isi_bd, ↓x_isi_ib, ↓x_isi_ii, ↓x_isi_is, ↓x_isi_it, ↓x_isi_il, ↓x_isi_id, ↓x_isi_sb, ↓x_isi_si, ↓x_isi_ss, ↓x_isi_st, ↓x_isi_sl, ↓x_isi_sd, ↓x_isi_tb, ↓x_isi_ti, ↓x_isi_ts, ↓x_isi_tt, ↓x_isi_tl, ↓x_isi_td, ↓x_isi_lb, ↓x_isi_li, ↓x_isi_ls, ↓x_isi_lt, ↓x_isi_ll, ↓x_isi_ld, ↓x_isi_db, ↓x_isi_di, ↓x_isi_ds, ↓x_isi_dt, ↓x_isi_dl, ↓x_isi_dd, emp_flt, List.length_cons, List.length_nil, on_join, on_split, on_upper, on_count, on_rstrip, on_sindex, on_tindex, true_and, and_true, eq_self, Nat.reduceAdd, Nat.reduceLeDiff, Nat.zero_add, isI_n, isI_b, isI_i, isI_s, isI_t, isI_l, isI_d, isI_c, isI_r, isB_n, isB_b, isB_i, isB_s, isB_t, isB_l, isB_d, isB_c, isB_r, isS_n, isS_b, isS_i, isS_s, isS_t, isS_l, isS_d, isS_c, isS_r, isT_n, isT_b, isT_i, isT_s, isT_t, isT_l, isT_d, isT_c, isT_r, ↓x_con0, ↓x_con1, ↓x_con2, ↓x_con3, ↓x_con4, ↓x_con5, ↓x_con6, ↓x_con7, ↓WB_isI, ↓WB_isB, ↓WB_isS, ↓WB_isT, ↓SB_isI, ↓SB_isB, ↓SB_isS, ↓SB_isT, ↓c0, ↓k1, ↓k2, hp]
            simp only [lineB, hp, Bool.true_and]
            by_cases h0 : 0 ≤ i <;> by_cases h1 : i ≤ 6 <;> by_cases h2 : 0 < (cs.length : Int) <;> by_cases h3 : (cs.length : Int) ≤ 12 <;> simp only [h0, h1, h2, h3, decide_true, decide_false, Bool.and_true, Bool.and_false, Bool.false_and, Bool.true_and, imp_self, true_imp_iff, false_imp_iff, not_true_eq_false, not_false_eq_true, and_self, Bool.not_false, Bool.false_eq_true, Bool.true_eq_false, implies_true, and_true, eq_self] <;> simp
        | scr _ => cases hb.1
        | ref _ => cases hb.1
        | _ => simp only [↓s_cons, ↓s_nil, ↓l_asg, ↓s_ret, ↓l_site, ↓s_exp, ↓s_pass, ↓w_non, ↓w_bl, ↓w_int, ↓w_str, ↓l_var, ↓l_con, ↓l_bin, ↓l_neg, ↓l_cmp, ↓l_chn, ↓w_isn, ↓w_notn, ↓w_and, ↓w_or, ↓l_not, ↓l_ite, ↓l_tup, ↓l_lst, ↓w_dct, ↓w_mutD, ↓mut_lst, ↓mut_dct, ↓l_idx, ↓l_slc, ↓nb_nul, ↓nb_int, ↓nb_var, ↓nb_con, ↓nb_bin, ↓nb_neg, ↓nb_idx, ↓nb_call, ↓nb_bi, ↓w_call, ↓l_bi, ↓l_bm, ↓l_isi, ↓w_evs, ↓w_evs0, ↓w_and0, ↓l_and1, ↓w_or0, ↓l_or1, ↓l_ssub, ↓s_whlD, ↓l_app, ↓WP_ok, ↓WS_nx, ↓WS_rt, ↓WP_bind, ↓WP_ofE, ↓WB_t, ↓WB_f, ↓WB_n, ↓WB_dec, ↓WB_all, ↓WB_any, ↓WB_lt, ↓WB_sub, ↓WB_emp, ↓WB_eqv, ↓WB_and, ↓WB_or, ↓SB_t, ↓SB_f, ↓SB_n, ↓SB_dec, ↓SB_all, ↓SB_any, ↓SB_lt, ↓SB_sub, ↓SB_emp, ↓SB_eqv, ↓SB_and, ↓SB_or, ↓EX_some, ↓EX_none, ↓EX_map, ↓EB_bl, ↓EI_int, ↓x_g0, ↓x_gs, ↓x_at0, ↓x_at1, ↓x_at2, ↓x_a0, ↓x_as, ↓x_atup2, ↓x_atup3, ↓x_mod_i, ↓x_bnd, ↓x_str_i, ↓x_str_b, ↓x_upper, ↓x_all, ↓x_any, ↓x_sum, ↓x_add_i, ↓x_sub_i, ↓x_mul_i, ↓x_div_i, ↓x_pow_i, ↓x_add_s, ↓x_add_t, ↓x_add_l, ↓x_mul_s, ↓x_mul_t, ↓x_mul_l, ↓x_lt_i, ↓x_le_i, ↓x_gt_i, ↓x_ge_i, ↓x_lt_s, ↓x_le_s, ↓x_eq_i, ↓x_ne_i, ↓x_eq_s, ↓x_ne_s, ↓x_eq_nil, ↓x_ne_nil, ↓x_in_s, ↓x_nin_s, ↓x_len_l, ↓x_len_t, ↓x_len_s, ↓x_tuple_l, ↓x_tuple_t, ↓x_list_t, ↓x_list_l, ↓x_list_s, ↓x_int_i, ↓x_int_b, ↓x_abs, ↓x_str_s, ↓x_slc_t, ↓x_slc_l, ↓x_slc_s, ↓x_idx_t, ↓x_idx_l, ↓x_isi_nb, ↓x_isi_ni, ↓x_isi_ns, ↓x_isi_nt, ↓x_isi_nl, ↓x_isi_nd, ↓x_isi_bb, ↓x_isi_bi, ↓x_isi_bs, ↓x_isi_bt, ↓x_isi_bl, ↓x_isi_bd, ↓x_isi_ib, ↓x_isi_ii, ↓x_isi_is, ↓x_isi_it, ↓x_isi_il, ↓x_isi_id, ↓x_isi_sb, ↓x_isi_si, ↓x_isi_ss, ↓x_isi_st, ↓x_isi_sl, ↓x_isi_sd, ↓x_isi_tb, ↓x_isi_ti, ↓x_isi_ts, ↓x_isi_tt, ↓x_isi_tl, ↓x_isi_td, ↓x_isi_lb, ↓x_isi_li, ↓x_isi_ls, ↓x_isi_lt, ↓x_isi_ll, ↓x_isi_ld, ↓x_isi_db, ↓x_isi_di, ↓x_isi_ds, ↓x_isi_dt, ↓x_isi_dl, ↓x_isi_dd, emp_flt, List.length_cons, List.length_nil, on_join, on_split, on_upper, on_count, on_rstrip, on_sindex, on_tindex, true_and, and_true, eq_self, Nat.reduceAdd, Nat.reduceLeDiff, Nat.zero_add, isI_n, isI_b, isI_i, isI_s, isI_t, isI_l, isI_d, isI_c, isI_r, isB_n, isB_b, isB_i, isB_s, isB_t, isB_l, isB_d, isB_c, isB_r, isS_n, isS_b, isS_i, isS_s, isS_t, isS_l, isS_d, isS_c, isS_r, isT_n, isT_b, isT_i, isT_s, isT_t, isT_l, isT_d, isT_c, isT_r, ↓x_con0, ↓x_con1, ↓x_con2, ↓x_con3, ↓x_con4, ↓x_con5, ↓x_con6, ↓x_con7, ↓WB_isI, ↓WB_isB, ↓WB_isS, ↓WB_isT, ↓SB_isI, ↓SB_isB, ↓SB_isS, ↓SB_isT, ↓c0]; simp [lineB]; done
      | scr _ => cases ha.1
      | ref _ => cases ha.1
      | _ => simp only [↓s_cons, ↓s_nil, ↓l_asg, ↓s_ret, ↓l_site, ↓s_exp, ↓s_pass, ↓w_non, ↓w_bl, ↓w_int, ↓w_str, ↓l_var, ↓l_con, ↓l_bin, ↓l_neg, ↓l_cmp, ↓l_chn, ↓w_isn, ↓w_notn, ↓w_and, ↓w_or, ↓l_not, ↓l_ite, ↓l_tup, ↓l_lst, ↓w_dct, ↓w_mutD, ↓mut_lst, ↓mut_dct, ↓l_idx, ↓l_slc, ↓nb_nul, ↓nb_int, ↓nb_var, ↓nb_con, ↓nb_bin, ↓nb_neg, ↓nb_idx, ↓nb_call, ↓nb_bi, ↓w_call, ↓l_bi, ↓l_bm, ↓l_isi, ↓w_evs, ↓w_evs0, ↓w_and0, ↓l_and1, ↓w_or0, ↓l_or1, ↓l_ssub, ↓s_whlD, ↓l_app, ↓WP_ok, ↓WS_nx, ↓WS_rt, ↓WP_bind, ↓WP_ofE, ↓WB_t, ↓WB_f, ↓WB_n, ↓WB_dec, ↓WB_all, ↓WB_any, ↓WB_lt, ↓WB_sub, ↓WB_emp, ↓WB_eqv, ↓WB_and, ↓WB_or, ↓SB_t, ↓SB_f, ↓SB_n, ↓SB_dec, ↓SB_all, ↓SB_any, ↓SB_lt, ↓SB_sub, ↓SB_emp, ↓SB_eqv, ↓SB_and, ↓SB_or, ↓EX_some, ↓EX_none, ↓EX_map, ↓EB_bl, ↓EI_int, ↓x_g0, ↓x_gs, ↓x_at0, ↓x_at1, ↓x_at2, ↓x_a0, ↓x_as, ↓x_atup2, ↓x_atup3, ↓x_mod_i, ↓x_bnd, ↓x_str_i, ↓x_str_b, ↓x_upper, ↓x_all, ↓x_any, ↓x_sum, ↓x_add_i, ↓x_sub_i, ↓x_mul_i, ↓x_div_i, ↓x_pow_i, ↓x_add_s, ↓x_add_t, ↓x_add_l, ↓x_mul_s, ↓x_mul_t, ↓x_mul_l, ↓x_lt_i, ↓x_le_i, ↓x_gt_i, ↓x_ge_i, ↓x_lt_s, ↓x_le_s, ↓x_eq_i, ↓x_ne_i, ↓x_eq_s, ↓x_ne_s, ↓x_eq_nil, ↓x_ne_nil, ↓x_in_s, ↓x_nin_s, ↓x_len_l, ↓x_len_t, ↓x_len_s, ↓x_tuple_l, ↓x_tuple_t, ↓x_list_t, ↓x_list_l, ↓x_list_s, ↓x_int_i, ↓x_int_b, ↓x_abs, ↓x_str_s, ↓x_slc_t, ↓x_slc_l, ↓x_slc_s, ↓x_idx_t, ↓x_idx_l, ↓x_isi_nb, ↓x_isi_ni, ↓x_isi_ns, ↓x_isi_nt, ↓x_isi_nl, ↓x_isi_nd, ↓x_isi_bb, ↓x_isi_bi, ↓x_isi_bs, ↓x_isi_bt, ↓x_isi_bl, ↓x_isi_bd, ↓x_isi_ib, ↓x_isi_ii, ↓x_isi_is, ↓x_isi_it, ↓x_isi_il, ↓x_isi_id, ↓x_isi_sb, ↓x_isi_si, ↓x_isi_ss, ↓x_isi_st, ↓x_isi_sl, ↓x_isi_sd, ↓x_isi_tb, ↓x_isi_ti, ↓x_isi_ts, ↓x_isi_tt, ↓x_isi_tl, ↓x_isi_td, ↓x_isi_lb, ↓x_isi_li, ↓x_isi_ls, ↓x_isi_lt, ↓x_isi_ll, ↓x_isi_ld, ↓x_isi_db, ↓x_isi_di, ↓x_isi_ds, ↓x_isi_dt, ↓x_isi_dl, ↓x_isi_dd, emp_flt, List.length_cons, List.length_nil, on_join, on_split, on_upper, on_count, on_rstrip, on_sindex, on_tindex, true_and, and_true, eq_self, Nat.reduceAdd, Nat.reduceLeDiff, Nat.zero_add, isI_n, isI_b, isI_i, isI_s, isI_t, isI_l, isI_d, isI_c, isI_r, isB_n, isB_b, isB_i, isB_s, isB_t, isB_l, isB_d, isB_c, isB_r, isS_n, isS_b, isS_i, isS_s, isS_t, isS_l, isS_d, isS_c, isS_r, isT_n, isT_b, isT_i, isT_s, isT_t, isT_l, isT_d, isT_c, isT_r, ↓x_con0, ↓x_con1, ↓x_con2, ↓x_con3, ↓x_con4, ↓x_con5, ↓x_con6, ↓x_con7, ↓WB_isI, ↓WB_isB, ↓WB_isS, ↓WB_isT, ↓SB_isI, ↓SB_isB, ↓SB_isS, ↓SB_isT, ↓c0]; simp [lineB]; done
    · rw [line_no hl]
      simp only [↓s_cons, ↓s_nil, ↓l_asg, ↓s_ret, ↓l_site, ↓s_exp, ↓s_pass, ↓w_non, ↓w_bl, ↓w_int, ↓w_str, ↓l_var, ↓l_con, ↓l_bin, ↓l_neg, ↓l_cmp, ↓l_chn, ↓w_isn, ↓w_notn, ↓w_and, ↓w_or, ↓l_not, ↓l_ite, ↓l_tup, ↓l_lst, ↓w_dct, ↓w_mutD, ↓mut_lst, ↓mut_dct, ↓l_idx, ↓l_slc, ↓nb_nul, ↓nb_int, ↓nb_var, ↓nb_con, ↓nb_bin, ↓nb_neg, ↓nb_idx, ↓nb_call, ↓nb_bi, ↓w_call, ↓l_bi, ↓l_bm, ↓l_isi, ↓w_evs, ↓w_evs0, ↓w_and0, ↓l_and1, ↓w_or0, ↓l_or1, ↓l_ssub, ↓s_whlD, ↓l_app, ↓WP_ok, ↓WS_nx, ↓WS_rt, ↓WP_bind, ↓WP_ofE, ↓WB_t, ↓WB_f, ↓WB_n, ↓WB_dec, ↓WB_all, ↓WB_any, ↓WB_lt, ↓WB_sub, ↓WB_emp, ↓WB_eqv, ↓WB_and, ↓WB_or, ↓SB_t, ↓SB_f, ↓SB_n, ↓SB_dec, ↓SB_all, ↓SB_any, ↓SB_lt, ↓SB_sub, ↓SB_emp, ↓SB_eqv, ↓SB_and, ↓SB_or, ↓EX_some, ↓EX_none, ↓EX_map, ↓EB_bl, ↓EI_int, ↓x_g0, ↓x_gs, ↓x_at0, ↓x_at1, ↓x_at2, ↓x_a0, ↓x_as, ↓x_atup2, ↓x_atup3, ↓x_mod_i, ↓x_bnd, ↓x_str_i, ↓x_str_b, ↓x_upper, ↓x_all, ↓x_any, ↓x_sum, ↓x_add_i, ↓x_sub_i, ↓x_mul_i, ↓x_div_i, ↓x_pow_i, ↓x_add_s, ↓x_add_t, ↓x_add_l, ↓x_mul_s, ↓x_mul_t, ↓x_mul_l, ↓x_lt_i, ↓x_le_i, ↓x_gt_i, ↓x_ge_i, ↓x_lt_s, ↓x_le_s, ↓x_eq_i, ↓x_ne_i, ↓x_eq_s, ↓x_ne_s, ↓x_eq_nil, ↓x_ne_nil, ↓x_in_s, ↓x_nin_s, ↓x_len_l, ↓x_len_t, ↓x_len_s, ↓x_tuple_l, ↓x_tuple_t, ↓x_list_t, ↓x_list_l, ↓x_list_s, ↓x_int_i, ↓x_int_b, ↓x_abs, ↓x_str_s, ↓x_slc_t, ↓x_slc_l, ↓x_slc_s, ↓x_idx_t, ↓x_idx_l, ↓x_isi_nb, ↓x_isi_ni, ↓x_isi_ns, ↓x_isi_nt, ↓x_isi_nl, ↓x_isi_nd, ↓x_isi_bb, ↓x_isi_bi, ↓x_isi_bs, ↓x_isi_bt, ↓x_isi_bl, ↓x_isi_bd, ↓x_isi_ib, ↓x_isi_ii, ↓x_isi_is, ↓x_isi_it, ↓x_isi_il, ↓x_isi_id, ↓x_isi_sb, ↓x_isi_si, ↓x_isi_ss, ↓x_isi_st, ↓x_isi_sl, ↓x_isi_sd, ↓x_isi_tb, ↓x_isi_ti, ↓x_isi_ts, ↓x_isi_tt, ↓x_isi_tl, ↓x_isi_td, ↓x_isi_lb, ↓x_isi_li, ↓x_isi_ls, ↓x_isi_lt, ↓x_isi_ll, ↓x_isi_ld, ↓x_isi_db, ↓x_isi_di, ↓x_isi_ds, ↓x_isi_dt, ↓x_isi_dl, ↓x_isi_dd, emp_flt, List.length_cons, List.length_nil, on_join, on_split, on_upper, on_count, on_rstrip, on_sindex, on_tindex, true_and, and_true, eq_self, Nat.reduceAdd, Nat.reduceLeDiff, Nat.zero_add, isI_n, isI_b, isI_i, isI_s, isI_t, isI_l, isI_d, isI_c, isI_r, isB_n, isB_b, isB_i, isB_s, isB_t, isB_l, isB_d, isB_c, isB_r, isS_n, isS_b, isS_i, isS_s, isS_t, isS_l, isS_d, isS_c, isS_r, isT_n, isT_b, isT_i, isT_s, isT_t, isT_l, isT_d, isT_c, isT_r, ↓x_con0, ↓x_con1, ↓x_con2, ↓x_con3, ↓x_con4, ↓x_con5, ↓x_con6, ↓x_con7, ↓WB_isI, ↓WB_isB, ↓WB_isS, ↓WB_isT, ↓SB_isI, ↓SB_isB, ↓SB_isS, ↓SB_isT]
      have : ¬ (xs.length : Int) = 2 := by omega
      simp [this]
  | scr _ => cases h.1
  | ref _ => cases h.1
  | _ => simp only [↓s_cons, ↓s_nil, ↓l_asg, ↓s_ret, ↓l_site, ↓s_exp, ↓s_pass, ↓w_non, ↓w_bl, ↓w_int, ↓w_str, ↓l_var, ↓l_con, ↓l_bin, ↓l_neg, ↓l_cmp, ↓l_chn, ↓w_isn, ↓w_notn, ↓w_and, ↓w_or, ↓l_not, ↓l_ite, ↓l_tup, ↓l_lst, ↓w_dct, ↓w_mutD, ↓mut_lst, ↓mut_dct, ↓l_idx, ↓l_slc, ↓nb_nul, ↓nb_int, ↓nb_var, ↓nb_con, ↓nb_bin, ↓nb_neg, ↓nb_idx, ↓nb_call, ↓nb_bi, ↓w_call, ↓l_bi, ↓l_bm, ↓l_isi, ↓w_evs, ↓w_evs0, ↓w_and0, ↓l_and1, ↓w_or0, ↓l_or1, ↓l_ssub, ↓s_whlD, ↓l_app, ↓WP_ok, ↓WS_nx, ↓WS_rt, ↓WP_bind, ↓WP_ofE, ↓WB_t, ↓WB_f, ↓WB_n, ↓WB_dec, ↓WB_all, ↓WB_any, ↓WB_lt, ↓WB_sub, ↓WB_emp, ↓WB_eqv, ↓WB_and, ↓WB_or, ↓SB_t, ↓SB_f, ↓SB_n, ↓SB_dec, ↓SB_all, ↓SB_any, ↓SB_lt, ↓SB_sub, ↓SB_emp, ↓SB_eqv, ↓SB_and, ↓SB_or, ↓EX_some, ↓EX_none, ↓EX_map, ↓EB_bl, ↓EI_int, ↓x_g0, ↓x_gs, ↓x_at0, ↓x_at1, ↓x_at2, ↓x_a0, ↓x_as, ↓x_atup2, ↓x_atup3, ↓x_mod_i, ↓x_bnd, ↓x_str_i, ↓x_str_b, ↓x_upper, ↓x_all, ↓x_any, ↓x_sum, ↓x_add_i, ↓x_sub_i, ↓x_mul_i, ↓x_div_i, ↓x_pow_i, ↓x_add_s, ↓x_add_t, ↓x_add_l, ↓x_mul_s, ↓x_mul_t, ↓x_mul_l, ↓x_lt_i, ↓x_le_i, ↓x_gt_i, ↓x_ge_i, ↓x_lt_s, ↓x_le_s, ↓x_eq_i, ↓x_ne_i, ↓x_eq_s, ↓x_ne_s, ↓x_eq_nil, ↓x_ne_nil, ↓x_in_s, ↓x_nin_s, ↓x_len_l, ↓x_len_t, ↓x_len_s, ↓x_tuple_l, ↓x_tuple_t, ↓x_list_t, ↓x_list_l, ↓x_list_s, ↓x_int_i, ↓x_int_b, ↓x_abs, ↓x_str_s, ↓x_slc_t, ↓x_slc_l, ↓x_slc_s, ↓x_idx_t, ↓x_idx_l, ↓x_isi_nb, ↓x_isi_ni, ↓x_isi_ns, ↓x_isi_nt, ↓x_isi_nl, ↓x_isi_nd, ↓x_isi_bb, ↓x_isi_bi, ↓x_isi_bs, ↓x_isi_bt, ↓x_isi_bl, ↓x_isi_bd, ↓x_isi_ib, ↓x_isi_ii, ↓x_isi_is, ↓x_isi_it, ↓x_isi_il, ↓x_isi_id, ↓x_isi_sb, ↓x_isi_si, ↓x_isi_ss, ↓x_isi_st, ↓x_isi_sl, ↓x_isi_sd, ↓x_isi_tb, ↓x_isi_ti, ↓x_isi_ts, ↓x_isi_tt, ↓x_isi_tl, ↓x_isi_td, ↓x_isi_lb, ↓x_isi_li, ↓x_isi_ls, ↓x_isi_lt, ↓x_isi_ll, ↓x_isi_ld, ↓x_isi_db, ↓x_isi_di, ↓x_isi_ds, ↓x_isi_dt, ↓x_isi_dl, ↓x_isi_dd, emp_flt, List.length_cons, List.length_nil, on_join, on_split, on_upper, on_count, on_rstrip, on_sindex, on_tindex, true_and, and_true, eq_self, Nat.reduceAdd, Nat.reduceLeDiff, Nat.zero_add, isI_n, isI_b, isI_i, isI_s, isI_t, isI_l, isI_d, isI_c, isI_r, isB_n, isB_b, isB_i, isB_s, isB_t, isB_l, isB_d, isB_c, isB_r, isS_n, isS_b, isS_i, isS_s, isS_t, isS_l, isS_d, isS_c, isS_r, isT_n, isT_b, isT_i, isT_s, isT_t, isT_l, isT_d, isT_c, isT_r, ↓x_con0, ↓x_con1, ↓x_con2, ↓x_con3, ↓x_con4, ↓x_con5, ↓x_con6, ↓x_con7, ↓WB_isI, ↓WB_isB, ↓WB_isS, ↓WB_isT, ↓SB_isI, ↓SB_isB, ↓SB_isS, ↓SB_isT]; simp [lineB]; done
theorem run_line2 {n : Nat} {d : D} {st : Store} (h : Sm d) : cf (n + 5) 26 [d] st = .ok (.bl (lineB d)) st := by
  refine ok_of (call_same (ft := f26) rfl rfl ?_)
  unfold f26
  walk_at "z0"
  cases d with
  | tup xs =>
    by_cases hl : xs.length = 2
    · obtain ⟨a, b, rfl⟩ : ∃ a b, xs = [a, b] := by
        match xs, hl with
        | [a, b], _ => exact ⟨a, b, rfl⟩
      have ha : Sm a := h.mem (by simp)
      have hb : Sm b := h.mem (by simp)
      cases a with
      | int i => cases b with
        | tup cs =>
          have k1 := wpk fun st => lc_G (Γ := txOf cons) (cf := cf (n + 4)) (own := [3]) (t := .nm 3) (k := .val) (its := [.var 2]) (c := .not (.call 25 [.var 3, .ite (.cmp .eq (.bi .len [.var 2]) (.int 1)) (.int 491) (.int 40)])) (e := .var 3) (env := [some (.tup [.int i, .tup cs]), some (.int i), some (.tup cs), none]) (st := st) (ds := [.tup cs]) (xs := cs) (fun x => !(cellB x && szB (capOf cs) x)) (fun x => x)
            (evs_i1 (Is.eq (by unfold Is; simp only [↓s_cons, ↓s_nil, ↓l_asg, ↓s_ret, ↓l_site, ↓s_exp, ↓s_pass, ↓w_non, ↓w_bl, ↓w_int, ↓w_str, ↓l_var, ↓l_con, ↓l_bin, ↓l_neg, ↓l_cmp, ↓l_chn, ↓w_isn, ↓w_notn, ↓w_and, ↓w_or, ↓l_not, ↓l_ite, ↓l_tup, ↓l_lst, ↓w_dct, ↓w_mutD, ↓mut_lst, ↓mut_dct, ↓l_idx, ↓l_slc, ↓nb_nul, ↓nb_int, ↓nb_var, ↓nb_con, ↓nb_bin, ↓nb_neg, ↓nb_idx, ↓nb_call, ↓nb_bi, ↓w_call, ↓l_bi, ↓l_bm, ↓l_isi, ↓w_evs, ↓w_evs0, ↓w_and0, ↓l_and1, ↓w_or0, ↓l_or1, ↓l_ssub, ↓s_whlD, ↓l_app, ↓WP_ok, ↓WS_nx, ↓WS_rt, ↓WP_bind, ↓WP_ofE, ↓WB_t, ↓WB_f, ↓WB_n, ↓WB_dec, ↓WB_all, ↓WB_any, ↓WB_lt, ↓WB_sub, ↓WB_emp, ↓WB_eqv, ↓WB_and, ↓WB_or, ↓SB_t, ↓SB_f, ↓SB_n, ↓SB_dec, ↓SB_all, ↓SB_any, ↓SB_lt, ↓SB_sub, ↓SB_emp, ↓SB_eqv, ↓SB_and, ↓SB_or, ↓EX_some, ↓EX_none, ↓EX_map, ↓EB_bl, ↓EI_int, ↓x_g0, ↓x_gs, ↓x_at0, ↓x_at1, ↓x_at2, ↓x_a0, ↓x_as, ↓x_atup2, ↓x_atup3, ↓x_mod_i, ↓x_bnd, ↓x_str_i, ↓x_str_b, ↓x_upper, ↓x_all, ↓x_any, ↓x_sum, ↓x_add_i, ↓x_sub_i, ↓x_mul_i, ↓x_div_i, ↓x_pow_i, ↓x_add_s, ↓x_add_t, ↓x_add_l, ↓x_mul_s, ↓x_mul_t, ↓x_mul_l, ↓x_lt_i, ↓x_le_i, ↓x_gt_i, ↓x_ge_i, ↓x_lt_s, ↓x_le_s, ↓x_eq_i, ↓x_ne_i, ↓x_eq_s, ↓x_ne_s, ↓x_eq_nil, ↓x_ne_nil, ↓x_in_s, ↓x_nin_s, ↓x_len_l, ↓x_len_t, ↓x_len_s, ↓x_tuple_l, ↓x_tuple_t, ↓x_list_t, ↓x_list_l, ↓x_list_s, ↓x_int_i, ↓x_int_b, ↓x_abs, ↓x_str_s, ↓x_slc_t, ↓x_slc_l, ↓x_slc_s, ↓x_idx_t, ↓x_idx_l, ↓x_isi_nb, ↓x_isi_ni, ↓x_isi_ns, ↓x_isi_nt, ↓x_isi_nl, ↓x_isi_nd, ↓x_isi_bb, ↓x_isi_bi, ↓x_isi_bs, ↓x_isi_bt, ↓x_isi_bl, ↓x_isi_bd, ↓x_isi_ib, ↓x_isi_ii, ↓x_isi_is, ↓x_isi_it, ↓x_isi_il, ↓x_isi_id, ↓x_isi_sb, ↓x_isi_si, ↓x_isi_ss, ↓x_isi_st, ↓x_isi_sl, ↓x_isi_sd, ↓x_isi_tb, ↓x_isi_ti, ↓x_isi_ts, ↓x_isi_tt, ↓x_isi_tl, ↓x_isi_td, ↓x_isi_lb, ↓x_isi_li, ↓x_isi_ls, ↓x_isi_lt, ↓x_isi_ll, ↓x_isi_ld, ↓x_isi_db, ↓x_isi_di, ↓x_isi_ds, ↓x_isi_dt, ↓x_isi_dl, ↓x_isi_dd, emp_flt, List.length_cons, List.length_nil, on_join, on_split, on_upper, on_count, on_rstrip, on_sindex, on_tindex, true_and, and_true, eq_self, Nat.reduceAdd, Nat.reduceLeDiff, Nat.zero_add, isI_n, isI_b, isI_i, isI_s, isI_t, isI_l, isI_d, isI_c, isI_r, isB_n, isB_b, isB_i, isB_s, isB_t, isB_l, isB_d, isB_c, isB_r, isS_n, isS_b, isS_i, isS_s, isS_t, isS_l, isS_d, isS_c, isS_r, isT_n, isT_b, isT_i, isT_s, isT_t, isT_l, isT_d, isT_c, isT_r, ↓x_con0, ↓x_con1, ↓x_con2, ↓x_con3, ↓x_con4, ↓x_con5, ↓x_con6, ↓x_con7, ↓WB_isI, ↓WB_isB, ↓WB_isS, ↓WB_isT, ↓SB_isI, ↓SB_isB, ↓SB_isS, ↓SB_isT]))) rfl hb.len rfl fun x hx => (by
              simp only [wipeE, List.set_cons_zero, List.set_cons_succ, ↓x_a0, ↓x_as, ↓x_atup2, ↓x_atup3]
              refine ⟨Is.eq ?_, fun _ => Is.eq ?_⟩
              · unfold Is
                by_cases h1 : (cs.length : Int) = 1
                · have e : capOf cs = 491 := by unfold capOf; simp [h1]
                  simp only [↓s_cons, ↓s_nil, ↓l_asg, ↓s_ret, ↓l_site, ↓s_exp, ↓s_pass, ↓w_non, ↓w_bl, ↓w_int, ↓w_str, ↓l_var, ↓l_con, ↓l_bin, ↓l_neg, ↓l_cmp, ↓l_chn, ↓w_isn, ↓w_notn, ↓w_and, ↓w_or, ↓l_not, ↓l_ite, ↓l_tup, ↓l_lst, ↓w_dct, ↓w_mutD, ↓mut_lst, ↓mut_dct, ↓l_idx, ↓l_slc, ↓nb_nul, ↓nb_int, ↓nb_var, ↓nb_con, ↓nb_bin, ↓nb_neg, ↓nb_idx, ↓nb_call, ↓nb_bi, ↓w_call, ↓l_bi, ↓l_bm, ↓l_isi, ↓w_evs, ↓w_evs0, ↓w_and0, ↓l_and1, ↓w_or0, ↓l_or1, ↓l_ssub, ↓s_whlD, ↓l_app, ↓WP_ok, ↓WS_nx, ↓WS_rt, ↓WP_bind, ↓WP_ofE, ↓WB_t, ↓WB_f, ↓WB_n, ↓WB_dec, ↓WB_all, ↓WB_any, ↓WB_lt, ↓WB_sub, ↓WB_emp, ↓WB_eqv, ↓WB_and, ↓WB_or, ↓SB_t, ↓SB_f, ↓SB_n, ↓SB_dec, ↓SB_all, ↓SB_any, ↓SB_lt, ↓SB_sub, ↓SB_emp, ↓SB_eqv, ↓SB_and, ↓SB_or, ↓EX_some, ↓EX_none, ↓EX_map, ↓EB_bl, ↓EI_int, ↓x_g0, ↓x_gs, ↓x_at0, ↓x_at1, ↓x_at2, ↓x_a0, ↓x_as, ↓x_atup2, ↓x_atup3, ↓x_mod_i, ↓x_bnd, ↓x_str_i, ↓x_str_b, ↓x_upper, ↓x_all, ↓x_any, ↓x_sum, ↓x_add_i, ↓x_sub_i, ↓x_mul_i, ↓x_div_i, ↓x_pow_i, ↓x_add_s, ↓x_add_t, ↓x_add_l, ↓x_mul_s, ↓x_mul_t, ↓x_mul_l, ↓x_lt_i, ↓x_le_i, ↓x_gt_i, ↓x_ge_i, ↓x_lt_s, ↓x_le_s, ↓x_eq_i, ↓x_ne_i, ↓x_eq_s, ↓x_ne_s, ↓x_eq_nil, ↓x_ne_nil, ↓x_in_s, ↓x_nin_s, ↓x_len_l, ↓x_len_t, ↓x_len_s, ↓x_tuple_l, ↓x_tuple_t, ↓x_list_t, ↓x_list_l, ↓x_list_s, ↓x_int_i, ↓x_int_b, ↓x_abs, ↓x_str_s, ↓x_slc_t, ↓x_slc_l, ↓x_slc_s, ↓x_idx_t, ↓x_idx_l, ↓x_isi_nb, ↓x_isi_ni, ↓x_isi_ns, ↓x_isi_nt, ↓x_isi_nl, ↓x_isi_nd, ↓x_isi_bb, ↓x_isi_bi, ↓x_isi_bs, ↓x_isi_bt, ↓x_isi_bl, ↓x_isi_bd, ↓x_isi_ib, ↓x_isi_ii, ↓x_isi_is, ↓x_isi_it, ↓x_isi_il, ↓x_isi_id, ↓x_isi_sb, ↓x_isi_si, ↓x_isi_ss, ↓x_isi_st, ↓x_isi_sl, ↓x_isi_sd, ↓x_isi_tb, ↓x_isi_ti, ↓x_isi_ts, ↓x_isi_tt, ↓x_isi_tl, ↓x_isi_td, ↓x_isi_lb, ↓x_isi_li, ↓x_isi_ls, ↓x_isi_lt, ↓x_isi_ll, ↓x_isi_ld, ↓x_isi_db, ↓x_isi_di, ↓x_isi_ds, ↓x_isi_dt, ↓x_isi_dl, ↓x_isi_dd, emp_flt, List.length_cons, List.length_nil, on_join, on_split, on_upper, on_count, on_rstrip, on_sindex, on_tindex, true_and, and_true, eq_self, Nat.reduceAdd, Nat.reduceLeDiff, Nat.zero_add, isI_n, isI_b, isI_i, isI_s, isI_t, isI_l, isI_d, isI_c, isI_r, isB_n, isB_b, isB_i, isB_s, isB_t, isB_l, isB_d, isB_c, isB_r, isS_n, isS_b, isS_i, isS_s, isS_t, isS_l, isS_d, isS_c, isS_r, isT_n, isT_b, isT_i, isT_s, isT_t, isT_l, isT_d, isT_c, isT_r, ↓x_con0, ↓x_con1, ↓x_con2, ↓x_con3, ↓x_con4, ↓x_con5, ↓x_con6, ↓x_con7, ↓WB_isI, ↓WB_isB, ↓WB_isS, ↓WB_isT, ↓SB_isI, ↓SB_isB, ↓SB_isS, ↓SB_isT, h1, decide_true, e, ↓wpc fun st => run_cell2 (n := n) (m := 491) (st := st) (hb.mem hx)]
                  simp
                · have e : capOf cs = 40 := by unfold capOf; simp [h1]
                  simp only [↓s_cons, ↓s_nil, ↓l_asg, ↓s_ret, ↓l_site, ↓s_exp, ↓s_pass, ↓w_non, ↓w_bl, ↓w_int, ↓w_str, ↓l_var, ↓l_con, ↓l_bin, ↓l_neg, ↓l_cmp, ↓l_chn, ↓w_isn, ↓w_notn, ↓w_and, ↓w_or, ↓l_not, ↓l_ite, ↓l_tup, ↓l_lst, ↓w_dct, ↓w_mutD, ↓mut_lst, ↓mut_dct, ↓l_idx, ↓l_slc, ↓nb_nul, ↓nb_int, ↓nb_var, ↓nb_con, ↓nb_bin, ↓nb_neg, ↓nb_idx, ↓nb_call, ↓nb_bi, ↓w_call, ↓l_bi, ↓l_bm, ↓l_isi, ↓w_evs, ↓w_evs0, ↓w_and0, ↓l_and1, ↓w_or0, ↓l_or1, ↓l_ssub, ↓s_whlD, ↓l_app, ↓WP_ok, ↓WS_nx, ↓WS_rt, ↓WP_bind, ↓WP_ofE, ↓WB_t, ↓WB_f, ↓WB_n, ↓WB_dec, ↓WB_all, ↓WB_any, ↓WB_lt, ↓WB_sub, ↓WB_emp, ↓WB_eqv, ↓WB_and, ↓WB_or, ↓SB_t, ↓SB_f, ↓SB_n, ↓SB_dec, ↓SB_all, ↓SB_any, ↓SB_lt, ↓SB_sub, ↓SB_emp, ↓SB_eqv, ↓SB_and, ↓SB_or, ↓EX_some, ↓EX_none, ↓EX_map, ↓EB_bl, ↓EI_int, ↓x_g0, ↓x_gs, ↓x_at0, ↓x_at1, ↓x_at2, ↓x_a0, ↓x_as, ↓x_atup2, ↓x_atup3, ↓x_mod_i, ↓x_bnd, ↓x_str_i, ↓x_str_b, ↓x_upper, ↓x_all, ↓x_any, ↓x_sum, ↓x_add_i, ↓x_sub_i, ↓x_mul_i, ↓x_div_i, ↓x_pow_i, ↓x_add_s, ↓x_add_t, ↓x_add_l, ↓x_mul_s, ↓x_mul_t, ↓x_mul_l, ↓x_lt_i, ↓x_le_i, ↓x_gt_i, ↓x_ge_i, ↓x_lt_s, ↓x_le_s, ↓x_eq_i, ↓x_ne_i, ↓x_eq_s, ↓x_ne_s, ↓x_eq_nil, ↓x_ne_nil, ↓x_in_s, ↓x_nin_s, ↓x_len_l, ↓x_len_t, ↓x_len_s, ↓x_tuple_l, ↓x_tuple_t, ↓x_list_t, ↓x_list_l, ↓x_list_s, ↓x_int_i, ↓x_int_b, ↓x_abs, ↓x_str_s, ↓x_slc_t, ↓x_slc_l, ↓x_slc_s, ↓x_idx_t, ↓x_idx_l, ↓x_isi_nb, ↓x_isi_ni, ↓x_isi_ns, ↓x_isi_nt, ↓x_isi_nl, ↓x_isi_nd, ↓x_isi_bb, ↓x_isi_bi, ↓x_isi_bs, ↓x_isi_bt, ↓x_isi_bl, ↓x_isi_bd, ↓x_isi_ib, ↓x_isi_ii, ↓x_isi_is, ↓x_isi_it, ↓x_isi_il, ↓x_isi_id, ↓x_isi_sb, ↓x_isi_si, ↓x_isi_ss, ↓x_isi_st, ↓x_isi_sl, ↓x_isi_sd, ↓x_isi_tb, ↓x_isi_ti, ↓x_isi_ts, ↓x_isi_tt, ↓x_isi_tl, ↓x_isi_td, ↓x_isi_lb, ↓x_isi_li, ↓x_isi_ls, ↓x_isi_lt, ↓x_isi_ll, ↓x_isi_ld, ↓x_isi_db, ↓x_isi_di, ↓x_isi_ds, ↓x_isi_dt, ↓x_isi_dl, ↓x_isi_dd, emp_flt, List.length_cons, List.length_nil, on_join, on_split, on_upper, on_count, on_rstrip, on_sindex, on_tindex, true_and, and_true, eq_self, Nat.reduceAdd, Nat.reduceLeDiff, Nat.zero_add, isI_n, isI_b, isI_i, isI_s, isI_t, isI_l, isI_d, isI_c, isI_r, isB_n, isB_b, isB_i, isB_s, isB_t, isB_l, isB_d, isB_c, isB_r, isS_n, isS_b, isS_i, isS_s, isS_t, isS_l, isS_d, isS_c, isS_r, isT_n, isT_b, isT_i, isT_s, isT_t, isT_l, isT_d, isT_c, isT_r, ↓x_con0, ↓x_con1, ↓x_con2, ↓x_con3, ↓x_con4, ↓x_con5, ↓x_con6, ↓x_con7, ↓WB_isI, ↓WB_isB, ↓WB_isS, ↓WB_isT, ↓SB_isI, ↓SB_isB, ↓SB_isS, ↓SB_isT, h1, decide_false, e, ↓wpc fun st => run_cell2 (n := n) (m := 40) (st := st) (hb.mem hx)]
                  simp
              · unfold Is
                simp only [↓s_cons, ↓s_nil, ↓l_asg, ↓s_ret, ↓l_site, ↓s_exp, ↓s_pass, ↓w_non, ↓w_bl, ↓w_int, ↓w_str, ↓l_var, ↓l_con, ↓l_bin, ↓l_neg, ↓l_cmp, ↓l_chn, ↓w_isn, ↓w_notn, ↓w_and, ↓w_or, ↓l_not, ↓l_ite, ↓l_tup, ↓l_lst, ↓w_dct, ↓w_mutD, ↓mut_lst, ↓mut_dct, ↓l_idx, ↓l_slc, ↓nb_nul, ↓nb_int, ↓nb_var, ↓nb_con, ↓nb_bin, ↓nb_neg, ↓nb_idx, ↓nb_call, ↓nb_bi, ↓w_call, ↓l_bi, ↓l_bm, ↓l_isi, ↓w_evs, ↓w_evs0, ↓w_and0, ↓l_and1, ↓w_or0, ↓l_or1, ↓l_ssub, ↓s_whlD, ↓l_app, ↓WP_ok, ↓WS_nx, ↓WS_rt, ↓WP_bind, ↓WP_ofE, ↓WB_t, ↓WB_f, ↓WB_n, ↓WB_dec, ↓WB_all, ↓WB_any, ↓WB_lt, ↓WB_sub, ↓WB_emp, ↓WB_eqv, ↓WB_and, ↓WB_or, ↓SB_t, ↓SB_f, ↓SB_n, ↓SB_dec, ↓SB_all, ↓SB_any, ↓SB_lt, ↓SB_sub, ↓SB_emp, ↓SB_eqv, ↓SB_and, ↓SB_or, ↓EX_some, ↓EX_none, ↓EX_map, ↓EB_bl, ↓EI_int, ↓x_g0, ↓x_gs, ↓x_at0, ↓x_at1, ↓x_at2, ↓x_a0, ↓x_as, ↓x_atup2, ↓x_atup3, ↓x_mod_i, ↓x_bnd, ↓x_str_i, ↓x_str_b, ↓x_upper, ↓x_all, ↓x_any, ↓x_sum, ↓x_add_i, ↓x_sub_i, ↓x_mul_i, ↓x_div_i, ↓x_pow_i, ↓x_add_s, ↓x_add_t, ↓x_add_l, ↓x_mul_s, ↓x_mul_t, ↓x_mul_l, ↓x_lt_i, ↓x_le_i, ↓x_gt_i, ↓x_ge_i, ↓x_lt_s, ↓x_le_s, ↓x_eq_i, ↓x_ne_i, ↓x_eq_s, ↓x_ne_s, ↓x_eq_nil, ↓x_ne_nil, ↓x_in_s, ↓x_nin_s, ↓x_len_l, ↓x_len_t, ↓x_len_s, ↓x_tuple_l, ↓x_tuple_t, ↓x_list_t, ↓x_list_l, ↓x_list_s, ↓x_int_i, ↓x_int_b, ↓x_abs, ↓x_str_s, ↓x_slc_t, ↓x_slc_l, ↓x_slc_s, ↓x_idx_t, ↓x_idx_l, ↓x_isi_nb, ↓x_isi_ni, ↓x_isi_ns, ↓x_isi_nt, ↓x_isi_nl, ↓x_isi_nd, ↓x_isi_bb, ↓x_isi_bi, ↓x_isi_bs, ↓x_isi_bt, ↓x_isi_bl, ↓x_isi_bd, ↓x_isi_ib, ↓x_isi_ii, ↓x_isi_is, ↓x_isi_it, ↓x_isi_il, ↓x_isi_id, ↓x_isi_sb, ↓x_isi_si, ↓x_isi_ss, ↓x_isi_st, ↓x_isi_sl, ↓x_isi_sd, ↓x_isi_tb, ↓x_isi_ti, ↓x_isi_ts, ↓x_isi_tt, ↓x_isi_tl, ↓x_isi_td, ↓x_isi_lb, ↓x_isi_li, ↓x_isi_ls, ↓x_isi_lt, ↓x_isi_ll, ↓x_isi_ld, ↓x_isi_db, ↓x_isi_di, ↓x_isi_ds, ↓x_isi_dt, ↓x_isi_dl, ↓x_isi_dd, emp_flt, List.length_cons, List.length_nil, on_join, on_split, on_upper, on_count, on_rstrip, on_sindex, on_tindex, true_and, and_true, eq_self, Nat.reduceAdd, Nat.reduceLeDiff, Nat.zero_add, isI_n, isI_b, isI_i, isI_s, isI_t, isI_l, isI_d, isI_c, isI_r, isB_n, isB_b, isB_i, isB_s, isB_t, isB_l, isB_d, isB_c, isB_r, isS_n, isS_b, isS_i, isS_s, isS_t, isS_l, isS_d, isS_c, isS_r, isT_n, isT_b, isT_i, isT_s, isT_t, isT_l, isT_d, isT_c, isT_r, ↓x_con0, ↓x_con1, ↓x_con2, ↓x_con3, ↓x_con4, ↓x_con5, ↓x_con6, ↓x_con7, ↓WB_isI, ↓WB_isB, ↓WB_isS, ↓WB_isT, ↓SB_isI, ↓SB_isB, ↓SB_isS, ↓SB_isT])
          simp only [↓s_cons, ↓s_nil, ↓l_asg, ↓s_ret, ↓l_site, ↓s_exp, ↓s_pass, ↓w_non, ↓w_bl, ↓w_int, ↓w_str, ↓l_var, ↓l_con, ↓l_bin, ↓l_neg, ↓l_cmp, ↓l_chn, ↓w_isn, ↓w_notn, ↓w_and, ↓w_or, ↓l_not, ↓l_ite, ↓l_tup, ↓l_lst, ↓w_dct, ↓w_mutD, ↓mut_lst, ↓mut_dct, ↓l_idx, ↓l_slc, ↓nb_nul, ↓nb_int, ↓nb_var, ↓nb_con, ↓nb_bin, ↓nb_neg, ↓nb_idx, ↓nb_call, ↓nb_bi, ↓w_call, ↓l_bi, ↓l_bm, ↓l_isi, ↓w_evs, ↓w_evs0, ↓w_and0, ↓l_and1, ↓w_or0, ↓l_or1, ↓l_ssub, ↓s_whlD, ↓l_app, ↓WP_ok, ↓WS_nx, ↓WS_rt, ↓WP_bind, ↓WP_ofE, ↓WB_t, ↓WB_f, ↓WB_n, ↓WB_dec, ↓WB_all, ↓WB_any, ↓WB_lt, ↓WB_sub, ↓WB_emp, ↓WB_eqv, ↓WB_and, ↓WB_or, ↓SB_t, ↓SB_f, ↓SB_n, ↓SB_dec, ↓SB_all, ↓SB_any, ↓SB_lt, ↓SB_sub, ↓SB_emp, ↓SB_eqv, ↓SB_and, ↓SB_or, ↓EX_some, ↓EX_none, ↓EX_map, ↓EB_bl, ↓EI_int, ↓x_g0, ↓x_gs, ↓x_at0, ↓x_at1, ↓x_at2, ↓x_a0, ↓x_as, ↓x_atup2, ↓x_atup3, ↓x_mod_i, ↓x_bnd, ↓x_str_i, ↓x_str_b, ↓x_upper, ↓x_all, ↓x_any, ↓x_sum, ↓x_add_i, ↓x_sub_i, ↓x_mul_i, ↓x_div_i, ↓x_pow_i, ↓x_add_s, ↓x_add_t, ↓x_add_l, ↓x_mul_s, ↓x_mul_t, ↓x_mul_l, ↓x_lt_i, ↓x_le_i, ↓x_gt_i, ↓x_ge_i, ↓x_lt_s, ↓x_le_s, ↓x_eq_i, ↓x_ne_i, ↓x_eq_s, ↓x_ne_s, ↓x_eq_nil, ↓x_ne_nil, ↓x_in_s, ↓x_nin_s, ↓x_len_l, ↓x_len_t, ↓x_len_s, ↓x_tuple_l, ↓x_tuple_t, ↓x_list_t, ↓x_list_l, ↓x_list_s, ↓x_int_i, ↓x_int_b, ↓x_abs, ↓x_str_s, ↓x_slc_t, ↓x_slc_l, ↓x_slc_s, ↓x_idx_t, ↓x_idx_l, ↓x_isi_nb, ↓x_isi_ni, ↓x_isi_ns, ↓x_isi_nt, ↓x_isi_nl, ↓x_isi_nd, ↓x_isi_bb, ↓x_isi_bi, ↓x_isi_bs, ↓x_isi_bt, ↓x_isi_bl, ↓x_isi_bd, ↓x_isi_ib, ↓x_isi_ii, ↓x_isi_is, ↓x_isi_it, ↓x_isi_il, ↓x_isi_id, ↓x_isi_sb, ↓x_isi_si, ↓x_isi_ss, ↓x_isi_st, ↓x_isi_sl, ↓x_isi_sd, ↓x_isi_tb, ↓x_isi_ti, ↓x_isi_ts, ↓x_isi_tt, ↓x_isi_tl, ↓x_isi_td, ↓x_isi_lb, ↓x_isi_li, ↓x_isi_ls, ↓x_isi_lt, ↓x_isi_ll, ↓x_isi_ld, ↓x_isi_db, ↓x_isi_di, ↓x_isi_ds, ↓x_isi_dt, ↓x_isi_dl, ↓x_isi_dd, emp_flt, List.length_cons, List.length_nil, on_join, on_split, on_upper, on_count, on_rstrip, on_sindex, on_tindex, true_and, and_true, eq_self, Nat.reduceAdd, Nat.reduceLeDiff, Nat.zero_add, isI_n, isI_b, isI_i, isI_s, isI_t, isI_l, isI_d, isI_c, isI_r, isB_n, isB_b, isB_i, isB_s, isB_t, isB_l, isB_d, isB_c, isB_r, isS_n, isS_b, isS_i, isS_s, isS_t, isS_l, isS_d, isS_c, isS_r, isT_n, isT_b, isT_i, isT_s, isT_t, isT_l, isT_d, isT_c, isT_r, ↓x_con0, ↓x_con1, ↓x_con2, ↓x_con3, ↓x_con4, ↓x_con5, ↓x_con6, ↓x_con7, ↓WB_isI, ↓WB_isB, ↓WB_isS, ↓WB_isT, ↓SB_isI, ↓SB_isB, ↓SB_isS, ↓SB_isT, ↓k1]
          have e1 : decide (0 < (cs.length : Int)) = decide (1 ≤ (cs.length : Int)) := decide_eq_decide.mpr (by omega)
          simp only [lineB, e1, all_and]
          by_cases h0 : 0 ≤ i <;> by_cases h1 : i ≤ 6 <;> by_cases h2 : 1 ≤ (cs.length : Int) <;> by_cases h3 : (cs.length : Int) ≤ 12 <;> simp only [h0, h1, h2, h3, decide_true, decide_false, Bool.and_true, Bool.and_false, Bool.false_and, Bool.true_and, imp_self, true_imp_iff, false_imp_iff, not_true_eq_false, not_false_eq_true, and_self, Bool.not_false, Bool.false_eq_true, Bool.true_eq_false, implies_true, and_true, eq_self] <;> simp
        | scr _ => cases hb.1
        | ref _ => cases hb.1
        | _ => simp only [↓s_cons, ↓s_nil, ↓l_asg, ↓s_ret, ↓l_site, ↓s_exp, ↓s_pass, ↓w_non, ↓w_bl, ↓w_int, ↓w_str, ↓l_var, ↓l_con, ↓l_bin, ↓l_neg, ↓l_cmp, ↓l_chn, ↓w_isn, ↓w_notn, ↓w_and, ↓w_or, ↓l_not, ↓l_ite, ↓l_tup, ↓l_lst, ↓w_dct, ↓w_mutD, ↓mut_lst, ↓mut_dct, ↓l_idx, ↓l_slc, ↓nb_nul, ↓nb_int, ↓nb_var, ↓nb_con, ↓nb_bin, ↓nb_neg, ↓nb_idx, ↓nb_call, ↓nb_bi, ↓w_call, ↓l_bi, ↓l_bm, ↓l_isi, ↓w_evs, ↓w_evs0, ↓w_and0, ↓l_and1, ↓w_or0, ↓l_or1, ↓l_ssub, ↓s_whlD, ↓l_app, ↓WP_ok, ↓WS_nx, ↓WS_rt, ↓WP_bind, ↓WP_ofE, ↓WB_t, ↓WB_f, ↓WB_n, ↓WB_dec, ↓WB_all, ↓WB_any, ↓WB_lt, ↓WB_sub, ↓WB_emp, ↓WB_eqv, ↓WB_and, ↓WB_or, ↓SB_t, ↓SB_f, ↓SB_n, ↓SB_dec, ↓SB_all, ↓SB_any, ↓SB_lt, ↓SB_sub, ↓SB_emp, ↓SB_eqv, ↓SB_and, ↓SB_or, ↓EX_some, ↓EX_none, ↓EX_map, ↓EB_bl, ↓EI_int, ↓x_g0, ↓x_gs, ↓x_at0, ↓x_at1, ↓x_at2, ↓x_a0, ↓x_as, ↓x_atup2, ↓x_atup3, ↓x_mod_i, ↓x_bnd, ↓x_str_i, ↓x_str_b, ↓x_upper, ↓x_all, ↓x_any, ↓x_sum, ↓x_add_i, ↓x_sub_i, ↓x_mul_i, ↓x_div_i, ↓x_pow_i, ↓x_add_s, ↓x_add_t, ↓x_add_l, ↓x_mul_s, ↓x_mul_t, ↓x_mul_l, ↓x_lt_i, ↓x_le_i, ↓x_gt_i, ↓x_ge_i, ↓x_lt_s, ↓x_le_s, ↓x_eq_i, ↓x_ne_i, ↓x_eq_s, ↓x_ne_s, ↓x_eq_nil, ↓x_ne_nil, ↓x_in_s, ↓x_nin_s, ↓x_len_l, ↓x_len_t, ↓x_len_s, ↓x_tuple_l, ↓x_tuple_t, ↓x_list_t, ↓x_list_l, ↓x_list_s, ↓x_int_i, ↓x_int_b, ↓x_abs, ↓x_str_s, ↓x_slc_t, ↓x_slc_l, ↓x_slc_s, ↓x_idx_t, ↓x_idx_l, ↓x_isi_nb, ↓x_isi_ni, ↓x_isi_ns, ↓x_isi_nt, ↓x_isi_nl, ↓x_isi_nd, ↓x_isi_bb, ↓x_isi_bi, ↓x_isi_bs, ↓x_isi_bt, ↓x_isi_bl, ↓x_isi_bd, ↓x_isi_ib, ↓x_isi_ii, ↓x_isi_is, ↓x_isi_it, ↓x_isi_il, ↓x_isi_id, ↓x_isi_sb, ↓x_isi_si, ↓x_isi_ss, ↓x_isi_st, ↓x_isi_sl, ↓x_isi_sd, ↓x_isi_tb, ↓x_isi_ti, ↓x_isi_ts, ↓x_isi_tt, ↓x_isi_tl, ↓x_isi_td, ↓x_isi_lb, ↓x_isi_li, ↓x_isi_ls, ↓x_isi_lt, ↓x_isi_ll, ↓x_isi_ld, ↓x_isi_db, ↓x_isi_di, ↓x_isi_ds, ↓x_isi_dt, ↓x_isi_dl, ↓x_isi_dd, emp_flt, List.length_cons, List.length_nil, on_join, on_split, on_upper, on_count, on_rstrip, on_sindex, on_tindex, true_and, and_true, eq_self, Nat.reduceAdd, Nat.reduceLeDiff, Nat.zero_add, isI_n, isI_b, isI_i, isI_s, isI_t, isI_l, isI_d, isI_c, isI_r, isB_n, isB_b, isB_i, isB_s, isB_t, isB_l, isB_d, isB_c, isB_r, isS_n, isS_b, isS_i, isS_s, isS_t, isS_l, isS_d, isS_c, isS_r, isT_n, isT_b, isT_i, isT_s, isT_t, isT_l, isT_d, isT_c, isT_r, ↓x_con0, ↓x_con1, ↓x_con2, ↓x_con3, ↓x_con4, ↓x_con5, ↓x_con6, ↓x_con7, ↓WB_isI, ↓WB_isB, ↓WB_isS, ↓WB_isT, ↓SB_isI, ↓SB_isB, ↓SB_isS, ↓SB_isT]; simp [lineB]; done
      | scr _ => cases ha.1
      | ref _ => cases ha.1
      | _ => cases b with
        | tup cs => simp only [↓s_cons, ↓s_nil, ↓l_asg, ↓s_ret, ↓l_site, ↓s_exp, ↓s_pass, ↓w_non, ↓w_bl, ↓w_int, ↓w_str, ↓l_var, ↓l_con, ↓l_bin, ↓l_neg, ↓l_cmp, ↓l_chn, ↓w_isn, ↓w_notn, ↓w_and, ↓w_or, ↓l_not, ↓l_ite, ↓l_tup, ↓l_lst, ↓w_dct, ↓w_mutD, ↓mut_lst, ↓mut_dct, ↓l_idx, ↓l_slc, ↓nb_nul, ↓nb_int, ↓nb_var, ↓nb_con, ↓nb_bin, ↓nb_neg, ↓nb_idx, ↓nb_call, ↓nb_bi, ↓w_call, ↓l_bi, ↓l_bm, ↓l_isi, ↓w_evs, ↓w_evs0, ↓w_and0, ↓l_and1, ↓w_or0, ↓l_or1, ↓l_ssub, ↓s_whlD, ↓l_app, ↓WP_ok, ↓WS_nx, ↓WS_rt, ↓WP_bind, ↓WP_ofE, ↓WB_t, ↓WB_f, ↓WB_n, ↓WB_dec, ↓WB_all, ↓WB_any, ↓WB_lt, ↓WB_sub, ↓WB_emp, ↓WB_eqv, ↓WB_and, ↓WB_or, ↓SB_t, ↓SB_f, ↓SB_n, ↓SB_dec, ↓SB_all, ↓SB_any, ↓SB_lt, ↓SB_sub, ↓SB_emp, ↓SB_eqv, ↓SB_and, ↓SB_or, ↓EX_some, ↓EX_none, ↓EX_map, ↓EB_bl, ↓EI_int, ↓x_g0, ↓x_gs, ↓x_at0, ↓x_at1, ↓x_at2, ↓x_a0, ↓x_as, ↓x_atup2, ↓x_atup3, ↓x_mod_i, ↓x_bnd, ↓x_str_i, ↓x_str_b, ↓x_upper, ↓x_all, ↓x_any, ↓x_sum, ↓x_add_i, ↓x_sub_i, ↓x_mul_i, ↓x_div_i, ↓x_pow_i, ↓x_add_s, ↓x_add_t, ↓x_add_l, ↓x_mul_s, ↓x_mul_t, ↓x_mul_l, ↓x_lt_i, ↓x_le_i, ↓x_gt_i, ↓x_ge_i, ↓x_lt_s, ↓x_le_s, ↓x_eq_i, ↓x_ne_i, ↓x_eq_s, ↓x_ne_s, ↓x_eq_nil, ↓x_ne_nil, ↓x_in_s, ↓x_nin_s, ↓x_len_l, ↓x_len_t, ↓x_len_s, ↓x_tuple_l, ↓x_tuple_t, ↓x_list_t, ↓x_list_l, ↓x_list_s, ↓x_int_i, ↓x_int_b, ↓x_abs, ↓x_str_s, ↓x_slc_t, ↓x_slc_l, ↓x_slc_s, ↓x_idx_t, ↓x_idx_l, ↓x_isi_nb, ↓x_isi_ni, ↓x_isi_ns, ↓x_isi_nt, ↓x_isi_nl, ↓x_isi_nd, ↓x_isi_bb, ↓x_isi_bi, ↓x_isi_bs, ↓x_isi_bt, ↓x_isi_bl, ↓x_isi_bd, ↓x_isi_ib, ↓x_isi_ii, ↓x_isi_is, ↓x_isi_it, ↓x_isi_il, ↓x_isi_id, ↓x_isi_sb, ↓x_isi_si, ↓x_isi_ss, ↓x_isi_st, ↓x_isi_sl, ↓x_isi_sd, ↓x_isi_tb, ↓x_isi_ti, ↓x_isi_ts, ↓x_isi_tt, ↓x_isi_tl, ↓x_isi_td, ↓x_isi_lb, ↓x_isi_li, ↓x_isi_ls, ↓x_isi_lt, ↓x_isi_ll, ↓x_isi_ld, ↓x_isi_db, ↓x_isi_di, ↓x_isi_ds, ↓x_isi_dt, ↓x_isi_dl, ↓x_isi_dd, emp_flt, List.length_cons, List.length_nil, on_join, on_split, on_upper, on_count, on_rstrip, on_sindex, on_tindex, true_and, and_true, eq_self, Nat.reduceAdd, Nat.reduceLeDiff, Nat.zero_add, isI_n, isI_b, isI_i, isI_s, isI_t, isI_l, isI_d, isI_c, isI_r, isB_n, isB_b, isB_i, isB_s, isB_t, isB_l, isB_d, isB_c, isB_r, isS_n, isS_b, isS_i, isS_s, isS_t, isS_l, isS_d, isS_c, isS_r, isT_n, isT_b, isT_i, isT_s, isT_t, isT_l, isT_d, isT_c, isT_r, ↓x_con0, ↓x_con1, ↓x_con2, ↓x_con3, ↓x_con4, ↓x_con5, ↓x_con6, ↓x_con7, ↓WB_isI, ↓WB_isB, ↓WB_isS, ↓WB_isT, ↓SB_isI, ↓SB_isB, ↓SB_isS, ↓SB_isT]; simp [lineB]; done
        | scr _ => cases hb.1
        | ref _ => cases hb.1
        | _ => simp only [↓s_cons, ↓s_nil, ↓l_asg, ↓s_ret, ↓l_site, ↓s_exp, ↓s_pass, ↓w_non, ↓w_bl, ↓w_int, ↓w_str, ↓l_var, ↓l_con, ↓l_bin, ↓l_neg, ↓l_cmp, ↓l_chn, ↓w_isn, ↓w_notn, ↓w_and, ↓w_or, ↓l_not, ↓l_ite, ↓l_tup, ↓l_lst, ↓w_dct, ↓w_mutD, ↓mut_lst, ↓mut_dct, ↓l_idx, ↓l_slc, ↓nb_nul, ↓nb_int, ↓nb_var, ↓nb_con, ↓nb_bin, ↓nb_neg, ↓nb_idx, ↓nb_call, ↓nb_bi, ↓w_call, ↓l_bi, ↓l_bm, ↓l_isi, ↓w_evs, ↓w_evs0, ↓w_and0, ↓l_and1, ↓w_or0, ↓l_or1, ↓l_ssub, ↓s_whlD, ↓l_app, ↓WP_ok, ↓WS_nx, ↓WS_rt, ↓WP_bind, ↓WP_ofE, ↓WB_t, ↓WB_f, ↓WB_n, ↓WB_dec, ↓WB_all, ↓WB_any, ↓WB_lt, ↓WB_sub, ↓WB_emp, ↓WB_eqv, ↓WB_and, ↓WB_or, ↓SB_t, ↓SB_f, ↓SB_n, ↓SB_dec, ↓SB_all, ↓SB_any, ↓SB_lt, ↓SB_sub, ↓SB_emp, ↓SB_eqv, ↓SB_and, ↓SB_or, ↓EX_some, ↓EX_none, ↓EX_map, ↓EB_bl, ↓EI_int, ↓x_g0, ↓x_gs, ↓x_at0, ↓x_at1, ↓x_at2, ↓x_a0, ↓x_as, ↓x_atup2, ↓x_atup3, ↓x_mod_i, ↓x_bnd, ↓x_str_i, ↓x_str_b, ↓x_upper, ↓x_all, ↓x_any, ↓x_sum, ↓x_add_i, ↓x_sub_i, ↓x_mul_i, ↓x_div_i, ↓x_pow_i, ↓x_add_s, ↓x_add_t, ↓x_add_l, ↓x_mul_s, ↓x_mul_t, ↓x_mul_l, ↓x_lt_i, ↓x_le_i, ↓x_gt_i, ↓x_ge_i, ↓x_lt_s, ↓x_le_s, ↓x_eq_i, ↓x_ne_i, ↓x_eq_s, ↓x_ne_s, ↓x_eq_nil, ↓x_ne_nil, ↓x_in_s, ↓x_nin_s, ↓x_len_l, ↓x_len_t, ↓x_len_s, ↓x_tuple_l, ↓x_tuple_t, ↓x_list_t, ↓x_list_l, ↓x_list_s, ↓x_int_i, ↓x_int_b, ↓x_abs, ↓x_str_s, ↓x_slc_t, ↓x_slc_l, ↓x_slc_s, ↓x_idx_t, ↓x_idx_l, ↓x_isi_nb, ↓x_isi_ni, ↓x_isi_ns, ↓x_isi_nt, ↓x_isi_nl, ↓x_isi_nd, ↓x_isi_bb, ↓x_isi_bi, ↓x_isi_bs, ↓x_isi_bt, ↓x_isi_bl, ↓x_isi_bd, ↓x_isi_ib, ↓x_isi_ii, ↓x_isi_is, ↓x_isi_it, ↓x_isi_il, ↓x_isi_id, ↓x_isi_sb, ↓x_isi_si, ↓x_isi_ss, ↓x_isi_st, ↓x_isi_sl, ↓x_isi_sd, ↓x_isi_tb, ↓x_isi_ti, ↓x_isi_ts, ↓x_isi_tt, ↓x_isi_tl, ↓x_isi_td, ↓x_isi_lb, ↓x_isi_li, ↓x_isi_ls, ↓x_isi_lt, ↓x_isi_ll, ↓x_isi_ld, ↓x_isi_db, ↓x_isi_di, ↓x_isi_ds, ↓x_isi_dt, ↓x_isi_dl, ↓x_isi_dd, emp_flt, List.length_cons, List.length_nil, on_join, on_split, on_upper, on_count, on_rstrip, on_sindex, on_tindex, true_and, and_true, eq_self, Nat.reduceAdd, Nat.reduceLeDiff, Nat.zero_add, isI_n, isI_b, isI_i, isI_s, isI_t, isI_l, isI_d, isI_c, isI_r, isB_n, isB_b, isB_i, isB_s, isB_t, isB_l, isB_d, isB_c, isB_r, isS_n, isS_b, isS_i, isS_s, isS_t, isS_l, isS_d, isS_c, isS_r, isT_n, isT_b, isT_i, isT_s, isT_t, isT_l, isT_d, isT_c, isT_r, ↓x_con0, ↓x_con1, ↓x_con2, ↓x_con3, ↓x_con4, ↓x_con5, ↓x_con6, ↓x_con7, ↓WB_isI, ↓WB_isB, ↓WB_isS, ↓WB_isT, ↓SB_isI, ↓SB_isB, ↓SB_isS, ↓SB_isT]; simp [lineB]; done
    · rw [line_no hl]
      simp only [↓s_cons, ↓s_nil, ↓l_asg, ↓s_ret, ↓l_site, ↓s_exp, ↓s_pass, ↓w_non, ↓w_bl, ↓w_int, ↓w_str, ↓l_var, ↓l_con, ↓l_bin, ↓l_neg, ↓l_cmp, ↓l_chn, ↓w_isn, ↓w_notn, ↓w_and, ↓w_or, ↓l_not, ↓l_ite, ↓l_tup, ↓l_lst, ↓w_dct, ↓w_mutD, ↓mut_lst, ↓mut_dct, ↓l_idx, ↓l_slc, ↓nb_nul, ↓nb_int, ↓nb_var, ↓nb_con, ↓nb_bin, ↓nb_neg, ↓nb_idx, ↓nb_call, ↓nb_bi, ↓w_call, ↓l_bi, ↓l_bm, ↓l_isi, ↓w_evs, ↓w_evs0, ↓w_and0, ↓l_and1, ↓w_or0, ↓l_or1, ↓l_ssub, ↓s_whlD, ↓l_app, ↓WP_ok, ↓WS_nx, ↓WS_rt, ↓WP_bind, ↓WP_ofE, ↓WB_t, ↓WB_f, ↓WB_n, ↓WB_dec, ↓WB_all, ↓WB_any, ↓WB_lt, ↓WB_sub, ↓WB_emp, ↓WB_eqv, ↓WB_and, ↓WB_or, ↓SB_t, ↓SB_f, ↓SB_n, ↓SB_dec, ↓SB_all, ↓SB_any, ↓SB_lt, ↓SB_sub, ↓SB_emp, ↓SB_eqv, ↓SB_and, ↓SB_or, ↓EX_some, ↓EX_none, ↓EX_map, ↓EB_bl, ↓EI_int, ↓x_g0, ↓x_gs, ↓x_at0, ↓x_at1, ↓x_at2, ↓x_a0, ↓x_as, ↓x_atup2, ↓x_atup3, ↓x_mod_i, ↓x_bnd, ↓x_str_i, ↓x_str_b, ↓x_upper, ↓x_all, ↓x_any, ↓x_sum, ↓x_add_i, ↓x_sub_i, ↓x_mul_i, ↓x_div_i, ↓x_pow_i, ↓x_add_s, ↓x_add_t, ↓x_add_l, ↓x_mul_s, ↓x_mul_t, ↓x_mul_l, ↓x_lt_i, ↓x_le_i, ↓x_gt_i, ↓x_ge_i, ↓x_lt_s, ↓x_le_s, ↓x_eq_i, ↓x_ne_i, ↓x_eq_s, ↓x_ne_s, ↓x_eq_nil, ↓x_ne_nil, ↓x_in_s, ↓x_nin_s, ↓x_len_l, ↓x_len_t, ↓x_len_s, ↓x_tuple_l, ↓x_tuple_t, ↓x_list_t, ↓x_list_l, ↓x_list_s, ↓x_int_i, ↓x_int_b, ↓x_abs, ↓x_str_s, ↓x_slc_t, ↓x_slc_l, ↓x_slc_s, ↓x_idx_t, ↓x_idx_l, ↓x_isi_nb, ↓x_isi_ni, ↓x_isi_ns, ↓x_isi_nt, ↓x_isi_nl, ↓x_isi_nd, ↓x_isi_bb, ↓x_isi_bi, ↓x_isi_bs, ↓x_isi_bt, ↓x_isi_bl, ↓x_isi_bd, ↓x_isi_ib, ↓x_isi_ii, ↓x_isi_is, ↓x_isi_it, ↓x_isi_il, ↓x_isi_id, ↓x_isi_sb, ↓x_isi_si, ↓x_isi_ss, ↓x_isi_st, ↓x_isi_sl, ↓x_isi_sd, ↓x_isi_tb, ↓x_isi_ti, ↓x_isi_ts, ↓x_isi_tt, ↓x_isi_tl, ↓x_isi_td, ↓x_isi_lb, ↓x_isi_li, ↓x_isi_ls, ↓x_isi_lt, ↓x_isi_ll, ↓x_isi_ld, ↓x_isi_db, ↓x_isi_di, ↓x_isi_ds, ↓x_isi_dt, ↓x_isi_dl, ↓x_isi_dd, emp_flt, List.length_cons, List.length_nil, on_join, on_split, on_upper, on_count, on_rstrip, on_sindex, on_tindex, true_and, and_true, eq_self, Nat.reduceAdd, Nat.reduceLeDiff, Nat.zero_add, isI_n, isI_b, isI_i, isI_s, isI_t, isI_l, isI_d, isI_c, isI_r, isB_n, isB_b, isB_i, isB_s, isB_t, isB_l, isB_d, isB_c, isB_r, isS_n, isS_b, isS_i, isS_s, isS_t, isS_l, isS_d, isS_c, isS_r, isT_n, isT_b, isT_i, isT_s, isT_t, isT_l, isT_d, isT_c, isT_r, ↓x_con0, ↓x_con1, ↓x_con2, ↓x_con3, ↓x_con4, ↓x_con5, ↓x_con6, ↓x_con7, ↓WB_isI, ↓WB_isB, ↓WB_isS, ↓WB_isT, ↓SB_isI, ↓SB_isB, ↓SB_isS, ↓SB_isT]
      have : ¬ (xs.length : Int) = 2 := by omega
      simp [this]
  | scr _ => cases h.1
  | ref _ => cases h.1
  | _ => simp only [↓s_cons, ↓s_nil, ↓l_asg, ↓s_ret, ↓l_site, ↓s_exp, ↓s_pass, ↓w_non, ↓w_bl, ↓w_int, ↓w_str, ↓l_var, ↓l_con, ↓l_bin, ↓l_neg, ↓l_cmp, ↓l_chn, ↓w_isn, ↓w_notn, ↓w_and, ↓w_or, ↓l_not, ↓l_ite, ↓l_tup, ↓l_lst, ↓w_dct, ↓w_mutD, ↓mut_lst, ↓mut_dct, ↓l_idx, ↓l_slc, ↓nb_nul, ↓nb_int, ↓nb_var, ↓nb_con, ↓nb_bin, ↓nb_neg, ↓nb_idx, ↓nb_call, ↓nb_bi, ↓w_call, ↓l_bi, ↓l_bm, ↓l_isi, ↓w_evs, ↓w_evs0, ↓w_and0, ↓l_and1, ↓w_or0, ↓l_or1, ↓l_ssub, ↓s_whlD, ↓l_app, ↓WP_ok, ↓WS_nx, ↓WS_rt, ↓WP_bind, ↓WP_ofE, ↓WB_t, ↓WB_f, ↓WB_n, ↓WB_dec, ↓WB_all, ↓WB_any, ↓WB_lt, ↓WB_sub, ↓WB_emp, ↓WB_eqv, ↓WB_and, ↓WB_or, ↓SB_t, ↓SB_f, ↓SB_n, ↓SB_dec, ↓SB_all, ↓SB_any, ↓SB_lt, ↓SB_sub, ↓SB_emp, ↓SB_eqv, ↓SB_and, ↓SB_or, ↓EX_some, ↓EX_none, ↓EX_map, ↓EB_bl, ↓EI_int, ↓x_g0, ↓x_gs, ↓x_at0, ↓x_at1, ↓x_at2, ↓x_a0, ↓x_as, ↓x_atup2, ↓x_atup3, ↓x_mod_i, ↓x_bnd, ↓x_str_i, ↓x_str_b, ↓x_upper, ↓x_all, ↓x_any, ↓x_sum, ↓x_add_i, ↓x_sub_i, ↓x_mul_i, ↓x_div_i, ↓x_pow_i, ↓x_add_s, ↓x_add_t, ↓x_add_l, ↓x_mul_s, ↓x_mul_t, ↓x_mul_l, ↓x_lt_i, ↓x_le_i, ↓x_gt_i, ↓x_ge_i, ↓x_lt_s, ↓x_le_s, ↓x_eq_i, ↓x_ne_i, ↓x_eq_s, ↓x_ne_s, ↓x_eq_nil, ↓x_ne_nil, ↓x_in_s, ↓x_nin_s, ↓x_len_l, ↓x_len_t, ↓x_len_s, ↓x_tuple_l, ↓x_tuple_t, ↓x_list_t, ↓x_list_l, ↓x_list_s, ↓x_int_i, ↓x_int_b, ↓x_abs, ↓x_str_s, ↓x_slc_t, ↓x_slc_l, ↓x_slc_s, ↓x_idx_t, ↓x_idx_l, ↓x_isi_nb, ↓x_isi_ni, ↓x_isi_ns, ↓x_isi_nt, ↓x_isi_nl, ↓x_isi_nd, ↓x_isi_bb, ↓x_isi_bi, ↓x_isi_bs, ↓x_isi_bt, ↓x_isi_bl, ↓x_isi_bd, ↓x_isi_ib, ↓x_isi_ii, ↓x_isi_is, ↓x_isi_it, ↓x_isi_il, ↓x_isi_id, ↓x_isi_sb, ↓x_isi_si, ↓x_isi_ss, ↓x_isi_st, ↓x_isi_sl, ↓x_isi_sd, ↓x_isi_tb, ↓x_isi_ti, ↓x_isi_ts, ↓x_isi_tt, ↓x_isi_tl, ↓x_isi_td, ↓x_isi_lb, ↓x_isi_li, ↓x_isi_ls, ↓x_isi_lt, ↓x_isi_ll, ↓x_isi_ld, ↓x_isi_db, ↓x_isi_di, ↓x_isi_ds, ↓x_isi_dt, ↓x_isi_dl, ↓x_isi_dd, emp_flt, List.length_cons, List.length_nil, on_join, on_split, on_upper, on_count, on_rstrip, on_sindex, on_tindex, true_and, and_true, eq_self, Nat.reduceAdd, Nat.reduceLeDiff, Nat.zero_add, isI_n, isI_b, isI_i, isI_s, isI_t, isI_l, isI_d, isI_c, isI_r, isB_n, isB_b, isB_i, isB_s, isB_t, isB_l, isB_d, isB_c, isB_r, isS_n, isS_b, isS_i, isS_s, isS_t, isS_l, isS_d, isS_c, isS_r, isT_n, isT_b, isT_i, isT_s, isT_t, isT_l, isT_d, isT_c, isT_r, ↓x_con0, ↓x_con1, ↓x_con2, ↓x_con3, ↓x_con4, ↓x_con5, ↓x_con6, ↓x_con7, ↓WB_isI, ↓WB_isB, ↓WB_isS, ↓WB_isT, ↓SB_isI, ↓SB_isB, ↓SB_isS, ↓SB_isT]; simp [lineB]; done
def contB (d : D) : Bool := match d with
  | .tup xs => decide (0 < (xs.length : Int)) && decide ((xs.length : Int) ≤ 200) && xs.all lineB
  | _ => false
theorem run_content {n : Nat} {d : D} {st : Store} (h : Sm d) : cf (n + 6) 8 [d] st = .ok (.bl (contB d)) st := by
  refine ok_of (call_same (ft := f8) rfl rfl ?_)
  unfold f8
  walk_at "z0"
  cases d with
  | tup xs =>
    have k1 := wpk fun st => lc_M (Γ := txOf cons) (cf := cf (n + 5)) (own := [1]) (t := .nm 1) (k := .val) (its := [.var 0]) (e := .call 7 [.var 1]) (env := [some (.tup xs), none]) (st := st) (ds := [.tup xs]) (xs := xs) (fun x => .bl (lineB x))
      (evs_i1 (Is.eq (by unfold Is; simp only [↓s_cons, ↓s_nil, ↓l_asg, ↓s_ret, ↓l_site, ↓s_exp, ↓s_pass, ↓w_non, ↓w_bl, ↓w_int, ↓w_str, ↓l_var, ↓l_con, ↓l_bin, ↓l_neg, ↓l_cmp, ↓l_chn, ↓w_isn, ↓w_notn, ↓w_and, ↓w_or, ↓l_not, ↓l_ite, ↓l_tup, ↓l_lst, ↓w_dct, ↓w_mutD, ↓mut_lst, ↓mut_dct, ↓l_idx, ↓l_slc, ↓nb_nul, ↓nb_int, ↓nb_var, ↓nb_con, ↓nb_bin, ↓nb_neg, ↓nb_idx, ↓nb_call, ↓nb_bi, ↓w_call, ↓l_bi, ↓l_bm, ↓l_isi, ↓w_evs, ↓w_evs0, ↓w_and0, ↓l_and1, ↓w_or0, ↓l_or1, ↓l_ssub, ↓s_whlD, ↓l_app, ↓WP_ok, ↓WS_nx, ↓WS_rt, ↓WP_bind, ↓WP_ofE, ↓WB_t, ↓WB_f, ↓WB_n, ↓WB_dec, ↓WB_all, ↓WB_any, ↓WB_lt, ↓WB_sub, ↓WB_emp, ↓WB_eqv, ↓WB_and, ↓WB_or, ↓SB_t, ↓SB_f, ↓SB_n, ↓SB_dec, ↓SB_all, ↓SB_any, ↓SB_lt, ↓SB_sub, ↓SB_emp, ↓SB_eqv, ↓SB_and, ↓SB_or, ↓EX_some, ↓EX_none, ↓EX_map, ↓EB_bl, ↓EI_int, ↓x_g0, ↓x_gs, ↓x_at0, ↓x_at1, ↓x_at2, ↓x_a0, ↓x_as, ↓x_atup2, ↓x_atup3, ↓x_mod_i, ↓x_bnd, ↓x_str_i, ↓x_str_b, ↓x_upper, ↓x_all, ↓x_any, ↓x_sum, ↓x_add_i, ↓x_sub_i, ↓x_mul_i, ↓x_div_i, ↓x_pow_i, ↓x_add_s, ↓x_add_t, ↓x_add_l, ↓x_mul_s, ↓x_mul_t, ↓x_mul_l, ↓x_lt_i, ↓x_le_i, ↓x_gt_i, ↓x_ge_i, ↓x_lt_s, ↓x_le_s, ↓x_eq_i, ↓x_ne_i, ↓x_eq_s, ↓x_ne_s, ↓x_eq_nil, ↓x_ne_nil, ↓x_in_s, ↓x_nin_s, ↓x_len_l, ↓x_len_t, ↓x_len_s, ↓x_tuple_l, ↓x_tuple_t, ↓x_list_t, ↓x_list_l, ↓x_list_s, ↓x_int_i, ↓x_int_b, ↓x_abs, ↓x_str_s, ↓x_slc_t, ↓x_slc_l, ↓x_slc_s, ↓x_idx_t, ↓x_idx_l, ↓x_isi_nb, ↓x_isi_ni, ↓x_isi_ns, ↓x_isi_nt, ↓x_isi_nl, ↓x_isi_nd, ↓x_isi_bb, ↓x_isi_bi, ↓x_isi_bs, ↓x_isi_bt, ↓x_isi_bl, ↓x_isi_bd, ↓x_isi_ib, ↓x_isi_ii, ↓x_isi_is, ↓x_isi_it, ↓x_isi_il, ↓x_isi_id, ↓x_isi_sb, ↓x_isi_si, ↓x_isi_ss, ↓x_isi_st, ↓x_isi_sl, ↓x_isi_sd, ↓x_isi_tb, ↓x_isi_ti, ↓x_isi_ts, ↓x_isi_tt, ↓x_isi_tl, ↓x_isi_td, ↓x_isi_lb, ↓x_isi_li, ↓x_isi_ls, ↓x_isi_lt, ↓x_isi_ll, ↓x_isi_ld, ↓x_isi_db, ↓x_isi_di, ↓x_isi_ds, ↓x_isi_dt, ↓x_isi_dl, ↓x_isi_dd, emp_flt, List.length_cons, List.length_nil, on_join, on_split, on_upper, on_count, on_rstrip, on_sindex, on_tindex, true_and, and_true, eq_self, Nat.reduceAdd, Nat.reduceLeDiff, Nat.zero_add, isI_n, isI_b, isI_i, isI_s, isI_t, isI_l, isI_d, isI_c, isI_r, isB_n, isB_b, isB_i, isB_s, isB_t, isB_l, isB_d, isB_c, isB_r, isS_n, isS_b, isS_i, isS_s, isS_t, isS_l, isS_d, isS_c, isS_r, isT_n, isT_b, isT_i, isT_s, isT_t, isT_l, isT_d, isT_c, isT_r, ↓x_con0, ↓x_con1, ↓x_con2, ↓x_con3, ↓x_con4, ↓x_con5, ↓x_con6, ↓x_con7, ↓WB_isI, ↓WB_isB, ↓WB_isS, ↓WB_isT, ↓SB_isI, ↓SB_isB, ↓SB_isS, ↓SB_isT]))) rfl h.len fun x hx => (by
        simp only [wipeE, List.set_cons_zero, List.set_cons_succ, ↓x_a0, ↓x_as, ↓x_atup2, ↓x_atup3]
        refine Is.eq ?_
        unfold Is
        simp only [↓s_cons, ↓s_nil, ↓l_asg, ↓s_ret, ↓l_site, ↓s_exp, ↓s_pass, ↓w_non, ↓w_bl, ↓w_int, ↓w_str, ↓l_var, ↓l_con, ↓l_bin, ↓l_neg, ↓l_cmp, ↓l_chn, ↓w_isn, ↓w_notn, ↓w_and, ↓w_or, ↓l_not, ↓l_ite, ↓l_tup, ↓l_lst, ↓w_dct, ↓w_mutD, ↓mut_lst, ↓mut_dct, ↓l_idx, ↓l_slc, ↓nb_nul, ↓nb_int, ↓nb_var, ↓nb_con, ↓nb_bin, ↓nb_neg, ↓nb_idx, ↓nb_call, ↓nb_bi, ↓w_call, ↓l_bi, ↓l_bm, ↓l_isi, ↓w_evs, ↓w_evs0, ↓w_and0, ↓l_and1, ↓w_or0, ↓l_or1, ↓l_ssub, ↓s_whlD, ↓l_app, ↓WP_ok, ↓WS_nx, ↓WS_rt, ↓WP_bind, ↓WP_ofE, ↓WB_t, ↓WB_f, ↓WB_n, ↓WB_dec, ↓WB_all, ↓WB_any, ↓WB_lt, ↓WB_sub, ↓WB_emp, ↓WB_eqv, ↓WB_and, ↓WB_or, ↓SB_t, ↓SB_f, ↓SB_n, ↓SB_dec, ↓SB_all, ↓SB_any, ↓SB_lt, ↓SB_sub, ↓SB_emp, ↓SB_eqv, ↓SB_and, ↓SB_or, ↓EX_some, ↓EX_none, ↓EX_map, ↓EB_bl, ↓EI_int, ↓x_g0, ↓x_gs, ↓x_at0, ↓x_at1, ↓x_at2, ↓x_a0, ↓x_as, ↓x_atup2, ↓x_atup3, ↓x_mod_i, ↓x_bnd, ↓x_str_i, ↓x_str_b, ↓x_upper, ↓x_all, ↓x_any, ↓x_sum, ↓x_add_i, ↓x_sub_i, ↓x_mul_i, ↓x_div_i, ↓x_pow_i, ↓x_add_s, ↓x_add_t, ↓x_add_l, ↓x_mul_s, ↓x_mul_t, ↓x_mul_l, ↓x_lt_i, ↓x_le_i, ↓x_gt_i, ↓x_ge_i, ↓x_lt_s, ↓x_le_s, ↓x_eq_i, ↓x_ne_i, ↓x_eq_s, ↓x_ne_s, ↓x_eq_nil, ↓x_ne_nil, ↓x_in_s, ↓x_nin_s, ↓x_len_l, ↓x_len_t, ↓x_len_s, ↓x_tuple_l, ↓x_tuple_t, ↓x_list_t, ↓x_list_l, ↓x_list_s, ↓x_int_i, ↓x_int_b, ↓x_abs, ↓x_str_s, ↓x_slc_t, ↓x_slc_l, ↓x_slc_s, ↓x_idx_t, ↓x_idx_l, ↓x_isi_nb, ↓x_isi_ni, ↓x_isi_ns, ↓x_isi_nt, ↓x_isi_nl, ↓x_isi_nd, ↓x_isi_bb, ↓x_isi_bi, ↓x_isi_bs, ↓x_isi_bt, ↓x_isi_bl, ↓x_isi_bd, ↓x_isi_ib, ↓x_isi_ii, ↓x_isi_is, ↓x_isi_it, ↓x_isi_il, ↓x_isi_id, ↓x_isi_sb, ↓x_isi_si, ↓x_isi_ss, ↓x_isi_st, ↓x_isi_sl, ↓x_isi_sd, ↓x_isi_tb, ↓x_isi_ti, ↓x_isi_ts, ↓x_isi_tt, ↓x_isi_tl, ↓x_isi_td, ↓x_isi_lb, ↓x_isi_li, ↓x_isi_ls, ↓x_isi_lt, ↓x_isi_ll, ↓x_isi_ld, ↓x_isi_db, ↓x_isi_di, ↓x_isi_ds, ↓x_isi_dt, ↓x_isi_dl, ↓x_isi_dd, emp_flt, List.length_cons, List.length_nil, on_join, on_split, on_upper, on_count, on_rstrip, on_sindex, on_tindex, true_and, and_true, eq_self, Nat.reduceAdd, Nat.reduceLeDiff, Nat.zero_add, isI_n, isI_b, isI_i, isI_s, isI_t, isI_l, isI_d, isI_c, isI_r, isB_n, isB_b, isB_i, isB_s, isB_t, isB_l, isB_d, isB_c, isB_r, isS_n, isS_b, isS_i, isS_s, isS_t, isS_l, isS_d, isS_c, isS_r, isT_n, isT_b, isT_i, isT_s, isT_t, isT_l, isT_d, isT_c, isT_r, ↓x_con0, ↓x_con1, ↓x_con2, ↓x_con3, ↓x_con4, ↓x_con5, ↓x_con6, ↓x_con7, ↓WB_isI, ↓WB_isB, ↓WB_isS, ↓WB_isT, ↓SB_isI, ↓SB_isB, ↓SB_isS, ↓SB_isT, ↓wpc fun st => run_line (n := n) (st := st) (h.mem hx)])
    simp only [↓s_cons, ↓s_nil, ↓l_asg, ↓s_ret, ↓l_site, ↓s_exp, ↓s_pass, ↓w_non, ↓w_bl, ↓w_int, ↓w_str, ↓l_var, ↓l_con, ↓l_bin, ↓l_neg, ↓l_cmp, ↓l_chn, ↓w_isn, ↓w_notn, ↓w_and, ↓w_or, ↓l_not, ↓l_ite, ↓l_tup, ↓l_lst, ↓w_dct, ↓w_mutD, ↓mut_lst, ↓mut_dct, ↓l_idx, ↓l_slc, ↓nb_nul, ↓nb_int, ↓nb_var, ↓nb_con, ↓nb_bin, ↓nb_neg, ↓nb_idx, ↓nb_call, ↓nb_bi, ↓w_call, ↓l_bi, ↓l_bm, ↓l_isi, ↓w_evs, ↓w_evs0, ↓w_and0, ↓l_and1, ↓w_or0, ↓l_or1, ↓l_ssub, ↓s_whlD, ↓l_app, ↓WP_ok, ↓WS_nx, ↓WS_rt, ↓WP_bind, ↓WP_ofE, ↓WB_t, ↓WB_f, ↓WB_n, ↓WB_dec, ↓WB_all, ↓WB_any, ↓WB_lt, ↓WB_sub, ↓WB_emp, ↓WB_eqv, ↓WB_and, ↓WB_or, ↓SB_t, ↓SB_f, ↓SB_n, ↓SB_dec, ↓SB_all, ↓SB_any, ↓SB_lt, ↓SB_sub, ↓SB_emp, ↓SB_eqv, ↓SB_and, ↓SB_or, ↓EX_some, ↓EX_none, ↓EX_map, ↓EB_bl, ↓EI_int, ↓x_g0, ↓x_gs, ↓x_at0, ↓x_at1, ↓x_at2, ↓x_a0, ↓x_as, ↓x_atup2, ↓x_atup3, ↓x_mod_i, ↓x_bnd, ↓x_str_i, ↓x_str_b, ↓x_upper, ↓x_all, ↓x_any, ↓x_sum, ↓x_add_i, ↓x_sub_i, ↓x_mul_i, ↓x_div_i, ↓x_pow_i, ↓x_add_s, ↓x_add_t, ↓x_add_l, ↓x_mul_s, ↓x_mul_t, ↓x_mul_l, ↓x_lt_i, ↓x_le_i, ↓x_gt_i, ↓x_ge_i, ↓x_lt_s, ↓x_le_s, ↓x_eq_i, ↓x_ne_i, ↓x_eq_s, ↓x_ne_s, ↓x_eq_nil, ↓x_ne_nil, ↓x_in_s, ↓x_nin_s, ↓x_len_l, ↓x_len_t, ↓x_len_s, ↓x_tuple_l, ↓x_tuple_t, ↓x_list_t, ↓x_list_l, ↓x_list_s, ↓x_int_i, ↓x_int_b, ↓x_abs, ↓x_str_s, ↓x_slc_t, ↓x_slc_l, ↓x_slc_s, ↓x_idx_t, ↓x_idx_l, ↓x_isi_nb, ↓x_isi_ni, ↓x_isi_ns, ↓x_isi_nt, ↓x_isi_nl, ↓x_isi_nd, ↓x_isi_bb, ↓x_isi_bi, ↓x_isi_bs, ↓x_isi_bt, ↓x_isi_bl, ↓x_isi_bd, ↓x_isi_ib, ↓x_isi_ii, ↓x_isi_is, ↓x_isi_it, ↓x_isi_il, ↓x_isi_id, ↓x_isi_sb, ↓x_isi_si, ↓x_isi_ss, ↓x_isi_st, ↓x_isi_sl, ↓x_isi_sd, ↓x_isi_tb, ↓x_isi_ti, ↓x_isi_ts, ↓x_isi_tt, ↓x_isi_tl, ↓x_isi_td, ↓x_isi_lb, ↓x_isi_li, ↓x_isi_ls, ↓x_isi_lt, ↓x_isi_ll, ↓x_isi_ld, ↓x_isi_db, ↓x_isi_di, ↓x_isi_ds, ↓x_isi_dt, ↓x_isi_dl, ↓x_isi_dd, emp_flt, List.length_cons, List.length_nil, on_join, on_split, on_upper, on_count, on_rstrip, on_sindex, on_tindex, true_and, and_true, eq_self, Nat.reduceAdd, Nat.reduceLeDiff, Nat.zero_add, isI_n, isI_b, isI_i, isI_s, isI_t, isI_l, isI_d, isI_c, isI_r, isB_n, isB_b, isB_i, isB_s, isB_t, isB_l, isB_d, isB_c, isB_r, isS_n, isS_b, isS_i, isS_s, isS_t, isS_l, isS_d, isS_c, isS_r, isT_n, isT_b, isT_i, isT_s, isT_t, isT_l, isT_d, isT_c, isT_r, ↓x_con0, ↓x_con1, ↓x_con2, ↓x_con3, ↓x_con4, ↓x_con5, ↓x_con6, ↓x_con7, ↓WB_isI, ↓WB_isB, ↓WB_isS, ↓WB_isT, ↓SB_isI, ↓SB_isB, ↓SB_isS, ↓SB_isT, ↓k1]
    simp only [contB]
    by_cases h2 : 0 < (xs.length : Int) <;> by_cases h3 : (xs.length : Int) ≤ 200 <;> simp only [h2, h3, decide_true, decide_false, Bool.and_true, Bool.and_false, Bool.false_and, Bool.true_and, imp_self, true_imp_iff, false_imp_iff, not_true_eq_false, not_false_eq_true, and_self, Bool.not_false, Bool.false_eq_true, Bool.true_eq_false, implies_true, and_true, eq_self] <;> simp
  | scr _ => cases h.1
  | ref _ => cases h.1
  | _ => simp only [↓s_cons, ↓s_nil, ↓l_asg, ↓s_ret, ↓l_site, ↓s_exp, ↓s_pass, ↓w_non, ↓w_bl, ↓w_int, ↓w_str, ↓l_var, ↓l_con, ↓l_bin, ↓l_neg, ↓l_cmp, ↓l_chn, ↓w_isn, ↓w_notn, ↓w_and, ↓w_or, ↓l_not, ↓l_ite, ↓l_tup, ↓l_lst, ↓w_dct, ↓w_mutD, ↓mut_lst, ↓mut_dct, ↓l_idx, ↓l_slc, ↓nb_nul, ↓nb_int, ↓nb_var, ↓nb_con, ↓nb_bin, ↓nb_neg, ↓nb_idx, ↓nb_call, ↓nb_bi, ↓w_call, ↓l_bi, ↓l_bm, ↓l_isi, ↓w_evs, ↓w_evs0, ↓w_and0, ↓l_and1, ↓w_or0, ↓l_or1, ↓l_ssub, ↓s_whlD, ↓l_app, ↓WP_ok, ↓WS_nx, ↓WS_rt, ↓WP_bind, ↓WP_ofE, ↓WB_t, ↓WB_f, ↓WB_n, ↓WB_dec, ↓WB_all, ↓WB_any, ↓WB_lt, ↓WB_sub, ↓WB_emp, ↓WB_eqv, ↓WB_and, ↓WB_or, ↓SB_t, ↓SB_f, ↓SB_n, ↓SB_dec, ↓SB_all, ↓SB_any, ↓SB_lt, ↓SB_sub, ↓SB_emp, ↓SB_eqv, ↓SB_and, ↓SB_or, ↓EX_some, ↓EX_none, ↓EX_map, ↓EB_bl, ↓EI_int, ↓x_g0, ↓x_gs, ↓x_at0, ↓x_at1, ↓x_at2, ↓x_a0, ↓x_as, ↓x_atup2, ↓x_atup3, ↓x_mod_i, ↓x_bnd, ↓x_str_i, ↓x_str_b, ↓x_upper, ↓x_all, ↓x_any, ↓x_sum, ↓x_add_i, ↓x_sub_i, ↓x_mul_i, ↓x_div_i, ↓x_pow_i, ↓x_add_s, ↓x_add_t, ↓x_add_l, ↓x_mul_s, ↓x_mul_t, ↓x_mul_l, ↓x_lt_i, ↓x_le_i, ↓x_gt_i, ↓x_ge_i, ↓x_lt_s, ↓x_le_s, ↓x_eq_i, ↓x_ne_i, ↓x_eq_s, ↓x_ne_s, ↓x_eq_nil, ↓x_ne_nil, ↓x_in_s, ↓x_nin_s, ↓x_len_l, ↓x_len_t, ↓x_len_s, ↓x_tuple_l, ↓x_tuple_t, ↓x_list_t, ↓x_list_l, ↓x_list_s, ↓x_int_i, ↓x_int_b, ↓x_abs, ↓x_str_s, ↓x_slc_t, ↓x_slc_l, ↓x_slc_s, ↓x_idx_t, ↓x_idx_l, ↓x_isi_nb, ↓x_isi_ni, ↓x_isi_ns, ↓x_isi_nt, ↓x_isi_nl, ↓x_isi_nd, ↓x_isi_bb, ↓x_isi_bi, ↓x_isi_bs, ↓x_isi_bt, ↓x_isi_bl, ↓x_isi_bd, ↓x_isi_ib, ↓x_isi_ii, ↓x_isi_is, ↓x_isi_it, ↓x_isi_il, ↓x_isi_id, ↓x_isi_sb, ↓x_isi_si, ↓x_isi_ss, ↓x_isi_st, ↓x_isi_sl, ↓x_isi_sd, ↓x_isi_tb, ↓x_isi_ti, ↓x_isi_ts, ↓x_isi_tt, ↓x_isi_tl, ↓x_isi_td, ↓x_isi_lb, ↓x_isi_li, ↓x_isi_ls, ↓x_isi_lt, ↓x_isi_ll, ↓x_isi_ld, ↓x_isi_db, ↓x_isi_di, ↓x_isi_ds, ↓x_isi_dt, ↓x_isi_dl, ↓x_isi_dd, emp_flt, List.length_cons, List.length_nil, on_join, on_split, on_upper, on_count, on_rstrip, on_sindex, on_tindex, true_and, and_true, eq_self, Nat.reduceAdd, Nat.reduceLeDiff, Nat.zero_add, isI_n, isI_b, isI_i, isI_s, isI_t, isI_l, isI_d, isI_c, isI_r, isB_n, isB_b, isB_i, isB_s, isB_t, isB_l, isB_d, isB_c, isB_r, isS_n, isS_b, isS_i, isS_s, isS_t, isS_l, isS_d, isS_c, isS_r, isT_n, isT_b, isT_i, isT_s, isT_t, isT_l, isT_d, isT_c, isT_r, ↓x_con0, ↓x_con1, ↓x_con2, ↓x_con3, ↓x_con4, ↓x_con5, ↓x_con6, ↓x_con7, ↓WB_isI, ↓WB_isB, ↓WB_isS, ↓WB_isT, ↓SB_isI, ↓SB_isB, ↓SB_isS, ↓SB_isT]; simp [contB]; done
theorem run_content2 {n : Nat} {d : D} {st : Store} (h : Sm d) : cf (n + 6) 27 [d] st = .ok (.bl (contB d)) st := by
  refine ok_of (call_same (ft := f27) rfl rfl ?_)
  unfold f27
  walk_at "z0"
  cases d with
  | tup xs =>
    have k1 := wpk fun st => lc_G (Γ := txOf cons) (cf := cf (n + 5)) (own := [1]) (t := .nm 1) (k := .val) (its := [.var 0]) (c := .not (.call 26 [.var 1])) (e := .var 1) (env := [some (.tup xs), none]) (st := st) (ds := [.tup xs]) (xs := xs) (fun x => !lineB x) (fun x => x)
      (evs_i1 (Is.eq (by unfold Is; simp only [↓s_cons, ↓s_nil, ↓l_asg, ↓s_ret, ↓l_site, ↓s_exp, ↓s_pass, ↓w_non, ↓w_bl, ↓w_int, ↓w_str, ↓l_var, ↓l_con, ↓l_bin, ↓l_neg, ↓l_cmp, ↓l_chn, ↓w_isn, ↓w_notn, ↓w_and, ↓w_or, ↓l_not, ↓l_ite, ↓l_tup, ↓l_lst, ↓w_dct, ↓w_mutD, ↓mut_lst, ↓mut_dct, ↓l_idx, ↓l_slc, ↓nb_nul, ↓nb_int, ↓nb_var, ↓nb_con, ↓nb_bin, ↓nb_neg, ↓nb_idx, ↓nb_call, ↓nb_bi, ↓w_call, ↓l_bi, ↓l_bm, ↓l_isi, ↓w_evs, ↓w_evs0, ↓w_and0, ↓l_and1, ↓w_or0, ↓l_or1, ↓l_ssub, ↓s_whlD, ↓l_app, ↓WP_ok, ↓WS_nx, ↓WS_rt, ↓WP_bind, ↓WP_ofE, ↓WB_t, ↓WB_f, ↓WB_n, ↓WB_dec, ↓WB_all, ↓WB_any, ↓WB_lt, ↓WB_sub, ↓WB_emp, ↓WB_eqv, ↓WB_and, ↓WB_or, ↓SB_t, ↓SB_f, ↓SB_n, ↓SB_dec, ↓SB_all, ↓SB_any, ↓SB_lt, ↓SB_sub, ↓SB_emp, ↓SB_eqv, ↓SB_and, ↓SB_or, ↓EX_some, ↓EX_none, ↓EX_map, ↓EB_bl, ↓EI_int, ↓x_g0, ↓x_gs, ↓x_at0, ↓x_at1, ↓x_at2, ↓x_a0, ↓x_as, ↓x_atup2, ↓x_atup3, ↓x_mod_i, ↓x_bnd, ↓x_str_i, ↓x_str_b, ↓x_upper, ↓x_all, ↓x_any, ↓x_sum, ↓x_add_i, ↓x_sub_i, ↓x_mul_i, ↓x_div_i, ↓x_pow_i, ↓x_add_s, ↓x_add_t, ↓x_add_l, ↓x_mul_s, ↓x_mul_t, ↓x_mul_l, ↓x_lt_i, ↓x_le_i, ↓x_gt_i, ↓x_ge_i, ↓x_lt_s, ↓x_le_s, ↓x_eq_i, ↓x_ne_i, ↓x_eq_s, ↓x_ne_s, ↓x_eq_nil, ↓x_ne_nil, ↓x_in_s, ↓x_nin_s, ↓x_len_l, ↓x_len_t, ↓x_len_s, ↓x_tuple_l, ↓x_tuple_t, ↓x_list_t, ↓x_list_l, ↓x_list_s, ↓x_int_i, ↓x_int_b, ↓x_abs, ↓x_str_s, ↓x_slc_t, ↓x_slc_l, ↓x_slc_s, ↓x_idx_t, ↓x_idx_l, ↓x_isi_nb, ↓x_isi_ni, ↓x_isi_ns, ↓x_isi_nt, ↓x_isi_nl, ↓x_isi_nd, ↓x_isi_bb, ↓x_isi_bi, ↓x_isi_bs, ↓x_isi_bt, ↓x_isi_bl, ↓x_isi_bd, ↓x_isi_ib, ↓x_isi_ii, ↓x_isi_is, ↓x_isi_it, ↓x_isi_il, ↓x_isi_id, ↓x_isi_sb, ↓x_isi_si, ↓x_isi_ss, ↓x_isi_st, ↓x_isi_sl, ↓x_isi_sd, ↓x_isi_tb, ↓x_isi_ti, ↓x_isi_ts, ↓x_isi_tt, ↓x_isi_tl, ↓x_isi_td, ↓x_isi_lb, ↓x_isi_li, ↓x_isi_ls, ↓x_isi_lt, ↓x_isi_ll, ↓x_isi_ld, ↓x_isi_db, ↓x_isi_di, ↓x_isi_ds, ↓x_isi_dt, ↓x_isi_dl, ↓x_isi_dd, emp_flt, List.length_cons, List.length_nil, on_join, on_split, on_upper, on_count, on_rstrip, on_sindex, on_tindex, true_and, and_true, eq_self, Nat.reduceAdd, Nat.reduceLeDiff, Nat.zero_add, isI_n, isI_b, isI_i, isI_s, isI_t, isI_l, isI_d, isI_c, isI_r, isB_n, isB_b, isB_i, isB_s, isB_t, isB_l, isB_d, isB_c, isB_r, isS_n, isS_b, isS_i, isS_s, isS_t, isS_l, isS_d, isS_c, isS_r, isT_n, isT_b, isT_i, isT_s, isT_t, isT_l, isT_d, isT_c, isT_r, ↓x_con0, ↓x_con1, ↓x_con2, ↓x_con3, ↓x_con4, ↓x_con5, ↓x_con6, ↓x_con7, ↓WB_isI, ↓WB_isB, ↓WB_isS, ↓WB_isT, ↓SB_isI, ↓SB_isB, ↓SB_isS, ↓SB_isT]))) rfl h.len rfl fun x hx => (by
        simp only [wipeE, List.set_cons_zero, List.set_cons_succ, ↓x_a0, ↓x_as, ↓x_atup2, ↓x_atup3]
        refine ⟨Is.eq ?_, fun _ => Is.eq ?_⟩
        · unfold Is
          simp only [↓s_cons, ↓s_nil, ↓l_asg, ↓s_ret, ↓l_site, ↓s_exp, ↓s_pass, ↓w_non, ↓w_bl, ↓w_int, ↓w_str, ↓l_var, ↓l_con, ↓l_bin, ↓l_neg, ↓l_cmp, ↓l_chn, ↓w_isn, ↓w_notn, ↓w_and, ↓w_or, ↓l_not, ↓l_ite, ↓l_tup, ↓l_lst, ↓w_dct, ↓w_mutD, ↓mut_lst, ↓mut_dct, ↓l_idx, ↓l_slc, ↓nb_nul, ↓nb_int, ↓nb_var, ↓nb_con, ↓nb_bin, ↓nb_neg, ↓nb_idx, ↓nb_call, ↓nb_bi, ↓w_call, ↓l_bi, ↓l_bm, ↓l_isi, ↓w_evs, ↓w_evs0, ↓w_and0, ↓l_and1, ↓w_or0, ↓l_or1, ↓l_ssub, ↓s_whlD, ↓l_app, ↓WP_ok, ↓WS_nx, ↓WS_rt, ↓WP_bind, ↓WP_ofE, ↓WB_t, ↓WB_f, ↓WB_n, ↓WB_dec, ↓WB_all, ↓WB_any, ↓WB_lt, ↓WB_sub, ↓WB_emp, ↓WB_eqv, ↓WB_and, ↓WB_or, ↓SB_t, ↓SB_f, ↓SB_n, ↓SB_dec, ↓SB_all, ↓SB_any, ↓SB_lt, ↓SB_sub, ↓SB_emp, ↓SB_eqv, ↓SB_and, ↓SB_or, ↓EX_some, ↓EX_none, ↓EX_map, ↓EB_bl, ↓EI_int, ↓x_g0, ↓x_gs, ↓x_at0, ↓x_at1, ↓x_at2, ↓x_a0, ↓x_as, ↓x_atup2, ↓x_atup3, ↓x_mod_i, ↓x_bnd, ↓x_str_i, ↓x_str_b, ↓x_upper, ↓x_all, ↓x_any, ↓x_sum, ↓x_add_i, ↓x_sub_i, ↓x_mul_i, ↓x_div_i, ↓x_pow_i, ↓x_add_s, ↓x_add_t, ↓x_add_l, ↓x_mul_s, ↓x_mul_t, ↓x_mul_l, ↓x_lt_i, ↓x_le_i, ↓x_gt_i, ↓x_ge_i, ↓x_lt_s, ↓x_le_s, ↓x_eq_i, ↓x_ne_i, ↓x_eq_s, ↓x_ne_s, ↓x_eq_nil, ↓x_ne_nil, ↓x_in_s, ↓x_nin_s, ↓x_len_l, ↓x_len_t, ↓x_len_s, ↓x_tuple_l, ↓x_tuple_t, ↓x_list_t, ↓x_list_l, ↓x_list_s, ↓x_int_i, ↓x_int_b, ↓x_abs, ↓x_str_s, ↓x_slc_t, ↓x_slc_l, ↓x_slc_s, ↓x_idx_t, ↓x_idx_l, ↓x_isi_nb, ↓x_isi_ni, ↓x_isi_ns, ↓x_isi_nt, ↓x_isi_nl, ↓x_isi_nd, ↓x_isi_bb, ↓x_isi_bi, ↓x_isi_bs, ↓x_isi_bt, ↓x_isi_bl, ↓x_isi_bd, ↓x_isi_ib, ↓x_isi_ii, ↓x_isi_is, ↓x_isi_it, ↓x_isi_il, ↓x_isi_id, ↓x_isi_sb, ↓x_isi_si, ↓x_isi_ss, ↓x_isi_st, ↓x_isi_sl, ↓x_isi_sd, ↓x_isi_tb, ↓x_isi_ti, ↓x_isi_ts, ↓x_isi_tt, ↓x_isi_tl, ↓x_isi_td, ↓x_isi_lb, ↓x_isi_li, ↓x_isi_ls, ↓x_isi_lt, ↓x_isi_ll, ↓x_isi_ld, ↓x_isi_db, ↓x_isi_di, ↓x_isi_ds, ↓x_isi_dt, ↓x_isi_dl, ↓x_isi_dd, emp_flt, List.length_cons, List.length_nil, on_join, on_split, on_upper, on_count, on_rstrip, on_sindex, on_tindex, true_and, and_true, eq_self, Nat.reduceAdd, Nat.reduceLeDiff, Nat.zero_add, isI_n, isI_b, isI_i, isI_s, isI_t, isI_l, isI_d, isI_c, isI_r, isB_n, isB_b, isB_i, isB_s, isB_t, isB_l, isB_d, isB_c, isB_r, isS_n, isS_b, isS_i, isS_s, isS_t, isS_l, isS_d, isS_c, isS_r, isT_n, isT_b, isT_i, isT_s, isT_t, isT_l, isT_d, isT_c, isT_r, ↓x_con0, ↓x_con1, ↓x_con2, ↓x_con3, ↓x_con4, ↓x_con5, ↓x_con6, ↓x_con7, ↓WB_isI, ↓WB_isB, ↓WB_isS, ↓WB_isT, ↓SB_isI, ↓SB_isB, ↓SB_isS, ↓SB_isT, ↓wpc fun st => run_line2 (n := n) (st := st) (h.mem hx)]
        · unfold Is
          simp only [↓s_cons, ↓s_nil, ↓l_asg, ↓s_ret, ↓l_site, ↓s_exp, ↓s_pass, ↓w_non, ↓w_bl, ↓w_int, ↓w_str, ↓l_var, ↓l_con, ↓l_bin, ↓l_neg, ↓l_cmp, ↓l_chn, ↓w_isn, ↓w_notn, ↓w_and, ↓w_or, ↓l_not, ↓l_ite, ↓l_tup, ↓l_lst, ↓w_dct, ↓w_mutD, ↓mut_lst, ↓mut_dct, ↓l_idx, ↓l_slc, ↓nb_nul, ↓nb_int, ↓nb_var, ↓nb_con, ↓nb_bin, ↓nb_neg, ↓nb_idx, ↓nb_call, ↓nb_bi, ↓w_call, ↓l_bi, ↓l_bm, ↓l_isi, ↓w_evs, ↓w_evs0, ↓w_and0, ↓l_and1, ↓w_or0, ↓l_or1, ↓l_ssub, ↓s_whlD, ↓l_app, ↓WP_ok, ↓WS_nx, ↓WS_rt, ↓WP_bind, ↓WP_ofE, ↓WB_t, ↓WB_f, ↓WB_n, ↓WB_dec, ↓WB_all, ↓WB_any, ↓WB_lt, ↓WB_sub, ↓WB_emp, ↓WB_eqv, ↓WB_and, ↓WB_or, ↓SB_t, ↓SB_f, ↓SB_n, ↓SB_dec, ↓SB_all, ↓SB_any, ↓SB_lt, ↓SB_sub, ↓SB_emp, ↓SB_eqv, ↓SB_and, ↓SB_or, ↓EX_some, ↓EX_none, ↓EX_map, ↓EB_bl, ↓EI_int, ↓x_g0, ↓x_gs, ↓x_at0, ↓x_at1, ↓x_at2, ↓x_a0, ↓x_as, ↓x_atup2, ↓x_atup3, ↓x_mod_i, ↓x_bnd, ↓x_str_i, ↓x_str_b, ↓x_upper, ↓x_all, ↓x_any, ↓x_sum, ↓x_add_i, ↓x_sub_i, ↓x_mul_i, ↓x_div_i, ↓x_pow_i, ↓x_add_s, ↓x_add_t, ↓x_add_l, ↓x_mul_s, ↓x_mul_t, ↓x_mul_l, ↓x_lt_i, ↓x_le_i, ↓x_gt_i, ↓x_ge_i, ↓x_lt_s, ↓x_le_s, ↓x_eq_i, ↓x_ne_i, ↓x_eq_s, ↓x_ne_s, ↓x_eq_nil, ↓x_ne_nil, ↓x_in_s, ↓x_nin_s, ↓x_len_l, ↓x_len_t, ↓x_len_s, ↓x_tuple_l, ↓x_tuple_t, ↓x_list_t, ↓x_list_l, ↓x_list_s, ↓x_int_i, ↓x_int_b, ↓x_abs, ↓x_str_s, ↓x_slc_t, ↓x_slc_l, ↓x_slc_s, ↓x_idx_t, ↓x_idx_l, ↓x_isi_nb, ↓x_isi_ni, ↓x_isi_ns, ↓x_isi_nt, ↓x_isi_nl, ↓x_isi_nd, ↓x_isi_bb, ↓x_isi_bi, ↓x_isi_bs, ↓x_isi_bt, ↓x_isi_bl, ↓x_isi_bd, ↓x_isi_ib, ↓x_isi_ii, ↓x_isi_is, ↓x_isi_it, ↓x_isi_il, ↓x_isi_id, ↓x_isi_sb, ↓x_isi_si, ↓x_isi_ss, ↓x_isi_st, ↓x_isi_sl, ↓x_isi_sd, ↓x_isi_tb, ↓x_isi_ti, ↓x_isi_ts, ↓x_isi_tt, ↓x_isi_tl, ↓x_isi_td, ↓x_isi_lb, ↓x_isi_li, ↓x_isi_ls, ↓x_isi_lt, ↓x_isi_ll, ↓x_isi_ld, ↓x_isi_db, ↓x_isi_di, ↓x_isi_ds, ↓x_isi_dt, ↓x_isi_dl, ↓x_isi_dd, emp_flt, List.length_cons, List.length_nil, on_join, on_split, on_upper, on_count, on_rstrip, on_sindex, on_tindex, true_and, and_true, eq_self, Nat.reduceAdd, Nat.reduceLeDiff, Nat.zero_add, isI_n, isI_b, isI_i, isI_s, isI_t, isI_l, isI_d, isI_c, isI_r, isB_n, isB_b, isB_i, isB_s, isB_t, isB_l, isB_d, isB_c, isB_r, isS_n, isS_b, isS_i, isS_s, isS_t, isS_l, isS_d, isS_c, isS_r, isT_n, isT_b, isT_i, isT_s, isT_t, isT_l, isT_d, isT_c, isT_r, ↓x_con0, ↓x_con1, ↓x_con2, ↓x_con3, ↓x_con4, ↓x_con5, ↓x_con6, ↓x_con7, ↓WB_isI, ↓WB_isB, ↓WB_isS, ↓WB_isT, ↓SB_isI, ↓SB_isB, ↓SB_isS, ↓SB_isT])
    simp only [↓s_cons, ↓s_nil, ↓l_asg, ↓s_ret, ↓l_site, ↓s_exp, ↓s_pass, ↓w_non, ↓w_bl, ↓w_int, ↓w_str, ↓l_var, ↓l_con, ↓l_bin, ↓l_neg, ↓l_cmp, ↓l_chn, ↓w_isn, ↓w_notn, ↓w_and, ↓w_or, ↓l_not, ↓l_ite, ↓l_tup, ↓l_lst, ↓w_dct, ↓w_mutD, ↓mut_lst, ↓mut_dct, ↓l_idx, ↓l_slc, ↓nb_nul, ↓nb_int, ↓nb_var, ↓nb_con, ↓nb_bin, ↓nb_neg, ↓nb_idx, ↓nb_call, ↓nb_bi, ↓w_call, ↓l_bi, ↓l_bm, ↓l_isi, ↓w_evs, ↓w_evs0, ↓w_and0, ↓l_and1, ↓w_or0, ↓l_or1, ↓l_ssub, ↓s_whlD, ↓l_app, ↓WP_ok, ↓WS_nx, ↓WS_rt, ↓WP_bind, ↓WP_ofE, ↓WB_t, ↓WB_f, ↓WB_n, ↓WB_dec, ↓WB_all, ↓WB_any, ↓WB_lt, ↓WB_sub, ↓WB_emp, ↓WB_eqv, ↓WB_and, ↓WB_or, ↓SB_t, ↓SB_f, ↓SB_n, ↓SB_dec, ↓SB_all, ↓SB_any, ↓SB_lt, ↓SB_sub, ↓SB_emp, ↓SB_eqv, ↓SB_and, ↓SB_or, ↓EX_some, ↓EX_none, ↓EX_map, ↓EB_bl, ↓EI_int, ↓x_g0, ↓x_gs, ↓x_at0, ↓x_at1, ↓x_at2, ↓x_a0, ↓x_as, ↓x_atup2, ↓x_atup3, ↓x_mod_i, ↓x_bnd, ↓x_str_i, ↓x_str_b, ↓x_upper, ↓x_all, ↓x_any, ↓x_sum, ↓x_add_i, ↓x_sub_i, ↓x_mul_i, ↓x_div_i, ↓x_pow_i, ↓x_add_s, ↓x_add_t, ↓x_add_l, ↓x_mul_s, ↓x_mul_t, ↓x_mul_l, ↓x_lt_i, ↓x_le_i, ↓x_gt_i, ↓x_ge_i, ↓x_lt_s, ↓x_le_s, ↓x_eq_i, ↓x_ne_i, ↓x_eq_s, ↓x_ne_s, ↓x_eq_nil, ↓x_ne_nil, ↓x_in_s, ↓x_nin_s, ↓x_len_l, ↓x_len_t, ↓x_len_s, ↓x_tuple_l, ↓x_tuple_t, ↓x_list_t, ↓x_list_l, ↓x_list_s, ↓x_int_i, ↓x_int_b, ↓x_abs, ↓x_str_s, ↓x_slc_t, ↓x_slc_l, ↓x_slc_s, ↓x_idx_t, ↓x_idx_l, ↓x_isi_nb, ↓x_isi_ni, ↓x_isi_ns, ↓x_isi_nt, ↓x_isi_nl, ↓x_isi_nd, ↓x_isi_bb, ↓x_isi_bi, ↓x_isi_bs, ↓x_isi_bt, ↓x_isi_bl, ↓x_isi_bd, ↓x_isi_ib, ↓x_isi_ii, ↓x_isi_is, ↓x_isi_it, ↓x_isi_il, ↓x_isi_id, ↓x_isi_sb, ↓x_isi_si, ↓x_isi_ss, ↓x_isi_st, ↓x_isi_sl, ↓x_isi_sd, ↓x_isi_tb, ↓x_isi_ti, ↓x_isi_ts, ↓x_isi_tt, ↓x_isi_tl, ↓x_isi_td, ↓x_isi_lb, ↓x_isi_li, ↓x_isi_ls, ↓x_isi_lt, ↓x_isi_ll, ↓x_isi_ld, ↓x_isi_db, ↓x_isi_di, ↓x_isi_ds, ↓x_isi_dt, ↓x_isi_dl, ↓x_isi_dd, emp_flt, List.length_cons, List.length_nil, on_join, on_split, on_upper, on_count, on_rstrip, on_sindex, on_tindex, true_and, and_true, eq_self, Nat.reduceAdd, Nat.reduceLeDiff, Nat.zero_add, isI_n, isI_b, isI_i, isI_s, isI_t, isI_l, isI_d, isI_c, isI_r, isB_n, isB_b, isB_i, isB_s, isB_t, isB_l, isB_d, isB_c, isB_r, isS_n, isS_b, isS_i, isS_s, isS_t, isS_l, isS_d, isS_c, isS_r, isT_n, isT_b, isT_i, isT_s, isT_t, isT_l, isT_d, isT_c, isT_r, ↓x_con0, ↓x_con1, ↓x_con2, ↓x_con3, ↓x_con4, ↓x_con5, ↓x_con6, ↓x_con7, ↓WB_isI, ↓WB_isB, ↓WB_isS, ↓WB_isT, ↓SB_isI, ↓SB_isB, ↓SB_isS, ↓SB_isT, ↓k1]
    have e1 : decide (0 < (xs.length : Int)) = decide (1 ≤ (xs.length : Int)) := decide_eq_decide.mpr (by omega)
    simp only [contB, e1]
    by_cases h2 : 1 ≤ (xs.length : Int) <;> by_cases h3 : (xs.length : Int) ≤ 200 <;> simp only [h2, h3, decide_true, decide_false, Bool.and_true, Bool.and_false, Bool.false_and, Bool.true_and, imp_self, true_imp_iff, false_imp_iff, not_true_eq_false, not_false_eq_true, and_self, Bool.not_false, Bool.false_eq_true, Bool.true_eq_false, implies_true, and_true, eq_self] <;> simp
  | scr _ => cases h.1
  | ref _ => cases h.1
  | _ => simp only [↓s_cons, ↓s_nil, ↓l_asg, ↓s_ret, ↓l_site, ↓s_exp, ↓s_pass, ↓w_non, ↓w_bl, ↓w_int, ↓w_str, ↓l_var, ↓l_con, ↓l_bin, ↓l_neg, ↓l_cmp, ↓l_chn, ↓w_isn, ↓w_notn, ↓w_and, ↓w_or, ↓l_not, ↓l_ite, ↓l_tup, ↓l_lst, ↓w_dct, ↓w_mutD, ↓mut_lst, ↓mut_dct, ↓l_idx, ↓l_slc, ↓nb_nul, ↓nb_int, ↓nb_var, ↓nb_con, ↓nb_bin, ↓nb_neg, ↓nb_idx, ↓nb_call, ↓nb_bi, ↓w_call, ↓l_bi, ↓l_bm, ↓l_isi, ↓w_evs, ↓w_evs0, ↓w_and0, ↓l_and1, ↓w_or0, ↓l_or1, ↓l_ssub, ↓s_whlD, ↓l_app, ↓WP_ok, ↓WS_nx, ↓WS_rt, ↓WP_bind, ↓WP_ofE, ↓WB_t, ↓WB_f, ↓WB_n, ↓WB_dec, ↓WB_all, ↓WB_any, ↓WB_lt, ↓WB_sub, ↓WB_emp, ↓WB_eqv, ↓WB_and, ↓WB_or, ↓SB_t, ↓SB_f, ↓SB_n, ↓SB_dec, ↓SB_all, ↓SB_any, ↓SB_lt, ↓SB_sub, ↓SB_emp, ↓SB_eqv, ↓SB_and, ↓SB_or, ↓EX_some, ↓EX_none, ↓EX_map, ↓EB_bl, ↓EI_int, ↓x_g0, ↓x_gs, ↓x_at0, ↓x_at1, ↓x_at2, ↓x_a0, ↓x_as, ↓x_atup2, ↓x_atup3, ↓x_mod_i, ↓x_bnd, ↓x_str_i, ↓x_str_b, ↓x_upper, ↓x_all, ↓x_any, ↓x_sum, ↓x_add_i, ↓x_sub_i, ↓x_mul_i, ↓x_div_i, ↓x_pow_i, ↓x_add_s, ↓x_add_t, ↓x_add_l, ↓x_mul_s, ↓x_mul_t, ↓x_mul_l, ↓x_lt_i, ↓x_le_i, ↓x_gt_i, ↓x_ge_i, ↓x_lt_s, ↓x_le_s, ↓x_eq_i, ↓x_ne_i, ↓x_eq_s, ↓x_ne_s, ↓x_eq_nil, ↓x_ne_nil, ↓x_in_s, ↓x_nin_s, ↓x_len_l, ↓x_len_t, ↓x_len_s, ↓x_tuple_l, ↓x_tuple_t, ↓x_list_t, ↓x_list_l, ↓x_list_s, ↓x_int_i, ↓x_int_b, ↓x_abs, ↓x_str_s, ↓x_slc_t, ↓x_slc_l, ↓x_slc_s, ↓x_idx_t, ↓x_idx_l, ↓x_isi_nb, ↓x_isi_ni, ↓x_isi_ns, ↓x_isi_nt, ↓x_isi_nl, ↓x_isi_nd, ↓x_isi_bb, ↓x_isi_bi, ↓x_isi_bs, ↓x_isi_bt, ↓x_isi_bl, ↓x_isi_bd, ↓x_isi_ib, ↓x_isi_ii, ↓x_isi_is, ↓x_isi_it, ↓x_isi_il, ↓x_isi_id, ↓x_isi_sb, ↓x_isi_si, ↓x_isi_ss, ↓x_isi_st, ↓x_isi_sl, ↓x_isi_sd, ↓x_isi_tb, ↓x_isi_ti, ↓x_isi_ts, ↓x_isi_tt, ↓x_isi_tl, ↓x_isi_td, ↓x_isi_lb, ↓x_isi_li, ↓x_isi_ls, ↓x_isi_lt, ↓x_isi_ll, ↓x_isi_ld, ↓x_isi_db, ↓x_isi_di, ↓x_isi_ds, ↓x_isi_dt, ↓x_isi_dl, ↓x_isi_dd, emp_flt, List.length_cons, List.length_nil, on_join, on_split, on_upper, on_count, on_rstrip, on_sindex, on_tindex, true_and, and_true, eq_self, Nat.reduceAdd, Nat.reduceLeDiff, Nat.zero_add, isI_n, isI_b, isI_i, isI_s, isI_t, isI_l, isI_d, isI_c, isI_r, isB_n, isB_b, isB_i, isB_s, isB_t, isB_l, isB_d, isB_c, isB_r, isS_n, isS_b, isS_i, isS_s, isS_t, isS_l, isS_d, isS_c, isS_r, isT_n, isT_b, isT_i, isT_s, isT_t, isT_l, isT_d, isT_c, isT_r, ↓x_con0, ↓x_con1, ↓x_con2, ↓x_con3, ↓x_con4, ↓x_con5, ↓x_con6, ↓x_con7, ↓WB_isI, ↓WB_isB, ↓WB_isS, ↓WB_isT, ↓SB_isI, ↓SB_isB, ↓SB_isS, ↓SB_isT]; simp [contB]; done
end Law
end Cip

set_option maxHeartbeats 4000000
namespace Cip
open PySem
local macro_rules | `(tactic| walk_at "cip") => `(tactic| simp only [s_cons, s_nil, s_asg, s_ret, s_ite, s_exp, s_pass, w_non, w_bl, w_int, w_str, w_var, w_con, w_bin, w_neg, w_cmp, w_isn, w_notn, w_and, w_or, w_not, w_ite, w_tup, w_lst, w_idx, w_call, s_ssubD, s_forD, s_whlD, w_mutD, w_appD, mut_lst, asg_tup2, asg_tup3, int_i, len_l, len_t, len_s, idx_l, idx_t, tuple_l, w_bi, w_isi, w_evs, w_evs0, w_and0, w_and1, w_or0, w_or1, asg_nm, ex_some, ex_var, ex_int, ex_bl, startE, List.length_cons, List.length_nil, List.map_cons, List.map_nil, List.getElem?_cons_zero, List.getElem?_cons_succ, List.set_cons_zero, List.set_cons_succ, List.cons_append, List.nil_append, List.replicate, ex_ite, b_add_i, b_sub_i, b_mul_i, b_mod_i, b_div_i, b_pow_i, b_add_s, b_add_t, b_add_l, b_mul_s, b_mul_t, b_mul_l, c_lt_i, c_le_i, c_gt_i, c_ge_i, c_lt_s, c_le_s, c_eq_i, c_ne_i, c_eq_s, c_ne_s, WP_ok, WS_nx, WS_rt, true_and, and_true])
local macro_rules | `(tactic| walk_at "cip2") => `(tactic| simp only [s_cons, s_nil, s_asg, s_ret, s_ite, s_exp, s_pass, w_non, w_bl, w_int, w_str, w_var, w_con, w_bin, w_neg, w_cmp, w_isn, w_notn, w_and, w_or, w_not, w_ite, w_tup, w_lst, w_idx, w_call, s_ssubD, s_forD, s_whlD, w_mutD, w_appD, mut_lst, asg_tup2, asg_tup3, int_i, len_l, len_t, len_s, idx_l, idx_t, tuple_l, w_bi, w_isi, w_evs, w_evs0, w_and0, w_and1, w_or0, w_or1, asg_nm, ex_some, ex_var, ex_int, ex_bl, startE, List.length_cons, List.length_nil, List.map_cons, List.map_nil, List.getElem?_cons_zero, List.getElem?_cons_succ, List.set_cons_zero, List.set_cons_succ, List.cons_append, List.nil_append, List.replicate, ex_ite, b_add_i, b_sub_i, b_mul_i, b_mod_i, b_div_i, b_pow_i, b_add_s, b_add_t, b_add_l, b_mul_s, b_mul_t, b_mul_l, c_lt_i, c_le_i, c_gt_i, c_ge_i, c_lt_s, c_le_s, c_eq_i, c_ne_i, c_eq_s, c_ne_s, WP_ok, WS_nx, WS_rt, true_and, and_true, w_slc, E.nulB, eq_self, if_true, if_false, Bool.false_eq_true, WP_bind, WP_of, bnd_int, Bool.not_true, Bool.not_false])
local macro_rules | `(tactic| walk_at "cip3") => `(tactic| simp only [s_cons, s_nil, s_asg, s_ret, s_ite, s_exp, s_pass, w_non, w_bl, w_int, w_str, w_var, w_con, w_bin, w_neg, w_cmp, w_isn, w_notn, w_and, w_or, w_not, w_ite, w_tup, w_lst, w_idx, w_call, s_ssubD, s_forD, s_whlD, w_mutD, w_appD, mut_lst, asg_tup2, asg_tup3, int_i, len_l, len_t, len_s, idx_l, idx_t, tuple_l, w_bi, w_isi, w_evs, w_evs0, w_and0, w_and1, w_or0, w_or1, asg_nm, ex_some, ex_var, ex_int, ex_bl, startE, List.length_cons, List.length_nil, List.map_cons, List.map_nil, List.getElem?_cons_zero, List.getElem?_cons_succ, List.set_cons_zero, List.set_cons_succ, List.cons_append, List.nil_append, List.replicate, ex_ite, b_add_i, b_sub_i, b_mul_i, b_mod_i, b_div_i, b_pow_i, b_add_s, b_add_t, b_add_l, b_mul_s, b_mul_t, b_mul_l, c_lt_i, c_le_i, c_gt_i, c_ge_i, c_lt_s, c_le_s, c_eq_i, c_ne_i, c_eq_s, c_ne_s, WP_ok, WS_nx, WS_rt, true_and, and_true, w_slc, E.nulB, eq_self, if_true, if_false, Bool.false_eq_true, WP_bind, WP_of, bnd_int, Bool.not_true, Bool.not_false, w_chn])
local macro_rules | `(tactic| walk_at "z0") => `(tactic| simp only [startE, List.map_cons, List.map_nil, List.length_cons, List.length_nil, Nat.reduceAdd, Nat.reduceSub, List.replicate, List.cons_append, List.nil_append])
local macro_rules | `(tactic| walk_at "zx") => `(tactic| simp only [wipeE, List.set_cons_zero, List.set_cons_succ, ↓x_a0, ↓x_as, ↓x_atup2, ↓x_atup3])
namespace Law
/-! M11: odd things, changed things. -/
mutual
/-- such as stands in contents -/
def Cn : D → Bool
  | .bl _ => true
  | .int i => decide (0 ≤ i) && decide (i ≤ 6)
  | .str x => x.cps.toList.all fun c => decide (c < 128)
  | .tup xs => Cns xs
  | .non => false
  | .lst _ => false
  | .dct _ _ => false
  | .scr _ => false
  | .ref _ => false
def Cns : List D → Bool
  | [] => true
  | x :: xs => Cn x && Cns xs
end
theorem Cns_all : ∀ {xs : List D}, Cns xs = true ↔ ∀ x ∈ xs, Cn x = true
  | [] => ⟨fun _ _ h => (List.not_mem_nil h).elim, fun _ => rfl⟩
  | x :: xs => by
    show (Cn x && Cns xs) = true ↔ _
    rw [Bool.and_eq_true, Cns_all, List.forall_mem_cons]
mutual
theorem cn_gd {l c : Bool} : ∀ d : D, Cn d = true → Gd l c d = true ∧ Pn1 d = true
  | .bl _, _ => ⟨rfl, rfl⟩
  | .int i, h => by
    have h : (decide (0 ≤ i) && decide (i ≤ 6)) = true := h
    rw [Bool.and_eq_true, decide_eq_true_eq, decide_eq_true_eq] at h
    exact ⟨decide_eq_true (Nat.lt_of_le_of_lt (by omega : i.natAbs ≤ 6) (by decide)), rfl⟩
  | .str x, h => by
    refine ⟨?_, rfl⟩
    have h : (x.cps.toList.all fun c => decide (c < 128)) = true := h
    show (x.cps.toList.all fun n => decide (n < 16 ^ 8)) = true
    rw [List.all_eq_true] at h ⊢
    intro c hc
    have := of_decide_eq_true (h c hc)
    exact decide_eq_true (Nat.lt_trans this (by decide))
  | .tup xs, h => cns_gd xs h
  | .non, h => by cases h
  | .lst _, h => by cases h
  | .dct _ _, h => by cases h
  | .scr _, h => by cases h
  | .ref _, h => by cases h
theorem cns_gd {l c : Bool} : ∀ ds : List D, Cns ds = true → Gds l c ds = true ∧ Pn1s ds = true
  | [], _ => ⟨rfl, rfl⟩
  | x :: xs, h => by
    have h : (Cn x && Cns xs) = true := h
    rw [Bool.and_eq_true] at h
    obtain ⟨h1, h2⟩ := cn_gd (l := l) (c := c) x h.1
    obtain ⟨h3, h4⟩ := cns_gd (l := l) (c := c) xs h.2
    exact ⟨by show (Gd l c x && Gds l c xs) = true; rw [h1, h3] <;> rfl, by show (Pn1 x && Pn1s xs) = true; rw [h2, h4] <;> rfl⟩
end
/-- a thing whose text can be told, no larger than b, no deeper than k -/
def Th (b k : Nat) (d : D) : Prop := (Gd true false d = true ∨ Gd false true d = true) ∧ bk d ≤ b ∧ dp d ≤ k
theorem Th.mono {b k b' k' : Nat} {d : D} (h : Th b k d) (hb : b ≤ b') (hk : k ≤ k') : Th b' k' d := ⟨h.1, Nat.le_trans h.2.1 hb, Nat.le_trans h.2.2 hk⟩
theorem Th.cn {d : D} (h : Cn d = true) : Th (bk d) (dp d) d := ⟨.inl (cn_gd d h).1, Nat.le_refl _, Nat.le_refl _⟩
theorem choiceP {n u : Nat} {xs : List D} {st : Store} {Q : D → Store → Prop} (P : D → Prop) (hU : Urn st u) (hl : 1 ≤ xs.length ∧ xs.length < 1073741824) (hP : ∀ x ∈ xs, P x) (hq : ∀ x st', P x → Drawn u st st' → Q x st') : WP (cf (n + 3) 12 [.ref u, .lst xs] st) Q :=
  choice hU hl fun x st' hx hd => hq x st' (hP x hx) hd
theorem all_nil {P : D → Prop} : ∀ x ∈ ([] : List D), P x := fun _ h => (List.not_mem_nil h).elim
theorem all_cons {P : D → Prop} {x : D} {xs : List D} (h : P x) (hs : ∀ y ∈ xs, P y) : ∀ y ∈ x :: xs, P y := List.forall_mem_cons.mpr ⟨h, hs⟩
theorem bks_app : ∀ xs ys : List D, bks (xs ++ ys) = bks xs + bks ys
  | [], ys => by simp [bks]
  | x :: xs, ys => by
    show bk x + 1 + bks (xs ++ ys) = bk x + 1 + bks xs + bks ys
    rw [bks_app xs ys]; omega
theorem dps_app : ∀ xs ys : List D, dps (xs ++ ys) = max (dps xs) (dps ys)
  | [], ys => by simp [dps]
  | x :: xs, ys => by
    show max (dp x) (dps (xs ++ ys)) = max (max (dp x) (dps xs)) (dps ys)
    rw [dps_app xs ys]; omega
theorem Gds_app {l c : Bool} {xs ys : List D} : Gds l c (xs ++ ys) = true ↔ Gds l c xs = true ∧ Gds l c ys = true := by
  rw [Gds_all, Gds_all, Gds_all]
  constructor
  · exact fun h => ⟨fun x hx => h x (List.mem_append.mpr (.inl hx)), fun x hx => h x (List.mem_append.mpr (.inr hx))⟩
  · exact fun ⟨h, g⟩ x hx => (List.mem_append.mp hx).elim (h x) (g x)
theorem bks_split (xs : List D) (a b : Nat) : bks ((xs.drop a).take b) ≤ bks xs := by
  have e1 : bks xs = bks (xs.take a) + bks (xs.drop a) := by rw [← bks_app, List.take_append_drop]
  have e2 : bks (xs.drop a) = bks ((xs.drop a).take b) + bks ((xs.drop a).drop b) := by rw [← bks_app, List.take_append_drop]
  omega
theorem bks_cut (xs : List D) (lo hi : Option Int) : bks (cutL xs lo hi) ≤ bks xs := bks_split xs _ _
theorem dp_mem : ∀ {xs : List D} {x : D}, x ∈ xs → dp x ≤ dps xs
  | y :: ys, x, h => by
    simp only [dps]
    rcases List.mem_cons.mp h with rfl | h
    · omega
    · have := dp_mem h; omega
theorem dps_le {k : Nat} : ∀ {xs : List D}, (∀ x ∈ xs, dp x ≤ k) → dps xs ≤ k
  | [], _ => Nat.zero_le _
  | x :: xs, h => by
    have h1 := h x (by simp)
    have h2 := dps_le fun y hy => h y (List.mem_cons_of_mem _ hy)
    simp only [dps]; omega
theorem dps_cut (xs : List D) (lo hi : Option Int) : dps (cutL xs lo hi) ≤ dps xs := dps_le fun _ hx => dp_mem (cut_mem hx)
theorem cns_cut {xs : List D} (h : Cns xs = true) (lo hi : Option Int) : Cns (cutL xs lo hi) = true := Cns_all.mpr fun x hx => Cns_all.mp h x (cut_mem hx)
theorem cns_app {xs ys : List D} (h : Cns xs = true) (g : Cns ys = true) : Cns (xs ++ ys) = true := Cns_all.mpr fun x hx => (List.mem_append.mp hx).elim (Cns_all.mp h x) (Cns_all.mp g x)
/-- texts -/
theorem cn_app {x y : Str} (h : Cn (.str x) = true) (g : Cn (.str y) = true) : Cn (.str (x ++ y)) = true := by
  show ((x ++ y).cps.toList.all fun c => decide (c < 128)) = true
  rw [PySem.Str.cps_append, Array.toList_append, List.all_append, Bool.and_eq_true]
  exact ⟨h, g⟩
theorem cn_cutS {x : Str} (h : Cn (.str x) = true) (lo hi : Option Int) : Cn (.str (L2.cutS x lo hi)) = true := by
  have h : (x.cps.toList.all fun c => decide (c < 128)) = true := h
  show (List.all (List.toArray (cutL x.cps.toList lo hi)).toList fun c => decide (c < 128)) = true
  rw [List.toList_toArray]
  rw [List.all_eq_true] at h ⊢
  exact fun c hc => h c (cut_mem hc)
theorem upper_cn : ∀ cs : List Nat, (∀ c ∈ cs, c < 128) → (Txt.upper ⟨cs.toArray⟩).length = cs.length ∧ Cn (.str (Txt.upper ⟨cs.toArray⟩)) = true
  | [], _ => ⟨rfl, rfl⟩
  | c :: cs, h => by
    have e : (⟨(c :: cs).toArray⟩ : Str) = ⟨#[c]⟩ ++ ⟨cs.toArray⟩ := PySem.Str.ext' (by rw [PySem.Str.cps_append]; simp)
    obtain ⟨h1, h2⟩ := upper_cn cs fun d hd => h d (List.mem_cons_of_mem _ hd)
    have hc := h c (by simp)
    rw [e, PySem.W.KOpn.upper_app, PySem.W.KOpn.upper_one hc]
    refine ⟨?_, cn_app ?_ h2⟩
    · rw [str_app_len, h1, List.length_cons]
      show 1 + _ = _
      omega
    · show (decide ((if 97 ≤ c ∧ c ≤ 122 then c - 32 else c) < 128) && true) = true
      rw [Bool.and_true, decide_eq_true_eq]
      split <;> omega
theorem upper_ok {x : Str} (h : Cn (.str x) = true) : (Txt.upper x).length = x.length ∧ Cn (.str (Txt.upper x)) = true := by
  have h : (x.cps.toList.all fun c => decide (c < 128)) = true := h
  rw [List.all_eq_true] at h
  have := upper_cn x.cps.toList fun c hc => of_decide_eq_true (h c hc)
  have e : (⟨x.cps.toList.toArray⟩ : Str) = x := PySem.Str.ext' (by simp)
  rw [e, Array.length_toList] at this
  exact this
theorem th_str {b k : Nat} {x : Str} (h : Cn (.str x) = true) (hb : x.length ≤ b) : Th b k (.str x) := (Th.cn h).mono hb (Nat.zero_le _)
theorem th_tup {b k : Nat} {xs : List D} (h : Cns xs = true) (hb : bks xs ≤ b) (hk : dps xs + 1 ≤ k) : Th b k (.tup xs) := (Th.cn (d := .tup xs) h).mono hb hk
theorem th_lst {b k : Nat} {xs : List D} (h : Cns xs = true) (hb : bks xs ≤ b) (hk : dps xs + 1 ≤ k) : Th b k (.lst xs) := ⟨.inl (cns_gd xs h).1, hb, hk⟩
def oddL (d : D) : List D := [.non, .bl true, .int 0, .int 1, .str "", .str "x", .tup [], .lst [], .dct [] [], .tup [d], .lst [d], .int (10 ^ 20), .str "A", .str "a b", .str "\n", .str "\t", .int (0 - 1), .int 7]
theorem odd_th {d : D} (hd : Cn d = true) : ∀ x ∈ oddL d, Th (3 * bk d + 100) (dp d + 1) x := by
  have h1 : Cns [d] = true := by show (Cn d && true) = true; rw [hd] <;> rfl
  have h2 : bks [d] ≤ 3 * bk d + 100 := by show bk d + 1 + 0 ≤ _; omega
  have h3 : dps [d] + 1 ≤ dp d + 1 := by show max (dp d) 0 + 1 ≤ _; omega
  unfold oddL
  refine all_cons ⟨.inl rfl, Nat.zero_le _, Nat.zero_le _⟩ ?_
  refine all_cons ⟨.inl rfl, Nat.zero_le _, Nat.zero_le _⟩ ?_
  refine all_cons ⟨.inl (by decide), Nat.zero_le _, Nat.zero_le _⟩ ?_
  refine all_cons ⟨.inl (by decide), Nat.zero_le _, Nat.zero_le _⟩ ?_
  refine all_cons (th_str (by decide) (by show 0 ≤ _; omega)) ?_
  refine all_cons (th_str (by decide) (by show 1 ≤ _; omega)) ?_
  refine all_cons ⟨.inl rfl, Nat.zero_le _, Nat.le_add_left _ _⟩ ?_
  refine all_cons ⟨.inl rfl, Nat.zero_le _, Nat.le_add_left _ _⟩ ?_
  refine all_cons ⟨.inr rfl, Nat.zero_le _, Nat.le_add_left _ _⟩ ?_
  refine all_cons (th_tup h1 h2 h3) ?_
  refine all_cons (th_lst h1 h2 h3) ?_
  refine all_cons ⟨.inl (by decide), Nat.zero_le _, Nat.zero_le _⟩ ?_
  refine all_cons (th_str (by decide) (by show 1 ≤ _; omega)) ?_
  refine all_cons (th_str (by decide) (by show 3 ≤ _; omega)) ?_
  refine all_cons (th_str (by decide) (by show 1 ≤ _; omega)) ?_
  refine all_cons (th_str (by decide) (by show 1 ≤ _; omega)) ?_
  refine all_cons ⟨.inl (by decide), Nat.zero_le _, Nat.zero_le _⟩ ?_
  exact all_cons ⟨.inl (by decide), Nat.zero_le _, Nat.zero_le _⟩ all_nil
end Law
end Cip

set_option maxHeartbeats 4000000
namespace Cip
open PySem
local macro_rules | `(tactic| walk_at "cip") => `(tactic| simp only [s_cons, s_nil, s_asg, s_ret, s_ite, s_exp, s_pass, w_non, w_bl, w_int, w_str, w_var, w_con, w_bin, w_neg, w_cmp, w_isn, w_notn, w_and, w_or, w_not, w_ite, w_tup, w_lst, w_idx, w_call, s_ssubD, s_forD, s_whlD, w_mutD, w_appD, mut_lst, asg_tup2, asg_tup3, int_i, len_l, len_t, len_s, idx_l, idx_t, tuple_l, w_bi, w_isi, w_evs, w_evs0, w_and0, w_and1, w_or0, w_or1, asg_nm, ex_some, ex_var, ex_int, ex_bl, startE, List.length_cons, List.length_nil, List.map_cons, List.map_nil, List.getElem?_cons_zero, List.getElem?_cons_succ, List.set_cons_zero, List.set_cons_succ, List.cons_append, List.nil_append, List.replicate, ex_ite, b_add_i, b_sub_i, b_mul_i, b_mod_i, b_div_i, b_pow_i, b_add_s, b_add_t, b_add_l, b_mul_s, b_mul_t, b_mul_l, c_lt_i, c_le_i, c_gt_i, c_ge_i, c_lt_s, c_le_s, c_eq_i, c_ne_i, c_eq_s, c_ne_s, WP_ok, WS_nx, WS_rt, true_and, and_true])
local macro_rules | `(tactic| walk_at "cip2") => `(tactic| simp only [s_cons, s_nil, s_asg, s_ret, s_ite, s_exp, s_pass, w_non, w_bl, w_int, w_str, w_var, w_con, w_bin, w_neg, w_cmp, w_isn, w_notn, w_and, w_or, w_not, w_ite, w_tup, w_lst, w_idx, w_call, s_ssubD, s_forD, s_whlD, w_mutD, w_appD, mut_lst, asg_tup2, asg_tup3, int_i, len_l, len_t, len_s, idx_l, idx_t, tuple_l, w_bi, w_isi, w_evs, w_evs0, w_and0, w_and1, w_or0, w_or1, asg_nm, ex_some, ex_var, ex_int, ex_bl, startE, List.length_cons, List.length_nil, List.map_cons, List.map_nil, List.getElem?_cons_zero, List.getElem?_cons_succ, List.set_cons_zero, List.set_cons_succ, List.cons_append, List.nil_append, List.replicate, ex_ite, b_add_i, b_sub_i, b_mul_i, b_mod_i, b_div_i, b_pow_i, b_add_s, b_add_t, b_add_l, b_mul_s, b_mul_t, b_mul_l, c_lt_i, c_le_i, c_gt_i, c_ge_i, c_lt_s, c_le_s, c_eq_i, c_ne_i, c_eq_s, c_ne_s, WP_ok, WS_nx, WS_rt, true_and, and_true, w_slc, E.nulB, eq_self, if_true, if_false, Bool.false_eq_true, WP_bind, WP_of, bnd_int, Bool.not_true, Bool.not_false])
local macro_rules | `(tactic| walk_at "cip3") => `(tactic| simp only [s_cons, s_nil, s_asg, s_ret, s_ite, s_exp, s_pass, w_non, w_bl, w_int, w_str, w_var, w_con, w_bin, w_neg, w_cmp, w_isn, w_notn, w_and, w_or, w_not, w_ite, w_tup, w_lst, w_idx, w_call, s_ssubD, s_forD, s_whlD, w_mutD, w_appD, mut_lst, asg_tup2, asg_tup3, int_i, len_l, len_t, len_s, idx_l, idx_t, tuple_l, w_bi, w_isi, w_evs, w_evs0, w_and0, w_and1, w_or0, w_or1, asg_nm, ex_some, ex_var, ex_int, ex_bl, startE, List.length_cons, List.length_nil, List.map_cons, List.map_nil, List.getElem?_cons_zero, List.getElem?_cons_succ, List.set_cons_zero, List.set_cons_succ, List.cons_append, List.nil_append, List.replicate, ex_ite, b_add_i, b_sub_i, b_mul_i, b_mod_i, b_div_i, b_pow_i, b_add_s, b_add_t, b_add_l, b_mul_s, b_mul_t, b_mul_l, c_lt_i, c_le_i, c_gt_i, c_ge_i, c_lt_s, c_le_s, c_eq_i, c_ne_i, c_eq_s, c_ne_s, WP_ok, WS_nx, WS_rt, true_and, and_true, w_slc, E.nulB, eq_self, if_true, if_false, Bool.false_eq_true, WP_bind, WP_of, bnd_int, Bool.not_true, Bool.not_false, w_chn])
local macro_rules | `(tactic| walk_at "z0") => `(tactic| simp only [startE, List.map_cons, List.map_nil, List.length_cons, List.length_nil, Nat.reduceAdd, Nat.reduceSub, List.replicate, List.cons_append, List.nil_append])
local macro_rules | `(tactic| walk_at "zx") => `(tactic| simp only [wipeE, List.set_cons_zero, List.set_cons_succ, ↓x_a0, ↓x_as, ↓x_atup2, ↓x_atup3])
namespace Law
/-! M12: odd, changed. -/
theorem pickT {n u : Nat} {d : D} {es : List D} {st0 st : Store} {Q : D → Store → Prop} (hU : Urn st0 u) (hd : Cn d = true) (h0 : Drawn u st0 st) (hl : es.length ≤ 100) (he : ∀ x ∈ es, Th (3 * bk d + 100) (dp d + 1) x)
    (hq : ∀ x st', Th (3 * bk d + 100) (dp d + 1) x → Drawn u st0 st' → Q x st') : WP (cf (n + 3) 12 [.ref u, .lst (oddL d ++ es)] st) fun x st' => st'.length = st0.length ∧ Q x st' := by
  refine choiceP (Th (3 * bk d + 100) (dp d + 1)) h0.urn ?_ (fun x hx => (List.mem_append.mp hx).elim (odd_th hd x) (he x)) fun x st' hx h1 => ⟨by rw [h1.1, h0.1], hq x st' hx (h0.trans h1)⟩
  rw [List.length_append]
  have : (oddL d).length = 18 := rfl
  omega
theorem eq_bi {st : Store} {d : D} {i : Int} (h : Pn1 d = true) : cmpD st .eq d (.int i) = some (PyData.eqv (tp d) (tp (.int i))) := c_eq_pn h rfl (by simp [tp, PyData.depth])
theorem th_i {b k : Nat} {i : Int} (h : i.natAbs < 10 ^ 25) : Th b k (.int i) := ⟨.inl (decide_eq_true h), Nat.zero_le _, Nat.zero_le _⟩
theorem th_b {b k : Nat} {x : Bool} : Th b k (.bl x) := ⟨.inl rfl, Nat.zero_le _, Nat.zero_le _⟩
theorem digit {i : Int} (h0 : 0 ≤ i) (h1 : i ≤ 6) : Cn (.str (toString i)) = true ∧ (Str.ofString (toString i)).length = 1 ∧ i.natAbs.log2 < 1920 := by
  have : i = 0 ∨ i = 1 ∨ i = 2 ∨ i = 3 ∨ i = 4 ∨ i = 5 ∨ i = 6 := by omega
  rcases this with rfl | rfl | rfl | rfl | rfl | rfl | rfl <;> exact ⟨by decide, by decide, by decide⟩
theorem odd {n u : Nat} {d : D} {st : Store} {Q : D → Store → Prop} (hU : Urn st u) (hd : Cn d = true) (hb : bk d ≤ 100000) (hq : ∀ x st', Th (3 * bk d + 100) (dp d + 1) x → Drawn u st st' → Q x st') : WP (cf (n + 4) 20 [.ref u, d] st) Q := by
  refine call_same (ft := f20) rfl rfl ?_
  unfold f20
  walk_at "z0"
  cases d with
  | bl b =>
    have q := fun (i : Int) (st : Store) (P : Bool → Prop) => EX_eq (P := P) (eq_bi (st := st) (d := .bl b) (i := i) rfl)
    simp only [↓s_cons, ↓s_nil, ↓l_asg, ↓s_ret, ↓l_site, ↓s_exp, ↓s_pass, ↓w_non, ↓w_bl, ↓w_int, ↓w_str, ↓l_var, ↓l_con, ↓l_bin, ↓l_neg, ↓l_cmp, ↓l_chn, ↓w_isn, ↓w_notn, ↓w_and, ↓w_or, ↓l_not, ↓l_ite, ↓l_tup, ↓l_lst, ↓w_dct, ↓w_mutD, ↓mut_lst, ↓mut_dct, ↓l_idx, ↓l_slc, ↓nb_nul, ↓nb_int, ↓nb_var, ↓nb_con, ↓nb_bin, ↓nb_neg, ↓nb_idx, ↓nb_call, ↓nb_bi, ↓w_call, ↓l_bi, ↓l_bm, ↓l_isi, ↓w_evs, ↓w_evs0, ↓w_and0, ↓l_and1, ↓w_or0, ↓l_or1, ↓l_ssub, ↓s_whlD, ↓l_app, ↓WP_ok, ↓WS_nx, ↓WS_rt, ↓WP_bind, ↓WP_ofE, ↓WB_t, ↓WB_f, ↓WB_n, ↓WB_dec, ↓WB_all, ↓WB_any, ↓WB_lt, ↓WB_sub, ↓WB_emp, ↓WB_eqv, ↓WB_and, ↓WB_or, ↓SB_t, ↓SB_f, ↓SB_n, ↓SB_dec, ↓SB_all, ↓SB_any, ↓SB_lt, ↓SB_sub, ↓SB_emp, ↓SB_eqv, ↓SB_and, ↓SB_or, ↓EX_some, ↓EX_none, ↓EX_map, ↓EB_bl, ↓EI_int, ↓x_g0, ↓x_gs, ↓x_at0, ↓x_at1, ↓x_at2, ↓x_a0, ↓x_as, ↓x_atup2, ↓x_atup3, ↓x_mod_i, ↓x_bnd, ↓x_str_i, ↓x_str_b, ↓x_upper, ↓x_all, ↓x_any, ↓x_sum, ↓x_add_i, ↓x_sub_i, ↓x_mul_i, ↓x_div_i, ↓x_pow_i, ↓x_add_s, ↓x_add_t, ↓x_add_l, ↓x_mul_s, ↓x_mul_t, ↓x_mul_l, ↓x_lt_i, ↓x_le_i, ↓x_gt_i, ↓x_ge_i, ↓x_lt_s, ↓x_le_s, ↓x_eq_i, ↓x_ne_i, ↓x_eq_s, ↓x_ne_s, ↓x_eq_nil, ↓x_ne_nil, ↓x_in_s, ↓x_nin_s, ↓x_len_l, ↓x_len_t, ↓x_len_s, ↓x_tuple_l, ↓x_tuple_t, ↓x_list_t, ↓x_list_l, ↓x_list_s, ↓x_int_i, ↓x_int_b, ↓x_abs, ↓x_str_s, ↓x_slc_t, ↓x_slc_l, ↓x_slc_s, ↓x_idx_t, ↓x_idx_l, ↓x_isi_nb, ↓x_isi_ni, ↓x_isi_ns, ↓x_isi_nt, ↓x_isi_nl, ↓x_isi_nd, ↓x_isi_bb, ↓x_isi_bi, ↓x_isi_bs, ↓x_isi_bt, ↓x_isi_bl, ↓x_isi_bd, ↓x_isi_ib, ↓x_isi_ii, ↓x_isi_is, ↓x_isi_it, ↓x_isi_il, ↓x_isi_id, ↓x_isi_sb, ↓x_isi_si, ↓x_isi_ss, ↓x_isi_st, ↓x_isi_sl, ↓x_isi_sd, ↓x_isi_tb, ↓x_isi_ti, ↓x_isi_ts, ↓x_isi_tt, ↓x_isi_tl, ↓x_isi_td, ↓x_isi_lb, ↓x_isi_li, ↓x_isi_ls, ↓x_isi_lt, ↓x_isi_ll, ↓x_isi_ld, ↓x_isi_db, ↓x_isi_di, ↓x_isi_ds, ↓x_isi_dt, ↓x_isi_dl, ↓x_isi_dd, emp_flt, List.length_cons, List.length_nil, on_join, on_split, on_upper, on_count, on_rstrip, on_sindex, on_tindex, true_and, and_true, eq_self, Nat.reduceAdd, Nat.reduceLeDiff, Nat.zero_add, isI_n, isI_b, isI_i, isI_s, isI_t, isI_l, isI_d, isI_c, isI_r, isB_n, isB_b, isB_i, isB_s, isB_t, isB_l, isB_d, isB_c, isB_r, isS_n, isS_b, isS_i, isS_s, isS_t, isS_l, isS_d, isS_c, isS_r, isT_n, isT_b, isT_i, isT_s, isT_t, isT_l, isT_d, isT_c, isT_r, ↓x_con0, ↓x_con1, ↓x_con2, ↓x_con3, ↓x_con4, ↓x_con5, ↓x_con6, ↓x_con7, ↓WB_isI, ↓WB_isB, ↓WB_isS, ↓WB_isT, ↓SB_isI, ↓SB_isB, ↓SB_isS, ↓SB_isT, ↓q]
    refine ⟨by decide, ?_⟩
    refine pickT (d := .bl b) hU hd (Drawn.refl hU) (by simp) ?_ hq
    cases b <;> exact all_cons (th_i (by decide)) (all_cons (th_i (by decide)) (all_cons th_b (all_cons th_b (all_cons (th_str (by decide) (by decide)) all_nil))))
  | int i =>
    have hd' : (decide (0 ≤ i) && decide (i ≤ 6)) = true := hd
    rw [Bool.and_eq_true, decide_eq_true_eq, decide_eq_true_eq] at hd'
    obtain ⟨g1, g2, g3⟩ := digit hd'.1 hd'.2
    simp only [↓s_cons, ↓s_nil, ↓l_asg, ↓s_ret, ↓l_site, ↓s_exp, ↓s_pass, ↓w_non, ↓w_bl, ↓w_int, ↓w_str, ↓l_var, ↓l_con, ↓l_bin, ↓l_neg, ↓l_cmp, ↓l_chn, ↓w_isn, ↓w_notn, ↓w_and, ↓w_or, ↓l_not, ↓l_ite, ↓l_tup, ↓l_lst, ↓w_dct, ↓w_mutD, ↓mut_lst, ↓mut_dct, ↓l_idx, ↓l_slc, ↓nb_nul, ↓nb_int, ↓nb_var, ↓nb_con, ↓nb_bin, ↓nb_neg, ↓nb_idx, ↓nb_call, ↓nb_bi, ↓w_call, ↓l_bi, ↓l_bm, ↓l_isi, ↓w_evs, ↓w_evs0, ↓w_and0, ↓l_and1, ↓w_or0, ↓l_or1, ↓l_ssub, ↓s_whlD, ↓l_app, ↓WP_ok, ↓WS_nx, ↓WS_rt, ↓WP_bind, ↓WP_ofE, ↓WB_t, ↓WB_f, ↓WB_n, ↓WB_dec, ↓WB_all, ↓WB_any, ↓WB_lt, ↓WB_sub, ↓WB_emp, ↓WB_eqv, ↓WB_and, ↓WB_or, ↓SB_t, ↓SB_f, ↓SB_n, ↓SB_dec, ↓SB_all, ↓SB_any, ↓SB_lt, ↓SB_sub, ↓SB_emp, ↓SB_eqv, ↓SB_and, ↓SB_or, ↓EX_some, ↓EX_none, ↓EX_map, ↓EB_bl, ↓EI_int, ↓x_g0, ↓x_gs, ↓x_at0, ↓x_at1, ↓x_at2, ↓x_a0, ↓x_as, ↓x_atup2, ↓x_atup3, ↓x_mod_i, ↓x_bnd, ↓x_str_i, ↓x_str_b, ↓x_upper, ↓x_all, ↓x_any, ↓x_sum, ↓x_add_i, ↓x_sub_i, ↓x_mul_i, ↓x_div_i, ↓x_pow_i, ↓x_add_s, ↓x_add_t, ↓x_add_l, ↓x_mul_s, ↓x_mul_t, ↓x_mul_l, ↓x_lt_i, ↓x_le_i, ↓x_gt_i, ↓x_ge_i, ↓x_lt_s, ↓x_le_s, ↓x_eq_i, ↓x_ne_i, ↓x_eq_s, ↓x_ne_s, ↓x_eq_nil, ↓x_ne_nil, ↓x_in_s, ↓x_nin_s, ↓x_len_l, ↓x_len_t, ↓x_len_s, ↓x_tuple_l, ↓x_tuple_t, ↓x_list_t, ↓x_list_l, ↓x_list_s, ↓x_int_i, ↓x_int_b, ↓x_abs, ↓x_str_s, ↓x_slc_t, ↓x_slc_l, ↓x_slc_s, ↓x_idx_t, ↓x_idx_l, ↓x_isi_nb, ↓x_isi_ni, ↓x_isi_ns, ↓x_isi_nt, ↓x_isi_nl, ↓x_isi_nd, ↓x_isi_bb, ↓x_isi_bi, ↓x_isi_bs, ↓x_isi_bt, ↓x_isi_bl, ↓x_isi_bd, ↓x_isi_ib, ↓x_isi_ii, ↓x_isi_is, ↓x_isi_it, ↓x_isi_il, ↓x_isi_id, ↓x_isi_sb, ↓x_isi_si, ↓x_isi_ss, ↓x_isi_st, ↓x_isi_sl, ↓x_isi_sd, ↓x_isi_tb, ↓x_isi_ti, ↓x_isi_ts, ↓x_isi_tt, ↓x_isi_tl, ↓x_isi_td, ↓x_isi_lb, ↓x_isi_li, ↓x_isi_ls, ↓x_isi_lt, ↓x_isi_ll, ↓x_isi_ld, ↓x_isi_db, ↓x_isi_di, ↓x_isi_ds, ↓x_isi_dt, ↓x_isi_dl, ↓x_isi_dd, emp_flt, List.length_cons, List.length_nil, on_join, on_split, on_upper, on_count, on_rstrip, on_sindex, on_tindex, true_and, and_true, eq_self, Nat.reduceAdd, Nat.reduceLeDiff, Nat.zero_add, isI_n, isI_b, isI_i, isI_s, isI_t, isI_l, isI_d, isI_c, isI_r, isB_n, isB_b, isB_i, isB_s, isB_t, isB_l, isB_d, isB_c, isB_r, isS_n, isS_b, isS_i, isS_s, isS_t, isS_l, isS_d, isS_c, isS_r, isT_n, isT_b, isT_i, isT_s, isT_t, isT_l, isT_d, isT_c, isT_r, ↓x_con0, ↓x_con1, ↓x_con2, ↓x_con3, ↓x_con4, ↓x_con5, ↓x_con6, ↓x_con7, ↓WB_isI, ↓WB_isB, ↓WB_isS, ↓WB_isT, ↓SB_isI, ↓SB_isB, ↓SB_isS, ↓SB_isT]
    refine ⟨by decide, g3, ?_⟩
    refine pickT (d := .int i) hU hd (Drawn.refl hU) (by simp) ?_ hq
    have e25 : (10 : Nat) ^ 25 = 10000000000000000000000000 := by decide
    exact all_cons (th_i (by omega)) (all_cons (th_i (by omega)) (all_cons th_b (all_cons th_b (all_cons (th_str g1 (by rw [g2]; show 1 ≤ 3 * 0 + 100; omega)) all_nil))))
  | str x =>
    have hbx : x.length ≤ 100000 := hb
    obtain ⟨u1, u2⟩ := upper_ok hd
    have l1 : (Str.ofString "\n").length = 1 := by decide
    have l2 : (Str.ofString " ").length = 1 := by decide
    have l3 : (Str.ofString "Z").length = 1 := by decide
    have l4 : (Str.ofString "\t").length = 1 := by decide
    simp only [↓s_cons, ↓s_nil, ↓l_asg, ↓s_ret, ↓l_site, ↓s_exp, ↓s_pass, ↓w_non, ↓w_bl, ↓w_int, ↓w_str, ↓l_var, ↓l_con, ↓l_bin, ↓l_neg, ↓l_cmp, ↓l_chn, ↓w_isn, ↓w_notn, ↓w_and, ↓w_or, ↓l_not, ↓l_ite, ↓l_tup, ↓l_lst, ↓w_dct, ↓w_mutD, ↓mut_lst, ↓mut_dct, ↓l_idx, ↓l_slc, ↓nb_nul, ↓nb_int, ↓nb_var, ↓nb_con, ↓nb_bin, ↓nb_neg, ↓nb_idx, ↓nb_call, ↓nb_bi, ↓w_call, ↓l_bi, ↓l_bm, ↓l_isi, ↓w_evs, ↓w_evs0, ↓w_and0, ↓l_and1, ↓w_or0, ↓l_or1, ↓l_ssub, ↓s_whlD, ↓l_app, ↓WP_ok, ↓WS_nx, ↓WS_rt, ↓WP_bind, ↓WP_ofE, ↓WB_t, ↓WB_f, ↓WB_n, ↓WB_dec, ↓WB_all, ↓WB_any, ↓WB_lt, ↓WB_sub, ↓WB_emp, ↓WB_eqv, ↓WB_and, ↓WB_or, ↓SB_t, ↓SB_f, ↓SB_n, ↓SB_dec, ↓SB_all, ↓SB_any, ↓SB_lt, ↓SB_sub, ↓SB_emp, ↓SB_eqv, ↓SB_and, ↓SB_or, ↓EX_some, ↓EX_none, ↓EX_map, ↓EB_bl, ↓EI_int, ↓x_g0, ↓x_gs, ↓x_at0, ↓x_at1, ↓x_at2, ↓x_a0, ↓x_as, ↓x_atup2, ↓x_atup3, ↓x_mod_i, ↓x_bnd, ↓x_str_i, ↓x_str_b, ↓x_upper, ↓x_all, ↓x_any, ↓x_sum, ↓x_add_i, ↓x_sub_i, ↓x_mul_i, ↓x_div_i, ↓x_pow_i, ↓x_add_s, ↓x_add_t, ↓x_add_l, ↓x_mul_s, ↓x_mul_t, ↓x_mul_l, ↓x_lt_i, ↓x_le_i, ↓x_gt_i, ↓x_ge_i, ↓x_lt_s, ↓x_le_s, ↓x_eq_i, ↓x_ne_i, ↓x_eq_s, ↓x_ne_s, ↓x_eq_nil, ↓x_ne_nil, ↓x_in_s, ↓x_nin_s, ↓x_len_l, ↓x_len_t, ↓x_len_s, ↓x_tuple_l, ↓x_tuple_t, ↓x_list_t, ↓x_list_l, ↓x_list_s, ↓x_int_i, ↓x_int_b, ↓x_abs, ↓x_str_s, ↓x_slc_t, ↓x_slc_l, ↓x_slc_s, ↓x_idx_t, ↓x_idx_l, ↓x_isi_nb, ↓x_isi_ni, ↓x_isi_ns, ↓x_isi_nt, ↓x_isi_nl, ↓x_isi_nd, ↓x_isi_bb, ↓x_isi_bi, ↓x_isi_bs, ↓x_isi_bt, ↓x_isi_bl, ↓x_isi_bd, ↓x_isi_ib, ↓x_isi_ii, ↓x_isi_is, ↓x_isi_it, ↓x_isi_il, ↓x_isi_id, ↓x_isi_sb, ↓x_isi_si, ↓x_isi_ss, ↓x_isi_st, ↓x_isi_sl, ↓x_isi_sd, ↓x_isi_tb, ↓x_isi_ti, ↓x_isi_ts, ↓x_isi_tt, ↓x_isi_tl, ↓x_isi_td, ↓x_isi_lb, ↓x_isi_li, ↓x_isi_ls, ↓x_isi_lt, ↓x_isi_ll, ↓x_isi_ld, ↓x_isi_db, ↓x_isi_di, ↓x_isi_ds, ↓x_isi_dt, ↓x_isi_dl, ↓x_isi_dd, emp_flt, List.length_cons, List.length_nil, on_join, on_split, on_upper, on_count, on_rstrip, on_sindex, on_tindex, true_and, and_true, eq_self, Nat.reduceAdd, Nat.reduceLeDiff, Nat.zero_add, isI_n, isI_b, isI_i, isI_s, isI_t, isI_l, isI_d, isI_c, isI_r, isB_n, isB_b, isB_i, isB_s, isB_t, isB_l, isB_d, isB_c, isB_r, isS_n, isS_b, isS_i, isS_s, isS_t, isS_l, isS_d, isS_c, isS_r, isT_n, isT_b, isT_i, isT_s, isT_t, isT_l, isT_d, isT_c, isT_r, ↓x_con0, ↓x_con1, ↓x_con2, ↓x_con3, ↓x_con4, ↓x_con5, ↓x_con6, ↓x_con7, ↓WB_isI, ↓WB_isB, ↓WB_isS, ↓WB_isT, ↓SB_isI, ↓SB_isB, ↓SB_isS, ↓SB_isT]
    refine ⟨by decide, upto hU ⟨by omega, by omega⟩ fun r s1 h0 h1 h2 => ?_⟩
    refine ⟨by omega, by omega, ⟨by omega, by omega⟩, by omega, by omega, EX_mk _ rfl (choiceP (fun d => d = .str "\n" ∨ d = .str "\t") h2.urn (by decide) (all_cons (.inl rfl) (all_cons (.inr rfl) all_nil)) fun y s2 hy h3 => ?_)⟩
    have hy : ∃ z : Str, y = .str z ∧ z.length = 1 ∧ Cn (.str z) = true := by
      rcases hy with rfl | rfl
      · exact ⟨"\n", rfl, by decide, by decide⟩
      · exact ⟨"\t", rfl, by decide, by decide⟩
    obtain ⟨z, rfl, hz1, hz2⟩ := hy
    have c1 := L2.cutS_length x none (some r)
    have c2 := L2.cutS_length x (some r) none
    simp only [↓s_cons, ↓s_nil, ↓l_asg, ↓s_ret, ↓l_site, ↓s_exp, ↓s_pass, ↓w_non, ↓w_bl, ↓w_int, ↓w_str, ↓l_var, ↓l_con, ↓l_bin, ↓l_neg, ↓l_cmp, ↓l_chn, ↓w_isn, ↓w_notn, ↓w_and, ↓w_or, ↓l_not, ↓l_ite, ↓l_tup, ↓l_lst, ↓w_dct, ↓w_mutD, ↓mut_lst, ↓mut_dct, ↓l_idx, ↓l_slc, ↓nb_nul, ↓nb_int, ↓nb_var, ↓nb_con, ↓nb_bin, ↓nb_neg, ↓nb_idx, ↓nb_call, ↓nb_bi, ↓w_call, ↓l_bi, ↓l_bm, ↓l_isi, ↓w_evs, ↓w_evs0, ↓w_and0, ↓l_and1, ↓w_or0, ↓l_or1, ↓l_ssub, ↓s_whlD, ↓l_app, ↓WP_ok, ↓WS_nx, ↓WS_rt, ↓WP_bind, ↓WP_ofE, ↓WB_t, ↓WB_f, ↓WB_n, ↓WB_dec, ↓WB_all, ↓WB_any, ↓WB_lt, ↓WB_sub, ↓WB_emp, ↓WB_eqv, ↓WB_and, ↓WB_or, ↓SB_t, ↓SB_f, ↓SB_n, ↓SB_dec, ↓SB_all, ↓SB_any, ↓SB_lt, ↓SB_sub, ↓SB_emp, ↓SB_eqv, ↓SB_and, ↓SB_or, ↓EX_some, ↓EX_none, ↓EX_map, ↓EB_bl, ↓EI_int, ↓x_g0, ↓x_gs, ↓x_at0, ↓x_at1, ↓x_at2, ↓x_a0, ↓x_as, ↓x_atup2, ↓x_atup3, ↓x_mod_i, ↓x_bnd, ↓x_str_i, ↓x_str_b, ↓x_upper, ↓x_all, ↓x_any, ↓x_sum, ↓x_add_i, ↓x_sub_i, ↓x_mul_i, ↓x_div_i, ↓x_pow_i, ↓x_add_s, ↓x_add_t, ↓x_add_l, ↓x_mul_s, ↓x_mul_t, ↓x_mul_l, ↓x_lt_i, ↓x_le_i, ↓x_gt_i, ↓x_ge_i, ↓x_lt_s, ↓x_le_s, ↓x_eq_i, ↓x_ne_i, ↓x_eq_s, ↓x_ne_s, ↓x_eq_nil, ↓x_ne_nil, ↓x_in_s, ↓x_nin_s, ↓x_len_l, ↓x_len_t, ↓x_len_s, ↓x_tuple_l, ↓x_tuple_t, ↓x_list_t, ↓x_list_l, ↓x_list_s, ↓x_int_i, ↓x_int_b, ↓x_abs, ↓x_str_s, ↓x_slc_t, ↓x_slc_l, ↓x_slc_s, ↓x_idx_t, ↓x_idx_l, ↓x_isi_nb, ↓x_isi_ni, ↓x_isi_ns, ↓x_isi_nt, ↓x_isi_nl, ↓x_isi_nd, ↓x_isi_bb, ↓x_isi_bi, ↓x_isi_bs, ↓x_isi_bt, ↓x_isi_bl, ↓x_isi_bd, ↓x_isi_ib, ↓x_isi_ii, ↓x_isi_is, ↓x_isi_it, ↓x_isi_il, ↓x_isi_id, ↓x_isi_sb, ↓x_isi_si, ↓x_isi_ss, ↓x_isi_st, ↓x_isi_sl, ↓x_isi_sd, ↓x_isi_tb, ↓x_isi_ti, ↓x_isi_ts, ↓x_isi_tt, ↓x_isi_tl, ↓x_isi_td, ↓x_isi_lb, ↓x_isi_li, ↓x_isi_ls, ↓x_isi_lt, ↓x_isi_ll, ↓x_isi_ld, ↓x_isi_db, ↓x_isi_di, ↓x_isi_ds, ↓x_isi_dt, ↓x_isi_dl, ↓x_isi_dd, emp_flt, List.length_cons, List.length_nil, on_join, on_split, on_upper, on_count, on_rstrip, on_sindex, on_tindex, true_and, and_true, eq_self, Nat.reduceAdd, Nat.reduceLeDiff, Nat.zero_add, isI_n, isI_b, isI_i, isI_s, isI_t, isI_l, isI_d, isI_c, isI_r, isB_n, isB_b, isB_i, isB_s, isB_t, isB_l, isB_d, isB_c, isB_r, isS_n, isS_b, isS_i, isS_s, isS_t, isS_l, isS_d, isS_c, isS_r, isT_n, isT_b, isT_i, isT_s, isT_t, isT_l, isT_d, isT_c, isT_r, ↓x_con0, ↓x_con1, ↓x_con2, ↓x_con3, ↓x_con4, ↓x_con5, ↓x_con6, ↓x_con7, ↓WB_isI, ↓WB_isB, ↓WB_isS, ↓WB_isT, ↓SB_isI, ↓SB_isB, ↓SB_isS, ↓SB_isT]
    have e1 : (L2.cutS x none (some r) ++ z).length = (L2.cutS x none (some r)).length + z.length := str_app_len _ _
    refine ⟨by omega, by omega, ?_⟩
    have h23 := h2.trans h3
    have hall : ∀ d ∈ [D.str (x ++ Str.ofString "\n"), D.str (x ++ Str.ofString " "), D.str (Txt.upper x ++ Str.ofString "Z"), D.lst [D.str x], D.str (x ++ Str.ofString "\t"), D.str (L2.cutS x none (some r) ++ z ++ L2.cutS x (some r) none)], Th (3 * bk (.str x) + 100) (dp (.str x) + 1) d := by
      have hbk : bk (.str x) = x.length := rfl
      refine all_cons (th_str (cn_app hd (by decide)) ?_) (all_cons (th_str (cn_app hd (by decide)) ?_) (all_cons (th_str (cn_app u2 (by decide)) ?_) (all_cons (th_lst (xs := [.str x]) ?_ ?_ ?_) (all_cons (th_str (cn_app hd (by decide)) ?_) (all_cons (th_str (cn_app (cn_app (cn_cutS hd _ _) hz2) (cn_cutS hd _ _)) ?_) all_nil)))))
      · rw [str_app_len]; omega
      · rw [str_app_len]; omega
      · rw [str_app_len]; omega
      · show (Cn (.str x) && true) = true
        rw [hd] <;> rfl
      · show x.length + 1 + 0 ≤ _
        omega
      · exact Nat.le_refl _
      · rw [str_app_len]; omega
      · rw [str_app_len, e1]; omega
    refine ⟨by simp, ?_⟩
    rw [List.append_assoc]
    exact pickT (d := .str x) hU hd h23 (by simp) hall hq
  | tup xs =>
    have hbx : bks xs ≤ 100000 := hb
    have hlx := len_bks xs
    have hcx : Cns xs = true := hd
    have c1 := cut_le xs (some (-1)) none
    simp only [↓s_cons, ↓s_nil, ↓l_asg, ↓s_ret, ↓l_site, ↓s_exp, ↓s_pass, ↓w_non, ↓w_bl, ↓w_int, ↓w_str, ↓l_var, ↓l_con, ↓l_bin, ↓l_neg, ↓l_cmp, ↓l_chn, ↓w_isn, ↓w_notn, ↓w_and, ↓w_or, ↓l_not, ↓l_ite, ↓l_tup, ↓l_lst, ↓w_dct, ↓w_mutD, ↓mut_lst, ↓mut_dct, ↓l_idx, ↓l_slc, ↓nb_nul, ↓nb_int, ↓nb_var, ↓nb_con, ↓nb_bin, ↓nb_neg, ↓nb_idx, ↓nb_call, ↓nb_bi, ↓w_call, ↓l_bi, ↓l_bm, ↓l_isi, ↓w_evs, ↓w_evs0, ↓w_and0, ↓l_and1, ↓w_or0, ↓l_or1, ↓l_ssub, ↓s_whlD, ↓l_app, ↓WP_ok, ↓WS_nx, ↓WS_rt, ↓WP_bind, ↓WP_ofE, ↓WB_t, ↓WB_f, ↓WB_n, ↓WB_dec, ↓WB_all, ↓WB_any, ↓WB_lt, ↓WB_sub, ↓WB_emp, ↓WB_eqv, ↓WB_and, ↓WB_or, ↓SB_t, ↓SB_f, ↓SB_n, ↓SB_dec, ↓SB_all, ↓SB_any, ↓SB_lt, ↓SB_sub, ↓SB_emp, ↓SB_eqv, ↓SB_and, ↓SB_or, ↓EX_some, ↓EX_none, ↓EX_map, ↓EB_bl, ↓EI_int, ↓x_g0, ↓x_gs, ↓x_at0, ↓x_at1, ↓x_at2, ↓x_a0, ↓x_as, ↓x_atup2, ↓x_atup3, ↓x_mod_i, ↓x_bnd, ↓x_str_i, ↓x_str_b, ↓x_upper, ↓x_all, ↓x_any, ↓x_sum, ↓x_add_i, ↓x_sub_i, ↓x_mul_i, ↓x_div_i, ↓x_pow_i, ↓x_add_s, ↓x_add_t, ↓x_add_l, ↓x_mul_s, ↓x_mul_t, ↓x_mul_l, ↓x_lt_i, ↓x_le_i, ↓x_gt_i, ↓x_ge_i, ↓x_lt_s, ↓x_le_s, ↓x_eq_i, ↓x_ne_i, ↓x_eq_s, ↓x_ne_s, ↓x_eq_nil, ↓x_ne_nil, ↓x_in_s, ↓x_nin_s, ↓x_len_l, ↓x_len_t, ↓x_len_s, ↓x_tuple_l, ↓x_tuple_t, ↓x_list_t, ↓x_list_l, ↓x_list_s, ↓x_int_i, ↓x_int_b, ↓x_abs, ↓x_str_s, ↓x_slc_t, ↓x_slc_l, ↓x_slc_s, ↓x_idx_t, ↓x_idx_l, ↓x_isi_nb, ↓x_isi_ni, ↓x_isi_ns, ↓x_isi_nt, ↓x_isi_nl, ↓x_isi_nd, ↓x_isi_bb, ↓x_isi_bi, ↓x_isi_bs, ↓x_isi_bt, ↓x_isi_bl, ↓x_isi_bd, ↓x_isi_ib, ↓x_isi_ii, ↓x_isi_is, ↓x_isi_it, ↓x_isi_il, ↓x_isi_id, ↓x_isi_sb, ↓x_isi_si, ↓x_isi_ss, ↓x_isi_st, ↓x_isi_sl, ↓x_isi_sd, ↓x_isi_tb, ↓x_isi_ti, ↓x_isi_ts, ↓x_isi_tt, ↓x_isi_tl, ↓x_isi_td, ↓x_isi_lb, ↓x_isi_li, ↓x_isi_ls, ↓x_isi_lt, ↓x_isi_ll, ↓x_isi_ld, ↓x_isi_db, ↓x_isi_di, ↓x_isi_ds, ↓x_isi_dt, ↓x_isi_dl, ↓x_isi_dd, emp_flt, List.length_cons, List.length_nil, on_join, on_split, on_upper, on_count, on_rstrip, on_sindex, on_tindex, true_and, and_true, eq_self, Nat.reduceAdd, Nat.reduceLeDiff, Nat.zero_add, isI_n, isI_b, isI_i, isI_s, isI_t, isI_l, isI_d, isI_c, isI_r, isB_n, isB_b, isB_i, isB_s, isB_t, isB_l, isB_d, isB_c, isB_r, isS_n, isS_b, isS_i, isS_s, isS_t, isS_l, isS_d, isS_c, isS_r, isT_n, isT_b, isT_i, isT_s, isT_t, isT_l, isT_d, isT_c, isT_r, ↓x_con0, ↓x_con1, ↓x_con2, ↓x_con3, ↓x_con4, ↓x_con5, ↓x_con6, ↓x_con7, ↓WB_isI, ↓WB_isB, ↓WB_isS, ↓WB_isT, ↓SB_isI, ↓SB_isB, ↓SB_isS, ↓SB_isT]
    refine ⟨by decide, by omega, by omega, ?_⟩
    refine pickT (d := .tup xs) hU hd (Drawn.refl hU) (by simp) ?_ hq
    have hbk : bk (.tup xs) = bks xs := rfl
    have hdp : dp (.tup xs) = dps xs + 1 := rfl
    have b1 := bks_cut xs none (some (-1))
    have b2 := bks_cut xs (some (-1)) none
    have d1 := dps_cut xs none (some (-1))
    have d2 := dps_cut xs (some (-1)) none
    refine all_cons (th_lst hcx (by omega) (by omega)) (all_cons (th_tup (cns_app hcx (by decide)) ?_ ?_) (all_cons (th_tup (cns_cut hcx _ _) (by omega) (by omega)) (all_cons (th_tup (cns_app hcx (cns_cut hcx _ _)) ?_ ?_) all_nil)))
    · rw [bks_app]
      have : bks [D.int 0] = 1 := rfl
      omega
    · rw [dps_app]
      have : dps [D.int 0] = 0 := rfl
      omega
    · rw [bks_app]; omega
    · rw [dps_app]; omega
  | _ => cases hd
end Law
end Cip

set_option maxHeartbeats 4000000
namespace Cip
open PySem
local macro_rules | `(tactic| walk_at "cip") => `(tactic| simp only [s_cons, s_nil, s_asg, s_ret, s_ite, s_exp, s_pass, w_non, w_bl, w_int, w_str, w_var, w_con, w_bin, w_neg, w_cmp, w_isn, w_notn, w_and, w_or, w_not, w_ite, w_tup, w_lst, w_idx, w_call, s_ssubD, s_forD, s_whlD, w_mutD, w_appD, mut_lst, asg_tup2, asg_tup3, int_i, len_l, len_t, len_s, idx_l, idx_t, tuple_l, w_bi, w_isi, w_evs, w_evs0, w_and0, w_and1, w_or0, w_or1, asg_nm, ex_some, ex_var, ex_int, ex_bl, startE, List.length_cons, List.length_nil, List.map_cons, List.map_nil, List.getElem?_cons_zero, List.getElem?_cons_succ, List.set_cons_zero, List.set_cons_succ, List.cons_append, List.nil_append, List.replicate, ex_ite, b_add_i, b_sub_i, b_mul_i, b_mod_i, b_div_i, b_pow_i, b_add_s, b_add_t, b_add_l, b_mul_s, b_mul_t, b_mul_l, c_lt_i, c_le_i, c_gt_i, c_ge_i, c_lt_s, c_le_s, c_eq_i, c_ne_i, c_eq_s, c_ne_s, WP_ok, WS_nx, WS_rt, true_and, and_true])
local macro_rules | `(tactic| walk_at "cip2") => `(tactic| simp only [s_cons, s_nil, s_asg, s_ret, s_ite, s_exp, s_pass, w_non, w_bl, w_int, w_str, w_var, w_con, w_bin, w_neg, w_cmp, w_isn, w_notn, w_and, w_or, w_not, w_ite, w_tup, w_lst, w_idx, w_call, s_ssubD, s_forD, s_whlD, w_mutD, w_appD, mut_lst, asg_tup2, asg_tup3, int_i, len_l, len_t, len_s, idx_l, idx_t, tuple_l, w_bi, w_isi, w_evs, w_evs0, w_and0, w_and1, w_or0, w_or1, asg_nm, ex_some, ex_var, ex_int, ex_bl, startE, List.length_cons, List.length_nil, List.map_cons, List.map_nil, List.getElem?_cons_zero, List.getElem?_cons_succ, List.set_cons_zero, List.set_cons_succ, List.cons_append, List.nil_append, List.replicate, ex_ite, b_add_i, b_sub_i, b_mul_i, b_mod_i, b_div_i, b_pow_i, b_add_s, b_add_t, b_add_l, b_mul_s, b_mul_t, b_mul_l, c_lt_i, c_le_i, c_gt_i, c_ge_i, c_lt_s, c_le_s, c_eq_i, c_ne_i, c_eq_s, c_ne_s, WP_ok, WS_nx, WS_rt, true_and, and_true, w_slc, E.nulB, eq_self, if_true, if_false, Bool.false_eq_true, WP_bind, WP_of, bnd_int, Bool.not_true, Bool.not_false])
local macro_rules | `(tactic| walk_at "cip3") => `(tactic| simp only [s_cons, s_nil, s_asg, s_ret, s_ite, s_exp, s_pass, w_non, w_bl, w_int, w_str, w_var, w_con, w_bin, w_neg, w_cmp, w_isn, w_notn, w_and, w_or, w_not, w_ite, w_tup, w_lst, w_idx, w_call, s_ssubD, s_forD, s_whlD, w_mutD, w_appD, mut_lst, asg_tup2, asg_tup3, int_i, len_l, len_t, len_s, idx_l, idx_t, tuple_l, w_bi, w_isi, w_evs, w_evs0, w_and0, w_and1, w_or0, w_or1, asg_nm, ex_some, ex_var, ex_int, ex_bl, startE, List.length_cons, List.length_nil, List.map_cons, List.map_nil, List.getElem?_cons_zero, List.getElem?_cons_succ, List.set_cons_zero, List.set_cons_succ, List.cons_append, List.nil_append, List.replicate, ex_ite, b_add_i, b_sub_i, b_mul_i, b_mod_i, b_div_i, b_pow_i, b_add_s, b_add_t, b_add_l, b_mul_s, b_mul_t, b_mul_l, c_lt_i, c_le_i, c_gt_i, c_ge_i, c_lt_s, c_le_s, c_eq_i, c_ne_i, c_eq_s, c_ne_s, WP_ok, WS_nx, WS_rt, true_and, and_true, w_slc, E.nulB, eq_self, if_true, if_false, Bool.false_eq_true, WP_bind, WP_of, bnd_int, Bool.not_true, Bool.not_false, w_chn])
local macro_rules | `(tactic| walk_at "z0") => `(tactic| simp only [startE, List.map_cons, List.map_nil, List.length_cons, List.length_nil, Nat.reduceAdd, Nat.reduceSub, List.replicate, List.cons_append, List.nil_append])
local macro_rules | `(tactic| walk_at "zx") => `(tactic| simp only [wipeE, List.set_cons_zero, List.set_cons_succ, ↓x_a0, ↓x_as, ↓x_atup2, ↓x_atup3])
namespace Law
/-! M12b: changed. -/
theorem eqv_nil (xs : List D) : PyData.eqv (tp (.tup xs)) (tp (.tup [])) = xs.isEmpty := by
  cases xs with
  | nil => simp [tp, tps, PyData.eqv, PyData.eqvAll]
  | cons x xs => simp [tp, tps, PyData.eqv, PyData.eqvAll]
theorem eq_nilT {st : Store} {xs : List D} (h : Cns xs = true) : cmpD st .eq (.tup xs) (.tup []) = some xs.isEmpty := by
  have e := c_eq_pn (st := st) (a := .tup xs) (b := .tup []) (cns_gd (l := false) (c := false) xs h).2 rfl (by
    have : (tp (.tup [])).depth ≤ 100 := by simp [tp, tps, PyData.depth, PyData.depthAll]
    omega)
  rw [e, eqv_nil]
theorem at_get {α : Type} {xs : List α} {i : Int} (h0 : 0 ≤ i) (h1 : i < (xs.length : Int)) : ∃ x, L2.atI xs i = some x ∧ x ∈ xs ∧ xs = xs.take i.toNat ++ x :: xs.drop (i.toNat + 1) ∧ i.toNat < xs.length := by
  have hl : i.toNat < xs.length := by omega
  refine ⟨xs[i.toNat], ?_, List.getElem_mem hl, ?_, hl⟩
  · rw [atI_nat h0 hl]
    exact List.getElem?_eq_getElem hl
  · rw [List.getElem_cons_drop hl, List.take_append_drop]
theorem cut_to {α : Type} {xs : List α} {i : Int} (h0 : 0 ≤ i) (h1 : i < (xs.length : Int)) : cutL xs none (some i) = xs.take i.toNat := by
  obtain ⟨k, rfl⟩ := Int.eq_ofNat_of_zero_le h0
  unfold cutL
  rw [HT.sIx_none, HT.sIx_nat, List.drop_zero, Int.toNat_natCast]
  congr 1
  omega
theorem cut_from {α : Type} {xs : List α} {i : Int} (h0 : 0 ≤ i) (h1 : i < (xs.length : Int)) : cutL xs (some (i + 1)) none = xs.drop (i.toNat + 1) := by
  obtain ⟨k, rfl⟩ := Int.eq_ofNat_of_zero_le h0
  have e : ((k : Int) + 1) = ((k + 1 : Nat) : Int) := by omega
  unfold cutL
  rw [HT.sIx_none, e, HT.sIx_nat, Int.toNat_natCast]
  have e2 : min (k + 1) xs.length = k + 1 := by omega
  rw [e2]
  exact List.take_of_length_le (by rw [List.length_drop]; omega)
theorem changed : ∀ (m : Nat) {n u : Nat} {d : D} {st : Store} {Q : D → Store → Prop}, dp d ≤ m → Urn st u → Cn d = true → bk d ≤ 100000 → (∀ x st', Th (3 * bk d + 100) (dp d + 1) x → Drawn u st st' → Q x st') → WP (cf (n + m + 5) 21 [.ref u, d] st) Q
  | m, n, u, d, st, Q, hm, hU, hd, hb, hq => by
    have O : ∀ st', Drawn u st st' → WP (callN (txOf cons) (fnOfTab tab) (n + m + 4) 20 [.ref u, d] st') fun x s => s.length = st.length ∧ Q x s := fun st' h => odd (n := n + m) h.urn hd hb fun x s hx hs => ⟨by rw [hs.1, h.1], hq x s hx (h.trans hs)⟩
    refine call_same (ft := f21) rfl rfl ?_
    unfold f21
    walk_at "z0"
    cases d with
    | bl b => simp only [↓s_cons, ↓s_nil, ↓l_asg, ↓s_ret, ↓l_site, ↓s_exp, ↓s_pass, ↓w_non, ↓w_bl, ↓w_int, ↓w_str, ↓l_var, ↓l_con, ↓l_bin, ↓l_neg, ↓l_cmp, ↓l_chn, ↓w_isn, ↓w_notn, ↓w_and, ↓w_or, ↓l_not, ↓l_ite, ↓l_tup, ↓l_lst, ↓w_dct, ↓w_mutD, ↓mut_lst, ↓mut_dct, ↓l_idx, ↓l_slc, ↓nb_nul, ↓nb_int, ↓nb_var, ↓nb_con, ↓nb_bin, ↓nb_neg, ↓nb_idx, ↓nb_call, ↓nb_bi, ↓w_call, ↓l_bi, ↓l_bm, ↓l_isi, ↓w_evs, ↓w_evs0, ↓w_and0, ↓l_and1, ↓w_or0, ↓l_or1, ↓l_ssub, ↓s_whlD, ↓l_app, ↓WP_ok, ↓WS_nx, ↓WS_rt, ↓WP_bind, ↓WP_ofE, ↓WB_t, ↓WB_f, ↓WB_n, ↓WB_dec, ↓WB_all, ↓WB_any, ↓WB_lt, ↓WB_sub, ↓WB_emp, ↓WB_eqv, ↓WB_and, ↓WB_or, ↓SB_t, ↓SB_f, ↓SB_n, ↓SB_dec, ↓SB_all, ↓SB_any, ↓SB_lt, ↓SB_sub, ↓SB_emp, ↓SB_eqv, ↓SB_and, ↓SB_or, ↓EX_some, ↓EX_none, ↓EX_map, ↓EB_bl, ↓EI_int, ↓x_g0, ↓x_gs, ↓x_at0, ↓x_at1, ↓x_at2, ↓x_a0, ↓x_as, ↓x_atup2, ↓x_atup3, ↓x_mod_i, ↓x_bnd, ↓x_str_i, ↓x_str_b, ↓x_upper, ↓x_all, ↓x_any, ↓x_sum, ↓x_add_i, ↓x_sub_i, ↓x_mul_i, ↓x_div_i, ↓x_pow_i, ↓x_add_s, ↓x_add_t, ↓x_add_l, ↓x_mul_s, ↓x_mul_t, ↓x_mul_l, ↓x_lt_i, ↓x_le_i, ↓x_gt_i, ↓x_ge_i, ↓x_lt_s, ↓x_le_s, ↓x_eq_i, ↓x_ne_i, ↓x_eq_s, ↓x_ne_s, ↓x_eq_nil, ↓x_ne_nil, ↓x_in_s, ↓x_nin_s, ↓x_len_l, ↓x_len_t, ↓x_len_s, ↓x_tuple_l, ↓x_tuple_t, ↓x_list_t, ↓x_list_l, ↓x_list_s, ↓x_int_i, ↓x_int_b, ↓x_abs, ↓x_str_s, ↓x_slc_t, ↓x_slc_l, ↓x_slc_s, ↓x_idx_t, ↓x_idx_l, ↓x_isi_nb, ↓x_isi_ni, ↓x_isi_ns, ↓x_isi_nt, ↓x_isi_nl, ↓x_isi_nd, ↓x_isi_bb, ↓x_isi_bi, ↓x_isi_bs, ↓x_isi_bt, ↓x_isi_bl, ↓x_isi_bd, ↓x_isi_ib, ↓x_isi_ii, ↓x_isi_is, ↓x_isi_it, ↓x_isi_il, ↓x_isi_id, ↓x_isi_sb, ↓x_isi_si, ↓x_isi_ss, ↓x_isi_st, ↓x_isi_sl, ↓x_isi_sd, ↓x_isi_tb, ↓x_isi_ti, ↓x_isi_ts, ↓x_isi_tt, ↓x_isi_tl, ↓x_isi_td, ↓x_isi_lb, ↓x_isi_li, ↓x_isi_ls, ↓x_isi_lt, ↓x_isi_ll, ↓x_isi_ld, ↓x_isi_db, ↓x_isi_di, ↓x_isi_ds, ↓x_isi_dt, ↓x_isi_dl, ↓x_isi_dd, emp_flt, List.length_cons, List.length_nil, on_join, on_split, on_upper, on_count, on_rstrip, on_sindex, on_tindex, true_and, and_true, eq_self, Nat.reduceAdd, Nat.reduceLeDiff, Nat.zero_add, isI_n, isI_b, isI_i, isI_s, isI_t, isI_l, isI_d, isI_c, isI_r, isB_n, isB_b, isB_i, isB_s, isB_t, isB_l, isB_d, isB_c, isB_r, isS_n, isS_b, isS_i, isS_s, isS_t, isS_l, isS_d, isS_c, isS_r, isT_n, isT_b, isT_i, isT_s, isT_t, isT_l, isT_d, isT_c, isT_r, ↓x_con0, ↓x_con1, ↓x_con2, ↓x_con3, ↓x_con4, ↓x_con5, ↓x_con6, ↓x_con7, ↓WB_isI, ↓WB_isB, ↓WB_isS, ↓WB_isT, ↓SB_isI, ↓SB_isB, ↓SB_isS, ↓SB_isT]; exact O st (Drawn.refl hU)
    | int i => simp only [↓s_cons, ↓s_nil, ↓l_asg, ↓s_ret, ↓l_site, ↓s_exp, ↓s_pass, ↓w_non, ↓w_bl, ↓w_int, ↓w_str, ↓l_var, ↓l_con, ↓l_bin, ↓l_neg, ↓l_cmp, ↓l_chn, ↓w_isn, ↓w_notn, ↓w_and, ↓w_or, ↓l_not, ↓l_ite, ↓l_tup, ↓l_lst, ↓w_dct, ↓w_mutD, ↓mut_lst, ↓mut_dct, ↓l_idx, ↓l_slc, ↓nb_nul, ↓nb_int, ↓nb_var, ↓nb_con, ↓nb_bin, ↓nb_neg, ↓nb_idx, ↓nb_call, ↓nb_bi, ↓w_call, ↓l_bi, ↓l_bm, ↓l_isi, ↓w_evs, ↓w_evs0, ↓w_and0, ↓l_and1, ↓w_or0, ↓l_or1, ↓l_ssub, ↓s_whlD, ↓l_app, ↓WP_ok, ↓WS_nx, ↓WS_rt, ↓WP_bind, ↓WP_ofE, ↓WB_t, ↓WB_f, ↓WB_n, ↓WB_dec, ↓WB_all, ↓WB_any, ↓WB_lt, ↓WB_sub, ↓WB_emp, ↓WB_eqv, ↓WB_and, ↓WB_or, ↓SB_t, ↓SB_f, ↓SB_n, ↓SB_dec, ↓SB_all, ↓SB_any, ↓SB_lt, ↓SB_sub, ↓SB_emp, ↓SB_eqv, ↓SB_and, ↓SB_or, ↓EX_some, ↓EX_none, ↓EX_map, ↓EB_bl, ↓EI_int, ↓x_g0, ↓x_gs, ↓x_at0, ↓x_at1, ↓x_at2, ↓x_a0, ↓x_as, ↓x_atup2, ↓x_atup3, ↓x_mod_i, ↓x_bnd, ↓x_str_i, ↓x_str_b, ↓x_upper, ↓x_all, ↓x_any, ↓x_sum, ↓x_add_i, ↓x_sub_i, ↓x_mul_i, ↓x_div_i, ↓x_pow_i, ↓x_add_s, ↓x_add_t, ↓x_add_l, ↓x_mul_s, ↓x_mul_t, ↓x_mul_l, ↓x_lt_i, ↓x_le_i, ↓x_gt_i, ↓x_ge_i, ↓x_lt_s, ↓x_le_s, ↓x_eq_i, ↓x_ne_i, ↓x_eq_s, ↓x_ne_s, ↓x_eq_nil, ↓x_ne_nil, ↓x_in_s, ↓x_nin_s, ↓x_len_l, ↓x_len_t, ↓x_len_s, ↓x_tuple_l, ↓x_tuple_t, ↓x_list_t, ↓x_list_l, ↓x_list_s, ↓x_int_i, ↓x_int_b, ↓x_abs, ↓x_str_s, ↓x_slc_t, ↓x_slc_l, ↓x_slc_s, ↓x_idx_t, ↓x_idx_l, ↓x_isi_nb, ↓x_isi_ni, ↓x_isi_ns, ↓x_isi_nt, ↓x_isi_nl, ↓x_isi_nd, ↓x_isi_bb, ↓x_isi_bi, ↓x_isi_bs, ↓x_isi_bt, ↓x_isi_bl, ↓x_isi_bd, ↓x_isi_ib, ↓x_isi_ii, ↓x_isi_is, ↓x_isi_it, ↓x_isi_il, ↓x_isi_id, ↓x_isi_sb, ↓x_isi_si, ↓x_isi_ss, ↓x_isi_st, ↓x_isi_sl, ↓x_isi_sd, ↓x_isi_tb, ↓x_isi_ti, ↓x_isi_ts, ↓x_isi_tt, ↓x_isi_tl, ↓x_isi_td, ↓x_isi_lb, ↓x_isi_li, ↓x_isi_ls, ↓x_isi_lt, ↓x_isi_ll, ↓x_isi_ld, ↓x_isi_db, ↓x_isi_di, ↓x_isi_ds, ↓x_isi_dt, ↓x_isi_dl, ↓x_isi_dd, emp_flt, List.length_cons, List.length_nil, on_join, on_split, on_upper, on_count, on_rstrip, on_sindex, on_tindex, true_and, and_true, eq_self, Nat.reduceAdd, Nat.reduceLeDiff, Nat.zero_add, isI_n, isI_b, isI_i, isI_s, isI_t, isI_l, isI_d, isI_c, isI_r, isB_n, isB_b, isB_i, isB_s, isB_t, isB_l, isB_d, isB_c, isB_r, isS_n, isS_b, isS_i, isS_s, isS_t, isS_l, isS_d, isS_c, isS_r, isT_n, isT_b, isT_i, isT_s, isT_t, isT_l, isT_d, isT_c, isT_r, ↓x_con0, ↓x_con1, ↓x_con2, ↓x_con3, ↓x_con4, ↓x_con5, ↓x_con6, ↓x_con7, ↓WB_isI, ↓WB_isB, ↓WB_isS, ↓WB_isT, ↓SB_isI, ↓SB_isB, ↓SB_isS, ↓SB_isT]; exact O st (Drawn.refl hU)
    | str x => simp only [↓s_cons, ↓s_nil, ↓l_asg, ↓s_ret, ↓l_site, ↓s_exp, ↓s_pass, ↓w_non, ↓w_bl, ↓w_int, ↓w_str, ↓l_var, ↓l_con, ↓l_bin, ↓l_neg, ↓l_cmp, ↓l_chn, ↓w_isn, ↓w_notn, ↓w_and, ↓w_or, ↓l_not, ↓l_ite, ↓l_tup, ↓l_lst, ↓w_dct, ↓w_mutD, ↓mut_lst, ↓mut_dct, ↓l_idx, ↓l_slc, ↓nb_nul, ↓nb_int, ↓nb_var, ↓nb_con, ↓nb_bin, ↓nb_neg, ↓nb_idx, ↓nb_call, ↓nb_bi, ↓w_call, ↓l_bi, ↓l_bm, ↓l_isi, ↓w_evs, ↓w_evs0, ↓w_and0, ↓l_and1, ↓w_or0, ↓l_or1, ↓l_ssub, ↓s_whlD, ↓l_app, ↓WP_ok, ↓WS_nx, ↓WS_rt, ↓WP_bind, ↓WP_ofE, ↓WB_t, ↓WB_f, ↓WB_n, ↓WB_dec, ↓WB_all, ↓WB_any, ↓WB_lt, ↓WB_sub, ↓WB_emp, ↓WB_eqv, ↓WB_and, ↓WB_or, ↓SB_t, ↓SB_f, ↓SB_n, ↓SB_dec, ↓SB_all, ↓SB_any, ↓SB_lt, ↓SB_sub, ↓SB_emp, ↓SB_eqv, ↓SB_and, ↓SB_or, ↓EX_some, ↓EX_none, ↓EX_map, ↓EB_bl, ↓EI_int, ↓x_g0, ↓x_gs, ↓x_at0, ↓x_at1, ↓x_at2, ↓x_a0, ↓x_as, ↓x_atup2, ↓x_atup3, ↓x_mod_i, ↓x_bnd, ↓x_str_i, ↓x_str_b, ↓x_upper, ↓x_all, ↓x_any, ↓x_sum, ↓x_add_i, ↓x_sub_i, ↓x_mul_i, ↓x_div_i, ↓x_pow_i, ↓x_add_s, ↓x_add_t, ↓x_add_l, ↓x_mul_s, ↓x_mul_t, ↓x_mul_l, ↓x_lt_i, ↓x_le_i, ↓x_gt_i, ↓x_ge_i, ↓x_lt_s, ↓x_le_s, ↓x_eq_i, ↓x_ne_i, ↓x_eq_s, ↓x_ne_s, ↓x_eq_nil, ↓x_ne_nil, ↓x_in_s, ↓x_nin_s, ↓x_len_l, ↓x_len_t, ↓x_len_s, ↓x_tuple_l, ↓x_tuple_t, ↓x_list_t, ↓x_list_l, ↓x_list_s, ↓x_int_i, ↓x_int_b, ↓x_abs, ↓x_str_s, ↓x_slc_t, ↓x_slc_l, ↓x_slc_s, ↓x_idx_t, ↓x_idx_l, ↓x_isi_nb, ↓x_isi_ni, ↓x_isi_ns, ↓x_isi_nt, ↓x_isi_nl, ↓x_isi_nd, ↓x_isi_bb, ↓x_isi_bi, ↓x_isi_bs, ↓x_isi_bt, ↓x_isi_bl, ↓x_isi_bd, ↓x_isi_ib, ↓x_isi_ii, ↓x_isi_is, ↓x_isi_it, ↓x_isi_il, ↓x_isi_id, ↓x_isi_sb, ↓x_isi_si, ↓x_isi_ss, ↓x_isi_st, ↓x_isi_sl, ↓x_isi_sd, ↓x_isi_tb, ↓x_isi_ti, ↓x_isi_ts, ↓x_isi_tt, ↓x_isi_tl, ↓x_isi_td, ↓x_isi_lb, ↓x_isi_li, ↓x_isi_ls, ↓x_isi_lt, ↓x_isi_ll, ↓x_isi_ld, ↓x_isi_db, ↓x_isi_di, ↓x_isi_ds, ↓x_isi_dt, ↓x_isi_dl, ↓x_isi_dd, emp_flt, List.length_cons, List.length_nil, on_join, on_split, on_upper, on_count, on_rstrip, on_sindex, on_tindex, true_and, and_true, eq_self, Nat.reduceAdd, Nat.reduceLeDiff, Nat.zero_add, isI_n, isI_b, isI_i, isI_s, isI_t, isI_l, isI_d, isI_c, isI_r, isB_n, isB_b, isB_i, isB_s, isB_t, isB_l, isB_d, isB_c, isB_r, isS_n, isS_b, isS_i, isS_s, isS_t, isS_l, isS_d, isS_c, isS_r, isT_n, isT_b, isT_i, isT_s, isT_t, isT_l, isT_d, isT_c, isT_r, ↓x_con0, ↓x_con1, ↓x_con2, ↓x_con3, ↓x_con4, ↓x_con5, ↓x_con6, ↓x_con7, ↓WB_isI, ↓WB_isB, ↓WB_isS, ↓WB_isT, ↓SB_isI, ↓SB_isB, ↓SB_isS, ↓SB_isT]; exact O st (Drawn.refl hU)
    | tup xs =>
      cases m with
      | zero =>
        have : dps xs + 1 ≤ 0 := hm
        omega
      | succ m =>
        have hcx : Cns xs = true := hd
        have hbx : bks xs ≤ 100000 := hb
        have q := fun (st : Store) (P : Bool → Prop) => EX_eq (P := P) (eq_nilT (st := st) hcx)
        simp only [↓s_cons, ↓s_nil, ↓l_asg, ↓s_ret, ↓l_site, ↓s_exp, ↓s_pass, ↓w_non, ↓w_bl, ↓w_int, ↓w_str, ↓l_var, ↓l_con, ↓l_bin, ↓l_neg, ↓l_cmp, ↓l_chn, ↓w_isn, ↓w_notn, ↓w_and, ↓w_or, ↓l_not, ↓l_ite, ↓l_tup, ↓l_lst, ↓w_dct, ↓w_mutD, ↓mut_lst, ↓mut_dct, ↓l_idx, ↓l_slc, ↓nb_nul, ↓nb_int, ↓nb_var, ↓nb_con, ↓nb_bin, ↓nb_neg, ↓nb_idx, ↓nb_call, ↓nb_bi, ↓w_call, ↓l_bi, ↓l_bm, ↓l_isi, ↓w_evs, ↓w_evs0, ↓w_and0, ↓l_and1, ↓w_or0, ↓l_or1, ↓l_ssub, ↓s_whlD, ↓l_app, ↓WP_ok, ↓WS_nx, ↓WS_rt, ↓WP_bind, ↓WP_ofE, ↓WB_t, ↓WB_f, ↓WB_n, ↓WB_dec, ↓WB_all, ↓WB_any, ↓WB_lt, ↓WB_sub, ↓WB_emp, ↓WB_eqv, ↓WB_and, ↓WB_or, ↓SB_t, ↓SB_f, ↓SB_n, ↓SB_dec, ↓SB_all, ↓SB_any, ↓SB_lt, ↓SB_sub, ↓SB_emp, ↓SB_eqv, ↓SB_and, ↓SB_or, ↓EX_some, ↓EX_none, ↓EX_map, ↓EB_bl, ↓EI_int, ↓x_g0, ↓x_gs, ↓x_at0, ↓x_at1, ↓x_at2, ↓x_a0, ↓x_as, ↓x_atup2, ↓x_atup3, ↓x_mod_i, ↓x_bnd, ↓x_str_i, ↓x_str_b, ↓x_upper, ↓x_all, ↓x_any, ↓x_sum, ↓x_add_i, ↓x_sub_i, ↓x_mul_i, ↓x_div_i, ↓x_pow_i, ↓x_add_s, ↓x_add_t, ↓x_add_l, ↓x_mul_s, ↓x_mul_t, ↓x_mul_l, ↓x_lt_i, ↓x_le_i, ↓x_gt_i, ↓x_ge_i, ↓x_lt_s, ↓x_le_s, ↓x_eq_i, ↓x_ne_i, ↓x_eq_s, ↓x_ne_s, ↓x_eq_nil, ↓x_ne_nil, ↓x_in_s, ↓x_nin_s, ↓x_len_l, ↓x_len_t, ↓x_len_s, ↓x_tuple_l, ↓x_tuple_t, ↓x_list_t, ↓x_list_l, ↓x_list_s, ↓x_int_i, ↓x_int_b, ↓x_abs, ↓x_str_s, ↓x_slc_t, ↓x_slc_l, ↓x_slc_s, ↓x_idx_t, ↓x_idx_l, ↓x_isi_nb, ↓x_isi_ni, ↓x_isi_ns, ↓x_isi_nt, ↓x_isi_nl, ↓x_isi_nd, ↓x_isi_bb, ↓x_isi_bi, ↓x_isi_bs, ↓x_isi_bt, ↓x_isi_bl, ↓x_isi_bd, ↓x_isi_ib, ↓x_isi_ii, ↓x_isi_is, ↓x_isi_it, ↓x_isi_il, ↓x_isi_id, ↓x_isi_sb, ↓x_isi_si, ↓x_isi_ss, ↓x_isi_st, ↓x_isi_sl, ↓x_isi_sd, ↓x_isi_tb, ↓x_isi_ti, ↓x_isi_ts, ↓x_isi_tt, ↓x_isi_tl, ↓x_isi_td, ↓x_isi_lb, ↓x_isi_li, ↓x_isi_ls, ↓x_isi_lt, ↓x_isi_ll, ↓x_isi_ld, ↓x_isi_db, ↓x_isi_di, ↓x_isi_ds, ↓x_isi_dt, ↓x_isi_dl, ↓x_isi_dd, emp_flt, List.length_cons, List.length_nil, on_join, on_split, on_upper, on_count, on_rstrip, on_sindex, on_tindex, true_and, and_true, eq_self, Nat.reduceAdd, Nat.reduceLeDiff, Nat.zero_add, isI_n, isI_b, isI_i, isI_s, isI_t, isI_l, isI_d, isI_c, isI_r, isB_n, isB_b, isB_i, isB_s, isB_t, isB_l, isB_d, isB_c, isB_r, isS_n, isS_b, isS_i, isS_s, isS_t, isS_l, isS_d, isS_c, isS_r, isT_n, isT_b, isT_i, isT_s, isT_t, isT_l, isT_d, isT_c, isT_r, ↓x_con0, ↓x_con1, ↓x_con2, ↓x_con3, ↓x_con4, ↓x_con5, ↓x_con6, ↓x_con7, ↓WB_isI, ↓WB_isB, ↓WB_isS, ↓WB_isT, ↓SB_isI, ↓SB_isB, ↓SB_isS, ↓SB_isT, ↓q]
        cases xs with
        | nil => exact ⟨fun _ => O st (Drawn.refl hU), fun h => by cases h⟩
        | cons y ys =>
          refine ⟨fun h => (by cases h), fun _ => ?_⟩
          refine upto hU (by decide) fun r s1 h0 h1 hs1 => ?_
          simp only [↓s_cons, ↓s_nil, ↓l_asg, ↓s_ret, ↓l_site, ↓s_exp, ↓s_pass, ↓w_non, ↓w_bl, ↓w_int, ↓w_str, ↓l_var, ↓l_con, ↓l_bin, ↓l_neg, ↓l_cmp, ↓l_chn, ↓w_isn, ↓w_notn, ↓w_and, ↓w_or, ↓l_not, ↓l_ite, ↓l_tup, ↓l_lst, ↓w_dct, ↓w_mutD, ↓mut_lst, ↓mut_dct, ↓l_idx, ↓l_slc, ↓nb_nul, ↓nb_int, ↓nb_var, ↓nb_con, ↓nb_bin, ↓nb_neg, ↓nb_idx, ↓nb_call, ↓nb_bi, ↓w_call, ↓l_bi, ↓l_bm, ↓l_isi, ↓w_evs, ↓w_evs0, ↓w_and0, ↓l_and1, ↓w_or0, ↓l_or1, ↓l_ssub, ↓s_whlD, ↓l_app, ↓WP_ok, ↓WS_nx, ↓WS_rt, ↓WP_bind, ↓WP_ofE, ↓WB_t, ↓WB_f, ↓WB_n, ↓WB_dec, ↓WB_all, ↓WB_any, ↓WB_lt, ↓WB_sub, ↓WB_emp, ↓WB_eqv, ↓WB_and, ↓WB_or, ↓SB_t, ↓SB_f, ↓SB_n, ↓SB_dec, ↓SB_all, ↓SB_any, ↓SB_lt, ↓SB_sub, ↓SB_emp, ↓SB_eqv, ↓SB_and, ↓SB_or, ↓EX_some, ↓EX_none, ↓EX_map, ↓EB_bl, ↓EI_int, ↓x_g0, ↓x_gs, ↓x_at0, ↓x_at1, ↓x_at2, ↓x_a0, ↓x_as, ↓x_atup2, ↓x_atup3, ↓x_mod_i, ↓x_bnd, ↓x_str_i, ↓x_str_b, ↓x_upper, ↓x_all, ↓x_any, ↓x_sum, ↓x_add_i, ↓x_sub_i, ↓x_mul_i, ↓x_div_i, ↓x_pow_i, ↓x_add_s, ↓x_add_t, ↓x_add_l, ↓x_mul_s, ↓x_mul_t, ↓x_mul_l, ↓x_lt_i, ↓x_le_i, ↓x_gt_i, ↓x_ge_i, ↓x_lt_s, ↓x_le_s, ↓x_eq_i, ↓x_ne_i, ↓x_eq_s, ↓x_ne_s, ↓x_eq_nil, ↓x_ne_nil, ↓x_in_s, ↓x_nin_s, ↓x_len_l, ↓x_len_t, ↓x_len_s, ↓x_tuple_l, ↓x_tuple_t, ↓x_list_t, ↓x_list_l, ↓x_list_s, ↓x_int_i, ↓x_int_b, ↓x_abs, ↓x_str_s, ↓x_slc_t, ↓x_slc_l, ↓x_slc_s, ↓x_idx_t, ↓x_idx_l, ↓x_isi_nb, ↓x_isi_ni, ↓x_isi_ns, ↓x_isi_nt, ↓x_isi_nl, ↓x_isi_nd, ↓x_isi_bb, ↓x_isi_bi, ↓x_isi_bs, ↓x_isi_bt, ↓x_isi_bl, ↓x_isi_bd, ↓x_isi_ib, ↓x_isi_ii, ↓x_isi_is, ↓x_isi_it, ↓x_isi_il, ↓x_isi_id, ↓x_isi_sb, ↓x_isi_si, ↓x_isi_ss, ↓x_isi_st, ↓x_isi_sl, ↓x_isi_sd, ↓x_isi_tb, ↓x_isi_ti, ↓x_isi_ts, ↓x_isi_tt, ↓x_isi_tl, ↓x_isi_td, ↓x_isi_lb, ↓x_isi_li, ↓x_isi_ls, ↓x_isi_lt, ↓x_isi_ll, ↓x_isi_ld, ↓x_isi_db, ↓x_isi_di, ↓x_isi_ds, ↓x_isi_dt, ↓x_isi_dl, ↓x_isi_dd, emp_flt, List.length_cons, List.length_nil, on_join, on_split, on_upper, on_count, on_rstrip, on_sindex, on_tindex, true_and, and_true, eq_self, Nat.reduceAdd, Nat.reduceLeDiff, Nat.zero_add, isI_n, isI_b, isI_i, isI_s, isI_t, isI_l, isI_d, isI_c, isI_r, isB_n, isB_b, isB_i, isB_s, isB_t, isB_l, isB_d, isB_c, isB_r, isS_n, isS_b, isS_i, isS_s, isS_t, isS_l, isS_d, isS_c, isS_r, isT_n, isT_b, isT_i, isT_s, isT_t, isT_l, isT_d, isT_c, isT_r, ↓x_con0, ↓x_con1, ↓x_con2, ↓x_con3, ↓x_con4, ↓x_con5, ↓x_con6, ↓x_con7, ↓WB_isI, ↓WB_isB, ↓WB_isS, ↓WB_isT, ↓SB_isI, ↓SB_isB, ↓SB_isS, ↓SB_isT]
          refine ⟨fun _ => O s1 hs1, fun _ => ?_⟩
          have hl := len_bks (y :: ys)
          simp only [List.length_cons] at hl
          refine upto hs1.urn ⟨by omega, by omega⟩ fun i s2 h3 h4 hs2 => ?_
          have h12 := hs1.trans hs2
          have h4' : i < ((y :: ys).length : Int) := h4
          obtain ⟨x, e1, e2, e3, e4⟩ := at_get h3 h4'
          have q2 := fun (P : D → Prop) => EX_eq (P := P) e1
          generalize y :: ys = xs at *
          simp only [↓s_cons, ↓s_nil, ↓l_asg, ↓s_ret, ↓l_site, ↓s_exp, ↓s_pass, ↓w_non, ↓w_bl, ↓w_int, ↓w_str, ↓l_var, ↓l_con, ↓l_bin, ↓l_neg, ↓l_cmp, ↓l_chn, ↓w_isn, ↓w_notn, ↓w_and, ↓w_or, ↓l_not, ↓l_ite, ↓l_tup, ↓l_lst, ↓w_dct, ↓w_mutD, ↓mut_lst, ↓mut_dct, ↓l_idx, ↓l_slc, ↓nb_nul, ↓nb_int, ↓nb_var, ↓nb_con, ↓nb_bin, ↓nb_neg, ↓nb_idx, ↓nb_call, ↓nb_bi, ↓w_call, ↓l_bi, ↓l_bm, ↓l_isi, ↓w_evs, ↓w_evs0, ↓w_and0, ↓l_and1, ↓w_or0, ↓l_or1, ↓l_ssub, ↓s_whlD, ↓l_app, ↓WP_ok, ↓WS_nx, ↓WS_rt, ↓WP_bind, ↓WP_ofE, ↓WB_t, ↓WB_f, ↓WB_n, ↓WB_dec, ↓WB_all, ↓WB_any, ↓WB_lt, ↓WB_sub, ↓WB_emp, ↓WB_eqv, ↓WB_and, ↓WB_or, ↓SB_t, ↓SB_f, ↓SB_n, ↓SB_dec, ↓SB_all, ↓SB_any, ↓SB_lt, ↓SB_sub, ↓SB_emp, ↓SB_eqv, ↓SB_and, ↓SB_or, ↓EX_some, ↓EX_none, ↓EX_map, ↓EB_bl, ↓EI_int, ↓x_g0, ↓x_gs, ↓x_at0, ↓x_at1, ↓x_at2, ↓x_a0, ↓x_as, ↓x_atup2, ↓x_atup3, ↓x_mod_i, ↓x_bnd, ↓x_str_i, ↓x_str_b, ↓x_upper, ↓x_all, ↓x_any, ↓x_sum, ↓x_add_i, ↓x_sub_i, ↓x_mul_i, ↓x_div_i, ↓x_pow_i, ↓x_add_s, ↓x_add_t, ↓x_add_l, ↓x_mul_s, ↓x_mul_t, ↓x_mul_l, ↓x_lt_i, ↓x_le_i, ↓x_gt_i, ↓x_ge_i, ↓x_lt_s, ↓x_le_s, ↓x_eq_i, ↓x_ne_i, ↓x_eq_s, ↓x_ne_s, ↓x_eq_nil, ↓x_ne_nil, ↓x_in_s, ↓x_nin_s, ↓x_len_l, ↓x_len_t, ↓x_len_s, ↓x_tuple_l, ↓x_tuple_t, ↓x_list_t, ↓x_list_l, ↓x_list_s, ↓x_int_i, ↓x_int_b, ↓x_abs, ↓x_str_s, ↓x_slc_t, ↓x_slc_l, ↓x_slc_s, ↓x_idx_t, ↓x_idx_l, ↓x_isi_nb, ↓x_isi_ni, ↓x_isi_ns, ↓x_isi_nt, ↓x_isi_nl, ↓x_isi_nd, ↓x_isi_bb, ↓x_isi_bi, ↓x_isi_bs, ↓x_isi_bt, ↓x_isi_bl, ↓x_isi_bd, ↓x_isi_ib, ↓x_isi_ii, ↓x_isi_is, ↓x_isi_it, ↓x_isi_il, ↓x_isi_id, ↓x_isi_sb, ↓x_isi_si, ↓x_isi_ss, ↓x_isi_st, ↓x_isi_sl, ↓x_isi_sd, ↓x_isi_tb, ↓x_isi_ti, ↓x_isi_ts, ↓x_isi_tt, ↓x_isi_tl, ↓x_isi_td, ↓x_isi_lb, ↓x_isi_li, ↓x_isi_ls, ↓x_isi_lt, ↓x_isi_ll, ↓x_isi_ld, ↓x_isi_db, ↓x_isi_di, ↓x_isi_ds, ↓x_isi_dt, ↓x_isi_dl, ↓x_isi_dd, emp_flt, List.length_cons, List.length_nil, on_join, on_split, on_upper, on_count, on_rstrip, on_sindex, on_tindex, true_and, and_true, eq_self, Nat.reduceAdd, Nat.reduceLeDiff, Nat.zero_add, isI_n, isI_b, isI_i, isI_s, isI_t, isI_l, isI_d, isI_c, isI_r, isB_n, isB_b, isB_i, isB_s, isB_t, isB_l, isB_d, isB_c, isB_r, isS_n, isS_b, isS_i, isS_s, isS_t, isS_l, isS_d, isS_c, isS_r, isT_n, isT_b, isT_i, isT_s, isT_t, isT_l, isT_d, isT_c, isT_r, ↓x_con0, ↓x_con1, ↓x_con2, ↓x_con3, ↓x_con4, ↓x_con5, ↓x_con6, ↓x_con7, ↓WB_isI, ↓WB_isB, ↓WB_isS, ↓WB_isT, ↓SB_isI, ↓SB_isB, ↓SB_isS, ↓SB_isT, ↓q2]
          have hx1 : dp x ≤ dps xs := dp_mem e2
          have hx2 : bk x + 1 ≤ bks xs := bk_mem e2
          have hm' : dps xs + 1 ≤ m + 1 := hm
          refine changed m (n := n) (d := x) (by omega) h12.urn (Cns_all.mp hcx x e2) (by omega) fun c s3 hc hs3 => ?_
          rw [cut_to h3 h4', cut_from h3 h4']
          have b0 : bks xs = bks (xs.take i.toNat) + (bk x + 1 + bks (xs.drop (i.toNat + 1))) := by
            have := congrArg bks e3
            rw [bks_app] at this
            exact this
          have l1 := List.length_take_le i.toNat xs
          have l2 : (xs.drop (i.toNat + 1)).length ≤ xs.length := by rw [List.length_drop]; omega
          have hlx := len_bks xs
          refine ⟨by omega, by simp only [List.length_append, List.length_cons, List.length_nil]; omega, ?_⟩
          have h13 := h12.trans hs3
          refine ⟨h13.1, hq _ s3 ?_ h13⟩
          obtain ⟨c1, c2, c3⟩ := hc
          have g1 : ∀ l k, Gds l k (xs.take i.toNat) = true := fun l k => Gds_all.mpr fun z hz => (cn_gd z (Cns_all.mp hcx z (List.mem_of_mem_take hz))).1
          have g2 : ∀ l k, Gds l k (xs.drop (i.toNat + 1)) = true := fun l k => Gds_all.mpr fun z hz => (cn_gd z (Cns_all.mp hcx z (List.mem_of_mem_drop hz))).1
          have g3 : ∀ l k, Gd l k c = true → Gds l k (xs.take i.toNat ++ [c] ++ xs.drop (i.toNat + 1)) = true := fun l k h => Gds_app.mpr ⟨Gds_app.mpr ⟨g1 l k, by show (Gd l k c && true) = true; rw [h] <;> rfl⟩, g2 l k⟩
          refine ⟨c1.imp (g3 _ _) (g3 _ _), ?_, ?_⟩
          · show bks _ ≤ 3 * bks xs + 100
            rw [bks_app, bks_app]
            have : bks [c] = bk c + 1 := rfl
            omega
          · show dps _ + 1 ≤ dps xs + 1 + 1
            rw [dps_app, dps_app]
            have t1 : dps (xs.take i.toNat) ≤ dps xs := dps_le fun z hz => dp_mem (List.mem_of_mem_take hz)
            have t2 : dps (xs.drop (i.toNat + 1)) ≤ dps xs := dps_le fun z hz => dp_mem (List.mem_of_mem_drop hz)
            have : dps [c] = max (dp c) 0 := rfl
            omega
    | _ => cases hd
end Law
end Cip

set_option maxHeartbeats 4000000
namespace Cip
open PySem
local macro_rules | `(tactic| walk_at "cip") => `(tactic| simp only [s_cons, s_nil, s_asg, s_ret, s_ite, s_exp, s_pass, w_non, w_bl, w_int, w_str, w_var, w_con, w_bin, w_neg, w_cmp, w_isn, w_notn, w_and, w_or, w_not, w_ite, w_tup, w_lst, w_idx, w_call, s_ssubD, s_forD, s_whlD, w_mutD, w_appD, mut_lst, asg_tup2, asg_tup3, int_i, len_l, len_t, len_s, idx_l, idx_t, tuple_l, w_bi, w_isi, w_evs, w_evs0, w_and0, w_and1, w_or0, w_or1, asg_nm, ex_some, ex_var, ex_int, ex_bl, startE, List.length_cons, List.length_nil, List.map_cons, List.map_nil, List.getElem?_cons_zero, List.getElem?_cons_succ, List.set_cons_zero, List.set_cons_succ, List.cons_append, List.nil_append, List.replicate, ex_ite, b_add_i, b_sub_i, b_mul_i, b_mod_i, b_div_i, b_pow_i, b_add_s, b_add_t, b_add_l, b_mul_s, b_mul_t, b_mul_l, c_lt_i, c_le_i, c_gt_i, c_ge_i, c_lt_s, c_le_s, c_eq_i, c_ne_i, c_eq_s, c_ne_s, WP_ok, WS_nx, WS_rt, true_and, and_true])
local macro_rules | `(tactic| walk_at "cip2") => `(tactic| simp only [s_cons, s_nil, s_asg, s_ret, s_ite, s_exp, s_pass, w_non, w_bl, w_int, w_str, w_var, w_con, w_bin, w_neg, w_cmp, w_isn, w_notn, w_and, w_or, w_not, w_ite, w_tup, w_lst, w_idx, w_call, s_ssubD, s_forD, s_whlD, w_mutD, w_appD, mut_lst, asg_tup2, asg_tup3, int_i, len_l, len_t, len_s, idx_l, idx_t, tuple_l, w_bi, w_isi, w_evs, w_evs0, w_and0, w_and1, w_or0, w_or1, asg_nm, ex_some, ex_var, ex_int, ex_bl, startE, List.length_cons, List.length_nil, List.map_cons, List.map_nil, List.getElem?_cons_zero, List.getElem?_cons_succ, List.set_cons_zero, List.set_cons_succ, List.cons_append, List.nil_append, List.replicate, ex_ite, b_add_i, b_sub_i, b_mul_i, b_mod_i, b_div_i, b_pow_i, b_add_s, b_add_t, b_add_l, b_mul_s, b_mul_t, b_mul_l, c_lt_i, c_le_i, c_gt_i, c_ge_i, c_lt_s, c_le_s, c_eq_i, c_ne_i, c_eq_s, c_ne_s, WP_ok, WS_nx, WS_rt, true_and, and_true, w_slc, E.nulB, eq_self, if_true, if_false, Bool.false_eq_true, WP_bind, WP_of, bnd_int, Bool.not_true, Bool.not_false])
local macro_rules | `(tactic| walk_at "cip3") => `(tactic| simp only [s_cons, s_nil, s_asg, s_ret, s_ite, s_exp, s_pass, w_non, w_bl, w_int, w_str, w_var, w_con, w_bin, w_neg, w_cmp, w_isn, w_notn, w_and, w_or, w_not, w_ite, w_tup, w_lst, w_idx, w_call, s_ssubD, s_forD, s_whlD, w_mutD, w_appD, mut_lst, asg_tup2, asg_tup3, int_i, len_l, len_t, len_s, idx_l, idx_t, tuple_l, w_bi, w_isi, w_evs, w_evs0, w_and0, w_and1, w_or0, w_or1, asg_nm, ex_some, ex_var, ex_int, ex_bl, startE, List.length_cons, List.length_nil, List.map_cons, List.map_nil, List.getElem?_cons_zero, List.getElem?_cons_succ, List.set_cons_zero, List.set_cons_succ, List.cons_append, List.nil_append, List.replicate, ex_ite, b_add_i, b_sub_i, b_mul_i, b_mod_i, b_div_i, b_pow_i, b_add_s, b_add_t, b_add_l, b_mul_s, b_mul_t, b_mul_l, c_lt_i, c_le_i, c_gt_i, c_ge_i, c_lt_s, c_le_s, c_eq_i, c_ne_i, c_eq_s, c_ne_s, WP_ok, WS_nx, WS_rt, true_and, and_true, w_slc, E.nulB, eq_self, if_true, if_false, Bool.false_eq_true, WP_bind, WP_of, bnd_int, Bool.not_true, Bool.not_false, w_chn])
local macro_rules | `(tactic| walk_at "z0") => `(tactic| simp only [startE, List.map_cons, List.map_nil, List.length_cons, List.length_nil, Nat.reduceAdd, Nat.reduceSub, List.replicate, List.cons_append, List.nil_append])
local macro_rules | `(tactic| walk_at "zx") => `(tactic| simp only [wipeE, List.set_cons_zero, List.set_cons_succ, ↓x_a0, ↓x_as, ↓x_atup2, ↓x_atup3])
namespace Law
/-! M13: the bounds. -/
section
variable {Γ : Tx} {cf : CF} {env : Env} {st : Store} {Q : D → Store → Prop}
/-- [e for .. in ..]: J stays true of the store, P holds of each value -/
theorem w_lcJ {own : List Nat} {t : Tg} {k : IK} {its : List E} {e : E} {ds xs : List D} (J : Store → Prop) (P : D → Prop) (h : evs Γ cf its env st = .ok ds st) (hw : walkD st k ds = some xs) (hr : refsOf ds = []) (hl : xs.length ≤ sizeLine) (hJ : J st)
    (hx : ∀ x ∈ xs, ∀ s, J s → EX (asgT s t x (wipeE env own)) fun env' => WP (ev Γ cf e env' s) fun d s' => J s' ∧ P d) (hq : ∀ rs s, J s → rs.length = xs.length → (∀ d ∈ rs, P d) → Q (.lst rs) s) : WP (ev Γ cf (.lc own t k its .nul e) env st) Q := by
  rw [w_lcD, h, WP_ok]
  refine ⟨xs, hw, ?_⟩
  have hs : ∀ a b, still (refsOf ds) a b = true := fun a b => still_ok.mpr fun k hk => by rw [hr] at hk; cases hk
  refine lcL_J J P hJ (fun x hm s hs' => ?_) fun rs s q1 q2 q3 => ⟨hs _ _, by omega, hq rs s q1 q2 q3⟩
  obtain ⟨env', h1, h2⟩ := hx x hm s hs'
  rw [if_pos (hs _ _), h1]
  unfold lcTurn
  simp only [E.nulB, if_true]
  show WP ((ev Γ cf e env' s).bind fun d st => .ok (some d) st) _
  rw [WP_bind]
  exact h2.imp fun d s'' ⟨z1, z2⟩ => ⟨z1, d, rfl, z2⟩
/-- for .. in ..: of things that are no objects -/
theorem s_forJ {t : Tg} {k : IK} {its : List E} {body : List S} {N : Env → Store → Prop} {V : D → Store → Prop} {ds xs : List D} (I : Nat → Env → Store → Prop) (h : evs Γ cf its env st = .ok ds st) (hw : walkD st k ds = some xs) (hr : refsOf ds = []) (hI : I xs.length env st)
    (hx : ∀ x ∈ xs, ∀ m env s, I (m + 1) env s → EX (asgT s t x env) fun env' => WS (runs Γ cf body env' s) (fun e s => I m e s) V) (hn : ∀ e s, I 0 e s → N e s) : WS (run Γ cf (.for t k its body) env st) N V := by
  rw [s_forD, h, WP_ok]
  refine ⟨xs, hw, ?_⟩
  have hs : ∀ a b, still (refsOf ds) a b = true := fun a b => still_ok.mpr fun k hk => by rw [hr] at hk; cases hk
  refine WS_loop (fun rest e s => I rest.length e s ∧ ∀ x ∈ rest, x ∈ xs) (fun _ _ _ _ => hs _ _) (fun x rest e s ⟨h1, h2⟩ => ?_) (fun e s h => hn e s h.1) xs env st ⟨hI, fun _ h => h⟩
  obtain ⟨env', h3, h4⟩ := hx x (h2 x (by simp)) rest.length e s h1
  simp only [h3]
  exact h4.imp (fun e s q => ⟨q, fun y hy => h2 y (List.mem_cons_of_mem _ hy)⟩) fun _ _ q => q
end
theorem lst_ref {k : Nat} {ds : List D} {st : Store} (h : st[k]? = some (.lst ds)) : lstD st (.ref k) = some ds := by simp only [lstD, h]
theorem add_ref {k : Nat} {ds es : List D} {st : Store} (h : st[k]? = some (.lst ds)) (hl : ds.length + es.length ≤ sizeLine) : binD st .add (.ref k) (.lst es) = some (.lst (ds ++ es)) := by
  show addD st (.ref k) (.lst es) = _
  unfold addD
  simp only [lstD, h, if_pos hl]
theorem bks_rep (X : D) : ∀ n : Nat, bks (List.replicate n [X]).flatten = n * (bk X + 1)
  | 0 => by simp [bks]
  | n + 1 => by
    rw [List.replicate_succ, List.flatten_cons, bks_app, bks_rep X n, Nat.add_mul]
    show bk X + 1 + 0 + _ = _
    omega
theorem rep_mem {X x : D} {n : Nat} (h : x ∈ (List.replicate n [X]).flatten) : x = X := by
  obtain ⟨l, h1, h2⟩ := List.mem_flatten.mp h
  have := List.eq_of_mem_replicate h1
  subst this
  simpa using h2
theorem cns_rep {X : D} (h : Cn X = true) (n : Nat) : Cns (List.replicate n [X]).flatten = true := Cns_all.mpr fun x hx => by rw [rep_mem hx]; exact h
theorem dps_rep (X : D) (n : Nat) : dps (List.replicate n [X]).flatten ≤ dp X := dps_le fun x hx => by rw [rep_mem hx]; exact Nat.le_refl _
theorem rep_len (X : D) : ∀ n : Nat, (List.replicate n [X]).flatten.length = n
  | 0 => rfl
  | n + 1 => by rw [List.replicate_succ, List.flatten_cons, List.length_append, rep_len X n]; show 1 + n = _; omega
theorem cn_mul {x : Str} (h : Cn (.str x) = true) (j : Int) : Cn (.str (strMul x j)) = true := by
  have h : (x.cps.toList.all fun c => decide (c < 128)) = true := h
  show (List.all (List.toArray (List.replicate j.toNat x.cps.toList).flatten).toList fun c => decide (c < 128)) = true
  rw [List.toList_toArray]
  rw [List.all_eq_true] at h ⊢
  intro c hc
  obtain ⟨l, h1, h2⟩ := List.mem_flatten.mp hc
  rw [List.eq_of_mem_replicate h1] at h2
  exact h c h2
theorem mul_len (x : Str) (j : Int) : (strMul x j).length = j.toNat * x.length := by
  have : ∀ n : Nat, (List.replicate n x.cps.toList).flatten.length = n * x.cps.toList.length := fun n => by
    induction n with
    | zero => simp
    | succ n ih => rw [List.replicate_succ, List.flatten_cons, List.length_append, ih, Nat.add_mul]; omega
  show ((List.replicate j.toNat x.cps.toList).flatten.toArray).size = _
  rw [List.size_toArray, this, Array.length_toList]
  rfl
theorem gc_keep {st0 st : Store} {k : Nat} (h : st0.length ≤ k) : gc st0 [.ref k] st = st := by
  unfold gc
  rw [if_neg]
  intro hl
  have h1 : max (k + 1) 0 ≤ st0.length := hl.1
  omega
theorem app_ref {k : Nat} {ds : List D} {d : D} {st : Store} (h : st[k]? = some (.lst ds)) (hl : ds.length < sizeLine) : appS st (.ref k) d = some (st.set k (.lst (ds ++ [d]))) := by
  simp only [appS, h, if_pos hl]
theorem UrnC.set {u c k : Nat} {o : MO} {st : Store} (h : UrnC st u c) (h1 : k ≠ u) (h2 : k ≠ c) : UrnC (st.set k o) u c := by
  obtain ⟨ns, p, a, l, g1, g2, g3, g4⟩ := h
  exact ⟨ns, p, a, l, by rw [List.getElem?_set_ne h1]; exact g1, g2, by rw [List.getElem?_set_ne h2]; exact g3, g4⟩
abbrev bare : D := .tup [.str "", .bl false, .bl false]
abbrev bold : D := .tup [.str "", .bl true, .bl false]
abbrev X0 : D := .tup [.int 0, .tup [.tup []]]
def rep (j : Int) : List D := (List.replicate j.toNat [X0]).flatten
theorem th_rep {j : Int} (h : j.toNat ≤ 600) : Cns (rep j) = true ∧ bks (rep j) ≤ 3000 ∧ dps (rep j) ≤ 3 := by
  refine ⟨cns_rep (by decide) _, ?_, Nat.le_trans (dps_rep _ _) (by decide)⟩
  unfold rep
  have : bk X0 + 1 = 4 := rfl
  rw [bks_rep, this]
  omega
/-- a list of things of the store, and the urn beside it -/
def HB (st0 : Store) (u c N k : Nat) (st : Store) : Prop := UrnC st u c ∧ st0.length ≤ k ∧ ∃ ds, st[k]? = some (.lst ds) ∧ ds.length ≤ N ∧ ∀ d ∈ ds, Th 5000 20 d
theorem HB.push {st0 st : Store} {u c N k m : Nat} (h : HB st0 u c N k st) (hm : N + m < 1000) {es : List D} (hl : es.length ≤ m) (he : ∀ d ∈ es, Th 5000 20 d) (hs : st0.length ≤ st.length) :
    EX (binD st .add (.ref k) (.lst es)) fun d => ∃ ds, d = .lst ds ∧ HB st0 u c (N + m) st.length (st ++ [.lst ds]) := by
  obtain ⟨h1, h2, ds, h3, h4, h5⟩ := h
  refine EX_mk _ (add_ref h3 (by rw [sz]; omega)) ⟨ds ++ es, rfl, h1.push, hs, ds ++ es, by simp, by rw [List.length_append]; omega, fun d hd => (List.mem_append.mp hd).elim (h5 d) (he d)⟩
theorem HB.app {st0 st : Store} {u c N k : Nat} (h : HB st0 u c N k st) (hm : N < 1000) (hu : u < st0.length) (hc : c < st0.length) {d : D} (hd : Th 5000 20 d) : EX (appS st (.ref k) d) fun st' => HB st0 u c (N + 1) k st' ∧ st'.length = st.length := by
  obtain ⟨h1, h2, ds, h3, h4, h5⟩ := h
  refine EX_mk _ (app_ref h3 (by rw [sz]; omega)) ⟨⟨h1.set (by omega) (by omega), h2, ds ++ [d], get_set (List.getElem?_eq_some_iff.mp h3).1, by simp; omega, fun e he => ?_⟩, by simp⟩
  rcases List.mem_append.mp he with he | he
  · exact h5 e he
  · rw [List.mem_singleton.mp he]; exact hd
theorem HB.drawn {st0 st st' : Store} {u c N k : Nat} (h : HB st0 u c N k st) (hu : u < st0.length) (hd : Drawn u st st') : HB st0 u c N k st' := by
  obtain ⟨h1, h2, ds, h3, h4, h5⟩ := h
  obtain ⟨g1, g2, c', g3, g4⟩ := hd
  have e := h1.inj g3
  subst e
  exact ⟨g4, h2, ds, by rw [g2 k (by omega)]; exact h3, h4, h5⟩
theorem HB.isl {st0 st : Store} {u c N k : Nat} (h : HB st0 u c N k st) : (lstD st (.ref k)).isSome = true := by
  obtain ⟨h1, h2, ds, h3, h4, h5⟩ := h
  rw [lst_ref h3] <;> rfl
theorem p31 : (2 : Int) ^ 31 = 2147483648 := by decide
theorem mul1 {env : Env} {st : Store} {n : Nat} {x : D} {j : Int} (h0 : 0 ≤ j) (h1 : j ≤ 600) {i : Nat} (he : env[i]? = some (some (.int j))) : ev (txOf cons) (cf n) (.bin .mul (.tup [.tup [.int 0, .tup [.tup []]]]) (.var i)) env st = .ok (.tup (rep j)) st := by
  refine Is.eq ?_
  unfold Is
  simp only [↓s_cons, ↓s_nil, ↓l_asg, ↓s_ret, ↓l_site, ↓s_exp, ↓s_pass, ↓w_non, ↓w_bl, ↓w_int, ↓w_str, ↓l_var, ↓l_con, ↓l_bin, ↓l_neg, ↓l_cmp, ↓l_chn, ↓w_isn, ↓w_notn, ↓w_and, ↓w_or, ↓l_not, ↓l_ite, ↓l_tup, ↓l_lst, ↓w_dct, ↓w_mutD, ↓mut_lst, ↓mut_dct, ↓l_idx, ↓l_slc, ↓nb_nul, ↓nb_int, ↓nb_var, ↓nb_con, ↓nb_bin, ↓nb_neg, ↓nb_idx, ↓nb_call, ↓nb_bi, ↓w_call, ↓l_bi, ↓l_bm, ↓l_isi, ↓w_evs, ↓w_evs0, ↓w_and0, ↓l_and1, ↓w_or0, ↓l_or1, ↓l_ssub, ↓s_whlD, ↓l_app, ↓WP_ok, ↓WS_nx, ↓WS_rt, ↓WP_bind, ↓WP_ofE, ↓WB_t, ↓WB_f, ↓WB_n, ↓WB_dec, ↓WB_all, ↓WB_any, ↓WB_lt, ↓WB_sub, ↓WB_emp, ↓WB_eqv, ↓WB_and, ↓WB_or, ↓SB_t, ↓SB_f, ↓SB_n, ↓SB_dec, ↓SB_all, ↓SB_any, ↓SB_lt, ↓SB_sub, ↓SB_emp, ↓SB_eqv, ↓SB_and, ↓SB_or, ↓EX_some, ↓EX_none, ↓EX_map, ↓EB_bl, ↓EI_int, ↓x_g0, ↓x_gs, ↓x_at0, ↓x_at1, ↓x_at2, ↓x_a0, ↓x_as, ↓x_atup2, ↓x_atup3, ↓x_mod_i, ↓x_bnd, ↓x_str_i, ↓x_str_b, ↓x_upper, ↓x_all, ↓x_any, ↓x_sum, ↓x_add_i, ↓x_sub_i, ↓x_mul_i, ↓x_div_i, ↓x_pow_i, ↓x_add_s, ↓x_add_t, ↓x_add_l, ↓x_mul_s, ↓x_mul_t, ↓x_mul_l, ↓x_lt_i, ↓x_le_i, ↓x_gt_i, ↓x_ge_i, ↓x_lt_s, ↓x_le_s, ↓x_eq_i, ↓x_ne_i, ↓x_eq_s, ↓x_ne_s, ↓x_eq_nil, ↓x_ne_nil, ↓x_in_s, ↓x_nin_s, ↓x_len_l, ↓x_len_t, ↓x_len_s, ↓x_tuple_l, ↓x_tuple_t, ↓x_list_t, ↓x_list_l, ↓x_list_s, ↓x_int_i, ↓x_int_b, ↓x_abs, ↓x_str_s, ↓x_slc_t, ↓x_slc_l, ↓x_slc_s, ↓x_idx_t, ↓x_idx_l, ↓x_isi_nb, ↓x_isi_ni, ↓x_isi_ns, ↓x_isi_nt, ↓x_isi_nl, ↓x_isi_nd, ↓x_isi_bb, ↓x_isi_bi, ↓x_isi_bs, ↓x_isi_bt, ↓x_isi_bl, ↓x_isi_bd, ↓x_isi_ib, ↓x_isi_ii, ↓x_isi_is, ↓x_isi_it, ↓x_isi_il, ↓x_isi_id, ↓x_isi_sb, ↓x_isi_si, ↓x_isi_ss, ↓x_isi_st, ↓x_isi_sl, ↓x_isi_sd, ↓x_isi_tb, ↓x_isi_ti, ↓x_isi_ts, ↓x_isi_tt, ↓x_isi_tl, ↓x_isi_td, ↓x_isi_lb, ↓x_isi_li, ↓x_isi_ls, ↓x_isi_lt, ↓x_isi_ll, ↓x_isi_ld, ↓x_isi_db, ↓x_isi_di, ↓x_isi_ds, ↓x_isi_dt, ↓x_isi_dl, ↓x_isi_dd, emp_flt, List.length_cons, List.length_nil, on_join, on_split, on_upper, on_count, on_rstrip, on_sindex, on_tindex, true_and, and_true, eq_self, Nat.reduceAdd, Nat.reduceLeDiff, Nat.zero_add, isI_n, isI_b, isI_i, isI_s, isI_t, isI_l, isI_d, isI_c, isI_r, isB_n, isB_b, isB_i, isB_s, isB_t, isB_l, isB_d, isB_c, isB_r, isS_n, isS_b, isS_i, isS_s, isS_t, isS_l, isS_d, isS_c, isS_r, isT_n, isT_b, isT_i, isT_s, isT_t, isT_l, isT_d, isT_c, isT_r, ↓x_con0, ↓x_con1, ↓x_con2, ↓x_con3, ↓x_con4, ↓x_con5, ↓x_con6, ↓x_con7, ↓WB_isI, ↓WB_isB, ↓WB_isS, ↓WB_isT, ↓SB_isI, ↓SB_isB, ↓SB_isS, ↓SB_isT, ↓EX_eq he]
  rw [p31]
  refine ⟨⟨by omega, by omega, by omega⟩, rfl⟩
theorem bounds1 {u n : Nat} {st : Store} : ev (txOf cons) (cf n) (.lc [4] (.nm 4) .val [(.tup [(.int 1), (.int 200), (.int 201)])] .nul (.bin .mul (.tup [(.tup [(.int 0), (.tup [(.tup [])])])]) (.var 4))) [some (.ref u), some bare, some bold, none, none, none, none, none, none] st = .ok (.lst [.tup (rep 1), .tup (rep 200), .tup (rep 201)]) st :=
  lc_M (Γ := txOf cons) (cf := cf (n)) (own := [4]) (t := .nm 4) (k := .val) (its := [(.tup [(.int 1), (.int 200), (.int 201)])]) (e := (.bin .mul (.tup [(.tup [(.int 0), (.tup [(.tup [])])])]) (.var 4))) (env := [some (.ref u), some bare, some bold, none, none, none, none, none, none]) (st := st) (ds := [.tup [.int 1, .int 200, .int 201]]) (xs := [.int 1, .int 200, .int 201]) (fun x => match x with | .int j => .tup (rep j) | d => d)
    (evs_i1 (Is.eq (by unfold Is; simp only [↓s_cons, ↓s_nil, ↓l_asg, ↓s_ret, ↓l_site, ↓s_exp, ↓s_pass, ↓w_non, ↓w_bl, ↓w_int, ↓w_str, ↓l_var, ↓l_con, ↓l_bin, ↓l_neg, ↓l_cmp, ↓l_chn, ↓w_isn, ↓w_notn, ↓w_and, ↓w_or, ↓l_not, ↓l_ite, ↓l_tup, ↓l_lst, ↓w_dct, ↓w_mutD, ↓mut_lst, ↓mut_dct, ↓l_idx, ↓l_slc, ↓nb_nul, ↓nb_int, ↓nb_var, ↓nb_con, ↓nb_bin, ↓nb_neg, ↓nb_idx, ↓nb_call, ↓nb_bi, ↓w_call, ↓l_bi, ↓l_bm, ↓l_isi, ↓w_evs, ↓w_evs0, ↓w_and0, ↓l_and1, ↓w_or0, ↓l_or1, ↓l_ssub, ↓s_whlD, ↓l_app, ↓WP_ok, ↓WS_nx, ↓WS_rt, ↓WP_bind, ↓WP_ofE, ↓WB_t, ↓WB_f, ↓WB_n, ↓WB_dec, ↓WB_all, ↓WB_any, ↓WB_lt, ↓WB_sub, ↓WB_emp, ↓WB_eqv, ↓WB_and, ↓WB_or, ↓SB_t, ↓SB_f, ↓SB_n, ↓SB_dec, ↓SB_all, ↓SB_any, ↓SB_lt, ↓SB_sub, ↓SB_emp, ↓SB_eqv, ↓SB_and, ↓SB_or, ↓EX_some, ↓EX_none, ↓EX_map, ↓EB_bl, ↓EI_int, ↓x_g0, ↓x_gs, ↓x_at0, ↓x_at1, ↓x_at2, ↓x_a0, ↓x_as, ↓x_atup2, ↓x_atup3, ↓x_mod_i, ↓x_bnd, ↓x_str_i, ↓x_str_b, ↓x_upper, ↓x_all, ↓x_any, ↓x_sum, ↓x_add_i, ↓x_sub_i, ↓x_mul_i, ↓x_div_i, ↓x_pow_i, ↓x_add_s, ↓x_add_t, ↓x_add_l, ↓x_mul_s, ↓x_mul_t, ↓x_mul_l, ↓x_lt_i, ↓x_le_i, ↓x_gt_i, ↓x_ge_i, ↓x_lt_s, ↓x_le_s, ↓x_eq_i, ↓x_ne_i, ↓x_eq_s, ↓x_ne_s, ↓x_eq_nil, ↓x_ne_nil, ↓x_in_s, ↓x_nin_s, ↓x_len_l, ↓x_len_t, ↓x_len_s, ↓x_tuple_l, ↓x_tuple_t, ↓x_list_t, ↓x_list_l, ↓x_list_s, ↓x_int_i, ↓x_int_b, ↓x_abs, ↓x_str_s, ↓x_slc_t, ↓x_slc_l, ↓x_slc_s, ↓x_idx_t, ↓x_idx_l, ↓x_isi_nb, ↓x_isi_ni, ↓x_isi_ns, ↓x_isi_nt, ↓x_isi_nl, ↓x_isi_nd, ↓x_isi_bb, ↓x_isi_bi, ↓x_isi_bs, ↓x_isi_bt, ↓x_isi_bl, ↓x_isi_bd, ↓x_isi_ib, ↓x_isi_ii, ↓x_isi_is, ↓x_isi_it, ↓x_isi_il, ↓x_isi_id, ↓x_isi_sb, ↓x_isi_si, ↓x_isi_ss, ↓x_isi_st, ↓x_isi_sl, ↓x_isi_sd, ↓x_isi_tb, ↓x_isi_ti, ↓x_isi_ts, ↓x_isi_tt, ↓x_isi_tl, ↓x_isi_td, ↓x_isi_lb, ↓x_isi_li, ↓x_isi_ls, ↓x_isi_lt, ↓x_isi_ll, ↓x_isi_ld, ↓x_isi_db, ↓x_isi_di, ↓x_isi_ds, ↓x_isi_dt, ↓x_isi_dl, ↓x_isi_dd, emp_flt, List.length_cons, List.length_nil, on_join, on_split, on_upper, on_count, on_rstrip, on_sindex, on_tindex, true_and, and_true, eq_self, Nat.reduceAdd, Nat.reduceLeDiff, Nat.zero_add, isI_n, isI_b, isI_i, isI_s, isI_t, isI_l, isI_d, isI_c, isI_r, isB_n, isB_b, isB_i, isB_s, isB_t, isB_l, isB_d, isB_c, isB_r, isS_n, isS_b, isS_i, isS_s, isS_t, isS_l, isS_d, isS_c, isS_r, isT_n, isT_b, isT_i, isT_s, isT_t, isT_l, isT_d, isT_c, isT_r, ↓x_con0, ↓x_con1, ↓x_con2, ↓x_con3, ↓x_con4, ↓x_con5, ↓x_con6, ↓x_con7, ↓WB_isI, ↓WB_isB, ↓WB_isS, ↓WB_isT, ↓SB_isI, ↓SB_isB, ↓SB_isS, ↓SB_isT]))) rfl (by decide) fun x hx => (by
      have hx : ∃ j : Int, x = .int j ∧ 0 ≤ j ∧ j ≤ 600 := by
        simp only [List.mem_cons, List.not_mem_nil, or_false] at hx
        rcases hx with rfl | rfl | rfl <;> exact ⟨_, rfl, by decide, by decide⟩
      obtain ⟨j, rfl, h0, h1⟩ := hx
      simp only [wipeE, List.set_cons_zero, List.set_cons_succ, ↓x_a0, ↓x_as, ↓x_atup2, ↓x_atup3]
      exact mul1 (x := .non) h0 h1 rfl)
theorem bounds2 {u n : Nat} {st : Store} : ev (txOf cons) (cf n) (.lc [8] (.nm 8) .val [(.tup [(.int 6), (.int 7)])] .nul (.tup [(.tup [(.var 8), (.tup [(.tup [])])])])) [some (.ref u), some bare, some bold, none, none, none, none, none, none] st = .ok (.lst [.tup [.tup [.int 6, .tup [.tup []]]], .tup [.tup [.int 7, .tup [.tup []]]]]) st :=
  lc_M (Γ := txOf cons) (cf := cf (n)) (own := [8]) (t := .nm 8) (k := .val) (its := [(.tup [(.int 6), (.int 7)])]) (e := (.tup [(.tup [(.var 8), (.tup [(.tup [])])])])) (env := [some (.ref u), some bare, some bold, none, none, none, none, none, none]) (st := st) (ds := [.tup [.int 6, .int 7]]) (xs := [.int 6, .int 7]) (fun x => .tup [.tup [x, .tup [.tup []]]])
    (evs_i1 (Is.eq (by unfold Is; simp only [↓s_cons, ↓s_nil, ↓l_asg, ↓s_ret, ↓l_site, ↓s_exp, ↓s_pass, ↓w_non, ↓w_bl, ↓w_int, ↓w_str, ↓l_var, ↓l_con, ↓l_bin, ↓l_neg, ↓l_cmp, ↓l_chn, ↓w_isn, ↓w_notn, ↓w_and, ↓w_or, ↓l_not, ↓l_ite, ↓l_tup, ↓l_lst, ↓w_dct, ↓w_mutD, ↓mut_lst, ↓mut_dct, ↓l_idx, ↓l_slc, ↓nb_nul, ↓nb_int, ↓nb_var, ↓nb_con, ↓nb_bin, ↓nb_neg, ↓nb_idx, ↓nb_call, ↓nb_bi, ↓w_call, ↓l_bi, ↓l_bm, ↓l_isi, ↓w_evs, ↓w_evs0, ↓w_and0, ↓l_and1, ↓w_or0, ↓l_or1, ↓l_ssub, ↓s_whlD, ↓l_app, ↓WP_ok, ↓WS_nx, ↓WS_rt, ↓WP_bind, ↓WP_ofE, ↓WB_t, ↓WB_f, ↓WB_n, ↓WB_dec, ↓WB_all, ↓WB_any, ↓WB_lt, ↓WB_sub, ↓WB_emp, ↓WB_eqv, ↓WB_and, ↓WB_or, ↓SB_t, ↓SB_f, ↓SB_n, ↓SB_dec, ↓SB_all, ↓SB_any, ↓SB_lt, ↓SB_sub, ↓SB_emp, ↓SB_eqv, ↓SB_and, ↓SB_or, ↓EX_some, ↓EX_none, ↓EX_map, ↓EB_bl, ↓EI_int, ↓x_g0, ↓x_gs, ↓x_at0, ↓x_at1, ↓x_at2, ↓x_a0, ↓x_as, ↓x_atup2, ↓x_atup3, ↓x_mod_i, ↓x_bnd, ↓x_str_i, ↓x_str_b, ↓x_upper, ↓x_all, ↓x_any, ↓x_sum, ↓x_add_i, ↓x_sub_i, ↓x_mul_i, ↓x_div_i, ↓x_pow_i, ↓x_add_s, ↓x_add_t, ↓x_add_l, ↓x_mul_s, ↓x_mul_t, ↓x_mul_l, ↓x_lt_i, ↓x_le_i, ↓x_gt_i, ↓x_ge_i, ↓x_lt_s, ↓x_le_s, ↓x_eq_i, ↓x_ne_i, ↓x_eq_s, ↓x_ne_s, ↓x_eq_nil, ↓x_ne_nil, ↓x_in_s, ↓x_nin_s, ↓x_len_l, ↓x_len_t, ↓x_len_s, ↓x_tuple_l, ↓x_tuple_t, ↓x_list_t, ↓x_list_l, ↓x_list_s, ↓x_int_i, ↓x_int_b, ↓x_abs, ↓x_str_s, ↓x_slc_t, ↓x_slc_l, ↓x_slc_s, ↓x_idx_t, ↓x_idx_l, ↓x_isi_nb, ↓x_isi_ni, ↓x_isi_ns, ↓x_isi_nt, ↓x_isi_nl, ↓x_isi_nd, ↓x_isi_bb, ↓x_isi_bi, ↓x_isi_bs, ↓x_isi_bt, ↓x_isi_bl, ↓x_isi_bd, ↓x_isi_ib, ↓x_isi_ii, ↓x_isi_is, ↓x_isi_it, ↓x_isi_il, ↓x_isi_id, ↓x_isi_sb, ↓x_isi_si, ↓x_isi_ss, ↓x_isi_st, ↓x_isi_sl, ↓x_isi_sd, ↓x_isi_tb, ↓x_isi_ti, ↓x_isi_ts, ↓x_isi_tt, ↓x_isi_tl, ↓x_isi_td, ↓x_isi_lb, ↓x_isi_li, ↓x_isi_ls, ↓x_isi_lt, ↓x_isi_ll, ↓x_isi_ld, ↓x_isi_db, ↓x_isi_di, ↓x_isi_ds, ↓x_isi_dt, ↓x_isi_dl, ↓x_isi_dd, emp_flt, List.length_cons, List.length_nil, on_join, on_split, on_upper, on_count, on_rstrip, on_sindex, on_tindex, true_and, and_true, eq_self, Nat.reduceAdd, Nat.reduceLeDiff, Nat.zero_add, isI_n, isI_b, isI_i, isI_s, isI_t, isI_l, isI_d, isI_c, isI_r, isB_n, isB_b, isB_i, isB_s, isB_t, isB_l, isB_d, isB_c, isB_r, isS_n, isS_b, isS_i, isS_s, isS_t, isS_l, isS_d, isS_c, isS_r, isT_n, isT_b, isT_i, isT_s, isT_t, isT_l, isT_d, isT_c, isT_r, ↓x_con0, ↓x_con1, ↓x_con2, ↓x_con3, ↓x_con4, ↓x_con5, ↓x_con6, ↓x_con7, ↓WB_isI, ↓WB_isB, ↓WB_isS, ↓WB_isT, ↓SB_isI, ↓SB_isB, ↓SB_isS, ↓SB_isT]))) rfl (by decide) fun x hx => (by
      simp only [wipeE, List.set_cons_zero, List.set_cons_succ, ↓x_a0, ↓x_as, ↓x_atup2, ↓x_atup3]
      exact Is.eq (by unfold Is; simp only [↓s_cons, ↓s_nil, ↓l_asg, ↓s_ret, ↓l_site, ↓s_exp, ↓s_pass, ↓w_non, ↓w_bl, ↓w_int, ↓w_str, ↓l_var, ↓l_con, ↓l_bin, ↓l_neg, ↓l_cmp, ↓l_chn, ↓w_isn, ↓w_notn, ↓w_and, ↓w_or, ↓l_not, ↓l_ite, ↓l_tup, ↓l_lst, ↓w_dct, ↓w_mutD, ↓mut_lst, ↓mut_dct, ↓l_idx, ↓l_slc, ↓nb_nul, ↓nb_int, ↓nb_var, ↓nb_con, ↓nb_bin, ↓nb_neg, ↓nb_idx, ↓nb_call, ↓nb_bi, ↓w_call, ↓l_bi, ↓l_bm, ↓l_isi, ↓w_evs, ↓w_evs0, ↓w_and0, ↓l_and1, ↓w_or0, ↓l_or1, ↓l_ssub, ↓s_whlD, ↓l_app, ↓WP_ok, ↓WS_nx, ↓WS_rt, ↓WP_bind, ↓WP_ofE, ↓WB_t, ↓WB_f, ↓WB_n, ↓WB_dec, ↓WB_all, ↓WB_any, ↓WB_lt, ↓WB_sub, ↓WB_emp, ↓WB_eqv, ↓WB_and, ↓WB_or, ↓SB_t, ↓SB_f, ↓SB_n, ↓SB_dec, ↓SB_all, ↓SB_any, ↓SB_lt, ↓SB_sub, ↓SB_emp, ↓SB_eqv, ↓SB_and, ↓SB_or, ↓EX_some, ↓EX_none, ↓EX_map, ↓EB_bl, ↓EI_int, ↓x_g0, ↓x_gs, ↓x_at0, ↓x_at1, ↓x_at2, ↓x_a0, ↓x_as, ↓x_atup2, ↓x_atup3, ↓x_mod_i, ↓x_bnd, ↓x_str_i, ↓x_str_b, ↓x_upper, ↓x_all, ↓x_any, ↓x_sum, ↓x_add_i, ↓x_sub_i, ↓x_mul_i, ↓x_div_i, ↓x_pow_i, ↓x_add_s, ↓x_add_t, ↓x_add_l, ↓x_mul_s, ↓x_mul_t, ↓x_mul_l, ↓x_lt_i, ↓x_le_i, ↓x_gt_i, ↓x_ge_i, ↓x_lt_s, ↓x_le_s, ↓x_eq_i, ↓x_ne_i, ↓x_eq_s, ↓x_ne_s, ↓x_eq_nil, ↓x_ne_nil, ↓x_in_s, ↓x_nin_s, ↓x_len_l, ↓x_len_t, ↓x_len_s, ↓x_tuple_l, ↓x_tuple_t, ↓x_list_t, ↓x_list_l, ↓x_list_s, ↓x_int_i, ↓x_int_b, ↓x_abs, ↓x_str_s, ↓x_slc_t, ↓x_slc_l, ↓x_slc_s, ↓x_idx_t, ↓x_idx_l, ↓x_isi_nb, ↓x_isi_ni, ↓x_isi_ns, ↓x_isi_nt, ↓x_isi_nl, ↓x_isi_nd, ↓x_isi_bb, ↓x_isi_bi, ↓x_isi_bs, ↓x_isi_bt, ↓x_isi_bl, ↓x_isi_bd, ↓x_isi_ib, ↓x_isi_ii, ↓x_isi_is, ↓x_isi_it, ↓x_isi_il, ↓x_isi_id, ↓x_isi_sb, ↓x_isi_si, ↓x_isi_ss, ↓x_isi_st, ↓x_isi_sl, ↓x_isi_sd, ↓x_isi_tb, ↓x_isi_ti, ↓x_isi_ts, ↓x_isi_tt, ↓x_isi_tl, ↓x_isi_td, ↓x_isi_lb, ↓x_isi_li, ↓x_isi_ls, ↓x_isi_lt, ↓x_isi_ll, ↓x_isi_ld, ↓x_isi_db, ↓x_isi_di, ↓x_isi_ds, ↓x_isi_dt, ↓x_isi_dl, ↓x_isi_dd, emp_flt, List.length_cons, List.length_nil, on_join, on_split, on_upper, on_count, on_rstrip, on_sindex, on_tindex, true_and, and_true, eq_self, Nat.reduceAdd, Nat.reduceLeDiff, Nat.zero_add, isI_n, isI_b, isI_i, isI_s, isI_t, isI_l, isI_d, isI_c, isI_r, isB_n, isB_b, isB_i, isB_s, isB_t, isB_l, isB_d, isB_c, isB_r, isS_n, isS_b, isS_i, isS_s, isS_t, isS_l, isS_d, isS_c, isS_r, isT_n, isT_b, isT_i, isT_s, isT_t, isT_l, isT_d, isT_c, isT_r, ↓x_con0, ↓x_con1, ↓x_con2, ↓x_con3, ↓x_con4, ↓x_con5, ↓x_con6, ↓x_con7, ↓WB_isI, ↓WB_isB, ↓WB_isS, ↓WB_isT, ↓SB_isI, ↓SB_isB, ↓SB_isS, ↓SB_isT]))
theorem bounds3 {u n : Nat} {x : Option D} {st : Store} : ev (txOf cons) (cf n) (.lc [4] (.nm 4) .val [(.tup [(.int 12), (.int 13)])] .nul (.tup [(.tup [(.int 0), (.bin .mul (.tup [(.tup [])]) (.var 4))])])) [some (.ref u), some bare, some bold, x, none, none, none, none, none] st = .ok (.lst [.tup [.tup [.int 0, .tup (List.replicate 12 [.tup []]).flatten]], .tup [.tup [.int 0, .tup (List.replicate 13 [.tup []]).flatten]]]) st :=
  lc_M (Γ := txOf cons) (cf := cf (n)) (own := [4]) (t := .nm 4) (k := .val) (its := [(.tup [(.int 12), (.int 13)])]) (e := (.tup [(.tup [(.int 0), (.bin .mul (.tup [(.tup [])]) (.var 4))])])) (env := [some (.ref u), some bare, some bold, x, none, none, none, none, none]) (st := st) (ds := [.tup [.int 12, .int 13]]) (xs := [.int 12, .int 13]) (fun x => match x with | .int j => .tup [.tup [.int 0, .tup (List.replicate j.toNat [.tup []]).flatten]] | d => d)
    (evs_i1 (Is.eq (by unfold Is; simp only [↓s_cons, ↓s_nil, ↓l_asg, ↓s_ret, ↓l_site, ↓s_exp, ↓s_pass, ↓w_non, ↓w_bl, ↓w_int, ↓w_str, ↓l_var, ↓l_con, ↓l_bin, ↓l_neg, ↓l_cmp, ↓l_chn, ↓w_isn, ↓w_notn, ↓w_and, ↓w_or, ↓l_not, ↓l_ite, ↓l_tup, ↓l_lst, ↓w_dct, ↓w_mutD, ↓mut_lst, ↓mut_dct, ↓l_idx, ↓l_slc, ↓nb_nul, ↓nb_int, ↓nb_var, ↓nb_con, ↓nb_bin, ↓nb_neg, ↓nb_idx, ↓nb_call, ↓nb_bi, ↓w_call, ↓l_bi, ↓l_bm, ↓l_isi, ↓w_evs, ↓w_evs0, ↓w_and0, ↓l_and1, ↓w_or0, ↓l_or1, ↓l_ssub, ↓s_whlD, ↓l_app, ↓WP_ok, ↓WS_nx, ↓WS_rt, ↓WP_bind, ↓WP_ofE, ↓WB_t, ↓WB_f, ↓WB_n, ↓WB_dec, ↓WB_all, ↓WB_any, ↓WB_lt, ↓WB_sub, ↓WB_emp, ↓WB_eqv, ↓WB_and, ↓WB_or, ↓SB_t, ↓SB_f, ↓SB_n, ↓SB_dec, ↓SB_all, ↓SB_any, ↓SB_lt, ↓SB_sub, ↓SB_emp, ↓SB_eqv, ↓SB_and, ↓SB_or, ↓EX_some, ↓EX_none, ↓EX_map, ↓EB_bl, ↓EI_int, ↓x_g0, ↓x_gs, ↓x_at0, ↓x_at1, ↓x_at2, ↓x_a0, ↓x_as, ↓x_atup2, ↓x_atup3, ↓x_mod_i, ↓x_bnd, ↓x_str_i, ↓x_str_b, ↓x_upper, ↓x_all, ↓x_any, ↓x_sum, ↓x_add_i, ↓x_sub_i, ↓x_mul_i, ↓x_div_i, ↓x_pow_i, ↓x_add_s, ↓x_add_t, ↓x_add_l, ↓x_mul_s, ↓x_mul_t, ↓x_mul_l, ↓x_lt_i, ↓x_le_i, ↓x_gt_i, ↓x_ge_i, ↓x_lt_s, ↓x_le_s, ↓x_eq_i, ↓x_ne_i, ↓x_eq_s, ↓x_ne_s, ↓x_eq_nil, ↓x_ne_nil, ↓x_in_s, ↓x_nin_s, ↓x_len_l, ↓x_len_t, ↓x_len_s, ↓x_tuple_l, ↓x_tuple_t, ↓x_list_t, ↓x_list_l, ↓x_list_s, ↓x_int_i, ↓x_int_b, ↓x_abs, ↓x_str_s, ↓x_slc_t, ↓x_slc_l, ↓x_slc_s, ↓x_idx_t, ↓x_idx_l, ↓x_isi_nb, ↓x_isi_ni, ↓x_isi_ns, ↓x_isi_nt, ↓x_isi_nl, ↓x_isi_nd, ↓x_isi_bb, ↓x_isi_bi, ↓x_isi_bs, ↓x_isi_bt, ↓x_isi_bl, ↓x_isi_bd, ↓x_isi_ib, ↓x_isi_ii, ↓x_isi_is, ↓x_isi_it, ↓x_isi_il, ↓x_isi_id, ↓x_isi_sb, ↓x_isi_si, ↓x_isi_ss, ↓x_isi_st, ↓x_isi_sl, ↓x_isi_sd, ↓x_isi_tb, ↓x_isi_ti, ↓x_isi_ts, ↓x_isi_tt, ↓x_isi_tl, ↓x_isi_td, ↓x_isi_lb, ↓x_isi_li, ↓x_isi_ls, ↓x_isi_lt, ↓x_isi_ll, ↓x_isi_ld, ↓x_isi_db, ↓x_isi_di, ↓x_isi_ds, ↓x_isi_dt, ↓x_isi_dl, ↓x_isi_dd, emp_flt, List.length_cons, List.length_nil, on_join, on_split, on_upper, on_count, on_rstrip, on_sindex, on_tindex, true_and, and_true, eq_self, Nat.reduceAdd, Nat.reduceLeDiff, Nat.zero_add, isI_n, isI_b, isI_i, isI_s, isI_t, isI_l, isI_d, isI_c, isI_r, isB_n, isB_b, isB_i, isB_s, isB_t, isB_l, isB_d, isB_c, isB_r, isS_n, isS_b, isS_i, isS_s, isS_t, isS_l, isS_d, isS_c, isS_r, isT_n, isT_b, isT_i, isT_s, isT_t, isT_l, isT_d, isT_c, isT_r, ↓x_con0, ↓x_con1, ↓x_con2, ↓x_con3, ↓x_con4, ↓x_con5, ↓x_con6, ↓x_con7, ↓WB_isI, ↓WB_isB, ↓WB_isS, ↓WB_isT, ↓SB_isI, ↓SB_isB, ↓SB_isS, ↓SB_isT]))) rfl (by decide) fun x hx => (by
      have hx : ∃ j : Int, x = .int j ∧ 0 ≤ j ∧ j ≤ 600 := by
        simp only [List.mem_cons, List.not_mem_nil, or_false] at hx
        rcases hx with rfl | rfl <;> exact ⟨_, rfl, by decide, by decide⟩
      obtain ⟨j, rfl, h0, h1⟩ := hx
      simp only [wipeE, List.set_cons_zero, List.set_cons_succ, ↓x_a0, ↓x_as, ↓x_atup2, ↓x_atup3]
      refine Is.eq ?_
      unfold Is
      simp only [↓s_cons, ↓s_nil, ↓l_asg, ↓s_ret, ↓l_site, ↓s_exp, ↓s_pass, ↓w_non, ↓w_bl, ↓w_int, ↓w_str, ↓l_var, ↓l_con, ↓l_bin, ↓l_neg, ↓l_cmp, ↓l_chn, ↓w_isn, ↓w_notn, ↓w_and, ↓w_or, ↓l_not, ↓l_ite, ↓l_tup, ↓l_lst, ↓w_dct, ↓w_mutD, ↓mut_lst, ↓mut_dct, ↓l_idx, ↓l_slc, ↓nb_nul, ↓nb_int, ↓nb_var, ↓nb_con, ↓nb_bin, ↓nb_neg, ↓nb_idx, ↓nb_call, ↓nb_bi, ↓w_call, ↓l_bi, ↓l_bm, ↓l_isi, ↓w_evs, ↓w_evs0, ↓w_and0, ↓l_and1, ↓w_or0, ↓l_or1, ↓l_ssub, ↓s_whlD, ↓l_app, ↓WP_ok, ↓WS_nx, ↓WS_rt, ↓WP_bind, ↓WP_ofE, ↓WB_t, ↓WB_f, ↓WB_n, ↓WB_dec, ↓WB_all, ↓WB_any, ↓WB_lt, ↓WB_sub, ↓WB_emp, ↓WB_eqv, ↓WB_and, ↓WB_or, ↓SB_t, ↓SB_f, ↓SB_n, ↓SB_dec, ↓SB_all, ↓SB_any, ↓SB_lt, ↓SB_sub, ↓SB_emp, ↓SB_eqv, ↓SB_and, ↓SB_or, ↓EX_some, ↓EX_none, ↓EX_map, ↓EB_bl, ↓EI_int, ↓x_g0, ↓x_gs, ↓x_at0, ↓x_at1, ↓x_at2, ↓x_a0, ↓x_as, ↓x_atup2, ↓x_atup3, ↓x_mod_i, ↓x_bnd, ↓x_str_i, ↓x_str_b, ↓x_upper, ↓x_all, ↓x_any, ↓x_sum, ↓x_add_i, ↓x_sub_i, ↓x_mul_i, ↓x_div_i, ↓x_pow_i, ↓x_add_s, ↓x_add_t, ↓x_add_l, ↓x_mul_s, ↓x_mul_t, ↓x_mul_l, ↓x_lt_i, ↓x_le_i, ↓x_gt_i, ↓x_ge_i, ↓x_lt_s, ↓x_le_s, ↓x_eq_i, ↓x_ne_i, ↓x_eq_s, ↓x_ne_s, ↓x_eq_nil, ↓x_ne_nil, ↓x_in_s, ↓x_nin_s, ↓x_len_l, ↓x_len_t, ↓x_len_s, ↓x_tuple_l, ↓x_tuple_t, ↓x_list_t, ↓x_list_l, ↓x_list_s, ↓x_int_i, ↓x_int_b, ↓x_abs, ↓x_str_s, ↓x_slc_t, ↓x_slc_l, ↓x_slc_s, ↓x_idx_t, ↓x_idx_l, ↓x_isi_nb, ↓x_isi_ni, ↓x_isi_ns, ↓x_isi_nt, ↓x_isi_nl, ↓x_isi_nd, ↓x_isi_bb, ↓x_isi_bi, ↓x_isi_bs, ↓x_isi_bt, ↓x_isi_bl, ↓x_isi_bd, ↓x_isi_ib, ↓x_isi_ii, ↓x_isi_is, ↓x_isi_it, ↓x_isi_il, ↓x_isi_id, ↓x_isi_sb, ↓x_isi_si, ↓x_isi_ss, ↓x_isi_st, ↓x_isi_sl, ↓x_isi_sd, ↓x_isi_tb, ↓x_isi_ti, ↓x_isi_ts, ↓x_isi_tt, ↓x_isi_tl, ↓x_isi_td, ↓x_isi_lb, ↓x_isi_li, ↓x_isi_ls, ↓x_isi_lt, ↓x_isi_ll, ↓x_isi_ld, ↓x_isi_db, ↓x_isi_di, ↓x_isi_ds, ↓x_isi_dt, ↓x_isi_dl, ↓x_isi_dd, emp_flt, List.length_cons, List.length_nil, on_join, on_split, on_upper, on_count, on_rstrip, on_sindex, on_tindex, true_and, and_true, eq_self, Nat.reduceAdd, Nat.reduceLeDiff, Nat.zero_add, isI_n, isI_b, isI_i, isI_s, isI_t, isI_l, isI_d, isI_c, isI_r, isB_n, isB_b, isB_i, isB_s, isB_t, isB_l, isB_d, isB_c, isB_r, isS_n, isS_b, isS_i, isS_s, isS_t, isS_l, isS_d, isS_c, isS_r, isT_n, isT_b, isT_i, isT_s, isT_t, isT_l, isT_d, isT_c, isT_r, ↓x_con0, ↓x_con1, ↓x_con2, ↓x_con3, ↓x_con4, ↓x_con5, ↓x_con6, ↓x_con7, ↓WB_isI, ↓WB_isB, ↓WB_isS, ↓WB_isT, ↓SB_isI, ↓SB_isB, ↓SB_isS, ↓SB_isT]
      rw [p31]
      exact ⟨by omega, by omega, by omega⟩)
end Law
end Cip

set_option maxHeartbeats 4000000
namespace Cip
open PySem
local macro_rules | `(tactic| walk_at "cip") => `(tactic| simp only [s_cons, s_nil, s_asg, s_ret, s_ite, s_exp, s_pass, w_non, w_bl, w_int, w_str, w_var, w_con, w_bin, w_neg, w_cmp, w_isn, w_notn, w_and, w_or, w_not, w_ite, w_tup, w_lst, w_idx, w_call, s_ssubD, s_forD, s_whlD, w_mutD, w_appD, mut_lst, asg_tup2, asg_tup3, int_i, len_l, len_t, len_s, idx_l, idx_t, tuple_l, w_bi, w_isi, w_evs, w_evs0, w_and0, w_and1, w_or0, w_or1, asg_nm, ex_some, ex_var, ex_int, ex_bl, startE, List.length_cons, List.length_nil, List.map_cons, List.map_nil, List.getElem?_cons_zero, List.getElem?_cons_succ, List.set_cons_zero, List.set_cons_succ, List.cons_append, List.nil_append, List.replicate, ex_ite, b_add_i, b_sub_i, b_mul_i, b_mod_i, b_div_i, b_pow_i, b_add_s, b_add_t, b_add_l, b_mul_s, b_mul_t, b_mul_l, c_lt_i, c_le_i, c_gt_i, c_ge_i, c_lt_s, c_le_s, c_eq_i, c_ne_i, c_eq_s, c_ne_s, WP_ok, WS_nx, WS_rt, true_and, and_true])
local macro_rules | `(tactic| walk_at "cip2") => `(tactic| simp only [s_cons, s_nil, s_asg, s_ret, s_ite, s_exp, s_pass, w_non, w_bl, w_int, w_str, w_var, w_con, w_bin, w_neg, w_cmp, w_isn, w_notn, w_and, w_or, w_not, w_ite, w_tup, w_lst, w_idx, w_call, s_ssubD, s_forD, s_whlD, w_mutD, w_appD, mut_lst, asg_tup2, asg_tup3, int_i, len_l, len_t, len_s, idx_l, idx_t, tuple_l, w_bi, w_isi, w_evs, w_evs0, w_and0, w_and1, w_or0, w_or1, asg_nm, ex_some, ex_var, ex_int, ex_bl, startE, List.length_cons, List.length_nil, List.map_cons, List.map_nil, List.getElem?_cons_zero, List.getElem?_cons_succ, List.set_cons_zero, List.set_cons_succ, List.cons_append, List.nil_append, List.replicate, ex_ite, b_add_i, b_sub_i, b_mul_i, b_mod_i, b_div_i, b_pow_i, b_add_s, b_add_t, b_add_l, b_mul_s, b_mul_t, b_mul_l, c_lt_i, c_le_i, c_gt_i, c_ge_i, c_lt_s, c_le_s, c_eq_i, c_ne_i, c_eq_s, c_ne_s, WP_ok, WS_nx, WS_rt, true_and, and_true, w_slc, E.nulB, eq_self, if_true, if_false, Bool.false_eq_true, WP_bind, WP_of, bnd_int, Bool.not_true, Bool.not_false])
local macro_rules | `(tactic| walk_at "cip3") => `(tactic| simp only [s_cons, s_nil, s_asg, s_ret, s_ite, s_exp, s_pass, w_non, w_bl, w_int, w_str, w_var, w_con, w_bin, w_neg, w_cmp, w_isn, w_notn, w_and, w_or, w_not, w_ite, w_tup, w_lst, w_idx, w_call, s_ssubD, s_forD, s_whlD, w_mutD, w_appD, mut_lst, asg_tup2, asg_tup3, int_i, len_l, len_t, len_s, idx_l, idx_t, tuple_l, w_bi, w_isi, w_evs, w_evs0, w_and0, w_and1, w_or0, w_or1, asg_nm, ex_some, ex_var, ex_int, ex_bl, startE, List.length_cons, List.length_nil, List.map_cons, List.map_nil, List.getElem?_cons_zero, List.getElem?_cons_succ, List.set_cons_zero, List.set_cons_succ, List.cons_append, List.nil_append, List.replicate, ex_ite, b_add_i, b_sub_i, b_mul_i, b_mod_i, b_div_i, b_pow_i, b_add_s, b_add_t, b_add_l, b_mul_s, b_mul_t, b_mul_l, c_lt_i, c_le_i, c_gt_i, c_ge_i, c_lt_s, c_le_s, c_eq_i, c_ne_i, c_eq_s, c_ne_s, WP_ok, WS_nx, WS_rt, true_and, and_true, w_slc, E.nulB, eq_self, if_true, if_false, Bool.false_eq_true, WP_bind, WP_of, bnd_int, Bool.not_true, Bool.not_false, w_chn])
local macro_rules | `(tactic| walk_at "z0") => `(tactic| simp only [startE, List.map_cons, List.map_nil, List.length_cons, List.length_nil, Nat.reduceAdd, Nat.reduceSub, List.replicate, List.cons_append, List.nil_append])
local macro_rules | `(tactic| walk_at "zx") => `(tactic| simp only [wipeE, List.set_cons_zero, List.set_cons_succ, ↓x_a0, ↓x_as, ↓x_atup2, ↓x_atup3])
namespace Law
/-! M14: the bounds, run. -/
def B0 : List D := [.tup (rep 1), .tup (rep 200), .tup (rep 201)] ++ [.tup [.tup [.int 6, .tup [.tup []]]], .tup [.tup [.int 7, .tup [.tup []]]]]
def B1 : List D := [.tup [.tup [.int 0, .tup (List.replicate 12 [.tup []]).flatten]], .tup [.tup [.int 0, .tup (List.replicate 13 [.tup []]).flatten]]]
theorem th_r {j : Int} (h : j.toNat ≤ 600) : Th 5000 20 (.tup (rep j)) := by
  obtain ⟨h1, h2, h3⟩ := th_rep h
  exact th_tup h1 (by omega) (by omega)
theorem gd7 {k : Nat} : Gd true false (.tup [.tup [.int (7 : Int), .tup [.tup []]]]) = true := by decide
theorem b0_th : ∀ d ∈ B0, Th 5000 20 d := all_cons (th_r (by decide)) (all_cons (th_r (by decide)) (all_cons (th_r (by decide)) (all_cons (th_tup (by decide) (by decide) (by decide)) (all_cons ⟨.inl (gd7 (k := 0)), by decide, by decide⟩ all_nil))))
theorem b1_th : ∀ d ∈ B1, Th 5000 20 d := all_cons (th_tup (by decide) (by decide) (by decide)) (all_cons (th_tup (by decide) (by decide) (by decide)) all_nil)
theorem HB.len {st0 st : Store} {u c N k : Nat} (h : HB st0 u c N k st) : st0.length ≤ st.length := by
  obtain ⟨_, h2, ds, h3, _⟩ := h
  have := (List.getElem?_eq_some_iff.mp h3).1
  omega
theorem HB.mono {st0 st : Store} {u c N M k : Nat} (h : HB st0 u c N k st) (hm : N ≤ M) : HB st0 u c M k st := by
  obtain ⟨h1, h2, ds, h3, h4, h5⟩ := h
  exact ⟨h1, h2, ds, h3, by omega, h5⟩
abbrev cellJ (j : Int) : D := .tup [.tup [.str (strMul (Str.ofString "x") (j - 3)), bare], .tup [.str (Str.ofString "yyy"), bold]]
theorem cellJ_ok {j : Int} (h1 : j ≤ 492) : Cn (cellJ j) = true ∧ bk (cellJ j) ≤ 600 ∧ dp (cellJ j) ≤ 5 := by
  have e := cn_mul (x := Str.ofString "x") (by decide) (j - 3)
  have l := mul_len (Str.ofString "x") (j - 3)
  have l1 : (Str.ofString "x").length = 1 := by decide
  refine ⟨?_, ?_, ?_⟩
  · show ((Cn (.str (strMul (Str.ofString "x") (j - 3))) && (Cn bare && true)) && (Cn (.tup [.str (Str.ofString "yyy"), bold]) && true)) = true
    rw [e]
    decide
  · have e1 : bk (cellJ j) = (strMul (Str.ofString "x") (j - 3)).length + 1 + (bk bare + 1 + 0) + 1 + (bk (.tup [.str (Str.ofString "yyy"), bold]) + 1 + 0) := rfl
    have e2 : bk bare = 3 := rfl
    have e3 : bk (.tup [.str (Str.ofString "yyy"), bold]) = 8 := rfl
    rw [e1, e2, e3, l, l1]
    omega
  · exact Nat.le_trans (Nat.le_of_eq (show dp (cellJ j) = 3 from rfl)) (by decide)
theorem th_cn {b k : Nat} {d : D} (h : Cn d = true) (hb : bk d ≤ b) (hk : dp d ≤ k) : Th b k d := (Th.cn h).mono hb hk
theorem cellJ_th {j : Int} (h1 : j ≤ 492) : ∀ d ∈ [D.tup [.tup [.int 0, .tup [cellJ j]]], .tup [.tup [.int 0, .tup [cellJ j, .tup []]]], .tup [.tup [.int 0, .tup [.tup [], cellJ j]]]], Th 5000 20 d := by
  obtain ⟨c1, c2, c3⟩ := cellJ_ok h1
  refine all_cons (th_cn ?_ ?_ ?_) (all_cons (th_cn ?_ ?_ ?_) (all_cons (th_cn ?_ ?_ ?_) all_nil))
  · show (((true && true) && ((Cn (cellJ j) && true) && true)) && true) = true
    rw [c1]; decide
  · show (0 + 1 + ((bk (cellJ j) + 1 + 0) + 1 + 0)) + 1 + 0 ≤ 5000
    omega
  · show max (max 0 (max (max (dp (cellJ j)) 0 + 1) 0) + 1) 0 + 1 ≤ 20
    omega
  · show (((true && true) && ((Cn (cellJ j) && (true && true)) && true)) && true) = true
    rw [c1]; decide
  · show (0 + 1 + ((bk (cellJ j) + 1 + (0 + 1 + 0)) + 1 + 0)) + 1 + 0 ≤ 5000
    omega
  · show max (max 0 (max (max (dp (cellJ j)) (max (0 + 1) 0) + 1) 0) + 1) 0 + 1 ≤ 20
    omega
  · show (((true && true) && ((true && (Cn (cellJ j) && true)) && true)) && true) = true
    rw [c1]; decide
  · show (0 + 1 + ((0 + 1 + (bk (cellJ j) + 1 + 0)) + 1 + 0)) + 1 + 0 ≤ 5000
    omega
  · show max (max 0 (max (max (0 + 1) (max (dp (cellJ j)) 0) + 1) 0) + 1) 0 + 1 ≤ 20
    omega
theorem mid_th {r j : Int} (h0 : 0 ≤ r) (h1 : r < j) (h2 : j ≤ 200) : Th 5000 20 (.tup (rep r ++ [.tup [.int 7, .tup [.tup []]]] ++ rep (j - r))) := by
  have g : ∀ i, Gds true false (rep i) = true := fun i => (cns_gd _ (cns_rep (by decide) _)).1
  have b : ∀ i : Int, bks (rep i) = i.toNat * 4 := fun i => by unfold rep; rw [bks_rep] <;> rfl
  have p : ∀ i : Int, dps (rep i) ≤ 3 := fun i => Nat.le_trans (dps_rep _ _) (by decide)
  refine ⟨.inl (Gds_app.mpr ⟨Gds_app.mpr ⟨g _, by decide⟩, g _⟩), ?_, ?_⟩
  · show bks _ ≤ 5000
    rw [bks_app, bks_app, b, b]
    have : bks [.tup [.int 7, .tup [.tup []]]] = 4 := rfl
    omega
  · show dps _ + 1 ≤ 20
    rw [dps_app, dps_app]
    have := p r
    have := p (j - r)
    have : dps [.tup [.int 7, .tup [.tup []]]] = 3 := rfl
    omega
theorem link_th {z : Str} (h : Cn (.str z) = true) (hl : z.length ≤ 20) : Th 5000 20 (.tup [.tup [.int 0, .tup [.tup [.tup [.str (Str.ofString "x"), .tup [.str z, .bl false, .bl false]]]]]]) := by
  refine th_cn ?_ ?_ ?_
  · show (((true && true) && (((((true && ((Cn (.str z) && (true && (true && true))) && true)) && true)) && true) && true)) && true) = true
    rw [h]; decide
  · show (0 + 1 + (((1 + 1 + ((z.length + 1 + (0 + 1 + (0 + 1 + 0))) + 1 + 0)) + 1 + 0) + 1 + 0) + 1 + 0) + 1 + 0 ≤ 5000
    omega
  · exact Nat.le_trans (Nat.le_of_eq (show dp (.tup [.tup [.int 0, .tup [.tup [.tup [.str (Str.ofString "x"), .tup [.str z, .bl false, .bl false]]]]]]) = 6 from rfl)) (by decide)
theorem bounds {n u c : Nat} {st : Store} {Q : D → Store → Prop} (hU : UrnC st u c) (hq : ∀ k st', HB st u c 40 k st' → Q (.ref k) st') : WP (cf (n + 3) 28 [.ref u] st) Q := by
  obtain ⟨hu, hc⟩ := hU.lt
  refine call_wp (ft := f28) rfl rfl ?_
  unfold f28
  walk_at "z0"
  simp only [↓s_cons, ↓s_nil, ↓l_asg, ↓s_ret, ↓l_site, ↓s_exp, ↓s_pass, ↓w_non, ↓w_bl, ↓w_int, ↓w_str, ↓l_var, ↓l_con, ↓l_bin, ↓l_neg, ↓l_cmp, ↓l_chn, ↓w_isn, ↓w_notn, ↓w_and, ↓w_or, ↓l_not, ↓l_ite, ↓l_tup, ↓l_lst, ↓w_dct, ↓w_mutD, ↓mut_lst, ↓mut_dct, ↓l_idx, ↓l_slc, ↓nb_nul, ↓nb_int, ↓nb_var, ↓nb_con, ↓nb_bin, ↓nb_neg, ↓nb_idx, ↓nb_call, ↓nb_bi, ↓w_call, ↓l_bi, ↓l_bm, ↓l_isi, ↓w_evs, ↓w_evs0, ↓w_and0, ↓l_and1, ↓w_or0, ↓l_or1, ↓l_ssub, ↓s_whlD, ↓l_app, ↓WP_ok, ↓WS_nx, ↓WS_rt, ↓WP_bind, ↓WP_ofE, ↓WB_t, ↓WB_f, ↓WB_n, ↓WB_dec, ↓WB_all, ↓WB_any, ↓WB_lt, ↓WB_sub, ↓WB_emp, ↓WB_eqv, ↓WB_and, ↓WB_or, ↓SB_t, ↓SB_f, ↓SB_n, ↓SB_dec, ↓SB_all, ↓SB_any, ↓SB_lt, ↓SB_sub, ↓SB_emp, ↓SB_eqv, ↓SB_and, ↓SB_or, ↓EX_some, ↓EX_none, ↓EX_map, ↓EB_bl, ↓EI_int, ↓x_g0, ↓x_gs, ↓x_at0, ↓x_at1, ↓x_at2, ↓x_a0, ↓x_as, ↓x_atup2, ↓x_atup3, ↓x_mod_i, ↓x_bnd, ↓x_str_i, ↓x_str_b, ↓x_upper, ↓x_all, ↓x_any, ↓x_sum, ↓x_add_i, ↓x_sub_i, ↓x_mul_i, ↓x_div_i, ↓x_pow_i, ↓x_add_s, ↓x_add_t, ↓x_add_l, ↓x_mul_s, ↓x_mul_t, ↓x_mul_l, ↓x_lt_i, ↓x_le_i, ↓x_gt_i, ↓x_ge_i, ↓x_lt_s, ↓x_le_s, ↓x_eq_i, ↓x_ne_i, ↓x_eq_s, ↓x_ne_s, ↓x_eq_nil, ↓x_ne_nil, ↓x_in_s, ↓x_nin_s, ↓x_len_l, ↓x_len_t, ↓x_len_s, ↓x_tuple_l, ↓x_tuple_t, ↓x_list_t, ↓x_list_l, ↓x_list_s, ↓x_int_i, ↓x_int_b, ↓x_abs, ↓x_str_s, ↓x_slc_t, ↓x_slc_l, ↓x_slc_s, ↓x_idx_t, ↓x_idx_l, ↓x_isi_nb, ↓x_isi_ni, ↓x_isi_ns, ↓x_isi_nt, ↓x_isi_nl, ↓x_isi_nd, ↓x_isi_bb, ↓x_isi_bi, ↓x_isi_bs, ↓x_isi_bt, ↓x_isi_bl, ↓x_isi_bd, ↓x_isi_ib, ↓x_isi_ii, ↓x_isi_is, ↓x_isi_it, ↓x_isi_il, ↓x_isi_id, ↓x_isi_sb, ↓x_isi_si, ↓x_isi_ss, ↓x_isi_st, ↓x_isi_sl, ↓x_isi_sd, ↓x_isi_tb, ↓x_isi_ti, ↓x_isi_ts, ↓x_isi_tt, ↓x_isi_tl, ↓x_isi_td, ↓x_isi_lb, ↓x_isi_li, ↓x_isi_ls, ↓x_isi_lt, ↓x_isi_ll, ↓x_isi_ld, ↓x_isi_db, ↓x_isi_di, ↓x_isi_ds, ↓x_isi_dt, ↓x_isi_dl, ↓x_isi_dd, emp_flt, List.length_cons, List.length_nil, on_join, on_split, on_upper, on_count, on_rstrip, on_sindex, on_tindex, true_and, and_true, eq_self, Nat.reduceAdd, Nat.reduceLeDiff, Nat.zero_add, isI_n, isI_b, isI_i, isI_s, isI_t, isI_l, isI_d, isI_c, isI_r, isB_n, isB_b, isB_i, isB_s, isB_t, isB_l, isB_d, isB_c, isB_r, isS_n, isS_b, isS_i, isS_s, isS_t, isS_l, isS_d, isS_c, isS_r, isT_n, isT_b, isT_i, isT_s, isT_t, isT_l, isT_d, isT_c, isT_r, ↓x_con0, ↓x_con1, ↓x_con2, ↓x_con3, ↓x_con4, ↓x_con5, ↓x_con6, ↓x_con7, ↓WB_isI, ↓WB_isB, ↓WB_isS, ↓WB_isT, ↓SB_isI, ↓SB_isB, ↓SB_isS, ↓SB_isT, ↓wpk fun st => bounds1, ↓wpk fun st => bounds2]
  simp only [↓s_cons, ↓s_nil, ↓l_asg, ↓s_ret, ↓l_site, ↓s_exp, ↓s_pass, ↓w_non, ↓w_bl, ↓w_int, ↓w_str, ↓l_var, ↓l_con, ↓l_bin, ↓l_neg, ↓l_cmp, ↓l_chn, ↓w_isn, ↓w_notn, ↓w_and, ↓w_or, ↓l_not, ↓l_ite, ↓l_tup, ↓l_lst, ↓w_dct, ↓w_mutD, ↓mut_lst, ↓mut_dct, ↓l_idx, ↓l_slc, ↓nb_nul, ↓nb_int, ↓nb_var, ↓nb_con, ↓nb_bin, ↓nb_neg, ↓nb_idx, ↓nb_call, ↓nb_bi, ↓w_call, ↓l_bi, ↓l_bm, ↓l_isi, ↓w_evs, ↓w_evs0, ↓w_and0, ↓l_and1, ↓w_or0, ↓l_or1, ↓l_ssub, ↓s_whlD, ↓l_app, ↓WP_ok, ↓WS_nx, ↓WS_rt, ↓WP_bind, ↓WP_ofE, ↓WB_t, ↓WB_f, ↓WB_n, ↓WB_dec, ↓WB_all, ↓WB_any, ↓WB_lt, ↓WB_sub, ↓WB_emp, ↓WB_eqv, ↓WB_and, ↓WB_or, ↓SB_t, ↓SB_f, ↓SB_n, ↓SB_dec, ↓SB_all, ↓SB_any, ↓SB_lt, ↓SB_sub, ↓SB_emp, ↓SB_eqv, ↓SB_and, ↓SB_or, ↓EX_some, ↓EX_none, ↓EX_map, ↓EB_bl, ↓EI_int, ↓x_g0, ↓x_gs, ↓x_at0, ↓x_at1, ↓x_at2, ↓x_a0, ↓x_as, ↓x_atup2, ↓x_atup3, ↓x_mod_i, ↓x_bnd, ↓x_str_i, ↓x_str_b, ↓x_upper, ↓x_all, ↓x_any, ↓x_sum, ↓x_add_i, ↓x_sub_i, ↓x_mul_i, ↓x_div_i, ↓x_pow_i, ↓x_add_s, ↓x_add_t, ↓x_add_l, ↓x_mul_s, ↓x_mul_t, ↓x_mul_l, ↓x_lt_i, ↓x_le_i, ↓x_gt_i, ↓x_ge_i, ↓x_lt_s, ↓x_le_s, ↓x_eq_i, ↓x_ne_i, ↓x_eq_s, ↓x_ne_s, ↓x_eq_nil, ↓x_ne_nil, ↓x_in_s, ↓x_nin_s, ↓x_len_l, ↓x_len_t, ↓x_len_s, ↓x_tuple_l, ↓x_tuple_t, ↓x_list_t, ↓x_list_l, ↓x_list_s, ↓x_int_i, ↓x_int_b, ↓x_abs, ↓x_str_s, ↓x_slc_t, ↓x_slc_l, ↓x_slc_s, ↓x_idx_t, ↓x_idx_l, ↓x_isi_nb, ↓x_isi_ni, ↓x_isi_ns, ↓x_isi_nt, ↓x_isi_nl, ↓x_isi_nd, ↓x_isi_bb, ↓x_isi_bi, ↓x_isi_bs, ↓x_isi_bt, ↓x_isi_bl, ↓x_isi_bd, ↓x_isi_ib, ↓x_isi_ii, ↓x_isi_is, ↓x_isi_it, ↓x_isi_il, ↓x_isi_id, ↓x_isi_sb, ↓x_isi_si, ↓x_isi_ss, ↓x_isi_st, ↓x_isi_sl, ↓x_isi_sd, ↓x_isi_tb, ↓x_isi_ti, ↓x_isi_ts, ↓x_isi_tt, ↓x_isi_tl, ↓x_isi_td, ↓x_isi_lb, ↓x_isi_li, ↓x_isi_ls, ↓x_isi_lt, ↓x_isi_ll, ↓x_isi_ld, ↓x_isi_db, ↓x_isi_di, ↓x_isi_ds, ↓x_isi_dt, ↓x_isi_dl, ↓x_isi_dd, emp_flt, List.length_cons, List.length_nil, on_join, on_split, on_upper, on_count, on_rstrip, on_sindex, on_tindex, true_and, and_true, eq_self, Nat.reduceAdd, Nat.reduceLeDiff, Nat.zero_add, isI_n, isI_b, isI_i, isI_s, isI_t, isI_l, isI_d, isI_c, isI_r, isB_n, isB_b, isB_i, isB_s, isB_t, isB_l, isB_d, isB_c, isB_r, isS_n, isS_b, isS_i, isS_s, isS_t, isS_l, isS_d, isS_c, isS_r, isT_n, isT_b, isT_i, isT_s, isT_t, isT_l, isT_d, isT_c, isT_r, ↓x_con0, ↓x_con1, ↓x_con2, ↓x_con3, ↓x_con4, ↓x_con5, ↓x_con6, ↓x_con7, ↓WB_isI, ↓WB_isB, ↓WB_isS, ↓WB_isT, ↓SB_isI, ↓SB_isB, ↓SB_isS, ↓SB_isT, ↓wpk fun st => bounds3]
  have h0 : HB st u c 5 st.length (st ++ [.lst B0]) := ⟨hU.push, Nat.le_refl _, B0, by simp, by decide, b0_th⟩
  refine EX_imp (h0.push (m := 2) (es := B1) (by omega) (by decide) b1_th (by simp)) fun d ⟨ds, e, h1⟩ => ?_
  subst e
  have h1 : HB st u c 7 (st ++ [MO.lst B0]).length (st ++ [MO.lst B0] ++ [MO.lst ds]) := h1
  rw [mut_lst]
  refine s_forJ (fun m env s => ∃ N k x4 x5, env = [some (.ref u), some bare, some bold, some (.ref k), x4, x5, none, none, none] ∧ HB st u c N k s ∧ N + 3 * m = 19) (ds := [.tup [.int 40, .int 41, .int 491, .int 492]]) (evs_i1 (Is.eq (by unfold Is; simp only [↓s_cons, ↓s_nil, ↓l_asg, ↓s_ret, ↓l_site, ↓s_exp, ↓s_pass, ↓w_non, ↓w_bl, ↓w_int, ↓w_str, ↓l_var, ↓l_con, ↓l_bin, ↓l_neg, ↓l_cmp, ↓l_chn, ↓w_isn, ↓w_notn, ↓w_and, ↓w_or, ↓l_not, ↓l_ite, ↓l_tup, ↓l_lst, ↓w_dct, ↓w_mutD, ↓mut_lst, ↓mut_dct, ↓l_idx, ↓l_slc, ↓nb_nul, ↓nb_int, ↓nb_var, ↓nb_con, ↓nb_bin, ↓nb_neg, ↓nb_idx, ↓nb_call, ↓nb_bi, ↓w_call, ↓l_bi, ↓l_bm, ↓l_isi, ↓w_evs, ↓w_evs0, ↓w_and0, ↓l_and1, ↓w_or0, ↓l_or1, ↓l_ssub, ↓s_whlD, ↓l_app, ↓WP_ok, ↓WS_nx, ↓WS_rt, ↓WP_bind, ↓WP_ofE, ↓WB_t, ↓WB_f, ↓WB_n, ↓WB_dec, ↓WB_all, ↓WB_any, ↓WB_lt, ↓WB_sub, ↓WB_emp, ↓WB_eqv, ↓WB_and, ↓WB_or, ↓SB_t, ↓SB_f, ↓SB_n, ↓SB_dec, ↓SB_all, ↓SB_any, ↓SB_lt, ↓SB_sub, ↓SB_emp, ↓SB_eqv, ↓SB_and, ↓SB_or, ↓EX_some, ↓EX_none, ↓EX_map, ↓EB_bl, ↓EI_int, ↓x_g0, ↓x_gs, ↓x_at0, ↓x_at1, ↓x_at2, ↓x_a0, ↓x_as, ↓x_atup2, ↓x_atup3, ↓x_mod_i, ↓x_bnd, ↓x_str_i, ↓x_str_b, ↓x_upper, ↓x_all, ↓x_any, ↓x_sum, ↓x_add_i, ↓x_sub_i, ↓x_mul_i, ↓x_div_i, ↓x_pow_i, ↓x_add_s, ↓x_add_t, ↓x_add_l, ↓x_mul_s, ↓x_mul_t, ↓x_mul_l, ↓x_lt_i, ↓x_le_i, ↓x_gt_i, ↓x_ge_i, ↓x_lt_s, ↓x_le_s, ↓x_eq_i, ↓x_ne_i, ↓x_eq_s, ↓x_ne_s, ↓x_eq_nil, ↓x_ne_nil, ↓x_in_s, ↓x_nin_s, ↓x_len_l, ↓x_len_t, ↓x_len_s, ↓x_tuple_l, ↓x_tuple_t, ↓x_list_t, ↓x_list_l, ↓x_list_s, ↓x_int_i, ↓x_int_b, ↓x_abs, ↓x_str_s, ↓x_slc_t, ↓x_slc_l, ↓x_slc_s, ↓x_idx_t, ↓x_idx_l, ↓x_isi_nb, ↓x_isi_ni, ↓x_isi_ns, ↓x_isi_nt, ↓x_isi_nl, ↓x_isi_nd, ↓x_isi_bb, ↓x_isi_bi, ↓x_isi_bs, ↓x_isi_bt, ↓x_isi_bl, ↓x_isi_bd, ↓x_isi_ib, ↓x_isi_ii, ↓x_isi_is, ↓x_isi_it, ↓x_isi_il, ↓x_isi_id, ↓x_isi_sb, ↓x_isi_si, ↓x_isi_ss, ↓x_isi_st, ↓x_isi_sl, ↓x_isi_sd, ↓x_isi_tb, ↓x_isi_ti, ↓x_isi_ts, ↓x_isi_tt, ↓x_isi_tl, ↓x_isi_td, ↓x_isi_lb, ↓x_isi_li, ↓x_isi_ls, ↓x_isi_lt, ↓x_isi_ll, ↓x_isi_ld, ↓x_isi_db, ↓x_isi_di, ↓x_isi_ds, ↓x_isi_dt, ↓x_isi_dl, ↓x_isi_dd, emp_flt, List.length_cons, List.length_nil, on_join, on_split, on_upper, on_count, on_rstrip, on_sindex, on_tindex, true_and, and_true, eq_self, Nat.reduceAdd, Nat.reduceLeDiff, Nat.zero_add, isI_n, isI_b, isI_i, isI_s, isI_t, isI_l, isI_d, isI_c, isI_r, isB_n, isB_b, isB_i, isB_s, isB_t, isB_l, isB_d, isB_c, isB_r, isS_n, isS_b, isS_i, isS_s, isS_t, isS_l, isS_d, isS_c, isS_r, isT_n, isT_b, isT_i, isT_s, isT_t, isT_l, isT_d, isT_c, isT_r, ↓x_con0, ↓x_con1, ↓x_con2, ↓x_con3, ↓x_con4, ↓x_con5, ↓x_con6, ↓x_con7, ↓WB_isI, ↓WB_isB, ↓WB_isS, ↓WB_isT, ↓SB_isI, ↓SB_isB, ↓SB_isS, ↓SB_isT]))) rfl rfl ⟨7, _, none, none, rfl, h1, rfl⟩ ?_ ?_
  · rintro x hx m env s ⟨N, k, x4, x5, rfl, h, hN⟩
    have hx : ∃ j : Int, x = .int j ∧ 40 ≤ j ∧ j ≤ 492 := by
      simp only [List.mem_cons, List.not_mem_nil, or_false] at hx
      rcases hx with rfl | rfl | rfl | rfl <;> exact ⟨_, rfl, by decide, by decide⟩
    obtain ⟨j, rfl, hj0, hj1⟩ := hx
    have l1 : (Str.ofString "x").length = 1 := by decide
    simp only [↓s_cons, ↓s_nil, ↓l_asg, ↓s_ret, ↓l_site, ↓s_exp, ↓s_pass, ↓w_non, ↓w_bl, ↓w_int, ↓w_str, ↓l_var, ↓l_con, ↓l_bin, ↓l_neg, ↓l_cmp, ↓l_chn, ↓w_isn, ↓w_notn, ↓w_and, ↓w_or, ↓l_not, ↓l_ite, ↓l_tup, ↓l_lst, ↓w_dct, ↓w_mutD, ↓mut_lst, ↓mut_dct, ↓l_idx, ↓l_slc, ↓nb_nul, ↓nb_int, ↓nb_var, ↓nb_con, ↓nb_bin, ↓nb_neg, ↓nb_idx, ↓nb_call, ↓nb_bi, ↓w_call, ↓l_bi, ↓l_bm, ↓l_isi, ↓w_evs, ↓w_evs0, ↓w_and0, ↓l_and1, ↓w_or0, ↓l_or1, ↓l_ssub, ↓s_whlD, ↓l_app, ↓WP_ok, ↓WS_nx, ↓WS_rt, ↓WP_bind, ↓WP_ofE, ↓WB_t, ↓WB_f, ↓WB_n, ↓WB_dec, ↓WB_all, ↓WB_any, ↓WB_lt, ↓WB_sub, ↓WB_emp, ↓WB_eqv, ↓WB_and, ↓WB_or, ↓SB_t, ↓SB_f, ↓SB_n, ↓SB_dec, ↓SB_all, ↓SB_any, ↓SB_lt, ↓SB_sub, ↓SB_emp, ↓SB_eqv, ↓SB_and, ↓SB_or, ↓EX_some, ↓EX_none, ↓EX_map, ↓EB_bl, ↓EI_int, ↓x_g0, ↓x_gs, ↓x_at0, ↓x_at1, ↓x_at2, ↓x_a0, ↓x_as, ↓x_atup2, ↓x_atup3, ↓x_mod_i, ↓x_bnd, ↓x_str_i, ↓x_str_b, ↓x_upper, ↓x_all, ↓x_any, ↓x_sum, ↓x_add_i, ↓x_sub_i, ↓x_mul_i, ↓x_div_i, ↓x_pow_i, ↓x_add_s, ↓x_add_t, ↓x_add_l, ↓x_mul_s, ↓x_mul_t, ↓x_mul_l, ↓x_lt_i, ↓x_le_i, ↓x_gt_i, ↓x_ge_i, ↓x_lt_s, ↓x_le_s, ↓x_eq_i, ↓x_ne_i, ↓x_eq_s, ↓x_ne_s, ↓x_eq_nil, ↓x_ne_nil, ↓x_in_s, ↓x_nin_s, ↓x_len_l, ↓x_len_t, ↓x_len_s, ↓x_tuple_l, ↓x_tuple_t, ↓x_list_t, ↓x_list_l, ↓x_list_s, ↓x_int_i, ↓x_int_b, ↓x_abs, ↓x_str_s, ↓x_slc_t, ↓x_slc_l, ↓x_slc_s, ↓x_idx_t, ↓x_idx_l, ↓x_isi_nb, ↓x_isi_ni, ↓x_isi_ns, ↓x_isi_nt, ↓x_isi_nl, ↓x_isi_nd, ↓x_isi_bb, ↓x_isi_bi, ↓x_isi_bs, ↓x_isi_bt, ↓x_isi_bl, ↓x_isi_bd, ↓x_isi_ib, ↓x_isi_ii, ↓x_isi_is, ↓x_isi_it, ↓x_isi_il, ↓x_isi_id, ↓x_isi_sb, ↓x_isi_si, ↓x_isi_ss, ↓x_isi_st, ↓x_isi_sl, ↓x_isi_sd, ↓x_isi_tb, ↓x_isi_ti, ↓x_isi_ts, ↓x_isi_tt, ↓x_isi_tl, ↓x_isi_td, ↓x_isi_lb, ↓x_isi_li, ↓x_isi_ls, ↓x_isi_lt, ↓x_isi_ll, ↓x_isi_ld, ↓x_isi_db, ↓x_isi_di, ↓x_isi_ds, ↓x_isi_dt, ↓x_isi_dl, ↓x_isi_dd, emp_flt, List.length_cons, List.length_nil, on_join, on_split, on_upper, on_count, on_rstrip, on_sindex, on_tindex, true_and, and_true, eq_self, Nat.reduceAdd, Nat.reduceLeDiff, Nat.zero_add, isI_n, isI_b, isI_i, isI_s, isI_t, isI_l, isI_d, isI_c, isI_r, isB_n, isB_b, isB_i, isB_s, isB_t, isB_l, isB_d, isB_c, isB_r, isS_n, isS_b, isS_i, isS_s, isS_t, isS_l, isS_d, isS_c, isS_r, isT_n, isT_b, isT_i, isT_s, isT_t, isT_l, isT_d, isT_c, isT_r, ↓x_con0, ↓x_con1, ↓x_con2, ↓x_con3, ↓x_con4, ↓x_con5, ↓x_con6, ↓x_con7, ↓WB_isI, ↓WB_isB, ↓WB_isS, ↓WB_isT, ↓SB_isI, ↓SB_isB, ↓SB_isS, ↓SB_isT]
    rw [p31, l1]
    refine ⟨⟨by omega, by omega, by omega⟩, ?_⟩
    refine EX_imp (h.push (m := 3) (by omega) (by simp) (cellJ_th hj1) h.len) fun d ⟨ds, e, h2⟩ => ?_
    subst e
    rw [mut_lst]
    exact ⟨N + 3, _, _, _, rfl, h2, by omega⟩
  · rintro env s ⟨N, k, x4, x5, rfl, h, hN⟩
    refine s_forJ (fun m env s => ∃ N k x4 x5 x6, env = [some (.ref u), some bare, some bold, some (.ref k), x4, x5, x6, none, none] ∧ HB st u c N k s ∧ N + m = 22) (ds := [.tup [.int 30, .int 60, .int 199]]) (evs_i1 (Is.eq (by unfold Is; simp only [↓s_cons, ↓s_nil, ↓l_asg, ↓s_ret, ↓l_site, ↓s_exp, ↓s_pass, ↓w_non, ↓w_bl, ↓w_int, ↓w_str, ↓l_var, ↓l_con, ↓l_bin, ↓l_neg, ↓l_cmp, ↓l_chn, ↓w_isn, ↓w_notn, ↓w_and, ↓w_or, ↓l_not, ↓l_ite, ↓l_tup, ↓l_lst, ↓w_dct, ↓w_mutD, ↓mut_lst, ↓mut_dct, ↓l_idx, ↓l_slc, ↓nb_nul, ↓nb_int, ↓nb_var, ↓nb_con, ↓nb_bin, ↓nb_neg, ↓nb_idx, ↓nb_call, ↓nb_bi, ↓w_call, ↓l_bi, ↓l_bm, ↓l_isi, ↓w_evs, ↓w_evs0, ↓w_and0, ↓l_and1, ↓w_or0, ↓l_or1, ↓l_ssub, ↓s_whlD, ↓l_app, ↓WP_ok, ↓WS_nx, ↓WS_rt, ↓WP_bind, ↓WP_ofE, ↓WB_t, ↓WB_f, ↓WB_n, ↓WB_dec, ↓WB_all, ↓WB_any, ↓WB_lt, ↓WB_sub, ↓WB_emp, ↓WB_eqv, ↓WB_and, ↓WB_or, ↓SB_t, ↓SB_f, ↓SB_n, ↓SB_dec, ↓SB_all, ↓SB_any, ↓SB_lt, ↓SB_sub, ↓SB_emp, ↓SB_eqv, ↓SB_and, ↓SB_or, ↓EX_some, ↓EX_none, ↓EX_map, ↓EB_bl, ↓EI_int, ↓x_g0, ↓x_gs, ↓x_at0, ↓x_at1, ↓x_at2, ↓x_a0, ↓x_as, ↓x_atup2, ↓x_atup3, ↓x_mod_i, ↓x_bnd, ↓x_str_i, ↓x_str_b, ↓x_upper, ↓x_all, ↓x_any, ↓x_sum, ↓x_add_i, ↓x_sub_i, ↓x_mul_i, ↓x_div_i, ↓x_pow_i, ↓x_add_s, ↓x_add_t, ↓x_add_l, ↓x_mul_s, ↓x_mul_t, ↓x_mul_l, ↓x_lt_i, ↓x_le_i, ↓x_gt_i, ↓x_ge_i, ↓x_lt_s, ↓x_le_s, ↓x_eq_i, ↓x_ne_i, ↓x_eq_s, ↓x_ne_s, ↓x_eq_nil, ↓x_ne_nil, ↓x_in_s, ↓x_nin_s, ↓x_len_l, ↓x_len_t, ↓x_len_s, ↓x_tuple_l, ↓x_tuple_t, ↓x_list_t, ↓x_list_l, ↓x_list_s, ↓x_int_i, ↓x_int_b, ↓x_abs, ↓x_str_s, ↓x_slc_t, ↓x_slc_l, ↓x_slc_s, ↓x_idx_t, ↓x_idx_l, ↓x_isi_nb, ↓x_isi_ni, ↓x_isi_ns, ↓x_isi_nt, ↓x_isi_nl, ↓x_isi_nd, ↓x_isi_bb, ↓x_isi_bi, ↓x_isi_bs, ↓x_isi_bt, ↓x_isi_bl, ↓x_isi_bd, ↓x_isi_ib, ↓x_isi_ii, ↓x_isi_is, ↓x_isi_it, ↓x_isi_il, ↓x_isi_id, ↓x_isi_sb, ↓x_isi_si, ↓x_isi_ss, ↓x_isi_st, ↓x_isi_sl, ↓x_isi_sd, ↓x_isi_tb, ↓x_isi_ti, ↓x_isi_ts, ↓x_isi_tt, ↓x_isi_tl, ↓x_isi_td, ↓x_isi_lb, ↓x_isi_li, ↓x_isi_ls, ↓x_isi_lt, ↓x_isi_ll, ↓x_isi_ld, ↓x_isi_db, ↓x_isi_di, ↓x_isi_ds, ↓x_isi_dt, ↓x_isi_dl, ↓x_isi_dd, emp_flt, List.length_cons, List.length_nil, on_join, on_split, on_upper, on_count, on_rstrip, on_sindex, on_tindex, true_and, and_true, eq_self, Nat.reduceAdd, Nat.reduceLeDiff, Nat.zero_add, isI_n, isI_b, isI_i, isI_s, isI_t, isI_l, isI_d, isI_c, isI_r, isB_n, isB_b, isB_i, isB_s, isB_t, isB_l, isB_d, isB_c, isB_r, isS_n, isS_b, isS_i, isS_s, isS_t, isS_l, isS_d, isS_c, isS_r, isT_n, isT_b, isT_i, isT_s, isT_t, isT_l, isT_d, isT_c, isT_r, ↓x_con0, ↓x_con1, ↓x_con2, ↓x_con3, ↓x_con4, ↓x_con5, ↓x_con6, ↓x_con7, ↓WB_isI, ↓WB_isB, ↓WB_isS, ↓WB_isT, ↓SB_isI, ↓SB_isB, ↓SB_isS, ↓SB_isT]))) rfl rfl ⟨19, _, _, _, none, rfl, h.mono (by omega), rfl⟩ ?_ ?_
    · rintro x hx m env s ⟨N, k, x4, x5, x6, rfl, h, hN⟩
      have hx : ∃ j : Int, x = .int j ∧ 1 ≤ j ∧ j ≤ 200 := by
        simp only [List.mem_cons, List.not_mem_nil, or_false] at hx
        rcases hx with rfl | rfl | rfl <;> exact ⟨_, rfl, by decide, by decide⟩
      obtain ⟨j, rfl, hj0, hj1⟩ := hx
      simp only [↓s_cons, ↓s_nil, ↓l_asg, ↓s_ret, ↓l_site, ↓s_exp, ↓s_pass, ↓w_non, ↓w_bl, ↓w_int, ↓w_str, ↓l_var, ↓l_con, ↓l_bin, ↓l_neg, ↓l_cmp, ↓l_chn, ↓w_isn, ↓w_notn, ↓w_and, ↓w_or, ↓l_not, ↓l_ite, ↓l_tup, ↓l_lst, ↓w_dct, ↓w_mutD, ↓mut_lst, ↓mut_dct, ↓l_idx, ↓l_slc, ↓nb_nul, ↓nb_int, ↓nb_var, ↓nb_con, ↓nb_bin, ↓nb_neg, ↓nb_idx, ↓nb_call, ↓nb_bi, ↓w_call, ↓l_bi, ↓l_bm, ↓l_isi, ↓w_evs, ↓w_evs0, ↓w_and0, ↓l_and1, ↓w_or0, ↓l_or1, ↓l_ssub, ↓s_whlD, ↓l_app, ↓WP_ok, ↓WS_nx, ↓WS_rt, ↓WP_bind, ↓WP_ofE, ↓WB_t, ↓WB_f, ↓WB_n, ↓WB_dec, ↓WB_all, ↓WB_any, ↓WB_lt, ↓WB_sub, ↓WB_emp, ↓WB_eqv, ↓WB_and, ↓WB_or, ↓SB_t, ↓SB_f, ↓SB_n, ↓SB_dec, ↓SB_all, ↓SB_any, ↓SB_lt, ↓SB_sub, ↓SB_emp, ↓SB_eqv, ↓SB_and, ↓SB_or, ↓EX_some, ↓EX_none, ↓EX_map, ↓EB_bl, ↓EI_int, ↓x_g0, ↓x_gs, ↓x_at0, ↓x_at1, ↓x_at2, ↓x_a0, ↓x_as, ↓x_atup2, ↓x_atup3, ↓x_mod_i, ↓x_bnd, ↓x_str_i, ↓x_str_b, ↓x_upper, ↓x_all, ↓x_any, ↓x_sum, ↓x_add_i, ↓x_sub_i, ↓x_mul_i, ↓x_div_i, ↓x_pow_i, ↓x_add_s, ↓x_add_t, ↓x_add_l, ↓x_mul_s, ↓x_mul_t, ↓x_mul_l, ↓x_lt_i, ↓x_le_i, ↓x_gt_i, ↓x_ge_i, ↓x_lt_s, ↓x_le_s, ↓x_eq_i, ↓x_ne_i, ↓x_eq_s, ↓x_ne_s, ↓x_eq_nil, ↓x_ne_nil, ↓x_in_s, ↓x_nin_s, ↓x_len_l, ↓x_len_t, ↓x_len_s, ↓x_tuple_l, ↓x_tuple_t, ↓x_list_t, ↓x_list_l, ↓x_list_s, ↓x_int_i, ↓x_int_b, ↓x_abs, ↓x_str_s, ↓x_slc_t, ↓x_slc_l, ↓x_slc_s, ↓x_idx_t, ↓x_idx_l, ↓x_isi_nb, ↓x_isi_ni, ↓x_isi_ns, ↓x_isi_nt, ↓x_isi_nl, ↓x_isi_nd, ↓x_isi_bb, ↓x_isi_bi, ↓x_isi_bs, ↓x_isi_bt, ↓x_isi_bl, ↓x_isi_bd, ↓x_isi_ib, ↓x_isi_ii, ↓x_isi_is, ↓x_isi_it, ↓x_isi_il, ↓x_isi_id, ↓x_isi_sb, ↓x_isi_si, ↓x_isi_ss, ↓x_isi_st, ↓x_isi_sl, ↓x_isi_sd, ↓x_isi_tb, ↓x_isi_ti, ↓x_isi_ts, ↓x_isi_tt, ↓x_isi_tl, ↓x_isi_td, ↓x_isi_lb, ↓x_isi_li, ↓x_isi_ls, ↓x_isi_lt, ↓x_isi_ll, ↓x_isi_ld, ↓x_isi_db, ↓x_isi_di, ↓x_isi_ds, ↓x_isi_dt, ↓x_isi_dl, ↓x_isi_dd, emp_flt, List.length_cons, List.length_nil, on_join, on_split, on_upper, on_count, on_rstrip, on_sindex, on_tindex, true_and, and_true, eq_self, Nat.reduceAdd, Nat.reduceLeDiff, Nat.zero_add, isI_n, isI_b, isI_i, isI_s, isI_t, isI_l, isI_d, isI_c, isI_r, isB_n, isB_b, isB_i, isB_s, isB_t, isB_l, isB_d, isB_c, isB_r, isS_n, isS_b, isS_i, isS_s, isS_t, isS_l, isS_d, isS_c, isS_r, isT_n, isT_b, isT_i, isT_s, isT_t, isT_l, isT_d, isT_c, isT_r, ↓x_con0, ↓x_con1, ↓x_con2, ↓x_con3, ↓x_con4, ↓x_con5, ↓x_con6, ↓x_con7, ↓WB_isI, ↓WB_isB, ↓WB_isS, ↓WB_isT, ↓SB_isI, ↓SB_isB, ↓SB_isS, ↓SB_isT]
      refine upto ⟨c, h.1⟩ ⟨by omega, by omega⟩ fun r s1 r0 r1 hd => ?_
      simp only [↓s_cons, ↓s_nil, ↓l_asg, ↓s_ret, ↓l_site, ↓s_exp, ↓s_pass, ↓w_non, ↓w_bl, ↓w_int, ↓w_str, ↓l_var, ↓l_con, ↓l_bin, ↓l_neg, ↓l_cmp, ↓l_chn, ↓w_isn, ↓w_notn, ↓w_and, ↓w_or, ↓l_not, ↓l_ite, ↓l_tup, ↓l_lst, ↓w_dct, ↓w_mutD, ↓mut_lst, ↓mut_dct, ↓l_idx, ↓l_slc, ↓nb_nul, ↓nb_int, ↓nb_var, ↓nb_con, ↓nb_bin, ↓nb_neg, ↓nb_idx, ↓nb_call, ↓nb_bi, ↓w_call, ↓l_bi, ↓l_bm, ↓l_isi, ↓w_evs, ↓w_evs0, ↓w_and0, ↓l_and1, ↓w_or0, ↓l_or1, ↓l_ssub, ↓s_whlD, ↓l_app, ↓WP_ok, ↓WS_nx, ↓WS_rt, ↓WP_bind, ↓WP_ofE, ↓WB_t, ↓WB_f, ↓WB_n, ↓WB_dec, ↓WB_all, ↓WB_any, ↓WB_lt, ↓WB_sub, ↓WB_emp, ↓WB_eqv, ↓WB_and, ↓WB_or, ↓SB_t, ↓SB_f, ↓SB_n, ↓SB_dec, ↓SB_all, ↓SB_any, ↓SB_lt, ↓SB_sub, ↓SB_emp, ↓SB_eqv, ↓SB_and, ↓SB_or, ↓EX_some, ↓EX_none, ↓EX_map, ↓EB_bl, ↓EI_int, ↓x_g0, ↓x_gs, ↓x_at0, ↓x_at1, ↓x_at2, ↓x_a0, ↓x_as, ↓x_atup2, ↓x_atup3, ↓x_mod_i, ↓x_bnd, ↓x_str_i, ↓x_str_b, ↓x_upper, ↓x_all, ↓x_any, ↓x_sum, ↓x_add_i, ↓x_sub_i, ↓x_mul_i, ↓x_div_i, ↓x_pow_i, ↓x_add_s, ↓x_add_t, ↓x_add_l, ↓x_mul_s, ↓x_mul_t, ↓x_mul_l, ↓x_lt_i, ↓x_le_i, ↓x_gt_i, ↓x_ge_i, ↓x_lt_s, ↓x_le_s, ↓x_eq_i, ↓x_ne_i, ↓x_eq_s, ↓x_ne_s, ↓x_eq_nil, ↓x_ne_nil, ↓x_in_s, ↓x_nin_s, ↓x_len_l, ↓x_len_t, ↓x_len_s, ↓x_tuple_l, ↓x_tuple_t, ↓x_list_t, ↓x_list_l, ↓x_list_s, ↓x_int_i, ↓x_int_b, ↓x_abs, ↓x_str_s, ↓x_slc_t, ↓x_slc_l, ↓x_slc_s, ↓x_idx_t, ↓x_idx_l, ↓x_isi_nb, ↓x_isi_ni, ↓x_isi_ns, ↓x_isi_nt, ↓x_isi_nl, ↓x_isi_nd, ↓x_isi_bb, ↓x_isi_bi, ↓x_isi_bs, ↓x_isi_bt, ↓x_isi_bl, ↓x_isi_bd, ↓x_isi_ib, ↓x_isi_ii, ↓x_isi_is, ↓x_isi_it, ↓x_isi_il, ↓x_isi_id, ↓x_isi_sb, ↓x_isi_si, ↓x_isi_ss, ↓x_isi_st, ↓x_isi_sl, ↓x_isi_sd, ↓x_isi_tb, ↓x_isi_ti, ↓x_isi_ts, ↓x_isi_tt, ↓x_isi_tl, ↓x_isi_td, ↓x_isi_lb, ↓x_isi_li, ↓x_isi_ls, ↓x_isi_lt, ↓x_isi_ll, ↓x_isi_ld, ↓x_isi_db, ↓x_isi_di, ↓x_isi_ds, ↓x_isi_dt, ↓x_isi_dl, ↓x_isi_dd, emp_flt, List.length_cons, List.length_nil, on_join, on_split, on_upper, on_count, on_rstrip, on_sindex, on_tindex, true_and, and_true, eq_self, Nat.reduceAdd, Nat.reduceLeDiff, Nat.zero_add, isI_n, isI_b, isI_i, isI_s, isI_t, isI_l, isI_d, isI_c, isI_r, isB_n, isB_b, isB_i, isB_s, isB_t, isB_l, isB_d, isB_c, isB_r, isS_n, isS_b, isS_i, isS_s, isS_t, isS_l, isS_d, isS_c, isS_r, isT_n, isT_b, isT_i, isT_s, isT_t, isT_l, isT_d, isT_c, isT_r, ↓x_con0, ↓x_con1, ↓x_con2, ↓x_con3, ↓x_con4, ↓x_con5, ↓x_con6, ↓x_con7, ↓WB_isI, ↓WB_isB, ↓WB_isS, ↓WB_isT, ↓SB_isI, ↓SB_isB, ↓SB_isS, ↓SB_isT]
      rw [p31]
      have h := h.drawn hu hd
      refine ⟨h.isl, ⟨by omega, by omega, by omega⟩, ?_, ⟨by omega, by omega, by omega⟩, ?_, ?_⟩
      · rw [rep_len]; omega
      · rw [List.length_append, rep_len, rep_len]
        show r.toNat + 1 + _ ≤ _
        omega
      · exact EX_imp (h.app (by omega) hu hc (mid_th r0 r1 hj1)) fun s2 ⟨h2, h3⟩ => ⟨N + 1, _, _, _, _, rfl, h2, by omega⟩
    · rintro env s ⟨N, k, x4, x5, x6, rfl, h, hN⟩
      refine s_forJ (fun m env s => ∃ N x7, env = [some (.ref u), some bare, some bold, some (.ref k), x4, x5, x6, x7, none] ∧ HB st u c N k s ∧ N + m = 28) (ds := [.tup [.str (strMul (Str.ofString "a") 12), .str (strMul (Str.ofString "a") 13), .str (Str.ofString "A"), .str (Str.ofString "a-b"), .str (Str.ofString " "), .str (Str.ofString "0")]])
        (evs_i1 (Is.eq (by unfold Is; simp only [↓s_cons, ↓s_nil, ↓l_asg, ↓s_ret, ↓l_site, ↓s_exp, ↓s_pass, ↓w_non, ↓w_bl, ↓w_int, ↓w_str, ↓l_var, ↓l_con, ↓l_bin, ↓l_neg, ↓l_cmp, ↓l_chn, ↓w_isn, ↓w_notn, ↓w_and, ↓w_or, ↓l_not, ↓l_ite, ↓l_tup, ↓l_lst, ↓w_dct, ↓w_mutD, ↓mut_lst, ↓mut_dct, ↓l_idx, ↓l_slc, ↓nb_nul, ↓nb_int, ↓nb_var, ↓nb_con, ↓nb_bin, ↓nb_neg, ↓nb_idx, ↓nb_call, ↓nb_bi, ↓w_call, ↓l_bi, ↓l_bm, ↓l_isi, ↓w_evs, ↓w_evs0, ↓w_and0, ↓l_and1, ↓w_or0, ↓l_or1, ↓l_ssub, ↓s_whlD, ↓l_app, ↓WP_ok, ↓WS_nx, ↓WS_rt, ↓WP_bind, ↓WP_ofE, ↓WB_t, ↓WB_f, ↓WB_n, ↓WB_dec, ↓WB_all, ↓WB_any, ↓WB_lt, ↓WB_sub, ↓WB_emp, ↓WB_eqv, ↓WB_and, ↓WB_or, ↓SB_t, ↓SB_f, ↓SB_n, ↓SB_dec, ↓SB_all, ↓SB_any, ↓SB_lt, ↓SB_sub, ↓SB_emp, ↓SB_eqv, ↓SB_and, ↓SB_or, ↓EX_some, ↓EX_none, ↓EX_map, ↓EB_bl, ↓EI_int, ↓x_g0, ↓x_gs, ↓x_at0, ↓x_at1, ↓x_at2, ↓x_a0, ↓x_as, ↓x_atup2, ↓x_atup3, ↓x_mod_i, ↓x_bnd, ↓x_str_i, ↓x_str_b, ↓x_upper, ↓x_all, ↓x_any, ↓x_sum, ↓x_add_i, ↓x_sub_i, ↓x_mul_i, ↓x_div_i, ↓x_pow_i, ↓x_add_s, ↓x_add_t, ↓x_add_l, ↓x_mul_s, ↓x_mul_t, ↓x_mul_l, ↓x_lt_i, ↓x_le_i, ↓x_gt_i, ↓x_ge_i, ↓x_lt_s, ↓x_le_s, ↓x_eq_i, ↓x_ne_i, ↓x_eq_s, ↓x_ne_s, ↓x_eq_nil, ↓x_ne_nil, ↓x_in_s, ↓x_nin_s, ↓x_len_l, ↓x_len_t, ↓x_len_s, ↓x_tuple_l, ↓x_tuple_t, ↓x_list_t, ↓x_list_l, ↓x_list_s, ↓x_int_i, ↓x_int_b, ↓x_abs, ↓x_str_s, ↓x_slc_t, ↓x_slc_l, ↓x_slc_s, ↓x_idx_t, ↓x_idx_l, ↓x_isi_nb, ↓x_isi_ni, ↓x_isi_ns, ↓x_isi_nt, ↓x_isi_nl, ↓x_isi_nd, ↓x_isi_bb, ↓x_isi_bi, ↓x_isi_bs, ↓x_isi_bt, ↓x_isi_bl, ↓x_isi_bd, ↓x_isi_ib, ↓x_isi_ii, ↓x_isi_is, ↓x_isi_it, ↓x_isi_il, ↓x_isi_id, ↓x_isi_sb, ↓x_isi_si, ↓x_isi_ss, ↓x_isi_st, ↓x_isi_sl, ↓x_isi_sd, ↓x_isi_tb, ↓x_isi_ti, ↓x_isi_ts, ↓x_isi_tt, ↓x_isi_tl, ↓x_isi_td, ↓x_isi_lb, ↓x_isi_li, ↓x_isi_ls, ↓x_isi_lt, ↓x_isi_ll, ↓x_isi_ld, ↓x_isi_db, ↓x_isi_di, ↓x_isi_ds, ↓x_isi_dt, ↓x_isi_dl, ↓x_isi_dd, emp_flt, List.length_cons, List.length_nil, on_join, on_split, on_upper, on_count, on_rstrip, on_sindex, on_tindex, true_and, and_true, eq_self, Nat.reduceAdd, Nat.reduceLeDiff, Nat.zero_add, isI_n, isI_b, isI_i, isI_s, isI_t, isI_l, isI_d, isI_c, isI_r, isB_n, isB_b, isB_i, isB_s, isB_t, isB_l, isB_d, isB_c, isB_r, isS_n, isS_b, isS_i, isS_s, isS_t, isS_l, isS_d, isS_c, isS_r, isT_n, isT_b, isT_i, isT_s, isT_t, isT_l, isT_d, isT_c, isT_r, ↓x_con0, ↓x_con1, ↓x_con2, ↓x_con3, ↓x_con4, ↓x_con5, ↓x_con6, ↓x_con7, ↓WB_isI, ↓WB_isB, ↓WB_isS, ↓WB_isT, ↓SB_isI, ↓SB_isB, ↓SB_isS, ↓SB_isT]; decide))) rfl rfl ⟨22, none, rfl, h.mono (by omega), rfl⟩ ?_ ?_
      · rintro x hx m env s ⟨N, x7, rfl, h, hN⟩
        have hx : ∃ z : Str, x = .str z ∧ Cn (.str z) = true ∧ z.length ≤ 20 := by
          simp only [List.mem_cons, List.not_mem_nil, or_false] at hx
          rcases hx with rfl | rfl | rfl | rfl | rfl | rfl <;> exact ⟨_, rfl, by decide, by decide⟩
        obtain ⟨z, rfl, hz0, hz1⟩ := hx
        simp only [↓s_cons, ↓s_nil, ↓l_asg, ↓s_ret, ↓l_site, ↓s_exp, ↓s_pass, ↓w_non, ↓w_bl, ↓w_int, ↓w_str, ↓l_var, ↓l_con, ↓l_bin, ↓l_neg, ↓l_cmp, ↓l_chn, ↓w_isn, ↓w_notn, ↓w_and, ↓w_or, ↓l_not, ↓l_ite, ↓l_tup, ↓l_lst, ↓w_dct, ↓w_mutD, ↓mut_lst, ↓mut_dct, ↓l_idx, ↓l_slc, ↓nb_nul, ↓nb_int, ↓nb_var, ↓nb_con, ↓nb_bin, ↓nb_neg, ↓nb_idx, ↓nb_call, ↓nb_bi, ↓w_call, ↓l_bi, ↓l_bm, ↓l_isi, ↓w_evs, ↓w_evs0, ↓w_and0, ↓l_and1, ↓w_or0, ↓l_or1, ↓l_ssub, ↓s_whlD, ↓l_app, ↓WP_ok, ↓WS_nx, ↓WS_rt, ↓WP_bind, ↓WP_ofE, ↓WB_t, ↓WB_f, ↓WB_n, ↓WB_dec, ↓WB_all, ↓WB_any, ↓WB_lt, ↓WB_sub, ↓WB_emp, ↓WB_eqv, ↓WB_and, ↓WB_or, ↓SB_t, ↓SB_f, ↓SB_n, ↓SB_dec, ↓SB_all, ↓SB_any, ↓SB_lt, ↓SB_sub, ↓SB_emp, ↓SB_eqv, ↓SB_and, ↓SB_or, ↓EX_some, ↓EX_none, ↓EX_map, ↓EB_bl, ↓EI_int, ↓x_g0, ↓x_gs, ↓x_at0, ↓x_at1, ↓x_at2, ↓x_a0, ↓x_as, ↓x_atup2, ↓x_atup3, ↓x_mod_i, ↓x_bnd, ↓x_str_i, ↓x_str_b, ↓x_upper, ↓x_all, ↓x_any, ↓x_sum, ↓x_add_i, ↓x_sub_i, ↓x_mul_i, ↓x_div_i, ↓x_pow_i, ↓x_add_s, ↓x_add_t, ↓x_add_l, ↓x_mul_s, ↓x_mul_t, ↓x_mul_l, ↓x_lt_i, ↓x_le_i, ↓x_gt_i, ↓x_ge_i, ↓x_lt_s, ↓x_le_s, ↓x_eq_i, ↓x_ne_i, ↓x_eq_s, ↓x_ne_s, ↓x_eq_nil, ↓x_ne_nil, ↓x_in_s, ↓x_nin_s, ↓x_len_l, ↓x_len_t, ↓x_len_s, ↓x_tuple_l, ↓x_tuple_t, ↓x_list_t, ↓x_list_l, ↓x_list_s, ↓x_int_i, ↓x_int_b, ↓x_abs, ↓x_str_s, ↓x_slc_t, ↓x_slc_l, ↓x_slc_s, ↓x_idx_t, ↓x_idx_l, ↓x_isi_nb, ↓x_isi_ni, ↓x_isi_ns, ↓x_isi_nt, ↓x_isi_nl, ↓x_isi_nd, ↓x_isi_bb, ↓x_isi_bi, ↓x_isi_bs, ↓x_isi_bt, ↓x_isi_bl, ↓x_isi_bd, ↓x_isi_ib, ↓x_isi_ii, ↓x_isi_is, ↓x_isi_it, ↓x_isi_il, ↓x_isi_id, ↓x_isi_sb, ↓x_isi_si, ↓x_isi_ss, ↓x_isi_st, ↓x_isi_sl, ↓x_isi_sd, ↓x_isi_tb, ↓x_isi_ti, ↓x_isi_ts, ↓x_isi_tt, ↓x_isi_tl, ↓x_isi_td, ↓x_isi_lb, ↓x_isi_li, ↓x_isi_ls, ↓x_isi_lt, ↓x_isi_ll, ↓x_isi_ld, ↓x_isi_db, ↓x_isi_di, ↓x_isi_ds, ↓x_isi_dt, ↓x_isi_dl, ↓x_isi_dd, emp_flt, List.length_cons, List.length_nil, on_join, on_split, on_upper, on_count, on_rstrip, on_sindex, on_tindex, true_and, and_true, eq_self, Nat.reduceAdd, Nat.reduceLeDiff, Nat.zero_add, isI_n, isI_b, isI_i, isI_s, isI_t, isI_l, isI_d, isI_c, isI_r, isB_n, isB_b, isB_i, isB_s, isB_t, isB_l, isB_d, isB_c, isB_r, isS_n, isS_b, isS_i, isS_s, isS_t, isS_l, isS_d, isS_c, isS_r, isT_n, isT_b, isT_i, isT_s, isT_t, isT_l, isT_d, isT_c, isT_r, ↓x_con0, ↓x_con1, ↓x_con2, ↓x_con3, ↓x_con4, ↓x_con5, ↓x_con6, ↓x_con7, ↓WB_isI, ↓WB_isB, ↓WB_isS, ↓WB_isT, ↓SB_isI, ↓SB_isB, ↓SB_isS, ↓SB_isT]
        exact ⟨h.isl, EX_imp (h.app (by omega) hu hc (link_th hz0 hz1)) fun s2 ⟨h2, h3⟩ => ⟨N + 1, _, rfl, h2, by omega⟩⟩
      · rintro env s ⟨N, x7, rfl, h, hN⟩
        simp only [↓s_cons, ↓s_nil, ↓l_asg, ↓s_ret, ↓l_site, ↓s_exp, ↓s_pass, ↓w_non, ↓w_bl, ↓w_int, ↓w_str, ↓l_var, ↓l_con, ↓l_bin, ↓l_neg, ↓l_cmp, ↓l_chn, ↓w_isn, ↓w_notn, ↓w_and, ↓w_or, ↓l_not, ↓l_ite, ↓l_tup, ↓l_lst, ↓w_dct, ↓w_mutD, ↓mut_lst, ↓mut_dct, ↓l_idx, ↓l_slc, ↓nb_nul, ↓nb_int, ↓nb_var, ↓nb_con, ↓nb_bin, ↓nb_neg, ↓nb_idx, ↓nb_call, ↓nb_bi, ↓w_call, ↓l_bi, ↓l_bm, ↓l_isi, ↓w_evs, ↓w_evs0, ↓w_and0, ↓l_and1, ↓w_or0, ↓l_or1, ↓l_ssub, ↓s_whlD, ↓l_app, ↓WP_ok, ↓WS_nx, ↓WS_rt, ↓WP_bind, ↓WP_ofE, ↓WB_t, ↓WB_f, ↓WB_n, ↓WB_dec, ↓WB_all, ↓WB_any, ↓WB_lt, ↓WB_sub, ↓WB_emp, ↓WB_eqv, ↓WB_and, ↓WB_or, ↓SB_t, ↓SB_f, ↓SB_n, ↓SB_dec, ↓SB_all, ↓SB_any, ↓SB_lt, ↓SB_sub, ↓SB_emp, ↓SB_eqv, ↓SB_and, ↓SB_or, ↓EX_some, ↓EX_none, ↓EX_map, ↓EB_bl, ↓EI_int, ↓x_g0, ↓x_gs, ↓x_at0, ↓x_at1, ↓x_at2, ↓x_a0, ↓x_as, ↓x_atup2, ↓x_atup3, ↓x_mod_i, ↓x_bnd, ↓x_str_i, ↓x_str_b, ↓x_upper, ↓x_all, ↓x_any, ↓x_sum, ↓x_add_i, ↓x_sub_i, ↓x_mul_i, ↓x_div_i, ↓x_pow_i, ↓x_add_s, ↓x_add_t, ↓x_add_l, ↓x_mul_s, ↓x_mul_t, ↓x_mul_l, ↓x_lt_i, ↓x_le_i, ↓x_gt_i, ↓x_ge_i, ↓x_lt_s, ↓x_le_s, ↓x_eq_i, ↓x_ne_i, ↓x_eq_s, ↓x_ne_s, ↓x_eq_nil, ↓x_ne_nil, ↓x_in_s, ↓x_nin_s, ↓x_len_l, ↓x_len_t, ↓x_len_s, ↓x_tuple_l, ↓x_tuple_t, ↓x_list_t, ↓x_list_l, ↓x_list_s, ↓x_int_i, ↓x_int_b, ↓x_abs, ↓x_str_s, ↓x_slc_t, ↓x_slc_l, ↓x_slc_s, ↓x_idx_t, ↓x_idx_l, ↓x_isi_nb, ↓x_isi_ni, ↓x_isi_ns, ↓x_isi_nt, ↓x_isi_nl, ↓x_isi_nd, ↓x_isi_bb, ↓x_isi_bi, ↓x_isi_bs, ↓x_isi_bt, ↓x_isi_bl, ↓x_isi_bd, ↓x_isi_ib, ↓x_isi_ii, ↓x_isi_is, ↓x_isi_it, ↓x_isi_il, ↓x_isi_id, ↓x_isi_sb, ↓x_isi_si, ↓x_isi_ss, ↓x_isi_st, ↓x_isi_sl, ↓x_isi_sd, ↓x_isi_tb, ↓x_isi_ti, ↓x_isi_ts, ↓x_isi_tt, ↓x_isi_tl, ↓x_isi_td, ↓x_isi_lb, ↓x_isi_li, ↓x_isi_ls, ↓x_isi_lt, ↓x_isi_ll, ↓x_isi_ld, ↓x_isi_db, ↓x_isi_di, ↓x_isi_ds, ↓x_isi_dt, ↓x_isi_dl, ↓x_isi_dd, emp_flt, List.length_cons, List.length_nil, on_join, on_split, on_upper, on_count, on_rstrip, on_sindex, on_tindex, true_and, and_true, eq_self, Nat.reduceAdd, Nat.reduceLeDiff, Nat.zero_add, isI_n, isI_b, isI_i, isI_s, isI_t, isI_l, isI_d, isI_c, isI_r, isB_n, isB_b, isB_i, isB_s, isB_t, isB_l, isB_d, isB_c, isB_r, isS_n, isS_b, isS_i, isS_s, isS_t, isS_l, isS_d, isS_c, isS_r, isT_n, isT_b, isT_i, isT_s, isT_t, isT_l, isT_d, isT_c, isT_r, ↓x_con0, ↓x_con1, ↓x_con2, ↓x_con3, ↓x_con4, ↓x_con5, ↓x_con6, ↓x_con7, ↓WB_isI, ↓WB_isB, ↓WB_isS, ↓WB_isT, ↓SB_isI, ↓SB_isB, ↓SB_isS, ↓SB_isT]
        rw [gc_keep h.2.1]
        exact hq k s (h.mono (by omega))
end Law
end Cip

set_option maxHeartbeats 4000000
namespace Cip
open PySem
local macro_rules | `(tactic| walk_at "cip") => `(tactic| simp only [s_cons, s_nil, s_asg, s_ret, s_ite, s_exp, s_pass, w_non, w_bl, w_int, w_str, w_var, w_con, w_bin, w_neg, w_cmp, w_isn, w_notn, w_and, w_or, w_not, w_ite, w_tup, w_lst, w_idx, w_call, s_ssubD, s_forD, s_whlD, w_mutD, w_appD, mut_lst, asg_tup2, asg_tup3, int_i, len_l, len_t, len_s, idx_l, idx_t, tuple_l, w_bi, w_isi, w_evs, w_evs0, w_and0, w_and1, w_or0, w_or1, asg_nm, ex_some, ex_var, ex_int, ex_bl, startE, List.length_cons, List.length_nil, List.map_cons, List.map_nil, List.getElem?_cons_zero, List.getElem?_cons_succ, List.set_cons_zero, List.set_cons_succ, List.cons_append, List.nil_append, List.replicate, ex_ite, b_add_i, b_sub_i, b_mul_i, b_mod_i, b_div_i, b_pow_i, b_add_s, b_add_t, b_add_l, b_mul_s, b_mul_t, b_mul_l, c_lt_i, c_le_i, c_gt_i, c_ge_i, c_lt_s, c_le_s, c_eq_i, c_ne_i, c_eq_s, c_ne_s, WP_ok, WS_nx, WS_rt, true_and, and_true])
local macro_rules | `(tactic| walk_at "cip2") => `(tactic| simp only [s_cons, s_nil, s_asg, s_ret, s_ite, s_exp, s_pass, w_non, w_bl, w_int, w_str, w_var, w_con, w_bin, w_neg, w_cmp, w_isn, w_notn, w_and, w_or, w_not, w_ite, w_tup, w_lst, w_idx, w_call, s_ssubD, s_forD, s_whlD, w_mutD, w_appD, mut_lst, asg_tup2, asg_tup3, int_i, len_l, len_t, len_s, idx_l, idx_t, tuple_l, w_bi, w_isi, w_evs, w_evs0, w_and0, w_and1, w_or0, w_or1, asg_nm, ex_some, ex_var, ex_int, ex_bl, startE, List.length_cons, List.length_nil, List.map_cons, List.map_nil, List.getElem?_cons_zero, List.getElem?_cons_succ, List.set_cons_zero, List.set_cons_succ, List.cons_append, List.nil_append, List.replicate, ex_ite, b_add_i, b_sub_i, b_mul_i, b_mod_i, b_div_i, b_pow_i, b_add_s, b_add_t, b_add_l, b_mul_s, b_mul_t, b_mul_l, c_lt_i, c_le_i, c_gt_i, c_ge_i, c_lt_s, c_le_s, c_eq_i, c_ne_i, c_eq_s, c_ne_s, WP_ok, WS_nx, WS_rt, true_and, and_true, w_slc, E.nulB, eq_self, if_true, if_false, Bool.false_eq_true, WP_bind, WP_of, bnd_int, Bool.not_true, Bool.not_false])
local macro_rules | `(tactic| walk_at "cip3") => `(tactic| simp only [s_cons, s_nil, s_asg, s_ret, s_ite, s_exp, s_pass, w_non, w_bl, w_int, w_str, w_var, w_con, w_bin, w_neg, w_cmp, w_isn, w_notn, w_and, w_or, w_not, w_ite, w_tup, w_lst, w_idx, w_call, s_ssubD, s_forD, s_whlD, w_mutD, w_appD, mut_lst, asg_tup2, asg_tup3, int_i, len_l, len_t, len_s, idx_l, idx_t, tuple_l, w_bi, w_isi, w_evs, w_evs0, w_and0, w_and1, w_or0, w_or1, asg_nm, ex_some, ex_var, ex_int, ex_bl, startE, List.length_cons, List.length_nil, List.map_cons, List.map_nil, List.getElem?_cons_zero, List.getElem?_cons_succ, List.set_cons_zero, List.set_cons_succ, List.cons_append, List.nil_append, List.replicate, ex_ite, b_add_i, b_sub_i, b_mul_i, b_mod_i, b_div_i, b_pow_i, b_add_s, b_add_t, b_add_l, b_mul_s, b_mul_t, b_mul_l, c_lt_i, c_le_i, c_gt_i, c_ge_i, c_lt_s, c_le_s, c_eq_i, c_ne_i, c_eq_s, c_ne_s, WP_ok, WS_nx, WS_rt, true_and, and_true, w_slc, E.nulB, eq_self, if_true, if_false, Bool.false_eq_true, WP_bind, WP_of, bnd_int, Bool.not_true, Bool.not_false, w_chn])
local macro_rules | `(tactic| walk_at "z0") => `(tactic| simp only [startE, List.map_cons, List.map_nil, List.length_cons, List.length_nil, Nat.reduceAdd, Nat.reduceSub, List.replicate, List.cons_append, List.nil_append])
local macro_rules | `(tactic| walk_at "zx") => `(tactic| simp only [wipeE, List.set_cons_zero, List.set_cons_succ, ↓x_a0, ↓x_as, ↓x_atup2, ↓x_atup3])
namespace Law
/-! M15: contents are small; equal; all characters. -/
def okP (cs : List Nat) (p : Pc) : Prop := (∀ c ∈ p.1.cps.toList, c ∈ cs) ∧ p.2.l ∈ links
theorem step_ok {cs : List Nat} {acc : List Pc} {p : Pc} (ha : ∀ q ∈ acc, okP cs q) (hp : okP cs p) : ∀ q ∈ joinStep acc p, okP cs q := by
  unfold joinStep
  split
  · exact ha
  · cases h : acc.getLast? with
    | none =>
      simp only
      intro q hq
      rw [List.mem_singleton.mp hq]
      exact hp
    | some q =>
      simp only
      have hq : q ∈ acc := List.mem_of_getLast? h
      split
      · intro r hr
        rcases List.mem_append.mp hr with hr | hr
        · exact ha r ((List.dropLast_sublist _).mem hr)
        · rw [List.mem_singleton.mp hr]
          refine ⟨fun c hc => ?_, hp.2⟩
          have hc : c ∈ (q.1 ++ p.1).cps.toList := hc
          rw [PySem.Str.cps_append, Array.toList_append] at hc
          exact (List.mem_append.mp hc).elim ((ha q hq).1 c) (hp.1 c)
      · intro r hr
        rcases List.mem_append.mp hr with hr | hr
        · exact ha r hr
        · rw [List.mem_singleton.mp hr]; exact hp
theorem fold_ok {cs : List Nat} : ∀ (ps acc : List Pc), (∀ q ∈ acc, okP cs q) → (∀ p ∈ ps, okP cs p) → (∀ q ∈ ps.foldl joinStep acc, okP cs q) ∧ tot (ps.foldl joinStep acc) = tot acc + tot ps ∧ (ps.foldl joinStep acc).length ≤ acc.length + ps.length
  | [], acc, ha, _ => ⟨ha, by simp [tot], Nat.le_refl _⟩
  | p :: ps, acc, ha, hp => by
    obtain ⟨t1, t2⟩ := joinStep_tot acc p
    obtain ⟨h1, h2, h3⟩ := fold_ok ps (joinStep acc p) (step_ok ha (hp p (by simp))) fun q hq => hp q (List.mem_cons_of_mem _ hq)
    refine ⟨h1, ?_, ?_⟩
    · rw [List.foldl_cons, h2, t1]
      have : tot (p :: ps) = p.1.length + tot ps := by unfold tot; simp
      omega
    · rw [List.foldl_cons]
      simp only [List.length_cons]
      omega
theorem tot_len : ∀ ps : List Pc, (∀ p ∈ ps, p.1 ≠ "") → ps.length ≤ tot ps
  | [], _ => Nat.zero_le _
  | p :: ps, h => by
    have h1 := tot_len ps fun q hq => h q (List.mem_cons_of_mem _ hq)
    have e : tot (p :: ps) = p.1.length + tot ps := by unfold tot; simp
    have h2 : p.1.length ≠ 0 := fun h0 => h p (by simp) (PySem.Str.ext' (by
      have : p.1.cps.size = 0 := h0
      rw [Array.eq_empty_of_size_eq_zero this] <;> decide))
    simp only [List.length_cons]
    omega
theorem link_ok {l : Str} (h : l ∈ links) : Cn (.str l) = true ∧ l.length ≤ 12 := by
  have hl : l = "" ∨ l = "w" ∨ l = "w1" ∨ l = "abcdefghijk9" := by
    have h : l ∈ [("" : Str), "w", "w1", "abcdefghijk9"] := h
    simpa using h
  rcases hl with rfl | rfl | rfl | rfl <;> exact ⟨by decide, by decide⟩
theorem pc_ok {cs : List Nat} (hcs : ∀ c ∈ cs, c < 128) {p : Pc} (h : okP cs p) : Cn (pcD p) = true ∧ bk (pcD p) ≤ p.1.length + 17 ∧ dp (pcD p) = 2 := by
  obtain ⟨h1, h2⟩ := h
  obtain ⟨g1, g2⟩ := link_ok h2
  refine ⟨?_, ?_, rfl⟩
  · have e : Cn (.str p.1) = true := List.all_eq_true.mpr fun c hc => decide_eq_true (hcs c (h1 c hc))
    show (Cn (.str p.1) && ((Cn (.str p.2.l) && (true && (true && true))) && true)) = true
    rw [e, g1]
    decide
  · show p.1.length + 1 + ((p.2.l.length + 1 + (0 + 1 + (0 + 1 + 0))) + 1 + 0) ≤ _
    omega
theorem cell_ok {cs : List Nat} (hcs : ∀ c ∈ cs, c < 128) {m : Nat} {c : List Pc} (h : okCell cs m c) : Cn (cellD c) = true ∧ bk (cellD c) ≤ 19 * m ∧ dp (cellD c) ≤ 3 := by
  obtain ⟨ps, h1, h2, rfl⟩ := h
  obtain ⟨f1, f2, f3⟩ := fold_ok (cs := cs) ps [] (fun _ h => (List.not_mem_nil h).elim) fun p hp => ⟨(h1 p hp).2.1, (h1 p hp).2.2⟩
  have f4 := tot_len ps fun p hp => (h1 p hp).1
  have f1 : ∀ q ∈ joinP ps, okP cs q := f1
  have f2 : tot (joinP ps) = tot [] + tot ps := f2
  have f3 : (joinP ps).length ≤ 0 + ps.length := f3
  have f0 : tot [] = 0 := rfl
  have key : ∀ qs : List Pc, (∀ q ∈ qs, okP cs q) → bks (qs.map pcD) ≤ tot qs + 18 * qs.length := fun qs => by
    induction qs with
    | nil => exact fun _ => Nat.zero_le _
    | cons q qs ih =>
      intro h
      have := ih fun r hr => h r (List.mem_cons_of_mem _ hr)
      have := (pc_ok hcs (h q (by simp))).2.1
      have e : tot (q :: qs) = q.1.length + tot qs := by unfold tot; simp
      show bk (pcD q) + 1 + bks (qs.map pcD) ≤ _
      simp only [List.length_cons]
      omega
  refine ⟨?_, ?_, ?_⟩
  · show Cns ((joinP ps).map pcD) = true
    refine Cns_all.mpr fun x hx => ?_
    obtain ⟨q, hq, rfl⟩ := List.mem_map.mp hx
    exact (pc_ok hcs (f1 q hq)).1
  · show bks ((joinP ps).map pcD) ≤ _
    have := key (joinP ps) f1
    omega
  · show dps ((joinP ps).map pcD) + 1 ≤ 3
    have : dps ((joinP ps).map pcD) ≤ 2 := dps_le fun x hx => by
      obtain ⟨q, hq, rfl⟩ := List.mem_map.mp hx
      exact Nat.le_of_eq (pc_ok hcs (f1 q hq)).2.2
    omega
theorem bks_le {b : Nat} : ∀ {xs : List D}, (∀ x ∈ xs, bk x ≤ b) → bks xs ≤ xs.length * (b + 1)
  | [], _ => Nat.zero_le _
  | x :: xs, h => by
    have h1 := h x (by simp)
    have h2 := bks_le fun y hy => h y (List.mem_cons_of_mem _ hy)
    simp only [bks, List.length_cons, Nat.add_mul] at h2 ⊢
    omega
theorem line_ok {cs : List Nat} (hcs : ∀ c ∈ cs, c < 128) {l : Ln} (h : okLine cs l) : Cn (lineD l) = true ∧ bk (lineD l) ≤ 15000 ∧ dp (lineD l) ≤ 5 := by
  obtain ⟨h1, h2, h3⟩ := h
  have hc : ∀ x ∈ l.2.map cellD, Cn x = true ∧ bk x ≤ 1140 ∧ dp x ≤ 3 := fun x hx => by
    obtain ⟨c, hm, rfl⟩ := List.mem_map.mp hx
    obtain ⟨g1, g2, g3⟩ := cell_ok hcs (h3 c hm)
    refine ⟨g1, ?_, g3⟩
    have : (if l.2.length = 1 then 60 else 40) ≤ 60 := by split <;> omega
    omega
  have hi : 0 ≤ l.1 ∧ l.1 ≤ 6 := by
    simp only [List.mem_cons, List.not_mem_nil, or_false] at h1
    omega
  have hl : l.2.length ≤ 12 := by
    simp only [List.mem_cons, List.not_mem_nil, or_false] at h2
    omega
  refine ⟨?_, ?_, ?_⟩
  · show ((decide (0 ≤ l.1) && decide (l.1 ≤ 6)) && (Cns (l.2.map cellD) && true)) = true
    rw [decide_eq_true hi.1, decide_eq_true hi.2, Cns_all.mpr fun x hx => (hc x hx).1] <;> rfl
  · show 0 + 1 + (bks (l.2.map cellD) + 1 + 0) ≤ _
    have := bks_le fun x hx => (hc x hx).2.1
    rw [List.length_map] at this
    have : l.2.length * (1140 + 1) ≤ 12 * (1140 + 1) := Nat.mul_le_mul_right _ hl
    omega
  · show max 0 (max (dps (l.2.map cellD) + 1) 0) + 1 ≤ 5
    have := dps_le fun x hx => (hc x hx).2.2
    omega
theorem cont_ok {cs : List Nat} (hcs : ∀ c ∈ cs, c < 128) {c : List Ln} (h : okCont cs c) : Cn (contD c) = true ∧ bk (contD c) ≤ 100000 ∧ dp (contD c) ≤ 6 := by
  obtain ⟨h1, h2, h3⟩ := h
  have hc : ∀ x ∈ c.map lineD, Cn x = true ∧ bk x ≤ 15000 ∧ dp x ≤ 5 := fun x hx => by
    obtain ⟨c, hm, rfl⟩ := List.mem_map.mp hx
    exact line_ok hcs (h3 c hm)
  refine ⟨Cns_all.mpr fun x hx => (hc x hx).1, ?_, ?_⟩
  · show bks (c.map lineD) ≤ _
    have := bks_le fun x hx => (hc x hx).2.1
    rw [List.length_map] at this
    have : c.length * (15000 + 1) ≤ 4 * (15000 + 1) := Nat.mul_le_mul_right _ h2
    omega
  · show dps (c.map lineD) + 1 ≤ 6
    have := dps_le fun x hx => (hc x hx).2.2
    omega
/-- the text of a thing -/
theorem th_repr {st : Store} {d : D} (h : Th 400000 90 d) : biD st .repr [d] = some (.str (tp d).shown) := by
  obtain ⟨h1, h2, h3⟩ := h
  rcases h1 with h1 | h1
  · exact repr_gd h1 (.inr rfl) (by omega) (by omega)
  · exact repr_gd h1 (.inl rfl) (by omega) (by omega)
theorem th_sm {b k : Nat} {d : D} (h : Th b k d) (hb : b ≤ 16777216) : Sm d := by
  obtain ⟨h1, h2, h3⟩ := h
  refine ⟨?_, by rw [sz]; omega⟩
  rcases h1 with h1 | h1
  · exact (gd_ok d h1).1
  · exact (gd_ok d h1).1
theorem run_equal {n : Nat} {d : D} {st : Store} (h : Th 400000 90 d) : cf (n + 1) 13 [d, d] st = .ok (.bl true) st := by
  refine ok_of (call_same (ft := f13) rfl rfl ?_)
  unfold f13
  walk_at "z0"
  have q := fun (st : Store) (P : D → Prop) => EX_eq (P := P) (th_repr (st := st) h)
  simp only [↓s_cons, ↓s_nil, ↓l_asg, ↓s_ret, ↓l_site, ↓s_exp, ↓s_pass, ↓w_non, ↓w_bl, ↓w_int, ↓w_str, ↓l_var, ↓l_con, ↓l_bin, ↓l_neg, ↓l_cmp, ↓l_chn, ↓w_isn, ↓w_notn, ↓w_and, ↓w_or, ↓l_not, ↓l_ite, ↓l_tup, ↓l_lst, ↓w_dct, ↓w_mutD, ↓mut_lst, ↓mut_dct, ↓l_idx, ↓l_slc, ↓nb_nul, ↓nb_int, ↓nb_var, ↓nb_con, ↓nb_bin, ↓nb_neg, ↓nb_idx, ↓nb_call, ↓nb_bi, ↓w_call, ↓l_bi, ↓l_bm, ↓l_isi, ↓w_evs, ↓w_evs0, ↓w_and0, ↓l_and1, ↓w_or0, ↓l_or1, ↓l_ssub, ↓s_whlD, ↓l_app, ↓WP_ok, ↓WS_nx, ↓WS_rt, ↓WP_bind, ↓WP_ofE, ↓WB_t, ↓WB_f, ↓WB_n, ↓WB_dec, ↓WB_all, ↓WB_any, ↓WB_lt, ↓WB_sub, ↓WB_emp, ↓WB_eqv, ↓WB_and, ↓WB_or, ↓SB_t, ↓SB_f, ↓SB_n, ↓SB_dec, ↓SB_all, ↓SB_any, ↓SB_lt, ↓SB_sub, ↓SB_emp, ↓SB_eqv, ↓SB_and, ↓SB_or, ↓EX_some, ↓EX_none, ↓EX_map, ↓EB_bl, ↓EI_int, ↓x_g0, ↓x_gs, ↓x_at0, ↓x_at1, ↓x_at2, ↓x_a0, ↓x_as, ↓x_atup2, ↓x_atup3, ↓x_mod_i, ↓x_bnd, ↓x_str_i, ↓x_str_b, ↓x_upper, ↓x_all, ↓x_any, ↓x_sum, ↓x_add_i, ↓x_sub_i, ↓x_mul_i, ↓x_div_i, ↓x_pow_i, ↓x_add_s, ↓x_add_t, ↓x_add_l, ↓x_mul_s, ↓x_mul_t, ↓x_mul_l, ↓x_lt_i, ↓x_le_i, ↓x_gt_i, ↓x_ge_i, ↓x_lt_s, ↓x_le_s, ↓x_eq_i, ↓x_ne_i, ↓x_eq_s, ↓x_ne_s, ↓x_eq_nil, ↓x_ne_nil, ↓x_in_s, ↓x_nin_s, ↓x_len_l, ↓x_len_t, ↓x_len_s, ↓x_tuple_l, ↓x_tuple_t, ↓x_list_t, ↓x_list_l, ↓x_list_s, ↓x_int_i, ↓x_int_b, ↓x_abs, ↓x_str_s, ↓x_slc_t, ↓x_slc_l, ↓x_slc_s, ↓x_idx_t, ↓x_idx_l, ↓x_isi_nb, ↓x_isi_ni, ↓x_isi_ns, ↓x_isi_nt, ↓x_isi_nl, ↓x_isi_nd, ↓x_isi_bb, ↓x_isi_bi, ↓x_isi_bs, ↓x_isi_bt, ↓x_isi_bl, ↓x_isi_bd, ↓x_isi_ib, ↓x_isi_ii, ↓x_isi_is, ↓x_isi_it, ↓x_isi_il, ↓x_isi_id, ↓x_isi_sb, ↓x_isi_si, ↓x_isi_ss, ↓x_isi_st, ↓x_isi_sl, ↓x_isi_sd, ↓x_isi_tb, ↓x_isi_ti, ↓x_isi_ts, ↓x_isi_tt, ↓x_isi_tl, ↓x_isi_td, ↓x_isi_lb, ↓x_isi_li, ↓x_isi_ls, ↓x_isi_lt, ↓x_isi_ll, ↓x_isi_ld, ↓x_isi_db, ↓x_isi_di, ↓x_isi_ds, ↓x_isi_dt, ↓x_isi_dl, ↓x_isi_dd, emp_flt, List.length_cons, List.length_nil, on_join, on_split, on_upper, on_count, on_rstrip, on_sindex, on_tindex, true_and, and_true, eq_self, Nat.reduceAdd, Nat.reduceLeDiff, Nat.zero_add, isI_n, isI_b, isI_i, isI_s, isI_t, isI_l, isI_d, isI_c, isI_r, isB_n, isB_b, isB_i, isB_s, isB_t, isB_l, isB_d, isB_c, isB_r, isS_n, isS_b, isS_i, isS_s, isS_t, isS_l, isS_d, isS_c, isS_r, isT_n, isT_b, isT_i, isT_s, isT_t, isT_l, isT_d, isT_c, isT_r, ↓x_con0, ↓x_con1, ↓x_con2, ↓x_con3, ↓x_con4, ↓x_con5, ↓x_con6, ↓x_con7, ↓WB_isI, ↓WB_isB, ↓WB_isS, ↓WB_isT, ↓SB_isI, ↓SB_isB, ↓SB_isS, ↓SB_isT, ↓q]
  simp
theorem all_chars {n : Nat} {st : Store} {Q : D → Store → Prop} (hq : ∀ L : List D, L.length ≤ 1000 → (∀ x ∈ L, ∃ z : Str, x = .str z ∧ z.length ≤ 1) → Q (.lst L) st) : WP (cf (n + 1) 29 [] st) Q := by
  refine call_same (ft := f29) rfl rfl ?_
  unfold f29
  walk_at "z0"
  obtain ⟨u1, u2⟩ := upper_ok (x := "abcdefghijklmnopqrstuvwxyz") (by decide)
  have l1 : (Str.ofString "abcdefghijklmnopqrstuvwxyz").length = 26 := by decide
  have l2 : (Str.ofString " !\x23$&'()*+,-./:;<=>?\x40[]^_{|}~0123456789").length ≤ 100 := by decide
  simp only [↓s_cons, ↓s_nil, ↓l_asg, ↓s_ret, ↓l_site, ↓s_exp, ↓s_pass, ↓w_non, ↓w_bl, ↓w_int, ↓w_str, ↓l_var, ↓l_con, ↓l_bin, ↓l_neg, ↓l_cmp, ↓l_chn, ↓w_isn, ↓w_notn, ↓w_and, ↓w_or, ↓l_not, ↓l_ite, ↓l_tup, ↓l_lst, ↓w_dct, ↓w_mutD, ↓mut_lst, ↓mut_dct, ↓l_idx, ↓l_slc, ↓nb_nul, ↓nb_int, ↓nb_var, ↓nb_con, ↓nb_bin, ↓nb_neg, ↓nb_idx, ↓nb_call, ↓nb_bi, ↓w_call, ↓l_bi, ↓l_bm, ↓l_isi, ↓w_evs, ↓w_evs0, ↓w_and0, ↓l_and1, ↓w_or0, ↓l_or1, ↓l_ssub, ↓s_whlD, ↓l_app, ↓WP_ok, ↓WS_nx, ↓WS_rt, ↓WP_bind, ↓WP_ofE, ↓WB_t, ↓WB_f, ↓WB_n, ↓WB_dec, ↓WB_all, ↓WB_any, ↓WB_lt, ↓WB_sub, ↓WB_emp, ↓WB_eqv, ↓WB_and, ↓WB_or, ↓SB_t, ↓SB_f, ↓SB_n, ↓SB_dec, ↓SB_all, ↓SB_any, ↓SB_lt, ↓SB_sub, ↓SB_emp, ↓SB_eqv, ↓SB_and, ↓SB_or, ↓EX_some, ↓EX_none, ↓EX_map, ↓EB_bl, ↓EI_int, ↓x_g0, ↓x_gs, ↓x_at0, ↓x_at1, ↓x_at2, ↓x_a0, ↓x_as, ↓x_atup2, ↓x_atup3, ↓x_mod_i, ↓x_bnd, ↓x_str_i, ↓x_str_b, ↓x_upper, ↓x_all, ↓x_any, ↓x_sum, ↓x_add_i, ↓x_sub_i, ↓x_mul_i, ↓x_div_i, ↓x_pow_i, ↓x_add_s, ↓x_add_t, ↓x_add_l, ↓x_mul_s, ↓x_mul_t, ↓x_mul_l, ↓x_lt_i, ↓x_le_i, ↓x_gt_i, ↓x_ge_i, ↓x_lt_s, ↓x_le_s, ↓x_eq_i, ↓x_ne_i, ↓x_eq_s, ↓x_ne_s, ↓x_eq_nil, ↓x_ne_nil, ↓x_in_s, ↓x_nin_s, ↓x_len_l, ↓x_len_t, ↓x_len_s, ↓x_tuple_l, ↓x_tuple_t, ↓x_list_t, ↓x_list_l, ↓x_list_s, ↓x_int_i, ↓x_int_b, ↓x_abs, ↓x_str_s, ↓x_slc_t, ↓x_slc_l, ↓x_slc_s, ↓x_idx_t, ↓x_idx_l, ↓x_isi_nb, ↓x_isi_ni, ↓x_isi_ns, ↓x_isi_nt, ↓x_isi_nl, ↓x_isi_nd, ↓x_isi_bb, ↓x_isi_bi, ↓x_isi_bs, ↓x_isi_bt, ↓x_isi_bl, ↓x_isi_bd, ↓x_isi_ib, ↓x_isi_ii, ↓x_isi_is, ↓x_isi_it, ↓x_isi_il, ↓x_isi_id, ↓x_isi_sb, ↓x_isi_si, ↓x_isi_ss, ↓x_isi_st, ↓x_isi_sl, ↓x_isi_sd, ↓x_isi_tb, ↓x_isi_ti, ↓x_isi_ts, ↓x_isi_tt, ↓x_isi_tl, ↓x_isi_td, ↓x_isi_lb, ↓x_isi_li, ↓x_isi_ls, ↓x_isi_lt, ↓x_isi_ll, ↓x_isi_ld, ↓x_isi_db, ↓x_isi_di, ↓x_isi_ds, ↓x_isi_dt, ↓x_isi_dl, ↓x_isi_dd, emp_flt, List.length_cons, List.length_nil, on_join, on_split, on_upper, on_count, on_rstrip, on_sindex, on_tindex, true_and, and_true, eq_self, Nat.reduceAdd, Nat.reduceLeDiff, Nat.zero_add, isI_n, isI_b, isI_i, isI_s, isI_t, isI_l, isI_d, isI_c, isI_r, isB_n, isB_b, isB_i, isB_s, isB_t, isB_l, isB_d, isB_c, isB_r, isS_n, isS_b, isS_i, isS_s, isS_t, isS_l, isS_d, isS_c, isS_r, isT_n, isT_b, isT_i, isT_s, isT_t, isT_l, isT_d, isT_c, isT_r, ↓x_con0, ↓x_con1, ↓x_con2, ↓x_con3, ↓x_con4, ↓x_con5, ↓x_con6, ↓x_con7, ↓WB_isI, ↓WB_isB, ↓WB_isS, ↓WB_isT, ↓SB_isI, ↓SB_isB, ↓SB_isS, ↓SB_isT]
  generalize Str.ofString " !\x23$&'()*+,-./:;<=>?\x40[]^_{|}~0123456789" = A at *
  have u1 : (Txt.upper (Str.ofString "abcdefghijklmnopqrstuvwxyz")).length = 26 := by rw [← l1]; exact u1
  generalize Txt.upper (Str.ofString "abcdefghijklmnopqrstuvwxyz") = B at *
  generalize Str.ofString "abcdefghijklmnopqrstuvwxyz" = C at *
  have e : (A ++ C).length = A.length + C.length := str_app_len _ _
  have e2 : (List.map one (A ++ C ++ B).cps.toList).length = A.length + C.length + B.length := by
    rw [List.length_map, Array.length_toList]
    show (A ++ C ++ B).length = _
    rw [str_app_len, e]
  refine ⟨by omega, ⟨by omega, by omega⟩, by omega, by omega, hq _ (by rw [List.length_append, e2]; simp only [List.length_cons, List.length_nil]; omega) fun x hx => ?_⟩
  rcases List.mem_append.mp hx with hx | hx
  · obtain ⟨c, _, rfl⟩ := List.mem_map.mp hx
    exact ⟨_, rfl, Nat.le_refl _⟩
  · simp only [List.mem_cons, List.not_mem_nil, or_false] at hx
    rcases hx with rfl | rfl | rfl <;> exact ⟨_, rfl, by decide⟩
end Law
end Cip

set_option maxHeartbeats 4000000
namespace Cip
open PySem
local macro_rules | `(tactic| walk_at "cip") => `(tactic| simp only [s_cons, s_nil, s_asg, s_ret, s_ite, s_exp, s_pass, w_non, w_bl, w_int, w_str, w_var, w_con, w_bin, w_neg, w_cmp, w_isn, w_notn, w_and, w_or, w_not, w_ite, w_tup, w_lst, w_idx, w_call, s_ssubD, s_forD, s_whlD, w_mutD, w_appD, mut_lst, asg_tup2, asg_tup3, int_i, len_l, len_t, len_s, idx_l, idx_t, tuple_l, w_bi, w_isi, w_evs, w_evs0, w_and0, w_and1, w_or0, w_or1, asg_nm, ex_some, ex_var, ex_int, ex_bl, startE, List.length_cons, List.length_nil, List.map_cons, List.map_nil, List.getElem?_cons_zero, List.getElem?_cons_succ, List.set_cons_zero, List.set_cons_succ, List.cons_append, List.nil_append, List.replicate, ex_ite, b_add_i, b_sub_i, b_mul_i, b_mod_i, b_div_i, b_pow_i, b_add_s, b_add_t, b_add_l, b_mul_s, b_mul_t, b_mul_l, c_lt_i, c_le_i, c_gt_i, c_ge_i, c_lt_s, c_le_s, c_eq_i, c_ne_i, c_eq_s, c_ne_s, WP_ok, WS_nx, WS_rt, true_and, and_true])
local macro_rules | `(tactic| walk_at "cip2") => `(tactic| simp only [s_cons, s_nil, s_asg, s_ret, s_ite, s_exp, s_pass, w_non, w_bl, w_int, w_str, w_var, w_con, w_bin, w_neg, w_cmp, w_isn, w_notn, w_and, w_or, w_not, w_ite, w_tup, w_lst, w_idx, w_call, s_ssubD, s_forD, s_whlD, w_mutD, w_appD, mut_lst, asg_tup2, asg_tup3, int_i, len_l, len_t, len_s, idx_l, idx_t, tuple_l, w_bi, w_isi, w_evs, w_evs0, w_and0, w_and1, w_or0, w_or1, asg_nm, ex_some, ex_var, ex_int, ex_bl, startE, List.length_cons, List.length_nil, List.map_cons, List.map_nil, List.getElem?_cons_zero, List.getElem?_cons_succ, List.set_cons_zero, List.set_cons_succ, List.cons_append, List.nil_append, List.replicate, ex_ite, b_add_i, b_sub_i, b_mul_i, b_mod_i, b_div_i, b_pow_i, b_add_s, b_add_t, b_add_l, b_mul_s, b_mul_t, b_mul_l, c_lt_i, c_le_i, c_gt_i, c_ge_i, c_lt_s, c_le_s, c_eq_i, c_ne_i, c_eq_s, c_ne_s, WP_ok, WS_nx, WS_rt, true_and, and_true, w_slc, E.nulB, eq_self, if_true, if_false, Bool.false_eq_true, WP_bind, WP_of, bnd_int, Bool.not_true, Bool.not_false])
local macro_rules | `(tactic| walk_at "cip3") => `(tactic| simp only [s_cons, s_nil, s_asg, s_ret, s_ite, s_exp, s_pass, w_non, w_bl, w_int, w_str, w_var, w_con, w_bin, w_neg, w_cmp, w_isn, w_notn, w_and, w_or, w_not, w_ite, w_tup, w_lst, w_idx, w_call, s_ssubD, s_forD, s_whlD, w_mutD, w_appD, mut_lst, asg_tup2, asg_tup3, int_i, len_l, len_t, len_s, idx_l, idx_t, tuple_l, w_bi, w_isi, w_evs, w_evs0, w_and0, w_and1, w_or0, w_or1, asg_nm, ex_some, ex_var, ex_int, ex_bl, startE, List.length_cons, List.length_nil, List.map_cons, List.map_nil, List.getElem?_cons_zero, List.getElem?_cons_succ, List.set_cons_zero, List.set_cons_succ, List.cons_append, List.nil_append, List.replicate, ex_ite, b_add_i, b_sub_i, b_mul_i, b_mod_i, b_div_i, b_pow_i, b_add_s, b_add_t, b_add_l, b_mul_s, b_mul_t, b_mul_l, c_lt_i, c_le_i, c_gt_i, c_ge_i, c_lt_s, c_le_s, c_eq_i, c_ne_i, c_eq_s, c_ne_s, WP_ok, WS_nx, WS_rt, true_and, and_true, w_slc, E.nulB, eq_self, if_true, if_false, Bool.false_eq_true, WP_bind, WP_of, bnd_int, Bool.not_true, Bool.not_false, w_chn])
local macro_rules | `(tactic| walk_at "z0") => `(tactic| simp only [startE, List.map_cons, List.map_nil, List.length_cons, List.length_nil, Nat.reduceAdd, Nat.reduceSub, List.replicate, List.cons_append, List.nil_append])
local macro_rules | `(tactic| walk_at "zx") => `(tactic| simp only [wipeE, List.set_cons_zero, List.set_cons_succ, ↓x_a0, ↓x_as, ↓x_atup2, ↓x_atup3])
namespace Law
/-! M16: the law, run. -/
theorem flt_false {α β : Type} (xs : List α) (f : α → β) : (xs.filter fun _ => false).map f = [] := by
  induction xs with
  | nil => rfl
  | cons x xs ih => rw [List.filter_cons]; simpa using ih
theorem signs_lc {n : Nat} {st : Store} {a b c x3 x4 x5 x6 : Option D} {L : List D} (hL : L.length ≤ 1000) (hz : ∀ x ∈ L, ∃ z : Str, x = .str z ∧ z.length ≤ 1) :
    ev (txOf cons) (cf (n + 1)) (.lc [9] (.nm 9) .val [(.var 7)] (.not (.call 13 [(.call 2 [(.bin .add (.var 9) (.str "a"))]), (.call 23 [(.bin .add (.var 9) (.str "a"))])])) (.var 9)) [a, b, c, x3, x4, x5, x6, some (.lst L), none, none, none, none] st = .ok (.lst []) st := by
  rw [← flt_false L (fun x => x)]
  refine lc_G (Γ := txOf cons) (cf := cf (n + 1)) (own := [9]) (t := .nm 9) (k := .val) (its := [(.var 7)]) (c := (.not (.call 13 [(.call 2 [(.bin .add (.var 9) (.str "a"))]), (.call 23 [(.bin .add (.var 9) (.str "a"))])]))) (e := (.var 9)) (env := [a, b, c, x3, x4, x5, x6, some (.lst L), none, none, none, none]) (st := st) (ds := [.lst L]) (xs := L) (fun _ => false) (fun x => x) (evs_i1 (Is.eq (by unfold Is; simp only [↓s_cons, ↓s_nil, ↓l_asg, ↓s_ret, ↓l_site, ↓s_exp, ↓s_pass, ↓w_non, ↓w_bl, ↓w_int, ↓w_str, ↓l_var, ↓l_con, ↓l_bin, ↓l_neg, ↓l_cmp, ↓l_chn, ↓w_isn, ↓w_notn, ↓w_and, ↓w_or, ↓l_not, ↓l_ite, ↓l_tup, ↓l_lst, ↓w_dct, ↓w_mutD, ↓mut_lst, ↓mut_dct, ↓l_idx, ↓l_slc, ↓nb_nul, ↓nb_int, ↓nb_var, ↓nb_con, ↓nb_bin, ↓nb_neg, ↓nb_idx, ↓nb_call, ↓nb_bi, ↓w_call, ↓l_bi, ↓l_bm, ↓l_isi, ↓w_evs, ↓w_evs0, ↓w_and0, ↓l_and1, ↓w_or0, ↓l_or1, ↓l_ssub, ↓s_whlD, ↓l_app, ↓WP_ok, ↓WS_nx, ↓WS_rt, ↓WP_bind, ↓WP_ofE, ↓WB_t, ↓WB_f, ↓WB_n, ↓WB_dec, ↓WB_all, ↓WB_any, ↓WB_lt, ↓WB_sub, ↓WB_emp, ↓WB_eqv, ↓WB_and, ↓WB_or, ↓SB_t, ↓SB_f, ↓SB_n, ↓SB_dec, ↓SB_all, ↓SB_any, ↓SB_lt, ↓SB_sub, ↓SB_emp, ↓SB_eqv, ↓SB_and, ↓SB_or, ↓EX_some, ↓EX_none, ↓EX_map, ↓EB_bl, ↓EI_int, ↓x_g0, ↓x_gs, ↓x_at0, ↓x_at1, ↓x_at2, ↓x_a0, ↓x_as, ↓x_atup2, ↓x_atup3, ↓x_mod_i, ↓x_bnd, ↓x_str_i, ↓x_str_b, ↓x_upper, ↓x_all, ↓x_any, ↓x_sum, ↓x_add_i, ↓x_sub_i, ↓x_mul_i, ↓x_div_i, ↓x_pow_i, ↓x_add_s, ↓x_add_t, ↓x_add_l, ↓x_mul_s, ↓x_mul_t, ↓x_mul_l, ↓x_lt_i, ↓x_le_i, ↓x_gt_i, ↓x_ge_i, ↓x_lt_s, ↓x_le_s, ↓x_eq_i, ↓x_ne_i, ↓x_eq_s, ↓x_ne_s, ↓x_eq_nil, ↓x_ne_nil, ↓x_in_s, ↓x_nin_s, ↓x_len_l, ↓x_len_t, ↓x_len_s, ↓x_tuple_l, ↓x_tuple_t, ↓x_list_t, ↓x_list_l, ↓x_list_s, ↓x_int_i, ↓x_int_b, ↓x_abs, ↓x_str_s, ↓x_slc_t, ↓x_slc_l, ↓x_slc_s, ↓x_idx_t, ↓x_idx_l, ↓x_isi_nb, ↓x_isi_ni, ↓x_isi_ns, ↓x_isi_nt, ↓x_isi_nl, ↓x_isi_nd, ↓x_isi_bb, ↓x_isi_bi, ↓x_isi_bs, ↓x_isi_bt, ↓x_isi_bl, ↓x_isi_bd, ↓x_isi_ib, ↓x_isi_ii, ↓x_isi_is, ↓x_isi_it, ↓x_isi_il, ↓x_isi_id, ↓x_isi_sb, ↓x_isi_si, ↓x_isi_ss, ↓x_isi_st, ↓x_isi_sl, ↓x_isi_sd, ↓x_isi_tb, ↓x_isi_ti, ↓x_isi_ts, ↓x_isi_tt, ↓x_isi_tl, ↓x_isi_td, ↓x_isi_lb, ↓x_isi_li, ↓x_isi_ls, ↓x_isi_lt, ↓x_isi_ll, ↓x_isi_ld, ↓x_isi_db, ↓x_isi_di, ↓x_isi_ds, ↓x_isi_dt, ↓x_isi_dl, ↓x_isi_dd, Bool.not_true, Bool.not_false, emp_flt, List.length_cons, List.length_nil, on_join, on_split, on_upper, on_count, on_rstrip, on_sindex, on_tindex, true_and, and_true, eq_self, Nat.reduceAdd, Nat.reduceLeDiff, Nat.zero_add, isI_n, isI_b, isI_i, isI_s, isI_t, isI_l, isI_d, isI_c, isI_r, isB_n, isB_b, isB_i, isB_s, isB_t, isB_l, isB_d, isB_c, isB_r, isS_n, isS_b, isS_i, isS_s, isS_t, isS_l, isS_d, isS_c, isS_r, isT_n, isT_b, isT_i, isT_s, isT_t, isT_l, isT_d, isT_c, isT_r, ↓x_con0, ↓x_con1, ↓x_con2, ↓x_con3, ↓x_con4, ↓x_con5, ↓x_con6, ↓x_con7, ↓WB_isI, ↓WB_isB, ↓WB_isS, ↓WB_isT, ↓SB_isI, ↓SB_isB, ↓SB_isS, ↓SB_isT]))) rfl (by omega) rfl fun x hx => ?_
  obtain ⟨z, rfl, h1⟩ := hz x hx
  have l1 : (Str.ofString "a").length = 1 := by decide
  simp only [wipeE, List.set_cons_zero, List.set_cons_succ, ↓x_a0, ↓x_as, ↓x_atup2, ↓x_atup3]
  refine ⟨Is.eq ?_, fun h => (by cases h)⟩
  unfold Is
  simp only [↓s_cons, ↓s_nil, ↓l_asg, ↓s_ret, ↓l_site, ↓s_exp, ↓s_pass, ↓w_non, ↓w_bl, ↓w_int, ↓w_str, ↓l_var, ↓l_con, ↓l_bin, ↓l_neg, ↓l_cmp, ↓l_chn, ↓w_isn, ↓w_notn, ↓w_and, ↓w_or, ↓l_not, ↓l_ite, ↓l_tup, ↓l_lst, ↓w_dct, ↓w_mutD, ↓mut_lst, ↓mut_dct, ↓l_idx, ↓l_slc, ↓nb_nul, ↓nb_int, ↓nb_var, ↓nb_con, ↓nb_bin, ↓nb_neg, ↓nb_idx, ↓nb_call, ↓nb_bi, ↓w_call, ↓l_bi, ↓l_bm, ↓l_isi, ↓w_evs, ↓w_evs0, ↓w_and0, ↓l_and1, ↓w_or0, ↓l_or1, ↓l_ssub, ↓s_whlD, ↓l_app, ↓WP_ok, ↓WS_nx, ↓WS_rt, ↓WP_bind, ↓WP_ofE, ↓WB_t, ↓WB_f, ↓WB_n, ↓WB_dec, ↓WB_all, ↓WB_any, ↓WB_lt, ↓WB_sub, ↓WB_emp, ↓WB_eqv, ↓WB_and, ↓WB_or, ↓SB_t, ↓SB_f, ↓SB_n, ↓SB_dec, ↓SB_all, ↓SB_any, ↓SB_lt, ↓SB_sub, ↓SB_emp, ↓SB_eqv, ↓SB_and, ↓SB_or, ↓EX_some, ↓EX_none, ↓EX_map, ↓EB_bl, ↓EI_int, ↓x_g0, ↓x_gs, ↓x_at0, ↓x_at1, ↓x_at2, ↓x_a0, ↓x_as, ↓x_atup2, ↓x_atup3, ↓x_mod_i, ↓x_bnd, ↓x_str_i, ↓x_str_b, ↓x_upper, ↓x_all, ↓x_any, ↓x_sum, ↓x_add_i, ↓x_sub_i, ↓x_mul_i, ↓x_div_i, ↓x_pow_i, ↓x_add_s, ↓x_add_t, ↓x_add_l, ↓x_mul_s, ↓x_mul_t, ↓x_mul_l, ↓x_lt_i, ↓x_le_i, ↓x_gt_i, ↓x_ge_i, ↓x_lt_s, ↓x_le_s, ↓x_eq_i, ↓x_ne_i, ↓x_eq_s, ↓x_ne_s, ↓x_eq_nil, ↓x_ne_nil, ↓x_in_s, ↓x_nin_s, ↓x_len_l, ↓x_len_t, ↓x_len_s, ↓x_tuple_l, ↓x_tuple_t, ↓x_list_t, ↓x_list_l, ↓x_list_s, ↓x_int_i, ↓x_int_b, ↓x_abs, ↓x_str_s, ↓x_slc_t, ↓x_slc_l, ↓x_slc_s, ↓x_idx_t, ↓x_idx_l, ↓x_isi_nb, ↓x_isi_ni, ↓x_isi_ns, ↓x_isi_nt, ↓x_isi_nl, ↓x_isi_nd, ↓x_isi_bb, ↓x_isi_bi, ↓x_isi_bs, ↓x_isi_bt, ↓x_isi_bl, ↓x_isi_bd, ↓x_isi_ib, ↓x_isi_ii, ↓x_isi_is, ↓x_isi_it, ↓x_isi_il, ↓x_isi_id, ↓x_isi_sb, ↓x_isi_si, ↓x_isi_ss, ↓x_isi_st, ↓x_isi_sl, ↓x_isi_sd, ↓x_isi_tb, ↓x_isi_ti, ↓x_isi_ts, ↓x_isi_tt, ↓x_isi_tl, ↓x_isi_td, ↓x_isi_lb, ↓x_isi_li, ↓x_isi_ls, ↓x_isi_lt, ↓x_isi_ll, ↓x_isi_ld, ↓x_isi_db, ↓x_isi_di, ↓x_isi_ds, ↓x_isi_dt, ↓x_isi_dl, ↓x_isi_dd, Bool.not_true, Bool.not_false, emp_flt, List.length_cons, List.length_nil, on_join, on_split, on_upper, on_count, on_rstrip, on_sindex, on_tindex, true_and, and_true, eq_self, Nat.reduceAdd, Nat.reduceLeDiff, Nat.zero_add, isI_n, isI_b, isI_i, isI_s, isI_t, isI_l, isI_d, isI_c, isI_r, isB_n, isB_b, isB_i, isB_s, isB_t, isB_l, isB_d, isB_c, isB_r, isS_n, isS_b, isS_i, isS_s, isS_t, isS_l, isS_d, isS_c, isS_r, isT_n, isT_b, isT_i, isT_s, isT_t, isT_l, isT_d, isT_c, isT_r, ↓x_con0, ↓x_con1, ↓x_con2, ↓x_con3, ↓x_con4, ↓x_con5, ↓x_con6, ↓x_con7, ↓WB_isI, ↓WB_isB, ↓WB_isS, ↓WB_isT, ↓SB_isI, ↓SB_isB, ↓SB_isS, ↓SB_isT, ↓wpc fun st => run_word (n := n) (st := st) (d := .str (z ++ Str.ofString "a")) rfl, ↓wpc fun st => run_word2 (n := n) (st := st) (d := .str (z ++ Str.ofString "a")) rfl, ↓wpc fun st => run_equal (n := n) (st := st) (d := .bl (wordB (.str (z ++ Str.ofString "a")))) th_b]
  exact ⟨by omega, by omega⟩
def W : List D := [(.str ""), (.str "a"), (.str "0"), (.str (strMul "a" 12)), (.str (strMul "a" 13)), (.str "A"), (.str "a b"), (.str "_"), .non, (.int 1), (.bl true), (.lst [(.str "a")]), (.tup [(.str "a")]), (.str "a\n"), (.str "z9"), (.dct [] [])]
theorem w_cl : ∀ x ∈ W, Cl x = true := by
  unfold W
  repeat first | exact all_nil | refine all_cons rfl ?_
theorem words_lc {n : Nat} {st : Store} {a b c x3 x4 x5 x6 x7 : Option D} :
    ev (txOf cons) (cf (n + 1)) (.lc [10] (.nm 10) .val [(.var 8)] (.not (.call 13 [(.call 2 [(.var 10)]), (.call 23 [(.var 10)])])) (.var 10)) [a, b, c, x3, x4, x5, x6, x7, some (.lst W), none, none, none] st = .ok (.lst []) st := by
  rw [← flt_false W (fun x => x)]
  refine lc_G (Γ := txOf cons) (cf := cf (n + 1)) (own := [10]) (t := .nm 10) (k := .val) (its := [(.var 8)]) (c := (.not (.call 13 [(.call 2 [(.var 10)]), (.call 23 [(.var 10)])]))) (e := (.var 10)) (env := [a, b, c, x3, x4, x5, x6, x7, some (.lst W), none, none, none]) (st := st) (ds := [.lst W]) (xs := W) (fun _ => false) (fun x => x) (evs_i1 (Is.eq (by unfold Is; simp only [↓s_cons, ↓s_nil, ↓l_asg, ↓s_ret, ↓l_site, ↓s_exp, ↓s_pass, ↓w_non, ↓w_bl, ↓w_int, ↓w_str, ↓l_var, ↓l_con, ↓l_bin, ↓l_neg, ↓l_cmp, ↓l_chn, ↓w_isn, ↓w_notn, ↓w_and, ↓w_or, ↓l_not, ↓l_ite, ↓l_tup, ↓l_lst, ↓w_dct, ↓w_mutD, ↓mut_lst, ↓mut_dct, ↓l_idx, ↓l_slc, ↓nb_nul, ↓nb_int, ↓nb_var, ↓nb_con, ↓nb_bin, ↓nb_neg, ↓nb_idx, ↓nb_call, ↓nb_bi, ↓w_call, ↓l_bi, ↓l_bm, ↓l_isi, ↓w_evs, ↓w_evs0, ↓w_and0, ↓l_and1, ↓w_or0, ↓l_or1, ↓l_ssub, ↓s_whlD, ↓l_app, ↓WP_ok, ↓WS_nx, ↓WS_rt, ↓WP_bind, ↓WP_ofE, ↓WB_t, ↓WB_f, ↓WB_n, ↓WB_dec, ↓WB_all, ↓WB_any, ↓WB_lt, ↓WB_sub, ↓WB_emp, ↓WB_eqv, ↓WB_and, ↓WB_or, ↓SB_t, ↓SB_f, ↓SB_n, ↓SB_dec, ↓SB_all, ↓SB_any, ↓SB_lt, ↓SB_sub, ↓SB_emp, ↓SB_eqv, ↓SB_and, ↓SB_or, ↓EX_some, ↓EX_none, ↓EX_map, ↓EB_bl, ↓EI_int, ↓x_g0, ↓x_gs, ↓x_at0, ↓x_at1, ↓x_at2, ↓x_a0, ↓x_as, ↓x_atup2, ↓x_atup3, ↓x_mod_i, ↓x_bnd, ↓x_str_i, ↓x_str_b, ↓x_upper, ↓x_all, ↓x_any, ↓x_sum, ↓x_add_i, ↓x_sub_i, ↓x_mul_i, ↓x_div_i, ↓x_pow_i, ↓x_add_s, ↓x_add_t, ↓x_add_l, ↓x_mul_s, ↓x_mul_t, ↓x_mul_l, ↓x_lt_i, ↓x_le_i, ↓x_gt_i, ↓x_ge_i, ↓x_lt_s, ↓x_le_s, ↓x_eq_i, ↓x_ne_i, ↓x_eq_s, ↓x_ne_s, ↓x_eq_nil, ↓x_ne_nil, ↓x_in_s, ↓x_nin_s, ↓x_len_l, ↓x_len_t, ↓x_len_s, ↓x_tuple_l, ↓x_tuple_t, ↓x_list_t, ↓x_list_l, ↓x_list_s, ↓x_int_i, ↓x_int_b, ↓x_abs, ↓x_str_s, ↓x_slc_t, ↓x_slc_l, ↓x_slc_s, ↓x_idx_t, ↓x_idx_l, ↓x_isi_nb, ↓x_isi_ni, ↓x_isi_ns, ↓x_isi_nt, ↓x_isi_nl, ↓x_isi_nd, ↓x_isi_bb, ↓x_isi_bi, ↓x_isi_bs, ↓x_isi_bt, ↓x_isi_bl, ↓x_isi_bd, ↓x_isi_ib, ↓x_isi_ii, ↓x_isi_is, ↓x_isi_it, ↓x_isi_il, ↓x_isi_id, ↓x_isi_sb, ↓x_isi_si, ↓x_isi_ss, ↓x_isi_st, ↓x_isi_sl, ↓x_isi_sd, ↓x_isi_tb, ↓x_isi_ti, ↓x_isi_ts, ↓x_isi_tt, ↓x_isi_tl, ↓x_isi_td, ↓x_isi_lb, ↓x_isi_li, ↓x_isi_ls, ↓x_isi_lt, ↓x_isi_ll, ↓x_isi_ld, ↓x_isi_db, ↓x_isi_di, ↓x_isi_ds, ↓x_isi_dt, ↓x_isi_dl, ↓x_isi_dd, Bool.not_true, Bool.not_false, emp_flt, List.length_cons, List.length_nil, on_join, on_split, on_upper, on_count, on_rstrip, on_sindex, on_tindex, true_and, and_true, eq_self, Nat.reduceAdd, Nat.reduceLeDiff, Nat.zero_add, isI_n, isI_b, isI_i, isI_s, isI_t, isI_l, isI_d, isI_c, isI_r, isB_n, isB_b, isB_i, isB_s, isB_t, isB_l, isB_d, isB_c, isB_r, isS_n, isS_b, isS_i, isS_s, isS_t, isS_l, isS_d, isS_c, isS_r, isT_n, isT_b, isT_i, isT_s, isT_t, isT_l, isT_d, isT_c, isT_r, ↓x_con0, ↓x_con1, ↓x_con2, ↓x_con3, ↓x_con4, ↓x_con5, ↓x_con6, ↓x_con7, ↓WB_isI, ↓WB_isB, ↓WB_isS, ↓WB_isT, ↓SB_isI, ↓SB_isB, ↓SB_isS, ↓SB_isT]))) rfl (by decide) rfl fun x hx => ?_
  have hc := w_cl x hx
  simp only [wipeE, List.set_cons_zero, List.set_cons_succ, ↓x_a0, ↓x_as, ↓x_atup2, ↓x_atup3]
  refine ⟨Is.eq ?_, fun h => (by cases h)⟩
  unfold Is
  simp only [↓s_cons, ↓s_nil, ↓l_asg, ↓s_ret, ↓l_site, ↓s_exp, ↓s_pass, ↓w_non, ↓w_bl, ↓w_int, ↓w_str, ↓l_var, ↓l_con, ↓l_bin, ↓l_neg, ↓l_cmp, ↓l_chn, ↓w_isn, ↓w_notn, ↓w_and, ↓w_or, ↓l_not, ↓l_ite, ↓l_tup, ↓l_lst, ↓w_dct, ↓w_mutD, ↓mut_lst, ↓mut_dct, ↓l_idx, ↓l_slc, ↓nb_nul, ↓nb_int, ↓nb_var, ↓nb_con, ↓nb_bin, ↓nb_neg, ↓nb_idx, ↓nb_call, ↓nb_bi, ↓w_call, ↓l_bi, ↓l_bm, ↓l_isi, ↓w_evs, ↓w_evs0, ↓w_and0, ↓l_and1, ↓w_or0, ↓l_or1, ↓l_ssub, ↓s_whlD, ↓l_app, ↓WP_ok, ↓WS_nx, ↓WS_rt, ↓WP_bind, ↓WP_ofE, ↓WB_t, ↓WB_f, ↓WB_n, ↓WB_dec, ↓WB_all, ↓WB_any, ↓WB_lt, ↓WB_sub, ↓WB_emp, ↓WB_eqv, ↓WB_and, ↓WB_or, ↓SB_t, ↓SB_f, ↓SB_n, ↓SB_dec, ↓SB_all, ↓SB_any, ↓SB_lt, ↓SB_sub, ↓SB_emp, ↓SB_eqv, ↓SB_and, ↓SB_or, ↓EX_some, ↓EX_none, ↓EX_map, ↓EB_bl, ↓EI_int, ↓x_g0, ↓x_gs, ↓x_at0, ↓x_at1, ↓x_at2, ↓x_a0, ↓x_as, ↓x_atup2, ↓x_atup3, ↓x_mod_i, ↓x_bnd, ↓x_str_i, ↓x_str_b, ↓x_upper, ↓x_all, ↓x_any, ↓x_sum, ↓x_add_i, ↓x_sub_i, ↓x_mul_i, ↓x_div_i, ↓x_pow_i, ↓x_add_s, ↓x_add_t, ↓x_add_l, ↓x_mul_s, ↓x_mul_t, ↓x_mul_l, ↓x_lt_i, ↓x_le_i, ↓x_gt_i, ↓x_ge_i, ↓x_lt_s, ↓x_le_s, ↓x_eq_i, ↓x_ne_i, ↓x_eq_s, ↓x_ne_s, ↓x_eq_nil, ↓x_ne_nil, ↓x_in_s, ↓x_nin_s, ↓x_len_l, ↓x_len_t, ↓x_len_s, ↓x_tuple_l, ↓x_tuple_t, ↓x_list_t, ↓x_list_l, ↓x_list_s, ↓x_int_i, ↓x_int_b, ↓x_abs, ↓x_str_s, ↓x_slc_t, ↓x_slc_l, ↓x_slc_s, ↓x_idx_t, ↓x_idx_l, ↓x_isi_nb, ↓x_isi_ni, ↓x_isi_ns, ↓x_isi_nt, ↓x_isi_nl, ↓x_isi_nd, ↓x_isi_bb, ↓x_isi_bi, ↓x_isi_bs, ↓x_isi_bt, ↓x_isi_bl, ↓x_isi_bd, ↓x_isi_ib, ↓x_isi_ii, ↓x_isi_is, ↓x_isi_it, ↓x_isi_il, ↓x_isi_id, ↓x_isi_sb, ↓x_isi_si, ↓x_isi_ss, ↓x_isi_st, ↓x_isi_sl, ↓x_isi_sd, ↓x_isi_tb, ↓x_isi_ti, ↓x_isi_ts, ↓x_isi_tt, ↓x_isi_tl, ↓x_isi_td, ↓x_isi_lb, ↓x_isi_li, ↓x_isi_ls, ↓x_isi_lt, ↓x_isi_ll, ↓x_isi_ld, ↓x_isi_db, ↓x_isi_di, ↓x_isi_ds, ↓x_isi_dt, ↓x_isi_dl, ↓x_isi_dd, Bool.not_true, Bool.not_false, emp_flt, List.length_cons, List.length_nil, on_join, on_split, on_upper, on_count, on_rstrip, on_sindex, on_tindex, true_and, and_true, eq_self, Nat.reduceAdd, Nat.reduceLeDiff, Nat.zero_add, isI_n, isI_b, isI_i, isI_s, isI_t, isI_l, isI_d, isI_c, isI_r, isB_n, isB_b, isB_i, isB_s, isB_t, isB_l, isB_d, isB_c, isB_r, isS_n, isS_b, isS_i, isS_s, isS_t, isS_l, isS_d, isS_c, isS_r, isT_n, isT_b, isT_i, isT_s, isT_t, isT_l, isT_d, isT_c, isT_r, ↓x_con0, ↓x_con1, ↓x_con2, ↓x_con3, ↓x_con4, ↓x_con5, ↓x_con6, ↓x_con7, ↓WB_isI, ↓WB_isB, ↓WB_isS, ↓WB_isT, ↓SB_isI, ↓SB_isB, ↓SB_isS, ↓SB_isT, ↓wpc fun st => run_word (n := n) (st := st) hc, ↓wpc fun st => run_word2 (n := n) (st := st) hc, ↓wpc fun st => run_equal (n := n) (st := st) (d := .bl (wordB x)) th_b]
def cs0 : List Nat := (Str.ofString "ab *|!~").cps.toList ++ [32]
theorem cs0_ok : (∀ c ∈ cs0, c < 128) ∧ 1 ≤ cs0.length ∧ cs0.length < 1073741824 := by
  refine ⟨?_, by decide, by decide⟩
  have : cs0.all (fun c => decide (c < 128)) = true := by decide
  exact fun c hc => of_decide_eq_true (List.all_eq_true.mp this c hc)
theorem run_law {n : Nat} {ns : List Int} (hl : ns.length ≤ 63) : WP (cf (n + 40) 30 [.scr (ns.map .int)] []) fun d _ => d = .bl true := by
  refine call_wp (ft := f30) rfl rfl ?_
  unfold f30
  walk_at "z0"
  simp only [↓s_cons, ↓s_nil, ↓l_asg, ↓s_ret, ↓l_site, ↓s_exp, ↓s_pass, ↓w_non, ↓w_bl, ↓w_int, ↓w_str, ↓l_var, ↓l_con, ↓l_bin, ↓l_neg, ↓l_cmp, ↓l_chn, ↓w_isn, ↓w_notn, ↓w_and, ↓w_or, ↓l_not, ↓l_ite, ↓l_tup, ↓l_lst, ↓w_dct, ↓w_mutD, ↓mut_lst, ↓mut_dct, ↓l_idx, ↓l_slc, ↓nb_nul, ↓nb_int, ↓nb_var, ↓nb_con, ↓nb_bin, ↓nb_neg, ↓nb_idx, ↓nb_call, ↓nb_bi, ↓w_call, ↓l_bi, ↓l_bm, ↓l_isi, ↓w_evs, ↓w_evs0, ↓w_and0, ↓l_and1, ↓w_or0, ↓l_or1, ↓l_ssub, ↓s_whlD, ↓l_app, ↓WP_ok, ↓WS_nx, ↓WS_rt, ↓WP_bind, ↓WP_ofE, ↓WB_t, ↓WB_f, ↓WB_n, ↓WB_dec, ↓WB_all, ↓WB_any, ↓WB_lt, ↓WB_sub, ↓WB_emp, ↓WB_eqv, ↓WB_and, ↓WB_or, ↓SB_t, ↓SB_f, ↓SB_n, ↓SB_dec, ↓SB_all, ↓SB_any, ↓SB_lt, ↓SB_sub, ↓SB_emp, ↓SB_eqv, ↓SB_and, ↓SB_or, ↓EX_some, ↓EX_none, ↓EX_map, ↓EB_bl, ↓EI_int, ↓x_g0, ↓x_gs, ↓x_at0, ↓x_at1, ↓x_at2, ↓x_a0, ↓x_as, ↓x_atup2, ↓x_atup3, ↓x_mod_i, ↓x_bnd, ↓x_str_i, ↓x_str_b, ↓x_upper, ↓x_all, ↓x_any, ↓x_sum, ↓x_add_i, ↓x_sub_i, ↓x_mul_i, ↓x_div_i, ↓x_pow_i, ↓x_add_s, ↓x_add_t, ↓x_add_l, ↓x_mul_s, ↓x_mul_t, ↓x_mul_l, ↓x_lt_i, ↓x_le_i, ↓x_gt_i, ↓x_ge_i, ↓x_lt_s, ↓x_le_s, ↓x_eq_i, ↓x_ne_i, ↓x_eq_s, ↓x_ne_s, ↓x_eq_nil, ↓x_ne_nil, ↓x_in_s, ↓x_nin_s, ↓x_len_l, ↓x_len_t, ↓x_len_s, ↓x_tuple_l, ↓x_tuple_t, ↓x_list_t, ↓x_list_l, ↓x_list_s, ↓x_int_i, ↓x_int_b, ↓x_abs, ↓x_str_s, ↓x_slc_t, ↓x_slc_l, ↓x_slc_s, ↓x_idx_t, ↓x_idx_l, ↓x_isi_nb, ↓x_isi_ni, ↓x_isi_ns, ↓x_isi_nt, ↓x_isi_nl, ↓x_isi_nd, ↓x_isi_bb, ↓x_isi_bi, ↓x_isi_bs, ↓x_isi_bt, ↓x_isi_bl, ↓x_isi_bd, ↓x_isi_ib, ↓x_isi_ii, ↓x_isi_is, ↓x_isi_it, ↓x_isi_il, ↓x_isi_id, ↓x_isi_sb, ↓x_isi_si, ↓x_isi_ss, ↓x_isi_st, ↓x_isi_sl, ↓x_isi_sd, ↓x_isi_tb, ↓x_isi_ti, ↓x_isi_ts, ↓x_isi_tt, ↓x_isi_tl, ↓x_isi_td, ↓x_isi_lb, ↓x_isi_li, ↓x_isi_ls, ↓x_isi_lt, ↓x_isi_ll, ↓x_isi_ld, ↓x_isi_db, ↓x_isi_di, ↓x_isi_ds, ↓x_isi_dt, ↓x_isi_dl, ↓x_isi_dd, Bool.not_true, Bool.not_false, emp_flt, List.length_cons, List.length_nil, on_join, on_split, on_upper, on_count, on_rstrip, on_sindex, on_tindex, true_and, and_true, eq_self, Nat.reduceAdd, Nat.reduceLeDiff, Nat.zero_add, isI_n, isI_b, isI_i, isI_s, isI_t, isI_l, isI_d, isI_c, isI_r, isB_n, isB_b, isB_i, isB_s, isB_t, isB_l, isB_d, isB_c, isB_r, isS_n, isS_b, isS_i, isS_s, isS_t, isS_l, isS_d, isS_c, isS_r, isT_n, isT_b, isT_i, isT_s, isT_t, isT_l, isT_d, isT_c, isT_r, ↓x_con0, ↓x_con1, ↓x_con2, ↓x_con3, ↓x_con4, ↓x_con5, ↓x_con6, ↓x_con7, ↓WB_isI, ↓WB_isB, ↓WB_isS, ↓WB_isT, ↓SB_isI, ↓SB_isB, ↓SB_isS, ↓SB_isT]
  refine urn_of (by omega) fun s1 h1 h2 h3 => ?_
  simp only [↓s_cons, ↓s_nil, ↓l_asg, ↓s_ret, ↓l_site, ↓s_exp, ↓s_pass, ↓w_non, ↓w_bl, ↓w_int, ↓w_str, ↓l_var, ↓l_con, ↓l_bin, ↓l_neg, ↓l_cmp, ↓l_chn, ↓w_isn, ↓w_notn, ↓w_and, ↓w_or, ↓l_not, ↓l_ite, ↓l_tup, ↓l_lst, ↓w_dct, ↓w_mutD, ↓mut_lst, ↓mut_dct, ↓l_idx, ↓l_slc, ↓nb_nul, ↓nb_int, ↓nb_var, ↓nb_con, ↓nb_bin, ↓nb_neg, ↓nb_idx, ↓nb_call, ↓nb_bi, ↓w_call, ↓l_bi, ↓l_bm, ↓l_isi, ↓w_evs, ↓w_evs0, ↓w_and0, ↓l_and1, ↓w_or0, ↓l_or1, ↓l_ssub, ↓s_whlD, ↓l_app, ↓WP_ok, ↓WS_nx, ↓WS_rt, ↓WP_bind, ↓WP_ofE, ↓WB_t, ↓WB_f, ↓WB_n, ↓WB_dec, ↓WB_all, ↓WB_any, ↓WB_lt, ↓WB_sub, ↓WB_emp, ↓WB_eqv, ↓WB_and, ↓WB_or, ↓SB_t, ↓SB_f, ↓SB_n, ↓SB_dec, ↓SB_all, ↓SB_any, ↓SB_lt, ↓SB_sub, ↓SB_emp, ↓SB_eqv, ↓SB_and, ↓SB_or, ↓EX_some, ↓EX_none, ↓EX_map, ↓EB_bl, ↓EI_int, ↓x_g0, ↓x_gs, ↓x_at0, ↓x_at1, ↓x_at2, ↓x_a0, ↓x_as, ↓x_atup2, ↓x_atup3, ↓x_mod_i, ↓x_bnd, ↓x_str_i, ↓x_str_b, ↓x_upper, ↓x_all, ↓x_any, ↓x_sum, ↓x_add_i, ↓x_sub_i, ↓x_mul_i, ↓x_div_i, ↓x_pow_i, ↓x_add_s, ↓x_add_t, ↓x_add_l, ↓x_mul_s, ↓x_mul_t, ↓x_mul_l, ↓x_lt_i, ↓x_le_i, ↓x_gt_i, ↓x_ge_i, ↓x_lt_s, ↓x_le_s, ↓x_eq_i, ↓x_ne_i, ↓x_eq_s, ↓x_ne_s, ↓x_eq_nil, ↓x_ne_nil, ↓x_in_s, ↓x_nin_s, ↓x_len_l, ↓x_len_t, ↓x_len_s, ↓x_tuple_l, ↓x_tuple_t, ↓x_list_t, ↓x_list_l, ↓x_list_s, ↓x_int_i, ↓x_int_b, ↓x_abs, ↓x_str_s, ↓x_slc_t, ↓x_slc_l, ↓x_slc_s, ↓x_idx_t, ↓x_idx_l, ↓x_isi_nb, ↓x_isi_ni, ↓x_isi_ns, ↓x_isi_nt, ↓x_isi_nl, ↓x_isi_nd, ↓x_isi_bb, ↓x_isi_bi, ↓x_isi_bs, ↓x_isi_bt, ↓x_isi_bl, ↓x_isi_bd, ↓x_isi_ib, ↓x_isi_ii, ↓x_isi_is, ↓x_isi_it, ↓x_isi_il, ↓x_isi_id, ↓x_isi_sb, ↓x_isi_si, ↓x_isi_ss, ↓x_isi_st, ↓x_isi_sl, ↓x_isi_sd, ↓x_isi_tb, ↓x_isi_ti, ↓x_isi_ts, ↓x_isi_tt, ↓x_isi_tl, ↓x_isi_td, ↓x_isi_lb, ↓x_isi_li, ↓x_isi_ls, ↓x_isi_lt, ↓x_isi_ll, ↓x_isi_ld, ↓x_isi_db, ↓x_isi_di, ↓x_isi_ds, ↓x_isi_dt, ↓x_isi_dl, ↓x_isi_dd, Bool.not_true, Bool.not_false, emp_flt, List.length_cons, List.length_nil, on_join, on_split, on_upper, on_count, on_rstrip, on_sindex, on_tindex, true_and, and_true, eq_self, Nat.reduceAdd, Nat.reduceLeDiff, Nat.zero_add, isI_n, isI_b, isI_i, isI_s, isI_t, isI_l, isI_d, isI_c, isI_r, isB_n, isB_b, isB_i, isB_s, isB_t, isB_l, isB_d, isB_c, isB_r, isS_n, isS_b, isS_i, isS_s, isS_t, isS_l, isS_d, isS_c, isS_r, isT_n, isT_b, isT_i, isT_s, isT_t, isT_l, isT_d, isT_c, isT_r, ↓x_con0, ↓x_con1, ↓x_con2, ↓x_con3, ↓x_con4, ↓x_con5, ↓x_con6, ↓x_con7, ↓WB_isI, ↓WB_isB, ↓WB_isS, ↓WB_isT, ↓SB_isI, ↓SB_isB, ↓SB_isS, ↓SB_isT]
  refine bounds h3 fun k s2 h4 => ?_
  obtain ⟨h5, _, ds, h6, h7, h8⟩ := h4
  refine EX_mk _ (add_ref h6 (by rw [sz]; simp only [List.length_cons, List.length_nil]; omega)) ?_
  have big : ∀ d, Th 5000 20 d → Th 400000 90 d := fun d h => h.mono (by omega) (by omega)
  have h9 : ∀ d ∈ ds ++ [.non, .int 0, .tup [], .lst [], .str "", .dct [] [], .bl true], Th 400000 90 d := fun d hd => by
    rcases List.mem_append.mp hd with hd | hd
    · exact big d (h8 d hd)
    · refine (all_cons (P := Th 400000 90) ⟨.inl rfl, by decide, by decide⟩ (all_cons (th_i (by decide)) (all_cons ⟨.inl rfl, by decide, by decide⟩ (all_cons ⟨.inl rfl, by decide, by decide⟩ (all_cons (th_str (by decide) (by decide)) (all_cons ⟨.inr rfl, by decide, by decide⟩ (all_cons th_b all_nil))))))) d hd
  refine s_forJ (fun m env s => ∃ ds x3 x4, env = [some (.scr (ns.map .int)), some (.ref 1), some (.lst ds), x3, x4, none, none, none, none, none, none, none] ∧ Urn s 1 ∧ ds.length + 9 * m ≤ 140 ∧ ∀ d ∈ ds, Th 400000 90 d) (ds := [.int 10])
    (evs_i1 (Is.eq (by unfold Is; simp only [↓s_cons, ↓s_nil, ↓l_asg, ↓s_ret, ↓l_site, ↓s_exp, ↓s_pass, ↓w_non, ↓w_bl, ↓w_int, ↓w_str, ↓l_var, ↓l_con, ↓l_bin, ↓l_neg, ↓l_cmp, ↓l_chn, ↓w_isn, ↓w_notn, ↓w_and, ↓w_or, ↓l_not, ↓l_ite, ↓l_tup, ↓l_lst, ↓w_dct, ↓w_mutD, ↓mut_lst, ↓mut_dct, ↓l_idx, ↓l_slc, ↓nb_nul, ↓nb_int, ↓nb_var, ↓nb_con, ↓nb_bin, ↓nb_neg, ↓nb_idx, ↓nb_call, ↓nb_bi, ↓w_call, ↓l_bi, ↓l_bm, ↓l_isi, ↓w_evs, ↓w_evs0, ↓w_and0, ↓l_and1, ↓w_or0, ↓l_or1, ↓l_ssub, ↓s_whlD, ↓l_app, ↓WP_ok, ↓WS_nx, ↓WS_rt, ↓WP_bind, ↓WP_ofE, ↓WB_t, ↓WB_f, ↓WB_n, ↓WB_dec, ↓WB_all, ↓WB_any, ↓WB_lt, ↓WB_sub, ↓WB_emp, ↓WB_eqv, ↓WB_and, ↓WB_or, ↓SB_t, ↓SB_f, ↓SB_n, ↓SB_dec, ↓SB_all, ↓SB_any, ↓SB_lt, ↓SB_sub, ↓SB_emp, ↓SB_eqv, ↓SB_and, ↓SB_or, ↓EX_some, ↓EX_none, ↓EX_map, ↓EB_bl, ↓EI_int, ↓x_g0, ↓x_gs, ↓x_at0, ↓x_at1, ↓x_at2, ↓x_a0, ↓x_as, ↓x_atup2, ↓x_atup3, ↓x_mod_i, ↓x_bnd, ↓x_str_i, ↓x_str_b, ↓x_upper, ↓x_all, ↓x_any, ↓x_sum, ↓x_add_i, ↓x_sub_i, ↓x_mul_i, ↓x_div_i, ↓x_pow_i, ↓x_add_s, ↓x_add_t, ↓x_add_l, ↓x_mul_s, ↓x_mul_t, ↓x_mul_l, ↓x_lt_i, ↓x_le_i, ↓x_gt_i, ↓x_ge_i, ↓x_lt_s, ↓x_le_s, ↓x_eq_i, ↓x_ne_i, ↓x_eq_s, ↓x_ne_s, ↓x_eq_nil, ↓x_ne_nil, ↓x_in_s, ↓x_nin_s, ↓x_len_l, ↓x_len_t, ↓x_len_s, ↓x_tuple_l, ↓x_tuple_t, ↓x_list_t, ↓x_list_l, ↓x_list_s, ↓x_int_i, ↓x_int_b, ↓x_abs, ↓x_str_s, ↓x_slc_t, ↓x_slc_l, ↓x_slc_s, ↓x_idx_t, ↓x_idx_l, ↓x_isi_nb, ↓x_isi_ni, ↓x_isi_ns, ↓x_isi_nt, ↓x_isi_nl, ↓x_isi_nd, ↓x_isi_bb, ↓x_isi_bi, ↓x_isi_bs, ↓x_isi_bt, ↓x_isi_bl, ↓x_isi_bd, ↓x_isi_ib, ↓x_isi_ii, ↓x_isi_is, ↓x_isi_it, ↓x_isi_il, ↓x_isi_id, ↓x_isi_sb, ↓x_isi_si, ↓x_isi_ss, ↓x_isi_st, ↓x_isi_sl, ↓x_isi_sd, ↓x_isi_tb, ↓x_isi_ti, ↓x_isi_ts, ↓x_isi_tt, ↓x_isi_tl, ↓x_isi_td, ↓x_isi_lb, ↓x_isi_li, ↓x_isi_ls, ↓x_isi_lt, ↓x_isi_ll, ↓x_isi_ld, ↓x_isi_db, ↓x_isi_di, ↓x_isi_ds, ↓x_isi_dt, ↓x_isi_dl, ↓x_isi_dd, Bool.not_true, Bool.not_false, emp_flt, List.length_cons, List.length_nil, on_join, on_split, on_upper, on_count, on_rstrip, on_sindex, on_tindex, true_and, and_true, eq_self, Nat.reduceAdd, Nat.reduceLeDiff, Nat.zero_add, isI_n, isI_b, isI_i, isI_s, isI_t, isI_l, isI_d, isI_c, isI_r, isB_n, isB_b, isB_i, isB_s, isB_t, isB_l, isB_d, isB_c, isB_r, isS_n, isS_b, isS_i, isS_s, isS_t, isS_l, isS_d, isS_c, isS_r, isT_n, isT_b, isT_i, isT_s, isT_t, isT_l, isT_d, isT_c, isT_r, ↓x_con0, ↓x_con1, ↓x_con2, ↓x_con3, ↓x_con4, ↓x_con5, ↓x_con6, ↓x_con7, ↓WB_isI, ↓WB_isB, ↓WB_isS, ↓WB_isT, ↓SB_isI, ↓SB_isB, ↓SB_isS, ↓SB_isT]))) rfl rfl ⟨_, none, none, rfl, ⟨_, h5⟩, by rw [List.length_append, rngL_len]; simp only [List.length_cons, List.length_nil]; omega, h9⟩ ?_ ?_
  · rintro x hx m env s ⟨ds, x3, x4, rfl, g1, g2, g3⟩
    have e0 : (Str.ofString "ab *|!~").cps.toList.map one ++ [.str (Str.ofString " ")] = cs0.map one := by
      unfold cs0
      rw [List.map_append]
      rfl
    have e1 : ((Str.ofString "ab *|!~").cps.toList.map one).length = 7 := by decide
    simp only [↓s_cons, ↓s_nil, ↓l_asg, ↓s_ret, ↓l_site, ↓s_exp, ↓s_pass, ↓w_non, ↓w_bl, ↓w_int, ↓w_str, ↓l_var, ↓l_con, ↓l_bin, ↓l_neg, ↓l_cmp, ↓l_chn, ↓w_isn, ↓w_notn, ↓w_and, ↓w_or, ↓l_not, ↓l_ite, ↓l_tup, ↓l_lst, ↓w_dct, ↓w_mutD, ↓mut_lst, ↓mut_dct, ↓l_idx, ↓l_slc, ↓nb_nul, ↓nb_int, ↓nb_var, ↓nb_con, ↓nb_bin, ↓nb_neg, ↓nb_idx, ↓nb_call, ↓nb_bi, ↓w_call, ↓l_bi, ↓l_bm, ↓l_isi, ↓w_evs, ↓w_evs0, ↓w_and0, ↓l_and1, ↓w_or0, ↓l_or1, ↓l_ssub, ↓s_whlD, ↓l_app, ↓WP_ok, ↓WS_nx, ↓WS_rt, ↓WP_bind, ↓WP_ofE, ↓WB_t, ↓WB_f, ↓WB_n, ↓WB_dec, ↓WB_all, ↓WB_any, ↓WB_lt, ↓WB_sub, ↓WB_emp, ↓WB_eqv, ↓WB_and, ↓WB_or, ↓SB_t, ↓SB_f, ↓SB_n, ↓SB_dec, ↓SB_all, ↓SB_any, ↓SB_lt, ↓SB_sub, ↓SB_emp, ↓SB_eqv, ↓SB_and, ↓SB_or, ↓EX_some, ↓EX_none, ↓EX_map, ↓EB_bl, ↓EI_int, ↓x_g0, ↓x_gs, ↓x_at0, ↓x_at1, ↓x_at2, ↓x_a0, ↓x_as, ↓x_atup2, ↓x_atup3, ↓x_mod_i, ↓x_bnd, ↓x_str_i, ↓x_str_b, ↓x_upper, ↓x_all, ↓x_any, ↓x_sum, ↓x_add_i, ↓x_sub_i, ↓x_mul_i, ↓x_div_i, ↓x_pow_i, ↓x_add_s, ↓x_add_t, ↓x_add_l, ↓x_mul_s, ↓x_mul_t, ↓x_mul_l, ↓x_lt_i, ↓x_le_i, ↓x_gt_i, ↓x_ge_i, ↓x_lt_s, ↓x_le_s, ↓x_eq_i, ↓x_ne_i, ↓x_eq_s, ↓x_ne_s, ↓x_eq_nil, ↓x_ne_nil, ↓x_in_s, ↓x_nin_s, ↓x_len_l, ↓x_len_t, ↓x_len_s, ↓x_tuple_l, ↓x_tuple_t, ↓x_list_t, ↓x_list_l, ↓x_list_s, ↓x_int_i, ↓x_int_b, ↓x_abs, ↓x_str_s, ↓x_slc_t, ↓x_slc_l, ↓x_slc_s, ↓x_idx_t, ↓x_idx_l, ↓x_isi_nb, ↓x_isi_ni, ↓x_isi_ns, ↓x_isi_nt, ↓x_isi_nl, ↓x_isi_nd, ↓x_isi_bb, ↓x_isi_bi, ↓x_isi_bs, ↓x_isi_bt, ↓x_isi_bl, ↓x_isi_bd, ↓x_isi_ib, ↓x_isi_ii, ↓x_isi_is, ↓x_isi_it, ↓x_isi_il, ↓x_isi_id, ↓x_isi_sb, ↓x_isi_si, ↓x_isi_ss, ↓x_isi_st, ↓x_isi_sl, ↓x_isi_sd, ↓x_isi_tb, ↓x_isi_ti, ↓x_isi_ts, ↓x_isi_tt, ↓x_isi_tl, ↓x_isi_td, ↓x_isi_lb, ↓x_isi_li, ↓x_isi_ls, ↓x_isi_lt, ↓x_isi_ll, ↓x_isi_ld, ↓x_isi_db, ↓x_isi_di, ↓x_isi_ds, ↓x_isi_dt, ↓x_isi_dl, ↓x_isi_dd, Bool.not_true, Bool.not_false, emp_flt, List.length_cons, List.length_nil, on_join, on_split, on_upper, on_count, on_rstrip, on_sindex, on_tindex, true_and, and_true, eq_self, Nat.reduceAdd, Nat.reduceLeDiff, Nat.zero_add, isI_n, isI_b, isI_i, isI_s, isI_t, isI_l, isI_d, isI_c, isI_r, isB_n, isB_b, isB_i, isB_s, isB_t, isB_l, isB_d, isB_c, isB_r, isS_n, isS_b, isS_i, isS_s, isS_t, isS_l, isS_d, isS_c, isS_r, isT_n, isT_b, isT_i, isT_s, isT_t, isT_l, isT_d, isT_c, isT_r, ↓x_con0, ↓x_con1, ↓x_con2, ↓x_con3, ↓x_con4, ↓x_con5, ↓x_con6, ↓x_con7, ↓WB_isI, ↓WB_isB, ↓WB_isS, ↓WB_isT, ↓SB_isI, ↓SB_isB, ↓SB_isS, ↓SB_isT]
    refine ⟨by rw [e1]; decide, ?_⟩
    rw [e0]
    refine some_content g1 cs0_ok.2 fun c s3 hc hs3 => ?_
    obtain ⟨c1, c2, c3⟩ := cont_ok cs0_ok.1 hc
    refine ⟨by omega, ?_⟩
    refine w_lcJ (fun s => Urn s 1) (Th 400000 90) (ds := [.int 8]) (evs_i1 (Is.eq (by unfold Is; simp only [↓s_cons, ↓s_nil, ↓l_asg, ↓s_ret, ↓l_site, ↓s_exp, ↓s_pass, ↓w_non, ↓w_bl, ↓w_int, ↓w_str, ↓l_var, ↓l_con, ↓l_bin, ↓l_neg, ↓l_cmp, ↓l_chn, ↓w_isn, ↓w_notn, ↓w_and, ↓w_or, ↓l_not, ↓l_ite, ↓l_tup, ↓l_lst, ↓w_dct, ↓w_mutD, ↓mut_lst, ↓mut_dct, ↓l_idx, ↓l_slc, ↓nb_nul, ↓nb_int, ↓nb_var, ↓nb_con, ↓nb_bin, ↓nb_neg, ↓nb_idx, ↓nb_call, ↓nb_bi, ↓w_call, ↓l_bi, ↓l_bm, ↓l_isi, ↓w_evs, ↓w_evs0, ↓w_and0, ↓l_and1, ↓w_or0, ↓l_or1, ↓l_ssub, ↓s_whlD, ↓l_app, ↓WP_ok, ↓WS_nx, ↓WS_rt, ↓WP_bind, ↓WP_ofE, ↓WB_t, ↓WB_f, ↓WB_n, ↓WB_dec, ↓WB_all, ↓WB_any, ↓WB_lt, ↓WB_sub, ↓WB_emp, ↓WB_eqv, ↓WB_and, ↓WB_or, ↓SB_t, ↓SB_f, ↓SB_n, ↓SB_dec, ↓SB_all, ↓SB_any, ↓SB_lt, ↓SB_sub, ↓SB_emp, ↓SB_eqv, ↓SB_and, ↓SB_or, ↓EX_some, ↓EX_none, ↓EX_map, ↓EB_bl, ↓EI_int, ↓x_g0, ↓x_gs, ↓x_at0, ↓x_at1, ↓x_at2, ↓x_a0, ↓x_as, ↓x_atup2, ↓x_atup3, ↓x_mod_i, ↓x_bnd, ↓x_str_i, ↓x_str_b, ↓x_upper, ↓x_all, ↓x_any, ↓x_sum, ↓x_add_i, ↓x_sub_i, ↓x_mul_i, ↓x_div_i, ↓x_pow_i, ↓x_add_s, ↓x_add_t, ↓x_add_l, ↓x_mul_s, ↓x_mul_t, ↓x_mul_l, ↓x_lt_i, ↓x_le_i, ↓x_gt_i, ↓x_ge_i, ↓x_lt_s, ↓x_le_s, ↓x_eq_i, ↓x_ne_i, ↓x_eq_s, ↓x_ne_s, ↓x_eq_nil, ↓x_ne_nil, ↓x_in_s, ↓x_nin_s, ↓x_len_l, ↓x_len_t, ↓x_len_s, ↓x_tuple_l, ↓x_tuple_t, ↓x_list_t, ↓x_list_l, ↓x_list_s, ↓x_int_i, ↓x_int_b, ↓x_abs, ↓x_str_s, ↓x_slc_t, ↓x_slc_l, ↓x_slc_s, ↓x_idx_t, ↓x_idx_l, ↓x_isi_nb, ↓x_isi_ni, ↓x_isi_ns, ↓x_isi_nt, ↓x_isi_nl, ↓x_isi_nd, ↓x_isi_bb, ↓x_isi_bi, ↓x_isi_bs, ↓x_isi_bt, ↓x_isi_bl, ↓x_isi_bd, ↓x_isi_ib, ↓x_isi_ii, ↓x_isi_is, ↓x_isi_it, ↓x_isi_il, ↓x_isi_id, ↓x_isi_sb, ↓x_isi_si, ↓x_isi_ss, ↓x_isi_st, ↓x_isi_sl, ↓x_isi_sd, ↓x_isi_tb, ↓x_isi_ti, ↓x_isi_ts, ↓x_isi_tt, ↓x_isi_tl, ↓x_isi_td, ↓x_isi_lb, ↓x_isi_li, ↓x_isi_ls, ↓x_isi_lt, ↓x_isi_ll, ↓x_isi_ld, ↓x_isi_db, ↓x_isi_di, ↓x_isi_ds, ↓x_isi_dt, ↓x_isi_dl, ↓x_isi_dd, Bool.not_true, Bool.not_false, emp_flt, List.length_cons, List.length_nil, on_join, on_split, on_upper, on_count, on_rstrip, on_sindex, on_tindex, true_and, and_true, eq_self, Nat.reduceAdd, Nat.reduceLeDiff, Nat.zero_add, isI_n, isI_b, isI_i, isI_s, isI_t, isI_l, isI_d, isI_c, isI_r, isB_n, isB_b, isB_i, isB_s, isB_t, isB_l, isB_d, isB_c, isB_r, isS_n, isS_b, isS_i, isS_s, isS_t, isS_l, isS_d, isS_c, isS_r, isT_n, isT_b, isT_i, isT_s, isT_t, isT_l, isT_d, isT_c, isT_r, ↓x_con0, ↓x_con1, ↓x_con2, ↓x_con3, ↓x_con4, ↓x_con5, ↓x_con6, ↓x_con7, ↓WB_isI, ↓WB_isB, ↓WB_isS, ↓WB_isT, ↓SB_isI, ↓SB_isB, ↓SB_isS, ↓SB_isT]))) rfl rfl (by rw [rngL_len, sz]; decide) hs3.urn ?_ ?_
    · intro x hx s4 hs4
      simp only [wipeE, List.set_cons_zero, List.set_cons_succ, ↓x_a0, ↓x_as, ↓x_atup2, ↓x_atup3]
      simp only [↓s_cons, ↓s_nil, ↓l_asg, ↓s_ret, ↓l_site, ↓s_exp, ↓s_pass, ↓w_non, ↓w_bl, ↓w_int, ↓w_str, ↓l_var, ↓l_con, ↓l_bin, ↓l_neg, ↓l_cmp, ↓l_chn, ↓w_isn, ↓w_notn, ↓w_and, ↓w_or, ↓l_not, ↓l_ite, ↓l_tup, ↓l_lst, ↓w_dct, ↓w_mutD, ↓mut_lst, ↓mut_dct, ↓l_idx, ↓l_slc, ↓nb_nul, ↓nb_int, ↓nb_var, ↓nb_con, ↓nb_bin, ↓nb_neg, ↓nb_idx, ↓nb_call, ↓nb_bi, ↓w_call, ↓l_bi, ↓l_bm, ↓l_isi, ↓w_evs, ↓w_evs0, ↓w_and0, ↓l_and1, ↓w_or0, ↓l_or1, ↓l_ssub, ↓s_whlD, ↓l_app, ↓WP_ok, ↓WS_nx, ↓WS_rt, ↓WP_bind, ↓WP_ofE, ↓WB_t, ↓WB_f, ↓WB_n, ↓WB_dec, ↓WB_all, ↓WB_any, ↓WB_lt, ↓WB_sub, ↓WB_emp, ↓WB_eqv, ↓WB_and, ↓WB_or, ↓SB_t, ↓SB_f, ↓SB_n, ↓SB_dec, ↓SB_all, ↓SB_any, ↓SB_lt, ↓SB_sub, ↓SB_emp, ↓SB_eqv, ↓SB_and, ↓SB_or, ↓EX_some, ↓EX_none, ↓EX_map, ↓EB_bl, ↓EI_int, ↓x_g0, ↓x_gs, ↓x_at0, ↓x_at1, ↓x_at2, ↓x_a0, ↓x_as, ↓x_atup2, ↓x_atup3, ↓x_mod_i, ↓x_bnd, ↓x_str_i, ↓x_str_b, ↓x_upper, ↓x_all, ↓x_any, ↓x_sum, ↓x_add_i, ↓x_sub_i, ↓x_mul_i, ↓x_div_i, ↓x_pow_i, ↓x_add_s, ↓x_add_t, ↓x_add_l, ↓x_mul_s, ↓x_mul_t, ↓x_mul_l, ↓x_lt_i, ↓x_le_i, ↓x_gt_i, ↓x_ge_i, ↓x_lt_s, ↓x_le_s, ↓x_eq_i, ↓x_ne_i, ↓x_eq_s, ↓x_ne_s, ↓x_eq_nil, ↓x_ne_nil, ↓x_in_s, ↓x_nin_s, ↓x_len_l, ↓x_len_t, ↓x_len_s, ↓x_tuple_l, ↓x_tuple_t, ↓x_list_t, ↓x_list_l, ↓x_list_s, ↓x_int_i, ↓x_int_b, ↓x_abs, ↓x_str_s, ↓x_slc_t, ↓x_slc_l, ↓x_slc_s, ↓x_idx_t, ↓x_idx_l, ↓x_isi_nb, ↓x_isi_ni, ↓x_isi_ns, ↓x_isi_nt, ↓x_isi_nl, ↓x_isi_nd, ↓x_isi_bb, ↓x_isi_bi, ↓x_isi_bs, ↓x_isi_bt, ↓x_isi_bl, ↓x_isi_bd, ↓x_isi_ib, ↓x_isi_ii, ↓x_isi_is, ↓x_isi_it, ↓x_isi_il, ↓x_isi_id, ↓x_isi_sb, ↓x_isi_si, ↓x_isi_ss, ↓x_isi_st, ↓x_isi_sl, ↓x_isi_sd, ↓x_isi_tb, ↓x_isi_ti, ↓x_isi_ts, ↓x_isi_tt, ↓x_isi_tl, ↓x_isi_td, ↓x_isi_lb, ↓x_isi_li, ↓x_isi_ls, ↓x_isi_lt, ↓x_isi_ll, ↓x_isi_ld, ↓x_isi_db, ↓x_isi_di, ↓x_isi_ds, ↓x_isi_dt, ↓x_isi_dl, ↓x_isi_dd, Bool.not_true, Bool.not_false, emp_flt, List.length_cons, List.length_nil, on_join, on_split, on_upper, on_count, on_rstrip, on_sindex, on_tindex, true_and, and_true, eq_self, Nat.reduceAdd, Nat.reduceLeDiff, Nat.zero_add, isI_n, isI_b, isI_i, isI_s, isI_t, isI_l, isI_d, isI_c, isI_r, isB_n, isB_b, isB_i, isB_s, isB_t, isB_l, isB_d, isB_c, isB_r, isS_n, isS_b, isS_i, isS_s, isS_t, isS_l, isS_d, isS_c, isS_r, isT_n, isT_b, isT_i, isT_s, isT_t, isT_l, isT_d, isT_c, isT_r, ↓x_con0, ↓x_con1, ↓x_con2, ↓x_con3, ↓x_con4, ↓x_con5, ↓x_con6, ↓x_con7, ↓WB_isI, ↓WB_isB, ↓WB_isS, ↓WB_isT, ↓SB_isI, ↓SB_isB, ↓SB_isS, ↓SB_isT]
      exact changed 6 c3 hs4 c1 c2 fun y s5 hy hs5 => ⟨hs5.urn, hy.mono (by omega) (by omega)⟩
    · intro rs s4 hs4 hrs hP
      rw [rngL_len] at hrs
      have hrs : rs.length = 8 := hrs
      simp only [↓s_cons, ↓s_nil, ↓l_asg, ↓s_ret, ↓l_site, ↓s_exp, ↓s_pass, ↓w_non, ↓w_bl, ↓w_int, ↓w_str, ↓l_var, ↓l_con, ↓l_bin, ↓l_neg, ↓l_cmp, ↓l_chn, ↓w_isn, ↓w_notn, ↓w_and, ↓w_or, ↓l_not, ↓l_ite, ↓l_tup, ↓l_lst, ↓w_dct, ↓w_mutD, ↓mut_lst, ↓mut_dct, ↓l_idx, ↓l_slc, ↓nb_nul, ↓nb_int, ↓nb_var, ↓nb_con, ↓nb_bin, ↓nb_neg, ↓nb_idx, ↓nb_call, ↓nb_bi, ↓w_call, ↓l_bi, ↓l_bm, ↓l_isi, ↓w_evs, ↓w_evs0, ↓w_and0, ↓l_and1, ↓w_or0, ↓l_or1, ↓l_ssub, ↓s_whlD, ↓l_app, ↓WP_ok, ↓WS_nx, ↓WS_rt, ↓WP_bind, ↓WP_ofE, ↓WB_t, ↓WB_f, ↓WB_n, ↓WB_dec, ↓WB_all, ↓WB_any, ↓WB_lt, ↓WB_sub, ↓WB_emp, ↓WB_eqv, ↓WB_and, ↓WB_or, ↓SB_t, ↓SB_f, ↓SB_n, ↓SB_dec, ↓SB_all, ↓SB_any, ↓SB_lt, ↓SB_sub, ↓SB_emp, ↓SB_eqv, ↓SB_and, ↓SB_or, ↓EX_some, ↓EX_none, ↓EX_map, ↓EB_bl, ↓EI_int, ↓x_g0, ↓x_gs, ↓x_at0, ↓x_at1, ↓x_at2, ↓x_a0, ↓x_as, ↓x_atup2, ↓x_atup3, ↓x_mod_i, ↓x_bnd, ↓x_str_i, ↓x_str_b, ↓x_upper, ↓x_all, ↓x_any, ↓x_sum, ↓x_add_i, ↓x_sub_i, ↓x_mul_i, ↓x_div_i, ↓x_pow_i, ↓x_add_s, ↓x_add_t, ↓x_add_l, ↓x_mul_s, ↓x_mul_t, ↓x_mul_l, ↓x_lt_i, ↓x_le_i, ↓x_gt_i, ↓x_ge_i, ↓x_lt_s, ↓x_le_s, ↓x_eq_i, ↓x_ne_i, ↓x_eq_s, ↓x_ne_s, ↓x_eq_nil, ↓x_ne_nil, ↓x_in_s, ↓x_nin_s, ↓x_len_l, ↓x_len_t, ↓x_len_s, ↓x_tuple_l, ↓x_tuple_t, ↓x_list_t, ↓x_list_l, ↓x_list_s, ↓x_int_i, ↓x_int_b, ↓x_abs, ↓x_str_s, ↓x_slc_t, ↓x_slc_l, ↓x_slc_s, ↓x_idx_t, ↓x_idx_l, ↓x_isi_nb, ↓x_isi_ni, ↓x_isi_ns, ↓x_isi_nt, ↓x_isi_nl, ↓x_isi_nd, ↓x_isi_bb, ↓x_isi_bi, ↓x_isi_bs, ↓x_isi_bt, ↓x_isi_bl, ↓x_isi_bd, ↓x_isi_ib, ↓x_isi_ii, ↓x_isi_is, ↓x_isi_it, ↓x_isi_il, ↓x_isi_id, ↓x_isi_sb, ↓x_isi_si, ↓x_isi_ss, ↓x_isi_st, ↓x_isi_sl, ↓x_isi_sd, ↓x_isi_tb, ↓x_isi_ti, ↓x_isi_ts, ↓x_isi_tt, ↓x_isi_tl, ↓x_isi_td, ↓x_isi_lb, ↓x_isi_li, ↓x_isi_ls, ↓x_isi_lt, ↓x_isi_ll, ↓x_isi_ld, ↓x_isi_db, ↓x_isi_di, ↓x_isi_ds, ↓x_isi_dt, ↓x_isi_dl, ↓x_isi_dd, Bool.not_true, Bool.not_false, emp_flt, List.length_cons, List.length_nil, on_join, on_split, on_upper, on_count, on_rstrip, on_sindex, on_tindex, true_and, and_true, eq_self, Nat.reduceAdd, Nat.reduceLeDiff, Nat.zero_add, isI_n, isI_b, isI_i, isI_s, isI_t, isI_l, isI_d, isI_c, isI_r, isB_n, isB_b, isB_i, isB_s, isB_t, isB_l, isB_d, isB_c, isB_r, isS_n, isS_b, isS_i, isS_s, isS_t, isS_l, isS_d, isS_c, isS_r, isT_n, isT_b, isT_i, isT_s, isT_t, isT_l, isT_d, isT_c, isT_r, ↓x_con0, ↓x_con1, ↓x_con2, ↓x_con3, ↓x_con4, ↓x_con5, ↓x_con6, ↓x_con7, ↓WB_isI, ↓WB_isB, ↓WB_isS, ↓WB_isT, ↓SB_isI, ↓SB_isB, ↓SB_isS, ↓SB_isT]
      refine ⟨by rw [List.length_append]; simp only [List.length_cons, List.length_nil]; omega, _, _, _, rfl, hs4, by rw [List.length_append, List.length_append, hrs]; simp only [List.length_cons, List.length_nil]; omega, fun d hd => ?_⟩
      rcases List.mem_append.mp hd with hd | hd
      · rcases List.mem_append.mp hd with hd | hd
        · exact g3 d hd
        · rw [List.mem_singleton.mp hd]
          exact (Th.cn c1).mono (by omega) (by omega)
      · exact hP d hd
  · rintro env s ⟨ds, x3, x4, rfl, g1, g2, g3⟩
    refine s_forJ (fun m env s => ∃ x5 x6, env = [some (.scr (ns.map .int)), some (.ref 1), some (.lst ds), x3, x4, x5, x6, none, none, none, none, none]) (ds := [.lst ds])
      (evs_i1 (Is.eq (by unfold Is; simp only [↓s_cons, ↓s_nil, ↓l_asg, ↓s_ret, ↓l_site, ↓s_exp, ↓s_pass, ↓w_non, ↓w_bl, ↓w_int, ↓w_str, ↓l_var, ↓l_con, ↓l_bin, ↓l_neg, ↓l_cmp, ↓l_chn, ↓w_isn, ↓w_notn, ↓w_and, ↓w_or, ↓l_not, ↓l_ite, ↓l_tup, ↓l_lst, ↓w_dct, ↓w_mutD, ↓mut_lst, ↓mut_dct, ↓l_idx, ↓l_slc, ↓nb_nul, ↓nb_int, ↓nb_var, ↓nb_con, ↓nb_bin, ↓nb_neg, ↓nb_idx, ↓nb_call, ↓nb_bi, ↓w_call, ↓l_bi, ↓l_bm, ↓l_isi, ↓w_evs, ↓w_evs0, ↓w_and0, ↓l_and1, ↓w_or0, ↓l_or1, ↓l_ssub, ↓s_whlD, ↓l_app, ↓WP_ok, ↓WS_nx, ↓WS_rt, ↓WP_bind, ↓WP_ofE, ↓WB_t, ↓WB_f, ↓WB_n, ↓WB_dec, ↓WB_all, ↓WB_any, ↓WB_lt, ↓WB_sub, ↓WB_emp, ↓WB_eqv, ↓WB_and, ↓WB_or, ↓SB_t, ↓SB_f, ↓SB_n, ↓SB_dec, ↓SB_all, ↓SB_any, ↓SB_lt, ↓SB_sub, ↓SB_emp, ↓SB_eqv, ↓SB_and, ↓SB_or, ↓EX_some, ↓EX_none, ↓EX_map, ↓EB_bl, ↓EI_int, ↓x_g0, ↓x_gs, ↓x_at0, ↓x_at1, ↓x_at2, ↓x_a0, ↓x_as, ↓x_atup2, ↓x_atup3, ↓x_mod_i, ↓x_bnd, ↓x_str_i, ↓x_str_b, ↓x_upper, ↓x_all, ↓x_any, ↓x_sum, ↓x_add_i, ↓x_sub_i, ↓x_mul_i, ↓x_div_i, ↓x_pow_i, ↓x_add_s, ↓x_add_t, ↓x_add_l, ↓x_mul_s, ↓x_mul_t, ↓x_mul_l, ↓x_lt_i, ↓x_le_i, ↓x_gt_i, ↓x_ge_i, ↓x_lt_s, ↓x_le_s, ↓x_eq_i, ↓x_ne_i, ↓x_eq_s, ↓x_ne_s, ↓x_eq_nil, ↓x_ne_nil, ↓x_in_s, ↓x_nin_s, ↓x_len_l, ↓x_len_t, ↓x_len_s, ↓x_tuple_l, ↓x_tuple_t, ↓x_list_t, ↓x_list_l, ↓x_list_s, ↓x_int_i, ↓x_int_b, ↓x_abs, ↓x_str_s, ↓x_slc_t, ↓x_slc_l, ↓x_slc_s, ↓x_idx_t, ↓x_idx_l, ↓x_isi_nb, ↓x_isi_ni, ↓x_isi_ns, ↓x_isi_nt, ↓x_isi_nl, ↓x_isi_nd, ↓x_isi_bb, ↓x_isi_bi, ↓x_isi_bs, ↓x_isi_bt, ↓x_isi_bl, ↓x_isi_bd, ↓x_isi_ib, ↓x_isi_ii, ↓x_isi_is, ↓x_isi_it, ↓x_isi_il, ↓x_isi_id, ↓x_isi_sb, ↓x_isi_si, ↓x_isi_ss, ↓x_isi_st, ↓x_isi_sl, ↓x_isi_sd, ↓x_isi_tb, ↓x_isi_ti, ↓x_isi_ts, ↓x_isi_tt, ↓x_isi_tl, ↓x_isi_td, ↓x_isi_lb, ↓x_isi_li, ↓x_isi_ls, ↓x_isi_lt, ↓x_isi_ll, ↓x_isi_ld, ↓x_isi_db, ↓x_isi_di, ↓x_isi_ds, ↓x_isi_dt, ↓x_isi_dl, ↓x_isi_dd, Bool.not_true, Bool.not_false, emp_flt, List.length_cons, List.length_nil, on_join, on_split, on_upper, on_count, on_rstrip, on_sindex, on_tindex, true_and, and_true, eq_self, Nat.reduceAdd, Nat.reduceLeDiff, Nat.zero_add, isI_n, isI_b, isI_i, isI_s, isI_t, isI_l, isI_d, isI_c, isI_r, isB_n, isB_b, isB_i, isB_s, isB_t, isB_l, isB_d, isB_c, isB_r, isS_n, isS_b, isS_i, isS_s, isS_t, isS_l, isS_d, isS_c, isS_r, isT_n, isT_b, isT_i, isT_s, isT_t, isT_l, isT_d, isT_c, isT_r, ↓x_con0, ↓x_con1, ↓x_con2, ↓x_con3, ↓x_con4, ↓x_con5, ↓x_con6, ↓x_con7, ↓WB_isI, ↓WB_isB, ↓WB_isS, ↓WB_isT, ↓SB_isI, ↓SB_isB, ↓SB_isS, ↓SB_isT]))) rfl rfl ⟨none, none, rfl⟩ ?_ ?_
    · rintro x hx m env s ⟨x5, x6, rfl⟩
      have ht := g3 x hx
      have hsm := th_sm ht (by decide)
      have q := fun (st : Store) (P : D → Prop) => EX_eq (P := P) (th_repr (st := st) ht)
      simp only [↓s_cons, ↓s_nil, ↓l_asg, ↓s_ret, ↓l_site, ↓s_exp, ↓s_pass, ↓w_non, ↓w_bl, ↓w_int, ↓w_str, ↓l_var, ↓l_con, ↓l_bin, ↓l_neg, ↓l_cmp, ↓l_chn, ↓w_isn, ↓w_notn, ↓w_and, ↓w_or, ↓l_not, ↓l_ite, ↓l_tup, ↓l_lst, ↓w_dct, ↓w_mutD, ↓mut_lst, ↓mut_dct, ↓l_idx, ↓l_slc, ↓nb_nul, ↓nb_int, ↓nb_var, ↓nb_con, ↓nb_bin, ↓nb_neg, ↓nb_idx, ↓nb_call, ↓nb_bi, ↓w_call, ↓l_bi, ↓l_bm, ↓l_isi, ↓w_evs, ↓w_evs0, ↓w_and0, ↓l_and1, ↓w_or0, ↓l_or1, ↓l_ssub, ↓s_whlD, ↓l_app, ↓WP_ok, ↓WS_nx, ↓WS_rt, ↓WP_bind, ↓WP_ofE, ↓WB_t, ↓WB_f, ↓WB_n, ↓WB_dec, ↓WB_all, ↓WB_any, ↓WB_lt, ↓WB_sub, ↓WB_emp, ↓WB_eqv, ↓WB_and, ↓WB_or, ↓SB_t, ↓SB_f, ↓SB_n, ↓SB_dec, ↓SB_all, ↓SB_any, ↓SB_lt, ↓SB_sub, ↓SB_emp, ↓SB_eqv, ↓SB_and, ↓SB_or, ↓EX_some, ↓EX_none, ↓EX_map, ↓EB_bl, ↓EI_int, ↓x_g0, ↓x_gs, ↓x_at0, ↓x_at1, ↓x_at2, ↓x_a0, ↓x_as, ↓x_atup2, ↓x_atup3, ↓x_mod_i, ↓x_bnd, ↓x_str_i, ↓x_str_b, ↓x_upper, ↓x_all, ↓x_any, ↓x_sum, ↓x_add_i, ↓x_sub_i, ↓x_mul_i, ↓x_div_i, ↓x_pow_i, ↓x_add_s, ↓x_add_t, ↓x_add_l, ↓x_mul_s, ↓x_mul_t, ↓x_mul_l, ↓x_lt_i, ↓x_le_i, ↓x_gt_i, ↓x_ge_i, ↓x_lt_s, ↓x_le_s, ↓x_eq_i, ↓x_ne_i, ↓x_eq_s, ↓x_ne_s, ↓x_eq_nil, ↓x_ne_nil, ↓x_in_s, ↓x_nin_s, ↓x_len_l, ↓x_len_t, ↓x_len_s, ↓x_tuple_l, ↓x_tuple_t, ↓x_list_t, ↓x_list_l, ↓x_list_s, ↓x_int_i, ↓x_int_b, ↓x_abs, ↓x_str_s, ↓x_slc_t, ↓x_slc_l, ↓x_slc_s, ↓x_idx_t, ↓x_idx_l, ↓x_isi_nb, ↓x_isi_ni, ↓x_isi_ns, ↓x_isi_nt, ↓x_isi_nl, ↓x_isi_nd, ↓x_isi_bb, ↓x_isi_bi, ↓x_isi_bs, ↓x_isi_bt, ↓x_isi_bl, ↓x_isi_bd, ↓x_isi_ib, ↓x_isi_ii, ↓x_isi_is, ↓x_isi_it, ↓x_isi_il, ↓x_isi_id, ↓x_isi_sb, ↓x_isi_si, ↓x_isi_ss, ↓x_isi_st, ↓x_isi_sl, ↓x_isi_sd, ↓x_isi_tb, ↓x_isi_ti, ↓x_isi_ts, ↓x_isi_tt, ↓x_isi_tl, ↓x_isi_td, ↓x_isi_lb, ↓x_isi_li, ↓x_isi_ls, ↓x_isi_lt, ↓x_isi_ll, ↓x_isi_ld, ↓x_isi_db, ↓x_isi_di, ↓x_isi_ds, ↓x_isi_dt, ↓x_isi_dl, ↓x_isi_dd, Bool.not_true, Bool.not_false, emp_flt, List.length_cons, List.length_nil, on_join, on_split, on_upper, on_count, on_rstrip, on_sindex, on_tindex, true_and, and_true, eq_self, Nat.reduceAdd, Nat.reduceLeDiff, Nat.zero_add, isI_n, isI_b, isI_i, isI_s, isI_t, isI_l, isI_d, isI_c, isI_r, isB_n, isB_b, isB_i, isB_s, isB_t, isB_l, isB_d, isB_c, isB_r, isS_n, isS_b, isS_i, isS_s, isS_t, isS_l, isS_d, isS_c, isS_r, isT_n, isT_b, isT_i, isT_s, isT_t, isT_l, isT_d, isT_c, isT_r, ↓x_con0, ↓x_con1, ↓x_con2, ↓x_con3, ↓x_con4, ↓x_con5, ↓x_con6, ↓x_con7, ↓WB_isI, ↓WB_isB, ↓WB_isS, ↓WB_isT, ↓SB_isI, ↓SB_isB, ↓SB_isS, ↓SB_isT, ↓q, ↓wpc fun st => run_content (n := n + 33) (st := st) hsm, ↓wpc fun st => run_content2 (n := n + 33) (st := st) hsm, ↓wpc fun st => run_equal (n := n + 38) (st := st) (d := .bl (contB x)) th_b]
      exact ⟨fun _ => ⟨_, _, rfl⟩, fun h => (h trivial).elim⟩
    · rintro env s ⟨x5, x6, rfl⟩
      simp only [↓s_cons, ↓s_nil, ↓l_asg, ↓s_ret, ↓l_site, ↓s_exp, ↓s_pass, ↓w_non, ↓w_bl, ↓w_int, ↓w_str, ↓l_var, ↓l_con, ↓l_bin, ↓l_neg, ↓l_cmp, ↓l_chn, ↓w_isn, ↓w_notn, ↓w_and, ↓w_or, ↓l_not, ↓l_ite, ↓l_tup, ↓l_lst, ↓w_dct, ↓w_mutD, ↓mut_lst, ↓mut_dct, ↓l_idx, ↓l_slc, ↓nb_nul, ↓nb_int, ↓nb_var, ↓nb_con, ↓nb_bin, ↓nb_neg, ↓nb_idx, ↓nb_call, ↓nb_bi, ↓w_call, ↓l_bi, ↓l_bm, ↓l_isi, ↓w_evs, ↓w_evs0, ↓w_and0, ↓l_and1, ↓w_or0, ↓l_or1, ↓l_ssub, ↓s_whlD, ↓l_app, ↓WP_ok, ↓WS_nx, ↓WS_rt, ↓WP_bind, ↓WP_ofE, ↓WB_t, ↓WB_f, ↓WB_n, ↓WB_dec, ↓WB_all, ↓WB_any, ↓WB_lt, ↓WB_sub, ↓WB_emp, ↓WB_eqv, ↓WB_and, ↓WB_or, ↓SB_t, ↓SB_f, ↓SB_n, ↓SB_dec, ↓SB_all, ↓SB_any, ↓SB_lt, ↓SB_sub, ↓SB_emp, ↓SB_eqv, ↓SB_and, ↓SB_or, ↓EX_some, ↓EX_none, ↓EX_map, ↓EB_bl, ↓EI_int, ↓x_g0, ↓x_gs, ↓x_at0, ↓x_at1, ↓x_at2, ↓x_a0, ↓x_as, ↓x_atup2, ↓x_atup3, ↓x_mod_i, ↓x_bnd, ↓x_str_i, ↓x_str_b, ↓x_upper, ↓x_all, ↓x_any, ↓x_sum, ↓x_add_i, ↓x_sub_i, ↓x_mul_i, ↓x_div_i, ↓x_pow_i, ↓x_add_s, ↓x_add_t, ↓x_add_l, ↓x_mul_s, ↓x_mul_t, ↓x_mul_l, ↓x_lt_i, ↓x_le_i, ↓x_gt_i, ↓x_ge_i, ↓x_lt_s, ↓x_le_s, ↓x_eq_i, ↓x_ne_i, ↓x_eq_s, ↓x_ne_s, ↓x_eq_nil, ↓x_ne_nil, ↓x_in_s, ↓x_nin_s, ↓x_len_l, ↓x_len_t, ↓x_len_s, ↓x_tuple_l, ↓x_tuple_t, ↓x_list_t, ↓x_list_l, ↓x_list_s, ↓x_int_i, ↓x_int_b, ↓x_abs, ↓x_str_s, ↓x_slc_t, ↓x_slc_l, ↓x_slc_s, ↓x_idx_t, ↓x_idx_l, ↓x_isi_nb, ↓x_isi_ni, ↓x_isi_ns, ↓x_isi_nt, ↓x_isi_nl, ↓x_isi_nd, ↓x_isi_bb, ↓x_isi_bi, ↓x_isi_bs, ↓x_isi_bt, ↓x_isi_bl, ↓x_isi_bd, ↓x_isi_ib, ↓x_isi_ii, ↓x_isi_is, ↓x_isi_it, ↓x_isi_il, ↓x_isi_id, ↓x_isi_sb, ↓x_isi_si, ↓x_isi_ss, ↓x_isi_st, ↓x_isi_sl, ↓x_isi_sd, ↓x_isi_tb, ↓x_isi_ti, ↓x_isi_ts, ↓x_isi_tt, ↓x_isi_tl, ↓x_isi_td, ↓x_isi_lb, ↓x_isi_li, ↓x_isi_ls, ↓x_isi_lt, ↓x_isi_ll, ↓x_isi_ld, ↓x_isi_db, ↓x_isi_di, ↓x_isi_ds, ↓x_isi_dt, ↓x_isi_dl, ↓x_isi_dd, Bool.not_true, Bool.not_false, emp_flt, List.length_cons, List.length_nil, on_join, on_split, on_upper, on_count, on_rstrip, on_sindex, on_tindex, true_and, and_true, eq_self, Nat.reduceAdd, Nat.reduceLeDiff, Nat.zero_add, isI_n, isI_b, isI_i, isI_s, isI_t, isI_l, isI_d, isI_c, isI_r, isB_n, isB_b, isB_i, isB_s, isB_t, isB_l, isB_d, isB_c, isB_r, isS_n, isS_b, isS_i, isS_s, isS_t, isS_l, isS_d, isS_c, isS_r, isT_n, isT_b, isT_i, isT_s, isT_t, isT_l, isT_d, isT_c, isT_r, ↓x_con0, ↓x_con1, ↓x_con2, ↓x_con3, ↓x_con4, ↓x_con5, ↓x_con6, ↓x_con7, ↓WB_isI, ↓WB_isB, ↓WB_isS, ↓WB_isT, ↓SB_isI, ↓SB_isB, ↓SB_isS, ↓SB_isT]
      refine all_chars fun L hL hz => ?_
      simp only [↓s_cons, ↓s_nil, ↓l_asg, ↓s_ret, ↓l_site, ↓s_exp, ↓s_pass, ↓w_non, ↓w_bl, ↓w_int, ↓w_str, ↓l_var, ↓l_con, ↓l_bin, ↓l_neg, ↓l_cmp, ↓l_chn, ↓w_isn, ↓w_notn, ↓w_and, ↓w_or, ↓l_not, ↓l_ite, ↓l_tup, ↓l_lst, ↓w_dct, ↓w_mutD, ↓mut_lst, ↓mut_dct, ↓l_idx, ↓l_slc, ↓nb_nul, ↓nb_int, ↓nb_var, ↓nb_con, ↓nb_bin, ↓nb_neg, ↓nb_idx, ↓nb_call, ↓nb_bi, ↓w_call, ↓l_bi, ↓l_bm, ↓l_isi, ↓w_evs, ↓w_evs0, ↓w_and0, ↓l_and1, ↓w_or0, ↓l_or1, ↓l_ssub, ↓s_whlD, ↓l_app, ↓WP_ok, ↓WS_nx, ↓WS_rt, ↓WP_bind, ↓WP_ofE, ↓WB_t, ↓WB_f, ↓WB_n, ↓WB_dec, ↓WB_all, ↓WB_any, ↓WB_lt, ↓WB_sub, ↓WB_emp, ↓WB_eqv, ↓WB_and, ↓WB_or, ↓SB_t, ↓SB_f, ↓SB_n, ↓SB_dec, ↓SB_all, ↓SB_any, ↓SB_lt, ↓SB_sub, ↓SB_emp, ↓SB_eqv, ↓SB_and, ↓SB_or, ↓EX_some, ↓EX_none, ↓EX_map, ↓EB_bl, ↓EI_int, ↓x_g0, ↓x_gs, ↓x_at0, ↓x_at1, ↓x_at2, ↓x_a0, ↓x_as, ↓x_atup2, ↓x_atup3, ↓x_mod_i, ↓x_bnd, ↓x_str_i, ↓x_str_b, ↓x_upper, ↓x_all, ↓x_any, ↓x_sum, ↓x_add_i, ↓x_sub_i, ↓x_mul_i, ↓x_div_i, ↓x_pow_i, ↓x_add_s, ↓x_add_t, ↓x_add_l, ↓x_mul_s, ↓x_mul_t, ↓x_mul_l, ↓x_lt_i, ↓x_le_i, ↓x_gt_i, ↓x_ge_i, ↓x_lt_s, ↓x_le_s, ↓x_eq_i, ↓x_ne_i, ↓x_eq_s, ↓x_ne_s, ↓x_eq_nil, ↓x_ne_nil, ↓x_in_s, ↓x_nin_s, ↓x_len_l, ↓x_len_t, ↓x_len_s, ↓x_tuple_l, ↓x_tuple_t, ↓x_list_t, ↓x_list_l, ↓x_list_s, ↓x_int_i, ↓x_int_b, ↓x_abs, ↓x_str_s, ↓x_slc_t, ↓x_slc_l, ↓x_slc_s, ↓x_idx_t, ↓x_idx_l, ↓x_isi_nb, ↓x_isi_ni, ↓x_isi_ns, ↓x_isi_nt, ↓x_isi_nl, ↓x_isi_nd, ↓x_isi_bb, ↓x_isi_bi, ↓x_isi_bs, ↓x_isi_bt, ↓x_isi_bl, ↓x_isi_bd, ↓x_isi_ib, ↓x_isi_ii, ↓x_isi_is, ↓x_isi_it, ↓x_isi_il, ↓x_isi_id, ↓x_isi_sb, ↓x_isi_si, ↓x_isi_ss, ↓x_isi_st, ↓x_isi_sl, ↓x_isi_sd, ↓x_isi_tb, ↓x_isi_ti, ↓x_isi_ts, ↓x_isi_tt, ↓x_isi_tl, ↓x_isi_td, ↓x_isi_lb, ↓x_isi_li, ↓x_isi_ls, ↓x_isi_lt, ↓x_isi_ll, ↓x_isi_ld, ↓x_isi_db, ↓x_isi_di, ↓x_isi_ds, ↓x_isi_dt, ↓x_isi_dl, ↓x_isi_dd, Bool.not_true, Bool.not_false, emp_flt, List.length_cons, List.length_nil, on_join, on_split, on_upper, on_count, on_rstrip, on_sindex, on_tindex, true_and, and_true, eq_self, Nat.reduceAdd, Nat.reduceLeDiff, Nat.zero_add, isI_n, isI_b, isI_i, isI_s, isI_t, isI_l, isI_d, isI_c, isI_r, isB_n, isB_b, isB_i, isB_s, isB_t, isB_l, isB_d, isB_c, isB_r, isS_n, isS_b, isS_i, isS_s, isS_t, isS_l, isS_d, isS_c, isS_r, isT_n, isT_b, isT_i, isT_s, isT_t, isT_l, isT_d, isT_c, isT_r, ↓x_con0, ↓x_con1, ↓x_con2, ↓x_con3, ↓x_con4, ↓x_con5, ↓x_con6, ↓x_con7, ↓WB_isI, ↓WB_isB, ↓WB_isS, ↓WB_isT, ↓SB_isI, ↓SB_isB, ↓SB_isS, ↓SB_isT, ↓wpk fun st => signs_lc (n := n + 38) hL hz]
      refine ⟨fun _ => ⟨by decide, by decide, ?_⟩, fun h => (by cases h)⟩
      refine wp_run (words_lc (n := n + 38)) ?_
      exact EX_mk _ (eq_nilL []) rfl
theorem math (ns : List Int) (h : ns.length ≤ 63) : ∃ st, callN (txOf cons) (fnOfTab tab) 100 30 [.scr (ns.map .int)] [] = .ok (.bl true) st := by
  obtain ⟨a, st, e, rfl⟩ := WP_get (run_law (n := 60) h)
  exact ⟨st, e⟩
end Law
end Cip

set_option maxHeartbeats 0
namespace Cip
open PySem PySem.Spec PyProof.Rows L2
namespace Law
theorem tab_ok : tabOk (pnOf tab cons) tab sts = true := by kernel_rfl
abbrev Rw : PySem.W.OpenRow := PySem.W.OpenLaw.row PySem.Challenge.rw_clipforms_k01_contents_of_any_object
abbrev hk : PySem.W.Hook := hookC 4 cons (faOf tab) (fnOf sts)
def ob (s : PySem.W.SharedT) : AlC := obsCG 4 cons (faOf tab) (fnOf sts) (HandSHeadRun.getT s)
theorem ob_eq (s : PySem.W.SharedT) : ob s = hk.obs s.abs := obsCG_eq (HandSHeadRun.getT_eq s)
def loose : List PySem.Str := ([Str.ofString "LETTERS", Str.ofString "DIGITS", Str.ofString "MAX_WORD", Str.ofString "MAX_DEPTH", Str.ofString "MAX_CELLS", Str.ofString "MAX_LINES", Str.ofString "MAX_SHORT", Str.ofString "MAX_LONG", Str.ofString "is_integer", Str.ofString "is_character", Str.ofString "is_word", Str.ofString "is_marks", Str.ofString "is_piece", Str.ofString "is_cell", Str.ofString "size_of", Str.ofString "is_line", Str.ofString "is_content", Str.ofString "_law_churned", Str.ofString "_law_urn_of", Str.ofString "_law_upto", Str.ofString "_law_choice", Str.ofString "_law_equal", Str.ofString "_law_some_text", Str.ofString "_law_some_marks", Str.ofString "_law_joined", Str.ofString "_law_some_cell", Str.ofString "_law_some_line", Str.ofString "_law_some_content", Str.ofString "_law_odd", Str.ofString "_law_changed", Str.ofString "_law_is_character", Str.ofString "_law_is_link", Str.ofString "_law_is_piece", Str.ofString "_law_is_cell", Str.ofString "_law_is_line", Str.ofString "_law_due", Str.ofString "_law_bounds", Str.ofString "_law_all_characters"] : List PySem.Str)
theorem hrun (w : World) : HandSHeadRun.RunEq Rw (PySem.W.view Rw.prog [40]) hk ob 2000 loose w := by
  intro os
  kernel_rfl
end Law
end Cip
open PySem PySem.W PySem.Calls PyProof.Rows
theorem PySem.Challenge.cw_clipforms_k01_contents_of_any_object_holds : PySem.Challenge.rw_clipforms_k01_contents_of_any_object.Holds := by
  w_on; o_law
  refine HandSHeadRun.head_any (r := OpenLaw.row PySem.Challenge.rw_clipforms_k01_contents_of_any_object) (q := view (OpenLaw.row PySem.Challenge.rw_clipforms_k01_contents_of_any_object).prog [40]) (H := Cip.Law.hk) (ob := Cip.Law.ob) (M := 2000) (loose := Cip.Law.loose) (d := HandSHeadRun.topDef (OpenLaw.row PySem.Challenge.rw_clipforms_k01_contents_of_any_object).prog 40) (kwd := []) Cip.Law.ob_eq
    (by kernel_rfl) (fun s => by kernel_rfl) Cip.Law.hrun (by kernel_rfl) (by kernel_rfl) (by kernel_rfl) (by rfl) (by first | assumption | decide +kernel) (by decide +kernel) ⟨rfl, rfl, rfl, rfl, rfl, by decide +kernel⟩ ?hw ?hc
  case hw => w_witness2
  case hc => exact Cip.law_walk (l := PySem.Challenge.rw_clipforms_k01_contents_of_any_object) (n := 63) (k := 100) (i := 30) (x := "script") rfl (by decide) (by kernel_rfl) ⟨rfl, by decide, by decide⟩ Cip.Law.tab_ok rfl (by kernel_rfl) (by kernel_rfl) Cip.Law.math


import PyProof.Rows.All
import Wide.All
import OpenK.AllK
import Wide.FinOn
import HandS.ForMost
import HandS.ForExc
import HandS.Wide
import HandS.IsInst
import HandS.Deep
import HandS.CallSlots
import HandS.TryMany
import HandS.SortInts
import HandS.StrMore
import HandS.Text
import HandS.Walk
import HandS.Base
import HandS.Call
import HandS.Ends
import HandS.EndBits
import HandS.Defaults
import HandS.ExcOwn
import HandS.HeadWalk
import HandS.Dict
import HandS.RaiseMore
import PyProof.ReprRoads
import HandS.TupMul
import HandS.TupAny
import HandS.More
import HandS.Words
import HandS.WordsExc
import HandS.Head0
import HandS.Head1
import HandS.Head2
import HandS.HeadEnd
import HandS.HeadHook1
import HandS.HeadHook2
import PyProof.ReprBulk
import PyProof.FitsInt
import KE.KStateDown
import PySem.Challenge.RW_vowblocks_k02_values_and_cuts
set_option Elab.async false
set_option linter.all false
set_option maxRecDepth 100000
/-! values as plain data, a small evaluator of the program's texts -/
namespace VB
open PySem PySem.Spec L2
open PyProof.Rows hiding St

/-- plain data: what a Python value is, lists and dicts taken as they stand -/
inductive D where
  | non | bl (b : Bool) | int (i : Int) | str (s : Str)
  | tup (xs : List D) | lst (xs : List D) | dic (ks vs : List D)
  | scr (xs : List D) | fn (x : Str) | ty (n : String) | ins (c : Str) (ns : List Str) (vs : List D)
  deriving Inhabited

def keyD : Key → D
  | .inl i => .int i
  | .inr s => .str s
/-- what a name holds: plain data that nobody changes any more, or a list, a dict, an object of its own -/
inductive R where
  | p (d : D) | l (xs : List D) | m (ks vs : List D) | o (c : Str) (ns : List Str) (rs : List R)
  deriving Inhabited

mutual
def R.read : R → D
  | .p d => d
  | .l xs => .lst xs
  | .m ks vs => .dic ks vs
  | .o c ns rs => .ins c ns (R.reads rs)
def R.reads : List R → List D
  | [] => []
  | r :: rs => r.read :: R.reads rs
end
def R.pure : R → Bool
  | .p _ => true
  | _ => false

/-! ### the built-in operations, over plain data -/
mutual
def D.py : D → Option PyData
  | .non => some .none
  | .bl b => some (.bool b)
  | .int i => some (.int i)
  | .str s => some (.str s)
  | .tup xs => (D.pys xs).map .tuple
  | .lst xs => (D.pys xs).map .list
  | .scr xs => (D.pys xs).map .list
  | _ => none
def D.pys : List D → Option (List PyData)
  | [] => some []
  | d :: ds => (D.py d).bind fun x => (D.pys ds).map fun xs => x :: xs
end
def D.isNon : D → Bool
  | .non => true
  | _ => false
def D.flat : D → Bool
  | .non => true | .bl _ => true | .int _ => true | .str _ => true | _ => false
def D.v : D → V
  | .non => .non | .bl b => .bl b | .int i => .int i | .str s => .str s | _ => .non
/-- == of two plain things -/
def eqD (a b : D) : Option Bool :=
  if a.flat && b.flat && scal a.v b.v then some (decide (a.v = b.v))
  else (a.py).bind fun x => (b.py).bind fun y => if SeqAt.shaped x && SeqAt.shaped y then some (PyData.eqv x y) else none

inductive BOp where
  | add | sub | mul | fdiv | mod | pow | lt | le | gt | ge | eq | ne | inn | nin | ix
  | isN | notN | neg | len | max2 | min2 | int1 | str1 | isi (T : String) | tuple1 | list1 | all1 | any1 | sum1
  | slA | slB | slAB | slO | join | repr1 | rev
  deriving DecidableEq

def intOp (f : Int → Int → R) (a b : D) : Option R := match a, b with
  | .int i, .int j => some (f i j)
  | _, _ => none
def cutD (xs : List D) (lo hi : Option Int) : List D := (xs.drop (HT.sIx xs.length 0 lo)).take (HT.sIx xs.length xs.length hi - HT.sIx xs.length 0 lo)
def slD (x : D) (lo hi : Option Int) : Option R := match x with
  | .lst xs => some (.l (cutD xs lo hi))
  | .tup xs => some (.p (.tup (cutD xs lo hi)))
  | .str z => if z.length ≤ sizeLine then some (.p (.str (cutS z lo hi))) else none
  | _ => none
def revD : D → Option R
  | .lst xs => some (.l xs.reverse)
  | .tup xs => some (.p (.tup xs.reverse))
  | _ => none
def keysP : List D → Option (List PyData)
  | [] => some []
  | .int i :: ks => (keysP ks).map fun l => .int i :: l
  | .str s :: ks => (keysP ks).map fun l => .str s :: l
  | _ :: _ => none
mutual
/-- what is shown of a thing -/
def D.pyr : D → Option PyData
  | .non => some .none
  | .bl b => some (.bool b)
  | .int i => some (.int i)
  | .str s => some (.str s)
  | .tup xs => (D.pyrs xs).map .tuple
  | .lst xs => (D.pyrs xs).map .list
  | .dic ks vs => (keysP ks).bind fun k => (D.pyrs vs).map fun v => .dict (k.zip v)
  | _ => none
def D.pyrs : List D → Option (List PyData)
  | [] => some []
  | d :: ds => (D.pyr d).bind fun x => (D.pyrs ds).map fun xs => x :: xs
end
def reprD (a : D) : Option Str := a.pyr.bind fun x => if x.showable && decide (x.depth ≤ 60) && decide (x.shown.length ≤ sizeLine) then some x.shown else none
def tyD : D → Option String
  | .non => some "NoneType" | .bl _ => some "bool" | .int _ => some "int" | .str _ => some "str"
  | .tup _ => some "tuple" | .lst _ => some "list" | .dic _ _ => some "dict"
  | _ => none
/-- isinstance of a thing of a built-in type and a built-in type -/
def isiD (t T : String) : Option Bool :=
  if T = "int" then some (t == "int" || t == "bool")
  else if T = "bool" || T = "str" || T = "tuple" || T = "list" || T = "dict" then some (t == T) else none
def boolsD : List D → Option (List Bool)
  | [] => some []
  | .bl b :: r => (boolsD r).map fun bs => b :: bs
  | _ :: _ => none
def intsD : List D → Option (List Int)
  | [] => some []
  | .int i :: r => (intsD r).map fun is => i :: is
  | _ :: _ => none

def addD (a b : D) : Option R := match a, b with
  | .int i, .int j => some (.p (.int (i + j)))
  | .str x, .str y => if x.length + y.length ≤ sizeLine then some (.p (.str (x ++ y))) else none
  | .tup xs, .tup ys => if xs.length + ys.length ≤ sizeLine then some (.p (.tup (xs ++ ys))) else none
  | .lst xs, .lst ys => if xs.length + ys.length ≤ sizeLine then some (.l (xs ++ ys)) else none
  | _, _ => none
def mulOk (i j : Int) : Bool := (decide (-(2 ^ 64) < i) && decide (i < 2 ^ 64)) || (decide (-(2 ^ 64) < j) && decide (j < 2 ^ 64)) || decide (i.natAbs.log2 + j.natAbs.log2 < 1000000)
def mulD (a b : D) : Option R := match a, b with
  | .int i, .int j => if mulOk i j then some (.p (.int (i * j))) else none
  | .tup xs, .int k => if xs ≠ [] ∧ 2 ≤ k ∧ k ≤ 1000 ∧ xs.length ≤ 1000 then some (.p (.tup (List.replicate k.toNat xs).flatten)) else none
  | .str z, .int k => if -(2 ^ 31) ≤ k ∧ k ≤ 16777216 ∧ z.length * k.toNat ≤ sizeLine then some (.p (.str ⟨(List.replicate k.toNat z.cps.toList).flatten.toArray⟩)) else none
  | .lst xs, .int k => if -(2 ^ 63) ≤ k ∧ k < 2 ^ 63 ∧ xs.length * k.toNat ≤ sizeLine then some (.l (List.replicate k.toNat xs).flatten) else none
  | _, _ => none
def divOk (j : Int) : Bool := (decide (j ≠ 0) && decide (j.natAbs < 1073741824)) || (decide (0 < j) && decide (j.natAbs.log2 < 9000))
def ixD (a b : D) : Option R := match b with
  | .int i => (match a with
    | .lst xs => (atI xs i).map .p
    | .scr xs => (atI xs i).map .p
    | .tup xs => (atI xs i).map .p
    | .str z => if z.length ≤ sizeLine then (atI z.cps.toList i).map fun c => .p (.str ⟨#[c]⟩) else none
    | _ => none)
  | _ => none
/-- x in y -/
def inD (a b : D) : Option Bool := match b with
  | .lst ds => (a.py).bind fun x => (D.pys ds).bind fun ys => if SeqAt.shaped x && SeqAt.shaped (.list ys) then some (ys.any fun z => PyData.eqv z x) else none
  | .tup ds => if a.flat && ds.all D.flat then some (inV a.v (ds.map D.v)) else none
  | .str z => (match a with | .str ⟨cs⟩ => (match cs.toList with | [c] => some (decide (c ∈ z.cps.toList)) | _ => none) | _ => none)
  | _ => none
def strsD : List D → Option (List Str)
  | [] => some []
  | .str i :: r => (strsD r).map fun is => i :: is
  | _ :: _ => none
def lenD : D → Option Nat
  | .str z => if z.length ≤ sizeLine then some z.length else none
  | .lst xs => some xs.length
  | .scr xs => some xs.length
  | .tup xs => some xs.length
  | _ => none
def bR (o : Option Bool) : Option R := o.map fun b => .p (.bl b)
def ltD (a b : D) : Option Bool := match a, b with
  | .int i, .int j => some (decide (i < j))
  | .tup xs, .tup ys => (intsD xs).bind fun ns => (intsD ys).map fun ms => HT.lexLt ns ms
  | _, _ => none
def leD (a b : D) : Option Bool := match a, b with
  | .int i, .int j => some (decide (i ≤ j))
  | _, _ => none
def loD : List D → Option (List (Option Int))
  | [] => some []
  | .int i :: r => (loD r).map fun l => some i :: l
  | _ :: _ => none
/-- a built-in operation over what its operands are -/
def opB : BOp → List D → Option R
  | .add, [a, b] => addD a b
  | .sub, [a, b] => intOp (fun i j => .p (.int (i - j))) a b
  | .mul, [a, b] => mulD a b
  | .fdiv, [.int i, .int j] => if divOk j then some (.p (.int (i.fdiv j))) else none
  | .mod, [.int i, .int j] => if j ≠ 0 then some (.p (.int (i.fmod j))) else none
  | .pow, [.int i, .int j] => if 0 ≤ j ∧ j ≤ 1000000 ∧ i.natAbs < 2 ^ 64 then some (.p (.int (i ^ j.toNat))) else none
  | .lt, [a, b] => bR (ltD a b)
  | .gt, [.int i, .int j] => some (.p (.bl (decide (j < i))))
  | .le, [a, b] => bR (leD a b)
  | .ge, [.int i, .int j] => some (.p (.bl (decide (j ≤ i))))
  | .eq, [a, b] => bR (eqD a b)
  | .ne, [a, b] => bR ((eqD a b).map not)
  | .inn, [a, b] => bR (inD a b)
  | .nin, [a, b] => bR ((inD a b).map not)
  | .ix, [a, b] => ixD a b
  | .isN, [a] => some (.p (.bl a.isNon))
  | .notN, [a] => some (.p (.bl (!a.isNon)))
  | .neg, [.int i] => some (.p (.int (-i)))
  | .len, [a] => (lenD a).map fun (n : Nat) => .p (.int n)
  | .max2, [.int i, .int j] => some (.p (.int (if j > i then j else i)))
  | .min2, [.int i, .int j] => some (.p (.int (if j < i then j else i)))
  | .int1, [.int i] => some (.p (.int i))
  | .int1, [.bl b] => some (.p (.int (if b then 1 else 0)))
  | .str1, [.int i] => if i.natAbs.log2 < 1920 then some (.p (.str (toString i))) else none
  | .isi T, [a] => (tyD a).bind fun t => bR (isiD t T)
  | .tuple1, [.lst xs] => some (.p (.tup xs))
  | .tuple1, [.tup xs] => some (.p (.tup xs))
  | .list1, [.lst xs] => some (.l xs)
  | .list1, [.tup xs] => some (.l xs)
  | .all1, [.lst xs] => (boolsD xs).map fun bs => .p (.bl (bs.all id))
  | .any1, [.lst xs] => (boolsD xs).map fun bs => .p (.bl (bs.any id))
  | .sum1, [.lst xs] => (intsD xs).map fun is => .p (.int is.sum)
  | .repr1, [a] => (reprD a).map fun s => .p (.str s)
  | .rev, [a] => revD a
  | .slO, [a] => slD a none none
  | .slA, [a, .int i] => slD a (some i) none
  | .slB, [a, .int i] => slD a none (some i)
  | .slAB, [a, .int i, .int j] => slD a (some i) (some j)
  | .join, [.str a, .lst xs] => (strsD xs).bind fun ys => if (ys.map fun y => y.length).sum + ys.length * a.length ≤ 16777216 then some (.p (.str (Txt.join a ys))) else none
  | _, _ => none

/-! ### the texts -/
inductive Pat where
  | s (i : Nat) | t (ps : List Pat)
  deriving Inhabited
inductive SrcK where
  | seq | rng | enum | zip | rev
inductive MOp where
  | append | extend | pop | popAt | clear | reverse
inductive E where
  | c (d : D) | v (i : Nat) | mov (i : Nat) | frz (i : Nat) | lend (i : Nat)
  | tup (es : List E) | lst (es : List E) | dic (ks : List D) (es : List E)
  | op (o : BOp) (es : List E)
  | and (a b : E) | or (a b : E) | not (a : E) | ite (c a b : E) | chain (o o' : BOp) (a b c : E)
  | call (f : Str) (es : List E)
  | mut (m : MOp) (i : Nat) (es : List E)
  | comp (own : List Nat) (k : SrcK) (src : List E) (p : Pat) (conds : List E) (elt : E)
  deriving Inhabited
inductive S where
  | set (i : Nat) (e : E) | setP (ps : List Pat) (e : E) | par (i j : Nat) (a b : E)
  | aug (o : BOp) (i : Nat) (e : E) | store (i : Nat) (k e : E)
  | ex (e : E) | ret (e : E) | retN | ite (c : E) (a b : List S)
  | for_ (k : SrcK) (src : List E) (p : Pat) (body : List S) | while_ (c : E) (body : List S)
  | brk | cont | pass
  deriving Inhabited
structure Fn where
  np : Nat
  ns : Nat
  fx : List Nat
  body : List S

/-! ### going -/
abbrev Env := List (Option R)
inductive Res (α : Type) where
  | ok (a : α) | exc (c : Str) (ns : List Str) (vs : List D) (ρ : Env) | stuck
def Res.bind {α β : Type} : Res α → (α → Res β) → Res β
  | .ok a, f => f a
  | .exc c ns vs ρ, _ => .exc c ns vs ρ
  | .stuck, _ => .stuck
inductive CRes where
  | ok (r : R) (outs : Env) | exc (c : Str) (ns : List Str) (vs : List D) (outs : Env) | stuck
inductive Out where
  | nx (ρ : Env) | ret (r : R) (ρ : Env) | bk (ρ : Env) | ct (ρ : Env) | exc (c : Str) (ns : List Str) (vs : List D) (ρ : Env) | stuck
abbrev Cl := Str → List R → CRes
/-- what an expression comes to: a thing, a name whose thing stands there, a name's own thing lent to a call -/
inductive Val where
  | val (r : R) | at (i : Nat) | lent (r : R) (i : Nat)
inductive Mode where
  | esc | opd | arg
def Env.gt (ρ : Env) (i : Nat) : Option R := ρ.getD i none
def Val.get (ρ : Env) : Val → Option D
  | .val r => some r.read
  | .at i => (ρ.gt i).map R.read
  | .lent _ _ => none
def gets (ρ : Env) : List Val → Option (List D)
  | [] => some []
  | o :: os => (o.get ρ).bind fun d => (gets ρ os).map fun ds => d :: ds
def Val.rd : Val → D
  | .val r => r.read
  | _ => .non
def Val.r : Val → R
  | .val r => r
  | .lent r _ => r
  | _ => .p .non
mutual
def bindP : Pat → D → Env → Option Env
  | .s i, x, ρ => some (ρ.set i (some (.p x)))
  | .t ps, .tup xs, ρ => bindPs ps xs ρ
  | _, _, _ => none
def bindPs : List Pat → List D → Env → Option Env
  | [], [], ρ => some ρ
  | p :: ps, x :: xs, ρ => (bindP p x ρ).bind fun ρ => bindPs ps xs ρ
  | _, _, _ => none
end
mutual
def patIn (own : List Nat) : Pat → Bool
  | .s i => own.contains i
  | .t ps => patsIn own ps
def patsIn (own : List Nat) : List Pat → Bool
  | [] => true
  | p :: ps => patIn own p && patsIn own ps
end
def wipeE (ρ : Env) : List Nat → Env
  | [] => ρ
  | i :: is => (wipeE ρ is).set i none
/-- a range's turns -/
def rangeD (lo : Int) (n : Nat) : List D := (List.range n).map fun (k : Nat) => .int (lo + k)
def enumD (k : Int) : List D → List D
  | [] => []
  | x :: xs => .tup [.int k, x] :: enumD (k + 1) xs
def zipD : List D → List D → List D
  | x :: xs, y :: ys => .tup [x, y] :: zipD xs ys
  | _, _ => []
def small62 (i : Int) : Bool := decide (-(2 ^ 62) ≤ i) && decide (i < 2 ^ 62)
def seqItems : List D → Option (List D)
  | [.lst xs] => some xs
  | [.tup xs] => some xs
  | [.str z] => some (z.cps.toList.map fun c => .str ⟨#[c]⟩)
  | _ => none
def rngItems : List D → Option (List D)
  | [.int j] => if small62 j then some (rangeD 0 j.toNat) else none
  | [.int i, .int j] => if small62 i && small62 j then some (rangeD i (j - i).toNat) else none
  | _ => none
def enumItems : List D → Option (List D)
  | [.lst xs] => some (enumD 0 xs)
  | _ => none
def zipItems : List D → Option (List D)
  | [.lst xs, .lst ys] => some (zipD xs ys)
  | _ => none
def revItems : List D → Option (List D)
  | [.lst xs] => some xs.reverse
  | _ => none
def srcItems : SrcK → List D → Option (List D)
  | .seq => seqItems
  | .rng => rngItems
  | .enum => enumItems
  | .zip => zipItems
  | .rev => revItems
/-- the names whose own things are walked: they are shut meanwhile -/
def locks (ρ : Env) : List Val → List (Nat × R)
  | [] => []
  | .at i :: os => match ρ.gt i with
    | some (.p _) => locks ρ os
    | some r => (i, r) :: locks (ρ.set i none) os
    | none => locks ρ os
  | _ :: os => locks ρ os
def lockE (ρ : Env) : List (Nat × R) → Env
  | [] => ρ
  | (i, _) :: l => lockE (ρ.set i none) l
def unlockE (ρ : Env) : List (Nat × R) → Env
  | [] => ρ
  | (i, r) :: l => (unlockE ρ l).set i (some r)
def giveBack (ρ : Env) : List Val → Env → Env
  | .lent _ i :: as, o :: os => (giveBack ρ as os).set i o
  | .val _ :: as, _ :: os => giveBack ρ as os
  | .at _ :: as, _ :: os => giveBack ρ as os
  | _, _ => ρ
def isPures (ρ : Env) (own : List Nat) : Bool := own.all fun i => match ρ.gt i with | none => true | some r => r.pure
def restore (ρ ρ0 : Env) : List Nat → Env
  | [] => ρ
  | i :: is => (restore ρ ρ0 is).set i (ρ0.gt i)
def opM : MOp → R → List D → Option (R × R)
  | .append, .l xs, [d] => if xs.length < sizeLine then some (.p .non, .l (xs ++ [d])) else none
  | .extend, .l xs, [.lst ys] => if xs.length + ys.length ≤ sizeLine then some (.p .non, .l (xs ++ ys)) else none
  | .pop, .l xs, [] => (xs[xs.length - 1]?).map fun y => (.p y, .l xs.dropLast)
  | .popAt, .l xs, [.int i] => if -(2 ^ 63) ≤ i ∧ i < 2 ^ 63 then (seqIndex? i xs.length).bind fun k => (xs[k]?).map fun y => (.p y, .l (xs.eraseIdx k)) else none
  | .clear, .l _, [] => some (.p .non, .l [])
  | .reverse, .l xs, [] => some (.p .non, .l xs.reverse)
  | _, _, _ => none
def MOp.keeps : MOp → Bool
  | .append => true
  | _ => false
def isKey : D → Bool
  | .int _ => true
  | .str _ => true
  | _ => false
def isLst : Option R → Bool
  | some (.l _) => true
  | _ => false
/-- the names' own things are lent when all arguments are there -/
def takeA : List Val → Env → Option (List Val × Env)
  | [], ρ => some ([], ρ)
  | .val r :: os, ρ => (takeA os ρ).map fun q => (.val r :: q.1, q.2)
  | .lent _ _ :: _, _ => none
  | .at i :: os, ρ => match ρ.gt i with
    | some (.p d) => (takeA os ρ).map fun q => (.val (.p d) :: q.1, q.2)
    | some r => (takeA os (ρ.set i none)).map fun q => (.lent r i :: q.1, q.2)
    | none => none
/-- a comprehension's turns -/
def compL (own : List Nat) (p : Pat) (cond : Env → Res (Bool × Env)) (elt : Env → Res (Val × Env)) : List D → Env → Res (List D × Env)
  | [], ρ => .ok ([], ρ)
  | x :: xs, ρ => match bindP p x (wipeE ρ own) with
    | none => .stuck
    | some ρ1 => match cond ρ1 with
      | .ok (true, ρ2) => (match elt ρ2 with
        | .ok (.val r, ρ3) => (compL own p cond elt xs ρ3).bind fun q => .ok (r.read :: q.1, q.2)
        | _ => .stuck)
      | .ok (false, ρ2) => compL own p cond elt xs ρ2
      | _ => .stuck
mutual
def ev (cl : Cl) (m : Mode) : E → Env → Res (Val × Env)
  | .c d, ρ => .ok (.val (.p d), ρ)
  | .v i, ρ => match m with
    | .opd => if (ρ.gt i).isSome then .ok (.at i, ρ) else .stuck
    | _ => match ρ.gt i with
      | some (.p d) => .ok (.val (.p d), ρ)
      | _ => .stuck
  | .mov i, ρ => match ρ.gt i with
    | some (.p d) => .ok (.val (.p d), ρ)
    | some r => .ok (.val r, ρ.set i none)
    | none => .stuck
  | .frz i, ρ => match ρ.gt i with
    | some r => .ok (.val (.p r.read), ρ.set i (some (.p r.read)))
    | none => .stuck
  | .lend i, ρ => match m with
    | .arg => if (ρ.gt i).isSome then .ok (.at i, ρ) else .stuck
    | _ => .stuck
  | .tup es, ρ => (evL cl .esc es ρ).bind fun q => if q.1.length ≤ sizeLine then .ok (.val (.p (.tup (q.1.map Val.rd))), q.2) else .stuck
  | .lst es, ρ => (evL cl .esc es ρ).bind fun q => if q.1.length ≤ sizeLine then .ok (.val (.l (q.1.map Val.rd)), q.2) else .stuck
  | .dic ks es, ρ => if ks.length = es.length ∧ ks.length ≤ 1 ∧ ks.all isKey then (evL cl .esc es ρ).bind fun q => .ok (.val (.m ks (q.1.map Val.rd)), q.2) else .stuck
  | .op o es, ρ => (evL cl .opd es ρ).bind fun q => match (gets q.2 q.1).bind (opB o) with
    | some r => .ok (.val r, q.2)
    | none => .stuck
  | .and a b, ρ => (ev cl .esc a ρ).bind fun q => match q.1 with
    | .val (.p (.bl true)) => ev cl .esc b q.2
    | .val (.p (.bl false)) => .ok (.val (.p (.bl false)), q.2)
    | _ => .stuck
  | .or a b, ρ => (ev cl .esc a ρ).bind fun q => match q.1 with
    | .val (.p (.bl true)) => .ok (.val (.p (.bl true)), q.2)
    | .val (.p (.bl false)) => ev cl .esc b q.2
    | _ => .stuck
  | .not a, ρ => (ev cl .esc a ρ).bind fun q => match q.1 with
    | .val (.p (.bl c)) => .ok (.val (.p (.bl (!c))), q.2)
    | _ => .stuck
  | .ite c a b, ρ => (ev cl .esc c ρ).bind fun q => match q.1 with
    | .val (.p (.bl true)) => ev cl .esc a q.2
    | .val (.p (.bl false)) => ev cl .esc b q.2
    | _ => .stuck
  | .chain o o' a b c, ρ => (ev cl .opd a ρ).bind fun qa => (ev cl .opd b qa.2).bind fun qb => match (gets qb.2 [qa.1, qb.1]).bind (opB o) with
    | some (.p (.bl true)) => (ev cl .opd c qb.2).bind fun qc => (match (gets qc.2 [qb.1, qc.1]).bind (opB o') with
      | some r => .ok (.val r, qc.2)
      | none => .stuck)
    | some (.p (.bl false)) => .ok (.val (.p (.bl false)), qb.2)
    | _ => .stuck
  | .call f es, ρ => (evL cl .arg es ρ).bind fun q => match takeA q.1 q.2 with
    | none => .stuck
    | some t => match cl f (t.1.map Val.r) with
      | .ok r outs => .ok (.val r, giveBack t.2 t.1 outs)
      | .exc c ns vs outs => .exc c ns vs (giveBack t.2 t.1 outs)
      | .stuck => .stuck
  | .mut m i es, ρ => if !(isLst (ρ.gt i)) then .stuck else
      (evL cl (if m.keeps then .esc else .opd) es ρ).bind fun q => match (q.2.gt i).bind fun r => (gets q.2 q.1).bind (opM m r) with
        | some (r, r') => .ok (.val r, q.2.set i (some r'))
        | none => .stuck
  | .comp own k src p conds elt, ρ => (evL cl .opd src ρ).bind fun q => match (gets q.2 q.1).bind (srcItems k) with
    | none => .stuck
    | some items =>
      if isPures q.2 own && patIn own p then
        match compL own p (fun ρ => evTs cl conds ρ) (fun ρ => ev cl .esc elt ρ) items (lockE q.2 (locks q.2 q.1)) with
        | .ok (ds, ρ') => if ds.length ≤ sizeLine then .ok (.val (.l ds), unlockE (restore (wipeE ρ' own) q.2 own) (locks q.2 q.1)) else .stuck
        | _ => .stuck
      else .stuck
def evL (cl : Cl) (m : Mode) : List E → Env → Res (List Val × Env)
  | [], ρ => .ok ([], ρ)
  | e :: es, ρ => (ev cl m e ρ).bind fun q => (evL cl m es q.2).bind fun q' => .ok (q.1 :: q'.1, q'.2)
/-- a condition, or none -/
def evTs (cl : Cl) : List E → Env → Res (Bool × Env)
  | [], ρ => .ok (true, ρ)
  | e :: es, ρ => match es with
    | [] => (ev cl .esc e ρ).bind fun q => (match q.1 with
      | .val (.p (.bl b)) => .ok (b, q.2)
      | _ => .stuck)
    | _ :: _ => .stuck
end
def toB (q : Val × Env) : Res (Bool × Env) := match q.1 with
  | .val (.p (.bl b)) => .ok (b, q.2)
  | _ => .stuck
def Out.un (l : List (Nat × R)) : Out → Out
  | .nx ρ => .nx (unlockE ρ l)
  | .ret r ρ => .ret r (unlockE ρ l)
  | .exc c ns vs ρ => .exc c ns vs (unlockE ρ l)
  | o => o
def Out.ofRes {α : Type} : Res α → (α → Out) → Out
  | .ok a, f => f a
  | .exc c ns vs ρ, _ => .exc c ns vs ρ
  | .stuck, _ => .stuck
def forL (p : Pat) (body : Env → Out) : List D → Env → Out
  | [], ρ => .nx ρ
  | x :: xs, ρ => match bindP p x ρ with
    | none => .stuck
    | some ρ1 => match body ρ1 with
      | .nx ρ2 => forL p body xs ρ2
      | .ct ρ2 => forL p body xs ρ2
      | .bk ρ2 => .nx ρ2
      | o => o
def whileL (cond : Env → Res (Bool × Env)) (body : Env → Out) : Nat → Env → Out
  | 0, _ => .stuck
  | n + 1, ρ => Out.ofRes (cond ρ) fun q => if q.1 then (match body q.2 with
      | .nx ρ2 => whileL cond body n ρ2
      | .ct ρ2 => whileL cond body n ρ2
      | .bk ρ2 => .nx ρ2
      | o => o) else .nx q.2
def free (fx : List Nat) (i : Nat) : Bool := !(fx.contains i)
def lockF (fx : List Nat) (l : List (Nat × R)) : List Nat := l.map (·.1) ++ fx
mutual
def freeP (fx : List Nat) : Pat → Bool
  | .s i => free fx i
  | .t ps => freePs fx ps
def freePs (fx : List Nat) : List Pat → Bool
  | [] => true
  | p :: ps => freeP fx p && freePs fx ps
end
/-- how many turns a while may take here -/
def WF : Nat := 1000000
def storeD (r : R) (k : D) (d : D) : Option R := match r, k with
  | .l xs, .int i => (ixN xs.length i).map fun j => .l (xs.set j d)
  | _, _ => none
mutual
def evS (cl : Cl) (fx : List Nat) : S → Env → Out
  | .set i e, ρ => if free fx i then Out.ofRes (ev cl .esc e ρ) fun q => .nx (q.2.set i (some q.1.r)) else .stuck
  | .setP ps e, ρ => if freePs fx ps then Out.ofRes (ev cl .esc e ρ) fun q => match q.1 with
      | .val (.p (.tup xs)) => (match bindPs ps xs q.2 with
        | some ρ' => .nx ρ'
        | none => .stuck)
      | _ => .stuck
    else .stuck
  | .par i j a b, ρ => if free fx i && free fx j then Out.ofRes (ev cl .esc a ρ) fun q => Out.ofRes (ev cl .esc b q.2) fun q' => .nx ((q'.2.set i (some q.1.r)).set j (some q'.1.r)) else .stuck
  | .aug o i e, ρ => if free fx i then (match ρ.gt i with
      | some (.p (.int x)) => Out.ofRes (ev cl .esc e ρ) fun q => (match q.1 with
        | .val (.p (.int y)) => (match o with
          | .add => .nx (q.2.set i (some (.p (.int (x + y)))))
          | .sub => .nx (q.2.set i (some (.p (.int (x - y)))))
          | _ => .stuck)
        | _ => .stuck)
      | _ => .stuck)
    else .stuck
  | .store i k e, ρ => if !(isLst (ρ.gt i)) then .stuck else Out.ofRes (ev cl .esc e ρ) fun q => Out.ofRes (ev cl .opd k q.2) fun q' => match (q'.1.get q'.2).bind fun kd => (q'.2.gt i).bind fun r => storeD r kd q.1.rd with
      | some r' => .nx (q'.2.set i (some r'))
      | none => .stuck
  | .ex e, ρ => Out.ofRes (ev cl .esc e ρ) fun q => .nx q.2
  | .ret e, ρ => Out.ofRes (ev cl .esc e ρ) fun q => .ret q.1.r q.2
  | .retN, ρ => .ret (.p .non) ρ
  | .ite c a b, ρ => Out.ofRes (evTs cl [c] ρ) fun q => if q.1 then evSs cl fx a q.2 else evSs cl fx b q.2
  | .for_ k src p body, ρ => Out.ofRes (evL cl .opd src ρ) fun q => match (gets q.2 q.1).bind (srcItems k) with
      | none => .stuck
      | some items => if freeP (lockF fx (locks q.2 q.1)) p then (forL p (fun ρ => evSs cl (lockF fx (locks q.2 q.1)) body ρ) items (lockE q.2 (locks q.2 q.1))).un (locks q.2 q.1) else .stuck
  | .while_ c body, ρ => whileL (fun ρ => evTs cl [c] ρ) (fun ρ => evSs cl fx body ρ) WF ρ
  | .brk, ρ => .bk ρ
  | .cont, ρ => .ct ρ
  | .pass, ρ => .nx ρ
def evSs (cl : Cl) (fx : List Nat) : List S → Env → Out
  | [], ρ => .nx ρ
  | s :: ss, ρ => match evS cl fx s ρ with
    | .nx ρ' => evSs cl fx ss ρ'
    | o => o
end
/-- only a name that is never stored again may bear the caller's own thing -/
def lentOk (fx : List Nat) : Nat → List R → Bool
  | _, [] => true
  | k, r :: rs => (r.pure || fx.contains k) && lentOk fx (k + 1) rs
/-- the parameters' own things as they stand at the end -/
def outsOf (fx : List Nat) : Nat → Nat → Env → Env
  | _, 0, _ => []
  | k, n + 1, [] => none :: outsOf fx (k + 1) n []
  | k, n + 1, o :: ρ => (if fx.contains k then o else none) :: outsOf fx (k + 1) n ρ
def Fn.run (fn : Fn) (cl : Cl) (args : List R) : CRes :=
  if args.length = fn.np && lentOk fn.fx 0 args then
    match evSs cl fn.fx fn.body (args.map some ++ List.replicate (fn.ns - fn.np) none) with
    | .nx ρ => .ok (.p .non) (outsOf fn.fx 0 fn.np ρ)
    | .ret r ρ => .ok r (outsOf fn.fx 0 fn.np ρ)
    | .exc c ns vs ρ => .exc c ns vs (outsOf fn.fx 0 fn.np ρ)
    | _ => .stuck
  else .stuck
def callN (tbl : List (Str × Fn)) : Nat → Cl
  | 0, _, _ => .stuck
  | n + 1, f, args => match tbl.lookup f with
    | some fn => fn.run (callN tbl n) args
    | none => .stuck
end VB
set_option Elab.async false
set_option linter.all false
set_option maxRecDepth 100000
/-! what of the heap bears plain data; what is one's own -/
namespace VB
open PySem PySem.Spec L2
open PyProof.Rows hiding St

abbrev Fp := Addr → Nat
def Fp.zero : Fp := fun _ => 0
def Fp.one (a : Addr) : Fp := fun b => if b = a then 1 else 0
def Fp.add (f g : Fp) : Fp := fun a => f a + g a
theorem Fp.ext {f g : Fp} (h : ∀ a, f a = g a) : f = g := funext h
@[simp] theorem Fp.add_at (f g : Fp) (a : Addr) : Fp.add f g a = f a + g a := rfl
@[simp] theorem Fp.zero_at (a : Addr) : Fp.zero a = 0 := rfl
theorem Fp.add_zero (f : Fp) : Fp.add f Fp.zero = f := rfl
theorem Fp.zero_add (f : Fp) : Fp.add Fp.zero f = f := funext fun a => Nat.zero_add _
theorem Fp.add_comm (f g : Fp) : Fp.add f g = Fp.add g f := funext fun a => Nat.add_comm _ _
theorem Fp.add_assoc (f g h : Fp) : Fp.add (Fp.add f g) h = Fp.add f (Fp.add g h) := funext fun a => Nat.add_assoc _ _ _
theorem Fp.one_at (a : Addr) : Fp.one a a = 1 := if_pos rfl
theorem Fp.one_ne {a b : Addr} (h : b ≠ a) : Fp.one a b = 0 := if_neg h

abbrev Zn := Addr → Prop
/-- the world of a law: what its text has written, where its own names lead -/
structure Wd where
  K : PySem.W.Frag
  ga : Str → Option Addr

/-- a tuple of the written part -/
def KTup (K : PySem.W.Frag) (a : Addr) (xs : List V) : Prop :=
  ∃ (o : Obj) (its : Array Value) (n : Nat), K.lookup a = some o ∧ o.cls = .type "tuple" ∧ o.dict = none ∧ o.data = .seq its n ∧ its.size ≤ sizeLine ∧ Vals xs its.toList
theorem KTup.seq {K : PySem.W.Frag} {a : Addr} {xs : List V} (h : KTup K a xs) (H : Hp) : SqT K H a xs :=
  let ⟨o, its, n, a1, a2, _, a3, a4, a5⟩ := h
  .inr ⟨o, its, n, a1, a2, a3, a4, a5⟩

/-- a list of the written part -/
def KLst (K : PySem.W.Frag) (a : Addr) (xs : List V) : Prop := ∀ H : Hp, SqL K H a xs
mutual
inductive Rep (w : Wd) (H : Hp) (Z : Zn) : V → D → Prop
  | non : Rep w H Z .non .non
  | bl (b : Bool) : Rep w H Z (.bl b) (.bl b)
  | int (i : Int) : Rep w H Z (.int i) (.int i)
  | str (s : Str) : Rep w H Z (.str s) (.str s)
  | tup {a : Addr} {vs : List V} {ds : List D} : H a = some (.tup vs) → Z a → Reps w H Z vs ds → Rep w H Z (.ref a) (.tup ds)
  | lst {a : Addr} {vs : List V} {ds : List D} : H a = some (.lst vs) → Z a → Reps w H Z vs ds → Rep w H Z (.ref a) (.lst ds)
  | frz {a : Addr} {o : Obj} {vs : List V} {ds : List D} : H a = some (.frz o (.lst vs)) → Z a → Reps w H Z vs ds → Rep w H Z (.ref a) (.scr ds)
  | sll {a : Addr} {vs : List V} {ds : List D} : H a = some (.lst vs) → Z a → Reps w H Z vs ds → Rep w H Z (.ref a) (.scr ds)
  | kl {a : Addr} {o : Obj} {vs : List V} {ds : List D} : KLst w.K a vs → w.K.lookup a = some o → o.cls = .type "list" → Reps w H Z vs ds → Rep w H Z (.ref a) (.scr ds)
  | kt {a : Addr} {vs : List V} {ds : List D} : KTup w.K a vs → Reps w H Z vs ds → Rep w H Z (.ref a) (.tup ds)
  | dic {a : Addr} {kvs : List (Key × V)} {ds : List D} : H a = some (.dK kvs) → Z a → Reps w H Z (kvs.map (·.2)) ds → Rep w H Z (.ref a) (.dic (kvs.map fun p => keyD p.1) ds)
  | fn {x : Str} {a : Addr} : w.ga x = some a → Rep w H Z (.ref a) (.fn x)
inductive Reps (w : Wd) (H : Hp) (Z : Zn) : List V → List D → Prop
  | nil : Reps w H Z [] []
  | cons {v : V} {d : D} {vs : List V} {ds : List D} : Rep w H Z v d → Reps w H Z vs ds → Reps w H Z (v :: vs) (d :: ds)
end

/-- what was there and is nobody's to change is as it was -/
def Kept (H : Hp) (Z : Zn) (H' : Hp) (Z' : Zn) : Prop := (∀ a o, Z a → H a = some o → H' a = some o) ∧ ∀ a, Z a → Z' a
mutual
theorem Rep.kept {w : Wd} {H H' : Hp} {Z Z' : Zn} (k : Kept H Z H' Z') : ∀ {v : V} {d : D}, Rep w H Z v d → Rep w H' Z' v d
  | _, _, .non => .non
  | _, _, .bl b => .bl b
  | _, _, .int i => .int i
  | _, _, .str s => .str s
  | _, _, .tup h z r => .tup (k.1 _ _ z h) (k.2 _ z) (Reps.kept k r)
  | _, _, .lst h z r => .lst (k.1 _ _ z h) (k.2 _ z) (Reps.kept k r)
  | _, _, .frz h z r => .frz (k.1 _ _ z h) (k.2 _ z) (Reps.kept k r)
  | _, _, .sll h z r => .sll (k.1 _ _ z h) (k.2 _ z) (Reps.kept k r)
  | _, _, .kl h a b r => .kl h a b (Reps.kept k r)
  | _, _, .kt h r => .kt h (Reps.kept k r)
  | _, _, .dic h z r => .dic (k.1 _ _ z h) (k.2 _ z) (Reps.kept k r)
  | _, _, .fn h => .fn h
theorem Reps.kept {w : Wd} {H H' : Hp} {Z Z' : Zn} (k : Kept H Z H' Z') : ∀ {vs : List V} {ds : List D}, Reps w H Z vs ds → Reps w H' Z' vs ds
  | _, _, .nil => .nil
  | _, _, .cons r rs => .cons (Rep.kept k r) (Reps.kept k rs)
end

/-- a value with what is its own -/
inductive RepR (w : Wd) (H : Hp) (Z : Zn) : V → R → Fp → Prop
  | p {v : V} {d : D} : Rep w H Z v d → RepR w H Z v (.p d) Fp.zero
  | l {a : Addr} {vs : List V} {ds : List D} : H a = some (.lst vs) → Reps w H Z vs ds → RepR w H Z (.ref a) (.l ds) (Fp.one a)
  | m {a : Addr} {kvs : List (Key × V)} {ds : List D} : H a = some (.dK kvs) → Reps w H Z (kvs.map (·.2)) ds → RepR w H Z (.ref a) (.m (kvs.map fun p => keyD p.1) ds) (Fp.one a)

/-- the names -/
inductive RepE (w : Wd) (H : Hp) (Z : Zn) : St → Env → Fp → Prop
  | nil : RepE w H Z [] [] Fp.zero
  | no {x : Option V} {σ : St} {ρ : Env} {φ : Fp} : RepE w H Z σ ρ φ → RepE w H Z (x :: σ) (.none :: ρ) φ
  | so {v : V} {r : R} {σ : St} {ρ : Env} {φ1 φ : Fp} : RepR w H Z v r φ1 → RepE w H Z σ ρ φ → RepE w H Z (.some v :: σ) (.some r :: ρ) (Fp.add φ1 φ)

structure Good (H : Hp) (Z : Zn) (φ : Fp) : Prop where
  z : ∀ a, Z a → H a ≠ none
  o : ∀ a, φ a ≠ 0 → H a ≠ none
  d : ∀ a, Z a → φ a = 0
  u : ∀ a, φ a ≤ 1
structure Step (H : Hp) (Z : Zn) (φ : Fp) (H' : Hp) (Z' : Zn) (φ' : Fp) : Prop where
  keep : ∀ a o, H a = some o → φ a = 0 → H' a = some o
  zs : ∀ a, Z a → Z' a
  fr : ∀ a, H a ≠ none → φ a = 0 → φ' a = 0 ∧ (Z' a → Z a)

section
variable {w : Wd} {H H1 H2 H' : Hp} {Z Z1 Z2 Z' : Zn} {φ φ1 φ2 φ' ψ : Fp}
theorem Step.refl : Step H Z φ H Z φ := ⟨fun _ _ h _ => h, fun _ h => h, fun _ _ h => ⟨h, fun z => z⟩⟩
theorem Step.le (h : ∀ a, φ' a ≤ φ a) : Step H Z φ H Z φ' := ⟨fun _ _ h _ => h, fun _ h => h, fun a _ e => ⟨by have := h a; omega, fun z => z⟩⟩
theorem Step.trans (a : Step H Z φ H1 Z1 φ1) (b : Step H1 Z1 φ1 H2 Z2 φ2) : Step H Z φ H2 Z2 φ2 := by
  refine ⟨fun c o h e => ?_, fun c z => b.zs c (a.zs c z), fun c h e => ?_⟩
  · have hn : H c ≠ none := by rw [h]; exact fun q => nomatch q
    exact b.keep c o (a.keep c o h e) (a.fr c hn e).1
  · obtain ⟨e1, z1⟩ := a.fr c h e
    obtain ⟨o, ho⟩ := Option.ne_none_iff_exists'.mp h
    have h1 : H1 c ≠ none := by rw [a.keep c o ho e]; exact fun q => nomatch q
    obtain ⟨e2, z2⟩ := b.fr c h1 e1
    exact ⟨e2, fun z => z1 (z2 z)⟩
theorem Good.le (g : Good H Z φ) (h : ∀ a, φ' a ≤ φ a) : Good H Z φ' :=
  ⟨g.z, fun a e => g.o a (by have := h a; omega), fun a z => by have := h a; have := g.d a z; omega, fun a => by have := h a; have := g.u a; omega⟩
theorem Good.l (g : Good H Z (Fp.add φ ψ)) : Good H Z φ := g.le fun a => by simp
theorem Good.r (g : Good H Z (Fp.add φ ψ)) : Good H Z ψ := g.le fun a => by simp
/-- the frame: what is another's own stands beside -/
theorem Good.frame (g : Good H Z (Fp.add φ ψ)) (s : Step H Z φ H' Z' φ') (g' : Good H' Z' φ') : Good H' Z' (Fp.add φ' ψ) := by
  have key : ∀ a, ψ a ≠ 0 → φ a = 0 ∧ H a ≠ none ∧ ¬ Z a := fun a e => by
    have u := g.u a
    simp only [Fp.add_at] at u
    refine ⟨by omega, g.o a (by simp only [Fp.add_at]; omega), fun z => ?_⟩
    have := g.d a z
    simp only [Fp.add_at] at this; omega
  refine ⟨g'.z, fun a e => ?_, fun a z => ?_, fun a => ?_⟩
  · by_cases h : ψ a = 0
    · exact g'.o a (by simp only [Fp.add_at] at e; omega)
    · obtain ⟨k1, k2, _⟩ := key a h
      obtain ⟨o, ho⟩ := Option.ne_none_iff_exists'.mp k2
      rw [s.keep a o ho k1]; exact fun q => nomatch q
  · by_cases h : ψ a = 0
    · have := g'.d a z; simp only [Fp.add_at]; omega
    · obtain ⟨k1, k2, k3⟩ := key a h
      exact absurd ((s.fr a k2 k1).2 z) k3
  · by_cases h : ψ a = 0
    · have := g'.u a; simp only [Fp.add_at]; omega
    · obtain ⟨k1, k2, _⟩ := key a h
      have := (s.fr a k2 k1).1
      have u := g.u a
      simp only [Fp.add_at] at u ⊢; omega
theorem Step.frame (s : Step H Z φ H' Z' φ') : Step H Z (Fp.add φ ψ) H' Z' (Fp.add φ' ψ) :=
  ⟨fun a o h e => s.keep a o h (by simp only [Fp.add_at] at e; omega), s.zs, fun a h e => by
    simp only [Fp.add_at] at e ⊢
    obtain ⟨x, y⟩ := s.fr a h (by omega)
    exact ⟨by omega, y⟩⟩
theorem Step.kept (g : Good H Z φ) (s : Step H Z φ H' Z' φ') : Kept H Z H' Z' := ⟨fun a o z h => s.keep a o h (g.d a z), s.zs⟩
theorem RepR.frame {v : V} {r : R} (g : Good H Z (Fp.add φ ψ)) (s : Step H Z φ H' Z' φ') (h : RepR w H Z v r ψ) : RepR w H' Z' v r ψ := by
  have k := s.kept g.l
  have own : ∀ a, ψ a = 1 → φ a = 0 := fun a e => by have := g.u a; simp only [Fp.add_at] at this; omega
  cases h with
  | p h => exact .p (h.kept k)
  | l h rs => exact .l (s.keep _ _ h (own _ (Fp.one_at _))) (rs.kept k)
  | m h rs => exact .m (s.keep _ _ h (own _ (Fp.one_at _))) (rs.kept k)
theorem RepE.frame (s : Step H Z φ H' Z' φ') {σ : St} {ρ : Env} {f : Fp} (g : Good H Z (Fp.add φ f)) (h : RepE w H Z σ ρ f) : RepE w H' Z' σ ρ f := by
  induction h with
  | nil => exact .nil
  | no h ih => exact .no (ih g)
  | @so v r σ ρ f1 f2 hr h ih =>
    have g1 : Good H Z (Fp.add φ f1) := g.le fun a => by simp only [Fp.add_at]; omega
    have g2 : Good H Z (Fp.add φ f2) := g.le fun a => by simp only [Fp.add_at]; omega
    exact .so (RepR.frame g1 s hr) (ih g2)
theorem RepE.length : ∀ {σ : St} {ρ : Env} {φ : Fp}, RepE w H Z σ ρ φ → σ.length = ρ.length
  | _, _, _, .nil => rfl
  | _, _, _, .no h => congrArg (· + 1) h.length
  | _, _, _, .so _ h => congrArg (· + 1) h.length
/-- a name's own value, and the others -/
theorem RepE.at : ∀ {σ : St} {ρ : Env} {φ : Fp} {i : Nat} {r : R}, RepE w H Z σ ρ φ → ρ.gt i = some r →
    ∃ v φ1 φ2, σ[i]? = some (some v) ∧ RepR w H Z v r φ1 ∧ φ = Fp.add φ1 φ2 ∧ RepE w H Z σ (ρ.set i none) φ2
  | _, _, _, i, _, .nil, e => by simp [Env.gt] at e
  | _, _, _, 0, _, .no h, e => by simp [Env.gt] at e
  | _, _, _, 0, _, .so (v := v) r h, e => by
    simp [Env.gt] at e; subst e
    exact ⟨v, _, _, rfl, r, rfl, .no h⟩
  | _, _, _, i + 1, _, .no h, e => by
    obtain ⟨v, f1, f2, a, b, c, d⟩ := RepE.at (i := i) h (by simpa [Env.gt] using e)
    exact ⟨v, f1, f2, by simpa using a, b, c, .no d⟩
  | _, _, _, i + 1, _, .so (φ1 := φ1) r h, e => by
    obtain ⟨v, f1, f2, a, b, c, d⟩ := RepE.at (i := i) h (by simpa [Env.gt] using e)
    refine ⟨v, f1, Fp.add φ1 f2, by simpa using a, b, ?_, .so r d⟩
    subst c
    exact Fp.ext fun x => by simp only [Fp.add_at]; omega
/-- a name's value forgotten -/
theorem RepE.drop : ∀ {σ : St} {ρ : Env} {φ : Fp} (i : Nat), RepE w H Z σ ρ φ → ∃ φ', (∀ a, φ' a ≤ φ a) ∧ RepE w H Z σ (ρ.set i none) φ'
  | _, _, _, _, .nil => ⟨_, fun _ => Nat.le_refl _, .nil⟩
  | _, _, φ, 0, .no h => ⟨φ, fun _ => Nat.le_refl _, .no h⟩
  | _, _, _, 0, .so (φ := φ) r h => ⟨φ, fun a => by simp, .no h⟩
  | _, _, _, i + 1, .no h => by
    obtain ⟨f, a, b⟩ := RepE.drop i h
    exact ⟨f, a, .no b⟩
  | _, _, _, i + 1, .so (φ1 := φ1) r h => by
    obtain ⟨f, a, b⟩ := RepE.drop i h
    exact ⟨Fp.add φ1 f, fun x => by have := a x; simp only [Fp.add_at]; omega, .so r b⟩
/-- a name stored -/
theorem RepE.put : ∀ {σ : St} {ρ : Env} {φ φ1 : Fp} {i : Nat} {v : V} {r : R}, RepE w H Z σ ρ φ → RepR w H Z v r φ1 → i < σ.length →
    ∃ φ', (∀ a, φ' a ≤ φ1 a + φ a) ∧ RepE w H Z (σ.set i (some v)) (ρ.set i (some r)) φ'
  | _, _, _, _, i, _, _, .nil, _, hi => by simp at hi
  | _, _, φ, φ1, 0, _, _, .no h, r, _ => ⟨Fp.add φ1 φ, fun _ => Nat.le_refl _, .so r h⟩
  | _, _, _, φ1, 0, _, _, .so (φ := φ) _ h, r, _ => ⟨Fp.add φ1 φ, fun a => by simp only [Fp.add_at]; omega, .so r h⟩
  | _, _, _, _, i + 1, _, _, .no h, r, hi => by
    obtain ⟨f, a, b⟩ := RepE.put (i := i) h r (by simpa using hi)
    exact ⟨f, a, .no b⟩
  | _, _, _, _, i + 1, _, _, .so (φ1 := φ0) r0 h, r, hi => by
    obtain ⟨f, a, b⟩ := RepE.put (i := i) h r (by simpa using hi)
    exact ⟨Fp.add φ0 f, fun x => by have := a x; simp only [Fp.add_at]; omega, .so r0 b⟩
/-- .. where the slot holds that value already -/
theorem RepE.back : ∀ {σ : St} {ρ : Env} {φ φ1 : Fp} {i : Nat} {v : V} {r : R}, RepE w H Z σ ρ φ → RepR w H Z v r φ1 → σ[i]? = some (some v) →
    ∃ φ', (∀ a, φ' a ≤ φ1 a + φ a) ∧ RepE w H Z σ (ρ.set i (some r)) φ' := fun {σ ρ φ φ1 i v r} h hr e => by
  have hi : i < σ.length := (List.getElem?_eq_some_iff.mp e).1
  obtain ⟨f, a, b⟩ := RepE.put (i := i) h hr hi
  have : σ.set i (some v) = σ := by
    apply List.ext_getElem?
    intro k
    rw [List.getElem?_set]
    split
    · rename_i hk; subst hk; rw [e]
    · rfl
  rw [this] at b
  exact ⟨f, a, b⟩
/-- a slot of no known value may hold anything -/
theorem RepE.any : ∀ {σ : St} {ρ : Env} {φ : Fp} {i : Nat} {x : Option V}, RepE w H Z σ ρ φ → ∃ φ', (∀ a, φ' a ≤ φ a) ∧ RepE w H Z (σ.set i x) (ρ.set i none) φ'
  | _, _, _, _, _, .nil => ⟨_, fun _ => Nat.le_refl _, .nil⟩
  | _, _, φ, 0, _, .no h => ⟨φ, fun _ => Nat.le_refl _, .no h⟩
  | _, _, _, 0, _, .so (φ := φ) r h => ⟨φ, fun a => by simp, .no h⟩
  | _, _, _, i + 1, x, .no h => by
    obtain ⟨f, a, b⟩ := RepE.any (i := i) (x := x) h
    exact ⟨f, a, .no b⟩
  | _, _, _, i + 1, x, .so (φ1 := φ1) r h => by
    obtain ⟨f, a, b⟩ := RepE.any (i := i) (x := x) h
    exact ⟨Fp.add φ1 f, fun y => by have := a y; simp only [Fp.add_at]; omega, .so r b⟩
/-- what is told to be plain from now on -/
theorem RepR.freeze {v : V} {r : R} (h : RepR w H Z v r φ) : Rep w H (fun a => Z a ∨ φ a ≠ 0) v r.read := by
  have k : Kept H Z H (fun a => Z a ∨ φ a ≠ 0) := ⟨fun _ _ _ h => h, fun _ z => .inl z⟩
  cases h with
  | p h => exact h.kept k
  | l h rs => exact .lst h (.inr (by rw [Fp.one_at]; exact Nat.one_ne_zero)) (rs.kept k)
  | m h rs => exact .dic h (.inr (by rw [Fp.one_at]; exact Nat.one_ne_zero)) (rs.kept k)
theorem Good.freeze (g : Good H Z (Fp.add φ ψ)) : Good H (fun a => Z a ∨ φ a ≠ 0) ψ := by
  refine ⟨fun a z => ?_, fun a e => g.o a (by simp only [Fp.add_at]; omega), fun a z => ?_, fun a => g.r.u a⟩
  · rcases z with z | z
    · exact g.z a z
    · exact g.o a (by simp only [Fp.add_at]; omega)
  · rcases z with z | z
    · have := g.d a z; simp only [Fp.add_at] at this; omega
    · have := g.u a; simp only [Fp.add_at] at this; omega
theorem Step.freeze : Step H Z (Fp.add φ ψ) H (fun a => Z a ∨ φ a ≠ 0) ψ :=
  ⟨fun _ _ h _ => h, fun _ z => .inl z, fun a _ e => by
    simp only [Fp.add_at] at e
    exact ⟨by omega, fun z => z.elim id fun z => absurd (by omega) z⟩⟩
/-- a new object -/
theorem Step.newZ {p : Addr} {o : HO} (hp : H p = none) : Step H Z φ (upd H p o) (fun a => Z a ∨ a = p) φ :=
  ⟨fun a x h _ => by rw [upd_ne (ne_of_none h hp)]; exact h, fun _ z => .inl z, fun a h e => ⟨e, fun z => z.elim id fun q => by subst q; exact absurd hp h⟩⟩
theorem Good.newZ {p : Addr} {o : HO} (g : Good H Z φ) (hp : H p = none) : Good (upd H p o) (fun a => Z a ∨ a = p) φ := by
  have hn : ∀ a, H a ≠ none → upd H p o a ≠ none := fun a h => by
    by_cases e : a = p
    · subst e; rw [upd_same]; exact fun q => nomatch q
    · rw [upd_ne e]; exact h
  refine ⟨fun a z => ?_, fun a e => hn a (g.o a e), fun a z => ?_, g.u⟩
  · rcases z with z | z
    · exact hn a (g.z a z)
    · subst z; rw [upd_same]; exact fun q => nomatch q
  · rcases z with z | z
    · exact g.d a z
    · subst z
      exact Classical.byContradiction fun e => g.o _ e hp
theorem Step.newO {p : Addr} {o : HO} (hp : H p = none) : Step H Z φ (upd H p o) Z (Fp.add (Fp.one p) φ) :=
  ⟨fun a x h _ => by rw [upd_ne (ne_of_none h hp)]; exact h, fun _ z => z, fun a h e => ⟨by
    simp only [Fp.add_at]
    rw [Fp.one_ne (fun q => by subst q; exact h hp)]; omega, fun z => z⟩⟩
theorem Good.newO {p : Addr} {o : HO} (g : Good H Z φ) (hp : H p = none) : Good (upd H p o) Z (Fp.add (Fp.one p) φ) := by
  have hn : ∀ a, H a ≠ none → upd H p o a ≠ none := fun a h => by
    by_cases e : a = p
    · subst e; rw [upd_same]; exact fun q => nomatch q
    · rw [upd_ne e]; exact h
  have h0 : φ p = 0 := Classical.byContradiction fun e => g.o _ e hp
  refine ⟨fun a z => hn a (g.z a z), fun a e => ?_, fun a z => ?_, fun a => ?_⟩
  · by_cases q : a = p
    · subst q; rw [upd_same]; exact fun q => nomatch q
    · exact hn a (g.o a (by simp only [Fp.add_at, Fp.one_ne q] at e; omega))
  · have q : a ≠ p := fun q => by subst q; exact g.z _ z hp
    have := g.d a z
    simp only [Fp.add_at, Fp.one_ne q]; omega
  · by_cases q : a = p
    · subst q; simp only [Fp.add_at, Fp.one_at, h0]; omega
    · have := g.u a; simp only [Fp.add_at, Fp.one_ne q]; omega
/-- one's own object is changed -/
theorem Step.write {p : Addr} {o : HO} (h1 : φ p ≠ 0) : Step H Z φ (upd H p o) Z φ :=
  ⟨fun a x h e => by rw [upd_ne (fun q => by subst q; exact h1 e)]; exact h, fun _ z => z, fun a h e => ⟨e, fun z => z⟩⟩
theorem Good.write {p : Addr} {o : HO} (g : Good H Z φ) : Good (upd H p o) Z φ := by
  have hn : ∀ a, H a ≠ none → upd H p o a ≠ none := fun a h => by
    by_cases e : a = p
    · subst e; rw [upd_same]; exact fun q => nomatch q
    · rw [upd_ne e]; exact h
  exact ⟨fun a z => hn a (g.z a z), fun a e => hn a (g.o a e), g.d, g.u⟩
end
end VB
set_option Elab.async false
set_option linter.all false
set_option maxRecDepth 100000
set_option maxHeartbeats 4000000
/-! defs that run where nothing is being shown: what repr asks -/
namespace VB
open PySem PySem.Spec L2
open PyProof.Rows hiding St

/-- a def's promise, wherever no repr is under way -/
structure FnG (P : Program) (w : World) (K : PySem.W.Frag) (mg : Str → Option Value) (base : Heap) (CX : CXT) (k : Nat)
    (f : Addr) (fd : FuncData) (ps : List Str) (sp : Sp) : Prop where
  ln : ∀ vs H Q E, sp vs H Q E → vs.length = ps.length
  go : ∀ (A : Around) (out : List PySem.Env) (t : Shared) (H : Hp) (ar : Args) (us : List Value) (vs : List V) (Q : VK) (E : XK),
    Room k A → A.guards = some [] → Env0 P w K mg base A out t H → BindsTo t fd ar (ps.zip us) → Vals vs us → sp vs H Q E →
    codeAny (model P w) A (.call (.ref f) ar) (CR CX out P w H t Q E) t

section
variable {P : Program} {w : World} {K : PySem.W.Frag} {mg : Str → Option Value} {base : Heap} {CX : CXT} {k : Nat} {f : Addr} {fd : FuncData} {N ps : List Str} {sp : Sp} {x qual : Str} {params : Arguments} {body : List Stmt} {scope : Scope}
theorem FnG.mono {j : Nat} (F : FnG P w K mg base CX j f fd ps sp) (h : j ≤ k) : FnG P w K mg base CX k f fd ps sp :=
  ⟨F.ln, fun A out t H ar us vs Q E r g => F.go A out t H ar us vs Q E (r.mono h) g⟩
/-- a def by its body -/
theorem fnG_of (F : FunD K x qual params body scope [] [] f fd) (S : FnScope N ps scope) (ln : ∀ vs H Q E, sp vs H Q E → vs.length = ps.length)
    (hb : ∀ (cdv : Value) (A : Around) (out : List PySem.Env) (t : Shared) (H : Hp) (vs : List V) (Q : VK) (E : XK),
      Room k (A.deeper (envOfC qual scope t.heap.objs.size f cdv)) → A.guards = some [] → sp vs H Q E →
      ∃ z, PSs (cxOf CX P w K mg base N qual scope f cdv A out t H E) body z ∧ z { nx := fun _ H' => Q .non H', rt := Q } (start N vs) H) :
    FnG P w K mg base CX (k + 1) f fd ps sp := by
  obtain ⟨oc, od, dV, kV, doc, pm, an, cdv, ct, osl, rfl, lk, hcd, _, _⟩ := F.ex
  refine ⟨ln, fun A out t H ar us vs Q E hr hg e0 bd rv hs => ?_⟩
  have len := ln _ _ _ _ hs
  have inK : K.In t.heap := e0.mod.kin.keeps fun b o q => (e0.bs b o q).1
  have noL : t.heap.NoLimit := e0.mod.nolimit.keeps fun b o q => (e0.bs b o q).1
  have kinds : ∀ y ∈ ps.zip us, scope.names.lookup y.1 = some .local ∨
      (scope.names.lookup y.1 = some .cell ∧ ((cellsFrom (t.heap.objs.size + 1) scope.names []).lookup y.1).isSome = true) := by
    rintro ⟨n, v⟩ hy
    rcases S.par n (List.of_mem_zip hy).1 with q | q
    · exact .inl q
    · exact .inr ⟨q, PySem.W.cellsFrom_some _ _ _ (.inl q)⟩
  refine codeAny_call_function hr.depth (inK _ _ lk) rfl S.co S.gen rfl (PySem.W.codeRec_of inK hcd) (bd _ _ _ _ ?_)
  refine wpAny_newFunctionEnv_cells S.kind kinds fun env he s1 ic => ?_
  subst he
  refine ⟨noL.keeps ic.toInCall.keep, codeAny_func ?_⟩
  obtain ⟨z, hz, hq⟩ := hb cdv A out t H vs Q E (hr.deeper _) hg hs
  have I := inv_start (CX := CX) (E := E) S hr.hd e0 len rv ic
  refine wpAny_mono (hz.run [] s1 (start N vs) H _ I hq) (fun fl s' hs => ?_) fun e s' hs => hs
  rcases fl with _ | _ | _ | u
  all_goals first
    | (obtain ⟨v, σ', H', J, r, q⟩ := hs; exact ⟨v, H', J.os, J.bare, J.base, J.hok, r, q⟩)
    | (obtain ⟨σ', H', J, q⟩ := hs; exact ⟨V.non, H', J.os, J.bare, J.base, J.hok, rfl, q⟩)
    | (obtain ⟨_, _, _, q⟩ := hs; exact False.elim q)
end
section
variable {X : Cx} {CX : CXT} {k : Nat} {f : Addr} {fd : FuncData} {ps : List Str} {sp : Sp} {E : L2.St → XK} {x : Str} {p pos : Pos} {e : Expr} {es : List Expr} {t : TA}
theorem run_G {pins : List (Addr × Obj)} {σ : L2.St} {H : Hp} {s : Shared} {Q : VK} {us : List Value} {vs : List V} (F : FnG X.prog X.w X.K X.mg X.base CX k f fd ps sp)
    (hr : Room k X.A) (hG : X.A.guards = some []) (hb : Binds X.K fd ps []) (hx : PassesAt CX X σ (E σ)) (I : Inv X pins σ H s) (r : Vals vs us) (q : sp vs H Q (E σ)) :
    wpAny (model X.prog X.w) X.A (call (.ref f) us) (EP X pins σ Q) X.xe s := by
  have ln : us.length = ps.length := by rw [← r.length]; exact F.ln _ _ _ _ q
  have bd := hb s us I.kIn (by rw [List.append_nil]; exact ln)
  rw [List.append_nil] at bd
  refine wpAny_call (codeAny_mono (F.go X.A X.stack s H ⟨us, []⟩ us vs Q (E σ) hr hG I.env0 bd r q) fun rs s' hq => ?_)
  rcases rs with er | fl
  · exact hx pins H s er s' I hq
  · rcases fl with _ | _ | _ | u
    all_goals first | exact I.after hq | exact False.elim hq
/-- a def's call by its promise -/
theorem pe_callG (F : FnG X.prog X.w X.K X.mg X.base CX k f fd ps sp) (hr : Room k X.A) (hG : X.A.guards = some []) (hg : Gl X x) (hm : X.mg x = some (.ref f))
    (hk : PySem.W.keepIn X.K (.ref f) = true) (hb : Binds X.K fd ps []) (hx : ∀ σ, PassesAt CX X σ (E σ)) (ha : PA X (e :: es) t) (hdb : (x == ("__debug__" : Str)) = false)
    (he : starEach (e :: es) X.env = (false, eval e X.env) :: starEach es X.env) (hpl : (backTo pos (starEach es X.env)).any (·.1) = false) :
    PE X (.Call (.Name x p) (e :: es) [] pos) (fun σ H Q => t σ H fun vs H1 => sp vs H1 Q (E σ)) := by
  refine ⟨fun pins s σ H Q I h => wpAny_Call_Name_kw (ld_glob I hg hm ?_ hdb)⟩
  exact PySem.W.callWith_K (h₀ := X.base) I.ok.mod.kin hk (thn (ha.run pos pins s σ H _ I h) fun us s1 ⟨vs, H1, I1, r, q⟩ =>
    ⟨I1.kIn, run_G F hr hG hb (hx σ) I1 r q⟩) he hpl
/-- a def of no parameters -/
theorem pe_callG0 (F : FnG X.prog X.w X.K X.mg X.base CX k f fd ps sp) (hr : Room k X.A) (hG : X.A.guards = some []) (hg : Gl X x) (hm : X.mg x = some (.ref f))
    (hk : PySem.W.keepIn X.K (.ref f) = true) (hb : Binds X.K fd ps []) (hx : ∀ σ, PassesAt CX X σ (E σ)) (hdb : (x == ("__debug__" : Str)) = false) :
    PE X (.Call (.Name x p) [] [] pos) (fun σ H Q => sp [] H Q (E σ)) :=
  ⟨fun pins s σ H Q I q => wpAny_Call_Name_kw (ld_glob I hg hm (PySem.W.callWith_K0 I.kIn hk (run_G (us := []) F hr hG hb (hx σ) I .nil q)) hdb)⟩
end
section
variable {P : Program} {w : World} {K : PySem.W.Frag} {mg mb : Str → Option Value} {CX : CXT} {k : Nat} {fa a : Addr} {fd : FuncData} {x : Str} {sp : Sp} {t : Shared} {vs : List Value} {ns : List Int}
/-- the law's call at the heap behind the top, H the abstract heap: the script alone -/
theorem lawG_at (KX : K.In t.heap) (hns : t.heap.Ns mainGlobals mg) (hb : t.heap.Ns builtinsNs mb) (hbb : ∀ x : Str, x ≠ "__name__" → mb x = bootBuiltins x) (hlim : t.heap.NoLimit) (hg : t.gens = #[])
    (ha : t.heap.get? a = some { cls := .type "list", data := .seq vs.toArray }) (hr : Room k callerA)
    (F : ∀ base : Heap, K.In base → base.Ns mainGlobals mg → FnG P w K mg base CX k fa fd [x] sp) (hbind : ∀ (s : Shared) (u : Value), BindsTo s fd ⟨[u], []⟩ [(x, u)])
    (hCX : ∀ H e s', CX [] H t (fun _ _ _ => False) e s' → False)
    {H : Hp} (hsp : sp [.ref a] H (fun v _ => v = .bl true) fun _ _ _ => False) (hO : Only H) (hok : HOk P w H t.heap) (hA : ∀ b, H b ≠ none → b = a) (hK : H a ≠ none → K.lookup a = none) :
    codeAny (model P w) callerA (.call (.ref fa) ⟨[.ref a], []⟩) (fun r s' => r = .ok (.ret (.bool true)) ∧ OldK t.heap s'.heap ∧ s'.os = t.os ∧ AllBare s'.gens) t := by
  have bas : ∀ {b : Addr} {o : Obj}, t.heap.get? b = some o → H b = none → (hidT t.heap H).get? b = some o := fun e n => hidT_get e n
  have one : ∀ {b : Addr} {o : Obj}, t.heap.get? b = some o → (b = a → False) → H b = none := fun {b o} _ n => by
    cases q : H b with
    | none => rfl
    | some u => exact (n (hA b (by rw [q]; exact nofun))).elim
  have noD : ∀ {b : Addr} {o : Obj} {es : Array DictEntry} {ep : Nat}, t.heap.get? b = some o → o.data = .dict es ep → H b = none := fun {b o es ep} e d => by
    refine one e fun z => ?_
    subst z
    rw [ha] at e
    cases e
    exact nomatch (show Data.seq vs.toArray _ = Data.dict es ep from d)
  have nsK : ∀ {b : Addr} {m : Str → Option Value}, t.heap.Ns b m → (hidT t.heap H).Ns b m := fun ⟨o, es, ep, e, d, r⟩ => ⟨o, es, ep, bas e (noD e d), d, r⟩
  have inK : K.In (hidT t.heap H) := fun b o e => by
    refine bas (KX b o e) ?_
    cases q : H b with
    | none => rfl
    | some u =>
      have z := hA b (by rw [q]; exact nofun)
      subst z
      rw [hK (by rw [q]; exact nofun)] at e
      exact nomatch e
  obtain ⟨mc, l1, l2⟩ := hlim
  have e0 : Env0 P w K mg (hidT t.heap H) callerA [] t H :=
    ⟨rfl, ⟨inK, nsK hns, ⟨mb, nsK hb, hbb⟩, ⟨mc, nsK l1, l2⟩⟩, fun b o e => of_hidT e, Nat.le_of_eq (hidT_size _ _), trivial, fun b hb => (nomatch (show b ∈ ([] : List Addr) from hb)), hok, .of_eq hg⟩
  refine codeAny_mono ((F _ inK (nsK hns)).go callerA [] t H ⟨[.ref a], []⟩ [.ref a] [.ref a] _ _ hr rfl e0 (hbind t (.ref a)) (.cons rfl .nil) hsp) fun r s' h => ?_
  rcases r with e | fl
  · exact (hCX H e s' h).elim
  rcases fl with _ | _ | _ | u
  all_goals first | exact False.elim h | skip
  obtain ⟨v, H', os, bare, un, hok', rv, q⟩ := h
  subst q
  have eu : u = Value.bool true := rv
  subst eu
  refine ⟨rfl, OldK.of_keep fun b o e => ?_, os, bare⟩
  cases q : H b with
  | none => exact un.keep b o e q (fun z => nomatch (show b ∈ ([] : List Addr) from z)) nofun
  | some u =>
    rcases hO b with z | ⟨ob, xs, z⟩
    · rw [q] at z; exact nomatch z
    · obtain ⟨e1, _⟩ := hok b _ z
      obtain ⟨e2, _⟩ := hok' b _ (un.frzs b ob _ z)
      rw [e] at e1
      cases e1
      exact e2
theorem lawG (KX : K.In t.heap) (hns : t.heap.Ns mainGlobals mg) (hb : t.heap.Ns builtinsNs mb) (hbb : ∀ x : Str, x ≠ "__name__" → mb x = bootBuiltins x) (hlim : t.heap.NoLimit) (hg : t.gens = #[])
    (ha : t.heap.get? a = some { cls := .type "list", data := .seq vs.toArray }) (hi : IntsAre vs ns) (hl : ns.length ≤ sizeLine) (hr : Room k callerA)
    (F : ∀ base : Heap, K.In base → base.Ns mainGlobals mg → FnG P w K mg base CX k fa fd [x] sp) (hbind : ∀ (s : Shared) (u : Value), BindsTo s fd ⟨[u], []⟩ [(x, u)])
    (hsp : ∀ H : Hp, SqL K H a (ns.map V.int) → sp [.ref a] H (fun v _ => v = .bl true) fun _ _ _ => False)
    (hCX : ∀ H e s', CX [] H t (fun _ _ _ => False) e s' → False) :
    codeAny (model P w) callerA (.call (.ref fa) ⟨[.ref a], []⟩) (fun r s' => r = .ok (.ret (.bool true)) ∧ OldK t.heap s'.heap ∧ s'.os = t.os ∧ AllBare s'.gens) t := by
  have rv := vals_ints hi
  cases hk : K.lookup a with
  | some o =>
    have e := KX a o hk
    rw [ha] at e
    cases e
    refine lawG_at KX hns hb hbb hlim hg ha hr F hbind hCX (H := fun _ => none) (hsp _ (.inr ⟨_, vs.toArray, _, hk, rfl, rfl, rfl, ?_, by simpa using rv⟩)) (fun _ => .inl rfl) (fun b u z => nomatch z) (fun b z => absurd rfl z) fun z => absurd rfl z
    rw [List.size_toArray, hi.length]
    exact hl
  | none =>
    let H0 : Hp := fun b => if b = a then some (.frz { cls := .type "list", data := .seq vs.toArray } (.lst (ns.map V.int))) else none
    have at_ : H0 a = some (.frz { cls := .type "list", data := .seq vs.toArray } (.lst (ns.map V.int))) := if_pos rfl
    have off : ∀ b, b ≠ a → H0 b = none := fun b n => if_neg n
    refine lawG_at KX hns hb hbb hlim hg ha hr F hbind hCX (H := H0) (hsp _ (.inl (.inr ⟨_, at_⟩))) (fun b => ?_) (fun b u z => ?_) (fun b z => ?_) fun _ => hk
    · rcases Decidable.em (b = a) with e | e
      · subst e; exact .inr ⟨_, _, at_⟩
      · exact .inl (off b e)
    · rcases Decidable.em (b = a) with e | e
      · subst e
        rw [at_] at z
        cases z
        exact ⟨ha, by rw [List.length_map]; exact hl, vs, _, rv, ha⟩
      · rw [off b e] at z; exact nomatch z
    · rcases Decidable.em (b = a) with e | e
      · exact e
      · exact absurd (off b e) z
end
/-- the walk of a law row, from a promise that asks for no repr under way -/
theorem walk_G {l : PySem.W.OpenLaw} {n k : Nat} {q : Program} {loose : List Str} {XP : (Str → Option Value) → Heap → Prop} {YP : World → Heap → Prop} {d : DefRec} {CX : World → CXT} {x : Str}
    (hn : l.most = some n) (hn2 : n ≤ sizeLine) (hdf : d.params.defaults = []) (hr : Room k callerA)
    (F : ∀ (w : World) (mg : Str → Option Value) (fa : Addr) (h : Heap), YP w h → h.Ns mainGlobals mg → mg d.name = some (.ref fa) →
      ∃ (K : PySem.W.Frag) (fd : FuncData) (sp : Sp), K.In h ∧ (∀ (s : Shared) (u : Value), BindsTo s fd ⟨[u], []⟩ [(x, u)]) ∧
        (∀ (H : Hp) (a : Addr) (ns : List Int), ns.length ≤ n → (∀ k ∈ ns, Builtin.Int.intBits k ≤ 1048576) → SqL K H a (ns.map V.int) → sp [.ref a] H (fun v _ => v = .bl true) fun _ _ _ => False) ∧
        ∀ base : Heap, K.In base → base.Ns mainGlobals mg → FnG l.prog w K mg base (CX w) k fa fd [x] sp)
    (hCX : ∀ (w : World) (H : Hp) (s : Shared) (e : Value) (s' : Shared), CX w [] H s (fun _ _ _ => False) e s' → False) :
    PySem.W.WalkO q loose XP YP l.row.toRowW d [] (fun f vs => PySem.call f vs) := by
  refine Att.attach_callB hn hdf fun w s₀ s₁ mg mb fa o pm cd doc a vs ns G Y ho hd hcd hmg hobj hints hlen hbits hg => ?_
  obtain ⟨K, fd, sp, KX, hb, hsp, hF⟩ := F w mg fa _ Y G.T.g hmg
  exact lawG KX G.T.g G.T.b G.T.builtins G.T.nolimit hg hobj hints (Nat.le_trans hlen hn2) hr hF hb (fun H hS => hsp H a ns hlen hbits hS) fun H e s' => hCX w H s₁ e s'
end VB
set_option Elab.async false
set_option linter.all false
set_option maxRecDepth 100000
set_option maxHeartbeats 4000000
/-! repr of nested things -/
namespace VB
open PySem PySem.Spec L2
open PyProof.Rows hiding St

def keyP : Key → PyData
  | .inl i => .int i
  | .inr s => .str s
mutual
/-- what a value shows: lists, tuples, dicts of numbers and texts -/
inductive Dq (K : PySem.W.Frag) (H : Hp) : V → PyData → Prop
  | non : Dq K H .non .none
  | bl (b : Bool) : Dq K H (.bl b) (.bool b)
  | int (i : Int) : Dq K H (.int i) (.int i)
  | str (x : Str) : Dq K H (.str x) (.str x)
  | lst {a : Addr} {xs : List V} {ds : List PyData} : SqL K H a xs → DqAll K H xs ds → Dq K H (.ref a) (.list ds)
  | tup {a : Addr} {xs : List V} {ds : List PyData} : SqT K H a xs → DqAll K H xs ds → Dq K H (.ref a) (.tuple ds)
  | dic {a : Addr} {ks : List (Key × V)} {ds : List PyData} : H a = some (.dK ks) → DqAll K H (ks.map (·.2)) ds → Dq K H (.ref a) (.dict ((ks.map fun p => keyP p.1).zip ds))
inductive DqAll (K : PySem.W.Frag) (H : Hp) : List V → List PyData → Prop
  | nil : DqAll K H [] []
  | cons {v : V} {vs : List V} {d : PyData} {ds : List PyData} : Dq K H v d → DqAll K H vs ds → DqAll K H (v :: vs) (d :: ds)
end
theorem DqAll.len {K : PySem.W.Frag} {H : Hp} : ∀ {vs : List V} {ds : List PyData}, DqAll K H vs ds → vs.length = ds.length
  | _, _, .nil => rfl
  | _, _, .cons _ h => congrArg (· + 1) h.len
section
variable {X : Cx} {pins : List (Addr × Obj)} {σ : L2.St} {H : Hp} {s : Shared}
/-- the keys of a dict, as they lie -/
theorem keys_read {h : Heap} {P : Program} {w : World} {as : List Addr} {dd : Nat} : ∀ {es : List DictEntry} {vs : List (Key × Value)} {ks : List (Key × V)}, Pairs (mixKind P w) es vs → KV ks vs →
    PyData.showableAll (ks.map fun p => keyP p.1) = true → (∀ t ∈ PyData.shownAll (ks.map fun p => keyP p.1), t.length ≤ sizeLine) →
    ReadsAll h (es.map (·.key)) (ks.map fun p => keyP p.1) [] ∧ ReprAllK P w as h dd (es.map (·.key)) (PyData.shownAll (ks.map fun p => keyP p.1)) ∧ Vals (ks.map (·.2)) (es.map (·.val)) := by
  intro es vs ks hp
  induction hp generalizing ks with
  | nil =>
    intro hk _ _
    cases hk
    exact ⟨.nil, by simp only [List.map_nil, PyData.shownAll]; exact .nil, .nil⟩
  | @cons e kv es kvs h1 h2 _ ih =>
    intro hk hs hz
    cases hk with
    | cons hk1 hk2 =>
      rename_i p ps
      obtain ⟨e1, e2⟩ := hk1
      simp only [List.map_cons, PyData.showableAll, Bool.and_eq_true] at hs
      simp only [List.map_cons, PyData.shownAll] at hz
      obtain ⟨i1, i2, i3⟩ := ih hk2 hs.2 (fun t ht => hz t (List.mem_cons_of_mem _ ht))
      have hz1 := hz _ (List.mem_cons_self ..)
      have h1 : keyIs p.1 e.key = true := by rw [e1]; exact h1
      have one : Reads h e.key (keyP p.1) [] ∧ ReprK P w as h dd e.key (keyP p.1).shown := by
        rcases keyIs_shape h1 with ⟨i, t, hk, hv⟩ | ⟨x, t, hk, hv⟩
        · rw [hk] at hs hz1 ⊢
          rw [hv]
          have z := hs.1
          exact ⟨.int _ _, by simp only [keyP, PyData.shown]; exact .of_is (ReprIs.int t (by simpa [keyP, PyData.showable] using z)) _ _ _⟩
        · rw [hk] at hs hz1 ⊢
          rw [hv]
          exact ⟨.str _ _, by simp only [keyP, PyData.shown]; exact .of_is (ReprIs.str x t (by simpa only [keyP, PyData.shown] using hz1)) _ _ _⟩
      simp only [List.map_cons, PyData.shownAll]
      exact ⟨.cons (as := []) (bs := []) one.1 i1, .cons one.2 i2, .cons (by rw [h2]; exact e2) i3⟩
mutual
theorem Dq.rk (I : Inv X pins σ H s) : ∀ {v : V} {d : PyData}, Dq X.K H v d → ∀ (u : Value), RelV v u → d.showable = true → d.shown.length ≤ sizeLine →
    (∃ as, Reads s.heap u d as) ∧ ∃ bs, ReadAtMost s.heap d.depth bs ∧ ReprK X.prog X.w bs s.heap d.depth u d.shown
  | _, _, .non, u, r, hs, hz => by
    cases r
    exact ⟨⟨_, .none⟩, [], (fun _ h => nomatch h), by simp only [PyData.shown]; exact .of_is ReprIs.none _ _ _⟩
  | _, _, .bl b, u, r, hs, hz => by
    cases r
    exact ⟨⟨_, .bool b⟩, [], (fun _ h => nomatch h), by simp only [PyData.shown]; exact .of_is (ReprIs.bool b) _ _ _⟩
  | _, _, .int i, u, r, hs, hz => by
    obtain ⟨t, rfl⟩ := r
    exact ⟨⟨_, .int i t⟩, [], (fun _ h => nomatch h), by simp only [PyData.shown]; exact .of_is (ReprIs.int t (by simpa [PyData.showable] using hs)) _ _ _⟩
  | _, _, .str x, u, r, hs, hz => by
    obtain ⟨t, rfl⟩ := r
    exact ⟨⟨_, .str x t⟩, [], (fun _ h => nomatch h), by simp only [PyData.shown]; exact .of_is (ReprIs.str x t (by simpa only [PyData.shown] using hz)) _ _ _⟩
  | _, _, .lst (ds := ds) hq ha, u, r, hs, hz => by
    cases r
    obtain ⟨its, rv, ⟨o, n, ho, hc, _, hd⟩, _⟩ := I.list hq
    have hz' : (listText (PyData.shownAll ds)).length ≤ sizeLine := by simpa only [PyData.shown] using hz
    obtain ⟨⟨as, hr⟩, bs, hb, hk⟩ := DqAll.rk I ha its rv (by simpa [PyData.showable] using hs) (fun t ht => Nat.le_trans (listText_mem_le ht) hz')
    have rr : Reads s.heap (.ref _) (.list ds) _ := .list ho hc hd hr
    have hna := not_mem_of_deeper rr (n := PyData.depthAll ds) (by simp only [PyData.depth]; omega) hb
    refine ⟨⟨_, rr⟩, _ :: bs, ReadAtMost.cons rr (by simp only [PyData.depth]; omega) hb, ?_⟩
    simp only [PyData.depth, PyData.shown]
    cases its with
    | nil =>
      cases hr
      simp only [PyData.shownAll, listText_nil]
      exact ReprK.listEmpty ho hc hd
    | cons x l => exact ReprK.list ho hc hd hna (by simpa using hk.length_eq) (fun i y e => hk.item i y (by simpa using e))
  | _, _, .tup (ds := ds) hq ha, u, r, hs, hz => by
    cases r
    obtain ⟨its, rv, ⟨o, ho, hc, n, hd⟩, _⟩ := I.tuple hq
    have hz' : (tupleText (PyData.shownAll ds)).length ≤ sizeLine := by simpa only [PyData.shown] using hz
    obtain ⟨⟨as, hr⟩, bs, hb, hk⟩ := DqAll.rk I ha its rv (by simpa [PyData.showable] using hs) (fun t ht => Nat.le_trans (tupleText_mem_le ht) hz')
    have rr : Reads s.heap (.ref _) (.tuple ds) _ := .tuple ho hc hd hr
    have hna := not_mem_of_deeper rr (n := PyData.depthAll ds) (by simp only [PyData.depth]; omega) hb
    refine ⟨⟨_, rr⟩, _ :: bs, ReadAtMost.cons rr (by simp only [PyData.depth]; omega) hb, ?_⟩
    simp only [PyData.depth, PyData.shown]
    exact ReprK.tuple ho hc hd hna hk
  | _, _, .dic (a := a) (ks := ks) (ds := ds) hq ha, u, r, hs, hz => by
    cases r
    obtain ⟨_, hsys, vs, rel, o, es, ep, ho, hx, hd, _, hp, _⟩ := dk_of I.hok hq
    have el : (ks.map fun p => keyP p.1).length = ds.length := by rw [List.length_map, ← ha.len, List.length_map]
    have m1 : ((ks.map fun p => keyP p.1).zip ds).map (·.1) = ks.map fun p => keyP p.1 := List.map_fst_zip (by omega)
    have m2 : ((ks.map fun p => keyP p.1).zip ds).map (·.2) = ds := List.map_snd_zip (by omega)
    have hz' : (dictText (PyData.shownKv ((ks.map fun p => keyP p.1).zip ds))).length ≤ sizeLine := by simpa only [PyData.shown] using hz
    obtain ⟨hs1, hs2⟩ := PyData.showableKv_split _ (by simpa [PyData.showable] using hs)
    rw [m1] at hs1
    rw [m2] at hs2
    have hk1 := PyData.shownKv_key_le ((ks.map fun p => keyP p.1).zip ds)
    have hk2 := PyData.shownKv_val_le ((ks.map fun p => keyP p.1).zip ds)
    rw [m1] at hk1
    rw [m2] at hk2
    have kr := keys_read (h := s.heap) (P := X.prog) (w := X.w) (as := []) (dd := 0) hp rel hs1 (fun t ht => let ⟨p, hp, hl⟩ := hk1 t ht; Nat.le_trans hl (Nat.le_trans (dictText_mem_le hp) hz'))
    obtain ⟨⟨as, hr⟩, bs, hb, hk⟩ := DqAll.rk I ha _ kr.2.2 hs2 (fun t ht => let ⟨p, hp, hl⟩ := hk2 t ht; Nat.le_trans hl (Nat.le_trans (dictText_mem_le hp) hz'))
    have rr : Reads s.heap (.ref a) (.dict ((ks.map fun p => keyP p.1).zip ds)) _ := .dict ho hx.1 hd (by rw [m1]; exact kr.1) (by rw [m2]; exact hr)
    have dv := PyData.depthAll_vals_le ((ks.map fun p => keyP p.1).zip ds)
    rw [m2] at dv
    have hb' := hb.mono dv
    have hna := not_mem_of_deeper rr (n := PyData.depthKv ((ks.map fun p => keyP p.1).zip ds)) (by simp only [PyData.depth]; omega) hb'
    refine ⟨⟨_, rr⟩, a :: bs, ReadAtMost.cons rr (by simp only [PyData.depth]; omega) hb', ?_⟩
    simp only [PyData.depth, PyData.shown, PyData.shownKv_eq]
    rw [m1, m2]
    exact ReprK.dict ho hx.1 hd hsys hna (ReprEntriesK.of_two es.toList _ _ (kr.2.1.more_le (fun b hb => absurd hb List.not_mem_nil) (Nat.zero_le _)) (hk.more_le (fun b hb => hb) dv))
theorem DqAll.rk (I : Inv X pins σ H s) : ∀ {vs : List V} {ds : List PyData}, DqAll X.K H vs ds → ∀ (us : List Value), Vals vs us → PyData.showableAll ds = true → (∀ t ∈ PyData.shownAll ds, t.length ≤ sizeLine) →
    (∃ as, ReadsAll s.heap us ds as) ∧ ∃ bs, ReadAtMost s.heap (PyData.depthAll ds) bs ∧ ReprAllK X.prog X.w bs s.heap (PyData.depthAll ds) us (PyData.shownAll ds)
  | _, _, .nil, u, r, _, _ => by
    cases r
    exact ⟨⟨_, .nil⟩, [], (fun _ h => nomatch h), by simp only [PyData.shownAll]; exact .nil⟩
  | _, _, .cons (d := d) (ds := ds) h1 h2, u, r, hs, hz => by
      cases r with
      | cons r1 r2 =>
        simp only [PyData.showableAll, Bool.and_eq_true] at hs
        simp only [PyData.shownAll] at hz
        obtain ⟨⟨as, q1⟩, b1, e1, k1⟩ := Dq.rk I h1 _ r1 hs.1 (hz _ (List.mem_cons_self ..))
        obtain ⟨⟨as2, q2⟩, b2, e2, k2⟩ := DqAll.rk I h2 _ r2 hs.2 (fun t ht => hz t (List.mem_cons_of_mem _ ht))
        refine ⟨⟨_, .cons q1 q2⟩, b1 ++ b2, ?_, ?_⟩
        · have m1 : ReadAtMost s.heap (PyData.depthAll (d :: ds)) b1 := e1.mono (by simp only [PyData.depthAll]; exact Nat.le_max_left _ _)
          have m2 : ReadAtMost s.heap (PyData.depthAll (d :: ds)) b2 := e2.mono (by simp only [PyData.depthAll]; exact Nat.le_max_right _ _)
          exact m1.append m2
        · simp only [PyData.depthAll, PyData.shownAll]
          exact .cons ((k1.more fun b hb => List.mem_append_left _ hb).level_le (Nat.le_max_left _ _)) (k2.more_le (fun b hb => List.mem_append_right _ hb) (Nat.le_max_right _ _))
end
theorem Dq.by (I : Inv X pins σ H s) {a : Addr} {d : PyData} (h : Dq X.K H (.ref a) d) (hs : d.showable = true) (hz : d.shown.length ≤ sizeLine) : ∃ T idr, ShowsBy X.prog X.w s.heap a d T idr := by
  have all := Dq.rk I h (.ref a) rfl hs hz
  cases h with
  | @lst _ xs ds hq ha =>
    obtain ⟨its, rv, ⟨o, n, ho, hc, _, hd⟩, _⟩ := I.list hq
    have hz' : (listText (PyData.shownAll ds)).length ≤ sizeLine := by simpa only [PyData.shown] using hz
    obtain ⟨⟨as, hr⟩, bs, hb, hk⟩ := DqAll.rk I ha its rv (by simpa [PyData.showable] using hs) (fun t ht => Nat.le_trans (listText_mem_le ht) hz')
    have rr : Reads s.heap (.ref a) (.list ds) _ := .list ho hc hd hr
    have hna := not_mem_of_deeper rr (n := PyData.depthAll ds) (by simp only [PyData.depth]; omega) hb
    refine ⟨"list", "list.__repr__", F.slot_list_repr.toG, F.slot_list_str, F.slot_list_format, fun s' k => ⟨o, k _ _ ho, hc⟩, fun A E s' Q hg hu k hQ => ?_⟩
    simp only [PyData.depth] at hu
    simp only [PyData.shown] at hQ
    cases its with
    | nil =>
      cases hr
      simp only [PyData.shownAll, listText_nil] at hQ
      exact call_list_repr_empty ⟨o, k _ _ ho, hc⟩ (k _ _ ho) hd (hQ s'.heap _ _ fun _ _ e => e)
    | cons x l => exact call_list_reprK ho hc hd hna (by simpa using hk.length_eq) (fun i y e => hk.item i y (by simpa using e)) hg (fun b _ => Clear.nil b) hu k hQ hz'
  | @tup _ xs ds hq ha =>
    obtain ⟨its, rv, ⟨o, ho, hc, n, hd⟩, _⟩ := I.tuple hq
    have hz' : (tupleText (PyData.shownAll ds)).length ≤ sizeLine := by simpa only [PyData.shown] using hz
    obtain ⟨⟨as, hr⟩, bs, hb, hk⟩ := DqAll.rk I ha its rv (by simpa [PyData.showable] using hs) (fun t ht => Nat.le_trans (tupleText_mem_le ht) hz')
    have rr : Reads s.heap (.ref a) (.tuple ds) _ := .tuple ho hc hd hr
    have hna := not_mem_of_deeper rr (n := PyData.depthAll ds) (by simp only [PyData.depth]; omega) hb
    refine ⟨"tuple", "tuple.__repr__", F.slot_tuple_repr, F.slot_tuple_str, F.slot_tuple_format, fun s' k => ⟨o, k _ _ ho, hc⟩, fun A E s' Q hg hu k hQ => ?_⟩
    simp only [PyData.depth] at hu
    simp only [PyData.shown] at hQ
    exact call_tuple_reprK ho hc hd hna hk hg (fun b _ => Clear.nil b) hu k hQ hz'
  | @dic _ ks ds hq ha =>
    obtain ⟨_, hsys, vs, rel, o, es, ep, ho, hx, hd, _, hp, _⟩ := dk_of I.hok hq
    have el : (ks.map fun p => keyP p.1).length = ds.length := by rw [List.length_map, ← ha.len, List.length_map]
    have m1 : ((ks.map fun p => keyP p.1).zip ds).map (·.1) = ks.map fun p => keyP p.1 := List.map_fst_zip (by omega)
    have m2 : ((ks.map fun p => keyP p.1).zip ds).map (·.2) = ds := List.map_snd_zip (by omega)
    have hz' : (dictText (PyData.shownKv ((ks.map fun p => keyP p.1).zip ds))).length ≤ sizeLine := by simpa only [PyData.shown] using hz
    obtain ⟨hs1, hs2⟩ := PyData.showableKv_split _ (by simpa [PyData.showable] using hs)
    rw [m1] at hs1
    rw [m2] at hs2
    have hk1 := PyData.shownKv_key_le ((ks.map fun p => keyP p.1).zip ds)
    have hk2 := PyData.shownKv_val_le ((ks.map fun p => keyP p.1).zip ds)
    rw [m1] at hk1
    rw [m2] at hk2
    have kr := keys_read (h := s.heap) (P := X.prog) (w := X.w) (as := []) (dd := 0) hp rel hs1 (fun t ht => let ⟨p, hp, hl⟩ := hk1 t ht; Nat.le_trans hl (Nat.le_trans (dictText_mem_le hp) hz'))
    obtain ⟨⟨as, hr⟩, bs, hb, hk⟩ := DqAll.rk I ha _ kr.2.2 hs2 (fun t ht => let ⟨p, hp, hl⟩ := hk2 t ht; Nat.le_trans hl (Nat.le_trans (dictText_mem_le hp) hz'))
    have rr : Reads s.heap (.ref a) (.dict ((ks.map fun p => keyP p.1).zip ds)) _ := .dict ho hx.1 hd (by rw [m1]; exact kr.1) (by rw [m2]; exact hr)
    have dv := PyData.depthAll_vals_le ((ks.map fun p => keyP p.1).zip ds)
    rw [m2] at dv
    have hna := not_mem_of_deeper rr (n := PyData.depthKv ((ks.map fun p => keyP p.1).zip ds)) (by simp only [PyData.depth]; omega) (hb.mono dv)
    refine ⟨"dict", "dict.__repr__", F.slot_dict_repr, F.slot_dict_str, F.slot_dict_format, fun s' k => ⟨o, k _ _ ho, hx.1⟩, fun A E s' Q hg hu k hQ => ?_⟩
    simp only [PyData.depth] at hu
    simp only [PyData.shown, PyData.shownKv_eq] at hQ
    rw [m1, m2] at hQ
    refine call_dict_reprK ho hx.1 hd hsys hna (ReprEntriesK.of_two es.toList _ _ (kr.2.1.more_le (fun b hb => absurd hb List.not_mem_nil) (Nat.zero_le _)) (hk.more_le (fun b hb => hb) dv)) hg (fun b _ => Clear.nil b) hu k hQ ?_
    rw [PyData.shownKv_eq, m1, m2] at hz'
    exact hz'
end
def rRepr (K : PySem.W.Frag) : List V → Hp → VK → Prop := fun xs H Q => ∃ x d, xs = [x] ∧ Dq K H x d ∧ d.showable = true ∧ d.depth ≤ 60 ∧ d.shown.length ≤ sizeLine ∧ Q (.str d.shown) H
theorem call_shown {X : Cx} (hG : X.A.guards = some []) (hu : X.A.units + 65 < cLine) : CallR X (.builtin "repr") (rRepr X.K) := by
  intro pins s σ H xs us Q I r h
  obtain ⟨x, d, rfl, hq, hs, hd, hz, q⟩ := h
  obtain ⟨u, rfl, rx⟩ := vals1 r
  cases hq with
  | non =>
    cases rx
    exact PySem.P.repr_of_none ⟨.str _, H, I.tok _, ⟨_, rfl⟩, q⟩
  | bl b =>
    cases rx
    exact PySem.P.repr_of_bool ⟨.str _, H, I.tok _, ⟨_, rfl⟩, by simp only [PyData.shown] at q; exact q⟩
  | int i =>
    obtain ⟨t, rfl⟩ := rx
    exact PySem.P.repr_of_int (by simpa [PyData.showable] using hs) ⟨.str _, H, I.tok _, ⟨_, rfl⟩, by simp only [PyData.shown] at q; exact q⟩
  | str z =>
    obtain ⟨t, rfl⟩ := rx
    exact PySem.P.repr_of_str ⟨.str _, H, I.tok _, ⟨_, rfl⟩, by simp only [PyData.shown] at q; exact q⟩ (by simpa only [PyData.shown] using hz)
  | @lst a ys ds h1 h2 =>
    cases rx
    obtain ⟨T, idr, S⟩ := Dq.by I (.lst h1 h2) hs hz
    exact call_repr_slot (by omega) (S.typeIs s fun _ _ e => e) S.slotRepr (S.call X.A.in1 _ s _ hG (by show X.A.units + 1 + _ < cLine; omega) (fun _ _ e => e) fun h' u tk hk => ⟨_, _, rfl, .str _, H, I.kept hk, ⟨_, rfl⟩, q⟩)
  | @tup a ys ds h1 h2 =>
    cases rx
    obtain ⟨T, idr, S⟩ := Dq.by I (.tup h1 h2) hs hz
    exact call_repr_slot (by omega) (S.typeIs s fun _ _ e => e) S.slotRepr (S.call X.A.in1 _ s _ hG (by show X.A.units + 1 + _ < cLine; omega) (fun _ _ e => e) fun h' u tk hk => ⟨_, _, rfl, .str _, H, I.kept hk, ⟨_, rfl⟩, q⟩)
  | @dic a ks ds h1 h2 =>
    cases rx
    obtain ⟨T, idr, S⟩ := Dq.by I (.dic h1 h2) hs hz
    exact call_repr_slot (by omega) (S.typeIs s fun _ _ e => e) S.slotRepr (S.call X.A.in1 _ s _ hG (by show X.A.units + 1 + _ < cLine; omega) (fun _ _ e => e) fun h' u tk hk => ⟨_, _, rfl, .str _, H, I.kept hk, ⟨_, rfl⟩, q⟩)
end VB
set_option Elab.async false
set_option linter.all false
set_option maxRecDepth 100000
set_option maxHeartbeats 4000000
/-! x[::-1] of a list, of a tuple -/
namespace VB
open PySem PySem.Spec L2
open PyProof.Rows hiding St

theorem fm_id {α : Type} : ∀ ys : List α, (List.range ys.length).filterMap (fun k => ys[k]?) = ys
  | [] => rfl
  | y :: ys => by
    rw [List.length_cons, List.range_succ_eq_map, List.filterMap_cons, List.filterMap_map]
    show y :: (List.range ys.length).filterMap (fun k => ys[k]?) = _
    rw [fm_id ys]
theorem fm_congr {α β : Type} {f g : α → Option β} : ∀ {l : List α}, (∀ x ∈ l, f x = g x) → l.filterMap f = l.filterMap g
  | [], _ => rfl
  | x :: l, h => by
    rw [List.filterMap_cons, List.filterMap_cons, h x List.mem_cons_self, fm_congr fun y hy => h y (List.mem_cons_of_mem _ hy)]
theorem fm_rev {α : Type} (xs : List α) {f : Nat → Option α} (h : ∀ k, k < xs.length → f k = xs[xs.length - 1 - k]?) : (List.range xs.length).filterMap f = xs.reverse := by
  have := fm_id xs.reverse
  rw [List.length_reverse] at this
  rw [← this]
  refine fm_congr fun k hk => ?_
  rw [List.mem_range] at hk
  rw [h k hk, List.getElem?_reverse hk]
theorem pick_rev (its : List Value) : slicePick its.toArray none none (some (-1)) = its.reverse.toArray := by
  unfold slicePick sliceBounds sliceRange
  have hc : ((if (-1 < (its.toArray.size : Int) - 1) then ((its.toArray.size : Int) - 1 - -1 - -1 - 1) / 1 else 0) : Int).toNat = its.length := by
    rw [List.size_toArray]
    split
    · rw [Int.ediv_one]; omega
    · omega
  simp only [Option.getD_some, Int.reduceNeg, gt_iff_lt, Int.reduceLT, if_false]
  have e : ∀ z : Nat, z = its.length → (List.map (fun (k : Nat) => ((its.toArray.size : Int) - 1 + -1 * (k : Int)).toNat) (List.range z)).filterMap (its.toArray[·]?) = its.reverse := by
    intro z hz
    subst hz
    rw [List.filterMap_map]
    refine fm_rev its fun k hk => ?_
    show its.toArray[((its.toArray.size : Int) - 1 + -1 * (k : Int)).toNat]? = _
    rw [List.size_toArray, List.getElem?_toArray]
    congr 1
    omega
  rw [e _ hc]
theorem sliceApplied_rev {prog : Program} {w : World} {A : Around} {E : Value → Shared → Prop} {s : Shared} {sl : Addr} {u : Tok} {n : Nat} {Q : Int × Int × Nat → Shared → Prop} (hs : s.heap.IsSliceOf sl .none .none (.int (-1) u))
    (h : Q ((n : Int) - 1, -1, n) s) : wpAny (model prog w) A (Builtin.Slice.sliceApplied (.ref sl) (pure (n : Int))) Q E s := by
  obtain ⟨os, hos, hcs, hds⟩ := id hs
  unfold Builtin.Slice.sliceApplied Builtin.Slice.sliceFields
  refine wpAny_bind (wpAny_bind (wpAny_field hos hds (x := .none) rfl (wpAny_bind (wpAny_field hos hds (x := .none) rfl (wpAny_bind (wpAny_field hos hds (x := .int (-1) u) rfl (wpAny_pure ?_)))))))
  refine wpAny_bind (HT.slicePart_ (.int (-1) u) ?_)
  show wpAny _ _ (if ((-1 : Int) == 0) = true then _ else _) _ _ s
  rw [if_neg (by decide)]
  refine wpAny_bind (HT.slicePart_ .none (wpAny_bind (HT.slicePart_ .none (wpAny_bind (wpAny_pure ?_)))))
  have e : Builtin.Slice.slicePlaces ((n : Int) - 1) (-1) (-1) = n := by
    unfold Builtin.Slice.slicePlaces
    simp only [Int.reduceNeg, gt_iff_lt, Int.reduceLT, if_false]
    split
    · rw [Int.ediv_one]; omega
    · omega
  show wpAny _ _ (pure ((n : Int) - 1, (-1 : Int), Builtin.Slice.slicePlaces ((n : Int) - 1) (-1) (-1))) _ _ s
  rw [e]
  exact wpAny_pure h
theorem getItem_tuple_rev {prog : Program} {w : World} {A : Around} {E : Value → Shared → Prop} {s : Shared} {t sl : Addr} {items : Array Value} {u : Tok} {Q : Value → Shared → Prop} (ht : IsTup s.heap t items) (hs : s.heap.IsSliceOf sl .none .none (.int (-1) u))
    (h : Q (.ref s.heap.objs.size) { s with heap := s.heap.push { cls := .type "tuple", data := .seq items.toList.reverse.toArray } })
    (hsz : items.size ≤ sizeLine) : wpAny (model prog w) A (getItem (.ref t) (.ref sl)) Q E s := by
  have htake : sizeOk (.seq items.toList.reverse.toArray) := by
    show items.toList.reverse.toArray.size ≤ sizeLine
    rw [List.size_toArray, List.length_reverse, Array.length_toList]
    exact hsz
  obtain ⟨os, hos, hcs, hds⟩ := id hs
  have hTs : s.TypeIs (.ref sl) "slice" := ⟨os, hos, hcs⟩
  unfold getItem
  try with_reducible refine wpAny_holding ?_
  first | refine wpAny_bind (wpAny_pure ?_) | skip
  refine wpAny_bind (wpAny_sequenceKey ht.typeIs (by decide) ?_)
  refine wpAny_bind (wpAny_callSpecial?_slot (name := Str.ofString "__getitem__") ht.typeIs PyProof.Rows.slot_tuple_getitem
    (wpAny_call_entry PyProof.Rows.slot_tuple_getitem ht.typeIs PyProof.Rows.entry_tuple_getitem ?_ (PyProof.Rows.args_tuple_getitem _ _)))
  show wpAny _ _ (Builtin.Tuple.tupleItemsOf (.ref t) >>= _) _ _ s
  refine wpAny_bind (PyProof.Rows.tupleItemsOf_ ht ?_)
  refine wpAny_bind (wpAny_typeOf hTs ?_)
  rw [if_pos (by decide)]
  refine wpAny_bind (sliceApplied_rev hs ?_)
  have hno : ¬ ((((items.size : Int) - 1) == 0 && (-1 : Int) == 1 && items.size == items.size) = true) := by
    intro q
    rw [Bool.and_eq_true, Bool.and_eq_true] at q
    exact absurd q.1.2 (by decide)
  show wpAny _ _ (if (((items.size : Int) - 1) == 0 && (-1 : Int) == 1 && items.size == items.size) = true then _ else _) _ _ s
  rw [if_neg hno]
  have pk : ((List.range items.size).filterMap fun (m : Nat) => items[(((items.size : Int) - 1) + (m : Int) * (-1)).toNat]?).toArray = items.toList.reverse.toArray := by
    have e := fm_rev items.toList (f := fun (m : Nat) => items[(((items.size : Int) - 1) + (m : Int) * (-1)).toNat]?) (fun k hk => by
      show items[(((items.size : Int) - 1) + (k : Int) * (-1)).toNat]? = _
      rw [Array.length_toList] at hk
      rw [Array.length_toList, Array.getElem?_toList]
      congr 1
      omega)
    rw [Array.length_toList] at e
    rw [e]
  rw [pk]
  first
    | exact wpAny_bind (m := Builtin.Tuple.tupleExact _) (wpAny_newObj_type (wpAny_pure ⟨_, rfl, wpAny_pure h⟩) htake)
    | exact wpAny_bind (m := Builtin.Tuple.tupleExact _) (wpAny_newObj_type (wpAny_bind (wpAny_pure (wpAny_pure ⟨_, rfl, wpAny_pure h⟩))) htake)
    | exact wpAny_bind (wpAny_bind (m := Builtin.Tuple.tupleExact _) (wpAny_newObj_type (wpAny_pure (wpAny_pure ⟨_, rfl, wpAny_pure h⟩)) htake))
    | exact wpAny_bind (wpAny_bind (m := Builtin.Tuple.tupleExact _) (wpAny_newObj_type (wpAny_pure ⟨_, rfl, wpAny_pure h⟩) htake))
def rRevS (K : PySem.W.Frag) : V → Hp → VK → Prop := fun x H Q => (∃ a xs, x = .ref a ∧ SqT K H a xs ∧ ∀ p, H p = none → Q (.ref p) (upd H p (.tup xs.reverse))) ∨ ∃ a xs, x = .ref a ∧ SqL K H a xs ∧ ∀ p, H p = none → Q (.ref p) (upd H p (.lst xs.reverse))
theorem vals_rev : ∀ {xs : List V} {its : List Value}, Vals xs its → Vals xs.reverse its.reverse
  | _, _, .nil => .nil
  | _, _, .cons h t => by
    rw [List.reverse_cons, List.reverse_cons]
    exact (vals_rev t).append (.cons h .nil)
section
variable {X : Cx} {e : Expr} {te : TE} {pos p2 p3 p4 : Pos} {j : Nat}
/-- x[::-1] -/
theorem pe_rev (he : PE X e te) : PE X (.Subscript e (.Slice none none (some (.UnaryOp .USub (.Constant (.int 1) j p4) p3)) p2) pos) (fun σ H Q => te σ H fun x H1 => rRevS X.K x H1 Q) := by
  refine ⟨fun pins s σ H Q I h => ?_⟩
  refine Subscript_ (thn (he.run pins s σ H _ I h) fun v s1 ⟨x, H1, I1, r1, q1⟩ => ?_)
  refine wpAny_Slice ?_
  rw [evalPart_none]
  refine wpAny_pure ?_
  refine wpAny_pure ?_
  have one := (pe_un (X := X) un_neg (pe_int (i := 1) (j := j) (pos := p4)) (pos := p3)).run pins s1 σ H1 (fun v H => v = .int (-1) ∧ H = H1) I1 ⟨1, rfl, rfl, rfl⟩
  refine wpAny_mono one (fun sv s2 ⟨z, H2, I2, rz, ez, eh⟩ => ?_) fun _ _ z => z
  subst ez eh
  obtain ⟨u, rfl⟩ := rz
  have I4 : Inv X pins σ H2 { s2 with heap := s2.heap.push { cls := .type "slice", data := .fields #[.none, .none, .int (-1) u] } } := I2.kept (t' := s2.toks) fun b ob q => Heap.get?_push_of_some _ q
  have hs : Heap.IsSliceOf (s2.heap.push { cls := .type "slice", data := .fields #[.none, .none, .int (-1) u] }) s2.heap.objs.size .none .none (.int (-1) u) := Heap.IsSliceOf.new ..
  show wpAny (model X.prog X.w) X.A (subscriptTail e _ v (.ref s2.heap.objs.size)) (EP X pins σ Q) X.xe { s2 with heap := s2.heap.push { cls := .type "slice", data := .fields #[.none, .none, .int (-1) u] } }
  rcases q1 with ⟨a, xs, rfl, hx, q⟩ | ⟨a, xs, rfl, hx, q⟩
  · cases r1
    obtain ⟨its, r, ht, hz⟩ := I4.tuple hx
    have hl := r.length
    refine tail_any (ops := [.ref a, .ref s2.heap.objs.size]) ht.typeIs PyProof.Rows.slot_tuple_getitem.lookup (getItem_tuple_rev ht hs ?_ (by rw [List.size_toArray]; omega)) (by with_unfolding_all rfl)
    refine ⟨.ref _, _, I4.laid (t' := s2.toks) (o := .tup xs.reverse) (fun b ob q => Heap.get?_push_of_some _ q) (Nat.le_refl _) ?_, rfl, q _ (I4.hok.fresh (Nat.le_refl _))⟩
    exact ⟨by rw [List.length_reverse]; exact hz, _, vals_rev r, IsTup.new _ _⟩
  · cases r1
    obtain ⟨its, r, ht, hz⟩ := I4.list hx
    have hl := r.length
    refine tail_any (ops := [.ref a, .ref s2.heap.objs.size]) ht.isList.typeIs slot_list_getitem.lookup (wpAny_getItem_list_slice ht.isList hs .none .none (.int (-1) u) (by simp) ?_ (by rw [List.size_toArray]; omega)) (by with_unfolding_all rfl)
    rw [pick_rev]
    refine ⟨.ref _, _, I4.laid (t' := s2.toks) (o := .lst xs.reverse) (fun b ob q => Heap.get?_push_of_some _ q) (Nat.le_refl _) ?_, rfl, q _ (I4.hok.fresh (Nat.le_refl _))⟩
    exact ⟨by rw [List.length_reverse]; exact hz, _, 0, vals_rev r, Heap.get?_push_size _ rfl⟩
end
end VB
set_option Elab.async false
set_option linter.all false
set_option maxRecDepth 100000
set_option maxHeartbeats 4000000
/-! more operations -/
namespace VB
open PySem PySem.Spec L2
open PyProof.Rows hiding St

/-- () + t is t -/
def rCatE (K : PySem.W.Frag) : R2 := fun x y H Q => ∃ a b ys, x = .ref a ∧ y = .ref b ∧ SqT K H a [] ∧ SqT K H b ys ∧ ys.length ≤ sizeLine ∧ Q (.ref b) H
def repS (z : Str) (n : Nat) : Str := ⟨(List.replicate n z.cps.toList).flatten.toArray⟩
def rRepS : R2 := fun x y H Q => ∃ z k, x = .str z ∧ y = .int k ∧ -(2 ^ 31) ≤ k ∧ k ≤ 16777216 ∧ z.length * k.toNat ≤ sizeLine ∧ Q (.str (repS z k.toNat)) H
section
variable {X : Cx}
theorem op_catE : OpR X (binaryOp .Add) (rCatE X.K) := by
  intro pins s σ H x y v u Q I rx ry h
  obtain ⟨a, b, ys, rfl, rfl, ha, hb, hz, q⟩ := h
  cases rx
  cases ry
  obtain ⟨its, r1, p1, _⟩ := I.tuple ha
  obtain ⟨its2, r2, p2, _⟩ := I.tuple hb
  cases r1
  obtain ⟨m, F⟩ := I.fr
  refine add_tuples F (news := []) News.nil p1 p2 (fun _ => ⟨.ref b, H, I, rfl, q⟩) (fun z => absurd rfl z) (fun z => absurd rfl z) ?_
  rw [List.length_nil, ← r2.length]
  omega
theorem op_repS : OpR X (binaryOp .Mult) rRepS := by
  intro pins s σ H x y v u Q I rx ry h
  obtain ⟨z, k, rfl, rfl, h1, h2, hz, q⟩ := h
  obtain ⟨t, rfl⟩ := rx
  obtain ⟨t', rfl⟩ := ry
  have key : (List.replicate k.toNat z.cps).foldl (· ++ ·) #[] = (List.replicate k.toNat z.cps.toList).flatten.toArray := by
    have e : ∀ (n : Nat) (acc : Array Nat), (List.replicate n z.cps).foldl (· ++ ·) acc = acc ++ (List.replicate n z.cps.toList).flatten.toArray := by
      intro n
      induction n with
      | zero => intro acc; simp
      | succ n ih => intro acc; rw [List.replicate_succ, List.foldl_cons, ih, List.replicate_succ, List.flatten_cons, ← List.append_toArray, Array.append_assoc]
    have := e k.toNat #[]
    simpa using this
  refine PySem.P.mul_str ?_ (fun hk _ => ?_) (fun hk _ => ?_) ?_
  · rw [decide_eq_false (show ¬ k < -(2 ^ 63 : Int) by omega), decide_eq_false (show ¬ k ≥ 2 ^ 63 by omega)]; rfl
  · intro hh
    have : (2 ^ 63 - 1) / k ≥ 549755813887 := by
      refine (Int.le_ediv_iff_mul_le (by omega)).mpr ?_
      have : (549755813887 : Int) * k ≤ 549755813887 * 16777216 := Int.mul_le_mul_of_nonneg_left h2 (by omega)
      omega
    have hl : z.length * 1 ≤ z.length * k.toNat := Nat.mul_le_mul_left _ (by omega)
    have hs : sizeLine = 16777216 := rfl
    omega
  · show decide (z.length * k.toNat > sizeLine) = false
    exact decide_eq_false (by omega)
  · have fin : ∀ s' : Shared, Inv X pins σ H s' → ∀ tk, EP X pins σ Q (.str (repS z k.toNat) tk) s' := fun s' I' tk => ⟨.str _, H, I', ⟨_, rfl⟩, q⟩
    split
    · rename_i hk
      have e : repS z k.toNat = Str.empty := by
        unfold repS
        rw [show k.toNat = 0 by omega]; rfl
      rw [← e]
      exact ⟨by rw [e]; decide, fin _ (I.tok _) _⟩
    · split
      · rename_i hk hk2
        have e : repS z k.toNat = z := by
          unfold repS
          rw [Bool.or_eq_true] at hk2
          rcases hk2 with e1 | e1
          · have e1 : k = 1 := eq_of_beq e1
            subst e1
            simp
          · have e1 : z.cps.size = 0 := eq_of_beq e1
            have e2 : z.cps.toList = [] := by
              have : z.cps.toList.length = 0 := by rw [Array.length_toList]; exact e1
              exact List.eq_nil_of_length_eq_zero this
            have e3 : (List.replicate k.toNat ([] : List Nat)).flatten = [] := by simp
            rw [e2, e3]
            obtain ⟨c⟩ := z
            have : c = #[] := Array.eq_empty_of_size_eq_zero e1
            rw [this]
        have f := fin s I t
        rw [e] at f
        exact f
      · rw [key]
        refine ⟨?_, fin _ (I.tok _) _⟩
        show (List.replicate k.toNat z.cps.toList).flatten.toArray.size ≤ sizeLine
        rw [List.size_toArray, List.length_flatten, List.map_replicate, List.sum_replicate_nat, Array.length_toList, Nat.mul_comm]
        exact hz
end
end VB
set_option Elab.async false
set_option linter.all false
set_option maxRecDepth 100000
/-! the readings of the texts -/
namespace VB
open PySem PySem.Spec L2
open PyProof.Rows hiding St

abbrev RB := List V → Hp → VK → Prop
def rr (r : R2) : RB := fun vs H Q => ∃ x y, vs = [x, y] ∧ r x y H Q
def ror (a b : RB) : RB := fun vs H Q => a vs H Q ∨ b vs H Q
def rSl (K : PySem.W.Frag) (x : V) (lo hi : Option Int) (H : Hp) (Q : VK) : Prop := rSlA K x lo hi H Q ∨ rSlL K x lo hi H Q ∨ rSlS x lo hi H Q
/-- what a built-in operation asks of the values -/
def rB (K : PySem.W.Frag) : BOp → RB
  | .add => rr fun x y H Q => (rI0 (fun i j => .int (i + j)) x y H Q ∨ (∃ i j, x = .str i ∧ y = .str j ∧ i.length + j.length ≤ sizeLine ∧ Q (.str (i ++ j)) H)) ∨ (rCatT K x y H Q ∨ rCat x y H Q) ∨ rCatE K x y H Q
  | .sub => rr (rI0 fun i j => .int (i - j))
  | .mul => rr fun x y H Q => (rI CMul (fun i j => .int (i * j)) x y H Q ∨ rI CMulW (fun i j => .int (i * j)) x y H Q) ∨ rRep x y H Q ∨ rRepT K x y H Q ∨ rRepS x y H Q
  | .fdiv => rr fun x y H Q => rI CDivN (fun i j => .int (i.fdiv j)) x y H Q ∨ rI CDivW (fun i j => .int (i / j)) x y H Q
  | .mod => rr (rI (fun _ j => j ≠ 0) fun i j => .int (i.fmod j))
  | .pow => rr (rI CPow fun i j => .int (i ^ j.toNat))
  | .lt => rr fun x y H Q => rI0 (fun i j => .bl (decide (i < j))) x y H Q ∨ rLtT K x y H Q
  | .le => rr (rI0 fun i j => .bl (decide (i ≤ j)))
  | .gt => rr (rI0 fun i j => .bl (decide (j < i)))
  | .ge => rr (rI0 fun i j => .bl (decide (j ≤ i)))
  | .eq => rr fun x y H Q => rEq x y H Q ∨ rEqD K x y H Q
  | .ne => rr fun x y H Q => rNe x y H Q ∨ rNeD K x y H Q
  | .inn => rr fun x y H Q => (rInD K x y H Q ∨ rIn K false x y H Q) ∨ ∃ (c : Nat) (z : Str), x = .str ⟨#[c]⟩ ∧ y = .str z ∧ Q (.bl (decide (c ∈ z.cps.toList))) H
  | .nin => rr fun x y H Q => (rNotInD K x y H Q ∨ rIn K true x y H Q) ∨ ∃ (c : Nat) (z : Str), x = .str ⟨#[c]⟩ ∧ y = .str z ∧ Q (.bl (!decide (c ∈ z.cps.toList))) H
  | .ix => rr fun x y H Q => rIx K x y H Q
  | .isN => fun vs H Q => ∃ x, vs = [x] ∧ Q (.bl (decide (x = .non))) H
  | .notN => fun vs H Q => ∃ x, vs = [x] ∧ Q (.bl (!decide (x = .non))) H
  | .neg => fun vs H Q => ∃ x, vs = [x] ∧ rU (fun i => .int (-i)) x H Q
  | .len => fun xs H Q => ∃ x n, xs = [x] ∧ LenV K x H n ∧ Q (.int n) H
  | .max2 => fun xs H Q => ∃ i j, xs = [.int i, .int j] ∧ Q (.int (if j > i then j else i)) H
  | .min2 => fun xs H Q => ∃ i j, xs = [.int i, .int j] ∧ Q (.int (if j < i then j else i)) H
  | .int1 => fun xs H Q => (∃ i, xs = [.int i] ∧ Q (.int i) H) ∨ ∃ k, xs = [.bl k] ∧ Q (.int (if k then 1 else 0)) H
  | .str1 => fun xs H Q => ∃ i, xs = [.int i] ∧ i.natAbs.log2 < 1920 ∧ Q (.str (toString i)) H
  | .isi T => fun xs H Q => ∃ x, xs = [x] ∧ rIsi K [x, .ty T] H Q
  | .tuple1 => fun xs H Q => ∃ p ys, xs = [.ref p] ∧ ((SqL K H p ys ∧ ∀ l, H l = none → Q (.ref l) (upd H l (.tup ys))) ∨ (SqT K H p ys ∧ Q (.ref p) H))
  | .list1 => fun xs H Q => ∃ p ys, xs = [.ref p] ∧ (SqL K H p ys ∨ SqT K H p ys) ∧ ∀ l, H l = none → Q (.ref l) (upd H l (.lst ys))
  | .all1 => rAll K
  | .any1 => rAny K
  | .sum1 => rSum K
  | .join => fun vs H Q => ∃ a p ys, vs = [.str a, .ref p] ∧ (SqL K H p (ys.map V.str) ∨ SqT K H p (ys.map V.str)) ∧ (ys.map fun y => y.length).sum + ys.length * a.length ≤ 16777216 ∧ Q (.str (Txt.join a ys)) H
  | .repr1 => rRepr K
  | .rev => fun vs H Q => ∃ x, vs = [x] ∧ rRevS K x H Q
  | .slO => fun vs H Q => ∃ x, vs = [x] ∧ rSl K x none none H Q
  | .slA => fun vs H Q => ∃ x i, vs = [x, .int i] ∧ rSl K x (some i) none H Q
  | .slB => fun vs H Q => ∃ x i, vs = [x, .int i] ∧ rSl K x none (some i) H Q
  | .slAB => fun vs H Q => ∃ x i j, vs = [x, .int i, .int j] ∧ rSl K x (some i) (some j) H Q
def rM : MOp → V → RB
  | .append => rAppend
  | .extend => rExtend
  | .pop => rPop
  | .popAt => rPopAt
  | .clear => rClear
  | .reverse => rReverse
/-- what a loop's source asks -/
def tSrc (K : PySem.W.Frag) (t : TA) : SrcK → TI
  | .seq => fun σ H R => (t σ H fun vs H1 => ∃ a, vs = [.ref a] ∧ (∃ xs, SqL K H1 a xs) ∧ R (Itl K a) H1) ∨ (t σ H fun vs H1 => ∃ a, vs = [.ref a] ∧ (∃ xs, SqT K H1 a xs) ∧ R (Itt K a) H1) ∨ (t σ H fun vs H1 => ∃ z, vs = [.str z] ∧ R (Its z) H1)
  | .rng => fun σ H R => iRng1 t σ H R ∨ iRng2 t σ H R
  | .enum => iEnum K t
  | .zip => iZip K t
  | .rev => iRev K t
mutual
def gP (K : PySem.W.Frag) : Pat → TG
  | .s i => gName i
  | .t ps => gTup K ps.length (gPs K ps)
def gPs (K : PySem.W.Frag) : List Pat → TGs
  | [] => gNil
  | p :: ps => gCons (gP K p) (gPs K ps)
end
abbrev W0 : WX := fun _ _ _ _ => False
/-- the call of a def of the text -/
def tCl (sp : Sp) (W : WX) (t : TA) : TE := fun σ H Q => t σ H fun vs H1 => sp vs H1 Q fun cls d H2 => W cls d σ H2
/-- a test's reading of a value's -/
def tV (t : TE) : TE × TT := (t, tB t)
mutual
def tX (w : Wd) (sp : Str → Sp) (W : WX) : E → TE × TT
  | .c d => tV fun σ H Q => ∀ v, (∀ H Z, Rep w H Z v d) → Q v H
  | .v i => tV (tVar i)
  | .mov i => tV (tVar i)
  | .frz i => tV (tVar i)
  | .lend i => tV (tVar i)
  | .tup es => tV (tTup (tXs w sp W es))
  | .lst es => tV (tLst (tXs w sp W es))
  | .dic ks es => tV fun σ H Q => (ks = [] ∧ ∀ p, H p = none → Q (.ref p) (upd H p (.dK []))) ∨
      ∃ k kd, ks = [kd] ∧ keyD k = kd ∧ ∀ p, H p = none → tXs w sp W es σ (upd H p (.dK [])) fun vs H2 => H2 p = some (.dK []) ∧ ∃ v, vs = [v] ∧ Q (.ref p) (upd H2 p (.dK [(k, v)]))
  | .op o es => tV fun σ H Q => tXs w sp W es σ H fun vs H1 => rB w.K o vs H1 Q
  | .and a b => (tAndV (tX w sp W a).1 (tX w sp W b).1, tAnd (tX w sp W a).2 (tX w sp W b).2)
  | .or a b => (tOrV (tX w sp W a).1 (tX w sp W b).1, tOr (tX w sp W a).2 (tX w sp W b).2)
  | .not a => (tNotV (tX w sp W a).1, tNot (tX w sp W a).2)
  | .ite c a b => tV (tIf (tX w sp W c).2 (tX w sp W a).1 (tX w sp W b).1)
  | .chain o o' a b c => tV (tChain (fun x y => rB w.K o [x, y]) (fun x y => rB w.K o' [x, y]) (tX w sp W a).1 (tX w sp W b).1 (tX w sp W c).1)
  | .call f es => tV (tCl (sp f) W (tXs w sp W es))
  | .mut m i es => tV fun σ H Q => ∃ v, σ[i]? = some (some v) ∧ tyV w.K "list" v H ∧ tXs w sp W es σ H fun vs H1 => rM m v vs H1 Q
  | .comp own k src p conds elt => tV (tLc (tSrc w.K (tXs w sp W src) k) (gP w.K p) (tCs w sp W0 conds) (tX w sp W0 elt).1 own)
def tXs (w : Wd) (sp : Str → Sp) (W : WX) : List E → TA
  | [] => tNil
  | e :: es => tCons (tX w sp W e).1 (tXs w sp W es)
/-- a condition, or none -/
def tCs (w : Wd) (sp : Str → Sp) (W : WX) : List E → TT
  | [] => tYes
  | e :: es => match es with
    | [] => (tX w sp W e).2
    | _ :: _ => fun _ _ _ => False
end
def ipO : BOp → TIp
  | .add => ipI fun i j => i + j
  | .sub => ipI fun i j => i - j
  | _ => fun _ _ _ _ => False
mutual
def tS (w : Wd) (sp : Str → Sp) (W : WX) : S → TS
  | .set i e => tAsg (tX w sp W e).1 (gName i)
  | .setP ps e => tAsg (tX w sp W e).1 (gTup w.K ps.length (gPs w.K ps))
  | .par i j a b => tPar i j (tXs w sp W [a, b])
  | .aug o i e => tAug i (tX w sp W e).1 (ipO o)
  | .store i k e => tAsg (tX w sp W e).1 (gSub (tVar i) (tX w sp W k).1 rSetL)
  | .ex e => tDrop (tX w sp W e).1
  | .ret e => tRet (tX w sp W e).1
  | .retN => tRetN
  | .ite c a b => tIfS (tX w sp W c).2 (tSs w sp W a) (tSs w sp W b)
  | .for_ k src p body => tFor (tSrc w.K (tXs w sp W src) k) (gP w.K p) (tSs w sp W body)
  | .while_ c body => tWhile (tX w sp W c).2 (tSs w sp W body)
  | .brk => tBreak
  | .cont => tCont
  | .pass => tNext
def tSs (w : Wd) (sp : Str → Sp) (W : WX) : List S → TS
  | [] => tNext
  | s :: ss => tSeq (tS w sp W s) (tSs w sp W ss)
end
end VB
set_option Elab.async false
set_option linter.all false
set_option maxRecDepth 100000
/-! the built-in operations: what the evaluator tells of them is what they do -/
namespace VB
open PySem PySem.Spec L2
open PyProof.Rows hiding St

/-- v may be read as d, whoever's it is -/
def Rd (w : Wd) (H : Hp) (Z : Zn) (v : V) (d : D) : Prop := ∃ r φ, RepR w H Z v r φ ∧ r.read = d
inductive Rds (w : Wd) (H : Hp) (Z : Zn) : List V → List D → Prop
  | nil : Rds w H Z [] []
  | cons {v d vs ds} : Rd w H Z v d → Rds w H Z vs ds → Rds w H Z (v :: vs) (d :: ds)
section
variable {w : Wd} {H : Hp} {Z : Zn} {v : V} {d : D}
theorem Rep.rd (h : Rep w H Z v d) : Rd w H Z v d := ⟨.p d, _, .p h, rfl⟩
theorem Rd.int {i : Int} (h : Rd w H Z v (.int i)) : v = .int i := by
  obtain ⟨r, φ, h, e⟩ := h
  cases h with
  | p h => cases (show _ = D.int i from e); cases h; rfl
  | l _ _ => exact nomatch (show D.lst _ = D.int i from e)
  | m _ _ => exact nomatch (show D.dic _ _ = D.int i from e)
theorem Rd.str {s : Str} (h : Rd w H Z v (.str s)) : v = .str s := by
  obtain ⟨r, φ, h, e⟩ := h
  cases h with
  | p h => cases (show _ = D.str s from e); cases h; rfl
  | l _ _ => exact nomatch (show D.lst _ = D.str s from e)
  | m _ _ => exact nomatch (show D.dic _ _ = D.str s from e)
theorem Rd.bl {b : Bool} (h : Rd w H Z v (.bl b)) : v = .bl b := by
  obtain ⟨r, φ, h, e⟩ := h
  cases h with
  | p h => cases (show _ = D.bl b from e); cases h; rfl
  | l _ _ => exact nomatch (show D.lst _ = D.bl b from e)
  | m _ _ => exact nomatch (show D.dic _ _ = D.bl b from e)
theorem Rd.non (h : Rd w H Z v .non) : v = .non := by
  obtain ⟨r, φ, h, e⟩ := h
  cases h with
  | p h => cases (show _ = D.non from e); cases h; rfl
  | l _ _ => exact nomatch (show D.lst _ = D.non from e)
  | m _ _ => exact nomatch (show D.dic _ _ = D.non from e)
theorem Rd.tup {ds : List D} (h : Rd w H Z v (.tup ds)) : ∃ a vs, v = .ref a ∧ SqT w.K H a vs ∧ Reps w H Z vs ds ∧ Rep w H Z v (.tup ds) := by
  obtain ⟨r, φ, h, e⟩ := h
  cases h with
  | p h =>
    cases (show _ = D.tup ds from e)
    cases h with
    | tup h z r => exact ⟨_, _, rfl, SqT.of h, r, .tup h z r⟩
    | kt h r => exact ⟨_, _, rfl, h.seq H, r, .kt h r⟩
  | l _ _ => exact nomatch (show D.lst _ = D.tup ds from e)
  | m _ _ => exact nomatch (show D.dic _ _ = D.tup ds from e)
theorem Rd.lst {ds : List D} (h : Rd w H Z v (.lst ds)) : ∃ a vs, v = .ref a ∧ H a = some (.lst vs) ∧ Reps w H Z vs ds := by
  obtain ⟨r, φ, h, e⟩ := h
  cases h with
  | p h =>
    cases (show _ = D.lst ds from e)
    cases h with
    | lst h z r => exact ⟨_, _, rfl, h, r⟩
  | l h r => cases (show D.lst _ = D.lst ds from e); exact ⟨_, _, rfl, h, r⟩
  | m _ _ => exact nomatch (show D.dic _ _ = D.lst ds from e)
theorem Rd.scr {ds : List D} (h : Rd w H Z v (.scr ds)) : ∃ a vs, v = .ref a ∧ SqL w.K H a vs ∧ Reps w H Z vs ds := by
  obtain ⟨r, φ, h, e⟩ := h
  cases h with
  | p h =>
    cases (show _ = D.scr ds from e)
    cases h with
    | frz h z r => exact ⟨_, _, rfl, .inl (.inr ⟨_, h⟩), r⟩
    | sll h z r => exact ⟨_, _, rfl, SqL.of h, r⟩
    | kl h _ _ r => exact ⟨_, _, rfl, h H, r⟩
  | l _ _ => exact nomatch (show D.lst _ = D.scr ds from e)
  | m _ _ => exact nomatch (show D.dic _ _ = D.scr ds from e)
theorem Rd.dic {ks ds : List D} (h : Rd w H Z v (.dic ks ds)) : ∃ a kvs, v = .ref a ∧ H a = some (.dK kvs) ∧ Reps w H Z (kvs.map (·.2)) ds ∧ (kvs.map fun q => keyD q.1) = ks := by
  obtain ⟨r, φ, h, e⟩ := h
  cases h with
  | p h =>
    cases (show _ = D.dic ks ds from e)
    cases h with
    | dic h z r => exact ⟨_, _, rfl, h, r, rfl⟩
  | l _ _ => exact nomatch (show D.lst _ = D.dic ks ds from e)
  | m h r => cases (show D.dic _ _ = D.dic ks ds from e); exact ⟨_, _, rfl, h, r, rfl⟩
/-- what tells None -/
theorem Rd.isNon (h : Rd w H Z v d) : decide (v = .non) = d.isNon := by
  obtain ⟨r, φ, h, e⟩ := h
  subst e
  cases h with
  | p h => cases h <;> simp [R.read, D.isNon]
  | l _ _ => simp [R.read, D.isNon]
  | m _ _ => simp [R.read, D.isNon]
theorem Rd.flat (h : Rd w H Z v d) (f : d.flat = true) : v = d.v ∧ flatV v = true := by
  cases d with
  | non => rw [h.non]; exact ⟨rfl, rfl⟩
  | bl b => rw [h.bl]; exact ⟨rfl, rfl⟩
  | int i => rw [h.int]; exact ⟨rfl, rfl⟩
  | str s => rw [h.str]; exact ⟨rfl, rfl⟩
  | _ => exact nomatch f
theorem Reps.len : ∀ {vs : List V} {ds : List D}, Reps w H Z vs ds → vs.length = ds.length
  | _, _, .nil => rfl
  | _, _, .cons _ r => congrArg (· + 1) r.len
theorem Reps.get : ∀ {vs : List V} {ds : List D} {i : Nat} {d : D}, Reps w H Z vs ds → ds[i]? = some d → ∃ v, vs[i]? = some v ∧ Rep w H Z v d
  | _, _, i, _, .nil, e => by simp at e
  | _, _, 0, _, .cons r _, e => by simp at e; subst e; exact ⟨_, rfl, r⟩
  | _, _, i + 1, _, .cons _ r, e => by
    obtain ⟨v, h1, h2⟩ := Reps.get (i := i) r (by simpa using e)
    exact ⟨v, by simpa using h1, h2⟩
theorem Reps.append : ∀ {vs ws : List V} {ds es : List D}, Reps w H Z vs ds → Reps w H Z ws es → Reps w H Z (vs ++ ws) (ds ++ es)
  | _, _, _, _, .nil, s => s
  | _, _, _, _, .cons r t, s => .cons r (t.append s)
theorem Reps.drop : ∀ {vs : List V} {ds : List D} (n : Nat), Reps w H Z vs ds → Reps w H Z (vs.drop n) (ds.drop n)
  | _, _, 0, r => r
  | _, _, _ + 1, .nil => .nil
  | _, _, n + 1, .cons _ t => t.drop n
theorem Reps.take : ∀ {vs : List V} {ds : List D} (n : Nat), Reps w H Z vs ds → Reps w H Z (vs.take n) (ds.take n)
  | _, _, 0, _ => .nil
  | _, _, _ + 1, .nil => .nil
  | _, _, n + 1, .cons r t => .cons r (t.take n)
theorem Reps.cut {vs : List V} {ds : List D} {lo hi : Option Int} (r : Reps w H Z vs ds) : Reps w H Z (cutV vs lo hi) (cutD ds lo hi) := by
  unfold cutV cutD
  rw [r.len]
  exact (r.drop _).take _
theorem Reps.set {v : V} {d : D} (r : Rep w H Z v d) : ∀ {vs : List V} {ds : List D} (n : Nat), Reps w H Z vs ds → Reps w H Z (vs.set n v) (ds.set n d)
  | _, _, _, .nil => .nil
  | _, _, 0, .cons _ t => .cons r t
  | _, _, n + 1, .cons q t => .cons q (t.set r n)
theorem Reps.erase : ∀ {vs : List V} {ds : List D} (n : Nat), Reps w H Z vs ds → Reps w H Z (vs.eraseIdx n) (ds.eraseIdx n)
  | _, _, _, .nil => .nil
  | _, _, 0, .cons _ t => t
  | _, _, n + 1, .cons q t => .cons q (t.erase n)
theorem Reps.dropLast {vs : List V} {ds : List D} (r : Reps w H Z vs ds) : Reps w H Z vs.dropLast ds.dropLast := by
  rw [List.dropLast_eq_take, List.dropLast_eq_take, r.len]; exact r.take _
theorem Reps.reverse : ∀ {vs : List V} {ds : List D}, Reps w H Z vs ds → Reps w H Z vs.reverse ds.reverse
  | _, _, .nil => .nil
  | _, _, .cons q t => by
    rw [List.reverse_cons, List.reverse_cons]
    exact t.reverse.append (.cons q .nil)
theorem Reps.rep {vs : List V} {ds : List D} (r : Reps w H Z vs ds) : ∀ n : Nat, Reps w H Z (List.replicate n vs).flatten (List.replicate n ds).flatten
  | 0 => .nil
  | n + 1 => by
    rw [List.replicate_succ, List.replicate_succ, List.flatten_cons, List.flatten_cons]
    exact r.append (r.rep n)
theorem Reps.at {vs : List V} {ds : List D} {i : Int} {d : D} (r : Reps w H Z vs ds) (e : atI ds i = some d) : ∃ v, atI vs i = some v ∧ Rep w H Z v d := by
  unfold atI at *
  rw [r.len]
  cases q : ixN ds.length i with
  | none => rw [q] at e; cases e
  | some j =>
    rw [q] at e
    exact r.get e
theorem Reps.ints : ∀ {vs : List V} {ds : List D} {ns : List Int}, Reps w H Z vs ds → intsD ds = some ns → vs = ns.map V.int
  | _, _, _, .nil, e => by cases e; rfl
  | v :: vs, .int i :: ds, ns, .cons r t, e => by
    simp only [intsD, Option.map_eq_some_iff] at e
    obtain ⟨is, e, rfl⟩ := e
    rw [t.ints e]
    cases r; rfl
  | v :: vs, .non :: ds, ns, _, e => nomatch e
  | v :: vs, .bl _ :: ds, ns, _, e => nomatch e
  | v :: vs, .str _ :: ds, ns, _, e => nomatch e
  | v :: vs, .tup _ :: ds, ns, _, e => nomatch e
  | v :: vs, .lst _ :: ds, ns, _, e => nomatch e
  | v :: vs, .dic _ _ :: ds, ns, _, e => nomatch e
  | v :: vs, .fn _ :: ds, ns, _, e => nomatch e
  | v :: vs, .scr _ :: ds, ns, _, e => nomatch e
  | v :: vs, .ty _ :: ds, ns, _, e => nomatch e
  | v :: vs, .ins _ _ _ :: ds, ns, _, e => nomatch e
theorem Reps.strs : ∀ {vs : List V} {ds : List D} {ns : List Str}, Reps w H Z vs ds → strsD ds = some ns → vs = ns.map V.str
  | _, _, _, .nil, e => by cases e; rfl
  | v :: vs, .str i :: ds, ns, .cons r t, e => by
    simp only [strsD, Option.map_eq_some_iff] at e
    obtain ⟨is, e, rfl⟩ := e
    rw [t.strs e]
    cases r; rfl
  | v :: vs, .non :: ds, ns, _, e => nomatch e
  | v :: vs, .bl _ :: ds, ns, _, e => nomatch e
  | v :: vs, .int _ :: ds, ns, _, e => nomatch e
  | v :: vs, .tup _ :: ds, ns, _, e => nomatch e
  | v :: vs, .lst _ :: ds, ns, _, e => nomatch e
  | v :: vs, .dic _ _ :: ds, ns, _, e => nomatch e
  | v :: vs, .fn _ :: ds, ns, _, e => nomatch e
  | v :: vs, .scr _ :: ds, ns, _, e => nomatch e
  | v :: vs, .ty _ :: ds, ns, _, e => nomatch e
  | v :: vs, .ins _ _ _ :: ds, ns, _, e => nomatch e
theorem Reps.bools : ∀ {vs : List V} {ds : List D} {ns : List Bool}, Reps w H Z vs ds → boolsD ds = some ns → vs = ns.map V.bl
  | _, _, _, .nil, e => by cases e; rfl
  | v :: vs, .bl i :: ds, ns, .cons r t, e => by
    simp only [boolsD, Option.map_eq_some_iff] at e
    obtain ⟨is, e, rfl⟩ := e
    rw [t.bools e]
    cases r; rfl
  | v :: vs, .non :: ds, ns, _, e => nomatch e
  | v :: vs, .int _ :: ds, ns, _, e => nomatch e
  | v :: vs, .str _ :: ds, ns, _, e => nomatch e
  | v :: vs, .tup _ :: ds, ns, _, e => nomatch e
  | v :: vs, .lst _ :: ds, ns, _, e => nomatch e
  | v :: vs, .dic _ _ :: ds, ns, _, e => nomatch e
  | v :: vs, .fn _ :: ds, ns, _, e => nomatch e
  | v :: vs, .scr _ :: ds, ns, _, e => nomatch e
  | v :: vs, .ty _ :: ds, ns, _, e => nomatch e
  | v :: vs, .ins _ _ _ :: ds, ns, _, e => nomatch e
theorem Reps.flats : ∀ {vs : List V} {ds : List D}, Reps w H Z vs ds → ds.all D.flat = true → vs = ds.map D.v ∧ vs.all flatV = true
  | _, _, .nil, _ => ⟨rfl, rfl⟩
  | _, _, .cons r t, f => by
    rw [List.all_cons, Bool.and_eq_true] at f
    obtain ⟨h1, h2⟩ := r.rd.flat f.1
    obtain ⟨h3, h4⟩ := t.flats f.2
    refine ⟨?_, ?_⟩
    · rw [List.map_cons, ← h1, ← h3]
    · rw [List.all_cons, h2, h4]; rfl
mutual
theorem Rep.dp : ∀ {v : V} {d : D} {x : PyData}, Rep w H Z v d → d.py = some x → Dp w.K H v x
  | _, _, _, .non, e => by cases e; exact .non
  | _, _, _, .bl b, e => by cases e; exact .bl b
  | _, _, _, .int i, e => by cases e; exact .int i
  | _, _, _, .str s, e => by cases e; exact .str s
  | _, _, _, .tup h z r, e => by
    simp only [D.py, Option.map_eq_some_iff] at e
    obtain ⟨xs, e, rfl⟩ := e
    exact .tup (SqT.of h) (Reps.dp r e)
  | _, _, _, .lst h z r, e => by
    simp only [D.py, Option.map_eq_some_iff] at e
    obtain ⟨xs, e, rfl⟩ := e
    exact .lst (SqL.of h) (Reps.dp r e)
  | _, _, _, .frz h z r, e => by
    simp only [D.py, Option.map_eq_some_iff] at e
    obtain ⟨xs, e, rfl⟩ := e
    exact .lst (.inl (.inr ⟨_, h⟩)) (Reps.dp r e)
  | _, _, _, .sll h z r, e => by
    simp only [D.py, Option.map_eq_some_iff] at e
    obtain ⟨xs, e, rfl⟩ := e
    exact .lst (SqL.of h) (Reps.dp r e)
  | _, _, _, .kl h _ _ r, e => by
    simp only [D.py, Option.map_eq_some_iff] at e
    obtain ⟨xs, e, rfl⟩ := e
    exact .lst (h H) (Reps.dp r e)
  | _, _, _, .kt h r, e => by
    simp only [D.py, Option.map_eq_some_iff] at e
    obtain ⟨xs, e, rfl⟩ := e
    exact .tup (h.seq H) (Reps.dp r e)
  | _, _, _, .dic _ _ _, e => nomatch e
  | _, _, _, .fn _, e => nomatch e
theorem Reps.dp : ∀ {vs : List V} {ds : List D} {xs : List PyData}, Reps w H Z vs ds → D.pys ds = some xs → DpAll w.K H vs xs
  | _, _, _, .nil, e => by cases e; exact .nil
  | _, _, _, .cons r t, e => by
    simp only [D.pys, Option.bind_eq_some_iff, Option.map_eq_some_iff] at e
    obtain ⟨x, e1, xs, e2, rfl⟩ := e
    exact .cons (Rep.dp r e1) (Reps.dp t e2)
end
theorem Rd.dp {x : PyData} (h : Rd w H Z v d) (e : d.py = some x) : Dp w.K H v x := by
  obtain ⟨r, φ, h, e'⟩ := h
  cases h with
  | p h => cases (show _ = d from e'); exact h.dp e
  | l h r =>
    cases (show D.lst _ = d from e')
    simp only [D.py, Option.map_eq_some_iff] at e
    obtain ⟨xs, e, rfl⟩ := e
    exact .lst (SqL.of h) (Reps.dp r e)
  | m h r => cases (show D.dic _ _ = d from e'); exact nomatch e
theorem keys_dq {ks : List Key} : ∀ {ps : List PyData}, keysP (ks.map keyD) = some ps → ps = ks.map keyP := by
  induction ks with
  | nil => intro ps e; cases e; rfl
  | cons k ks ih =>
    intro ps e
    cases k with
    | inl i =>
      have e : (keysP (ks.map keyD)).map _ = some ps := e
      rw [Option.map_eq_some_iff] at e
      obtain ⟨l, e1, rfl⟩ := e
      rw [ih e1]; rfl
    | inr i =>
      have e : (keysP (ks.map keyD)).map _ = some ps := e
      rw [Option.map_eq_some_iff] at e
      obtain ⟨l, e1, rfl⟩ := e
      rw [ih e1]; rfl
mutual
theorem Rep.dq : ∀ {v : V} {d : D} {x : PyData}, Rep w H Z v d → d.pyr = some x → Dq w.K H v x
  | _, _, _, .non, e => by cases e; exact .non
  | _, _, _, .bl b, e => by cases e; exact .bl b
  | _, _, _, .int i, e => by cases e; exact .int i
  | _, _, _, .str s, e => by cases e; exact .str s
  | _, _, _, .tup h z r, e => by
    simp only [D.pyr, Option.map_eq_some_iff] at e
    obtain ⟨xs, e, rfl⟩ := e
    exact .tup (SqT.of h) (Reps.dq r e)
  | _, _, _, .lst h z r, e => by
    simp only [D.pyr, Option.map_eq_some_iff] at e
    obtain ⟨xs, e, rfl⟩ := e
    exact .lst (SqL.of h) (Reps.dq r e)
  | _, _, _, .frz h z r, e => nomatch e
  | _, _, _, .sll h z r, e => nomatch e
  | _, _, _, .kl h _ _ r, e => nomatch e
  | _, _, _, .kt h r, e => by
    simp only [D.pyr, Option.map_eq_some_iff] at e
    obtain ⟨xs, e, rfl⟩ := e
    exact .tup (h.seq H) (Reps.dq r e)
  | _, _, _, .dic (kvs := kvs) h _ r, e => by
    simp only [D.pyr, Option.bind_eq_some_iff, Option.map_eq_some_iff] at e
    obtain ⟨ks, e1, vs, e2, rfl⟩ := e
    have e3 : keysP ((kvs.map (·.1)).map keyD) = some ks := by rw [List.map_map]; exact e1
    have e4 := keys_dq e3
    rw [List.map_map] at e4
    subst e4
    exact .dic h (Reps.dq r e2)
  | _, _, _, .fn _, e => nomatch e
theorem Reps.dq : ∀ {vs : List V} {ds : List D} {xs : List PyData}, Reps w H Z vs ds → D.pyrs ds = some xs → DqAll w.K H vs xs
  | _, _, _, .nil, e => by cases e; exact .nil
  | _, _, _, .cons r t, e => by
    simp only [D.pyrs, Option.bind_eq_some_iff, Option.map_eq_some_iff] at e
    obtain ⟨x, e1, xs, e2, rfl⟩ := e
    exact .cons (Rep.dq r e1) (Reps.dq t e2)
end
theorem Rd.dq {x : PyData} (h : Rd w H Z v d) (e : d.pyr = some x) : Dq w.K H v x := by
  obtain ⟨r, φ, h, e'⟩ := h
  cases h with
  | p h => cases (show _ = d from e'); exact h.dq e
  | l h r =>
    cases (show D.lst _ = d from e')
    simp only [D.pyr, Option.map_eq_some_iff] at e
    obtain ⟨xs, e, rfl⟩ := e
    exact .lst (SqL.of h) (Reps.dq r e)
  | @m a kvs ds h r =>
    cases (show D.dic _ _ = d from e')
    simp only [D.pyr, Option.bind_eq_some_iff, Option.map_eq_some_iff] at e
    obtain ⟨ks, e1, vs, e2, rfl⟩ := e
    have e3 : keysP ((kvs.map (·.1)).map keyD) = some ks := by rw [List.map_map]; exact e1
    have e4 := keys_dq e3
    rw [List.map_map] at e4
    subst e4
    exact .dic h (Reps.dq r e2)
theorem Rd.ty {t : String} (h : Rd w H Z v d) (e : tyD d = some t) : TyX w.K H v (.type t) := by
  obtain ⟨r, φ, h, e'⟩ := h
  cases h with
  | p h =>
    cases (show _ = d from e')
    cases h with
    | non => cases e; exact .base .non
    | bl b => cases e; exact .base (.bl b)
    | int i => cases e; exact .base (.int i)
    | str s => cases e; exact .base (.str s)
    | tup h z r => cases e; exact .base (.tup h)
    | lst h z r => cases e; exact .base (.lst h)
    | frz h z r => cases e
    | sll h z r => cases e
    | kl h _ _ r => cases e
    | kt h r => cases e; obtain ⟨o, its, n, k, c, _⟩ := h; exact .kTuple k c
    | dic h z r => cases e; exact .base (.dK h)
    | fn h => cases e
  | l h r => cases (show D.lst _ = d from e'); cases e; exact .base (.lst h)
  | m h r => cases (show D.dic _ _ = d from e'); cases e; exact .base (.dK h)
end

/-- an end of a step that made at most one thing -/
structure Fin (w : Wd) (H : Hp) (Z : Zn) (r : R) (Q : VK) : Prop where
  s : ∀ v d, r = .p d → Rep w H Z v d → Q v H
  t : ∀ p vs ds, r = .p (.tup ds) → H p = none → Reps w H Z vs ds → Q (.ref p) (upd H p (.tup vs))
  l : ∀ p vs ds, r = .l ds → H p = none → Reps w H Z vs ds → Q (.ref p) (upd H p (.lst vs))
section
variable {w : Wd} {σ : St} {ρ : Env} {H : Hp} {Z : Zn} {φx φ : Fp} {Q : VK} {v : V} {d : D} {p : Addr} {vs : List V} {ds : List D}
theorem Fin.same (f : Fin w H Z (.p d) Q) (r : Rep w H Z v d) : Q v H := f.s v d rfl r
theorem Fin.tup (f : Fin w H Z (.p (.tup ds)) Q) (r : Reps w H Z vs ds) (hp : H p = none) : Q (.ref p) (upd H p (.tup vs)) := f.t p vs ds rfl hp r
theorem Fin.lst (f : Fin w H Z (.l ds) Q) (r : Reps w H Z vs ds) (hp : H p = none) : Q (.ref p) (upd H p (.lst vs)) := f.l p vs ds rfl hp r
theorem RepE.keptZ {Z' : Zn} {H' : Hp} (k : Kept H Z H' Z') (ko : ∀ a o, φ a ≠ 0 → H a = some o → H' a = some o) (e : RepE w H Z σ ρ φ) : RepE w H' Z' σ ρ φ := by
  induction e with
  | nil => exact .nil
  | no _ ih => exact .no (ih ko)
  | @so v r σ ρ f1 f2 hr h ih =>
    refine .so ?_ (ih fun a o h => ko a o (by simp only [Fp.add_at]; omega))
    have k1 : ∀ a o, f1 a ≠ 0 → H a = some o → H' a = some o := fun a o h => ko a o (by simp only [Fp.add_at]; omega)
    cases hr with
    | p h => exact .p (h.kept k)
    | l h rs => exact .l (k1 _ _ (by rw [Fp.one_at]; exact Nat.one_ne_zero) h) (rs.kept k)
    | m h rs => exact .m (k1 _ _ (by rw [Fp.one_at]; exact Nat.one_ne_zero) h) (rs.kept k)
theorem kept_new {o : HO} {Z' : Zn} (hp : H p = none) (hz : ∀ a, Z a → Z' a) : Kept H Z (upd H p o) Z' := ⟨fun a x _ h => by rw [upd_ne (ne_of_none h hp)]; exact h, hz⟩
theorem RepE.new {o : HO} {Z' : Zn} (hp : H p = none) (hz : ∀ a, Z a → Z' a) (e : RepE w H Z σ ρ φ) : RepE w (upd H p o) Z' σ ρ φ :=
  e.keptZ (kept_new hp hz) fun a x _ h => by rw [upd_ne (ne_of_none h hp)]; exact h
theorem Fin.of {r : R} (g : Good H Z (Fp.add φx φ)) (e : RepE w H Z σ ρ φ) (f : ∀ v H' Z' φr, Step H Z (Fp.add φx φ) H' Z' (Fp.add φr φ) → Good H' Z' (Fp.add φr φ) → RepR w H' Z' v r φr → RepE w H' Z' σ ρ φ → Q v H') : Fin w H Z r Q := by
  refine ⟨fun v d h r => ?_, fun p vs ds h hp r => ?_, fun p vs ds h hp r => ?_⟩
  · subst h
    exact f v H Z Fp.zero (Step.le fun a => by simp) (g.le fun a => by simp) (.p r) e
  · subst h
    exact f (.ref p) _ (fun a => Z a ∨ a = p) Fp.zero ((Step.newZ hp).trans (Step.le fun a => by simp)) ((g.newZ hp).le fun a => by simp)
      (.p (.tup upd_same (.inr rfl) (r.kept (kept_new hp fun _ z => .inl z)))) (e.new hp fun _ z => .inl z)
  · subst h
    exact f (.ref p) _ Z (Fp.one p) ((Step.newO hp).trans (Step.le fun a => by simp only [Fp.add_at]; omega)) ((g.newO hp).le fun a => by simp only [Fp.add_at]; omega)
      (.l upd_same (r.kept (kept_new hp fun _ z => z))) (e.new hp fun _ z => z)
end
end VB
set_option Elab.async false
set_option linter.all false
set_option maxRecDepth 100000
set_option maxHeartbeats 4000000
/-! each built-in operation keeps what the evaluator tells -/
namespace VB
open PySem PySem.Spec L2
open PyProof.Rows hiding St

section
variable {w : Wd} {σ : St} {ρ : Env} {H : Hp} {Z : Zn} {φx φ : Fp} {Q : VK} {vs : List V} {ds : List D} {r : R}
theorem intOp_some {f : Int → Int → R} {a b : D} (h : intOp f a b = some r) : ∃ i j, a = .int i ∧ b = .int j ∧ r = f i j := by
  unfold intOp at h
  split at h
  · exact ⟨_, _, rfl, rfl, (Option.some.inj h).symm⟩
  · exact nomatch h
theorem bR_some {o : Option Bool} (h : bR o = some r) : ∃ b, o = some b ∧ r = .p (.bl b) := by
  cases o with
  | none => exact nomatch h
  | some b => exact ⟨b, rfl, (Option.some.inj h).symm⟩
theorem mulOk_iff {i j : Int} (h : mulOk i j = true) : CMul i j ∨ CMulW i j := by
  unfold mulOk at h
  simp only [Bool.or_eq_true, Bool.and_eq_true, decide_eq_true_eq] at h
  rcases h with (h | h) | h
  · exact .inl (.inl h)
  · exact .inl (.inr h)
  · exact .inr h
theorem divOk_iff {j : Int} (h : divOk j = true) : (j ≠ 0 ∧ j.natAbs < 1073741824) ∨ (0 < j ∧ j.natAbs.log2 < 9000) := by
  unfold divOk at h
  simp only [Bool.or_eq_true, Bool.and_eq_true, decide_eq_true_eq] at h
  exact h
theorem eqD_sound {a b : D} {k : Bool} {x y : V} (ra : Rd w H Z x a) (rb : Rd w H Z y b) (h : eqD a b = some k) (q : Q (.bl k) H) : rEq x y H Q ∨ rEqD w.K x y H Q := by
  unfold eqD at h
  split at h
  · rename_i hf
    simp only [Bool.and_eq_true] at hf
    obtain ⟨e1, _⟩ := ra.flat hf.1.1
    obtain ⟨e2, _⟩ := rb.flat hf.1.2
    refine .inl ⟨by rw [e1, e2]; exact hf.2, ?_⟩
    rw [e1, e2]
    cases h; exact q
  · simp only [Option.bind_eq_some_iff] at h
    obtain ⟨u, e1, v, e2, h⟩ := h
    split at h
    · rename_i hs
      simp only [Bool.and_eq_true] at hs
      cases h
      exact .inr ⟨u, v, ra.dp e1, rb.dp e2, hs.1, hs.2, q⟩
    · exact nomatch h
theorem neD_sound {a b : D} {k : Bool} {x y : V} (ra : Rd w H Z x a) (rb : Rd w H Z y b) (h : eqD a b = some k) (q : Q (.bl (!k)) H) : rNe x y H Q ∨ rNeD w.K x y H Q := by
  unfold eqD at h
  split at h
  · rename_i hf
    simp only [Bool.and_eq_true] at hf
    obtain ⟨e1, _⟩ := ra.flat hf.1.1
    obtain ⟨e2, _⟩ := rb.flat hf.1.2
    refine .inl ⟨by rw [e1, e2]; exact hf.2, ?_⟩
    rw [e1, e2]
    cases h; exact q
  · simp only [Option.bind_eq_some_iff] at h
    obtain ⟨u, e1, v, e2, h⟩ := h
    split at h
    · rename_i hs
      simp only [Bool.and_eq_true] at hs
      cases h
      exact .inr ⟨u, v, ra.dp e1, rb.dp e2, hs.1, hs.2, q⟩
    · exact nomatch h
theorem inD_sound {a b : D} {k : Bool} {x y : V} (ra : Rd w H Z x a) (rb : Rd w H Z y b) (h : inD a b = some k) (q : Q (.bl k) H) :
    (rInD w.K x y H Q ∨ rIn w.K false x y H Q) ∨ ∃ (c : Nat) (z : Str), x = .str ⟨#[c]⟩ ∧ y = .str z ∧ Q (.bl (decide (c ∈ z.cps.toList))) H := by
  unfold inD at h
  split at h
  · simp only [Option.bind_eq_some_iff] at h
    obtain ⟨u, e1, v, e2, h⟩ := h
    split at h
    · rename_i hs
      simp only [Bool.and_eq_true] at hs
      cases h
      refine .inl (.inl ⟨u, v, ra.dp e1, rb.dp ?_, hs.1, hs.2, q⟩)
      rw [D.py, e2]; rfl
    · exact nomatch h
  · split at h
    · rename_i hf
      simp only [Bool.and_eq_true] at hf
      obtain ⟨p, xs, rfl, hq, rs, _⟩ := rb.tup
      obtain ⟨e1, f1⟩ := ra.flat hf.1
      obtain ⟨e2, f2⟩ := rs.flats hf.2
      refine .inl (.inr ⟨p, xs, rfl, .inr hq, f1, f2, ?_⟩)
      rw [e1, e2]
      cases h; exact q
    · exact nomatch h
  · split at h
    · rename_i cs
      split at h
      · rename_i c hc
        refine .inr ⟨c, _, ?_, rb.str, ?_⟩
        · rw [ra.str]
          have : cs = #[c] := by
            apply Array.ext'
            rw [hc]
          rw [this]
        · cases h; exact q
      · exact nomatch h
    · exact nomatch h
  · exact nomatch h
theorem ninD_sound {a b : D} {k : Bool} {x y : V} (ra : Rd w H Z x a) (rb : Rd w H Z y b) (h : inD a b = some k) (q : Q (.bl (!k)) H) :
    (rNotInD w.K x y H Q ∨ rIn w.K true x y H Q) ∨ ∃ (c : Nat) (z : Str), x = .str ⟨#[c]⟩ ∧ y = .str z ∧ Q (.bl (!decide (c ∈ z.cps.toList))) H := by
  unfold inD at h
  split at h
  · simp only [Option.bind_eq_some_iff] at h
    obtain ⟨u, e1, v, e2, h⟩ := h
    split at h
    · rename_i hs
      simp only [Bool.and_eq_true] at hs
      cases h
      refine .inl (.inl ⟨u, v, ra.dp e1, rb.dp ?_, hs.1, hs.2, q⟩)
      rw [D.py, e2]; rfl
    · exact nomatch h
  · split at h
    · rename_i hf
      simp only [Bool.and_eq_true] at hf
      obtain ⟨p, xs, rfl, hq, rs, _⟩ := rb.tup
      obtain ⟨e1, f1⟩ := ra.flat hf.1
      obtain ⟨e2, f2⟩ := rs.flats hf.2
      refine .inl (.inr ⟨p, xs, rfl, .inr hq, f1, f2, ?_⟩)
      rw [e1, e2]
      cases h; exact q
    · exact nomatch h
  · split at h
    · rename_i cs
      split at h
      · rename_i c hc
        refine .inr ⟨c, _, ?_, rb.str, ?_⟩
        · rw [ra.str]
          have : cs = #[c] := by
            apply Array.ext'
            rw [hc]
          rw [this]
        · cases h; exact q
      · exact nomatch h
    · exact nomatch h
  · exact nomatch h
theorem slD_sound {a : D} {x : V} {lo hi : Option Int} (ra : Rd w H Z x a) (h : slD a lo hi = some r) (f : Fin w H Z r Q) : rSl w.K x lo hi H Q := by
  unfold slD at h
  split at h
  · obtain ⟨p, ys, rfl, hq, rs⟩ := ra.lst
    cases h
    exact .inr (.inl ⟨p, ys, rfl, SqL.of hq, fun q hq' => f.lst rs.cut hq'⟩)
  · obtain ⟨p, ys, rfl, hq, rs, rw'⟩ := ra.tup
    cases h
    refine .inl ⟨p, ys, rfl, hq, fun hw => ?_, fun _ q hq' => f.tup rs.cut hq'⟩
    rw [rs.len] at hw
    have e : ∀ zs : List D, HT.sIx zs.length 0 lo = 0 → HT.sIx zs.length zs.length hi = zs.length → cutD zs lo hi = zs := fun zs z1 z2 => by
      unfold cutD
      rw [z1, z2, List.drop_zero, Nat.sub_zero, List.take_length]
    rw [e _ hw.1 hw.2] at f
    exact f.same rw'
  · split at h
    · rename_i hl
      cases h
      exact .inr (.inr ⟨_, ra.str, hl, f.same (.str _)⟩)
    · exact nomatch h
  · exact nomatch h
theorem revD_sound {a : D} {x : V} (ra : Rd w H Z x a) (h : revD a = some r) (f : Fin w H Z r Q) : rRevS w.K x H Q := by
  unfold revD at h
  split at h
  · obtain ⟨p, ys, rfl, hq, rs⟩ := ra.lst
    cases h
    exact .inr ⟨p, ys, rfl, SqL.of hq, fun q hq' => f.lst rs.reverse hq'⟩
  · obtain ⟨p, ys, rfl, hq, rs, rw'⟩ := ra.tup
    cases h
    exact .inl ⟨p, ys, rfl, hq, fun q hq' => f.tup rs.reverse hq'⟩
  · exact nomatch h
theorem isi_sound {a : D} {x : V} {t T : String} {k : Bool} (ra : Rd w H Z x a) (ht : tyD a = some t) (h : isiD t T = some k) (q : Q (.bl k) H) : rIsi w.K [x, .ty T] H Q := by
  refine ⟨x, .ty T, .type t, .type T, k, rfl, .ty T, ra.ty ht, ?_, q⟩
  have tt : t = "NoneType" ∨ t = "bool" ∨ t = "int" ∨ t = "str" ∨ t = "tuple" ∨ t = "list" ∨ t = "dict" := by
    cases a <;> cases ht <;> simp
  unfold isiD at h
  split at h
  · rename_i hT
    subst hT
    rcases tt with rfl | rfl | rfl | rfl | rfl | rfl | rfl <;> (cases h; rfl)
  · split at h
    · rename_i hT
      simp only [Bool.or_eq_true, decide_eq_true_eq] at hT
      rcases hT with (((rfl | rfl) | rfl) | rfl) | rfl <;> rcases tt with rfl | rfl | rfl | rfl | rfl | rfl | rfl <;> (cases h; rfl)
    · exact nomatch h
theorem opB_sound {o : BOp} (rd : Rds w H Z vs ds) (h : opB o ds = some r) (f : Fin w H Z r Q) : rB w.K o vs H Q := by
  cases o with
  | add =>
    rcases rd with _ | ⟨ra, _ | ⟨rb, _ | ⟨rc, rt⟩⟩⟩ <;> first | (exfalso; simp [opB] at h; done) | skip
    rename_i x a y b
    refine ⟨x, y, rfl, ?_⟩
    have h : addD a b = some r := h
    unfold addD at h
    split at h
    · cases h; exact .inl (.inl ⟨_, _, ra.int, rb.int, f.same (.int _)⟩)
    · split at h
      · rename_i hl; cases h; exact .inl (.inr ⟨_, _, ra.str, rb.str, hl, f.same (.str _)⟩)
      · exact nomatch h
    · obtain ⟨p, xs, rfl, hx, rx, rwx⟩ := ra.tup
      obtain ⟨q, ys, rfl, hy, ry, rwy⟩ := rb.tup
      split at h
      · rename_i hl
        cases h
        rcases Decidable.em (xs = []) with hn | hn
        · subst hn
          cases rx
          exact .inr (.inr ⟨p, q, ys, rfl, rfl, hx, hy, by rw [ry.len]; simpa using hl, f.same rwy⟩)
        · refine .inr (.inl (.inl ⟨p, q, xs, ys, rfl, rfl, hx, hy, hn, by rw [rx.len, ry.len]; exact hl, fun z => ?_, fun _ p hp => f.tup (rx.append ry) hp⟩))
          subst z
          have z2 := List.length_eq_zero_iff.mp ry.len.symm
          subst z2
          rw [List.append_nil] at f
          exact f.same rwx
      · exact nomatch h
    · obtain ⟨p, xs, rfl, hx, rx⟩ := ra.lst
      obtain ⟨q, ys, rfl, hy, ry⟩ := rb.lst
      split at h
      · rename_i hl
        cases h
        exact .inr (.inl (.inr ⟨p, q, xs, ys, rfl, rfl, hx, hy, by rw [rx.len, ry.len]; exact hl, fun p hp => f.lst (rx.append ry) hp⟩))
      · exact nomatch h
    · exact nomatch h
  | sub =>
    rcases rd with _ | ⟨ra, _ | ⟨rb, _ | ⟨rc, rt⟩⟩⟩ <;> first | (exfalso; simp [opB] at h; done) | skip
    obtain ⟨i, j, rfl, rfl, rfl⟩ := intOp_some (show intOp _ _ _ = some r from h)
    exact ⟨_, _, rfl, i, j, ra.int, rb.int, f.same (.int _)⟩
  | mul =>
    rcases rd with _ | ⟨ra, _ | ⟨rb, _ | ⟨rc, rt⟩⟩⟩ <;> first | (exfalso; simp [opB] at h; done) | skip
    rename_i x a y b
    refine ⟨x, y, rfl, ?_⟩
    have h : mulD a b = some r := h
    unfold mulD at h
    split at h
    · split at h
      · rename_i hm
        cases h
        rcases mulOk_iff hm with hm | hm
        · exact .inl (.inl ⟨_, _, ra.int, rb.int, hm, f.same (.int _)⟩)
        · exact .inl (.inr ⟨_, _, ra.int, rb.int, hm, f.same (.int _)⟩)
      · exact nomatch h
    · obtain ⟨p, xs, rfl, hx, rx, _⟩ := ra.tup
      split at h
      · rename_i hl
        cases h
        refine .inr (.inr (.inl ⟨p, _, xs, rfl, rb.int, hx, fun z => hl.1 ?_, hl.2.1, hl.2.2.1, by rw [rx.len]; exact hl.2.2.2, fun p hp => f.tup (rx.rep _) hp⟩))
        subst z
        exact List.length_eq_zero_iff.mp rx.len.symm
      · exact nomatch h
    · split at h
      · rename_i hl
        cases h
        exact .inr (.inr (.inr ⟨_, _, ra.str, rb.int, hl.1, hl.2.1, hl.2.2, f.same (.str _)⟩))
      · exact nomatch h
    · obtain ⟨p, xs, rfl, hx, rx⟩ := ra.lst
      split at h
      · rename_i hl
        cases h
        exact .inr (.inl ⟨p, _, xs, rfl, rb.int, hx, hl.1, hl.2.1, by rw [rx.len]; exact hl.2.2, fun p hp => f.lst (rx.rep _) hp⟩)
      · exact nomatch h
    · exact nomatch h
  | fdiv =>
    rcases rd with _ | ⟨ra, _ | ⟨rb, _ | ⟨rc, rt⟩⟩⟩ <;> first | (exfalso; simp [opB] at h; done) | skip
    rename_i x a y b
    cases a <;> first | (exfalso; simp [opB] at h; done) | skip
    cases b <;> first | (exfalso; simp [opB] at h; done) | skip
    rename_i i j
    have h : (if divOk j then some (R.p (.int (i.fdiv j))) else none) = some r := h
    refine ⟨x, y, rfl, ?_⟩
    split at h
    · rename_i hd
      cases h
      rcases divOk_iff hd with hd | hd
      · exact .inl ⟨i, j, ra.int, rb.int, hd, f.same (.int _)⟩
      · refine .inr ⟨i, j, ra.int, rb.int, hd, ?_⟩
        show Q (.int (i / j)) H
        rw [show i / j = i.fdiv j from (Int.fdiv_eq_ediv_of_nonneg i (by omega)).symm]
        exact f.same (.int _)
    · exact nomatch h
  | mod =>
    rcases rd with _ | ⟨ra, _ | ⟨rb, _ | ⟨rc, rt⟩⟩⟩ <;> first | (exfalso; simp [opB] at h; done) | skip
    rename_i x a y b
    cases a <;> first | (exfalso; simp [opB] at h; done) | skip
    cases b <;> first | (exfalso; simp [opB] at h; done) | skip
    rename_i i j
    have h : (if j ≠ 0 then some (R.p (.int (i.fmod j))) else none) = some r := h
    refine ⟨x, y, rfl, ?_⟩
    split at h
    · rename_i hd
      cases h
      exact ⟨i, j, ra.int, rb.int, hd, f.same (.int _)⟩
    · exact nomatch h
  | pow =>
    rcases rd with _ | ⟨ra, _ | ⟨rb, _ | ⟨rc, rt⟩⟩⟩ <;> first | (exfalso; simp [opB] at h; done) | skip
    rename_i x a y b
    cases a <;> first | (exfalso; simp [opB] at h; done) | skip
    cases b <;> first | (exfalso; simp [opB] at h; done) | skip
    rename_i i j
    have h : (if 0 ≤ j ∧ j ≤ 1000000 ∧ i.natAbs < 2 ^ 64 then some (R.p (.int (i ^ j.toNat))) else none) = some r := h
    refine ⟨x, y, rfl, ?_⟩
    split at h
    · rename_i hd
      cases h
      exact ⟨i, j, ra.int, rb.int, hd, f.same (.int _)⟩
    · exact nomatch h
  | lt =>
    rcases rd with _ | ⟨ra, _ | ⟨rb, _ | ⟨rc, rt⟩⟩⟩ <;> first | (exfalso; simp [opB] at h; done) | skip
    rename_i x a y b
    obtain ⟨k, h2, rfl⟩ := bR_some (show bR (ltD a b) = some r from h)
    clear h
    refine ⟨x, y, rfl, ?_⟩
    unfold ltD at h2
    split at h2
    · cases h2; exact .inl ⟨_, _, ra.int, rb.int, f.same (.bl _)⟩
    · simp only [Option.bind_eq_some_iff, Option.map_eq_some_iff] at h2
      obtain ⟨ns, e1, ms, e2, rfl⟩ := h2
      obtain ⟨p, xs, rfl, hx, rx, _⟩ := ra.tup
      obtain ⟨q, ys, rfl, hy, ry, _⟩ := rb.tup
      have z1 := rx.ints e1
      have z2 := ry.ints e2
      subst z1 z2
      exact .inr ⟨p, q, ns, ms, rfl, rfl, hx, hy, f.same (.bl _)⟩
    · exact nomatch h2
  | le =>
    rcases rd with _ | ⟨ra, _ | ⟨rb, _ | ⟨rc, rt⟩⟩⟩ <;> first | (exfalso; simp [opB] at h; done) | skip
    rename_i x a y b
    obtain ⟨k, h2, rfl⟩ := bR_some (show bR (leD a b) = some r from h)
    clear h
    refine ⟨x, y, rfl, ?_⟩
    unfold leD at h2
    split at h2
    · cases h2; exact ⟨_, _, ra.int, rb.int, f.same (.bl _)⟩
    · exact nomatch h2
  | gt =>
    rcases rd with _ | ⟨ra, _ | ⟨rb, _ | ⟨rc, rt⟩⟩⟩ <;> first | (exfalso; simp [opB] at h; done) | skip
    rename_i x a y b
    cases a <;> first | (exfalso; simp [opB] at h; done) | skip
    cases b <;> first | (exfalso; simp [opB] at h; done) | skip
    rename_i i j
    cases h
    exact ⟨x, y, rfl, i, j, ra.int, rb.int, f.same (.bl _)⟩
  | ge =>
    rcases rd with _ | ⟨ra, _ | ⟨rb, _ | ⟨rc, rt⟩⟩⟩ <;> first | (exfalso; simp [opB] at h; done) | skip
    rename_i x a y b
    cases a <;> first | (exfalso; simp [opB] at h; done) | skip
    cases b <;> first | (exfalso; simp [opB] at h; done) | skip
    rename_i i j
    cases h
    exact ⟨x, y, rfl, i, j, ra.int, rb.int, f.same (.bl _)⟩
  | eq =>
    rcases rd with _ | ⟨ra, _ | ⟨rb, _ | ⟨rc, rt⟩⟩⟩ <;> first | (exfalso; simp [opB] at h; done) | skip
    rename_i x a y b
    obtain ⟨k, h2, rfl⟩ := bR_some (show bR (eqD a b) = some r from h)
    clear h
    exact ⟨x, y, rfl, eqD_sound ra rb h2 (f.same (.bl _))⟩
  | ne =>
    rcases rd with _ | ⟨ra, _ | ⟨rb, _ | ⟨rc, rt⟩⟩⟩ <;> first | (exfalso; simp [opB] at h; done) | skip
    rename_i x a y b
    obtain ⟨k, h2, rfl⟩ := bR_some (show bR ((eqD a b).map not) = some r from h)
    clear h
    rw [Option.map_eq_some_iff] at h2
    obtain ⟨k', h2, rfl⟩ := h2
    exact ⟨x, y, rfl, neD_sound ra rb h2 (f.same (.bl _))⟩
  | inn =>
    rcases rd with _ | ⟨ra, _ | ⟨rb, _ | ⟨rc, rt⟩⟩⟩ <;> first | (exfalso; simp [opB] at h; done) | skip
    rename_i x a y b
    obtain ⟨k, h2, rfl⟩ := bR_some (show bR (inD a b) = some r from h)
    clear h
    exact ⟨x, y, rfl, inD_sound ra rb h2 (f.same (.bl _))⟩
  | nin =>
    rcases rd with _ | ⟨ra, _ | ⟨rb, _ | ⟨rc, rt⟩⟩⟩ <;> first | (exfalso; simp [opB] at h; done) | skip
    rename_i x a y b
    obtain ⟨k, h2, rfl⟩ := bR_some (show bR ((inD a b).map not) = some r from h)
    clear h
    rw [Option.map_eq_some_iff] at h2
    obtain ⟨k', h2, rfl⟩ := h2
    exact ⟨x, y, rfl, ninD_sound ra rb h2 (f.same (.bl _))⟩
  | ix =>
    rcases rd with _ | ⟨ra, _ | ⟨rb, _ | ⟨rc, rt⟩⟩⟩ <;> first | (exfalso; simp [opB] at h; done) | skip
    rename_i x a y b
    have h : ixD a b = some r := h
    refine ⟨x, y, rfl, ?_⟩
    unfold ixD at h
    split at h
    · split at h
      · rw [Option.map_eq_some_iff] at h
        obtain ⟨d, hd, rfl⟩ := h
        obtain ⟨p, xs, rfl, hx, rx⟩ := ra.lst
        obtain ⟨v, hv, rv⟩ := rx.at hd
        exact .inl ⟨p, xs, _, v, rfl, rb.int, SqL.of hx, hv, f.same rv⟩
      · rw [Option.map_eq_some_iff] at h
        obtain ⟨d, hd, rfl⟩ := h
        obtain ⟨p, xs, rfl, hx, rx⟩ := ra.scr
        obtain ⟨v, hv, rv⟩ := rx.at hd
        exact .inl ⟨p, xs, _, v, rfl, rb.int, hx, hv, f.same rv⟩
      · rw [Option.map_eq_some_iff] at h
        obtain ⟨d, hd, rfl⟩ := h
        obtain ⟨p, xs, rfl, hx, rx, _⟩ := ra.tup
        obtain ⟨v, hv, rv⟩ := rx.at hd
        exact .inr (.inl ⟨p, xs, _, v, rfl, rb.int, hx, hv, f.same rv⟩)
      · split at h
        · rename_i hl
          rw [Option.map_eq_some_iff] at h
          obtain ⟨c, hc, rfl⟩ := h
          exact .inr (.inr ⟨_, _, c, ra.str, rb.int, hl, hc, f.same (.str _)⟩)
        · exact nomatch h
      · exact nomatch h
    · exact nomatch h
  | isN =>
    rcases rd with _ | ⟨ra, _ | ⟨rb, rt⟩⟩ <;> first | (exfalso; simp [opB] at h; done) | skip
    rename_i x a
    cases h
    refine ⟨x, rfl, ?_⟩
    rw [ra.isNon]
    exact f.same (.bl _)
  | notN =>
    rcases rd with _ | ⟨ra, _ | ⟨rb, rt⟩⟩ <;> first | (exfalso; simp [opB] at h; done) | skip
    rename_i x a
    cases h
    refine ⟨x, rfl, ?_⟩
    rw [ra.isNon]
    exact f.same (.bl _)
  | neg =>
    rcases rd with _ | ⟨ra, _ | ⟨rb, rt⟩⟩ <;> first | (exfalso; simp [opB] at h; done) | skip
    rename_i x a
    cases a <;> first | (exfalso; simp [opB] at h; done) | skip
    rename_i i
    cases h
    exact ⟨x, rfl, i, ra.int, f.same (.int _)⟩
  | len =>
    rcases rd with _ | ⟨ra, _ | ⟨rb, rt⟩⟩ <;> first | (exfalso; simp [opB] at h; done) | skip
    rename_i x a
    simp only [opB, Option.map_eq_some_iff] at h
    obtain ⟨n, h2, rfl⟩ := h
    refine ⟨x, n, rfl, ?_, f.same (.int _)⟩
    clear f
    unfold lenD at h2
    split at h2
    · split at h2
      · rename_i hl
        cases h2
        rw [ra.str]; exact ⟨hl, rfl⟩
      · exact nomatch h2
    · obtain ⟨p, xs, rfl, hx, rx⟩ := ra.lst
      cases h2
      exact .inl ⟨xs, SqL.of hx, rx.len.symm⟩
    · obtain ⟨p, xs, rfl, hx, rx⟩ := ra.scr
      cases h2
      exact .inl ⟨xs, hx, rx.len.symm⟩
    · obtain ⟨p, xs, rfl, hx, rx, _⟩ := ra.tup
      cases h2
      exact .inr ⟨xs, hx, rx.len.symm⟩
    · exact nomatch h2
  | max2 =>
    rcases rd with _ | ⟨ra, _ | ⟨rb, _ | ⟨rc, rt⟩⟩⟩ <;> first | (exfalso; simp [opB] at h; done) | skip
    rename_i x a y b
    cases a <;> first | (exfalso; simp [opB] at h; done) | skip
    cases b <;> first | (exfalso; simp [opB] at h; done) | skip
    rename_i i j
    cases h
    refine ⟨i, j, by rw [ra.int, rb.int], f.same (.int _)⟩
  | min2 =>
    rcases rd with _ | ⟨ra, _ | ⟨rb, _ | ⟨rc, rt⟩⟩⟩ <;> first | (exfalso; simp [opB] at h; done) | skip
    rename_i x a y b
    cases a <;> first | (exfalso; simp [opB] at h; done) | skip
    cases b <;> first | (exfalso; simp [opB] at h; done) | skip
    rename_i i j
    cases h
    refine ⟨i, j, by rw [ra.int, rb.int], f.same (.int _)⟩
  | int1 =>
    rcases rd with _ | ⟨ra, _ | ⟨rb, rt⟩⟩ <;> first | (exfalso; simp [opB] at h; done) | skip
    rename_i x a
    cases a <;> first | (exfalso; simp [opB] at h; done) | skip
    · rename_i b
      cases h
      exact .inr ⟨b, by rw [ra.bl], f.same (.int _)⟩
    · rename_i i
      cases h
      exact .inl ⟨i, by rw [ra.int], f.same (.int _)⟩
  | str1 =>
    rcases rd with _ | ⟨ra, _ | ⟨rb, rt⟩⟩ <;> first | (exfalso; simp [opB] at h; done) | skip
    rename_i x a
    cases a <;> first | (exfalso; simp [opB] at h; done) | skip
    rename_i i
    have h : (if i.natAbs.log2 < 1920 then some (R.p (.str (toString i))) else none) = some r := h
    split at h
    · rename_i hl
      cases h
      exact ⟨i, by rw [ra.int], hl, f.same (.str _)⟩
    · exact nomatch h
  | isi T =>
    rcases rd with _ | ⟨ra, _ | ⟨rb, rt⟩⟩ <;> first | (exfalso; simp [opB] at h; done) | skip
    rename_i x a
    have h : (tyD a).bind (fun t => bR (isiD t T)) = some r := h
    rw [Option.bind_eq_some_iff] at h
    obtain ⟨t, ht, h⟩ := h
    obtain ⟨k, h2, rfl⟩ := bR_some h
    exact ⟨x, rfl, isi_sound ra ht h2 (f.same (.bl _))⟩
  | tuple1 =>
    rcases rd with _ | ⟨ra, _ | ⟨rb, rt⟩⟩ <;> first | (exfalso; simp [opB] at h; done) | skip
    rename_i x a
    cases a <;> first | (exfalso; simp [opB] at h; done) | skip
    · cases h
      obtain ⟨p, xs, rfl, hx, rx, rw'⟩ := ra.tup
      exact ⟨p, xs, rfl, .inr ⟨hx, f.same rw'⟩⟩
    · cases h
      obtain ⟨p, xs, rfl, hx, rx⟩ := ra.lst
      exact ⟨p, xs, rfl, .inl ⟨SqL.of hx, fun l hl => f.tup rx hl⟩⟩
  | list1 =>
    rcases rd with _ | ⟨ra, _ | ⟨rb, rt⟩⟩ <;> first | (exfalso; simp [opB] at h; done) | skip
    rename_i x a
    cases a <;> first | (exfalso; simp [opB] at h; done) | skip
    · cases h
      obtain ⟨p, xs, rfl, hx, rx, _⟩ := ra.tup
      exact ⟨p, xs, rfl, .inr hx, fun l hl => f.lst rx hl⟩
    · cases h
      obtain ⟨p, xs, rfl, hx, rx⟩ := ra.lst
      exact ⟨p, xs, rfl, .inl (SqL.of hx), fun l hl => f.lst rx hl⟩
  | all1 =>
    rcases rd with _ | ⟨ra, _ | ⟨rb, rt⟩⟩ <;> first | (exfalso; simp [opB] at h; done) | skip
    rename_i x a
    cases a <;> first | (exfalso; simp [opB] at h; done) | skip
    rename_i xs
    have h : (boolsD xs).map _ = some r := h
    rw [Option.map_eq_some_iff] at h
    obtain ⟨bs, hb, rfl⟩ := h
    obtain ⟨p, vs, rfl, hx, rx⟩ := ra.lst
    have z := rx.bools hb
    subst z
    exact ⟨p, bs, rfl, SqL.of hx, f.same (.bl _)⟩
  | any1 =>
    rcases rd with _ | ⟨ra, _ | ⟨rb, rt⟩⟩ <;> first | (exfalso; simp [opB] at h; done) | skip
    rename_i x a
    cases a <;> first | (exfalso; simp [opB] at h; done) | skip
    rename_i xs
    have h : (boolsD xs).map _ = some r := h
    rw [Option.map_eq_some_iff] at h
    obtain ⟨bs, hb, rfl⟩ := h
    obtain ⟨p, vs, rfl, hx, rx⟩ := ra.lst
    have z := rx.bools hb
    subst z
    exact ⟨p, bs, rfl, SqL.of hx, f.same (.bl _)⟩
  | sum1 =>
    rcases rd with _ | ⟨ra, _ | ⟨rb, rt⟩⟩ <;> first | (exfalso; simp [opB] at h; done) | skip
    rename_i x a
    cases a <;> first | (exfalso; simp [opB] at h; done) | skip
    rename_i xs
    have h : (intsD xs).map _ = some r := h
    rw [Option.map_eq_some_iff] at h
    obtain ⟨bs, hb, rfl⟩ := h
    obtain ⟨p, vs, rfl, hx, rx⟩ := ra.lst
    have z := rx.ints hb
    subst z
    exact ⟨p, bs, rfl, SqL.of hx, f.same (.int _)⟩
  | slA =>
    rcases rd with _ | ⟨ra, _ | ⟨rb, _ | ⟨rc, rt⟩⟩⟩ <;> first | (exfalso; simp [opB] at h; done) | skip
    rename_i x a y b
    cases b <;> first | (exfalso; simp [opB] at h; done) | skip
    rename_i i
    exact ⟨x, i, by rw [rb.int], slD_sound ra h f⟩
  | slB =>
    rcases rd with _ | ⟨ra, _ | ⟨rb, _ | ⟨rc, rt⟩⟩⟩ <;> first | (exfalso; simp [opB] at h; done) | skip
    rename_i x a y b
    cases b <;> first | (exfalso; simp [opB] at h; done) | skip
    rename_i i
    exact ⟨x, i, by rw [rb.int], slD_sound ra h f⟩
  | slAB =>
    rcases rd with _ | ⟨ra, _ | ⟨rb, _ | ⟨rc, _ | ⟨rd', rt⟩⟩⟩⟩ <;> first | (exfalso; simp [opB] at h; done) | skip
    rename_i x a y b z c
    cases b <;> first | (exfalso; simp [opB] at h; done) | skip
    cases c <;> first | (exfalso; simp [opB] at h; done) | skip
    rename_i i j
    exact ⟨x, i, j, by rw [rb.int, rc.int], slD_sound ra h f⟩
  | join =>
    rcases rd with _ | ⟨ra, _ | ⟨rb, _ | ⟨rc, rt⟩⟩⟩ <;> first | (exfalso; simp [opB] at h; done) | skip
    rename_i x a y b
    cases a <;> first | (exfalso; simp [opB] at h; done) | skip
    cases b <;> first | (exfalso; simp [opB] at h; done) | skip
    rename_i a xs
    have h : (strsD xs).bind _ = some r := h
    rw [Option.bind_eq_some_iff] at h
    obtain ⟨ys, hb, h⟩ := h
    split at h
    · rename_i hl
      cases h
      obtain ⟨p, vs, rfl, hx, rx⟩ := rb.lst
      have z := rx.strs hb
      subst z
      exact ⟨a, p, ys, by rw [ra.str], .inl (SqL.of hx), hl, f.same (.str _)⟩
    · exact nomatch h
  | repr1 =>
    rcases rd with _ | ⟨ra, _ | ⟨rb, rt⟩⟩ <;> first | (exfalso; simp [opB] at h; done) | skip
    rename_i x a
    have h : (reprD a).map _ = some r := h
    rw [Option.map_eq_some_iff] at h
    obtain ⟨t, ht, rfl⟩ := h
    unfold reprD at ht
    rw [Option.bind_eq_some_iff] at ht
    obtain ⟨y, hy, ht⟩ := ht
    split at ht
    · rename_i hc
      cases ht
      simp only [Bool.and_eq_true, decide_eq_true_eq] at hc
      exact ⟨x, y, rfl, ra.dq hy, hc.1.1, hc.1.2, hc.2, f.same (.str _)⟩
    · exact nomatch ht
  | rev =>
    rcases rd with _ | ⟨ra, _ | ⟨rb, rt⟩⟩ <;> first | (exfalso; simp [opB] at h; done) | skip
    rename_i x a
    exact ⟨x, rfl, revD_sound ra h f⟩
  | slO =>
    rcases rd with _ | ⟨ra, _ | ⟨rb, rt⟩⟩ <;> first | (exfalso; simp [opB] at h; done) | skip
    rename_i x a
    exact ⟨x, rfl, slD_sound ra h f⟩
end
end VB
set_option Elab.async false
set_option linter.all false
set_option maxRecDepth 100000
/-! what is held while a text goes on -/
namespace VB
open PySem PySem.Spec L2
open PyProof.Rows hiding St

/-- what an expression came to, at its value -/
inductive VR (w : Wd) (H : Hp) (Z : Zn) (σ : St) : V → Val → Fp → Prop
  | val {v : V} {r : R} {φ : Fp} : RepR w H Z v r φ → VR w H Z σ v (.val r) φ
  | at {v : V} {i : Nat} : σ[i]? = some (some v) → VR w H Z σ v (.at i) Fp.zero
  | lent {v : V} {r : R} {i : Nat} {φ : Fp} : σ[i]? = some (some v) → RepR w H Z v r φ → VR w H Z σ v (.lent r i) φ
inductive VRs (w : Wd) (H : Hp) (Z : Zn) (σ : St) : List V → List Val → Fp → Prop
  | nil : VRs w H Z σ [] [] Fp.zero
  | cons {v : V} {x : Val} {vs : List V} {xs : List Val} {f1 f2 : Fp} : VR w H Z σ v x f1 → VRs w H Z σ vs xs f2 → VRs w H Z σ (v :: vs) (x :: xs) (Fp.add f1 f2)
/-- an error in flight -/
def ExcRep (w : Wd) (H : Hp) (Z : Zn) (c : Str) (ns : List Str) (ds : List D) (cls : Value) (d : Option Addr) : Prop :=
  ∃ C, w.ga c = some C ∧ cls = .ref C ∧ ((ns = [] ∧ d = none) ∨ ∃ a fs, d = some a ∧ H a = some (.xd fs) ∧ Z a ∧ fs.map (·.1) = ns ∧ Reps w H Z (fs.map (·.2)) ds)

section
variable {w : Wd} {σ : St} {ρ : Env} {H H1 H2 H' : Hp} {Z Z1 Z2 Z' : Zn} {φ φ1 φ2 φ' ψ : Fp} {W : WX}
theorem VR.frame {v : V} {x : Val} (g : Good H Z (Fp.add φ ψ)) (s : Step H Z φ H' Z' φ') (h : VR w H Z σ v x ψ) : VR w H' Z' σ v x ψ := by
  cases h with
  | val h => exact .val (h.frame g s)
  | «at» h => exact .at h
  | lent e h => exact .lent e (h.frame g s)
theorem VRs.frame {vs : List V} {xs : List Val} (s : Step H Z φ H' Z' φ') (g : Good H Z (Fp.add φ ψ)) (h : VRs w H Z σ vs xs ψ) : VRs w H' Z' σ vs xs ψ := by
  induction h with
  | nil => exact .nil
  | @cons v x vs xs f1 f2 h t ih =>
    exact .cons (h.frame (g.le fun a => by simp only [Fp.add_at]; omega) s) (ih (g.le fun a => by simp only [Fp.add_at]; omega))

def SatV (w : Wd) (W : WX) (σ : St) (H : Hp) (Z : Zn) (φ : Fp) (Q : VK) : Res (Val × Env) → Prop
  | .ok q => ∀ v H' Z' φx φ', Step H Z φ H' Z' (Fp.add φx φ') → Good H' Z' (Fp.add φx φ') → VR w H' Z' σ v q.1 φx → RepE w H' Z' σ q.2 φ' → Q v H'
  | .exc c ns vs ρ' => ∀ cls d H' Z' φ', Step H Z φ H' Z' φ' → Good H' Z' φ' → RepE w H' Z' σ ρ' φ' → ExcRep w H' Z' c ns vs cls d → W cls d σ H'
  | .stuck => False
def SatL (w : Wd) (W : WX) (σ : St) (H : Hp) (Z : Zn) (φ : Fp) (Q : List V → Hp → Prop) : Res (List Val × Env) → Prop
  | .ok q => ∀ vs H' Z' φx φ', Step H Z φ H' Z' (Fp.add φx φ') → Good H' Z' (Fp.add φx φ') → VRs w H' Z' σ vs q.1 φx → RepE w H' Z' σ q.2 φ' → Q vs H'
  | .exc c ns vs ρ' => ∀ cls d H' Z' φ', Step H Z φ H' Z' φ' → Good H' Z' φ' → RepE w H' Z' σ ρ' φ' → ExcRep w H' Z' c ns vs cls d → W cls d σ H'
  | .stuck => False
def SatB (w : Wd) (W : WX) (σ : St) (H : Hp) (Z : Zn) (φ : Fp) (Q : Bool → Hp → Prop) : Res (Bool × Env) → Prop
  | .ok q => ∀ H' Z' φ', Step H Z φ H' Z' φ' → Good H' Z' φ' → RepE w H' Z' σ q.2 φ' → Q q.1 H'
  | .exc c ns vs ρ' => ∀ cls d H' Z' φ', Step H Z φ H' Z' φ' → Good H' Z' φ' → RepE w H' Z' σ ρ' φ' → ExcRep w H' Z' c ns vs cls d → W cls d σ H'
  | .stuck => False
theorem SatV.step {Q : VK} {r : Res (Val × Env)} (s : Step H Z φ H1 Z1 φ1) (h : SatV w W σ H Z φ Q r) : SatV w W σ H1 Z1 φ1 Q r := by
  cases r with
  | ok q => exact fun v H' Z' φx φ' s' => h v H' Z' φx φ' (s.trans s')
  | exc c ns vs ρ' => exact fun cls d H' Z' φ' s' => h cls d H' Z' φ' (s.trans s')
  | stuck => exact h
theorem SatB.step {Q : Bool → Hp → Prop} {r : Res (Bool × Env)} (s : Step H Z φ H1 Z1 φ1) (h : SatB w W σ H Z φ Q r) : SatB w W σ H1 Z1 φ1 Q r := by
  cases r with
  | ok q => exact fun H' Z' φ' s' => h H' Z' φ' (s.trans s')
  | exc c ns vs ρ' => exact fun cls d H' Z' φ' s' => h cls d H' Z' φ' (s.trans s')
  | stuck => exact h
theorem SatL.step {Q : List V → Hp → Prop} {r : Res (List Val × Env)} (s : Step H Z φ H1 Z1 φ1) (h : SatL w W σ H Z φ Q r) : SatL w W σ H1 Z1 φ1 Q r := by
  cases r with
  | ok q => exact fun vs H' Z' φx φ' s' => h vs H' Z' φx φ' (s.trans s')
  | exc c ns vs ρ' => exact fun cls d H' Z' φ' s' => h cls d H' Z' φ' (s.trans s')
  | stuck => exact h
/-- another's own thing beside: it is forgotten at an error -/
theorem Step.dropR (s : Step H Z φ H' Z' φ') : Step H Z (Fp.add φ ψ) H' Z' φ' := (s.frame (ψ := ψ)).trans (Step.le fun a => by simp)
/-- a value's facts where a name holds a thing -/
theorem VR.rd {v : V} {x : Val} {d : D} (h : VR w H Z σ v x ψ) (e : RepE w H Z σ ρ φ) (g : x.get ρ = some d) : Rd w H Z v d := by
  cases h with
  | val h => cases g; exact ⟨_, _, h, rfl⟩
  | @«at» i h =>
    simp only [Val.get, Option.map_eq_some_iff] at g
    obtain ⟨r, hr, rfl⟩ := g
    obtain ⟨v', f1, f2, e1, e2, _, _⟩ := e.at hr
    rw [h] at e1
    cases e1
    exact ⟨_, _, e2, rfl⟩
  | lent _ _ => exact nomatch g
theorem VRs.rds {vs : List V} {xs : List Val} {ds : List D} (h : VRs w H Z σ vs xs ψ) (e : RepE w H Z σ ρ φ) (g : gets ρ xs = some ds) : Rds w H Z vs ds := by
  induction h generalizing ds with
  | nil => cases g; exact .nil
  | cons h t ih =>
    simp only [gets, Option.bind_eq_some_iff, Option.map_eq_some_iff] at g
    obtain ⟨d, e1, ds', e2, rfl⟩ := g
    exact .cons (h.rd e e1) (ih e2)
/-- what is kept elsewhere is plain from then on -/
theorem VR.isEsc {v : V} {x : Val} (h : VR w H Z σ v x ψ) {r : R} (e : x = .val r) : RepR w H Z v r ψ := by
  subst e
  cases h with
  | val h => exact h

/-- the locked things -/
inductive LR (w : Wd) (H : Hp) (Z : Zn) (σ : St) : List (Nat × R) → Fp → Prop
  | nil : LR w H Z σ [] Fp.zero
  | cons {i : Nat} {v : V} {r : R} {l : List (Nat × R)} {f1 f2 : Fp} : σ[i]? = some (some v) → RepR w H Z v r f1 → LR w H Z σ l f2 → LR w H Z σ ((i, r) :: l) (Fp.add f1 f2)
theorem LR.frame {l : List (Nat × R)} (s : Step H Z φ H' Z' φ') (g : Good H Z (Fp.add φ ψ)) (h : LR w H Z σ l ψ) : LR w H' Z' σ l ψ := by
  induction h with
  | nil => exact .nil
  | @cons i v r l f1 f2 e h t ih =>
    exact .cons e (h.frame (g.le fun a => by simp only [Fp.add_at]; omega) s) (ih (g.le fun a => by simp only [Fp.add_at]; omega))
theorem LR.mem {l : List (Nat × R)} {i : Nat} {r : R} (h : LR w H Z σ l ψ) (m : (i, r) ∈ l) : ∃ v f, σ[i]? = some (some v) ∧ RepR w H Z v r f ∧ ∀ a, f a ≤ ψ a := by
  induction h with
  | nil => cases m
  | @cons i' v r' l f1 f2 e h t ih =>
    rcases List.mem_cons.mp m with m | m
    · cases m; exact ⟨v, f1, e, h, fun a => by simp⟩
    · obtain ⟨v, f, a1, a2, a3⟩ := ih m
      exact ⟨v, f, a1, a2, fun a => by have := a3 a; simp only [Fp.add_at]; omega⟩
theorem locked {os : List Val} : ∀ {ρ : Env} {φ : Fp}, RepE w H Z σ ρ φ → ∃ ψ φ', φ = Fp.add ψ φ' ∧ RepE w H Z σ (lockE ρ (locks ρ os)) φ' ∧ LR w H Z σ (locks ρ os) ψ := by
  induction os with
  | nil => intro ρ φ h; exact ⟨Fp.zero, φ, (Fp.zero_add _).symm, h, .nil⟩
  | cons o os ih =>
    intro ρ φ h
    cases o with
    | val r => exact ih h
    | lent r i => exact ih h
    | «at» i =>
      cases e : ρ.gt i with
      | none => simp only [locks, e]; exact ih h
      | some r =>
        have own : (∃ d, r = .p d) ∨ locks ρ (.at i :: os) = (i, r) :: locks (ρ.set i none) os := by
          cases r with
          | p d => exact .inl ⟨d, rfl⟩
          | _ => exact .inr (by simp only [locks, e])
        rcases own with ⟨d, rfl⟩ | q
        · simp only [locks, e]; exact ih h
        · obtain ⟨v, f1, f2, e1, e2, e3, e4⟩ := h.at e
          obtain ⟨ψ, φ', a1, a2, a3⟩ := ih e4
          refine ⟨Fp.add f1 ψ, φ', ?_, ?_, ?_⟩
          · rw [e3, a1, Fp.add_assoc]
          · rw [q]; exact a2
          · rw [q]; exact .cons e1 e2 a3
theorem unlocked {l : List (Nat × R)} (h : LR w H Z σ l ψ) : ∀ {ρ : Env} {φ : Fp}, RepE w H Z σ ρ φ → ∃ φ', (∀ a, φ' a ≤ ψ a + φ a) ∧ RepE w H Z σ (unlockE ρ l) φ' := by
  induction h with
  | nil => intro ρ φ h; exact ⟨φ, fun a => by simp, h⟩
  | @cons i v r l f1 f2 e hr t ih =>
    intro ρ φ h
    obtain ⟨φ', a1, a2⟩ := ih h
    obtain ⟨φ'', b1, b2⟩ := a2.back hr e
    exact ⟨φ'', fun a => by have := a1 a; have := b1 a; simp only [Fp.add_at]; omega, b2⟩
/-- given back behind a call -/
theorem givenBack {vs : List V} {xs : List Val} (h : VRs w H1 Z1 σ vs xs φ1) : ∀ {outs ρ : Env} {φ ψ : Fp}, RepE w H Z (vs.map some) outs ψ → RepE w H Z σ ρ φ →
    ∃ φ', (∀ a, φ' a ≤ ψ a + φ a) ∧ RepE w H Z σ (giveBack ρ xs outs) φ' := by
  induction h with
  | nil => intro outs ρ φ ψ ho h; exact ⟨φ, fun a => by omega, h⟩
  | @cons v x vs xs f1 f2 hx t ih =>
    intro outs ρ φ ψ ho h
    cases ho with
    | no ho =>
      obtain ⟨φ', a1, a2⟩ := ih ho h
      cases x with
      | val r => exact ⟨φ', a1, a2⟩
      | «at» i => exact ⟨φ', a1, a2⟩
      | lent r i =>
        obtain ⟨φ'', b1, b2⟩ := a2.drop i
        exact ⟨φ'', fun a => by have := a1 a; have := b1 a; omega, b2⟩
    | @so _ r' _ _ g1 g2 hr ho =>
      obtain ⟨φ', a1, a2⟩ := ih ho h
      cases x with
      | val r => exact ⟨φ', fun a => by have := a1 a; simp only [Fp.add_at]; omega, a2⟩
      | «at» i => exact ⟨φ', fun a => by have := a1 a; simp only [Fp.add_at]; omega, a2⟩
      | lent r i =>
        cases hx with
        | lent e _ =>
          obtain ⟨φ'', b1, b2⟩ := a2.back hr e
          exact ⟨φ'', fun a => by have := a1 a; have := b1 a; simp only [Fp.add_at]; omega, b2⟩
/-- slots of no known value -/
theorem RepE.unset {σ : St} {ρ : Env} {φ : Fp} {i : Nat} {x : Option V} (h : RepE w H Z (σ.set i x) (ρ.set i none) φ) : RepE w H Z σ (ρ.set i none) φ := by
  induction σ generalizing ρ φ i with
  | nil => exact h
  | cons y σ ih =>
    cases ρ with
    | nil => cases i <;> cases h
    | cons o ρ =>
      cases i with
      | zero =>
        cases h with
        | no h => exact .no h
      | succ i =>
        cases h with
        | no h => exact .no (ih h)
        | so r h => exact .so r (ih h)
theorem RepE.wipe {own : List Nat} {σ : St} {ρ : Env} {φ : Fp} (h : RepE w H Z σ ρ φ) : ∃ φ', (∀ a, φ' a ≤ φ a) ∧ RepE w H Z (wipe σ own) (wipeE ρ own) φ' := by
  induction own with
  | nil => exact ⟨φ, fun _ => Nat.le_refl _, h⟩
  | cons i own ih =>
    obtain ⟨f, a, b⟩ := ih
    obtain ⟨f', a', b'⟩ := b.any (i := i) (x := none)
    exact ⟨f', fun x => Nat.le_trans (a' x) (a x), b'⟩
theorem RepE.unwipe {own : List Nat} {ρ : Env} {φ : Fp} : ∀ {σ : St}, RepE w H Z (L2.wipe σ own) (wipeE ρ own) φ → RepE w H Z σ (wipeE ρ own) φ := by
  intro σ
  have key : ∀ (own' : List Nat), (∀ i ∈ own', (wipeE ρ own).gt i = none) → RepE w H Z (L2.wipe σ own') (wipeE ρ own) φ → RepE w H Z σ (wipeE ρ own) φ := by
    intro own'
    induction own' with
    | nil => exact fun _ h => h
    | cons i own' ih =>
      intro hn h
      refine ih (fun j hj => hn j (List.mem_cons_of_mem _ hj)) ?_
      have e : (wipeE ρ own).set i none = wipeE ρ own := by
        apply List.ext_getElem?
        intro k
        rw [List.getElem?_set]
        split
        · rename_i hk
          subst hk
          have := hn i List.mem_cons_self
          simp only [Env.gt, List.getD_eq_getElem?_getD] at this
          split
          · rename_i hl
            cases q : (wipeE ρ own)[i]? with
            | none => rw [List.getElem?_eq_none_iff] at q; omega
            | some y => rw [q] at this; simp at this; rw [this]
          · rename_i hl; rw [List.getElem?_eq_none (by omega)]
        · rfl
      have h2 : RepE w H Z ((L2.wipe σ own').set i none) ((wipeE ρ own).set i none) φ := by rw [e]; exact h
      have h3 := RepE.unset h2
      rw [e] at h3
      exact h3
  refine key own ?_
  clear key
  induction own with
  | nil => intro i hi; cases hi
  | cons j own ih =>
    intro i hi
    have : ∀ (l : Env) (k : Nat), Env.gt (l.set k none) i = none ∨ Env.gt (l.set k none) i = l.gt i := by
      intro l k
      simp only [Env.gt, List.getD_eq_getElem?_getD, List.getElem?_set]
      split
      · split <;> simp
      · exact .inr rfl
    by_cases q : i = j
    · subst q
      simp only [wipeE, Env.gt, List.getD_eq_getElem?_getD, List.getElem?_set]
      split
      · split <;> simp
      · rename_i q; exact absurd trivial q
    · rcases this (wipeE ρ own) j with e | e
      · exact e
      · rw [wipeE, e]
        exact ih i (by rcases List.mem_cons.mp hi with z | z; exact absurd z q; exact z)
end
end VB
set_option Elab.async false
set_option linter.all false
set_option maxRecDepth 100000
/-! what a loop walks -/
namespace VB
open PySem PySem.Spec L2
open PyProof.Rows hiding St

/-- only new plain things came -/
structure Grow (H : Hp) (Z : Zn) (H' : Hp) (Z' : Zn) : Prop where
  keep : ∀ a o, H a = some o → H' a = some o
  zs : ∀ a, Z a → Z' a
  new : ∀ a, Z' a → Z a ∨ H a = none
  on : ∀ a, Z' a → ¬ Z a → H' a ≠ none
section
variable {w : Wd} {σ : St} {ρ : Env} {H H1 H2 H' : Hp} {Z Z1 Z2 Z' : Zn} {φ φ1 φ2 φ' ψ φx : Fp} {W : WX}
theorem Grow.refl : Grow H Z H Z := ⟨fun _ _ h => h, fun _ z => z, fun _ z => .inl z, fun _ z n => absurd z n⟩
theorem Grow.tup {T : Addr} {xs : List V} (hT : H T = none) : Grow H Z (upd H T (.tup xs)) (fun a => Z a ∨ a = T) :=
  ⟨fun a o h => by rw [upd_ne (ne_of_none h hT)]; exact h, fun _ z => .inl z, fun a z => z.elim .inl fun e => .inr (by rw [e]; exact hT), fun a z n => by
    rcases z with z | z
    · exact absurd z n
    · subst z; rw [upd_same]; exact fun q => nomatch q⟩
theorem Grow.step (g : Grow H Z H' Z') : Step H Z φ H' Z' φ :=
  ⟨fun a o h _ => g.keep a o h, g.zs, fun a h e => ⟨e, fun z => (g.new a z).elim id fun n => absurd n h⟩⟩
theorem Grow.good (g : Grow H Z H' Z') (k : Good H Z φ) : Good H' Z' φ := by
  have hn : ∀ a, H a ≠ none → H' a ≠ none := fun a h => by
    obtain ⟨o, ho⟩ := Option.ne_none_iff_exists'.mp h
    rw [g.keep a o ho]; exact fun q => nomatch q
  refine ⟨fun a z => ?_, fun a e => hn a (k.o a e), fun a z => ?_, k.u⟩
  · by_cases q : Z a
    · exact hn a (k.z a q)
    · exact g.on a z q
  · rcases g.new a z with q | q
    · exact k.d a q
    · exact Classical.byContradiction fun e => k.o a e q
theorem Grow.kept (g : Grow H Z H' Z') : Kept H Z H' Z' := ⟨fun a o _ h => g.keep a o h, g.zs⟩
theorem Rep.grow {v : V} {d : D} (g : Grow H Z H' Z') (h : Rep w H Z v d) : Rep w H' Z' v d := h.kept g.kept

/-- what comes of a source, turn by turn, as long as the source stands -/
def Feed (w : Wd) (J : It) (items : List D) (H0 : Hp) (Z0 : Zn) (ψ : Fp) : Prop :=
  ∃ (G : Hp → Zn → Prop) (Y : Nat → Hp → V → Hp → Prop), G H0 Z0 ∧ (∀ H Z φ H' Z' φ', G H Z → Good H Z (Fp.add φ ψ) → Step H Z φ H' Z' φ' → G H' Z') ∧
    Walk J items.length (fun H => ∃ Z, G H Z) Y ∧ ∀ i H Z x H' d, G H Z → Y i H x H' → items[i]? = some d → ∃ Z', Grow H Z H' Z' ∧ Rep w H' Z' x d

/-- a list that stands: plain, or locked -/
def LstAt (w : Wd) (ψ : Fp) (a : Addr) (vs : List V) (ds : List D) (H : Hp) (Z : Zn) : Prop := H a = some (.lst vs) ∧ Reps w H Z vs ds ∧ (Z a ∨ ψ a ≠ 0)
theorem LstAt.keep {a : Addr} {vs : List V} {ds : List D} (h : LstAt w ψ a vs ds H Z) (g : Good H Z (Fp.add φ ψ)) (s : Step H Z φ H' Z' φ') : LstAt w ψ a vs ds H' Z' := by
  obtain ⟨h1, h2, h3⟩ := h
  have e : φ a = 0 := by
    rcases h3 with z | z
    · exact g.l.d a z
    · have := g.u a; simp only [Fp.add_at] at this; omega
  exact ⟨s.keep a _ h1 e, h2.kept (s.kept g.l), h3.imp (s.zs a) id⟩
theorem feed_list {a : Addr} {vs : List V} {ds : List D} (h : LstAt w ψ a vs ds H Z) : Feed w (Itl w.K a) ds H Z ψ := by
  refine ⟨LstAt w ψ a vs ds, YAt vs, h, fun H Z φ H' Z' φ' h g s => h.keep g s, ?_, fun i H Z x H' d hG y e => ?_⟩
  · rw [← h.2.1.len]
    exact walk_list.mono (fun H ⟨Z, h⟩ => SqL.of h.1) fun _ _ _ _ _ _ y => y
  · obtain ⟨e1, e2⟩ := y
    subst e1
    obtain ⟨v, hv, r⟩ := hG.2.1.get e
    rw [e2] at hv; cases hv
    exact ⟨Z, .refl, r⟩
theorem feed_tup {a : Addr} {ds : List D} (h : Rep w H Z (.ref a) (.tup ds)) : Feed w (Itt w.K a) ds H Z ψ := by
  have key : ∃ vs, ∃ G : Hp → Zn → Prop, G H Z ∧ (∀ H Z, G H Z → SqT w.K H a vs ∧ Reps w H Z vs ds) ∧ ∀ H Z φ H' Z' φ', G H Z → Good H Z (Fp.add φ ψ) → Step H Z φ H' Z' φ' → G H' Z' := by
    cases h with
    | @tup _ vs _ h z r =>
      exact ⟨vs, fun H Z => H a = some (.tup vs) ∧ Z a ∧ Reps w H Z vs ds, ⟨h, z, r⟩, fun H Z q => ⟨SqT.of q.1, q.2.2⟩, fun H Z φ H' Z' φ' q g s => ⟨s.keep a _ q.1 (g.l.d a q.2.1), s.zs a q.2.1, q.2.2.kept (s.kept g.l)⟩⟩
    | @kt _ vs _ h r =>
      exact ⟨vs, fun H Z => Reps w H Z vs ds, r, fun H Z q => ⟨h.seq H, q⟩, fun H Z φ H' Z' φ' q g s => q.kept (s.kept g.l)⟩
  obtain ⟨vs, G, g0, g1, g2⟩ := key
  refine ⟨G, YAt vs, g0, g2, ?_, fun i H Z x H' d hG y e => ?_⟩
  · rw [← (g1 H Z g0).2.len]
    exact walk_tup.mono (fun H ⟨Z, h⟩ => (g1 H Z h).1) fun _ _ _ _ _ _ y => y
  · obtain ⟨e1, e2⟩ := y
    subst e1
    obtain ⟨v, hv, r⟩ := (g1 _ _ hG).2.get e
    rw [e2] at hv; cases hv
    exact ⟨Z, .refl, r⟩
theorem feed_str {z : Str} : Feed w (Its z) (z.cps.toList.map fun c => .str ⟨#[c]⟩) H Z ψ := by
  refine ⟨fun _ _ => True, (fun i H v H' => H' = H ∧ ∃ c, z.cps[i]? = some c ∧ v = .str ⟨#[c]⟩), trivial, fun _ _ _ _ _ _ _ _ _ => trivial, ?_, fun i H Z x H' d hG y e => ?_⟩
  · rw [List.length_map, Array.length_toList]
    exact walk_str.mono (fun _ _ => trivial) fun _ _ _ _ _ _ y => y
  · obtain ⟨e1, c, e2, e3⟩ := y
    subst e1 e3
    rw [List.getElem?_map, Array.getElem?_toList, e2] at e
    cases e
    exact ⟨Z, .refl, .str _⟩
theorem feed_range {lo : Int} {n : Nat} : Feed w (Itr lo n) (rangeD lo n) H Z ψ := by
  refine ⟨fun _ _ => True, YFn fun i => .int (lo + i), trivial, fun _ _ _ _ _ _ _ _ _ => trivial, ?_, fun i H Z x H' d hG y e => ?_⟩
  · have : (rangeD lo n).length = n := by simp [rangeD]
    rw [this]
    exact walk_range.mono (fun _ _ => trivial) fun _ _ _ _ _ _ y => y
  · obtain ⟨e1, e2⟩ := y
    subst e1 e2
    simp only [rangeD, List.getElem?_map, Option.map_eq_some_iff] at e
    obtain ⟨k, hk, rfl⟩ := e
    have : k = i := by
      obtain ⟨h1, h2⟩ := List.getElem?_eq_some_iff.mp hk
      simpa using h2.symm
    subst this
    exact ⟨Z, .refl, .int _⟩
theorem enumD_len : ∀ (k : Int) (ds : List D), (enumD k ds).length = ds.length
  | _, [] => rfl
  | k, _ :: ds => congrArg (· + 1) (enumD_len (k + 1) ds)
theorem enumD_get : ∀ (k : Int) (ds : List D) (i : Nat) (d : D), (enumD k ds)[i]? = some d → ∃ x, ds[i]? = some x ∧ d = .tup [.int (k + i), x]
  | k, [], i, d, e => by simp [enumD] at e
  | k, x :: ds, 0, d, e => by
    simp [enumD] at e; subst e
    exact ⟨x, rfl, by simp⟩
  | k, x :: ds, i + 1, d, e => by
    obtain ⟨y, h1, h2⟩ := enumD_get (k + 1) ds i d (by simpa [enumD] using e)
    refine ⟨y, by simpa using h1, ?_⟩
    rw [h2, show k + 1 + (i : Int) = k + ((i + 1 : Nat) : Int) by omega]
theorem feed_enum {a : Addr} {vs : List V} {ds : List D} (h : LstAt w ψ a vs ds H Z) : Feed w (Ite w.K a) (enumD 0 ds) H Z ψ := by
  refine ⟨LstAt w ψ a vs ds, YPair (fun i => some (.int (i : Nat))) (fun i => vs[i]?), h, fun H Z φ H' Z' φ' h g s => h.keep g s, ?_, fun i H Z x H' d hG y e => ?_⟩
  · rw [enumD_len, ← h.2.1.len]
    exact walk_enum.mono (fun H ⟨Z, h⟩ => SqL.of h.1) fun _ _ _ _ _ _ y => y
  · obtain ⟨T, x, y, rfl, hT, rfl, e1, e2⟩ := y
    obtain ⟨dx, h1, rfl⟩ := enumD_get 0 ds i d e
    obtain ⟨v, hv, r⟩ := hG.2.1.get h1
    rw [show vs[i]? = some y from e2] at hv; cases hv
    cases e1
    have gr : Grow H Z (upd H T (.tup [.int (i : Nat), y])) (fun a => Z a ∨ a = T) := .tup hT
    refine ⟨_, gr, .tup upd_same (.inr rfl) (.cons ?_ (.cons (r.grow gr) .nil))⟩
    rw [Int.zero_add]
    exact .int _
theorem zipD_len : ∀ (xs ys : List D), (zipD xs ys).length = min xs.length ys.length
  | [], _ => by simp [zipD]
  | _ :: _, [] => by simp [zipD]
  | _ :: xs, _ :: ys => by
    simp only [zipD, List.length_cons, zipD_len xs ys]; omega
theorem zipD_get : ∀ (xs ys : List D) (i : Nat) (d : D), (zipD xs ys)[i]? = some d → ∃ x y, xs[i]? = some x ∧ ys[i]? = some y ∧ d = .tup [x, y]
  | [], _, i, d, e => by simp [zipD] at e
  | _ :: _, [], i, d, e => by simp [zipD] at e
  | x :: xs, y :: ys, 0, d, e => by
    simp [zipD] at e; subst e
    exact ⟨x, y, rfl, rfl, rfl⟩
  | x :: xs, y :: ys, i + 1, d, e => by
    obtain ⟨u, v, h1, h2, h3⟩ := zipD_get xs ys i d (by simpa [zipD] using e)
    exact ⟨u, v, by simpa using h1, by simpa using h2, h3⟩
theorem feed_zip {a b : Addr} {vs ws : List V} {ds es : List D} (h : LstAt w ψ a vs ds H Z) (h' : LstAt w ψ b ws es H Z) : Feed w (Itz w.K a b) (zipD ds es) H Z ψ := by
  refine ⟨fun H Z => LstAt w ψ a vs ds H Z ∧ LstAt w ψ b ws es H Z, YPair (fun i => vs[i]?) (fun i => ws[i]?), ⟨h, h'⟩, fun H Z φ H' Z' φ' h g s => ⟨h.1.keep g s, h.2.keep g s⟩, ?_, fun i H Z x H' d hG y e => ?_⟩
  · exact (walk_zip (xs := vs) (ys := ws) (by rw [zipD_len, ← h.2.1.len, ← h'.2.1.len])).mono (fun H ⟨Z, h⟩ => ⟨SqL.of h.1.1, SqL.of h.2.1⟩) fun _ _ _ _ _ _ y => y
  · obtain ⟨T, x, y, rfl, hT, rfl, e1, e2⟩ := y
    obtain ⟨dx, dy, h1, h2, rfl⟩ := zipD_get ds es i d e
    obtain ⟨v, hv, r⟩ := hG.1.2.1.get h1
    obtain ⟨v', hv', r'⟩ := hG.2.2.1.get h2
    rw [show vs[i]? = some x from e1] at hv; cases hv
    rw [show ws[i]? = some y from e2] at hv'; cases hv'
    have gr : Grow H Z (upd H T (.tup [x, y])) (fun a => Z a ∨ a = T) := .tup hT
    exact ⟨_, gr, .tup upd_same (.inr rfl) (.cons (r.grow gr) (.cons (r'.grow gr) .nil))⟩
theorem feed_rev {a : Addr} {vs : List V} {ds : List D} (h : LstAt w ψ a vs ds H Z) : Feed w (Itv w.K a vs.length) ds.reverse H Z ψ := by
  refine ⟨LstAt w ψ a vs ds, (fun i H x H' => H' = H ∧ vs[vs.length - 1 - i]? = some x), h, fun H Z φ H' Z' φ' h g s => h.keep g s, ?_, fun i H Z x H' d hG y e => ?_⟩
  · rw [List.length_reverse, ← h.2.1.len]
    exact walk_rev.mono (fun H ⟨Z, h⟩ => SqL.of h.1) fun _ _ _ _ _ _ y => y
  · obtain ⟨e1, e2⟩ := y
    subst e1
    have hi : i < ds.length := by
      have := (List.getElem?_eq_some_iff.mp e).1
      simpa using this
    rw [List.getElem?_reverse hi] at e
    obtain ⟨v, hv, r⟩ := hG.2.1.get e
    rw [← h.2.1.len, e2] at hv; cases hv
    exact ⟨Z, .refl, r⟩

/-- an operand of a source, the names' own lists locked -/
inductive Opn (w : Wd) (H : Hp) (Z : Zn) (ψ : Fp) : V → D → Prop
  | mk {v : V} {r : R} {f : Fp} : RepR w H Z v r f → (∀ a, f a ≤ ψ a) → Opn w H Z ψ v r.read
theorem Opn.lst {v : V} {ds : List D} (h : Opn w H Z ψ v (.lst ds)) : ∃ a vs, v = .ref a ∧ LstAt w ψ a vs ds H Z := by
  generalize e : D.lst ds = d at h
  cases h with
  | @mk r f h l =>
    cases h with
    | p h =>
      simp only [R.read] at e
      subst e
      cases h with
      | @lst a vs _ h z r => exact ⟨a, vs, rfl, h, r, .inl z⟩
    | @l a vs ds' h r => cases e; exact ⟨a, vs, rfl, h, r, .inr (by have := l a; rw [Fp.one_at] at this; omega)⟩
    | m h r => exact nomatch e
theorem Opn.rd {v : V} {d : D} (h : Opn w H Z ψ v d) : Rd w H Z v d := by
  cases h with
  | mk h l => exact ⟨_, _, h, rfl⟩
inductive Opns (w : Wd) (H : Hp) (Z : Zn) (ψ : Fp) : List V → List D → Prop
  | nil : Opns w H Z ψ [] []
  | cons {v : V} {d : D} {vs : List V} {ds : List D} : Opn w H Z ψ v d → Opns w H Z ψ vs ds → Opns w H Z ψ (v :: vs) (d :: ds)
theorem locks_mem {i : Nat} {r : R} (hp : r.pure = false) : ∀ {xs : List Val} {ρ : Env}, Val.at i ∈ xs → ρ.gt i = some r → (i, r) ∈ locks ρ xs := by
  intro xs
  induction xs with
  | nil => intro ρ h; cases h
  | cons x xs ih =>
    intro ρ h e
    rcases List.mem_cons.mp h with h' | h'
    · subst h'
      cases r with
      | p d => exact nomatch hp
      | _ => simp only [locks, e]; exact List.mem_cons_self
    · cases x with
      | val r' => exact ih h' e
      | lent r' j => exact ih h' e
      | «at» j =>
        by_cases hj : j = i
        · subst hj
          cases r with
          | p d => exact nomatch hp
          | _ => simp only [locks, e]; exact List.mem_cons_self
        · cases q : ρ.gt j with
          | none => simp only [locks, q]; exact ih h' e
          | some r' =>
            have e' : Env.gt (ρ.set j none) i = some r := by
              simp only [Env.gt, List.getD_eq_getElem?_getD] at e ⊢
              rw [List.getElem?_set_ne hj]; exact e
            cases r' with
            | p d => simp only [locks, q]; exact ih h' e
            | _ => simp only [locks, q]; exact List.mem_cons_of_mem _ (ih h' e')
theorem opn_of {v : V} {x : Val} {d : D} {l : List (Nat × R)} (h : VR w H Z σ v x φx) (e : RepE w H Z σ ρ φ) (g : x.get ρ = some d) (lr : LR w H Z σ l ψ) (hl : ∀ i r, x = .at i → ρ.gt i = some r → r.pure = false → (i, r) ∈ l)
    {χ : Fp} (h1 : ∀ a, φx a ≤ χ a) (h2 : ∀ a, ψ a ≤ χ a) : Opn w H Z χ v d := by
  cases h with
  | val h => cases g; exact .mk h h1
  | @«at» i h =>
    simp only [Val.get, Option.map_eq_some_iff] at g
    obtain ⟨r, hr, rfl⟩ := g
    cases hp : r.pure with
    | true =>
      obtain ⟨v', f1, f2, e1, e2, _, _⟩ := e.at hr
      rw [h] at e1
      cases e1
      cases e2 with
      | p e2 => exact .mk (.p e2) fun a => by simp
      | l _ _ => exact nomatch hp
      | m _ _ => exact nomatch hp
    | false =>
      obtain ⟨v', f, e1, e2, e3⟩ := lr.mem (hl i r rfl hr hp)
      rw [h] at e1
      cases e1
      exact .mk e2 fun a => Nat.le_trans (e3 a) (h2 a)
  | lent _ _ => exact nomatch g
theorem opns_of {l : List (Nat × R)} {χ : Fp} (lr : LR w H Z σ l ψ) (h2 : ∀ a, ψ a ≤ χ a) (e : RepE w H Z σ ρ φ) {vs : List V} {xs : List Val} (h : VRs w H Z σ vs xs φx) :
    ∀ {ds : List D}, gets ρ xs = some ds → (∀ i r, Val.at i ∈ xs → ρ.gt i = some r → r.pure = false → (i, r) ∈ l) → (∀ a, φx a ≤ χ a) → Opns w H Z χ vs ds := by
  induction h with
  | nil => intro ds g _ _; cases g; exact .nil
  | @cons v x vs xs f1 f2 h t ih =>
    intro ds g hl h1
    simp only [gets, Option.bind_eq_some_iff, Option.map_eq_some_iff] at g
    obtain ⟨d, e1, ds', e2, rfl⟩ := g
    exact .cons (opn_of h e e1 lr (fun i r z => hl i r (by rw [z]; exact List.mem_cons_self)) (fun a => by have := h1 a; simp only [Fp.add_at] at this; omega) h2)
      (ih e2 (fun i r z => hl i r (List.mem_cons_of_mem _ z)) fun a => by have := h1 a; simp only [Fp.add_at] at this; omega)
end
end VB
set_option Elab.async false
set_option linter.all false
set_option maxRecDepth 100000
set_option maxHeartbeats 1000000
/-! an expression's reading holds where the evaluator tells what comes -/
namespace VB
open PySem PySem.Spec L2
open PyProof.Rows hiding St

/-- a call's arguments -/
inductive RepRs (w : Wd) (H : Hp) (Z : Zn) : List V → List R → Fp → Prop
  | nil : RepRs w H Z [] [] Fp.zero
  | cons {v : V} {r : R} {vs : List V} {rs : List R} {f1 f2 : Fp} : RepR w H Z v r f1 → RepRs w H Z vs rs f2 → RepRs w H Z (v :: vs) (r :: rs) (Fp.add f1 f2)
def SatC (w : Wd) (Q : VK) (E : XK) (vs : List V) (H : Hp) (Z : Zn) (φ : Fp) : CRes → Prop
  | .ok r outs => ∀ v H' Z' φr φo, Step H Z φ H' Z' (Fp.add φr φo) → Good H' Z' (Fp.add φr φo) → RepR w H' Z' v r φr → RepE w H' Z' (vs.map some) outs φo → Q v H'
  | .exc c ns ds outs => ∀ cls d H' Z' φo, Step H Z φ H' Z' φo → Good H' Z' φo → RepE w H' Z' (vs.map some) outs φo → ExcRep w H' Z' c ns ds cls d → E cls d H'
  | .stuck => False
def ClOk (w : Wd) (sp : Str → Sp) (cl : Cl) : Prop := ∀ f vs rs H Z φ Q E, Good H Z φ → RepRs w H Z vs rs φ → SatC w Q E vs H Z φ (cl f rs) → sp f vs H Q E

theorem ev_val (cl : Cl) : ∀ (e : E) (m : Mode) (ρ : Env) (x : Val) (ρ' : Env), ev cl m e ρ = .ok (x, ρ') → (m = .esc → ∃ r, x = .val r) ∧ (m = .esc → ∀ i, x ≠ .at i) := by
  have fin : ∀ (m : Mode) (r : R), (m = .esc → ∃ r', Val.val r = .val r') ∧ (m = .esc → ∀ i, Val.val r ≠ .at i) := fun m r => ⟨fun _ => ⟨r, rfl⟩, (fun _ i h => nomatch h)⟩
  have bnd : ∀ {α β : Type} {r : Res α} {f : α → Res β} {b : β}, r.bind f = .ok b → ∃ a, r = .ok a ∧ f a = .ok b := by
    intro α β r f b h
    cases r with
    | ok a => exact ⟨a, rfl, h⟩
    | exc _ _ _ _ => exact nomatch h
    | stuck => exact nomatch h
  have wk : ∀ {m : Mode} {x : Val}, (Mode.esc = .esc → ∃ r, x = .val r) ∧ (Mode.esc = .esc → ∀ i, x ≠ .at i) → (m = .esc → ∃ r, x = .val r) ∧ (m = .esc → ∀ i, x ≠ .at i) := fun h => ⟨fun _ => h.1 rfl, fun _ => h.2 rfl⟩
  intro e
  have go : ∀ (n : Nat) (e : E), sizeOf e ≤ n → ∀ (m : Mode) (ρ : Env) (x : Val) (ρ' : Env), ev cl m e ρ = .ok (x, ρ') → (m = .esc → ∃ r, x = .val r) ∧ (m = .esc → ∀ i, x ≠ .at i) := by
    intro n
    induction n with
    | zero => intro e h; cases e <;> simp at h
    | succ n ih =>
      intro e hs m ρ x ρ' h
      cases e with
      | c d => cases h; exact fin m _
      | v i =>
        cases m with
        | opd => exact ⟨(fun q => nomatch q), (fun q => nomatch q)⟩
        | esc => simp only [ev] at h; split at h <;> cases h; exact fin _ _
        | arg => simp only [ev] at h; split at h <;> cases h; exact fin _ _
      | mov i => simp only [ev] at h; split at h <;> cases h <;> exact fin _ _
      | frz i => simp only [ev] at h; split at h <;> cases h; exact fin _ _
      | lend i =>
        cases m with
        | opd => exact nomatch h
        | esc => exact nomatch h
        | arg => exact ⟨(fun q => nomatch q), (fun q => nomatch q)⟩
      | tup es => obtain ⟨q, _, h⟩ := bnd h; split at h <;> cases h; exact fin _ _
      | lst es => obtain ⟨q, _, h⟩ := bnd h; split at h <;> cases h; exact fin _ _
      | dic ks es =>
        simp only [ev] at h
        split at h
        · obtain ⟨q, _, h⟩ := bnd h; cases h; exact fin _ _
        · exact nomatch h
      | op o es =>
        obtain ⟨q, _, h⟩ := bnd h
        try dsimp only at h
        split at h <;> cases h; exact fin _ _
      | and a b =>
        obtain ⟨q, _, h⟩ := bnd h
        split at h
        · exact wk (ih b (by simp at hs; omega) _ _ _ _ h)
        · cases h; exact fin _ _
        · exact nomatch h
      | or a b =>
        obtain ⟨q, _, h⟩ := bnd h
        split at h
        · cases h; exact fin _ _
        · exact wk (ih b (by simp at hs; omega) _ _ _ _ h)
        · exact nomatch h
      | not a =>
        obtain ⟨q, _, h⟩ := bnd h
        try dsimp only at h
        split at h <;> cases h; exact fin _ _
      | ite c a b =>
        obtain ⟨q, _, h⟩ := bnd h
        split at h
        · exact wk (ih a (by simp at hs; omega) _ _ _ _ h)
        · exact wk (ih b (by simp at hs; omega) _ _ _ _ h)
        · exact nomatch h
      | chain o o' a b c =>
        obtain ⟨q, _, h⟩ := bnd h
        obtain ⟨q2, _, h⟩ := bnd h
        try dsimp only at h
        split at h
        · obtain ⟨q3, _, h⟩ := bnd h
          try dsimp only at h
          split at h <;> cases h
          exact fin _ _
        · cases h; exact fin _ _
        · exact nomatch h
      | call f es =>
        obtain ⟨q, _, h⟩ := bnd h
        try dsimp only at h
        split at h
        · exact nomatch h
        · split at h <;> cases h; exact fin _ _
      | «mut» m' i es =>
        simp only [ev] at h
        split at h
        · exact nomatch h
        · obtain ⟨q, _, h⟩ := bnd h
          try dsimp only at h
          split at h <;> cases h; exact fin _ _
      | comp own k src p conds elt =>
        obtain ⟨q, _, h⟩ := bnd h
        split at h
        · exact nomatch h
        · split at h
          · split at h
            · split at h <;> cases h; exact fin _ _
            · exact nomatch h
          · exact nomatch h
  exact go (sizeOf e) e (Nat.le_refl _)
theorem bind_ok {α β : Type} {r : Res α} {f : α → Res β} {b : β} (h : r.bind f = .ok b) : ∃ a, r = .ok a ∧ f a = .ok b := by
  cases r with
  | ok a => exact ⟨a, rfl, h⟩
  | exc _ _ _ _ => exact nomatch h
  | stuck => exact nomatch h
theorem evL_val (cl : Cl) : ∀ (es : List E) (m : Mode) (ρ : Env) (xs : List Val) (ρ' : Env), evL cl m es ρ = .ok (xs, ρ') → (m = .esc → ∀ x ∈ xs, ∃ r, x = .val r) ∧ (m = .esc → ∀ x ∈ xs, ∀ i, x ≠ .at i)
  | [], m, ρ, xs, ρ', h => by cases h; exact ⟨fun _ _ h => (nomatch h), fun _ _ h => (nomatch h)⟩
  | e :: es, m, ρ, xs, ρ', h => by
    obtain ⟨q, h1, h⟩ := bind_ok h
    obtain ⟨q', h2, h⟩ := bind_ok h
    cases h
    obtain ⟨a1, a2⟩ := ev_val cl e m ρ q.1 q.2 h1
    obtain ⟨b1, b2⟩ := evL_val cl es m q.2 q'.1 q'.2 h2
    refine ⟨fun z x hx => ?_, fun z x hx => ?_⟩
    · rcases List.mem_cons.mp hx with hx | hx
      · subst hx; exact a1 z
      · exact b1 z x hx
    · rcases List.mem_cons.mp hx with hx | hx
      · subst hx; exact a2 z
      · exact b2 z x hx
section
variable {w : Wd} {σ : St} {ρ : Env} {H H1 H2 H' : Hp} {Z Z1 Z2 Z' : Zn} {φ φ1 φ2 φ' ψ φx : Fp} {W : WX}
theorem VRs.len {vs : List V} {xs : List Val} (h : VRs w H Z σ vs xs φ) : vs.length = xs.length := by
  induction h with
  | nil => rfl
  | cons _ _ ih => exact congrArg (· + 1) ih
theorem VRs.freeze {vs : List V} {xs : List Val} (h : VRs w H Z σ vs xs φ) (hv : ∀ x ∈ xs, ∃ r, x = .val r) : Reps w H (fun a => Z a ∨ φ a ≠ 0) vs (xs.map Val.rd) := by
  induction h with
  | nil => exact .nil
  | @cons v x vs xs f1 f2 h t ih =>
    obtain ⟨r, e⟩ := hv x List.mem_cons_self
    have h1 := (h.isEsc e).freeze
    have h2 := ih fun y hy => hv y (List.mem_cons_of_mem _ hy)
    rw [List.map_cons, e]
    refine .cons (h1.kept ⟨fun _ _ _ h => h, fun a z => z.imp id fun z => by simp only [Fp.add_at]; omega⟩) (h2.kept ⟨fun _ _ _ h => h, fun a z => z.imp id fun z => by simp only [Fp.add_at]; omega⟩)
theorem VRs.args {vs : List V} {xs : List Val} (h : VRs w H Z σ vs xs φ) (hv : ∀ x ∈ xs, ∀ i, x ≠ .at i) : RepRs w H Z vs (xs.map Val.r) φ := by
  induction h with
  | nil => exact .nil
  | @cons v x vs xs f1 f2 h t ih =>
    have h2 := ih fun y hy => hv y (List.mem_cons_of_mem _ hy)
    refine .cons ?_ h2
    cases h with
    | val h => exact h
    | «at» h => exact absurd rfl (hv _ List.mem_cons_self _)
    | lent e h => exact h
/-- what is lent when all arguments are there -/
theorem took {vs : List V} {xs : List Val} (h : VRs w H Z σ vs xs φx) : ∀ {ρ : Env} {φ : Fp} {t : List Val × Env}, RepE w H Z σ ρ φ → takeA xs ρ = some t →
    ∃ fa f2, (∀ a, fa a + f2 a = φx a + φ a) ∧ VRs w H Z σ vs t.1 fa ∧ RepE w H Z σ t.2 f2 ∧ ∀ x ∈ t.1, ∀ i, x ≠ .at i := by
  induction h with
  | nil =>
    intro ρ φ t re ht
    cases ht
    exact ⟨Fp.zero, φ, fun _ => rfl, .nil, re, fun _ h => nomatch h⟩
  | @cons v x vs xs f1 f2 h t ih =>
    intro ρ φ t re ht
    cases h with
    | val h =>
      simp only [takeA, Option.map_eq_some_iff] at ht
      obtain ⟨q, hq, rfl⟩ := ht
      obtain ⟨fa, fb, e, a1, a2, a3⟩ := ih re hq
      refine ⟨Fp.add f1 fa, fb, fun a => ?_, .cons (.val h) a1, a2, fun x hx => ?_⟩
      · have := e a; simp only [Fp.add_at]; omega
      · rcases List.mem_cons.mp hx with hx | hx
        · subst hx; exact fun i z => nomatch z
        · exact a3 x hx
    | «at» hi =>
      simp only [takeA] at ht
      split at ht
      · rename_i d hd
        rw [Option.map_eq_some_iff] at ht
        obtain ⟨q, hq, rfl⟩ := ht
        obtain ⟨v', g1, g2, e1, e2, e3, e4⟩ := re.at hd
        rw [hi] at e1
        cases e1
        cases e2 with
        | p e2 =>
          obtain ⟨fa, fb, e, a1, a2, a3⟩ := ih re hq
          refine ⟨fa, fb, fun a => ?_, ?_, a2, fun x hx => ?_⟩
          · have := e a; simp only [Fp.add_at, Fp.zero_at]; omega
          · have := VRs.cons (w := w) (H := H) (Z := Z) (σ := σ) (VR.val (RepR.p e2)) a1
            rw [Fp.zero_add] at this
            exact this
          · rcases List.mem_cons.mp hx with hx | hx
            · subst hx; exact fun i z => nomatch z
            · exact a3 x hx
      · rename_i r hn hd
        rw [Option.map_eq_some_iff] at ht
        obtain ⟨q, hq, rfl⟩ := ht
        obtain ⟨v', g1, g2, e1, e2, e3, e4⟩ := re.at hd
        rw [hi] at e1
        cases e1
        subst e3
        obtain ⟨fa, fb, e, a1, a2, a3⟩ := ih e4 hq
        refine ⟨Fp.add g1 fa, fb, fun a => ?_, .cons (.lent hi e2) a1, a2, fun x hx => ?_⟩
        · have := e a; simp only [Fp.add_at, Fp.zero_at]; omega
        · rcases List.mem_cons.mp hx with hx | hx
          · subst hx; exact fun i z => nomatch z
          · exact a3 x hx
      · exact nomatch ht
    | lent _ _ => exact nomatch ht
end

section
variable {w : Wd} {sp : Str → Sp} {cl : Cl}
def SX (w : Wd) (sp : Str → Sp) (cl : Cl) (e : E) : Prop := ∀ (W : WX) (m : Mode) (σ : St) (ρ : Env) (H : Hp) (Z : Zn) (φ : Fp) (Q : VK), Good H Z φ → RepE w H Z σ ρ φ → SatV w W σ H Z φ Q (ev cl m e ρ) → (tX w sp W e).1 σ H Q
def ST (w : Wd) (sp : Str → Sp) (cl : Cl) (e : E) : Prop := ∀ (W : WX) (σ : St) (ρ : Env) (H : Hp) (Z : Zn) (φ : Fp) (Q : Bool → Hp → Prop), Good H Z φ → RepE w H Z σ ρ φ → SatB w W σ H Z φ Q ((ev cl .esc e ρ).bind toB) → (tX w sp W e).2 σ H Q
def SXs (w : Wd) (sp : Str → Sp) (cl : Cl) (es : List E) : Prop := ∀ (W : WX) (m : Mode) (σ : St) (ρ : Env) (H : Hp) (Z : Zn) (φ : Fp) (Q : List V → Hp → Prop), Good H Z φ → RepE w H Z σ ρ φ → SatL w W σ H Z φ Q (evL cl m es ρ) → tXs w sp W es σ H Q
def SCs (w : Wd) (sp : Str → Sp) (cl : Cl) (es : List E) : Prop := ∀ (W : WX) (σ : St) (ρ : Env) (H : Hp) (Z : Zn) (φ : Fp) (Q : Bool → Hp → Prop), Good H Z φ → RepE w H Z σ ρ φ → SatB w W σ H Z φ Q (evTs cl es ρ) → tCs w sp W es σ H Q

/-- a test by its value -/
theorem st_of {e : E} (h : SX w sp cl e) (ht : ∀ W, (tX w sp W e).2 = tB (tX w sp W e).1) : ST w sp cl e := by
  intro W σ ρ H Z φ Q g re s
  rw [ht]
  refine h W .esc σ ρ H Z φ _ g re ?_
  cases he : ev cl .esc e ρ with
  | ok q =>
    rw [he] at s
    obtain ⟨x, ρ'⟩ := q
    cases x with
    | val r =>
      cases r with
      | p d =>
        cases d with
        | bl b =>
          intro v H' Z' φx φ' s1 g1 vr re1
          cases vr with
          | val hr =>
            cases hr with
            | p hr =>
              cases hr
              exact ⟨b, rfl, s H' Z' φ' (s1.trans (Step.le fun a => by simp)) g1.r re1⟩
        | _ => exact s.elim
      | _ => exact s.elim
    | _ => exact s.elim
  | exc c ns vs ρ' => rw [he] at s; exact s
  | stuck => rw [he] at s; exact s.elim
theorem same0 {H : Hp} {Z : Zn} {φ : Fp} : Step H Z φ H Z (Fp.add Fp.zero φ) := Step.le fun a => by simp
theorem good0 {H : Hp} {Z : Zn} {φ : Fp} (g : Good H Z φ) : Good H Z (Fp.add Fp.zero φ) := g.le fun a => by simp
theorem sx_c {d : D} : SX w sp cl (.c d) := fun W m σ ρ H Z φ Q g re s v hv => s v H Z Fp.zero φ same0 (good0 g) (.val (.p (hv H Z))) re
theorem sx_v {i : Nat} : SX w sp cl (.v i) := by
  intro W m σ ρ H Z φ Q g re s
  have esc : ∀ {s : Res (Val × Env)}, s = (match ρ.gt i with | some (.p d) => .ok (.val (.p d), ρ) | _ => .stuck) → SatV w W σ H Z φ Q s → tVar i σ H Q := by
    intro r hr s
    split at hr
    · rename_i d hd
      subst hr
      obtain ⟨v, f1, f2, e1, e2, e3, e4⟩ := re.at hd
      cases e2 with
      | p e2 => exact ⟨v, e1, s v H Z Fp.zero φ same0 (good0 g) (.val (.p e2)) re⟩
    · subst hr; exact s.elim
  cases m with
  | opd =>
    simp only [ev] at s
    split at s
    · rename_i hs
      obtain ⟨r, hr⟩ := Option.isSome_iff_exists.mp hs
      obtain ⟨v, f1, f2, e1, _⟩ := re.at hr
      exact ⟨v, e1, s v H Z Fp.zero φ same0 (good0 g) (.at e1) re⟩
    · exact s.elim
  | esc => exact esc rfl s
  | arg => exact esc rfl s
theorem sx_mov {i : Nat} : SX w sp cl (.mov i) := by
  intro W m σ ρ H Z φ Q g re s
  simp only [ev] at s
  split at s
  · rename_i d hd
    obtain ⟨v, f1, f2, e1, e2, e3, e4⟩ := re.at hd
    cases e2 with
    | p e2 => exact ⟨v, e1, s v H Z Fp.zero φ same0 (good0 g) (.val (.p e2)) re⟩
  · rename_i r hn hd
    obtain ⟨v, f1, f2, e1, e2, e3, e4⟩ := re.at hd
    subst e3
    exact ⟨v, e1, s v H Z f1 f2 Step.refl g (.val e2) e4⟩
  · exact s.elim
theorem sx_frz {i : Nat} : SX w sp cl (.frz i) := by
  intro W m σ ρ H Z φ Q g re s
  simp only [ev] at s
  split at s
  · rename_i r hd
    obtain ⟨v, f1, f2, e1, e2, e3, e4⟩ := re.at hd
    subst e3
    have e5 : RepE w H (fun a => Z a ∨ f1 a ≠ 0) σ (ρ.set i none) f2 := e4.keptZ ⟨fun _ _ _ h => h, fun _ z => .inl z⟩ fun _ _ _ h => h
    obtain ⟨f3, l3, e6⟩ := e5.back (.p e2.freeze) e1
    rw [List.set_set] at e6
    refine ⟨v, e1, s v H _ Fp.zero f3 (Step.freeze.trans (Step.le fun a => by have := l3 a; simp at this ⊢; omega)) (g.freeze.le fun a => by have := l3 a; simp at this ⊢; omega) (.val (.p e2.freeze)) e6⟩
  · exact s.elim
theorem sx_lend {i : Nat} : SX w sp cl (.lend i) := by
  intro W m σ ρ H Z φ Q g re s
  cases m with
  | opd => exact s.elim
  | esc => exact s.elim
  | arg =>
    simp only [ev] at s
    split at s
    · rename_i hs
      obtain ⟨r, hr⟩ := Option.isSome_iff_exists.mp hs
      obtain ⟨v, f1, f2, e1, _⟩ := re.at hr
      exact ⟨v, e1, s v H Z Fp.zero φ same0 (good0 g) (.at e1) re⟩
    · exact s.elim
/-- behind a list of parts -/
theorem SatL.of {W : WX} {σ : St} {H : Hp} {Z : Zn} {φ : Fp} {Q : VK} {Q' : List V → Hp → Prop} {r : Res (List Val × Env)} {f : List Val × Env → Res (Val × Env)} (s : SatV w W σ H Z φ Q (r.bind f))
    (k : ∀ q, r = .ok q → SatV w W σ H Z φ Q (f q) → ∀ vs H' Z' φx φ', Step H Z φ H' Z' (Fp.add φx φ') → Good H' Z' (Fp.add φx φ') → VRs w H' Z' σ vs q.1 φx → RepE w H' Z' σ q.2 φ' → Q' vs H') : SatL w W σ H Z φ Q' r := by
  cases r with
  | ok q => exact k q rfl s
  | exc c ns vs ρ' => exact s
  | stuck => exact s.elim
theorem SatV.of {W : WX} {σ : St} {H : Hp} {Z : Zn} {φ : Fp} {Q Q' : VK} {r : Res (Val × Env)} {f : Val × Env → Res (Val × Env)} (s : SatV w W σ H Z φ Q (r.bind f))
    (k : ∀ q, r = .ok q → SatV w W σ H Z φ Q (f q) → ∀ v H' Z' φx φ', Step H Z φ H' Z' (Fp.add φx φ') → Good H' Z' (Fp.add φx φ') → VR w H' Z' σ v q.1 φx → RepE w H' Z' σ q.2 φ' → Q' v H') : SatV w W σ H Z φ Q' r := by
  cases r with
  | ok q => exact k q rfl s
  | exc c ns vs ρ' => exact s
  | stuck => exact s.elim
theorem sx_tup {es : List E} (ih : SXs w sp cl es) : SX w sp cl (.tup es) := by
  intro W m σ ρ H Z φ Q g re s
  refine ih W .esc σ ρ H Z φ _ g re (SatL.of s fun q hq s vs H1 Z1 φx φ1 s1 g1 vr re1 => ?_)
  try dsimp only at s
  split at s
  · rename_i hl
    refine ⟨by rw [vr.len]; exact hl, fun p hp => ?_⟩
    have hf := vr.freeze (fun x hx => (evL_val cl es .esc ρ q.1 q.2 hq).1 rfl x hx)
    have g2 := g1.freeze
    have k : Kept H1 (fun a => Z1 a ∨ φx a ≠ 0) (upd H1 p (.tup vs)) (fun a => (Z1 a ∨ φx a ≠ 0) ∨ a = p) := kept_new hp fun _ z => .inl z
    have e2 : RepE w H1 (fun a => Z1 a ∨ φx a ≠ 0) σ q.2 φ1 := re1.keptZ ⟨fun _ _ _ h => h, fun _ z => .inl z⟩ fun _ _ _ h => h
    exact s (.ref p) _ _ Fp.zero φ1 ((s1.trans Step.freeze).trans ((Step.newZ hp).trans same0)) (good0 (g2.newZ hp)) (.val (.p (.tup upd_same (.inr rfl) (hf.kept k)))) (e2.new hp fun _ z => .inl z)
  · exact s.elim
theorem sx_lst {es : List E} (ih : SXs w sp cl es) : SX w sp cl (.lst es) := by
  intro W m σ ρ H Z φ Q g re s
  refine ih W .esc σ ρ H Z φ _ g re (SatL.of s fun q hq s vs H1 Z1 φx φ1 s1 g1 vr re1 => ?_)
  try dsimp only at s
  split at s
  · rename_i hl
    refine ⟨by rw [vr.len]; exact hl, fun p hp => ?_⟩
    have hf := vr.freeze (fun x hx => (evL_val cl es .esc ρ q.1 q.2 hq).1 rfl x hx)
    have g2 := g1.freeze
    have k : Kept H1 (fun a => Z1 a ∨ φx a ≠ 0) (upd H1 p (.lst vs)) (fun a => (Z1 a ∨ φx a ≠ 0)) := kept_new hp fun _ z => z
    have e2 : RepE w H1 (fun a => Z1 a ∨ φx a ≠ 0) σ q.2 φ1 := re1.keptZ ⟨fun _ _ _ h => h, fun _ z => .inl z⟩ fun _ _ _ h => h
    exact s (.ref p) _ _ (Fp.one p) φ1 ((s1.trans Step.freeze).trans (Step.newO hp)) (g2.newO hp) (.val (.l upd_same (hf.kept k))) (e2.new hp fun _ z => z)
  · exact s.elim
theorem sx_dic {ks : List D} {es : List E} (ih : SXs w sp cl es) : SX w sp cl (.dic ks es) := by
  intro W m σ ρ H Z φ Q g re s
  simp only [ev] at s
  split at s
  · rename_i hc
    obtain ⟨h1, h2, h3⟩ := hc
    match ks, es, h1, h2 with
    | [], [], _, _ =>
      refine .inl ⟨rfl, fun p hp => ?_⟩
      exact s (.ref p) _ Z (Fp.one p) φ (Step.newO hp) (g.newO hp) (.val (RepR.m (kvs := []) upd_same .nil)) (re.new hp fun _ z => z)
    | [kd], [e], _, _ =>
      obtain ⟨k, hk⟩ : ∃ k : Key, keyD k = kd := by
        simp only [List.all_cons, List.all_nil, Bool.and_true] at h3
        cases kd with
        | int i => exact ⟨.inl i, rfl⟩
        | str x => exact ⟨.inr x, rfl⟩
        | _ => exact nomatch h3
      refine .inr ⟨k, kd, rfl, hk, fun p hp => ?_⟩
      have gN := g.newO (o := .dK []) hp
      refine ih W .esc σ ρ (upd H p (.dK [])) Z φ _ (gN.r) (re.new hp fun _ z => z) ?_
      cases he : evL cl .esc [e] ρ with
      | ok q =>
        rw [he] at s
        intro vs H1 Z1 φx φ1 s1 g1 vr re1
        have hφ : φ p = 0 := Classical.byContradiction fun z => g.o p z hp
        have e1 : H1 p = some (.dK []) := s1.keep p _ upd_same hφ
        have fr := s1.frame (ψ := Fp.one p)
        have gF : Good H1 Z1 (Fp.add (Fp.add φx φ1) (Fp.one p)) := Good.frame (by rw [Fp.add_comm]; exact gN) s1 g1
        have hx := evL_val cl [e] .esc ρ q.1 q.2 he
        have hf := vr.freeze (fun x hx' => hx.1 rfl x hx')
        have hl : vs.length = 1 := by
          rw [vr.len]
          obtain ⟨q1, _, hb⟩ := bind_ok he
          obtain ⟨q2, h22, hb⟩ := bind_ok hb
          cases h22; cases hb; rfl
        match vs, hl, vr, hf with
        | [v], _, vr, hf =>
          refine ⟨e1, v, rfl, ?_⟩
          -- all of the value is plain; the dict's own object is written
          have gF2 : Good H1 Z1 (Fp.add φx (Fp.add (Fp.one p) φ1)) := gF.le fun a => by simp only [Fp.add_at]; omega
          have g3 := gF2.freeze
          have p0 : ¬ (Z1 p ∨ φx p ≠ 0) := fun z => by
            have := g3.d p z
            simp only [Fp.add_at, Fp.one_at] at this; omega
          have g4 : Good (upd H1 p (.dK [(k, v)])) (fun a => Z1 a ∨ φx a ≠ 0) (Fp.add (Fp.one p) φ1) := g3.write
          have p1 : φ1 p = 0 := by have := g3.u p; simp only [Fp.add_at, Fp.one_at] at this; omega
          have kp : Kept H1 (fun a => Z1 a ∨ φx a ≠ 0) (upd H1 p (.dK [(k, v)])) (fun a => Z1 a ∨ φx a ≠ 0) := ⟨fun a o z h => by rw [upd_ne (fun q => by subst q; exact p0 z)]; exact h, fun _ z => z⟩
          have e2 : RepE w (upd H1 p (.dK [(k, v)])) (fun a => Z1 a ∨ φx a ≠ 0) σ q.2 φ1 := re1.keptZ ⟨fun a o z h => by rw [upd_ne (fun q => by subst q; exact p0 (.inl z))]; exact h, fun _ z => .inl z⟩ fun a o z h => by rw [upd_ne (fun q => by subst q; exact z p1)]; exact h
          have st : Step H Z φ (upd H1 p (.dK [(k, v)])) (fun a => Z1 a ∨ φx a ≠ 0) (Fp.add (Fp.one p) φ1) := by
            refine (Step.newO (o := .dK []) hp).trans ?_
            have a1 : Step (upd H p (.dK [])) Z (Fp.add (Fp.one p) φ) H1 Z1 (Fp.add φx (Fp.add (Fp.one p) φ1)) := by
              have a2 := fr.trans (Step.le (H := H1) (Z := Z1) (φ := Fp.add (Fp.add φx φ1) (Fp.one p)) (φ' := Fp.add φx (Fp.add (Fp.one p) φ1)) fun a => by simp only [Fp.add_at]; omega)
              rw [Fp.add_comm φ (Fp.one p)] at a2
              exact a2
            exact (a1.trans Step.freeze).trans (Step.write (by simp only [Fp.add_at, Fp.one_at]; omega))
          have rd : q.1.map Val.rd = q.1.map Val.rd := rfl
          refine s (.ref p) _ _ (Fp.one p) φ1 st g4 (.val ?_) e2
          have := RepR.m (w := w) (H := upd H1 p (.dK [(k, v)])) (Z := fun a => Z1 a ∨ φx a ≠ 0) (a := p) (kvs := [(k, v)]) upd_same (hf.kept kp)
          simp only [List.map_cons, List.map_nil] at this
          rw [hk] at this
          exact this
      | exc c ns vs ρ' =>
        rw [he] at s
        intro cls d H' Z' φ' s1 g1 re1 ex
        exact s cls d H' Z' φ' ((Step.newO (o := .dK []) hp).trans (by rw [Fp.add_comm]; exact s1.dropR)) g1 re1 ex
      | stuck => rw [he] at s; exact s.elim
    | _ :: _ :: _, _, _, h2 => simp at h2
  · exact s.elim
theorem sx_op {o : BOp} {es : List E} (ih : SXs w sp cl es) : SX w sp cl (.op o es) := by
  intro W m σ ρ H Z φ Q g re s
  refine ih W .opd σ ρ H Z φ _ g re (SatL.of s fun q hq s vs H1 Z1 φx φ1 s1 g1 vr re1 => ?_)
  try dsimp only at s
  split at s
  · rename_i r hr
    rw [Option.bind_eq_some_iff] at hr
    obtain ⟨ds, h1, h2⟩ := hr
    exact opB_sound (vr.rds re1 h1) h2 (Fin.of g1 re1 fun v H' Z' φr s2 g2 rr re2 => s v H' Z' φr φ1 (s1.trans s2) g2 (.val rr) re2)
  · exact s.elim
end
end VB
set_option Elab.async false
set_option linter.all false
set_option maxRecDepth 100000
set_option maxHeartbeats 1000000
namespace VB
open PySem PySem.Spec L2
open PyProof.Rows hiding St

section
variable {w : Wd} {sp : Str → Sp} {cl : Cl}
theorem boolVal {H : Hp} {Z : Zn} {σ : St} {v : V} {b : Bool} {f : Fp} (h : VR w H Z σ v (.val (.p (.bl b))) f) : v = .bl b ∧ f = Fp.zero := by
  cases h with
  | val h => cases h with | p h => cases h; exact ⟨rfl, rfl⟩
/-- a truth came: on from there -/
theorem SatV.on {W : WX} {σ : St} {H H1 : Hp} {Z Z1 : Zn} {φ φx φ1 : Fp} {Q : VK} {r : Res (Val × Env)} (s : SatV w W σ H Z φ Q r) (s1 : Step H Z φ H1 Z1 (Fp.add φx φ1)) : SatV w W σ H1 Z1 φ1 Q r :=
  s.step (s1.trans (Step.le fun a => by simp))
theorem sx_and {a b : E} (ia : SX w sp cl a) (ib : SX w sp cl b) : SX w sp cl (.and a b) := by
  intro W m σ ρ H Z φ Q g re s
  refine ia W .esc σ ρ H Z φ _ g re (SatV.of s fun q hq s v H1 Z1 φx φ1 s1 g1 vr re1 => ?_)
  obtain ⟨x, ρ1⟩ := q
  dsimp only at s vr re1
  split at s
  · obtain ⟨rfl, rfl⟩ := boolVal vr
    exact ⟨true, rfl, iteT (ib W .esc σ ρ1 H1 Z1 φ1 Q g1.r re1 (s.on s1))⟩
  · obtain ⟨rfl, rfl⟩ := boolVal vr
    exact ⟨false, rfl, iteF (s (.bl false) H1 Z1 Fp.zero φ1 s1 g1 vr re1)⟩
  · exact s.elim
theorem sx_or {a b : E} (ia : SX w sp cl a) (ib : SX w sp cl b) : SX w sp cl (.or a b) := by
  intro W m σ ρ H Z φ Q g re s
  refine ia W .esc σ ρ H Z φ _ g re (SatV.of s fun q hq s v H1 Z1 φx φ1 s1 g1 vr re1 => ?_)
  obtain ⟨x, ρ1⟩ := q
  dsimp only at s vr re1
  split at s
  · obtain ⟨rfl, rfl⟩ := boolVal vr
    exact ⟨true, rfl, iteT (s (.bl true) H1 Z1 Fp.zero φ1 s1 g1 vr re1)⟩
  · obtain ⟨rfl, rfl⟩ := boolVal vr
    exact ⟨false, rfl, iteF (ib W .esc σ ρ1 H1 Z1 φ1 Q g1.r re1 (s.on s1))⟩
  · exact s.elim
theorem sx_not {a : E} (ia : SX w sp cl a) : SX w sp cl (.not a) := by
  intro W m σ ρ H Z φ Q g re s
  refine ia W .esc σ ρ H Z φ _ g re (SatV.of s fun q hq s v H1 Z1 φx φ1 s1 g1 vr re1 => ?_)
  obtain ⟨x, ρ1⟩ := q
  dsimp only at s vr re1
  split at s
  · obtain ⟨rfl, rfl⟩ := boolVal vr
    exact ⟨_, rfl, s (.bl _) H1 Z1 Fp.zero φ1 s1 g1 (.val (.p (.bl _))) re1⟩
  · exact s.elim
/-- a test, then on -/
theorem SatB.of {W : WX} {σ : St} {H : Hp} {Z : Zn} {φ : Fp} {Q : VK} {Q' : Bool → Hp → Prop} {r : Res (Val × Env)} {f : Val × Env → Res (Val × Env)} (s : SatV w W σ H Z φ Q (r.bind f))
    (hf : ∀ q, toB q = .stuck → f q = .stuck)
    (k : ∀ b ρ1, r = .ok (.val (.p (.bl b)), ρ1) → SatV w W σ H Z φ Q (f (.val (.p (.bl b)), ρ1)) → ∀ H' Z' φ', Step H Z φ H' Z' φ' → Good H' Z' φ' → RepE w H' Z' σ ρ1 φ' → Q' b H') : SatB w W σ H Z φ Q' (r.bind toB) := by
  cases r with
  | ok q =>
    have s : SatV w W σ H Z φ Q (f q) := s
    show SatB w W σ H Z φ Q' (toB q)
    cases e : toB q with
    | ok p =>
      obtain ⟨x, ρ1⟩ := q
      unfold toB at e
      dsimp only at e
      split at e
      · cases e; exact k _ _ rfl s
      · exact nomatch e
    | exc c ns vs ρ' => unfold toB at e; split at e <;> exact nomatch e
    | stuck => rw [hf q e] at s; exact s.elim
  | exc c ns vs ρ' => exact s
  | stuck => exact s.elim
theorem sx_ite {c a b : E} (ic : ST w sp cl c) (ia : SX w sp cl a) (ib : SX w sp cl b) : SX w sp cl (.ite c a b) := by
  intro W m σ ρ H Z φ Q g re s
  refine ic W σ ρ H Z φ _ g re (SatB.of s (fun q e => ?_) fun k ρ1 hq s H1 Z1 φ1 s1 g1 re1 => ?_)
  · unfold toB at e
    split at e
    · exact nomatch e
    · rename_i hn
      split
      · rename_i hx; exact absurd hx (hn _)
      · rename_i hx; exact absurd hx (hn _)
      · rfl
  · cases k with
    | true => exact iteT (ia W .esc σ ρ1 H1 Z1 φ1 Q g1 re1 (SatV.step s1 s))
    | false => exact iteF (ib W .esc σ ρ1 H1 Z1 φ1 Q g1 re1 (SatV.step s1 s))
theorem st_and {a b : E} (ia : ST w sp cl a) (ib : ST w sp cl b) : ST w sp cl (.and a b) := by
  intro W σ ρ H Z φ Q g re s
  refine ia W σ ρ H Z φ _ g re ?_
  simp only [ev] at s
  cases he : ev cl .esc a ρ with
  | ok q =>
    rw [he] at s
    obtain ⟨x, ρ1⟩ := q
    cases x with
    | val r =>
      cases r with
      | p d =>
        cases d with
        | bl k =>
          cases k with
          | true => exact fun H1 Z1 φ1 s1 g1 re1 => iteT (ib W σ ρ1 H1 Z1 φ1 Q g1 re1 (SatB.step s1 s))
          | false => exact fun H1 Z1 φ1 s1 g1 re1 => iteF (s H1 Z1 φ1 s1 g1 re1)
        | _ => exact s.elim
      | _ => exact s.elim
    | _ => exact s.elim
  | exc c ns vs ρ' => rw [he] at s; exact s
  | stuck => rw [he] at s; exact s.elim
theorem st_or {a b : E} (ia : ST w sp cl a) (ib : ST w sp cl b) : ST w sp cl (.or a b) := by
  intro W σ ρ H Z φ Q g re s
  refine ia W σ ρ H Z φ _ g re ?_
  simp only [ev] at s
  cases he : ev cl .esc a ρ with
  | ok q =>
    rw [he] at s
    obtain ⟨x, ρ1⟩ := q
    cases x with
    | val r =>
      cases r with
      | p d =>
        cases d with
        | bl k =>
          cases k with
          | true => exact fun H1 Z1 φ1 s1 g1 re1 => iteT (s H1 Z1 φ1 s1 g1 re1)
          | false => exact fun H1 Z1 φ1 s1 g1 re1 => iteF (ib W σ ρ1 H1 Z1 φ1 Q g1 re1 (SatB.step s1 s))
        | _ => exact s.elim
      | _ => exact s.elim
    | _ => exact s.elim
  | exc c ns vs ρ' => rw [he] at s; exact s
  | stuck => rw [he] at s; exact s.elim
theorem st_not {a : E} (ia : ST w sp cl a) : ST w sp cl (.not a) := by
  intro W σ ρ H Z φ Q g re s
  refine ia W σ ρ H Z φ _ g re ?_
  simp only [ev] at s
  cases he : ev cl .esc a ρ with
  | ok q =>
    rw [he] at s
    obtain ⟨x, ρ1⟩ := q
    cases x with
    | val r =>
      cases r with
      | p d =>
        cases d with
        | bl k =>
          cases k with
          | true => exact fun H1 Z1 φ1 s1 g1 re1 => s H1 Z1 φ1 s1 g1 re1
          | false => exact fun H1 Z1 φ1 s1 g1 re1 => s H1 Z1 φ1 s1 g1 re1
        | _ => exact s.elim
      | _ => exact s.elim
    | _ => exact s.elim
  | exc c ns vs ρ' => rw [he] at s; exact s
  | stuck => rw [he] at s; exact s.elim
theorem sx_chain {o o' : BOp} {a b c : E} (ia : SX w sp cl a) (ib : SX w sp cl b) (ic : SX w sp cl c) : SX w sp cl (.chain o o' a b c) := by
  intro W m σ ρ H Z φ Q g re s
  refine ia W .opd σ ρ H Z φ _ g re (SatV.of s fun qa hqa s va H1 Z1 φa φ1 s1 g1 vra re1 => ?_)
  refine ib W .opd σ qa.2 H1 Z1 φ1 _ g1.r re1 ?_
  cases hb : ev cl .opd b qa.2 with
  | stuck => rw [hb] at s; exact s.elim
  | exc cc ns vs ρ' =>
    rw [hb] at s
    exact fun cls d H2 Z2 φ2 s2 g2 re2 ex => s cls d H2 Z2 φ2 (s1.trans (by rw [Fp.add_comm]; exact s2.dropR)) g2 re2 ex
  | ok qb =>
    rw [hb] at s
    intro vb H2 Z2 φb φ2 s2 g2 vrb re2
    have g1' : Good H1 Z1 (Fp.add φ1 φa) := by rw [Fp.add_comm]; exact g1
    have g2' : Good H2 Z2 (Fp.add (Fp.add φb φ2) φa) := g1'.frame s2 g2
    have vra2 : VR w H2 Z2 σ va qa.1 φa := vra.frame g1' s2
    have s12 : Step H Z φ H2 Z2 (Fp.add (Fp.add φb φ2) φa) := s1.trans (by rw [Fp.add_comm φa φ1]; exact s2.frame)
    have two : VRs w H2 Z2 σ [va, vb] [qa.1, qb.1] (Fp.add φa (Fp.add φb Fp.zero)) := .cons vra2 (.cons vrb .nil)
    have gT : Good H2 Z2 (Fp.add (Fp.add φa (Fp.add φb Fp.zero)) φ2) := g2'.le fun x => by simp only [Fp.add_at, Fp.zero_at]; omega
    show rB w.K o [va, vb] H2 _
    cases hg : gets qb.2 [qa.1, qb.1] with
    | none => simp only [Res.bind, hg, Option.bind] at s; exact s.elim
    | some ds =>
      simp only [Res.bind, hg, Option.bind] at s
      cases ho : opB o ds with
      | none => rw [ho] at s; exact s.elim
      | some r =>
        rw [ho] at s
        have drop : ∀ {χ : Fp}, (∀ x, χ x ≤ φa x + (φb x + φ2 x)) → Step H Z φ H2 Z2 χ := fun h => s12.trans (Step.le fun x => by have := h x; simp only [Fp.add_at]; omega)
        refine opB_sound (two.rds re2 hg) ho ⟨fun v d hd rv => ?_, fun p vs ds' hd hp rs => ?_, fun p vs ds' hd hp rs => ?_⟩
        · subst hd
          cases d with
          | bl k =>
            cases rv
            cases k with
            | false => exact ⟨false, rfl, iteF (s (.bl false) H2 Z2 Fp.zero φ2 (drop fun x => by simp only [Fp.add_at, Fp.zero_at]; omega) (g2'.le fun x => by simp only [Fp.add_at, Fp.zero_at]; omega) (.val (.p (.bl false))) re2)⟩
            | true =>
              refine ⟨true, rfl, iteT (ic W .opd σ qb.2 H2 Z2 φ2 _ g2.r re2 ?_)⟩
              dsimp only at s
              cases hc : ev cl .opd c qb.2 with
              | stuck => rw [hc] at s; exact s.elim
              | exc cc ns vs ρ' =>
                rw [hc] at s
                exact fun cls d H3 Z3 φ3 s3 g3 re3 ex => s cls d H3 Z3 φ3 ((drop (χ := φ2) fun x => by omega).trans s3) g3 re3 ex
              | ok qc =>
                rw [hc] at s
                intro vc H3 Z3 φc φ3 s3 g3 vrc re3
                have g2b : Good H2 Z2 (Fp.add φ2 φb) := by rw [Fp.add_comm]; exact g2
                have two' : VRs w H3 Z3 σ [vb, vc] [qb.1, qc.1] (Fp.add φb (Fp.add φc Fp.zero)) := .cons (vrb.frame g2b s3) (.cons vrc .nil)
                have g3' : Good H3 Z3 (Fp.add (Fp.add φc φ3) φb) := g2b.frame s3 g3
                have s23 : Step H Z φ H3 Z3 (Fp.add (Fp.add φc φ3) φb) := (drop (χ := Fp.add φ2 φb) fun x => by simp only [Fp.add_at]; omega).trans s3.frame
                show rB w.K o' [vb, vc] H3 _
                simp only at s
                split at s
                · rename_i r' hr'
                  cases hg' : gets qc.2 [qb.1, qc.1] with
                  | none => rw [hg'] at hr'; exact nomatch hr'
                  | some ds' =>
                    rw [hg'] at hr'
                    exact opB_sound (two'.rds re3 hg') hr' (Fin.of (φx := Fp.add φb (Fp.add φc Fp.zero)) (g3'.le fun x => by simp only [Fp.add_at, Fp.zero_at]; omega) re3 fun v H' Z' φr s4 g4 rr re4 =>
                      s v H' Z' φr φ3 ((s23.trans (Step.le fun x => by simp only [Fp.add_at, Fp.zero_at]; omega)).trans s4) g4 (.val rr) re4)
                · exact s.elim
          | _ => exact s.elim
        · subst hd; exact s.elim
        · subst hd; exact s.elim
theorem sx_call (hc : ClOk w sp cl) {f : Str} {es : List E} (ih : SXs w sp cl es) : SX w sp cl (.call f es) := by
  intro W m σ ρ H Z φ Q g re s
  refine ih W .arg σ ρ H Z φ _ g re (SatL.of s fun q hq s vs H1 Z1 φx φ1 s1 g1 vr re1 => ?_)
  cases ht : takeA q.1 q.2 with
  | none => rw [ht] at s; exact s.elim
  | some t =>
  rw [ht] at s
  dsimp only at s
  obtain ⟨fa, f2, el, vr, re1, hv⟩ := took vr re1 ht
  have g1 : Good H1 Z1 (Fp.add fa f2) := g1.le fun a => by have := el a; simp only [Fp.add_at]; omega
  have s1 : Step H Z φ H1 Z1 (Fp.add fa f2) := s1.trans (Step.le fun a => by have := el a; simp only [Fp.add_at]; omega)
  refine hc f vs (t.1.map Val.r) H1 Z1 fa _ _ g1.l (vr.args hv) ?_
  cases hf : cl f (t.1.map Val.r) with
  | ok r outs =>
    rw [hf] at s
    intro v H2 Z2 φr φo s2 g2 rr ro
    have g3 := g1.frame s2 g2
    obtain ⟨φ3, l3, re3⟩ := givenBack (H := H2) (Z := Z2) vr ro (re1.frame s2 g1)
    exact s v H2 Z2 φr φ3 ((s1.trans s2.frame).trans (Step.le fun a => by have := l3 a; simp only [Fp.add_at]; omega)) (g3.le fun a => by have := l3 a; simp only [Fp.add_at]; omega) (.val rr) re3
  | exc c ns ds outs =>
    rw [hf] at s
    intro cls d H2 Z2 φo s2 g2 ro ex
    have g3 := g1.frame s2 g2
    obtain ⟨φ3, l3, re3⟩ := givenBack (H := H2) (Z := Z2) vr ro (re1.frame s2 g1)
    exact s cls d H2 Z2 φ3 ((s1.trans s2.frame).trans (Step.le fun a => by have := l3 a; simp only [Fp.add_at]; omega)) (g3.le fun a => by have := l3 a; simp only [Fp.add_at]; omega) re3 ex
  | stuck => rw [hf] at s; exact s.elim
end
end VB
set_option Elab.async false
set_option linter.all false
set_option maxRecDepth 100000
set_option maxHeartbeats 1000000
namespace VB
open PySem PySem.Spec L2
open PyProof.Rows hiding St

section
variable {w : Wd} {sp : Str → Sp} {cl : Cl}
theorem Rds.kept {H H' : Hp} {Z Z' : Zn} (k : Kept H Z H' Z') (hh : H' = H) {vs : List V} {ds : List D} (h : Rds w H Z vs ds) : Rds w H' Z' vs ds := by
  subst hh
  induction h with
  | nil => exact .nil
  | cons h t ih =>
    refine .cons ?_ ih
    obtain ⟨r, f, hr, e⟩ := h
    refine ⟨r, f, ?_, e⟩
    cases hr with
    | p h => exact .p (h.kept k)
    | l h r => exact .l h (r.kept k)
    | m h r => exact .m h (r.kept k)
theorem opM_sound {m : MOp} {H : Hp} {Z : Zn} {a : Addr} {vs0 vs : List V} {xs ds : List D} {r1 r2 : R} {Q : VK} (h : opM m (.l xs) ds = some (r1, r2)) (ha : H a = some (.lst vs0)) (rx : Reps w H Z vs0 xs) (rd : Rds w H Z vs ds)
    (hA : m.keeps = true → Reps w H Z vs ds) (k : ∀ v d vs1 xs1, r1 = .p d → r2 = .l xs1 → Rep w H Z v d → Reps w H Z vs1 xs1 → Q v (upd H a (.lst vs1))) : rM m (.ref a) vs H Q := by
  cases m with
  | append =>
    have hA := hA rfl
    rcases hA with _ | ⟨ra, _ | ⟨rb, rt⟩⟩
    · exact nomatch h
    · rename_i v d
      have h : (if xs.length < sizeLine then some (R.p .non, R.l (xs ++ [d])) else none) = some (r1, r2) := h
      split at h
      · rename_i hl
        cases h
        exact ⟨a, vs0, v, rfl, rfl, ha, by rw [rx.len]; exact hl, k .non .non _ _ rfl rfl .non (rx.append (.cons ra .nil))⟩
      · exact nomatch h
    · exact nomatch h
  | extend =>
    rcases rd with _ | ⟨ra, _ | ⟨rb, rt⟩⟩
    · exact nomatch h
    · rename_i v d
      cases d <;> first | (exfalso; simp [opM] at h; done) | skip
      rename_i ys
      have h : (if xs.length + ys.length ≤ sizeLine then some (R.p .non, R.l (xs ++ ys)) else none) = some (r1, r2) := h
      obtain ⟨b, ws, rfl, hb, ry⟩ := ra.lst
      split at h
      · rename_i hl
        cases h
        exact ⟨a, b, vs0, ws, rfl, rfl, ha, hb, by rw [rx.len, ry.len]; exact hl, k .non .non _ _ rfl rfl .non (rx.append ry)⟩
      · exact nomatch h
    · exfalso; simp [opM] at h
  | pop =>
    rcases rd with _ | ⟨ra, rt⟩
    · have h : (xs[xs.length - 1]?).map (fun y => (R.p y, R.l xs.dropLast)) = some (r1, r2) := h
      rw [Option.map_eq_some_iff] at h
      obtain ⟨y, hy, e⟩ := h
      cases e
      obtain ⟨v, hv, rv⟩ := rx.get hy
      exact ⟨a, vs0, v, rfl, rfl, ha, by rw [rx.len]; exact hv, k v y _ _ rfl rfl rv rx.dropLast⟩
    · exact nomatch h
  | popAt =>
    rcases rd with _ | ⟨ra, _ | ⟨rb, rt⟩⟩
    · exact nomatch h
    · rename_i v d
      cases d <;> first | (exfalso; simp [opM] at h; done) | skip
      rename_i i
      have h : (if -(2 ^ 63) ≤ i ∧ i < 2 ^ 63 then (seqIndex? i xs.length).bind fun k => (xs[k]?).map fun y => (R.p y, R.l (xs.eraseIdx k)) else none) = some (r1, r2) := h
      split at h
      · rename_i hi
        rw [Option.bind_eq_some_iff] at h
        obtain ⟨j, hj, h⟩ := h
        rw [Option.map_eq_some_iff] at h
        obtain ⟨y, hy, e⟩ := h
        cases e
        obtain ⟨v', hv, rv⟩ := rx.get hy
        exact ⟨a, vs0, i, j, v', rfl, by rw [ra.int], ha, hi.1, hi.2, by rw [rx.len]; exact hj, hv, k v' y _ _ rfl rfl rv (rx.erase j)⟩
      · exact nomatch h
    · exfalso; simp [opM] at h
  | clear =>
    rcases rd with _ | ⟨ra, rt⟩
    · cases h
      exact ⟨a, vs0, rfl, rfl, ha, k .non .non _ _ rfl rfl .non .nil⟩
    · exact nomatch h
  | reverse =>
    rcases rd with _ | ⟨ra, rt⟩
    · cases h
      exact ⟨a, vs0, rfl, rfl, ha, k .non .non _ _ rfl rfl .non rx.reverse⟩
    · exact nomatch h
theorem gets_rd {ρ : Env} : ∀ {xs : List Val} {ds : List D}, (∀ x ∈ xs, ∃ r, x = .val r) → gets ρ xs = some ds → ds = xs.map Val.rd
  | [], ds, _, h => by cases h; rfl
  | x :: xs, ds, hv, h => by
    simp only [gets, Option.bind_eq_some_iff, Option.map_eq_some_iff] at h
    obtain ⟨d, e1, ds', e2, rfl⟩ := h
    obtain ⟨r, rfl⟩ := hv x List.mem_cons_self
    cases e1
    rw [gets_rd (fun y hy => hv y (List.mem_cons_of_mem _ hy)) e2]
    rfl
theorem opM_lst {m : MOp} {r : R} {ds : List D} {q : R × R} (h : opM m r ds = some q) : ∃ xs, r = .l xs := by
  cases r with
  | l xs => exact ⟨xs, rfl⟩
  | _ => cases m <;> exact nomatch h
theorem sx_mut {m' : MOp} {i : Nat} {es : List E} (ih : SXs w sp cl es) : SX w sp cl (.mut m' i es) := by
  intro W m σ ρ H Z φ Q g re s
  simp only [ev] at s
  split at s
  · exact s.elim
  · rename_i hL
    obtain ⟨xs0, hx0⟩ : ∃ xs, ρ.gt i = some (.l xs) := by
      cases h : ρ.gt i with
      | none => rw [h] at hL; exact absurd rfl hL
      | some r =>
        cases r with
        | l xs => exact ⟨xs, rfl⟩
        | _ => rw [h] at hL; exact absurd rfl hL
    obtain ⟨v, f1, f2, e1, e2, e3, e4⟩ := re.at hx0
    cases e2 with
    | @l a vs0 _ ha rx0 =>
      refine ⟨.ref a, e1, .inl ⟨rfl, vs0, SqL.of ha⟩, ?_⟩
      refine ih W _ σ ρ H Z φ _ g re (SatL.of s fun q hq s vs H1 Z1 φx φ1 s1 g1 vr re1 => ?_)
      try dsimp only at s
      split at s
      · rename_i r1 r2 hr
        rw [Option.bind_eq_some_iff] at hr
        obtain ⟨ro, hro, hr⟩ := hr
        rw [Option.bind_eq_some_iff] at hr
        obtain ⟨ds, hds, hr⟩ := hr
        obtain ⟨xs, rfl⟩ := opM_lst hr
        have rd1 := vr.rds re1 hds
        obtain ⟨v', f3, f4, b1, b2, b3, b4⟩ := re1.at hro
        rw [e1] at b1; cases b1
        cases b2 with
        | @l _ vs1 _ ha1 rx1 =>
          have k : Kept H1 Z1 H1 (fun a => Z1 a ∨ φx a ≠ 0) := ⟨fun _ _ _ h => h, fun _ z => .inl z⟩
          subst b3
          have g2 := g1.freeze
          refine opM_sound hr ha1 (rx1.kept k) (rd1.kept k rfl) (fun hk => ?_) fun v d vs2 xs2 z1 z2 rv rx2 => ?_
          · have hv := (evL_val cl es _ ρ q.1 q.2 hq).1 (by rw [hk]; rfl)
            rw [gets_rd hv hds]
            exact vr.freeze hv
          · subst z1 z2
            have w1 : (Fp.add (Fp.one a) f4) a ≠ 0 := by simp only [Fp.add_at, Fp.one_at]; omega
            have nz : ∀ b, (Z1 b ∨ φx b ≠ 0) → b ≠ a := fun b z q => by subst q; exact w1 (g2.d _ z)
            have kw : Kept H1 (fun a => Z1 a ∨ φx a ≠ 0) (upd H1 a (.lst vs2)) (fun a => Z1 a ∨ φx a ≠ 0) := ⟨fun b o z h => by rw [upd_ne (nz b z)]; exact h, fun _ z => z⟩
            have f4a : f4 a = 0 := by have := g2.u a; simp only [Fp.add_at, Fp.one_at] at this; omega
            have e5 : RepE w (upd H1 a (.lst vs2)) (fun a => Z1 a ∨ φx a ≠ 0) σ (q.2.set i none) f4 := b4.keptZ ⟨fun b o z h => by rw [upd_ne (nz b (.inl z))]; exact h, fun _ z => .inl z⟩ fun b o z h => by
              rw [upd_ne (fun q => by subst q; exact z f4a)]; exact h
            obtain ⟨f5, l5, e6⟩ := e5.back (.l upd_same (rx2.kept kw)) e1
            rw [List.set_set] at e6
            have gW : Good (upd H1 a (.lst vs2)) (fun a => Z1 a ∨ φx a ≠ 0) (Fp.add (Fp.one a) f4) := g2.write
            exact s v _ _ Fp.zero f5 (((s1.trans Step.freeze).trans (Step.write w1)).trans (Step.le fun b => by have := l5 b; simp only [Fp.add_at, Fp.zero_at]; omega))
              (gW.le fun b => by have := l5 b; simp only [Fp.add_at, Fp.zero_at]; omega) (.val (.p (rv.kept kw))) e6
      · exact s.elim
theorem sxs_nil : SXs w sp cl [] := fun W m σ ρ H Z φ Q g re s => s [] H Z Fp.zero φ same0 (good0 g) .nil re
theorem sxs_cons {e : E} {es : List E} (ie : SX w sp cl e) (ies : SXs w sp cl es) : SXs w sp cl (e :: es) := by
  intro W m σ ρ H Z φ Q g re s
  refine ie W m σ ρ H Z φ _ g re ?_
  have s : SatL w W σ H Z φ Q ((ev cl m e ρ).bind fun q => (evL cl m es q.2).bind fun q' => .ok (q.1 :: q'.1, q'.2)) := s
  cases he : ev cl m e ρ with
  | stuck => rw [he] at s; exact s.elim
  | exc c ns vs ρ' => rw [he] at s; exact s
  | ok q =>
    rw [he] at s
    intro v H1 Z1 φx φ1 s1 g1 vr re1
    refine ies W m σ q.2 H1 Z1 φ1 _ g1.r re1 ?_
    have g1' : Good H1 Z1 (Fp.add φ1 φx) := by rw [Fp.add_comm]; exact g1
    cases hs : evL cl m es q.2 with
    | stuck => simp only [Res.bind, hs] at s; exact s.elim
    | exc c ns vs ρ' =>
      simp only [Res.bind, hs] at s
      exact fun cls d H2 Z2 φ2 s2 g2 re2 ex => s cls d H2 Z2 φ2 (s1.trans (by rw [Fp.add_comm]; exact s2.dropR)) g2 re2 ex
    | ok q' =>
      simp only [Res.bind, hs] at s
      intro vs H2 Z2 φxs φ2 s2 g2 vrs re2
      have g3 := g1'.frame s2 g2
      refine s (v :: vs) H2 Z2 (Fp.add φx φxs) φ2 ((s1.trans (by rw [Fp.add_comm φx φ1]; exact s2.frame)).trans (Step.le fun a => by simp only [Fp.add_at]; omega)) (g3.le fun a => by simp only [Fp.add_at]; omega) (.cons (vr.frame g1' s2) vrs) re2
theorem scs_nil : SCs w sp cl [] := fun W σ ρ H Z φ Q g re s => s H Z φ Step.refl g re
theorem evTs_one {e : E} {ρ : Env} : evTs cl [e] ρ = (ev cl .esc e ρ).bind toB := rfl
theorem scs_one {e : E} (ie : ST w sp cl e) : SCs w sp cl [e] := fun W σ ρ H Z φ Q g re s => ie W σ ρ H Z φ Q g re s
theorem scs_two {e e' : E} {es : List E} : SCs w sp cl (e :: e' :: es) := fun W σ ρ H Z φ Q g re s => s.elim

/-! ### a loop's target -/
theorem gP_sound {Z : Zn} {H : Hp} {W : WX} : ∀ (n : Nat), (∀ (p : Pat), sizeOf p ≤ n → ∀ (v : V) (d : D) (σ : St) (ρ ρ' : Env) (φ : Fp) (Q : St → Hp → Prop), RepE w H Z σ ρ φ → Rep w H Z v d → bindP p d ρ = some ρ' →
      (∀ σ' φ', (∀ a, φ' a ≤ φ a) → RepE w H Z σ' ρ' φ' → (∀ own, patIn own p = true → wipe σ' own = wipe σ own) → (∀ i, freeP [i] p = true → σ'[i]? = σ[i]?) → Q σ' H) → gP w.K p v σ H Q) ∧
    ∀ (ps : List Pat), sizeOf ps ≤ n → ∀ (vs : List V) (ds : List D) (σ : St) (ρ ρ' : Env) (φ : Fp) (Q : St → Hp → Prop), RepE w H Z σ ρ φ → Reps w H Z vs ds → bindPs ps ds ρ = some ρ' →
      (∀ σ' φ', (∀ a, φ' a ≤ φ a) → RepE w H Z σ' ρ' φ' → (∀ own, patsIn own ps = true → wipe σ' own = wipe σ own) → (∀ i, freePs [i] ps = true → σ'[i]? = σ[i]?) → Q σ' H) → gPs w.K ps vs σ H Q := by
  have wset : ∀ (own : List Nat) (σ : St) (i : Nat) (x : Option V), i ∈ own → wipe (σ.set i x) own = wipe σ own := by
    intro own
    induction own with
    | nil => intro σ i x h; cases h
    | cons j own ih =>
      intro σ i x h
      by_cases q : i ∈ own
      · show (wipe (σ.set i x) own).set j none = (wipe σ own).set j none
        rw [ih σ i x q]
      · have e : i = j := by
          rcases List.mem_cons.mp h with z | z
          · exact z
          · exact absurd z q
        subst e
        show (wipe (σ.set i x) own).set i none = (wipe σ own).set i none
        have key : ∀ (own : List Nat), i ∉ own → wipe (σ.set i x) own = (wipe σ own).set i x := by
          intro own
          induction own with
          | nil => intro _; rfl
          | cons k own ih2 =>
            intro hn
            show (wipe (σ.set i x) own).set k none = ((wipe σ own).set k none).set i x
            rw [ih2 (fun z => hn (List.mem_cons_of_mem _ z)), List.set_comm _ _ (fun z => hn (by rw [z]; exact List.mem_cons_self))]
        rw [key own q, List.set_set]
  intro n
  induction n with
  | zero =>
    refine ⟨fun p h => ?_, fun ps h => ?_⟩
    · cases p with
      | s i => simp only [Pat.s.sizeOf_spec] at h; omega
      | t ps => simp only [Pat.t.sizeOf_spec] at h; omega
    · cases ps with
      | nil => simp only [List.nil.sizeOf_spec] at h; omega
      | cons p ps => simp only [List.cons.sizeOf_spec] at h; omega
  | succ n ih =>
    refine ⟨fun p hp v d σ ρ ρ' φ Q re rv hb k => ?_, fun ps hp vs ds σ ρ ρ' φ Q re rv hb k => ?_⟩
    · cases p with
      | s i =>
        cases hb
        show Q (σ.set i (some v)) H
        by_cases hi : i < σ.length
        · obtain ⟨φ', l, re'⟩ := re.put (.p rv) hi
          refine k _ φ' (fun a => by have := l a; simp only [Fp.zero_at] at this; omega) re' (fun own ho => wset own σ i _ ?_) fun j hj => ?_
          · simpa [patIn] using ho
          · have : j ≠ i := fun z => by subst z; simp [freeP, free] at hj
            rw [List.getElem?_set_ne (Ne.symm this)]
        · have e1 : σ.set i (some v) = σ := List.set_eq_of_length_le (by omega)
          have e2 : ρ.set i (some (.p d)) = ρ := List.set_eq_of_length_le (by rw [← re.length]; omega)
          rw [e1]
          exact k _ φ (fun _ => Nat.le_refl _) (by rw [e2]; exact re) (fun _ _ => rfl) fun _ _ => rfl
      | t ps =>
        cases d with
        | tup ds =>
          obtain ⟨a, vs, rfl, hq, rs, _⟩ := rv.rd.tup
          have hl : ∀ (ps : List Pat) (ds : List D) (ρ ρ' : Env), bindPs ps ds ρ = some ρ' → ds.length = ps.length := by
            intro ps
            induction ps with
            | nil => intro ds ρ ρ' h; cases ds with | nil => rfl | cons _ _ => exact nomatch h
            | cons p ps ih =>
              intro ds ρ ρ' h
              cases ds with
              | nil => exact nomatch h
              | cons d ds =>
                simp only [bindPs, Option.bind_eq_some_iff] at h
                obtain ⟨ρ1, _, h⟩ := h
                exact congrArg (· + 1) (ih ds ρ1 ρ' h)
          refine ⟨a, vs, rfl, hq, by rw [rs.len]; exact hl ps ds ρ ρ' hb, ?_⟩
          exact ih.2 ps (by simp at hp; omega) vs ds σ ρ ρ' φ Q re rs hb fun σ' φ' l re' h1 h2 => k σ' φ' l re' (fun own ho => h1 own ho) fun i hi => h2 i hi
        | _ => exact nomatch hb
    · cases ps with
      | nil =>
        cases ds with
        | nil =>
          cases rv
          cases hb
          exact ⟨rfl, k σ φ (fun _ => Nat.le_refl _) re (fun _ _ => rfl) fun _ _ => rfl⟩
        | cons _ _ => exact nomatch hb
      | cons p ps =>
        cases ds with
        | nil => exact nomatch hb
        | cons d ds =>
          cases rv with
          | @cons v _ vs _ r1 r2 =>
            simp only [bindPs, Option.bind_eq_some_iff] at hb
            obtain ⟨ρ1, hb1, hb2⟩ := hb
            refine ⟨v, vs, rfl, ih.1 p (by simp at hp; omega) v d σ ρ ρ1 φ _ re r1 hb1 fun σ1 φ1 l1 re1 h1 h1' => ?_⟩
            refine ih.2 ps (by simp at hp; omega) vs ds σ1 ρ1 ρ' φ1 Q re1 r2 hb2 fun σ2 φ2 l2 re2 h2 h2' => ?_
            refine k σ2 φ2 (fun a => Nat.le_trans (l2 a) (l1 a)) re2 (fun own ho => ?_) fun i hi => ?_
            · simp only [patsIn, Bool.and_eq_true] at ho
              rw [h2 own ho.2, h1 own ho.1]
            · simp only [freePs, Bool.and_eq_true] at hi
              rw [h2' i hi.2, h1' i hi.1]
end
end VB
set_option Elab.async false
set_option linter.all false
set_option maxRecDepth 100000
set_option maxHeartbeats 1000000
namespace VB
open PySem PySem.Spec L2
open PyProof.Rows hiding St

section
variable {w : Wd} {sp : Str → Sp} {cl : Cl}
/-- what a loop over a source wants of what comes -/
def SatS (w : Wd) (W : WX) (σ : St) (H : Hp) (Z : Zn) (φ : Fp) (k : SrcK) (R : It → Hp → Prop) : Res (List Val × Env) → Prop
  | .ok q => ∃ items, (gets q.2 q.1).bind (srcItems k) = some items ∧ ∀ vs H1 Z1 φx φ1 ψ φ', Step H Z φ H1 Z1 (Fp.add φx φ1) → Good H1 Z1 (Fp.add φx φ1) → VRs w H1 Z1 σ vs q.1 φx → RepE w H1 Z1 σ q.2 φ1 →
      φ1 = Fp.add ψ φ' → RepE w H1 Z1 σ (lockE q.2 (locks q.2 q.1)) φ' → LR w H1 Z1 σ (locks q.2 q.1) ψ → ∀ J, Feed w J items H1 Z1 (Fp.add φx ψ) → R J H1
  | .exc c ns vs ρ' => ∀ cls d H' Z' φ', Step H Z φ H' Z' φ' → Good H' Z' φ' → RepE w H' Z' σ ρ' φ' → ExcRep w H' Z' c ns vs cls d → W cls d σ H'
  | .stuck => False
theorem Opns.one {H : Hp} {Z : Zn} {ψ : Fp} {vs : List V} {d : D} (h : Opns w H Z ψ vs [d]) : ∃ v, vs = [v] ∧ Opn w H Z ψ v d := by
  cases h with
  | cons h t => cases t; exact ⟨_, rfl, h⟩
theorem Opns.two {H : Hp} {Z : Zn} {ψ : Fp} {vs : List V} {d e : D} (h : Opns w H Z ψ vs [d, e]) : ∃ v u, vs = [v, u] ∧ Opn w H Z ψ v d ∧ Opn w H Z ψ u e := by
  cases h with
  | cons h t =>
    obtain ⟨u, rfl, h2⟩ := t.one
    exact ⟨_, u, rfl, h, h2⟩
theorem tSrc_sound {src : List E} {k : SrcK} (ih : SXs w sp cl src) {W : WX} {σ : St} {ρ : Env} {H : Hp} {Z : Zn} {φ : Fp} {R : It → Hp → Prop} (g : Good H Z φ) (re : RepE w H Z σ ρ φ)
    (s : SatS w W σ H Z φ k R (evL cl .opd src ρ)) : tSrc w.K (tXs w sp W src) k σ H R := by
  have core : ∀ (Q : List V → Hp → Prop), (∀ q ds items, evL cl .opd src ρ = .ok q → gets q.2 q.1 = some ds → srcItems k ds = some items →
      ∀ vs H1 Z1 χ, Opns w H1 Z1 χ vs ds → (∀ J, Feed w J items H1 Z1 χ → R J H1) → Q vs H1) → tXs w sp W src σ H Q := by
    intro Q hQ
    refine ih W .opd σ ρ H Z φ Q g re ?_
    cases he : evL cl .opd src ρ with
    | stuck => rw [he] at s; exact s.elim
    | exc c ns vs ρ' => rw [he] at s; exact s
    | ok q =>
      rw [he] at s
      obtain ⟨items, hi, s⟩ := s
      rw [Option.bind_eq_some_iff] at hi
      obtain ⟨ds, hd, hi⟩ := hi
      intro vs H1 Z1 φx φ1 s1 g1 vr re1
      obtain ⟨ψ, φ', e, re2, lr⟩ := locked (os := q.1) re1
      refine hQ q ds items he hd hi vs H1 Z1 (Fp.add φx ψ) (opns_of lr (fun a => by simp only [Fp.add_at]; omega) re1 vr hd (fun i r m e' hp => locks_mem hp m e') fun a => by simp only [Fp.add_at]; omega) fun J hJ => ?_
      exact s vs H1 Z1 φx φ1 ψ φ' s1 g1 vr re1 e re2 lr J hJ
  -- what it comes to is known ahead
  cases he : evL cl .opd src ρ with
  | stuck => rw [he] at s; exact s.elim
  | exc c ns vs ρ' =>
    have any : ∀ Q, tXs w sp W src σ H Q := fun Q => core Q fun q ds items h => by rw [he] at h; exact nomatch h
    cases k with
    | seq => exact .inl (any _)
    | rng => exact .inl (any _)
    | enum => exact any _
    | zip => exact any _
    | rev => exact any _
  | ok q =>
    rw [he] at s
    obtain ⟨items, hi, _⟩ := s
    rw [Option.bind_eq_some_iff] at hi
    obtain ⟨ds, hd, hi⟩ := hi
    have fixed : ∀ (Q : List V → Hp → Prop), (∀ vs H1 Z1 χ, Opns w H1 Z1 χ vs ds → (∀ J, Feed w J items H1 Z1 χ → R J H1) → Q vs H1) → tXs w sp W src σ H Q := fun Q hQ => core Q fun q' ds' items' h1 h2 h3 => by
      rw [he] at h1; cases h1
      rw [hd] at h2; cases h2
      rw [hi] at h3; cases h3
      exact hQ
    cases k with
    | seq =>
      replace hi : seqItems ds = some items := hi
      unfold seqItems at hi
      split at hi
      · cases hi
        refine .inl (fixed _ fun vs H1 Z1 χ o hR => ?_)
        obtain ⟨v, rfl, p⟩ := o.one
        obtain ⟨a, ws, rfl, ho⟩ := p.lst
        exact ⟨a, rfl, ⟨ws, SqL.of ho.1⟩, hR _ (feed_list ho)⟩
      · cases hi
        refine .inr (.inl (fixed _ fun vs H1 Z1 χ o hR => ?_))
        obtain ⟨v, rfl, p⟩ := o.one
        obtain ⟨a, ws, rfl, hq, _, rw'⟩ := p.rd.tup
        exact ⟨a, rfl, ⟨ws, hq⟩, hR _ (feed_tup rw')⟩
      · cases hi
        refine .inr (.inr (fixed _ fun vs H1 Z1 χ o hR => ?_))
        obtain ⟨v, rfl, p⟩ := o.one
        exact ⟨_, by rw [p.rd.str], hR _ feed_str⟩
      · exact nomatch hi
    | rng =>
      replace hi : rngItems ds = some items := hi
      unfold rngItems at hi
      split at hi
      · split at hi
        · rename_i j hj
          cases hi
          simp only [small62, Bool.and_eq_true, decide_eq_true_eq] at hj
          refine .inl (fixed _ fun vs H1 Z1 χ o hR => ?_)
          obtain ⟨v, rfl, p⟩ := o.one
          exact ⟨j, by rw [p.rd.int], hj.1, hj.2, hR _ feed_range⟩
        · exact nomatch hi
      · split at hi
        · rename_i i j hj
          cases hi
          simp only [small62, Bool.and_eq_true, decide_eq_true_eq] at hj
          refine .inr (fixed _ fun vs H1 Z1 χ o hR => ?_)
          obtain ⟨v, u, rfl, o1, o2⟩ := o.two
          exact ⟨i, j, by rw [o1.rd.int, o2.rd.int], ⟨hj.1.1, hj.1.2, hj.2.1, hj.2.2⟩, hR _ feed_range⟩
        · exact nomatch hi
      · exact nomatch hi
    | enum =>
      replace hi : enumItems ds = some items := hi
      unfold enumItems at hi
      split at hi
      · cases hi
        refine fixed _ fun vs H1 Z1 χ o hR => ?_
        obtain ⟨v, rfl, p⟩ := o.one
        obtain ⟨a, ws, rfl, ho⟩ := p.lst
        exact ⟨a, ws, rfl, SqL.of ho.1, hR _ (feed_enum ho)⟩
      · exact nomatch hi
    | zip =>
      replace hi : zipItems ds = some items := hi
      unfold zipItems at hi
      split at hi
      · cases hi
        refine fixed _ fun vs H1 Z1 χ o hR => ?_
        obtain ⟨v, u, rfl, o1, o2⟩ := o.two
        obtain ⟨a, ws, rfl, ho⟩ := o1.lst
        obtain ⟨b, us, rfl, ho'⟩ := o2.lst
        exact ⟨a, b, ws, us, rfl, SqL.of ho.1, SqL.of ho'.1, hR _ (feed_zip ho ho')⟩
      · exact nomatch hi
    | rev =>
      replace hi : revItems ds = some items := hi
      unfold revItems at hi
      split at hi
      · cases hi
        refine fixed _ fun vs H1 Z1 χ o hR => ?_
        obtain ⟨v, rfl, p⟩ := o.one
        obtain ⟨a, ws, rfl, ho⟩ := p.lst
        exact ⟨a, ws, rfl, SqL.of ho.1, hR _ (feed_rev ho)⟩
      · exact nomatch hi
theorem wipe_self (own : List Nat) (σ : St) : wipe (wipe σ own) own = wipe σ own := by
  apply List.ext_getElem?
  have key : ∀ (l : List Nat) (τ : St) (k : Nat), (wipe τ l)[k]? = if k ∈ l ∧ k < τ.length then some none else τ[k]? := by
    intro l
    induction l with
    | nil => intro τ k; simp [wipe]
    | cons i l ih =>
      intro τ k
      show ((wipe τ l).set i none)[k]? = _
      rw [List.getElem?_set, ih τ k, wipe_length]
      by_cases q : i = k
      · subst q
        simp only [List.mem_cons, true_or, true_and, if_true]
        split
        · rfl
        · rename_i h
          exact (List.getElem?_eq_none (by omega)).symm
      · rw [if_neg q]
        have : (k ∈ i :: l) ↔ k ∈ l := by simp only [List.mem_cons]; exact ⟨fun z => z.elim (fun e => absurd e.symm q) id, .inr⟩
        simp only [this]
  intro k
  rw [key own (wipe σ own) k, wipe_length]
  split
  · rename_i h
    rw [key own σ k, if_pos h]
  · rfl
theorem restored {own : List Nat} {H : Hp} {Z : Zn} {σ : St} {ρ ρ0 : Env} : ∀ {φ : Fp}, RepE w H Z σ ρ φ → (∀ i ∈ own, ∀ r, ρ0.gt i = some r → ∃ d v, r = .p d ∧ σ[i]? = some (some v) ∧ Rep w H Z v d) →
    ∃ φ', (∀ a, φ' a ≤ φ a) ∧ RepE w H Z σ (restore ρ ρ0 own) φ' := by
  induction own with
  | nil => intro φ h _; exact ⟨φ, fun _ => Nat.le_refl _, h⟩
  | cons i own ih =>
    intro φ h hs
    obtain ⟨f, l, re⟩ := ih h fun j hj => hs j (List.mem_cons_of_mem _ hj)
    cases e : ρ0.gt i with
    | none =>
      obtain ⟨f', l', re'⟩ := re.drop i
      exact ⟨f', fun a => Nat.le_trans (l' a) (l a), by rw [restore, e]; exact re'⟩
    | some r =>
      obtain ⟨d, v, rfl, hv, rv⟩ := hs i List.mem_cons_self r e
      obtain ⟨f', l', re'⟩ := re.back (.p rv) hv
      exact ⟨f', fun a => by have := l' a; have := l a; simp only [Fp.zero_at] at *; omega, by rw [restore, e]; exact re'⟩
theorem sx_comp {own : List Nat} {k : SrcK} {src : List E} {p : Pat} {conds : List E} {elt : E} (isrc : SXs w sp cl src) (ic : SCs w sp cl conds) (ie : SX w sp cl elt) : SX w sp cl (.comp own k src p conds elt) := by
  intro W m σ ρ H Z φ Q g re s
  refine tSrc_sound (W := W) isrc g re ?_
  simp only [ev] at s
  cases he : evL cl .opd src ρ with
  | stuck => rw [he] at s; exact s.elim
  | exc c ns vs ρ' => rw [he] at s; exact s
  | ok q =>
    rw [he] at s
    simp only [Res.bind] at s
    split at s
    · exact s.elim
    · rename_i items hi
      refine ⟨items, hi, fun vs H1 Z1 φx φ1 ψ φ' s1 g1 vr re1 e1 re2 lr J hJ D hD => ?_⟩
      split at s
      · rename_i hp
        simp only [Bool.and_eq_true] at hp
        split at s
        · rename_i dsAll ρend hc
          split at s
          · rename_i hlen
            subst e1
            obtain ⟨G, Y, g0, gk, wk, gi⟩ := hJ
            -- the invariant
            refine lc_it wk (fun i Hc => ∃ (Zc : Zn) (φc : Fp) (ρi : Env) (acc : List V) (accD rest : List VB.D), Good Hc Zc (Fp.add φc (Fp.add (Fp.one D) (Fp.add φx ψ))) ∧
              Step H1 Z1 (Fp.add φx (Fp.add ψ φ')) Hc Zc (Fp.add φc (Fp.add (Fp.one D) (Fp.add φx ψ))) ∧ RepE w Hc Zc (wipe σ own) (wipeE ρi own) φc ∧ LR w Hc Zc σ (locks q.2 q.1) ψ ∧ G Hc Zc ∧ Hc D = some (.lst acc) ∧
              Reps w Hc Zc acc accD ∧ compL own p (fun ρ => evTs cl conds ρ) (fun ρ => ev cl .esc elt ρ) (items.drop i) ρi = .ok (rest, ρend) ∧ accD ++ rest = dsAll) ?_ ?_ ?_ ?_
            · -- ahead of the first turn
              obtain ⟨f0, l0, re3⟩ := re2.wipe (own := own)
              have gN := g1.newO (o := .lst []) hD
              have st : Step H1 Z1 (Fp.add φx (Fp.add ψ φ')) (upd H1 D (.lst [])) Z1 (Fp.add (Fp.one D) (Fp.add φx (Fp.add ψ φ'))) := Step.newO hD
              have gr : Step H1 Z1 (Fp.add φx ψ) (upd H1 D (.lst [])) Z1 (Fp.add (Fp.one D) (Fp.add φx ψ)) := Step.newO hD
              have g1ψ : Good H1 Z1 (Fp.add Fp.zero (Fp.add φx ψ)) := g1.le fun a => by simp only [Fp.add_at, Fp.zero_at]; omega
              have sz : Step H1 Z1 Fp.zero (upd H1 D (.lst [])) Z1 (Fp.add (Fp.one D) Fp.zero) := Step.newO hD
              refine ⟨Z1, f0, _, [], [], dsAll, gN.le fun a => by have := l0 a; simp only [Fp.add_at]; omega, st.trans (Step.le fun a => by have := l0 a; simp only [Fp.add_at]; omega), re3.new hD fun _ z => z,
                lr.frame (φ := Fp.zero) sz (g1.le fun a => by simp only [Fp.add_at, Fp.zero_at]; omega), gk _ _ Fp.zero _ _ _ g0 g1ψ sz, upd_same, .nil, hc, rfl⟩
            · exact fun i Hc _ ⟨Zc, _, _, _, _, _, _, _, _, _, hG, _⟩ => ⟨Zc, hG⟩
            · -- one turn
              rintro i x Hc H' hi' ⟨Zc, φc, ρi, acc, accD, rest, gC, sC, reC, lrC, hG, hDc, hacc, hcl, hall⟩ hy
              have hit : items[i]? = some items[i] := List.getElem?_eq_getElem hi'
              obtain ⟨Z2, gr, rx⟩ := gi i Hc Zc x H' items[i] hG hy hit
              have hdrop : items.drop i = items[i] :: items.drop (i + 1) := List.drop_eq_getElem_cons hi'
              rw [hdrop] at hcl
              simp only [compL] at hcl
              split at hcl
              · exact nomatch hcl
              · rename_i ρ1 hb
                have g2 : Good H' Z2 (Fp.add φc (Fp.add (Fp.one D) (Fp.add φx ψ))) := gr.good gC
                have s2 : Step H1 Z1 (Fp.add φx (Fp.add ψ φ')) H' Z2 (Fp.add φc (Fp.add (Fp.one D) (Fp.add φx ψ))) := sC.trans gr.step
                have reC2 : RepE w H' Z2 (wipe σ own) (wipeE ρi own) φc := reC.frame (φ := Fp.zero) gr.step (gC.le fun a => by simp only [Fp.add_at, Fp.zero_at]; omega)
                refine (gP_sound (W := W) (sizeOf p)).1 p (Nat.le_refl _) x items[i] (wipe σ own) (wipeE ρi own) ρ1 φc _ reC2 rx hb fun σ2 φ2 l2 reP hw _ => ?_
                have hw2 : wipe σ2 own = wipe σ own := by rw [hw own hp.2, wipe_self]
                refine ⟨hw2, ?_⟩
                have gP2 : Good H' Z2 (Fp.add φ2 (Fp.add (Fp.one D) (Fp.add φx ψ))) := g2.le fun a => by have := l2 a; simp only [Fp.add_at]; omega
                have sP2 : Step H1 Z1 (Fp.add φx (Fp.add ψ φ')) H' Z2 (Fp.add φ2 (Fp.add (Fp.one D) (Fp.add φx ψ))) := s2.trans (Step.le fun a => by have := l2 a; simp only [Fp.add_at]; omega)
                have hD2 : H' D = some (.lst acc) := gr.keep D _ hDc
                have hacc2 : Reps w H' Z2 acc accD := hacc.kept gr.kept
                have lr2 : LR w H' Z2 σ (locks q.2 q.1) ψ := lrC.frame (φ := Fp.zero) gr.step (gC.le fun a => by simp only [Fp.add_at, Fp.zero_at]; omega)
                have hG2 : G H' Z2 := gk _ _ Fp.zero _ _ _ hG (gC.le fun a => by simp only [Fp.add_at, Fp.zero_at]; omega) gr.step
                refine ic W0 σ2 ρ1 H' Z2 φ2 _ gP2.l reP ?_
                -- what a step from here leaves
                have after : ∀ {H3 : Hp} {Z3 : Zn} {φ3 : Fp}, Step H' Z2 φ2 H3 Z3 φ3 → Good H3 Z3 φ3 → Good H3 Z3 (Fp.add φ3 (Fp.add (Fp.one D) (Fp.add φx ψ))) ∧ Step H1 Z1 (Fp.add φx (Fp.add ψ φ')) H3 Z3 (Fp.add φ3 (Fp.add (Fp.one D) (Fp.add φx ψ))) ∧
                    H3 D = some (.lst acc) ∧ Reps w H3 Z3 acc accD ∧ LR w H3 Z3 σ (locks q.2 q.1) ψ ∧ G H3 Z3 := by
                  intro H3 Z3 φ3 s3 g3
                  have d0 : φ2 D = 0 := by have := gP2.u D; simp only [Fp.add_at, Fp.one_at] at this; omega
                  exact ⟨gP2.frame s3 g3, sP2.trans s3.frame, s3.keep D _ hD2 d0, hacc2.kept (s3.kept gP2.l), lr2.frame s3 (gP2.le fun a => by simp only [Fp.add_at]; omega), gk _ _ φ2 _ _ _ hG2 (gP2.le fun a => by simp only [Fp.add_at]; omega) s3⟩
                split at hcl
                · rename_i ρ2 hcond
                  rw [hcond]
                  intro H3 Z3 φ3 s3 g3 re3
                  refine iteT ?_
                  obtain ⟨a1, a2, a3, a4, a5, a6⟩ := after s3 g3
                  refine ie W0 .esc σ2 ρ2 H3 Z3 φ3 _ g3 re3 ?_
                  split at hcl
                  · rename_i r ρ3 helt
                    rw [helt]
                    intro y H4 Z4 φr φ4 s4 g4 ry re4
                    obtain ⟨b1, b2, b3, b4, b5, b6⟩ := after (s3.trans s4) g4
                    obtain ⟨pr, hpr, hcl⟩ := bind_ok hcl
                    cases hcl
                    have hlt : accD.length < dsAll.length := by
                      rw [← hall]; simp only [List.length_append, List.length_cons]; omega
                    refine ⟨acc, b3, by rw [hacc.len]; omega, ?_⟩
                    -- the element is plain from now on, the list longer
                    have fr := (ry.isEsc rfl).freeze
                    have b1' : Good H4 Z4 (Fp.add φr (Fp.add φ4 (Fp.add (Fp.one D) (Fp.add φx ψ)))) := b1.le fun a => by simp only [Fp.add_at]; omega
                    have g5 := b1'.freeze
                    have w1 : (Fp.add φ4 (Fp.add (Fp.one D) (Fp.add φx ψ))) D ≠ 0 := by simp only [Fp.add_at, Fp.one_at]; omega
                    have nz : ∀ b, (Z4 b ∨ φr b ≠ 0) → b ≠ D := fun b z q => by subst q; exact w1 (g5.d _ z)
                    have kz : Kept H4 Z4 H4 (fun a => Z4 a ∨ φr a ≠ 0) := ⟨fun _ _ _ h => h, fun _ z => .inl z⟩
                    have kw : Kept H4 (fun a => Z4 a ∨ φr a ≠ 0) (upd H4 D (.lst (acc ++ [y]))) (fun a => Z4 a ∨ φr a ≠ 0) := ⟨fun b o z h => by rw [upd_ne (nz b z)]; exact h, fun _ z => z⟩
                    have d4 : φ4 D = 0 := by have := g5.u D; simp only [Fp.add_at, Fp.one_at] at this; omega
                    have dψ : φx D + ψ D = 0 := by have := g5.u D; simp only [Fp.add_at, Fp.one_at] at this; omega
                    obtain ⟨f5, l5, re5⟩ := re4.wipe (own := own)
                    have sW : Step H4 (fun a => Z4 a ∨ φr a ≠ 0) (Fp.add φ4 (Fp.one D)) (upd H4 D (.lst (acc ++ [y]))) (fun a => Z4 a ∨ φr a ≠ 0) (Fp.add φ4 (Fp.one D)) := Step.write (by simp only [Fp.add_at, Fp.one_at]; omega)
                    have sWo : Step H4 (fun a => Z4 a ∨ φr a ≠ 0) (Fp.one D) (upd H4 D (.lst (acc ++ [y]))) (fun a => Z4 a ∨ φr a ≠ 0) (Fp.one D) := Step.write (by rw [Fp.one_at]; exact Nat.one_ne_zero)
                    have gW : Good (upd H4 D (.lst (acc ++ [y]))) (fun a => Z4 a ∨ φr a ≠ 0) (Fp.add φ4 (Fp.add (Fp.one D) (Fp.add φx ψ))) := g5.write
                    have sF : Step H4 Z4 φr H4 (fun a => Z4 a ∨ φr a ≠ 0) Fp.zero := by
                      have := Step.freeze (H := H4) (Z := Z4) (φ := φr) (ψ := Fp.zero)
                      rw [Fp.add_zero] at this; exact this
                    have b5' : LR w H4 (fun a => Z4 a ∨ φr a ≠ 0) σ (locks q.2 q.1) ψ := b5.frame (φ := φr) sF (b1'.le fun a => by simp only [Fp.add_at]; omega)
                    have b6' : G H4 (fun a => Z4 a ∨ φr a ≠ 0) := gk _ _ φr _ _ _ b6 (b1'.le fun a => by simp only [Fp.add_at]; omega) sF
                    refine ⟨_, f5, ρ3, acc ++ [y], accD ++ [r.read], pr.1, gW.le fun a => by have := l5 a; simp only [Fp.add_at]; omega, ?_, ?_, b5'.frame (φ := Fp.one D) sWo (g5.le fun a => by simp only [Fp.add_at]; omega),
                      gk _ _ (Fp.one D) _ _ _ b6' (g5.le fun a => by simp only [Fp.add_at]; omega) sWo, upd_same, ((b4.kept kz).kept kw).append (.cons (fr.kept kw) .nil), hpr, by rw [List.append_assoc]; exact hall⟩
                    · exact (((b2.trans (Step.le fun a => by simp only [Fp.add_at]; omega)).trans (Step.freeze (φ := φr) (ψ := Fp.add φ4 (Fp.add (Fp.one D) (Fp.add φx ψ))))).trans (Step.write w1)).trans (Step.le fun a => by have := l5 a; simp only [Fp.add_at]; omega)
                    · rw [← hw2]
                      have l5D : f5 D = 0 := by have := l5 D; omega
                      exact re5.keptZ ⟨fun b o z h => by rw [upd_ne (nz b (.inl z))]; exact h, fun _ z => .inl z⟩ fun b o z h => by rw [upd_ne (fun q => by subst q; exact z l5D)]; exact h
                  · exact nomatch hcl
                · rename_i ρ2 hcond
                  rw [hcond]
                  intro H3 Z3 φ3 s3 g3 re3
                  refine iteF ?_
                  obtain ⟨a1, a2, a3, a4, a5, a6⟩ := after s3 g3
                  obtain ⟨f5, l5, re5⟩ := re3.wipe (own := own)
                  refine ⟨Z3, f5, ρ2, acc, accD, rest, a1.le fun a => by have := l5 a; simp only [Fp.add_at]; omega, a2.trans (Step.le fun a => by have := l5 a; simp only [Fp.add_at]; omega), ?_, a5, a6, a3, a4, hcl, hall⟩
                  rw [← hw2]; exact re5
                · exact nomatch hcl
            · -- behind the last one
              rintro Hc ⟨Zc, φc, ρi, acc, accD, rest, gC, sC, reC, lrC, hG, hDc, hacc, hcl, hall⟩
              rw [List.drop_length] at hcl
              cases hcl
              rw [List.append_nil] at hall
              subst hall
              have kc := sC.kept g1
              obtain ⟨f6, l6, re6⟩ := restored (w := w) (own := own) (ρ0 := q.2) reC.unwipe (fun i hi r hr => by
                have hpi := hp.1
                simp only [isPures, List.all_eq_true] at hpi
                have h1 := hpi i hi
                rw [hr] at h1
                obtain ⟨v, f1, f2, b1, b2, _, _⟩ := re1.at hr
                cases b2 with
                | p b2 => exact ⟨_, v, rfl, b1, b2.kept kc⟩
                | l _ _ => exact nomatch h1
                | m _ _ => exact nomatch h1)
              obtain ⟨f7, l7, re7⟩ := unlocked lrC re6
              exact s (.ref D) Hc Zc (Fp.one D) f7 ((s1.trans sC).trans (Step.le fun a => by have := l6 a; have := l7 a; simp only [Fp.add_at]; omega)) (gC.le fun a => by have := l6 a; have := l7 a; simp only [Fp.add_at]; omega) (.val (.l hDc hacc)) re7
          · exact s.elim
        · exact s.elim
      · exact s.elim
end
end VB
set_option Elab.async false
set_option linter.all false
set_option maxRecDepth 100000
set_option maxHeartbeats 1000000
/-! statements -/
namespace VB
open PySem PySem.Spec L2
open PyProof.Rows hiding St

section
variable {w : Wd} {sp : Str → Sp} {cl : Cl}
mutual
theorem sx_all (hc : ClOk w sp cl) : ∀ e : E, SX w sp cl e ∧ ST w sp cl e
  | .c d => ⟨sx_c, st_of sx_c fun _ => rfl⟩
  | .v i => ⟨sx_v, st_of sx_v fun _ => rfl⟩
  | .mov i => ⟨sx_mov, st_of sx_mov fun _ => rfl⟩
  | .frz i => ⟨sx_frz, st_of sx_frz fun _ => rfl⟩
  | .lend i => ⟨sx_lend, st_of sx_lend fun _ => rfl⟩
  | .tup es => have h := sx_tup (sxs_all hc es); ⟨h, st_of h fun _ => rfl⟩
  | .lst es => have h := sx_lst (sxs_all hc es); ⟨h, st_of h fun _ => rfl⟩
  | .dic ks es => have h := sx_dic (ks := ks) (sxs_all hc es); ⟨h, st_of h fun _ => rfl⟩
  | .op o es => have h := sx_op (o := o) (sxs_all hc es); ⟨h, st_of h fun _ => rfl⟩
  | .and a b => ⟨sx_and (sx_all hc a).1 (sx_all hc b).1, st_and (sx_all hc a).2 (sx_all hc b).2⟩
  | .or a b => ⟨sx_or (sx_all hc a).1 (sx_all hc b).1, st_or (sx_all hc a).2 (sx_all hc b).2⟩
  | .not a => ⟨sx_not (sx_all hc a).1, st_not (sx_all hc a).2⟩
  | .ite c a b => have h := sx_ite (sx_all hc c).2 (sx_all hc a).1 (sx_all hc b).1; ⟨h, st_of h fun _ => rfl⟩
  | .chain o o' a b c => have h := sx_chain (o := o) (o' := o') (sx_all hc a).1 (sx_all hc b).1 (sx_all hc c).1; ⟨h, st_of h fun _ => rfl⟩
  | .call f es => have h := sx_call hc (f := f) (sxs_all hc es); ⟨h, st_of h fun _ => rfl⟩
  | .mut m i es => have h := sx_mut (m' := m) (i := i) (sxs_all hc es); ⟨h, st_of h fun _ => rfl⟩
  | .comp own k src p conds elt => have h := sx_comp (own := own) (k := k) (p := p) (sxs_all hc src) (scs_all hc conds) (sx_all hc elt).1; ⟨h, st_of h fun _ => rfl⟩
theorem sxs_all (hc : ClOk w sp cl) : ∀ es : List E, SXs w sp cl es
  | [] => sxs_nil
  | e :: es => sxs_cons (sx_all hc e).1 (sxs_all hc es)
theorem scs_all (hc : ClOk w sp cl) : ∀ es : List E, SCs w sp cl es
  | [] => scs_nil
  | e :: es => match es with
    | [] => scs_one (sx_all hc e).2
    | _ :: _ => scs_two
end

def Fixed (fx : List Nat) (σ σ' : St) : Prop := ∀ i ∈ fx, σ'[i]? = σ[i]?
def SatO (w : Wd) (W : WX) (fx : List Nat) (σ : St) (D : Ends) (H : Hp) (Z : Zn) (φ : Fp) : Out → Prop
  | .nx ρ' => ∀ σ' H' Z' φ', Step H Z φ H' Z' φ' → Good H' Z' φ' → RepE w H' Z' σ' ρ' φ' → Fixed fx σ σ' → D.nx σ' H'
  | .bk ρ' => ∀ σ' H' Z' φ', Step H Z φ H' Z' φ' → Good H' Z' φ' → RepE w H' Z' σ' ρ' φ' → Fixed fx σ σ' → D.bk σ' H'
  | .ct ρ' => ∀ σ' H' Z' φ', Step H Z φ H' Z' φ' → Good H' Z' φ' → RepE w H' Z' σ' ρ' φ' → Fixed fx σ σ' → D.ct σ' H'
  | .ret r ρ' => ∀ v σ' H' Z' φr φ', Step H Z φ H' Z' (Fp.add φr φ') → Good H' Z' (Fp.add φr φ') → RepR w H' Z' v r φr → RepE w H' Z' σ' ρ' φ' → Fixed fx σ σ' → D.rt v H'
  | .exc c ns vs ρ' => ∀ cls d σ' H' Z' φ', Step H Z φ H' Z' φ' → Good H' Z' φ' → RepE w H' Z' σ' ρ' φ' → Fixed fx σ σ' → ExcRep w H' Z' c ns vs cls d → W cls d σ' H'
  | .stuck => False
def SS (w : Wd) (sp : Str → Sp) (cl : Cl) (s : S) : Prop := ∀ (W : WX) (fx : List Nat) (σ : St) (ρ : Env) (H : Hp) (Z : Zn) (φ : Fp) (D : Ends), Good H Z φ → RepE w H Z σ ρ φ → SatO w W fx σ D H Z φ (evS cl fx s ρ) → tS w sp W s D σ H
def SSs (w : Wd) (sp : Str → Sp) (cl : Cl) (ss : List S) : Prop := ∀ (W : WX) (fx : List Nat) (σ : St) (ρ : Env) (H : Hp) (Z : Zn) (φ : Fp) (D : Ends), Good H Z φ → RepE w H Z σ ρ φ → SatO w W fx σ D H Z φ (evSs cl fx ss ρ) → tSs w sp W ss D σ H
theorem Fixed.refl {fx : List Nat} {σ : St} : Fixed fx σ σ := fun _ _ => rfl
theorem Fixed.trans {fx : List Nat} {σ σ1 σ2 : St} (a : Fixed fx σ σ1) (b : Fixed fx σ1 σ2) : Fixed fx σ σ2 := fun i hi => (b i hi).trans (a i hi)
theorem free_ne {fx : List Nat} {i : Nat} (h : free fx i = true) {j : Nat} (hj : j ∈ fx) : j ≠ i := fun z => by
  subst z
  simp only [free, Bool.not_eq_true', List.contains_eq_mem, decide_eq_false_iff_not] at h
  exact h hj
theorem Fixed.set {fx : List Nat} {σ : St} {i : Nat} {x : Option V} (h : free fx i = true) : Fixed fx σ (σ.set i x) := fun j hj => List.getElem?_set_ne (Ne.symm (free_ne h hj))
theorem SatO.step {W : WX} {fx : List Nat} {σ σ1 : St} {D : Ends} {H H1 : Hp} {Z Z1 : Zn} {φ φ1 : Fp} {o : Out} (s : Step H Z φ H1 Z1 φ1) (f : Fixed fx σ σ1) (h : SatO w W fx σ D H Z φ o) : SatO w W fx σ1 D H1 Z1 φ1 o := by
  cases o with
  | nx ρ' => exact fun σ' H' Z' φ' s' g re f' => h σ' H' Z' φ' (s.trans s') g re (f.trans f')
  | bk ρ' => exact fun σ' H' Z' φ' s' g re f' => h σ' H' Z' φ' (s.trans s') g re (f.trans f')
  | ct ρ' => exact fun σ' H' Z' φ' s' g re f' => h σ' H' Z' φ' (s.trans s') g re (f.trans f')
  | ret r ρ' => exact fun v σ' H' Z' φr φ' s' g rr re f' => h v σ' H' Z' φr φ' (s.trans s') g rr re (f.trans f')
  | exc c ns vs ρ' => exact fun cls d σ' H' Z' φ' s' g re f' ex => h cls d σ' H' Z' φ' (s.trans s') g re (f.trans f') ex
  | stuck => exact h
/-- a name stored, wherever it stands -/
theorem RepE.sto {H : Hp} {Z : Zn} {σ : St} {ρ : Env} {φ φ1 : Fp} {i : Nat} {v : V} {r : R} (h : RepE w H Z σ ρ φ) (hr : RepR w H Z v r φ1) :
    ∃ φ', (∀ a, φ' a ≤ φ1 a + φ a) ∧ RepE w H Z (σ.set i (some v)) (ρ.set i (some r)) φ' := by
  by_cases hi : i < σ.length
  · exact h.put hr hi
  · refine ⟨φ, fun a => by omega, ?_⟩
    rw [List.set_eq_of_length_le (by omega), List.set_eq_of_length_le (by rw [← h.length]; omega)]
    exact h
/-- an expression, then on -/
theorem SatV.ofO {W : WX} {fx : List Nat} {σ : St} {D : Ends} {H : Hp} {Z : Zn} {φ : Fp} {Q : VK} {r : Res (Val × Env)} {f : Val × Env → Out} (s : SatO w W fx σ D H Z φ (Out.ofRes r f))
    (k : ∀ q, r = .ok q → SatO w W fx σ D H Z φ (f q) → ∀ v H' Z' φx φ', Step H Z φ H' Z' (Fp.add φx φ') → Good H' Z' (Fp.add φx φ') → VR w H' Z' σ v q.1 φx → RepE w H' Z' σ q.2 φ' → Q v H') : SatV w W σ H Z φ Q r := by
  cases r with
  | ok q => exact k q rfl s
  | exc c ns vs ρ' => exact fun cls d H' Z' φ' s' g re ex => s cls d σ H' Z' φ' s' g re Fixed.refl ex
  | stuck => exact s.elim
theorem SatB.ofO {W : WX} {fx : List Nat} {σ : St} {D : Ends} {H : Hp} {Z : Zn} {φ : Fp} {Q : Bool → Hp → Prop} {r : Res (Bool × Env)} {f : Bool × Env → Out} (s : SatO w W fx σ D H Z φ (Out.ofRes r f))
    (k : ∀ q, r = .ok q → SatO w W fx σ D H Z φ (f q) → ∀ H' Z' φ', Step H Z φ H' Z' φ' → Good H' Z' φ' → RepE w H' Z' σ q.2 φ' → Q q.1 H') : SatB w W σ H Z φ Q r := by
  cases r with
  | ok q => exact k q rfl s
  | exc c ns vs ρ' => exact fun cls d H' Z' φ' s' g re ex => s cls d σ H' Z' φ' s' g re Fixed.refl ex
  | stuck => exact s.elim
theorem ss_set (hc : ClOk w sp cl) {i : Nat} {e : E} : SS w sp cl (.set i e) := by
  intro W fx σ ρ H Z φ D g re s
  simp only [evS] at s
  split at s
  · rename_i hf
    refine (sx_all hc e).1 W .esc σ ρ H Z φ _ g re (SatV.ofO s fun q hq s v H1 Z1 φx φ1 s1 g1 vr re1 => ?_)
    obtain ⟨r, hr⟩ := (ev_val cl e .esc ρ q.1 q.2 hq).1 rfl
    obtain ⟨φ', l, re'⟩ := re1.sto (i := i) (vr.isEsc hr)
    rw [hr] at s
    exact s _ H1 Z1 φ' (s1.trans (Step.le fun a => by have := l a; simp only [Fp.add_at]; omega)) (g1.le fun a => by have := l a; simp only [Fp.add_at]; omega) re' (Fixed.set hf)
  · exact s.elim
theorem freePs_mem {fx : List Nat} : ∀ {ps : List Pat} {i : Nat}, freePs fx ps = true → i ∈ fx → freePs [i] ps = true := by
  have both : ∀ n, (∀ p : Pat, sizeOf p ≤ n → ∀ i, freeP fx p = true → i ∈ fx → freeP [i] p = true) ∧ ∀ ps : List Pat, sizeOf ps ≤ n → ∀ i, freePs fx ps = true → i ∈ fx → freePs [i] ps = true := by
    intro n
    induction n with
    | zero =>
      refine ⟨fun p h => ?_, fun ps h => ?_⟩
      · cases p with
        | s i => simp only [Pat.s.sizeOf_spec] at h; omega
        | t ps => simp only [Pat.t.sizeOf_spec] at h; omega
      · cases ps with
        | nil => simp only [List.nil.sizeOf_spec] at h; omega
        | cons p ps => simp only [List.cons.sizeOf_spec] at h; omega
    | succ n ih =>
      refine ⟨fun p h i hf hi => ?_, fun ps h i hf hi => ?_⟩
      · cases p with
        | s j =>
          have := free_ne (show free fx j = true from hf) hi
          show free [i] j = true
          simp only [free, Bool.not_eq_true', List.contains_eq_mem, List.mem_singleton, decide_eq_false_iff_not]
          exact fun z => this z.symm
        | t ps => simp only [Pat.t.sizeOf_spec] at h; exact ih.2 ps (by omega) i hf hi
      · cases ps with
        | nil => rfl
        | cons p ps =>
          simp only [List.cons.sizeOf_spec] at h
          simp only [freePs, Bool.and_eq_true] at hf ⊢
          exact ⟨ih.1 p (by omega) i hf.1 hi, ih.2 ps (by omega) i hf.2 hi⟩
  exact fun {ps i} h hi => (both (sizeOf ps)).2 ps (Nat.le_refl _) i h hi
theorem freeP_mem {fx : List Nat} {p : Pat} {i : Nat} (h : freeP fx p = true) (hi : i ∈ fx) : freeP [i] p = true := by
  have := freePs_mem (fx := fx) (ps := [p]) (i := i) (by simp [freePs, h]) hi
  simpa [freePs] using this
theorem ss_setP (hc : ClOk w sp cl) {ps : List Pat} {e : E} : SS w sp cl (.setP ps e) := by
  intro W fx σ ρ H Z φ D g re s
  simp only [evS] at s
  split at s
  · rename_i hf
    refine (sx_all hc e).1 W .esc σ ρ H Z φ _ g re (SatV.ofO s fun q hq s v H1 Z1 φx φ1 s1 g1 vr re1 => ?_)
    obtain ⟨x, ρ1⟩ := q
    dsimp only at s vr re1
    split at s
    · rename_i xs
      split at s
      · rename_i ρ' hb
        cases vr with
        | val vr =>
          cases vr with
          | p vr =>
            refine (gP_sound (W := W) (sizeOf (Pat.t ps))).1 (.t ps) (Nat.le_refl _) v (.tup xs) σ ρ1 ρ' φ1 D.nx re1 vr hb fun σ' φ' l re' _ h2 => ?_
            exact s σ' H1 Z1 φ' (s1.trans (Step.le fun a => by have := l a; simp only [Fp.add_at]; omega)) (g1.le fun a => by have := l a; simp only [Fp.add_at]; omega) re' fun i hi => h2 i (freePs_mem hf hi)
      · exact s.elim
    · exact s.elim
  · exact s.elim
theorem ss_par (hc : ClOk w sp cl) {i j : Nat} {a b : E} : SS w sp cl (.par i j a b) := by
  intro W fx σ ρ H Z φ D g re s
  simp only [evS] at s
  split at s
  · rename_i hf
    simp only [Bool.and_eq_true] at hf
    simp only [tS, tPar]
    refine sxs_all hc [a, b] W .esc σ ρ H Z φ _ g re ?_
    have e2 : evL cl .esc [a, b] ρ = (ev cl .esc a ρ).bind fun q => (ev cl .esc b q.2).bind fun q' => .ok ([q.1, q'.1], q'.2) := by
      simp only [evL]
      cases ev cl .esc a ρ with
      | ok q =>
        simp only [Res.bind]
        cases ev cl .esc b q.2 <;> rfl
      | _ => rfl
    rw [e2]
    cases ha : ev cl .esc a ρ with
    | stuck => rw [ha] at s; exact s.elim
    | exc c ns vs ρ' => rw [ha] at s; exact fun cls d H' Z' φ' s' g' re' ex => s cls d σ H' Z' φ' s' g' re' Fixed.refl ex
    | ok q =>
      rw [ha] at s
      simp only [Res.bind, Out.ofRes] at s ⊢
      cases hb : ev cl .esc b q.2 with
      | stuck => rw [hb] at s; exact s.elim
      | exc c ns vs ρ' => rw [hb] at s; exact fun cls d H' Z' φ' s' g' re' ex => s cls d σ H' Z' φ' s' g' re' Fixed.refl ex
      | ok q' =>
        rw [hb] at s
        intro vs H1 Z1 φx φ1 s1 g1 vr re1
        obtain ⟨r, hr⟩ := (ev_val cl a .esc ρ q.1 q.2 ha).1 rfl
        obtain ⟨r', hr'⟩ := (ev_val cl b .esc q.2 q'.1 q'.2 hb).1 rfl
        cases vr with
        | @cons v _ vs _ f1 f2 v1 vr =>
          cases vr with
          | @cons u _ vs _ f3 f4 v2 vr =>
            cases vr
            obtain ⟨φ2, l2, re2⟩ := re1.sto (i := i) (v1.isEsc hr)
            obtain ⟨φ3, l3, re3⟩ := re2.sto (i := j) (v2.isEsc hr')
            have s : SatO w W fx σ D H Z φ (.nx ((List.set q'.2 i (some q.1.r)).set j (some q'.1.r))) := s
            rw [hr, hr'] at s
            exact ⟨v, u, rfl, s _ H1 Z1 φ3 (s1.trans (Step.le fun a => by have := l2 a; have := l3 a; simp only [Fp.add_at]; omega)) (g1.le fun a => by have := l2 a; have := l3 a; simp only [Fp.add_at]; omega) re3 ((Fixed.set hf.1).trans (Fixed.set hf.2))⟩
  · exact s.elim
theorem ss_aug (hc : ClOk w sp cl) {o : BOp} {i : Nat} {e : E} : SS w sp cl (.aug o i e) := by
  intro W fx σ ρ H Z φ D g re s
  simp only [evS] at s
  split at s
  · rename_i hf
    split at s
    · rename_i x hx
      obtain ⟨v, f1, f2, e1, e2, e3, e4⟩ := re.at hx
      cases e2 with
      | p e2 =>
        cases e2
        refine ⟨.int x, e1, (sx_all hc e).1 W .esc σ ρ H Z φ _ g re (SatV.ofO s fun q hq s v H1 Z1 φx φ1 s1 g1 vr re1 => ?_)⟩
        obtain ⟨y, ρ1⟩ := q
        dsimp only at s vr re1
        split at s
        · rename_i y
          cases vr with
          | val vr =>
            cases vr with
            | p vr =>
              cases vr
              have fin : ∀ z : Int, SatO w W fx σ D H Z φ (.nx (ρ1.set i (some (.p (.int z))))) → D.nx (σ.set i (some (.int z))) H1 := fun z s => by
                obtain ⟨φ', l, re'⟩ := re1.sto (i := i) (RepR.p (Rep.int z))
                exact s _ H1 Z1 φ' (s1.trans (Step.le fun a => by have := l a; simp only [Fp.add_at, Fp.zero_at] at *; omega)) (g1.le fun a => by have := l a; simp only [Fp.add_at, Fp.zero_at] at *; omega) re' (Fixed.set hf)
              cases o with
              | add => exact ⟨x, y, rfl, rfl, fin _ s⟩
              | sub => exact ⟨x, y, rfl, rfl, fin _ s⟩
              | _ => exact s.elim
        · exact s.elim
    · exact s.elim
  · exact s.elim
theorem storeD_some {r r' : R} {kd d : VB.D} (h : storeD r kd d = some r') : ∃ xs k j, r = .l xs ∧ kd = .int k ∧ ixN xs.length k = some j ∧ r' = .l (xs.set j d) := by
  unfold storeD at h
  split at h
  · rw [Option.map_eq_some_iff] at h
    obtain ⟨j, hj, rfl⟩ := h
    exact ⟨_, _, j, rfl, rfl, hj, rfl⟩
  · exact nomatch h
theorem ss_store (hc : ClOk w sp cl) {i : Nat} {k e : E} : SS w sp cl (.store i k e) := by
  intro W fx σ ρ H Z φ D g re s
  simp only [evS] at s
  split at s
  · exact s.elim
  · rename_i hL
    obtain ⟨xs0, hx0⟩ : ∃ xs, ρ.gt i = some (.l xs) := by
      cases h : ρ.gt i with
      | none => rw [h] at hL; exact absurd rfl hL
      | some r =>
        cases r with
        | l xs => exact ⟨xs, rfl⟩
        | _ => rw [h] at hL; exact absurd rfl hL
    obtain ⟨ov, f1, f2, hov, _⟩ := re.at hx0
    refine (sx_all hc e).1 W .esc σ ρ H Z φ _ g re (SatV.ofO s fun q hq s v H1 Z1 φx φ1 s1 g1 vr re1 => ?_)
    obtain ⟨r, hr⟩ := (ev_val cl e .esc ρ q.1 q.2 hq).1 rfl
    have g1' : Good H1 Z1 (Fp.add φ1 φx) := by rw [Fp.add_comm]; exact g1
    refine ⟨ov, hov, (sx_all hc k).1 W .opd σ q.2 H1 Z1 φ1 _ g1.r re1 ?_⟩
    cases hk : ev cl .opd k q.2 with
    | stuck => rw [hk] at s; exact s.elim
    | exc c ns vs ρ' =>
      rw [hk] at s
      exact fun cls d H2 Z2 φ2 s2 g2 re2 ex => s cls d σ H2 Z2 φ2 (s1.trans (by rw [Fp.add_comm]; exact s2.dropR)) g2 re2 Fixed.refl ex
    | ok q' =>
      rw [hk] at s
      simp only [Out.ofRes] at s
      intro kv H2 Z2 φk φ2 s2 g2 kvr re2
      have g3 : Good H2 Z2 (Fp.add (Fp.add φk φ2) φx) := g1'.frame s2 g2
      have v2 := vr.frame g1' s2
      rw [hr] at v2
      have s12 : Step H Z φ H2 Z2 (Fp.add (Fp.add φk φ2) φx) := s1.trans (by rw [Fp.add_comm φx φ1]; exact s2.frame)
      split at s
      · rename_i r' hs
        rw [Option.bind_eq_some_iff] at hs
        obtain ⟨kd, hkd, hs⟩ := hs
        rw [Option.bind_eq_some_iff] at hs
        obtain ⟨ro, hro, hs⟩ := hs
        obtain ⟨xs, ki, j, rfl, rfl, hj, rfl⟩ := storeD_some hs
        have rk := (kvr.rd re2 hkd).int
        obtain ⟨ov', f3, f4, b1, b2, b3, b4⟩ := re2.at hro
        rw [hov] at b1; cases b1
        cases b2 with
        | @l a vs1 _ ha rx =>
          subst b3
          have gF : Good H2 Z2 (Fp.add φx (Fp.add (Fp.one a) f4)) := g3.le fun b => by simp only [Fp.add_at]; omega
          have g5 := gF.freeze
          have w1 : (Fp.add (Fp.one a) f4) a ≠ 0 := by simp only [Fp.add_at, Fp.one_at]; omega
          have nz : ∀ b, (Z2 b ∨ φx b ≠ 0) → b ≠ a := fun b z q => by subst q; exact w1 (g5.d _ z)
          have kz : Kept H2 Z2 H2 (fun a => Z2 a ∨ φx a ≠ 0) := ⟨fun _ _ _ h => h, fun _ z => .inl z⟩
          have f4a : f4 a = 0 := by have := g5.u a; simp only [Fp.add_at, Fp.one_at] at this; omega
          have fv := (v2.isEsc rfl).freeze
          refine ⟨a, vs1, ki, j, rfl, rk, ha, by rw [rx.len]; exact hj, ?_⟩
          have kw : Kept H2 (fun a => Z2 a ∨ φx a ≠ 0) (upd H2 a (.lst (vs1.set j v))) (fun a => Z2 a ∨ φx a ≠ 0) := ⟨fun b o z h => by rw [upd_ne (nz b z)]; exact h, fun _ z => z⟩
          have e5 : RepE w (upd H2 a (.lst (vs1.set j v))) (fun a => Z2 a ∨ φx a ≠ 0) σ (q'.2.set i none) f4 := b4.keptZ ⟨fun b o z h => by rw [upd_ne (nz b (.inl z))]; exact h, fun _ z => .inl z⟩ fun b o z h => by
            rw [upd_ne (fun q => by subst q; exact z f4a)]; exact h
          have rds : q.1.rd = r.read := by rw [hr]; rfl
          obtain ⟨f5, l5, e6⟩ := e5.back (RepR.l (ds := xs.set j q.1.rd) upd_same (by rw [rds]; exact ((rx.kept kz).set fv j).kept kw)) hov
          rw [List.set_set] at e6
          have gW : Good (upd H2 a (.lst (vs1.set j v))) (fun a => Z2 a ∨ φx a ≠ 0) (Fp.add (Fp.one a) f4) := g5.write
          have sA : Step H Z φ H2 Z2 (Fp.add φx (Fp.add (Fp.one a) f4)) := s12.trans (Step.le fun b => by simp only [Fp.add_at]; omega)
          exact s σ _ _ f5 (((sA.trans Step.freeze).trans (Step.write w1)).trans (Step.le fun b => by have := l5 b; simp only [Fp.add_at]; omega))
            (gW.le fun b => by have := l5 b; simp only [Fp.add_at]; omega) e6 Fixed.refl
      · exact s.elim
theorem ss_ex (hc : ClOk w sp cl) {e : E} : SS w sp cl (.ex e) := by
  intro W fx σ ρ H Z φ D g re s
  refine (sx_all hc e).1 W .esc σ ρ H Z φ _ g re (SatV.ofO (fx := fx) (D := D) s fun q hq s v H1 Z1 φx φ1 s1 g1 vr re1 => ?_)
  exact s σ H1 Z1 φ1 (s1.trans (Step.le fun a => by simp)) g1.r re1 Fixed.refl
theorem ss_ret (hc : ClOk w sp cl) {e : E} : SS w sp cl (.ret e) := by
  intro W fx σ ρ H Z φ D g re s
  refine (sx_all hc e).1 W .esc σ ρ H Z φ _ g re (SatV.ofO (fx := fx) (D := D) s fun q hq s v H1 Z1 φx φ1 s1 g1 vr re1 => ?_)
  obtain ⟨r, hr⟩ := (ev_val cl e .esc ρ q.1 q.2 hq).1 rfl
  rw [hr] at s
  exact s v σ H1 Z1 φx φ1 s1 g1 (vr.isEsc hr) re1 Fixed.refl
theorem ss_retN : SS w sp cl .retN := fun W fx σ ρ H Z φ D g re s => s .non σ H Z Fp.zero φ same0 (good0 g) (.p .non) re Fixed.refl
theorem ss_brk : SS w sp cl .brk := fun W fx σ ρ H Z φ D g re s => s σ H Z φ Step.refl g re Fixed.refl
theorem ss_cont : SS w sp cl .cont := fun W fx σ ρ H Z φ D g re s => s σ H Z φ Step.refl g re Fixed.refl
theorem ss_pass : SS w sp cl .pass := fun W fx σ ρ H Z φ D g re s => s σ H Z φ Step.refl g re Fixed.refl
theorem ss_ite (hc : ClOk w sp cl) {c : E} {a b : List S} (ia : SSs w sp cl a) (ib : SSs w sp cl b) : SS w sp cl (.ite c a b) := by
  intro W fx σ ρ H Z φ D g re s
  simp only [evS, evTs_one] at s
  refine (sx_all hc c).2 W σ ρ H Z φ _ g re (SatB.ofO (fx := fx) (D := D) s fun q hq s H1 Z1 φ1 s1 g1 re1 => ?_)
  obtain ⟨k, ρ1⟩ := q
  cases k with
  | true => exact iteT (ia W fx σ ρ1 H1 Z1 φ1 D g1 re1 (SatO.step s1 Fixed.refl s))
  | false => exact iteF (ib W fx σ ρ1 H1 Z1 φ1 D g1 re1 (SatO.step s1 Fixed.refl s))
theorem sss_nil : SSs w sp cl [] := fun W fx σ ρ H Z φ D g re s => s σ H Z φ Step.refl g re Fixed.refl
theorem sss_cons {s : S} {ss : List S} (i1 : SS w sp cl s) (i2 : SSs w sp cl ss) : SSs w sp cl (s :: ss) := by
  intro W fx σ ρ H Z φ D g re st
  refine i1 W fx σ ρ H Z φ { D with nx := tSs w sp W ss D } g re ?_
  simp only [evSs] at st
  cases h : evS cl fx s ρ with
  | nx ρ' =>
    rw [h] at st
    exact fun σ' H' Z' φ' s' g' re' f' => i2 W fx σ' ρ' H' Z' φ' D g' re' (SatO.step s' f' st)
  | bk ρ' => rw [h] at st; exact st
  | ct ρ' => rw [h] at st; exact st
  | ret r ρ' => rw [h] at st; exact st
  | exc c ns vs ρ' => rw [h] at st; exact st
  | stuck => rw [h] at st; exact st.elim
theorem LR.mono {H : Hp} {Z : Zn} {σ σ' : St} {l : List (Nat × R)} {ψ : Fp} (h : LR w H Z σ l ψ) (hf : ∀ i ∈ l.map (·.1), σ'[i]? = σ[i]?) : LR w H Z σ' l ψ := by
  induction h with
  | nil => exact .nil
  | @cons i v r l f1 f2 e hr t ih => exact .cons ((hf i List.mem_cons_self).trans e) hr (ih fun j hj => hf j (List.mem_cons_of_mem _ hj))
/-- behind a loop: what was locked is the names' own again -/
theorem SatO.un {W : WX} {fx : List Nat} {σ : St} {D : Ends} {H H1 : Hp} {Z Z1 : Zn} {φ φ1 φx ψ : Fp} {l : List (Nat × R)} {o : Out} (s : Step H Z φ H1 Z1 (Fp.add φ1 (Fp.add φx ψ))) (g : Good H1 Z1 (Fp.add φ1 (Fp.add φx ψ)))
    (lr : LR w H1 Z1 σ l ψ) (hb : ∀ ρ, o ≠ .bk ρ) (hcc : ∀ ρ, o ≠ .ct ρ) (h : SatO w W fx σ D H Z φ (o.un l)) : SatO w W (lockF fx l) σ D H1 Z1 φ1 o := by
  have key : ∀ {ρ' : Env} {σ' : St} {H' : Hp} {Z' : Zn} {φr φ' : Fp}, Step H1 Z1 φ1 H' Z' (Fp.add φr φ') → Good H' Z' (Fp.add φr φ') → RepE w H' Z' σ' ρ' φ' → Fixed (lockF fx l) σ σ' →
      ∃ φ'', Step H Z φ H' Z' (Fp.add φr φ'') ∧ Good H' Z' (Fp.add φr φ'') ∧ RepE w H' Z' σ' (unlockE ρ' l) φ'' ∧ Fixed fx σ σ' := by
    intro ρ' σ' H' Z' φr φ' s' g' re' f'
    have gF := g.frame s' g'
    have lr' := (lr.frame s' (g.le fun a => by simp only [Fp.add_at]; omega)).mono (σ' := σ') fun i hi => f' i (List.mem_append_left _ hi)
    obtain ⟨φ'', l'', re''⟩ := unlocked lr' re'
    exact ⟨φ'', (s.trans s'.frame).trans (Step.le fun a => by have := l'' a; simp only [Fp.add_at]; omega), gF.le fun a => by have := l'' a; simp only [Fp.add_at]; omega, re'', fun i hi => f' i (List.mem_append_right _ hi)⟩
  have z : ∀ f : Fp, Fp.add Fp.zero f = f := Fp.zero_add
  cases o with
  | nx ρ' =>
    intro σ' H' Z' φ' s' g' re' f'
    obtain ⟨φ'', a1, a2, a3, a4⟩ := key (φr := Fp.zero) (by rw [z]; exact s') (by rw [z]; exact g') re' f'
    rw [z] at a1 a2
    exact h σ' H' Z' φ'' a1 a2 a3 a4
  | bk ρ' => exact absurd rfl (hb ρ')
  | ct ρ' => exact absurd rfl (hcc ρ')
  | ret r ρ' =>
    intro v σ' H' Z' φr φ' s' g' rr re' f'
    obtain ⟨φ'', a1, a2, a3, a4⟩ := key s' g' re' f'
    exact h v σ' H' Z' φr φ'' a1 a2 rr a3 a4
  | exc c ns vs ρ' =>
    intro cls d σ' H' Z' φ' s' g' re' f' ex
    obtain ⟨φ'', a1, a2, a3, a4⟩ := key (φr := Fp.zero) (by rw [z]; exact s') (by rw [z]; exact g') re' f'
    rw [z] at a1 a2
    exact h cls d σ' H' Z' φ'' a1 a2 a3 a4 ex
  | stuck => exact h
theorem forL_end {p : Pat} {f : Env → Out} : ∀ (xs : List VB.D) (ρ : Env), (∀ ρ', forL p f xs ρ ≠ .bk ρ') ∧ ∀ ρ', forL p f xs ρ ≠ .ct ρ'
  | [], ρ => ⟨fun _ h => (nomatch h), fun _ h => (nomatch h)⟩
  | x :: xs, ρ => by
    have ih := forL_end (p := p) (f := f) xs
    refine ⟨fun ρ' h => ?_, fun ρ' h => ?_⟩
    · simp only [forL] at h
      split at h
      · exact nomatch h
      · split at h
        · exact (ih _).1 _ h
        · exact (ih _).1 _ h
        · exact nomatch h
        · rename_i hn hcc hb; exact hb _ h
    · simp only [forL] at h
      split at h
      · exact nomatch h
      · split at h
        · exact (ih _).2 _ h
        · exact (ih _).2 _ h
        · exact nomatch h
        · rename_i hn hcc hb; exact hcc _ h
end
end VB
set_option Elab.async false
set_option linter.all false
set_option maxRecDepth 100000
set_option maxHeartbeats 1000000
/-! loops; a def's body -/
namespace VB
open PySem PySem.Spec L2
open PyProof.Rows hiding St

section
variable {w : Wd} {sp : Str → Sp} {cl : Cl}
theorem ss_for (hc : ClOk w sp cl) {k : SrcK} {src : List E} {p : Pat} {body : List S} (ib : SSs w sp cl body) : SS w sp cl (.for_ k src p body) := by
  intro W fx σ ρ H Z φ D g re s
  simp only [evS] at s
  refine tSrc_sound (W := W) (sxs_all hc src) g re ?_
  cases he : evL cl .opd src ρ with
  | stuck => rw [he] at s; exact s.elim
  | exc c ns vs ρ' => rw [he] at s; exact fun cls d H' Z' φ' s' g' re' ex => s cls d σ H' Z' φ' s' g' re' Fixed.refl ex
  | ok q =>
    rw [he] at s
    simp only [Out.ofRes] at s
    split at s
    · exact s.elim
    · rename_i items hi
      refine ⟨items, hi, fun vs H1 Z1 φx φ1 ψ φ' s1 g1 vr re1 e1 re2 lr J hJ => ?_⟩
      split at s
      · rename_i hp
        subst e1
        obtain ⟨G, Y, g0, gk, wk, gi⟩ := hJ
        refine for_it wk (fun i σi Hc => ∃ (Zc : Zn) (φc : Fp) (ρi : Env), Good Hc Zc (Fp.add φc (Fp.add φx ψ)) ∧ Step H Z φ Hc Zc (Fp.add φc (Fp.add φx ψ)) ∧ RepE w Hc Zc σi ρi φc ∧ LR w Hc Zc σ (locks q.2 q.1) ψ ∧ G Hc Zc ∧
          Fixed (lockF fx (locks q.2 q.1)) σ σi ∧ SatO w W fx σ D H Z φ ((forL p (fun ρ => evSs cl (lockF fx (locks q.2 q.1)) body ρ) (items.drop i) ρi).un (locks q.2 q.1))) ?_ ?_ ?_ ?_
        · exact ⟨Z1, φ', _, g1.le fun a => by simp only [Fp.add_at]; omega, s1.trans (Step.le fun a => by simp only [Fp.add_at]; omega), re2, lr, g0, Fixed.refl, s⟩
        · exact fun i σi Hc _ ⟨Zc, _, _, _, _, _, _, hG, _⟩ => ⟨Zc, hG⟩
        · rintro i x σi Hc H' hi' ⟨Zc, φc, ρi, gC, sC, reC, lrC, hG, hF, hs⟩ hy
          have hit : items[i]? = some items[i] := List.getElem?_eq_getElem hi'
          obtain ⟨Z2, gr, rx⟩ := gi i Hc Zc x H' items[i] hG hy hit
          rw [List.drop_eq_getElem_cons hi'] at hs
          simp only [forL] at hs
          have g2 : Good H' Z2 (Fp.add φc (Fp.add φx ψ)) := gr.good gC
          have s2 : Step H Z φ H' Z2 (Fp.add φc (Fp.add φx ψ)) := sC.trans gr.step
          have reC2 : RepE w H' Z2 σi ρi φc := reC.frame (φ := Fp.zero) gr.step (gC.le fun a => by simp only [Fp.add_at, Fp.zero_at]; omega)
          have lr2 : LR w H' Z2 σ (locks q.2 q.1) ψ := lrC.frame (φ := Fp.zero) gr.step (gC.le fun a => by simp only [Fp.add_at, Fp.zero_at]; omega)
          have hG2 : G H' Z2 := gk _ _ Fp.zero _ _ _ hG (gC.le fun a => by simp only [Fp.add_at, Fp.zero_at]; omega) gr.step
          cases hb : bindP p items[i] ρi with
          | none => rw [hb] at hs; exact hs.elim
          | some ρ1 =>
            rw [hb] at hs
            simp only at hs
            refine (gP_sound (W := W) (sizeOf p)).1 p (Nat.le_refl _) x items[i] σi ρi ρ1 φc _ reC2 rx hb fun σ2 φ2 l2 reP _ hfx => ?_
            have hF2 : Fixed (lockF fx (locks q.2 q.1)) σi σ2 := fun j hj => hfx j (freeP_mem hp hj)
            have gP2 : Good H' Z2 (Fp.add φ2 (Fp.add φx ψ)) := g2.le fun a => by have := l2 a; simp only [Fp.add_at]; omega
            have sP2 : Step H Z φ H' Z2 (Fp.add φ2 (Fp.add φx ψ)) := s2.trans (Step.le fun a => by have := l2 a; simp only [Fp.add_at]; omega)
            refine ib W (lockF fx (locks q.2 q.1)) σ2 ρ1 H' Z2 φ2 _ gP2.l reP ?_
            -- an end that the loop hands on
            have out : ∀ {o : Out}, (∀ ρ, o ≠ .bk ρ) → (∀ ρ, o ≠ .ct ρ) → SatO w W fx σ D H Z φ (o.un (locks q.2 q.1)) → SatO w W (lockF fx (locks q.2 q.1)) σ2 D H' Z2 φ2 o := fun h1 h2 h3 =>
              SatO.step Step.refl (hF.trans hF2) (SatO.un sP2 gP2 lr2 h1 h2 h3)
            have next : ∀ {ρ2 : Env} {σ3 : St} {H3 : Hp} {Z3 : Zn} {φ3 : Fp}, Step H' Z2 φ2 H3 Z3 φ3 → Good H3 Z3 φ3 → RepE w H3 Z3 σ3 ρ2 φ3 → Fixed (lockF fx (locks q.2 q.1)) σ2 σ3 →
                SatO w W fx σ D H Z φ ((forL p (fun ρ => evSs cl (lockF fx (locks q.2 q.1)) body ρ) (items.drop (i + 1)) ρ2).un (locks q.2 q.1)) →
                ∃ (Zc : Zn) (φc : Fp) (ρi : Env), Good H3 Zc (Fp.add φc (Fp.add φx ψ)) ∧ Step H Z φ H3 Zc (Fp.add φc (Fp.add φx ψ)) ∧ RepE w H3 Zc σ3 ρi φc ∧ LR w H3 Zc σ (locks q.2 q.1) ψ ∧ G H3 Zc ∧
                  Fixed (lockF fx (locks q.2 q.1)) σ σ3 ∧ SatO w W fx σ D H Z φ ((forL p (fun ρ => evSs cl (lockF fx (locks q.2 q.1)) body ρ) (items.drop (i + 1)) ρi).un (locks q.2 q.1)) := by
              intro ρ2 σ3 H3 Z3 φ3 s3 g3 re3 f3 hs3
              exact ⟨Z3, φ3, ρ2, gP2.frame s3 g3, sP2.trans s3.frame, re3, lr2.frame s3 (gP2.le fun a => by simp only [Fp.add_at]; omega), gk _ _ φ2 _ _ _ hG2 (gP2.le fun a => by simp only [Fp.add_at]; omega) s3, (hF.trans hF2).trans f3, hs3⟩
            cases ho : evSs cl (lockF fx (locks q.2 q.1)) body ρ1 with
            | nx ρ2 => rw [ho] at hs; exact fun σ3 H3 Z3 φ3 s3 g3 re3 f3 => next s3 g3 re3 f3 hs
            | ct ρ2 => rw [ho] at hs; exact fun σ3 H3 Z3 φ3 s3 g3 re3 f3 => next s3 g3 re3 f3 hs
            | bk ρ2 =>
              rw [ho] at hs
              have := out (o := .nx ρ2) (fun _ z => nomatch z) (fun _ z => nomatch z) hs
              exact this
            | ret r ρ2 =>
              rw [ho] at hs
              exact out (o := .ret r ρ2) (fun _ z => nomatch z) (fun _ z => nomatch z) hs
            | exc c ns vs ρ2 =>
              rw [ho] at hs
              exact out (o := .exc c ns vs ρ2) (fun _ z => nomatch z) (fun _ z => nomatch z) hs
            | stuck => rw [ho] at hs; exact hs.elim
        · rintro σi Hc ⟨Zc, φc, ρi, gC, sC, reC, lrC, hG, hF, hs⟩
          rw [List.drop_length] at hs
          have := SatO.un (o := .nx ρi) sC gC lrC (fun _ z => nomatch z) (fun _ z => nomatch z) hs
          exact this σi Hc Zc φc Step.refl gC.l reC hF
      · exact s.elim
theorem ss_while (hc : ClOk w sp cl) {c : E} {body : List S} (ib : SSs w sp cl body) : SS w sp cl (.while_ c body) := by
  intro W fx σ ρ H Z φ D g re s
  simp only [evS] at s
  refine ⟨fun n σi Hc => ∃ (Zc : Zn) (φc : Fp) (ρi : Env), Good Hc Zc φc ∧ Step H Z φ Hc Zc φc ∧ RepE w Hc Zc σi ρi φc ∧ Fixed fx σ σi ∧ SatO w W fx σ D H Z φ (whileL (fun ρ => evTs cl [c] ρ) (fun ρ => evSs cl fx body ρ) n ρi), ⟨WF, Z, φ, ρ, g, Step.refl, re, Fixed.refl, s⟩, ?_⟩
  rintro n σi Hc ⟨Zc, φc, ρi, gC, sC, reC, hF, hs⟩
  cases n with
  | zero => exact hs.elim
  | succ n =>
    simp only [whileL, evTs_one] at hs
    refine (sx_all hc c).2 W σi ρi Hc Zc φc _ gC reC ?_
    have hs0 := hs
    have hs := SatO.step sC hF hs
    refine SatB.ofO (fx := fx) (D := D) hs fun q hq hs H1 Z1 φ1 s1 g1 re1 => ?_
    rw [hq] at hs0
    obtain ⟨k, ρ1⟩ := q
    cases k with
    | false =>
      refine iteF ?_
      exact hs σi H1 Z1 φ1 s1 g1 re1 Fixed.refl
    | true =>
      refine iteT ⟨fun σ3 H3 => ∃ (Zc : Zn) (φc : Fp) (ρi : Env), Good H3 Zc φc ∧ Step H Z φ H3 Zc φc ∧ RepE w H3 Zc σ3 ρi φc ∧ Fixed fx σ σ3 ∧ SatO w W fx σ D H Z φ (whileL (fun ρ => evTs cl [c] ρ) (fun ρ => evSs cl fx body ρ) n ρi), fun σ' H' h => ⟨n, Nat.lt_succ_self _, h⟩, ?_⟩
      refine ib W fx σi ρ1 H1 Z1 φ1 _ g1 re1 ?_
      simp only [Out.ofRes, if_true] at hs0
      have next : ∀ {ρ2 : Env}, SatO w W fx σ D H Z φ (whileL (fun ρ => evTs cl [c] ρ) (fun ρ => evSs cl fx body ρ) n ρ2) → ∀ σ3 H3 Z3 φ3, Step H1 Z1 φ1 H3 Z3 φ3 → Good H3 Z3 φ3 → RepE w H3 Z3 σ3 ρ2 φ3 → Fixed fx σi σ3 →
          ∃ (Zc : Zn) (φc : Fp) (ρi : Env), Good H3 Zc φc ∧ Step H Z φ H3 Zc φc ∧ RepE w H3 Zc σ3 ρi φc ∧ Fixed fx σ σ3 ∧ SatO w W fx σ D H Z φ (whileL (fun ρ => evTs cl [c] ρ) (fun ρ => evSs cl fx body ρ) n ρi) :=
        fun {ρ2} h σ3 H3 Z3 φ3 s3 g3 re3 f3 => ⟨Z3, φ3, ρ2, g3, (sC.trans s1).trans s3, re3, hF.trans f3, h⟩
      cases ho : evSs cl fx body ρ1 with
      | nx ρ2 => rw [ho] at hs0; exact next hs0
      | ct ρ2 => rw [ho] at hs0; exact next hs0
      | bk ρ2 => rw [ho] at hs0; exact fun σ3 H3 Z3 φ3 s3 g3 re3 f3 => hs0 σ3 H3 Z3 φ3 ((sC.trans s1).trans s3) g3 re3 (hF.trans f3)
      | ret r ρ2 => rw [ho] at hs0; exact fun v σ3 H3 Z3 φr φ3 s3 g3 rr re3 f3 => hs0 v σ3 H3 Z3 φr φ3 ((sC.trans s1).trans s3) g3 rr re3 (hF.trans f3)
      | exc c ns vs ρ2 => rw [ho] at hs0; exact fun cls d σ3 H3 Z3 φ3 s3 g3 re3 f3 ex => hs0 cls d σ3 H3 Z3 φ3 ((sC.trans s1).trans s3) g3 re3 (hF.trans f3) ex
      | stuck => rw [ho] at hs0; exact hs0.elim
mutual
theorem ss_all (hc : ClOk w sp cl) : ∀ s : S, SS w sp cl s
  | .set i e => ss_set hc
  | .setP ps e => ss_setP hc
  | .par i j a b => ss_par hc
  | .aug o i e => ss_aug hc
  | .store i k e => ss_store hc
  | .ex e => ss_ex hc
  | .ret e => ss_ret hc
  | .retN => ss_retN
  | .ite c a b => ss_ite hc (sss_all hc a) (sss_all hc b)
  | .for_ k src p body => ss_for hc (sss_all hc body)
  | .while_ c body => ss_while hc (sss_all hc body)
  | .brk => ss_brk
  | .cont => ss_cont
  | .pass => ss_pass
theorem sss_all (hc : ClOk w sp cl) : ∀ ss : List S, SSs w sp cl ss
  | [] => sss_nil
  | s :: ss => sss_cons (ss_all hc s) (sss_all hc ss)
end

/-! ### a def -/
/-- the promise of the def f -/
def spD (w : Wd) (cl : Cl) (f : Str) : Sp := fun vs H Q E => ∃ (Z : Zn) (φ : Fp) (rs : List R), Good H Z φ ∧ RepRs w H Z vs rs φ ∧ SatC w Q E vs H Z φ (cl f rs)
theorem clOk_spD (w : Wd) (cl : Cl) : ClOk w (spD w cl) cl := fun f vs rs H Z φ Q E g r s => ⟨Z, φ, rs, g, r, s⟩
theorem RepRs.len {H : Hp} {Z : Zn} {vs : List V} {rs : List R} {φ : Fp} (h : RepRs w H Z vs rs φ) : vs.length = rs.length := by
  induction h with
  | nil => rfl
  | cons _ _ ih => exact congrArg (· + 1) ih
theorem RepE.ofRs {H : Hp} {Z : Zn} {vs : List V} {rs : List R} {φ : Fp} (h : RepRs w H Z vs rs φ) (n : Nat) : RepE w H Z (vs.map some ++ List.replicate n none) (rs.map some ++ List.replicate n none) φ := by
  induction h with
  | nil =>
    induction n with
    | zero => exact .nil
    | succ n ih => exact .no ih
  | cons h t ih => exact .so h ih
theorem RepE.outs {H : Hp} {Z : Zn} {fx : List Nat} : ∀ (vs : List V) (k : Nat) (σ' : St) (ρ' : Env) (φ' : Fp), RepE w H Z σ' ρ' φ' →
    (∀ j v, vs[j]? = some v → k + j ∈ fx → σ'[j]? = some (some v)) → ∃ φ'', (∀ a, φ'' a ≤ φ' a) ∧ RepE w H Z (vs.map some) (outsOf fx k vs.length ρ') φ'' := by
  intro vs
  induction vs with
  | nil => intro k σ' ρ' φ' h _; exact ⟨Fp.zero, fun a => Nat.zero_le _, .nil⟩
  | cons v vs ih =>
    intro k σ' ρ' φ' h hf
    have hf' : ∀ (τ : St), (∀ j, τ[j]? = σ'[j + 1]?) → ∀ j u, vs[j]? = some u → k + 1 + j ∈ fx → τ[j]? = some (some u) := fun τ ht j u hj hm => by
      rw [ht j]
      exact hf (j + 1) u (by simpa using hj) (by rw [show k + (j + 1) = k + 1 + j by omega]; exact hm)
    cases h with
    | nil =>
      obtain ⟨f, l, re⟩ := ih (k + 1) [] [] Fp.zero .nil (hf' [] fun j => by simp)
      exact ⟨f, l, .no re⟩
    | @no x σ ρ _ h =>
      obtain ⟨f, l, re⟩ := ih (k + 1) σ ρ φ' h (hf' σ fun j => by simp)
      refine ⟨f, l, ?_⟩
      simp only [List.map_cons, List.length_cons, outsOf]
      split <;> exact .no re
    | @so u r σ ρ f1 f2 hr h =>
      obtain ⟨f, l, re⟩ := ih (k + 1) σ ρ f2 h (hf' σ fun j => by simp)
      simp only [List.map_cons, List.length_cons, outsOf]
      split
      · rename_i hk
        have e := hf 0 v rfl (by simpa using hk)
        simp at e
        subst e
        exact ⟨Fp.add f1 f, fun a => by have := l a; simp only [Fp.add_at]; omega, .so hr re⟩
      · exact ⟨f, fun a => by have := l a; simp only [Fp.add_at]; omega, .no re⟩
theorem run_len {fn : Fn} {Q : VK} {E : XK} {vs : List V} {H : Hp} {Z : Zn} {φ : Fp} {rs : List R} (r : RepRs w H Z vs rs φ) (s : SatC w Q E vs H Z φ (fn.run cl rs)) : vs.length = fn.np := by
  unfold Fn.run at s
  split at s
  · rename_i h
    simp only [Bool.and_eq_true, decide_eq_true_eq] at h
    rw [r.len]; exact h.1
  · exact s.elim
/-- a def's body keeps the def's promise -/
theorem body_ok (hc : ClOk w sp cl) {fn : Fn} {vs : List V} {Q : VK} {E : XK} {H : Hp} {Z : Zn} {φ : Fp} {rs : List R} {N : List Str} (hN : N.length = fn.ns) (hle : fn.np ≤ fn.ns) (g : Good H Z φ) (r : RepRs w H Z vs rs φ) (s : SatC w Q E vs H Z φ (fn.run cl rs)) :
    tSs w sp (fun cls d _ H => E cls d H) fn.body { nx := fun _ H' => Q .non H', rt := Q } (L2.start N vs) H := by
  have hl := run_len r s
  unfold Fn.run at s
  split at s
  · rename_i hlo
    have e1 : L2.start N vs = vs.map some ++ List.replicate (fn.ns - fn.np) none := by unfold L2.start; rw [hN, hl]
    rw [e1]
    have re := RepE.ofRs r (fn.ns - fn.np)
    refine sss_all hc fn.body _ fn.fx _ _ H Z φ _ g re ?_
    have fin : ∀ {σ' : St} {ρ' : Env} {H' : Hp} {Z' : Zn} {φ' : Fp}, RepE w H' Z' σ' ρ' φ' → Fixed fn.fx (vs.map some ++ List.replicate (fn.ns - fn.np) none) σ' →
        ∃ φ'', (∀ a, φ'' a ≤ φ' a) ∧ RepE w H' Z' (vs.map some) (outsOf fn.fx 0 fn.np ρ') φ'' := by
      intro σ' ρ' H' Z' φ' re' f
      rw [← hl]
      refine RepE.outs vs 0 σ' ρ' φ' re' fun j v hj hm => ?_
      rw [Nat.zero_add] at hm
      rw [f j hm, List.getElem?_append_left (by rw [List.length_map]; exact (List.getElem?_eq_some_iff.mp hj).1), List.getElem?_map, hj]
      rfl
    cases ho : evSs cl fn.fx fn.body (rs.map some ++ List.replicate (fn.ns - fn.np) none) with
    | nx ρ' =>
      rw [ho] at s
      intro σ' H' Z' φ' s' g' re' f'
      obtain ⟨f, l, re''⟩ := fin re' f'
      exact s .non H' Z' Fp.zero f (s'.trans (Step.le fun a => by have := l a; simp only [Fp.add_at, Fp.zero_at]; omega)) (g'.le fun a => by have := l a; simp only [Fp.add_at, Fp.zero_at]; omega) (.p .non) re''
    | ret r' ρ' =>
      rw [ho] at s
      intro v σ' H' Z' φr φ' s' g' rr re' f'
      obtain ⟨f, l, re''⟩ := fin re' f'
      exact s v H' Z' φr f (s'.trans (Step.le fun a => by have := l a; simp only [Fp.add_at]; omega)) (g'.le fun a => by have := l a; simp only [Fp.add_at]; omega) rr re''
    | exc c ns ds ρ' =>
      rw [ho] at s
      intro cls d σ' H' Z' φ' s' g' re' f' ex
      obtain ⟨f, l, re''⟩ := fin re' f'
      exact s cls d H' Z' f (s'.trans (Step.le l)) (g'.le l) re'' ex
    | bk ρ' => rw [ho] at s; exact s.elim
    | ct ρ' => rw [ho] at s; exact s.elim
    | stuck => rw [ho] at s; exact s.elim
  · exact s.elim
end
end VB
set_option Elab.async false
set_option linter.all false
set_option maxRecDepth 100000
/-! the program's text against ours -/
namespace VB
open PySem PySem.Spec L2
open PyProof.Rows hiding St

/-- where a text stands: its slots, the kinds of names, what the module's names are -/
structure CC where
  N : List Str
  names : List (Str × NameKind)
  defs : List Str
  consts : List (Str × D)
  frees : List Str
  fnb : Str → Bool

mutual
def datEq : D → D → Bool
  | .non, .non => true
  | .bl a, .bl b => a == b
  | .int a, .int b => a == b
  | .str a, .str b => decide (a = b)
  | .tup a, .tup b => datsEq a b
  | _, _ => false
def datsEq : List D → List D → Bool
  | [], [] => true
  | x :: xs, y :: ys => datEq x y && datsEq xs ys
  | _, _ => false
end
def visB (c : CC) (x : Str) (i : Nat) : Bool := decide (c.N[i]? = some x) && (match c.names.lookup x with | some .local => true | some .cell => true | some .free => true | _ => false) && !(x == ("__debug__" : Str)) && !(x == ("__classdict__" : Str))
def globB (c : CC) (x : Str) : Bool := decide (c.names.lookup x = some .globalImplicit) && !(x == ("__debug__" : Str)) && decide (x ≠ "__name__")
def freeB (c : CC) (x : Str) : Bool := globB c x && c.frees.contains x
def constD : Const → Option D
  | .none => some .non
  | .bool b => some (.bl b)
  | .int i => some (.int i)
  | .str s => some (.str s)
  | _ => none
def notStar : Expr → Bool
  | .Starred .. => false
  | _ => true
def notComp : Expr → Bool
  | .ListComp .. | .SetComp .. | .DictComp .. => false
  | _ => true
def notSlice : Expr → Bool
  | .Slice .. => false
  | _ => true
def notSet : Expr → Bool
  | .Set .. => false
  | _ => true
def binO : Operator → Option BOp
  | .Add => some .add | .Sub => some .sub | .Mult => some .mul | .FloorDiv => some .fdiv | .Mod => some .mod | .Pow => some .pow
  | _ => none
def cmpO : CmpOp → Option BOp
  | .Eq => some .eq | .NotEq => some .ne | .Lt => some .lt | .LtE => some .le | .Gt => some .gt | .GtE => some .ge | .In => some .inn | .NotIn => some .nin
  | _ => none
/-- a built-in function of one or two arguments -/
def bltO : BOp → Option (String × Nat)
  | .len => some ("len", 1) | .max2 => some ("max", 2) | .min2 => some ("min", 2) | .all1 => some ("all", 1) | .any1 => some ("any", 1) | .sum1 => some ("sum", 1) | .repr1 => some ("repr", 1)
  | _ => none
def tyO : BOp → Option String
  | .int1 => some "int" | .str1 => some "str" | .tuple1 => some "tuple" | .list1 => some "list"
  | _ => none
def mutO : MOp → String × Nat
  | .append => ("append", 1) | .extend => ("extend", 1) | .pop => ("pop", 0) | .popAt => ("pop", 1) | .clear => ("clear", 0) | .reverse => ("reverse", 0)
def isTyName (T : String) : Bool := T == "int" || T == "bool" || T == "str" || T == "tuple" || T == "list" || T == "dict"
def relN (names outer : List (Str × NameKind)) : List (Str × NameKind) := names.map fun (n, k) => if (k == .free && outer.lookup n == some .cell) then (n, .cell) else (n, k)
/-- a name stored here -/
def stoB (c : CC) (x : Str) (i : Nat) : Bool := decide (c.N[i]? = some x) && (match c.names.lookup x with | some .local => true | some .cell => c.fnb x | _ => false)
mutual
def chkP (c : CC) : Nat → Expr → Pat → Bool
  | 0, _, _ => false
  | _ + 1, .Name x _, .s i => stoB c x i
  | n + 1, .Tuple es _ _, .t ps => chkPs c n es ps
  | _ + 1, _, _ => false
def chkPs (c : CC) : Nat → List Expr → List Pat → Bool
  | 0, _, _ => false
  | _ + 1, [], [] => true
  | n + 1, e :: es, p :: ps => notStar e && chkP c n e p && chkPs c n es ps
  | _ + 1, _, _ => false
end
/-- the name called is this one -/
def nm (f : Str) (s : String) : Bool := decide (f = Str.ofString s)
def isPatTup : Pat → Bool
  | .t _ => true
  | _ => false
mutual
def chkE (c : CC) : Nat → Expr → E → Bool
  | 0, _, _ => false
  | n + 1, e, ir => match ir with
    | .c d => (match e with
      | .Constant k _ _ => (match constD k with | some d' => datEq d' d | none => false)
      | .Name x _ => globB c x && (match c.consts.lookup x with | some d' => datEq d' d | none => false)
      | _ => false)
    | .v i => (match e with | .Name x _ => visB c x i | _ => false)
    | .mov i => (match e with | .Name x _ => visB c x i | _ => false)
    | .frz i => (match e with | .Name x _ => visB c x i | _ => false)
    | .lend i => (match e with | .Name x _ => visB c x i | _ => false)
    | .tup es => (match e with | .Tuple xs _ _ => chkL c n xs es | _ => false)
    | .lst es => (match e with | .List xs _ => chkL c n xs es | _ => false)
    | .dic ks es => (match e with
      | .Dict [] [] _ => (match ks, es with | [], [] => true | _, _ => false)
      | .Dict [some k] [v] _ => (match ks, es with | [kd], [ev] => isKey kd && chkE c n k (.c kd) && chkE c n v ev | _, _ => false)
      | _ => false)
    | .op o es => (match e, es with
      | .BinOp x op y _, [a, b] => decide (binO op = some o) && chkE c n x a && chkE c n y b
      | .Compare x [op] [y] _, [a, b] => decide (cmpO op = some o) && notSet y && chkE c n x a && chkE c n y b
      | .Compare x [.Is] [.Constant .none _ _] _, [a] => decide (o = .isN) && chkE c n x a
      | .Compare x [.IsNot] [.Constant .none _ _] _, [a] => decide (o = .notN) && chkE c n x a
      | .UnaryOp .USub x _, [a] => decide (o = .neg) && chkE c n x a
      | .Subscript x (.Slice none none (some (.UnaryOp .USub (.Constant (.int z) _ _) _)) _) _, [a] => decide (o = .rev) && decide (z = 1) && chkE c n x a
      | .Subscript x (.Slice none none none _) _, [a] => decide (o = .slO) && chkE c n x a
      | .Subscript x (.Slice (some l) none none _) _, [a, b] => decide (o = .slA) && chkE c n x a && chkE c n l b
      | .Subscript x (.Slice none (some l) none _) _, [a, b] => decide (o = .slB) && chkE c n x a && chkE c n l b
      | .Subscript x (.Slice (some l) (some u) none _) _, [a, .op o' [b, .c (.int z)], d] => decide (o = .slAB) && decide (o' = .sub) && decide (z = 0) && chkE c n x a && chkE c n l b && chkE c n u d
      | .Subscript x y _, [a, b] => decide (o = .ix) && notSlice y && chkE c n x a && chkE c n y b
      | .Call (.Attribute (.Constant (.str z) _ _) a apos) [y] [] cpos, [.c (.str z'), b] => decide (o = .join) && nm a "join" && decide (z = z') && notStar y && (apos.endLine == cpos.line) && chkE c n y b
      | .Call (.Name f _) args [] _, es => freeB c f && (
          (match bltO o with | some (s, k) => nm f s && decide (es.length = k) && chkL c n args es | none => false) ||
          (match tyO o with | some s => nm f s && decide (es.length = 1) && chkL c n args es | none => false) ||
          (match o, args, es with | .isi T, [x, .Name t _], [a] => nm f "isinstance" && isTyName T && nm t T && freeB c t && notStar x && chkE c n x a | _, _, _ => false))
      | _, _ => false)
    | .and a b => (match e with
      | .BoolOp .And [x, y] _ => chkE c n x a && chkE c n y b
      | .BoolOp .And (x :: y :: r) p => chkE c n x a && chkE c n (.BoolOp .And (y :: r) p) b
      | _ => false)
    | .or a b => (match e with
      | .BoolOp .Or [x, y] _ => chkE c n x a && chkE c n y b
      | .BoolOp .Or (x :: y :: r) p => chkE c n x a && chkE c n (.BoolOp .Or (y :: r) p) b
      | _ => false)
    | .not a => (match e with | .UnaryOp .Not x _ => chkE c n x a | _ => false)
    | .ite k a b => (match e with | .IfExp t x y _ => chkT c n t k && chkE c n x a && chkE c n y b | _ => false)
    | .chain o o' a b d => (match e with
      | .Compare x [p, q] [y, z] _ => decide (cmpO p = some o) && decide (cmpO q = some o') && notSet z && chkE c n x a && chkE c n y b && chkE c n z d
      | _ => false)
    | .call f es => (match e with
      | .Call (.Name g _) args [] _ => decide (g = f) && globB c g && c.defs.contains g && chkL c n args es
      | _ => false)
    | .mut m i es => (match e with
      | .Call (.Attribute (.Name x _) a apos) args [] cpos => visB c x i && nm a (mutO m).1 && decide (es.length = (mutO m).2) && decide (es.length < 30) && (apos.endLine == cpos.line) && chkL c n args es
      | _ => false)
    | .comp own k src p conds elt => (match e with
      | .ListComp el [⟨tg, iter, ifs, z⟩] scope _ => decide (z = 0) && notSet iter && blkC c.N { kind := .function, names := c.names, isGenerator := false, isCoroutine := false } scope (own.map fun i => (c.N.getD i "", i)) &&
          chkSrc c n iter k src (match tg with | .Tuple .. => true | _ => false) &&
          chkP { c with names := relN scope.names c.names, fnb := fun x => scope.names.lookup x == some .cell } n tg p && chkCs { c with names := relN scope.names c.names, fnb := fun x => scope.names.lookup x == some .cell } n ifs conds && chkE { c with names := relN scope.names c.names, fnb := fun x => scope.names.lookup x == some .cell } n el elt
      | _ => false)
def chkT (c : CC) : Nat → Expr → E → Bool
  | 0, _, _ => false
  | n + 1, e, ir => match ir, e with
    | .and a b, .BoolOp .And [x, y] _ => chkT c n x a && chkT c n y b
    | .and a b, .BoolOp .And (x :: y :: r) p => chkT c n x a && chkT c n (.BoolOp .And (y :: r) p) b
    | .or a b, .BoolOp .Or [x, y] _ => chkT c n x a && chkT c n y b
    | .or a b, .BoolOp .Or (x :: y :: r) p => chkT c n x a && chkT c n (.BoolOp .Or (y :: r) p) b
    | .not a, .UnaryOp .Not x _ => chkT c n x a
    | .op o es, .Compare .. => chkE c n e (.op o es)
    | .chain o o' a b d, .Compare .. => chkE c n e (.chain o o' a b d)
    | .c d, .Constant .. => chkE c n e (.c d)
    | .v i, .Name .. => chkE c n e (.v i)
    | .mov i, .Name .. => chkE c n e (.mov i)
    | .frz i, .Name .. => chkE c n e (.frz i)
    | .op o es, .Call .. => chkE c n e (.op o es)
    | .op o es, .Subscript .. => chkE c n e (.op o es)
    | .call f es, .Call .. => chkE c n e (.call f es)
    | _, _ => false
def chkL (c : CC) : Nat → List Expr → List E → Bool
  | 0, _, _ => false
  | _ + 1, [], [] => true
  | n + 1, e :: es, ir :: irs => notStar e && chkE c n e ir && chkL c n es irs
  | _ + 1, _, _ => false
def chkCs (c : CC) : Nat → List Expr → List E → Bool
  | 0, _, _ => false
  | _ + 1, [], [] => true
  | n + 1, [e], [ir] => chkT c n e ir
  | _ + 1, _, _ => false
def chkSrc (c : CC) : Nat → Expr → SrcK → List E → Bool → Bool
  | 0, _, _, _, _ => false
  | n + 1, e, k, es, tup => match k with
    | .seq => (match es with | [a] => chkE c n e a | _ => false)
    | .rng => (match e with
      | .Call (.Name f _) args [] _ => freeB c f && nm f "range" && (decide (es.length = 1) || decide (es.length = 2)) && chkL c n args es
      | _ => false)
    | .enum => (match e with | .Call (.Name f _) args [] _ => tup && freeB c f && nm f "enumerate" && decide (es.length = 1) && chkL c n args es | _ => false)
    | .zip => (match e with | .Call (.Name f _) args [] _ => tup && freeB c f && nm f "zip" && decide (es.length = 2) && chkL c n args es | _ => false)
    | .rev => (match e with | .Call (.Name f _) args [] _ => freeB c f && nm f "reversed" && decide (es.length = 1) && chkL c n args es | _ => false)
end
mutual
def chkS (c : CC) : Nat → Stmt → S → Bool
  | 0, _, _ => false
  | n + 1, st, s => match s with
    | .set i e => (match st with
      | .Assign [.Name x px] v pos => stoB c x i && chkE c n v e && (match v with
        | .ListComp _ _ scope vpos => decide (c.names.lookup x = some .cell) || ((px.line == vpos.line) && !(scope.names.any fun (m, k) => m == x && (k == .local || k == .cell)))
        | _ => notComp v)
      | _ => false)
    | .setP ps e => (match st with
      | .Assign [.Tuple ts k tp] v _ => chkP c n (.Tuple ts k tp) (.t ps) && chkE c n v e && notComp v && (match v with | .Tuple .. => false | _ => true)
      | _ => false)
    | .par i j a b => (match st with
      | .Assign [.Tuple [.Name x px, .Name y py] _ _] (.Tuple [u, v] _ _) _ => decide (i ≠ j) && decide (x ≠ y) && decide (c.N[i]? = some x) && decide (c.N[j]? = some y) && decide (c.names.lookup x = some .local) && decide (c.names.lookup y = some .local) &&
          (px.line == py.line) && !([u, v].all (foldedForSure 8)) && !([u, v].all (constantsAlone 8)) && chkL c n [u, v] [a, b]
      | _ => false)
    | .aug o i e => (match st with
      | .AugAssign (.Name x _) op v _ => stoB c x i && decide (binO op = some o) && (decide (o = .add) || decide (o = .sub)) && chkE c n v e
      | _ => false)
    | .store i k e => (match st with
      | .Assign [.Subscript (.Name x _) y _] v _ => visB c x i && notSlice y && chkE c n y k && chkE c n v e && notComp v
      | _ => false)
    | .ex e => (match st with
      | .Expr v _ => notComp v && chkE c n v e
      | _ => false)
    | .ret e => (match st with | .Return (some v) _ => chkE c n v e | _ => false)
    | .retN => (match st with | .Return none _ => true | _ => false)
    | .ite t a b => (match st with | .If e x y _ => chkT c n e t && chkSs c n x a && chkSs c n y b | _ => false)
    | .for_ k src p body => (match st with
      | .For tg iter b [] _ => notSet iter && chkSrc c n iter k src (match tg with | .Tuple .. => true | _ => false) && chkP c n tg p && chkSs c n b body
      | _ => false)
    | .while_ t body => (match st with | .While e b [] _ => chkT c n e t && chkSs c n b body | _ => false)
    | .brk => (match st with | .Break _ => true | _ => false)
    | .cont => (match st with | .Continue _ => true | _ => false)
    | .pass => (match st with | .Pass _ => true | .Expr (.Constant (.str _) _ _) _ => true | _ => false)
def chkSs (c : CC) : Nat → List Stmt → List S → Bool
  | 0, _, _ => false
  | _ + 1, [], [] => true
  | n + 1, st :: sts, s :: ss => chkS c n st s && chkSs c n sts ss
  | _ + 1, _, _ => false
end
end VB
set_option Elab.async false
set_option linter.all false
set_option maxRecDepth 100000
set_option maxHeartbeats 2000000
/-! a text that is ours is walked by its reading -/
namespace VB
open PySem PySem.Spec L2
open PyProof.Rows hiding St

mutual
theorem datEq_eq : ∀ {a b : D}, datEq a b = true → a = b
  | .non, .non, _ => rfl
  | .bl a, .bl b, h => by rw [eq_of_beq (show (a == b) = true from h)]
  | .int a, .int b, h => by rw [eq_of_beq (show (a == b) = true from h)]
  | .str a, .str b, h => by rw [of_decide_eq_true (show decide (a = b) = true from h)]
  | .tup a, .tup b, h => by rw [datsEq_eq (show datsEq a b = true from h)]
theorem datsEq_eq : ∀ {a b : List D}, datsEq a b = true → a = b
  | [], [], _ => rfl
  | x :: xs, y :: ys, h => by
    simp only [datsEq, Bool.and_eq_true] at h
    rw [datEq_eq h.1, datsEq_eq h.2]
end

structure GOk (w : Wd) (sp : Str → Sp) (c : CC) (X : Cx) : Prop where
  K : X.K = w.K
  defs : ∀ f ∈ c.defs, ∃ a fd ps k, FnG X.prog X.w X.K X.mg X.base (L2.CX X.prog X.w) k a fd ps (sp f) ∧ Room k X.A ∧ X.mg f = some (.ref a) ∧ PySem.W.keepIn X.K (.ref a) = true ∧ Binds X.K fd ps []
  consts : ∀ x d, c.consts.lookup x = some d → ∃ v u, X.mg x = some u ∧ RelV v u ∧ ∀ H Z, Rep w H Z v d
  frees : ∀ x, c.frees.contains x = true → X.mg x = none
  units : X.A.units + 65 < cLine
  guards : X.A.guards = some []
structure COk (w : Wd) (sp : Str → Sp) (c : CC) (X : Cx) (W : WX) : Prop where
  g : GOk w sp c X
  N : X.N = c.N
  nd : X.N.Nodup
  sc : ∀ x, X.env.scope.names.lookup x = c.names.lookup x
  kind : X.env.scope.kind = .function
  calm : X.calm = true
  tk : Takes X W
  fn : ∀ x, c.fnb x = true → X.fn x = true

section
variable {w : Wd} {sp : Str → Sp} {c : CC} {X : Cx} {W : WX}
theorem _root_.L2.PE.imp {e : Expr} {t t' : TE} (h : PE X e t) (k : ∀ σ H Q, t' σ H Q → t σ H Q) : PE X e t' := ⟨fun pins s σ H Q I q => h.run pins s σ H Q I (k σ H Q q)⟩
theorem _root_.L2.PT.imp {e : Expr} {t t' : TT} (h : PT X e t) (k : ∀ σ H Q, t' σ H Q → t σ H Q) : PT X e t' := ⟨fun pins s σ H Q I q => h.run pins s σ H Q I (k σ H Q q)⟩
theorem _root_.L2.PI.imp {tg e : Expr} {t t' : TI} (h : PI X tg e t) (k : ∀ σ H Q, t' σ H Q → t σ H Q) : PI X tg e t' := ⟨fun pins s σ H Q I q => h.run pins s σ H Q I (k σ H Q q)⟩
theorem _root_.L2.PI.or {tg e : Expr} {t t' : TI} (h : PI X tg e t) (h' : PI X tg e t') : PI X tg e (fun σ H R => t σ H R ∨ t' σ H R) := ⟨fun pins s σ H Q I q => q.elim (h.run pins s σ H Q I) (h'.run pins s σ H Q I)⟩
theorem OpR.imp {f : Value → Value → Sem Value} {r r' : R2} (h : OpR X f r) (k : ∀ x y H Q, r' x y H Q → r x y H Q) : OpR X f r' := fun pins s σ H x y v u Q I rx ry q => h pins s σ H x y v u Q I rx ry (k x y H Q q)
/-- a reading that may be asked for less -/
def upT (t : TE) : TE := fun σ H Q => ∃ Q', t σ H Q' ∧ ∀ v H', Q' v H' → Q v H'
theorem _root_.L2.PE.up {e : Expr} {t : TE} (h : PE X e t) : PE X e (upT t) := ⟨fun pins s σ H Q I ⟨Q', q, k⟩ => thn (h.run pins s σ H Q' I q) fun u s' ⟨v, H', I', r, z⟩ => ⟨v, H', I', r, k v H' z⟩⟩
theorem rr_imp {r : R2} {x y : V} {H : Hp} {Q : VK} (h : rr r [x, y] H Q) : r x y H Q := by
  obtain ⟨a, b, e, h⟩ := h
  cases e; exact h
theorem star_cons {e : Expr} {es : List Expr} {env : PySem.Env} (h : notStar e = true) : starEach (e :: es) env = (false, eval e env) :: starEach es env := by
  cases e <;> first | rfl | cases h
theorem star_all {pos : Pos} {env : PySem.Env} : ∀ {es : List Expr}, es.all notStar = true → (backTo pos (starEach es env)).any (·.1) = false
  | [], _ => rfl
  | e :: es, h => by
    rw [List.all_cons, Bool.and_eq_true] at h
    rw [star_cons h.1]
    show (false || (backTo pos (starEach es env)).any (·.1)) = false
    rw [star_all h.2]; rfl
theorem op_bin (o : BOp) {op : Operator} (h : binO op = some o) : OpR X (binaryOp op) (fun x y => rB X.K o [x, y]) := by
  cases op <;> cases h
  · exact OpR.imp (X := X) (((op_add.or op_add_str).or ((op_catT.or op_cat).or op_catE))) fun x y H Q q => by obtain ⟨a, b, e, q⟩ := q; cases e; exact q
  · exact OpR.imp (X := X) (op_sub) fun x y H Q q => by obtain ⟨a, b, e, q⟩ := q; cases e; exact q
  · exact OpR.imp (X := X) (((op_mul.or op_mulW).or (op_rep.or (op_repT.or op_repS)))) fun x y H Q q => by obtain ⟨a, b, e, q⟩ := q; cases e; exact q
  · exact OpR.imp (X := X) (op_modN) fun x y H Q q => by obtain ⟨a, b, e, q⟩ := q; cases e; exact q
  · exact OpR.imp (X := X) (op_pow) fun x y H Q q => by obtain ⟨a, b, e, q⟩ := q; cases e; exact q
  · exact OpR.imp (X := X) ((op_fdivN.or op_fdivW)) fun x y H Q q => by obtain ⟨a, b, e, q⟩ := q; cases e; exact q
theorem op_cmp (hu : X.A.units + 65 < cLine) (o : BOp) {op : CmpOp} (h : cmpO op = some o) : OpR X (compareOp op) (fun x y => rB X.K o [x, y]) := by
  cases op <;> cases h
  · exact OpR.imp (X := X) ((op_eq.or (op_eqD (by omega)))) fun x y H Q q => by obtain ⟨a, b, e, q⟩ := q; cases e; exact q
  · exact OpR.imp (X := X) ((op_ne.or (op_neD (by omega)))) fun x y H Q q => by obtain ⟨a, b, e, q⟩ := q; cases e; exact q
  · exact OpR.imp (X := X) ((op_lt.or (op_ltT (by omega)))) fun x y H Q q => by obtain ⟨a, b, e, q⟩ := q; cases e; exact q
  · exact OpR.imp (X := X) (op_le) fun x y H Q q => by obtain ⟨a, b, e, q⟩ := q; cases e; exact q
  · exact OpR.imp (X := X) (op_gt) fun x y H Q q => by obtain ⟨a, b, e, q⟩ := q; cases e; exact q
  · exact OpR.imp (X := X) (op_ge) fun x y H Q q => by obtain ⟨a, b, e, q⟩ := q; cases e; exact q
  · exact OpR.imp (X := X) (((op_inD hu).or op_in_seq |>.or op_in_sign)) fun x y H Q q => by obtain ⟨a, b, e, q⟩ := q; cases e; exact q
  · exact OpR.imp (X := X) (((op_notInD hu).or op_notIn_seq |>.or op_notIn_sign)) fun x y H Q q => by obtain ⟨a, b, e, q⟩ := q; cases e; exact q
theorem notMarks {y : Expr} {op : CmpOp} (h : notSet y = true) : behindInMarks op y = false := by
  cases y <;> first | rfl | cases h
theorem foldedNo {e : Expr} {env : PySem.Env} (h : notSet e = true) (x : Value) : foldedSetIterable e env x = pure x := by
  cases e <;> first | rfl | cases h
theorem plainIx {y : Expr} (h : notSlice y = true) : PlainIx y := by
  cases y <;> first | (intro o i; rfl) | cases h
theorem gl_of (k : COk w sp c X W) {x : Str} (h : globB c x = true) : Gl X x ∧ (x == ("__debug__" : Str)) = false ∧ x ≠ "__name__" := by
  simp only [globB, Bool.and_eq_true, decide_eq_true_eq, Bool.not_eq_true'] at h
  exact ⟨by show X.env.scope.names.lookup x = _; rw [k.sc]; exact h.1.1, h.1.2, h.2⟩
theorem free_of (k : COk w sp c X W) {x : Str} (h : freeB c x = true) : Gl X x ∧ X.mg x = none ∧ (x == ("__debug__" : Str)) = false ∧ x ≠ "__name__" := by
  simp only [freeB, Bool.and_eq_true] at h
  obtain ⟨a, b, d⟩ := gl_of k h.1
  exact ⟨a, k.g.frees x h.2, b, d⟩
theorem var_of (k : COk w sp c X W) {x : Str} {i : Nat} {pos : Pos} (h : visB c x i = true) : PE X (.Name x pos) (tVar i) := by
  simp only [visB, Bool.and_eq_true, decide_eq_true_eq, Bool.not_eq_true'] at h
  obtain ⟨⟨⟨h1, h2⟩, h3⟩, h4⟩ := h
  refine pe_var (by rw [k.N]; exact h1) ?_ h3 h4
  unfold Vis
  rw [k.sc]
  split at h2
  · exact .inl (by assumption)
  · exact .inr (.inl (by assumption))
  · exact .inr (.inr (by assumption))
  · exact nomatch h2
theorem const_pe {k : Const} {j : Nat} {pos : Pos} {d : D} (h : constD k = some d) : PE X (.Constant k j pos) (fun σ H Q => ∀ v, (∀ H Z, Rep w H Z v d) → Q v H) := by
  cases k <;> cases h
  · exact pe_non.imp fun σ H Q q => q .non fun _ _ => .non
  · exact pe_bl.imp fun σ H Q q => q _ fun _ _ => .bl _
  · exact pe_int.imp fun σ H Q q => q _ fun _ _ => .int _
  · exact pe_str.imp fun σ H Q q => q _ fun _ _ => .str _
theorem chk_star {c : CC} : ∀ {n : Nat} {es : List Expr} {irs : List E}, chkL c n es irs = true → es.all notStar = true ∧ es.length = irs.length
  | 0, _, _, h => nomatch h
  | _ + 1, [], [], _ => ⟨rfl, rfl⟩
  | _ + 1, [], _ :: _, h => nomatch h
  | _ + 1, _ :: _, [], h => nomatch h
  | n + 1, e :: es, ir :: irs, h => by
    simp only [chkL, Bool.and_eq_true] at h
    obtain ⟨a, b⟩ := chk_star h.2
    exact ⟨by rw [List.all_cons, h.1.1, a]; rfl, congrArg (· + 1) b⟩
/-- a built-in function's call -/
theorem blt_call (k : COk w sp c X W) {f : Str} {id : String} {r : List V → Hp → VK → Prop} {args : List Expr} {t : TA} {p pos : Pos} (hr : CallR X (.builtin id) r) (hf : freeB c f = true) (hv : bootBuiltins f = some (.builtin id)) (hs : args.all notStar = true) (hl : args ≠ [])
    (ha : PA X args t) : PE X (.Call (.Name f p) args [] pos) (tCB r t) := by
  obtain ⟨g, m, hd, hn⟩ := free_of k hf
  cases args with
  | nil => exact absurd rfl hl
  | cons e es =>
    rw [List.all_cons, Bool.and_eq_true] at hs
    exact pe_callB hr g m hv ha hn hd (star_cons hs.1) (star_all hs.2)
theorem ty_call (k : COk w sp c X W) {f : Str} {T : String} {r : List V → Hp → VK → Prop} {args : List Expr} {t : TA} {p pos : Pos} (hr : CallR X (.type T) r) (hf : freeB c f = true) (hv : bootBuiltins f = some (.type T)) (hs : args.all notStar = true) (hl : args ≠ [])
    (ha : PA X args t) : PE X (.Call (.Name f p) args [] pos) (tCB r t) := by
  obtain ⟨g, m, hd, hn⟩ := free_of k hf
  cases args with
  | nil => exact absurd rfl hl
  | cons e es =>
    rw [List.all_cons, Bool.and_eq_true] at hs
    exact pe_callTy hr g m hv ha hn hd (star_cons hs.1) (star_all hs.2)
theorem nm_eq {f : Str} {s : String} (h : nm f s = true) : f = Str.ofString s := of_decide_eq_true h
theorem ne_nil {args : List Expr} {es : List E} (h : args.length = es.length) (h2 : 0 < es.length) : args ≠ [] := fun z => by subst z; simp at h; omega
/-- the calls of built-in functions and types -/
theorem call_blt (k : COk w sp c X W) {o : BOp} {f : Str} {args : List Expr} {es : List E} {t : TA} {p pos : Pos} {s : String} {m : Nat} (hb : bltO o = some (s, m)) (hm : es.length = m) (hf : freeB c f = true) (hn : nm f s = true) (hs : args.all notStar = true)
    (hl : args.length = es.length) (ha : PA X args t) : PE X (.Call (.Name f p) args [] pos) (fun σ H Q => t σ H fun vs H1 => rB X.K o vs H1 Q) := by
  have e := nm_eq hn
  cases o <;> cases hb
  all_goals subst e
  · exact blt_call k call_len hf PySem.boot_len hs (ne_nil hl (by omega)) ha
  · exact blt_call k (call_max2 k.calm) hf boot_max hs (ne_nil hl (by omega)) ha
  · exact blt_call k (call_min2 k.calm) hf boot_min hs (ne_nil hl (by omega)) ha
  · exact blt_call k (cr_all k.calm) hf boot_all hs (ne_nil hl (by omega)) ha
  · exact blt_call k (cr_any k.calm) hf boot_any hs (ne_nil hl (by omega)) ha
  · exact blt_call k (cr_sum k.calm) hf boot_sum hs (ne_nil hl (by omega)) ha
  · exact blt_call k (call_shown k.g.guards k.g.units) hf (by decide +kernel) hs (ne_nil hl (by omega)) ha
theorem call_ty (k : COk w sp c X W) {o : BOp} {f : Str} {args : List Expr} {es : List E} {t : TA} {p pos : Pos} {s : String} (hb : tyO o = some s) (hm : es.length = 1) (hf : freeB c f = true) (hn : nm f s = true) (hs : args.all notStar = true)
    (hl : args.length = es.length) (ha : PA X args t) : PE X (.Call (.Name f p) args [] pos) (fun σ H Q => t σ H fun vs H1 => rB X.K o vs H1 Q) := by
  have e := nm_eq hn
  cases o <;> cases hb
  all_goals subst e
  · exact ty_call k call_int1 hf PyProof.Rows.boot_int hs (ne_nil hl (by omega)) ha
  · exact ty_call k call_str_int hf PyProof.Rows.boot_str hs (ne_nil hl (by omega)) ha
  · exact ty_call k call_tuple_of hf PyProof.Rows.boot_tuple hs (ne_nil hl (by omega)) ha
  · exact ty_call k call_list_of hf PyProof.Rows.boot_list hs (ne_nil hl (by omega)) ha
theorem boot_tyName {T : String} (h : isTyName T = true) : bootBuiltins (Str.ofString T) = some (.type T) ∧ Str.ofString T ≠ "__name__" ∧ (Str.ofString T == ("__debug__" : Str)) = false := by
  simp only [isTyName, Bool.or_eq_true, beq_iff_eq] at h
  rcases h with ((((rfl | rfl) | rfl) | rfl) | rfl) | rfl
  · exact ⟨PyProof.Rows.boot_int, by decide, by decide⟩
  · exact ⟨by decide +kernel, by decide, by decide⟩
  · exact ⟨PyProof.Rows.boot_str, by decide, by decide⟩
  · exact ⟨PyProof.Rows.boot_tuple, by decide, by decide⟩
  · exact ⟨PyProof.Rows.boot_list, by decide, by decide⟩
  · exact ⟨by decide +kernel, by decide, by decide⟩
theorem call_isa (k : COk w sp c X W) {T : String} {f t : Str} {x : Expr} {te : TE} {p p' pos : Pos} (hf : freeB c f = true) (hn : nm f "isinstance" = true) (hT : isTyName T = true) (ht : nm t T = true) (htf : freeB c t = true) (hs : notStar x = true)
    (hx : PE X x te) : PE X (.Call (.Name f p) [x, .Name t p'] [] pos) (fun σ H Q => tCons te tNil σ H fun vs H1 => rB X.K (.isi T) vs H1 Q) := by
  have e := nm_eq hn
  have e2 := nm_eq ht
  subst e e2
  obtain ⟨g, m, hd, hnn⟩ := free_of k hf
  obtain ⟨g2, m2, hd2, hn2⟩ := free_of k htf
  obtain ⟨hb, _, _⟩ := boot_tyName hT
  have hty : PE X (.Name (Str.ofString T) p') (tC (.ty T)) := pe_bltn g2 m2 hb rfl hn2 hd2
  have ha : PA X [x, .Name (Str.ofString T) p'] (tCons (upT te) (tCons (tC (.ty T)) tNil)) := pa_cons hx.up (pa_cons hty pa_nil rfl) (star_cons hs)
  refine (pe_callB call_isi g m PyProof.Rows.boot_isinstance ha hnn hd (star_cons hs) rfl).imp fun σ H Q q => ?_
  refine ⟨_, q, fun v H' z => ?_⟩
  obtain ⟨x', e, z⟩ := z
  cases e; exact z
end
end VB
set_option Elab.async false
set_option linter.all false
set_option maxRecDepth 100000
set_option maxHeartbeats 4000000
namespace VB
open PySem PySem.Spec L2
open PyProof.Rows hiding St

section
variable {w : Wd} {sp : Str → Sp}
theorem sto_of {c : CC} {X : Cx} {W : WX} (k : COk w sp c X W) {x : Str} {i : Nat} (h : stoB c x i = true) : X.N[i]? = some x ∧ Loc X.env.scope x ∧ (X.fn x = true ∨ X.env.scope.names.lookup x = some .local) := by
  simp only [stoB, Bool.and_eq_true, decide_eq_true_eq] at h
  refine ⟨by rw [k.N]; exact h.1, ?_, ?_⟩
  · unfold L2.Loc
    rw [k.sc]
    have h2 := h.2
    split at h2
    · exact .inl (by assumption)
    · exact .inr (by assumption)
    · exact nomatch h2
  · rw [k.sc]
    have h2 := h.2
    split at h2
    · exact .inr (by assumption)
    · exact .inl (k.fn x h2)
    · exact nomatch h2
theorem asg_star : ∀ {es : List Expr} {env : PySem.Env}, es.all notStar = true → (assignEach es env).length = es.length ∧ (assignEach es env).findIdx? (·.1) = none
  | [], _, _ => ⟨rfl, rfl⟩
  | e :: es, env, h => by
    rw [List.all_cons, Bool.and_eq_true] at h
    obtain ⟨a, b⟩ := asg_star (es := es) (env := env) h.2
    have e1 : assignEach (e :: es) env = (false, assign e env) :: assignEach es env := by
      cases e <;> first | rfl | cases h.1
    rw [e1]
    refine ⟨congrArg (· + 1) a, ?_⟩
    rw [List.findIdx?_cons, b]; rfl
theorem asg_cons {e : Expr} {es : List Expr} {env : PySem.Env} (h : notStar e = true) : assignEach (e :: es) env = (false, assign e env) :: assignEach es env := by
  cases e <;> first | rfl | cases h
theorem chkP_ok {c : CC} {X : Cx} {W : WX} (k : COk w sp c X W) : ∀ (n : Nat), (∀ (e : Expr) (p : Pat), chkP c n e p = true → PG X e (gP w.K p)) ∧ ∀ (es : List Expr) (ps : List Pat), chkPs c n es ps = true → PGs X es (gPs w.K ps) ∧ es.all notStar = true ∧ es.length = ps.length := by
  intro n
  induction n with
  | zero => exact ⟨fun e p h => (nomatch h), fun es ps h => (nomatch h)⟩
  | succ n ih =>
    refine ⟨fun e p h => ?_, fun es ps h => ?_⟩
    · cases e <;> cases p <;> first | (simp [chkP] at h; done) | skip
      · obtain ⟨h1, h2, h3⟩ := sto_of k (show stoB c _ _ = true from h)
        exact pg_name k.nd h1 h2 h3
      · rename_i ps _ _ _
        obtain ⟨a, b, d⟩ := ih.2 _ _ (show chkPs c n _ _ = true from h)
        rw [← k.g.K] at a ⊢
        obtain ⟨e1, e2⟩ := asg_star (env := X.env) b
        simp only [gP]
        exact pg_tup k.calm a (by rw [e1, d]) e2
    · cases es <;> cases ps <;> first | (simp [chkPs] at h; done) | skip
      · exact ⟨pgs_nil, rfl, rfl⟩
      · simp only [chkPs, Bool.and_eq_true] at h
        obtain ⟨a, b, d⟩ := ih.2 _ _ h.2
        refine ⟨pgs_cons (ih.1 _ _ h.1.2) a (by rw [asg_cons h.1.1]; rfl), by rw [List.all_cons, h.1.1, b]; rfl, congrArg (· + 1) d⟩
end
end VB
set_option Elab.async false
set_option linter.all false
set_option maxRecDepth 100000
set_option maxHeartbeats 4000000
namespace VB
open PySem PySem.Spec L2
open PyProof.Rows hiding St

structure CIH (w : Wd) (sp : Str → Sp) (c : CC) (n : Nat) (X : Cx) (W : WX) : Prop where
  e : ∀ {e ir}, chkE c n e ir = true → PE X e (tX w sp W ir).1
  t : ∀ {e ir}, chkT c n e ir = true → PT X e (tX w sp W ir).2
  l : ∀ {es irs}, chkL c n es irs = true → PA X es (tXs w sp W irs)
  cs : ∀ {es irs}, chkCs c n es irs = true → PTs X es (tCs w sp W irs)
  s : ∀ {e k irs tup tg}, chkSrc c n e k irs tup = true → (tup = true → ∃ a b d, tg = .Tuple a b d) → PI X tg e (tSrc w.K (tXs w sp W irs) k)
  op : ∀ {e o es}, (∃ a b d p, e = .Compare a b d p) → chkE c n e (.op o es) = true → PT X e (tX w sp W (.op o es)).2
  ch : ∀ {e o o' a b d}, chkE c n e (.chain o o' a b d) = true → PT X e (tX w sp W (.chain o o' a b d)).2
def CIHs (w : Wd) (sp : Str → Sp) (n : Nat) : Prop := ∀ c X W, COk w sp c X W → CIH w sp c n X W

section
variable {w : Wd} {sp : Str → Sp} {c : CC} {X : Cx} {W : WX} {n : Nat}
theorem ce_c (k : COk w sp c X W) {e : Expr} {d : D} (h : chkE c (n + 1) e (.c d) = true) : PE X e (tX w sp W (.c d)).1 := by
  simp only [chkE] at h
  split at h
  · split at h
    · rename_i d' hd
      rw [← datEq_eq h]
      exact const_pe hd
    · exact nomatch h
  · simp only [Bool.and_eq_true] at h
    obtain ⟨g, hd, _⟩ := gl_of k h.1
    have h2 := h.2
    split at h2
    · rename_i d' hc
      rw [← datEq_eq h2]
      obtain ⟨v, u, hm, hr, rp⟩ := k.g.consts _ _ hc
      exact (pe_glob g hm hr hd).imp fun σ H Q q => q v rp
    · exact nomatch h2
  · exact nomatch h
theorem ce_v (k : COk w sp c X W) {e : Expr} {i : Nat} (h : (match e with | .Name x _ => visB c x i | _ => false) = true) : PE X e (tVar i) := by
  split at h
  · exact var_of k h
  · exact nomatch h
theorem ce_tup (k : COk w sp c X W) (ih : CIH w sp c n X W) {e : Expr} {es : List E} (h : chkE c (n + 1) e (.tup es) = true) : PE X e (tX w sp W (.tup es)).1 := by
  simp only [chkE] at h
  split at h
  · exact pe_tup (ih.l h)
  · exact nomatch h
theorem ce_lst (k : COk w sp c X W) (ih : CIH w sp c n X W) {e : Expr} {es : List E} (h : chkE c (n + 1) e (.lst es) = true) : PE X e (tX w sp W (.lst es)).1 := by
  simp only [chkE] at h
  split at h
  · exact pe_lst (ih.l h)
  · exact nomatch h
theorem isKey_key {d : D} (h : isKey d = true) : ∃ k, keyD k = d := by
  cases d <;> first | cases h | skip
  · exact ⟨.inl _, rfl⟩
  · exact ⟨.inr _, rfl⟩
theorem rep_key {k : Key} {v : V} {H : Hp} {Z : Zn} (h : Rep w H Z v (keyD k)) : v = kV k := by
  cases k <;> cases h <;> rfl
theorem ce_dic (k : COk w sp c X W) (ih : CIH w sp c n X W) {e : Expr} {ks : List D} {es : List E} (h : chkE c (n + 1) e (.dic ks es) = true) : PE X e (tX w sp W (.dic ks es)).1 := by
  simp only [chkE] at h
  split at h
  · split at h
    · refine pe_dnewK.imp fun σ H Q q => ?_
      rcases q with ⟨_, q⟩ | ⟨_, _, e, _⟩
      · exact q
      · cases e
    · exact nomatch h
  · split at h
    · rename_i kd ev
      simp only [Bool.and_eq_true] at h
      obtain ⟨kk, hk⟩ := isKey_key h.1.1
      refine (pe_disp (pps_cons (ih.e h.1.2) (ih.e h.2).up pps_nil) rfl rfl (List.cons_ne_nil _ _) (by simp)).imp fun σ H Q q => ?_
      rcases q with ⟨e, _⟩ | ⟨k', kd', e, hk', q⟩
      · cases e
      · cases e
        intro p hp v rv
        have ek : k' = kk := by
          have : keyD k' = keyD kk := by rw [hk', hk]
          revert this
          cases k' <;> cases kk <;> intro this <;> cases this <;> rfl
        subst ek
        have ev' := rep_key (w := w) (H := H) (Z := fun _ => False) (by rw [hk]; exact rv _ _)
        subst ev'
        exact ⟨_, q p hp, fun u H2 ⟨h2, v2, e2, q2⟩ => ⟨h2, [(k', u)], rfl, by simp, by cases e2; exact q2⟩⟩
    · exact nomatch h
  · exact nomatch h
theorem isN_pe {a : Expr} {ta : TE} {p : Pos} {j : Nat} {p' : Pos} (h : PE X a ta) : PE X (.Compare a [.Is] [.Constant .none j p'] p) (tIsN ta) := pe_cmp (pc_isN h)
theorem notN_pe {a : Expr} {ta : TE} {p : Pos} {j : Nat} {p' : Pos} (h : PE X a ta) : PE X (.Compare a [.IsNot] [.Constant .none j p'] p) (tNotN ta) := pe_cmp (pc_notN h)
theorem one_up {e : Expr} {t : TE} {K : PySem.W.Frag} {o : BOp} {f : TE → TE} {t' : TE} (h : PE X e (upT t)) (g : ∀ σ H Q, (t σ H fun x H1 => rB K o [x] H1 Q) → t' σ H Q) : True := trivial
theorem tsl_imp {K : PySem.W.Frag} {ta : TE} : True := trivial
theorem sl_both : SlR X (rSl X.K) := SlR.or sl_tupA (SlR.or sl_list sl_str)
theorem ce_op (k : COk w sp c X W) (ih : CIH w sp c n X W) {e : Expr} {o : BOp} {es : List E} (h : chkE c (n + 1) e (.op o es) = true) : PE X e (tX w sp W (.op o es)).1 := by
  simp only [chkE] at h
  simp only [tX, tV]
  have kk : X.K = w.K := k.g.K
  split at h
  · simp only [Bool.and_eq_true, decide_eq_true_eq] at h
    have ho := op_bin (X := X) o h.1.1
    rw [kk] at ho
    exact pe_op ho (ih.e h.1.2) (ih.e h.2)
  · simp only [Bool.and_eq_true, decide_eq_true_eq] at h
    have ho := op_cmp (X := X) k.g.units o h.1.1.1
    rw [kk] at ho
    exact pe_cmpR ho (ih.e h.1.2) (ih.e h.2) (notMarks h.1.1.2)
  · simp only [Bool.and_eq_true, decide_eq_true_eq] at h
    cases h.1
    exact (isN_pe (ih.e h.2).up).imp fun σ H Q q => ⟨_, q, fun v H' ⟨x, e, z⟩ => by cases e; exact z⟩
  · simp only [Bool.and_eq_true, decide_eq_true_eq] at h
    cases h.1
    exact (notN_pe (ih.e h.2).up).imp fun σ H Q q => ⟨_, q, fun v H' ⟨x, e, z⟩ => by cases e; exact z⟩
  · simp only [Bool.and_eq_true, decide_eq_true_eq] at h
    cases h.1
    exact (pe_un un_neg (ih.e h.2).up).imp fun σ H Q q => ⟨_, q, fun v H' ⟨x, e, z⟩ => by cases e; exact z⟩
  · simp only [Bool.and_eq_true, decide_eq_true_eq] at h
    obtain ⟨⟨e1, e2⟩, h⟩ := h
    subst e1 e2
    exact (pe_rev (ih.e h).up).imp fun σ H Q q => ⟨_, q, fun v H' ⟨x, e, z⟩ => by cases e; rw [kk]; exact z⟩
  · simp only [Bool.and_eq_true, decide_eq_true_eq] at h
    cases h.1
    exact (pe_slice sl_both (ih.e h.2).up po_none po_none).imp fun σ H Q q => ⟨_, q, fun v H' ⟨x, e, z⟩ => by cases e; rw [kk]; exact z⟩
  · simp only [Bool.and_eq_true, decide_eq_true_eq] at h
    cases h.1.1
    exact (pe_slice sl_both (ih.e h.1.2).up (po_some (ih.e h.2).up) po_none).imp fun σ H Q q => ⟨_, q, fun x H1 q1 => ⟨_, q1, fun y H2 ⟨x', i, e, z⟩ => by cases e; exact ⟨_, rfl, by rw [kk]; exact z⟩⟩⟩
  · simp only [Bool.and_eq_true, decide_eq_true_eq] at h
    cases h.1.1
    exact (pe_slice sl_both (ih.e h.1.2).up po_none (po_some (ih.e h.2).up)).imp fun σ H Q q => ⟨_, q, fun x H1 q1 => ⟨_, q1, fun y H2 ⟨x', i, e, z⟩ => by cases e; exact ⟨_, rfl, by rw [kk]; exact z⟩⟩⟩
  · simp only [Bool.and_eq_true, decide_eq_true_eq] at h
    obtain ⟨⟨⟨⟨⟨e1, e2⟩, e3⟩, ha⟩, hb⟩, hd⟩ := h
    cases e1; cases e2; cases e3
    refine (pe_slice sl_both (ih.e ha).up (po_some (ih.e hb).up) (po_some (ih.e hd).up)).imp fun σ H Q q => ⟨_, q, fun x H1 q1 => ⟨_, q1, fun y H2 q2 => ?_⟩⟩
    obtain ⟨_, _, e, i, j, e1, e2, q3⟩ := q2 (.int 0) fun _ _ => .int 0
    cases e
    cases e2
    subst e1
    refine ⟨i, rfl, _, q3, fun z H3 ⟨x', i', j, e, z⟩ => ?_⟩
    cases e
    exact ⟨_, rfl, by rw [kk]; rw [show i - 0 = i from by omega] at z; exact z⟩
  · simp only [Bool.and_eq_true, decide_eq_true_eq] at h
    cases h.1.1.1
    have ho := ix_seq (X := X)
    rw [kk] at ho
    exact (pe_ix ho (ih.e h.1.2).up (ih.e h.2).up (plainIx h.1.1.2)).imp fun σ H Q q => ⟨_, q, fun x H1 q1 => ⟨_, q1, fun y H2 ⟨x', y', e, z⟩ => by cases e; exact z⟩⟩
  · simp only [Bool.and_eq_true, decide_eq_true_eq] at h
    obtain ⟨⟨⟨⟨⟨e1, hn⟩, e2⟩, hs⟩, hp⟩, hc⟩ := h
    cases e1; cases e2
    have e3 := nm_eq hn
    subst e3
    refine (pe_join pe_str (ih.e hc).up (by rw [star_cons hs]; rfl) rfl hp).imp fun σ H Q q => ⟨⟨_, rfl⟩, _, q _ fun _ _ => .str _, fun y H' z => ?_⟩
    obtain ⟨a, p, ys, e, hq, hl, z⟩ := z
    cases e
    exact ⟨_, _, _, rfl, rfl, by rw [kk]; exact hq, hl, z⟩
  · rename_i f _ args _ _
    simp only [Bool.and_eq_true, Bool.or_eq_true] at h
    obtain ⟨hf, (h | h) | h⟩ := h
    · split at h
      · rename_i hb
        simp only [Bool.and_eq_true, decide_eq_true_eq] at h
        have hs := chk_star h.2
        have := fun p pos => call_blt k (p := p) (pos := pos) hb h.1.2 hf h.1.1 hs.1 hs.2 (ih.l h.2)
        rw [kk] at this
        exact this _ _
      · exact nomatch h
    · split at h
      · rename_i hb
        simp only [Bool.and_eq_true, decide_eq_true_eq] at h
        have hs := chk_star h.2
        have := fun p pos => call_ty k (p := p) (pos := pos) hb h.1.2 hf h.1.1 hs.1 hs.2 (ih.l h.2)
        rw [kk] at this
        exact this _ _
      · exact nomatch h
    · split at h
      · simp only [Bool.and_eq_true] at h
        have := fun p p' pos => call_isa k (p := p) (p' := p') (pos := pos) hf h.1.1.1.1.1 h.1.1.1.1.2 h.1.1.1.2 h.1.1.2 h.1.2 (ih.e h.2)
        rw [kk] at this
        exact this _ _ _
      · exact nomatch h
  · exact nomatch h
theorem ce_and (k : COk w sp c X W) (ih : CIH w sp c n X W) {e : Expr} {a b : E} (h : chkE c (n + 1) e (.and a b) = true) : PE X e (tX w sp W (.and a b)).1 := by
  simp only [chkE] at h
  split at h
  · simp only [Bool.and_eq_true] at h
    exact pe_and (ih.e h.1) (pe_one (ih.e h.2))
  · simp only [Bool.and_eq_true] at h
    exact pe_and (ih.e h.1) (ih.e h.2)
  · exact nomatch h
theorem ce_or (k : COk w sp c X W) (ih : CIH w sp c n X W) {e : Expr} {a b : E} (h : chkE c (n + 1) e (.or a b) = true) : PE X e (tX w sp W (.or a b)).1 := by
  simp only [chkE] at h
  split at h
  · simp only [Bool.and_eq_true] at h
    exact pe_or (ih.e h.1) (pe_one (ih.e h.2))
  · simp only [Bool.and_eq_true] at h
    exact pe_or (ih.e h.1) (ih.e h.2)
  · exact nomatch h
theorem ce_not (k : COk w sp c X W) (ih : CIH w sp c n X W) {e : Expr} {a : E} (h : chkE c (n + 1) e (.not a) = true) : PE X e (tX w sp W (.not a)).1 := by
  simp only [chkE] at h
  split at h
  · exact pe_not (ih.e h)
  · exact nomatch h
theorem ce_ite (k : COk w sp c X W) (ih : CIH w sp c n X W) {e : Expr} {t a b : E} (h : chkE c (n + 1) e (.ite t a b) = true) : PE X e (tX w sp W (.ite t a b)).1 := by
  simp only [chkE] at h
  split at h
  · simp only [Bool.and_eq_true] at h
    exact pe_ifExp (ih.t h.1.1) (ih.e h.1.2) (ih.e h.2)
  · exact nomatch h
theorem last_marks {p q : CmpOp} {y z : Expr} (h : notSet z = true) : lastMarks [p, q] [y, z] = false := by
  cases z <;> first | rfl | cases h
theorem ce_chain (k : COk w sp c X W) (ih : CIH w sp c n X W) {e : Expr} {o o' : BOp} {a b d : E} (h : chkE c (n + 1) e (.chain o o' a b d) = true) : PE X e (tX w sp W (.chain o o' a b d)).1 := by
  simp only [chkE] at h
  have kk : X.K = w.K := k.g.K
  split at h
  · simp only [Bool.and_eq_true, decide_eq_true_eq] at h
    have ho := op_cmp (X := X) k.g.units o h.1.1.1.1.1
    have ho' := op_cmp (X := X) k.g.units o' h.1.1.1.1.2
    rw [kk] at ho ho'
    exact pe_chain ho ho' (ih.e h.1.1.2) (ih.e h.1.2) (ih.e h.2) (last_marks h.1.1.1.2)
  · exact nomatch h
theorem chain_pt (k : COk w sp c X W) (ih : CIH w sp c n X W) {e : Expr} {o o' : BOp} {a b d : E} (h : chkE c (n + 1) e (.chain o o' a b d) = true) : PT X e (tX w sp W (.chain o o' a b d)).2 := by
  simp only [chkE] at h
  have kk : X.K = w.K := k.g.K
  split at h
  · simp only [Bool.and_eq_true, decide_eq_true_eq] at h
    have ho := op_cmp (X := X) k.g.units o h.1.1.1.1.1
    have ho' := op_cmp (X := X) k.g.units o' h.1.1.1.1.2
    rw [kk] at ho ho'
    exact pt_chain ho ho' (ih.e h.1.1.2) (ih.e h.1.2) (ih.e h.2) (last_marks h.1.1.1.2)
  · exact nomatch h
theorem ce_call (k : COk w sp c X W) (ih : CIH w sp c n X W) {e : Expr} {f : Str} {es : List E} (h : chkE c (n + 1) e (.call f es) = true) : PE X e (tX w sp W (.call f es)).1 := by
  simp only [chkE] at h
  split at h
  · simp only [Bool.and_eq_true, decide_eq_true_eq, List.contains_iff_mem] at h
    obtain ⟨⟨⟨e1, hg⟩, hd⟩, hl⟩ := h
    subst e1
    obtain ⟨a, fd, ps, m, F, hr, hm, hk, hb⟩ := k.g.defs _ hd
    obtain ⟨g, hdb, hnn⟩ := gl_of k hg
    have hs := chk_star hl
    have pa := ih.l hl
    rename_i args _
    cases es with
    | nil =>
      cases args with
      | cons x0 xs0 => exact nomatch hs.2
      | nil =>
        have := fun p pos => pe_callG0 (p := p) (pos := pos) F hr k.g.guards g hm hk hb (fun σ => passAt k.tk σ) hdb
        exact (this _ _).imp fun σ H Q q => q
    | cons e0 es0 =>
      cases args with
      | nil => exact nomatch hs.2
      | cons x0 xs0 =>
        have h0 := hs.1
        rw [List.all_cons, Bool.and_eq_true] at h0
        have := fun p pos => pe_callG (p := p) (pos := pos) F hr k.g.guards g hm hk hb (fun σ => passAt k.tk σ) pa hdb (star_cons h0.1) (star_all h0.2)
        refine (this _ _).imp fun σ H Q q => ?_
        exact q
  · exact nomatch h
end
end VB
set_option Elab.async false
set_option linter.all false
set_option maxRecDepth 100000
set_option maxHeartbeats 4000000
namespace VB
open PySem PySem.Spec L2
open PyProof.Rows hiding St

section
variable {w : Wd} {sp : Str → Sp} {c : CC} {X : Cx} {W : WX} {n : Nat}
theorem all_not : ∀ {l : List (Bool × Sem Value)}, (l.any (·.1)) = false → (l.all fun x => !x.1) = true
  | [], _ => rfl
  | x :: l, h => by
    rw [List.any_cons, Bool.or_eq_false_iff] at h
    rw [List.all_cons, h.1, all_not h.2]; rfl
theorem star_first {e : Expr} {es : List Expr} {pos : Pos} {env : PySem.Env} (h : (e :: es).all notStar = true) : ((backTo pos (starEach (e :: es) env)).any (·.1)) = false := star_all h
theorem bm_side {args : List Expr} {pos : Pos} {env : PySem.Env} (h : args.all notStar = true) (hl : args.length < 30) :
    ((((backTo pos (starEach args env)).all fun x => !x.fst) && (backToKw pos (keywordEach [] env)).all fun x => x.fst.isSome) && decide ((args.length + ([] : List (Option Str × Expr)).length + if ([] : List (Option Str × Expr)).isEmpty = true then 0 else 1) < 30)) = true := by
  rw [all_not (star_all h)]
  show (true && true && decide (args.length + 0 + 0 < 30)) = true
  rw [decide_eq_true (by omega)]; rfl
/-- a list's method -/
theorem mt_call {id nme : String} {r : V → List V → Hp → VK → Prop} {x : Str} {i : Nat} {px apos cpos : Pos} {args : List Expr} {es : List E} (hsl : Slot "list" (Str.ofString nme) id) (hty : typeOf (Value.builtin id) = pure (Value.type "method_descriptor")) (hr : MtR X id r)
    (hx : PE X (.Name x px) (tVar i)) (ha : PA X args (tXs w sp W es)) (hs : args.all notStar = true) (hl : args.length = es.length) (h30 : es.length < 30) (hp : (apos.endLine == cpos.line) = true) :
    PE X (.Call (.Attribute (.Name x px) (Str.ofString nme) apos) args [] cpos) (fun σ H Q => ∃ v, σ[i]? = some (some v) ∧ tyV X.K "list" v H ∧ tXs w sp W es σ H fun vs H1 => r v vs H1 Q) := by
  cases args with
  | nil =>
    cases es with
    | nil => exact (pe_bm0 PySem.F.plainAttrs_list hsl hty hr hx rfl hp).imp fun σ H Q q => q
    | cons _ _ => exact nomatch hl
  | cons e0 es0 =>
    have h0 := hs
    rw [List.all_cons, Bool.and_eq_true] at h0
    exact (pe_bm PySem.F.plainAttrs_list hsl hty hr hx ha rfl (bm_side hs (by rw [hl]; exact h30)) hp (star_cons h0.1) (star_all h0.2)).imp fun σ H Q q => q
theorem ce_mut (k : COk w sp c X W) (ih : CIH w sp c n X W) {e : Expr} {m : MOp} {i : Nat} {es : List E} (h : chkE c (n + 1) e (.mut m i es) = true) : PE X e (tX w sp W (.mut m i es)).1 := by
  simp only [chkE] at h
  have kk : X.K = w.K := k.g.K
  split at h
  · simp only [Bool.and_eq_true, decide_eq_true_eq] at h
    obtain ⟨⟨⟨⟨⟨hv, hn⟩, hl⟩, h30⟩, hp⟩, hc⟩ := h
    have hs := chk_star hc
    have e1 := nm_eq hn
    subst e1
    simp only [tX, tV]
    rw [← kk]
    have pa := ih.l hc
    cases m
    · exact mt_call PySem.F.slot_list_append PySem.F.type_list_append mt_append (var_of k hv) pa hs.1 hs.2 h30 hp
    · exact mt_call PySem.F.slot_list_extend PySem.F.type_list_extend mt_extend (var_of k hv) pa hs.1 hs.2 h30 hp
    · exact mt_call PySem.F.slot_list_pop PySem.F.type_list_pop mt_pop (var_of k hv) pa hs.1 hs.2 h30 hp
    · exact mt_call PySem.F.slot_list_pop PySem.F.type_list_pop mt_popAt (var_of k hv) pa hs.1 hs.2 h30 hp
    · exact mt_call PySem.F.slot_list_clear PySem.F.type_list_clear mt_clear (var_of k hv) pa hs.1 hs.2 h30 hp
    · exact mt_call PySem.F.slot_list_reverse PySem.F.type_list_reverse mt_reverse (var_of k hv) pa hs.1 hs.2 h30 hp
  · exact nomatch h
theorem relabel_lookup {scope : Scope} {env : PySem.Env} {names : List (Str × NameKind)} (hk : env.scope.kind = .function) (hn : ∀ x, env.scope.names.lookup x = names.lookup x) : (relabel scope env).names = relN scope.names names := by
  unfold relabel relN
  refine List.map_congr_left fun p _ => ?_
  obtain ⟨m, kd⟩ := p
  simp only [hk, Env.kindOf, hn]
  cases kd <;> rfl
theorem g_blk (k : GOk w sp c X) {s : Shared} {H : Hp} {sc : Scope} {env : PySem.Env} {fp : List Addr} {nm' : List (Str × NameKind)} {fb : Str → Bool} : GOk w sp { c with names := nm', fnb := fb } (X.blk s H sc env fp) := ⟨k.K, k.defs, k.consts, k.frees, k.units, k.guards⟩
theorem k_blk (k : COk w sp c X W) {s : Shared} {H : Hp} {sc : Scope} {C : Addr} {cl : List (Str × Addr)} {fp : List Addr} (hk : sc.kind = .function) :
    COk w sp { c with names := relN sc.names c.names, fnb := fun x => sc.names.lookup x == some .cell } (X.blk s H sc (compEnvC sc cl C X.env) fp) W0 := by
  refine ⟨g_blk k.g, k.N, k.nd, fun x => ?_, hk, k.calm, takes0, fun x h => h⟩
  show (relabel sc X.env).names.lookup x = _
  rw [relabel_lookup k.kind k.sc]
theorem blk_of (k : COk w sp c X W) {scope : Scope} {own : List (Str × Nat)} (h : blkC c.N { kind := .function, names := c.names, isGenerator := false, isCoroutine := false } scope own = true) : BlkOk X.N X.env.scope scope own := by
  have b := blkOk_by h
  rw [k.N]
  exact ⟨b.kind, b.uniq, b.ix, fun y hy hf => by rw [k.sc]; exact b.free y hy hf, b.own⟩
theorem snd_own {N : List Str} : ∀ (own : List Nat), (own.map fun i => (N.getD i "", i)).map (fun x => x.snd) = own
  | [] => rfl
  | i :: l => by rw [List.map_cons, List.map_cons, snd_own l]
theorem tup_of {tg : Expr} (h : (match tg with | .Tuple .. => true | _ => false) = true) : ∃ a b d, tg = .Tuple a b d := by
  split at h
  · exact ⟨_, _, _, rfl⟩
  · exact nomatch h
/-- the parts of a list comprehension -/
structure LcParts (w : Wd) (sp : Str → Sp) (X : Cx) (W : WX) (el tg iter : Expr) (ifs : List Expr) (scope : Scope) (own : List (Str × Nat)) (kk : SrcK) (src : List E) (p : Pat) (conds : List E) (elt : E) : Prop where
  i : PI X tg iter (tSrc w.K (tXs w sp W src) kk)
  b : BlkOk X.N X.env.scope scope own
  g : ∀ s H C cl fp, PG (X.blk s H scope (compEnvC scope cl C X.env) fp) tg (gP w.K p)
  c : ∀ s H C cl fp, PTs (X.blk s H scope (compEnvC scope cl C X.env) fp) ifs (tCs w sp W0 conds)
  e : ∀ s H C cl fp, PE (X.blk s H scope (compEnvC scope cl C X.env) fp) el (tX w sp W0 elt).1
  f : ∀ x, foldedSetIterable iter X.env x = pure x
theorem lc_parts (k : COk w sp c X W) (ih : CIHs w sp n) {e : Expr} {own : List Nat} {kk : SrcK} {src : List E} {p : Pat} {conds : List E} {elt : E} (h : chkE c (n + 1) e (.comp own kk src p conds elt) = true) :
    ∃ el tg iter ifs scope pos own', e = .ListComp el [⟨tg, iter, ifs, 0⟩] scope pos ∧ own'.map (fun (x : Str × Nat) => x.snd) = own ∧ LcParts w sp X W el tg iter ifs scope own' kk src p conds elt := by
  simp only [chkE] at h
  split at h
  · simp only [Bool.and_eq_true, decide_eq_true_eq] at h
    obtain ⟨⟨⟨⟨⟨⟨hz, hns⟩, hb⟩, hs⟩, hp⟩, hc⟩, he⟩ := h
    cases hz
    have bo := blk_of k hb
    exact ⟨_, _, _, _, _, _, _, rfl, snd_own own, (ih _ _ _ k).s hs tup_of, bo,
      fun s H C cl fp => (chkP_ok (k_blk k bo.kind) n).1 _ _ hp,
      fun s H C cl fp => (ih _ _ _ (k_blk k bo.kind)).cs hc,
      fun s H C cl fp => (ih _ _ _ (k_blk k bo.kind)).e he, foldedNo hns⟩
  · exact nomatch h
theorem ce_comp (k : COk w sp c X W) (ih : CIHs w sp n) {e : Expr} {own : List Nat} {kk : SrcK} {src : List E} {p : Pat} {conds : List E} {elt : E} (h : chkE c (n + 1) e (.comp own kk src p conds elt) = true) : PE X e (tX w sp W (.comp own kk src p conds elt)).1 := by
  obtain ⟨el, tg, iter, ifs, scope, pos, own', e1, e2, L⟩ := lc_parts k ih h
  subst e1
  simp only [tX, tV]
  rw [← e2]
  exact pe_lc k.calm k.nd L.i L.b L.g L.c L.e L.f
theorem ce_all (k : COk w sp c X W) (ih : CIHs w sp n) {e : Expr} {ir : E} (h : chkE c (n + 1) e ir = true) : PE X e (tX w sp W ir).1 := by
  have i := ih _ _ _ k
  cases ir with
  | c d => exact ce_c k h
  | v i =>
    simp only [chkE] at h
    split at h
    · exact var_of k h
    · exact nomatch h
  | mov i =>
    simp only [chkE] at h
    split at h
    · exact var_of k h
    · exact nomatch h
  | frz i =>
    simp only [chkE] at h
    split at h
    · exact var_of k h
    · exact nomatch h
  | lend i =>
    simp only [chkE] at h
    split at h
    · exact var_of k h
    · exact nomatch h
  | tup es => exact ce_tup k i h
  | lst es => exact ce_lst k i h
  | dic ks es => exact ce_dic k i h
  | op o es => exact ce_op k i h
  | and a b => exact ce_and k i h
  | or a b => exact ce_or k i h
  | not a => exact ce_not k i h
  | ite t a b => exact ce_ite k i h
  | chain o o' a b d => exact ce_chain k i h
  | call f es => exact ce_call k i h
  | «mut» m j es => exact ce_mut k i h
  | comp own kk src p conds elt => exact ce_comp k ih h
theorem pw_pt {op : BoolOp} {es : List Expr} {pos : Pos} {t : TT} (h : PW X (.BoolOp op es pos) t) : PT X (.BoolOp op es pos) t := ⟨fun pins s σ H Q I q => h.run _ pins s σ H Q I q⟩
theorem pt_pw {op : BoolOp} {e : Expr} {es : List Expr} {pos : Pos} {t : TT} (h : PT X (.BoolOp op (e :: es) pos) t) : PW X (.BoolOp op (e :: es) pos) t := ⟨fun whole pins s σ H Q I q => by
    have e1 : PySem.isTrue (.BoolOp op (e :: es) pos) X.env whole = PySem.isTrue (.BoolOp op (e :: es) pos) X.env (eval (.BoolOp op (e :: es) pos) X.env) := by
      cases op <;> rfl
    rw [e1]
    exact h.run pins s σ H Q I q⟩
theorem ct_op (k : COk w sp c X W) (ih : CIH w sp c n X W) {e : Expr} {o : BOp} {es : List E} (hc : ∃ a b d p, e = .Compare a b d p) (h : chkE c (n + 1) e (.op o es) = true) : PT X e (tX w sp W (.op o es)).2 := by
  obtain ⟨_, _, _, _, rfl⟩ := hc
  simp only [chkE] at h
  simp only [tX, tV]
  have kk : X.K = w.K := k.g.K
  split at h
  · rename_i e; cases e
  · rename_i e; cases e
    simp only [Bool.and_eq_true, decide_eq_true_eq] at h
    have ho := op_cmp (X := X) k.g.units o h.1.1.1
    rw [kk] at ho
    exact pt_cmpR ho (ih.e h.1.2) (ih.e h.2) (notMarks h.1.1.2)
  · rename_i e; cases e
    simp only [Bool.and_eq_true, decide_eq_true_eq] at h
    cases h.1
    exact (pt_cmp (pc_isN (ih.e h.2).up)).imp fun σ H Q q => ⟨_, q, fun v H' ⟨x, e, z⟩ => by cases e; exact z⟩
  · rename_i e; cases e
    simp only [Bool.and_eq_true, decide_eq_true_eq] at h
    cases h.1
    exact (pt_cmp (pc_notN (ih.e h.2).up)).imp fun σ H Q q => ⟨_, q, fun v H' ⟨x, e, z⟩ => by cases e; exact z⟩
  all_goals first | (rename_i e; cases e; done) | exact nomatch h
/-- tests -/
theorem ct_all (k : COk w sp c X W) (ih : CIHs w sp n) {e : Expr} {ir : E} (h : chkT c (n + 1) e ir = true) : PT X e (tX w sp W ir).2 := by
  have i := ih _ _ _ k
  have kk : X.K = w.K := k.g.K
  unfold chkT at h
  split at h
  · simp only [Bool.and_eq_true] at h
    exact pw_pt (pw_and (i.t h.1) (pw_and1 (i.t h.2)))
  · simp only [Bool.and_eq_true] at h
    exact pw_pt (pw_and (i.t h.1) (pt_pw (i.t h.2)))
  · simp only [Bool.and_eq_true] at h
    exact pw_pt (pw_or (i.t h.1) (pw_or1 (i.t h.2)))
  · simp only [Bool.and_eq_true] at h
    exact pw_pt (pw_or (i.t h.1) (pt_pw (i.t h.2)))
  · exact pt_not (i.t h)
  · exact i.op ⟨_, _, _, _, rfl⟩ h
  · exact i.ch h
  · exact pt_val (i.e h)
  · exact pt_val (i.e h)
  · exact pt_val (i.e h)
  · exact pt_val (i.e h)
  · exact pt_val (i.e h)
  · exact pt_val (i.e h)
  · exact pt_val (i.e h)
  · exact nomatch h
theorem cl_all (k : COk w sp c X W) (ih : CIHs w sp n) {es : List Expr} {irs : List E} (h : chkL c (n + 1) es irs = true) : PA X es (tXs w sp W irs) := by
  have i := ih _ _ _ k
  cases es <;> cases irs <;> simp only [chkL] at h <;> first | cases h | skip
  · exact pa_nil
  · simp only [Bool.and_eq_true] at h
    exact pa_cons (i.e h.1.2) (i.l h.2) (star_cons h.1.1)
theorem cc_all (k : COk w sp c X W) (ih : CIHs w sp n) {es : List Expr} {irs : List E} (h : chkCs c (n + 1) es irs = true) : PTs X es (tCs w sp W irs) := by
  have i := ih _ _ _ k
  rcases es with _ | ⟨e, _ | ⟨e', es⟩⟩ <;> rcases irs with _ | ⟨ir, _ | ⟨ir', irs⟩⟩ <;> simp only [chkCs] at h <;> first | cases h | skip
  · exact pts_nil
  · exact pts_one (i.t h)
theorem seq_all (k : COk w sp c X W) {e tg : Expr} {a : E} (h : PE X e (tX w sp W a).1) : PI X tg e (tSrc w.K (tXs w sp W [a]) .seq) := by
  have kk : X.K = w.K := k.g.K
  have h1 := h.up
  have := (pi_list (tg := tg) h1).or ((pi_tup (tg := tg) h1).or (pi_str (tg := tg) h1))
  rw [kk] at this
  refine this.imp fun σ H R q => ?_
  rcases q with q | q | q
  · exact .inl ⟨_, q, fun v H' ⟨a, e, z⟩ => by cases e; exact ⟨_, rfl, z⟩⟩
  · exact .inr (.inl ⟨_, q, fun v H' ⟨a, e, z⟩ => by cases e; exact ⟨_, rfl, z⟩⟩)
  · exact .inr (.inr ⟨_, q, fun v H' ⟨a, e, z⟩ => by cases e; exact ⟨_, rfl, z⟩⟩)
theorem one_of {args : List Expr} {es : List E} (h : args.length = es.length) (h1 : es.length = 1) : ∃ a, args = [a] := by
  rcases args with _ | ⟨a, _ | ⟨b, r⟩⟩
  · simp at h; omega
  · exact ⟨a, rfl⟩
  · simp at h; omega
theorem two_of {args : List Expr} {es : List E} (h : args.length = es.length) (h1 : es.length = 2) : ∃ a b, args = [a, b] := by
  rcases args with _ | ⟨a, _ | ⟨b, _ | ⟨d, r⟩⟩⟩
  · simp at h; omega
  · simp at h; omega
  · exact ⟨a, b, rfl⟩
  · simp at h; omega
def upA (t : TA) : TA := fun σ H Q => ∃ Q', t σ H Q' ∧ ∀ v H', Q' v H' → Q v H'
theorem _root_.L2.PA.up {es : List Expr} {t : TA} (h : PA X es t) : PA X es (upA t) := ⟨fun pos pins s σ H Q I ⟨Q', q, k⟩ => thn (h.run pos pins s σ H Q' I q) fun u s' ⟨v, H', I', r, z⟩ => ⟨v, H', I', r, k v H' z⟩⟩
theorem e_one {es : List E} (h1 : es.length = 1) : ∃ a, es = [a] := by
  rcases es with _ | ⟨a, _ | ⟨b, r⟩⟩
  · simp at h1
  · exact ⟨a, rfl⟩
  · simp at h1
theorem e_two {es : List E} (h1 : es.length = 2) : ∃ a b, es = [a, b] := by
  rcases es with _ | ⟨a, _ | ⟨b, _ | ⟨d, r⟩⟩⟩
  · simp at h1
  · simp at h1
  · exact ⟨a, b, rfl⟩
  · simp at h1
theorem rng_all (k : COk w sp c X W) {tg : Expr} {f : Str} {p pos : Pos} {args : List Expr} {es : List E} (hf : freeB c f = true) (hn : nm f "range" = true) (hl : es.length = 1 ∨ es.length = 2) (hs : args.all notStar = true) (hle : args.length = es.length) (pa : PA X args (tXs w sp W es)) :
    PI X tg (.Call (.Name f p) args [] pos) (tSrc w.K (tXs w sp W es) .rng) := by
  obtain ⟨g, m, hd, hnn⟩ := free_of k hf
  have e1 := nm_eq hn
  subst e1
  rcases hl with hl | hl
  · obtain ⟨a, rfl⟩ := one_of hle hl
    simp only [List.all_cons, List.all_nil, Bool.and_true] at hs
    obtain ⟨ir, rfl⟩ := e_one hl
    refine (pi_range1 g m pa.up (star_cons hs)).imp fun σ H R q => ?_
    rcases q with q | q
    · exact ⟨_, q, fun _ _ z => z⟩
    · exact ⟨fun vs H1 => ∃ i j, [vs.headD .non] = [V.int i, .int j] ∧ (-2 ^ 62 ≤ i ∧ i < 2 ^ 62 ∧ -2 ^ 62 ≤ j ∧ j < 2 ^ 62) ∧ R (Itr i (j - i).toNat) H1, q, fun vs H' ⟨i, j, e, _⟩ => absurd (congrArg List.length e) (by simp)⟩
  · obtain ⟨a, b, rfl⟩ := two_of hle hl
    simp only [List.all_cons, List.all_nil, Bool.and_true, Bool.and_eq_true] at hs
    obtain ⟨ir, ir', rfl⟩ := e_two hl
    refine (pi_range2 g m pa.up (by rw [star_cons hs.1, star_cons hs.2]; rfl) (star_cons hs.2)).imp fun σ H R q => ?_
    rcases q with q | q
    · exact ⟨fun vs H1 => ∃ j, [vs.headD .non, vs.tail.headD .non] = [V.int j] ∧ -2 ^ 62 ≤ j ∧ j < 2 ^ 62 ∧ R (Itr 0 j.toNat) H1, q, fun vs H' ⟨j, e, _⟩ => absurd (congrArg List.length e) (by simp)⟩
    · exact ⟨_, q, fun _ _ z => z⟩
theorem cs_all (k : COk w sp c X W) (ih : CIHs w sp n) {e tg : Expr} {kd : SrcK} {irs : List E} {tup : Bool} (h : chkSrc c (n + 1) e kd irs tup = true) (ht : tup = true → ∃ a b d, tg = .Tuple a b d) : PI X tg e (tSrc w.K (tXs w sp W irs) kd) := by
  have i := ih _ _ _ k
  have kk : X.K = w.K := k.g.K
  cases kd <;> simp only [chkSrc] at h
  · split at h
    · exact seq_all k (i.e h)
    · exact nomatch h
  · split at h
    · simp only [Bool.and_eq_true, Bool.or_eq_true, decide_eq_true_eq] at h
      have hs := chk_star h.2
      exact rng_all k h.1.1.1 h.1.1.2 h.1.2 hs.1 hs.2 (i.l h.2)
    · exact nomatch h
  · split at h
    · simp only [Bool.and_eq_true, decide_eq_true_eq] at h
      obtain ⟨⟨⟨⟨ht', hf⟩, hn⟩, hl⟩, hc⟩ := h
      have hs := chk_star hc
      have pa := i.l hc
      obtain ⟨g, m, hd, hnn⟩ := free_of k hf
      have e1 := nm_eq hn
      subst e1
      obtain ⟨x, rfl⟩ := one_of hs.2 hl
      obtain ⟨a, b, d, rfl⟩ := ht ht'
      have h1 := hs.1
      simp only [List.all_cons, List.all_nil, Bool.and_true] at h1
      rw [← kk]
      exact pi_enum g m pa (star_cons h1)
    · exact nomatch h
  · split at h
    · simp only [Bool.and_eq_true, decide_eq_true_eq] at h
      obtain ⟨⟨⟨⟨ht', hf⟩, hn⟩, hl⟩, hc⟩ := h
      have hs := chk_star hc
      have pa := i.l hc
      obtain ⟨g, m, hd, hnn⟩ := free_of k hf
      have e1 := nm_eq hn
      subst e1
      obtain ⟨x, y, rfl⟩ := two_of hs.2 hl
      obtain ⟨a, b, d, rfl⟩ := ht ht'
      have h1 := hs.1
      simp only [List.all_cons, List.all_nil, Bool.and_true, Bool.and_eq_true] at h1
      rw [← kk]
      exact pi_zip g m pa (star_cons h1.1) (star_all (es := [y]) (by simp [h1.2]))
    · exact nomatch h
  · split at h
    · simp only [Bool.and_eq_true, decide_eq_true_eq] at h
      obtain ⟨⟨⟨hf, hn⟩, hl⟩, hc⟩ := h
      have hs := chk_star hc
      have pa := i.l hc
      obtain ⟨g, m, hd, hnn⟩ := free_of k hf
      have e1 := nm_eq hn
      subst e1
      obtain ⟨x, rfl⟩ := one_of hs.2 hl
      have h1 := hs.1
      simp only [List.all_cons, List.all_nil, Bool.and_true] at h1
      rw [← kk]
      exact pi_reversed g m pa (star_cons h1)
    · exact nomatch h
theorem chk_ok (w : Wd) (sp : Str → Sp) : ∀ n, CIHs w sp n := by
  intro n
  induction n with
  | zero => exact fun c X W k => ⟨fun h => (nomatch h), fun h => (nomatch h), fun h => (nomatch h), fun h => (nomatch h), fun h => (nomatch h), fun _ h => (nomatch h), fun h => (nomatch h)⟩
  | succ n ih => exact fun c X W k => ⟨ce_all k ih, ct_all k ih, cl_all k ih, cc_all k ih, fun h ht => cs_all k ih h ht, ct_op k (ih _ _ _ k), chain_pt k (ih _ _ _ k)⟩
end
end VB
set_option Elab.async false
set_option linter.all false
set_option maxRecDepth 100000
set_option maxHeartbeats 4000000
namespace VB
open PySem PySem.Spec L2
open PyProof.Rows hiding St

structure SOk (w : Wd) (sp : Str → Sp) (c : CC) (X : Cx) (W : WX) : Prop where
  k : COk w sp c X W
  own : PassesOwn (model X.prog X.w) X.A X.env X.xe
structure SIH (w : Wd) (sp : Str → Sp) (c : CC) (n : Nat) (X : Cx) (W : WX) : Prop where
  s : ∀ {st s}, chkS c n st s = true → PS X st (tS w sp W s)
  ss : ∀ {sts ss}, chkSs c n sts ss = true → PSs X sts (tSs w sp W ss)
section
variable {w : Wd} {sp : Str → Sp} {c : CC} {X : Cx} {W : WX} {n : Nat}
theorem sw_no {v : Expr} {t : Option Expr} {l : Nat} {env : PySem.Env} (h : notComp v = true) : swapsWith v t l env = pure false := by
  cases v <;> first | rfl | cases h
theorem sw_cell {v : Expr} {x : Str} {p : Pos} {l : Nat} {env : PySem.Env} (h : env.scope.names.lookup x = some .cell) (hl : ∃ a b d q, v = .ListComp a b d q) : swapsWith v (some (.Name x p)) l env = pure false := by
  obtain ⟨a, b, d, q, rfl⟩ := hl
  have e : (env.kindOf x == some NameKind.local) = false := by
    show (env.scope.names.lookup x == some NameKind.local) = false
    rw [h]; rfl
  show pure (env.blockKind == ScopeKind.function && env.kindOf x == some NameKind.local && p.line == q.line && _) = pure false
  rw [e]
  cases (env.blockKind == ScopeKind.function) <;> rfl
theorem sw_par {x y : Str} {px py tp up : Pos} {tk uk : Nat} {u v : Expr} {env : PySem.Env} (hk : env.scope.kind = .function) (hx : env.scope.names.lookup x = some .local) (hy : env.scope.names.lookup y = some .local) (hxy : x ≠ y) (hl : (px.line == py.line) = true)
    (hf : [u, v].all (foldedForSure 8) = false) (hc : [u, v].all (constantsAlone 8) = false) (hu : notStar u = true) (hv : notStar v = true) :
    swappedStores [.Tuple [.Name x px, .Name y py] tk tp] (.Tuple [u, v] uk up) env = pure (some [x, y]) := by
  have b : env.blockKind = .function := by unfold Env.blockKind; rw [hk]; rfl
  have kx : env.kindOf x = some .local := hx
  have ky : env.kindOf y = some .local := hy
  have hpy : py.line = px.line := (eq_of_beq hl).symm
  have a : ∀ {e : Expr}, notStar e = true → (match e with | .Starred .. => true | _ => false) = false := by
    intro e h
    cases e <;> first | rfl | (cases h; done)
  have st : ([u, v].any fun x => match x with | .Starred .. => true | _ => false) = false := by
    simp only [List.any_cons, List.any_nil, a hu, a hv]; rfl
  have ed : ([x, y].eraseDups.length) = 2 := by
    have : [x, y].eraseDups = [x, y] := by
      rw [List.eraseDups_cons]
      have : ([y].filter fun b => !b == x) = [y] := by
        have z : (y == x) = false := by simpa using fun h => hxy h.symm
        simp [List.filter, z]
      rw [this, List.eraseDups_cons]
      simp
    rw [this]; rfl
  unfold swappedStores
  simp only [List.filterMap_cons, List.filterMap_nil, Expr.pos]
  simp [b, kx, ky, hpy, hf, hc, Expr.pos]
  rw [if_neg]
  · rw [if_pos ed]
  · rintro (h | h) <;> revert h
    · cases u <;> first | (intro h; cases h; done) | (cases hu; done)
    · cases v <;> first | (intro h; cases h; done) | (cases hv; done)
theorem st_set (k : SOk w sp c X W) {st : Stmt} {i : Nat} {e : E} (h : chkS c (n + 1) st (.set i e) = true) : PS X st (tS w sp W (.set i e)) := by
  simp only [chkS] at h
  split at h
  · rename_i x px v pos
    simp only [Bool.and_eq_true] at h
    obtain ⟨⟨hs, he⟩, hv⟩ := h
    obtain ⟨h1, h2, h3⟩ := sto_of k.k hs
    split at hv
    · rename_i el gens scope vpos
      simp only [Bool.or_eq_true, Bool.and_eq_true, decide_eq_true_eq, Bool.not_eq_true'] at hv
      rcases hv with hv | hv
      · exact ps_set k.k.nd h1 h2 ((chk_ok w sp n _ _ _ k.k).e he) (sw_cell (by rw [k.k.sc]; exact hv) ⟨_, _, _, _, rfl⟩) h3
      · cases e with
        | comp own kk src p conds elt =>
          cases n with
          | zero => exact nomatch he
          | succ n =>
            obtain ⟨el', tg, iter, ifs, scope', pos', own', e1, e2, L⟩ := lc_parts k.k (chk_ok w sp n) he
            cases e1
            simp only [tS, tX, tV]
            rw [← e2]
            by_cases hc : X.env.scope.names.lookup x = some .local
            · exact ps_setLc k.k.calm k.k.nd h1 hc (sw_true k.k.kind hc hv.1 hv.2) L.i L.b L.g L.c L.e L.f
            · refine ps_set k.k.nd h1 h2 (pe_lc k.k.calm k.k.nd L.i L.b L.g L.c L.e L.f) (sw_cell ?_ ⟨_, _, _, _, rfl⟩) h3
              have := h2
              unfold L2.Loc at this
              rcases this with z | z
              · exact absurd z hc
              · exact z
        | _ =>
          cases n with
          | zero => exact nomatch he
          | succ n =>
            simp only [chkE] at he
            first | exact nomatch he | (split at he <;> first | (rename_i e; cases e; done) | exact nomatch he)
    · rename_i hnc
      exact ps_set k.k.nd h1 h2 ((chk_ok w sp n _ _ _ k.k).e he) (sw_no hv) h3
  · exact nomatch h
theorem st_setP (k : SOk w sp c X W) {st : Stmt} {ps : List Pat} {e : E} (h : chkS c (n + 1) st (.setP ps e) = true) : PS X st (tS w sp W (.setP ps e)) := by
  simp only [chkS] at h
  split at h
  · simp only [Bool.and_eq_true] at h
    obtain ⟨⟨⟨hp, he⟩, hc⟩, hv⟩ := h
    have g := (chkP_ok k.k n).1 _ _ hp
    simp only [gP] at g
    refine ps_asg ((chk_ok w sp n _ _ _ k.k).e he) g (by unfold swapsWithSole; exact sw_no hc) ?_ rfl
    rename_i v _
    cases v <;> first | rfl | cases hv
  · exact nomatch h
theorem st_par (k : SOk w sp c X W) {st : Stmt} {i j : Nat} {a b : E} (h : chkS c (n + 1) st (.par i j a b) = true) : PS X st (tS w sp W (.par i j a b)) := by
  simp only [chkS] at h
  split at h
  · simp only [Bool.and_eq_true, decide_eq_true_eq, Bool.not_eq_true'] at h
    obtain ⟨⟨⟨⟨⟨⟨⟨⟨⟨hij, hxy⟩, hi⟩, hj⟩, hx⟩, hy⟩, hl⟩, hf⟩, hc⟩, ha⟩ := h
    have hx' := k.k.sc _ ▸ hx
    have hy' := k.k.sc _ ▸ hy
    refine ps_par k.k.calm k.k.nd (by rw [k.k.N]; exact hi) (by rw [k.k.N]; exact hj) hij hx' hy' ((chk_ok w sp n _ _ _ k.k).l ha) ?_ rfl
    rename_i x px y py tk tp u v uk up pos
    have hs := chk_star ha
    have h1 := hs.1
    simp only [List.all_cons, List.all_nil, Bool.and_true, Bool.and_eq_true] at h1
    exact sw_par k.k.kind hx' hy' hxy hl (by simpa using hf) (by simpa using hc) h1.1 h1.2
  · exact nomatch h
theorem st_aug (k : SOk w sp c X W) {st : Stmt} {o : BOp} {i : Nat} {e : E} (h : chkS c (n + 1) st (.aug o i e) = true) : PS X st (tS w sp W (.aug o i e)) := by
  simp only [chkS] at h
  split at h
  · simp only [Bool.and_eq_true, Bool.or_eq_true, decide_eq_true_eq] at h
    obtain ⟨⟨⟨hs, ho⟩, ho2⟩, he⟩ := h
    obtain ⟨h1, h2, h3⟩ := sto_of k.k hs
    have ih := (chk_ok w sp n _ _ _ k.k).e he
    rename_i op _ _
    rcases ho2 with rfl | rfl <;> cases op <;> cases ho
    · exact ps_aug k.k.nd h1 h2 ih ip_add h3
    · exact ps_aug k.k.nd h1 h2 ih ip_sub h3
  · exact nomatch h
theorem st_store (k : SOk w sp c X W) {st : Stmt} {i : Nat} {kx e : E} (h : chkS c (n + 1) st (.store i kx e) = true) : PS X st (tS w sp W (.store i kx e)) := by
  simp only [chkS] at h
  split at h
  · simp only [Bool.and_eq_true] at h
    obtain ⟨⟨⟨⟨hv, hy⟩, hk⟩, he⟩, hc⟩ := h
    have ih := chk_ok w sp n _ _ _ k.k
    rename_i y _ v _
    refine ps_asg (ih.e he) (pg_sub (var_of k.k hv) (ih.e hk) set_list ?_) (by unfold swapsWithSole; exact sw_no hc) rfl rfl
    cases y <;> first | (intro v; rfl) | cases hy
  · exact nomatch h
theorem st_ex (k : SOk w sp c X W) {st : Stmt} {e : E} (h : chkS c (n + 1) st (.ex e) = true) : PS X st (tS w sp W (.ex e)) := by
  simp only [chkS] at h
  split at h
  · simp only [Bool.and_eq_true] at h
    exact ps_expr ((chk_ok w sp n _ _ _ k.k).e h.2) (sw_no h.1)
  · exact nomatch h
theorem st_ret (k : SOk w sp c X W) {st : Stmt} {e : E} (h : chkS c (n + 1) st (.ret e) = true) : PS X st (tS w sp W (.ret e)) := by
  simp only [chkS] at h
  split at h
  · exact ps_ret ((chk_ok w sp n _ _ _ k.k).e h)
  · exact nomatch h
theorem st_all (k : SOk w sp c X W) (ih : SIH w sp c n X W) {st : Stmt} {s : S} (h : chkS c (n + 1) st s = true) : PS X st (tS w sp W s) := by
  cases s with
  | set i e => exact st_set k h
  | setP ps e => exact st_setP k h
  | par i j a b => exact st_par k h
  | aug o i e => exact st_aug k h
  | store i kx e => exact st_store k h
  | ex e => exact st_ex k h
  | ret e => exact st_ret k h
  | retN =>
    simp only [chkS] at h
    split at h
    · exact ps_retN
    · exact nomatch h
  | ite t a b =>
    simp only [chkS] at h
    split at h
    · simp only [Bool.and_eq_true] at h
      exact ps_if ((chk_ok w sp n _ _ _ k.k).t h.1.1) (ih.ss h.1.2) (ih.ss h.2)
    · exact nomatch h
  | for_ kk src p body =>
    simp only [chkS] at h
    split at h
    · simp only [Bool.and_eq_true] at h
      exact ps_for k.own k.k.calm ((chk_ok w sp n _ _ _ k.k).s h.1.1.2 tup_of) ((chkP_ok k.k n).1 _ _ h.1.2) (ih.ss h.2) (foldedNo h.1.1.1)
    · exact nomatch h
  | while_ t body =>
    simp only [chkS] at h
    split at h
    · simp only [Bool.and_eq_true] at h
      exact ps_while k.own ((chk_ok w sp n _ _ _ k.k).t h.1) (ih.ss h.2)
    · exact nomatch h
  | brk =>
    simp only [chkS] at h
    split at h
    · exact ps_break
    · exact nomatch h
  | cont =>
    simp only [chkS] at h
    split at h
    · exact ps_continue
    · exact nomatch h
  | pass =>
    simp only [chkS] at h
    split at h
    · exact ps_pass
    · exact ps_doc
    · exact nomatch h
theorem sss_ok (k : SOk w sp c X W) (ih : SIH w sp c n X W) {sts : List Stmt} {ss : List S} (h : chkSs c (n + 1) sts ss = true) : PSs X sts (tSs w sp W ss) := by
  cases sts <;> cases ss <;> simp only [chkSs] at h <;> first | cases h | skip
  · exact pss_nil
  · simp only [Bool.and_eq_true] at h
    exact pss_cons (ih.s h.1) (ih.ss h.2)
theorem chkS_ok (k : SOk w sp c X W) : ∀ n, SIH w sp c n X W := by
  intro n
  induction n with
  | zero => exact ⟨fun h => (nomatch h), fun h => (nomatch h)⟩
  | succ n ih => exact ⟨st_all k ih, sss_ok k ih⟩
end
end VB
set_option Elab.async false
set_option linter.all false
set_option maxRecDepth 100000
set_option maxHeartbeats 4000000
/-! the defs of a text, and a law's end -/
namespace VB
open PySem PySem.Spec L2
open PyProof.Rows hiding St

/-- a def of the text: its name, its parameters, its slots, ours, its statement -/
structure DRow where
  name : Str
  ps : List Str
  N : List Str
  fn : Fn
  st : Stmt
def ccOf (defs : List Str) (consts : List (Str × D)) (frees : List Str) (r : DRow) : CC := { N := r.N, names := (defScope r.st).names, defs := defs, consts := consts, frees := frees, fnb := fun _ => true }
def scOk (r : DRow) : Bool := (defScope r.st).kind == .function && !(defScope r.st).isCoroutine && !(defScope r.st).isGenerator && decide r.N.Nodup && decide (r.N.take r.ps.length = r.ps) &&
  r.ps.all (fun x => (defScope r.st).names.lookup x == some .local || (defScope r.st).names.lookup x == some .cell) && (defScope r.st).names.all (fun y => y.2 != .free) && decide (r.N.length = r.fn.ns) && decide (r.fn.np = r.ps.length) && decide (r.fn.np ≤ r.fn.ns)
def rowOk (defs : List Str) (consts : List (Str × D)) (frees : List Str) (r : DRow) : Bool := scOk r && chkSs (ccOf defs consts frees r) 4000 (defBody r.st) r.fn.body
def tblOf (T : List DRow) : List (Str × Fn) := T.map fun r => (r.name, r.fn)
def wd (K : PySem.W.Frag) : Wd := ⟨K, fun x => some (He.ga K x)⟩
abbrev FnR (K : PySem.W.Frag) (r : DRow) (fd : FuncData) : Prop := FunD K r.name r.name (defArgs r.st) (defBody r.st) (defScope r.st) [] [] (He.ga K r.name) fd

theorem scOk_scope {r : DRow} (h : scOk r = true) : FnScope r.N r.ps (defScope r.st) ∧ r.N.length = r.fn.ns ∧ r.fn.np = r.ps.length ∧ r.fn.np ≤ r.fn.ns := by
  simp only [scOk, Bool.and_eq_true, decide_eq_true_eq, Bool.not_eq_true'] at h
  obtain ⟨⟨⟨⟨⟨⟨⟨⟨⟨h1, h2⟩, h3⟩, h4⟩, h5⟩, h6⟩, h7⟩, h8⟩, h9⟩, h10⟩ := h
  refine ⟨⟨(by cases hk : (defScope r.st).kind <;> rw [hk] at h1 <;> first | rfl | cases h1), h2, h3, h4, h5, fun x hx => ?_, fun y hy => ?_⟩, h8, h9, h10⟩
  · have := List.all_eq_true.mp h6 x hx
    simp only [Bool.or_eq_true, beq_iff_eq] at this
    exact this
  · have := List.all_eq_true.mp h7 y hy
    intro e
    rw [e] at this
    exact absurd this (by decide)
theorem lookup_row : ∀ {T : List DRow} {r : DRow}, (T.map (·.name)).Nodup → r ∈ T → (tblOf T).lookup r.name = some r.fn
  | t :: T, r, hn, hr => by
    rw [List.map_cons, List.nodup_cons] at hn
    rcases List.mem_cons.mp hr with e | hr
    · subst e
      show List.lookup r.name ((r.name, r.fn) :: tblOf T) = _
      rw [List.lookup_cons_self]
    · have ne : (r.name == t.name) = false := by
        rw [beq_eq_false_iff_ne]
        intro e
        exact hn.1 (e ▸ List.mem_map_of_mem (f := (·.name)) hr)
      show List.lookup r.name ((t.name, t.fn) :: tblOf T) = _
      rw [List.lookup_cons, ne]
      exact lookup_row hn.2 hr

section
variable {P : Program} {w : World} {K : PySem.W.Frag} {mg : Str → Option Value} {base : Heap}
theorem fns_ok {T : List DRow} {consts : List (Str × D)} {frees : List Str} (hn : (T.map (·.name)).Nodup) (hok : T.all (rowOk (T.map (·.name)) consts frees) = true)
    (hF : ∀ r ∈ T, ∃ fd, FnR K r fd ∧ mg r.name = some (.ref (He.ga K r.name)) ∧ Binds K fd r.ps [])
    (hc : ∀ x d, consts.lookup x = some d → ∃ v u, mg x = some u ∧ RelV v u ∧ ∀ H Z, Rep (wd K) H Z v d) (hf : ∀ x, frees.contains x = true → mg x = none) :
    ∀ n r, r ∈ T → ∀ fd, FnR K r fd → FnG P w K mg base (L2.CX P w) n (He.ga K r.name) fd r.ps (spD (wd K) (callN (tblOf T) n) r.name) := by
  intro n
  induction n with
  | zero => exact fun r hr fd F => ⟨fun vs H Q E ⟨_, _, _, _, _, s⟩ => s.elim, fun A outer s H args us vs Q E _ _ _ _ _ ⟨_, _, _, _, _, s⟩ => s.elim⟩
  | succ n ih =>
    intro r hr fd F
    have ro := List.all_eq_true.mp hok r hr
    simp only [rowOk, Bool.and_eq_true] at ro
    obtain ⟨sc, hN, hp, hle⟩ := scOk_scope ro.1
    have lk : ∀ rs, callN (tblOf T) (n + 1) r.name rs = r.fn.run (callN (tblOf T) n) rs := fun rs => by
      simp only [callN, lookup_row hn hr]
    refine fnG_of F sc (fun vs H Q E h => ?_) (fun cdv A outer s H vs Q E hr' hG h => ?_)
    · obtain ⟨Z, φ, rs, g, rp, s⟩ := h
      rw [lk] at s
      rw [run_len rp s, hp]
    · obtain ⟨Z, φ, rs, g', rp, s'⟩ := h
      rw [lk] at s'
      have g : GOk (wd K) (spD (wd K) (callN (tblOf T) n)) (ccOf (T.map (·.name)) consts frees r) (cxOf (L2.CX P w) P w K mg base r.N r.name (defScope r.st) (He.ga K r.name) cdv A outer s H E) := by
        refine ⟨rfl, ?_, hc, hf, ?_, hG⟩
        · intro f hf'
          obtain ⟨r', hr'', e⟩ := List.mem_map.mp hf'
          subst e
          obtain ⟨fd', F', m', b'⟩ := hF r' hr''
          exact ⟨_, fd', r'.ps, n, ih r' hr'' fd' F', hr', m', F'.kp, b'⟩
        · have := hr'.un
          show (A.deeper _).units + 65 < cLine
          omega
      have kk : COk (wd K) (spD (wd K) (callN (tblOf T) n)) (ccOf (T.map (·.name)) consts frees r) (cxOf (L2.CX P w) P w K mg base r.N r.name (defScope r.st) (He.ga K r.name) cdv A outer s H E) (fun cls d _ H => E cls d H) :=
        ⟨g, rfl, sc.nd, fun x => rfl, sc.kind, rfl, takes_of rfl rfl rfl rfl, fun x _ => rfl⟩
      exact ⟨_, (chkS_ok ⟨kk, passes_of rfl⟩ 4000).ss ro.2, body_ok (sp := spD (wd K) (callN (tblOf T) n)) (clOk_spD (wd K) _) hN hle g' rp s'⟩
end
end VB
set_option Elab.async false
set_option linter.all false
set_option maxRecDepth 100000
set_option maxHeartbeats 4000000
namespace VB
open PySem PySem.Spec L2
open PyProof.Rows hiding St

def dOf (r : DRow) : He.DefD := ⟨(r.name, none), r.name, r.name, defArgs r.st, defBody r.st, defScope r.st, [], []⟩
def cFa : Str × D → He.Fa
  | (x, .int i) => .int x i
  | (x, .str s) => .str x s
  | (x, _) => .glo x
def cGood : Str × D → Bool
  | (_, .int _) => true
  | (_, .str _) => true
  | _ => false
def faOf (T : List DRow) (consts : List (Str × D)) (frees : List Str) : List He.Fa := (T.map fun r => .glo r.name) ++ (consts.map cFa ++ frees.map .free)
theorem fact_mem {fa : List He.Fa} {fn : List He.DefD} {K : PySem.W.Frag} (c : He.SaysD fa fn K) {f : He.Fa} (h : f ∈ fa) : He.Fa.ok K f = true := by
  obtain ⟨i, hi⟩ := List.mem_iff_getElem?.mp h
  exact c.fact i hi
/-- a def's parameters take what is given by place -/
def BindsR (r : DRow) : Prop := ∀ (kV doc pm : Value) (an : Option Addr) (cdv ct : Value) (us : List Value), us.length = r.ps.length →
  bindArgs (PySem.W.fnOf r.name r.name (defArgs r.st) (defBody r.st) (defScope r.st) .none kV doc pm an cdv ct) { pos := us } = pure (r.ps.zip us)
theorem lookup_mem {α β : Type} [BEq α] [LawfulBEq α] : ∀ {l : List (α × β)} {x : α} {d : β}, l.lookup x = some d → (x, d) ∈ l
  | (y, e) :: l, x, d, h => by
    rw [List.lookup_cons] at h
    split at h
    · rename_i hb
      cases h
      rw [eq_of_beq hb]
      exact List.mem_cons_self
    · exact List.mem_cons_of_mem _ (lookup_mem h)
theorem reps_ints {w : Wd} {H : Hp} {Z : Zn} : ∀ ns : List Int, Reps w H Z (ns.map V.int) (ns.map D.int)
  | [] => .nil
  | n :: ns => .cons (.int n) (reps_ints ns)
theorem law_end {l : PySem.W.OpenLaw} {n k : Nat} {q : Program} {loose : List Str} {XP : (Str → Option Value) → Heap → Prop} {YP : World → Heap → Prop} {d : DefRec} {T : List DRow} {consts : List (Str × D)} {frees : List Str} {x : Str} {r0 : DRow}
    (hY : ∀ w h, YP w h → ∃ K, K.In h ∧ He.SaysD (faOf T consts frees) (T.map dOf) K)
    (hm : l.most = some n) (hn2 : n ≤ sizeLine) (hdf : d.params.defaults = []) (hrm : Room k callerA) (hr0 : r0 ∈ T) (hdn : d.name = r0.name) (hps : r0.ps = [x])
    (hn : (T.map (·.name)).Nodup) (hok : T.all (rowOk (T.map (·.name)) consts frees) = true) (hcg : consts.all cGood = true) (hb : ∀ r ∈ T, BindsR r)
    (hval : ∀ ns : List Int, ns.length ≤ n → (∀ z ∈ ns, Builtin.Int.intBits z ≤ 1048576) → ∃ o, callN (tblOf T) k r0.name [.p (.scr (ns.map D.int))] = .ok (.p (.bl true)) o) :
    PySem.W.WalkO q loose XP YP l.row.toRowW d [] fun f vs => call f vs := by
  refine walk_G (CX := fun w => L2.CX l.prog w) (k := k) (x := x) hm hn2 hdf hrm (fun w mg fa h Y G hmg => ?_) (fun w H s e s' h => ?_)
  · obtain ⟨K, KX, c⟩ := hY w h Y
    have glo : ∀ r ∈ T, mg r.name = some (.ref (He.ga K r.name)) := fun r hr => He.glo_ok KX G (fact_mem c (by
      unfold faOf
      exact List.mem_append_left _ (List.mem_map.mpr ⟨r, hr, rfl⟩)))
    have hF : ∀ r ∈ T, ∃ fd, FnR K r fd ∧ mg r.name = some (.ref (He.ga K r.name)) ∧ Binds K fd r.ps [] := by
      intro r hr
      obtain ⟨i, hi⟩ := List.mem_iff_getElem?.mp hr
      obtain ⟨fd, F⟩ := c.def_ i (d := dOf r) (by rw [List.getElem?_map, hi]; rfl)
      exact ⟨fd, F, glo r hr, FunD.bindsN F fun kV doc pm an cdv ct us hl => hb r hr kV doc pm an cdv ct us hl⟩
    have e : fa = He.ga K r0.name := by
      rw [hdn, glo r0 hr0] at hmg
      cases hmg; rfl
    subst e
    obtain ⟨fd, F, _, _⟩ := hF r0 hr0
    have hc : ∀ mg', h.Ns mainGlobals mg' → mg' = mg → ∀ x d, consts.lookup x = some d → ∃ v u, mg x = some u ∧ RelV v u ∧ ∀ H Z, Rep (wd K) H Z v d := by
      intro _ _ _ x d hx
      have hm := lookup_mem hx
      have hg := List.all_eq_true.mp hcg _ hm
      have hf : He.Fa.ok K (cFa (x, d)) = true := fact_mem c (by
        unfold faOf
        exact List.mem_append_right _ (List.mem_append_left _ (List.mem_map.mpr ⟨_, hm, rfl⟩)))
      cases d <;> first | cases hg | skip
      · obtain ⟨t, ht⟩ := He.int_ok KX G hf
        exact ⟨.int _, _, ht, ⟨t, rfl⟩, fun H Z => .int _⟩
      · obtain ⟨t, ht⟩ := He.str_ok KX G hf
        exact ⟨.str _, _, ht, ⟨t, rfl⟩, fun H Z => .str _⟩
    have hf : ∀ x, frees.contains x = true → mg x = none := by
      intro x hx
      rw [List.contains_iff_mem] at hx
      exact He.free_ok KX G (fact_mem c (by
        unfold faOf
        exact List.mem_append_right _ (List.mem_append_right _ (List.mem_map.mpr ⟨x, hx, rfl⟩))))
    refine ⟨K, fd, spD (wd K) (callN (tblOf T) k) r0.name, KX, fun s u => ?_, fun H a ns hl hbit hS => ?_, fun base hKb hNs => ?_⟩
    · have := FunD.bindsA F (fun kV doc pm an cdv ct us hl => hb r0 hr0 kV doc pm an cdv ct us hl) s [u] (by rw [hps]; rfl)
      rw [hps] at this
      exact this
    · obtain ⟨o, ho⟩ := hval ns hl hbit
      have fin : ∀ {Z : Zn}, (∀ b, Z b → H b ≠ none) → Rep (wd K) H Z (.ref a) (.scr (ns.map D.int)) → spD (wd K) (callN (tblOf T) k) r0.name [V.ref a] H (fun v x => v = V.bl true) fun x x_1 x_2 => False := by
        intro Z hz hr
        refine ⟨Z, _, [.p (.scr (ns.map D.int))], ⟨hz, fun a h => ?_, fun a h => ?_, fun a => ?_⟩, .cons (.p hr) .nil, ?_⟩
        · exact absurd rfl h
        · rfl
        · exact Nat.zero_le _
        · rw [ho]
          intro v H' Z' φr φo _ _ hv _
          cases hv with
          | p hv => cases hv; rfl
      rcases hS with (hS | ⟨ob, hS⟩) | ⟨ob, its, m, h1, h2, h3, h4, h5, h6⟩
      · exact fin (Z := fun b => b = a) (fun b e => by subst e; rw [hS]; exact fun z => nomatch z) (.sll hS rfl (reps_ints ns))
      · exact fin (Z := fun b => b = a) (fun b e => by subst e; rw [hS]; exact fun z => nomatch z) (.frz hS rfl (reps_ints ns))
      · exact fin (Z := fun _ => False) (fun _ e => e.elim) (.kl (fun H => .inr ⟨ob, its, m, h1, h2, h3, h4, h5, h6⟩) h1 h2 (reps_ints ns))
    · rw [← hps]
      exact fns_ok hn hok hF (hc mg G rfl) hf k r0 hr0 fd F
  · obtain ⟨a, B, H', cls, d, _, _, _, _, _, _, _, hE⟩ := h
    exact hE
end VB
set_option Elab.async false
set_option linter.all false
set_option maxRecDepth 100000
set_option maxHeartbeats 4000000
/-! what is asked of an evaluation, from its end backwards -/
namespace VB
open PySem PySem.Spec L2
open PyProof.Rows hiding St

abbrev XT := Str → List Str → List D → Env → Prop
def RX {α : Type} (r : Res α) (K : α → Prop) (X : XT) : Prop := match r with
  | .ok a => K a
  | .exc c ns vs ρ => X c ns vs ρ
  | .stuck => False
def CW (c : CRes) (K : R → Env → Prop) (X : XT) : Prop := match c with
  | .ok r o => K r o
  | .exc c ns vs o => X c ns vs o
  | .stuck => False
structure Kt where
  nx : Env → Prop
  rt : R → Env → Prop
  bk : Env → Prop
  ct : Env → Prop
  ex : XT
def SW (o : Out) (k : Kt) : Prop := match o with
  | .nx ρ => k.nx ρ
  | .ret r ρ => k.rt r ρ
  | .bk ρ => k.bk ρ
  | .ct ρ => k.ct ρ
  | .exc c ns vs ρ => k.ex c ns vs ρ
  | .stuck => False
abbrev X0 : XT := fun _ _ _ _ => False

section
variable {α β : Type} {cl : Cl} {m : Mode} {ρ : Env} {K : Val × Env → Prop} {X : XT} {fx : List Nat} {k : Kt}
theorem RX.mono {r : Res α} {K K' : α → Prop} {X X' : XT} (h : RX r K X) (hk : ∀ a, K a → K' a) (hx : ∀ c ns vs ρ, X c ns vs ρ → X' c ns vs ρ) : RX r K' X' := by
  cases r
  · exact hk _ h
  · exact hx _ _ _ _ h
  · exact h
theorem CW.mono {r : CRes} {K K' : R → Env → Prop} {X X' : XT} (h : CW r K X) (hk : ∀ a o, K a o → K' a o) (hx : ∀ c ns vs ρ, X c ns vs ρ → X' c ns vs ρ) : CW r K' X' := by
  cases r
  · exact hk _ _ h
  · exact hx _ _ _ _ h
  · exact h
theorem SW.mono {o : Out} {k k' : Kt} (h : SW o k) (hn : ∀ ρ, k.nx ρ → k'.nx ρ) (hr : ∀ r ρ, k.rt r ρ → k'.rt r ρ) (hb : ∀ ρ, k.bk ρ → k'.bk ρ) (hc : ∀ ρ, k.ct ρ → k'.ct ρ) (hx : ∀ c ns vs ρ, k.ex c ns vs ρ → k'.ex c ns vs ρ) : SW o k' := by
  cases o
  · exact hn _ h
  · exact hr _ _ h
  · exact hb _ h
  · exact hc _ h
  · exact hx _ _ _ _ h
  · exact h
theorem RX_ok {a : α} {K : α → Prop} : RX (.ok a) K X ↔ K a := Iff.rfl
theorem RX_stuck {K : α → Prop} : RX (.stuck : Res α) K X ↔ False := Iff.rfl
theorem RX_bind {r : Res α} {f : α → Res β} {K : β → Prop} : RX (r.bind f) K X ↔ RX r (fun a => RX (f a) K X) X := by
  cases r <;> rfl
theorem CW_ok {r : R} {o : Env} {K : R → Env → Prop} : CW (.ok r o) K X ↔ K r o := Iff.rfl

theorem we_c {d : D} : RX (ev cl m (.c d) ρ) K X ↔ K (.val (.p d), ρ) := Iff.rfl
theorem we_vo {i : Nat} : RX (ev cl .opd (.v i) ρ) K X ↔ ∃ r, ρ.gt i = some r ∧ K (.at i, ρ) := by
  simp only [ev]
  cases h : ρ.gt i <;> simp [RX]
theorem we_ve {i : Nat} : RX (ev cl .esc (.v i) ρ) K X ↔ ∃ d, ρ.gt i = some (.p d) ∧ K (.val (.p d), ρ) := by
  simp only [ev]
  cases h : ρ.gt i with
  | none => simp [RX]
  | some r => cases r <;> simp [RX]
theorem we_va {i : Nat} : RX (ev cl .arg (.v i) ρ) K X ↔ ∃ d, ρ.gt i = some (.p d) ∧ K (.val (.p d), ρ) := by
  simp only [ev]
  cases h : ρ.gt i with
  | none => simp [RX]
  | some r => cases r <;> simp [RX]
theorem we_lend0 {i : Nat} : RX (ev cl .arg (.lend i) ρ) K X ↔ ∃ r, ρ.gt i = some r ∧ K (.at i, ρ) := by
  simp only [ev]
  cases h : ρ.gt i <;> simp [RX]
/-- what a name gives away -/
def movK (i : Nat) (ρ : Env) (K : Val × Env → Prop) : R → Prop
  | .p d => K (.val (.p d), ρ)
  | .l xs => K (.val (.l xs), ρ.set i none)
  | .m ks vs => K (.val (.m ks vs), ρ.set i none)
  | .o c ns rs => K (.val (.o c ns rs), ρ.set i none)
theorem we_mov {i : Nat} : RX (ev cl m (.mov i) ρ) K X ↔ ∃ r, ρ.gt i = some r ∧ movK i ρ K r := by
  simp only [ev]
  cases h : ρ.gt i with
  | none => simp [RX]
  | some r => cases r <;> simp [RX, movK]
theorem we_frz {i : Nat} : RX (ev cl m (.frz i) ρ) K X ↔ ∃ r, ρ.gt i = some r ∧ K (.val (.p r.read), ρ.set i (some (.p r.read))) := by
  simp only [ev]
  cases h : ρ.gt i <;> simp [RX]
theorem we_tup {es : List E} : RX (ev cl m (.tup es) ρ) K X ↔ RX (evL cl .esc es ρ) (fun q => q.1.length ≤ sizeLine ∧ K (.val (.p (.tup (q.1.map Val.rd))), q.2)) X := by
  simp only [ev, RX_bind]
  cases evL cl .esc es ρ with
  | ok q => simp only [RX_ok]; by_cases h : q.1.length ≤ sizeLine <;> simp [h, RX]
  | _ => exact Iff.rfl
theorem we_lst {es : List E} : RX (ev cl m (.lst es) ρ) K X ↔ RX (evL cl .esc es ρ) (fun q => q.1.length ≤ sizeLine ∧ K (.val (.l (q.1.map Val.rd)), q.2)) X := by
  simp only [ev, RX_bind]
  cases evL cl .esc es ρ with
  | ok q => simp only [RX_ok]; by_cases h : q.1.length ≤ sizeLine <;> simp [h, RX]
  | _ => exact Iff.rfl
theorem we_dic {ks : List D} {es : List E} : RX (ev cl m (.dic ks es) ρ) K X ↔ (ks.length = es.length ∧ ks.length ≤ 1 ∧ ks.all isKey = true) ∧ RX (evL cl .esc es ρ) (fun q => K (.val (.m ks (q.1.map Val.rd)), q.2)) X := by
  simp only [ev]
  split
  · rename_i h
    rw [RX_bind]
    simp only [RX_ok]
    exact ⟨fun z => ⟨h, z⟩, fun z => z.2⟩
  · rename_i h
    exact ⟨fun z => z.elim, fun z => h z.1⟩
theorem we_op {o : BOp} {es : List E} : RX (ev cl m (.op o es) ρ) K X ↔ RX (evL cl .opd es ρ) (fun q => ∃ ds, gets q.2 q.1 = some ds ∧ ∃ r, opB o ds = some r ∧ K (.val r, q.2)) X := by
  simp only [ev, RX_bind]
  cases evL cl .opd es ρ with
  | ok q =>
    simp only [RX_ok]
    cases h : gets q.2 q.1 with
    | none => simp [RX]
    | some ds =>
      simp only [Option.bind_some]
      cases h2 : opB o ds <;> simp [RX, h2]
  | _ => exact Iff.rfl
theorem we_and {a b : E} : RX (ev cl m (.and a b) ρ) K X ↔ RX (ev cl .esc a ρ) (fun q => ∃ c, q.1 = .val (.p (.bl c)) ∧ if c = true then RX (ev cl .esc b q.2) K X else K (.val (.p (.bl false)), q.2)) X := by
  simp only [ev, RX_bind]
  cases ev cl .esc a ρ with
  | ok q =>
    simp only [RX_ok]
    split
    · rename_i h; simp [h]
    · rename_i h; simp [h, RX]
    · rename_i h1 h2
      refine ⟨fun z => z.elim, fun ⟨c, e, z⟩ => ?_⟩
      cases c
      · exact h2 e
      · exact h1 e
  | _ => exact Iff.rfl
theorem we_or {a b : E} : RX (ev cl m (.or a b) ρ) K X ↔ RX (ev cl .esc a ρ) (fun q => ∃ c, q.1 = .val (.p (.bl c)) ∧ if c = true then K (.val (.p (.bl true)), q.2) else RX (ev cl .esc b q.2) K X) X := by
  simp only [ev, RX_bind]
  cases ev cl .esc a ρ with
  | ok q =>
    simp only [RX_ok]
    split
    · rename_i h; simp [h, RX]
    · rename_i h; simp [h]
    · rename_i h1 h2
      refine ⟨fun z => z.elim, fun ⟨c, e, z⟩ => ?_⟩
      cases c
      · exact h2 e
      · exact h1 e
  | _ => exact Iff.rfl
theorem we_not {a : E} : RX (ev cl m (.not a) ρ) K X ↔ RX (ev cl .esc a ρ) (fun q => ∃ c, q.1 = .val (.p (.bl c)) ∧ K (.val (.p (.bl (!c))), q.2)) X := by
  simp only [ev, RX_bind]
  cases ev cl .esc a ρ with
  | ok q =>
    simp only [RX_ok]
    split
    · rename_i c h; simp [h, RX]
    · rename_i h
      exact ⟨fun z => z.elim, fun ⟨c, e, z⟩ => h c e⟩
  | _ => exact Iff.rfl
theorem we_ite {c a b : E} : RX (ev cl m (.ite c a b) ρ) K X ↔ RX (ev cl .esc c ρ) (fun q => ∃ c, q.1 = .val (.p (.bl c)) ∧ if c = true then RX (ev cl .esc a q.2) K X else RX (ev cl .esc b q.2) K X) X := by
  simp only [ev, RX_bind]
  cases ev cl .esc c ρ with
  | ok q =>
    simp only [RX_ok]
    split
    · rename_i h; simp [h]
    · rename_i h; simp [h]
    · rename_i h1 h2
      refine ⟨fun z => z.elim, fun ⟨c, e, z⟩ => ?_⟩
      cases c
      · exact h2 e
      · exact h1 e
  | _ => exact Iff.rfl
theorem we_chain {o o' : BOp} {a b c : E} : RX (ev cl m (.chain o o' a b c) ρ) K X ↔ RX (ev cl .opd a ρ) (fun qa => RX (ev cl .opd b qa.2) (fun qb => ∃ ds, gets qb.2 [qa.1, qb.1] = some ds ∧ ∃ z, opB o ds = some (.p (.bl z)) ∧
    if z = true then RX (ev cl .opd c qb.2) (fun qc => ∃ ds', gets qc.2 [qb.1, qc.1] = some ds' ∧ ∃ r, opB o' ds' = some r ∧ K (.val r, qc.2)) X else K (.val (.p (.bl false)), qb.2)) X) X := by
  simp only [ev, RX_bind]
  cases ev cl .opd a ρ with
  | ok qa =>
    simp only [RX_ok]
    cases ev cl .opd b qa.2 with
    | ok qb =>
      simp only [RX_ok]
      cases h : gets qb.2 [qa.1, qb.1] with
      | none => simp [RX]
      | some ds =>
        simp only [Option.bind_some]
        split
        · rename_i h2
          simp only [h2, RX_bind, Option.some.injEq, R.p.injEq, D.bl.injEq, exists_eq_left', if_true]
          cases ev cl .opd c qb.2 with
          | ok qc =>
            simp only [RX_ok]
            cases h3 : gets qc.2 [qb.1, qc.1] with
            | none => simp [RX]
            | some ds' =>
              simp only [Option.bind_some]
              cases h4 : opB o' ds' <;> simp [RX, h4]
          | _ => exact Iff.rfl
        · rename_i h2
          simp [h2, RX]
        · rename_i h1 h2
          refine ⟨fun z => z.elim, fun ⟨ds1, e1, c, e, z⟩ => ?_⟩
          cases e1
          cases c
          · exact h2 e
          · exact h1 e
    | _ => exact Iff.rfl
  | _ => exact Iff.rfl
theorem we_call {f : Str} {es : List E} : RX (ev cl m (.call f es) ρ) K X ↔ RX (evL cl .arg es ρ) (fun q => ∃ t, takeA q.1 q.2 = some t ∧ CW (cl f (t.1.map Val.r)) (fun r o => K (.val r, giveBack t.2 t.1 o)) (fun c ns vs o => X c ns vs (giveBack t.2 t.1 o))) X := by
  simp only [ev, RX_bind]
  cases evL cl .arg es ρ with
  | ok q =>
    simp only [RX_ok]
    cases takeA q.1 q.2 with
    | none => simp [RX]
    | some t =>
      simp only [Option.some.injEq, exists_eq_left']
      cases cl f (t.1.map Val.r) <;> rfl
  | _ => exact Iff.rfl
theorem we_mut {mo : MOp} {i : Nat} {es : List E} : RX (ev cl m (.mut mo i es) ρ) K X ↔ isLst (ρ.gt i) = true ∧ RX (evL cl (if mo.keeps then .esc else .opd) es ρ) (fun q => ∃ r0, q.2.gt i = some r0 ∧ ∃ ds, gets q.2 q.1 = some ds ∧ ∃ p, opM mo r0 ds = some p ∧ K (.val p.1, q.2.set i (some p.2))) X := by
  simp only [ev]
  cases h : isLst (ρ.gt i)
  · simp [RX]
  · simp only [Bool.not_true, Bool.false_eq_true, if_false, true_and, RX_bind]
    cases evL cl (if mo.keeps then .esc else .opd) es ρ with
    | ok q =>
      simp only [RX_ok]
      cases h1 : q.2.gt i with
      | none => simp [RX]
      | some r0 =>
        cases h2 : gets q.2 q.1 with
        | none => simp [RX]
        | some ds =>
          simp only [Option.bind_some]
          cases h3 : opM mo r0 ds with
          | none => simp [RX, h3]
          | some p =>
            obtain ⟨a, b⟩ := p
            simp only [h3, RX, Option.some.injEq]
            exact ⟨fun z => ⟨_, rfl, _, rfl, _, h3, z⟩, fun ⟨_, e, _, e1, p, e2, z⟩ => by cases e; cases e1; rw [h3] at e2; cases e2; exact z⟩
    | _ => exact Iff.rfl
theorem we_comp {own : List Nat} {sk : SrcK} {src : List E} {p : Pat} {conds : List E} {elt : E} : RX (ev cl m (.comp own sk src p conds elt) ρ) K X ↔ RX (evL cl .opd src ρ) (fun q => ∃ ds, gets q.2 q.1 = some ds ∧ ∃ items, srcItems sk ds = some items ∧
    (isPures q.2 own = true ∧ patIn own p = true) ∧ RX (compL own p (fun ρ => evTs cl conds ρ) (fun ρ => ev cl .esc elt ρ) items (lockE q.2 (locks q.2 q.1))) (fun z => z.1.length ≤ sizeLine ∧ K (.val (.l z.1), unlockE (restore (wipeE z.2 own) q.2 own) (locks q.2 q.1))) X0) X := by
  simp only [ev, RX_bind]
  cases evL cl .opd src ρ with
  | ok q =>
    simp only [RX_ok]
    cases h : gets q.2 q.1 with
    | none => simp [RX]
    | some ds =>
      simp only [Option.bind_some]
      cases h2 : srcItems sk ds with
      | none => simp [RX, h2]
      | some items =>
        simp only [Option.some.injEq, exists_eq_left', h2]
        split
        · rename_i h3
          rw [Bool.and_eq_true] at h3
          simp only [h3, true_and, and_self]
          split
          · rename_i h4
            rw [h4]
            simp only [RX_ok]
            split <;> rename_i h5 <;> simp [RX, h5]
          · rename_i h4
            refine ⟨fun z => z.elim, fun z => ?_⟩
            cases h5 : compL own p (fun ρ => evTs cl conds ρ) (fun ρ => ev cl .esc elt ρ) items (lockE q.2 (locks q.2 q.1)) with
            | ok a => exact absurd h5 (h4 _ _)
            | exc _ _ _ _ => rw [h5] at z; exact z
            | stuck => rw [h5] at z; exact z
        · rename_i h3
          rw [Bool.and_eq_true] at h3
          simp [RX, h3]
  | _ => exact Iff.rfl
theorem we_nil {K : List Val × Env → Prop} : RX (evL cl m [] ρ) K X ↔ K ([], ρ) := Iff.rfl
theorem we_cons {e : E} {es : List E} {K : List Val × Env → Prop} : RX (evL cl m (e :: es) ρ) K X ↔ RX (ev cl m e ρ) (fun q => RX (evL cl m es q.2) (fun q' => K (q.1 :: q'.1, q'.2)) X) X := by
  simp only [evL, RX_bind]
  rfl
theorem wt_nil {K : Bool × Env → Prop} : RX (evTs cl [] ρ) K X ↔ K (true, ρ) := Iff.rfl
theorem wt_one {e : E} {K : Bool × Env → Prop} : RX (evTs cl [e] ρ) K X ↔ RX (ev cl .esc e ρ) (fun q => ∃ c, q.1 = .val (.p (.bl c)) ∧ K (c, q.2)) X := by
  simp only [evTs, RX_bind]
  cases ev cl .esc e ρ with
  | ok q =>
    simp only [RX_ok]
    split
    · rename_i h; simp [h, RX]
    · rename_i h
      exact ⟨fun z => z.elim, fun ⟨c, e, _⟩ => h c e⟩
  | _ => exact Iff.rfl
theorem SW_of {r : Res α} {f : α → Out} : SW (Out.ofRes r f) k ↔ RX r (fun a => SW (f a) k) k.ex := by
  cases r <;> rfl
theorem ws_nil : SW (evSs cl fx [] ρ) k ↔ k.nx ρ := Iff.rfl
theorem ws_cons {s : S} {ss : List S} : SW (evSs cl fx (s :: ss) ρ) k ↔ SW (evS cl fx s ρ) { k with nx := fun ρ' => SW (evSs cl fx ss ρ') k } := by
  simp only [evSs]
  cases evS cl fx s ρ <;> rfl
theorem ws_set {i : Nat} {e : E} : SW (evS cl fx (.set i e) ρ) k ↔ free fx i = true ∧ RX (ev cl .esc e ρ) (fun q => k.nx (q.2.set i (some q.1.r))) k.ex := by
  simp only [evS]
  cases free fx i
  · simp [SW]
  · simp only [if_true, true_and, SW_of]; rfl
theorem ws_setP {ps : List Pat} {e : E} : SW (evS cl fx (.setP ps e) ρ) k ↔ freePs fx ps = true ∧ RX (ev cl .esc e ρ) (fun q => ∃ xs, q.1 = .val (.p (.tup xs)) ∧ ∃ ρ', bindPs ps xs q.2 = some ρ' ∧ k.nx ρ') k.ex := by
  simp only [evS]
  cases freePs fx ps
  · simp [SW]
  · simp only [if_true, true_and, SW_of]
    cases ev cl .esc e ρ with
    | ok q =>
      simp only [RX_ok]
      split
      · rename_i xs h
        simp only [h, Val.val.injEq, R.p.injEq, D.tup.injEq, exists_eq_left']
        cases hb : bindPs ps xs q.2 <;> simp [SW]
      · rename_i h
        exact ⟨fun z => z.elim, fun ⟨xs, e, _⟩ => h xs e⟩
    | _ => exact Iff.rfl
theorem ws_par {i j : Nat} {a b : E} : SW (evS cl fx (.par i j a b) ρ) k ↔ (free fx i && free fx j) = true ∧ RX (ev cl .esc a ρ) (fun q => RX (ev cl .esc b q.2) (fun q' => k.nx ((q'.2.set i (some q.1.r)).set j (some q'.1.r))) k.ex) k.ex := by
  simp only [evS]
  cases (free fx i && free fx j)
  · simp [SW]
  · simp only [if_true, true_and, SW_of]; rfl
theorem ws_ex {e : E} : SW (evS cl fx (.ex e) ρ) k ↔ RX (ev cl .esc e ρ) (fun q => k.nx q.2) k.ex := by
  simp only [evS, SW_of]; rfl
theorem ws_ret {e : E} : SW (evS cl fx (.ret e) ρ) k ↔ RX (ev cl .esc e ρ) (fun q => k.rt q.1.r q.2) k.ex := by
  simp only [evS, SW_of]; rfl
theorem ws_retN : SW (evS cl fx .retN ρ) k ↔ k.rt (.p .non) ρ := Iff.rfl
theorem ws_brk : SW (evS cl fx .brk ρ) k ↔ k.bk ρ := Iff.rfl
theorem ws_cont : SW (evS cl fx .cont ρ) k ↔ k.ct ρ := Iff.rfl
theorem ws_pass : SW (evS cl fx .pass ρ) k ↔ k.nx ρ := Iff.rfl
theorem ws_ite {c : E} {a b : List S} : SW (evS cl fx (.ite c a b) ρ) k ↔ RX (ev cl .esc c ρ) (fun q => ∃ z, q.1 = .val (.p (.bl z)) ∧ if z = true then SW (evSs cl fx a q.2) k else SW (evSs cl fx b q.2) k) k.ex := by
  simp only [evS, SW_of, wt_one]
  cases ev cl .esc c ρ with
  | ok q =>
    simp only [RX_ok]
    constructor
    · rintro ⟨z, e, h⟩; refine ⟨z, e, ?_⟩; cases z <;> exact h
    · rintro ⟨z, e, h⟩; refine ⟨z, e, ?_⟩; cases z <;> exact h
  | _ => exact Iff.rfl
theorem ws_aug {o : BOp} {i : Nat} {e : E} : SW (evS cl fx (.aug o i e) ρ) k ↔ free fx i = true ∧ ∃ x, ρ.gt i = some (.p (.int x)) ∧ RX (ev cl .esc e ρ) (fun q => ∃ y, q.1 = .val (.p (.int y)) ∧ ((o = .add ∧ k.nx (q.2.set i (some (.p (.int (x + y)))))) ∨ (o = .sub ∧ k.nx (q.2.set i (some (.p (.int (x - y)))))))) k.ex := by
  simp only [evS]
  cases free fx i
  · simp [SW]
  · simp only [if_true, true_and]
    split
    · rename_i x h
      simp only [h, SW_of, Option.some.injEq, R.p.injEq, D.int.injEq, exists_eq_left']
      cases ev cl .esc e ρ with
      | ok q =>
        simp only [RX_ok]
        split
        · rename_i y h2
          simp only [h2, Val.val.injEq, R.p.injEq, D.int.injEq, exists_eq_left']
          cases o <;> simp [SW]
        · rename_i h2
          exact ⟨fun z => z.elim, fun ⟨y, e, _⟩ => h2 y e⟩
      | _ => exact Iff.rfl
    · rename_i h
      exact ⟨fun z => z.elim, fun ⟨x, e, _⟩ => h x e⟩
theorem ws_store {i : Nat} {kx e : E} : SW (evS cl fx (.store i kx e) ρ) k ↔ isLst (ρ.gt i) = true ∧ RX (ev cl .esc e ρ) (fun q => RX (ev cl .opd kx q.2) (fun q' => ∃ kd, q'.1.get q'.2 = some kd ∧ ∃ r, q'.2.gt i = some r ∧ ∃ r', storeD r kd q.1.rd = some r' ∧ k.nx (q'.2.set i (some r'))) k.ex) k.ex := by
  simp only [evS]
  cases isLst (ρ.gt i)
  · simp [SW]
  · simp only [Bool.not_true, Bool.false_eq_true, if_false, true_and, SW_of]
    cases ev cl .esc e ρ with
    | ok q =>
      simp only [RX_ok, SW_of]
      cases ev cl .opd kx q.2 with
      | ok q' =>
        simp only [RX_ok]
        cases h1 : q'.1.get q'.2 with
        | none => simp [SW]
        | some kd =>
          cases h2 : q'.2.gt i with
          | none => simp [SW]
          | some r =>
            simp only [Option.bind_some]
            cases h3 : storeD r kd q.1.rd <;> simp [SW, h3]
      | _ => exact Iff.rfl
    | _ => exact Iff.rfl
theorem SW_un {o : Out} {l : List (Nat × R)} : SW (o.un l) k ↔ SW o { k with nx := fun ρ => k.nx (unlockE ρ l), rt := fun r ρ => k.rt r (unlockE ρ l), ex := fun c ns vs ρ => k.ex c ns vs (unlockE ρ l) } := by
  cases o <;> rfl
theorem ws_for {sk : SrcK} {src : List E} {p : Pat} {body : List S} : SW (evS cl fx (.for_ sk src p body) ρ) k ↔ RX (evL cl .opd src ρ) (fun q => ∃ ds, gets q.2 q.1 = some ds ∧ ∃ items, srcItems sk ds = some items ∧ freeP (lockF fx (locks q.2 q.1)) p = true ∧
    SW (forL p (fun ρ => evSs cl (lockF fx (locks q.2 q.1)) body ρ) items (lockE q.2 (locks q.2 q.1))) { k with nx := fun ρ => k.nx (unlockE ρ (locks q.2 q.1)), rt := fun r ρ => k.rt r (unlockE ρ (locks q.2 q.1)), ex := fun c ns vs ρ => k.ex c ns vs (unlockE ρ (locks q.2 q.1)) }) k.ex := by
  simp only [evS, SW_of]
  cases evL cl .opd src ρ with
  | ok q =>
    simp only [RX_ok]
    cases h : gets q.2 q.1 with
    | none => simp [SW]
    | some ds =>
      simp only [Option.bind_some]
      cases h2 : srcItems sk ds with
      | none => simp [SW, h2]
      | some items =>
        simp only [Option.some.injEq, exists_eq_left', h2]
        split
        · rename_i h3
          simp only [h3, true_and, SW_un]
        · rename_i h3
          simp [SW, h3]
  | _ => exact Iff.rfl
theorem wf_nil {p : Pat} {body : Env → Out} : SW (forL p body [] ρ) k ↔ k.nx ρ := Iff.rfl
theorem wf_cons {p : Pat} {body : Env → Out} {x : D} {xs : List D} : SW (forL p body (x :: xs) ρ) k ↔ ∃ ρ1, bindP p x ρ = some ρ1 ∧ SW (body ρ1) { k with nx := fun ρ2 => SW (forL p body xs ρ2) k, ct := fun ρ2 => SW (forL p body xs ρ2) k, bk := fun ρ2 => k.nx ρ2 } := by
  simp only [forL]
  cases h : bindP p x ρ with
  | none => simp [SW]
  | some ρ1 =>
    simp only [Option.some.injEq, exists_eq_left']
    cases body ρ1 <;> rfl
/-- a loop by what stands before each turn -/
theorem wf_inv {p : Pat} {body : Env → Out} {I : List D → Env → Prop} : ∀ {items : List D} {ρ : Env}, I items ρ → (∀ ρ, I [] ρ → k.nx ρ) →
    (∀ x xs ρ, I (x :: xs) ρ → ∃ ρ1, bindP p x ρ = some ρ1 ∧ SW (body ρ1) { k with nx := fun ρ2 => I xs ρ2, ct := fun ρ2 => I xs ρ2, bk := fun ρ2 => k.nx ρ2 }) → SW (forL p body items ρ) k
  | [], ρ, h, h0, _ => h0 ρ h
  | x :: xs, ρ, h, h0, h1 => by
    obtain ⟨ρ1, hb, hs⟩ := h1 x xs ρ h
    exact wf_cons.mpr ⟨ρ1, hb, hs.mono (fun ρ2 h2 => wf_inv h2 h0 h1) (fun _ _ z => z) (fun _ z => z) (fun ρ2 h2 => wf_inv h2 h0 h1) (fun _ _ _ _ z => z)⟩
theorem wc_run {fn : Fn} {args : List R} {K : R → Env → Prop} : CW (fn.run cl args) K X ↔ args.length = fn.np ∧ lentOk fn.fx 0 args = true ∧ SW (evSs cl fn.fx fn.body (args.map some ++ List.replicate (fn.ns - fn.np) none))
    { nx := fun ρ => K (.p .non) (outsOf fn.fx 0 fn.np ρ), rt := fun r ρ => K r (outsOf fn.fx 0 fn.np ρ), bk := fun _ => False, ct := fun _ => False, ex := fun c ns vs ρ => X c ns vs (outsOf fn.fx 0 fn.np ρ) } := by
  unfold Fn.run
  split
  · rename_i h
    rw [Bool.and_eq_true, decide_eq_true_eq] at h
    simp only [h, true_and]
    cases evSs cl fn.fx fn.body (args.map some ++ List.replicate (fn.ns - fn.np) none) <;> rfl
  · rename_i h
    rw [Bool.and_eq_true, decide_eq_true_eq] at h
    refine ⟨fun z => z.elim, fun ⟨a, b, _⟩ => h ⟨a, b⟩⟩
theorem CW_eq {c : CRes} {r : R} {o : Env} : CW c (fun r' o' => r' = r ∧ o' = o) X0 ↔ c = .ok r o := by
  cases c with
  | ok r' o' => simp [CW]
  | exc => simp [CW]
  | stuck => simp [CW]
/-- a comprehension's turns by what stands before each -/
theorem wl_inv {own : List Nat} {p : Pat} {cond : Env → Res (Bool × Env)} {elt : Env → Res (Val × Env)} {I : List D → List D → Env → Prop} : ∀ {items acc : List D} {ρ : Env} {K : List D × Env → Prop}, I items acc ρ → (∀ acc' ρ, I [] (acc ++ acc') ρ → K (acc', ρ)) →
    (∀ x xs acc ρ, I (x :: xs) acc ρ → ∃ ρ1, bindP p x (wipeE ρ own) = some ρ1 ∧ RX (cond ρ1) (fun q => if q.1 = true then RX (elt q.2) (fun z => ∃ r, z.1 = .val r ∧ I xs (acc ++ [r.read]) z.2) X0 else I xs acc q.2) X0) → RX (compL own p cond elt items ρ) K X0
  | [], acc, ρ, K, h, h0, _ => h0 [] ρ (by rw [List.append_nil]; exact h)
  | x :: xs, acc, ρ, K, h, h0, h1 => by
    obtain ⟨ρ1, hb, hs⟩ := h1 x xs acc ρ h
    simp only [compL, hb]
    cases hc : cond ρ1 with
    | exc _ _ _ _ => rw [hc] at hs; exact hs.elim
    | stuck => rw [hc] at hs; exact hs.elim
    | ok q =>
      obtain ⟨b, ρ2⟩ := q
      rw [hc] at hs
      have hs : if b = true then RX (elt ρ2) (fun z => ∃ r, z.1 = .val r ∧ I xs (acc ++ [r.read]) z.2) X0 else I xs acc ρ2 := hs
      cases b with
      | false => exact wl_inv (items := xs) (acc := acc) hs h0 h1
      | true =>
        have hs : RX (elt ρ2) (fun z => ∃ r, z.1 = .val r ∧ I xs (acc ++ [r.read]) z.2) X0 := hs
        cases he : elt ρ2 with
        | exc _ _ _ _ => rw [he] at hs; exact hs.elim
        | stuck => rw [he] at hs; exact hs.elim
        | ok z =>
          obtain ⟨v, ρ3⟩ := z
          rw [he] at hs
          obtain ⟨r, e, hi⟩ := hs
          cases e
          simp only [he]
          rw [RX_bind]
          exact wl_inv (items := xs) (acc := acc ++ [r.read]) hi (fun acc' ρ z => h0 (r.read :: acc') ρ (by rw [List.append_assoc] at z; exact z)) h1
end

/-! ### the built-in operations, one by one -/
section
variable {i j : Int} {a b : D} {xs ys : List D} {x y : Str} {p q : Bool}
theorem o_add : opB .add [.int i, .int j] = some (.p (.int (i + j))) := rfl
theorem o_addS : opB .add [.str x, .str y] = if x.length + y.length ≤ sizeLine then some (.p (.str (x ++ y))) else none := rfl
theorem o_addL : opB .add [.lst xs, .lst ys] = if xs.length + ys.length ≤ sizeLine then some (.l (xs ++ ys)) else none := rfl
theorem o_addT : opB .add [.tup xs, .tup ys] = if xs.length + ys.length ≤ sizeLine then some (.p (.tup (xs ++ ys))) else none := rfl
theorem o_sub : opB .sub [.int i, .int j] = some (.p (.int (i - j))) := rfl
theorem o_mul : opB .mul [.int i, .int j] = if mulOk i j then some (.p (.int (i * j))) else none := rfl
theorem o_fdiv : opB .fdiv [.int i, .int j] = if divOk j then some (.p (.int (i.fdiv j))) else none := rfl
theorem o_mod : opB .mod [.int i, .int j] = if j ≠ 0 then some (.p (.int (i.fmod j))) else none := rfl
theorem o_pow : opB .pow [.int i, .int j] = if 0 ≤ j ∧ j ≤ 1000000 ∧ i.natAbs < 2 ^ 64 then some (.p (.int (i ^ j.toNat))) else none := rfl
theorem o_lt : opB .lt [.int i, .int j] = some (.p (.bl (decide (i < j)))) := rfl
theorem o_le : opB .le [.int i, .int j] = some (.p (.bl (decide (i ≤ j)))) := rfl
theorem o_gt : opB .gt [.int i, .int j] = some (.p (.bl (decide (j < i)))) := rfl
theorem o_ge : opB .ge [.int i, .int j] = some (.p (.bl (decide (j ≤ i)))) := rfl
theorem o_eq : opB .eq [a, b] = bR (eqD a b) := rfl
theorem o_ne : opB .ne [a, b] = bR ((eqD a b).map not) := rfl
theorem o_inn : opB .inn [a, b] = bR (inD a b) := rfl
theorem o_nin : opB .nin [a, b] = bR ((inD a b).map not) := rfl
theorem o_ixL : opB .ix [.lst xs, .int i] = (atI xs i).map .p := rfl
theorem o_ixT : opB .ix [.tup xs, .int i] = (atI xs i).map .p := rfl
theorem o_ixC : opB .ix [.scr xs, .int i] = (atI xs i).map .p := rfl
theorem o_ixS : opB .ix [.str x, .int i] = if x.length ≤ sizeLine then (atI x.cps.toList i).map fun c => .p (.str ⟨#[c]⟩) else none := rfl
theorem o_isN : opB .isN [a] = some (.p (.bl a.isNon)) := rfl
theorem o_notN : opB .notN [a] = some (.p (.bl (!a.isNon))) := rfl
theorem o_neg : opB .neg [.int i] = some (.p (.int (-i))) := rfl
theorem o_lenL : opB .len [.lst xs] = some (.p (.int xs.length)) := rfl
theorem o_lenT : opB .len [.tup xs] = some (.p (.int xs.length)) := rfl
theorem o_lenC : opB .len [.scr xs] = some (.p (.int xs.length)) := rfl
theorem o_lenS : opB .len [.str x] = if x.length ≤ sizeLine then some (.p (.int x.length)) else none := by
  show (if x.length ≤ sizeLine then some x.length else none).map _ = _
  split <;> rfl
theorem o_max : opB .max2 [.int i, .int j] = some (.p (.int (if j > i then j else i))) := rfl
theorem o_min : opB .min2 [.int i, .int j] = some (.p (.int (if j < i then j else i))) := rfl
theorem o_int : opB .int1 [.int i] = some (.p (.int i)) := rfl
theorem o_intB : opB .int1 [.bl p] = some (.p (.int (if p then 1 else 0))) := rfl
theorem o_isi {T : String} : opB (.isi T) [a] = (tyD a).bind fun t => bR (isiD t T) := rfl
theorem o_all : opB .all1 [.lst xs] = (boolsD xs).map fun bs => .p (.bl (bs.all id)) := rfl
theorem o_any : opB .any1 [.lst xs] = (boolsD xs).map fun bs => .p (.bl (bs.any id)) := rfl
theorem o_sum : opB .sum1 [.lst xs] = (intsD xs).map fun is => .p (.int is.sum) := rfl
theorem o_tupL : opB .tuple1 [.lst xs] = some (.p (.tup xs)) := rfl
theorem o_tupT : opB .tuple1 [.tup xs] = some (.p (.tup xs)) := rfl
theorem o_lstL : opB .list1 [.lst xs] = some (.l xs) := rfl
theorem o_lstT : opB .list1 [.tup xs] = some (.l xs) := rfl
theorem o_slA : opB .slA [a, .int i] = slD a (some i) none := rfl
theorem o_slB : opB .slB [a, .int i] = slD a none (some i) := rfl
theorem o_slAB : opB .slAB [a, .int i, .int j] = slD a (some i) (some j) := rfl
theorem o_join : opB .join [.str x, .lst xs] = (strsD xs).bind fun ys => if (ys.map fun y => y.length).sum + ys.length * x.length ≤ 16777216 then some (.p (.str (Txt.join x ys))) else none := rfl
theorem g_nil {ρ : Env} : gets ρ [] = some [] := rfl
theorem g_val {ρ : Env} {r : R} {os : List Val} : gets ρ (.val r :: os) = (gets ρ os).map fun ds => r.read :: ds := rfl
theorem g_at {ρ : Env} {k : Nat} {os : List Val} : gets ρ (.at k :: os) = (ρ.gt k).bind fun r => (gets ρ os).map fun ds => r.read :: ds := by
  show ((ρ.gt k).map R.read).bind _ = _
  cases ρ.gt k <;> rfl
def taAt : Option R → Nat → Env → List Val → Option (List Val × Env)
  | some (.p d), _, ρ, os => (takeA os ρ).map fun q => (.val (.p d) :: q.1, q.2)
  | some r, i, ρ, os => (takeA os (ρ.set i none)).map fun q => (.lent r i :: q.1, q.2)
  | none, _, _, _ => none
theorem ta_nil {ρ : Env} : takeA [] ρ = some ([], ρ) := rfl
theorem ta_val {ρ : Env} {r : R} {os : List Val} : takeA (.val r :: os) ρ = (takeA os ρ).map fun q => (.val r :: q.1, q.2) := rfl
theorem ta_at {ρ : Env} {i : Nat} {os : List Val} : takeA (.at i :: os) ρ = taAt (ρ.gt i) i ρ os := by
  simp only [takeA]
  cases ρ.gt i with
  | none => rfl
  | some r => cases r <;> rfl
theorem taAt_p {ρ : Env} {i : Nat} {os : List Val} {d : D} : taAt (some (.p d)) i ρ os = (takeA os ρ).map fun q => (.val (.p d) :: q.1, q.2) := rfl
theorem taAt_l {ρ : Env} {i : Nat} {os : List Val} {xs : List D} : taAt (some (.l xs)) i ρ os = (takeA os (ρ.set i none)).map fun q => (.lent (.l xs) i :: q.1, q.2) := rfl
theorem taAt_m {ρ : Env} {i : Nat} {os : List Val} {ks vs : List D} : taAt (some (.m ks vs)) i ρ os = (takeA os (ρ.set i none)).map fun q => (.lent (.m ks vs) i :: q.1, q.2) := rfl
theorem v_val {ρ : Env} {r : R} : (Val.val r).get ρ = some r.read := rfl
theorem v_at {ρ : Env} {k : Nat} : (Val.at k).get ρ = (ρ.gt k).map R.read := rfl
theorem r_p {d : D} : (R.p d).read = d := rfl
theorem r_l : (R.l xs).read = .lst xs := rfl
theorem gt_0 {r : Option R} {ρ : Env} : Env.gt (r :: ρ) 0 = r := rfl
theorem gt_s {r : Option R} {ρ : Env} {n : Nat} : Env.gt (r :: ρ) (n + 1) = Env.gt ρ n := rfl
theorem bR_s {z : Bool} : bR (some z) = some (.p (.bl z)) := rfl
theorem bR_n : bR none = none := rfl
theorem ite_some_eq {c : Prop} [Decidable c] {α : Type} {u v : α} : ((if c then some u else none) = some v) ↔ c ∧ u = v := by
  by_cases h : c <;> simp [h]
theorem ite_none_eq {c : Prop} [Decidable c] {α : Type} {u : Option α} {v : α} : ((if c then none else u) = some v) ↔ ¬c ∧ u = some v := by
  by_cases h : c <;> simp [h]
end
end VB
set_option Elab.async false
set_option linter.all false
set_option maxRecDepth 100000
set_option maxHeartbeats 4000000
/-! the same rules, in the order of going: what follows is looked at only when it is reached -/
namespace VB
open PySem PySem.Spec L2
open PyProof.Rows hiding St

def OB {α : Type} (o : Option α) (K : α → Prop) : Prop := match o with
  | some a => K a
  | none => False
/-- a truth -/
def TB (v : Val) (K : Bool → Prop) : Prop := match v with
  | .val (.p (.bl c)) => K c
  | _ => False
/-- plain data -/
def PB (r : R) (K : D → Prop) : Prop := match r with
  | .p d => K d
  | _ => False
theorem OB_iff {α : Type} {o : Option α} {K : α → Prop} : OB o K ↔ ∃ a, o = some a ∧ K a := by
  cases o <;> simp [OB]
theorem TB_iff {v : Val} {K : Bool → Prop} : TB v K ↔ ∃ c, v = .val (.p (.bl c)) ∧ K c := by
  unfold TB
  split
  · simp
  · rename_i h
    exact ⟨fun z => z.elim, fun ⟨c, e, _⟩ => h c e⟩
theorem PB_iff {r : R} {K : D → Prop} : PB r K ↔ ∃ d, r = .p d ∧ K d := by
  cases r <;> simp [PB]
theorem OB_some {α : Type} {a : α} {K : α → Prop} : OB (some a) K ↔ K a := Iff.rfl
theorem OB_none {α : Type} {K : α → Prop} : OB none K ↔ False := Iff.rfl
theorem OB_if {α : Type} {c : Prop} [Decidable c] {a : α} {K : α → Prop} : OB (if c then some a else none) K ↔ c ∧ K a := by
  by_cases h : c <;> simp [h, OB]
theorem OB_if' {α : Type} {c : Prop} [Decidable c] {o : Option α} {K : α → Prop} : OB (if c then none else o) K ↔ ¬c ∧ OB o K := by
  by_cases h : c <;> simp [h, OB]
theorem OB_map {α β : Type} {o : Option α} {f : α → β} {K : β → Prop} : OB (o.map f) K ↔ OB o fun a => K (f a) := by
  cases o <;> rfl
theorem OB_bind {α β : Type} {o : Option α} {f : α → Option β} {K : β → Prop} : OB (o.bind f) K ↔ OB o fun a => OB (f a) K := by
  cases o <;> rfl
theorem TB_val {c : Bool} {K : Bool → Prop} : TB (.val (.p (.bl c))) K ↔ K c := Iff.rfl
theorem PB_p {d : D} {K : D → Prop} : PB (.p d) K ↔ K d := Iff.rfl

section
variable {α β : Type} {cl : Cl} {m : Mode} {ρ : Env} {K : Val × Env → Prop} {X : XT} {fx : List Nat} {k : Kt}
theorem q_vo {i : Nat} : RX (ev cl .opd (.v i) ρ) K X ↔ OB (ρ.gt i) fun _ => K (.at i, ρ) := by rw [we_vo, OB_iff]
theorem q_ve {i : Nat} : RX (ev cl .esc (.v i) ρ) K X ↔ OB (ρ.gt i) fun r => PB r fun d => K (.val (.p d), ρ) := by
  rw [we_ve]
  simp only [OB_iff, PB_iff]
  exact ⟨fun ⟨d, h, z⟩ => ⟨_, h, d, rfl, z⟩, fun ⟨r, h, d, e, z⟩ => ⟨d, e ▸ h, z⟩⟩
theorem q_va {i : Nat} : RX (ev cl .arg (.v i) ρ) K X ↔ OB (ρ.gt i) fun r => PB r fun d => K (.val (.p d), ρ) := by
  rw [we_va]
  simp only [OB_iff, PB_iff]
  exact ⟨fun ⟨d, h, z⟩ => ⟨_, h, d, rfl, z⟩, fun ⟨r, h, d, e, z⟩ => ⟨d, e ▸ h, z⟩⟩
theorem q_mov {i : Nat} : RX (ev cl m (.mov i) ρ) K X ↔ OB (ρ.gt i) (movK i ρ K) := by rw [we_mov, OB_iff]
theorem q_frz {i : Nat} : RX (ev cl m (.frz i) ρ) K X ↔ OB (ρ.gt i) fun r => K (.val (.p r.read), ρ.set i (some (.p r.read))) := by rw [we_frz, OB_iff]
theorem q_lend {i : Nat} : RX (ev cl .arg (.lend i) ρ) K X ↔ OB (ρ.gt i) fun _ => K (.at i, ρ) := by rw [we_lend0, OB_iff]
theorem q_call {f : Str} {es : List E} : RX (ev cl m (.call f es) ρ) K X ↔ RX (evL cl .arg es ρ) (fun q => OB (takeA q.1 q.2) fun t => CW (cl f (t.1.map Val.r)) (fun r o => K (.val r, giveBack t.2 t.1 o)) (fun c ns vs o => X c ns vs (giveBack t.2 t.1 o))) X := by
  rw [we_call]; simp only [OB_iff]
theorem q_op {o : BOp} {es : List E} : RX (ev cl m (.op o es) ρ) K X ↔ RX (evL cl .opd es ρ) (fun q => OB (gets q.2 q.1) fun ds => OB (opB o ds) fun r => K (.val r, q.2)) X := by
  rw [we_op]; simp only [OB_iff]
theorem q_and {a b : E} : RX (ev cl m (.and a b) ρ) K X ↔ RX (ev cl .esc a ρ) (fun q => TB q.1 fun c => if c = true then RX (ev cl .esc b q.2) K X else K (.val (.p (.bl false)), q.2)) X := by
  rw [we_and]; simp only [TB_iff]
theorem q_or {a b : E} : RX (ev cl m (.or a b) ρ) K X ↔ RX (ev cl .esc a ρ) (fun q => TB q.1 fun c => if c = true then K (.val (.p (.bl true)), q.2) else RX (ev cl .esc b q.2) K X) X := by
  rw [we_or]; simp only [TB_iff]
theorem q_not {a : E} : RX (ev cl m (.not a) ρ) K X ↔ RX (ev cl .esc a ρ) (fun q => TB q.1 fun c => K (.val (.p (.bl (!c))), q.2)) X := by
  rw [we_not]; simp only [TB_iff]
theorem q_ite {c a b : E} : RX (ev cl m (.ite c a b) ρ) K X ↔ RX (ev cl .esc c ρ) (fun q => TB q.1 fun c => if c = true then RX (ev cl .esc a q.2) K X else RX (ev cl .esc b q.2) K X) X := by
  rw [we_ite]; simp only [TB_iff]
theorem q_chain {o o' : BOp} {a b c : E} : RX (ev cl m (.chain o o' a b c) ρ) K X ↔ RX (ev cl .opd a ρ) (fun qa => RX (ev cl .opd b qa.2) (fun qb => OB (gets qb.2 [qa.1, qb.1]) fun ds => OB (opB o ds) fun r => TB (.val r) fun z =>
    if z = true then RX (ev cl .opd c qb.2) (fun qc => OB (gets qc.2 [qb.1, qc.1]) fun ds' => OB (opB o' ds') fun r => K (.val r, qc.2)) X else K (.val (.p (.bl false)), qb.2)) X) X := by
  rw [we_chain]
  simp only [OB_iff, TB_iff, Val.val.injEq]
  cases ev cl .opd a ρ with
  | ok qa =>
    simp only [RX_ok]
    cases ev cl .opd b qa.2 with
    | ok qb =>
      simp only [RX_ok]
      exact ⟨fun ⟨ds, h, z, h2, q⟩ => ⟨ds, h, _, h2, z, rfl, q⟩, fun ⟨ds, h, r, h2, z, e, q⟩ => ⟨ds, h, z, e ▸ h2, q⟩⟩
    | _ => exact Iff.rfl
  | _ => exact Iff.rfl
theorem q_mut {mo : MOp} {i : Nat} {es : List E} : RX (ev cl m (.mut mo i es) ρ) K X ↔ isLst (ρ.gt i) = true ∧ RX (evL cl (if mo.keeps then .esc else .opd) es ρ) (fun q => OB (q.2.gt i) fun r0 => OB (gets q.2 q.1) fun ds => OB (opM mo r0 ds) fun p => K (.val p.1, q.2.set i (some p.2))) X := by
  rw [we_mut]; simp only [OB_iff]
theorem q_comp {own : List Nat} {sk : SrcK} {src : List E} {p : Pat} {conds : List E} {elt : E} : RX (ev cl m (.comp own sk src p conds elt) ρ) K X ↔ RX (evL cl .opd src ρ) (fun q => OB (gets q.2 q.1) fun ds => OB (srcItems sk ds) fun items =>
    (isPures q.2 own = true ∧ patIn own p = true) ∧ RX (compL own p (fun ρ => evTs cl conds ρ) (fun ρ => ev cl .esc elt ρ) items (lockE q.2 (locks q.2 q.1))) (fun z => z.1.length ≤ sizeLine ∧ K (.val (.l z.1), unlockE (restore (wipeE z.2 own) q.2 own) (locks q.2 q.1))) X0) X := by
  rw [we_comp]; simp only [OB_iff]
theorem qt_one {e : E} {K : Bool × Env → Prop} : RX (evTs cl [e] ρ) K X ↔ RX (ev cl .esc e ρ) (fun q => TB q.1 fun c => K (c, q.2)) X := by
  rw [wt_one]; simp only [TB_iff]
theorem qs_ite {c : E} {a b : List S} : SW (evS cl fx (.ite c a b) ρ) k ↔ RX (ev cl .esc c ρ) (fun q => TB q.1 fun z => if z = true then SW (evSs cl fx a q.2) k else SW (evSs cl fx b q.2) k) k.ex := by
  rw [ws_ite]; simp only [TB_iff]
theorem qs_store {i : Nat} {kx e : E} : SW (evS cl fx (.store i kx e) ρ) k ↔ isLst (ρ.gt i) = true ∧ RX (ev cl .esc e ρ) (fun q => RX (ev cl .opd kx q.2) (fun q' => OB (q'.1.get q'.2) fun kd => OB (q'.2.gt i) fun r => OB (storeD r kd q.1.rd) fun r' => k.nx (q'.2.set i (some r'))) k.ex) k.ex := by
  rw [ws_store]; simp only [OB_iff]
theorem qs_for {sk : SrcK} {src : List E} {p : Pat} {body : List S} : SW (evS cl fx (.for_ sk src p body) ρ) k ↔ RX (evL cl .opd src ρ) (fun q => OB (gets q.2 q.1) fun ds => OB (srcItems sk ds) fun items => freeP (lockF fx (locks q.2 q.1)) p = true ∧
    SW (forL p (fun ρ => evSs cl (lockF fx (locks q.2 q.1)) body ρ) items (lockE q.2 (locks q.2 q.1))) { k with nx := fun ρ => k.nx (unlockE ρ (locks q.2 q.1)), rt := fun r ρ => k.rt r (unlockE ρ (locks q.2 q.1)), ex := fun c ns vs ρ => k.ex c ns vs (unlockE ρ (locks q.2 q.1)) }) k.ex := by
  rw [ws_for]; simp only [OB_iff]
theorem qf_cons {p : Pat} {body : Env → Out} {x : D} {xs : List D} : SW (forL p body (x :: xs) ρ) k ↔ OB (bindP p x ρ) fun ρ1 => SW (body ρ1) { k with nx := fun ρ2 => SW (forL p body xs ρ2) k, ct := fun ρ2 => SW (forL p body xs ρ2) k, bk := fun ρ2 => k.nx ρ2 } := by
  rw [wf_cons]; simp only [OB_iff]
end
end VB
set_option Elab.async false
set_option linter.all false
set_option maxRecDepth 100000
set_option maxHeartbeats 4000000
/-! the same again, what follows kept out of the rewriting's sight -/
namespace VB
open PySem PySem.Spec L2
open PyProof.Rows hiding St
structure DepK {α : Type} (x : α) : Type where
structure QX {α : Type} (r : Res α) (K : α → Prop) (X : XT) (_u : DepK (K, X) := DepK.mk) : Prop where
  h : RX r K X
structure QC (c : CRes) (K : R → Env → Prop) (X : XT) (_u : DepK (K, X) := DepK.mk) : Prop where
  h : CW c K X
structure QS (o : Out) (k : Kt) (_u : DepK k := DepK.mk) : Prop where
  h : SW o k
structure QO {α : Type} (o : Option α) (K : α → Prop) (_u : DepK K := DepK.mk) : Prop where
  h : OB o K
structure QT (v : Val) (K : Bool → Prop) (_u : DepK K := DepK.mk) : Prop where
  h : TB v K
structure QP (r : R) (K : D → Prop) (_u : DepK K := DepK.mk) : Prop where
  h : PB r K
theorem QX_iff {α : Type} {r : Res α} {K : α → Prop} {X : XT} : QX r K X ↔ RX r K X := ⟨QX.h, QX.mk⟩
theorem QC_iff {c : CRes} {K : R → Env → Prop} {X : XT} : QC c K X ↔ CW c K X := ⟨QC.h, QC.mk⟩
theorem QS_iff {o : Out} {k : Kt} : QS o k ↔ SW o k := ⟨QS.h, QS.mk⟩
theorem QO_iff {α : Type} {o : Option α} {K : α → Prop} : QO o K ↔ OB o K := ⟨QO.h, QO.mk⟩
theorem QT_iff {v : Val} {K : Bool → Prop} : QT v K ↔ TB v K := ⟨QT.h, QT.mk⟩
theorem QP_iff {r : R} {K : D → Prop} : QP r K ↔ PB r K := ⟨QP.h, QP.mk⟩
theorem QX.mono {α : Type} {r : Res α} {K K' : α → Prop} {X X' : XT} (h : QX r K X) (hk : ∀ a, K a → K' a) (hx : ∀ c ns vs ρ, X c ns vs ρ → X' c ns vs ρ) : QX r K' X' := ⟨h.h.mono hk hx⟩
theorem QS.mono {o : Out} {k k' : Kt} (h : QS o k) (hn : ∀ ρ, k.nx ρ → k'.nx ρ) (hr : ∀ r ρ, k.rt r ρ → k'.rt r ρ) (hb : ∀ ρ, k.bk ρ → k'.bk ρ) (hc : ∀ ρ, k.ct ρ → k'.ct ρ) (hx : ∀ c ns vs ρ, k.ex c ns vs ρ → k'.ex c ns vs ρ) : QS o k' := ⟨h.h.mono hn hr hb hc hx⟩
theorem CW.toQ {r : CRes} {K K' : R → Env → Prop} {X X' : XT} (h : CW r K X) : QC r K X := ⟨h⟩
theorem QC.mono {r : CRes} {K K' : R → Env → Prop} {X X' : XT} (h : QC r K X) (hk : ∀ a o, K a o → K' a o) (hx : ∀ c ns vs ρ, X c ns vs ρ → X' c ns vs ρ) : QC r K' X' := ⟨h.h.mono hk hx⟩
section
variable {α β : Type} {cl : Cl} {m : Mode} {ρ : Env} {K : Val × Env → Prop} {X : XT} {fx : List Nat} {k : Kt}
theorem z_RX_ok {a : α} {K : α → Prop} : QX (.ok a) K X ↔ K a := by
  simp only [QX_iff, QC_iff, QS_iff, QO_iff, QT_iff, QP_iff]
  exact RX_ok
theorem z_RX_stuck {K : α → Prop} : QX (.stuck : Res α) K X ↔ False := by
  simp only [QX_iff, QC_iff, QS_iff, QO_iff, QT_iff, QP_iff]
  exact RX_stuck
theorem z_CW_ok {r : R} {o : Env} {K : R → Env → Prop} : QC (.ok r o) K X ↔ K r o := by
  simp only [QX_iff, QC_iff, QS_iff, QO_iff, QT_iff, QP_iff]
  exact CW_ok
theorem z_we_c {d : D} : QX (ev cl m (.c d) ρ) K X ↔ K (.val (.p d), ρ) := by
  simp only [QX_iff, QC_iff, QS_iff, QO_iff, QT_iff, QP_iff]
  exact we_c
theorem z_we_tup {es : List E} : QX (ev cl m (.tup es) ρ) K X ↔ QX (evL cl .esc es ρ) (fun q => q.1.length ≤ sizeLine ∧ K (.val (.p (.tup (q.1.map Val.rd))), q.2)) X := by
  simp only [QX_iff, QC_iff, QS_iff, QO_iff, QT_iff, QP_iff]
  exact we_tup
theorem z_we_lst {es : List E} : QX (ev cl m (.lst es) ρ) K X ↔ QX (evL cl .esc es ρ) (fun q => q.1.length ≤ sizeLine ∧ K (.val (.l (q.1.map Val.rd)), q.2)) X := by
  simp only [QX_iff, QC_iff, QS_iff, QO_iff, QT_iff, QP_iff]
  exact we_lst
theorem z_we_dic {ks : List D} {es : List E} : QX (ev cl m (.dic ks es) ρ) K X ↔ (ks.length = es.length ∧ ks.length ≤ 1 ∧ ks.all isKey = true) ∧ QX (evL cl .esc es ρ) (fun q => K (.val (.m ks (q.1.map Val.rd)), q.2)) X := by
  simp only [QX_iff, QC_iff, QS_iff, QO_iff, QT_iff, QP_iff]
  exact we_dic
theorem z_we_nil {K : List Val × Env → Prop} : QX (evL cl m [] ρ) K X ↔ K ([], ρ) := by
  simp only [QX_iff, QC_iff, QS_iff, QO_iff, QT_iff, QP_iff]
  exact we_nil
theorem z_we_cons {e : E} {es : List E} {K : List Val × Env → Prop} : QX (evL cl m (e :: es) ρ) K X ↔ QX (ev cl m e ρ) (fun q => QX (evL cl m es q.2) (fun q' => K (q.1 :: q'.1, q'.2)) X) X := by
  simp only [QX_iff, QC_iff, QS_iff, QO_iff, QT_iff, QP_iff]
  exact we_cons
theorem z_wt_nil {K : Bool × Env → Prop} : QX (evTs cl [] ρ) K X ↔ K (true, ρ) := by
  simp only [QX_iff, QC_iff, QS_iff, QO_iff, QT_iff, QP_iff]
  exact wt_nil
theorem z_ws_nil : QS (evSs cl fx [] ρ) k ↔ k.nx ρ := by
  simp only [QX_iff, QC_iff, QS_iff, QO_iff, QT_iff, QP_iff]
  exact ws_nil
theorem z_ws_cons {s : S} {ss : List S} : QS (evSs cl fx (s :: ss) ρ) k ↔ QS (evS cl fx s ρ) { k with nx := fun ρ' => QS (evSs cl fx ss ρ') k } := by
  simp only [QX_iff, QC_iff, QS_iff, QO_iff, QT_iff, QP_iff]
  exact ws_cons
theorem z_ws_set {i : Nat} {e : E} : QS (evS cl fx (.set i e) ρ) k ↔ free fx i = true ∧ QX (ev cl .esc e ρ) (fun q => k.nx (q.2.set i (some q.1.r))) k.ex := by
  simp only [QX_iff, QC_iff, QS_iff, QO_iff, QT_iff, QP_iff]
  exact ws_set
theorem z_ws_setP {ps : List Pat} {e : E} : QS (evS cl fx (.setP ps e) ρ) k ↔ freePs fx ps = true ∧ QX (ev cl .esc e ρ) (fun q => ∃ xs, q.1 = .val (.p (.tup xs)) ∧ ∃ ρ', bindPs ps xs q.2 = some ρ' ∧ k.nx ρ') k.ex := by
  simp only [QX_iff, QC_iff, QS_iff, QO_iff, QT_iff, QP_iff]
  exact ws_setP
theorem z_ws_par {i j : Nat} {a b : E} : QS (evS cl fx (.par i j a b) ρ) k ↔ (free fx i && free fx j) = true ∧ QX (ev cl .esc a ρ) (fun q => QX (ev cl .esc b q.2) (fun q' => k.nx ((q'.2.set i (some q.1.r)).set j (some q'.1.r))) k.ex) k.ex := by
  simp only [QX_iff, QC_iff, QS_iff, QO_iff, QT_iff, QP_iff]
  exact ws_par
theorem z_ws_ex {e : E} : QS (evS cl fx (.ex e) ρ) k ↔ QX (ev cl .esc e ρ) (fun q => k.nx q.2) k.ex := by
  simp only [QX_iff, QC_iff, QS_iff, QO_iff, QT_iff, QP_iff]
  exact ws_ex
theorem z_ws_ret {e : E} : QS (evS cl fx (.ret e) ρ) k ↔ QX (ev cl .esc e ρ) (fun q => k.rt q.1.r q.2) k.ex := by
  simp only [QX_iff, QC_iff, QS_iff, QO_iff, QT_iff, QP_iff]
  exact ws_ret
theorem z_ws_retN : QS (evS cl fx .retN ρ) k ↔ k.rt (.p .non) ρ := by
  simp only [QX_iff, QC_iff, QS_iff, QO_iff, QT_iff, QP_iff]
  exact ws_retN
theorem z_ws_brk : QS (evS cl fx .brk ρ) k ↔ k.bk ρ := by
  simp only [QX_iff, QC_iff, QS_iff, QO_iff, QT_iff, QP_iff]
  exact ws_brk
theorem z_ws_cont : QS (evS cl fx .cont ρ) k ↔ k.ct ρ := by
  simp only [QX_iff, QC_iff, QS_iff, QO_iff, QT_iff, QP_iff]
  exact ws_cont
theorem z_ws_pass : QS (evS cl fx .pass ρ) k ↔ k.nx ρ := by
  simp only [QX_iff, QC_iff, QS_iff, QO_iff, QT_iff, QP_iff]
  exact ws_pass
theorem z_ws_aug {o : BOp} {i : Nat} {e : E} : QS (evS cl fx (.aug o i e) ρ) k ↔ free fx i = true ∧ ∃ x, ρ.gt i = some (.p (.int x)) ∧ QX (ev cl .esc e ρ) (fun q => ∃ y, q.1 = .val (.p (.int y)) ∧ ((o = .add ∧ k.nx (q.2.set i (some (.p (.int (x + y)))))) ∨ (o = .sub ∧ k.nx (q.2.set i (some (.p (.int (x - y)))))))) k.ex := by
  simp only [QX_iff, QC_iff, QS_iff, QO_iff, QT_iff, QP_iff]
  exact ws_aug
theorem z_wf_nil {p : Pat} {body : Env → Out} : QS (forL p body [] ρ) k ↔ k.nx ρ := by
  simp only [QX_iff, QC_iff, QS_iff, QO_iff, QT_iff, QP_iff]
  exact wf_nil
theorem z_wc_run {fn : Fn} {args : List R} {K : R → Env → Prop} : QC (fn.run cl args) K X ↔ args.length = fn.np ∧ lentOk fn.fx 0 args = true ∧ QS (evSs cl fn.fx fn.body (args.map some ++ List.replicate (fn.ns - fn.np) none))
    { nx := fun ρ => K (.p .non) (outsOf fn.fx 0 fn.np ρ), rt := fun r ρ => K r (outsOf fn.fx 0 fn.np ρ), bk := fun _ => False, ct := fun _ => False, ex := fun c ns vs ρ => X c ns vs (outsOf fn.fx 0 fn.np ρ) } := by
  simp only [QX_iff, QC_iff, QS_iff, QO_iff, QT_iff, QP_iff]
  exact wc_run
theorem z_OB_some {α : Type} {a : α} {K : α → Prop} : QO (some a) K ↔ K a := by
  simp only [QX_iff, QC_iff, QS_iff, QO_iff, QT_iff, QP_iff]
  exact OB_some
theorem z_OB_none {α : Type} {K : α → Prop} : QO none K ↔ False := by
  simp only [QX_iff, QC_iff, QS_iff, QO_iff, QT_iff, QP_iff]
  exact OB_none
theorem z_OB_if {α : Type} {c : Prop} [Decidable c] {a : α} {K : α → Prop} : QO (if c then some a else none) K ↔ c ∧ K a := by
  simp only [QX_iff, QC_iff, QS_iff, QO_iff, QT_iff, QP_iff]
  exact OB_if
theorem z_OB_ifi {α : Type} {c : Prop} [Decidable c] {o : Option α} {K : α → Prop} : QO (if c then none else o) K ↔ ¬c ∧ QO o K := by
  simp only [QX_iff, QC_iff, QS_iff, QO_iff, QT_iff, QP_iff]
  exact OB_if'
theorem z_OB_map {α β : Type} {o : Option α} {f : α → β} {K : β → Prop} : QO (o.map f) K ↔ QO o fun a => K (f a) := by
  simp only [QX_iff, QC_iff, QS_iff, QO_iff, QT_iff, QP_iff]
  exact OB_map
theorem z_OB_bind {α β : Type} {o : Option α} {f : α → Option β} {K : β → Prop} : QO (o.bind f) K ↔ QO o fun a => QO (f a) K := by
  simp only [QX_iff, QC_iff, QS_iff, QO_iff, QT_iff, QP_iff]
  exact OB_bind
theorem z_TB_val {c : Bool} {K : Bool → Prop} : QT (.val (.p (.bl c))) K ↔ K c := by
  simp only [QX_iff, QC_iff, QS_iff, QO_iff, QT_iff, QP_iff]
  exact TB_val
theorem z_PB_p {d : D} {K : D → Prop} : QP (.p d) K ↔ K d := by
  simp only [QX_iff, QC_iff, QS_iff, QO_iff, QT_iff, QP_iff]
  exact PB_p
theorem z_q_vo {i : Nat} : QX (ev cl .opd (.v i) ρ) K X ↔ QO (ρ.gt i) fun _ => K (.at i, ρ) := by
  simp only [QX_iff, QC_iff, QS_iff, QO_iff, QT_iff, QP_iff]
  exact q_vo
theorem z_q_ve {i : Nat} : QX (ev cl .esc (.v i) ρ) K X ↔ QO (ρ.gt i) fun r => QP r fun d => K (.val (.p d), ρ) := by
  simp only [QX_iff, QC_iff, QS_iff, QO_iff, QT_iff, QP_iff]
  exact q_ve
theorem z_q_va {i : Nat} : QX (ev cl .arg (.v i) ρ) K X ↔ QO (ρ.gt i) fun r => QP r fun d => K (.val (.p d), ρ) := by
  simp only [QX_iff, QC_iff, QS_iff, QO_iff, QT_iff, QP_iff]
  exact q_va
theorem z_q_mov {i : Nat} : QX (ev cl m (.mov i) ρ) K X ↔ QO (ρ.gt i) (movK i ρ K) := by
  simp only [QX_iff, QC_iff, QS_iff, QO_iff, QT_iff, QP_iff]
  exact q_mov
theorem z_q_frz {i : Nat} : QX (ev cl m (.frz i) ρ) K X ↔ QO (ρ.gt i) fun r => K (.val (.p r.read), ρ.set i (some (.p r.read))) := by
  simp only [QX_iff, QC_iff, QS_iff, QO_iff, QT_iff, QP_iff]
  exact q_frz
theorem z_q_lend {i : Nat} : QX (ev cl .arg (.lend i) ρ) K X ↔ QO (ρ.gt i) fun _ => K (.at i, ρ) := by
  simp only [QX_iff, QC_iff, QS_iff, QO_iff, QT_iff, QP_iff]
  exact q_lend
theorem z_q_call {f : Str} {es : List E} : QX (ev cl m (.call f es) ρ) K X ↔ QX (evL cl .arg es ρ) (fun q => QO (takeA q.1 q.2) fun t => QC (cl f (t.1.map Val.r)) (fun r o => K (.val r, giveBack t.2 t.1 o)) (fun c ns vs o => X c ns vs (giveBack t.2 t.1 o))) X := by
  simp only [QX_iff, QC_iff, QS_iff, QO_iff, QT_iff, QP_iff]
  exact q_call
theorem z_q_op {o : BOp} {es : List E} : QX (ev cl m (.op o es) ρ) K X ↔ QX (evL cl .opd es ρ) (fun q => QO (gets q.2 q.1) fun ds => QO (opB o ds) fun r => K (.val r, q.2)) X := by
  simp only [QX_iff, QC_iff, QS_iff, QO_iff, QT_iff, QP_iff]
  exact q_op
theorem z_q_and {a b : E} : QX (ev cl m (.and a b) ρ) K X ↔ QX (ev cl .esc a ρ) (fun q => QT q.1 fun c => if c = true then QX (ev cl .esc b q.2) K X else K (.val (.p (.bl false)), q.2)) X := by
  simp only [QX_iff, QC_iff, QS_iff, QO_iff, QT_iff, QP_iff]
  exact q_and
theorem z_q_or {a b : E} : QX (ev cl m (.or a b) ρ) K X ↔ QX (ev cl .esc a ρ) (fun q => QT q.1 fun c => if c = true then K (.val (.p (.bl true)), q.2) else QX (ev cl .esc b q.2) K X) X := by
  simp only [QX_iff, QC_iff, QS_iff, QO_iff, QT_iff, QP_iff]
  exact q_or
theorem z_q_not {a : E} : QX (ev cl m (.not a) ρ) K X ↔ QX (ev cl .esc a ρ) (fun q => QT q.1 fun c => K (.val (.p (.bl (!c))), q.2)) X := by
  simp only [QX_iff, QC_iff, QS_iff, QO_iff, QT_iff, QP_iff]
  exact q_not
theorem z_q_ite {c a b : E} : QX (ev cl m (.ite c a b) ρ) K X ↔ QX (ev cl .esc c ρ) (fun q => QT q.1 fun c => if c = true then QX (ev cl .esc a q.2) K X else QX (ev cl .esc b q.2) K X) X := by
  simp only [QX_iff, QC_iff, QS_iff, QO_iff, QT_iff, QP_iff]
  exact q_ite
theorem z_q_chain {o o' : BOp} {a b c : E} : QX (ev cl m (.chain o o' a b c) ρ) K X ↔ QX (ev cl .opd a ρ) (fun qa => QX (ev cl .opd b qa.2) (fun qb => QO (gets qb.2 [qa.1, qb.1]) fun ds => QO (opB o ds) fun r => QT (.val r) fun z =>
    if z = true then QX (ev cl .opd c qb.2) (fun qc => QO (gets qc.2 [qb.1, qc.1]) fun ds' => QO (opB o' ds') fun r => K (.val r, qc.2)) X else K (.val (.p (.bl false)), qb.2)) X) X := by
  simp only [QX_iff, QC_iff, QS_iff, QO_iff, QT_iff, QP_iff]
  exact q_chain
theorem z_q_mut {mo : MOp} {i : Nat} {es : List E} : QX (ev cl m (.mut mo i es) ρ) K X ↔ isLst (ρ.gt i) = true ∧ QX (evL cl (if mo.keeps then .esc else .opd) es ρ) (fun q => QO (q.2.gt i) fun r0 => QO (gets q.2 q.1) fun ds => QO (opM mo r0 ds) fun p => K (.val p.1, q.2.set i (some p.2))) X := by
  simp only [QX_iff, QC_iff, QS_iff, QO_iff, QT_iff, QP_iff]
  exact q_mut
theorem z_q_comp {own : List Nat} {sk : SrcK} {src : List E} {p : Pat} {conds : List E} {elt : E} : QX (ev cl m (.comp own sk src p conds elt) ρ) K X ↔ QX (evL cl .opd src ρ) (fun q => QO (gets q.2 q.1) fun ds => QO (srcItems sk ds) fun items =>
    (isPures q.2 own = true ∧ patIn own p = true) ∧ QX (compL own p (fun ρ => evTs cl conds ρ) (fun ρ => ev cl .esc elt ρ) items (lockE q.2 (locks q.2 q.1))) (fun z => z.1.length ≤ sizeLine ∧ K (.val (.l z.1), unlockE (restore (wipeE z.2 own) q.2 own) (locks q.2 q.1))) X0) X := by
  simp only [QX_iff, QC_iff, QS_iff, QO_iff, QT_iff, QP_iff]
  exact q_comp
theorem z_qt_one {e : E} {K : Bool × Env → Prop} : QX (evTs cl [e] ρ) K X ↔ QX (ev cl .esc e ρ) (fun q => QT q.1 fun c => K (c, q.2)) X := by
  simp only [QX_iff, QC_iff, QS_iff, QO_iff, QT_iff, QP_iff]
  exact qt_one
theorem z_qs_ite {c : E} {a b : List S} : QS (evS cl fx (.ite c a b) ρ) k ↔ QX (ev cl .esc c ρ) (fun q => QT q.1 fun z => if z = true then QS (evSs cl fx a q.2) k else QS (evSs cl fx b q.2) k) k.ex := by
  simp only [QX_iff, QC_iff, QS_iff, QO_iff, QT_iff, QP_iff]
  exact qs_ite
theorem z_qs_store {i : Nat} {kx e : E} : QS (evS cl fx (.store i kx e) ρ) k ↔ isLst (ρ.gt i) = true ∧ QX (ev cl .esc e ρ) (fun q => QX (ev cl .opd kx q.2) (fun q' => QO (q'.1.get q'.2) fun kd => QO (q'.2.gt i) fun r => QO (storeD r kd q.1.rd) fun r' => k.nx (q'.2.set i (some r'))) k.ex) k.ex := by
  simp only [QX_iff, QC_iff, QS_iff, QO_iff, QT_iff, QP_iff]
  exact qs_store
theorem z_qs_for {sk : SrcK} {src : List E} {p : Pat} {body : List S} : QS (evS cl fx (.for_ sk src p body) ρ) k ↔ QX (evL cl .opd src ρ) (fun q => QO (gets q.2 q.1) fun ds => QO (srcItems sk ds) fun items => freeP (lockF fx (locks q.2 q.1)) p = true ∧
    QS (forL p (fun ρ => evSs cl (lockF fx (locks q.2 q.1)) body ρ) items (lockE q.2 (locks q.2 q.1))) { k with nx := fun ρ => k.nx (unlockE ρ (locks q.2 q.1)), rt := fun r ρ => k.rt r (unlockE ρ (locks q.2 q.1)), ex := fun c ns vs ρ => k.ex c ns vs (unlockE ρ (locks q.2 q.1)) }) k.ex := by
  simp only [QX_iff, QC_iff, QS_iff, QO_iff, QT_iff, QP_iff]
  exact qs_for
theorem z_qf_cons {p : Pat} {body : Env → Out} {x : D} {xs : List D} : QS (forL p body (x :: xs) ρ) k ↔ QO (bindP p x ρ) fun ρ1 => QS (body ρ1) { k with nx := fun ρ2 => QS (forL p body xs ρ2) k, ct := fun ρ2 => QS (forL p body xs ρ2) k, bk := fun ρ2 => k.nx ρ2 } := by
  simp only [QX_iff, QC_iff, QS_iff, QO_iff, QT_iff, QP_iff]
  exact qf_cons
end
end VB
set_option Elab.async false
set_option linter.all false
set_option maxRecDepth 100000
set_option maxHeartbeats 4000000
/-! how the laws draw -/
namespace VB
open PySem PySem.Spec L2
open PyProof.Rows hiding St

theorem pow18 : (10 : Int) ^ 18 = 1000000000000000000 := rfl

def fMixed : Fn := ⟨2, 3, [0, 1],
   [.set 2 (.op .mod [.op .mul [.op .add [.op .add [.op .mod [.v 0, .c (.int 1000000007)], .op .mul [.op .mul [.c (.int 31), .v 1], .v 1]], .c (.int 7)], .c (.int 48271)], .c (.int 2147483647)]),
    .ret (.op .mod [.op .mul [.v 2, .op .add [.c (.int 16807), .op .mul [.c (.int 7919), .v 1]]], .c (.int 2147483629)])]⟩
def fDraw : Fn := ⟨2, 5, [0, 1],
   [.set 2 (.ite (.op .ne [.v 0, .lst []]) (.op .ix [.v 0, .op .mod [.v 1, .op .len [.v 0]]]) (.c (.int 0))),
    .set 3 (.ite (.op .ge [.v 2, .op .pow [.c (.int 10), .c (.int 18)]]) (.frz 2) (.c (.int 0))),
    .for_ .rng [.op .fdiv [.v 1, .op .max2 [.c (.int 1), .op .len [.v 0]]]] (.s 4)
      [.set 3 (.op .fdiv [.v 3, .op .pow [.c (.int 10), .c (.int 18)]])],
    .ret (.lst [.frz 2, .op .mul [.c (.int 64), .v 1], .frz 3])]⟩
def fNext : Fn := ⟨2, 4, [0, 1],
   [.ite (.op .gt [.op .ix [.v 0, .c (.int 2)], .c (.int 0)])
      [.set 2 (.op .mod [.op .ix [.v 0, .c (.int 2)], .v 1]),
       .store 0 (.c (.int 2)) (.op .fdiv [.op .ix [.v 0, .c (.int 2)], .v 1]),
       .ret (.mov 2)]
      [],
    .store 0 (.c (.int 1)) (.op .add [.op .ix [.v 0, .c (.int 1)], .c (.int 1)]),
    .set 3 (.op .add [.op .mul [.call "_law_mixed" [.op .ix [.v 0, .c (.int 0)], .op .ix [.v 0, .c (.int 1)]], .c (.int 2147483629)], .call "_law_mixed" [.op .ix [.v 0, .c (.int 0)], .op .add [.op .ix [.v 0, .c (.int 1)], .c (.int 9001)]]]),
    .ret (.op .mod [.op .fdiv [.v 3, .c (.int 11)], .v 1])]⟩
def MixOk (cl : Cl) : Prop := ∀ {a b : Int}, 0 ≤ b → b < 2 ^ 62 → QC (cl "_law_mixed" [.p (.int a), .p (.int b)]) (fun r o => ∃ i, r = .p (.int i) ∧ o = [some (.p (.int a)), some (.p (.int b))]) X0
theorem mulOk_l {i j : Int} (h : -(2 ^ 64) < i ∧ i < 2 ^ 64) : mulOk i j = true := by
  unfold mulOk
  simp only [Bool.or_eq_true, Bool.and_eq_true, decide_eq_true_eq]
  exact .inl (.inl h)
theorem mulOk_r {i j : Int} (h : -(2 ^ 64) < j ∧ j < 2 ^ 64) : mulOk i j = true := by
  unfold mulOk
  simp only [Bool.or_eq_true, Bool.and_eq_true, decide_eq_true_eq]
  exact .inl (.inr h)
theorem QS_cut {cl : Cl} {fx : List Nat} {s : S} {ss : List S} {ρ : Env} {k : Kt} (I : Env → Prop) (h : QS (evS cl fx s ρ) { k with nx := I }) (h2 : ∀ ρ', I ρ' → QS (evSs cl fx ss ρ') k) : QS (evSs cl fx (s :: ss) ρ) k :=
  z_ws_cons.mpr (QS.mono h h2 (fun _ _ z => z) (fun _ z => z) (fun _ z => z) (fun _ _ _ _ z => z))
theorem QS_inv {k : Kt} {p : Pat} {body : Env → Out} {I : List D → Env → Prop} {items : List D} {ρ : Env} (h : I items ρ) (h0 : ∀ ρ, I [] ρ → k.nx ρ)
    (h1 : ∀ x xs ρ, I (x :: xs) ρ → QO (bindP p x ρ) fun ρ1 => QS (body ρ1) { k with nx := fun ρ2 => I xs ρ2, ct := fun ρ2 => I xs ρ2, bk := fun ρ2 => k.nx ρ2 }) : QS (forL p body items ρ) k :=
  ⟨wf_inv (I := I) h h0 fun x xs ρ z => by
    obtain ⟨a, e, hh⟩ := OB_iff.mp (h1 x xs ρ z).h
    exact ⟨a, e, hh.h⟩⟩
theorem QX_cinv {own : List Nat} {p : Pat} {cond : Env → Res (Bool × Env)} {elt : Env → Res (Val × Env)} {I : List D → List D → Env → Prop} {items acc : List D} {ρ : Env} {K : List D × Env → Prop} (h : I items acc ρ) (h0 : ∀ acc' ρ, I [] (acc ++ acc') ρ → K (acc', ρ))
    (h1 : ∀ x xs acc ρ, I (x :: xs) acc ρ → QO (bindP p x (wipeE ρ own)) fun ρ1 => QX (cond ρ1) (fun q => if q.1 = true then QX (elt q.2) (fun z => ∃ r, z.1 = .val r ∧ I xs (acc ++ [r.read]) z.2) X0 else I xs acc q.2) X0) : QX (compL own p cond elt items ρ) K X0 :=
  ⟨wl_inv (I := I) h h0 fun x xs acc ρ z => by
    obtain ⟨a, e, hh⟩ := OB_iff.mp (h1 x xs acc ρ z).h
    refine ⟨a, e, hh.h.mono (fun q hq => ?_) (fun _ _ _ _ z => z)⟩
    split at hq
    · rename_i hc; rw [if_pos hc]; exact hq.h
    · rename_i hc; rw [if_neg hc]; exact hq⟩
theorem fx2 (i : Nat) : free [0, 1] (i + 2) = true := by
  simp [free]
theorem mixed_ok (cl : Cl) {a b : Int} (h0 : 0 ≤ b) (h1 : b < 2 ^ 62) : QC (fMixed.run cl [.p (.int a), .p (.int b)]) (fun r o => ∃ i, r = .p (.int i) ∧ o = [some (.p (.int a)), some (.p (.int b))]) X0 := by
  have m1 : mulOk 31 b = true := mulOk_l (by omega)
  have m2 : mulOk (31 * b) b = true := mulOk_r (by omega)
  have m3 : ∀ z, mulOk z 48271 = true := fun z => mulOk_r (by omega)
  have m4 : mulOk 7919 b = true := mulOk_l (by omega)
  have m5 : ∀ z y, mulOk (Int.fmod z 2147483647) y = true := fun z y => mulOk_l (by
    have := Int.fmod_nonneg_of_pos z (b := 2147483647) (by omega)
    have := Int.fmod_lt_of_pos z (b := 2147483647) (by omega)
    omega)
  have n1 : ((1000000007 : Int) ≠ 0) = True := by simp
  have n2 : ((2147483647 : Int) ≠ 0) = True := by simp
  have n3 : ((2147483629 : Int) ≠ 0) = True := by simp
  rw [z_wc_run]
  refine ⟨rfl, rfl, ?_⟩
  simp only [fMixed, List.replicate, List.append, List.cons_append, List.nil_append, Nat.reduceSub, m1, m2, m3, m4, m5, n1, n2, n3, z_RX_ok, z_RX_stuck, z_CW_ok, z_we_c, z_we_tup, z_we_lst, z_we_dic, z_q_call, z_we_nil, z_we_cons, z_wt_nil, z_ws_nil, z_ws_cons, z_ws_set, z_ws_setP, z_ws_par, z_ws_ex, z_ws_ret, z_ws_retN, z_ws_brk, z_ws_cont, z_ws_pass, z_ws_aug, z_wf_nil, z_OB_some, z_OB_none, z_OB_if, z_OB_ifi, z_OB_map, z_OB_bind, z_TB_val, z_PB_p, z_q_vo, z_q_ve, z_q_va, z_q_mov, z_q_frz, z_q_lend, z_q_op, z_q_and, z_q_or, z_q_not, z_q_ite, z_q_chain, z_q_mut, z_q_comp, z_qt_one, z_qs_ite, z_qs_store, z_qf_cons,
    o_add, o_addL, o_sub, o_mul, o_fdiv, o_mod, o_pow, o_lt, o_le, o_gt, o_ge, o_isN, o_notN, o_neg, o_lenL, o_lenT, o_lenC, o_max, o_min, o_int, o_intB, o_ixL, o_ixT, o_ixC, o_tupL, o_tupT, o_lstL, o_lstT, g_nil, g_val, g_at, v_val, v_at, r_p, r_l, gt_0, gt_s, bR_s, bR_n, ite_some_eq, ite_none_eq,
    movK, ta_nil, ta_val, ta_at, taAt_p, taAt_l, taAt_m, Val.r, Val.rd, R.pure, giveBack, lentOk, bindP, bindPs, MOp.keeps, isLst, D.isNon,
    List.map_cons, List.map_nil, List.length_cons, List.length_nil, List.set_cons_zero, List.set_cons_succ, Option.map_some, Option.map_none, Option.bind_some, Option.bind_none, Option.some.injEq, Val.val.injEq, R.p.injEq, D.bl.injEq, D.int.injEq, D.str.injEq, D.tup.injEq, exists_eq_left', exists_eq_left, if_true, if_false, Bool.false_eq_true, decide_eq_true_eq, true_and, and_true, reduceCtorEq, ite_true, ite_false]
  exact ⟨rfl, rfl⟩
section
variable {x y z v : D}
theorem at3_0 : atI [x, y, z] 0 = some x := rfl
theorem at3_1 : atI [x, y, z] 1 = some y := rfl
theorem at3_2 : atI [x, y, z] 2 = some z := rfl
theorem st3_1 : storeD (.l [x, y, z]) (.int 1) v = some (.l [x, v, z]) := rfl
theorem st3_2 : storeD (.l [x, y, z]) (.int 2) v = some (.l [x, y, v]) := rfl
end
theorem divOk_pos {m : Int} (h0 : 0 < m) (h1 : m < 2 ^ 30) : divOk m = true := by
  unfold divOk
  simp only [Bool.or_eq_true, Bool.and_eq_true, decide_eq_true_eq]
  exact .inl ⟨by omega, by omega⟩
/-- a draw's state: what is drawn from, how many were drawn -/
abbrev dr (a b c : Int) : R := .l [.int a, .int b, .int c]
def NextOk (cl : Cl) : Prop := ∀ {a b c m : Int}, 0 ≤ b → b < 2 ^ 60 → 0 < m → m < 2 ^ 30 → QC (cl "_law_next" [dr a b c, .p (.int m)]) (fun r o => ∃ i b' c', r = .p (.int i) ∧ o = [some (dr a b' c'), some (.p (.int m))] ∧ 0 ≤ i ∧ i < m ∧ 0 ≤ b' ∧ b' ≤ b + 1) X0
theorem next_ok (cl : Cl) (hm : MixOk cl) {a b c m : Int} (h0 : 0 ≤ b) (h1 : b < 2 ^ 60) (m0 : 0 < m) (m1 : m < 2 ^ 30) : QC (fNext.run cl [dr a b c, .p (.int m)]) (fun r o => ∃ i b' c', r = .p (.int i) ∧ o = [some (dr a b' c'), some (.p (.int m))] ∧ 0 ≤ i ∧ i < m ∧ 0 ≤ b' ∧ b' ≤ b + 1) X0 := by
  have d1 : divOk m = true := divOk_pos m0 m1
  have d2 : divOk 11 = true := divOk_pos (by omega) (by omega)
  have n1 : (m ≠ 0) = True := by simp; omega
  have k1 : ∀ z, mulOk z 2147483629 = true := fun z => mulOk_r (by omega)
  have f2 : free [0, 1] 2 = true := rfl
  have f3 : free [0, 1] 3 = true := rfl
  have r0 : ∀ z, 0 ≤ Int.fmod z m := fun z => Int.fmod_nonneg_of_pos z m0
  have r1 : ∀ z, Int.fmod z m < m := fun z => Int.fmod_lt_of_pos z m0
  rw [z_wc_run]
  refine ⟨rfl, rfl, ?_⟩
  simp only [fNext, List.replicate, List.append, List.cons_append, List.nil_append, Nat.reduceSub, d1, d2, n1, k1, f2, f3, at3_0, at3_1, at3_2, st3_1, st3_2, z_RX_ok, z_RX_stuck, z_CW_ok, z_we_c, z_we_tup, z_we_lst, z_we_dic, z_q_call, z_we_nil, z_we_cons, z_wt_nil, z_ws_nil, z_ws_cons, z_ws_set, z_ws_setP, z_ws_par, z_ws_ex, z_ws_ret, z_ws_retN, z_ws_brk, z_ws_cont, z_ws_pass, z_ws_aug, z_wf_nil, z_OB_some, z_OB_none, z_OB_if, z_OB_ifi, z_OB_map, z_OB_bind, z_TB_val, z_PB_p, z_q_vo, z_q_ve, z_q_va, z_q_mov, z_q_frz, z_q_lend, z_q_op, z_q_and, z_q_or, z_q_not, z_q_ite, z_q_chain, z_q_mut, z_q_comp, z_qt_one, z_qs_ite, z_qs_store, z_qf_cons,
    o_add, o_addL, o_sub, o_mul, o_fdiv, o_mod, o_pow, o_lt, o_le, o_gt, o_ge, o_isN, o_notN, o_neg, o_lenL, o_lenT, o_lenC, o_max, o_min, o_int, o_intB, o_ixL, o_ixT, o_ixC, o_tupL, o_tupT, o_lstL, o_lstT, g_nil, g_val, g_at, v_val, v_at, r_p, r_l, gt_0, gt_s, bR_s, bR_n, ite_some_eq, ite_none_eq,
    movK, ta_nil, ta_val, ta_at, taAt_p, taAt_l, taAt_m, Val.r, Val.rd, R.pure, giveBack, lentOk, bindP, bindPs, MOp.keeps, isLst, D.isNon,
    List.map_cons, List.map_nil, List.length_cons, List.length_nil, List.set_cons_zero, List.set_cons_succ, Option.map_some, Option.map_none, Option.bind_some, Option.bind_none, Option.some.injEq, Val.val.injEq, R.p.injEq, D.bl.injEq, D.int.injEq, D.str.injEq, D.tup.injEq, exists_eq_left', exists_eq_left, if_true, if_false, Bool.false_eq_true, decide_eq_true_eq, true_and, and_true, reduceCtorEq, ite_true, ite_false]
  split
  · exact ⟨_, _, _, rfl, rfl, r0 _, r1 _, h0, by omega⟩
  · refine QC.mono (hm (by omega) (by omega)) ?_ (fun _ _ _ _ z => z.elim)
    rintro _ _ ⟨u, rfl, rfl⟩
    simp only [d1, d2, n1, k1, f2, f3, at3_0, at3_1, at3_2, st3_1, st3_2, z_RX_ok, z_RX_stuck, z_CW_ok, z_we_c, z_we_tup, z_we_lst, z_we_dic, z_q_call, z_we_nil, z_we_cons, z_wt_nil, z_ws_nil, z_ws_cons, z_ws_set, z_ws_setP, z_ws_par, z_ws_ex, z_ws_ret, z_ws_retN, z_ws_brk, z_ws_cont, z_ws_pass, z_ws_aug, z_wf_nil, z_OB_some, z_OB_none, z_OB_if, z_OB_ifi, z_OB_map, z_OB_bind, z_TB_val, z_PB_p, z_q_vo, z_q_ve, z_q_va, z_q_mov, z_q_frz, z_q_lend, z_q_op, z_q_and, z_q_or, z_q_not, z_q_ite, z_q_chain, z_q_mut, z_q_comp, z_qt_one, z_qs_ite, z_qs_store, z_qf_cons,
    o_add, o_addL, o_sub, o_mul, o_fdiv, o_mod, o_pow, o_lt, o_le, o_gt, o_ge, o_isN, o_notN, o_neg, o_lenL, o_lenT, o_lenC, o_max, o_min, o_int, o_intB, o_ixL, o_ixT, o_ixC, o_tupL, o_tupT, o_lstL, o_lstT, g_nil, g_val, g_at, v_val, v_at, r_p, r_l, gt_0, gt_s, bR_s, bR_n, ite_some_eq, ite_none_eq,
    movK, ta_nil, ta_val, ta_at, taAt_p, taAt_l, taAt_m, Val.r, Val.rd, R.pure, giveBack, lentOk, bindP, bindPs, MOp.keeps, isLst, D.isNon,
    List.map_cons, List.map_nil, List.length_cons, List.length_nil, List.set_cons_zero, List.set_cons_succ, Option.map_some, Option.map_none, Option.bind_some, Option.bind_none, Option.some.injEq, Val.val.injEq, R.p.injEq, D.bl.injEq, D.int.injEq, D.str.injEq, D.tup.injEq, exists_eq_left', exists_eq_left, if_true, if_false, Bool.false_eq_true, decide_eq_true_eq, true_and, and_true, reduceCtorEq, ite_true, ite_false]
    refine QC.mono (hm (by omega) (by omega)) ?_ (fun _ _ _ _ z => z.elim)
    rintro _ _ ⟨v, rfl, rfl⟩
    simp only [d1, d2, n1, k1, f2, f3, at3_0, at3_1, at3_2, st3_1, st3_2, z_RX_ok, z_RX_stuck, z_CW_ok, z_we_c, z_we_tup, z_we_lst, z_we_dic, z_q_call, z_we_nil, z_we_cons, z_wt_nil, z_ws_nil, z_ws_cons, z_ws_set, z_ws_setP, z_ws_par, z_ws_ex, z_ws_ret, z_ws_retN, z_ws_brk, z_ws_cont, z_ws_pass, z_ws_aug, z_wf_nil, z_OB_some, z_OB_none, z_OB_if, z_OB_ifi, z_OB_map, z_OB_bind, z_TB_val, z_PB_p, z_q_vo, z_q_ve, z_q_va, z_q_mov, z_q_frz, z_q_lend, z_q_op, z_q_and, z_q_or, z_q_not, z_q_ite, z_q_chain, z_q_mut, z_q_comp, z_qt_one, z_qs_ite, z_qs_store, z_qf_cons,
    o_add, o_addL, o_sub, o_mul, o_fdiv, o_mod, o_pow, o_lt, o_le, o_gt, o_ge, o_isN, o_notN, o_neg, o_lenL, o_lenT, o_lenC, o_max, o_min, o_int, o_intB, o_ixL, o_ixT, o_ixC, o_tupL, o_tupT, o_lstL, o_lstT, g_nil, g_val, g_at, v_val, v_at, r_p, r_l, gt_0, gt_s, bR_s, bR_n, ite_some_eq, ite_none_eq,
    movK, ta_nil, ta_val, ta_at, taAt_p, taAt_l, taAt_m, Val.r, Val.rd, R.pure, giveBack, lentOk, bindP, bindPs, MOp.keeps, isLst, D.isNon,
    List.map_cons, List.map_nil, List.length_cons, List.length_nil, List.set_cons_zero, List.set_cons_succ, Option.map_some, Option.map_none, Option.bind_some, Option.bind_none, Option.some.injEq, Val.val.injEq, R.p.injEq, D.bl.injEq, D.int.injEq, D.str.injEq, D.tup.injEq, exists_eq_left', exists_eq_left, if_true, if_false, Bool.false_eq_true, decide_eq_true_eq, true_and, and_true, reduceCtorEq, ite_true, ite_false]
    exact ⟨_, _, _, rfl, rfl, r0 _, r1 _, by omega, by omega⟩
theorem pys_ints : ∀ ns : List Int, D.pys (ns.map D.int) = some (ns.map PyData.int)
  | [] => rfl
  | n :: ns => by
    show ((some (PyData.int n)).bind fun x => (D.pys (ns.map D.int)).map fun xs => x :: xs) = _
    rw [pys_ints ns]; rfl
theorem scr_ne (ns : List Int) : eqD (.scr (ns.map D.int)) (.lst []) = some (decide (ns = [])) := by
  show ((D.pys (ns.map D.int)).map PyData.list).bind _ = _
  rw [pys_ints]
  show (if SeqAt.shaped (.list (ns.map PyData.int)) && SeqAt.shaped (.list []) then some (PyData.eqv (.list (ns.map PyData.int)) (.list [])) else none) = _
  rw [PySem.W.shaped_ints]
  cases ns <;> rfl
theorem ix_scr {ns : List Int} {i : Int} (h0 : 0 ≤ i) (h1 : i < ns.length) : ∃ z, z ∈ ns ∧ atI (ns.map D.int) i = some (.int z) := by
  have hl : i.toNat < ns.length := by omega
  refine ⟨ns[i.toNat], List.getElem_mem hl, ?_⟩
  unfold atI ixN
  rw [if_pos h0, List.length_map, if_pos h1]
  show (ns.map D.int)[i.toNat]? = _
  rw [List.getElem?_map, List.getElem?_eq_getElem hl]; rfl
def DrawOk (cl : Cl) (ns : List Int) : Prop := ∀ {k : Int}, 0 ≤ k → k ≤ 64 → QC (cl "_law_draw" [.p (.scr (ns.map D.int)), .p (.int k)]) (fun r o => ∃ a c, r = dr a (64 * k) c ∧ o = [some (.p (.scr (ns.map D.int))), some (.p (.int k))]) X0
theorem draw_ok (cl : Cl) {ns : List Int} {k : Int} (hl : ns.length ≤ 63) (h0 : 0 ≤ k) (h1 : k ≤ 64) : QC (fDraw.run cl [.p (.scr (ns.map D.int)), .p (.int k)]) (fun r o => ∃ a c, r = dr a (64 * k) c ∧ o = [some (.p (.scr (ns.map D.int))), some (.p (.int k))]) X0 := by
  have f2 : free [0, 1] 2 = true := rfl
  have f3 : free [0, 1] 3 = true := rfl
  have d18 : divOk (10 ^ Int.toNat 18) = true := rfl
  have p18 : ((0 : Int) ≤ 18 ∧ (18 : Int) ≤ 1000000 ∧ Int.natAbs 10 < 2 ^ 64) = True := by simp
  have k64 : mulOk 64 k = true := mulOk_l (by omega)
  have sz : (([] : List D).length ≤ sizeLine) = True := by simp
  have sz3 : ((0 + 1 + 1 + 1 : Nat) ≤ sizeLine) = True := by simp [sizeLine]
  have hmx : (0 : Int) < (if (ns.length : Int) > 1 then (ns.length : Int) else 1) := by split <;> omega
  have hdv : divOk (if (ns.length : Int) > 1 then (ns.length : Int) else 1) = true := divOk_pos hmx (by split <;> omega)
  rw [z_wc_run]
  refine ⟨rfl, rfl, ?_⟩
  simp only [fDraw, List.replicate, List.append, List.cons_append, List.nil_append, Nat.reduceSub, List.map_cons, List.map_nil]
  refine QS_cut (fun ρ => ∃ a, ρ = [some (.p (.scr (ns.map D.int))), some (.p (.int k)), some (.p (.int a)), none, none]) ?_ ?_
  · simp only [List.length_map, o_ne, scr_ne, sz, f2, z_RX_ok, z_RX_stuck, z_CW_ok, z_we_c, z_we_tup, z_we_lst, z_we_dic, z_q_call, z_we_nil, z_we_cons, z_wt_nil, z_ws_nil, z_ws_cons, z_ws_set, z_ws_setP, z_ws_par, z_ws_ex, z_ws_ret, z_ws_retN, z_ws_brk, z_ws_cont, z_ws_pass, z_ws_aug, z_wf_nil, z_OB_some, z_OB_none, z_OB_if, z_OB_ifi, z_OB_map, z_OB_bind, z_TB_val, z_PB_p, z_q_vo, z_q_ve, z_q_va, z_q_mov, z_q_frz, z_q_lend, z_q_op, z_q_and, z_q_or, z_q_not, z_q_ite, z_q_chain, z_q_mut, z_q_comp, z_qt_one, z_qs_ite, z_qs_store, z_qf_cons,
    o_add, o_addL, o_sub, o_mul, o_fdiv, o_mod, o_pow, o_lt, o_le, o_gt, o_ge, o_isN, o_notN, o_neg, o_lenL, o_lenT, o_lenC, o_max, o_min, o_int, o_intB, o_ixL, o_ixT, o_ixC, o_tupL, o_tupT, o_lstL, o_lstT, g_nil, g_val, g_at, v_val, v_at, r_p, r_l, gt_0, gt_s, bR_s, bR_n, ite_some_eq, ite_none_eq,
    movK, ta_nil, ta_val, ta_at, taAt_p, taAt_l, taAt_m, Val.r, Val.rd, R.pure, giveBack, lentOk, bindP, bindPs, MOp.keeps, isLst, D.isNon,
    List.map_cons, List.map_nil, List.length_cons, List.length_nil, List.set_cons_zero, List.set_cons_succ, Option.map_some, Option.map_none, Option.bind_some, Option.bind_none, Option.some.injEq, Val.val.injEq, R.p.injEq, D.bl.injEq, D.int.injEq, D.str.injEq, D.tup.injEq, exists_eq_left', exists_eq_left, if_true, if_false, Bool.false_eq_true, decide_eq_true_eq, true_and, and_true, reduceCtorEq, ite_true, ite_false]
    refine ⟨Nat.zero_le _, ?_⟩
    split
    · rename_i hne
      have hpos : (0 : Int) < ns.length := by
        cases ns with
        | nil => exact absurd hne (by decide)
        | cons => simp
      obtain ⟨z, _, e⟩ := ix_scr (ns := ns) (i := k.fmod ns.length) (Int.fmod_nonneg_of_pos _ hpos) (Int.fmod_lt_of_pos _ hpos)
      rw [e]
      exact ⟨by omega, z, rfl⟩
    · exact ⟨0, rfl⟩
  rintro _ ⟨a, rfl⟩
  refine QS_cut (fun ρ => ∃ o, ρ = [some (.p (.scr (ns.map D.int))), some (.p (.int k)), some (.p (.int a)), some (.p (.int o)), none]) ?_ ?_
  · simp only [p18, f3, z_RX_ok, z_RX_stuck, z_CW_ok, z_we_c, z_we_tup, z_we_lst, z_we_dic, z_q_call, z_we_nil, z_we_cons, z_wt_nil, z_ws_nil, z_ws_cons, z_ws_set, z_ws_setP, z_ws_par, z_ws_ex, z_ws_ret, z_ws_retN, z_ws_brk, z_ws_cont, z_ws_pass, z_ws_aug, z_wf_nil, z_OB_some, z_OB_none, z_OB_if, z_OB_ifi, z_OB_map, z_OB_bind, z_TB_val, z_PB_p, z_q_vo, z_q_ve, z_q_va, z_q_mov, z_q_frz, z_q_lend, z_q_op, z_q_and, z_q_or, z_q_not, z_q_ite, z_q_chain, z_q_mut, z_q_comp, z_qt_one, z_qs_ite, z_qs_store, z_qf_cons,
    o_add, o_addL, o_sub, o_mul, o_fdiv, o_mod, o_pow, o_lt, o_le, o_gt, o_ge, o_isN, o_notN, o_neg, o_lenL, o_lenT, o_lenC, o_max, o_min, o_int, o_intB, o_ixL, o_ixT, o_ixC, o_tupL, o_tupT, o_lstL, o_lstT, g_nil, g_val, g_at, v_val, v_at, r_p, r_l, gt_0, gt_s, bR_s, bR_n, ite_some_eq, ite_none_eq,
    movK, ta_nil, ta_val, ta_at, taAt_p, taAt_l, taAt_m, Val.r, Val.rd, R.pure, giveBack, lentOk, bindP, bindPs, MOp.keeps, isLst, D.isNon,
    List.map_cons, List.map_nil, List.length_cons, List.length_nil, List.set_cons_zero, List.set_cons_succ, Option.map_some, Option.map_none, Option.bind_some, Option.bind_none, Option.some.injEq, Val.val.injEq, R.p.injEq, D.bl.injEq, D.int.injEq, D.str.injEq, D.tup.injEq, exists_eq_left', exists_eq_left, if_true, if_false, Bool.false_eq_true, decide_eq_true_eq, true_and, and_true, reduceCtorEq, ite_true, ite_false]
    split
    · exact ⟨a, rfl⟩
    · exact ⟨0, rfl⟩
  rintro _ ⟨o, rfl⟩
  refine QS_cut (fun ρ => ∃ o t, ρ = [some (.p (.scr (ns.map D.int))), some (.p (.int k)), some (.p (.int a)), some (.p (.int o)), t]) ?_ ?_
  · rw [z_qs_for]
    simp only [List.length_map, hdv, z_RX_ok, z_RX_stuck, z_CW_ok, z_we_c, z_we_tup, z_we_lst, z_we_dic, z_q_call, z_we_nil, z_we_cons, z_wt_nil, z_ws_nil, z_ws_cons, z_ws_set, z_ws_setP, z_ws_par, z_ws_ex, z_ws_ret, z_ws_retN, z_ws_brk, z_ws_cont, z_ws_pass, z_ws_aug, z_wf_nil, z_OB_some, z_OB_none, z_OB_if, z_OB_ifi, z_OB_map, z_OB_bind, z_TB_val, z_PB_p, z_q_vo, z_q_ve, z_q_va, z_q_mov, z_q_frz, z_q_lend, z_q_op, z_q_and, z_q_or, z_q_not, z_q_ite, z_q_chain, z_q_mut, z_q_comp, z_qt_one, z_qs_ite, z_qs_store, z_qf_cons,
    o_add, o_addL, o_sub, o_mul, o_fdiv, o_mod, o_pow, o_lt, o_le, o_gt, o_ge, o_isN, o_notN, o_neg, o_lenL, o_lenT, o_lenC, o_max, o_min, o_int, o_intB, o_ixL, o_ixT, o_ixC, o_tupL, o_tupT, o_lstL, o_lstT, g_nil, g_val, g_at, v_val, v_at, r_p, r_l, gt_0, gt_s, bR_s, bR_n, ite_some_eq, ite_none_eq,
    movK, ta_nil, ta_val, ta_at, taAt_p, taAt_l, taAt_m, Val.r, Val.rd, R.pure, giveBack, lentOk, bindP, bindPs, MOp.keeps, isLst, D.isNon,
    List.map_cons, List.map_nil, List.length_cons, List.length_nil, List.set_cons_zero, List.set_cons_succ, Option.map_some, Option.map_none, Option.bind_some, Option.bind_none, Option.some.injEq, Val.val.injEq, R.p.injEq, D.bl.injEq, D.int.injEq, D.str.injEq, D.tup.injEq, exists_eq_left', exists_eq_left, if_true, if_false, Bool.false_eq_true, decide_eq_true_eq, true_and, and_true, reduceCtorEq, ite_true, ite_false]
    have hs : small62 (k.fdiv (if (ns.length : Int) > 1 then (ns.length : Int) else 1)) = true := by
      have h2 : 0 ≤ k.fdiv (if (ns.length : Int) > 1 then (ns.length : Int) else 1) := Int.fdiv_nonneg h0 (by omega)
      have h3 : k.fdiv (if (ns.length : Int) > 1 then (ns.length : Int) else 1) ≤ k := by rw [Int.fdiv_eq_ediv_of_nonneg _ (by omega)]; exact Int.ediv_le_self _ h0
      unfold small62
      simp only [Bool.and_eq_true, decide_eq_true_eq]
      omega
    simp only [srcItems, rngItems, hs, z_RX_ok, z_RX_stuck, z_CW_ok, z_we_c, z_we_tup, z_we_lst, z_we_dic, z_q_call, z_we_nil, z_we_cons, z_wt_nil, z_ws_nil, z_ws_cons, z_ws_set, z_ws_setP, z_ws_par, z_ws_ex, z_ws_ret, z_ws_retN, z_ws_brk, z_ws_cont, z_ws_pass, z_ws_aug, z_wf_nil, z_OB_some, z_OB_none, z_OB_if, z_OB_ifi, z_OB_map, z_OB_bind, z_TB_val, z_PB_p, z_q_vo, z_q_ve, z_q_va, z_q_mov, z_q_frz, z_q_lend, z_q_op, z_q_and, z_q_or, z_q_not, z_q_ite, z_q_chain, z_q_mut, z_q_comp, z_qt_one, z_qs_ite, z_qs_store, z_qf_cons,
    o_add, o_addL, o_sub, o_mul, o_fdiv, o_mod, o_pow, o_lt, o_le, o_gt, o_ge, o_isN, o_notN, o_neg, o_lenL, o_lenT, o_lenC, o_max, o_min, o_int, o_intB, o_ixL, o_ixT, o_ixC, o_tupL, o_tupT, o_lstL, o_lstT, g_nil, g_val, g_at, v_val, v_at, r_p, r_l, gt_0, gt_s, bR_s, bR_n, ite_some_eq, ite_none_eq,
    movK, ta_nil, ta_val, ta_at, taAt_p, taAt_l, taAt_m, Val.r, Val.rd, R.pure, giveBack, lentOk, bindP, bindPs, MOp.keeps, isLst, D.isNon,
    List.map_cons, List.map_nil, List.length_cons, List.length_nil, List.set_cons_zero, List.set_cons_succ, Option.map_some, Option.map_none, Option.bind_some, Option.bind_none, Option.some.injEq, Val.val.injEq, R.p.injEq, D.bl.injEq, D.int.injEq, D.str.injEq, D.tup.injEq, exists_eq_left', exists_eq_left, if_true, if_false, Bool.false_eq_true, decide_eq_true_eq, true_and, and_true, reduceCtorEq, ite_true, ite_false]
    refine ⟨rfl, ?_⟩
    refine QS_inv (I := fun _ ρ => ∃ o t, ρ = [some (.p (.scr (ns.map D.int))), some (.p (.int k)), some (.p (.int a)), some (.p (.int o)), t]) ⟨o, _, rfl⟩ (fun ρ z => z) ?_
    rintro x xs _ ⟨o, t, rfl⟩
    have f3' : free (lockF [0, 1] (locks [some (.p (.scr (ns.map D.int))), some (.p (.int k)), some (.p (.int a)), some (.p (.int o)), t] [])) 3 = true := rfl
    simp only [p18, d18, f3, f3', z_RX_ok, z_RX_stuck, z_CW_ok, z_we_c, z_we_tup, z_we_lst, z_we_dic, z_q_call, z_we_nil, z_we_cons, z_wt_nil, z_ws_nil, z_ws_cons, z_ws_set, z_ws_setP, z_ws_par, z_ws_ex, z_ws_ret, z_ws_retN, z_ws_brk, z_ws_cont, z_ws_pass, z_ws_aug, z_wf_nil, z_OB_some, z_OB_none, z_OB_if, z_OB_ifi, z_OB_map, z_OB_bind, z_TB_val, z_PB_p, z_q_vo, z_q_ve, z_q_va, z_q_mov, z_q_frz, z_q_lend, z_q_op, z_q_and, z_q_or, z_q_not, z_q_ite, z_q_chain, z_q_mut, z_q_comp, z_qt_one, z_qs_ite, z_qs_store, z_qf_cons,
    o_add, o_addL, o_sub, o_mul, o_fdiv, o_mod, o_pow, o_lt, o_le, o_gt, o_ge, o_isN, o_notN, o_neg, o_lenL, o_lenT, o_lenC, o_max, o_min, o_int, o_intB, o_ixL, o_ixT, o_ixC, o_tupL, o_tupT, o_lstL, o_lstT, g_nil, g_val, g_at, v_val, v_at, r_p, r_l, gt_0, gt_s, bR_s, bR_n, ite_some_eq, ite_none_eq,
    movK, ta_nil, ta_val, ta_at, taAt_p, taAt_l, taAt_m, Val.r, Val.rd, R.pure, giveBack, lentOk, bindP, bindPs, MOp.keeps, isLst, D.isNon,
    List.map_cons, List.map_nil, List.length_cons, List.length_nil, List.set_cons_zero, List.set_cons_succ, Option.map_some, Option.map_none, Option.bind_some, Option.bind_none, Option.some.injEq, Val.val.injEq, R.p.injEq, D.bl.injEq, D.int.injEq, D.str.injEq, D.tup.injEq, exists_eq_left', exists_eq_left, if_true, if_false, Bool.false_eq_true, decide_eq_true_eq, true_and, and_true, reduceCtorEq, ite_true, ite_false]
    exact ⟨rfl, _, _, rfl⟩
  rintro _ ⟨o, t, rfl⟩
  simp only [k64, sz3, z_RX_ok, z_RX_stuck, z_CW_ok, z_we_c, z_we_tup, z_we_lst, z_we_dic, z_q_call, z_we_nil, z_we_cons, z_wt_nil, z_ws_nil, z_ws_cons, z_ws_set, z_ws_setP, z_ws_par, z_ws_ex, z_ws_ret, z_ws_retN, z_ws_brk, z_ws_cont, z_ws_pass, z_ws_aug, z_wf_nil, z_OB_some, z_OB_none, z_OB_if, z_OB_ifi, z_OB_map, z_OB_bind, z_TB_val, z_PB_p, z_q_vo, z_q_ve, z_q_va, z_q_mov, z_q_frz, z_q_lend, z_q_op, z_q_and, z_q_or, z_q_not, z_q_ite, z_q_chain, z_q_mut, z_q_comp, z_qt_one, z_qs_ite, z_qs_store, z_qf_cons,
    o_add, o_addL, o_sub, o_mul, o_fdiv, o_mod, o_pow, o_lt, o_le, o_gt, o_ge, o_isN, o_notN, o_neg, o_lenL, o_lenT, o_lenC, o_max, o_min, o_int, o_intB, o_ixL, o_ixT, o_ixC, o_tupL, o_tupT, o_lstL, o_lstT, g_nil, g_val, g_at, v_val, v_at, r_p, r_l, gt_0, gt_s, bR_s, bR_n, ite_some_eq, ite_none_eq,
    movK, ta_nil, ta_val, ta_at, taAt_p, taAt_l, taAt_m, Val.r, Val.rd, R.pure, giveBack, lentOk, bindP, bindPs, MOp.keeps, isLst, D.isNon,
    List.map_cons, List.map_nil, List.length_cons, List.length_nil, List.set_cons_zero, List.set_cons_succ, Option.map_some, Option.map_none, Option.bind_some, Option.bind_none, Option.some.injEq, Val.val.injEq, R.p.injEq, D.bl.injEq, D.int.injEq, D.str.injEq, D.tup.injEq, exists_eq_left', exists_eq_left, if_true, if_false, Bool.false_eq_true, decide_eq_true_eq, true_and, and_true, reduceCtorEq, ite_true, ite_false]
  exact ⟨a, o, rfl, rfl⟩
end VB
set_option Elab.async false
set_option linter.all false
set_option maxRecDepth 100000
set_option maxHeartbeats 4000000
/-! comprehensions that change nothing -/
namespace VB
open PySem PySem.Spec L2
open PyProof.Rows hiding St
theorem set_none {ρ : Env} {i : Nat} {o : Option R} (h : ρ.set i none = ρ) : (ρ.set i o).set i none = ρ := by rw [List.set_set]; exact h
/-- one name, a condition and a value that only read -/
theorem QX_comp {cl : Cl} {i : Nat} {cond : Env → Res (Bool × Env)} {elt : Env → Res (Val × Env)} {ρ : Env} (c : D → Bool) (g : D → D) {K : List D × Env → Prop} (h : ρ.set i none = ρ) : ∀ {items : List D},
    (∀ x ∈ items, QX (cond (ρ.set i (some (.p x)))) (fun q => q.1 = c x ∧ q.2 = ρ.set i (some (.p x))) X0) →
    (∀ x ∈ items, c x = true → QX (elt (ρ.set i (some (.p x)))) (fun q => ∃ r, q.1 = .val r ∧ r.read = g x ∧ q.2 = ρ.set i (some (.p x))) X0) →
    (∀ o, K ((items.filter c).map g, ρ.set i o)) → ∀ o, QX (compL [i] (.s i) cond elt items (ρ.set i o)) K X0
  | [], _, _, hk, o => ⟨hk o⟩
  | x :: xs, hc, he, hk, o => by
    have e1 : wipeE (ρ.set i o) [i] = ρ := by
      show (wipeE (ρ.set i o) []).set i none = ρ
      exact set_none h
    refine ⟨?_⟩
    have b1 : bindP (.s i) x (wipeE (ρ.set i o) [i]) = some (ρ.set i (some (.p x))) := by rw [e1]; rfl
    simp only [compL, b1]
    have hc1 := hc x List.mem_cons_self
    have ih := fun (K' : List D × Env → Prop) hk' o => QX_comp (cl := cl) c g (K := K') h (items := xs) (fun y hy => hc y (List.mem_cons_of_mem _ hy)) (fun y hy => he y (List.mem_cons_of_mem _ hy)) hk' o
    cases hq : cond (ρ.set i (some (.p x))) with
    | exc _ _ _ _ => rw [hq] at hc1; exact hc1.h.elim
    | stuck => rw [hq] at hc1; exact hc1.h.elim
    | ok q =>
      rw [hq] at hc1
      obtain ⟨b, ρ2⟩ := q
      obtain ⟨e2, e3⟩ : b = c x ∧ ρ2 = _ := hc1.h
      subst e3
      cases hb : c x with
      | false =>
        rw [hb] at e2; subst e2
        refine (ih K (fun o => ?_) _).h
        have := hk o
        rw [List.filter_cons, hb] at this
        exact this
      | true =>
        rw [hb] at e2; subst e2
        have he1 := he x List.mem_cons_self hb
        cases hv : elt (ρ.set i (some (.p x))) with
        | exc _ _ _ _ => rw [hv] at he1; exact he1.h.elim
        | stuck => rw [hv] at he1; exact he1.h.elim
        | ok z =>
          rw [hv] at he1
          obtain ⟨v, ρ3⟩ := z
          obtain ⟨r, e4, e5, e6⟩ := he1.h
          cases e4
          cases e6
          simp only [hv]
          rw [RX_bind]
          refine (ih (fun q => K (r.read :: q.1, q.2)) (fun o => ?_) _).h
          have := hk o
          rw [List.filter_cons, hb] at this
          rw [e5]
          exact this
end VB
set_option Elab.async false
set_option linter.all false
set_option maxRecDepth 100000
set_option maxHeartbeats 4000000
/-! of what type a thing is -/
namespace VB
open PySem PySem.Spec L2
open PyProof.Rows hiding St
def okS : D → Bool
  | .str s => decide (s.length ≤ sizeLine) && PyData.strOk s
  | .scr _ => false
  | .fn _ => false
  | .ty _ => false
  | .ins _ _ _ => false
  | _ => true
def kInt : D → Bool
  | .int _ => true
  | .bl _ => true
  | _ => false
def kBl : D → Bool
  | .bl _ => true
  | _ => false
def kStr : D → Bool
  | .str _ => true
  | _ => false
def kTup : D → Bool
  | .tup _ => true
  | _ => false
def kLst : D → Bool
  | .lst _ => true
  | _ => false
def kDic : D → Bool
  | .dic _ _ => true
  | _ => false
section
variable {d : D}
theorem o_isiI (h : okS d = true) : opB (.isi "int") [d] = some (.p (.bl (kInt d))) := by
  cases d <;> first | rfl | (cases h; done)
theorem o_isiB (h : okS d = true) : opB (.isi "bool") [d] = some (.p (.bl (kBl d))) := by
  cases d <;> first | rfl | (cases h; done)
theorem o_isiS (h : okS d = true) : opB (.isi "str") [d] = some (.p (.bl (kStr d))) := by
  cases d <;> first | rfl | (cases h; done)
theorem o_isiT (h : okS d = true) : opB (.isi "tuple") [d] = some (.p (.bl (kTup d))) := by
  cases d <;> first | rfl | (cases h; done)
theorem o_isiL (h : okS d = true) : opB (.isi "list") [d] = some (.p (.bl (kLst d))) := by
  cases d <;> first | rfl | (cases h; done)
theorem o_isiD (h : okS d = true) : opB (.isi "dict") [d] = some (.p (.bl (kDic d))) := by
  cases d <;> first | rfl | (cases h; done)
theorem eq_bl {a b : Bool} : eqD (.bl a) (.bl b) = some (decide (a = b)) := by
  cases a <;> cases b <;> rfl
end
theorem pys_strs : ∀ ss : List Str, D.pys (ss.map D.str) = some (ss.map PyData.str)
  | [] => rfl
  | n :: ns => by
    show ((some (PyData.str n)).bind fun x => (D.pys (ns.map D.str)).map fun xs => x :: xs) = _
    rw [pys_strs ns]; rfl
theorem lay_strs : ∀ {ss : List Str}, (∀ s ∈ ss, PyData.strOk s = true) → PyData.canLayAll0 (ss.map PyData.str) = true
  | [], _ => rfl
  | s :: ss, h => by
    rw [List.map_cons, PyData.canLayAll0.eq_2, PyData.canLay0.eq_4, h s List.mem_cons_self, lay_strs fun t ht => h t (List.mem_cons_of_mem _ ht)]; rfl
theorem shaped_strs {ss : List Str} (h : ∀ s ∈ ss, PyData.strOk s = true) : SeqAt.shaped (.list (ss.map PyData.str)) = true := by
  rw [SeqAt.shaped.eq_1, PyData.canLay0.eq_5, lay_strs h]
  have : (PyData.list (ss.map PyData.str)).depth = 1 := by
    show PyData.depthAll (ss.map PyData.str) + 1 = 1
    rw [PyProof.Rows.depthAll_strs']
  rw [this]; rfl
theorem eq_strs_nil {ss : List Str} (h : ∀ s ∈ ss, PyData.strOk s = true) : eqD (.lst (ss.map D.str)) (.lst []) = some (decide (ss = [])) := by
  show ((D.pys (ss.map D.str)).map PyData.list).bind _ = _
  rw [pys_strs]
  show (if SeqAt.shaped (.list (ss.map PyData.str)) && SeqAt.shaped (.list []) then some (PyData.eqv (.list (ss.map PyData.str)) (.list [])) else none) = _
  rw [shaped_strs h]
  cases ss <;> rfl
theorem okS_str {s : Str} (h : okS (.str s) = true) : s.length ≤ sizeLine ∧ PyData.strOk s = true := by
  simpa [okS] using h
end VB
set_option Elab.async false
set_option linter.all false
set_option maxRecDepth 100000
set_option maxHeartbeats 4000000
/-! small rewritings for going through a text -/
namespace VB
open PySem PySem.Spec L2
open PyProof.Rows hiding St
section
variable {ρ : VB.Env} {i a : Nat} {l own : List Nat} {os : List Val} {r : R} {d : D} {xs ks vs : List D}
theorem fr_nil : free [] i = true := rfl
theorem fr_cons : free (a :: l) i = (!(i == a) && free l i) := by
  unfold free
  rw [List.contains_cons, Bool.not_or]
theorem fp_s {fx : List Nat} : freeP fx (.s i) = free fx i := rfl
theorem fp_t {fx : List Nat} {ps : List Pat} : freeP fx (.t ps) = freePs fx ps := rfl
theorem fps_nil {fx : List Nat} : freePs fx [] = true := rfl
theorem fps_cons {fx : List Nat} {p : Pat} {ps : List Pat} : freePs fx (p :: ps) = (freeP fx p && freePs fx ps) := rfl
def lkAt : Option R → Nat → Env → List Val → List (Nat × R)
  | some (.p _), _, ρ, os => locks ρ os
  | some r, i, ρ, os => (i, r) :: locks (ρ.set i none) os
  | none, _, ρ, os => locks ρ os
theorem lk_nil : locks ρ [] = [] := rfl
theorem lk_val : locks ρ (.val r :: os) = locks ρ os := rfl
theorem lk_at : locks ρ (.at i :: os) = lkAt (ρ.gt i) i ρ os := by
  simp only [locks]
  cases ρ.gt i with
  | none => rfl
  | some r => cases r <;> rfl
theorem lkAt_p : lkAt (some (.p d)) i ρ os = locks ρ os := rfl
theorem lkAt_l : lkAt (some (.l xs)) i ρ os = (i, .l xs) :: locks (ρ.set i none) os := rfl
theorem lkAt_m : lkAt (some (.m ks vs)) i ρ os = (i, .m ks vs) :: locks (ρ.set i none) os := rfl
theorem lockE_nil : lockE ρ [] = ρ := rfl
theorem lockE_cons {q : List (Nat × R)} : lockE ρ ((i, r) :: q) = lockE (ρ.set i none) q := rfl
theorem unlockE_nil : unlockE ρ [] = ρ := rfl
theorem unlockE_cons {q : List (Nat × R)} : unlockE ρ ((i, r) :: q) = (unlockE ρ q).set i (some r) := rfl
theorem lockF_eq {fx : List Nat} {q : List (Nat × R)} : lockF fx q = q.map (·.1) ++ fx := rfl
theorem bp_s {ρ : Env} : bindP (.s i) d ρ = some (ρ.set i (some (.p d))) := rfl
def pureO : Option R → Bool
  | none => true
  | some r => r.pure
theorem ip_nil : isPures ρ [] = true := rfl
theorem ip_cons : isPures ρ (i :: own) = (pureO (ρ.gt i) && isPures ρ own) := by
  unfold isPures
  rw [List.all_cons]
  rfl
theorem po_n : pureO none = true := rfl
theorem po_p : pureO (some (.p d)) = true := rfl
theorem pi_s : patIn own (.s i) = own.contains i := rfl
theorem pi_t {ps : List Pat} : patIn own (.t ps) = patsIn own ps := rfl
theorem pis_nil : patsIn own [] = true := rfl
theorem pis_cons {p : Pat} {ps : List Pat} : patsIn own (p :: ps) = (patIn own p && patsIn own ps) := rfl
theorem wipe_nil : wipeE ρ [] = ρ := rfl
theorem wipe_cons : wipeE ρ (i :: l) = (wipeE ρ l).set i none := rfl
theorem rest_nil {ρ0 : Env} : restore ρ ρ0 [] = ρ := rfl
theorem rest_cons {ρ0 : Env} : restore ρ ρ0 (i :: l) = (restore ρ ρ0 l).set i (ρ0.gt i) := rfl
theorem gb_nil {o : Env} : giveBack ρ [] o = ρ := by cases o <;> rfl
theorem gb_val {x : Option R} {o : Env} : giveBack ρ (.val r :: os) (x :: o) = giveBack ρ os o := rfl
theorem gb_at {x : Option R} {o : Env} : giveBack ρ (.at i :: os) (x :: o) = giveBack ρ os o := rfl
theorem gb_lent {x : Option R} {o : Env} : giveBack ρ (.lent r i :: os) (x :: o) = (giveBack ρ os o).set i x := rfl
theorem bp_t {ps : List Pat} : bindP (.t ps) (.tup xs) ρ = bindPs ps xs ρ := rfl
theorem bps_nil : bindPs [] [] ρ = some ρ := rfl
theorem bps_cons {p : Pat} {ps : List Pat} : bindPs (p :: ps) (d :: xs) ρ = (bindP p d ρ).bind fun ρ => bindPs ps xs ρ := rfl
end
theorem szL {n : Nat} (h : n ≤ 100000) : n ≤ sizeLine := Nat.le_trans h (by decide)
theorem mulL {i j : Int} (h0 : -18446744073709551616 < i) (h1 : i < 18446744073709551616) : mulOk i j = true := mulOk_l ⟨by omega, by omega⟩
theorem mulR {i j : Int} (h0 : -18446744073709551616 < j) (h1 : j < 18446744073709551616) : mulOk i j = true := mulOk_r ⟨by omega, by omega⟩
theorem divL {m : Int} (h0 : 0 < m) (h1 : m < 1073741824) : divOk m = true := divOk_pos h0 (by omega)
theorem si_seqL {xs : List D} : srcItems .seq [.lst xs] = some xs := rfl
theorem si_seqT {xs : List D} : srcItems .seq [.tup xs] = some xs := rfl
theorem si_seqS {z : Str} : srcItems .seq [.str z] = some (z.cps.toList.map fun c => .str ⟨#[c]⟩) := rfl
theorem si_rng1 {j : Int} (h0 : -4611686018427387904 ≤ j) (h1 : j < 4611686018427387904) : srcItems .rng [.int j] = some (rangeD 0 j.toNat) := by
  show (if small62 j then _ else _) = _
  rw [if_pos]
  unfold small62
  simp only [Bool.and_eq_true, decide_eq_true_eq]
  omega
theorem si_rng2 {i j : Int} (h0 : -4611686018427387904 ≤ j) (h1 : j < 4611686018427387904) (h2 : -4611686018427387904 ≤ i) (h3 : i < 4611686018427387904) : srcItems .rng [.int i, .int j] = some (rangeD i (j - i).toNat) := by
  show (if small62 i && small62 j then _ else _) = _
  rw [if_pos]
  unfold small62
  simp only [Bool.and_eq_true, decide_eq_true_eq]
  omega
theorem o_slA' {a : D} {i : Int} : opB .slA [a, .int i] = slD a (some i) none := rfl
theorem sl_l {xs : List D} {lo hi : Option Int} : slD (.lst xs) lo hi = some (.l (cutD xs lo hi)) := rfl
theorem sl_t {xs : List D} {lo hi : Option Int} : slD (.tup xs) lo hi = some (.p (.tup (cutD xs lo hi))) := rfl
theorem sl_s {z : Str} {lo hi : Option Int} : slD (.str z) lo hi = if z.length ≤ sizeLine then some (.p (.str (cutS z lo hi))) else none := rfl
theorem o_revL {xs : List D} : opB .rev [.lst xs] = some (.l xs.reverse) := rfl
theorem o_revT {xs : List D} : opB .rev [.tup xs] = some (.p (.tup xs.reverse)) := rfl
theorem o_repr {a : D} : opB .repr1 [a] = (reprD a).map fun s => .p (.str s) := rfl
theorem o_addTT {xs ys : List D} : opB .add [.tup xs, .tup ys] = if xs.length + ys.length ≤ sizeLine then some (.p (.tup (xs ++ ys))) else none := rfl
theorem o_mulS {z : Str} {k : Int} : opB .mul [.str z, .int k] = if -(2 ^ 31) ≤ k ∧ k ≤ 16777216 ∧ z.length * k.toNat ≤ sizeLine then some (.p (.str ⟨(List.replicate k.toNat z.cps.toList).flatten.toArray⟩)) else none := rfl
theorem m_app {xs : List D} {d : D} : opM .append (.l xs) [d] = if xs.length < sizeLine then some (.p .non, .l (xs ++ [d])) else none := rfl
theorem m_ext {xs ys : List D} : opM .extend (.l xs) [.lst ys] = if xs.length + ys.length ≤ sizeLine then some (.p .non, .l (xs ++ ys)) else none := rfl
theorem st_l {xs : List D} {i : Int} {v : D} : storeD (.l xs) (.int i) v = (ixN xs.length i).map fun j => .l (xs.set j v) := rfl
/-- a call told as an equation -/
theorem QC_e {c : CRes} {K : R → Env → Prop} {X : XT} {r : R} {o : Env} (e : c = .ok r o) : QC c K X ↔ K r o := by rw [e]; exact z_CW_ok
theorem run_eq {c : CRes} {r : R} {o : Env} (h : QC c (fun r' o' => r' = r ∧ o' = o) X0) : c = .ok r o := CW_eq.mp h.h
theorem run_ex {c : CRes} {K : R → Env → Prop} (h : QC c K X0) : ∃ r o, c = .ok r o ∧ K r o := by
  have h := h.h
  cases c with
  | ok r o => exact ⟨r, o, rfl, h⟩
  | exc _ _ _ _ => exact h.elim
  | stuck => exact h.elim
theorem iI_int {i : Int} : opB (.isi "int") [.int i] = some (.p (.bl true)) := rfl
theorem iB_int {b : Bool} : opB (.isi "int") [.bl b] = some (.p (.bl true)) := rfl
theorem iS_int {s : Str} : opB (.isi "int") [.str s] = some (.p (.bl false)) := rfl
theorem iT_int {l : List D} : opB (.isi "int") [.tup l] = some (.p (.bl false)) := rfl
theorem iL_int {l : List D} : opB (.isi "int") [.lst l] = some (.p (.bl false)) := rfl
theorem iN_int  : opB (.isi "int") [.non] = some (.p (.bl false)) := rfl
theorem iD_int {k l : List D} : opB (.isi "int") [.dic k l] = some (.p (.bl false)) := rfl
theorem iI_bool {i : Int} : opB (.isi "bool") [.int i] = some (.p (.bl false)) := rfl
theorem iB_bool {b : Bool} : opB (.isi "bool") [.bl b] = some (.p (.bl true)) := rfl
theorem iS_bool {s : Str} : opB (.isi "bool") [.str s] = some (.p (.bl false)) := rfl
theorem iT_bool {l : List D} : opB (.isi "bool") [.tup l] = some (.p (.bl false)) := rfl
theorem iL_bool {l : List D} : opB (.isi "bool") [.lst l] = some (.p (.bl false)) := rfl
theorem iN_bool  : opB (.isi "bool") [.non] = some (.p (.bl false)) := rfl
theorem iD_bool {k l : List D} : opB (.isi "bool") [.dic k l] = some (.p (.bl false)) := rfl
theorem iI_str {i : Int} : opB (.isi "str") [.int i] = some (.p (.bl false)) := rfl
theorem iB_str {b : Bool} : opB (.isi "str") [.bl b] = some (.p (.bl false)) := rfl
theorem iS_str {s : Str} : opB (.isi "str") [.str s] = some (.p (.bl true)) := rfl
theorem iT_str {l : List D} : opB (.isi "str") [.tup l] = some (.p (.bl false)) := rfl
theorem iL_str {l : List D} : opB (.isi "str") [.lst l] = some (.p (.bl false)) := rfl
theorem iN_str  : opB (.isi "str") [.non] = some (.p (.bl false)) := rfl
theorem iD_str {k l : List D} : opB (.isi "str") [.dic k l] = some (.p (.bl false)) := rfl
theorem iI_tuple {i : Int} : opB (.isi "tuple") [.int i] = some (.p (.bl false)) := rfl
theorem iB_tuple {b : Bool} : opB (.isi "tuple") [.bl b] = some (.p (.bl false)) := rfl
theorem iS_tuple {s : Str} : opB (.isi "tuple") [.str s] = some (.p (.bl false)) := rfl
theorem iT_tuple {l : List D} : opB (.isi "tuple") [.tup l] = some (.p (.bl true)) := rfl
theorem iL_tuple {l : List D} : opB (.isi "tuple") [.lst l] = some (.p (.bl false)) := rfl
theorem iN_tuple  : opB (.isi "tuple") [.non] = some (.p (.bl false)) := rfl
theorem iD_tuple {k l : List D} : opB (.isi "tuple") [.dic k l] = some (.p (.bl false)) := rfl
theorem iI_list {i : Int} : opB (.isi "list") [.int i] = some (.p (.bl false)) := rfl
theorem iB_list {b : Bool} : opB (.isi "list") [.bl b] = some (.p (.bl false)) := rfl
theorem iS_list {s : Str} : opB (.isi "list") [.str s] = some (.p (.bl false)) := rfl
theorem iT_list {l : List D} : opB (.isi "list") [.tup l] = some (.p (.bl false)) := rfl
theorem iL_list {l : List D} : opB (.isi "list") [.lst l] = some (.p (.bl true)) := rfl
theorem iN_list  : opB (.isi "list") [.non] = some (.p (.bl false)) := rfl
theorem iD_list {k l : List D} : opB (.isi "list") [.dic k l] = some (.p (.bl false)) := rfl
theorem iI_dict {i : Int} : opB (.isi "dict") [.int i] = some (.p (.bl false)) := rfl
theorem iB_dict {b : Bool} : opB (.isi "dict") [.bl b] = some (.p (.bl false)) := rfl
theorem iS_dict {s : Str} : opB (.isi "dict") [.str s] = some (.p (.bl false)) := rfl
theorem iT_dict {l : List D} : opB (.isi "dict") [.tup l] = some (.p (.bl false)) := rfl
theorem iL_dict {l : List D} : opB (.isi "dict") [.lst l] = some (.p (.bl false)) := rfl
theorem iN_dict  : opB (.isi "dict") [.non] = some (.p (.bl false)) := rfl
theorem iD_dict {k l : List D} : opB (.isi "dict") [.dic k l] = some (.p (.bl true)) := rfl
theorem out_0 {fx : List Nat} {k : Nat} {ρ : Env} : outsOf fx k 0 ρ = [] := rfl
theorem out_c {fx : List Nat} {k n : Nat} {o : Option R} {ρ : Env} : outsOf fx k (n + 1) (o :: ρ) = (if fx.contains k = true then o else none) :: outsOf fx (k + 1) n ρ := rfl
theorem o_pow10 {j : Int} (h0 : 0 ≤ j) (h1 : j ≤ 1000000) : opB .pow [.int 10, .int j] = some (.p (.int (10 ^ j.toNat))) := by
  rw [o_pow, if_pos ⟨h0, h1, by decide⟩]
theorem deq_int {i j : Int} : eqD (.int i) (.int j) = some (decide (i = j)) := by
  have h : scal (V.int i) (V.int j) = true := rfl
  show (if scal (V.int i) (V.int j) = true then some (decide (V.int i = V.int j)) else _) = _
  rw [if_pos h]
  congr 1
  simp
theorem deq_str {i j : Str} : eqD (.str i) (.str j) = some (decide (i = j)) := by
  have h : scal (V.str i) (V.str j) = true := rfl
  show (if scal (V.str i) (V.str j) = true then some (decide (V.str i = V.str j)) else _) = _
  rw [if_pos h]
  congr 1
  simp
theorem lv_p {d : D} : lentOk [] 0 [] = true := rfl
theorem callN_of {tbl : List (Str × Fn)} {n : Nat} {f : Str} {args : List R} {fn : Fn} (h : tbl.lookup f = some fn) : callN tbl (n + 1) f args = fn.run (callN tbl n) args := by
  simp only [callN, h]
theorem QC_true {c : CRes} (h : QC c (fun r o => r = .p (.bl true)) X0) : ∃ o, c = .ok (.p (.bl true)) o := by
  obtain ⟨r, o, e, h⟩ := run_ex h
  cases h
  exact ⟨o, e⟩
end VB
set_option Elab.async false
set_option linter.all false
set_option maxRecDepth 100000
set_option maxHeartbeats 4000000
/-! what can be shown -/
namespace VB
open PySem PySem.Spec L2
open PyProof.Rows hiding St
theorem log2_small {n : Nat} (h : n < 10 ^ 58) : n.log2 < 1920 := by
  rcases Decidable.em (n = 0) with e | e
  · subst e; decide
  · exact (Nat.log2_lt e).mpr (Nat.lt_trans h (by decide +kernel))
mutual
def fine : D → Bool
  | .non => true
  | .bl _ => true
  | .int i => decide (i.natAbs < 10 ^ 58)
  | .str s => s.cps.toList.all fun c => decide (c < 16 ^ 8)
  | .tup xs => fines xs
  | .lst xs => fines xs
  | .dic ks vs => fines ks && fines vs && ks.all isKey && decide (ks.length = vs.length)
  | _ => false
def fines : List D → Bool
  | [] => true
  | x :: xs => fine x && fines xs
end
mutual
def dep : D → Nat
  | .tup xs => deps xs + 1
  | .lst xs => deps xs + 1
  | .dic ks vs => max (deps ks) (deps vs) + 1
  | _ => 0
def deps : List D → Nat
  | [] => 0
  | x :: xs => max (dep x) (deps xs)
end
mutual
def wgt : D → Nat
  | .str s => s.cps.size
  | .tup xs => wgts xs
  | .lst xs => wgts xs
  | .dic ks vs => wgts ks + wgts vs
  | _ => 0
def wgts : List D → Nat
  | [] => 0
  | x :: xs => wgt x + 1 + wgts xs
end
theorem keysP_ok : ∀ ks : List D, ks.all isKey = true → fines ks = true → ∃ ps, keysP ks = some ps ∧ PyData.showableAll ps = true ∧ PyData.leavesShortAll 60 ps = true ∧ PyData.depthAll ps = deps ks ∧ PyData.bulkAll ps = wgts ks ∧ ps.length = ks.length
  | [], _, _ => ⟨[], rfl, rfl, rfl, rfl, rfl, rfl⟩
  | k :: ks, h, f => by
    rw [List.all_cons, Bool.and_eq_true] at h
    have f : fine k = true ∧ fines ks = true := by simpa [fines] using f
    obtain ⟨ps, e, a1, a2, a3, a4, a5⟩ := keysP_ok ks h.2 f.2
    cases k <;> first | (exfalso; have := h.1; simp [isKey] at this; done) | skip
    · rename_i i f0
      have hi : i.natAbs < 10 ^ 58 := of_decide_eq_true (show decide (i.natAbs < 10 ^ 58) = true by simpa [fine] using f.1)
      have hl : i.natAbs.log2 < 1920 := log2_small hi
      have ht : (Str.ofString (toString i)).length ≤ 58 + 1 := by rw [PySem.ofString_length]; exact int_text_length_le10 (a := i) (k := 58) (by decide) hi
      refine ⟨.int i :: ps, by simp only [keysP, e]; rfl, by simp [PyData.showableAll, PyData.showable, a1, hl], ?_, by simp [PyData.depthAll, PyData.depth, deps, dep, a3], by simp [PyData.bulkAll, PyData.bulk, wgts, wgt, a4], by simp [a5]⟩
      simp only [PyData.leavesShortAll, PyData.leavesShort, PyData.shown, a2, Bool.and_true]
      exact decide_eq_true (Nat.le_trans ht (show 58 + 1 ≤ 60 by decide))
    · rename_i s f0
      have hs : (s.cps.toList.all fun c => decide (c < 16 ^ 8)) = true := by simpa [fine] using f.1
      exact ⟨.str s :: ps, by simp only [keysP, e]; rfl, by simp [PyData.showableAll, PyData.showable, a1], by simp only [PyData.leavesShortAll, PyData.leavesShort, hs, a2]; rfl, by simp [PyData.depthAll, PyData.depth, deps, dep, a3], by simp [PyData.bulkAll, PyData.bulk, wgts, wgt, a4], by simp [a5]⟩
theorem zip_all : ∀ (ks vs : List PyData), ks.length = vs.length → PyData.showableAll ks = true → PyData.showableAll vs = true → PyData.leavesShortAll 60 ks = true → PyData.leavesShortAll 60 vs = true →
    PyData.showableKv (ks.zip vs) = true ∧ PyData.leavesShortKv 60 (ks.zip vs) = true ∧ PyData.depthKv (ks.zip vs) = max (PyData.depthAll ks) (PyData.depthAll vs) ∧ PyData.bulkKv (ks.zip vs) = PyData.bulkAll ks + PyData.bulkAll vs
  | [], [], _, _, _, _, _ => ⟨rfl, rfl, rfl, rfl⟩
  | k :: ks, v :: vs, hl, h1, h2, h3, h4 => by
    simp only [PyData.showableAll, PyData.leavesShortAll, Bool.and_eq_true] at h1 h2 h3 h4
    obtain ⟨a1, a2, a3, a4⟩ := zip_all ks vs (by simpa using hl) h1.2 h2.2 h3.2 h4.2
    rw [List.zip_cons_cons]
    refine ⟨by simp [PyData.showableKv, h1.1, h2.1, a1], by simp [PyData.leavesShortKv, h3.1, h4.1, a2], ?_, ?_⟩
    · simp only [PyData.depthKv, PyData.depthAll, a3]; omega
    · simp only [PyData.bulkKv, PyData.bulkAll, a4]; omega
  | [], _ :: _, h, _, _, _, _ => nomatch h
  | _ :: _, [], h, _, _, _, _ => nomatch h
mutual
theorem fine_pyr : ∀ d : D, fine d = true → ∃ x, d.pyr = some x ∧ x.showable = true ∧ x.leavesShort 60 = true ∧ x.depth = dep d ∧ x.bulk = wgt d
  | .non, _ => ⟨.none, rfl, rfl, rfl, rfl, rfl⟩
  | .bl b, _ => ⟨.bool b, rfl, rfl, rfl, rfl, rfl⟩
  | .int i, h => by
    have hi : i.natAbs < 10 ^ 58 := by simpa [fine] using h
    have hl : i.natAbs.log2 < 1920 := log2_small hi
    have ht : (Str.ofString (toString i)).length ≤ 58 + 1 := by rw [PySem.ofString_length]; exact int_text_length_le10 (a := i) (k := 58) (by decide) hi
    refine ⟨.int i, rfl, by simp [PyData.showable, hl], ?_, by simp [PyData.depth, dep], by simp [PyData.bulk, wgt]⟩
    simp only [PyData.leavesShort, PyData.shown]
    exact decide_eq_true (Nat.le_trans ht (show 58 + 1 ≤ 60 by decide))
  | .str s, h => by
    have hs : (s.cps.toList.all fun c => decide (c < 16 ^ 8)) = true := by simpa [fine] using h
    exact ⟨.str s, rfl, by simp [PyData.showable], by simp only [PyData.leavesShort, hs], by simp [PyData.depth, dep], by simp [PyData.bulk, wgt]⟩
  | .tup xs, h => by
    obtain ⟨ys, e, a1, a2, a3, a4, _⟩ := fines_pyr xs (by simpa [fine] using h)
    exact ⟨.tuple ys, by simp [D.pyr, e], by simp [PyData.showable, a1], by simp [PyData.leavesShort, a2], by simp [PyData.depth, dep, a3], by simp [PyData.bulk, wgt, a4]⟩
  | .lst xs, h => by
    obtain ⟨ys, e, a1, a2, a3, a4, _⟩ := fines_pyr xs (by simpa [fine] using h)
    exact ⟨.list ys, by simp [D.pyr, e], by simp [PyData.showable, a1], by simp [PyData.leavesShort, a2], by simp [PyData.depth, dep, a3], by simp [PyData.bulk, wgt, a4]⟩
  | .dic ks vs, h => by
    have h : ((fines ks = true ∧ fines vs = true) ∧ ks.all isKey = true) ∧ ks.length = vs.length := by simpa [fine, -List.all_eq_true] using h
    obtain ⟨ps, e1, b1, b2, b3, b4, b5⟩ := keysP_ok ks h.1.2 h.1.1.1
    obtain ⟨ys, e, a1, a2, a3, a4, a5⟩ := fines_pyr vs h.1.1.2
    obtain ⟨c1, c2, c3, c4⟩ := zip_all ps ys (by omega) b1 a1 b2 a2
    exact ⟨.dict (ps.zip ys), by simp [D.pyr, e, e1], by simp [PyData.showable, c1], by simp [PyData.leavesShort, c2], by simp [PyData.depth, dep, c3, a3, b3], by simp [PyData.bulk, wgt, c4, a4, b4]⟩
theorem fines_pyr : ∀ ds : List D, fines ds = true → ∃ xs, D.pyrs ds = some xs ∧ PyData.showableAll xs = true ∧ PyData.leavesShortAll 60 xs = true ∧ PyData.depthAll xs = deps ds ∧ PyData.bulkAll xs = wgts ds ∧ xs.length = ds.length
  | [], _ => ⟨[], rfl, rfl, rfl, rfl, rfl, rfl⟩
  | d :: ds, h => by
    have h : fine d = true ∧ fines ds = true := by simpa [fines] using h
    obtain ⟨x, e1, b1, b2, b3, b4⟩ := fine_pyr d h.1
    obtain ⟨xs, e, a1, a2, a3, a4, a5⟩ := fines_pyr ds h.2
    exact ⟨x :: xs, by simp [D.pyrs, e, e1], by simp [PyData.showableAll, a1, b1], by simp [PyData.leavesShortAll, a2, b2], by simp [PyData.depthAll, deps, a3, b3], by simp [PyData.bulkAll, wgts, a4, b4], by simp [a5]⟩
end
theorem repr_some {d : D} (h : fine d = true) (hd : dep d ≤ 60) (hw : wgt d ≤ 200000) : ∃ s, reprD d = some s := by
  obtain ⟨x, e, a1, a2, a3, a4⟩ := fine_pyr d h
  have hl := PyData.shown_le_bulk 60 (by decide) x a2
  have hs : x.shown.length ≤ sizeLine := by
    rw [a4] at hl
    have : (60 + 2) * wgt d ≤ 62 * 200000 := Nat.mul_le_mul (by omega) hw
    have e : sizeLine = 16777216 := rfl
    omega
  refine ⟨x.shown, ?_⟩
  unfold reprD
  rw [e]
  show (if x.showable && decide (x.depth ≤ 60) && decide (x.shown.length ≤ sizeLine) then some x.shown else none) = _
  rw [a1, decide_eq_true (by omega), decide_eq_true hs]; rfl
theorem fines_map {α : Type} {f : α → D} : ∀ {l : List α}, (∀ x ∈ l, fine (f x) = true) → fines (l.map f) = true
  | [], _ => rfl
  | x :: l, h => by
    rw [List.map_cons]
    simp only [fines, h x List.mem_cons_self, Bool.true_and]
    exact fines_map fun y hy => h y (List.mem_cons_of_mem _ hy)
theorem deps_map {α : Type} {f : α → D} {n : Nat} : ∀ {l : List α}, (∀ x ∈ l, dep (f x) ≤ n) → deps (l.map f) ≤ n
  | [], _ => Nat.zero_le _
  | x :: l, h => by
    rw [List.map_cons]
    have := h x List.mem_cons_self
    have := deps_map (l := l) fun y hy => h y (List.mem_cons_of_mem _ hy)
    simp only [deps]
    omega
theorem wgts_map {α : Type} {f : α → D} {n : Nat} : ∀ {l : List α}, (∀ x ∈ l, wgt (f x) ≤ n) → wgts (l.map f) ≤ l.length * (n + 1)
  | [], _ => Nat.zero_le _
  | x :: l, h => by
    rw [List.map_cons]
    have := h x List.mem_cons_self
    have := wgts_map (l := l) fun y hy => h y (List.mem_cons_of_mem _ hy)
    simp only [wgts, List.length_cons, Nat.add_mul, Nat.one_mul]
    omega
end VB
set_option Elab.async false
set_option linter.all false
set_option maxRecDepth 100000
set_option maxHeartbeats 4000000
/-! drawn names -/
namespace VB
open PySem PySem.Spec L2
open PyProof.Rows hiding St
theorem rangeD_zero {k : Int} : rangeD k 0 = [] := rfl
theorem rangeD_succ {k : Int} {n : Nat} : rangeD k (n + 1) = .int k :: rangeD (k + 1) n := by
  unfold rangeD
  rw [List.range_succ_eq_map, List.map_cons, List.map_map]
  congr 1
  · simp
  · refine List.map_congr_left fun j _ => ?_
    show D.int (k + ((j + 1 : Nat) : Int)) = D.int (k + 1 + (j : Int))
    congr 1
    omega
theorem rangeD_split {k : Int} {n : Nat} {x : D} {xs : List D} (h : x :: xs = rangeD k n) : ∃ m, n = m + 1 ∧ x = .int k ∧ xs = rangeD (k + 1) m := by
  cases n with
  | zero => exact nomatch h
  | succ m =>
    rw [rangeD_succ] at h
    cases h
    exact ⟨m, rfl, rfl, rfl⟩
theorem QO_at {α : Type} {xs : List α} {i : Int} {K : α → Prop} (h0 : 0 ≤ i) (h1 : i < xs.length) (h : ∀ x ∈ xs, K x) : QO (atI xs i) K := by
  have hl : i.toNat < xs.length := by omega
  have e : atI xs i = some xs[i.toNat] := by
    unfold atI ixN
    rw [if_pos h0, if_pos h1]
    show xs[i.toNat]? = _
    rw [List.getElem?_eq_getElem hl]
  rw [e]
  exact ⟨h _ (List.getElem_mem hl)⟩
theorem at_int {α : Type} {xs : List α} {i : Int} (h0 : 0 ≤ i) (h1 : i < xs.length) : ∃ (h : i.toNat < xs.length), atI xs i = some xs[i.toNat] := by
  have hl : i.toNat < xs.length := by omega
  refine ⟨hl, ?_⟩
  unfold atI ixN
  rw [if_pos h0, if_pos h1]
  show xs[i.toNat]? = _
  rw [List.getElem?_eq_getElem hl]
def low (c : Nat) : Bool := decide (97 ≤ c) && decide (c ≤ 122)
/-- a name: one to eight small letters -/
def okN (s : Str) : Prop := 1 ≤ s.length ∧ s.length ≤ 8 ∧ ∀ c ∈ s.cps.toList, low c = true
theorem abc_at : ∀ k : Nat, k < 26 → (Str.ofString "abcdefghijklmnopqrstuvwxyz").cps.toList[k]? = some (97 + k) := by decide +kernel
def tails : List Str := ["", "b", "ba", "zzzzzzz"]
def mkN (f : Int) (j : Nat) (t : Str) : Str := ⟨#[97 + ((f + 7 * (j : Int)).fmod 26).toNat]⟩ ++ t
theorem cps_app (x y : Str) : (x ++ y).cps.toList = x.cps.toList ++ y.cps.toList := by
  show (x.cps ++ y.cps).toList = _
  exact Array.toList_append
theorem len_app (x y : Str) : (x ++ y).length = x.length + y.length := by
  show (x.cps ++ y.cps).size = _
  exact Array.size_append
theorem tails_ok : ∀ t ∈ tails, t.length ≤ 7 ∧ t.cps.toList.all low = true := by decide +kernel
theorem mkN_ok {f : Int} {j : Nat} {t : Str} (h : t ∈ tails) : okN (mkN f j t) := by
  obtain ⟨h1, h2⟩ := tails_ok t h
  have hm := Int.fmod_nonneg_of_pos (f + 7 * (j : Int)) (b := 26) (by omega)
  have hm2 := Int.fmod_lt_of_pos (f + 7 * (j : Int)) (b := 26) (by omega)
  have hl : (mkN f j t).length = 1 + t.length := len_app _ _
  refine ⟨by omega, by omega, fun c hc => ?_⟩
  unfold mkN at hc
  rw [cps_app] at hc
  rcases List.mem_append.mp hc with hc | hc
  · have : c = 97 + ((f + 7 * (j : Int)).fmod 26).toNat := by simpa using hc
    subst this
    simp only [low, Bool.and_eq_true, decide_eq_true_eq]
    omega
  · exact List.all_eq_true.mp h2 c hc
theorem mkN_inj {f : Int} {i j : Nat} {t u : Str} (hi : i < 26) (hj : j < 26) (h : mkN f i t = mkN f j u) : i = j := by
  have e := congrArg (fun s : Str => s.cps.toList.head?) h
  simp only [mkN, cps_app, List.cons_append, List.nil_append, List.head?_cons, Option.some.injEq] at e
  have a1 := Int.fmod_nonneg_of_pos (f + 7 * (i : Int)) (b := 26) (by omega)
  have a2 := Int.fmod_nonneg_of_pos (f + 7 * (j : Int)) (b := 26) (by omega)
  have e1 : (f + 7 * (i : Int)).fmod 26 = (f + 7 * (j : Int)).fmod 26 := by omega
  rw [Int.fmod_eq_emod_of_nonneg _ (by omega), Int.fmod_eq_emod_of_nonneg _ (by omega)] at e1
  omega
/-- the list of the names -/
def nmsOf (f : Int) (ts : List Str) : List Str := ts.mapIdx (mkN f)
theorem nmsOf_nodup {f : Int} {ts : List Str} (hl : ts.length ≤ 26) : (nmsOf f ts).Nodup := by
  rw [List.nodup_iff_pairwise_ne, List.pairwise_iff_getElem]
  intro i j hi hj hij e
  unfold nmsOf at hi hj e
  rw [List.length_mapIdx] at hi hj
  rw [List.getElem_mapIdx, List.getElem_mapIdx] at e
  exact absurd (mkN_inj (by omega) (by omega) e) (by omega)
/-- the name that is like the first one -/
def second (s : Str) : Str := cutS s none (some 7) ++ ⟨(List.replicate (if s.length < 8 then 1 else 0) (Str.ofString "c").cps.toList).flatten.toArray⟩
theorem second_cps (s : Str) : (second s).cps.toList = s.cps.toList.take 7 ++ (if s.length < 8 then [99] else []) := by
  unfold second
  rw [cps_app]
  congr 1
  · show ((s.cps.toList.drop 0).take (HT.sIx s.length s.length (some 7) - 0)).toArray.toList = _
    rw [show HT.sIx s.length s.length (some 7) = min 7 s.length from rfl]
    simp only [List.drop_zero, Nat.sub_zero]
    rcases Nat.le_total 7 s.length with h | h
    · rw [Nat.min_eq_left h]
    · rw [Nat.min_eq_right h, List.take_of_length_le (by simp [Str.length]), List.take_of_length_le (by rw [Array.length_toList]; exact h)]
  · split
    · show (List.replicate 1 [99]).flatten.toArray.toList = _
      rfl
    · rfl
theorem len_cps (s : Str) : s.length = s.cps.toList.length := by rw [Array.length_toList]; rfl
theorem str_ext {s t : Str} (h : s.cps.toList = t.cps.toList) : s = t := by
  obtain ⟨a⟩ := s
  obtain ⟨b⟩ := t
  congr 1
  exact Array.toList_inj.mp h
theorem second_ok {s : Str} (h : okN s) : okN (second s) := by
  obtain ⟨h1, h2, h3⟩ := h
  have l : (second s).length = min 7 s.length + (if s.length < 8 then 1 else 0) := by
    rw [len_cps, second_cps, List.length_append, List.length_take, ← len_cps]
    congr 1
    split <;> rfl
  refine ⟨by rw [l]; omega, by rw [l]; split <;> omega, fun c hc => ?_⟩
  rw [second_cps] at hc
  rcases List.mem_append.mp hc with hc | hc
  · exact h3 c (List.mem_of_mem_take hc)
  · split at hc
    · rw [List.mem_singleton.mp hc]; rfl
    · exact nomatch hc
theorem second_ne {s : Str} (h : okN s) : second s ≠ s := by
  intro e
  have l : (second s).length = min 7 s.length + (if s.length < 8 then 1 else 0) := by
    rw [len_cps, second_cps, List.length_append, List.length_take, ← len_cps]
    congr 1
    split <;> rfl
  rw [e] at l
  have := h.2.1
  split at l <;> omega
theorem second_head {s : Str} (h : okN s) : (second s).cps.toList.head? = s.cps.toList.head? := by
  have h1 := h.1
  rw [len_cps] at h1
  rw [second_cps]
  cases hc : s.cps.toList with
  | nil => rw [hc] at h1; exact absurd h1 (by decide)
  | cons x l => rfl
theorem mkN_head {f : Int} {j : Nat} {t : Str} : (mkN f j t).cps.toList.head? = some (97 + ((f + 7 * (j : Int)).fmod 26).toNat) := by
  simp only [mkN, cps_app, List.cons_append, List.nil_append, List.head?_cons]
theorem head_inj {f : Int} {i j : Nat} (hi : i < 26) (hj : j < 26) (h : 97 + ((f + 7 * (i : Int)).fmod 26).toNat = 97 + ((f + 7 * (j : Int)).fmod 26).toNat) : i = j := by
  have a1 := Int.fmod_nonneg_of_pos (f + 7 * (i : Int)) (b := 26) (by omega)
  have a2 := Int.fmod_nonneg_of_pos (f + 7 * (j : Int)) (b := 26) (by omega)
  have e1 : (f + 7 * (i : Int)).fmod 26 = (f + 7 * (j : Int)).fmod 26 := by omega
  rw [Int.fmod_eq_emod_of_nonneg _ (by omega), Int.fmod_eq_emod_of_nonneg _ (by omega)] at e1
  omega
structure NamesOk (ns : List Str) : Prop where
  ok : ∀ n ∈ ns, okN n
  nd : ns.Nodup
theorem nms_ok {f : Int} {ts : List Str} (hl : ts.length ≤ 26) (ht : ∀ t ∈ ts, t ∈ tails) : NamesOk (nmsOf f ts) := by
  refine ⟨fun n hn => ?_, nmsOf_nodup hl⟩
  unfold nmsOf at hn
  obtain ⟨i, hi, e⟩ := List.mem_iff_getElem.mp hn
  rw [List.getElem_mapIdx] at e
  rw [← e]
  exact mkN_ok (ht _ (List.getElem_mem _))
theorem nms_second {f : Int} {t u : Str} {ts : List Str} (hl : ts.length ≤ 24) (ht : ∀ z ∈ t :: u :: ts, z ∈ tails) : NamesOk ((nmsOf f (t :: u :: ts)).set 1 (second (mkN f 0 t))) := by
  have hk := nms_ok (f := f) (ts := t :: u :: ts) (by simp; omega) ht
  have h0 : okN (mkN f 0 t) := mkN_ok (ht t List.mem_cons_self)
  refine ⟨fun n hn => ?_, ?_⟩
  · rcases List.mem_or_eq_of_mem_set hn with h | h
    · exact hk.ok n h
    · rw [h]; exact second_ok h0
  · rw [List.nodup_iff_pairwise_ne, List.pairwise_iff_getElem]
    intro i j hi hj hij e
    have len : (nmsOf f (t :: u :: ts)).length = ts.length + 2 := by unfold nmsOf; rw [List.length_mapIdx]; rfl
    rw [List.length_set, len] at hi hj
    have hd : ∀ k (hk : k < ((nmsOf f (t :: u :: ts)).set 1 (second (mkN f 0 t))).length), (((nmsOf f (t :: u :: ts)).set 1 (second (mkN f 0 t)))[k]).cps.toList.head? = some (97 + ((f + 7 * ((if k = 1 then 0 else k : Nat) : Int)).fmod 26).toNat) := by
      intro k hk
      rw [List.getElem_set]
      rcases Decidable.em (k = 1) with hk1 | hk1
      · subst hk1
        rw [if_pos rfl, if_pos rfl, second_head h0, mkN_head]
      · rw [if_neg (fun z => hk1 z.symm), if_neg hk1]
        unfold nmsOf
        rw [List.getElem_mapIdx, mkN_head]
    have e2 := congrArg (fun s : Str => s.cps.toList.head?) e
    simp only [hd, Option.some.injEq] at e2
    have e3 := head_inj (f := f) (by split <;> omega) (by split <;> omega) e2
    rw [List.getElem_set, List.getElem_set] at e
    rcases Decidable.em (j = 1) with hj1 | hj1
    · subst hj1
      have hi0 : i = 0 := by omega
      subst hi0
      rw [if_neg (by decide), if_pos rfl] at e
      refine second_ne h0 (e.symm.trans ?_)
      unfold nmsOf
      rw [List.getElem_mapIdx]; rfl
    · rw [if_neg hj1] at e3
      split at e3 <;> omega
def fNames : Fn := ⟨2, 6, [0, 1],
   [.set 2 (.call "_law_next" [.lend 0, .c (.int 26)]),
    .set 3 (.lst []),
    .for_ .rng [.v 1] (.s 4)
      [.set 5 (.op .ix [.lst [.c (.str ""), .c (.str "b"), .c (.str "ba"), .c (.str "zzzzzzz")], .call "_law_next" [.lend 0, .c (.int 4)]]),
       .ex (.mut .append 3 [.op .add [.op .ix [.c (.str "abcdefghijklmnopqrstuvwxyz"), .op .mod [.op .add [.v 2, .op .mul [.c (.int 7), .v 4]], .c (.int 26)]], .v 5]])],
    .ite (.and (.op .gt [.v 1, .c (.int 1)]) (.op .eq [.op .mod [.v 2, .c (.int 3)], .c (.int 1)]))
      [.store 3 (.c (.int 1)) (.op .add [.op .slB [.op .ix [.v 3, .c (.int 0)], .c (.int 7)], .op .mul [.c (.str "c"), .op .int1 [.op .lt [.op .len [.op .ix [.v 3, .c (.int 0)]], .c (.int 8)]]]])]
      [],
    .ret (.mov 3)]⟩
theorem names_ok (cl : Cl) (hN : NextOk cl) {a b c m : Int} (b0 : 0 ≤ b) (b1 : b < 2 ^ 50) (m0 : 0 ≤ m) (m1 : m ≤ 26) : QC (fNames.run cl [dr a b c, .p (.int m)]) (fun r o => ∃ ns b' c', r = .l (ns.map D.str) ∧ o = [some (dr a b' c'), some (.p (.int m))] ∧ NamesOk ns ∧ (ns.length : Int) = m ∧ 0 ≤ b' ∧ b' ≤ b + 27) X0 := by
  rw [z_wc_run]
  refine ⟨rfl, rfl, ?_⟩
  simp only [fNames, List.replicate, List.append, List.cons_append, List.nil_append, Nat.reduceSub, List.map_cons, List.map_nil]
  refine QS_cut (fun ρ => ∃ f b' c', ρ = [some (dr a b' c'), some (.p (.int m)), some (.p (.int f)), none, none, none] ∧ 0 ≤ b' ∧ b' ≤ b + 1) ?_ ?_
  · simp only [z_RX_ok, z_RX_stuck, z_CW_ok, z_we_c, z_we_tup, z_we_lst, z_we_dic, z_q_call, z_we_nil, z_we_cons, z_wt_nil, z_ws_nil, z_ws_cons, z_ws_set, z_ws_setP, z_ws_par, z_ws_ex, z_ws_ret, z_ws_retN, z_ws_brk, z_ws_cont, z_ws_pass, z_ws_aug, z_OB_some, z_OB_none, z_OB_if, z_OB_ifi, z_OB_map, z_OB_bind, z_TB_val, z_PB_p, z_q_vo, z_q_ve, z_q_va, z_q_mov, z_q_frz, z_q_lend, z_q_op, z_q_and, z_q_or, z_q_not, z_q_ite, z_q_chain, z_q_mut, z_q_comp, z_qt_one, z_qs_ite, z_qs_store,
    o_add, o_addL, o_sub, o_mul, o_fdiv, o_mod, o_lt, o_le, o_gt, o_ge, o_isN, o_notN, o_neg, o_lenL, o_lenT, o_lenC, o_max, o_min, o_int, o_intB, o_isiI, o_isiB, o_isiS, o_isiT, o_isiL, o_isiD, kInt, kBl, kStr, kTup, kLst, kDic, o_ixL, o_ixT, o_ixC, o_tupL, o_tupT, o_lstL, o_lstT, g_nil, g_val, g_at, v_val, v_at, r_p, r_l, gt_0, gt_s, bR_s, bR_n, ite_some_eq, ite_none_eq,
    movK, ta_nil, ta_val, ta_at, taAt_p, taAt_l, taAt_m, Val.r, Val.rd, R.pure, lentOk, MOp.keeps, isLst, D.isNon,
    List.map_cons, List.map_nil, List.length_cons, List.length_nil, List.set_cons_zero, List.set_cons_succ, Option.map_some, Option.map_none, Option.bind_some, Option.bind_none, Option.some.injEq, Val.val.injEq, R.p.injEq, D.bl.injEq, D.int.injEq, D.str.injEq, D.tup.injEq, exists_eq_left', exists_eq_left, if_true, if_false, Bool.false_eq_true, decide_eq_true_eq, true_and, and_true, reduceCtorEq, ite_true, ite_false, fr_nil, fr_cons, fp_s, fp_t, fps_nil, fps_cons, lk_nil, lk_val, lk_at, lkAt_p, lkAt_l, lkAt_m, lockE_nil, lockE_cons, unlockE_nil, unlockE_cons, lockF_eq, ip_nil, ip_cons, po_n, po_p, pi_s, pi_t, pis_nil, pis_cons, wipe_nil, wipe_cons, rest_nil, rest_cons, gb_nil, gb_val, gb_at, gb_lent, bp_s, bp_t, bps_nil, bps_cons,
    szL, mulL, mulR, divL, si_seqL, si_seqT, si_seqS, si_rng1, si_rng2, sl_l, sl_t, sl_s, o_slA, o_slB, o_slAB, o_revL, o_revT, o_repr, o_addTT, o_mulS, m_app, m_ext, st_l, QC_e, z_qs_for, o_addS, o_lenS, o_ixS, iI_int, iB_int, iS_int, iT_int, iL_int, iN_int, iD_int, iI_bool, iB_bool, iS_bool, iT_bool, iL_bool, iN_bool, iD_bool, iI_str, iB_str, iS_str, iT_str, iL_str, iN_str, iD_str, iI_tuple, iB_tuple, iS_tuple, iT_tuple, iL_tuple, iN_tuple, iD_tuple, iI_list, iB_list, iS_list, iT_list, iL_list, iN_list, iD_list, iI_dict, iB_dict, iS_dict, iT_dict, iL_dict, iN_dict, iD_dict, out_0, out_c, o_pow10, o_eq, o_ne, deq_int, deq_str, eq_bl,
    Nat.reduceAdd, Nat.reduceSub, Nat.reduceMul, Nat.reduceLT, Nat.reduceLeDiff, Nat.reduceBEq, Nat.reduceEqDiff, Int.reduceAdd, Int.reduceSub, Int.reduceMul, Int.reduceNeg, Int.reduceLT, Int.reduceLE, Int.reduceEq, Int.reduceNe, Int.reducePow, Int.reduceToNat, Nat.reducePow, ne_eq, not_true_eq_false, not_false_eq_true, and_self, Bool.not_false, Bool.not_true, Bool.true_and, Bool.and_true, Bool.false_and, Bool.and_false, List.contains_cons, List.contains_nil, beq_self_eq_true, Bool.true_or, Bool.or_true, Bool.or_false, Bool.false_or, List.cons_append, List.nil_append]
    refine QC.mono (hN b0 (by omega) (by omega) (by omega)) ?_ (fun _ _ _ _ z => z.elim)
    rintro _ _ ⟨f, b', c', rfl, rfl, _, _, h0, h1⟩
    simp only [z_RX_ok, z_RX_stuck, z_CW_ok, z_we_c, z_we_tup, z_we_lst, z_we_dic, z_q_call, z_we_nil, z_we_cons, z_wt_nil, z_ws_nil, z_ws_cons, z_ws_set, z_ws_setP, z_ws_par, z_ws_ex, z_ws_ret, z_ws_retN, z_ws_brk, z_ws_cont, z_ws_pass, z_ws_aug, z_OB_some, z_OB_none, z_OB_if, z_OB_ifi, z_OB_map, z_OB_bind, z_TB_val, z_PB_p, z_q_vo, z_q_ve, z_q_va, z_q_mov, z_q_frz, z_q_lend, z_q_op, z_q_and, z_q_or, z_q_not, z_q_ite, z_q_chain, z_q_mut, z_q_comp, z_qt_one, z_qs_ite, z_qs_store,
    o_add, o_addL, o_sub, o_mul, o_fdiv, o_mod, o_lt, o_le, o_gt, o_ge, o_isN, o_notN, o_neg, o_lenL, o_lenT, o_lenC, o_max, o_min, o_int, o_intB, o_isiI, o_isiB, o_isiS, o_isiT, o_isiL, o_isiD, kInt, kBl, kStr, kTup, kLst, kDic, o_ixL, o_ixT, o_ixC, o_tupL, o_tupT, o_lstL, o_lstT, g_nil, g_val, g_at, v_val, v_at, r_p, r_l, gt_0, gt_s, bR_s, bR_n, ite_some_eq, ite_none_eq,
    movK, ta_nil, ta_val, ta_at, taAt_p, taAt_l, taAt_m, Val.r, Val.rd, R.pure, lentOk, MOp.keeps, isLst, D.isNon,
    List.map_cons, List.map_nil, List.length_cons, List.length_nil, List.set_cons_zero, List.set_cons_succ, Option.map_some, Option.map_none, Option.bind_some, Option.bind_none, Option.some.injEq, Val.val.injEq, R.p.injEq, D.bl.injEq, D.int.injEq, D.str.injEq, D.tup.injEq, exists_eq_left', exists_eq_left, if_true, if_false, Bool.false_eq_true, decide_eq_true_eq, true_and, and_true, reduceCtorEq, ite_true, ite_false, fr_nil, fr_cons, fp_s, fp_t, fps_nil, fps_cons, lk_nil, lk_val, lk_at, lkAt_p, lkAt_l, lkAt_m, lockE_nil, lockE_cons, unlockE_nil, unlockE_cons, lockF_eq, ip_nil, ip_cons, po_n, po_p, pi_s, pi_t, pis_nil, pis_cons, wipe_nil, wipe_cons, rest_nil, rest_cons, gb_nil, gb_val, gb_at, gb_lent, bp_s, bp_t, bps_nil, bps_cons,
    szL, mulL, mulR, divL, si_seqL, si_seqT, si_seqS, si_rng1, si_rng2, sl_l, sl_t, sl_s, o_slA, o_slB, o_slAB, o_revL, o_revT, o_repr, o_addTT, o_mulS, m_app, m_ext, st_l, QC_e, z_qs_for, o_addS, o_lenS, o_ixS, iI_int, iB_int, iS_int, iT_int, iL_int, iN_int, iD_int, iI_bool, iB_bool, iS_bool, iT_bool, iL_bool, iN_bool, iD_bool, iI_str, iB_str, iS_str, iT_str, iL_str, iN_str, iD_str, iI_tuple, iB_tuple, iS_tuple, iT_tuple, iL_tuple, iN_tuple, iD_tuple, iI_list, iB_list, iS_list, iT_list, iL_list, iN_list, iD_list, iI_dict, iB_dict, iS_dict, iT_dict, iL_dict, iN_dict, iD_dict, out_0, out_c, o_pow10, o_eq, o_ne, deq_int, deq_str, eq_bl,
    Nat.reduceAdd, Nat.reduceSub, Nat.reduceMul, Nat.reduceLT, Nat.reduceLeDiff, Nat.reduceBEq, Nat.reduceEqDiff, Int.reduceAdd, Int.reduceSub, Int.reduceMul, Int.reduceNeg, Int.reduceLT, Int.reduceLE, Int.reduceEq, Int.reduceNe, Int.reducePow, Int.reduceToNat, Nat.reducePow, ne_eq, not_true_eq_false, not_false_eq_true, and_self, Bool.not_false, Bool.not_true, Bool.true_and, Bool.and_true, Bool.false_and, Bool.and_false, List.contains_cons, List.contains_nil, beq_self_eq_true, Bool.true_or, Bool.or_true, Bool.or_false, Bool.false_or, List.cons_append, List.nil_append]
    exact ⟨f, b', c', rfl, h0, h1⟩
  rintro _ ⟨f, b2, c2, rfl, h0, h1⟩
  refine QS_cut (fun ρ => ρ = [some (dr a b2 c2), some (.p (.int m)), some (.p (.int f)), some (.l []), none, none]) ?_ ?_
  · simp only [z_RX_ok, z_RX_stuck, z_CW_ok, z_we_c, z_we_tup, z_we_lst, z_we_dic, z_q_call, z_we_nil, z_we_cons, z_wt_nil, z_ws_nil, z_ws_cons, z_ws_set, z_ws_setP, z_ws_par, z_ws_ex, z_ws_ret, z_ws_retN, z_ws_brk, z_ws_cont, z_ws_pass, z_ws_aug, z_OB_some, z_OB_none, z_OB_if, z_OB_ifi, z_OB_map, z_OB_bind, z_TB_val, z_PB_p, z_q_vo, z_q_ve, z_q_va, z_q_mov, z_q_frz, z_q_lend, z_q_op, z_q_and, z_q_or, z_q_not, z_q_ite, z_q_chain, z_q_mut, z_q_comp, z_qt_one, z_qs_ite, z_qs_store,
    o_add, o_addL, o_sub, o_mul, o_fdiv, o_mod, o_lt, o_le, o_gt, o_ge, o_isN, o_notN, o_neg, o_lenL, o_lenT, o_lenC, o_max, o_min, o_int, o_intB, o_isiI, o_isiB, o_isiS, o_isiT, o_isiL, o_isiD, kInt, kBl, kStr, kTup, kLst, kDic, o_ixL, o_ixT, o_ixC, o_tupL, o_tupT, o_lstL, o_lstT, g_nil, g_val, g_at, v_val, v_at, r_p, r_l, gt_0, gt_s, bR_s, bR_n, ite_some_eq, ite_none_eq,
    movK, ta_nil, ta_val, ta_at, taAt_p, taAt_l, taAt_m, Val.r, Val.rd, R.pure, lentOk, MOp.keeps, isLst, D.isNon,
    List.map_cons, List.map_nil, List.length_cons, List.length_nil, List.set_cons_zero, List.set_cons_succ, Option.map_some, Option.map_none, Option.bind_some, Option.bind_none, Option.some.injEq, Val.val.injEq, R.p.injEq, D.bl.injEq, D.int.injEq, D.str.injEq, D.tup.injEq, exists_eq_left', exists_eq_left, if_true, if_false, Bool.false_eq_true, decide_eq_true_eq, true_and, and_true, reduceCtorEq, ite_true, ite_false, fr_nil, fr_cons, fp_s, fp_t, fps_nil, fps_cons, lk_nil, lk_val, lk_at, lkAt_p, lkAt_l, lkAt_m, lockE_nil, lockE_cons, unlockE_nil, unlockE_cons, lockF_eq, ip_nil, ip_cons, po_n, po_p, pi_s, pi_t, pis_nil, pis_cons, wipe_nil, wipe_cons, rest_nil, rest_cons, gb_nil, gb_val, gb_at, gb_lent, bp_s, bp_t, bps_nil, bps_cons,
    szL, mulL, mulR, divL, si_seqL, si_seqT, si_seqS, si_rng1, si_rng2, sl_l, sl_t, sl_s, o_slA, o_slB, o_slAB, o_revL, o_revT, o_repr, o_addTT, o_mulS, m_app, m_ext, st_l, QC_e, z_qs_for, o_addS, o_lenS, o_ixS, iI_int, iB_int, iS_int, iT_int, iL_int, iN_int, iD_int, iI_bool, iB_bool, iS_bool, iT_bool, iL_bool, iN_bool, iD_bool, iI_str, iB_str, iS_str, iT_str, iL_str, iN_str, iD_str, iI_tuple, iB_tuple, iS_tuple, iT_tuple, iL_tuple, iN_tuple, iD_tuple, iI_list, iB_list, iS_list, iT_list, iL_list, iN_list, iD_list, iI_dict, iB_dict, iS_dict, iT_dict, iL_dict, iN_dict, iD_dict, out_0, out_c, o_pow10, o_eq, o_ne, deq_int, deq_str, eq_bl,
    Nat.reduceAdd, Nat.reduceSub, Nat.reduceMul, Nat.reduceLT, Nat.reduceLeDiff, Nat.reduceBEq, Nat.reduceEqDiff, Int.reduceAdd, Int.reduceSub, Int.reduceMul, Int.reduceNeg, Int.reduceLT, Int.reduceLE, Int.reduceEq, Int.reduceNe, Int.reducePow, Int.reduceToNat, Nat.reducePow, ne_eq, not_true_eq_false, not_false_eq_true, and_self, Bool.not_false, Bool.not_true, Bool.true_and, Bool.and_true, Bool.false_and, Bool.and_false, List.contains_cons, List.contains_nil, beq_self_eq_true, Bool.true_or, Bool.or_true, Bool.or_false, Bool.false_or, List.cons_append, List.nil_append]
  rintro _ rfl
  refine QS_cut (fun ρ => ∃ ts b' c' t4 t5, ρ = [some (dr a b' c'), some (.p (.int m)), some (.p (.int f)), some (.l ((nmsOf f ts).map D.str)), t4, t5] ∧ (∀ t ∈ ts, t ∈ tails) ∧ (ts.length : Int) = m ∧ 0 ≤ b' ∧ b' ≤ b + 27) ?_ ?_
  · have hm1 : -4611686018427387904 ≤ m := by omega
    have hm2 : m < 4611686018427387904 := by omega
    simp only [hm1, hm2, z_RX_ok, z_RX_stuck, z_CW_ok, z_we_c, z_we_tup, z_we_lst, z_we_dic, z_q_call, z_we_nil, z_we_cons, z_wt_nil, z_ws_nil, z_ws_cons, z_ws_set, z_ws_setP, z_ws_par, z_ws_ex, z_ws_ret, z_ws_retN, z_ws_brk, z_ws_cont, z_ws_pass, z_ws_aug, z_OB_some, z_OB_none, z_OB_if, z_OB_ifi, z_OB_map, z_OB_bind, z_TB_val, z_PB_p, z_q_vo, z_q_ve, z_q_va, z_q_mov, z_q_frz, z_q_lend, z_q_op, z_q_and, z_q_or, z_q_not, z_q_ite, z_q_chain, z_q_mut, z_q_comp, z_qt_one, z_qs_ite, z_qs_store,
    o_add, o_addL, o_sub, o_mul, o_fdiv, o_mod, o_lt, o_le, o_gt, o_ge, o_isN, o_notN, o_neg, o_lenL, o_lenT, o_lenC, o_max, o_min, o_int, o_intB, o_isiI, o_isiB, o_isiS, o_isiT, o_isiL, o_isiD, kInt, kBl, kStr, kTup, kLst, kDic, o_ixL, o_ixT, o_ixC, o_tupL, o_tupT, o_lstL, o_lstT, g_nil, g_val, g_at, v_val, v_at, r_p, r_l, gt_0, gt_s, bR_s, bR_n, ite_some_eq, ite_none_eq,
    movK, ta_nil, ta_val, ta_at, taAt_p, taAt_l, taAt_m, Val.r, Val.rd, R.pure, lentOk, MOp.keeps, isLst, D.isNon,
    List.map_cons, List.map_nil, List.length_cons, List.length_nil, List.set_cons_zero, List.set_cons_succ, Option.map_some, Option.map_none, Option.bind_some, Option.bind_none, Option.some.injEq, Val.val.injEq, R.p.injEq, D.bl.injEq, D.int.injEq, D.str.injEq, D.tup.injEq, exists_eq_left', exists_eq_left, if_true, if_false, Bool.false_eq_true, decide_eq_true_eq, true_and, and_true, reduceCtorEq, ite_true, ite_false, fr_nil, fr_cons, fp_s, fp_t, fps_nil, fps_cons, lk_nil, lk_val, lk_at, lkAt_p, lkAt_l, lkAt_m, lockE_nil, lockE_cons, unlockE_nil, unlockE_cons, lockF_eq, ip_nil, ip_cons, po_n, po_p, pi_s, pi_t, pis_nil, pis_cons, wipe_nil, wipe_cons, rest_nil, rest_cons, gb_nil, gb_val, gb_at, gb_lent, bp_s, bp_t, bps_nil, bps_cons,
    szL, mulL, mulR, divL, si_seqL, si_seqT, si_seqS, si_rng1, si_rng2, sl_l, sl_t, sl_s, o_slA, o_slB, o_slAB, o_revL, o_revT, o_repr, o_addTT, o_mulS, m_app, m_ext, st_l, QC_e, z_qs_for, o_addS, o_lenS, o_ixS, iI_int, iB_int, iS_int, iT_int, iL_int, iN_int, iD_int, iI_bool, iB_bool, iS_bool, iT_bool, iL_bool, iN_bool, iD_bool, iI_str, iB_str, iS_str, iT_str, iL_str, iN_str, iD_str, iI_tuple, iB_tuple, iS_tuple, iT_tuple, iL_tuple, iN_tuple, iD_tuple, iI_list, iB_list, iS_list, iT_list, iL_list, iN_list, iD_list, iI_dict, iB_dict, iS_dict, iT_dict, iL_dict, iN_dict, iD_dict, out_0, out_c, o_pow10, o_eq, o_ne, deq_int, deq_str, eq_bl,
    Nat.reduceAdd, Nat.reduceSub, Nat.reduceMul, Nat.reduceLT, Nat.reduceLeDiff, Nat.reduceBEq, Nat.reduceEqDiff, Int.reduceAdd, Int.reduceSub, Int.reduceMul, Int.reduceNeg, Int.reduceLT, Int.reduceLE, Int.reduceEq, Int.reduceNe, Int.reducePow, Int.reduceToNat, Nat.reducePow, ne_eq, not_true_eq_false, not_false_eq_true, and_self, Bool.not_false, Bool.not_true, Bool.true_and, Bool.and_true, Bool.false_and, Bool.and_false, List.contains_cons, List.contains_nil, beq_self_eq_true, Bool.true_or, Bool.or_true, Bool.or_false, Bool.false_or, List.cons_append, List.nil_append]
    refine QS_inv (I := fun items ρ => ∃ (ts : List Str) (b' c' : Int) (t4 t5 : Option R) (n : Nat), ρ = [some (dr a b' c'), some (.p (.int m)), some (.p (.int f)), some (.l ((nmsOf f ts).map D.str)), t4, t5] ∧ (∀ t ∈ ts, t ∈ tails) ∧
      items = rangeD ts.length n ∧ (ts.length : Int) + n = m ∧ 0 ≤ b' ∧ b' + n ≤ b + 1 + m) ⟨[], b2, c2, _, _, m.toNat, rfl, fun _ h => (nomatch h), rfl, by simp; omega, h0, by omega⟩ ?_ ?_
    · rintro _ ⟨ts, b', c', t4, t5, n, rfl, ht, hi, hl, g0, g1⟩
      have : n = 0 := by
        cases n with
        | zero => rfl
        | succ n => rw [rangeD_succ] at hi; exact nomatch hi
      subst this
      exact ⟨ts, b', c', t4, t5, rfl, ht, by omega, g0, by omega⟩
    · rintro x xs _ ⟨ts, b', c', t4, t5, n, rfl, ht, hi, hl, g0, g1⟩
      obtain ⟨n, rfl, rfl, rfl⟩ := rangeD_split hi
      simp only [z_RX_ok, z_RX_stuck, z_CW_ok, z_we_c, z_we_tup, z_we_lst, z_we_dic, z_q_call, z_we_nil, z_we_cons, z_wt_nil, z_ws_nil, z_ws_cons, z_ws_set, z_ws_setP, z_ws_par, z_ws_ex, z_ws_ret, z_ws_retN, z_ws_brk, z_ws_cont, z_ws_pass, z_ws_aug, z_OB_some, z_OB_none, z_OB_if, z_OB_ifi, z_OB_map, z_OB_bind, z_TB_val, z_PB_p, z_q_vo, z_q_ve, z_q_va, z_q_mov, z_q_frz, z_q_lend, z_q_op, z_q_and, z_q_or, z_q_not, z_q_ite, z_q_chain, z_q_mut, z_q_comp, z_qt_one, z_qs_ite, z_qs_store,
    o_add, o_addL, o_sub, o_mul, o_fdiv, o_mod, o_lt, o_le, o_gt, o_ge, o_isN, o_notN, o_neg, o_lenL, o_lenT, o_lenC, o_max, o_min, o_int, o_intB, o_isiI, o_isiB, o_isiS, o_isiT, o_isiL, o_isiD, kInt, kBl, kStr, kTup, kLst, kDic, o_ixL, o_ixT, o_ixC, o_tupL, o_tupT, o_lstL, o_lstT, g_nil, g_val, g_at, v_val, v_at, r_p, r_l, gt_0, gt_s, bR_s, bR_n, ite_some_eq, ite_none_eq,
    movK, ta_nil, ta_val, ta_at, taAt_p, taAt_l, taAt_m, Val.r, Val.rd, R.pure, lentOk, MOp.keeps, isLst, D.isNon,
    List.map_cons, List.map_nil, List.length_cons, List.length_nil, List.set_cons_zero, List.set_cons_succ, Option.map_some, Option.map_none, Option.bind_some, Option.bind_none, Option.some.injEq, Val.val.injEq, R.p.injEq, D.bl.injEq, D.int.injEq, D.str.injEq, D.tup.injEq, exists_eq_left', exists_eq_left, if_true, if_false, Bool.false_eq_true, decide_eq_true_eq, true_and, and_true, reduceCtorEq, ite_true, ite_false, fr_nil, fr_cons, fp_s, fp_t, fps_nil, fps_cons, lk_nil, lk_val, lk_at, lkAt_p, lkAt_l, lkAt_m, lockE_nil, lockE_cons, unlockE_nil, unlockE_cons, lockF_eq, ip_nil, ip_cons, po_n, po_p, pi_s, pi_t, pis_nil, pis_cons, wipe_nil, wipe_cons, rest_nil, rest_cons, gb_nil, gb_val, gb_at, gb_lent, bp_s, bp_t, bps_nil, bps_cons,
    szL, mulL, mulR, divL, si_seqL, si_seqT, si_seqS, si_rng1, si_rng2, sl_l, sl_t, sl_s, o_slA, o_slB, o_slAB, o_revL, o_revT, o_repr, o_addTT, o_mulS, m_app, m_ext, st_l, QC_e, z_qs_for, o_addS, o_lenS, o_ixS, iI_int, iB_int, iS_int, iT_int, iL_int, iN_int, iD_int, iI_bool, iB_bool, iS_bool, iT_bool, iL_bool, iN_bool, iD_bool, iI_str, iB_str, iS_str, iT_str, iL_str, iN_str, iD_str, iI_tuple, iB_tuple, iS_tuple, iT_tuple, iL_tuple, iN_tuple, iD_tuple, iI_list, iB_list, iS_list, iT_list, iL_list, iN_list, iD_list, iI_dict, iB_dict, iS_dict, iT_dict, iL_dict, iN_dict, iD_dict, out_0, out_c, o_pow10, o_eq, o_ne, deq_int, deq_str, eq_bl,
    Nat.reduceAdd, Nat.reduceSub, Nat.reduceMul, Nat.reduceLT, Nat.reduceLeDiff, Nat.reduceBEq, Nat.reduceEqDiff, Int.reduceAdd, Int.reduceSub, Int.reduceMul, Int.reduceNeg, Int.reduceLT, Int.reduceLE, Int.reduceEq, Int.reduceNe, Int.reducePow, Int.reduceToNat, Nat.reducePow, ne_eq, not_true_eq_false, not_false_eq_true, and_self, Bool.not_false, Bool.not_true, Bool.true_and, Bool.and_true, Bool.false_and, Bool.and_false, List.contains_cons, List.contains_nil, beq_self_eq_true, Bool.true_or, Bool.or_true, Bool.or_false, Bool.false_or, List.cons_append, List.nil_append]
      refine QC.mono (hN g0 (by omega) (by omega) (by omega)) ?_ (fun _ _ _ _ z => z.elim)
      rintro _ _ ⟨i, b3, c3, rfl, rfl, i0, i4, h2, h3⟩
      simp only [z_RX_ok, z_RX_stuck, z_CW_ok, z_we_c, z_we_tup, z_we_lst, z_we_dic, z_q_call, z_we_nil, z_we_cons, z_wt_nil, z_ws_nil, z_ws_cons, z_ws_set, z_ws_setP, z_ws_par, z_ws_ex, z_ws_ret, z_ws_retN, z_ws_brk, z_ws_cont, z_ws_pass, z_ws_aug, z_OB_some, z_OB_none, z_OB_if, z_OB_ifi, z_OB_map, z_OB_bind, z_TB_val, z_PB_p, z_q_vo, z_q_ve, z_q_va, z_q_mov, z_q_frz, z_q_lend, z_q_op, z_q_and, z_q_or, z_q_not, z_q_ite, z_q_chain, z_q_mut, z_q_comp, z_qt_one, z_qs_ite, z_qs_store,
    o_add, o_addL, o_sub, o_mul, o_fdiv, o_mod, o_lt, o_le, o_gt, o_ge, o_isN, o_notN, o_neg, o_lenL, o_lenT, o_lenC, o_max, o_min, o_int, o_intB, o_isiI, o_isiB, o_isiS, o_isiT, o_isiL, o_isiD, kInt, kBl, kStr, kTup, kLst, kDic, o_ixL, o_ixT, o_ixC, o_tupL, o_tupT, o_lstL, o_lstT, g_nil, g_val, g_at, v_val, v_at, r_p, r_l, gt_0, gt_s, bR_s, bR_n, ite_some_eq, ite_none_eq,
    movK, ta_nil, ta_val, ta_at, taAt_p, taAt_l, taAt_m, Val.r, Val.rd, R.pure, lentOk, MOp.keeps, isLst, D.isNon,
    List.map_cons, List.map_nil, List.length_cons, List.length_nil, List.set_cons_zero, List.set_cons_succ, Option.map_some, Option.map_none, Option.bind_some, Option.bind_none, Option.some.injEq, Val.val.injEq, R.p.injEq, D.bl.injEq, D.int.injEq, D.str.injEq, D.tup.injEq, exists_eq_left', exists_eq_left, if_true, if_false, Bool.false_eq_true, decide_eq_true_eq, true_and, and_true, reduceCtorEq, ite_true, ite_false, fr_nil, fr_cons, fp_s, fp_t, fps_nil, fps_cons, lk_nil, lk_val, lk_at, lkAt_p, lkAt_l, lkAt_m, lockE_nil, lockE_cons, unlockE_nil, unlockE_cons, lockF_eq, ip_nil, ip_cons, po_n, po_p, pi_s, pi_t, pis_nil, pis_cons, wipe_nil, wipe_cons, rest_nil, rest_cons, gb_nil, gb_val, gb_at, gb_lent, bp_s, bp_t, bps_nil, bps_cons,
    szL, mulL, mulR, divL, si_seqL, si_seqT, si_seqS, si_rng1, si_rng2, sl_l, sl_t, sl_s, o_slA, o_slB, o_slAB, o_revL, o_revT, o_repr, o_addTT, o_mulS, m_app, m_ext, st_l, QC_e, z_qs_for, o_addS, o_lenS, o_ixS, iI_int, iB_int, iS_int, iT_int, iL_int, iN_int, iD_int, iI_bool, iB_bool, iS_bool, iT_bool, iL_bool, iN_bool, iD_bool, iI_str, iB_str, iS_str, iT_str, iL_str, iN_str, iD_str, iI_tuple, iB_tuple, iS_tuple, iT_tuple, iL_tuple, iN_tuple, iD_tuple, iI_list, iB_list, iS_list, iT_list, iL_list, iN_list, iD_list, iI_dict, iB_dict, iS_dict, iT_dict, iL_dict, iN_dict, iD_dict, out_0, out_c, o_pow10, o_eq, o_ne, deq_int, deq_str, eq_bl,
    Nat.reduceAdd, Nat.reduceSub, Nat.reduceMul, Nat.reduceLT, Nat.reduceLeDiff, Nat.reduceBEq, Nat.reduceEqDiff, Int.reduceAdd, Int.reduceSub, Int.reduceMul, Int.reduceNeg, Int.reduceLT, Int.reduceLE, Int.reduceEq, Int.reduceNe, Int.reducePow, Int.reduceToNat, Nat.reducePow, ne_eq, not_true_eq_false, not_false_eq_true, and_self, Bool.not_false, Bool.not_true, Bool.true_and, Bool.and_true, Bool.false_and, Bool.and_false, List.contains_cons, List.contains_nil, beq_self_eq_true, Bool.true_or, Bool.or_true, Bool.or_false, Bool.false_or, List.cons_append, List.nil_append]
      refine QO_at i0 i4 fun t ht' => ?_
      obtain ⟨t, rfl, ht2⟩ : ∃ t', t = .str t' ∧ t' ∈ tails := by
        simp only [List.mem_cons, List.not_mem_nil, or_false] at ht'
        rcases ht' with h | h | h | h <;> exact ⟨_, h, by decide +kernel⟩
      have m0 := Int.fmod_nonneg_of_pos (f + 7 * (ts.length : Int)) (b := 26) (by omega)
      have m2 := Int.fmod_lt_of_pos (f + 7 * (ts.length : Int)) (b := 26) (by omega)
      obtain ⟨hk, ek⟩ := at_int (xs := (Str.ofString "abcdefghijklmnopqrstuvwxyz").cps.toList) (i := (f + 7 * (ts.length : Int)).fmod 26) m0 m2
      have ek2 : (Str.ofString "abcdefghijklmnopqrstuvwxyz").cps.toList[((f + 7 * (ts.length : Int)).fmod 26).toNat] = 97 + ((f + 7 * (ts.length : Int)).fmod 26).toNat := by
        have := abc_at ((f + 7 * (ts.length : Int)).fmod 26).toNat (by omega)
        rw [List.getElem?_eq_getElem hk] at this
        exact Option.some.inj this
      have l26 : (Str.ofString "abcdefghijklmnopqrstuvwxyz").length ≤ sizeLine := by decide
      have lt1 : (⟨#[97 + ((f + 7 * (ts.length : Int)).fmod 26).toNat]⟩ : Str).length + t.length ≤ sizeLine := by
        have := (tails_ok t ht2).1
        exact Nat.le_trans (m := 8) (by show 1 + t.length ≤ 8; omega) (by decide)
      have lt2 : ((nmsOf f ts).map D.str).length < sizeLine := by
        rw [List.length_map]; unfold nmsOf; rw [List.length_mapIdx]
        exact Nat.lt_of_lt_of_le (m := 100) (by omega) (by decide)
      simp only [l26, ek, ek2, lt1, lt2, z_RX_ok, z_RX_stuck, z_CW_ok, z_we_c, z_we_tup, z_we_lst, z_we_dic, z_q_call, z_we_nil, z_we_cons, z_wt_nil, z_ws_nil, z_ws_cons, z_ws_set, z_ws_setP, z_ws_par, z_ws_ex, z_ws_ret, z_ws_retN, z_ws_brk, z_ws_cont, z_ws_pass, z_ws_aug, z_OB_some, z_OB_none, z_OB_if, z_OB_ifi, z_OB_map, z_OB_bind, z_TB_val, z_PB_p, z_q_vo, z_q_ve, z_q_va, z_q_mov, z_q_frz, z_q_lend, z_q_op, z_q_and, z_q_or, z_q_not, z_q_ite, z_q_chain, z_q_mut, z_q_comp, z_qt_one, z_qs_ite, z_qs_store,
    o_add, o_addL, o_sub, o_mul, o_fdiv, o_mod, o_lt, o_le, o_gt, o_ge, o_isN, o_notN, o_neg, o_lenL, o_lenT, o_lenC, o_max, o_min, o_int, o_intB, o_isiI, o_isiB, o_isiS, o_isiT, o_isiL, o_isiD, kInt, kBl, kStr, kTup, kLst, kDic, o_ixL, o_ixT, o_ixC, o_tupL, o_tupT, o_lstL, o_lstT, g_nil, g_val, g_at, v_val, v_at, r_p, r_l, gt_0, gt_s, bR_s, bR_n, ite_some_eq, ite_none_eq,
    movK, ta_nil, ta_val, ta_at, taAt_p, taAt_l, taAt_m, Val.r, Val.rd, R.pure, lentOk, MOp.keeps, isLst, D.isNon,
    List.map_cons, List.map_nil, List.length_cons, List.length_nil, List.set_cons_zero, List.set_cons_succ, Option.map_some, Option.map_none, Option.bind_some, Option.bind_none, Option.some.injEq, Val.val.injEq, R.p.injEq, D.bl.injEq, D.int.injEq, D.str.injEq, D.tup.injEq, exists_eq_left', exists_eq_left, if_true, if_false, Bool.false_eq_true, decide_eq_true_eq, true_and, and_true, reduceCtorEq, ite_true, ite_false, fr_nil, fr_cons, fp_s, fp_t, fps_nil, fps_cons, lk_nil, lk_val, lk_at, lkAt_p, lkAt_l, lkAt_m, lockE_nil, lockE_cons, unlockE_nil, unlockE_cons, lockF_eq, ip_nil, ip_cons, po_n, po_p, pi_s, pi_t, pis_nil, pis_cons, wipe_nil, wipe_cons, rest_nil, rest_cons, gb_nil, gb_val, gb_at, gb_lent, bp_s, bp_t, bps_nil, bps_cons,
    szL, mulL, mulR, divL, si_seqL, si_seqT, si_seqS, si_rng1, si_rng2, sl_l, sl_t, sl_s, o_slA, o_slB, o_slAB, o_revL, o_revT, o_repr, o_addTT, o_mulS, m_app, m_ext, st_l, QC_e, z_qs_for, o_addS, o_lenS, o_ixS, iI_int, iB_int, iS_int, iT_int, iL_int, iN_int, iD_int, iI_bool, iB_bool, iS_bool, iT_bool, iL_bool, iN_bool, iD_bool, iI_str, iB_str, iS_str, iT_str, iL_str, iN_str, iD_str, iI_tuple, iB_tuple, iS_tuple, iT_tuple, iL_tuple, iN_tuple, iD_tuple, iI_list, iB_list, iS_list, iT_list, iL_list, iN_list, iD_list, iI_dict, iB_dict, iS_dict, iT_dict, iL_dict, iN_dict, iD_dict, out_0, out_c, o_pow10, o_eq, o_ne, deq_int, deq_str, eq_bl,
    Nat.reduceAdd, Nat.reduceSub, Nat.reduceMul, Nat.reduceLT, Nat.reduceLeDiff, Nat.reduceBEq, Nat.reduceEqDiff, Int.reduceAdd, Int.reduceSub, Int.reduceMul, Int.reduceNeg, Int.reduceLT, Int.reduceLE, Int.reduceEq, Int.reduceNe, Int.reducePow, Int.reduceToNat, Nat.reducePow, ne_eq, not_true_eq_false, not_false_eq_true, and_self, Bool.not_false, Bool.not_true, Bool.true_and, Bool.and_true, Bool.false_and, Bool.and_false, List.contains_cons, List.contains_nil, beq_self_eq_true, Bool.true_or, Bool.or_true, Bool.or_false, Bool.false_or, List.cons_append, List.nil_append]
      refine ⟨ts ++ [t], b3, c3, some (.p (.int ts.length)), some (.p (.str t)), n, ?_, ?_, ?_, ?_, h2, ?_⟩
      · have : (nmsOf f (ts ++ [t])).map D.str = (nmsOf f ts).map D.str ++ [D.str (⟨#[97 + ((f + 7 * (ts.length : Int)).fmod 26).toNat]⟩ ++ t)] := by
          unfold nmsOf
          rw [List.mapIdx_concat, List.map_append]; rfl
        rw [this]
      · intro z hz
        rcases List.mem_append.mp hz with hz | hz
        · exact ht z hz
        · rw [List.mem_singleton.mp hz]; exact ht2
      · rw [List.length_append]; rfl
      · rw [List.length_append]; simp; omega
      · omega
  rintro _ ⟨ts, b3, c3, t4, t5, rfl, ht, hl, h2, h3⟩
  have len : ((nmsOf f ts).length : Int) = m := by unfold nmsOf; rw [List.length_mapIdx]; exact hl
  have fin : QS (evSs cl [0, 1] [.ret (.mov 3)] [some (dr a b3 c3), some (.p (.int m)), some (.p (.int f)), some (.l ((nmsOf f ts).map D.str)), t4, t5])
      { nx := fun ρ => False, rt := fun r ρ => ∃ ns b' c', r = .l (ns.map D.str) ∧ outsOf [0, 1] 0 2 ρ = [some (dr a b' c'), some (.p (.int m))] ∧ NamesOk ns ∧ (ns.length : Int) = m ∧ 0 ≤ b' ∧ b' ≤ b + 27, bk := fun _ => False, ct := fun _ => False, ex := fun c ns vs ρ => False } := by
    simp only [z_RX_ok, z_RX_stuck, z_CW_ok, z_we_c, z_we_tup, z_we_lst, z_we_dic, z_q_call, z_we_nil, z_we_cons, z_wt_nil, z_ws_nil, z_ws_cons, z_ws_set, z_ws_setP, z_ws_par, z_ws_ex, z_ws_ret, z_ws_retN, z_ws_brk, z_ws_cont, z_ws_pass, z_ws_aug, z_OB_some, z_OB_none, z_OB_if, z_OB_ifi, z_OB_map, z_OB_bind, z_TB_val, z_PB_p, z_q_vo, z_q_ve, z_q_va, z_q_mov, z_q_frz, z_q_lend, z_q_op, z_q_and, z_q_or, z_q_not, z_q_ite, z_q_chain, z_q_mut, z_q_comp, z_qt_one, z_qs_ite, z_qs_store,
    o_add, o_addL, o_sub, o_mul, o_fdiv, o_mod, o_lt, o_le, o_gt, o_ge, o_isN, o_notN, o_neg, o_lenL, o_lenT, o_lenC, o_max, o_min, o_int, o_intB, o_isiI, o_isiB, o_isiS, o_isiT, o_isiL, o_isiD, kInt, kBl, kStr, kTup, kLst, kDic, o_ixL, o_ixT, o_ixC, o_tupL, o_tupT, o_lstL, o_lstT, g_nil, g_val, g_at, v_val, v_at, r_p, r_l, gt_0, gt_s, bR_s, bR_n, ite_some_eq, ite_none_eq,
    movK, ta_nil, ta_val, ta_at, taAt_p, taAt_l, taAt_m, Val.r, Val.rd, R.pure, lentOk, MOp.keeps, isLst, D.isNon,
    List.map_cons, List.map_nil, List.length_cons, List.length_nil, List.set_cons_zero, List.set_cons_succ, Option.map_some, Option.map_none, Option.bind_some, Option.bind_none, Option.some.injEq, Val.val.injEq, R.p.injEq, D.bl.injEq, D.int.injEq, D.str.injEq, D.tup.injEq, exists_eq_left', exists_eq_left, if_true, if_false, Bool.false_eq_true, decide_eq_true_eq, true_and, and_true, reduceCtorEq, ite_true, ite_false, fr_nil, fr_cons, fp_s, fp_t, fps_nil, fps_cons, lk_nil, lk_val, lk_at, lkAt_p, lkAt_l, lkAt_m, lockE_nil, lockE_cons, unlockE_nil, unlockE_cons, lockF_eq, ip_nil, ip_cons, po_n, po_p, pi_s, pi_t, pis_nil, pis_cons, wipe_nil, wipe_cons, rest_nil, rest_cons, gb_nil, gb_val, gb_at, gb_lent, bp_s, bp_t, bps_nil, bps_cons,
    szL, mulL, mulR, divL, si_seqL, si_seqT, si_seqS, si_rng1, si_rng2, sl_l, sl_t, sl_s, o_slA, o_slB, o_slAB, o_revL, o_revT, o_repr, o_addTT, o_mulS, m_app, m_ext, st_l, QC_e, z_qs_for, o_addS, o_lenS, o_ixS, iI_int, iB_int, iS_int, iT_int, iL_int, iN_int, iD_int, iI_bool, iB_bool, iS_bool, iT_bool, iL_bool, iN_bool, iD_bool, iI_str, iB_str, iS_str, iT_str, iL_str, iN_str, iD_str, iI_tuple, iB_tuple, iS_tuple, iT_tuple, iL_tuple, iN_tuple, iD_tuple, iI_list, iB_list, iS_list, iT_list, iL_list, iN_list, iD_list, iI_dict, iB_dict, iS_dict, iT_dict, iL_dict, iN_dict, iD_dict, out_0, out_c, o_pow10, o_eq, o_ne, deq_int, deq_str, eq_bl,
    Nat.reduceAdd, Nat.reduceSub, Nat.reduceMul, Nat.reduceLT, Nat.reduceLeDiff, Nat.reduceBEq, Nat.reduceEqDiff, Int.reduceAdd, Int.reduceSub, Int.reduceMul, Int.reduceNeg, Int.reduceLT, Int.reduceLE, Int.reduceEq, Int.reduceNe, Int.reducePow, Int.reduceToNat, Nat.reducePow, ne_eq, not_true_eq_false, not_false_eq_true, and_self, Bool.not_false, Bool.not_true, Bool.true_and, Bool.and_true, Bool.false_and, Bool.and_false, List.contains_cons, List.contains_nil, beq_self_eq_true, Bool.true_or, Bool.or_true, Bool.or_false, Bool.false_or, List.cons_append, List.nil_append]
    exact ⟨nmsOf f ts, _, _, rfl, rfl, nms_ok (by omega) ht, len, h2, h3⟩
  rcases Decidable.em (1 < m) with hm | hm
  · rcases ts with _ | ⟨t, _ | ⟨u, ts⟩⟩
    · simp at hl; omega
    · simp at hl; omega
    rcases Decidable.em (f.fmod 3 = 1) with hf | hf
    · have h0 : okN (mkN f 0 t) := mkN_ok (ht t List.mem_cons_self)
      have hz : (mkN f 0 t).length ≤ sizeLine := Nat.le_trans h0.2.1 (by decide)
      have a0 : atI ((nmsOf f (t :: u :: ts)).map D.str) 0 = some (.str (mkN f 0 t)) := by
        obtain ⟨hk, ek⟩ := at_int (xs := (nmsOf f (t :: u :: ts)).map D.str) (i := 0) (by omega) (by rw [List.length_map]; omega)
        rw [ek]
        congr 1
        show ((nmsOf f (t :: u :: ts)).map D.str)[0] = _
        rw [List.getElem_map]
        congr 1
        unfold nmsOf
        rw [List.getElem_mapIdx]; rfl
      have a1 : ixN ((nmsOf f (t :: u :: ts)).map D.str).length 1 = some 1 := by
        unfold ixN
        rw [if_pos (by omega), if_pos (by rw [List.length_map]; omega)]
        rfl
      have hs := second_ok h0
      have hm' : m > 1 := hm
      have lc : (Str.ofString "c").length = 1 := rfl
      rcases Decidable.em ((mkN f 0 t).length < 8) with h8 | h8
      · have h8' : ((mkN f 0 t).length : Int) < 8 := by omega
        have es : second (mkN f 0 t) = cutS (mkN f 0 t) none (some 7) ++ ⟨(List.replicate 1 (Str.ofString "c").cps.toList).flatten.toArray⟩ := by
          unfold second
          rw [if_pos h8]
        have c2 : (cutS (mkN f 0 t) none (some 7)).length + (⟨(List.replicate 1 (Str.ofString "c").cps.toList).flatten.toArray⟩ : Str).length ≤ sizeLine := by
          rw [← len_app, ← es]
          exact Nat.le_trans hs.2.1 (by decide)
        have d8 : decide (((mkN f 0 t).length : Int) < 8) = true := decide_eq_true h8'
        simp only [hm', hf, hz, a0, a1, d8, lc, c2, z_RX_ok, z_RX_stuck, z_CW_ok, z_we_c, z_we_tup, z_we_lst, z_we_dic, z_q_call, z_we_nil, z_we_cons, z_wt_nil, z_ws_nil, z_ws_cons, z_ws_set, z_ws_setP, z_ws_par, z_ws_ex, z_ws_ret, z_ws_retN, z_ws_brk, z_ws_cont, z_ws_pass, z_ws_aug, z_OB_some, z_OB_none, z_OB_if, z_OB_ifi, z_OB_map, z_OB_bind, z_TB_val, z_PB_p, z_q_vo, z_q_ve, z_q_va, z_q_mov, z_q_frz, z_q_lend, z_q_op, z_q_and, z_q_or, z_q_not, z_q_ite, z_q_chain, z_q_mut, z_q_comp, z_qt_one, z_qs_ite, z_qs_store,
    o_add, o_addL, o_sub, o_mul, o_fdiv, o_mod, o_lt, o_le, o_gt, o_ge, o_isN, o_notN, o_neg, o_lenL, o_lenT, o_lenC, o_max, o_min, o_int, o_intB, o_isiI, o_isiB, o_isiS, o_isiT, o_isiL, o_isiD, kInt, kBl, kStr, kTup, kLst, kDic, o_ixL, o_ixT, o_ixC, o_tupL, o_tupT, o_lstL, o_lstT, g_nil, g_val, g_at, v_val, v_at, r_p, r_l, gt_0, gt_s, bR_s, bR_n, ite_some_eq, ite_none_eq,
    movK, ta_nil, ta_val, ta_at, taAt_p, taAt_l, taAt_m, Val.r, Val.rd, R.pure, lentOk, MOp.keeps, isLst, D.isNon,
    List.map_cons, List.map_nil, List.length_cons, List.length_nil, List.set_cons_zero, List.set_cons_succ, Option.map_some, Option.map_none, Option.bind_some, Option.bind_none, Option.some.injEq, Val.val.injEq, R.p.injEq, D.bl.injEq, D.int.injEq, D.str.injEq, D.tup.injEq, exists_eq_left', exists_eq_left, if_true, if_false, Bool.false_eq_true, decide_eq_true_eq, true_and, and_true, reduceCtorEq, ite_true, ite_false, fr_nil, fr_cons, fp_s, fp_t, fps_nil, fps_cons, lk_nil, lk_val, lk_at, lkAt_p, lkAt_l, lkAt_m, lockE_nil, lockE_cons, unlockE_nil, unlockE_cons, lockF_eq, ip_nil, ip_cons, po_n, po_p, pi_s, pi_t, pis_nil, pis_cons, wipe_nil, wipe_cons, rest_nil, rest_cons, gb_nil, gb_val, gb_at, gb_lent, bp_s, bp_t, bps_nil, bps_cons,
    szL, mulL, mulR, divL, si_seqL, si_seqT, si_seqS, si_rng1, si_rng2, sl_l, sl_t, sl_s, o_slA, o_slB, o_slAB, o_revL, o_revT, o_repr, o_addTT, o_mulS, m_app, m_ext, st_l, QC_e, z_qs_for, o_addS, o_lenS, o_ixS, iI_int, iB_int, iS_int, iT_int, iL_int, iN_int, iD_int, iI_bool, iB_bool, iS_bool, iT_bool, iL_bool, iN_bool, iD_bool, iI_str, iB_str, iS_str, iT_str, iL_str, iN_str, iD_str, iI_tuple, iB_tuple, iS_tuple, iT_tuple, iL_tuple, iN_tuple, iD_tuple, iI_list, iB_list, iS_list, iT_list, iL_list, iN_list, iD_list, iI_dict, iB_dict, iS_dict, iT_dict, iL_dict, iN_dict, iD_dict, out_0, out_c, o_pow10, o_eq, o_ne, deq_int, deq_str, eq_bl,
    Nat.reduceAdd, Nat.reduceSub, Nat.reduceMul, Nat.reduceLT, Nat.reduceLeDiff, Nat.reduceBEq, Nat.reduceEqDiff, Int.reduceAdd, Int.reduceSub, Int.reduceMul, Int.reduceNeg, Int.reduceLT, Int.reduceLE, Int.reduceEq, Int.reduceNe, Int.reducePow, Int.reduceToNat, Nat.reducePow, ne_eq, not_true_eq_false, not_false_eq_true, and_self, Bool.not_false, Bool.not_true, Bool.true_and, Bool.and_true, Bool.false_and, Bool.and_false, List.contains_cons, List.contains_nil, beq_self_eq_true, Bool.true_or, Bool.or_true, Bool.or_false, Bool.false_or, List.cons_append, List.nil_append]
        refine ⟨(nmsOf f (t :: u :: ts)).set 1 (second (mkN f 0 t)), _, _, ?_, rfl, nms_second (by simp at hl; omega) ht, by rw [List.length_set]; exact len, h2, h3⟩
        rw [List.map_set, es]
      · have h8' : ¬ ((mkN f 0 t).length : Int) < 8 := by omega
        have es : second (mkN f 0 t) = cutS (mkN f 0 t) none (some 7) ++ ⟨(List.replicate 0 (Str.ofString "c").cps.toList).flatten.toArray⟩ := by
          unfold second
          rw [if_neg h8]
        have c2 : (cutS (mkN f 0 t) none (some 7)).length + (⟨(List.replicate 0 (Str.ofString "c").cps.toList).flatten.toArray⟩ : Str).length ≤ sizeLine := by
          rw [← len_app, ← es]
          exact Nat.le_trans hs.2.1 (by decide)
        have d8 : decide (((mkN f 0 t).length : Int) < 8) = false := decide_eq_false h8'
        simp only [hm', hf, hz, a0, a1, d8, lc, c2, z_RX_ok, z_RX_stuck, z_CW_ok, z_we_c, z_we_tup, z_we_lst, z_we_dic, z_q_call, z_we_nil, z_we_cons, z_wt_nil, z_ws_nil, z_ws_cons, z_ws_set, z_ws_setP, z_ws_par, z_ws_ex, z_ws_ret, z_ws_retN, z_ws_brk, z_ws_cont, z_ws_pass, z_ws_aug, z_OB_some, z_OB_none, z_OB_if, z_OB_ifi, z_OB_map, z_OB_bind, z_TB_val, z_PB_p, z_q_vo, z_q_ve, z_q_va, z_q_mov, z_q_frz, z_q_lend, z_q_op, z_q_and, z_q_or, z_q_not, z_q_ite, z_q_chain, z_q_mut, z_q_comp, z_qt_one, z_qs_ite, z_qs_store,
    o_add, o_addL, o_sub, o_mul, o_fdiv, o_mod, o_lt, o_le, o_gt, o_ge, o_isN, o_notN, o_neg, o_lenL, o_lenT, o_lenC, o_max, o_min, o_int, o_intB, o_isiI, o_isiB, o_isiS, o_isiT, o_isiL, o_isiD, kInt, kBl, kStr, kTup, kLst, kDic, o_ixL, o_ixT, o_ixC, o_tupL, o_tupT, o_lstL, o_lstT, g_nil, g_val, g_at, v_val, v_at, r_p, r_l, gt_0, gt_s, bR_s, bR_n, ite_some_eq, ite_none_eq,
    movK, ta_nil, ta_val, ta_at, taAt_p, taAt_l, taAt_m, Val.r, Val.rd, R.pure, lentOk, MOp.keeps, isLst, D.isNon,
    List.map_cons, List.map_nil, List.length_cons, List.length_nil, List.set_cons_zero, List.set_cons_succ, Option.map_some, Option.map_none, Option.bind_some, Option.bind_none, Option.some.injEq, Val.val.injEq, R.p.injEq, D.bl.injEq, D.int.injEq, D.str.injEq, D.tup.injEq, exists_eq_left', exists_eq_left, if_true, if_false, Bool.false_eq_true, decide_eq_true_eq, true_and, and_true, reduceCtorEq, ite_true, ite_false, fr_nil, fr_cons, fp_s, fp_t, fps_nil, fps_cons, lk_nil, lk_val, lk_at, lkAt_p, lkAt_l, lkAt_m, lockE_nil, lockE_cons, unlockE_nil, unlockE_cons, lockF_eq, ip_nil, ip_cons, po_n, po_p, pi_s, pi_t, pis_nil, pis_cons, wipe_nil, wipe_cons, rest_nil, rest_cons, gb_nil, gb_val, gb_at, gb_lent, bp_s, bp_t, bps_nil, bps_cons,
    szL, mulL, mulR, divL, si_seqL, si_seqT, si_seqS, si_rng1, si_rng2, sl_l, sl_t, sl_s, o_slA, o_slB, o_slAB, o_revL, o_revT, o_repr, o_addTT, o_mulS, m_app, m_ext, st_l, QC_e, z_qs_for, o_addS, o_lenS, o_ixS, iI_int, iB_int, iS_int, iT_int, iL_int, iN_int, iD_int, iI_bool, iB_bool, iS_bool, iT_bool, iL_bool, iN_bool, iD_bool, iI_str, iB_str, iS_str, iT_str, iL_str, iN_str, iD_str, iI_tuple, iB_tuple, iS_tuple, iT_tuple, iL_tuple, iN_tuple, iD_tuple, iI_list, iB_list, iS_list, iT_list, iL_list, iN_list, iD_list, iI_dict, iB_dict, iS_dict, iT_dict, iL_dict, iN_dict, iD_dict, out_0, out_c, o_pow10, o_eq, o_ne, deq_int, deq_str, eq_bl,
    Nat.reduceAdd, Nat.reduceSub, Nat.reduceMul, Nat.reduceLT, Nat.reduceLeDiff, Nat.reduceBEq, Nat.reduceEqDiff, Int.reduceAdd, Int.reduceSub, Int.reduceMul, Int.reduceNeg, Int.reduceLT, Int.reduceLE, Int.reduceEq, Int.reduceNe, Int.reducePow, Int.reduceToNat, Nat.reducePow, ne_eq, not_true_eq_false, not_false_eq_true, and_self, Bool.not_false, Bool.not_true, Bool.true_and, Bool.and_true, Bool.false_and, Bool.and_false, List.contains_cons, List.contains_nil, beq_self_eq_true, Bool.true_or, Bool.or_true, Bool.or_false, Bool.false_or, List.cons_append, List.nil_append]
        refine ⟨(nmsOf f (t :: u :: ts)).set 1 (second (mkN f 0 t)), _, _, ?_, rfl, nms_second (by simp at hl; omega) ht, by rw [List.length_set]; exact len, h2, h3⟩
        rw [List.map_set, es]
    · refine QS_cut (fun ρ => ρ = [some (dr a b3 c3), some (.p (.int m)), some (.p (.int f)), some (.l ((nmsOf f (t :: u :: ts)).map D.str)), t4, t5]) ?_ ?_
      · have hm' : m > 1 := hm
        simp only [hm', hf, z_RX_ok, z_RX_stuck, z_CW_ok, z_we_c, z_we_tup, z_we_lst, z_we_dic, z_q_call, z_we_nil, z_we_cons, z_wt_nil, z_ws_nil, z_ws_cons, z_ws_set, z_ws_setP, z_ws_par, z_ws_ex, z_ws_ret, z_ws_retN, z_ws_brk, z_ws_cont, z_ws_pass, z_ws_aug, z_OB_some, z_OB_none, z_OB_if, z_OB_ifi, z_OB_map, z_OB_bind, z_TB_val, z_PB_p, z_q_vo, z_q_ve, z_q_va, z_q_mov, z_q_frz, z_q_lend, z_q_op, z_q_and, z_q_or, z_q_not, z_q_ite, z_q_chain, z_q_mut, z_q_comp, z_qt_one, z_qs_ite, z_qs_store,
    o_add, o_addL, o_sub, o_mul, o_fdiv, o_mod, o_lt, o_le, o_gt, o_ge, o_isN, o_notN, o_neg, o_lenL, o_lenT, o_lenC, o_max, o_min, o_int, o_intB, o_isiI, o_isiB, o_isiS, o_isiT, o_isiL, o_isiD, kInt, kBl, kStr, kTup, kLst, kDic, o_ixL, o_ixT, o_ixC, o_tupL, o_tupT, o_lstL, o_lstT, g_nil, g_val, g_at, v_val, v_at, r_p, r_l, gt_0, gt_s, bR_s, bR_n, ite_some_eq, ite_none_eq,
    movK, ta_nil, ta_val, ta_at, taAt_p, taAt_l, taAt_m, Val.r, Val.rd, R.pure, lentOk, MOp.keeps, isLst, D.isNon,
    List.map_cons, List.map_nil, List.length_cons, List.length_nil, List.set_cons_zero, List.set_cons_succ, Option.map_some, Option.map_none, Option.bind_some, Option.bind_none, Option.some.injEq, Val.val.injEq, R.p.injEq, D.bl.injEq, D.int.injEq, D.str.injEq, D.tup.injEq, exists_eq_left', exists_eq_left, if_true, if_false, Bool.false_eq_true, decide_eq_true_eq, true_and, and_true, reduceCtorEq, ite_true, ite_false, fr_nil, fr_cons, fp_s, fp_t, fps_nil, fps_cons, lk_nil, lk_val, lk_at, lkAt_p, lkAt_l, lkAt_m, lockE_nil, lockE_cons, unlockE_nil, unlockE_cons, lockF_eq, ip_nil, ip_cons, po_n, po_p, pi_s, pi_t, pis_nil, pis_cons, wipe_nil, wipe_cons, rest_nil, rest_cons, gb_nil, gb_val, gb_at, gb_lent, bp_s, bp_t, bps_nil, bps_cons,
    szL, mulL, mulR, divL, si_seqL, si_seqT, si_seqS, si_rng1, si_rng2, sl_l, sl_t, sl_s, o_slA, o_slB, o_slAB, o_revL, o_revT, o_repr, o_addTT, o_mulS, m_app, m_ext, st_l, QC_e, z_qs_for, o_addS, o_lenS, o_ixS, iI_int, iB_int, iS_int, iT_int, iL_int, iN_int, iD_int, iI_bool, iB_bool, iS_bool, iT_bool, iL_bool, iN_bool, iD_bool, iI_str, iB_str, iS_str, iT_str, iL_str, iN_str, iD_str, iI_tuple, iB_tuple, iS_tuple, iT_tuple, iL_tuple, iN_tuple, iD_tuple, iI_list, iB_list, iS_list, iT_list, iL_list, iN_list, iD_list, iI_dict, iB_dict, iS_dict, iT_dict, iL_dict, iN_dict, iD_dict, out_0, out_c, o_pow10, o_eq, o_ne, deq_int, deq_str, eq_bl,
    Nat.reduceAdd, Nat.reduceSub, Nat.reduceMul, Nat.reduceLT, Nat.reduceLeDiff, Nat.reduceBEq, Nat.reduceEqDiff, Int.reduceAdd, Int.reduceSub, Int.reduceMul, Int.reduceNeg, Int.reduceLT, Int.reduceLE, Int.reduceEq, Int.reduceNe, Int.reducePow, Int.reduceToNat, Nat.reducePow, ne_eq, not_true_eq_false, not_false_eq_true, and_self, Bool.not_false, Bool.not_true, Bool.true_and, Bool.and_true, Bool.false_and, Bool.and_false, List.contains_cons, List.contains_nil, beq_self_eq_true, Bool.true_or, Bool.or_true, Bool.or_false, Bool.false_or, List.cons_append, List.nil_append]
      · rintro _ rfl
        exact QS.mono fin (fun _ z => z.elim) (fun _ _ z => z) (fun _ z => z) (fun _ z => z) (fun _ _ _ _ z => z)
  · refine QS_cut (fun ρ => ρ = [some (dr a b3 c3), some (.p (.int m)), some (.p (.int f)), some (.l ((nmsOf f ts).map D.str)), t4, t5]) ?_ ?_
    · have hm' : ¬ m > 1 := hm
      simp only [hm', z_RX_ok, z_RX_stuck, z_CW_ok, z_we_c, z_we_tup, z_we_lst, z_we_dic, z_q_call, z_we_nil, z_we_cons, z_wt_nil, z_ws_nil, z_ws_cons, z_ws_set, z_ws_setP, z_ws_par, z_ws_ex, z_ws_ret, z_ws_retN, z_ws_brk, z_ws_cont, z_ws_pass, z_ws_aug, z_OB_some, z_OB_none, z_OB_if, z_OB_ifi, z_OB_map, z_OB_bind, z_TB_val, z_PB_p, z_q_vo, z_q_ve, z_q_va, z_q_mov, z_q_frz, z_q_lend, z_q_op, z_q_and, z_q_or, z_q_not, z_q_ite, z_q_chain, z_q_mut, z_q_comp, z_qt_one, z_qs_ite, z_qs_store,
    o_add, o_addL, o_sub, o_mul, o_fdiv, o_mod, o_lt, o_le, o_gt, o_ge, o_isN, o_notN, o_neg, o_lenL, o_lenT, o_lenC, o_max, o_min, o_int, o_intB, o_isiI, o_isiB, o_isiS, o_isiT, o_isiL, o_isiD, kInt, kBl, kStr, kTup, kLst, kDic, o_ixL, o_ixT, o_ixC, o_tupL, o_tupT, o_lstL, o_lstT, g_nil, g_val, g_at, v_val, v_at, r_p, r_l, gt_0, gt_s, bR_s, bR_n, ite_some_eq, ite_none_eq,
    movK, ta_nil, ta_val, ta_at, taAt_p, taAt_l, taAt_m, Val.r, Val.rd, R.pure, lentOk, MOp.keeps, isLst, D.isNon,
    List.map_cons, List.map_nil, List.length_cons, List.length_nil, List.set_cons_zero, List.set_cons_succ, Option.map_some, Option.map_none, Option.bind_some, Option.bind_none, Option.some.injEq, Val.val.injEq, R.p.injEq, D.bl.injEq, D.int.injEq, D.str.injEq, D.tup.injEq, exists_eq_left', exists_eq_left, if_true, if_false, Bool.false_eq_true, decide_eq_true_eq, true_and, and_true, reduceCtorEq, ite_true, ite_false, fr_nil, fr_cons, fp_s, fp_t, fps_nil, fps_cons, lk_nil, lk_val, lk_at, lkAt_p, lkAt_l, lkAt_m, lockE_nil, lockE_cons, unlockE_nil, unlockE_cons, lockF_eq, ip_nil, ip_cons, po_n, po_p, pi_s, pi_t, pis_nil, pis_cons, wipe_nil, wipe_cons, rest_nil, rest_cons, gb_nil, gb_val, gb_at, gb_lent, bp_s, bp_t, bps_nil, bps_cons,
    szL, mulL, mulR, divL, si_seqL, si_seqT, si_seqS, si_rng1, si_rng2, sl_l, sl_t, sl_s, o_slA, o_slB, o_slAB, o_revL, o_revT, o_repr, o_addTT, o_mulS, m_app, m_ext, st_l, QC_e, z_qs_for, o_addS, o_lenS, o_ixS, iI_int, iB_int, iS_int, iT_int, iL_int, iN_int, iD_int, iI_bool, iB_bool, iS_bool, iT_bool, iL_bool, iN_bool, iD_bool, iI_str, iB_str, iS_str, iT_str, iL_str, iN_str, iD_str, iI_tuple, iB_tuple, iS_tuple, iT_tuple, iL_tuple, iN_tuple, iD_tuple, iI_list, iB_list, iS_list, iT_list, iL_list, iN_list, iD_list, iI_dict, iB_dict, iS_dict, iT_dict, iL_dict, iN_dict, iD_dict, out_0, out_c, o_pow10, o_eq, o_ne, deq_int, deq_str, eq_bl,
    Nat.reduceAdd, Nat.reduceSub, Nat.reduceMul, Nat.reduceLT, Nat.reduceLeDiff, Nat.reduceBEq, Nat.reduceEqDiff, Int.reduceAdd, Int.reduceSub, Int.reduceMul, Int.reduceNeg, Int.reduceLT, Int.reduceLE, Int.reduceEq, Int.reduceNe, Int.reducePow, Int.reduceToNat, Nat.reducePow, ne_eq, not_true_eq_false, not_false_eq_true, and_self, Bool.not_false, Bool.not_true, Bool.true_and, Bool.and_true, Bool.false_and, Bool.and_false, List.contains_cons, List.contains_nil, beq_self_eq_true, Bool.true_or, Bool.or_true, Bool.or_false, Bool.false_or, List.cons_append, List.nil_append]
    · rintro _ rfl
      exact QS.mono fin (fun _ z => z.elim) (fun _ _ z => z) (fun _ z => z) (fun _ z => z) (fun _ _ _ _ z => z)
end VB
set_option Elab.async false
set_option linter.all false
set_option maxRecDepth 100000
namespace K02
open PySem PySem.Spec L2 VB
open PyProof.Rows hiding St
/-- all_values : 0=ports 1=found 2=name 3=most 4=longer 5=row 6=value -/
def f_all_values : Fn := ⟨1, 7, [0],
   [.set 1 (.lst [.tup []]),
    .for_ .seq [.v 0] (.t [.s 2, .s 3])
      [.set 4 (.lst []),
       .for_ .seq [.v 1] (.s 5)
         [.ex (.mut .extend 4 [.comp [6] .rng [.op .add [.v 3, .c (.int 1)]] (.s 6) [] (.op .add [.v 5, .tup [.frz 6]])])],
       .set 1 (.mov 4)],
    .ret (.mov 1)]⟩
/-- cut : 0=number 1=most -/
def f_cut : Fn := ⟨2, 2, [0, 1],
   [.ret (.op .max2 [.c (.int 0), .op .min2 [.v 0, .v 1]])]⟩
/-- _law_mixed : 0=_law_cell 1=_law_k 2=_law_number -/
def f__law_mixed : Fn := ⟨2, 3, [0, 1],
   [.set 2 (.op .mod [.op .mul [.op .add [.op .add [.op .mod [.v 0, .c (.int 1000000007)], .op .mul [.op .mul [.c (.int 31), .v 1], .v 1]], .c (.int 7)], .c (.int 48271)], .c (.int 2147483647)]),
    .ret (.op .mod [.op .mul [.v 2, .op .add [.c (.int 16807), .op .mul [.c (.int 7919), .v 1]]], .c (.int 2147483629)])]⟩
/-- _law_draw : 0=_law_script 1=_law_k 2=_law_cell 3=_law_own 4=_law_turn -/
def f__law_draw : Fn := ⟨2, 5, [0, 1],
   [.set 2 (.ite (.op .ne [.v 0, .lst []]) (.op .ix [.v 0, .op .mod [.v 1, .op .len [.v 0]]]) (.c (.int 0))),
    .set 3 (.ite (.op .ge [.v 2, .op .pow [.c (.int 10), .c (.int 18)]]) (.frz 2) (.c (.int 0))),
    .for_ .rng [.op .fdiv [.v 1, .op .max2 [.c (.int 1), .op .len [.v 0]]]] (.s 4)
      [.set 3 (.op .fdiv [.v 3, .op .pow [.c (.int 10), .c (.int 18)]])],
    .ret (.lst [.frz 2, .op .mul [.c (.int 64), .v 1], .frz 3])]⟩
/-- _law_next : 0=_law_draw_here 1=_law_many 2=_law_found 3=_law_number -/
def f__law_next : Fn := ⟨2, 4, [0, 1],
   [.ite (.op .gt [.op .ix [.v 0, .c (.int 2)], .c (.int 0)])
      [.set 2 (.op .mod [.op .ix [.v 0, .c (.int 2)], .v 1]),
       .store 0 (.c (.int 2)) (.op .fdiv [.op .ix [.v 0, .c (.int 2)], .v 1]),
       .ret (.mov 2)]
      [],
    .store 0 (.c (.int 1)) (.op .add [.op .ix [.v 0, .c (.int 1)], .c (.int 1)]),
    .set 3 (.op .add [.op .mul [.call "_law_mixed" [.op .ix [.v 0, .c (.int 0)], .op .ix [.v 0, .c (.int 1)]], .c (.int 2147483629)], .call "_law_mixed" [.op .ix [.v 0, .c (.int 0)], .op .add [.op .ix [.v 0, .c (.int 1)], .c (.int 9001)]]]),
    .ret (.op .mod [.op .fdiv [.v 3, .c (.int 11)], .v 1])]⟩
/-- _law_names : 0=_law_draw_here 1=_law_many 2=_law_first 3=_law_found 4=_law_k 5=_law_tail -/
def f__law_names : Fn := ⟨2, 6, [0, 1],
   [.set 2 (.call "_law_next" [.lend 0, .c (.int 26)]),
    .set 3 (.lst []),
    .for_ .rng [.v 1] (.s 4)
      [.set 5 (.op .ix [.lst [.c (.str ""), .c (.str "b"), .c (.str "ba"), .c (.str "zzzzzzz")], .call "_law_next" [.lend 0, .c (.int 4)]]),
       .ex (.mut .append 3 [.op .add [.op .ix [.c (.str "abcdefghijklmnopqrstuvwxyz"), .op .mod [.op .add [.v 2, .op .mul [.c (.int 7), .v 4]], .c (.int 26)]], .v 5]])],
    .ite (.and (.op .gt [.v 1, .c (.int 1)]) (.op .eq [.op .mod [.v 2, .c (.int 3)], .c (.int 1)]))
      [.store 3 (.c (.int 1)) (.op .add [.op .slB [.op .ix [.v 3, .c (.int 0)], .c (.int 7)], .op .mul [.c (.str "c"), .op .int1 [.op .lt [.op .len [.op .ix [.v 3, .c (.int 0)]], .c (.int 8)]]]])]
      [],
    .ret (.mov 3)]⟩
/-- _law_values : 0=_law_ports 1=_law_found 2=_law_many 3=_law_name 4=_law_most 5=_law_number 6=_law_row 7=_law_left -/
def f__law_values : Fn := ⟨1, 8, [0],
   [.set 1 (.lst []),
    .set 2 (.c (.int 1)),
    .for_ .seq [.v 0] (.t [.s 3, .s 4])
      [.set 2 (.op .mul [.v 2, .op .add [.v 4, .c (.int 1)]])],
    .for_ .rng [.v 2] (.s 5)
      [.set 6 (.tup []),
       .set 7 (.mov 5),
       .for_ .seq [.op .rev [.v 0]] (.t [.s 3, .s 4])
         [.set 6 (.op .add [.tup [.op .mod [.v 7, .op .add [.v 4, .c (.int 1)]]], .v 6]),
          .set 7 (.op .fdiv [.v 7, .op .add [.v 4, .c (.int 1)]])],
       .ex (.mut .append 1 [.frz 6])],
    .ret (.mov 1)]⟩
/-- _law_cut_right : 0=_law_number 1=_law_most 2=_law_due 3=_law_found -/
def f__law_cut_right : Fn := ⟨2, 4, [0, 1],
   [.set 2 (.frz 0),
    .ite (.op .lt [.v 0, .c (.int 0)])
      [.set 2 (.c (.int 0))]
      [.ite (.op .gt [.v 0, .v 1])
         [.set 2 (.frz 1)]
         []],
    .set 3 (.call "cut" [.lend 0, .lend 1]),
    .ret (.and (.op (.isi "int") [.v 3]) (.and (.not (.op (.isi "bool") [.v 3])) (.op .eq [.v 3, .v 2])))]⟩
/-- law : 0=_law_script 1=_law_k 2=_law_draw_here 3=_law_names_here 4=_law_ports 5=_law_turn 6=_law_found 7=_law_far 8=_law_most 9=_law_name 10=_law_number -/
def f_law : Fn := ⟨1, 11, [0],
   [.for_ .rng [.op .add [.op .min2 [.c (.int 16), .op .len [.v 0]], .c (.int 1)]] (.s 1)
      [.set 2 (.call "_law_draw" [.lend 0, .lend 1]),
       .set 3 (.call "_law_names" [.lend 2, .call "_law_next" [.lend 2, .c (.int 4)]]),
       .set 4 (.op .tuple1 [.comp [9] .seq [.v 3] (.s 9) [] (.tup [.frz 9, .op .add [.c (.int 1), .call "_law_next" [.lend 2, .c (.int 3)]]])]),
       .for_ .rng [.c (.int 2)] (.s 5)
         [.set 6 (.call "all_values" [.lend 4]),
          .ite (.or (.not (.op (.isi "list") [.v 6])) (.op .ne [.op .repr1 [.v 6], .op .repr1 [.call "_law_values" [.lend 4]]]))
            [.ret (.c (.bl false))]
            [],
          .ex (.mut .append 6 [.tup []])],
       .set 7 (.op .mul [.call "_law_next" [.lend 2, .op .pow [.c (.int 10), .c (.int 9)]], .op .ix [.lst [.c (.int 1), .op .pow [.c (.int 10), .c (.int 40)]], .call "_law_next" [.lend 2, .c (.int 2)]]]),
       .for_ .seq [.tup [.c (.int 1), .c (.int 2), .c (.int 3)]] (.s 8)
         [.ite (.not (.op .all1 [.comp [10] .seq [.tup [.op .neg [.c (.int 1)], .c (.int 0), .c (.int 1), .c (.int 2), .c (.int 3), .c (.int 4), .frz 7, .op .sub [.c (.int 0), .v 7], .frz 8, .op .add [.v 8, .c (.int 1)]]] (.s 10) [] (.call "_law_cut_right" [.lend 10, .lend 8])]))
            [.ret (.c (.bl false))]
            []]],
    .ret (.c (.bl true))]⟩
def tbl : List (Str × Fn) := [("all_values", f_all_values), ("cut", f_cut), ("_law_mixed", f__law_mixed), ("_law_draw", f__law_draw), ("_law_next", f__law_next), ("_law_names", f__law_names), ("_law_values", f__law_values), ("_law_cut_right", f__law_cut_right), ("law", f_law)]
theorem c_all_values {k : Nat} {args : List R} : callN tbl (k + 1) "all_values" args = f_all_values.run (callN tbl k) args := callN_of (by kernel_rfl)
theorem c_cut {k : Nat} {args : List R} : callN tbl (k + 1) "cut" args = f_cut.run (callN tbl k) args := callN_of (by kernel_rfl)
theorem c__law_mixed {k : Nat} {args : List R} : callN tbl (k + 1) "_law_mixed" args = f__law_mixed.run (callN tbl k) args := callN_of (by kernel_rfl)
theorem c__law_draw {k : Nat} {args : List R} : callN tbl (k + 1) "_law_draw" args = f__law_draw.run (callN tbl k) args := callN_of (by kernel_rfl)
theorem c__law_next {k : Nat} {args : List R} : callN tbl (k + 1) "_law_next" args = f__law_next.run (callN tbl k) args := callN_of (by kernel_rfl)
theorem c__law_names {k : Nat} {args : List R} : callN tbl (k + 1) "_law_names" args = f__law_names.run (callN tbl k) args := callN_of (by kernel_rfl)
theorem c__law_values {k : Nat} {args : List R} : callN tbl (k + 1) "_law_values" args = f__law_values.run (callN tbl k) args := callN_of (by kernel_rfl)
theorem c__law_cut_right {k : Nat} {args : List R} : callN tbl (k + 1) "_law_cut_right" args = f__law_cut_right.run (callN tbl k) args := callN_of (by kernel_rfl)
theorem c_law {k : Nat} {args : List R} : callN tbl (k + 1) "law" args = f_law.run (callN tbl k) args := callN_of (by kernel_rfl)
end K02
set_option Elab.async false
set_option linter.all false
set_option maxRecDepth 100000
set_option maxHeartbeats 4000000
namespace K02
open PySem PySem.Spec L2 VB
open PyProof.Rows hiding St
/-- ports: name, MOST -/
abbrev Pt := Str × Nat
def portD (p : Pt) : D := .tup [.str p.1, .int p.2]
def rowD (r : List Int) : D := .tup (r.map .int)
def stepV (acc : List (List Int)) (p : Pt) : List (List Int) := acc.flatMap fun row => (List.range (p.2 + 1)).map fun (v : Nat) => row ++ [(v : Int)]
def allV (ps : List Pt) : List (List Int) := ps.foldl stepV [[]]
def digR : List Pt → Nat → List Int → List Int
  | [], _, acc => acc
  | p :: ps, n, acc => digR ps (n / (p.2 + 1)) (((n % (p.2 + 1) : Nat) : Int) :: acc)
def prodR : List Pt → Nat
  | [] => 1
  | p :: ps => prodR ps * (p.2 + 1)
theorem digR_acc : ∀ (ps : List Pt) (n : Nat) (acc : List Int), digR ps n acc = digR ps n [] ++ acc
  | [], _, acc => rfl
  | p :: ps, n, acc => by
    show digR ps _ _ = digR ps _ _ ++ acc
    rw [digR_acc ps _ (_ :: acc), digR_acc ps _ [_], List.append_assoc]; rfl
theorem range_mul (m : Nat) : ∀ P : Nat, List.range (P * m) = (List.range P).flatMap fun q => (List.range m).map fun r => q * m + r
  | 0 => by simp
  | P + 1 => by
    rw [Nat.succ_mul, List.range_add, range_mul m P, List.range_succ, List.flatMap_append]
    simp
theorem allV_rev : ∀ ps : List Pt, (List.range (prodR ps)).map (fun n => digR ps n []) = allV ps.reverse
  | [] => rfl
  | p :: ps => by
    have ih := allV_rev ps
    have e : allV (p :: ps).reverse = stepV (allV ps.reverse) p := by
      unfold allV
      rw [List.reverse_cons, List.foldl_append]; rfl
    rw [e, ← ih]
    unfold stepV
    rw [show prodR (p :: ps) = prodR ps * (p.2 + 1) from rfl, range_mul, List.map_flatMap, List.flatMap_map]
    refine congrArg (fun f => List.flatMap f (List.range (prodR ps))) (funext fun q => ?_)
    rw [List.map_map]
    refine List.map_congr_left fun r hr => ?_
    rw [List.mem_range] at hr
    show digR ps ((q * (p.2 + 1) + r) / (p.2 + 1)) [(((q * (p.2 + 1) + r) % (p.2 + 1) : Nat) : Int)] = digR ps q [] ++ [(r : Int)]
    have e1 : (q * (p.2 + 1) + r) / (p.2 + 1) = q := by
      rw [Nat.add_comm, Nat.add_mul_div_right _ _ (by omega), Nat.div_eq_of_lt hr, Nat.zero_add]
    have e2 : (q * (p.2 + 1) + r) % (p.2 + 1) = r := by
      rw [Nat.add_comm, Nat.add_mul_mod_self_right, Nat.mod_eq_of_lt hr]
    rw [e1, e2, digR_acc]
theorem lawV_eq (ps : List Pt) : (List.range (prodR ps.reverse)).map (fun n => digR ps.reverse n []) = allV ps := by
  rw [allV_rev, List.reverse_reverse]
def okP (ps : List Pt) : Prop := ps.length ≤ 3 ∧ ∀ p ∈ ps, p.2 ≤ 3
theorem stepV_len {acc : List (List Int)} {p : Pt} : (stepV acc p).length = acc.length * (p.2 + 1) := by
  unfold stepV
  induction acc with
  | nil => simp
  | cons a acc ih => rw [List.flatMap_cons, List.length_append, ih, List.length_map, List.length_range, List.length_cons, Nat.add_mul, Nat.one_mul, Nat.add_comm]
theorem allV_len : ∀ (ps : List Pt) (acc : List (List Int)), (∀ p ∈ ps, p.2 ≤ 3) → (ps.foldl stepV acc).length ≤ acc.length * 4 ^ ps.length
  | [], acc, _ => by simp
  | p :: ps, acc, h => by
    rw [List.foldl_cons]
    refine Nat.le_trans (allV_len ps _ fun q hq => h q (List.mem_cons_of_mem _ hq)) ?_
    rw [stepV_len, List.length_cons, Nat.pow_succ, Nat.mul_comm (4 ^ ps.length) 4, ← Nat.mul_assoc]
    exact Nat.mul_le_mul_right _ (Nat.mul_le_mul_left _ (by have := h p List.mem_cons_self; omega))
theorem allV_le {ps : List Pt} (h : okP ps) : (allV ps).length ≤ 64 := by
  have := allV_len ps [[]] h.2
  refine Nat.le_trans this ?_
  rw [List.length_singleton, Nat.one_mul]
  exact Nat.pow_le_pow_right (by omega) h.1
theorem stepV_row {acc : List (List Int)} {p : Pt} {n : Nat} (h : ∀ r ∈ acc, r.length = n) : ∀ r ∈ stepV acc p, r.length = n + 1 := by
  intro r hr
  unfold stepV at hr
  obtain ⟨row, h1, h2⟩ := List.mem_flatMap.mp hr
  obtain ⟨v, _, rfl⟩ := List.mem_map.mp h2
  rw [List.length_append, h row h1]; rfl
theorem allV_row : ∀ (ps : List Pt) (acc : List (List Int)) (n : Nat), (∀ r ∈ acc, r.length = n) → ∀ r ∈ ps.foldl stepV acc, r.length = n + ps.length
  | [], acc, n, h => h
  | p :: ps, acc, n, h => by
    intro r hr
    rw [List.foldl_cons] at hr
    rw [allV_row ps _ (n + 1) (stepV_row h) r hr, List.length_cons]
    omega
theorem filt {l : List D} : l.filter (fun _ => true) = l := List.filter_eq_self.mpr fun _ _ => rfl
theorem rng_map {n : Nat} {β : Type} (f : D → β) : (rangeD 0 n).map f = (List.range n).map fun (v : Nat) => f (.int v) := by
  unfold rangeD
  rw [List.map_map]
  refine List.map_congr_left fun v _ => ?_
  show f (.int (0 + v)) = _
  rw [Int.zero_add]
section
variable {cl : Cl}
theorem run_cut {n m : Int} : f_cut.run cl [.p (.int n), .p (.int m)] = .ok (.p (.int (if (if m < n then m else n) > 0 then (if m < n then m else n) else 0))) [some (.p (.int n)), some (.p (.int m))] := by
  refine run_eq ?_
  rw [z_wc_run]
  refine ⟨rfl, rfl, ?_⟩
  simp only [f_cut, List.replicate, List.append, z_RX_ok, z_RX_stuck, z_CW_ok, z_we_c, z_we_tup, z_we_lst, z_we_dic, z_q_call, z_we_nil, z_we_cons, z_wt_nil, z_ws_nil, z_ws_cons, z_ws_set, z_ws_setP, z_ws_par, z_ws_ex, z_ws_ret, z_ws_retN, z_ws_brk, z_ws_cont, z_ws_pass, z_ws_aug, z_OB_some, z_OB_none, z_OB_if, z_OB_ifi, z_OB_map, z_OB_bind, z_TB_val, z_PB_p, z_q_vo, z_q_ve, z_q_va, z_q_mov, z_q_frz, z_q_lend, z_q_op, z_q_and, z_q_or, z_q_not, z_q_ite, z_q_chain, z_q_mut, z_q_comp, z_qt_one, z_qs_ite, z_qs_store,
    o_add, o_addL, o_sub, o_mul, o_fdiv, o_mod, o_lt, o_le, o_gt, o_ge, o_isN, o_notN, o_neg, o_lenL, o_lenT, o_lenC, o_max, o_min, o_int, o_intB, o_isiI, o_isiB, o_isiS, o_isiT, o_isiL, o_isiD, kInt, kBl, kStr, kTup, kLst, kDic, o_ixL, o_ixT, o_ixC, o_tupL, o_tupT, o_lstL, o_lstT, g_nil, g_val, g_at, v_val, v_at, r_p, r_l, gt_0, gt_s, bR_s, bR_n, ite_some_eq, ite_none_eq,
    movK, ta_nil, ta_val, ta_at, taAt_p, taAt_l, taAt_m, Val.r, Val.rd, R.pure, lentOk, MOp.keeps, isLst, D.isNon,
    List.map_cons, List.map_nil, List.length_cons, List.length_nil, List.set_cons_zero, List.set_cons_succ, Option.map_some, Option.map_none, Option.bind_some, Option.bind_none, Option.some.injEq, Val.val.injEq, R.p.injEq, D.bl.injEq, D.int.injEq, D.str.injEq, D.tup.injEq, exists_eq_left', exists_eq_left, if_true, if_false, Bool.false_eq_true, decide_eq_true_eq, true_and, and_true, reduceCtorEq, ite_true, ite_false, fr_nil, fr_cons, fp_s, fp_t, fps_nil, fps_cons, lk_nil, lk_val, lk_at, lkAt_p, lkAt_l, lkAt_m, lockE_nil, lockE_cons, unlockE_nil, unlockE_cons, lockF_eq, ip_nil, ip_cons, po_n, po_p, pi_s, pi_t, pis_nil, pis_cons, wipe_nil, wipe_cons, rest_nil, rest_cons, gb_nil, gb_val, gb_at, gb_lent, bp_s, bp_t, bps_nil, bps_cons,
    szL, mulL, mulR, divL, si_seqL, si_seqT, si_seqS, si_rng1, si_rng2, sl_l, sl_t, sl_s, o_slA, o_slB, o_slAB, o_revL, o_revT, o_repr, o_addTT, o_mulS, m_app, m_ext, st_l, QC_e, z_qs_for, o_addS, o_lenS, o_ixS, iI_int, iB_int, iS_int, iT_int, iL_int, iN_int, iD_int, iI_bool, iB_bool, iS_bool, iT_bool, iL_bool, iN_bool, iD_bool, iI_str, iB_str, iS_str, iT_str, iL_str, iN_str, iD_str, iI_tuple, iB_tuple, iS_tuple, iT_tuple, iL_tuple, iN_tuple, iD_tuple, iI_list, iB_list, iS_list, iT_list, iL_list, iN_list, iD_list, iI_dict, iB_dict, iS_dict, iT_dict, iL_dict, iN_dict, iD_dict, out_0, out_c, o_pow10, o_eq, o_ne, deq_int, deq_str, eq_bl,
    Nat.reduceAdd, Nat.reduceSub, Nat.reduceMul, Nat.reduceLT, Nat.reduceLeDiff, Nat.reduceBEq, Nat.reduceEqDiff, Int.reduceAdd, Int.reduceSub, Int.reduceMul, Int.reduceNeg, Int.reduceLT, Int.reduceLE, Int.reduceEq, Int.reduceNe, Int.reducePow, Int.reduceToNat, Nat.reducePow, ne_eq, not_true_eq_false, not_false_eq_true, and_self, Bool.not_false, Bool.not_true, Bool.true_and, Bool.and_true, Bool.false_and, Bool.and_false, List.contains_cons, List.contains_nil, beq_self_eq_true, Bool.true_or, Bool.or_true, Bool.or_false, Bool.false_or, List.cons_append, List.nil_append]
theorem run_cut_right (h : ∀ {n m : Int}, cl "cut" [.p (.int n), .p (.int m)] = .ok (.p (.int (if (if m < n then m else n) > 0 then (if m < n then m else n) else 0))) [some (.p (.int n)), some (.p (.int m))]) {n m : Int} (h0 : 0 < m) :
    f__law_cut_right.run cl [.p (.int n), .p (.int m)] = .ok (.p (.bl true)) [some (.p (.int n)), some (.p (.int m))] := by
  refine run_eq ?_
  rw [z_wc_run]
  refine ⟨rfl, rfl, ?_⟩
  simp only [f__law_cut_right, List.replicate, List.append, h, z_RX_ok, z_RX_stuck, z_CW_ok, z_we_c, z_we_tup, z_we_lst, z_we_dic, z_q_call, z_we_nil, z_we_cons, z_wt_nil, z_ws_nil, z_ws_cons, z_ws_set, z_ws_setP, z_ws_par, z_ws_ex, z_ws_ret, z_ws_retN, z_ws_brk, z_ws_cont, z_ws_pass, z_ws_aug, z_OB_some, z_OB_none, z_OB_if, z_OB_ifi, z_OB_map, z_OB_bind, z_TB_val, z_PB_p, z_q_vo, z_q_ve, z_q_va, z_q_mov, z_q_frz, z_q_lend, z_q_op, z_q_and, z_q_or, z_q_not, z_q_ite, z_q_chain, z_q_mut, z_q_comp, z_qt_one, z_qs_ite, z_qs_store,
    o_add, o_addL, o_sub, o_mul, o_fdiv, o_mod, o_lt, o_le, o_gt, o_ge, o_isN, o_notN, o_neg, o_lenL, o_lenT, o_lenC, o_max, o_min, o_int, o_intB, o_isiI, o_isiB, o_isiS, o_isiT, o_isiL, o_isiD, kInt, kBl, kStr, kTup, kLst, kDic, o_ixL, o_ixT, o_ixC, o_tupL, o_tupT, o_lstL, o_lstT, g_nil, g_val, g_at, v_val, v_at, r_p, r_l, gt_0, gt_s, bR_s, bR_n, ite_some_eq, ite_none_eq,
    movK, ta_nil, ta_val, ta_at, taAt_p, taAt_l, taAt_m, Val.r, Val.rd, R.pure, lentOk, MOp.keeps, isLst, D.isNon,
    List.map_cons, List.map_nil, List.length_cons, List.length_nil, List.set_cons_zero, List.set_cons_succ, Option.map_some, Option.map_none, Option.bind_some, Option.bind_none, Option.some.injEq, Val.val.injEq, R.p.injEq, D.bl.injEq, D.int.injEq, D.str.injEq, D.tup.injEq, exists_eq_left', exists_eq_left, if_true, if_false, Bool.false_eq_true, decide_eq_true_eq, true_and, and_true, reduceCtorEq, ite_true, ite_false, fr_nil, fr_cons, fp_s, fp_t, fps_nil, fps_cons, lk_nil, lk_val, lk_at, lkAt_p, lkAt_l, lkAt_m, lockE_nil, lockE_cons, unlockE_nil, unlockE_cons, lockF_eq, ip_nil, ip_cons, po_n, po_p, pi_s, pi_t, pis_nil, pis_cons, wipe_nil, wipe_cons, rest_nil, rest_cons, gb_nil, gb_val, gb_at, gb_lent, bp_s, bp_t, bps_nil, bps_cons,
    szL, mulL, mulR, divL, si_seqL, si_seqT, si_seqS, si_rng1, si_rng2, sl_l, sl_t, sl_s, o_slA, o_slB, o_slAB, o_revL, o_revT, o_repr, o_addTT, o_mulS, m_app, m_ext, st_l, QC_e, z_qs_for, o_addS, o_lenS, o_ixS, iI_int, iB_int, iS_int, iT_int, iL_int, iN_int, iD_int, iI_bool, iB_bool, iS_bool, iT_bool, iL_bool, iN_bool, iD_bool, iI_str, iB_str, iS_str, iT_str, iL_str, iN_str, iD_str, iI_tuple, iB_tuple, iS_tuple, iT_tuple, iL_tuple, iN_tuple, iD_tuple, iI_list, iB_list, iS_list, iT_list, iL_list, iN_list, iD_list, iI_dict, iB_dict, iS_dict, iT_dict, iL_dict, iN_dict, iD_dict, out_0, out_c, o_pow10, o_eq, o_ne, deq_int, deq_str, eq_bl,
    Nat.reduceAdd, Nat.reduceSub, Nat.reduceMul, Nat.reduceLT, Nat.reduceLeDiff, Nat.reduceBEq, Nat.reduceEqDiff, Int.reduceAdd, Int.reduceSub, Int.reduceMul, Int.reduceNeg, Int.reduceLT, Int.reduceLE, Int.reduceEq, Int.reduceNe, Int.reducePow, Int.reduceToNat, Nat.reducePow, ne_eq, not_true_eq_false, not_false_eq_true, and_self, Bool.not_false, Bool.not_true, Bool.true_and, Bool.and_true, Bool.false_and, Bool.and_false, List.contains_cons, List.contains_nil, beq_self_eq_true, Bool.true_or, Bool.or_true, Bool.or_false, Bool.false_or, List.cons_append, List.nil_append]
  split <;> (try split) <;> (try split) <;> (try split) <;> omega
theorem run_all (ps : List Pt) (hp : okP ps) : f_all_values.run cl [.p (.tup (ps.map portD))] = .ok (.l ((allV ps).map rowD)) [some (.p (.tup (ps.map portD)))] := by
  refine run_eq ?_
  rw [z_wc_run]
  refine ⟨rfl, rfl, ?_⟩
  simp only [f_all_values, List.replicate, List.append, List.cons_append, List.nil_append, Nat.reduceSub, List.map_cons, List.map_nil]
  refine QS_cut (fun ρ => ρ = [some (.p (.tup (ps.map portD))), some (.l [rowD []]), none, none, none, none, none]) ?_ ?_
  · simp only [z_RX_ok, z_RX_stuck, z_CW_ok, z_we_c, z_we_tup, z_we_lst, z_we_dic, z_q_call, z_we_nil, z_we_cons, z_wt_nil, z_ws_nil, z_ws_cons, z_ws_set, z_ws_setP, z_ws_par, z_ws_ex, z_ws_ret, z_ws_retN, z_ws_brk, z_ws_cont, z_ws_pass, z_ws_aug, z_OB_some, z_OB_none, z_OB_if, z_OB_ifi, z_OB_map, z_OB_bind, z_TB_val, z_PB_p, z_q_vo, z_q_ve, z_q_va, z_q_mov, z_q_frz, z_q_lend, z_q_op, z_q_and, z_q_or, z_q_not, z_q_ite, z_q_chain, z_q_mut, z_q_comp, z_qt_one, z_qs_ite, z_qs_store,
    o_add, o_addL, o_sub, o_mul, o_fdiv, o_mod, o_lt, o_le, o_gt, o_ge, o_isN, o_notN, o_neg, o_lenL, o_lenT, o_lenC, o_max, o_min, o_int, o_intB, o_isiI, o_isiB, o_isiS, o_isiT, o_isiL, o_isiD, kInt, kBl, kStr, kTup, kLst, kDic, o_ixL, o_ixT, o_ixC, o_tupL, o_tupT, o_lstL, o_lstT, g_nil, g_val, g_at, v_val, v_at, r_p, r_l, gt_0, gt_s, bR_s, bR_n, ite_some_eq, ite_none_eq,
    movK, ta_nil, ta_val, ta_at, taAt_p, taAt_l, taAt_m, Val.r, Val.rd, R.pure, lentOk, MOp.keeps, isLst, D.isNon,
    List.map_cons, List.map_nil, List.length_cons, List.length_nil, List.set_cons_zero, List.set_cons_succ, Option.map_some, Option.map_none, Option.bind_some, Option.bind_none, Option.some.injEq, Val.val.injEq, R.p.injEq, D.bl.injEq, D.int.injEq, D.str.injEq, D.tup.injEq, exists_eq_left', exists_eq_left, if_true, if_false, Bool.false_eq_true, decide_eq_true_eq, true_and, and_true, reduceCtorEq, ite_true, ite_false, fr_nil, fr_cons, fp_s, fp_t, fps_nil, fps_cons, lk_nil, lk_val, lk_at, lkAt_p, lkAt_l, lkAt_m, lockE_nil, lockE_cons, unlockE_nil, unlockE_cons, lockF_eq, ip_nil, ip_cons, po_n, po_p, pi_s, pi_t, pis_nil, pis_cons, wipe_nil, wipe_cons, rest_nil, rest_cons, gb_nil, gb_val, gb_at, gb_lent, bp_s, bp_t, bps_nil, bps_cons,
    szL, mulL, mulR, divL, si_seqL, si_seqT, si_seqS, si_rng1, si_rng2, sl_l, sl_t, sl_s, o_slA, o_slB, o_slAB, o_revL, o_revT, o_repr, o_addTT, o_mulS, m_app, m_ext, st_l, QC_e, z_qs_for, o_addS, o_lenS, o_ixS, iI_int, iB_int, iS_int, iT_int, iL_int, iN_int, iD_int, iI_bool, iB_bool, iS_bool, iT_bool, iL_bool, iN_bool, iD_bool, iI_str, iB_str, iS_str, iT_str, iL_str, iN_str, iD_str, iI_tuple, iB_tuple, iS_tuple, iT_tuple, iL_tuple, iN_tuple, iD_tuple, iI_list, iB_list, iS_list, iT_list, iL_list, iN_list, iD_list, iI_dict, iB_dict, iS_dict, iT_dict, iL_dict, iN_dict, iD_dict, out_0, out_c, o_pow10, o_eq, o_ne, deq_int, deq_str, eq_bl,
    Nat.reduceAdd, Nat.reduceSub, Nat.reduceMul, Nat.reduceLT, Nat.reduceLeDiff, Nat.reduceBEq, Nat.reduceEqDiff, Int.reduceAdd, Int.reduceSub, Int.reduceMul, Int.reduceNeg, Int.reduceLT, Int.reduceLE, Int.reduceEq, Int.reduceNe, Int.reducePow, Int.reduceToNat, Nat.reducePow, ne_eq, not_true_eq_false, not_false_eq_true, and_self, Bool.not_false, Bool.not_true, Bool.true_and, Bool.and_true, Bool.false_and, Bool.and_false, List.contains_cons, List.contains_nil, beq_self_eq_true, Bool.true_or, Bool.or_true, Bool.or_false, Bool.false_or, List.cons_append, List.nil_append]
    rfl
  rintro _ rfl
  refine QS_cut (fun ρ => ∃ t2 t3 t4 t5 t6, ρ = [some (.p (.tup (ps.map portD))), some (.l ((allV ps).map rowD)), t2, t3, t4, t5, t6]) ?_ ?_
  · simp only [z_RX_ok, z_RX_stuck, z_CW_ok, z_we_c, z_we_tup, z_we_lst, z_we_dic, z_q_call, z_we_nil, z_we_cons, z_wt_nil, z_ws_nil, z_ws_cons, z_ws_set, z_ws_setP, z_ws_par, z_ws_ex, z_ws_ret, z_ws_retN, z_ws_brk, z_ws_cont, z_ws_pass, z_ws_aug, z_OB_some, z_OB_none, z_OB_if, z_OB_ifi, z_OB_map, z_OB_bind, z_TB_val, z_PB_p, z_q_vo, z_q_ve, z_q_va, z_q_mov, z_q_frz, z_q_lend, z_q_op, z_q_and, z_q_or, z_q_not, z_q_ite, z_q_chain, z_q_mut, z_q_comp, z_qt_one, z_qs_ite, z_qs_store,
    o_add, o_addL, o_sub, o_mul, o_fdiv, o_mod, o_lt, o_le, o_gt, o_ge, o_isN, o_notN, o_neg, o_lenL, o_lenT, o_lenC, o_max, o_min, o_int, o_intB, o_isiI, o_isiB, o_isiS, o_isiT, o_isiL, o_isiD, kInt, kBl, kStr, kTup, kLst, kDic, o_ixL, o_ixT, o_ixC, o_tupL, o_tupT, o_lstL, o_lstT, g_nil, g_val, g_at, v_val, v_at, r_p, r_l, gt_0, gt_s, bR_s, bR_n, ite_some_eq, ite_none_eq,
    movK, ta_nil, ta_val, ta_at, taAt_p, taAt_l, taAt_m, Val.r, Val.rd, R.pure, lentOk, MOp.keeps, isLst, D.isNon,
    List.map_cons, List.map_nil, List.length_cons, List.length_nil, List.set_cons_zero, List.set_cons_succ, Option.map_some, Option.map_none, Option.bind_some, Option.bind_none, Option.some.injEq, Val.val.injEq, R.p.injEq, D.bl.injEq, D.int.injEq, D.str.injEq, D.tup.injEq, exists_eq_left', exists_eq_left, if_true, if_false, Bool.false_eq_true, decide_eq_true_eq, true_and, and_true, reduceCtorEq, ite_true, ite_false, fr_nil, fr_cons, fp_s, fp_t, fps_nil, fps_cons, lk_nil, lk_val, lk_at, lkAt_p, lkAt_l, lkAt_m, lockE_nil, lockE_cons, unlockE_nil, unlockE_cons, lockF_eq, ip_nil, ip_cons, po_n, po_p, pi_s, pi_t, pis_nil, pis_cons, wipe_nil, wipe_cons, rest_nil, rest_cons, gb_nil, gb_val, gb_at, gb_lent, bp_s, bp_t, bps_nil, bps_cons,
    szL, mulL, mulR, divL, si_seqL, si_seqT, si_seqS, si_rng1, si_rng2, sl_l, sl_t, sl_s, o_slA, o_slB, o_slAB, o_revL, o_revT, o_repr, o_addTT, o_mulS, m_app, m_ext, st_l, QC_e, z_qs_for, o_addS, o_lenS, o_ixS, iI_int, iB_int, iS_int, iT_int, iL_int, iN_int, iD_int, iI_bool, iB_bool, iS_bool, iT_bool, iL_bool, iN_bool, iD_bool, iI_str, iB_str, iS_str, iT_str, iL_str, iN_str, iD_str, iI_tuple, iB_tuple, iS_tuple, iT_tuple, iL_tuple, iN_tuple, iD_tuple, iI_list, iB_list, iS_list, iT_list, iL_list, iN_list, iD_list, iI_dict, iB_dict, iS_dict, iT_dict, iL_dict, iN_dict, iD_dict, out_0, out_c, o_pow10, o_eq, o_ne, deq_int, deq_str, eq_bl,
    Nat.reduceAdd, Nat.reduceSub, Nat.reduceMul, Nat.reduceLT, Nat.reduceLeDiff, Nat.reduceBEq, Nat.reduceEqDiff, Int.reduceAdd, Int.reduceSub, Int.reduceMul, Int.reduceNeg, Int.reduceLT, Int.reduceLE, Int.reduceEq, Int.reduceNe, Int.reducePow, Int.reduceToNat, Nat.reducePow, ne_eq, not_true_eq_false, not_false_eq_true, and_self, Bool.not_false, Bool.not_true, Bool.true_and, Bool.and_true, Bool.false_and, Bool.and_false, List.contains_cons, List.contains_nil, beq_self_eq_true, Bool.true_or, Bool.or_true, Bool.or_false, Bool.false_or, List.cons_append, List.nil_append]
    refine QS_inv (I := fun items ρ => ∃ (dn rs : List Pt) (t2 t3 t4 t5 : Option R), ps = dn ++ rs ∧ items = rs.map portD ∧ ρ = [some (.p (.tup (ps.map portD))), some (.l ((allV dn).map rowD)), t2, t3, t4, t5, none]) ⟨[], ps, _, _, _, _, rfl, rfl, rfl⟩ ?_ ?_
    · rintro _ ⟨dn, rs, t2, t3, t4, t5, e, hi, rfl⟩
      cases rs with
      | cons _ _ => exact nomatch hi
      | nil =>
        rw [List.append_nil] at e
        subst e
        exact ⟨_, _, _, _, _, rfl⟩
    · rintro x xs _ ⟨dn, rs, t2, t3, t4, t5, e, hi, rfl⟩
      cases rs with
      | nil => exact nomatch hi
      | cons p rs =>
        cases hi
        have hq : p.2 ≤ 3 := hp.2 p (by rw [e]; simp)
        have hd : okP (dn ++ [p]) := ⟨by have := hp.1; rw [e] at this; simp at this ⊢; omega, fun q hq => hp.2 q (by rw [e]; simp at hq ⊢; rcases hq with h | h <;> simp [h])⟩
        simp only [portD, z_RX_ok, z_RX_stuck, z_CW_ok, z_we_c, z_we_tup, z_we_lst, z_we_dic, z_q_call, z_we_nil, z_we_cons, z_wt_nil, z_ws_nil, z_ws_cons, z_ws_set, z_ws_setP, z_ws_par, z_ws_ex, z_ws_ret, z_ws_retN, z_ws_brk, z_ws_cont, z_ws_pass, z_ws_aug, z_OB_some, z_OB_none, z_OB_if, z_OB_ifi, z_OB_map, z_OB_bind, z_TB_val, z_PB_p, z_q_vo, z_q_ve, z_q_va, z_q_mov, z_q_frz, z_q_lend, z_q_op, z_q_and, z_q_or, z_q_not, z_q_ite, z_q_chain, z_q_mut, z_q_comp, z_qt_one, z_qs_ite, z_qs_store,
    o_add, o_addL, o_sub, o_mul, o_fdiv, o_mod, o_lt, o_le, o_gt, o_ge, o_isN, o_notN, o_neg, o_lenL, o_lenT, o_lenC, o_max, o_min, o_int, o_intB, o_isiI, o_isiB, o_isiS, o_isiT, o_isiL, o_isiD, kInt, kBl, kStr, kTup, kLst, kDic, o_ixL, o_ixT, o_ixC, o_tupL, o_tupT, o_lstL, o_lstT, g_nil, g_val, g_at, v_val, v_at, r_p, r_l, gt_0, gt_s, bR_s, bR_n, ite_some_eq, ite_none_eq,
    movK, ta_nil, ta_val, ta_at, taAt_p, taAt_l, taAt_m, Val.r, Val.rd, R.pure, lentOk, MOp.keeps, isLst, D.isNon,
    List.map_cons, List.map_nil, List.length_cons, List.length_nil, List.set_cons_zero, List.set_cons_succ, Option.map_some, Option.map_none, Option.bind_some, Option.bind_none, Option.some.injEq, Val.val.injEq, R.p.injEq, D.bl.injEq, D.int.injEq, D.str.injEq, D.tup.injEq, exists_eq_left', exists_eq_left, if_true, if_false, Bool.false_eq_true, decide_eq_true_eq, true_and, and_true, reduceCtorEq, ite_true, ite_false, fr_nil, fr_cons, fp_s, fp_t, fps_nil, fps_cons, lk_nil, lk_val, lk_at, lkAt_p, lkAt_l, lkAt_m, lockE_nil, lockE_cons, unlockE_nil, unlockE_cons, lockF_eq, ip_nil, ip_cons, po_n, po_p, pi_s, pi_t, pis_nil, pis_cons, wipe_nil, wipe_cons, rest_nil, rest_cons, gb_nil, gb_val, gb_at, gb_lent, bp_s, bp_t, bps_nil, bps_cons,
    szL, mulL, mulR, divL, si_seqL, si_seqT, si_seqS, si_rng1, si_rng2, sl_l, sl_t, sl_s, o_slA, o_slB, o_slAB, o_revL, o_revT, o_repr, o_addTT, o_mulS, m_app, m_ext, st_l, QC_e, z_qs_for, o_addS, o_lenS, o_ixS, iI_int, iB_int, iS_int, iT_int, iL_int, iN_int, iD_int, iI_bool, iB_bool, iS_bool, iT_bool, iL_bool, iN_bool, iD_bool, iI_str, iB_str, iS_str, iT_str, iL_str, iN_str, iD_str, iI_tuple, iB_tuple, iS_tuple, iT_tuple, iL_tuple, iN_tuple, iD_tuple, iI_list, iB_list, iS_list, iT_list, iL_list, iN_list, iD_list, iI_dict, iB_dict, iS_dict, iT_dict, iL_dict, iN_dict, iD_dict, out_0, out_c, o_pow10, o_eq, o_ne, deq_int, deq_str, eq_bl,
    Nat.reduceAdd, Nat.reduceSub, Nat.reduceMul, Nat.reduceLT, Nat.reduceLeDiff, Nat.reduceBEq, Nat.reduceEqDiff, Int.reduceAdd, Int.reduceSub, Int.reduceMul, Int.reduceNeg, Int.reduceLT, Int.reduceLE, Int.reduceEq, Int.reduceNe, Int.reducePow, Int.reduceToNat, Nat.reducePow, ne_eq, not_true_eq_false, not_false_eq_true, and_self, Bool.not_false, Bool.not_true, Bool.true_and, Bool.and_true, Bool.false_and, Bool.and_false, List.contains_cons, List.contains_nil, beq_self_eq_true, Bool.true_or, Bool.or_true, Bool.or_false, Bool.false_or, List.cons_append, List.nil_append]
        refine QS_inv (I := fun items ρ => ∃ (d2 r2 : List (List Int)) (t5 : Option R), allV dn = d2 ++ r2 ∧ items = r2.map rowD ∧ ρ = [some (.p (.tup (ps.map portD))), none, some (.p (.str p.1)), some (.p (.int p.2)), some (.l ((stepV d2 p).map rowD)), t5, none]) ⟨[], allV dn, _, rfl, rfl, rfl⟩ ?_ ?_
        · rintro _ ⟨d2, r2, t5, e2, hi2, rfl⟩
          cases r2 with
          | cons _ _ => exact nomatch hi2
          | nil =>
            rw [List.append_nil] at e2
            have z : stepV d2 p = allV (dn ++ [p]) := by
              rw [← e2]
              unfold allV
              rw [List.foldl_append]; rfl
            simp only [z, z_RX_ok, z_RX_stuck, z_CW_ok, z_we_c, z_we_tup, z_we_lst, z_we_dic, z_q_call, z_we_nil, z_we_cons, z_wt_nil, z_ws_nil, z_ws_cons, z_ws_set, z_ws_setP, z_ws_par, z_ws_ex, z_ws_ret, z_ws_retN, z_ws_brk, z_ws_cont, z_ws_pass, z_ws_aug, z_OB_some, z_OB_none, z_OB_if, z_OB_ifi, z_OB_map, z_OB_bind, z_TB_val, z_PB_p, z_q_vo, z_q_ve, z_q_va, z_q_mov, z_q_frz, z_q_lend, z_q_op, z_q_and, z_q_or, z_q_not, z_q_ite, z_q_chain, z_q_mut, z_q_comp, z_qt_one, z_qs_ite, z_qs_store,
    o_add, o_addL, o_sub, o_mul, o_fdiv, o_mod, o_lt, o_le, o_gt, o_ge, o_isN, o_notN, o_neg, o_lenL, o_lenT, o_lenC, o_max, o_min, o_int, o_intB, o_isiI, o_isiB, o_isiS, o_isiT, o_isiL, o_isiD, kInt, kBl, kStr, kTup, kLst, kDic, o_ixL, o_ixT, o_ixC, o_tupL, o_tupT, o_lstL, o_lstT, g_nil, g_val, g_at, v_val, v_at, r_p, r_l, gt_0, gt_s, bR_s, bR_n, ite_some_eq, ite_none_eq,
    movK, ta_nil, ta_val, ta_at, taAt_p, taAt_l, taAt_m, Val.r, Val.rd, R.pure, lentOk, MOp.keeps, isLst, D.isNon,
    List.map_cons, List.map_nil, List.length_cons, List.length_nil, List.set_cons_zero, List.set_cons_succ, Option.map_some, Option.map_none, Option.bind_some, Option.bind_none, Option.some.injEq, Val.val.injEq, R.p.injEq, D.bl.injEq, D.int.injEq, D.str.injEq, D.tup.injEq, exists_eq_left', exists_eq_left, if_true, if_false, Bool.false_eq_true, decide_eq_true_eq, true_and, and_true, reduceCtorEq, ite_true, ite_false, fr_nil, fr_cons, fp_s, fp_t, fps_nil, fps_cons, lk_nil, lk_val, lk_at, lkAt_p, lkAt_l, lkAt_m, lockE_nil, lockE_cons, unlockE_nil, unlockE_cons, lockF_eq, ip_nil, ip_cons, po_n, po_p, pi_s, pi_t, pis_nil, pis_cons, wipe_nil, wipe_cons, rest_nil, rest_cons, gb_nil, gb_val, gb_at, gb_lent, bp_s, bp_t, bps_nil, bps_cons,
    szL, mulL, mulR, divL, si_seqL, si_seqT, si_seqS, si_rng1, si_rng2, sl_l, sl_t, sl_s, o_slA, o_slB, o_slAB, o_revL, o_revT, o_repr, o_addTT, o_mulS, m_app, m_ext, st_l, QC_e, z_qs_for, o_addS, o_lenS, o_ixS, iI_int, iB_int, iS_int, iT_int, iL_int, iN_int, iD_int, iI_bool, iB_bool, iS_bool, iT_bool, iL_bool, iN_bool, iD_bool, iI_str, iB_str, iS_str, iT_str, iL_str, iN_str, iD_str, iI_tuple, iB_tuple, iS_tuple, iT_tuple, iL_tuple, iN_tuple, iD_tuple, iI_list, iB_list, iS_list, iT_list, iL_list, iN_list, iD_list, iI_dict, iB_dict, iS_dict, iT_dict, iL_dict, iN_dict, iD_dict, out_0, out_c, o_pow10, o_eq, o_ne, deq_int, deq_str, eq_bl,
    Nat.reduceAdd, Nat.reduceSub, Nat.reduceMul, Nat.reduceLT, Nat.reduceLeDiff, Nat.reduceBEq, Nat.reduceEqDiff, Int.reduceAdd, Int.reduceSub, Int.reduceMul, Int.reduceNeg, Int.reduceLT, Int.reduceLE, Int.reduceEq, Int.reduceNe, Int.reducePow, Int.reduceToNat, Nat.reducePow, ne_eq, not_true_eq_false, not_false_eq_true, and_self, Bool.not_false, Bool.not_true, Bool.true_and, Bool.and_true, Bool.false_and, Bool.and_false, List.contains_cons, List.contains_nil, beq_self_eq_true, Bool.true_or, Bool.or_true, Bool.or_false, Bool.false_or, List.cons_append, List.nil_append]
            exact ⟨dn ++ [p], rs, _, _, _, _, by rw [e]; simp, rfl, rfl⟩
        · rintro x xs _ ⟨d2, r2, t5, e2, hi2, rfl⟩
          cases r2 with
          | nil => exact nomatch hi2
          | cons row r2 =>
            cases hi2
            have hl : (row.map D.int).length + 1 ≤ sizeLine := by
              have := allV_row dn [[]] 0 (by simp) row (by show row ∈ allV dn; rw [e2]; simp)
              have h3 := hp.1
              rw [e] at h3
              rw [List.length_map]
              exact Nat.le_trans (m := 100) (by simp at h3; omega) (by decide)
            have h1 : -4611686018427387904 ≤ (p.2 : Int) + 1 := by omega
            have h2 : (p.2 : Int) + 1 < 4611686018427387904 := by omega
            simp only [rowD, h1, h2, z_RX_ok, z_RX_stuck, z_CW_ok, z_we_c, z_we_tup, z_we_lst, z_we_dic, z_q_call, z_we_nil, z_we_cons, z_wt_nil, z_ws_nil, z_ws_cons, z_ws_set, z_ws_setP, z_ws_par, z_ws_ex, z_ws_ret, z_ws_retN, z_ws_brk, z_ws_cont, z_ws_pass, z_ws_aug, z_OB_some, z_OB_none, z_OB_if, z_OB_ifi, z_OB_map, z_OB_bind, z_TB_val, z_PB_p, z_q_vo, z_q_ve, z_q_va, z_q_mov, z_q_frz, z_q_lend, z_q_op, z_q_and, z_q_or, z_q_not, z_q_ite, z_q_chain, z_q_mut, z_q_comp, z_qt_one, z_qs_ite, z_qs_store,
    o_add, o_addL, o_sub, o_mul, o_fdiv, o_mod, o_lt, o_le, o_gt, o_ge, o_isN, o_notN, o_neg, o_lenL, o_lenT, o_lenC, o_max, o_min, o_int, o_intB, o_isiI, o_isiB, o_isiS, o_isiT, o_isiL, o_isiD, kInt, kBl, kStr, kTup, kLst, kDic, o_ixL, o_ixT, o_ixC, o_tupL, o_tupT, o_lstL, o_lstT, g_nil, g_val, g_at, v_val, v_at, r_p, r_l, gt_0, gt_s, bR_s, bR_n, ite_some_eq, ite_none_eq,
    movK, ta_nil, ta_val, ta_at, taAt_p, taAt_l, taAt_m, Val.r, Val.rd, R.pure, lentOk, MOp.keeps, isLst, D.isNon,
    List.map_cons, List.map_nil, List.length_cons, List.length_nil, List.set_cons_zero, List.set_cons_succ, Option.map_some, Option.map_none, Option.bind_some, Option.bind_none, Option.some.injEq, Val.val.injEq, R.p.injEq, D.bl.injEq, D.int.injEq, D.str.injEq, D.tup.injEq, exists_eq_left', exists_eq_left, if_true, if_false, Bool.false_eq_true, decide_eq_true_eq, true_and, and_true, reduceCtorEq, ite_true, ite_false, fr_nil, fr_cons, fp_s, fp_t, fps_nil, fps_cons, lk_nil, lk_val, lk_at, lkAt_p, lkAt_l, lkAt_m, lockE_nil, lockE_cons, unlockE_nil, unlockE_cons, lockF_eq, ip_nil, ip_cons, po_n, po_p, pi_s, pi_t, pis_nil, pis_cons, wipe_nil, wipe_cons, rest_nil, rest_cons, gb_nil, gb_val, gb_at, gb_lent, bp_s, bp_t, bps_nil, bps_cons,
    szL, mulL, mulR, divL, si_seqL, si_seqT, si_seqS, si_rng1, si_rng2, sl_l, sl_t, sl_s, o_slA, o_slB, o_slAB, o_revL, o_revT, o_repr, o_addTT, o_mulS, m_app, m_ext, st_l, QC_e, z_qs_for, o_addS, o_lenS, o_ixS, iI_int, iB_int, iS_int, iT_int, iL_int, iN_int, iD_int, iI_bool, iB_bool, iS_bool, iT_bool, iL_bool, iN_bool, iD_bool, iI_str, iB_str, iS_str, iT_str, iL_str, iN_str, iD_str, iI_tuple, iB_tuple, iS_tuple, iT_tuple, iL_tuple, iN_tuple, iD_tuple, iI_list, iB_list, iS_list, iT_list, iL_list, iN_list, iD_list, iI_dict, iB_dict, iS_dict, iT_dict, iL_dict, iN_dict, iD_dict, out_0, out_c, o_pow10, o_eq, o_ne, deq_int, deq_str, eq_bl,
    Nat.reduceAdd, Nat.reduceSub, Nat.reduceMul, Nat.reduceLT, Nat.reduceLeDiff, Nat.reduceBEq, Nat.reduceEqDiff, Int.reduceAdd, Int.reduceSub, Int.reduceMul, Int.reduceNeg, Int.reduceLT, Int.reduceLE, Int.reduceEq, Int.reduceNe, Int.reducePow, Int.reduceToNat, Nat.reducePow, ne_eq, not_true_eq_false, not_false_eq_true, and_self, Bool.not_false, Bool.not_true, Bool.true_and, Bool.and_true, Bool.false_and, Bool.and_false, List.contains_cons, List.contains_nil, beq_self_eq_true, Bool.true_or, Bool.or_true, Bool.or_false, Bool.false_or, List.cons_append, List.nil_append]
            refine QX_comp (cl := cl) (i := 6) (fun _ => true) (fun x => .tup (row.map .int ++ [x])) (ρ := [some (.p (.tup (ps.map portD))), none, some (.p (.str p.1)), some (.p (.int p.2)), some (.l ((stepV d2 p).map rowD)), some (.p (.tup (row.map .int))), none]) rfl ?_ ?_ ?_ none
            · intro x _
              simp only [z_RX_ok, z_RX_stuck, z_CW_ok, z_we_c, z_we_tup, z_we_lst, z_we_dic, z_q_call, z_we_nil, z_we_cons, z_wt_nil, z_ws_nil, z_ws_cons, z_ws_set, z_ws_setP, z_ws_par, z_ws_ex, z_ws_ret, z_ws_retN, z_ws_brk, z_ws_cont, z_ws_pass, z_ws_aug, z_OB_some, z_OB_none, z_OB_if, z_OB_ifi, z_OB_map, z_OB_bind, z_TB_val, z_PB_p, z_q_vo, z_q_ve, z_q_va, z_q_mov, z_q_frz, z_q_lend, z_q_op, z_q_and, z_q_or, z_q_not, z_q_ite, z_q_chain, z_q_mut, z_q_comp, z_qt_one, z_qs_ite, z_qs_store,
    o_add, o_addL, o_sub, o_mul, o_fdiv, o_mod, o_lt, o_le, o_gt, o_ge, o_isN, o_notN, o_neg, o_lenL, o_lenT, o_lenC, o_max, o_min, o_int, o_intB, o_isiI, o_isiB, o_isiS, o_isiT, o_isiL, o_isiD, kInt, kBl, kStr, kTup, kLst, kDic, o_ixL, o_ixT, o_ixC, o_tupL, o_tupT, o_lstL, o_lstT, g_nil, g_val, g_at, v_val, v_at, r_p, r_l, gt_0, gt_s, bR_s, bR_n, ite_some_eq, ite_none_eq,
    movK, ta_nil, ta_val, ta_at, taAt_p, taAt_l, taAt_m, Val.r, Val.rd, R.pure, lentOk, MOp.keeps, isLst, D.isNon,
    List.map_cons, List.map_nil, List.length_cons, List.length_nil, List.set_cons_zero, List.set_cons_succ, Option.map_some, Option.map_none, Option.bind_some, Option.bind_none, Option.some.injEq, Val.val.injEq, R.p.injEq, D.bl.injEq, D.int.injEq, D.str.injEq, D.tup.injEq, exists_eq_left', exists_eq_left, if_true, if_false, Bool.false_eq_true, decide_eq_true_eq, true_and, and_true, reduceCtorEq, ite_true, ite_false, fr_nil, fr_cons, fp_s, fp_t, fps_nil, fps_cons, lk_nil, lk_val, lk_at, lkAt_p, lkAt_l, lkAt_m, lockE_nil, lockE_cons, unlockE_nil, unlockE_cons, lockF_eq, ip_nil, ip_cons, po_n, po_p, pi_s, pi_t, pis_nil, pis_cons, wipe_nil, wipe_cons, rest_nil, rest_cons, gb_nil, gb_val, gb_at, gb_lent, bp_s, bp_t, bps_nil, bps_cons,
    szL, mulL, mulR, divL, si_seqL, si_seqT, si_seqS, si_rng1, si_rng2, sl_l, sl_t, sl_s, o_slA, o_slB, o_slAB, o_revL, o_revT, o_repr, o_addTT, o_mulS, m_app, m_ext, st_l, QC_e, z_qs_for, o_addS, o_lenS, o_ixS, iI_int, iB_int, iS_int, iT_int, iL_int, iN_int, iD_int, iI_bool, iB_bool, iS_bool, iT_bool, iL_bool, iN_bool, iD_bool, iI_str, iB_str, iS_str, iT_str, iL_str, iN_str, iD_str, iI_tuple, iB_tuple, iS_tuple, iT_tuple, iL_tuple, iN_tuple, iD_tuple, iI_list, iB_list, iS_list, iT_list, iL_list, iN_list, iD_list, iI_dict, iB_dict, iS_dict, iT_dict, iL_dict, iN_dict, iD_dict, out_0, out_c, o_pow10, o_eq, o_ne, deq_int, deq_str, eq_bl,
    Nat.reduceAdd, Nat.reduceSub, Nat.reduceMul, Nat.reduceLT, Nat.reduceLeDiff, Nat.reduceBEq, Nat.reduceEqDiff, Int.reduceAdd, Int.reduceSub, Int.reduceMul, Int.reduceNeg, Int.reduceLT, Int.reduceLE, Int.reduceEq, Int.reduceNe, Int.reducePow, Int.reduceToNat, Nat.reducePow, ne_eq, not_true_eq_false, not_false_eq_true, and_self, Bool.not_false, Bool.not_true, Bool.true_and, Bool.and_true, Bool.false_and, Bool.and_false, List.contains_cons, List.contains_nil, beq_self_eq_true, Bool.true_or, Bool.or_true, Bool.or_false, Bool.false_or, List.cons_append, List.nil_append]
            · intro x hx _
              simp only [hl, z_RX_ok, z_RX_stuck, z_CW_ok, z_we_c, z_we_tup, z_we_lst, z_we_dic, z_q_call, z_we_nil, z_we_cons, z_wt_nil, z_ws_nil, z_ws_cons, z_ws_set, z_ws_setP, z_ws_par, z_ws_ex, z_ws_ret, z_ws_retN, z_ws_brk, z_ws_cont, z_ws_pass, z_ws_aug, z_OB_some, z_OB_none, z_OB_if, z_OB_ifi, z_OB_map, z_OB_bind, z_TB_val, z_PB_p, z_q_vo, z_q_ve, z_q_va, z_q_mov, z_q_frz, z_q_lend, z_q_op, z_q_and, z_q_or, z_q_not, z_q_ite, z_q_chain, z_q_mut, z_q_comp, z_qt_one, z_qs_ite, z_qs_store,
    o_add, o_addL, o_sub, o_mul, o_fdiv, o_mod, o_lt, o_le, o_gt, o_ge, o_isN, o_notN, o_neg, o_lenL, o_lenT, o_lenC, o_max, o_min, o_int, o_intB, o_isiI, o_isiB, o_isiS, o_isiT, o_isiL, o_isiD, kInt, kBl, kStr, kTup, kLst, kDic, o_ixL, o_ixT, o_ixC, o_tupL, o_tupT, o_lstL, o_lstT, g_nil, g_val, g_at, v_val, v_at, r_p, r_l, gt_0, gt_s, bR_s, bR_n, ite_some_eq, ite_none_eq,
    movK, ta_nil, ta_val, ta_at, taAt_p, taAt_l, taAt_m, Val.r, Val.rd, R.pure, lentOk, MOp.keeps, isLst, D.isNon,
    List.map_cons, List.map_nil, List.length_cons, List.length_nil, List.set_cons_zero, List.set_cons_succ, Option.map_some, Option.map_none, Option.bind_some, Option.bind_none, Option.some.injEq, Val.val.injEq, R.p.injEq, D.bl.injEq, D.int.injEq, D.str.injEq, D.tup.injEq, exists_eq_left', exists_eq_left, if_true, if_false, Bool.false_eq_true, decide_eq_true_eq, true_and, and_true, reduceCtorEq, ite_true, ite_false, fr_nil, fr_cons, fp_s, fp_t, fps_nil, fps_cons, lk_nil, lk_val, lk_at, lkAt_p, lkAt_l, lkAt_m, lockE_nil, lockE_cons, unlockE_nil, unlockE_cons, lockF_eq, ip_nil, ip_cons, po_n, po_p, pi_s, pi_t, pis_nil, pis_cons, wipe_nil, wipe_cons, rest_nil, rest_cons, gb_nil, gb_val, gb_at, gb_lent, bp_s, bp_t, bps_nil, bps_cons,
    szL, mulL, mulR, divL, si_seqL, si_seqT, si_seqS, si_rng1, si_rng2, sl_l, sl_t, sl_s, o_slA, o_slB, o_slAB, o_revL, o_revT, o_repr, o_addTT, o_mulS, m_app, m_ext, st_l, QC_e, z_qs_for, o_addS, o_lenS, o_ixS, iI_int, iB_int, iS_int, iT_int, iL_int, iN_int, iD_int, iI_bool, iB_bool, iS_bool, iT_bool, iL_bool, iN_bool, iD_bool, iI_str, iB_str, iS_str, iT_str, iL_str, iN_str, iD_str, iI_tuple, iB_tuple, iS_tuple, iT_tuple, iL_tuple, iN_tuple, iD_tuple, iI_list, iB_list, iS_list, iT_list, iL_list, iN_list, iD_list, iI_dict, iB_dict, iS_dict, iT_dict, iL_dict, iN_dict, iD_dict, out_0, out_c, o_pow10, o_eq, o_ne, deq_int, deq_str, eq_bl,
    Nat.reduceAdd, Nat.reduceSub, Nat.reduceMul, Nat.reduceLT, Nat.reduceLeDiff, Nat.reduceBEq, Nat.reduceEqDiff, Int.reduceAdd, Int.reduceSub, Int.reduceMul, Int.reduceNeg, Int.reduceLT, Int.reduceLE, Int.reduceEq, Int.reduceNe, Int.reducePow, Int.reduceToNat, Nat.reducePow, ne_eq, not_true_eq_false, not_false_eq_true, and_self, Bool.not_false, Bool.not_true, Bool.true_and, Bool.and_true, Bool.false_and, Bool.and_false, List.contains_cons, List.contains_nil, beq_self_eq_true, Bool.true_or, Bool.or_true, Bool.or_false, Bool.false_or, List.cons_append, List.nil_append]
              try exact ⟨_, rfl, rfl, rfl⟩
            · intro o
              rw [filt, rng_map]
              have z1 : ((List.range ((p.2 : Int) + 1).toNat).map fun (v : Nat) => D.tup (row.map .int ++ [D.int v])) = ((List.range (p.2 + 1)).map fun (v : Nat) => row ++ [(v : Int)]).map rowD := by
                rw [show ((p.2 : Int) + 1).toNat = p.2 + 1 by omega, List.map_map]
                refine List.map_congr_left fun v _ => ?_
                simp [rowD]
              have z2 : stepV d2 p ++ (List.range (p.2 + 1)).map (fun (v : Nat) => row ++ [(v : Int)]) = stepV (d2 ++ [row]) p := by
                unfold stepV
                rw [List.flatMap_append]; simp
              have z3 : ((stepV d2 p).map rowD).length + (((List.range (p.2 + 1)).map fun (v : Nat) => row ++ [(v : Int)]).map rowD).length ≤ sizeLine := by
                rw [← List.length_append, ← List.map_append, z2, List.length_map, stepV_len]
                have h3 := allV_le (ps := dn) ⟨by have := hp.1; rw [e] at this; simp at this; omega, fun q hq => hp.2 q (by rw [e]; simp [hq])⟩
                rw [e2] at h3
                have h4 : (d2 ++ [row]).length ≤ 64 := by simp at h3 ⊢; omega
                exact Nat.le_trans (Nat.mul_le_mul h4 (by omega : p.2 + 1 ≤ 4)) (by decide)
              have z4 : (((List.range (p.2 + 1)).map fun (v : Nat) => row ++ [(v : Int)]).map rowD).length ≤ sizeLine := by omega
              refine ⟨by rw [z1]; exact z4, ?_⟩
              simp only [z1, z3, z_RX_ok, z_RX_stuck, z_CW_ok, z_we_c, z_we_tup, z_we_lst, z_we_dic, z_q_call, z_we_nil, z_we_cons, z_wt_nil, z_ws_nil, z_ws_cons, z_ws_set, z_ws_setP, z_ws_par, z_ws_ex, z_ws_ret, z_ws_retN, z_ws_brk, z_ws_cont, z_ws_pass, z_ws_aug, z_OB_some, z_OB_none, z_OB_if, z_OB_ifi, z_OB_map, z_OB_bind, z_TB_val, z_PB_p, z_q_vo, z_q_ve, z_q_va, z_q_mov, z_q_frz, z_q_lend, z_q_op, z_q_and, z_q_or, z_q_not, z_q_ite, z_q_chain, z_q_mut, z_q_comp, z_qt_one, z_qs_ite, z_qs_store,
    o_add, o_addL, o_sub, o_mul, o_fdiv, o_mod, o_lt, o_le, o_gt, o_ge, o_isN, o_notN, o_neg, o_lenL, o_lenT, o_lenC, o_max, o_min, o_int, o_intB, o_isiI, o_isiB, o_isiS, o_isiT, o_isiL, o_isiD, kInt, kBl, kStr, kTup, kLst, kDic, o_ixL, o_ixT, o_ixC, o_tupL, o_tupT, o_lstL, o_lstT, g_nil, g_val, g_at, v_val, v_at, r_p, r_l, gt_0, gt_s, bR_s, bR_n, ite_some_eq, ite_none_eq,
    movK, ta_nil, ta_val, ta_at, taAt_p, taAt_l, taAt_m, Val.r, Val.rd, R.pure, lentOk, MOp.keeps, isLst, D.isNon,
    List.map_cons, List.map_nil, List.length_cons, List.length_nil, List.set_cons_zero, List.set_cons_succ, Option.map_some, Option.map_none, Option.bind_some, Option.bind_none, Option.some.injEq, Val.val.injEq, R.p.injEq, D.bl.injEq, D.int.injEq, D.str.injEq, D.tup.injEq, exists_eq_left', exists_eq_left, if_true, if_false, Bool.false_eq_true, decide_eq_true_eq, true_and, and_true, reduceCtorEq, ite_true, ite_false, fr_nil, fr_cons, fp_s, fp_t, fps_nil, fps_cons, lk_nil, lk_val, lk_at, lkAt_p, lkAt_l, lkAt_m, lockE_nil, lockE_cons, unlockE_nil, unlockE_cons, lockF_eq, ip_nil, ip_cons, po_n, po_p, pi_s, pi_t, pis_nil, pis_cons, wipe_nil, wipe_cons, rest_nil, rest_cons, gb_nil, gb_val, gb_at, gb_lent, bp_s, bp_t, bps_nil, bps_cons,
    szL, mulL, mulR, divL, si_seqL, si_seqT, si_seqS, si_rng1, si_rng2, sl_l, sl_t, sl_s, o_slA, o_slB, o_slAB, o_revL, o_revT, o_repr, o_addTT, o_mulS, m_app, m_ext, st_l, QC_e, z_qs_for, o_addS, o_lenS, o_ixS, iI_int, iB_int, iS_int, iT_int, iL_int, iN_int, iD_int, iI_bool, iB_bool, iS_bool, iT_bool, iL_bool, iN_bool, iD_bool, iI_str, iB_str, iS_str, iT_str, iL_str, iN_str, iD_str, iI_tuple, iB_tuple, iS_tuple, iT_tuple, iL_tuple, iN_tuple, iD_tuple, iI_list, iB_list, iS_list, iT_list, iL_list, iN_list, iD_list, iI_dict, iB_dict, iS_dict, iT_dict, iL_dict, iN_dict, iD_dict, out_0, out_c, o_pow10, o_eq, o_ne, deq_int, deq_str, eq_bl,
    Nat.reduceAdd, Nat.reduceSub, Nat.reduceMul, Nat.reduceLT, Nat.reduceLeDiff, Nat.reduceBEq, Nat.reduceEqDiff, Int.reduceAdd, Int.reduceSub, Int.reduceMul, Int.reduceNeg, Int.reduceLT, Int.reduceLE, Int.reduceEq, Int.reduceNe, Int.reducePow, Int.reduceToNat, Nat.reducePow, ne_eq, not_true_eq_false, not_false_eq_true, and_self, Bool.not_false, Bool.not_true, Bool.true_and, Bool.and_true, Bool.false_and, Bool.and_false, List.contains_cons, List.contains_nil, beq_self_eq_true, Bool.true_or, Bool.or_true, Bool.or_false, Bool.false_or, List.cons_append, List.nil_append]
              try exact ⟨d2 ++ [row], r2, _, by rw [e2]; simp, rfl, by rw [← z2, List.map_append]⟩
  rintro _ ⟨t2, t3, t4, t5, t6, rfl⟩
  simp only [z_RX_ok, z_RX_stuck, z_CW_ok, z_we_c, z_we_tup, z_we_lst, z_we_dic, z_q_call, z_we_nil, z_we_cons, z_wt_nil, z_ws_nil, z_ws_cons, z_ws_set, z_ws_setP, z_ws_par, z_ws_ex, z_ws_ret, z_ws_retN, z_ws_brk, z_ws_cont, z_ws_pass, z_ws_aug, z_OB_some, z_OB_none, z_OB_if, z_OB_ifi, z_OB_map, z_OB_bind, z_TB_val, z_PB_p, z_q_vo, z_q_ve, z_q_va, z_q_mov, z_q_frz, z_q_lend, z_q_op, z_q_and, z_q_or, z_q_not, z_q_ite, z_q_chain, z_q_mut, z_q_comp, z_qt_one, z_qs_ite, z_qs_store,
    o_add, o_addL, o_sub, o_mul, o_fdiv, o_mod, o_lt, o_le, o_gt, o_ge, o_isN, o_notN, o_neg, o_lenL, o_lenT, o_lenC, o_max, o_min, o_int, o_intB, o_isiI, o_isiB, o_isiS, o_isiT, o_isiL, o_isiD, kInt, kBl, kStr, kTup, kLst, kDic, o_ixL, o_ixT, o_ixC, o_tupL, o_tupT, o_lstL, o_lstT, g_nil, g_val, g_at, v_val, v_at, r_p, r_l, gt_0, gt_s, bR_s, bR_n, ite_some_eq, ite_none_eq,
    movK, ta_nil, ta_val, ta_at, taAt_p, taAt_l, taAt_m, Val.r, Val.rd, R.pure, lentOk, MOp.keeps, isLst, D.isNon,
    List.map_cons, List.map_nil, List.length_cons, List.length_nil, List.set_cons_zero, List.set_cons_succ, Option.map_some, Option.map_none, Option.bind_some, Option.bind_none, Option.some.injEq, Val.val.injEq, R.p.injEq, D.bl.injEq, D.int.injEq, D.str.injEq, D.tup.injEq, exists_eq_left', exists_eq_left, if_true, if_false, Bool.false_eq_true, decide_eq_true_eq, true_and, and_true, reduceCtorEq, ite_true, ite_false, fr_nil, fr_cons, fp_s, fp_t, fps_nil, fps_cons, lk_nil, lk_val, lk_at, lkAt_p, lkAt_l, lkAt_m, lockE_nil, lockE_cons, unlockE_nil, unlockE_cons, lockF_eq, ip_nil, ip_cons, po_n, po_p, pi_s, pi_t, pis_nil, pis_cons, wipe_nil, wipe_cons, rest_nil, rest_cons, gb_nil, gb_val, gb_at, gb_lent, bp_s, bp_t, bps_nil, bps_cons,
    szL, mulL, mulR, divL, si_seqL, si_seqT, si_seqS, si_rng1, si_rng2, sl_l, sl_t, sl_s, o_slA, o_slB, o_slAB, o_revL, o_revT, o_repr, o_addTT, o_mulS, m_app, m_ext, st_l, QC_e, z_qs_for, o_addS, o_lenS, o_ixS, iI_int, iB_int, iS_int, iT_int, iL_int, iN_int, iD_int, iI_bool, iB_bool, iS_bool, iT_bool, iL_bool, iN_bool, iD_bool, iI_str, iB_str, iS_str, iT_str, iL_str, iN_str, iD_str, iI_tuple, iB_tuple, iS_tuple, iT_tuple, iL_tuple, iN_tuple, iD_tuple, iI_list, iB_list, iS_list, iT_list, iL_list, iN_list, iD_list, iI_dict, iB_dict, iS_dict, iT_dict, iL_dict, iN_dict, iD_dict, out_0, out_c, o_pow10, o_eq, o_ne, deq_int, deq_str, eq_bl,
    Nat.reduceAdd, Nat.reduceSub, Nat.reduceMul, Nat.reduceLT, Nat.reduceLeDiff, Nat.reduceBEq, Nat.reduceEqDiff, Int.reduceAdd, Int.reduceSub, Int.reduceMul, Int.reduceNeg, Int.reduceLT, Int.reduceLE, Int.reduceEq, Int.reduceNe, Int.reducePow, Int.reduceToNat, Nat.reducePow, ne_eq, not_true_eq_false, not_false_eq_true, and_self, Bool.not_false, Bool.not_true, Bool.true_and, Bool.and_true, Bool.false_and, Bool.and_false, List.contains_cons, List.contains_nil, beq_self_eq_true, Bool.true_or, Bool.or_true, Bool.or_false, Bool.false_or, List.cons_append, List.nil_append]
theorem run_lawv (ps : List Pt) (hp : okP ps) : f__law_values.run cl [.p (.tup (ps.map portD))] = .ok (.l ((allV ps).map rowD)) [some (.p (.tup (ps.map portD)))] := by
  refine run_eq ?_
  rw [z_wc_run]
  refine ⟨rfl, rfl, ?_⟩
  simp only [f__law_values, List.replicate, List.append, List.cons_append, List.nil_append, Nat.reduceSub, List.map_cons, List.map_nil]
  refine QS_cut (fun ρ => ρ = [some (.p (.tup (ps.map portD))), some (.l []), none, none, none, none, none, none]) ?_ ?_
  · simp only [z_RX_ok, z_RX_stuck, z_CW_ok, z_we_c, z_we_tup, z_we_lst, z_we_dic, z_q_call, z_we_nil, z_we_cons, z_wt_nil, z_ws_nil, z_ws_cons, z_ws_set, z_ws_setP, z_ws_par, z_ws_ex, z_ws_ret, z_ws_retN, z_ws_brk, z_ws_cont, z_ws_pass, z_ws_aug, z_OB_some, z_OB_none, z_OB_if, z_OB_ifi, z_OB_map, z_OB_bind, z_TB_val, z_PB_p, z_q_vo, z_q_ve, z_q_va, z_q_mov, z_q_frz, z_q_lend, z_q_op, z_q_and, z_q_or, z_q_not, z_q_ite, z_q_chain, z_q_mut, z_q_comp, z_qt_one, z_qs_ite, z_qs_store,
    o_add, o_addL, o_sub, o_mul, o_fdiv, o_mod, o_lt, o_le, o_gt, o_ge, o_isN, o_notN, o_neg, o_lenL, o_lenT, o_lenC, o_max, o_min, o_int, o_intB, o_isiI, o_isiB, o_isiS, o_isiT, o_isiL, o_isiD, kInt, kBl, kStr, kTup, kLst, kDic, o_ixL, o_ixT, o_ixC, o_tupL, o_tupT, o_lstL, o_lstT, g_nil, g_val, g_at, v_val, v_at, r_p, r_l, gt_0, gt_s, bR_s, bR_n, ite_some_eq, ite_none_eq,
    movK, ta_nil, ta_val, ta_at, taAt_p, taAt_l, taAt_m, Val.r, Val.rd, R.pure, lentOk, MOp.keeps, isLst, D.isNon,
    List.map_cons, List.map_nil, List.length_cons, List.length_nil, List.set_cons_zero, List.set_cons_succ, Option.map_some, Option.map_none, Option.bind_some, Option.bind_none, Option.some.injEq, Val.val.injEq, R.p.injEq, D.bl.injEq, D.int.injEq, D.str.injEq, D.tup.injEq, exists_eq_left', exists_eq_left, if_true, if_false, Bool.false_eq_true, decide_eq_true_eq, true_and, and_true, reduceCtorEq, ite_true, ite_false, fr_nil, fr_cons, fp_s, fp_t, fps_nil, fps_cons, lk_nil, lk_val, lk_at, lkAt_p, lkAt_l, lkAt_m, lockE_nil, lockE_cons, unlockE_nil, unlockE_cons, lockF_eq, ip_nil, ip_cons, po_n, po_p, pi_s, pi_t, pis_nil, pis_cons, wipe_nil, wipe_cons, rest_nil, rest_cons, gb_nil, gb_val, gb_at, gb_lent, bp_s, bp_t, bps_nil, bps_cons,
    szL, mulL, mulR, divL, si_seqL, si_seqT, si_seqS, si_rng1, si_rng2, sl_l, sl_t, sl_s, o_slA, o_slB, o_slAB, o_revL, o_revT, o_repr, o_addTT, o_mulS, m_app, m_ext, st_l, QC_e, z_qs_for, o_addS, o_lenS, o_ixS, iI_int, iB_int, iS_int, iT_int, iL_int, iN_int, iD_int, iI_bool, iB_bool, iS_bool, iT_bool, iL_bool, iN_bool, iD_bool, iI_str, iB_str, iS_str, iT_str, iL_str, iN_str, iD_str, iI_tuple, iB_tuple, iS_tuple, iT_tuple, iL_tuple, iN_tuple, iD_tuple, iI_list, iB_list, iS_list, iT_list, iL_list, iN_list, iD_list, iI_dict, iB_dict, iS_dict, iT_dict, iL_dict, iN_dict, iD_dict, out_0, out_c, o_pow10, o_eq, o_ne, deq_int, deq_str, eq_bl,
    Nat.reduceAdd, Nat.reduceSub, Nat.reduceMul, Nat.reduceLT, Nat.reduceLeDiff, Nat.reduceBEq, Nat.reduceEqDiff, Int.reduceAdd, Int.reduceSub, Int.reduceMul, Int.reduceNeg, Int.reduceLT, Int.reduceLE, Int.reduceEq, Int.reduceNe, Int.reducePow, Int.reduceToNat, Nat.reducePow, ne_eq, not_true_eq_false, not_false_eq_true, and_self, Bool.not_false, Bool.not_true, Bool.true_and, Bool.and_true, Bool.false_and, Bool.and_false, List.contains_cons, List.contains_nil, beq_self_eq_true, Bool.true_or, Bool.or_true, Bool.or_false, Bool.false_or, List.cons_append, List.nil_append]
  rintro _ rfl
  refine QS_cut (fun ρ => ρ = [some (.p (.tup (ps.map portD))), some (.l []), some (.p (.int 1)), none, none, none, none, none]) ?_ ?_
  · simp only [z_RX_ok, z_RX_stuck, z_CW_ok, z_we_c, z_we_tup, z_we_lst, z_we_dic, z_q_call, z_we_nil, z_we_cons, z_wt_nil, z_ws_nil, z_ws_cons, z_ws_set, z_ws_setP, z_ws_par, z_ws_ex, z_ws_ret, z_ws_retN, z_ws_brk, z_ws_cont, z_ws_pass, z_ws_aug, z_OB_some, z_OB_none, z_OB_if, z_OB_ifi, z_OB_map, z_OB_bind, z_TB_val, z_PB_p, z_q_vo, z_q_ve, z_q_va, z_q_mov, z_q_frz, z_q_lend, z_q_op, z_q_and, z_q_or, z_q_not, z_q_ite, z_q_chain, z_q_mut, z_q_comp, z_qt_one, z_qs_ite, z_qs_store,
    o_add, o_addL, o_sub, o_mul, o_fdiv, o_mod, o_lt, o_le, o_gt, o_ge, o_isN, o_notN, o_neg, o_lenL, o_lenT, o_lenC, o_max, o_min, o_int, o_intB, o_isiI, o_isiB, o_isiS, o_isiT, o_isiL, o_isiD, kInt, kBl, kStr, kTup, kLst, kDic, o_ixL, o_ixT, o_ixC, o_tupL, o_tupT, o_lstL, o_lstT, g_nil, g_val, g_at, v_val, v_at, r_p, r_l, gt_0, gt_s, bR_s, bR_n, ite_some_eq, ite_none_eq,
    movK, ta_nil, ta_val, ta_at, taAt_p, taAt_l, taAt_m, Val.r, Val.rd, R.pure, lentOk, MOp.keeps, isLst, D.isNon,
    List.map_cons, List.map_nil, List.length_cons, List.length_nil, List.set_cons_zero, List.set_cons_succ, Option.map_some, Option.map_none, Option.bind_some, Option.bind_none, Option.some.injEq, Val.val.injEq, R.p.injEq, D.bl.injEq, D.int.injEq, D.str.injEq, D.tup.injEq, exists_eq_left', exists_eq_left, if_true, if_false, Bool.false_eq_true, decide_eq_true_eq, true_and, and_true, reduceCtorEq, ite_true, ite_false, fr_nil, fr_cons, fp_s, fp_t, fps_nil, fps_cons, lk_nil, lk_val, lk_at, lkAt_p, lkAt_l, lkAt_m, lockE_nil, lockE_cons, unlockE_nil, unlockE_cons, lockF_eq, ip_nil, ip_cons, po_n, po_p, pi_s, pi_t, pis_nil, pis_cons, wipe_nil, wipe_cons, rest_nil, rest_cons, gb_nil, gb_val, gb_at, gb_lent, bp_s, bp_t, bps_nil, bps_cons,
    szL, mulL, mulR, divL, si_seqL, si_seqT, si_seqS, si_rng1, si_rng2, sl_l, sl_t, sl_s, o_slA, o_slB, o_slAB, o_revL, o_revT, o_repr, o_addTT, o_mulS, m_app, m_ext, st_l, QC_e, z_qs_for, o_addS, o_lenS, o_ixS, iI_int, iB_int, iS_int, iT_int, iL_int, iN_int, iD_int, iI_bool, iB_bool, iS_bool, iT_bool, iL_bool, iN_bool, iD_bool, iI_str, iB_str, iS_str, iT_str, iL_str, iN_str, iD_str, iI_tuple, iB_tuple, iS_tuple, iT_tuple, iL_tuple, iN_tuple, iD_tuple, iI_list, iB_list, iS_list, iT_list, iL_list, iN_list, iD_list, iI_dict, iB_dict, iS_dict, iT_dict, iL_dict, iN_dict, iD_dict, out_0, out_c, o_pow10, o_eq, o_ne, deq_int, deq_str, eq_bl,
    Nat.reduceAdd, Nat.reduceSub, Nat.reduceMul, Nat.reduceLT, Nat.reduceLeDiff, Nat.reduceBEq, Nat.reduceEqDiff, Int.reduceAdd, Int.reduceSub, Int.reduceMul, Int.reduceNeg, Int.reduceLT, Int.reduceLE, Int.reduceEq, Int.reduceNe, Int.reducePow, Int.reduceToNat, Nat.reducePow, ne_eq, not_true_eq_false, not_false_eq_true, and_self, Bool.not_false, Bool.not_true, Bool.true_and, Bool.and_true, Bool.false_and, Bool.and_false, List.contains_cons, List.contains_nil, beq_self_eq_true, Bool.true_or, Bool.or_true, Bool.or_false, Bool.false_or, List.cons_append, List.nil_append]
  rintro _ rfl
  refine QS_cut (fun ρ => ∃ t3 t4, ρ = [some (.p (.tup (ps.map portD))), some (.l []), some (.p (.int (prodR ps.reverse : Nat))), t3, t4, none, none, none]) ?_ ?_
  · simp only [z_RX_ok, z_RX_stuck, z_CW_ok, z_we_c, z_we_tup, z_we_lst, z_we_dic, z_q_call, z_we_nil, z_we_cons, z_wt_nil, z_ws_nil, z_ws_cons, z_ws_set, z_ws_setP, z_ws_par, z_ws_ex, z_ws_ret, z_ws_retN, z_ws_brk, z_ws_cont, z_ws_pass, z_ws_aug, z_OB_some, z_OB_none, z_OB_if, z_OB_ifi, z_OB_map, z_OB_bind, z_TB_val, z_PB_p, z_q_vo, z_q_ve, z_q_va, z_q_mov, z_q_frz, z_q_lend, z_q_op, z_q_and, z_q_or, z_q_not, z_q_ite, z_q_chain, z_q_mut, z_q_comp, z_qt_one, z_qs_ite, z_qs_store,
    o_add, o_addL, o_sub, o_mul, o_fdiv, o_mod, o_lt, o_le, o_gt, o_ge, o_isN, o_notN, o_neg, o_lenL, o_lenT, o_lenC, o_max, o_min, o_int, o_intB, o_isiI, o_isiB, o_isiS, o_isiT, o_isiL, o_isiD, kInt, kBl, kStr, kTup, kLst, kDic, o_ixL, o_ixT, o_ixC, o_tupL, o_tupT, o_lstL, o_lstT, g_nil, g_val, g_at, v_val, v_at, r_p, r_l, gt_0, gt_s, bR_s, bR_n, ite_some_eq, ite_none_eq,
    movK, ta_nil, ta_val, ta_at, taAt_p, taAt_l, taAt_m, Val.r, Val.rd, R.pure, lentOk, MOp.keeps, isLst, D.isNon,
    List.map_cons, List.map_nil, List.length_cons, List.length_nil, List.set_cons_zero, List.set_cons_succ, Option.map_some, Option.map_none, Option.bind_some, Option.bind_none, Option.some.injEq, Val.val.injEq, R.p.injEq, D.bl.injEq, D.int.injEq, D.str.injEq, D.tup.injEq, exists_eq_left', exists_eq_left, if_true, if_false, Bool.false_eq_true, decide_eq_true_eq, true_and, and_true, reduceCtorEq, ite_true, ite_false, fr_nil, fr_cons, fp_s, fp_t, fps_nil, fps_cons, lk_nil, lk_val, lk_at, lkAt_p, lkAt_l, lkAt_m, lockE_nil, lockE_cons, unlockE_nil, unlockE_cons, lockF_eq, ip_nil, ip_cons, po_n, po_p, pi_s, pi_t, pis_nil, pis_cons, wipe_nil, wipe_cons, rest_nil, rest_cons, gb_nil, gb_val, gb_at, gb_lent, bp_s, bp_t, bps_nil, bps_cons,
    szL, mulL, mulR, divL, si_seqL, si_seqT, si_seqS, si_rng1, si_rng2, sl_l, sl_t, sl_s, o_slA, o_slB, o_slAB, o_revL, o_revT, o_repr, o_addTT, o_mulS, m_app, m_ext, st_l, QC_e, z_qs_for, o_addS, o_lenS, o_ixS, iI_int, iB_int, iS_int, iT_int, iL_int, iN_int, iD_int, iI_bool, iB_bool, iS_bool, iT_bool, iL_bool, iN_bool, iD_bool, iI_str, iB_str, iS_str, iT_str, iL_str, iN_str, iD_str, iI_tuple, iB_tuple, iS_tuple, iT_tuple, iL_tuple, iN_tuple, iD_tuple, iI_list, iB_list, iS_list, iT_list, iL_list, iN_list, iD_list, iI_dict, iB_dict, iS_dict, iT_dict, iL_dict, iN_dict, iD_dict, out_0, out_c, o_pow10, o_eq, o_ne, deq_int, deq_str, eq_bl,
    Nat.reduceAdd, Nat.reduceSub, Nat.reduceMul, Nat.reduceLT, Nat.reduceLeDiff, Nat.reduceBEq, Nat.reduceEqDiff, Int.reduceAdd, Int.reduceSub, Int.reduceMul, Int.reduceNeg, Int.reduceLT, Int.reduceLE, Int.reduceEq, Int.reduceNe, Int.reducePow, Int.reduceToNat, Nat.reducePow, ne_eq, not_true_eq_false, not_false_eq_true, and_self, Bool.not_false, Bool.not_true, Bool.true_and, Bool.and_true, Bool.false_and, Bool.and_false, List.contains_cons, List.contains_nil, beq_self_eq_true, Bool.true_or, Bool.or_true, Bool.or_false, Bool.false_or, List.cons_append, List.nil_append]
    refine QS_inv (I := fun items ρ => ∃ (dn rs : List Pt) (t3 t4 : Option R), ps = dn ++ rs ∧ items = rs.map portD ∧ ρ = [some (.p (.tup (ps.map portD))), some (.l []), some (.p (.int (prodR dn.reverse : Nat))), t3, t4, none, none, none]) ⟨[], ps, _, _, rfl, rfl, rfl⟩ ?_ ?_
    · rintro _ ⟨dn, rs, t3, t4, e, hi, rfl⟩
      cases rs with
      | cons _ _ => exact nomatch hi
      | nil =>
        rw [List.append_nil] at e
        subst e
        exact ⟨_, _, rfl⟩
    · rintro x xs _ ⟨dn, rs, t3, t4, e, hi, rfl⟩
      cases rs with
      | nil => exact nomatch hi
      | cons p rs =>
        cases hi
        have hq : p.2 ≤ 3 := hp.2 p (by rw [e]; simp)
        have hm : mulOk (prodR dn.reverse : Nat) ((p.2 : Int) + 1) = true := mulR (by omega) (by omega)
        have z : ((prodR dn.reverse : Nat) : Int) * ((p.2 : Int) + 1) = ((prodR (dn ++ [p]).reverse : Nat) : Int) := by
          rw [List.reverse_append]
          show _ = ((prodR dn.reverse * (p.2 + 1) : Nat) : Int)
          rw [Int.natCast_mul]; rfl
        simp only [portD, hm, z, z_RX_ok, z_RX_stuck, z_CW_ok, z_we_c, z_we_tup, z_we_lst, z_we_dic, z_q_call, z_we_nil, z_we_cons, z_wt_nil, z_ws_nil, z_ws_cons, z_ws_set, z_ws_setP, z_ws_par, z_ws_ex, z_ws_ret, z_ws_retN, z_ws_brk, z_ws_cont, z_ws_pass, z_ws_aug, z_OB_some, z_OB_none, z_OB_if, z_OB_ifi, z_OB_map, z_OB_bind, z_TB_val, z_PB_p, z_q_vo, z_q_ve, z_q_va, z_q_mov, z_q_frz, z_q_lend, z_q_op, z_q_and, z_q_or, z_q_not, z_q_ite, z_q_chain, z_q_mut, z_q_comp, z_qt_one, z_qs_ite, z_qs_store,
    o_add, o_addL, o_sub, o_mul, o_fdiv, o_mod, o_lt, o_le, o_gt, o_ge, o_isN, o_notN, o_neg, o_lenL, o_lenT, o_lenC, o_max, o_min, o_int, o_intB, o_isiI, o_isiB, o_isiS, o_isiT, o_isiL, o_isiD, kInt, kBl, kStr, kTup, kLst, kDic, o_ixL, o_ixT, o_ixC, o_tupL, o_tupT, o_lstL, o_lstT, g_nil, g_val, g_at, v_val, v_at, r_p, r_l, gt_0, gt_s, bR_s, bR_n, ite_some_eq, ite_none_eq,
    movK, ta_nil, ta_val, ta_at, taAt_p, taAt_l, taAt_m, Val.r, Val.rd, R.pure, lentOk, MOp.keeps, isLst, D.isNon,
    List.map_cons, List.map_nil, List.length_cons, List.length_nil, List.set_cons_zero, List.set_cons_succ, Option.map_some, Option.map_none, Option.bind_some, Option.bind_none, Option.some.injEq, Val.val.injEq, R.p.injEq, D.bl.injEq, D.int.injEq, D.str.injEq, D.tup.injEq, exists_eq_left', exists_eq_left, if_true, if_false, Bool.false_eq_true, decide_eq_true_eq, true_and, and_true, reduceCtorEq, ite_true, ite_false, fr_nil, fr_cons, fp_s, fp_t, fps_nil, fps_cons, lk_nil, lk_val, lk_at, lkAt_p, lkAt_l, lkAt_m, lockE_nil, lockE_cons, unlockE_nil, unlockE_cons, lockF_eq, ip_nil, ip_cons, po_n, po_p, pi_s, pi_t, pis_nil, pis_cons, wipe_nil, wipe_cons, rest_nil, rest_cons, gb_nil, gb_val, gb_at, gb_lent, bp_s, bp_t, bps_nil, bps_cons,
    szL, mulL, mulR, divL, si_seqL, si_seqT, si_seqS, si_rng1, si_rng2, sl_l, sl_t, sl_s, o_slA, o_slB, o_slAB, o_revL, o_revT, o_repr, o_addTT, o_mulS, m_app, m_ext, st_l, QC_e, z_qs_for, o_addS, o_lenS, o_ixS, iI_int, iB_int, iS_int, iT_int, iL_int, iN_int, iD_int, iI_bool, iB_bool, iS_bool, iT_bool, iL_bool, iN_bool, iD_bool, iI_str, iB_str, iS_str, iT_str, iL_str, iN_str, iD_str, iI_tuple, iB_tuple, iS_tuple, iT_tuple, iL_tuple, iN_tuple, iD_tuple, iI_list, iB_list, iS_list, iT_list, iL_list, iN_list, iD_list, iI_dict, iB_dict, iS_dict, iT_dict, iL_dict, iN_dict, iD_dict, out_0, out_c, o_pow10, o_eq, o_ne, deq_int, deq_str, eq_bl,
    Nat.reduceAdd, Nat.reduceSub, Nat.reduceMul, Nat.reduceLT, Nat.reduceLeDiff, Nat.reduceBEq, Nat.reduceEqDiff, Int.reduceAdd, Int.reduceSub, Int.reduceMul, Int.reduceNeg, Int.reduceLT, Int.reduceLE, Int.reduceEq, Int.reduceNe, Int.reducePow, Int.reduceToNat, Nat.reducePow, ne_eq, not_true_eq_false, not_false_eq_true, and_self, Bool.not_false, Bool.not_true, Bool.true_and, Bool.and_true, Bool.false_and, Bool.and_false, List.contains_cons, List.contains_nil, beq_self_eq_true, Bool.true_or, Bool.or_true, Bool.or_false, Bool.false_or, List.cons_append, List.nil_append]
        exact ⟨dn ++ [p], rs, _, _, by rw [e]; simp, rfl, rfl⟩
  rintro _ ⟨t3, t4, rfl⟩
  have hpr : prodR ps.reverse ≤ 64 := by
    have := allV_le hp
    rw [← lawV_eq, List.length_map, List.length_range] at this
    exact this
  refine QS_cut (fun ρ => ∃ t3 t4 t5 t6 t7, ρ = [some (.p (.tup (ps.map portD))), some (.l ((allV ps).map rowD)), some (.p (.int (prodR ps.reverse : Nat))), t3, t4, t5, t6, t7]) ?_ ?_
  · have h1 : -4611686018427387904 ≤ ((prodR ps.reverse : Nat) : Int) := by omega
    have h2 : ((prodR ps.reverse : Nat) : Int) < 4611686018427387904 := by omega
    simp only [h1, h2, z_RX_ok, z_RX_stuck, z_CW_ok, z_we_c, z_we_tup, z_we_lst, z_we_dic, z_q_call, z_we_nil, z_we_cons, z_wt_nil, z_ws_nil, z_ws_cons, z_ws_set, z_ws_setP, z_ws_par, z_ws_ex, z_ws_ret, z_ws_retN, z_ws_brk, z_ws_cont, z_ws_pass, z_ws_aug, z_OB_some, z_OB_none, z_OB_if, z_OB_ifi, z_OB_map, z_OB_bind, z_TB_val, z_PB_p, z_q_vo, z_q_ve, z_q_va, z_q_mov, z_q_frz, z_q_lend, z_q_op, z_q_and, z_q_or, z_q_not, z_q_ite, z_q_chain, z_q_mut, z_q_comp, z_qt_one, z_qs_ite, z_qs_store,
    o_add, o_addL, o_sub, o_mul, o_fdiv, o_mod, o_lt, o_le, o_gt, o_ge, o_isN, o_notN, o_neg, o_lenL, o_lenT, o_lenC, o_max, o_min, o_int, o_intB, o_isiI, o_isiB, o_isiS, o_isiT, o_isiL, o_isiD, kInt, kBl, kStr, kTup, kLst, kDic, o_ixL, o_ixT, o_ixC, o_tupL, o_tupT, o_lstL, o_lstT, g_nil, g_val, g_at, v_val, v_at, r_p, r_l, gt_0, gt_s, bR_s, bR_n, ite_some_eq, ite_none_eq,
    movK, ta_nil, ta_val, ta_at, taAt_p, taAt_l, taAt_m, Val.r, Val.rd, R.pure, lentOk, MOp.keeps, isLst, D.isNon,
    List.map_cons, List.map_nil, List.length_cons, List.length_nil, List.set_cons_zero, List.set_cons_succ, Option.map_some, Option.map_none, Option.bind_some, Option.bind_none, Option.some.injEq, Val.val.injEq, R.p.injEq, D.bl.injEq, D.int.injEq, D.str.injEq, D.tup.injEq, exists_eq_left', exists_eq_left, if_true, if_false, Bool.false_eq_true, decide_eq_true_eq, true_and, and_true, reduceCtorEq, ite_true, ite_false, fr_nil, fr_cons, fp_s, fp_t, fps_nil, fps_cons, lk_nil, lk_val, lk_at, lkAt_p, lkAt_l, lkAt_m, lockE_nil, lockE_cons, unlockE_nil, unlockE_cons, lockF_eq, ip_nil, ip_cons, po_n, po_p, pi_s, pi_t, pis_nil, pis_cons, wipe_nil, wipe_cons, rest_nil, rest_cons, gb_nil, gb_val, gb_at, gb_lent, bp_s, bp_t, bps_nil, bps_cons,
    szL, mulL, mulR, divL, si_seqL, si_seqT, si_seqS, si_rng1, si_rng2, sl_l, sl_t, sl_s, o_slA, o_slB, o_slAB, o_revL, o_revT, o_repr, o_addTT, o_mulS, m_app, m_ext, st_l, QC_e, z_qs_for, o_addS, o_lenS, o_ixS, iI_int, iB_int, iS_int, iT_int, iL_int, iN_int, iD_int, iI_bool, iB_bool, iS_bool, iT_bool, iL_bool, iN_bool, iD_bool, iI_str, iB_str, iS_str, iT_str, iL_str, iN_str, iD_str, iI_tuple, iB_tuple, iS_tuple, iT_tuple, iL_tuple, iN_tuple, iD_tuple, iI_list, iB_list, iS_list, iT_list, iL_list, iN_list, iD_list, iI_dict, iB_dict, iS_dict, iT_dict, iL_dict, iN_dict, iD_dict, out_0, out_c, o_pow10, o_eq, o_ne, deq_int, deq_str, eq_bl,
    Nat.reduceAdd, Nat.reduceSub, Nat.reduceMul, Nat.reduceLT, Nat.reduceLeDiff, Nat.reduceBEq, Nat.reduceEqDiff, Int.reduceAdd, Int.reduceSub, Int.reduceMul, Int.reduceNeg, Int.reduceLT, Int.reduceLE, Int.reduceEq, Int.reduceNe, Int.reducePow, Int.reduceToNat, Nat.reducePow, ne_eq, not_true_eq_false, not_false_eq_true, and_self, Bool.not_false, Bool.not_true, Bool.true_and, Bool.and_true, Bool.false_and, Bool.and_false, List.contains_cons, List.contains_nil, beq_self_eq_true, Bool.true_or, Bool.or_true, Bool.or_false, Bool.false_or, List.cons_append, List.nil_append]
    refine QS_inv (I := fun items ρ => ∃ (k n : Nat) (t3 t4 t5 t6 t7 : Option R), items = rangeD k n ∧ k + n = prodR ps.reverse ∧ ρ = [some (.p (.tup (ps.map portD))), some (.l (((List.range k).map fun n => digR ps.reverse n []).map rowD)), some (.p (.int (prodR ps.reverse : Nat))), t3, t4, t5, t6, t7]) ⟨0, prodR ps.reverse, _, _, _, _, _, rfl, by omega, rfl⟩ ?_ ?_
    · rintro _ ⟨k, n, t3, t4, t5, t6, t7, hi, hk, rfl⟩
      have hn : n = 0 := by
        cases n with
        | zero => rfl
        | succ n => rw [rangeD_succ] at hi; exact nomatch hi
      subst hn
      rw [Nat.add_zero] at hk
      subst hk
      rw [lawV_eq]
      exact ⟨_, _, _, _, _, rfl⟩
    · rintro x xs _ ⟨k, n, t3, t4, t5, t6, t7, hi, hk, rfl⟩
      obtain ⟨n, rfl, rfl, rfl⟩ := rangeD_split hi
      simp only [bp_s, List.set_cons_succ, List.set_cons_zero, z_OB_some]
      refine QS_cut (fun ρ => ρ = [some (.p (.tup (ps.map portD))), some (.l (((List.range k).map fun n => digR ps.reverse n []).map rowD)), some (.p (.int (prodR ps.reverse : Nat))), t3, t4, some (.p (.int k)), some (.p (.tup [])), t7]) ?_ ?_
      · simp only [z_RX_ok, z_RX_stuck, z_CW_ok, z_we_c, z_we_tup, z_we_lst, z_we_dic, z_q_call, z_we_nil, z_we_cons, z_wt_nil, z_ws_nil, z_ws_cons, z_ws_set, z_ws_setP, z_ws_par, z_ws_ex, z_ws_ret, z_ws_retN, z_ws_brk, z_ws_cont, z_ws_pass, z_ws_aug, z_OB_some, z_OB_none, z_OB_if, z_OB_ifi, z_OB_map, z_OB_bind, z_TB_val, z_PB_p, z_q_vo, z_q_ve, z_q_va, z_q_mov, z_q_frz, z_q_lend, z_q_op, z_q_and, z_q_or, z_q_not, z_q_ite, z_q_chain, z_q_mut, z_q_comp, z_qt_one, z_qs_ite, z_qs_store,
    o_add, o_addL, o_sub, o_mul, o_fdiv, o_mod, o_lt, o_le, o_gt, o_ge, o_isN, o_notN, o_neg, o_lenL, o_lenT, o_lenC, o_max, o_min, o_int, o_intB, o_isiI, o_isiB, o_isiS, o_isiT, o_isiL, o_isiD, kInt, kBl, kStr, kTup, kLst, kDic, o_ixL, o_ixT, o_ixC, o_tupL, o_tupT, o_lstL, o_lstT, g_nil, g_val, g_at, v_val, v_at, r_p, r_l, gt_0, gt_s, bR_s, bR_n, ite_some_eq, ite_none_eq,
    movK, ta_nil, ta_val, ta_at, taAt_p, taAt_l, taAt_m, Val.r, Val.rd, R.pure, lentOk, MOp.keeps, isLst, D.isNon,
    List.map_cons, List.map_nil, List.length_cons, List.length_nil, List.set_cons_zero, List.set_cons_succ, Option.map_some, Option.map_none, Option.bind_some, Option.bind_none, Option.some.injEq, Val.val.injEq, R.p.injEq, D.bl.injEq, D.int.injEq, D.str.injEq, D.tup.injEq, exists_eq_left', exists_eq_left, if_true, if_false, Bool.false_eq_true, decide_eq_true_eq, true_and, and_true, reduceCtorEq, ite_true, ite_false, fr_nil, fr_cons, fp_s, fp_t, fps_nil, fps_cons, lk_nil, lk_val, lk_at, lkAt_p, lkAt_l, lkAt_m, lockE_nil, lockE_cons, unlockE_nil, unlockE_cons, lockF_eq, ip_nil, ip_cons, po_n, po_p, pi_s, pi_t, pis_nil, pis_cons, wipe_nil, wipe_cons, rest_nil, rest_cons, gb_nil, gb_val, gb_at, gb_lent, bp_s, bp_t, bps_nil, bps_cons,
    szL, mulL, mulR, divL, si_seqL, si_seqT, si_seqS, si_rng1, si_rng2, sl_l, sl_t, sl_s, o_slA, o_slB, o_slAB, o_revL, o_revT, o_repr, o_addTT, o_mulS, m_app, m_ext, st_l, QC_e, z_qs_for, o_addS, o_lenS, o_ixS, iI_int, iB_int, iS_int, iT_int, iL_int, iN_int, iD_int, iI_bool, iB_bool, iS_bool, iT_bool, iL_bool, iN_bool, iD_bool, iI_str, iB_str, iS_str, iT_str, iL_str, iN_str, iD_str, iI_tuple, iB_tuple, iS_tuple, iT_tuple, iL_tuple, iN_tuple, iD_tuple, iI_list, iB_list, iS_list, iT_list, iL_list, iN_list, iD_list, iI_dict, iB_dict, iS_dict, iT_dict, iL_dict, iN_dict, iD_dict, out_0, out_c, o_pow10, o_eq, o_ne, deq_int, deq_str, eq_bl,
    Nat.reduceAdd, Nat.reduceSub, Nat.reduceMul, Nat.reduceLT, Nat.reduceLeDiff, Nat.reduceBEq, Nat.reduceEqDiff, Int.reduceAdd, Int.reduceSub, Int.reduceMul, Int.reduceNeg, Int.reduceLT, Int.reduceLE, Int.reduceEq, Int.reduceNe, Int.reducePow, Int.reduceToNat, Nat.reducePow, ne_eq, not_true_eq_false, not_false_eq_true, and_self, Bool.not_false, Bool.not_true, Bool.true_and, Bool.and_true, Bool.false_and, Bool.and_false, List.contains_cons, List.contains_nil, beq_self_eq_true, Bool.true_or, Bool.or_true, Bool.or_false, Bool.false_or, List.cons_append, List.nil_append]
      rintro _ rfl
      refine QS_cut (fun ρ => ρ = [some (.p (.tup (ps.map portD))), some (.l (((List.range k).map fun n => digR ps.reverse n []).map rowD)), some (.p (.int (prodR ps.reverse : Nat))), t3, t4, some (.p (.int k)), some (.p (.tup [])), some (.p (.int k))]) ?_ ?_
      · simp only [z_RX_ok, z_RX_stuck, z_CW_ok, z_we_c, z_we_tup, z_we_lst, z_we_dic, z_q_call, z_we_nil, z_we_cons, z_wt_nil, z_ws_nil, z_ws_cons, z_ws_set, z_ws_setP, z_ws_par, z_ws_ex, z_ws_ret, z_ws_retN, z_ws_brk, z_ws_cont, z_ws_pass, z_ws_aug, z_OB_some, z_OB_none, z_OB_if, z_OB_ifi, z_OB_map, z_OB_bind, z_TB_val, z_PB_p, z_q_vo, z_q_ve, z_q_va, z_q_mov, z_q_frz, z_q_lend, z_q_op, z_q_and, z_q_or, z_q_not, z_q_ite, z_q_chain, z_q_mut, z_q_comp, z_qt_one, z_qs_ite, z_qs_store,
    o_add, o_addL, o_sub, o_mul, o_fdiv, o_mod, o_lt, o_le, o_gt, o_ge, o_isN, o_notN, o_neg, o_lenL, o_lenT, o_lenC, o_max, o_min, o_int, o_intB, o_isiI, o_isiB, o_isiS, o_isiT, o_isiL, o_isiD, kInt, kBl, kStr, kTup, kLst, kDic, o_ixL, o_ixT, o_ixC, o_tupL, o_tupT, o_lstL, o_lstT, g_nil, g_val, g_at, v_val, v_at, r_p, r_l, gt_0, gt_s, bR_s, bR_n, ite_some_eq, ite_none_eq,
    movK, ta_nil, ta_val, ta_at, taAt_p, taAt_l, taAt_m, Val.r, Val.rd, R.pure, lentOk, MOp.keeps, isLst, D.isNon,
    List.map_cons, List.map_nil, List.length_cons, List.length_nil, List.set_cons_zero, List.set_cons_succ, Option.map_some, Option.map_none, Option.bind_some, Option.bind_none, Option.some.injEq, Val.val.injEq, R.p.injEq, D.bl.injEq, D.int.injEq, D.str.injEq, D.tup.injEq, exists_eq_left', exists_eq_left, if_true, if_false, Bool.false_eq_true, decide_eq_true_eq, true_and, and_true, reduceCtorEq, ite_true, ite_false, fr_nil, fr_cons, fp_s, fp_t, fps_nil, fps_cons, lk_nil, lk_val, lk_at, lkAt_p, lkAt_l, lkAt_m, lockE_nil, lockE_cons, unlockE_nil, unlockE_cons, lockF_eq, ip_nil, ip_cons, po_n, po_p, pi_s, pi_t, pis_nil, pis_cons, wipe_nil, wipe_cons, rest_nil, rest_cons, gb_nil, gb_val, gb_at, gb_lent, bp_s, bp_t, bps_nil, bps_cons,
    szL, mulL, mulR, divL, si_seqL, si_seqT, si_seqS, si_rng1, si_rng2, sl_l, sl_t, sl_s, o_slA, o_slB, o_slAB, o_revL, o_revT, o_repr, o_addTT, o_mulS, m_app, m_ext, st_l, QC_e, z_qs_for, o_addS, o_lenS, o_ixS, iI_int, iB_int, iS_int, iT_int, iL_int, iN_int, iD_int, iI_bool, iB_bool, iS_bool, iT_bool, iL_bool, iN_bool, iD_bool, iI_str, iB_str, iS_str, iT_str, iL_str, iN_str, iD_str, iI_tuple, iB_tuple, iS_tuple, iT_tuple, iL_tuple, iN_tuple, iD_tuple, iI_list, iB_list, iS_list, iT_list, iL_list, iN_list, iD_list, iI_dict, iB_dict, iS_dict, iT_dict, iL_dict, iN_dict, iD_dict, out_0, out_c, o_pow10, o_eq, o_ne, deq_int, deq_str, eq_bl,
    Nat.reduceAdd, Nat.reduceSub, Nat.reduceMul, Nat.reduceLT, Nat.reduceLeDiff, Nat.reduceBEq, Nat.reduceEqDiff, Int.reduceAdd, Int.reduceSub, Int.reduceMul, Int.reduceNeg, Int.reduceLT, Int.reduceLE, Int.reduceEq, Int.reduceNe, Int.reducePow, Int.reduceToNat, Nat.reducePow, ne_eq, not_true_eq_false, not_false_eq_true, and_self, Bool.not_false, Bool.not_true, Bool.true_and, Bool.and_true, Bool.false_and, Bool.and_false, List.contains_cons, List.contains_nil, beq_self_eq_true, Bool.true_or, Bool.or_true, Bool.or_false, Bool.false_or, List.cons_append, List.nil_append]
      rintro _ rfl
      refine QS_cut (fun ρ => ∃ t3 t4 t7, ρ = [some (.p (.tup (ps.map portD))), some (.l (((List.range k).map fun n => digR ps.reverse n []).map rowD)), some (.p (.int (prodR ps.reverse : Nat))), t3, t4, some (.p (.int k)), some (.p (rowD (digR ps.reverse k []))), t7]) ?_ ?_
      · have hr : (ps.map portD).reverse = ps.reverse.map portD := List.map_reverse.symm
        simp only [hr, z_RX_ok, z_RX_stuck, z_CW_ok, z_we_c, z_we_tup, z_we_lst, z_we_dic, z_q_call, z_we_nil, z_we_cons, z_wt_nil, z_ws_nil, z_ws_cons, z_ws_set, z_ws_setP, z_ws_par, z_ws_ex, z_ws_ret, z_ws_retN, z_ws_brk, z_ws_cont, z_ws_pass, z_ws_aug, z_OB_some, z_OB_none, z_OB_if, z_OB_ifi, z_OB_map, z_OB_bind, z_TB_val, z_PB_p, z_q_vo, z_q_ve, z_q_va, z_q_mov, z_q_frz, z_q_lend, z_q_op, z_q_and, z_q_or, z_q_not, z_q_ite, z_q_chain, z_q_mut, z_q_comp, z_qt_one, z_qs_ite, z_qs_store,
    o_add, o_addL, o_sub, o_mul, o_fdiv, o_mod, o_lt, o_le, o_gt, o_ge, o_isN, o_notN, o_neg, o_lenL, o_lenT, o_lenC, o_max, o_min, o_int, o_intB, o_isiI, o_isiB, o_isiS, o_isiT, o_isiL, o_isiD, kInt, kBl, kStr, kTup, kLst, kDic, o_ixL, o_ixT, o_ixC, o_tupL, o_tupT, o_lstL, o_lstT, g_nil, g_val, g_at, v_val, v_at, r_p, r_l, gt_0, gt_s, bR_s, bR_n, ite_some_eq, ite_none_eq,
    movK, ta_nil, ta_val, ta_at, taAt_p, taAt_l, taAt_m, Val.r, Val.rd, R.pure, lentOk, MOp.keeps, isLst, D.isNon,
    List.map_cons, List.map_nil, List.length_cons, List.length_nil, List.set_cons_zero, List.set_cons_succ, Option.map_some, Option.map_none, Option.bind_some, Option.bind_none, Option.some.injEq, Val.val.injEq, R.p.injEq, D.bl.injEq, D.int.injEq, D.str.injEq, D.tup.injEq, exists_eq_left', exists_eq_left, if_true, if_false, Bool.false_eq_true, decide_eq_true_eq, true_and, and_true, reduceCtorEq, ite_true, ite_false, fr_nil, fr_cons, fp_s, fp_t, fps_nil, fps_cons, lk_nil, lk_val, lk_at, lkAt_p, lkAt_l, lkAt_m, lockE_nil, lockE_cons, unlockE_nil, unlockE_cons, lockF_eq, ip_nil, ip_cons, po_n, po_p, pi_s, pi_t, pis_nil, pis_cons, wipe_nil, wipe_cons, rest_nil, rest_cons, gb_nil, gb_val, gb_at, gb_lent, bp_s, bp_t, bps_nil, bps_cons,
    szL, mulL, mulR, divL, si_seqL, si_seqT, si_seqS, si_rng1, si_rng2, sl_l, sl_t, sl_s, o_slA, o_slB, o_slAB, o_revL, o_revT, o_repr, o_addTT, o_mulS, m_app, m_ext, st_l, QC_e, z_qs_for, o_addS, o_lenS, o_ixS, iI_int, iB_int, iS_int, iT_int, iL_int, iN_int, iD_int, iI_bool, iB_bool, iS_bool, iT_bool, iL_bool, iN_bool, iD_bool, iI_str, iB_str, iS_str, iT_str, iL_str, iN_str, iD_str, iI_tuple, iB_tuple, iS_tuple, iT_tuple, iL_tuple, iN_tuple, iD_tuple, iI_list, iB_list, iS_list, iT_list, iL_list, iN_list, iD_list, iI_dict, iB_dict, iS_dict, iT_dict, iL_dict, iN_dict, iD_dict, out_0, out_c, o_pow10, o_eq, o_ne, deq_int, deq_str, eq_bl,
    Nat.reduceAdd, Nat.reduceSub, Nat.reduceMul, Nat.reduceLT, Nat.reduceLeDiff, Nat.reduceBEq, Nat.reduceEqDiff, Int.reduceAdd, Int.reduceSub, Int.reduceMul, Int.reduceNeg, Int.reduceLT, Int.reduceLE, Int.reduceEq, Int.reduceNe, Int.reducePow, Int.reduceToNat, Nat.reducePow, ne_eq, not_true_eq_false, not_false_eq_true, and_self, Bool.not_false, Bool.not_true, Bool.true_and, Bool.and_true, Bool.false_and, Bool.and_false, List.contains_cons, List.contains_nil, beq_self_eq_true, Bool.true_or, Bool.or_true, Bool.or_false, Bool.false_or, List.cons_append, List.nil_append]
        refine QS_inv (I := fun items ρ => ∃ (dn rs : List Pt) (l : Nat) (acc : List Int) (t3 t4 : Option R), ps.reverse = dn ++ rs ∧ acc.length = dn.length ∧ items = rs.map portD ∧ digR rs l acc = digR ps.reverse k [] ∧ ρ = [some (.p (.tup (ps.map portD))), some (.l (((List.range k).map fun n => digR ps.reverse n []).map rowD)), some (.p (.int (prodR ps.reverse : Nat))), t3, t4, some (.p (.int k)), some (.p (rowD acc)), some (.p (.int l))])
          ⟨[], ps.reverse, k, [], _, _, rfl, rfl, rfl, rfl, rfl⟩ ?_ ?_
        · rintro _ ⟨dn, rs, l, acc, t3, t4, e, _, hi, hd, rfl⟩
          cases rs with
          | cons _ _ => exact nomatch hi
          | nil =>
            rw [← hd]
            exact ⟨_, _, _, rfl⟩
        · rintro x xs _ ⟨dn, rs, l, acc, t3, t4, e, ha, hi, hd, rfl⟩
          cases rs with
          | nil => exact nomatch hi
          | cons p rs =>
            cases hi
            have hq : p.2 ≤ 3 := hp.2 p (List.mem_reverse.mp (by rw [e]; simp))
            have n0 : ¬ ((p.2 : Int) + 1 = 0) := by omega
            have d0 : divOk ((p.2 : Int) + 1) = true := divL (by omega) (by omega)
            have la : 1 + (acc.map D.int).length ≤ sizeLine := by
              have h3 := hp.1
              rw [← List.length_reverse, e] at h3
              simp at h3
              rw [List.length_map]
              exact Nat.le_trans (m := 100) (by omega) (by decide)
            have m1 : (l : Int).fmod ((p.2 : Int) + 1) = ((l % (p.2 + 1) : Nat) : Int) := by
              rw [Int.fmod_eq_emod_of_nonneg _ (by omega)]; exact (Int.natCast_emod l (p.2 + 1)).symm
            have m2 : (l : Int).fdiv ((p.2 : Int) + 1) = ((l / (p.2 + 1) : Nat) : Int) := by
              rw [Int.fdiv_eq_ediv_of_nonneg _ (by omega)]; exact (Int.natCast_ediv l (p.2 + 1)).symm
            simp only [portD, rowD, n0, d0, la, m1, m2, z_RX_ok, z_RX_stuck, z_CW_ok, z_we_c, z_we_tup, z_we_lst, z_we_dic, z_q_call, z_we_nil, z_we_cons, z_wt_nil, z_ws_nil, z_ws_cons, z_ws_set, z_ws_setP, z_ws_par, z_ws_ex, z_ws_ret, z_ws_retN, z_ws_brk, z_ws_cont, z_ws_pass, z_ws_aug, z_OB_some, z_OB_none, z_OB_if, z_OB_ifi, z_OB_map, z_OB_bind, z_TB_val, z_PB_p, z_q_vo, z_q_ve, z_q_va, z_q_mov, z_q_frz, z_q_lend, z_q_op, z_q_and, z_q_or, z_q_not, z_q_ite, z_q_chain, z_q_mut, z_q_comp, z_qt_one, z_qs_ite, z_qs_store,
    o_add, o_addL, o_sub, o_mul, o_fdiv, o_mod, o_lt, o_le, o_gt, o_ge, o_isN, o_notN, o_neg, o_lenL, o_lenT, o_lenC, o_max, o_min, o_int, o_intB, o_isiI, o_isiB, o_isiS, o_isiT, o_isiL, o_isiD, kInt, kBl, kStr, kTup, kLst, kDic, o_ixL, o_ixT, o_ixC, o_tupL, o_tupT, o_lstL, o_lstT, g_nil, g_val, g_at, v_val, v_at, r_p, r_l, gt_0, gt_s, bR_s, bR_n, ite_some_eq, ite_none_eq,
    movK, ta_nil, ta_val, ta_at, taAt_p, taAt_l, taAt_m, Val.r, Val.rd, R.pure, lentOk, MOp.keeps, isLst, D.isNon,
    List.map_cons, List.map_nil, List.length_cons, List.length_nil, List.set_cons_zero, List.set_cons_succ, Option.map_some, Option.map_none, Option.bind_some, Option.bind_none, Option.some.injEq, Val.val.injEq, R.p.injEq, D.bl.injEq, D.int.injEq, D.str.injEq, D.tup.injEq, exists_eq_left', exists_eq_left, if_true, if_false, Bool.false_eq_true, decide_eq_true_eq, true_and, and_true, reduceCtorEq, ite_true, ite_false, fr_nil, fr_cons, fp_s, fp_t, fps_nil, fps_cons, lk_nil, lk_val, lk_at, lkAt_p, lkAt_l, lkAt_m, lockE_nil, lockE_cons, unlockE_nil, unlockE_cons, lockF_eq, ip_nil, ip_cons, po_n, po_p, pi_s, pi_t, pis_nil, pis_cons, wipe_nil, wipe_cons, rest_nil, rest_cons, gb_nil, gb_val, gb_at, gb_lent, bp_s, bp_t, bps_nil, bps_cons,
    szL, mulL, mulR, divL, si_seqL, si_seqT, si_seqS, si_rng1, si_rng2, sl_l, sl_t, sl_s, o_slA, o_slB, o_slAB, o_revL, o_revT, o_repr, o_addTT, o_mulS, m_app, m_ext, st_l, QC_e, z_qs_for, o_addS, o_lenS, o_ixS, iI_int, iB_int, iS_int, iT_int, iL_int, iN_int, iD_int, iI_bool, iB_bool, iS_bool, iT_bool, iL_bool, iN_bool, iD_bool, iI_str, iB_str, iS_str, iT_str, iL_str, iN_str, iD_str, iI_tuple, iB_tuple, iS_tuple, iT_tuple, iL_tuple, iN_tuple, iD_tuple, iI_list, iB_list, iS_list, iT_list, iL_list, iN_list, iD_list, iI_dict, iB_dict, iS_dict, iT_dict, iL_dict, iN_dict, iD_dict, out_0, out_c, o_pow10, o_eq, o_ne, deq_int, deq_str, eq_bl,
    Nat.reduceAdd, Nat.reduceSub, Nat.reduceMul, Nat.reduceLT, Nat.reduceLeDiff, Nat.reduceBEq, Nat.reduceEqDiff, Int.reduceAdd, Int.reduceSub, Int.reduceMul, Int.reduceNeg, Int.reduceLT, Int.reduceLE, Int.reduceEq, Int.reduceNe, Int.reducePow, Int.reduceToNat, Nat.reducePow, ne_eq, not_true_eq_false, not_false_eq_true, and_self, Bool.not_false, Bool.not_true, Bool.true_and, Bool.and_true, Bool.false_and, Bool.and_false, List.contains_cons, List.contains_nil, beq_self_eq_true, Bool.true_or, Bool.or_true, Bool.or_false, Bool.false_or, List.cons_append, List.nil_append]
            exact ⟨dn ++ [p], rs, l / (p.2 + 1), ((l % (p.2 + 1) : Nat) : Int) :: acc, _, _, by rw [e]; simp, by simp [ha], rfl, hd, rfl⟩
      rintro _ ⟨t3, t4, t7, rfl⟩
      have hl : (((List.range k).map fun n => digR ps.reverse n []).map rowD).length < sizeLine := by
        rw [List.length_map, List.length_map, List.length_range]
        exact Nat.lt_of_lt_of_le (m := 100) (by omega) (by decide)
      have z : ((List.range (k + 1)).map fun n => digR ps.reverse n []).map rowD = ((List.range k).map fun n => digR ps.reverse n []).map rowD ++ [D.tup ((digR ps.reverse k []).map D.int)] := by
        rw [List.range_succ, List.map_append, List.map_append]; rfl
      have z' : ((List.range k).map fun n => digR ps.reverse n []).map (fun r => D.tup (r.map D.int)) = ((List.range k).map fun n => digR ps.reverse n []).map rowD := rfl
      have hl' : (((List.range k).map fun n => digR ps.reverse n []).map (fun r => D.tup (r.map D.int))).length < sizeLine := hl
      simp only [rowD, hl, hl', z_RX_ok, z_RX_stuck, z_CW_ok, z_we_c, z_we_tup, z_we_lst, z_we_dic, z_q_call, z_we_nil, z_we_cons, z_wt_nil, z_ws_nil, z_ws_cons, z_ws_set, z_ws_setP, z_ws_par, z_ws_ex, z_ws_ret, z_ws_retN, z_ws_brk, z_ws_cont, z_ws_pass, z_ws_aug, z_OB_some, z_OB_none, z_OB_if, z_OB_ifi, z_OB_map, z_OB_bind, z_TB_val, z_PB_p, z_q_vo, z_q_ve, z_q_va, z_q_mov, z_q_frz, z_q_lend, z_q_op, z_q_and, z_q_or, z_q_not, z_q_ite, z_q_chain, z_q_mut, z_q_comp, z_qt_one, z_qs_ite, z_qs_store,
    o_add, o_addL, o_sub, o_mul, o_fdiv, o_mod, o_lt, o_le, o_gt, o_ge, o_isN, o_notN, o_neg, o_lenL, o_lenT, o_lenC, o_max, o_min, o_int, o_intB, o_isiI, o_isiB, o_isiS, o_isiT, o_isiL, o_isiD, kInt, kBl, kStr, kTup, kLst, kDic, o_ixL, o_ixT, o_ixC, o_tupL, o_tupT, o_lstL, o_lstT, g_nil, g_val, g_at, v_val, v_at, r_p, r_l, gt_0, gt_s, bR_s, bR_n, ite_some_eq, ite_none_eq,
    movK, ta_nil, ta_val, ta_at, taAt_p, taAt_l, taAt_m, Val.r, Val.rd, R.pure, lentOk, MOp.keeps, isLst, D.isNon,
    List.map_cons, List.map_nil, List.length_cons, List.length_nil, List.set_cons_zero, List.set_cons_succ, Option.map_some, Option.map_none, Option.bind_some, Option.bind_none, Option.some.injEq, Val.val.injEq, R.p.injEq, D.bl.injEq, D.int.injEq, D.str.injEq, D.tup.injEq, exists_eq_left', exists_eq_left, if_true, if_false, Bool.false_eq_true, decide_eq_true_eq, true_and, and_true, reduceCtorEq, ite_true, ite_false, fr_nil, fr_cons, fp_s, fp_t, fps_nil, fps_cons, lk_nil, lk_val, lk_at, lkAt_p, lkAt_l, lkAt_m, lockE_nil, lockE_cons, unlockE_nil, unlockE_cons, lockF_eq, ip_nil, ip_cons, po_n, po_p, pi_s, pi_t, pis_nil, pis_cons, wipe_nil, wipe_cons, rest_nil, rest_cons, gb_nil, gb_val, gb_at, gb_lent, bp_s, bp_t, bps_nil, bps_cons,
    szL, mulL, mulR, divL, si_seqL, si_seqT, si_seqS, si_rng1, si_rng2, sl_l, sl_t, sl_s, o_slA, o_slB, o_slAB, o_revL, o_revT, o_repr, o_addTT, o_mulS, m_app, m_ext, st_l, QC_e, z_qs_for, o_addS, o_lenS, o_ixS, iI_int, iB_int, iS_int, iT_int, iL_int, iN_int, iD_int, iI_bool, iB_bool, iS_bool, iT_bool, iL_bool, iN_bool, iD_bool, iI_str, iB_str, iS_str, iT_str, iL_str, iN_str, iD_str, iI_tuple, iB_tuple, iS_tuple, iT_tuple, iL_tuple, iN_tuple, iD_tuple, iI_list, iB_list, iS_list, iT_list, iL_list, iN_list, iD_list, iI_dict, iB_dict, iS_dict, iT_dict, iL_dict, iN_dict, iD_dict, out_0, out_c, o_pow10, o_eq, o_ne, deq_int, deq_str, eq_bl,
    Nat.reduceAdd, Nat.reduceSub, Nat.reduceMul, Nat.reduceLT, Nat.reduceLeDiff, Nat.reduceBEq, Nat.reduceEqDiff, Int.reduceAdd, Int.reduceSub, Int.reduceMul, Int.reduceNeg, Int.reduceLT, Int.reduceLE, Int.reduceEq, Int.reduceNe, Int.reducePow, Int.reduceToNat, Nat.reducePow, ne_eq, not_true_eq_false, not_false_eq_true, and_self, Bool.not_false, Bool.not_true, Bool.true_and, Bool.and_true, Bool.false_and, Bool.and_false, List.contains_cons, List.contains_nil, beq_self_eq_true, Bool.true_or, Bool.or_true, Bool.or_false, Bool.false_or, List.cons_append, List.nil_append]
      exact ⟨k + 1, n, _, _, _, _, _, rfl, by omega, by rw [z]⟩
  rintro _ ⟨t3, t4, t5, t6, t7, rfl⟩
  simp only [z_RX_ok, z_RX_stuck, z_CW_ok, z_we_c, z_we_tup, z_we_lst, z_we_dic, z_q_call, z_we_nil, z_we_cons, z_wt_nil, z_ws_nil, z_ws_cons, z_ws_set, z_ws_setP, z_ws_par, z_ws_ex, z_ws_ret, z_ws_retN, z_ws_brk, z_ws_cont, z_ws_pass, z_ws_aug, z_OB_some, z_OB_none, z_OB_if, z_OB_ifi, z_OB_map, z_OB_bind, z_TB_val, z_PB_p, z_q_vo, z_q_ve, z_q_va, z_q_mov, z_q_frz, z_q_lend, z_q_op, z_q_and, z_q_or, z_q_not, z_q_ite, z_q_chain, z_q_mut, z_q_comp, z_qt_one, z_qs_ite, z_qs_store,
    o_add, o_addL, o_sub, o_mul, o_fdiv, o_mod, o_lt, o_le, o_gt, o_ge, o_isN, o_notN, o_neg, o_lenL, o_lenT, o_lenC, o_max, o_min, o_int, o_intB, o_isiI, o_isiB, o_isiS, o_isiT, o_isiL, o_isiD, kInt, kBl, kStr, kTup, kLst, kDic, o_ixL, o_ixT, o_ixC, o_tupL, o_tupT, o_lstL, o_lstT, g_nil, g_val, g_at, v_val, v_at, r_p, r_l, gt_0, gt_s, bR_s, bR_n, ite_some_eq, ite_none_eq,
    movK, ta_nil, ta_val, ta_at, taAt_p, taAt_l, taAt_m, Val.r, Val.rd, R.pure, lentOk, MOp.keeps, isLst, D.isNon,
    List.map_cons, List.map_nil, List.length_cons, List.length_nil, List.set_cons_zero, List.set_cons_succ, Option.map_some, Option.map_none, Option.bind_some, Option.bind_none, Option.some.injEq, Val.val.injEq, R.p.injEq, D.bl.injEq, D.int.injEq, D.str.injEq, D.tup.injEq, exists_eq_left', exists_eq_left, if_true, if_false, Bool.false_eq_true, decide_eq_true_eq, true_and, and_true, reduceCtorEq, ite_true, ite_false, fr_nil, fr_cons, fp_s, fp_t, fps_nil, fps_cons, lk_nil, lk_val, lk_at, lkAt_p, lkAt_l, lkAt_m, lockE_nil, lockE_cons, unlockE_nil, unlockE_cons, lockF_eq, ip_nil, ip_cons, po_n, po_p, pi_s, pi_t, pis_nil, pis_cons, wipe_nil, wipe_cons, rest_nil, rest_cons, gb_nil, gb_val, gb_at, gb_lent, bp_s, bp_t, bps_nil, bps_cons,
    szL, mulL, mulR, divL, si_seqL, si_seqT, si_seqS, si_rng1, si_rng2, sl_l, sl_t, sl_s, o_slA, o_slB, o_slAB, o_revL, o_revT, o_repr, o_addTT, o_mulS, m_app, m_ext, st_l, QC_e, z_qs_for, o_addS, o_lenS, o_ixS, iI_int, iB_int, iS_int, iT_int, iL_int, iN_int, iD_int, iI_bool, iB_bool, iS_bool, iT_bool, iL_bool, iN_bool, iD_bool, iI_str, iB_str, iS_str, iT_str, iL_str, iN_str, iD_str, iI_tuple, iB_tuple, iS_tuple, iT_tuple, iL_tuple, iN_tuple, iD_tuple, iI_list, iB_list, iS_list, iT_list, iL_list, iN_list, iD_list, iI_dict, iB_dict, iS_dict, iT_dict, iL_dict, iN_dict, iD_dict, out_0, out_c, o_pow10, o_eq, o_ne, deq_int, deq_str, eq_bl,
    Nat.reduceAdd, Nat.reduceSub, Nat.reduceMul, Nat.reduceLT, Nat.reduceLeDiff, Nat.reduceBEq, Nat.reduceEqDiff, Int.reduceAdd, Int.reduceSub, Int.reduceMul, Int.reduceNeg, Int.reduceLT, Int.reduceLE, Int.reduceEq, Int.reduceNe, Int.reducePow, Int.reduceToNat, Nat.reducePow, ne_eq, not_true_eq_false, not_false_eq_true, and_self, Bool.not_false, Bool.not_true, Bool.true_and, Bool.and_true, Bool.false_and, Bool.and_false, List.contains_cons, List.contains_nil, beq_self_eq_true, Bool.true_or, Bool.or_true, Bool.or_false, Bool.false_or, List.cons_append, List.nil_append]
theorem allV_vals : ∀ (ps : List Pt) (acc : List (List Int)), (∀ p ∈ ps, p.2 ≤ 3) → (∀ r ∈ acc, ∀ v ∈ r, 0 ≤ v ∧ v ≤ 3) → ∀ r ∈ ps.foldl stepV acc, ∀ v ∈ r, 0 ≤ v ∧ v ≤ 3
  | [], acc, _, h => h
  | p :: ps, acc, hp, h => by
    rw [List.foldl_cons]
    refine allV_vals ps _ (fun q hq => hp q (List.mem_cons_of_mem _ hq)) fun r hr v hv => ?_
    unfold stepV at hr
    obtain ⟨row, h1, h2⟩ := List.mem_flatMap.mp hr
    obtain ⟨w, hw, rfl⟩ := List.mem_map.mp h2
    rw [List.mem_range] at hw
    rcases List.mem_append.mp hv with hv | hv
    · exact h row h1 v hv
    · rw [List.mem_singleton.mp hv]
      have := hp p List.mem_cons_self
      omega
theorem rows_repr {ps : List Pt} (hp : okP ps) : ∃ s, reprD (.lst ((allV ps).map rowD)) = some s := by
  have hv := allV_vals ps [[]] hp.2 (by simp)
  have hr := allV_row ps [[]] 0 (by simp)
  have hl := allV_le hp
  refine repr_some ?_ ?_ ?_
  · show fines _ = true
    refine fines_map fun r hr => ?_
    show fines _ = true
    refine fines_map fun v hv' => ?_
    have := hv r hr v hv'
    simp only [fine, decide_eq_true_eq]
    exact Nat.lt_of_le_of_lt (m := 3) (by omega) (by decide)
  · show deps _ + 1 ≤ 60
    have : deps ((allV ps).map rowD) ≤ 1 := deps_map fun r _ => by
      show deps _ + 1 ≤ 1
      have : deps (r.map D.int) ≤ 0 := deps_map fun v _ => Nat.le_refl _
      omega
    omega
  · show wgts _ ≤ 200000
    have : wgts ((allV ps).map rowD) ≤ (allV ps).length * (3 + 1) := wgts_map fun r hr' => by
      show wgts _ ≤ 3
      have h1 : wgts (r.map D.int) ≤ r.length * (0 + 1) := wgts_map fun v _ => Nat.le_refl _
      have := hr r hr'
      have := hp.1
      omega
    omega
theorem run_law (hN : NextOk cl) {ns : List Int} (hl : ns.length ≤ 63) (hD : DrawOk cl ns)
    (hNm : ∀ {a b c m : Int}, 0 ≤ b → b < 2 ^ 50 → 0 ≤ m → m ≤ 26 → QC (cl "_law_names" [dr a b c, .p (.int m)]) (fun r o => ∃ ns b' c', r = .l (ns.map D.str) ∧ o = [some (dr a b' c'), some (.p (.int m))] ∧ NamesOk ns ∧ (ns.length : Int) = m ∧ 0 ≤ b' ∧ b' ≤ b + 27) X0)
    (hA : ∀ ps, okP ps → cl "all_values" [.p (.tup (ps.map portD))] = .ok (.l ((allV ps).map rowD)) [some (.p (.tup (ps.map portD)))])
    (hL : ∀ ps, okP ps → cl "_law_values" [.p (.tup (ps.map portD))] = .ok (.l ((allV ps).map rowD)) [some (.p (.tup (ps.map portD)))])
    (hC : ∀ {n m : Int}, 0 < m → cl "_law_cut_right" [.p (.int n), .p (.int m)] = .ok (.p (.bl true)) [some (.p (.int n)), some (.p (.int m))]) :
    QC (f_law.run cl [.p (.scr (ns.map D.int))]) (fun r o => r = .p (.bl true)) X0 := by
  rw [z_wc_run]
  refine ⟨rfl, rfl, ?_⟩
  simp only [f_law, List.replicate, List.append, List.cons_append, List.nil_append, Nat.reduceSub, List.map_cons, List.map_nil]
  refine QS_cut (fun ρ => True) ?_ ?_
  · have hs1 : -4611686018427387904 ≤ (if (ns.length : Int) < 16 then (ns.length : Int) else 16) + 1 := by split <;> omega
    have hs2 : (if (ns.length : Int) < 16 then (ns.length : Int) else 16) + 1 < 4611686018427387904 := by split <;> omega
    simp only [List.length_map, hs1, hs2, z_RX_ok, z_RX_stuck, z_CW_ok, z_we_c, z_we_tup, z_we_lst, z_we_dic, z_q_call, z_we_nil, z_we_cons, z_wt_nil, z_ws_nil, z_ws_cons, z_ws_set, z_ws_setP, z_ws_par, z_ws_ex, z_ws_ret, z_ws_retN, z_ws_brk, z_ws_cont, z_ws_pass, z_ws_aug, z_OB_some, z_OB_none, z_OB_if, z_OB_ifi, z_OB_map, z_OB_bind, z_TB_val, z_PB_p, z_q_vo, z_q_ve, z_q_va, z_q_mov, z_q_frz, z_q_lend, z_q_op, z_q_and, z_q_or, z_q_not, z_q_ite, z_q_chain, z_q_mut, z_q_comp, z_qt_one, z_qs_ite, z_qs_store,
    o_add, o_addL, o_sub, o_mul, o_fdiv, o_mod, o_lt, o_le, o_gt, o_ge, o_isN, o_notN, o_neg, o_lenL, o_lenT, o_lenC, o_max, o_min, o_int, o_intB, o_isiI, o_isiB, o_isiS, o_isiT, o_isiL, o_isiD, kInt, kBl, kStr, kTup, kLst, kDic, o_ixL, o_ixT, o_ixC, o_tupL, o_tupT, o_lstL, o_lstT, g_nil, g_val, g_at, v_val, v_at, r_p, r_l, gt_0, gt_s, bR_s, bR_n, ite_some_eq, ite_none_eq,
    movK, ta_nil, ta_val, ta_at, taAt_p, taAt_l, taAt_m, Val.r, Val.rd, R.pure, lentOk, MOp.keeps, isLst, D.isNon,
    List.map_cons, List.map_nil, List.length_cons, List.length_nil, List.set_cons_zero, List.set_cons_succ, Option.map_some, Option.map_none, Option.bind_some, Option.bind_none, Option.some.injEq, Val.val.injEq, R.p.injEq, D.bl.injEq, D.int.injEq, D.str.injEq, D.tup.injEq, exists_eq_left', exists_eq_left, if_true, if_false, Bool.false_eq_true, decide_eq_true_eq, true_and, and_true, reduceCtorEq, ite_true, ite_false, fr_nil, fr_cons, fp_s, fp_t, fps_nil, fps_cons, lk_nil, lk_val, lk_at, lkAt_p, lkAt_l, lkAt_m, lockE_nil, lockE_cons, unlockE_nil, unlockE_cons, lockF_eq, ip_nil, ip_cons, po_n, po_p, pi_s, pi_t, pis_nil, pis_cons, wipe_nil, wipe_cons, rest_nil, rest_cons, gb_nil, gb_val, gb_at, gb_lent, bp_s, bp_t, bps_nil, bps_cons,
    szL, mulL, mulR, divL, si_seqL, si_seqT, si_seqS, si_rng1, si_rng2, sl_l, sl_t, sl_s, o_slA, o_slB, o_slAB, o_revL, o_revT, o_repr, o_addTT, o_mulS, m_app, m_ext, st_l, QC_e, z_qs_for, o_addS, o_lenS, o_ixS, iI_int, iB_int, iS_int, iT_int, iL_int, iN_int, iD_int, iI_bool, iB_bool, iS_bool, iT_bool, iL_bool, iN_bool, iD_bool, iI_str, iB_str, iS_str, iT_str, iL_str, iN_str, iD_str, iI_tuple, iB_tuple, iS_tuple, iT_tuple, iL_tuple, iN_tuple, iD_tuple, iI_list, iB_list, iS_list, iT_list, iL_list, iN_list, iD_list, iI_dict, iB_dict, iS_dict, iT_dict, iL_dict, iN_dict, iD_dict, out_0, out_c, o_pow10, o_eq, o_ne, deq_int, deq_str, eq_bl,
    Nat.reduceAdd, Nat.reduceSub, Nat.reduceMul, Nat.reduceLT, Nat.reduceLeDiff, Nat.reduceBEq, Nat.reduceEqDiff, Int.reduceAdd, Int.reduceSub, Int.reduceMul, Int.reduceNeg, Int.reduceLT, Int.reduceLE, Int.reduceEq, Int.reduceNe, Int.reducePow, Int.reduceToNat, Nat.reducePow, ne_eq, not_true_eq_false, not_false_eq_true, and_self, Bool.not_false, Bool.not_true, Bool.true_and, Bool.and_true, Bool.false_and, Bool.and_false, List.contains_cons, List.contains_nil, beq_self_eq_true, Bool.true_or, Bool.or_true, Bool.or_false, Bool.false_or, List.cons_append, List.nil_append]
    refine QS_inv (I := fun items ρ => (∃ o1 o2 o3 o4 o5 o6 o7 o8 o9 o10, pureO o9 = true ∧ pureO o10 = true ∧ ρ = [some (.p (.scr (ns.map D.int))), o1, o2, o3, o4, o5, o6, o7, o8, o9, o10]) ∧ ∀ x ∈ items, ∃ k : Int, x = .int k ∧ 0 ≤ k ∧ k ≤ 64) ⟨⟨_, _, _, _, _, _, _, _, _, _, rfl, rfl, rfl⟩, ?_⟩ (fun _ _ => trivial) ?_
    · intro x hx
      unfold rangeD at hx
      obtain ⟨k, hk, rfl⟩ := List.mem_map.mp hx
      rw [List.mem_range] at hk
      refine ⟨_, rfl, by omega, ?_⟩
      split at hk <;> omega
    rintro x xs _ ⟨⟨o1, o2, o3, o4, o5, o6, o7, o8, o9, o10, h9, h10, rfl⟩, hx⟩
    have hxs : ∀ x ∈ xs, ∃ k : Int, x = .int k ∧ 0 ≤ k ∧ k ≤ 64 := fun y hy => hx y (List.mem_cons_of_mem _ hy)
    obtain ⟨k, rfl, k0, k64⟩ := hx x List.mem_cons_self
    simp only [bp_s, List.set_cons_succ, List.set_cons_zero, z_OB_some]
    refine QS_cut (fun ρ => ∃ a c, ρ = [some (.p (.scr (ns.map D.int))), some (.p (.int k)), some (dr a (64 * k) c), o3, o4, o5, o6, o7, o8, o9, o10]) ?_ ?_
    · simp only [z_RX_ok, z_RX_stuck, z_CW_ok, z_we_c, z_we_tup, z_we_lst, z_we_dic, z_q_call, z_we_nil, z_we_cons, z_wt_nil, z_ws_nil, z_ws_cons, z_ws_set, z_ws_setP, z_ws_par, z_ws_ex, z_ws_ret, z_ws_retN, z_ws_brk, z_ws_cont, z_ws_pass, z_ws_aug, z_OB_some, z_OB_none, z_OB_if, z_OB_ifi, z_OB_map, z_OB_bind, z_TB_val, z_PB_p, z_q_vo, z_q_ve, z_q_va, z_q_mov, z_q_frz, z_q_lend, z_q_op, z_q_and, z_q_or, z_q_not, z_q_ite, z_q_chain, z_q_mut, z_q_comp, z_qt_one, z_qs_ite, z_qs_store,
    o_add, o_addL, o_sub, o_mul, o_fdiv, o_mod, o_lt, o_le, o_gt, o_ge, o_isN, o_notN, o_neg, o_lenL, o_lenT, o_lenC, o_max, o_min, o_int, o_intB, o_isiI, o_isiB, o_isiS, o_isiT, o_isiL, o_isiD, kInt, kBl, kStr, kTup, kLst, kDic, o_ixL, o_ixT, o_ixC, o_tupL, o_tupT, o_lstL, o_lstT, g_nil, g_val, g_at, v_val, v_at, r_p, r_l, gt_0, gt_s, bR_s, bR_n, ite_some_eq, ite_none_eq,
    movK, ta_nil, ta_val, ta_at, taAt_p, taAt_l, taAt_m, Val.r, Val.rd, R.pure, lentOk, MOp.keeps, isLst, D.isNon,
    List.map_cons, List.map_nil, List.length_cons, List.length_nil, List.set_cons_zero, List.set_cons_succ, Option.map_some, Option.map_none, Option.bind_some, Option.bind_none, Option.some.injEq, Val.val.injEq, R.p.injEq, D.bl.injEq, D.int.injEq, D.str.injEq, D.tup.injEq, exists_eq_left', exists_eq_left, if_true, if_false, Bool.false_eq_true, decide_eq_true_eq, true_and, and_true, reduceCtorEq, ite_true, ite_false, fr_nil, fr_cons, fp_s, fp_t, fps_nil, fps_cons, lk_nil, lk_val, lk_at, lkAt_p, lkAt_l, lkAt_m, lockE_nil, lockE_cons, unlockE_nil, unlockE_cons, lockF_eq, ip_nil, ip_cons, po_n, po_p, pi_s, pi_t, pis_nil, pis_cons, wipe_nil, wipe_cons, rest_nil, rest_cons, gb_nil, gb_val, gb_at, gb_lent, bp_s, bp_t, bps_nil, bps_cons,
    szL, mulL, mulR, divL, si_seqL, si_seqT, si_seqS, si_rng1, si_rng2, sl_l, sl_t, sl_s, o_slA, o_slB, o_slAB, o_revL, o_revT, o_repr, o_addTT, o_mulS, m_app, m_ext, st_l, QC_e, z_qs_for, o_addS, o_lenS, o_ixS, iI_int, iB_int, iS_int, iT_int, iL_int, iN_int, iD_int, iI_bool, iB_bool, iS_bool, iT_bool, iL_bool, iN_bool, iD_bool, iI_str, iB_str, iS_str, iT_str, iL_str, iN_str, iD_str, iI_tuple, iB_tuple, iS_tuple, iT_tuple, iL_tuple, iN_tuple, iD_tuple, iI_list, iB_list, iS_list, iT_list, iL_list, iN_list, iD_list, iI_dict, iB_dict, iS_dict, iT_dict, iL_dict, iN_dict, iD_dict, out_0, out_c, o_pow10, o_eq, o_ne, deq_int, deq_str, eq_bl,
    Nat.reduceAdd, Nat.reduceSub, Nat.reduceMul, Nat.reduceLT, Nat.reduceLeDiff, Nat.reduceBEq, Nat.reduceEqDiff, Int.reduceAdd, Int.reduceSub, Int.reduceMul, Int.reduceNeg, Int.reduceLT, Int.reduceLE, Int.reduceEq, Int.reduceNe, Int.reducePow, Int.reduceToNat, Nat.reducePow, ne_eq, not_true_eq_false, not_false_eq_true, and_self, Bool.not_false, Bool.not_true, Bool.true_and, Bool.and_true, Bool.false_and, Bool.and_false, List.contains_cons, List.contains_nil, beq_self_eq_true, Bool.true_or, Bool.or_true, Bool.or_false, Bool.false_or, List.cons_append, List.nil_append]
      refine QC.mono (hD k0 k64) ?_ (fun _ _ _ _ z => z.elim)
      rintro _ _ ⟨a, c, rfl, rfl⟩
      simp only [z_RX_ok, z_RX_stuck, z_CW_ok, z_we_c, z_we_tup, z_we_lst, z_we_dic, z_q_call, z_we_nil, z_we_cons, z_wt_nil, z_ws_nil, z_ws_cons, z_ws_set, z_ws_setP, z_ws_par, z_ws_ex, z_ws_ret, z_ws_retN, z_ws_brk, z_ws_cont, z_ws_pass, z_ws_aug, z_OB_some, z_OB_none, z_OB_if, z_OB_ifi, z_OB_map, z_OB_bind, z_TB_val, z_PB_p, z_q_vo, z_q_ve, z_q_va, z_q_mov, z_q_frz, z_q_lend, z_q_op, z_q_and, z_q_or, z_q_not, z_q_ite, z_q_chain, z_q_mut, z_q_comp, z_qt_one, z_qs_ite, z_qs_store,
    o_add, o_addL, o_sub, o_mul, o_fdiv, o_mod, o_lt, o_le, o_gt, o_ge, o_isN, o_notN, o_neg, o_lenL, o_lenT, o_lenC, o_max, o_min, o_int, o_intB, o_isiI, o_isiB, o_isiS, o_isiT, o_isiL, o_isiD, kInt, kBl, kStr, kTup, kLst, kDic, o_ixL, o_ixT, o_ixC, o_tupL, o_tupT, o_lstL, o_lstT, g_nil, g_val, g_at, v_val, v_at, r_p, r_l, gt_0, gt_s, bR_s, bR_n, ite_some_eq, ite_none_eq,
    movK, ta_nil, ta_val, ta_at, taAt_p, taAt_l, taAt_m, Val.r, Val.rd, R.pure, lentOk, MOp.keeps, isLst, D.isNon,
    List.map_cons, List.map_nil, List.length_cons, List.length_nil, List.set_cons_zero, List.set_cons_succ, Option.map_some, Option.map_none, Option.bind_some, Option.bind_none, Option.some.injEq, Val.val.injEq, R.p.injEq, D.bl.injEq, D.int.injEq, D.str.injEq, D.tup.injEq, exists_eq_left', exists_eq_left, if_true, if_false, Bool.false_eq_true, decide_eq_true_eq, true_and, and_true, reduceCtorEq, ite_true, ite_false, fr_nil, fr_cons, fp_s, fp_t, fps_nil, fps_cons, lk_nil, lk_val, lk_at, lkAt_p, lkAt_l, lkAt_m, lockE_nil, lockE_cons, unlockE_nil, unlockE_cons, lockF_eq, ip_nil, ip_cons, po_n, po_p, pi_s, pi_t, pis_nil, pis_cons, wipe_nil, wipe_cons, rest_nil, rest_cons, gb_nil, gb_val, gb_at, gb_lent, bp_s, bp_t, bps_nil, bps_cons,
    szL, mulL, mulR, divL, si_seqL, si_seqT, si_seqS, si_rng1, si_rng2, sl_l, sl_t, sl_s, o_slA, o_slB, o_slAB, o_revL, o_revT, o_repr, o_addTT, o_mulS, m_app, m_ext, st_l, QC_e, z_qs_for, o_addS, o_lenS, o_ixS, iI_int, iB_int, iS_int, iT_int, iL_int, iN_int, iD_int, iI_bool, iB_bool, iS_bool, iT_bool, iL_bool, iN_bool, iD_bool, iI_str, iB_str, iS_str, iT_str, iL_str, iN_str, iD_str, iI_tuple, iB_tuple, iS_tuple, iT_tuple, iL_tuple, iN_tuple, iD_tuple, iI_list, iB_list, iS_list, iT_list, iL_list, iN_list, iD_list, iI_dict, iB_dict, iS_dict, iT_dict, iL_dict, iN_dict, iD_dict, out_0, out_c, o_pow10, o_eq, o_ne, deq_int, deq_str, eq_bl,
    Nat.reduceAdd, Nat.reduceSub, Nat.reduceMul, Nat.reduceLT, Nat.reduceLeDiff, Nat.reduceBEq, Nat.reduceEqDiff, Int.reduceAdd, Int.reduceSub, Int.reduceMul, Int.reduceNeg, Int.reduceLT, Int.reduceLE, Int.reduceEq, Int.reduceNe, Int.reducePow, Int.reduceToNat, Nat.reducePow, ne_eq, not_true_eq_false, not_false_eq_true, and_self, Bool.not_false, Bool.not_true, Bool.true_and, Bool.and_true, Bool.false_and, Bool.and_false, List.contains_cons, List.contains_nil, beq_self_eq_true, Bool.true_or, Bool.or_true, Bool.or_false, Bool.false_or, List.cons_append, List.nil_append]
      exact ⟨a, c, rfl⟩
    rintro _ ⟨a, c, rfl⟩
    refine QS_cut (fun ρ => ∃ (nms : List Str) (b c : Int), ρ = [some (.p (.scr (ns.map D.int))), some (.p (.int k)), some (dr a b c), some (.l (nms.map D.str)), o4, o5, o6, o7, o8, o9, o10] ∧ nms.length ≤ 3 ∧ 0 ≤ b ∧ b ≤ 5000) ?_ ?_
    · simp only [z_RX_ok, z_RX_stuck, z_CW_ok, z_we_c, z_we_tup, z_we_lst, z_we_dic, z_q_call, z_we_nil, z_we_cons, z_wt_nil, z_ws_nil, z_ws_cons, z_ws_set, z_ws_setP, z_ws_par, z_ws_ex, z_ws_ret, z_ws_retN, z_ws_brk, z_ws_cont, z_ws_pass, z_ws_aug, z_OB_some, z_OB_none, z_OB_if, z_OB_ifi, z_OB_map, z_OB_bind, z_TB_val, z_PB_p, z_q_vo, z_q_ve, z_q_va, z_q_mov, z_q_frz, z_q_lend, z_q_op, z_q_and, z_q_or, z_q_not, z_q_ite, z_q_chain, z_q_mut, z_q_comp, z_qt_one, z_qs_ite, z_qs_store,
    o_add, o_addL, o_sub, o_mul, o_fdiv, o_mod, o_lt, o_le, o_gt, o_ge, o_isN, o_notN, o_neg, o_lenL, o_lenT, o_lenC, o_max, o_min, o_int, o_intB, o_isiI, o_isiB, o_isiS, o_isiT, o_isiL, o_isiD, kInt, kBl, kStr, kTup, kLst, kDic, o_ixL, o_ixT, o_ixC, o_tupL, o_tupT, o_lstL, o_lstT, g_nil, g_val, g_at, v_val, v_at, r_p, r_l, gt_0, gt_s, bR_s, bR_n, ite_some_eq, ite_none_eq,
    movK, ta_nil, ta_val, ta_at, taAt_p, taAt_l, taAt_m, Val.r, Val.rd, R.pure, lentOk, MOp.keeps, isLst, D.isNon,
    List.map_cons, List.map_nil, List.length_cons, List.length_nil, List.set_cons_zero, List.set_cons_succ, Option.map_some, Option.map_none, Option.bind_some, Option.bind_none, Option.some.injEq, Val.val.injEq, R.p.injEq, D.bl.injEq, D.int.injEq, D.str.injEq, D.tup.injEq, exists_eq_left', exists_eq_left, if_true, if_false, Bool.false_eq_true, decide_eq_true_eq, true_and, and_true, reduceCtorEq, ite_true, ite_false, fr_nil, fr_cons, fp_s, fp_t, fps_nil, fps_cons, lk_nil, lk_val, lk_at, lkAt_p, lkAt_l, lkAt_m, lockE_nil, lockE_cons, unlockE_nil, unlockE_cons, lockF_eq, ip_nil, ip_cons, po_n, po_p, pi_s, pi_t, pis_nil, pis_cons, wipe_nil, wipe_cons, rest_nil, rest_cons, gb_nil, gb_val, gb_at, gb_lent, bp_s, bp_t, bps_nil, bps_cons,
    szL, mulL, mulR, divL, si_seqL, si_seqT, si_seqS, si_rng1, si_rng2, sl_l, sl_t, sl_s, o_slA, o_slB, o_slAB, o_revL, o_revT, o_repr, o_addTT, o_mulS, m_app, m_ext, st_l, QC_e, z_qs_for, o_addS, o_lenS, o_ixS, iI_int, iB_int, iS_int, iT_int, iL_int, iN_int, iD_int, iI_bool, iB_bool, iS_bool, iT_bool, iL_bool, iN_bool, iD_bool, iI_str, iB_str, iS_str, iT_str, iL_str, iN_str, iD_str, iI_tuple, iB_tuple, iS_tuple, iT_tuple, iL_tuple, iN_tuple, iD_tuple, iI_list, iB_list, iS_list, iT_list, iL_list, iN_list, iD_list, iI_dict, iB_dict, iS_dict, iT_dict, iL_dict, iN_dict, iD_dict, out_0, out_c, o_pow10, o_eq, o_ne, deq_int, deq_str, eq_bl,
    Nat.reduceAdd, Nat.reduceSub, Nat.reduceMul, Nat.reduceLT, Nat.reduceLeDiff, Nat.reduceBEq, Nat.reduceEqDiff, Int.reduceAdd, Int.reduceSub, Int.reduceMul, Int.reduceNeg, Int.reduceLT, Int.reduceLE, Int.reduceEq, Int.reduceNe, Int.reducePow, Int.reduceToNat, Nat.reducePow, ne_eq, not_true_eq_false, not_false_eq_true, and_self, Bool.not_false, Bool.not_true, Bool.true_and, Bool.and_true, Bool.false_and, Bool.and_false, List.contains_cons, List.contains_nil, beq_self_eq_true, Bool.true_or, Bool.or_true, Bool.or_false, Bool.false_or, List.cons_append, List.nil_append]
      refine QC.mono (hN (by omega) (by omega) (by omega) (by omega)) ?_ (fun _ _ _ _ z => z.elim)
      rintro _ _ ⟨m, b', c', rfl, rfl, i0, i8, g0, g1⟩
      simp only [z_RX_ok, z_RX_stuck, z_CW_ok, z_we_c, z_we_tup, z_we_lst, z_we_dic, z_q_call, z_we_nil, z_we_cons, z_wt_nil, z_ws_nil, z_ws_cons, z_ws_set, z_ws_setP, z_ws_par, z_ws_ex, z_ws_ret, z_ws_retN, z_ws_brk, z_ws_cont, z_ws_pass, z_ws_aug, z_OB_some, z_OB_none, z_OB_if, z_OB_ifi, z_OB_map, z_OB_bind, z_TB_val, z_PB_p, z_q_vo, z_q_ve, z_q_va, z_q_mov, z_q_frz, z_q_lend, z_q_op, z_q_and, z_q_or, z_q_not, z_q_ite, z_q_chain, z_q_mut, z_q_comp, z_qt_one, z_qs_ite, z_qs_store,
    o_add, o_addL, o_sub, o_mul, o_fdiv, o_mod, o_lt, o_le, o_gt, o_ge, o_isN, o_notN, o_neg, o_lenL, o_lenT, o_lenC, o_max, o_min, o_int, o_intB, o_isiI, o_isiB, o_isiS, o_isiT, o_isiL, o_isiD, kInt, kBl, kStr, kTup, kLst, kDic, o_ixL, o_ixT, o_ixC, o_tupL, o_tupT, o_lstL, o_lstT, g_nil, g_val, g_at, v_val, v_at, r_p, r_l, gt_0, gt_s, bR_s, bR_n, ite_some_eq, ite_none_eq,
    movK, ta_nil, ta_val, ta_at, taAt_p, taAt_l, taAt_m, Val.r, Val.rd, R.pure, lentOk, MOp.keeps, isLst, D.isNon,
    List.map_cons, List.map_nil, List.length_cons, List.length_nil, List.set_cons_zero, List.set_cons_succ, Option.map_some, Option.map_none, Option.bind_some, Option.bind_none, Option.some.injEq, Val.val.injEq, R.p.injEq, D.bl.injEq, D.int.injEq, D.str.injEq, D.tup.injEq, exists_eq_left', exists_eq_left, if_true, if_false, Bool.false_eq_true, decide_eq_true_eq, true_and, and_true, reduceCtorEq, ite_true, ite_false, fr_nil, fr_cons, fp_s, fp_t, fps_nil, fps_cons, lk_nil, lk_val, lk_at, lkAt_p, lkAt_l, lkAt_m, lockE_nil, lockE_cons, unlockE_nil, unlockE_cons, lockF_eq, ip_nil, ip_cons, po_n, po_p, pi_s, pi_t, pis_nil, pis_cons, wipe_nil, wipe_cons, rest_nil, rest_cons, gb_nil, gb_val, gb_at, gb_lent, bp_s, bp_t, bps_nil, bps_cons,
    szL, mulL, mulR, divL, si_seqL, si_seqT, si_seqS, si_rng1, si_rng2, sl_l, sl_t, sl_s, o_slA, o_slB, o_slAB, o_revL, o_revT, o_repr, o_addTT, o_mulS, m_app, m_ext, st_l, QC_e, z_qs_for, o_addS, o_lenS, o_ixS, iI_int, iB_int, iS_int, iT_int, iL_int, iN_int, iD_int, iI_bool, iB_bool, iS_bool, iT_bool, iL_bool, iN_bool, iD_bool, iI_str, iB_str, iS_str, iT_str, iL_str, iN_str, iD_str, iI_tuple, iB_tuple, iS_tuple, iT_tuple, iL_tuple, iN_tuple, iD_tuple, iI_list, iB_list, iS_list, iT_list, iL_list, iN_list, iD_list, iI_dict, iB_dict, iS_dict, iT_dict, iL_dict, iN_dict, iD_dict, out_0, out_c, o_pow10, o_eq, o_ne, deq_int, deq_str, eq_bl,
    Nat.reduceAdd, Nat.reduceSub, Nat.reduceMul, Nat.reduceLT, Nat.reduceLeDiff, Nat.reduceBEq, Nat.reduceEqDiff, Int.reduceAdd, Int.reduceSub, Int.reduceMul, Int.reduceNeg, Int.reduceLT, Int.reduceLE, Int.reduceEq, Int.reduceNe, Int.reducePow, Int.reduceToNat, Nat.reducePow, ne_eq, not_true_eq_false, not_false_eq_true, and_self, Bool.not_false, Bool.not_true, Bool.true_and, Bool.and_true, Bool.false_and, Bool.and_false, List.contains_cons, List.contains_nil, beq_self_eq_true, Bool.true_or, Bool.or_true, Bool.or_false, Bool.false_or, List.cons_append, List.nil_append]
      refine QC.mono (hNm g0 (by omega) i0 (by omega)) ?_ (fun _ _ _ _ z => z.elim)
      rintro _ _ ⟨nms, b2, c2, rfl, rfl, hn, hlen, g2, g3⟩
      simp only [z_RX_ok, z_RX_stuck, z_CW_ok, z_we_c, z_we_tup, z_we_lst, z_we_dic, z_q_call, z_we_nil, z_we_cons, z_wt_nil, z_ws_nil, z_ws_cons, z_ws_set, z_ws_setP, z_ws_par, z_ws_ex, z_ws_ret, z_ws_retN, z_ws_brk, z_ws_cont, z_ws_pass, z_ws_aug, z_OB_some, z_OB_none, z_OB_if, z_OB_ifi, z_OB_map, z_OB_bind, z_TB_val, z_PB_p, z_q_vo, z_q_ve, z_q_va, z_q_mov, z_q_frz, z_q_lend, z_q_op, z_q_and, z_q_or, z_q_not, z_q_ite, z_q_chain, z_q_mut, z_q_comp, z_qt_one, z_qs_ite, z_qs_store,
    o_add, o_addL, o_sub, o_mul, o_fdiv, o_mod, o_lt, o_le, o_gt, o_ge, o_isN, o_notN, o_neg, o_lenL, o_lenT, o_lenC, o_max, o_min, o_int, o_intB, o_isiI, o_isiB, o_isiS, o_isiT, o_isiL, o_isiD, kInt, kBl, kStr, kTup, kLst, kDic, o_ixL, o_ixT, o_ixC, o_tupL, o_tupT, o_lstL, o_lstT, g_nil, g_val, g_at, v_val, v_at, r_p, r_l, gt_0, gt_s, bR_s, bR_n, ite_some_eq, ite_none_eq,
    movK, ta_nil, ta_val, ta_at, taAt_p, taAt_l, taAt_m, Val.r, Val.rd, R.pure, lentOk, MOp.keeps, isLst, D.isNon,
    List.map_cons, List.map_nil, List.length_cons, List.length_nil, List.set_cons_zero, List.set_cons_succ, Option.map_some, Option.map_none, Option.bind_some, Option.bind_none, Option.some.injEq, Val.val.injEq, R.p.injEq, D.bl.injEq, D.int.injEq, D.str.injEq, D.tup.injEq, exists_eq_left', exists_eq_left, if_true, if_false, Bool.false_eq_true, decide_eq_true_eq, true_and, and_true, reduceCtorEq, ite_true, ite_false, fr_nil, fr_cons, fp_s, fp_t, fps_nil, fps_cons, lk_nil, lk_val, lk_at, lkAt_p, lkAt_l, lkAt_m, lockE_nil, lockE_cons, unlockE_nil, unlockE_cons, lockF_eq, ip_nil, ip_cons, po_n, po_p, pi_s, pi_t, pis_nil, pis_cons, wipe_nil, wipe_cons, rest_nil, rest_cons, gb_nil, gb_val, gb_at, gb_lent, bp_s, bp_t, bps_nil, bps_cons,
    szL, mulL, mulR, divL, si_seqL, si_seqT, si_seqS, si_rng1, si_rng2, sl_l, sl_t, sl_s, o_slA, o_slB, o_slAB, o_revL, o_revT, o_repr, o_addTT, o_mulS, m_app, m_ext, st_l, QC_e, z_qs_for, o_addS, o_lenS, o_ixS, iI_int, iB_int, iS_int, iT_int, iL_int, iN_int, iD_int, iI_bool, iB_bool, iS_bool, iT_bool, iL_bool, iN_bool, iD_bool, iI_str, iB_str, iS_str, iT_str, iL_str, iN_str, iD_str, iI_tuple, iB_tuple, iS_tuple, iT_tuple, iL_tuple, iN_tuple, iD_tuple, iI_list, iB_list, iS_list, iT_list, iL_list, iN_list, iD_list, iI_dict, iB_dict, iS_dict, iT_dict, iL_dict, iN_dict, iD_dict, out_0, out_c, o_pow10, o_eq, o_ne, deq_int, deq_str, eq_bl,
    Nat.reduceAdd, Nat.reduceSub, Nat.reduceMul, Nat.reduceLT, Nat.reduceLeDiff, Nat.reduceBEq, Nat.reduceEqDiff, Int.reduceAdd, Int.reduceSub, Int.reduceMul, Int.reduceNeg, Int.reduceLT, Int.reduceLE, Int.reduceEq, Int.reduceNe, Int.reducePow, Int.reduceToNat, Nat.reducePow, ne_eq, not_true_eq_false, not_false_eq_true, and_self, Bool.not_false, Bool.not_true, Bool.true_and, Bool.and_true, Bool.false_and, Bool.and_false, List.contains_cons, List.contains_nil, beq_self_eq_true, Bool.true_or, Bool.or_true, Bool.or_false, Bool.false_or, List.cons_append, List.nil_append]
      exact ⟨nms, _, _, rfl, by omega, g2, by omega⟩
    rintro _ ⟨nms, b, c, rfl, hn3, b0, b1⟩
    refine QS_cut (fun ρ => ∃ (ps : List Pt) (b c : Int) (t9 : Option R), ρ = [some (.p (.scr (ns.map D.int))), some (.p (.int k)), some (dr a b c), some (.l (nms.map D.str)), some (.p (.tup (ps.map portD))), o5, o6, o7, o8, t9, o10] ∧ pureO t9 = true ∧ okP ps ∧ 0 ≤ b ∧ b ≤ 6000) ?_ ?_
    · simp only [h9, h10, z_RX_ok, z_RX_stuck, z_CW_ok, z_we_c, z_we_tup, z_we_lst, z_we_dic, z_q_call, z_we_nil, z_we_cons, z_wt_nil, z_ws_nil, z_ws_cons, z_ws_set, z_ws_setP, z_ws_par, z_ws_ex, z_ws_ret, z_ws_retN, z_ws_brk, z_ws_cont, z_ws_pass, z_ws_aug, z_OB_some, z_OB_none, z_OB_if, z_OB_ifi, z_OB_map, z_OB_bind, z_TB_val, z_PB_p, z_q_vo, z_q_ve, z_q_va, z_q_mov, z_q_frz, z_q_lend, z_q_op, z_q_and, z_q_or, z_q_not, z_q_ite, z_q_chain, z_q_mut, z_q_comp, z_qt_one, z_qs_ite, z_qs_store,
    o_add, o_addL, o_sub, o_mul, o_fdiv, o_mod, o_lt, o_le, o_gt, o_ge, o_isN, o_notN, o_neg, o_lenL, o_lenT, o_lenC, o_max, o_min, o_int, o_intB, o_isiI, o_isiB, o_isiS, o_isiT, o_isiL, o_isiD, kInt, kBl, kStr, kTup, kLst, kDic, o_ixL, o_ixT, o_ixC, o_tupL, o_tupT, o_lstL, o_lstT, g_nil, g_val, g_at, v_val, v_at, r_p, r_l, gt_0, gt_s, bR_s, bR_n, ite_some_eq, ite_none_eq,
    movK, ta_nil, ta_val, ta_at, taAt_p, taAt_l, taAt_m, Val.r, Val.rd, R.pure, lentOk, MOp.keeps, isLst, D.isNon,
    List.map_cons, List.map_nil, List.length_cons, List.length_nil, List.set_cons_zero, List.set_cons_succ, Option.map_some, Option.map_none, Option.bind_some, Option.bind_none, Option.some.injEq, Val.val.injEq, R.p.injEq, D.bl.injEq, D.int.injEq, D.str.injEq, D.tup.injEq, exists_eq_left', exists_eq_left, if_true, if_false, Bool.false_eq_true, decide_eq_true_eq, true_and, and_true, reduceCtorEq, ite_true, ite_false, fr_nil, fr_cons, fp_s, fp_t, fps_nil, fps_cons, lk_nil, lk_val, lk_at, lkAt_p, lkAt_l, lkAt_m, lockE_nil, lockE_cons, unlockE_nil, unlockE_cons, lockF_eq, ip_nil, ip_cons, po_n, po_p, pi_s, pi_t, pis_nil, pis_cons, wipe_nil, wipe_cons, rest_nil, rest_cons, gb_nil, gb_val, gb_at, gb_lent, bp_s, bp_t, bps_nil, bps_cons,
    szL, mulL, mulR, divL, si_seqL, si_seqT, si_seqS, si_rng1, si_rng2, sl_l, sl_t, sl_s, o_slA, o_slB, o_slAB, o_revL, o_revT, o_repr, o_addTT, o_mulS, m_app, m_ext, st_l, QC_e, z_qs_for, o_addS, o_lenS, o_ixS, iI_int, iB_int, iS_int, iT_int, iL_int, iN_int, iD_int, iI_bool, iB_bool, iS_bool, iT_bool, iL_bool, iN_bool, iD_bool, iI_str, iB_str, iS_str, iT_str, iL_str, iN_str, iD_str, iI_tuple, iB_tuple, iS_tuple, iT_tuple, iL_tuple, iN_tuple, iD_tuple, iI_list, iB_list, iS_list, iT_list, iL_list, iN_list, iD_list, iI_dict, iB_dict, iS_dict, iT_dict, iL_dict, iN_dict, iD_dict, out_0, out_c, o_pow10, o_eq, o_ne, deq_int, deq_str, eq_bl,
    Nat.reduceAdd, Nat.reduceSub, Nat.reduceMul, Nat.reduceLT, Nat.reduceLeDiff, Nat.reduceBEq, Nat.reduceEqDiff, Int.reduceAdd, Int.reduceSub, Int.reduceMul, Int.reduceNeg, Int.reduceLT, Int.reduceLE, Int.reduceEq, Int.reduceNe, Int.reducePow, Int.reduceToNat, Nat.reducePow, ne_eq, not_true_eq_false, not_false_eq_true, and_self, Bool.not_false, Bool.not_true, Bool.true_and, Bool.and_true, Bool.false_and, Bool.and_false, List.contains_cons, List.contains_nil, beq_self_eq_true, Bool.true_or, Bool.or_true, Bool.or_false, Bool.false_or, List.cons_append, List.nil_append]
      refine QX_cinv (I := fun items acc ρ => ∃ (rs : List Str) (ps : List Pt) (b' c' : Int) (t9 : Option R), items = rs.map D.str ∧ acc = ps.map portD ∧ ρ = [some (.p (.scr (ns.map D.int))), some (.p (.int k)), some (dr a b' c'), none, o4, o5, o6, o7, o8, t9, o10] ∧ ps.length + rs.length ≤ 3 ∧ (∀ p ∈ ps, p.2 ≤ 3) ∧ 0 ≤ b' ∧ b' + rs.length ≤ 5003) (acc := [])
        ⟨nms, [], b, c, _, rfl, rfl, rfl, by simp; omega, fun _ h => (nomatch h), b0, by omega⟩ ?_ ?_
      · rintro acc' _ ⟨rs, ps, b', c', t9, hi, ha, rfl, hl, hq, g0, g1⟩
        rw [List.nil_append] at ha
        subst ha
        cases rs with
        | cons _ _ => exact nomatch hi
        | nil =>
          have hz : (ps.map portD).length ≤ sizeLine := by
            rw [List.length_map]
            exact Nat.le_trans (m := 100) (by simp at hl; omega) (by decide)
          refine ⟨hz, ?_⟩
          simp only [z_RX_ok, z_RX_stuck, z_CW_ok, z_we_c, z_we_tup, z_we_lst, z_we_dic, z_q_call, z_we_nil, z_we_cons, z_wt_nil, z_ws_nil, z_ws_cons, z_ws_set, z_ws_setP, z_ws_par, z_ws_ex, z_ws_ret, z_ws_retN, z_ws_brk, z_ws_cont, z_ws_pass, z_ws_aug, z_OB_some, z_OB_none, z_OB_if, z_OB_ifi, z_OB_map, z_OB_bind, z_TB_val, z_PB_p, z_q_vo, z_q_ve, z_q_va, z_q_mov, z_q_frz, z_q_lend, z_q_op, z_q_and, z_q_or, z_q_not, z_q_ite, z_q_chain, z_q_mut, z_q_comp, z_qt_one, z_qs_ite, z_qs_store,
    o_add, o_addL, o_sub, o_mul, o_fdiv, o_mod, o_lt, o_le, o_gt, o_ge, o_isN, o_notN, o_neg, o_lenL, o_lenT, o_lenC, o_max, o_min, o_int, o_intB, o_isiI, o_isiB, o_isiS, o_isiT, o_isiL, o_isiD, kInt, kBl, kStr, kTup, kLst, kDic, o_ixL, o_ixT, o_ixC, o_tupL, o_tupT, o_lstL, o_lstT, g_nil, g_val, g_at, v_val, v_at, r_p, r_l, gt_0, gt_s, bR_s, bR_n, ite_some_eq, ite_none_eq,
    movK, ta_nil, ta_val, ta_at, taAt_p, taAt_l, taAt_m, Val.r, Val.rd, R.pure, lentOk, MOp.keeps, isLst, D.isNon,
    List.map_cons, List.map_nil, List.length_cons, List.length_nil, List.set_cons_zero, List.set_cons_succ, Option.map_some, Option.map_none, Option.bind_some, Option.bind_none, Option.some.injEq, Val.val.injEq, R.p.injEq, D.bl.injEq, D.int.injEq, D.str.injEq, D.tup.injEq, exists_eq_left', exists_eq_left, if_true, if_false, Bool.false_eq_true, decide_eq_true_eq, true_and, and_true, reduceCtorEq, ite_true, ite_false, fr_nil, fr_cons, fp_s, fp_t, fps_nil, fps_cons, lk_nil, lk_val, lk_at, lkAt_p, lkAt_l, lkAt_m, lockE_nil, lockE_cons, unlockE_nil, unlockE_cons, lockF_eq, ip_nil, ip_cons, po_n, po_p, pi_s, pi_t, pis_nil, pis_cons, wipe_nil, wipe_cons, rest_nil, rest_cons, gb_nil, gb_val, gb_at, gb_lent, bp_s, bp_t, bps_nil, bps_cons,
    szL, mulL, mulR, divL, si_seqL, si_seqT, si_seqS, si_rng1, si_rng2, sl_l, sl_t, sl_s, o_slA, o_slB, o_slAB, o_revL, o_revT, o_repr, o_addTT, o_mulS, m_app, m_ext, st_l, QC_e, z_qs_for, o_addS, o_lenS, o_ixS, iI_int, iB_int, iS_int, iT_int, iL_int, iN_int, iD_int, iI_bool, iB_bool, iS_bool, iT_bool, iL_bool, iN_bool, iD_bool, iI_str, iB_str, iS_str, iT_str, iL_str, iN_str, iD_str, iI_tuple, iB_tuple, iS_tuple, iT_tuple, iL_tuple, iN_tuple, iD_tuple, iI_list, iB_list, iS_list, iT_list, iL_list, iN_list, iD_list, iI_dict, iB_dict, iS_dict, iT_dict, iL_dict, iN_dict, iD_dict, out_0, out_c, o_pow10, o_eq, o_ne, deq_int, deq_str, eq_bl,
    Nat.reduceAdd, Nat.reduceSub, Nat.reduceMul, Nat.reduceLT, Nat.reduceLeDiff, Nat.reduceBEq, Nat.reduceEqDiff, Int.reduceAdd, Int.reduceSub, Int.reduceMul, Int.reduceNeg, Int.reduceLT, Int.reduceLE, Int.reduceEq, Int.reduceNe, Int.reducePow, Int.reduceToNat, Nat.reducePow, ne_eq, not_true_eq_false, not_false_eq_true, and_self, Bool.not_false, Bool.not_true, Bool.true_and, Bool.and_true, Bool.false_and, Bool.and_false, List.contains_cons, List.contains_nil, beq_self_eq_true, Bool.true_or, Bool.or_true, Bool.or_false, Bool.false_or, List.cons_append, List.nil_append]
          exact ⟨ps, _, _, _, rfl, h9, ⟨by simp at hl; omega, hq⟩, g0, by simp at g1; omega⟩
      · rintro x xs acc _ ⟨rs, ps, b', c', t9, hi, rfl, rfl, hl, hq, g0, g1⟩
        cases rs with
        | nil => exact nomatch hi
        | cons s rs =>
          cases hi
          simp only [List.length_cons] at hl g1
          simp only [z_RX_ok, z_RX_stuck, z_CW_ok, z_we_c, z_we_tup, z_we_lst, z_we_dic, z_q_call, z_we_nil, z_we_cons, z_wt_nil, z_ws_nil, z_ws_cons, z_ws_set, z_ws_setP, z_ws_par, z_ws_ex, z_ws_ret, z_ws_retN, z_ws_brk, z_ws_cont, z_ws_pass, z_ws_aug, z_OB_some, z_OB_none, z_OB_if, z_OB_ifi, z_OB_map, z_OB_bind, z_TB_val, z_PB_p, z_q_vo, z_q_ve, z_q_va, z_q_mov, z_q_frz, z_q_lend, z_q_op, z_q_and, z_q_or, z_q_not, z_q_ite, z_q_chain, z_q_mut, z_q_comp, z_qt_one, z_qs_ite, z_qs_store,
    o_add, o_addL, o_sub, o_mul, o_fdiv, o_mod, o_lt, o_le, o_gt, o_ge, o_isN, o_notN, o_neg, o_lenL, o_lenT, o_lenC, o_max, o_min, o_int, o_intB, o_isiI, o_isiB, o_isiS, o_isiT, o_isiL, o_isiD, kInt, kBl, kStr, kTup, kLst, kDic, o_ixL, o_ixT, o_ixC, o_tupL, o_tupT, o_lstL, o_lstT, g_nil, g_val, g_at, v_val, v_at, r_p, r_l, gt_0, gt_s, bR_s, bR_n, ite_some_eq, ite_none_eq,
    movK, ta_nil, ta_val, ta_at, taAt_p, taAt_l, taAt_m, Val.r, Val.rd, R.pure, lentOk, MOp.keeps, isLst, D.isNon,
    List.map_cons, List.map_nil, List.length_cons, List.length_nil, List.set_cons_zero, List.set_cons_succ, Option.map_some, Option.map_none, Option.bind_some, Option.bind_none, Option.some.injEq, Val.val.injEq, R.p.injEq, D.bl.injEq, D.int.injEq, D.str.injEq, D.tup.injEq, exists_eq_left', exists_eq_left, if_true, if_false, Bool.false_eq_true, decide_eq_true_eq, true_and, and_true, reduceCtorEq, ite_true, ite_false, fr_nil, fr_cons, fp_s, fp_t, fps_nil, fps_cons, lk_nil, lk_val, lk_at, lkAt_p, lkAt_l, lkAt_m, lockE_nil, lockE_cons, unlockE_nil, unlockE_cons, lockF_eq, ip_nil, ip_cons, po_n, po_p, pi_s, pi_t, pis_nil, pis_cons, wipe_nil, wipe_cons, rest_nil, rest_cons, gb_nil, gb_val, gb_at, gb_lent, bp_s, bp_t, bps_nil, bps_cons,
    szL, mulL, mulR, divL, si_seqL, si_seqT, si_seqS, si_rng1, si_rng2, sl_l, sl_t, sl_s, o_slA, o_slB, o_slAB, o_revL, o_revT, o_repr, o_addTT, o_mulS, m_app, m_ext, st_l, QC_e, z_qs_for, o_addS, o_lenS, o_ixS, iI_int, iB_int, iS_int, iT_int, iL_int, iN_int, iD_int, iI_bool, iB_bool, iS_bool, iT_bool, iL_bool, iN_bool, iD_bool, iI_str, iB_str, iS_str, iT_str, iL_str, iN_str, iD_str, iI_tuple, iB_tuple, iS_tuple, iT_tuple, iL_tuple, iN_tuple, iD_tuple, iI_list, iB_list, iS_list, iT_list, iL_list, iN_list, iD_list, iI_dict, iB_dict, iS_dict, iT_dict, iL_dict, iN_dict, iD_dict, out_0, out_c, o_pow10, o_eq, o_ne, deq_int, deq_str, eq_bl,
    Nat.reduceAdd, Nat.reduceSub, Nat.reduceMul, Nat.reduceLT, Nat.reduceLeDiff, Nat.reduceBEq, Nat.reduceEqDiff, Int.reduceAdd, Int.reduceSub, Int.reduceMul, Int.reduceNeg, Int.reduceLT, Int.reduceLE, Int.reduceEq, Int.reduceNe, Int.reducePow, Int.reduceToNat, Nat.reducePow, ne_eq, not_true_eq_false, not_false_eq_true, and_self, Bool.not_false, Bool.not_true, Bool.true_and, Bool.and_true, Bool.false_and, Bool.and_false, List.contains_cons, List.contains_nil, beq_self_eq_true, Bool.true_or, Bool.or_true, Bool.or_false, Bool.false_or, List.cons_append, List.nil_append]
          refine QC.mono (hN g0 (by omega) (by omega) (by omega)) ?_ (fun _ _ _ _ z => z.elim)
          rintro _ _ ⟨i, b2, c2, rfl, rfl, i0, i3, g2, g3⟩
          simp only [z_RX_ok, z_RX_stuck, z_CW_ok, z_we_c, z_we_tup, z_we_lst, z_we_dic, z_q_call, z_we_nil, z_we_cons, z_wt_nil, z_ws_nil, z_ws_cons, z_ws_set, z_ws_setP, z_ws_par, z_ws_ex, z_ws_ret, z_ws_retN, z_ws_brk, z_ws_cont, z_ws_pass, z_ws_aug, z_OB_some, z_OB_none, z_OB_if, z_OB_ifi, z_OB_map, z_OB_bind, z_TB_val, z_PB_p, z_q_vo, z_q_ve, z_q_va, z_q_mov, z_q_frz, z_q_lend, z_q_op, z_q_and, z_q_or, z_q_not, z_q_ite, z_q_chain, z_q_mut, z_q_comp, z_qt_one, z_qs_ite, z_qs_store,
    o_add, o_addL, o_sub, o_mul, o_fdiv, o_mod, o_lt, o_le, o_gt, o_ge, o_isN, o_notN, o_neg, o_lenL, o_lenT, o_lenC, o_max, o_min, o_int, o_intB, o_isiI, o_isiB, o_isiS, o_isiT, o_isiL, o_isiD, kInt, kBl, kStr, kTup, kLst, kDic, o_ixL, o_ixT, o_ixC, o_tupL, o_tupT, o_lstL, o_lstT, g_nil, g_val, g_at, v_val, v_at, r_p, r_l, gt_0, gt_s, bR_s, bR_n, ite_some_eq, ite_none_eq,
    movK, ta_nil, ta_val, ta_at, taAt_p, taAt_l, taAt_m, Val.r, Val.rd, R.pure, lentOk, MOp.keeps, isLst, D.isNon,
    List.map_cons, List.map_nil, List.length_cons, List.length_nil, List.set_cons_zero, List.set_cons_succ, Option.map_some, Option.map_none, Option.bind_some, Option.bind_none, Option.some.injEq, Val.val.injEq, R.p.injEq, D.bl.injEq, D.int.injEq, D.str.injEq, D.tup.injEq, exists_eq_left', exists_eq_left, if_true, if_false, Bool.false_eq_true, decide_eq_true_eq, true_and, and_true, reduceCtorEq, ite_true, ite_false, fr_nil, fr_cons, fp_s, fp_t, fps_nil, fps_cons, lk_nil, lk_val, lk_at, lkAt_p, lkAt_l, lkAt_m, lockE_nil, lockE_cons, unlockE_nil, unlockE_cons, lockF_eq, ip_nil, ip_cons, po_n, po_p, pi_s, pi_t, pis_nil, pis_cons, wipe_nil, wipe_cons, rest_nil, rest_cons, gb_nil, gb_val, gb_at, gb_lent, bp_s, bp_t, bps_nil, bps_cons,
    szL, mulL, mulR, divL, si_seqL, si_seqT, si_seqS, si_rng1, si_rng2, sl_l, sl_t, sl_s, o_slA, o_slB, o_slAB, o_revL, o_revT, o_repr, o_addTT, o_mulS, m_app, m_ext, st_l, QC_e, z_qs_for, o_addS, o_lenS, o_ixS, iI_int, iB_int, iS_int, iT_int, iL_int, iN_int, iD_int, iI_bool, iB_bool, iS_bool, iT_bool, iL_bool, iN_bool, iD_bool, iI_str, iB_str, iS_str, iT_str, iL_str, iN_str, iD_str, iI_tuple, iB_tuple, iS_tuple, iT_tuple, iL_tuple, iN_tuple, iD_tuple, iI_list, iB_list, iS_list, iT_list, iL_list, iN_list, iD_list, iI_dict, iB_dict, iS_dict, iT_dict, iL_dict, iN_dict, iD_dict, out_0, out_c, o_pow10, o_eq, o_ne, deq_int, deq_str, eq_bl,
    Nat.reduceAdd, Nat.reduceSub, Nat.reduceMul, Nat.reduceLT, Nat.reduceLeDiff, Nat.reduceBEq, Nat.reduceEqDiff, Int.reduceAdd, Int.reduceSub, Int.reduceMul, Int.reduceNeg, Int.reduceLT, Int.reduceLE, Int.reduceEq, Int.reduceNe, Int.reducePow, Int.reduceToNat, Nat.reducePow, ne_eq, not_true_eq_false, not_false_eq_true, and_self, Bool.not_false, Bool.not_true, Bool.true_and, Bool.and_true, Bool.false_and, Bool.and_false, List.contains_cons, List.contains_nil, beq_self_eq_true, Bool.true_or, Bool.or_true, Bool.or_false, Bool.false_or, List.cons_append, List.nil_append]
          refine ⟨rs, ps ++ [(s, (1 + i).toNat)], b2, c2, _, rfl, ?_, rfl, by rw [List.length_append]; simp; omega, ?_, g2, by omega⟩
          · rw [List.map_append, List.map_singleton]
            simp only [portD, r_p]
            rw [show (((1 + i).toNat : Nat) : Int) = 1 + i by omega]
          · intro p hp
            rcases List.mem_append.mp hp with hp | hp
            · exact hq p hp
            · rw [List.mem_singleton.mp hp]
              show (1 + i).toNat ≤ 3
              omega
    rintro _ ⟨ps, b, c, t9, rfl, h9', hp, b0, b1⟩
    refine QS_cut (fun ρ => ∃ t5 t6, ρ = [some (.p (.scr (ns.map D.int))), some (.p (.int k)), some (dr a b c), some (.l (nms.map D.str)), some (.p (.tup (ps.map portD))), t5, t6, o7, o8, t9, o10]) ?_ ?_
    · simp only [z_RX_ok, z_RX_stuck, z_CW_ok, z_we_c, z_we_tup, z_we_lst, z_we_dic, z_q_call, z_we_nil, z_we_cons, z_wt_nil, z_ws_nil, z_ws_cons, z_ws_set, z_ws_setP, z_ws_par, z_ws_ex, z_ws_ret, z_ws_retN, z_ws_brk, z_ws_cont, z_ws_pass, z_ws_aug, z_OB_some, z_OB_none, z_OB_if, z_OB_ifi, z_OB_map, z_OB_bind, z_TB_val, z_PB_p, z_q_vo, z_q_ve, z_q_va, z_q_mov, z_q_frz, z_q_lend, z_q_op, z_q_and, z_q_or, z_q_not, z_q_ite, z_q_chain, z_q_mut, z_q_comp, z_qt_one, z_qs_ite, z_qs_store,
    o_add, o_addL, o_sub, o_mul, o_fdiv, o_mod, o_lt, o_le, o_gt, o_ge, o_isN, o_notN, o_neg, o_lenL, o_lenT, o_lenC, o_max, o_min, o_int, o_intB, o_isiI, o_isiB, o_isiS, o_isiT, o_isiL, o_isiD, kInt, kBl, kStr, kTup, kLst, kDic, o_ixL, o_ixT, o_ixC, o_tupL, o_tupT, o_lstL, o_lstT, g_nil, g_val, g_at, v_val, v_at, r_p, r_l, gt_0, gt_s, bR_s, bR_n, ite_some_eq, ite_none_eq,
    movK, ta_nil, ta_val, ta_at, taAt_p, taAt_l, taAt_m, Val.r, Val.rd, R.pure, lentOk, MOp.keeps, isLst, D.isNon,
    List.map_cons, List.map_nil, List.length_cons, List.length_nil, List.set_cons_zero, List.set_cons_succ, Option.map_some, Option.map_none, Option.bind_some, Option.bind_none, Option.some.injEq, Val.val.injEq, R.p.injEq, D.bl.injEq, D.int.injEq, D.str.injEq, D.tup.injEq, exists_eq_left', exists_eq_left, if_true, if_false, Bool.false_eq_true, decide_eq_true_eq, true_and, and_true, reduceCtorEq, ite_true, ite_false, fr_nil, fr_cons, fp_s, fp_t, fps_nil, fps_cons, lk_nil, lk_val, lk_at, lkAt_p, lkAt_l, lkAt_m, lockE_nil, lockE_cons, unlockE_nil, unlockE_cons, lockF_eq, ip_nil, ip_cons, po_n, po_p, pi_s, pi_t, pis_nil, pis_cons, wipe_nil, wipe_cons, rest_nil, rest_cons, gb_nil, gb_val, gb_at, gb_lent, bp_s, bp_t, bps_nil, bps_cons,
    szL, mulL, mulR, divL, si_seqL, si_seqT, si_seqS, si_rng1, si_rng2, sl_l, sl_t, sl_s, o_slA, o_slB, o_slAB, o_revL, o_revT, o_repr, o_addTT, o_mulS, m_app, m_ext, st_l, QC_e, z_qs_for, o_addS, o_lenS, o_ixS, iI_int, iB_int, iS_int, iT_int, iL_int, iN_int, iD_int, iI_bool, iB_bool, iS_bool, iT_bool, iL_bool, iN_bool, iD_bool, iI_str, iB_str, iS_str, iT_str, iL_str, iN_str, iD_str, iI_tuple, iB_tuple, iS_tuple, iT_tuple, iL_tuple, iN_tuple, iD_tuple, iI_list, iB_list, iS_list, iT_list, iL_list, iN_list, iD_list, iI_dict, iB_dict, iS_dict, iT_dict, iL_dict, iN_dict, iD_dict, out_0, out_c, o_pow10, o_eq, o_ne, deq_int, deq_str, eq_bl,
    Nat.reduceAdd, Nat.reduceSub, Nat.reduceMul, Nat.reduceLT, Nat.reduceLeDiff, Nat.reduceBEq, Nat.reduceEqDiff, Int.reduceAdd, Int.reduceSub, Int.reduceMul, Int.reduceNeg, Int.reduceLT, Int.reduceLE, Int.reduceEq, Int.reduceNe, Int.reducePow, Int.reduceToNat, Nat.reducePow, ne_eq, not_true_eq_false, not_false_eq_true, and_self, Bool.not_false, Bool.not_true, Bool.true_and, Bool.and_true, Bool.false_and, Bool.and_false, List.contains_cons, List.contains_nil, beq_self_eq_true, Bool.true_or, Bool.or_true, Bool.or_false, Bool.false_or, List.cons_append, List.nil_append]
      refine QS_inv (I := fun items ρ => ∃ t5 t6, ρ = [some (.p (.scr (ns.map D.int))), some (.p (.int k)), some (dr a b c), some (.l (nms.map D.str)), some (.p (.tup (ps.map portD))), t5, t6, o7, o8, t9, o10]) ⟨_, _, rfl⟩ (fun ρ z => z) ?_
      rintro x xs _ ⟨t5, t6, rfl⟩
      obtain ⟨s, hs⟩ := rows_repr hp
      have hz : ((allV ps).map rowD).length < sizeLine := by
        rw [List.length_map]
        have := allV_le hp
        exact Nat.lt_of_le_of_lt (m := 64) this (by decide)
      simp only [hA ps hp, hL ps hp, hs, hz, decide_true, z_RX_ok, z_RX_stuck, z_CW_ok, z_we_c, z_we_tup, z_we_lst, z_we_dic, z_q_call, z_we_nil, z_we_cons, z_wt_nil, z_ws_nil, z_ws_cons, z_ws_set, z_ws_setP, z_ws_par, z_ws_ex, z_ws_ret, z_ws_retN, z_ws_brk, z_ws_cont, z_ws_pass, z_ws_aug, z_OB_some, z_OB_none, z_OB_if, z_OB_ifi, z_OB_map, z_OB_bind, z_TB_val, z_PB_p, z_q_vo, z_q_ve, z_q_va, z_q_mov, z_q_frz, z_q_lend, z_q_op, z_q_and, z_q_or, z_q_not, z_q_ite, z_q_chain, z_q_mut, z_q_comp, z_qt_one, z_qs_ite, z_qs_store,
    o_add, o_addL, o_sub, o_mul, o_fdiv, o_mod, o_lt, o_le, o_gt, o_ge, o_isN, o_notN, o_neg, o_lenL, o_lenT, o_lenC, o_max, o_min, o_int, o_intB, o_isiI, o_isiB, o_isiS, o_isiT, o_isiL, o_isiD, kInt, kBl, kStr, kTup, kLst, kDic, o_ixL, o_ixT, o_ixC, o_tupL, o_tupT, o_lstL, o_lstT, g_nil, g_val, g_at, v_val, v_at, r_p, r_l, gt_0, gt_s, bR_s, bR_n, ite_some_eq, ite_none_eq,
    movK, ta_nil, ta_val, ta_at, taAt_p, taAt_l, taAt_m, Val.r, Val.rd, R.pure, lentOk, MOp.keeps, isLst, D.isNon,
    List.map_cons, List.map_nil, List.length_cons, List.length_nil, List.set_cons_zero, List.set_cons_succ, Option.map_some, Option.map_none, Option.bind_some, Option.bind_none, Option.some.injEq, Val.val.injEq, R.p.injEq, D.bl.injEq, D.int.injEq, D.str.injEq, D.tup.injEq, exists_eq_left', exists_eq_left, if_true, if_false, Bool.false_eq_true, decide_eq_true_eq, true_and, and_true, reduceCtorEq, ite_true, ite_false, fr_nil, fr_cons, fp_s, fp_t, fps_nil, fps_cons, lk_nil, lk_val, lk_at, lkAt_p, lkAt_l, lkAt_m, lockE_nil, lockE_cons, unlockE_nil, unlockE_cons, lockF_eq, ip_nil, ip_cons, po_n, po_p, pi_s, pi_t, pis_nil, pis_cons, wipe_nil, wipe_cons, rest_nil, rest_cons, gb_nil, gb_val, gb_at, gb_lent, bp_s, bp_t, bps_nil, bps_cons,
    szL, mulL, mulR, divL, si_seqL, si_seqT, si_seqS, si_rng1, si_rng2, sl_l, sl_t, sl_s, o_slA, o_slB, o_slAB, o_revL, o_revT, o_repr, o_addTT, o_mulS, m_app, m_ext, st_l, QC_e, z_qs_for, o_addS, o_lenS, o_ixS, iI_int, iB_int, iS_int, iT_int, iL_int, iN_int, iD_int, iI_bool, iB_bool, iS_bool, iT_bool, iL_bool, iN_bool, iD_bool, iI_str, iB_str, iS_str, iT_str, iL_str, iN_str, iD_str, iI_tuple, iB_tuple, iS_tuple, iT_tuple, iL_tuple, iN_tuple, iD_tuple, iI_list, iB_list, iS_list, iT_list, iL_list, iN_list, iD_list, iI_dict, iB_dict, iS_dict, iT_dict, iL_dict, iN_dict, iD_dict, out_0, out_c, o_pow10, o_eq, o_ne, deq_int, deq_str, eq_bl,
    Nat.reduceAdd, Nat.reduceSub, Nat.reduceMul, Nat.reduceLT, Nat.reduceLeDiff, Nat.reduceBEq, Nat.reduceEqDiff, Int.reduceAdd, Int.reduceSub, Int.reduceMul, Int.reduceNeg, Int.reduceLT, Int.reduceLE, Int.reduceEq, Int.reduceNe, Int.reducePow, Int.reduceToNat, Nat.reducePow, ne_eq, not_true_eq_false, not_false_eq_true, and_self, Bool.not_false, Bool.not_true, Bool.true_and, Bool.and_true, Bool.false_and, Bool.and_false, List.contains_cons, List.contains_nil, beq_self_eq_true, Bool.true_or, Bool.or_true, Bool.or_false, Bool.false_or, List.cons_append, List.nil_append]
      exact ⟨_, _, rfl⟩
    rintro _ ⟨t5, t6, rfl⟩
    refine QS_cut (fun ρ => ∃ f b' c', ρ = [some (.p (.scr (ns.map D.int))), some (.p (.int k)), some (dr a b' c'), some (.l (nms.map D.str)), some (.p (.tup (ps.map portD))), t5, t6, some (.p (.int f)), o8, t9, o10]) ?_ ?_
    · simp only [o_pow10, z_RX_ok, z_RX_stuck, z_CW_ok, z_we_c, z_we_tup, z_we_lst, z_we_dic, z_q_call, z_we_nil, z_we_cons, z_wt_nil, z_ws_nil, z_ws_cons, z_ws_set, z_ws_setP, z_ws_par, z_ws_ex, z_ws_ret, z_ws_retN, z_ws_brk, z_ws_cont, z_ws_pass, z_ws_aug, z_OB_some, z_OB_none, z_OB_if, z_OB_ifi, z_OB_map, z_OB_bind, z_TB_val, z_PB_p, z_q_vo, z_q_ve, z_q_va, z_q_mov, z_q_frz, z_q_lend, z_q_op, z_q_and, z_q_or, z_q_not, z_q_ite, z_q_chain, z_q_mut, z_q_comp, z_qt_one, z_qs_ite, z_qs_store,
    o_add, o_addL, o_sub, o_mul, o_fdiv, o_mod, o_lt, o_le, o_gt, o_ge, o_isN, o_notN, o_neg, o_lenL, o_lenT, o_lenC, o_max, o_min, o_int, o_intB, o_isiI, o_isiB, o_isiS, o_isiT, o_isiL, o_isiD, kInt, kBl, kStr, kTup, kLst, kDic, o_ixL, o_ixT, o_ixC, o_tupL, o_tupT, o_lstL, o_lstT, g_nil, g_val, g_at, v_val, v_at, r_p, r_l, gt_0, gt_s, bR_s, bR_n, ite_some_eq, ite_none_eq,
    movK, ta_nil, ta_val, ta_at, taAt_p, taAt_l, taAt_m, Val.r, Val.rd, R.pure, lentOk, MOp.keeps, isLst, D.isNon,
    List.map_cons, List.map_nil, List.length_cons, List.length_nil, List.set_cons_zero, List.set_cons_succ, Option.map_some, Option.map_none, Option.bind_some, Option.bind_none, Option.some.injEq, Val.val.injEq, R.p.injEq, D.bl.injEq, D.int.injEq, D.str.injEq, D.tup.injEq, exists_eq_left', exists_eq_left, if_true, if_false, Bool.false_eq_true, decide_eq_true_eq, true_and, and_true, reduceCtorEq, ite_true, ite_false, fr_nil, fr_cons, fp_s, fp_t, fps_nil, fps_cons, lk_nil, lk_val, lk_at, lkAt_p, lkAt_l, lkAt_m, lockE_nil, lockE_cons, unlockE_nil, unlockE_cons, lockF_eq, ip_nil, ip_cons, po_n, po_p, pi_s, pi_t, pis_nil, pis_cons, wipe_nil, wipe_cons, rest_nil, rest_cons, gb_nil, gb_val, gb_at, gb_lent, bp_s, bp_t, bps_nil, bps_cons,
    szL, mulL, mulR, divL, si_seqL, si_seqT, si_seqS, si_rng1, si_rng2, sl_l, sl_t, sl_s, o_slA, o_slB, o_slAB, o_revL, o_revT, o_repr, o_addTT, o_mulS, m_app, m_ext, st_l, QC_e, z_qs_for, o_addS, o_lenS, o_ixS, iI_int, iB_int, iS_int, iT_int, iL_int, iN_int, iD_int, iI_bool, iB_bool, iS_bool, iT_bool, iL_bool, iN_bool, iD_bool, iI_str, iB_str, iS_str, iT_str, iL_str, iN_str, iD_str, iI_tuple, iB_tuple, iS_tuple, iT_tuple, iL_tuple, iN_tuple, iD_tuple, iI_list, iB_list, iS_list, iT_list, iL_list, iN_list, iD_list, iI_dict, iB_dict, iS_dict, iT_dict, iL_dict, iN_dict, iD_dict, out_0, out_c, o_pow10, o_eq, o_ne, deq_int, deq_str, eq_bl,
    Nat.reduceAdd, Nat.reduceSub, Nat.reduceMul, Nat.reduceLT, Nat.reduceLeDiff, Nat.reduceBEq, Nat.reduceEqDiff, Int.reduceAdd, Int.reduceSub, Int.reduceMul, Int.reduceNeg, Int.reduceLT, Int.reduceLE, Int.reduceEq, Int.reduceNe, Int.reducePow, Int.reduceToNat, Nat.reducePow, ne_eq, not_true_eq_false, not_false_eq_true, and_self, Bool.not_false, Bool.not_true, Bool.true_and, Bool.and_true, Bool.false_and, Bool.and_false, List.contains_cons, List.contains_nil, beq_self_eq_true, Bool.true_or, Bool.or_true, Bool.or_false, Bool.false_or, List.cons_append, List.nil_append]
      refine QC.mono (hN b0 (by omega) (by omega) (by omega)) ?_ (fun _ _ _ _ z => z.elim)
      rintro _ _ ⟨i, b2, c2, rfl, rfl, i0, i3, g2, g3⟩
      simp only [z_RX_ok, z_RX_stuck, z_CW_ok, z_we_c, z_we_tup, z_we_lst, z_we_dic, z_q_call, z_we_nil, z_we_cons, z_wt_nil, z_ws_nil, z_ws_cons, z_ws_set, z_ws_setP, z_ws_par, z_ws_ex, z_ws_ret, z_ws_retN, z_ws_brk, z_ws_cont, z_ws_pass, z_ws_aug, z_OB_some, z_OB_none, z_OB_if, z_OB_ifi, z_OB_map, z_OB_bind, z_TB_val, z_PB_p, z_q_vo, z_q_ve, z_q_va, z_q_mov, z_q_frz, z_q_lend, z_q_op, z_q_and, z_q_or, z_q_not, z_q_ite, z_q_chain, z_q_mut, z_q_comp, z_qt_one, z_qs_ite, z_qs_store,
    o_add, o_addL, o_sub, o_mul, o_fdiv, o_mod, o_lt, o_le, o_gt, o_ge, o_isN, o_notN, o_neg, o_lenL, o_lenT, o_lenC, o_max, o_min, o_int, o_intB, o_isiI, o_isiB, o_isiS, o_isiT, o_isiL, o_isiD, kInt, kBl, kStr, kTup, kLst, kDic, o_ixL, o_ixT, o_ixC, o_tupL, o_tupT, o_lstL, o_lstT, g_nil, g_val, g_at, v_val, v_at, r_p, r_l, gt_0, gt_s, bR_s, bR_n, ite_some_eq, ite_none_eq,
    movK, ta_nil, ta_val, ta_at, taAt_p, taAt_l, taAt_m, Val.r, Val.rd, R.pure, lentOk, MOp.keeps, isLst, D.isNon,
    List.map_cons, List.map_nil, List.length_cons, List.length_nil, List.set_cons_zero, List.set_cons_succ, Option.map_some, Option.map_none, Option.bind_some, Option.bind_none, Option.some.injEq, Val.val.injEq, R.p.injEq, D.bl.injEq, D.int.injEq, D.str.injEq, D.tup.injEq, exists_eq_left', exists_eq_left, if_true, if_false, Bool.false_eq_true, decide_eq_true_eq, true_and, and_true, reduceCtorEq, ite_true, ite_false, fr_nil, fr_cons, fp_s, fp_t, fps_nil, fps_cons, lk_nil, lk_val, lk_at, lkAt_p, lkAt_l, lkAt_m, lockE_nil, lockE_cons, unlockE_nil, unlockE_cons, lockF_eq, ip_nil, ip_cons, po_n, po_p, pi_s, pi_t, pis_nil, pis_cons, wipe_nil, wipe_cons, rest_nil, rest_cons, gb_nil, gb_val, gb_at, gb_lent, bp_s, bp_t, bps_nil, bps_cons,
    szL, mulL, mulR, divL, si_seqL, si_seqT, si_seqS, si_rng1, si_rng2, sl_l, sl_t, sl_s, o_slA, o_slB, o_slAB, o_revL, o_revT, o_repr, o_addTT, o_mulS, m_app, m_ext, st_l, QC_e, z_qs_for, o_addS, o_lenS, o_ixS, iI_int, iB_int, iS_int, iT_int, iL_int, iN_int, iD_int, iI_bool, iB_bool, iS_bool, iT_bool, iL_bool, iN_bool, iD_bool, iI_str, iB_str, iS_str, iT_str, iL_str, iN_str, iD_str, iI_tuple, iB_tuple, iS_tuple, iT_tuple, iL_tuple, iN_tuple, iD_tuple, iI_list, iB_list, iS_list, iT_list, iL_list, iN_list, iD_list, iI_dict, iB_dict, iS_dict, iT_dict, iL_dict, iN_dict, iD_dict, out_0, out_c, o_pow10, o_eq, o_ne, deq_int, deq_str, eq_bl,
    Nat.reduceAdd, Nat.reduceSub, Nat.reduceMul, Nat.reduceLT, Nat.reduceLeDiff, Nat.reduceBEq, Nat.reduceEqDiff, Int.reduceAdd, Int.reduceSub, Int.reduceMul, Int.reduceNeg, Int.reduceLT, Int.reduceLE, Int.reduceEq, Int.reduceNe, Int.reducePow, Int.reduceToNat, Nat.reducePow, ne_eq, not_true_eq_false, not_false_eq_true, and_self, Bool.not_false, Bool.not_true, Bool.true_and, Bool.and_true, Bool.false_and, Bool.and_false, List.contains_cons, List.contains_nil, beq_self_eq_true, Bool.true_or, Bool.or_true, Bool.or_false, Bool.false_or, List.cons_append, List.nil_append]
      refine QC.mono (hN g2 (by omega) (by omega) (by omega)) ?_ (fun _ _ _ _ z => z.elim)
      rintro _ _ ⟨j, b3, c3, rfl, rfl, j0, j3, g4, g5⟩
      simp only [z_RX_ok, z_RX_stuck, z_CW_ok, z_we_c, z_we_tup, z_we_lst, z_we_dic, z_q_call, z_we_nil, z_we_cons, z_wt_nil, z_ws_nil, z_ws_cons, z_ws_set, z_ws_setP, z_ws_par, z_ws_ex, z_ws_ret, z_ws_retN, z_ws_brk, z_ws_cont, z_ws_pass, z_ws_aug, z_OB_some, z_OB_none, z_OB_if, z_OB_ifi, z_OB_map, z_OB_bind, z_TB_val, z_PB_p, z_q_vo, z_q_ve, z_q_va, z_q_mov, z_q_frz, z_q_lend, z_q_op, z_q_and, z_q_or, z_q_not, z_q_ite, z_q_chain, z_q_mut, z_q_comp, z_qt_one, z_qs_ite, z_qs_store,
    o_add, o_addL, o_sub, o_mul, o_fdiv, o_mod, o_lt, o_le, o_gt, o_ge, o_isN, o_notN, o_neg, o_lenL, o_lenT, o_lenC, o_max, o_min, o_int, o_intB, o_isiI, o_isiB, o_isiS, o_isiT, o_isiL, o_isiD, kInt, kBl, kStr, kTup, kLst, kDic, o_ixL, o_ixT, o_ixC, o_tupL, o_tupT, o_lstL, o_lstT, g_nil, g_val, g_at, v_val, v_at, r_p, r_l, gt_0, gt_s, bR_s, bR_n, ite_some_eq, ite_none_eq,
    movK, ta_nil, ta_val, ta_at, taAt_p, taAt_l, taAt_m, Val.r, Val.rd, R.pure, lentOk, MOp.keeps, isLst, D.isNon,
    List.map_cons, List.map_nil, List.length_cons, List.length_nil, List.set_cons_zero, List.set_cons_succ, Option.map_some, Option.map_none, Option.bind_some, Option.bind_none, Option.some.injEq, Val.val.injEq, R.p.injEq, D.bl.injEq, D.int.injEq, D.str.injEq, D.tup.injEq, exists_eq_left', exists_eq_left, if_true, if_false, Bool.false_eq_true, decide_eq_true_eq, true_and, and_true, reduceCtorEq, ite_true, ite_false, fr_nil, fr_cons, fp_s, fp_t, fps_nil, fps_cons, lk_nil, lk_val, lk_at, lkAt_p, lkAt_l, lkAt_m, lockE_nil, lockE_cons, unlockE_nil, unlockE_cons, lockF_eq, ip_nil, ip_cons, po_n, po_p, pi_s, pi_t, pis_nil, pis_cons, wipe_nil, wipe_cons, rest_nil, rest_cons, gb_nil, gb_val, gb_at, gb_lent, bp_s, bp_t, bps_nil, bps_cons,
    szL, mulL, mulR, divL, si_seqL, si_seqT, si_seqS, si_rng1, si_rng2, sl_l, sl_t, sl_s, o_slA, o_slB, o_slAB, o_revL, o_revT, o_repr, o_addTT, o_mulS, m_app, m_ext, st_l, QC_e, z_qs_for, o_addS, o_lenS, o_ixS, iI_int, iB_int, iS_int, iT_int, iL_int, iN_int, iD_int, iI_bool, iB_bool, iS_bool, iT_bool, iL_bool, iN_bool, iD_bool, iI_str, iB_str, iS_str, iT_str, iL_str, iN_str, iD_str, iI_tuple, iB_tuple, iS_tuple, iT_tuple, iL_tuple, iN_tuple, iD_tuple, iI_list, iB_list, iS_list, iT_list, iL_list, iN_list, iD_list, iI_dict, iB_dict, iS_dict, iT_dict, iL_dict, iN_dict, iD_dict, out_0, out_c, o_pow10, o_eq, o_ne, deq_int, deq_str, eq_bl,
    Nat.reduceAdd, Nat.reduceSub, Nat.reduceMul, Nat.reduceLT, Nat.reduceLeDiff, Nat.reduceBEq, Nat.reduceEqDiff, Int.reduceAdd, Int.reduceSub, Int.reduceMul, Int.reduceNeg, Int.reduceLT, Int.reduceLE, Int.reduceEq, Int.reduceNe, Int.reducePow, Int.reduceToNat, Nat.reducePow, ne_eq, not_true_eq_false, not_false_eq_true, and_self, Bool.not_false, Bool.not_true, Bool.true_and, Bool.and_true, Bool.false_and, Bool.and_false, List.contains_cons, List.contains_nil, beq_self_eq_true, Bool.true_or, Bool.or_true, Bool.or_false, Bool.false_or, List.cons_append, List.nil_append]
      refine QO_at j0 j3 fun x hx => ?_
      obtain ⟨y, rfl⟩ : ∃ y, x = .int y := by
        simp only [List.mem_cons, List.not_mem_nil, or_false] at hx
        rcases hx with h | h <;> exact ⟨_, h⟩
      have hm : mulOk i y = true := mulL (by omega) (by omega)
      simp only [hm, z_RX_ok, z_RX_stuck, z_CW_ok, z_we_c, z_we_tup, z_we_lst, z_we_dic, z_q_call, z_we_nil, z_we_cons, z_wt_nil, z_ws_nil, z_ws_cons, z_ws_set, z_ws_setP, z_ws_par, z_ws_ex, z_ws_ret, z_ws_retN, z_ws_brk, z_ws_cont, z_ws_pass, z_ws_aug, z_OB_some, z_OB_none, z_OB_if, z_OB_ifi, z_OB_map, z_OB_bind, z_TB_val, z_PB_p, z_q_vo, z_q_ve, z_q_va, z_q_mov, z_q_frz, z_q_lend, z_q_op, z_q_and, z_q_or, z_q_not, z_q_ite, z_q_chain, z_q_mut, z_q_comp, z_qt_one, z_qs_ite, z_qs_store,
    o_add, o_addL, o_sub, o_mul, o_fdiv, o_mod, o_lt, o_le, o_gt, o_ge, o_isN, o_notN, o_neg, o_lenL, o_lenT, o_lenC, o_max, o_min, o_int, o_intB, o_isiI, o_isiB, o_isiS, o_isiT, o_isiL, o_isiD, kInt, kBl, kStr, kTup, kLst, kDic, o_ixL, o_ixT, o_ixC, o_tupL, o_tupT, o_lstL, o_lstT, g_nil, g_val, g_at, v_val, v_at, r_p, r_l, gt_0, gt_s, bR_s, bR_n, ite_some_eq, ite_none_eq,
    movK, ta_nil, ta_val, ta_at, taAt_p, taAt_l, taAt_m, Val.r, Val.rd, R.pure, lentOk, MOp.keeps, isLst, D.isNon,
    List.map_cons, List.map_nil, List.length_cons, List.length_nil, List.set_cons_zero, List.set_cons_succ, Option.map_some, Option.map_none, Option.bind_some, Option.bind_none, Option.some.injEq, Val.val.injEq, R.p.injEq, D.bl.injEq, D.int.injEq, D.str.injEq, D.tup.injEq, exists_eq_left', exists_eq_left, if_true, if_false, Bool.false_eq_true, decide_eq_true_eq, true_and, and_true, reduceCtorEq, ite_true, ite_false, fr_nil, fr_cons, fp_s, fp_t, fps_nil, fps_cons, lk_nil, lk_val, lk_at, lkAt_p, lkAt_l, lkAt_m, lockE_nil, lockE_cons, unlockE_nil, unlockE_cons, lockF_eq, ip_nil, ip_cons, po_n, po_p, pi_s, pi_t, pis_nil, pis_cons, wipe_nil, wipe_cons, rest_nil, rest_cons, gb_nil, gb_val, gb_at, gb_lent, bp_s, bp_t, bps_nil, bps_cons,
    szL, mulL, mulR, divL, si_seqL, si_seqT, si_seqS, si_rng1, si_rng2, sl_l, sl_t, sl_s, o_slA, o_slB, o_slAB, o_revL, o_revT, o_repr, o_addTT, o_mulS, m_app, m_ext, st_l, QC_e, z_qs_for, o_addS, o_lenS, o_ixS, iI_int, iB_int, iS_int, iT_int, iL_int, iN_int, iD_int, iI_bool, iB_bool, iS_bool, iT_bool, iL_bool, iN_bool, iD_bool, iI_str, iB_str, iS_str, iT_str, iL_str, iN_str, iD_str, iI_tuple, iB_tuple, iS_tuple, iT_tuple, iL_tuple, iN_tuple, iD_tuple, iI_list, iB_list, iS_list, iT_list, iL_list, iN_list, iD_list, iI_dict, iB_dict, iS_dict, iT_dict, iL_dict, iN_dict, iD_dict, out_0, out_c, o_pow10, o_eq, o_ne, deq_int, deq_str, eq_bl,
    Nat.reduceAdd, Nat.reduceSub, Nat.reduceMul, Nat.reduceLT, Nat.reduceLeDiff, Nat.reduceBEq, Nat.reduceEqDiff, Int.reduceAdd, Int.reduceSub, Int.reduceMul, Int.reduceNeg, Int.reduceLT, Int.reduceLE, Int.reduceEq, Int.reduceNe, Int.reducePow, Int.reduceToNat, Nat.reducePow, ne_eq, not_true_eq_false, not_false_eq_true, and_self, Bool.not_false, Bool.not_true, Bool.true_and, Bool.and_true, Bool.false_and, Bool.and_false, List.contains_cons, List.contains_nil, beq_self_eq_true, Bool.true_or, Bool.or_true, Bool.or_false, Bool.false_or, List.cons_append, List.nil_append]
      exact ⟨_, _, _, rfl⟩
    rintro _ ⟨f, b, c, rfl⟩
    refine QS_cut (fun ρ => ∃ t8 t10, pureO t10 = true ∧ ρ = [some (.p (.scr (ns.map D.int))), some (.p (.int k)), some (dr a b c), some (.l (nms.map D.str)), some (.p (.tup (ps.map portD))), t5, t6, some (.p (.int f)), t8, t9, t10]) ?_ ?_
    · simp only [z_RX_ok, z_RX_stuck, z_CW_ok, z_we_c, z_we_tup, z_we_lst, z_we_dic, z_q_call, z_we_nil, z_we_cons, z_wt_nil, z_ws_nil, z_ws_cons, z_ws_set, z_ws_setP, z_ws_par, z_ws_ex, z_ws_ret, z_ws_retN, z_ws_brk, z_ws_cont, z_ws_pass, z_ws_aug, z_OB_some, z_OB_none, z_OB_if, z_OB_ifi, z_OB_map, z_OB_bind, z_TB_val, z_PB_p, z_q_vo, z_q_ve, z_q_va, z_q_mov, z_q_frz, z_q_lend, z_q_op, z_q_and, z_q_or, z_q_not, z_q_ite, z_q_chain, z_q_mut, z_q_comp, z_qt_one, z_qs_ite, z_qs_store,
    o_add, o_addL, o_sub, o_mul, o_fdiv, o_mod, o_lt, o_le, o_gt, o_ge, o_isN, o_notN, o_neg, o_lenL, o_lenT, o_lenC, o_max, o_min, o_int, o_intB, o_isiI, o_isiB, o_isiS, o_isiT, o_isiL, o_isiD, kInt, kBl, kStr, kTup, kLst, kDic, o_ixL, o_ixT, o_ixC, o_tupL, o_tupT, o_lstL, o_lstT, g_nil, g_val, g_at, v_val, v_at, r_p, r_l, gt_0, gt_s, bR_s, bR_n, ite_some_eq, ite_none_eq,
    movK, ta_nil, ta_val, ta_at, taAt_p, taAt_l, taAt_m, Val.r, Val.rd, R.pure, lentOk, MOp.keeps, isLst, D.isNon,
    List.map_cons, List.map_nil, List.length_cons, List.length_nil, List.set_cons_zero, List.set_cons_succ, Option.map_some, Option.map_none, Option.bind_some, Option.bind_none, Option.some.injEq, Val.val.injEq, R.p.injEq, D.bl.injEq, D.int.injEq, D.str.injEq, D.tup.injEq, exists_eq_left', exists_eq_left, if_true, if_false, Bool.false_eq_true, decide_eq_true_eq, true_and, and_true, reduceCtorEq, ite_true, ite_false, fr_nil, fr_cons, fp_s, fp_t, fps_nil, fps_cons, lk_nil, lk_val, lk_at, lkAt_p, lkAt_l, lkAt_m, lockE_nil, lockE_cons, unlockE_nil, unlockE_cons, lockF_eq, ip_nil, ip_cons, po_n, po_p, pi_s, pi_t, pis_nil, pis_cons, wipe_nil, wipe_cons, rest_nil, rest_cons, gb_nil, gb_val, gb_at, gb_lent, bp_s, bp_t, bps_nil, bps_cons,
    szL, mulL, mulR, divL, si_seqL, si_seqT, si_seqS, si_rng1, si_rng2, sl_l, sl_t, sl_s, o_slA, o_slB, o_slAB, o_revL, o_revT, o_repr, o_addTT, o_mulS, m_app, m_ext, st_l, QC_e, z_qs_for, o_addS, o_lenS, o_ixS, iI_int, iB_int, iS_int, iT_int, iL_int, iN_int, iD_int, iI_bool, iB_bool, iS_bool, iT_bool, iL_bool, iN_bool, iD_bool, iI_str, iB_str, iS_str, iT_str, iL_str, iN_str, iD_str, iI_tuple, iB_tuple, iS_tuple, iT_tuple, iL_tuple, iN_tuple, iD_tuple, iI_list, iB_list, iS_list, iT_list, iL_list, iN_list, iD_list, iI_dict, iB_dict, iS_dict, iT_dict, iL_dict, iN_dict, iD_dict, out_0, out_c, o_pow10, o_eq, o_ne, deq_int, deq_str, eq_bl,
    Nat.reduceAdd, Nat.reduceSub, Nat.reduceMul, Nat.reduceLT, Nat.reduceLeDiff, Nat.reduceBEq, Nat.reduceEqDiff, Int.reduceAdd, Int.reduceSub, Int.reduceMul, Int.reduceNeg, Int.reduceLT, Int.reduceLE, Int.reduceEq, Int.reduceNe, Int.reducePow, Int.reduceToNat, Nat.reducePow, ne_eq, not_true_eq_false, not_false_eq_true, and_self, Bool.not_false, Bool.not_true, Bool.true_and, Bool.and_true, Bool.false_and, Bool.and_false, List.contains_cons, List.contains_nil, beq_self_eq_true, Bool.true_or, Bool.or_true, Bool.or_false, Bool.false_or, List.cons_append, List.nil_append]
      refine QS_inv (I := fun items ρ => (∃ t8 t10, pureO t10 = true ∧ ρ = [some (.p (.scr (ns.map D.int))), some (.p (.int k)), some (dr a b c), some (.l (nms.map D.str)), some (.p (.tup (ps.map portD))), t5, t6, some (.p (.int f)), t8, t9, t10]) ∧ ∀ x ∈ items, ∃ m : Int, x = .int m ∧ 0 < m) ⟨⟨_, _, h10, rfl⟩, ?_⟩ (fun ρ z => z.1) ?_
      · intro x hx
        simp only [List.mem_cons, List.not_mem_nil, or_false] at hx
        rcases hx with h | h | h <;> exact ⟨_, h, by decide⟩
      rintro x xs _ ⟨⟨t8, t10, h10, rfl⟩, hx⟩
      obtain ⟨m, rfl, m0⟩ := hx x List.mem_cons_self
      have hxs : ∀ x ∈ xs, ∃ m : Int, x = .int m ∧ 0 < m := fun y hy => hx y (List.mem_cons_of_mem _ hy)
      simp only [h10, hC m0, z_RX_ok, z_RX_stuck, z_CW_ok, z_we_c, z_we_tup, z_we_lst, z_we_dic, z_q_call, z_we_nil, z_we_cons, z_wt_nil, z_ws_nil, z_ws_cons, z_ws_set, z_ws_setP, z_ws_par, z_ws_ex, z_ws_ret, z_ws_retN, z_ws_brk, z_ws_cont, z_ws_pass, z_ws_aug, z_OB_some, z_OB_none, z_OB_if, z_OB_ifi, z_OB_map, z_OB_bind, z_TB_val, z_PB_p, z_q_vo, z_q_ve, z_q_va, z_q_mov, z_q_frz, z_q_lend, z_q_op, z_q_and, z_q_or, z_q_not, z_q_ite, z_q_chain, z_q_mut, z_q_comp, z_qt_one, z_qs_ite, z_qs_store,
    o_add, o_addL, o_sub, o_mul, o_fdiv, o_mod, o_lt, o_le, o_gt, o_ge, o_isN, o_notN, o_neg, o_lenL, o_lenT, o_lenC, o_max, o_min, o_int, o_intB, o_isiI, o_isiB, o_isiS, o_isiT, o_isiL, o_isiD, kInt, kBl, kStr, kTup, kLst, kDic, o_ixL, o_ixT, o_ixC, o_tupL, o_tupT, o_lstL, o_lstT, g_nil, g_val, g_at, v_val, v_at, r_p, r_l, gt_0, gt_s, bR_s, bR_n, ite_some_eq, ite_none_eq,
    movK, ta_nil, ta_val, ta_at, taAt_p, taAt_l, taAt_m, Val.r, Val.rd, R.pure, lentOk, MOp.keeps, isLst, D.isNon,
    List.map_cons, List.map_nil, List.length_cons, List.length_nil, List.set_cons_zero, List.set_cons_succ, Option.map_some, Option.map_none, Option.bind_some, Option.bind_none, Option.some.injEq, Val.val.injEq, R.p.injEq, D.bl.injEq, D.int.injEq, D.str.injEq, D.tup.injEq, exists_eq_left', exists_eq_left, if_true, if_false, Bool.false_eq_true, decide_eq_true_eq, true_and, and_true, reduceCtorEq, ite_true, ite_false, fr_nil, fr_cons, fp_s, fp_t, fps_nil, fps_cons, lk_nil, lk_val, lk_at, lkAt_p, lkAt_l, lkAt_m, lockE_nil, lockE_cons, unlockE_nil, unlockE_cons, lockF_eq, ip_nil, ip_cons, po_n, po_p, pi_s, pi_t, pis_nil, pis_cons, wipe_nil, wipe_cons, rest_nil, rest_cons, gb_nil, gb_val, gb_at, gb_lent, bp_s, bp_t, bps_nil, bps_cons,
    szL, mulL, mulR, divL, si_seqL, si_seqT, si_seqS, si_rng1, si_rng2, sl_l, sl_t, sl_s, o_slA, o_slB, o_slAB, o_revL, o_revT, o_repr, o_addTT, o_mulS, m_app, m_ext, st_l, QC_e, z_qs_for, o_addS, o_lenS, o_ixS, iI_int, iB_int, iS_int, iT_int, iL_int, iN_int, iD_int, iI_bool, iB_bool, iS_bool, iT_bool, iL_bool, iN_bool, iD_bool, iI_str, iB_str, iS_str, iT_str, iL_str, iN_str, iD_str, iI_tuple, iB_tuple, iS_tuple, iT_tuple, iL_tuple, iN_tuple, iD_tuple, iI_list, iB_list, iS_list, iT_list, iL_list, iN_list, iD_list, iI_dict, iB_dict, iS_dict, iT_dict, iL_dict, iN_dict, iD_dict, out_0, out_c, o_pow10, o_eq, o_ne, deq_int, deq_str, eq_bl,
    Nat.reduceAdd, Nat.reduceSub, Nat.reduceMul, Nat.reduceLT, Nat.reduceLeDiff, Nat.reduceBEq, Nat.reduceEqDiff, Int.reduceAdd, Int.reduceSub, Int.reduceMul, Int.reduceNeg, Int.reduceLT, Int.reduceLE, Int.reduceEq, Int.reduceNe, Int.reducePow, Int.reduceToNat, Nat.reducePow, ne_eq, not_true_eq_false, not_false_eq_true, and_self, Bool.not_false, Bool.not_true, Bool.true_and, Bool.and_true, Bool.false_and, Bool.and_false, List.contains_cons, List.contains_nil, beq_self_eq_true, Bool.true_or, Bool.or_true, Bool.or_false, Bool.false_or, List.cons_append, List.nil_append]
      refine QX_comp (cl := cl) (i := 10) (fun _ => true) (fun _ => .bl true) (ρ := [some (.p (.scr (ns.map D.int))), some (.p (.int k)), some (dr a b c), some (.l (nms.map D.str)), some (.p (.tup (ps.map portD))), t5, t6, some (.p (.int f)), some (.p (.int m)), t9, none]) rfl ?_ ?_ ?_ t10
      · intro x _
        simp only [z_RX_ok, z_RX_stuck, z_CW_ok, z_we_c, z_we_tup, z_we_lst, z_we_dic, z_q_call, z_we_nil, z_we_cons, z_wt_nil, z_ws_nil, z_ws_cons, z_ws_set, z_ws_setP, z_ws_par, z_ws_ex, z_ws_ret, z_ws_retN, z_ws_brk, z_ws_cont, z_ws_pass, z_ws_aug, z_OB_some, z_OB_none, z_OB_if, z_OB_ifi, z_OB_map, z_OB_bind, z_TB_val, z_PB_p, z_q_vo, z_q_ve, z_q_va, z_q_mov, z_q_frz, z_q_lend, z_q_op, z_q_and, z_q_or, z_q_not, z_q_ite, z_q_chain, z_q_mut, z_q_comp, z_qt_one, z_qs_ite, z_qs_store,
    o_add, o_addL, o_sub, o_mul, o_fdiv, o_mod, o_lt, o_le, o_gt, o_ge, o_isN, o_notN, o_neg, o_lenL, o_lenT, o_lenC, o_max, o_min, o_int, o_intB, o_isiI, o_isiB, o_isiS, o_isiT, o_isiL, o_isiD, kInt, kBl, kStr, kTup, kLst, kDic, o_ixL, o_ixT, o_ixC, o_tupL, o_tupT, o_lstL, o_lstT, g_nil, g_val, g_at, v_val, v_at, r_p, r_l, gt_0, gt_s, bR_s, bR_n, ite_some_eq, ite_none_eq,
    movK, ta_nil, ta_val, ta_at, taAt_p, taAt_l, taAt_m, Val.r, Val.rd, R.pure, lentOk, MOp.keeps, isLst, D.isNon,
    List.map_cons, List.map_nil, List.length_cons, List.length_nil, List.set_cons_zero, List.set_cons_succ, Option.map_some, Option.map_none, Option.bind_some, Option.bind_none, Option.some.injEq, Val.val.injEq, R.p.injEq, D.bl.injEq, D.int.injEq, D.str.injEq, D.tup.injEq, exists_eq_left', exists_eq_left, if_true, if_false, Bool.false_eq_true, decide_eq_true_eq, true_and, and_true, reduceCtorEq, ite_true, ite_false, fr_nil, fr_cons, fp_s, fp_t, fps_nil, fps_cons, lk_nil, lk_val, lk_at, lkAt_p, lkAt_l, lkAt_m, lockE_nil, lockE_cons, unlockE_nil, unlockE_cons, lockF_eq, ip_nil, ip_cons, po_n, po_p, pi_s, pi_t, pis_nil, pis_cons, wipe_nil, wipe_cons, rest_nil, rest_cons, gb_nil, gb_val, gb_at, gb_lent, bp_s, bp_t, bps_nil, bps_cons,
    szL, mulL, mulR, divL, si_seqL, si_seqT, si_seqS, si_rng1, si_rng2, sl_l, sl_t, sl_s, o_slA, o_slB, o_slAB, o_revL, o_revT, o_repr, o_addTT, o_mulS, m_app, m_ext, st_l, QC_e, z_qs_for, o_addS, o_lenS, o_ixS, iI_int, iB_int, iS_int, iT_int, iL_int, iN_int, iD_int, iI_bool, iB_bool, iS_bool, iT_bool, iL_bool, iN_bool, iD_bool, iI_str, iB_str, iS_str, iT_str, iL_str, iN_str, iD_str, iI_tuple, iB_tuple, iS_tuple, iT_tuple, iL_tuple, iN_tuple, iD_tuple, iI_list, iB_list, iS_list, iT_list, iL_list, iN_list, iD_list, iI_dict, iB_dict, iS_dict, iT_dict, iL_dict, iN_dict, iD_dict, out_0, out_c, o_pow10, o_eq, o_ne, deq_int, deq_str, eq_bl,
    Nat.reduceAdd, Nat.reduceSub, Nat.reduceMul, Nat.reduceLT, Nat.reduceLeDiff, Nat.reduceBEq, Nat.reduceEqDiff, Int.reduceAdd, Int.reduceSub, Int.reduceMul, Int.reduceNeg, Int.reduceLT, Int.reduceLE, Int.reduceEq, Int.reduceNe, Int.reducePow, Int.reduceToNat, Nat.reducePow, ne_eq, not_true_eq_false, not_false_eq_true, and_self, Bool.not_false, Bool.not_true, Bool.true_and, Bool.and_true, Bool.false_and, Bool.and_false, List.contains_cons, List.contains_nil, beq_self_eq_true, Bool.true_or, Bool.or_true, Bool.or_false, Bool.false_or, List.cons_append, List.nil_append]
      · intro x hx _
        obtain ⟨y, rfl⟩ : ∃ y, x = .int y := by
          simp only [List.mem_cons, List.not_mem_nil, or_false] at hx
          rcases hx with h | h | h | h | h | h | h | h | h | h <;> exact ⟨_, h⟩
        simp only [hC m0, z_RX_ok, z_RX_stuck, z_CW_ok, z_we_c, z_we_tup, z_we_lst, z_we_dic, z_q_call, z_we_nil, z_we_cons, z_wt_nil, z_ws_nil, z_ws_cons, z_ws_set, z_ws_setP, z_ws_par, z_ws_ex, z_ws_ret, z_ws_retN, z_ws_brk, z_ws_cont, z_ws_pass, z_ws_aug, z_OB_some, z_OB_none, z_OB_if, z_OB_ifi, z_OB_map, z_OB_bind, z_TB_val, z_PB_p, z_q_vo, z_q_ve, z_q_va, z_q_mov, z_q_frz, z_q_lend, z_q_op, z_q_and, z_q_or, z_q_not, z_q_ite, z_q_chain, z_q_mut, z_q_comp, z_qt_one, z_qs_ite, z_qs_store,
    o_add, o_addL, o_sub, o_mul, o_fdiv, o_mod, o_lt, o_le, o_gt, o_ge, o_isN, o_notN, o_neg, o_lenL, o_lenT, o_lenC, o_max, o_min, o_int, o_intB, o_isiI, o_isiB, o_isiS, o_isiT, o_isiL, o_isiD, kInt, kBl, kStr, kTup, kLst, kDic, o_ixL, o_ixT, o_ixC, o_tupL, o_tupT, o_lstL, o_lstT, g_nil, g_val, g_at, v_val, v_at, r_p, r_l, gt_0, gt_s, bR_s, bR_n, ite_some_eq, ite_none_eq,
    movK, ta_nil, ta_val, ta_at, taAt_p, taAt_l, taAt_m, Val.r, Val.rd, R.pure, lentOk, MOp.keeps, isLst, D.isNon,
    List.map_cons, List.map_nil, List.length_cons, List.length_nil, List.set_cons_zero, List.set_cons_succ, Option.map_some, Option.map_none, Option.bind_some, Option.bind_none, Option.some.injEq, Val.val.injEq, R.p.injEq, D.bl.injEq, D.int.injEq, D.str.injEq, D.tup.injEq, exists_eq_left', exists_eq_left, if_true, if_false, Bool.false_eq_true, decide_eq_true_eq, true_and, and_true, reduceCtorEq, ite_true, ite_false, fr_nil, fr_cons, fp_s, fp_t, fps_nil, fps_cons, lk_nil, lk_val, lk_at, lkAt_p, lkAt_l, lkAt_m, lockE_nil, lockE_cons, unlockE_nil, unlockE_cons, lockF_eq, ip_nil, ip_cons, po_n, po_p, pi_s, pi_t, pis_nil, pis_cons, wipe_nil, wipe_cons, rest_nil, rest_cons, gb_nil, gb_val, gb_at, gb_lent, bp_s, bp_t, bps_nil, bps_cons,
    szL, mulL, mulR, divL, si_seqL, si_seqT, si_seqS, si_rng1, si_rng2, sl_l, sl_t, sl_s, o_slA, o_slB, o_slAB, o_revL, o_revT, o_repr, o_addTT, o_mulS, m_app, m_ext, st_l, QC_e, z_qs_for, o_addS, o_lenS, o_ixS, iI_int, iB_int, iS_int, iT_int, iL_int, iN_int, iD_int, iI_bool, iB_bool, iS_bool, iT_bool, iL_bool, iN_bool, iD_bool, iI_str, iB_str, iS_str, iT_str, iL_str, iN_str, iD_str, iI_tuple, iB_tuple, iS_tuple, iT_tuple, iL_tuple, iN_tuple, iD_tuple, iI_list, iB_list, iS_list, iT_list, iL_list, iN_list, iD_list, iI_dict, iB_dict, iS_dict, iT_dict, iL_dict, iN_dict, iD_dict, out_0, out_c, o_pow10, o_eq, o_ne, deq_int, deq_str, eq_bl,
    Nat.reduceAdd, Nat.reduceSub, Nat.reduceMul, Nat.reduceLT, Nat.reduceLeDiff, Nat.reduceBEq, Nat.reduceEqDiff, Int.reduceAdd, Int.reduceSub, Int.reduceMul, Int.reduceNeg, Int.reduceLT, Int.reduceLE, Int.reduceEq, Int.reduceNe, Int.reducePow, Int.reduceToNat, Nat.reducePow, ne_eq, not_true_eq_false, not_false_eq_true, and_self, Bool.not_false, Bool.not_true, Bool.true_and, Bool.and_true, Bool.false_and, Bool.and_false, List.contains_cons, List.contains_nil, beq_self_eq_true, Bool.true_or, Bool.or_true, Bool.or_false, Bool.false_or, List.cons_append, List.nil_append]
        try exact ⟨_, rfl, rfl, rfl⟩
      · intro o
        rw [filt]
        refine ⟨by show 10 ≤ sizeLine; decide, ?_⟩
        have ea : ∀ b : Bool, opB .all1 [.lst [.bl true, .bl true, .bl true, .bl true, .bl true, .bl true, .bl true, .bl true, .bl true, .bl true]] = some (.p (.bl true)) := fun _ => rfl
        simp only [ea true, z_RX_ok, z_RX_stuck, z_CW_ok, z_we_c, z_we_tup, z_we_lst, z_we_dic, z_q_call, z_we_nil, z_we_cons, z_wt_nil, z_ws_nil, z_ws_cons, z_ws_set, z_ws_setP, z_ws_par, z_ws_ex, z_ws_ret, z_ws_retN, z_ws_brk, z_ws_cont, z_ws_pass, z_ws_aug, z_OB_some, z_OB_none, z_OB_if, z_OB_ifi, z_OB_map, z_OB_bind, z_TB_val, z_PB_p, z_q_vo, z_q_ve, z_q_va, z_q_mov, z_q_frz, z_q_lend, z_q_op, z_q_and, z_q_or, z_q_not, z_q_ite, z_q_chain, z_q_mut, z_q_comp, z_qt_one, z_qs_ite, z_qs_store,
    o_add, o_addL, o_sub, o_mul, o_fdiv, o_mod, o_lt, o_le, o_gt, o_ge, o_isN, o_notN, o_neg, o_lenL, o_lenT, o_lenC, o_max, o_min, o_int, o_intB, o_isiI, o_isiB, o_isiS, o_isiT, o_isiL, o_isiD, kInt, kBl, kStr, kTup, kLst, kDic, o_ixL, o_ixT, o_ixC, o_tupL, o_tupT, o_lstL, o_lstT, g_nil, g_val, g_at, v_val, v_at, r_p, r_l, gt_0, gt_s, bR_s, bR_n, ite_some_eq, ite_none_eq,
    movK, ta_nil, ta_val, ta_at, taAt_p, taAt_l, taAt_m, Val.r, Val.rd, R.pure, lentOk, MOp.keeps, isLst, D.isNon,
    List.map_cons, List.map_nil, List.length_cons, List.length_nil, List.set_cons_zero, List.set_cons_succ, Option.map_some, Option.map_none, Option.bind_some, Option.bind_none, Option.some.injEq, Val.val.injEq, R.p.injEq, D.bl.injEq, D.int.injEq, D.str.injEq, D.tup.injEq, exists_eq_left', exists_eq_left, if_true, if_false, Bool.false_eq_true, decide_eq_true_eq, true_and, and_true, reduceCtorEq, ite_true, ite_false, fr_nil, fr_cons, fp_s, fp_t, fps_nil, fps_cons, lk_nil, lk_val, lk_at, lkAt_p, lkAt_l, lkAt_m, lockE_nil, lockE_cons, unlockE_nil, unlockE_cons, lockF_eq, ip_nil, ip_cons, po_n, po_p, pi_s, pi_t, pis_nil, pis_cons, wipe_nil, wipe_cons, rest_nil, rest_cons, gb_nil, gb_val, gb_at, gb_lent, bp_s, bp_t, bps_nil, bps_cons,
    szL, mulL, mulR, divL, si_seqL, si_seqT, si_seqS, si_rng1, si_rng2, sl_l, sl_t, sl_s, o_slA, o_slB, o_slAB, o_revL, o_revT, o_repr, o_addTT, o_mulS, m_app, m_ext, st_l, QC_e, z_qs_for, o_addS, o_lenS, o_ixS, iI_int, iB_int, iS_int, iT_int, iL_int, iN_int, iD_int, iI_bool, iB_bool, iS_bool, iT_bool, iL_bool, iN_bool, iD_bool, iI_str, iB_str, iS_str, iT_str, iL_str, iN_str, iD_str, iI_tuple, iB_tuple, iS_tuple, iT_tuple, iL_tuple, iN_tuple, iD_tuple, iI_list, iB_list, iS_list, iT_list, iL_list, iN_list, iD_list, iI_dict, iB_dict, iS_dict, iT_dict, iL_dict, iN_dict, iD_dict, out_0, out_c, o_pow10, o_eq, o_ne, deq_int, deq_str, eq_bl,
    Nat.reduceAdd, Nat.reduceSub, Nat.reduceMul, Nat.reduceLT, Nat.reduceLeDiff, Nat.reduceBEq, Nat.reduceEqDiff, Int.reduceAdd, Int.reduceSub, Int.reduceMul, Int.reduceNeg, Int.reduceLT, Int.reduceLE, Int.reduceEq, Int.reduceNe, Int.reducePow, Int.reduceToNat, Nat.reducePow, ne_eq, not_true_eq_false, not_false_eq_true, and_self, Bool.not_false, Bool.not_true, Bool.true_and, Bool.and_true, Bool.false_and, Bool.and_false, List.contains_cons, List.contains_nil, beq_self_eq_true, Bool.true_or, Bool.or_true, Bool.or_false, Bool.false_or, List.cons_append, List.nil_append]
        exact ⟨⟨_, _, h10, rfl⟩, hxs⟩
    rintro _ ⟨t8, t10, h10, rfl⟩
    exact ⟨⟨_, _, _, _, _, _, _, _, _, _, h9', h10, rfl⟩, hxs⟩
  rintro _ -
  simp only [z_RX_ok, z_RX_stuck, z_CW_ok, z_we_c, z_we_tup, z_we_lst, z_we_dic, z_q_call, z_we_nil, z_we_cons, z_wt_nil, z_ws_nil, z_ws_cons, z_ws_set, z_ws_setP, z_ws_par, z_ws_ex, z_ws_ret, z_ws_retN, z_ws_brk, z_ws_cont, z_ws_pass, z_ws_aug, z_OB_some, z_OB_none, z_OB_if, z_OB_ifi, z_OB_map, z_OB_bind, z_TB_val, z_PB_p, z_q_vo, z_q_ve, z_q_va, z_q_mov, z_q_frz, z_q_lend, z_q_op, z_q_and, z_q_or, z_q_not, z_q_ite, z_q_chain, z_q_mut, z_q_comp, z_qt_one, z_qs_ite, z_qs_store,
    o_add, o_addL, o_sub, o_mul, o_fdiv, o_mod, o_lt, o_le, o_gt, o_ge, o_isN, o_notN, o_neg, o_lenL, o_lenT, o_lenC, o_max, o_min, o_int, o_intB, o_isiI, o_isiB, o_isiS, o_isiT, o_isiL, o_isiD, kInt, kBl, kStr, kTup, kLst, kDic, o_ixL, o_ixT, o_ixC, o_tupL, o_tupT, o_lstL, o_lstT, g_nil, g_val, g_at, v_val, v_at, r_p, r_l, gt_0, gt_s, bR_s, bR_n, ite_some_eq, ite_none_eq,
    movK, ta_nil, ta_val, ta_at, taAt_p, taAt_l, taAt_m, Val.r, Val.rd, R.pure, lentOk, MOp.keeps, isLst, D.isNon,
    List.map_cons, List.map_nil, List.length_cons, List.length_nil, List.set_cons_zero, List.set_cons_succ, Option.map_some, Option.map_none, Option.bind_some, Option.bind_none, Option.some.injEq, Val.val.injEq, R.p.injEq, D.bl.injEq, D.int.injEq, D.str.injEq, D.tup.injEq, exists_eq_left', exists_eq_left, if_true, if_false, Bool.false_eq_true, decide_eq_true_eq, true_and, and_true, reduceCtorEq, ite_true, ite_false, fr_nil, fr_cons, fp_s, fp_t, fps_nil, fps_cons, lk_nil, lk_val, lk_at, lkAt_p, lkAt_l, lkAt_m, lockE_nil, lockE_cons, unlockE_nil, unlockE_cons, lockF_eq, ip_nil, ip_cons, po_n, po_p, pi_s, pi_t, pis_nil, pis_cons, wipe_nil, wipe_cons, rest_nil, rest_cons, gb_nil, gb_val, gb_at, gb_lent, bp_s, bp_t, bps_nil, bps_cons,
    szL, mulL, mulR, divL, si_seqL, si_seqT, si_seqS, si_rng1, si_rng2, sl_l, sl_t, sl_s, o_slA, o_slB, o_slAB, o_revL, o_revT, o_repr, o_addTT, o_mulS, m_app, m_ext, st_l, QC_e, z_qs_for, o_addS, o_lenS, o_ixS, iI_int, iB_int, iS_int, iT_int, iL_int, iN_int, iD_int, iI_bool, iB_bool, iS_bool, iT_bool, iL_bool, iN_bool, iD_bool, iI_str, iB_str, iS_str, iT_str, iL_str, iN_str, iD_str, iI_tuple, iB_tuple, iS_tuple, iT_tuple, iL_tuple, iN_tuple, iD_tuple, iI_list, iB_list, iS_list, iT_list, iL_list, iN_list, iD_list, iI_dict, iB_dict, iS_dict, iT_dict, iL_dict, iN_dict, iD_dict, out_0, out_c, o_pow10, o_eq, o_ne, deq_int, deq_str, eq_bl,
    Nat.reduceAdd, Nat.reduceSub, Nat.reduceMul, Nat.reduceLT, Nat.reduceLeDiff, Nat.reduceBEq, Nat.reduceEqDiff, Int.reduceAdd, Int.reduceSub, Int.reduceMul, Int.reduceNeg, Int.reduceLT, Int.reduceLE, Int.reduceEq, Int.reduceNe, Int.reducePow, Int.reduceToNat, Nat.reducePow, ne_eq, not_true_eq_false, not_false_eq_true, and_self, Bool.not_false, Bool.not_true, Bool.true_and, Bool.and_true, Bool.false_and, Bool.and_false, List.contains_cons, List.contains_nil, beq_self_eq_true, Bool.true_or, Bool.or_true, Bool.or_false, Bool.false_or, List.cons_append, List.nil_append]
end
theorem law_val (ns : List Int) (hl : ns.length ≤ 63) (hb : ∀ z ∈ ns, Builtin.Int.intBits z ≤ 1048576) : ∃ o, callN tbl 40 "law" [.p (.scr (ns.map D.int))] = .ok (.p (.bl true)) o := by
  have hM : ∀ k, MixOk (callN tbl (k + 1)) := fun k _ _ h0 h1 => by rw [c__law_mixed]; exact mixed_ok (callN tbl k) h0 h1
  have hN : ∀ k, NextOk (callN tbl (k + 2)) := fun k _ _ _ _ h0 h1 h2 h3 => by rw [c__law_next]; exact next_ok (callN tbl (k + 1)) (hM k) h0 h1 h2 h3
  have hD : DrawOk (callN tbl 39) ns := fun h0 h1 => by rw [c__law_draw]; exact draw_ok (callN tbl 38) hl h0 h1
  have hC : ∀ k {n m : Int}, 0 < m → callN tbl (k + 2) "_law_cut_right" [.p (.int n), .p (.int m)] = .ok (.p (.bl true)) [some (.p (.int n)), some (.p (.int m))] := fun k n m h => by
    rw [c__law_cut_right]
    exact run_cut_right (cl := callN tbl (k + 1)) (fun {n m} => by rw [c_cut]; exact run_cut (cl := callN tbl k)) h
  rw [c_law]
  refine QC_true (run_law (cl := callN tbl 39) (hN 37) hl hD (fun h0 h1 h2 h3 => ?_) (fun ps hp => ?_) (fun ps hp => ?_) (fun h => hC 37 h))
  · rw [c__law_names]; exact names_ok (callN tbl 38) (hN 36) h0 h1 h2 h3
  · rw [c_all_values]; exact run_all (cl := callN tbl 38) ps hp
  · rw [c__law_values]; exact run_lawv (cl := callN tbl 38) ps hp
end K02
set_option Elab.async false
set_option linter.all false
set_option maxRecDepth 100000
set_option maxHeartbeats 0
namespace K02
open PySem PySem.Spec L2 VB
open PyProof.Rows hiding St
abbrev pw : PySem.Program := PySem.Challenge.pw_vowblocks_k02_values_and_cuts
def top (i : Nat) : Stmt := pw.main.body.getD i (.Pass ⟨0, 0, 0, 0⟩)
def rLaw : DRow := { name := "law", ps := ["_law_script"], N := ["_law_script", "_law_k", "_law_draw_here", "_law_names_here", "_law_ports", "_law_turn", "_law_found", "_law_far", "_law_most", "_law_name", "_law_number"], fn := f_law, st := top 10 }
def T : List DRow := [
  { name := "all_values", ps := ["ports"], N := ["ports", "found", "name", "most", "longer", "row", "value"], fn := f_all_values, st := top 1 },
  { name := "cut", ps := ["number", "most"], N := ["number", "most"], fn := f_cut, st := top 2 },
  { name := "_law_mixed", ps := ["_law_cell", "_law_k"], N := ["_law_cell", "_law_k", "_law_number"], fn := f__law_mixed, st := top 4 },
  { name := "_law_draw", ps := ["_law_script", "_law_k"], N := ["_law_script", "_law_k", "_law_cell", "_law_own", "_law_turn"], fn := f__law_draw, st := top 5 },
  { name := "_law_next", ps := ["_law_draw_here", "_law_many"], N := ["_law_draw_here", "_law_many", "_law_found", "_law_number"], fn := f__law_next, st := top 6 },
  { name := "_law_names", ps := ["_law_draw_here", "_law_many"], N := ["_law_draw_here", "_law_many", "_law_first", "_law_found", "_law_k", "_law_tail"], fn := f__law_names, st := top 7 },
  { name := "_law_values", ps := ["_law_ports"], N := ["_law_ports", "_law_found", "_law_many", "_law_name", "_law_most", "_law_number", "_law_row", "_law_left"], fn := f__law_values, st := top 8 },
  { name := "_law_cut_right", ps := ["_law_number", "_law_most"], N := ["_law_number", "_law_most", "_law_due", "_law_found"], fn := f__law_cut_right, st := top 9 },
  rLaw]
def consts : List (Str × D) := []
def frees : List Str := ["range", "max", "min", "len", "int", "isinstance", "bool", "tuple", "repr", "list", "all"]
theorem law_mem : rLaw ∈ T := List.mem_of_getElem? (i := 8) rfl
theorem tbl_eq : tblOf T = tbl := rfl
theorem t_nodup : (T.map (·.name)).Nodup := by decide +kernel
theorem t_ok : T.all (rowOk (T.map (·.name)) consts frees) = true := by kernel_rfl
theorem c_ok : consts.all cGood = true := by decide +kernel
theorem b_all_values : BindsR { name := "all_values", ps := ["ports"], N := ["ports", "found", "name", "most", "longer", "row", "value"], fn := f_all_values, st := top 1 } := fun _ _ _ _ _ _ us hl => match us, hl with | [_], _ => rfl
theorem b_cut : BindsR { name := "cut", ps := ["number", "most"], N := ["number", "most"], fn := f_cut, st := top 2 } := fun _ _ _ _ _ _ us hl => match us, hl with | [_, _], _ => rfl
theorem b__law_mixed : BindsR { name := "_law_mixed", ps := ["_law_cell", "_law_k"], N := ["_law_cell", "_law_k", "_law_number"], fn := f__law_mixed, st := top 4 } := fun _ _ _ _ _ _ us hl => match us, hl with | [_, _], _ => rfl
theorem b__law_draw : BindsR { name := "_law_draw", ps := ["_law_script", "_law_k"], N := ["_law_script", "_law_k", "_law_cell", "_law_own", "_law_turn"], fn := f__law_draw, st := top 5 } := fun _ _ _ _ _ _ us hl => match us, hl with | [_, _], _ => rfl
theorem b__law_next : BindsR { name := "_law_next", ps := ["_law_draw_here", "_law_many"], N := ["_law_draw_here", "_law_many", "_law_found", "_law_number"], fn := f__law_next, st := top 6 } := fun _ _ _ _ _ _ us hl => match us, hl with | [_, _], _ => rfl
theorem b__law_names : BindsR { name := "_law_names", ps := ["_law_draw_here", "_law_many"], N := ["_law_draw_here", "_law_many", "_law_first", "_law_found", "_law_k", "_law_tail"], fn := f__law_names, st := top 7 } := fun _ _ _ _ _ _ us hl => match us, hl with | [_, _], _ => rfl
theorem b__law_values : BindsR { name := "_law_values", ps := ["_law_ports"], N := ["_law_ports", "_law_found", "_law_many", "_law_name", "_law_most", "_law_number", "_law_row", "_law_left"], fn := f__law_values, st := top 8 } := fun _ _ _ _ _ _ us hl => match us, hl with | [_], _ => rfl
theorem b__law_cut_right : BindsR { name := "_law_cut_right", ps := ["_law_number", "_law_most"], N := ["_law_number", "_law_most", "_law_due", "_law_found"], fn := f__law_cut_right, st := top 9 } := fun _ _ _ _ _ _ us hl => match us, hl with | [_, _], _ => rfl
theorem b_law : BindsR { name := "law", ps := ["_law_script"], N := ["_law_script", "_law_k", "_law_draw_here", "_law_names_here", "_law_ports", "_law_turn", "_law_found", "_law_far", "_law_most", "_law_name", "_law_number"], fn := f_law, st := top 10 } := fun _ _ _ _ _ _ us hl => match us, hl with | [_], _ => rfl
theorem t_binds : ∀ r ∈ T, BindsR r := by
  intro r hr
  simp only [T, List.mem_cons, List.not_mem_nil, or_false] at hr
  rcases hr with rfl | rfl | rfl | rfl | rfl | rfl | rfl | rfl | rfl
  · exact b_all_values
  · exact b_cut
  · exact b__law_mixed
  · exact b__law_draw
  · exact b__law_next
  · exact b__law_names
  · exact b__law_values
  · exact b__law_cut_right
  · exact b_law
end K02
set_option Elab.async false
set_option linter.all false
set_option maxRecDepth 100000
set_option maxHeartbeats 0
namespace K02
open PySem PySem.Spec L2 VB
open PyProof.Rows hiding St
abbrev wRow : PySem.W.OpenRow := PySem.W.OpenLaw.row PySem.Challenge.rw_vowblocks_k02_values_and_cuts
abbrev wHk : PySem.W.Hook := He.hookD 4 (faOf T consts frees) (T.map dOf)
def wOb (s : PySem.W.SharedT) : He.AlD := He.obsDG 4 (faOf T consts frees) (T.map dOf) (HandSHeadRun.getT s)
theorem wOb_eq (s : PySem.W.SharedT) : wOb s = wHk.obs s.abs := He.obsDG_eq (HandSHeadRun.getT_eq s)
theorem wRun (w : World) : HandSHeadRun.RunEq wRow (PySem.W.view wRow.prog [10]) wHk wOb 720 ["all_values", "cut", "_law_mixed", "_law_draw", "_law_next", "_law_names", "_law_values", "_law_cut_right"] w := by
  intro os
  kernel_rfl
end K02
open PySem PySem.W PySem.Calls PyProof.Rows
theorem PySem.Challenge.cw_vowblocks_k02_values_and_cuts_holds : PySem.Challenge.rw_vowblocks_k02_values_and_cuts.Holds := by
  w_on; o_law
  refine HandSHeadRun.head_any (r := OpenLaw.row PySem.Challenge.rw_vowblocks_k02_values_and_cuts) (q := view (OpenLaw.row PySem.Challenge.rw_vowblocks_k02_values_and_cuts).prog [10]) (H := K02.wHk) (ob := K02.wOb) (M := 720) (loose := ["all_values", "cut", "_law_mixed", "_law_draw", "_law_next", "_law_names", "_law_values", "_law_cut_right"]) (d := HandSHeadRun.topDef (OpenLaw.row PySem.Challenge.rw_vowblocks_k02_values_and_cuts).prog 10) (kwd := []) K02.wOb_eq
    (by kernel_rfl) (fun s => by kernel_rfl) K02.wRun (by kernel_rfl) (by kernel_rfl) (by kernel_rfl) (by rfl) (by first | assumption | decide +kernel) (by decide +kernel) ⟨rfl, rfl, rfl, rfl, rfl, by decide +kernel⟩ ?hw ?hc
  case hw => w_witness2
  case hc =>
    exact VB.law_end (l := PySem.Challenge.rw_vowblocks_k02_values_and_cuts) (n := 63) (k := 40) (T := K02.T) (consts := K02.consts) (frees := K02.frees) (x := "_law_script") (r0 := K02.rLaw) (fun w h Y => Y) rfl (by decide) (by kernel_rfl) ⟨rfl, by decide, by decide⟩ K02.law_mem (by kernel_rfl) rfl
      K02.t_nodup K02.t_ok K02.c_ok K02.t_binds (fun ns hl hb => by rw [K02.tbl_eq]; exact K02.law_val ns hl hb)

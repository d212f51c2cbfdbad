import PyProof.Rows.All
import Wide.All
import OpenK.AllK
import Wide.FinOn
import HandS.ForMost
import HandS.ForSpec
import HandS.Walk
import HandS.Zip
import HandS.Rev
import HandS.Conv
import HandS.Deep
import HandS.Wide
import HandS.WideBits
import HandS.Gcd
import HandS.IsInst
import HandS.Defaults
import HandS.Style
import HandS.Flow
import HandS.Head0
import HandS.Head1
import HandS.Head2
import HandS.HeadEnd
import HandS.HeadHook1
import HandS.HeadHook2
import HandS.Words
import PySem.Challenge.RW_bankwhole_k98_whole_limits_of_groups
import KE.KStateDown
set_option Elab.async false
set_option linter.all false
set_option maxRecDepth 100000
namespace Co
open PySem PySem.Spec PyProof.Rows L2
/-! # Co, part 1: a small language for the bodies, values as trees, a store of what may change, and what must hold ahead of a body (wE, wS) -/
/-! ### values -/
inductive T where
  | non | bl (b : Bool) | int (i : Int) | str (s : Str)
  | tup (xs : List T) | lst (xs : List T) | ins (c : Nat) (fs : List (Nat × T))
  | scr (ns : List Int) | h (a : Addr) | exc (x : Nat)
inductive M where
  | lst (xs : List T) | ins (c : Nat) (fs : List (Nat × T))
abbrev Mu := Addr → Option M
def Mu.set (μ : Mu) (a : Addr) (m : M) : Mu := fun b => if b = a then some m else μ b
def Mu.del (μ : Mu) (a : Addr) : Mu := fun b => if b = a then none else μ b
abbrev Sg := List (Option T)
abbrev Pq := T → Mu → Prop
abbrev Xq := Nat → Mu → Prop
abbrev Spec := List T → Mu → Pq → Xq → Prop
/-! ### the language -/
inductive Op2 where
  | add | sub | mul | fdiv | mod | pow
inductive Cm where
  | eq | ne | lt | le | gt | ge | is_ | isnot | in_ | notin
/-- built-in functions -/
inductive Bi where
  | len | abs | int | str | min1 | max1 | min2 | max2 | sum | any | all | list | tuple | gcd | sorted | listrng1 | listrng2 | listrev | tuplerev
/-- methods of built-in types -/
inductive Bm where
  | append | pop0 | pop1 | index | insert | extend | isdigit | split | join | bitlen
/-- what isinstance asks -/
inductive Ty where
  | tint | tbool | tlist | ttuple | tstr | cls (c : Nat) | exc (x : Nat) | tve
inductive Tg where
  | nm (i : Nat) | tp (gs : List Nat)
mutual
inductive E where
  | var (i : Nat) | cst (t : T) | glb (k : Nat)
  | bin (o : Op2) (a b : E) | obin (m : Nat) (a b : E) | cat (mu : Bool) (a b : E) | rep (mu : Bool) (a b : E) | neg (a : E) | ong (m : Nat) (a : E) | not (a : E)
  | cmp (o : Cm) (a b : E) | oeq (ng : Bool) (m : Nat) (a b : E) | chn (o o' : Cm) (a b c : E)
  | and (es : Es) | or (es : Es) | ite (c a b : E)
  | tup (es : Es) | lst (mu : Bool) (es : Es)
  | fld (a : E) (f : Nat) | idx (a i : E) | slc (mu : Bool) (a lo hi : E) | nop
  | call (j : Nat) (es : Es) | mk (c j : Nat) (fz : Bool) (es : Es) | met (a : E) (m : Nat) (es : Es)
  | bi (mu : Bool) (b : Bi) (es : Es) | bm (a : E) (m : Bm) (es : Es)
  | lc (mu : Bool) (el : E) (g : Tg) (it : It) (cs : Es) (own : List Nat)
  | lc2 (mu : Bool) (el : E) (g : Tg) (it : It) (g1 : Tg) (it1 : It) (own own1 : List Nat)
  | frz (a : E) | isi (a : E) (c : Ty) | isx (i : Nat) (tp : Bool) (cs : List Ty)
inductive Es where
  | nil | cons (e : E) (r : Es)
inductive It where
  | ex (e : E) | rng1 (a : E) | rng2 (a b : E) | rng3 (a b c : E) | enu (a : E) | zip (a b : E) | rev (a : E)
end
/-- the end of an except suite -/
inductive Su where
  | ret (e : E) | set (i : Nat) (e : E)
inductive St2 where
  | ix (o i : E) | nm (i : Nat)
mutual
inductive S where
  | set (i : Nat) (e : E) | unp (is : List Nat) (e : E) | par (is : List Nat) (es : Es) | unpS (ts : List (E × E)) (e : E)
  | sfl (o : E) (f : Nat) (e : E) | six (o i e : E)
  | aug (i : Nat) (o : Op2) (e : E) | augI (o i : E) (op : Op2) (e : E)
  | ret (e : E) | retN | exp (e : E) | ifs (c : E) (a b : Ss) | fr (g : Tg) (it : It) (b : Ss) | wh (c : E) (b : Ss)
  | brk | cnt | pas | rai (x : Nat) (m : Str) | tr (b : Ss) (hs : Hs)
  | gst (i : Nat)  -- no code: the list, the instance that the name i holds is no longer changed
inductive Ss where
  | nil | cons (s : S) (r : Ss)
inductive Hs where
  | nil | cons (x : Nat) (nm : Option Nat) (s : Su) (r : Hs)
end
/-! ### what a program gives: names by numbers, classes, methods, the specs of its functions -/
structure Pa where
  at_ : List Str                      -- names of attributes and methods
  cn : List Str                       -- own classes
  xn : List Str                       -- exception classes
  mtl : List (Nat × Nat × Nat)        -- class, method, the function
  fl : Nat → List Nat                 -- the fields of a class
  np : Nat → Nat                      -- how many parameters a function has
  df : Nat → List T                   -- its last parameters' defaults
  xm : Nat → Nat → Bool               -- is the exception class of that one
  gl : List (Str × T)                 -- the module's constants
  fn : List Str                       -- the functions' names in the module (a method's: empty)
  gcd : Bool                          -- is math.gcd imported
  S : Nat → Spec                      -- the functions' specs
def mtG (c m : Nat) : List (Nat × Nat × Nat) → Option Nat
  | [] => none
  | (c', m', j) :: r => if c' = c ∧ m' = m then some j else mtG c m r
def Pa.mt (P : Pa) (c m : Nat) : Option Nat := mtG c m P.mtl
/-- so many arguments may be written -/
def callOk (P : Pa) (j k : Nat) : Prop := k ≤ P.np j ∧ P.np j - k ≤ (P.df j).length
/-- the arguments, filled up by the defaults -/
def fillD (P : Pa) (j : Nat) (ts : List T) : List T := ts ++ (P.df j).drop ((P.df j).length - (P.np j - ts.length))
/-! ### slots, lookups -/
def getS : Sg → Nat → Option T
  | [], _ => none
  | x :: _, 0 => x
  | _ :: r, i + 1 => getS r i
def setS : Sg → Nat → Option T → Sg
  | [], _, _ => []
  | _ :: r, 0, t => t :: r
  | x :: r, i + 1, t => x :: setS r i t
def wipeS (σ : Sg) : List Nat → Sg
  | [] => σ
  | v :: vs => setS (wipeS σ vs) v none
def lookF (f : Nat) : List (Nat × T) → Option T
  | [] => none
  | (g, t) :: r => if g = f then some t else lookF f r
def putN (f : Nat) (t : T) : List (Nat × T) → List (Nat × T)
  | [] => [(f, t)]
  | (g, u) :: r => if g = f then (g, t) :: r else (g, u) :: putN f t r
/-- the items of a list, a tuple -/
def lstO (μ : Mu) : T → Option (List T)
  | .lst xs => some xs
  | .h a => match μ a with
    | some (.lst xs) => some xs
    | _ => none
  | _ => none
def seqO (μ : Mu) : T → Option (List T)
  | .lst xs => some xs
  | .tup xs => some xs
  | .h a => match μ a with
    | some (.lst xs) => some xs
    | _ => none
  | _ => none
def insO (μ : Mu) : T → Option (Nat × List (Nat × T))
  | .ins c fs => some (c, fs)
  | .h a => match μ a with
    | some (.ins c fs) => some (c, fs)
    | _ => none
  | _ => none
def intsO : List T → Option (List Int)
  | [] => some []
  | .int i :: r => (intsO r).map (i :: ·)
  | _ :: _ => none
def blsO : List T → Option (List Bool)
  | [] => some []
  | .bl i :: r => (blsO r).map (i :: ·)
  | _ :: _ => none
def strsO : List T → Option (List Str)
  | [] => some []
  | .str i :: r => (strsO r).map (i :: ·)
  | _ :: _ => none
mutual
/-- as data -/
def dat : T → Option PyData
  | .non => some .none
  | .bl b => some (.bool b)
  | .int i => some (.int i)
  | .str s => some (.str s)
  | .tup xs => (datL xs).map .tuple
  | .lst xs => (datL xs).map .list
  | .ins _ _ => none
  | .scr _ => none
  | .h _ => none
  | .exc _ => none
def datL : List T → Option (List PyData)
  | [] => some []
  | x :: xs => match dat x, datL xs with
    | some d, some ds => some (d :: ds)
    | _, _ => none
end
/-- with the lists of the store, one level down -/
def dat1 (μ : Mu) : T → Option PyData
  | .h a => match μ a with
    | some (.lst xs) => (datL xs).map .list
    | _ => none
  | t => dat t
def datN (μ : Mu) : List T → Option (List PyData)
  | [] => some []
  | x :: xs => match dat1 μ x, datN μ xs with
    | some d, some ds => some (d :: ds)
    | _, _ => none
def datM (μ : Mu) : T → Option PyData
  | .tup xs => (datN μ xs).map .tuple
  | t => dat1 μ t
mutual
/-- no error is held -/
def noExc : T → Bool
  | .tup xs => noExcL xs
  | .lst xs => noExcL xs
  | .ins _ fs => noExcF fs
  | .exc _ => false
  | _ => true
def noExcL : List T → Bool
  | [] => true
  | x :: xs => noExc x && noExcL xs
def noExcF : List (Nat × T) → Bool
  | [] => true
  | (_, x) :: xs => noExc x && noExcF xs
end
/-- truth -/
def tru (μ : Mu) : T → Option Bool
  | .non => some false
  | .bl b => some b
  | .int i => some (i != 0)
  | .str s => if s.length ≤ sizeLine then some (s.length != 0) else none
  | .tup xs => some (!xs.isEmpty)
  | .lst xs => some (!xs.isEmpty)
  | .h a => match μ a with
    | some (.lst xs) => some (!xs.isEmpty)
    | _ => none
  | _ => none
def flatT : T → Bool
  | .non => true
  | .bl _ => true
  | .int _ => true
  | .str _ => true
  | _ => false
/-- == of flat things -/
def eqF : T → T → Bool
  | .non, .non => true
  | .bl a, .bl b => a == b
  | .bl a, .int j => (if a then 1 else 0) == j
  | .int i, .bl b => i == (if b then 1 else 0)
  | .int i, .int j => i == j
  | .str x, .str y => x == y
  | _, _ => false
def cutT (xs : List T) (lo hi : Option Int) : List T := (xs.drop (HT.sIx xs.length 0 lo)).take (HT.sIx xs.length xs.length hi - HT.sIx xs.length 0 lo)
/-! ### by values -/
def wNew (mu : Bool) (xs : List T) (μ : Mu) (Q : Pq) : Prop :=
  xs.length ≤ 16777216 ∧ match mu with
    | true => ∀ a, μ a = none → Q (.h a) (μ.set a (.lst xs))
    | false => Q (.lst xs) μ
/-- an operator of an own class, by its method -/
def wOwn (P : Pa) (m : Nat) (x : T) (ys : List T) (μ : Mu) (Q : Pq) (X : Xq) : Prop := match insO μ x with
  | some (c, _) => (match P.mt c m with
    | some j => callOk P j (ys.length + 1) ∧ P.S j (fillD P j (x :: ys)) μ Q X
    | none => False)
  | none => False
/-- two instances of one class -/
def sameC (μ : Mu) (x y : T) : Bool := match insO μ x, insO μ y with
  | some (c, _), some (c', _) => c == c'
  | _, _ => false
def wBin : Op2 → T → T → Mu → Pq → Prop
  | .add, .int i, .int j, μ, Q => Q (.int (i + j)) μ
  | .sub, .int i, .int j, μ, Q => Q (.int (i - j)) μ
  | .mul, .int i, .int j, μ, Q => IntMulOk i j ∧ Q (.int (i * j)) μ
  | .fdiv, .int i, .int j, μ, Q => j ≠ 0 ∧ j.natAbs.log2 < 9000 ∧ Q (.int (i.fdiv j)) μ
  | .mod, .int i, .int j, μ, Q => j ≠ 0 ∧ Q (.int (i.fmod j)) μ
  | .pow, .int i, .int j, μ, Q => (0 ≤ j ∧ j ≤ 1000000 ∧ i.natAbs < 2 ^ 64) ∧ Q (.int (i ^ j.toNat)) μ
  | .add, .str a, .str b, μ, Q => a.length + b.length ≤ sizeLine ∧ Q (.str (a ++ b)) μ
  | .add, .tup a, .tup b, μ, Q => a ≠ [] ∧ b ≠ [] ∧ a.length + b.length ≤ sizeLine ∧ Q (.tup (a ++ b)) μ
  | _, _, _, _, _ => False
def wCat (mu : Bool) (x y : T) (μ : Mu) (Q : Pq) : Prop := match lstO μ x, lstO μ y with
  | some a, some b => wNew mu (a ++ b) μ Q
  | _, _ => False
def wRep (mu : Bool) (x y : T) (μ : Mu) (Q : Pq) : Prop := match lstO μ x, y with
  | some a, .int k => -(2 ^ 63) ≤ k ∧ k < 2 ^ 63 ∧ a.length * k.toNat ≤ sizeLine ∧ wNew mu (List.replicate k.toNat a).flatten μ Q
  | _, _ => False
def wNeg (x : T) (μ : Mu) (Q : Pq) : Prop := match x with
  | .int i => Q (.int (-i)) μ
  | _ => False
def shp (x : PyData) : Prop := SeqAt.shaped x = true
def wEq (ng : Bool) (x y : T) (μ : Mu) (Q : Pq) : Prop := match datM μ x, datM μ y with
  | some d, some e => shp d ∧ shp e ∧ Q (.bl (PyData.eqv d e ^^ ng)) μ
  | _, _ => False
def cmI : Cm → Int → Int → Bool
  | .lt, i, j => decide (i < j)
  | .le, i, j => decide (i ≤ j)
  | .gt, i, j => decide (j < i)
  | .ge, i, j => decide (j ≤ i)
  | _, _, _ => false
def wChn (o : Cm) (x y : T) (k : Bool → Prop) : Prop := match x, y with
  | .int i, .int j => k (cmI o i j)
  | _, _ => False
def isNon : T → Bool
  | .non => true
  | _ => false
def wIn (ng : Bool) (x y : T) (μ : Mu) (Q : Pq) : Prop := match y with
  | .str b => (match x with
    | .str a => Q (.bl ((!(Builtin.Str.occurrences b a 0 b.length 1).isEmpty) ^^ ng)) μ
    | _ => False)
  | _ => (match seqO μ y with
    | some ys => flatT x = true ∧ ys.all flatT = true ∧ Q (.bl ((ys.any fun z => eqF z x) ^^ ng)) μ
    | none => False)
def wCmp : Cm → T → T → Mu → Pq → Prop
  | .lt, .int i, .int j, μ, Q => Q (.bl (decide (i < j))) μ
  | .le, .int i, .int j, μ, Q => Q (.bl (decide (i ≤ j))) μ
  | .gt, .int i, .int j, μ, Q => Q (.bl (decide (j < i))) μ
  | .ge, .int i, .int j, μ, Q => Q (.bl (decide (j ≤ i))) μ
  | .eq, x, y, μ, Q => wEq false x y μ Q
  | .ne, x, y, μ, Q => wEq true x y μ Q
  | .is_, x, .non, μ, Q => Q (.bl (isNon x)) μ
  | .isnot, x, .non, μ, Q => Q (.bl (!isNon x)) μ
  | .in_, x, y, μ, Q => wIn false x y μ Q
  | .notin, x, y, μ, Q => wIn true x y μ Q
  | _, _, _, _, _ => False
def wIdx (x i : T) (μ : Mu) (Q : Pq) : Prop := match i with
  | .int i => (match x with
    | .str z => z.length ≤ sizeLine ∧ ∃ c, atI z.cps.toList i = some c ∧ Q (.str ⟨#[c]⟩) μ
    | .scr ns => ∃ n, atI ns i = some n ∧ Q (.int n) μ
    | _ => (match seqO μ x with
      | some xs => ∃ v, atI xs i = some v ∧ Q v μ
      | none => False))
  | _ => False
def partE : E → T → Option (Option Int)
  | .nop, _ => some none
  | _, .int i => some (some i)
  | _, _ => none
def wSlc (mu : Bool) (x : T) (lo hi : Option Int) (μ : Mu) (Q : Pq) : Prop := match x with
  | .str z => z.length ≤ sizeLine ∧ Q (.str (cutS z lo hi)) μ
  | .tup xs => ¬ (HT.sIx xs.length 0 lo = 0 ∧ HT.sIx xs.length xs.length hi = xs.length) ∧ Q (.tup (cutT xs lo hi)) μ
  | _ => (match lstO μ x with
    | some xs => wNew mu (cutT xs lo hi) μ Q
    | none => False)
def wFld (x : T) (f : Nat) (μ : Mu) (Q : Pq) : Prop := match insO μ x with
  | some (_, fs) => (match lookF f fs with
    | some v => Q v μ
    | none => False)
  | none => False
def wMk (P : Pa) (c j : Nat) (fz : Bool) (ts : List T) (μ : Mu) (Q : Pq) (X : Xq) : Prop :=
  callOk P j (ts.length + 1) ∧ ∀ a, μ a = none → P.S j (fillD P j (.h a :: ts)) (μ.set a (.ins c [])) (fun r μ1 => r = .non ∧ match fz with
    | true => (match μ1 a with
      | some (.ins c' fs) => Q (.ins c' fs) (μ1.del a)
      | _ => False)
    | false => Q (.h a) μ1) X
def wFrz (x : T) (μ : Mu) (Q : Pq) : Prop := match x with
  | .h a => (match μ a with
    | some (.lst xs) => Q (.lst xs) (μ.del a)
    | some (.ins c fs) => Q (.ins c fs) (μ.del a)
    | none => False)
  | _ => False
def rangeT (i : Int) (n : Nat) : List T := (List.range n).map fun k => T.int (i + (k : Nat))
def wBi (mu : Bool) : Bi → List T → Mu → Pq → Prop
  | .len, [x], μ, Q => (match x with
    | .str z => z.length ≤ sizeLine ∧ Q (.int z.length) μ
    | .scr ns => Q (.int ns.length) μ
    | _ => (match seqO μ x with
      | some xs => Q (.int xs.length) μ
      | none => False))
  | .abs, [.int i], μ, Q => Q (.int (if i < 0 then -i else i)) μ
  | .int, [.int i], μ, Q => Q (.int i) μ
  | .int, [.bl b], μ, Q => Q (.int (if b then 1 else 0)) μ
  | .min2, [.int i, .int j], μ, Q => Q (.int (if j < i then j else i)) μ
  | .max2, [.int i, .int j], μ, Q => Q (.int (if j > i then j else i)) μ
  | .min1, [x], μ, Q => (match (lstO μ x).bind intsO with
    | some ns => 0 < ns.length ∧ ∀ m, m ∈ ns → (∀ y, y ∈ ns → m ≤ y) → Q (.int m) μ
    | none => False)
  | .max1, [x], μ, Q => (match (lstO μ x).bind intsO with
    | some ns => 0 < ns.length ∧ ∀ m, m ∈ ns → (∀ y, y ∈ ns → y ≤ m) → Q (.int m) μ
    | none => False)
  | .sum, [x], μ, Q => (match (lstO μ x).bind intsO with
    | some ns => Q (.int ns.sum) μ
    | none => False)
  | .any, [x], μ, Q => (match (lstO μ x).bind blsO with
    | some ns => Q (.bl (ns.any id)) μ
    | none => False)
  | .all, [x], μ, Q => (match (lstO μ x).bind blsO with
    | some ns => Q (.bl (ns.all id)) μ
    | none => False)
  | .list, [x], μ, Q => (match seqO μ x with
    | some xs => wNew mu xs μ Q
    | none => False)
  | .tuple, [x], μ, Q => (match seqO μ x with
    | some xs => Q (.tup xs) μ
    | none => False)
  | .gcd, [.int i, .int j], μ, Q => Q (.int ((Nat.gcd i.natAbs j.natAbs : Nat) : Int)) μ
  | .listrng1, [.int j], μ, Q => RgOk 0 j ∧ wNew mu (rangeT 0 j.toNat) μ Q
  | .listrng2, [.int i, .int j], μ, Q => RgOk i j ∧ wNew mu (rangeT i (j - i).toNat) μ Q
  | _, _, _, _ => False
def wBm : Bm → T → List T → Mu → Pq → Prop
  | .append, .h a, [y], μ, Q => (match μ a with
    | some (.lst xs) => xs.length < 16777216 ∧ Q .non (μ.set a (.lst (xs ++ [y])))
    | _ => False)
  | .bitlen, .int i, [], μ, Q => Q (.int (Builtin.Int.intBits i : Nat)) μ
  | .pop1, .h a, [.int i], μ, Q => (match μ a with
    | some (.lst xs) => -(2 ^ 63) ≤ i ∧ i < 2 ^ 63 ∧ ∃ k y, seqIndex? i xs.length = some k ∧ xs[k]? = some y ∧ Q y (μ.set a (.lst (xs.eraseIdx k)))
    | _ => False)
  | .pop0, .h a, [], μ, Q => (match μ a with
    | some (.lst xs) => ∃ y, xs[xs.length - 1]? = some y ∧ Q y (μ.set a (.lst xs.dropLast))
    | _ => False)
  | _, _, _, _, _ => False
/-- the receiver's type -/
def bmRcv (m : Bm) (x : T) (μ : Mu) : Prop := match m with
  | .append | .pop0 | .pop1 | .index | .insert | .extend => (lstO μ x).isSome = true
  | .bitlen => (match x with | .int _ => True | _ => False)
  | .isdigit | .split | .join => (match x with | .str _ => True | _ => False)
/-- is it of one of these types (an error's class is known) -/
def isTy (P : Pa) (μ : Mu) (x : T) : Ty → Bool
  | .tint => (match x with | .int _ => true | .bl _ => true | _ => false)
  | .tbool => (match x with | .bl _ => true | _ => false)
  | .tstr => (match x with | .str _ => true | _ => false)
  | .tlist => (match x with | .lst _ => true | .h a => (match μ a with | some (.lst _) => true | _ => false) | _ => false)
  | .ttuple => (match x with | .tup _ => true | _ => false)
  | .cls c => (match insO μ x with | some (c', _) => c' == c | none => false)
  | .exc y => (match x with | .exc z => P.xm z y | _ => false)
  | .tve => (match x with | .exc _ => true | _ => false)
/-- is the type known -/
def tyKn (μ : Mu) : T → Bool
  | .scr _ => false
  | .exc _ => false
  | .h a => (μ a).isSome
  | _ => true
/-- a list that is walked, and what must stay -/
def lstG (μ : Mu) : T → Option (List T × (Mu → Prop))
  | .lst xs => some (xs, fun _ => True)
  | .h a => match μ a with
    | some (.lst xs) => some (xs, fun μ' => μ' a = some (.lst xs))
    | _ => none
  | _ => none
def enuT (i : Nat) : List T → List T
  | [] => []
  | x :: r => .tup [.int (i : Nat), x] :: enuT (i + 1) r
def zipT : List T → List T → List T
  | x :: r, y :: q => .tup [x, y] :: zipT r q
  | _, _ => []
/-! ### targets -/
def asgL : List Nat → List T → Sg → (Sg → Prop) → Prop
  | [], [], σ, k => k σ
  | i :: is, x :: xs, σ, k => asgL is xs (setS σ i (some x)) k
  | _, _, _, _ => False
def asgT : Tg → T → Sg → (Sg → Prop) → Prop
  | .nm i, x, σ, k => k (setS σ i (some x))
  | .tp is, .tup xs, σ, k => asgL is xs σ k
  | .tp _, _, _, _ => False
/-! ### expressions -/
abbrev EV := Sg → Mu → Pq → Xq → Prop
abbrev ET := Sg → Mu → (Bool → Mu → Prop) → Xq → Prop
abbrev EA := Sg → Mu → (List T → Mu → Prop) → Xq → Prop
abbrev EI := Sg → Mu → (List T → (Mu → Prop) → Mu → Prop) → Xq → Prop
def tOf (v : EV) : ET := fun σ μ Q X => v σ μ (fun t μ1 => ∃ b, tru μ1 t = some b ∧ Q b μ1) X
def tOfB (v : EV) : ET := fun σ μ Q X => v σ μ (fun t μ1 => ∃ b, t = .bl b ∧ Q b μ1) X
/-- all tests, one behind the other -/
def allT : List ET → ET
  | [] => fun _ μ Q _ => Q true μ
  | t :: r => fun σ μ Q X => t σ μ (fun b μ1 => if b = true then allT r σ μ1 Q X else Q false μ1) X
/-- the turns of a comprehension -/
def lcGo (g : Tg) (gd : Mu → Prop) (tt : ET) (el : EV) (σ : Sg) (Q : List T → Mu → Prop) : List T → List T → Mu → Prop
  | [], acc, μ => gd μ ∧ Q acc μ
  | x :: xs, acc, μ => gd μ ∧ asgT g x σ fun σ1 => tt σ1 μ (fun b μ1 => if b = true then el σ1 μ1 (fun y μ2 => acc.length < 16777216 ∧ lcGo g gd tt el σ Q xs (acc ++ [y]) μ2) (fun _ _ => False) else lcGo g gd tt el σ Q xs acc μ1) (fun _ _ => False)
/-- a value, a test: both readings of an expression -/
structure Rd2 where
  v : EV
  t : ET
def rd (v : EV) : Rd2 := ⟨v, tOf v⟩
mutual
def sE (P : Pa) : E → Rd2
  | .var i => rd fun σ μ Q _ => (match getS σ i with
    | some t => Q t μ
    | none => False)
  | .cst t => rd fun _ μ Q _ => Q t μ
  | .glb k => rd fun _ μ Q _ => (match P.gl[k]? with
    | some (_, t) => Q t μ
    | none => False)
  | .bin o a b => rd fun σ μ Q X => (sE P a).v σ μ (fun x μ1 => (sE P b).v σ μ1 (fun y μ2 => wBin o x y μ2 Q) X) X
  | .obin m a b => rd fun σ μ Q X => (sE P a).v σ μ (fun x μ1 => (sE P b).v σ μ1 (fun y μ2 => sameC μ2 x y = true ∧ wOwn P m x [y] μ2 Q X) X) X
  | .rep mu a b => rd fun σ μ Q X => (sE P a).v σ μ (fun x μ1 => (sE P b).v σ μ1 (fun y μ2 => wRep mu x y μ2 Q) X) X
  | .cat mu a b => rd fun σ μ Q X => (sE P a).v σ μ (fun x μ1 => (sE P b).v σ μ1 (fun y μ2 => wCat mu x y μ2 Q) X) X
  | .neg a => rd fun σ μ Q X => (sE P a).v σ μ (fun x μ1 => wNeg x μ1 Q) X
  | .ong m a => rd fun σ μ Q X => (sE P a).v σ μ (fun x μ1 => wOwn P m x [] μ1 Q X) X
  | .not a => ⟨fun σ μ Q X => (sE P a).v σ μ (fun x μ1 => ∃ b, tru μ1 x = some b ∧ Q (.bl (!b)) μ1) X, fun σ μ Q X => (sE P a).t σ μ (fun b μ1 => Q (!b) μ1) X⟩
  | .cmp o a b => (fun (v : EV) => (⟨v, tOfB v⟩ : Rd2)) fun σ μ Q X => (sE P a).v σ μ (fun x μ1 => (sE P b).v σ μ1 (fun y μ2 => wCmp o x y μ2 Q) X) X
  | .oeq ng m a b => (fun (v : EV) => (⟨v, tOfB v⟩ : Rd2)) fun σ μ Q X => (sE P a).v σ μ (fun x μ1 => (sE P b).v σ μ1 (fun y μ2 => tyKn μ2 y = true ∧ wOwn P m x [y] μ2 (fun t μ' => ∃ b, t = .bl b ∧ Q (.bl (b ^^ ng)) μ') X) X) X
  | .chn o o' a b c => (fun (v : EV) => (⟨v, tOfB v⟩ : Rd2)) fun σ μ Q X => (sE P a).v σ μ (fun x μ1 => (sE P b).v σ μ1 (fun y μ2 => wChn o x y fun k =>
      if k = true then (sE P c).v σ μ2 (fun u μ3 => wChn o' y u fun k' => Q (.bl k') μ3) X else Q (.bl false) μ2) X) X
  | .and es => sBs P true es
  | .or es => sBs P false es
  | .ite c a b => rd fun σ μ Q X => (sE P c).t σ μ (fun k μ1 => if k = true then (sE P a).v σ μ1 Q X else (sE P b).v σ μ1 Q X) X
  | .tup es => rd fun σ μ Q X => sEs P es σ μ (fun ts μ1 => ts.length ≤ 16777216 ∧ Q (.tup ts) μ1) X
  | .lst mu es => rd fun σ μ Q X => sEs P es σ μ (fun ts μ1 => wNew mu ts μ1 Q) X
  | .fld a f => rd fun σ μ Q X => (sE P a).v σ μ (fun x μ1 => wFld x f μ1 Q) X
  | .idx a i => rd fun σ μ Q X => (sE P a).v σ μ (fun x μ1 => (sE P i).v σ μ1 (fun y μ2 => wIdx x y μ2 Q) X) X
  | .slc mu a lo hi => rd fun σ μ Q X => (sE P a).v σ μ (fun x μ1 => (sE P lo).v σ μ1 (fun l μ2 => ∃ l', partE lo l = some l' ∧ (sE P hi).v σ μ2 (fun u μ3 => ∃ u', partE hi u = some u' ∧ wSlc mu x l' u' μ3 Q) X) X) X
  | .nop => rd fun _ μ Q _ => Q .non μ
  | .call j es => rd fun σ μ Q X => sEs P es σ μ (fun ts μ1 => callOk P j ts.length ∧ P.S j (fillD P j ts) μ1 Q X) X
  | .mk c j fz es => rd fun σ μ Q X => sEs P es σ μ (fun ts μ1 => wMk P c j fz ts μ1 Q X) X
  | .met a m es => rd fun σ μ Q X => (sE P a).v σ μ (fun x μ1 => (match insO μ1 x with
      | some (c, _) => (match P.mt c m with
        | some j => sEs P es σ μ1 (fun ts μ2 => callOk P j (ts.length + 1) ∧ P.S j (fillD P j (x :: ts)) μ2 Q X) X
        | none => False)
      | none => False)) X
  | .bi mu b es => rd fun σ μ Q X => sEs P es σ μ (fun ts μ1 => wBi mu b ts μ1 Q) X
  | .bm a m es => rd fun σ μ Q X => (sE P a).v σ μ (fun x μ1 => bmRcv m x μ1 ∧ sEs P es σ μ1 (fun ts μ2 => wBm m x ts μ2 Q) X) X
  | .lc mu el g it cs own => rd fun σ μ Q X => sI P it σ μ (fun items gd μ1 => lcGo g gd (allT (sTs P cs)) (sE P el).v (wipeS σ own) (fun acc μ2 => wNew mu acc μ2 Q) items [] μ1) X
  | .lc2 mu el g it g1 it1 own own1 => rd fun σ μ Q X => False
  | .frz a => rd fun σ μ Q X => (sE P a).v σ μ (fun x μ1 => wFrz x μ1 Q) X
  | .isi a c => rd fun σ μ Q X => (sE P a).v σ μ (fun x μ1 => tyKn μ1 x = true ∧ Q (.bl (isTy P μ1 x c)) μ1) X
  | .isx i _ cs => rd fun σ μ Q _ => (match getS σ i with
    | some (.exc x) => Q (.bl (cs.any (isTy P μ (.exc x)))) μ
    | _ => False)
/-- and, or: both the value (of bools) and the test -/
def sBs (P : Pa) (k : Bool) : Es → Rd2
  | .nil => ⟨fun _ _ _ _ => False, fun _ _ _ _ => False⟩
  | .cons e .nil => sE P e
  | .cons e (.cons e2 r) => ⟨fun σ μ Q X => (sE P e).v σ μ (fun x μ1 => ∃ c, x = .bl c ∧ if c = k then (sBs P k (.cons e2 r)).v σ μ1 Q X else Q (.bl c) μ1) X,
      fun σ μ Q X => (sE P e).t σ μ (fun c μ1 => if c = k then (sBs P k (.cons e2 r)).t σ μ1 Q X else Q c μ1) X⟩
def sEs (P : Pa) : Es → EA
  | .nil => fun _ μ Q _ => Q [] μ
  | .cons e r => fun σ μ Q X => (sE P e).v σ μ (fun x μ1 => sEs P r σ μ1 (fun xs μ2 => Q (x :: xs) μ2) X) X
def sTs (P : Pa) : Es → List ET
  | .nil => []
  | .cons e r => (sE P e).t :: sTs P r
def sI (P : Pa) : It → EI
  | .ex e => fun σ μ R X => (sE P e).v σ μ (fun x μ1 => (match x with
      | .tup xs => R xs (fun _ => True) μ1
      | _ => (match lstG μ1 x with
        | some (xs, gd) => R xs gd μ1
        | none => False))) X
  | .rng1 a => fun σ μ R X => (sE P a).v σ μ (fun x μ1 => (match x with
      | .int j => -(2 ^ 62) ≤ j ∧ j < 2 ^ 62 ∧ R (rangeT 0 j.toNat) (fun _ => True) μ1
      | _ => False)) X
  | .rng2 a b => fun σ μ R X => (sE P a).v σ μ (fun x μ1 => (sE P b).v σ μ1 (fun y μ2 => (match x, y with
      | .int i, .int j => (-(2 ^ 62) ≤ i ∧ i < 2 ^ 62 ∧ -(2 ^ 62) ≤ j ∧ j < 2 ^ 62) ∧ R (rangeT i (j - i).toNat) (fun _ => True) μ2
      | _, _ => False)) X) X
  | .rng3 _ _ _ => fun _ _ _ _ => False
  | .enu a => fun σ μ R X => (sE P a).v σ μ (fun x μ1 => (match lstG μ1 x with
        | some (xs, gd) => R (enuT 0 xs) gd μ1
        | none => False)) X
  | .zip a b => fun σ μ R X => (sE P a).v σ μ (fun x μ1 => (sE P b).v σ μ1 (fun y μ2 => (match x, y with
      | .tup xs, .tup ys => R (zipT xs ys) (fun _ => True) μ2
      | _, _ => (match lstG μ2 x, lstG μ2 y with
        | some (xs, gd), some (ys, gd') => R (zipT xs ys) (fun μ => gd μ ∧ gd' μ) μ2
        | _, _ => False))) X) X
  | .rev a => fun σ μ R X => (sE P a).v σ μ (fun x μ1 => (match x with
      | .tup xs => R xs.reverse (fun _ => True) μ1
      | _ => (match lstG μ1 x with
        | some (xs, gd) => R xs.reverse gd μ1
        | none => False))) X
end
def wE (P : Pa) (e : E) : EV := (sE P e).v
def wT (P : Pa) (e : E) : ET := (sE P e).t
/-! ### statements -/
structure Kt where
  nx : Sg → Mu → Prop
  rt : T → Mu → Prop
  bk : Sg → Mu → Prop
  ct : Sg → Mu → Prop
  xc : Nat → Sg → Mu → Prop
def frGo (bd : (Sg → Mu → Prop) → Sg → Mu → Prop) (g : Tg) (gd : Mu → Prop) (nx : Sg → Mu → Prop) : List T → Sg → Mu → Prop
  | [], σ, μ => gd μ ∧ nx σ μ
  | x :: xs, σ, μ => gd μ ∧ asgT g x σ fun σ1 => bd (frGo bd g gd nx xs) σ1 μ
def wSix (o i v : T) (μ : Mu) (Q : Mu → Prop) : Prop := match o, i with
  | .h a, .int k => (match μ a with
    | some (.lst xs) => ∃ j, ixN xs.length k = some j ∧ Q (μ.set a (.lst (xs.set j v)))
    | _ => False)
  | _, _ => False
def wSfl (P : Pa) (o v : T) (f : Nat) (μ : Mu) (Q : Mu → Prop) : Prop := match o with
  | .h a => (match μ a with
    | some (.ins c fs) => fs.length < 1000 ∧ (P.fl c).contains f = true ∧ Q (μ.set a (.ins c (putN f v fs)))
    | _ => False)
  | _ => False
def wAugV : Op2 → T → T → Mu → Pq → Prop
  | .add, .int i, .int j, μ, Q => Q (.int (i + j)) μ
  | .sub, .int i, .int j, μ, Q => Q (.int (i - j)) μ
  | _, _, _, _, _ => False
def unpSGo (P : Pa) (X : Xq) (σ : Sg) (Q : Mu → Prop) : List (E × E) → List T → Mu → Prop
  | [], [], μ => Q μ
  | (o, i) :: r, x :: xs, μ => (sE P o).v σ μ (fun ov μ1 => (sE P i).v σ μ1 (fun iv μ2 => wSix ov iv x μ2 fun μ3 => unpSGo P X σ Q r xs μ3) X) X
  | _, _, _ => False
def wSu (P : Pa) (K : Kt) (σ0 : Sg → Sg) : Su → Sg → Mu → Prop
  | .ret e, σ, μ => (sE P e).v σ μ (fun t μ1 => μ1 = μ ∧ noExc t = true ∧ K.rt t μ) (fun _ _ => False)
  | .set i e, σ, μ => (sE P e).v σ μ (fun t μ1 => μ1 = μ ∧ noExc t = true ∧ K.nx (σ0 (setS σ i (some t))) μ) (fun _ _ => False)
mutual
def sS (P : Pa) : S → Kt → Sg → Mu → Prop
  | .set i e, K, σ, μ => (sE P e).v σ μ (fun t μ1 => K.nx (setS σ i (some t)) μ1) (fun c μ1 => K.xc c σ μ1)
  | .unp is e, K, σ, μ => (sE P e).v σ μ (fun t μ1 => (match t with
      | .tup xs => asgL is xs σ fun σ1 => K.nx σ1 μ1
      | _ => False)) (fun c μ1 => K.xc c σ μ1)
  | .par is es, K, σ, μ => sEs P es σ μ (fun ts μ1 => asgL is ts σ fun σ1 => K.nx σ1 μ1) (fun c μ1 => K.xc c σ μ1)
  | .unpS ts e, K, σ, μ => (sE P e).v σ μ (fun t μ1 => (match t with
      | .tup xs => xs.length = ts.length ∧ unpSGo P (fun c μ1 => K.xc c σ μ1) σ (K.nx σ) ts xs μ1
      | _ => False)) (fun c μ1 => K.xc c σ μ1)
  | .sfl o f e, K, σ, μ => (sE P e).v σ μ (fun v μ1 => (sE P o).v σ μ1 (fun x μ2 => wSfl P x v f μ2 (K.nx σ)) (fun c μ1 => K.xc c σ μ1)) (fun c μ1 => K.xc c σ μ1)
  | .six o i e, K, σ, μ => (sE P e).v σ μ (fun v μ1 => (sE P o).v σ μ1 (fun x μ2 => (sE P i).v σ μ2 (fun y μ3 => wSix x y v μ3 (K.nx σ)) (fun c μ1 => K.xc c σ μ1)) (fun c μ1 => K.xc c σ μ1)) (fun c μ1 => K.xc c σ μ1)
  | .aug i o e, K, σ, μ => (match getS σ i with
      | some x => (sE P e).v σ μ (fun y μ1 => wAugV o x y μ1 fun z μ2 => K.nx (setS σ i (some z)) μ2) (fun c μ1 => K.xc c σ μ1)
      | none => False)
  | .augI o i op e, K, σ, μ => (sE P o).v σ μ (fun x μ1 => (sE P i).v σ μ1 (fun y μ2 => wIdx x y μ2 fun u μ3 => (sE P e).v σ μ3 (fun v μ4 => wAugV op u v μ4 fun z μ5 => wSix x y z μ5 (K.nx σ)) (fun c μ1 => K.xc c σ μ1)) (fun c μ1 => K.xc c σ μ1)) (fun c μ1 => K.xc c σ μ1)
  | .ret e, K, σ, μ => (sE P e).v σ μ K.rt (fun c μ1 => K.xc c σ μ1)
  | .retN, K, _, μ => K.rt .non μ
  | .exp e, K, σ, μ => (sE P e).v σ μ (fun _ μ1 => K.nx σ μ1) (fun c μ1 => K.xc c σ μ1)
  | .ifs c a b, K, σ, μ => (sE P c).t σ μ (fun k μ1 => if k = true then sSs P a K σ μ1 else sSs P b K σ μ1) (fun c μ1 => K.xc c σ μ1)
  | .fr g it b, K, σ, μ => sI P it σ μ (fun items gd μ1 => frGo (fun n => sSs P b { K with nx := n, ct := n, bk := K.nx }) g gd K.nx items σ μ1) (fun c μ1 => K.xc c σ μ1)
  | .wh c b, K, σ, μ => ∃ W : Nat → Sg → Mu → Prop, (∃ m, W m σ μ) ∧ ∀ m σ μ, W m σ μ →
      (sE P c).t σ μ (fun k μ1 => if k = true then sSs P b { K with nx := fun σ' μ' => ∃ m', m' < m ∧ W m' σ' μ', ct := fun σ' μ' => ∃ m', m' < m ∧ W m' σ' μ', bk := K.nx } σ μ1 else K.nx σ μ1) (fun c μ1 => K.xc c σ μ1)
  | .brk, K, σ, μ => K.bk σ μ
  | .cnt, K, σ, μ => K.ct σ μ
  | .pas, K, σ, μ => K.nx σ μ
  | .gst i, K, σ, μ => (match getS σ i with
      | some t => wFrz t μ fun t' μ' => K.nx (setS σ i (some t')) μ'
      | none => False)
  | .rai x _, K, σ, μ => K.xc x σ μ
  | .tr b hs, K, σ, μ => sSs P b { K with xc := sH P hs K } σ μ
def sSs (P : Pa) : Ss → Kt → Sg → Mu → Prop
  | .nil, K, σ, μ => K.nx σ μ
  | .cons s r, K, σ, μ => sS P s { K with nx := sSs P r K } σ μ
def sH (P : Pa) : Hs → Kt → Nat → Sg → Mu → Prop
  | .nil, K, c, σ, μ => K.xc c σ μ
  | .cons x nm s r, K, c, σ, μ => c < P.xn.length ∧ if P.xm c x = true then
      (match nm with
        | some i => wSu P K (fun σ' => setS σ' i none) s (setS σ i (some (.exc c))) μ
        | none => wSu P K id s σ μ)
      else sH P r K c σ μ
end
end Co
set_option Elab.async false
set_option linter.all false
set_option maxRecDepth 100000
namespace Co
open PySem PySem.Spec PyProof.Rows L2
/-! # Co, part 2: what stands at the addresses -/
structure Tb where
  ca : Nat → Addr
  xa : Nat → Addr
  fa : Nat → Addr
  fd : Nat → FuncData
  ps : Nat → List Str
  lv : Nat → Nat
section
variable (P : Pa) (tb : Tb) (K : PySem.W.Frag) (Ex : Addr → Nat → Prop) (Pl : Addr → Prop) (H : Hp)
def TupAt (a : Addr) (vs : List V) : Prop := (Pl a ∧ Rd H a (.tup vs)) ∨ ∀ H' : Hp, SqT K H' a vs
def ScrAt (a : Addr) (vs : List V) : Prop := (Pl a ∧ Rd H a (.lst vs)) ∨ ∀ H' : Hp, SqL K H' a vs
def okF (c : Nat) (fs : List (Nat × T)) : Prop := ∀ p ∈ fs, (P.fl c).contains p.1 = true
/-- the name of an attribute -/
def nmA (f : Nat) : Str := P.at_.getD f ""
mutual
/-- the value v is the tree t -/
def Den : T → V → Prop
  | .non, v => v = .non
  | .bl b, v => v = .bl b
  | .int i, v => v = .int i
  | .str s, v => v = .str s
  | .tup xs, v => ∃ a vs, v = .ref a ∧ TupAt K Pl H a vs ∧ DenL xs vs
  | .lst xs, v => ∃ a vs, v = .ref a ∧ Pl a ∧ H a = some (.lst vs) ∧ DenL xs vs
  | .ins c fs, v => ∃ a dx vs, v = .ref a ∧ Pl a ∧ H a = some (.ins (tb.ca c) dx vs) ∧ (c < P.cn.length ∧ okF P c fs) ∧ DenF fs vs
  | .scr ns, v => ∃ a, v = .ref a ∧ ScrAt K Pl H a (ns.map V.int)
  | .h a, v => v = .ref a
  | .exc x, v => ∃ a, v = .ref a ∧ Ex a x
def DenL : List T → List V → Prop
  | [], vs => vs = []
  | t :: ts, vs => ∃ v r, vs = v :: r ∧ Den t v ∧ DenL ts r
def DenF : List (Nat × T) → List (Str × V) → Prop
  | [], vs => vs = []
  | (f, t) :: ts, vs => ∃ v r, vs = (nmA P f, v) :: r ∧ Den t v ∧ DenF ts r
end
end
section
variable {P : Pa} {tb : Tb} {K : PySem.W.Frag} {Ex Ex' : Addr → Nat → Prop} {Pl Pl' : Addr → Prop} {H H' : Hp}
mutual
theorem Den.mono (m : ∀ a, Pl a → H a ≠ none → Pl' a ∧ H' a = H a) (me : ∀ a x, Ex a x → Ex' a x) : ∀ {t : T} {v : V}, Den P tb K Ex Pl H t v → Den P tb K Ex' Pl' H' t v
  | .non, _, h => h
  | .bl _, _, h => h
  | .int _, _, h => h
  | .str _, _, h => h
  | .tup xs, v, h => by
    obtain ⟨a, vs, e, q, r⟩ := h
    refine ⟨a, vs, e, ?_, DenL.mono m me r⟩
    rcases q with ⟨pl, q⟩ | q
    · have hn : H a ≠ none := by
        rcases q with q | ⟨o, q⟩ <;> rw [q] <;> intro z <;> cases z
      obtain ⟨p', e'⟩ := m a pl hn
      refine .inl ⟨p', ?_⟩
      rcases q with q | ⟨o, q⟩
      · exact .inl (e'.trans q)
      · exact .inr ⟨o, e'.trans q⟩
    · exact .inr q
  | .lst xs, v, h => by
    obtain ⟨a, vs, e, pl, q, r⟩ := h
    obtain ⟨p', e'⟩ := m a pl (by rw [q]; intro z; cases z)
    exact ⟨a, vs, e, p', e'.trans q, DenL.mono m me r⟩
  | .ins c fs, v, h => by
    obtain ⟨a, dx, vs, e, pl, q, ok, r⟩ := h
    obtain ⟨p', e'⟩ := m a pl (by rw [q]; intro z; cases z)
    exact ⟨a, dx, vs, e, p', e'.trans q, ok, DenF.mono m me r⟩
  | .scr ns, v, h => by
    obtain ⟨a, e, q⟩ := h
    refine ⟨a, e, ?_⟩
    rcases q with ⟨pl, q⟩ | q
    · have hn : H a ≠ none := by
        rcases q with q | ⟨o, q⟩ <;> rw [q] <;> intro z <;> cases z
      obtain ⟨p', e'⟩ := m a pl hn
      refine .inl ⟨p', ?_⟩
      rcases q with q | ⟨o, q⟩
      · exact .inl (e'.trans q)
      · exact .inr ⟨o, e'.trans q⟩
    · exact .inr q
  | .h _, _, h => h
  | .exc x, v, h => by
    obtain ⟨a, e, q⟩ := h
    exact ⟨a, e, me a x q⟩
theorem DenL.mono (m : ∀ a, Pl a → H a ≠ none → Pl' a ∧ H' a = H a) (me : ∀ a x, Ex a x → Ex' a x) : ∀ {ts : List T} {vs : List V}, DenL P tb K Ex Pl H ts vs → DenL P tb K Ex' Pl' H' ts vs
  | [], _, h => h
  | t :: ts, vs, h => by
    obtain ⟨v, r, e, q, qs⟩ := h
    exact ⟨v, r, e, Den.mono m me q, DenL.mono m me qs⟩
theorem DenF.mono (m : ∀ a, Pl a → H a ≠ none → Pl' a ∧ H' a = H a) (me : ∀ a x, Ex a x → Ex' a x) : ∀ {ts : List (Nat × T)} {vs : List (Str × V)}, DenF P tb K Ex Pl H ts vs → DenF P tb K Ex' Pl' H' ts vs
  | [], _, h => h
  | (f, t) :: ts, vs, h => by
    obtain ⟨v, r, e, q, qs⟩ := h
    exact ⟨v, r, e, Den.mono m me q, DenF.mono m me qs⟩
end
mutual
/-- a tree without errors holds whatever errors stand -/
theorem Den.noExc (me : True) : ∀ {t : T} {v : V}, noExc t = true → Den P tb K Ex Pl H t v → Den P tb K Ex' Pl H t v
  | .non, _, _, h => h
  | .bl _, _, _, h => h
  | .int _, _, _, h => h
  | .str _, _, _, h => h
  | .tup xs, v, n, h => by
    obtain ⟨a, vs, e, q, r⟩ := h
    exact ⟨a, vs, e, q, DenL.noExc me (by simpa only [Co.noExc] using n) r⟩
  | .lst xs, v, n, h => by
    obtain ⟨a, vs, e, pl, q, r⟩ := h
    exact ⟨a, vs, e, pl, q, DenL.noExc me (by simpa only [Co.noExc] using n) r⟩
  | .ins c fs, v, n, h => by
    obtain ⟨a, dx, vs, e, pl, q, ok, r⟩ := h
    exact ⟨a, dx, vs, e, pl, q, ok, DenF.noExc me (by simpa only [Co.noExc] using n) r⟩
  | .scr ns, _, _, h => h
  | .h _, _, _, h => h
  | .exc x, v, n, h => by simp only [Co.noExc] at n; cases n
theorem DenL.noExc (me : True) : ∀ {ts : List T} {vs : List V}, noExcL ts = true → DenL P tb K Ex Pl H ts vs → DenL P tb K Ex' Pl H ts vs
  | [], _, _, h => h
  | t :: ts, vs, n, h => by
    obtain ⟨v, r, e, q, qs⟩ := h
    simp only [noExcL, Bool.and_eq_true] at n
    exact ⟨v, r, e, Den.noExc me n.1 q, DenL.noExc me n.2 qs⟩
theorem DenF.noExc (me : True) : ∀ {ts : List (Nat × T)} {vs : List (Str × V)}, noExcF ts = true → DenF P tb K Ex Pl H ts vs → DenF P tb K Ex' Pl H ts vs
  | [], _, _, h => h
  | (f, t) :: ts, vs, n, h => by
    obtain ⟨v, r, e, q, qs⟩ := h
    simp only [noExcF, Bool.and_eq_true] at n
    exact ⟨v, r, e, Den.noExc me n.1 q, DenF.noExc me n.2 qs⟩
end
/-! ### lists -/
theorem DenL.len : ∀ {ts : List T} {vs : List V}, DenL P tb K Ex Pl H ts vs → ts.length = vs.length
  | [], _, h => by rw [show _ = [] from h]; rfl
  | t :: ts, vs, h => by
    obtain ⟨v, r, rfl, _, q⟩ := h
    rw [List.length_cons, List.length_cons, DenL.len q]
theorem DenL.append : ∀ {ts us : List T} {vs ws : List V}, DenL P tb K Ex Pl H ts vs → DenL P tb K Ex Pl H us ws → DenL P tb K Ex Pl H (ts ++ us) (vs ++ ws)
  | [], _, _, _, h, g => by rw [show _ = [] from h]; exact g
  | t :: ts, us, vs, ws, h, g => by
    obtain ⟨v, r, rfl, q, qs⟩ := h
    exact ⟨v, r ++ ws, rfl, q, DenL.append qs g⟩
theorem DenL.get : ∀ {ts : List T} {vs : List V} {i : Nat} {t : T}, DenL P tb K Ex Pl H ts vs → ts[i]? = some t → ∃ v, vs[i]? = some v ∧ Den P tb K Ex Pl H t v
  | [], _, _, _, _, e => by simp at e
  | x :: ts, vs, 0, t, h, e => by
    obtain ⟨v, r, rfl, q, qs⟩ := h
    simp at e; subst e
    exact ⟨v, rfl, q⟩
  | x :: ts, vs, i + 1, t, h, e => by
    obtain ⟨v, r, rfl, q, qs⟩ := h
    obtain ⟨w, e1, q1⟩ := DenL.get (i := i) (t := t) qs (by simpa using e)
    exact ⟨w, by simpa using e1, q1⟩
theorem DenL.getV : ∀ {ts : List T} {vs : List V} {i : Nat} {v : V}, DenL P tb K Ex Pl H ts vs → vs[i]? = some v → ∃ t, ts[i]? = some t ∧ Den P tb K Ex Pl H t v := by
  intro ts vs i v h e
  obtain ⟨hi, _⟩ := List.getElem?_eq_some_iff.mp e
  rw [← h.len] at hi
  obtain ⟨w, e1, q⟩ := h.get (List.getElem?_eq_getElem hi)
  rw [e] at e1; cases e1
  exact ⟨_, List.getElem?_eq_getElem hi, q⟩
theorem DenL.set : ∀ {ts : List T} {vs : List V} (i : Nat) {t : T} {v : V}, DenL P tb K Ex Pl H ts vs → Den P tb K Ex Pl H t v → DenL P tb K Ex Pl H (ts.set i t) (vs.set i v)
  | [], _, _, _, _, h, _ => by rw [show _ = [] from h]; rfl
  | x :: ts, vs, 0, t, v, h, q => by
    obtain ⟨w, r, rfl, q1, qs⟩ := h
    exact ⟨v, r, rfl, q, qs⟩
  | x :: ts, vs, i + 1, t, v, h, q => by
    obtain ⟨w, r, rfl, q1, qs⟩ := h
    exact ⟨w, r.set i v, rfl, q1, DenL.set i qs q⟩
theorem DenL.take : ∀ {ts : List T} {vs : List V} (n : Nat), DenL P tb K Ex Pl H ts vs → DenL P tb K Ex Pl H (ts.take n) (vs.take n)
  | _, _, 0, _ => by simp only [List.take_zero]; rfl
  | [], _, n + 1, h => by rw [show _ = [] from h]; rfl
  | x :: ts, vs, n + 1, h => by
    obtain ⟨w, r, rfl, q1, qs⟩ := h
    exact ⟨w, r.take n, rfl, q1, DenL.take n qs⟩
theorem DenL.drop : ∀ {ts : List T} {vs : List V} (n : Nat), DenL P tb K Ex Pl H ts vs → DenL P tb K Ex Pl H (ts.drop n) (vs.drop n)
  | ts, vs, 0, h => h
  | [], _, n + 1, h => by rw [show _ = [] from h]; rfl
  | x :: ts, vs, n + 1, h => by
    obtain ⟨w, r, rfl, q1, qs⟩ := h
    exact DenL.drop n qs
theorem DenL.dropLast {ts : List T} {vs : List V} (h : DenL P tb K Ex Pl H ts vs) : DenL P tb K Ex Pl H ts.dropLast vs.dropLast := by
  rw [List.dropLast_eq_take, List.dropLast_eq_take, h.len]
  exact h.take _
theorem DenL.erase : ∀ {ts : List T} {vs : List V} (i : Nat), DenL P tb K Ex Pl H ts vs → DenL P tb K Ex Pl H (ts.eraseIdx i) (vs.eraseIdx i)
  | [], _, _, h => by rw [show _ = [] from h]; rfl
  | x :: ts, vs, 0, h => by
    obtain ⟨w, r, rfl, q1, qs⟩ := h
    exact qs
  | x :: ts, vs, i + 1, h => by
    obtain ⟨w, r, rfl, q1, qs⟩ := h
    exact ⟨w, r.eraseIdx i, rfl, q1, DenL.erase i qs⟩
theorem DenL.rev : ∀ {ts : List T} {vs : List V}, DenL P tb K Ex Pl H ts vs → DenL P tb K Ex Pl H ts.reverse vs.reverse
  | [], _, h => by rw [show _ = [] from h]; rfl
  | x :: ts, vs, h => by
    obtain ⟨w, r, rfl, q1, qs⟩ := h
    rw [List.reverse_cons, List.reverse_cons]
    exact DenL.append (DenL.rev qs) ⟨w, [], rfl, q1, rfl⟩
theorem DenL.rep {ts : List T} {vs : List V} (h : DenL P tb K Ex Pl H ts vs) : ∀ k : Nat, DenL P tb K Ex Pl H (List.replicate k ts).flatten (List.replicate k vs).flatten
  | 0 => rfl
  | k + 1 => by
    rw [List.replicate_succ, List.replicate_succ, List.flatten_cons, List.flatten_cons]
    exact DenL.append h (DenL.rep h k)
theorem DenL.cut {ts : List T} {vs : List V} (h : DenL P tb K Ex Pl H ts vs) (lo hi : Option Int) : DenL P tb K Ex Pl H (cutT ts lo hi) (cutV vs lo hi) := by
  unfold cutT cutV
  rw [h.len]
  exact (h.drop _).take _
theorem DenL.ints : ∀ {ns : List Int} {ts : List T} {vs : List V}, intsO ts = some ns → DenL P tb K Ex Pl H ts vs → vs = ns.map V.int
  | ns, [], _, e, h => by
    simp only [intsO, Option.some.injEq] at e
    rw [← e]; exact h
  | ns, .int i :: r, vs, e, h => by
    simp only [intsO, Option.map_eq_some_iff] at e
    obtain ⟨ms, e1, rfl⟩ := e
    obtain ⟨v, w, rfl, q, qs⟩ := h
    rw [show v = .int i from q, DenL.ints e1 qs]; rfl
  | ns, .non :: r, vs, e, h => by simp [intsO] at e
  | ns, .bl _ :: r, vs, e, h => by simp [intsO] at e
  | ns, .str _ :: r, vs, e, h => by simp [intsO] at e
  | ns, .tup _ :: r, vs, e, h => by simp [intsO] at e
  | ns, .lst _ :: r, vs, e, h => by simp [intsO] at e
  | ns, .ins _ _ :: r, vs, e, h => by simp [intsO] at e
  | ns, .scr _ :: r, vs, e, h => by simp [intsO] at e
  | ns, .h _ :: r, vs, e, h => by simp [intsO] at e
  | ns, .exc _ :: r, vs, e, h => by simp [intsO] at e
theorem DenL.bls : ∀ {ns : List Bool} {ts : List T} {vs : List V}, blsO ts = some ns → DenL P tb K Ex Pl H ts vs → vs = ns.map V.bl
  | ns, [], _, e, h => by
    simp only [blsO, Option.some.injEq] at e
    rw [← e]; exact h
  | ns, .bl i :: r, vs, e, h => by
    simp only [blsO, Option.map_eq_some_iff] at e
    obtain ⟨ms, e1, rfl⟩ := e
    obtain ⟨v, w, rfl, q, qs⟩ := h
    rw [show v = .bl i from q, DenL.bls e1 qs]; rfl
  | ns, .non :: r, vs, e, h => by simp [blsO] at e
  | ns, .int _ :: r, vs, e, h => by simp [blsO] at e
  | ns, .str _ :: r, vs, e, h => by simp [blsO] at e
  | ns, .tup _ :: r, vs, e, h => by simp [blsO] at e
  | ns, .lst _ :: r, vs, e, h => by simp [blsO] at e
  | ns, .ins _ _ :: r, vs, e, h => by simp [blsO] at e
  | ns, .scr _ :: r, vs, e, h => by simp [blsO] at e
  | ns, .h _ :: r, vs, e, h => by simp [blsO] at e
  | ns, .exc _ :: r, vs, e, h => by simp [blsO] at e
theorem DenL.intsT : ∀ (f : Nat → Int) (l : List Nat), DenL P tb K Ex Pl H (l.map fun k => T.int (f k)) (l.map fun k => V.int (f k))
  | _, [] => rfl
  | f, k :: l => ⟨_, _, rfl, rfl, DenL.intsT f l⟩
theorem DenL.one {t : T} {v : V} (h : Den P tb K Ex Pl H t v) : DenL P tb K Ex Pl H [t] [v] := ⟨v, [], rfl, h, rfl⟩
theorem DenL.cons {t : T} {v : V} {ts : List T} {vs : List V} (h : Den P tb K Ex Pl H t v) (g : DenL P tb K Ex Pl H ts vs) : DenL P tb K Ex Pl H (t :: ts) (v :: vs) := ⟨v, vs, rfl, h, g⟩
theorem DenL.inv1 {t : T} {vs : List V} (h : DenL P tb K Ex Pl H [t] vs) : ∃ v, vs = [v] ∧ Den P tb K Ex Pl H t v := by
  obtain ⟨v, r, rfl, q, qs⟩ := h
  rw [show r = [] from qs]
  exact ⟨v, rfl, q⟩
theorem DenL.inv2 {t u : T} {vs : List V} (h : DenL P tb K Ex Pl H [t, u] vs) : ∃ v w, vs = [v, w] ∧ Den P tb K Ex Pl H t v ∧ Den P tb K Ex Pl H u w := by
  obtain ⟨v, r, rfl, q, qs⟩ := h
  obtain ⟨w, rfl, q2⟩ := qs.inv1
  exact ⟨v, w, rfl, q, q2⟩
/-! ### data -/
mutual
theorem dat_den : ∀ {t : T} {v : V} {d : PyData}, dat t = some d → Den P tb K Ex Pl H t v → Dp K H v d
  | .non, v, d, e, h => by
    simp only [dat, Option.some.injEq] at e; subst e
    rw [show v = .non from h]; exact .non
  | .bl b, v, d, e, h => by
    simp only [dat, Option.some.injEq] at e; subst e
    rw [show v = .bl b from h]; exact .bl b
  | .int b, v, d, e, h => by
    simp only [dat, Option.some.injEq] at e; subst e
    rw [show v = .int b from h]; exact .int b
  | .str b, v, d, e, h => by
    simp only [dat, Option.some.injEq] at e; subst e
    rw [show v = .str b from h]; exact .str b
  | .tup xs, v, d, e, h => by
    simp only [dat, Option.map_eq_some_iff] at e
    obtain ⟨ds, e1, rfl⟩ := e
    obtain ⟨a, vs, rfl, q, r⟩ := h
    refine .tup ?_ (datL_den e1 r)
    rcases q with ⟨_, q⟩ | q
    · exact .inl q
    · exact q H
  | .lst xs, v, d, e, h => by
    simp only [dat, Option.map_eq_some_iff] at e
    obtain ⟨ds, e1, rfl⟩ := e
    obtain ⟨a, vs, rfl, _, q, r⟩ := h
    exact .lst (.inl (.inl q)) (datL_den e1 r)
  | .ins _ _, v, d, e, h => by simp [dat] at e
  | .scr _, v, d, e, h => by simp [dat] at e
  | .h _, v, d, e, h => by simp [dat] at e
  | .exc _, v, d, e, h => by simp [dat] at e
theorem datL_den : ∀ {ts : List T} {vs : List V} {ds : List PyData}, datL ts = some ds → DenL P tb K Ex Pl H ts vs → DpAll K H vs ds
  | [], vs, ds, e, h => by
    simp only [datL, Option.some.injEq] at e; subst e
    rw [show vs = [] from h]; exact .nil
  | t :: ts, vs, ds, e, h => by
    obtain ⟨v, r, rfl, q, qs⟩ := h
    simp only [datL] at e
    split at e
    · rename_i d ds' e1 e2
      cases e
      exact .cons (dat_den e1 q) (datL_den e2 qs)
    · cases e
end
end
/-! ### the store and the heap -/
def Plc (Hd : Addr → Prop) (μ : Mu) : Addr → Prop := fun a => μ a = none ∧ ¬ Hd a
section
variable (P : Pa) (tb : Tb) (K : PySem.W.Frag) (Ex : Addr → Nat → Prop) (Hd : Addr → Prop)
def MAt (μ : Mu) (H : Hp) (a : Addr) : M → Prop
  | .lst xs => ∃ vs, H a = some (.lst vs) ∧ DenL P tb K Ex (Plc Hd μ) H xs vs
  | .ins c fs => ∃ dx vs, H a = some (.ins (tb.ca c) dx vs) ∧ (c < P.cn.length ∧ okF P c fs) ∧ DenF P tb K Ex (Plc Hd μ) H fs vs
structure Ok (μ : Mu) (H : Hp) : Prop where
  own : ∀ a m, μ a = some m → ¬ Hd a ∧ MAt P tb K Ex Hd μ H a m
  hid : ∀ a, Hd a → H a ≠ none
end
def Ext (μ : Mu) (H : Hp) (μ' : Mu) (H' : Hp) : Prop := ∀ a, H a ≠ none → μ a = none → μ' a = none ∧ H' a = H a
theorem Ext.refl {μ : Mu} {H : Hp} : Ext μ H μ H := fun _ _ n => ⟨n, rfl⟩
theorem Ext.trans {μ μ1 μ2 : Mu} {H H1 H2 : Hp} (a : Ext μ H μ1 H1) (b : Ext μ1 H1 μ2 H2) : Ext μ H μ2 H2 := fun x h n => by
  obtain ⟨n1, e1⟩ := a x h n
  obtain ⟨n2, e2⟩ := b x (by rw [e1]; exact h) n1
  exact ⟨n2, e2.trans e1⟩
section
variable {P : Pa} {tb : Tb} {K : PySem.W.Frag} {Ex : Addr → Nat → Prop} {Hd : Addr → Prop} {μ μ' μ1 : Mu} {H H' H1 : Hp}
theorem Ext.pl (x : Ext μ H μ' H') : ∀ a, Plc Hd μ a → H a ≠ none → Plc Hd μ' a ∧ H' a = H a := fun a p h => by
  obtain ⟨n, e⟩ := x a h p.1
  exact ⟨⟨n, p.2⟩, e⟩
theorem Den.ext (x : Ext μ H μ' H') {t : T} {v : V} (h : Den P tb K Ex (Plc Hd μ) H t v) : Den P tb K Ex (Plc Hd μ') H' t v := h.mono x.pl fun _ _ z => z
theorem DenL.ext (x : Ext μ H μ' H') {t : List T} {v : List V} (h : DenL P tb K Ex (Plc Hd μ) H t v) : DenL P tb K Ex (Plc Hd μ') H' t v := h.mono x.pl fun _ _ z => z
theorem DenF.ext (x : Ext μ H μ' H') {t : List (Nat × T)} {v : List (Str × V)} (h : DenF P tb K Ex (Plc Hd μ) H t v) : DenF P tb K Ex (Plc Hd μ') H' t v := h.mono x.pl fun _ _ z => z
theorem Ok.there (o : Ok P tb K Ex Hd μ H) {a : Addr} {m : M} (e : μ a = some m) : H a ≠ none := by
  obtain ⟨_, q⟩ := o.own a m e
  cases m with
  | lst xs => obtain ⟨vs, h, _⟩ := q; rw [h]; intro z; cases z
  | ins c fs => obtain ⟨dx, vs, h, _⟩ := q; rw [h]; intro z; cases z
theorem Ok.free (o : Ok P tb K Ex Hd μ H) {a : Addr} (h : H a = none) : μ a = none ∧ ¬ Hd a := by
  refine ⟨?_, fun z => o.hid a z h⟩
  cases e : μ a with
  | none => rfl
  | some m => exact absurd h (o.there e)
/-- a new thing, not of the store -/
theorem ext_new {p : Addr} {u : HO} (hp : H p = none) : Ext μ H μ (upd H p u) := fun a h n => ⟨n, upd_ne fun z => h (by rw [z]; exact hp)⟩
theorem Ok.new (o : Ok P tb K Ex Hd μ H) {p : Addr} {u : HO} (hp : H p = none) : Ok P tb K Ex Hd μ (upd H p u) := by
  have x : Ext μ H μ (upd H p u) := ext_new hp
  refine ⟨fun a m e => ?_, fun a h => ?_⟩
  · obtain ⟨nh, q⟩ := o.own a m e
    have ne : a ≠ p := fun z => o.there e (by rw [z]; exact hp)
    refine ⟨nh, ?_⟩
    cases m with
    | lst xs => obtain ⟨vs, h, r⟩ := q; exact ⟨vs, by rw [upd_ne ne]; exact h, r.ext x⟩
    | ins c fs => obtain ⟨dx, vs, h, k, r⟩ := q; exact ⟨dx, vs, by rw [upd_ne ne]; exact h, k, r.ext x⟩
  · by_cases z : a = p
    · rw [z, upd_same]; intro z; cases z
    · rw [upd_ne z]; exact o.hid a h
theorem Mu.set_same {a : Addr} {m : M} : μ.set a m a = some m := by unfold Mu.set; rw [if_pos rfl]
theorem Mu.set_ne {a b : Addr} {m : M} (h : b ≠ a) : μ.set a m b = μ b := by unfold Mu.set; rw [if_neg h]
theorem Mu.del_same {a : Addr} : μ.del a a = none := by unfold Mu.del; rw [if_pos rfl]
theorem Mu.del_ne {a b : Addr} (h : b ≠ a) : μ.del a b = μ b := by unfold Mu.del; rw [if_neg h]
/-- a thing of the store is changed, or a new one comes into it -/
theorem ext_put {p : Addr} {u : HO} {m : M} (hp : H p = none ∨ ∃ m', μ p = some m') : Ext μ H (μ.set p m) (upd H p u) := fun a h n => by
  have ne : a ≠ p := fun z => by
    subst z
    rcases hp with q | ⟨m', q⟩
    · exact h q
    · rw [n] at q; cases q
  rw [Mu.set_ne ne, upd_ne ne]
  exact ⟨n, rfl⟩
theorem Ok.put (o : Ok P tb K Ex Hd μ H) {p : Addr} {u : HO} {m : M} (hp : H p = none ∨ ∃ m', μ p = some m') (hm : MAt P tb K Ex Hd (μ.set p m) (upd H p u) p m) : Ok P tb K Ex Hd (μ.set p m) (upd H p u) := by
  have x : Ext μ H (μ.set p m) (upd H p u) := ext_put hp
  refine ⟨fun a m' e => ?_, fun a h => ?_⟩
  · by_cases z : a = p
    · subst z
      rw [Mu.set_same] at e; cases e
      refine ⟨?_, hm⟩
      rcases hp with q | ⟨m', q⟩
      · exact (o.free q).2
      · exact (o.own _ _ q).1
    · rw [Mu.set_ne z] at e
      obtain ⟨nh, q⟩ := o.own a m' e
      refine ⟨nh, ?_⟩
      cases m' with
      | lst xs => obtain ⟨vs, h, r⟩ := q; exact ⟨vs, by rw [upd_ne z]; exact h, r.ext x⟩
      | ins c fs => obtain ⟨dx, vs, h, k, r⟩ := q; exact ⟨dx, vs, by rw [upd_ne z]; exact h, k, r.ext x⟩
  · by_cases z : a = p
    · rw [z, upd_same]; intro z; cases z
    · rw [upd_ne z]; exact o.hid a h
/-- a thing leaves the store -/
theorem ext_del {p : Addr} : Ext μ H (μ.del p) H := fun a h n => by
  refine ⟨?_, rfl⟩
  unfold Mu.del
  split
  · rfl
  · exact n
theorem Ok.del (o : Ok P tb K Ex Hd μ H) (p : Addr) : Ok P tb K Ex Hd (μ.del p) H := by
  have x : Ext μ H (μ.del p) H := ext_del
  refine ⟨fun a m' e => ?_, o.hid⟩
  have z : a ≠ p := fun z => by rw [z, Mu.del_same] at e; cases e
  rw [Mu.del_ne z] at e
  obtain ⟨nh, q⟩ := o.own a m' e
  refine ⟨nh, ?_⟩
  cases m' with
  | lst xs => obtain ⟨vs, h, r⟩ := q; exact ⟨vs, h, r.ext x⟩
  | ins c fs => obtain ⟨dx, vs, h, k, r⟩ := q; exact ⟨dx, vs, h, k, r.ext x⟩
/-! ### reading -/
theorem lstO_den {t : T} {v : V} {xs : List T} (o : Ok P tb K Ex Hd μ H) (h : Den P tb K Ex (Plc Hd μ) H t v) (e : lstO μ t = some xs) : ∃ a vs, v = .ref a ∧ H a = some (.lst vs) ∧ DenL P tb K Ex (Plc Hd μ) H xs vs := by
  cases t with
  | lst ys =>
    simp only [lstO, Option.some.injEq] at e; subst e
    obtain ⟨a, vs, e, _, q, r⟩ := h
    exact ⟨a, vs, e, q, r⟩
  | h a =>
    simp only [lstO] at e
    split at e
    · rename_i ys q
      cases e
      obtain ⟨_, vs, q1, r⟩ := o.own a _ q
      exact ⟨a, vs, h, q1, r⟩
    · cases e
  | _ => simp [lstO] at e
theorem seqO_den {t : T} {v : V} {xs : List T} (o : Ok P tb K Ex Hd μ H) (h : Den P tb K Ex (Plc Hd μ) H t v) (e : seqO μ t = some xs) : ∃ a vs, v = .ref a ∧ (SqL K H a vs ∨ SqT K H a vs) ∧ DenL P tb K Ex (Plc Hd μ) H xs vs := by
  cases t with
  | tup ys =>
    simp only [seqO, Option.some.injEq] at e; subst e
    obtain ⟨a, vs, e, q, r⟩ := h
    refine ⟨a, vs, e, .inr ?_, r⟩
    rcases q with ⟨_, q⟩ | q
    · exact .inl q
    · exact q H
  | lst ys =>
    obtain ⟨a, vs, e1, q, r⟩ := lstO_den (xs := xs) o h e
    exact ⟨a, vs, e1, .inl (.of q), r⟩
  | h a =>
    obtain ⟨a, vs, e1, q, r⟩ := lstO_den (xs := xs) o h e
    exact ⟨a, vs, e1, .inl (.of q), r⟩
  | _ => simp [seqO] at e
theorem insO_den {t : T} {v : V} {c : Nat} {fs : List (Nat × T)} (o : Ok P tb K Ex Hd μ H) (h : Den P tb K Ex (Plc Hd μ) H t v) (e : insO μ t = some (c, fs)) :
    ∃ a dx vs, v = .ref a ∧ H a = some (.ins (tb.ca c) dx vs) ∧ (c < P.cn.length ∧ okF P c fs) ∧ DenF P tb K Ex (Plc Hd μ) H fs vs := by
  cases t with
  | ins c' fs' =>
    simp only [insO, Option.some.injEq, Prod.mk.injEq] at e
    obtain ⟨rfl, rfl⟩ := e
    obtain ⟨a, dx, vs, e, _, q, k, r⟩ := h
    exact ⟨a, dx, vs, e, q, k, r⟩
  | h a =>
    simp only [insO] at e
    split at e
    · rename_i ys q q1
      cases e
      obtain ⟨_, dx, vs, q1, k, r⟩ := o.own a _ q1
      exact ⟨a, dx, vs, h, q1, k, r⟩
    · cases e
  | _ => simp [insO] at e
theorem dat1_den {t : T} {v : V} {d : PyData} (o : Ok P tb K Ex Hd μ H) (h : Den P tb K Ex (Plc Hd μ) H t v) (e : dat1 μ t = some d) : Dp K H v d := by
  cases t with
  | h a =>
    simp only [dat1] at e
    split at e
    · rename_i ys q
      simp only [Option.map_eq_some_iff] at e
      obtain ⟨ds, e1, rfl⟩ := e
      obtain ⟨_, vs, q1, r⟩ := o.own a _ q
      rw [show v = .ref a from h]
      exact .lst (.inl (.inl q1)) (datL_den e1 r)
    · cases e
  | _ => exact dat_den e h
theorem datN_den (o : Ok P tb K Ex Hd μ H) : ∀ {ts : List T} {vs : List V} {ds : List PyData}, DenL P tb K Ex (Plc Hd μ) H ts vs → datN μ ts = some ds → DpAll K H vs ds
  | [], vs, ds, h, e => by
    simp only [datN, Option.some.injEq] at e; subst e
    rw [show vs = [] from h]; exact .nil
  | t :: ts, vs, ds, h, e => by
    obtain ⟨v, r, rfl, q, qs⟩ := h
    simp only [datN] at e
    split at e
    · rename_i d ds' e1 e2
      cases e
      exact .cons (dat1_den o q e1) (datN_den o qs e2)
    · cases e
theorem datM_den {t : T} {v : V} {d : PyData} (o : Ok P tb K Ex Hd μ H) (h : Den P tb K Ex (Plc Hd μ) H t v) (e : datM μ t = some d) : Dp K H v d := by
  cases t with
  | tup xs =>
    simp only [datM, Option.map_eq_some_iff] at e
    obtain ⟨ds, e1, rfl⟩ := e
    obtain ⟨a, vs, rfl, q, r⟩ := h
    refine .tup ?_ (datN_den o r e1)
    rcases q with ⟨_, q⟩ | q
    · exact .inl q
    · exact q H
  | _ => exact dat1_den o h e
/-- the fields -/
theorem lookF_den : ∀ {fs : List (Nat × T)} {vs : List (Str × V)} {f : Nat} {t : T} {Pl : Addr → Prop}, (∀ p ∈ fs, nmA P p.1 = nmA P f → p.1 = f) → DenF P tb K Ex Pl H fs vs → lookF f fs = some t → ∃ v, vs.lookup (nmA P f) = some v ∧ Den P tb K Ex Pl H t v
  | [], _, _, _, _, _, _, e => by simp [lookF] at e
  | (g, u) :: fs, vs, f, t, Pl, inj, h, e => by
    obtain ⟨v, r, rfl, q, qs⟩ := h
    simp only [lookF] at e
    by_cases z : g = f
    · subst z
      rw [if_pos rfl] at e; cases e
      exact ⟨v, by simp [List.lookup], q⟩
    · rw [if_neg z] at e
      obtain ⟨w, e1, q1⟩ := lookF_den (fun p hp => inj p (List.mem_cons_of_mem _ hp)) qs e
      have ne : (nmA P f == nmA P g) = false := beq_eq_false_iff_ne.mpr fun y => z (inj (g, u) List.mem_cons_self y.symm)
      exact ⟨w, by simp only [List.lookup, ne]; exact e1, q1⟩
theorem DenF.none : ∀ {fs : List (Nat × T)} {vs : List (Str × V)} {x : Str} {Pl : Addr → Prop}, (∀ p ∈ fs, nmA P p.1 ≠ x) → DenF P tb K Ex Pl H fs vs → vs.lookup x = none
  | [], _, _, _, _, h => by rw [show _ = [] from h]; rfl
  | (g, u) :: fs, vs, x, Pl, n, h => by
    obtain ⟨v, r, rfl, q, qs⟩ := h
    have ne : (x == nmA P g) = false := beq_eq_false_iff_ne.mpr fun y => n (g, u) List.mem_cons_self y.symm
    simp only [List.lookup, ne]
    exact DenF.none (fun p hp => n p (List.mem_cons_of_mem _ hp)) qs
theorem DenF.put {f : Nat} {t : T} {v : V} {Pl : Addr → Prop} (hv : Den P tb K Ex Pl H t v) : ∀ {fs : List (Nat × T)} {vs : List (Str × V)}, (∀ p ∈ fs, nmA P p.1 = nmA P f → p.1 = f) → DenF P tb K Ex Pl H fs vs → DenF P tb K Ex Pl H (putN f t fs) (putF (nmA P f) v vs)
  | [], _, _, h => by rw [show _ = [] from h]; exact ⟨v, [], rfl, hv, rfl⟩
  | (g, u) :: fs, vs, inj, h => by
    obtain ⟨w, r, rfl, q, qs⟩ := h
    simp only [putN]
    by_cases z : g = f
    · subst z
      rw [if_pos rfl]
      show DenF P tb K Ex Pl H _ (if nmA P g = nmA P g then _ else _)
      rw [if_pos rfl]
      exact ⟨v, r, rfl, hv, qs⟩
    · rw [if_neg z]
      show DenF P tb K Ex Pl H _ (if nmA P g = nmA P f then _ else _)
      rw [if_neg fun y => z (inj (g, u) List.mem_cons_self y)]
      exact ⟨w, _, rfl, q, DenF.put hv (fun p hp => inj p (List.mem_cons_of_mem _ hp)) qs⟩
theorem DenF.len : ∀ {ts : List (Nat × T)} {vs : List (Str × V)} {Pl : Addr → Prop}, DenF P tb K Ex Pl H ts vs → ts.length = vs.length
  | [], _, _, h => by rw [show _ = [] from h]; rfl
  | (_, t) :: ts, vs, _, h => by
    obtain ⟨v, r, rfl, _, q⟩ := h
    rw [List.length_cons, List.length_cons, DenF.len q]
theorem okF_put {c f : Nat} {t : T} (hf : (P.fl c).contains f = true) : ∀ {fs : List (Nat × T)}, okF P c fs → okF P c (putN f t fs)
  | [], _ => fun p hp => by
    simp only [putN, List.mem_singleton] at hp
    rw [hp]; exact hf
  | (g, u) :: fs, h => fun p hp => by
    simp only [putN] at hp
    by_cases z : g = f
    · rw [if_pos z] at hp
      rcases List.mem_cons.mp hp with e | hp
      · rw [e]; exact h (g, u) List.mem_cons_self
      · exact h p (List.mem_cons_of_mem _ hp)
    · rw [if_neg z] at hp
      rcases List.mem_cons.mp hp with e | hp
      · rw [e]; exact h (g, u) List.mem_cons_self
      · exact okF_put hf (fun q hq => h q (List.mem_cons_of_mem _ hq)) p hp
end
end Co
set_option Elab.async false
set_option linter.all false
set_option maxRecDepth 100000
set_option maxHeartbeats 1000000
namespace Co
open PySem PySem.Spec PyProof.Rows L2
/-! # Co, part 3: what is known of the program, and the rules by values -/
abbrev NoEx : Addr → Nat → Prop := fun _ _ => False
/-- the promise of a function, from its spec -/
def spOf (P : Pa) (tb : Tb) (K : PySem.W.Frag) (j : Nat) : Sp := fun vs H Q E =>
  ∃ (Hd : Addr → Prop) (μ : Mu) (ts : List T) (QT : Pq) (XT : Xq), Ok P tb K NoEx Hd μ H ∧ DenL P tb K NoEx (Plc Hd μ) H ts vs ∧ ts.length = (tb.ps j).length ∧ P.S j ts μ QT XT ∧
    (∀ t μ' v H', Co.Ext μ H μ' H' → Ok P tb K NoEx Hd μ' H' → Den P tb K NoEx (Plc Hd μ') H' t v → QT t μ' → Q v H') ∧
    (∀ c μ' H', Co.Ext μ H μ' H' → Ok P tb K NoEx Hd μ' H' → XT c μ' → E (.ref (tb.xa c)) none H')
/-- the built-in names that a body may use -/
def blts : List Str := ["len", "abs", "int", "str", "min", "max", "sum", "any", "all", "list", "tuple", "sorted", "range", "enumerate", "zip", "reversed", "isinstance", "bool", "ValueError", "set"]
def initId : Nat := 8
/-- what is known of the program's text behind the top -/
structure Facts (P : Pa) (tb : Tb) (K : PySem.W.Frag) (mg : Str → Option Value) : Prop where
  nd : P.at_.Nodup
  cls : ∀ c, c < P.cn.length → Cls K (tb.ca c)
  fli : ∀ c f, (P.fl c).contains f = true → f < P.at_.length
  noat : ∀ c f, c < P.cn.length → (P.fl c).contains f = true → NoAttr K (tb.ca c) (nmA P f)
  met : ∀ c m j, c < P.cn.length → P.mt c m = some j → m < P.at_.length ∧ (P.fl c).contains m = false ∧ Meth K (tb.ca c) (nmA P m) (tb.fa j)
  self : ∀ c, c < P.cn.length → PySem.W.selfFirst K (tb.ca c) = true
  mgc : ∀ (c : Nat) (x : Str), P.cn[c]? = some x → mg x = some (.ref (tb.ca c))
  mkf : ∀ c j, c < P.cn.length → P.mt c initId = some j → Mk K (tb.ca c) (tb.fa j)
  gl : ∀ (k : Nat) (x : Str) (t : T), P.gl[k]? = some (x, t) → ∃ u v, mg x = some u ∧ RelV v u ∧ ∀ Ex Pl H, Den P tb K Ex Pl H t v
  fr : ∀ x ∈ blts, mg x = none
  exg : ∀ (i : Nat) (x : Str), P.xn[i]? = some x → mg x = some (.ref (tb.xa i))
  exi : ∀ (i : Nat) (x : Str), P.xn[i]? = some x → PySem.W.excIn K (tb.xa i) He.veBase "ValueError.__new__" = true ∧ PySem.W.keepIn K (.ref (tb.xa i)) = true ∧ PySem.W.subIn K (.ref (tb.xa i)) (.type "BaseException") = some true ∧
    PySem.W.typeIn K (.ref (tb.xa i)) = some (.type "type")
  exm : ∀ i j, i < P.xn.length → j < P.xn.length → PySem.W.exmOne K (.ref (tb.xa i)) (.ref (tb.xa j)) = some (P.xm i j)
  gcd : P.gcd = true → mg "gcd" = some (.builtin "math.gcd")
  clk : ∀ c, c < P.cn.length → PySem.W.findIn K (.ref (tb.ca c)) "__class__" = some (some (.builtin "object.__class__")) ∧
    PySem.W.specialIn K (.builtin "object.__class__") "__get__" = some (some (.builtin "getset_descriptor.__get__")) ∧ PySem.W.takesIn K (.builtin "object.__class__") = some true ∧ PySem.W.mroIn K (tb.ca c) (.type "object") = some true
  nf : ∀ c d, c < P.cn.length → d < P.cn.length → PySem.W.notFirst K (tb.ca c) (.ref (tb.ca d)) = true
  nfB : ∀ c n, c < P.cn.length → n ∈ (["int", "bool", "list", "tuple", "str", "NoneType"] : List String) → PySem.W.notFirst K (tb.ca c) (.type n) = true
  kit : ∀ c d, c < P.cn.length → d < P.cn.length → PySem.W.kitOne K (.ref (tb.ca c)) (.ref (tb.ca d)) = some (c == d)
  kitB : ∀ c n, c < P.cn.length → n ∈ (["int", "bool", "list", "tuple", "str"] : List String) → PySem.W.kitOne K (.ref (tb.ca c)) (.type n) = some false
  kitC : ∀ c n, c < P.cn.length → n ∈ (["int", "bool", "list", "tuple", "str", "NoneType"] : List String) → PySem.W.kitOne K (.type n) (.ref (tb.ca c)) = some false
/-- a function may be called -/
structure FnF (P : Pa) (tb : Tb) (Pg : Program) (w : World) (K : PySem.W.Frag) (mg : Str → Option Value) (base : Heap) (j : Nat) : Prop where
  ok : FnOk Pg w K mg base (L2.CX Pg w) (tb.lv j) (tb.fa j) (tb.fd j) (tb.ps j) (spOf P tb K j)
  kp : PySem.W.keepIn K (.ref (tb.fa j)) = true
  nm : ∀ x, P.fn[j]? = some x → x ≠ "" → mg x = some (.ref (tb.fa j))
  np : (tb.ps j).length = P.np j
  bind : ∀ k, k ≤ (P.df j).length → ∃ ds dvs, Binds K (tb.fd j) (tb.ps j) ds ∧ Vals dvs ds ∧ ∀ Ex Pl H, DenL P tb K Ex Pl H ((P.df j).drop ((P.df j).length - k)) dvs
/-! ### where a body stands -/
structure GE (P : Pa) (tb : Tb) (n lev : Nat) (cm : Bool) (N : List Str) (sc : Scope) (Ex : Addr → Nat → Prop) (W : WX) (X : Cx) : Prop where
  F : Facts P tb X.K X.mg
  fn : ∀ j, j < n → FnF P tb X.prog X.w X.K X.mg X.base j
  eN : X.N = N
  nd : N.Nodup
  esc : X.env.scope = sc
  calm : cm = true → X.calm = true
  room : cm = true → Room lev X.A
  nex : cm = true → ∀ a x, ¬ Ex a x
  un : X.A.units + 64 < cLine
  tk : Takes X W
section
variable {P : Pa} {tb : Tb} {n lev : Nat} {cm : Bool} {N : List Str} {sc : Scope} {Ex : Addr → Nat → Prop} {W : WX} {X : Cx} {Hd : Addr → Prop}
/-- what follows: QT of the tree, Q of the value -/
structure Cn (P : Pa) (tb : Tb) (K : PySem.W.Frag) (Ex : Addr → Nat → Prop) (Hd : Addr → Prop) (W : WX) (σ : L2.St) (μ : Mu) (H : Hp) (QT : Pq) (XT : Xq) (Q : VK) : Prop where
  ok : Ok P tb K Ex Hd μ H
  nx : ∀ t μ' v H', Co.Ext μ H μ' H' → Ok P tb K Ex Hd μ' H' → Den P tb K Ex (Plc Hd μ') H' t v → QT t μ' → Q v H'
  xc : ∀ c μ' H', Co.Ext μ H μ' H' → Ok P tb K Ex Hd μ' H' → XT c μ' → W (.ref (tb.xa c)) none σ H'
variable {σ : L2.St} {μ μ' : Mu} {H H' : Hp} {QT QT' : Pq} {XT : Xq} {Q Q' : VK} {s : Shared} {pins : List (Addr × Obj)} {x y : V} {u v : Value} {t t' : T}
theorem Cn.here (c : Cn P tb X.K Ex Hd W σ μ H QT XT Q) {t : T} {v : V} (d : Den P tb X.K Ex (Plc Hd μ) H t v) (q : QT t μ) : Q v H := c.nx t μ v H .refl c.ok d q
/-- a new object that is no thing of the store -/
theorem Cn.new (c : Cn P tb X.K Ex Hd W σ μ H QT XT Q) {p : Addr} (hp : H p = none) {o : HO} {t : T} (d : Den P tb X.K Ex (Plc Hd μ) (upd H p o) t (.ref p)) (q : QT t μ) : Q (.ref p) (upd H p o) :=
  c.nx t μ (.ref p) _ (ext_new hp) (c.ok.new hp) d q
theorem Cn.newL (c : Cn P tb X.K Ex Hd W σ μ H QT XT Q) {mu : Bool} {p : Addr} (hp : H p = none) {xs : List T} {vs : List V} (d : DenL P tb X.K Ex (Plc Hd μ) H xs vs) (q : wNew mu xs μ QT) : Q (.ref p) (upd H p (.lst vs)) := by
  obtain ⟨_, q⟩ := q
  cases mu with
  | false =>
    exact c.new (t := .lst xs) hp ⟨p, vs, rfl, ⟨(c.ok.free hp).1, (c.ok.free hp).2⟩, upd_same, d.ext (ext_new hp)⟩ q
  | true =>
    have q1 := q p (c.ok.free hp).1
    exact c.nx (.h p) (μ.set p (.lst xs)) _ _ (ext_put (.inl hp)) (c.ok.put (m := .lst xs) (.inl hp) ⟨vs, upd_same, d.ext (ext_put (.inl hp))⟩) rfl q1
theorem Cn.newT (c : Cn P tb X.K Ex Hd W σ μ H QT XT Q) {p : Addr} (hp : H p = none) {xs : List T} {vs : List V} (d : DenL P tb X.K Ex (Plc Hd μ) H xs vs) (q : QT (.tup xs) μ) : Q (.ref p) (upd H p (.tup vs)) :=
  c.new (t := .tup xs) hp ⟨p, vs, rfl, .inl ⟨⟨(c.ok.free hp).1, (c.ok.free hp).2⟩, .inl upd_same⟩, d.ext (ext_new hp)⟩ q
theorem Cn.noX (c : Cn P tb X.K Ex Hd W σ μ H QT XT Q) {W' : WX} {σ' : L2.St} : Cn P tb X.K Ex Hd W' σ' μ H QT (fun _ _ => False) Q := ⟨c.ok, c.nx, fun _ _ _ _ _ z => z.elim⟩
theorem wNew.le {mu : Bool} {xs : List T} (q : wNew mu xs μ QT) : xs.length ≤ sizeLine := by
  rw [sizeLine_eq]; exact q.1
theorem line_eq : sizeLine = 16777216 := sizeLine_eq
/-! ### a call -/
theorem call_fn {j : Nat} {ts : List T} {vs : List V} {us : List Value} (g : GE P tb n lev true N sc Ex W X) (hj : j < n) (hl : tb.lv j ≤ lev) (hk : callOk P j ts.length)
    (I : Inv X pins σ H s) (c : Cn P tb X.K Ex Hd W σ μ H QT XT Q) (d : DenL P tb X.K Ex (Plc Hd μ) H ts vs) (r : Vals vs us) (h : P.S j (fillD P j ts) μ QT XT) :
    wpAny (model X.prog X.w) X.A (call (.ref (tb.fa j)) us) (EP X pins σ Q) X.xe s := by
  obtain ⟨hle, hlen⟩ := hk
  obtain ⟨F, kp, _, np, bind⟩ := g.fn j hj
  have hEx : Ex = NoEx := funext fun a => funext fun x => eq_false (g.nex rfl a x)
  subst hEx
  obtain ⟨ds, dvs, hb, hd, dd⟩ := bind _ hlen
  have hdl : (P.df j).drop ((P.df j).length - (P.np j - ts.length)) = (P.df j).drop ((P.df j).length - (P.np j - ts.length)) := rfl
  have d2 : DenL P tb X.K NoEx (Plc Hd μ) H (fillD P j ts) (vs ++ dvs) := d.append (dd _ _ _)
  have l2 : (fillD P j ts).length = (tb.ps j).length := by
    unfold fillD
    rw [List.length_append, List.length_drop, np]
    omega
  have sp : spOf P tb X.K j (vs ++ dvs) H Q (fun cls dd H' => W cls dd σ H') := ⟨Hd, μ, _, QT, XT, c.ok, d2, l2, h, c.nx, c.xc⟩
  have r2 : Vals (vs ++ dvs) (us ++ ds) := r.append hd
  have hl2 : (us ++ ds).length = (tb.ps j).length := by rw [← r2.length, ← d2.len]; exact l2
  refine wpAny_call (codeAny_mono (F.run X.A X.stack s H ⟨us, []⟩ (us ++ ds) (vs ++ dvs) Q _ ((g.room rfl).mono hl) I.env0 (hb s us I.kIn hl2) r2 sp) fun r s' hq => ?_)
  cases r with
  | error e => exact passAt g.tk σ pins H s e s' I hq
  | ok fl =>
    cases fl with
    | ret u => exact I.after hq
    | next => exact False.elim hq
    | brk => exact False.elim hq
    | cont => exact False.elim hq
/-- a new instance -/
theorem make_fn {j c0 : Nat} {fz : Bool} {ts : List T} {vs : List V} {us : List Value} (g : GE P tb n lev true N sc Ex W X) (hj : j < n) (hl : tb.lv j + 1 ≤ lev)
    (hc : c0 < P.cn.length) (hm : P.mt c0 initId = some j) (I : Inv X pins σ H s) (c : Cn P tb X.K Ex Hd W σ μ H QT XT Q) (d : DenL P tb X.K Ex (Plc Hd μ) H ts vs) (r : Vals vs us) (h : wMk P c0 j fz ts μ QT XT) :
    wpAny (model X.prog X.w) X.A (call (.ref (tb.ca c0)) us) (EP X pins σ Q) X.xe s := by
  obtain ⟨⟨hle, hlen⟩, h⟩ := h
  obtain ⟨F, kp, _, np, bind⟩ := g.fn j hj
  have M := g.F.mkf c0 j hc hm
  have hEx : Ex = NoEx := funext fun a => funext fun x => eq_false (g.nex rfl a x)
  subst hEx
  have I2 := Inv.made (C := tb.ca c0) I
  have hx : H (s.heap.objs.size + 1) = none := I.hok.fresh (Nat.le_succ _)
  have hdx : H s.heap.objs.size = none := I.hok.fresh (Nat.le_refl _)
  have nxd : s.heap.objs.size + 1 ≠ s.heap.objs.size := Nat.succ_ne_self _
  generalize hX : s.heap.objs.size + 1 = x at *
  generalize hD : s.heap.objs.size = dx at *
  have hx2 : upd H dx (.own x) x = none := by rw [upd_ne nxd]; exact hx
  have e1 : Co.Ext μ H μ (upd H dx (.own x)) := ext_new hdx
  have o1 : Ok P tb X.K NoEx Hd μ (upd H dx (.own x)) := c.ok.new hdx
  have e2 : Co.Ext μ H (μ.set x (.ins c0 [])) (upd (upd H dx (.own x)) x (.ins (tb.ca c0) dx [])) := e1.trans (ext_put (.inl hx2))
  have o2 : Ok P tb X.K NoEx Hd (μ.set x (.ins c0 [])) (upd (upd H dx (.own x)) x (.ins (tb.ca c0) dx [])) :=
    o1.put (m := .ins c0 []) (.inl hx2) ⟨dx, [], upd_same, ⟨hc, fun p hp => by cases hp⟩, rfl⟩
  have hq := h x (c.ok.free hx).1
  obtain ⟨ds, dvs, hb, hd, dd⟩ := bind _ hlen
  have d1 : DenL P tb X.K NoEx (Plc Hd (μ.set x (.ins c0 []))) (upd (upd H dx (.own x)) x (.ins (tb.ca c0) dx [])) (.h x :: ts) (.ref x :: vs) := .cons rfl (d.ext e2)
  have d2 := d1.append (dd NoEx (Plc Hd (μ.set x (.ins c0 []))) (upd (upd H dx (.own x)) x (.ins (tb.ca c0) dx [])))
  have l2 : (fillD P j (.h x :: ts)).length = (tb.ps j).length := by
    unfold fillD
    rw [List.length_append, List.length_drop, np, List.length_cons]
    omega
  have sp : spOf P tb X.K j ((.ref x :: vs) ++ dvs) (upd (upd H dx (.own x)) x (.ins (tb.ca c0) dx [])) (fun v H2 => v = .non ∧ Q (.ref x) H2) (fun cls dd H' => W cls dd σ H') := by
    refine ⟨Hd, _, _, _, _, o2, d2, l2, hq, fun t μ' v H' ex ok dn q => ?_, fun cc μ' H' ex ok q => c.xc cc μ' H' (e2.trans ex) ok q⟩
    obtain ⟨rfl, q⟩ := q
    refine ⟨dn, ?_⟩
    cases fz with
    | false => exact c.nx (.h x) μ' _ _ (e2.trans ex) ok rfl q
    | true =>
      simp only at q
      split at q
      · rename_i c' fs hm
        obtain ⟨nh, dx', vs', hH, k, dF⟩ := ok.own x _ hm
        exact c.nx (.ins c' fs) (μ'.del x) _ _ ((e2.trans ex).trans ext_del) (ok.del x) ⟨x, dx', vs', rfl, ⟨Mu.del_same, nh⟩, hH, k, dF.ext ext_del⟩ q
      · exact q.elim
  have r2 : Vals (V.ref x :: (vs ++ dvs)) (Value.ref x :: (us ++ ds)) := .cons rfl (r.append hd)
  have hl2 : (Value.ref x :: us ++ ds).length = (tb.ps j).length := by
    have e := r2.length
    have e' := d2.len
    have e3 : (fillD P j (.h x :: ts)).length = (V.ref x :: (vs ++ dvs)).length := e'
    rw [← l2, e3, e]; rfl
  subst hX
  subst hD
  refine wpAny_call (make_map (f := tb.fa j) I.kIn M.makes M.init (beq_iff_eq.mp M.fn) (codeAny_mono (F.run _ X.stack _ _ ⟨Value.ref (s.heap.objs.size + 1) :: us, []⟩ (Value.ref (s.heap.objs.size + 1) :: (us ++ ds)) _ _ _ (((g.room rfl).mono hl).make (tb.ca c0) us [])
    (I2.env0.make (tb.ca c0) us []) (hb _ (Value.ref (s.heap.objs.size + 1) :: us) I2.kIn hl2) r2 sp) fun r s' hq' => ?_))
  cases r with
  | error e => exact passAt g.tk σ pins _ _ e s' I2 hq'
  | ok fl =>
    cases fl with
    | ret u =>
      obtain ⟨v, H', I3, rv, ev, q3⟩ := I2.after hq'
      subst ev
      exact ⟨rv, ⟨V.ref (s.heap.objs.size + 1), H', I3, rfl, q3⟩⟩
    | next => exact False.elim hq'
    | brk => exact False.elim hq'
    | cont => exact False.elim hq'
end
end Co
set_option Elab.async false
set_option linter.all false
set_option maxRecDepth 100000
set_option maxHeartbeats 1000000
namespace Co
open PySem PySem.Spec PyProof.Rows L2
/-! # Co, part 4: the rules by values -/
section
variable {P : Pa} {tb : Tb} {n lev : Nat} {cm : Bool} {N : List Str} {sc : Scope} {Ex : Addr → Nat → Prop} {W : WX} {X : Cx} {Hd : Addr → Prop}
variable {σ : L2.St} {μ μ' : Mu} {H H' : Hp} {QT QT' : Pq} {XT : Xq} {Q Q' : VK} {s : Shared} {pins : List (Addr × Obj)} {x y : V} {u v : Value} {t t' : T}
abbrev DenX (P : Pa) (tb : Tb) (X : Cx) (Ex : Addr → Nat → Prop) (Hd : Addr → Prop) (μ : Mu) (H : Hp) (t : T) (v : V) : Prop := Den P tb X.K Ex (Plc Hd μ) H t v
/-! ### operators -/
def opP : Op2 → Operator
  | .add => .Add
  | .sub => .Sub
  | .mul => .Mult
  | .fdiv => .FloorDiv
  | .mod => .Mod
  | .pow => .Pow
theorem bin_ok (o : Op2) (I : Inv X pins σ H s) (rx : RelV x u) (ry : RelV y v) (c : Cn P tb X.K Ex Hd W σ μ H QT XT Q) (dx : DenX P tb X Ex Hd μ H t x) (dy : DenX P tb X Ex Hd μ H t' y) (h : wBin o t t' μ QT) :
    wpAny (model X.prog X.w) X.A (binaryOp (opP o) u v) (EP X pins σ Q) X.xe s := by
  cases t with
  | int i =>
    cases t' with
    | int j =>
      obtain rfl : x = .int i := dx
      obtain rfl : y = .int j := dy
      cases o with
      | add => exact op_add pins s σ H _ _ u v Q I rx ry ⟨i, j, rfl, rfl, c.here (t := .int (i + j)) rfl h⟩
      | sub => exact op_sub pins s σ H _ _ u v Q I rx ry ⟨i, j, rfl, rfl, c.here (t := .int (i - j)) rfl h⟩
      | mul =>
        obtain ⟨h1, h⟩ := h
        obtain ⟨a, rfl⟩ := rx
        obtain ⟨b, rfl⟩ := ry
        exact mul_int ⟨.int (i * j), H, I.tok _, ⟨_, rfl⟩, c.here (t := .int (i * j)) rfl h⟩ h1
      | fdiv =>
        obtain ⟨h1, h2, h⟩ := h
        obtain ⟨a, rfl⟩ := rx
        obtain ⟨b, rfl⟩ := ry
        exact floordiv_int h1 ⟨.int (i.fdiv j), H, I.tok _, ⟨_, rfl⟩, c.here (t := .int (i.fdiv j)) rfl h⟩ (.inl (PyProof.noPylong_of_log2 h2))
      | mod =>
        obtain ⟨h1, h⟩ := h
        exact op_modN pins s σ H _ _ u v Q I rx ry ⟨i, j, rfl, rfl, h1, c.here (t := .int (i.fmod j)) rfl h⟩
      | pow =>
        obtain ⟨h1, h⟩ := h
        exact op_pow pins s σ H _ _ u v Q I rx ry ⟨i, j, rfl, rfl, h1, c.here (t := .int (i ^ j.toNat)) rfl h⟩
    | _ => cases o <;> exact h.elim
  | str a =>
    cases t' with
    | str b =>
      cases o with
      | add =>
        obtain ⟨h1, h⟩ := h
        obtain rfl : x = .str a := dx
        obtain rfl : y = .str b := dy
        exact op_add_str pins s σ H _ _ u v Q I rx ry ⟨a, b, rfl, rfl, h1, c.here (t := .str (a ++ b)) rfl h⟩
      | _ => exact h.elim
    | _ => cases o <;> exact h.elim
  | tup a =>
    cases t' with
    | tup b =>
      cases o with
      | add =>
        obtain ⟨h1, h2, h3, h⟩ := h
        obtain ⟨ax, vs, rfl, qa, da⟩ := dx
        obtain ⟨ay, ws, rfl, qb, db⟩ := dy
        have ha : SqT X.K H ax vs := by
          rcases qa with ⟨_, q⟩ | q
          · exact .inl q
          · exact q H
        have hb : SqT X.K H ay ws := by
          rcases qb with ⟨_, q⟩ | q
          · exact .inl q
          · exact q H
        have l1 := da.len
        have l2 := db.len
        refine op_catT pins s σ H _ _ u v Q I rx ry ⟨ax, ay, vs, ws, rfl, rfl, ha, hb, ?_, by omega, ?_⟩
        · intro e; rw [e] at l1; exact h1 (List.eq_nil_of_length_eq_zero l1)
        · refine ⟨fun e => ?_, fun _ p hp => c.newT hp (da.append db) h⟩
          rw [e] at l2; exact absurd (List.eq_nil_of_length_eq_zero l2) h2
      | _ => exact h.elim
    | _ => cases o <;> exact h.elim
  | _ => cases o <;> cases t' <;> exact h.elim
theorem cat_ok {mu : Bool} (I : Inv X pins σ H s) (rx : RelV x u) (ry : RelV y v) (c : Cn P tb X.K Ex Hd W σ μ H QT XT Q) (dx : DenX P tb X Ex Hd μ H t x) (dy : DenX P tb X Ex Hd μ H t' y) (h : wCat mu t t' μ QT) :
    wpAny (model X.prog X.w) X.A (binaryOp .Add u v) (EP X pins σ Q) X.xe s := by
  unfold wCat at h
  split at h
  · rename_i xs ys e1 e2
    obtain ⟨a, vs, rfl, ha, da⟩ := lstO_den c.ok dx e1
    obtain ⟨b, ws, rfl, hb, db⟩ := lstO_den c.ok dy e2
    refine op_cat pins s σ H _ _ u v Q I rx ry ⟨a, b, vs, ws, rfl, rfl, ha, hb, ?_, fun p hp => c.newL hp (da.append db) h⟩
    have := h.le
    rw [List.length_append, da.len, db.len] at this
    exact this
  · exact h.elim
theorem rep_ok {mu : Bool} (I : Inv X pins σ H s) (rx : RelV x u) (ry : RelV y v) (c : Cn P tb X.K Ex Hd W σ μ H QT XT Q) (dx : DenX P tb X Ex Hd μ H t x) (dy : DenX P tb X Ex Hd μ H t' y) (h : wRep mu t t' μ QT) :
    wpAny (model X.prog X.w) X.A (binaryOp .Mult u v) (EP X pins σ Q) X.xe s := by
  unfold wRep at h
  split at h
  · rename_i xs k e1
    obtain ⟨h1, h2, h3, h⟩ := h
    obtain ⟨a, vs, rfl, ha, da⟩ := lstO_den c.ok dx e1
    obtain rfl : y = .int k := dy
    exact op_rep pins s σ H _ _ u v Q I rx ry ⟨a, k, vs, rfl, rfl, ha, h1, h2, by rw [← da.len]; exact h3, fun p hp => c.newL hp (da.rep _) h⟩
  · exact h.elim
theorem neg_ok (I : Inv X pins σ H s) (rx : RelV x u) (c : Cn P tb X.K Ex Hd W σ μ H QT XT Q) (dx : DenX P tb X Ex Hd μ H t x) (h : wNeg t μ QT) :
    wpAny (model X.prog X.w) X.A (unaryOp .USub u) (EP X pins σ Q) X.xe s := by
  cases t with
  | int i =>
    obtain rfl : x = .int i := dx
    exact un_neg pins s σ H _ u Q I rx ⟨i, rfl, c.here (t := .int (-i)) rfl h⟩
  | _ => exact h.elim
/-! ### comparisons -/
def cmP : Cm → CmpOp
  | .eq => .Eq
  | .ne => .NotEq
  | .lt => .Lt
  | .le => .LtE
  | .gt => .Gt
  | .ge => .GtE
  | .is_ => .Is
  | .isnot => .IsNot
  | .in_ => .In
  | .notin => .NotIn
theorem isNon_den (d : DenX P tb X Ex Hd μ H t x) : decide (x = .non) = isNon t := by
  cases t with
  | non => rw [show x = .non from d]; rfl
  | bl b => rw [show x = .bl b from d]; rfl
  | int b => rw [show x = .int b from d]; rfl
  | str b => rw [show x = .str b from d]; rfl
  | tup b => obtain ⟨a, vs, rfl, _⟩ := d; rfl
  | lst b => obtain ⟨a, vs, rfl, _⟩ := d; rfl
  | ins c b => obtain ⟨a, dx, vs, rfl, _⟩ := d; rfl
  | scr b => obtain ⟨a, rfl, _⟩ := d; rfl
  | h b => rw [show x = .ref b from d]; rfl
  | exc b => obtain ⟨a, rfl, _⟩ := d; rfl
theorem flat_den (f : flatT t = true) (d : DenX P tb X Ex Hd μ H t x) : flatV x = true := by
  cases t with
  | non => rw [show x = .non from d]; rfl
  | bl b => rw [show x = .bl b from d]; rfl
  | int b => rw [show x = .int b from d]; rfl
  | str b => rw [show x = .str b from d]; rfl
  | _ => cases f
theorem eqF_den {t' : T} {y : V} (f : flatT t = true) (d : DenX P tb X Ex Hd μ H t x) (f' : flatT t' = true) (d' : DenX P tb X Ex Hd μ H t' y) : eqV y x = eqF t' t := by
  cases t with
  | non => rw [show x = .non from d]; cases t' with
    | non => rw [show y = .non from d']; rfl
    | bl b => rw [show y = .bl b from d']; rfl
    | int b => rw [show y = .int b from d']; rfl
    | str b => rw [show y = .str b from d']; rfl
    | _ => cases f'
  | bl b => rw [show x = .bl b from d]; cases t' with
    | non => rw [show y = .non from d']; rfl
    | bl b => rw [show y = .bl b from d']; rfl
    | int b => rw [show y = .int b from d']; rfl
    | str b => rw [show y = .str b from d']; rfl
    | _ => cases f'
  | int b => rw [show x = .int b from d]; cases t' with
    | non => rw [show y = .non from d']; rfl
    | bl b => rw [show y = .bl b from d']; rfl
    | int b => rw [show y = .int b from d']; rfl
    | str b => rw [show y = .str b from d']; rfl
    | _ => cases f'
  | str b => rw [show x = .str b from d]; cases t' with
    | non => rw [show y = .non from d']; rfl
    | bl b => rw [show y = .bl b from d']; rfl
    | int b => rw [show y = .int b from d']; rfl
    | str b => rw [show y = .str b from d']; rfl
    | _ => cases f'
  | _ => cases f
theorem any_den (f : flatT t = true) (d : DenX P tb X Ex Hd μ H t x) : ∀ {ys : List T} {vs : List V}, ys.all flatT = true → DenL P tb X.K Ex (Plc Hd μ) H ys vs → vs.all flatV = true ∧ (inV x vs) = ys.any fun z => eqF z t
  | [], vs, _, h => by rw [show vs = [] from h]; exact ⟨rfl, rfl⟩
  | z :: ys, vs, fa, h => by
    obtain ⟨v, r, rfl, q, qs⟩ := h
    rw [List.all_cons, Bool.and_eq_true] at fa
    obtain ⟨i1, i2⟩ := any_den f d fa.2 qs
    refine ⟨by rw [List.all_cons, flat_den fa.1 q, i1]; rfl, ?_⟩
    unfold inV at i2 ⊢
    rw [List.any_cons, List.any_cons, i2, eqF_den f d fa.1 q]
theorem xorF {b : Bool} : (b ^^ false) = b := by cases b <;> rfl
theorem xorT {b : Bool} : (b ^^ true) = !b := by cases b <;> rfl
theorem cmp_ok (o : Cm) (hu : X.A.units + 64 < cLine) (I : Inv X pins σ H s) (rx : RelV x u) (ry : RelV y v) (c : Cn P tb X.K Ex Hd W σ μ H QT XT Q) (dx : DenX P tb X Ex Hd μ H t x) (dy : DenX P tb X Ex Hd μ H t' y) (h : wCmp o t t' μ QT) :
    wpAny (model X.prog X.w) X.A (compareOp (cmP o) u v) (EP X pins σ Q) X.xe s := by
  have hii : ∀ {F : Int → Int → Prop}, (match t, t' with | .int i, .int j => F i j | _, _ => False) → ∃ i j, t = .int i ∧ t' = .int j ∧ F i j := by
    intro F h
    split at h
    · exact ⟨_, _, rfl, rfl, h⟩
    · exact h.elim
  cases o with
  | lt =>
    obtain ⟨i, j, rfl, rfl, h⟩ := hii (F := fun i j => QT (.bl (decide (i < j))) μ) (by cases t <;> cases t' <;> exact h)
    exact op_lt pins s σ H _ _ u v Q I rx ry ⟨i, j, dx, dy, c.here (t := .bl _) rfl h⟩
  | le =>
    obtain ⟨i, j, rfl, rfl, h⟩ := hii (F := fun i j => QT (.bl (decide (i ≤ j))) μ) (by cases t <;> cases t' <;> exact h)
    exact op_le pins s σ H _ _ u v Q I rx ry ⟨i, j, dx, dy, c.here (t := .bl _) rfl h⟩
  | gt =>
    obtain ⟨i, j, rfl, rfl, h⟩ := hii (F := fun i j => QT (.bl (decide (j < i))) μ) (by cases t <;> cases t' <;> exact h)
    exact op_gt pins s σ H _ _ u v Q I rx ry ⟨i, j, dx, dy, c.here (t := .bl _) rfl h⟩
  | ge =>
    obtain ⟨i, j, rfl, rfl, h⟩ := hii (F := fun i j => QT (.bl (decide (j ≤ i))) μ) (by cases t <;> cases t' <;> exact h)
    exact op_ge pins s σ H _ _ u v Q I rx ry ⟨i, j, dx, dy, c.here (t := .bl _) rfl h⟩
  | eq =>
    have h' : wEq false t t' μ QT := by cases t <;> cases t' <;> exact h
    unfold wEq at h'
    split at h'
    · rename_i d e e1 e2
      obtain ⟨s1, s2, h'⟩ := h'
      rw [xorF] at h'
      exact op_eqD hu pins s σ H _ _ u v Q I rx ry ⟨d, e, datM_den c.ok dx e1, datM_den c.ok dy e2, s1, s2, c.here (t := .bl _) rfl h'⟩
    · exact h'.elim
  | ne =>
    have h' : wEq true t t' μ QT := by cases t <;> cases t' <;> exact h
    unfold wEq at h'
    split at h'
    · rename_i d e e1 e2
      obtain ⟨s1, s2, h'⟩ := h'
      rw [xorT] at h'
      exact op_neD hu pins s σ H _ _ u v Q I rx ry ⟨d, e, datM_den c.ok dx e1, datM_den c.ok dy e2, s1, s2, c.here (t := .bl _) rfl h'⟩
    · exact h'.elim
  | is_ =>
    cases t' with
    | non =>
      have h' : QT (.bl (isNon t)) μ := by cases t <;> exact h
      exact op_isN pins s σ H _ _ u v Q I rx ry ⟨dy, c.here (t := .bl (isNon t)) (by rw [isNon_den dx]; rfl) h'⟩
    | _ => cases t <;> exact h.elim
  | isnot =>
    cases t' with
    | non =>
      have h' : QT (.bl (!isNon t)) μ := by cases t <;> exact h
      exact op_notN pins s σ H _ _ u v Q I rx ry ⟨dy, c.here (t := .bl (!isNon t)) (by rw [isNon_den dx]; rfl) h'⟩
    | _ => cases t <;> exact h.elim
  | in_ =>
    have h' : wIn false t t' μ QT := by cases t <;> cases t' <;> exact h
    unfold wIn at h'
    split at h'
    · rename_i b
      split at h'
      · rename_i a
        rw [xorF] at h'
        exact op_in_str pins s σ H _ _ u v Q I rx ry ⟨a, b, dx, dy, c.here (t := .bl _) rfl h'⟩
      · exact h'.elim
    · split at h'
      · rename_i ys e1
        obtain ⟨f, fa, h'⟩ := h'
        rw [xorF] at h'
        obtain ⟨a, vs, rfl, qs, dl⟩ := seqO_den c.ok dy e1
        obtain ⟨i1, i2⟩ := any_den f dx fa dl
        exact op_in_seq pins s σ H _ _ u v Q I rx ry ⟨a, vs, rfl, qs, flat_den f dx, i1, c.here (t := .bl _) (by rw [← i2]; rfl) h'⟩
      · exact h'.elim
  | notin =>
    have h' : wIn true t t' μ QT := by cases t <;> cases t' <;> exact h
    unfold wIn at h'
    split at h'
    · rename_i b
      split at h'
      · rename_i a
        rw [xorT] at h'
        exact op_notin_str pins s σ H _ _ u v Q I rx ry ⟨a, b, dx, dy, c.here (t := .bl _) rfl h'⟩
      · exact h'.elim
    · split at h'
      · rename_i ys e1
        obtain ⟨f, fa, h'⟩ := h'
        rw [xorT] at h'
        obtain ⟨a, vs, rfl, qs, dl⟩ := seqO_den c.ok dy e1
        obtain ⟨i1, i2⟩ := any_den f dx fa dl
        exact op_notIn_seq pins s σ H _ _ u v Q I rx ry ⟨a, vs, rfl, qs, flat_den f dx, i1, c.here (t := .bl _) (by rw [← i2]; rfl) h'⟩
      · exact h'.elim
/-! ### subscripts -/
theorem atI_den {xs : List T} {vs : List V} {i : Int} {t : T} (d : DenL P tb X.K Ex (Plc Hd μ) H xs vs) (h : atI xs i = some t) : ∃ v, atI vs i = some v ∧ DenX P tb X Ex Hd μ H t v := by
  unfold atI at h ⊢
  rw [← d.len]
  cases e : ixN xs.length i with
  | none => rw [e] at h; cases h
  | some j =>
    rw [e] at h
    exact d.get h
theorem atI_map {ns : List Int} {i m : Int} (h : atI ns i = some m) : atI (ns.map V.int) i = some (.int m) := by
  unfold atI at h ⊢
  rw [List.length_map]
  cases e : ixN ns.length i with
  | none => rw [e] at h; cases h
  | some j =>
    rw [e] at h
    have h : ns[j]? = some m := h
    show (ns.map V.int)[j]? = _
    rw [List.getElem?_map, h]; rfl
theorem ScrAt.seq {K : PySem.W.Frag} {Pl : Addr → Prop} {a : Addr} {vs : List V} (h : ScrAt K Pl H a vs) : SqL K H a vs := by
  rcases h with ⟨_, q⟩ | q
  · exact .inl q
  · exact q H
theorem idx_ok (I : Inv X pins σ H s) (rx : RelV x u) (ry : RelV y v) (c : Cn P tb X.K Ex Hd W σ μ H QT XT Q) (dx : DenX P tb X Ex Hd μ H t x) (dy : DenX P tb X Ex Hd μ H t' y) (h : wIdx t t' μ QT) : rIx X.K x y H Q := by
  unfold wIdx at h
  split at h
  · rename_i i
    obtain rfl : y = .int i := dy
    split at h
    · rename_i z
      obtain ⟨hz, cc, hc, h⟩ := h
      exact .inr (.inr ⟨z, i, cc, dx, rfl, hz, hc, c.here (t := .str _) rfl h⟩)
    · rename_i ns
      obtain ⟨m, hm, h⟩ := h
      obtain ⟨a, rfl, q⟩ := dx
      exact .inl ⟨a, _, i, _, rfl, rfl, q.seq, atI_map hm, c.here (t := .int m) rfl h⟩
    · split at h
      · rename_i xs e
        obtain ⟨w, hw, h⟩ := h
        obtain ⟨a, vs, rfl, q, dl⟩ := seqO_den c.ok dx e
        obtain ⟨wv, hv, dw⟩ := atI_den dl hw
        rcases q with q | q
        · exact .inl ⟨a, vs, i, wv, rfl, rfl, q, hv, c.here dw h⟩
        · exact .inr (.inl ⟨a, vs, i, wv, rfl, rfl, q, hv, c.here dw h⟩)
      · exact h.elim
  · exact h.elim
/-- slices: of a text, a tuple, a list -/
def rSlA (K : PySem.W.Frag) : V → Option Int → Option Int → Hp → VK → Prop := fun x lo hi H Q => rSlS x lo hi H Q ∨ (rSlT K x lo hi H Q ∨ rSlL K x lo hi H Q)
theorem sl_any : SlR X (rSlA X.K) := sl_str.or (sl_tup.or sl_list)
theorem slc_ok {mu : Bool} {lo hi : Option Int} (c : Cn P tb X.K Ex Hd W σ μ H QT XT Q) (dx : DenX P tb X Ex Hd μ H t x) (h : wSlc mu t lo hi μ QT) : rSlA X.K x lo hi H Q := by
  unfold wSlc at h
  split at h
  · rename_i z
    obtain ⟨hz, h⟩ := h
    exact .inl ⟨z, dx, hz, c.here (t := .str _) rfl h⟩
  · rename_i xs
    obtain ⟨hn, h⟩ := h
    obtain ⟨a, vs, rfl, q, dl⟩ := dx
    have hq : SqT X.K H a vs := by
      rcases q with ⟨_, q⟩ | q
      · exact .inl q
      · exact q H
    refine .inr (.inl ⟨a, vs, rfl, hq, by rw [← dl.len]; exact hn, fun p hp => c.newT hp (dl.cut lo hi) h⟩)
  · split at h
    · rename_i xs e
      obtain ⟨a, vs, rfl, q, dl⟩ := lstO_den c.ok dx e
      exact .inr (.inr ⟨a, vs, rfl, .of q, fun p hp => c.newL hp (dl.cut lo hi) h⟩)
    · exact h.elim
/-! ### truth -/
theorem isEmpty_den {xs : List T} {vs : List V} (d : DenL P tb X.K Ex (Plc Hd μ) H xs vs) : (!xs.isEmpty) = !vs.isEmpty := by
  cases xs with
  | nil => rw [show vs = [] from d] <;> rfl
  | cons a b => obtain ⟨v, r, rfl, _⟩ := d; rfl
theorem tru_den {b : Bool} (o : Ok P tb X.K Ex Hd μ H) (d : DenX P tb X Ex Hd μ H t x) (h : tru μ t = some b) : TruV X.K x H b := by
  cases t with
  | non => rw [show x = .non from d]; simp only [tru, Option.some.injEq] at h; exact h.symm
  | bl c => rw [show x = .bl c from d]; simp only [tru, Option.some.injEq] at h; exact h.symm
  | int c => rw [show x = .int c from d]; simp only [tru, Option.some.injEq] at h; exact h.symm
  | str z =>
    rw [show x = .str z from d]
    simp only [tru] at h
    split at h
    · rename_i hz
      simp only [Option.some.injEq] at h
      refine ⟨hz, ?_⟩
      rw [← h]
      rw [Bool.eq_iff_iff]
      simp
    · cases h
  | tup xs =>
    simp only [tru, Option.some.injEq] at h
    obtain ⟨a, vs, rfl, q, dl⟩ := seqO_den (xs := xs) o d rfl
    rcases q with q | q
    · exact .inl ⟨vs, q, by rw [← isEmpty_den dl]; exact h.symm⟩
    · exact .inr (.inl ⟨vs, q, by rw [← isEmpty_den dl]; exact h.symm⟩)
  | lst xs =>
    simp only [tru, Option.some.injEq] at h
    obtain ⟨a, vs, rfl, q, dl⟩ := lstO_den (xs := xs) o d rfl
    exact .inl ⟨vs, .of q, by rw [← isEmpty_den dl]; exact h.symm⟩
  | h a =>
    simp only [tru] at h
    split at h
    · rename_i xs e
      simp only [Option.some.injEq] at h
      obtain ⟨a, vs, rfl, q, dl⟩ := lstO_den (xs := xs) o d (by simp only [lstO, e])
      exact .inl ⟨vs, .of q, by rw [← isEmpty_den dl]; exact h.symm⟩
    · cases h
  | _ => simp [tru] at h
end
end Co
set_option Elab.async false
set_option linter.all false
set_option maxRecDepth 100000
set_option maxHeartbeats 1000000
namespace Co
open PySem PySem.Spec PyProof.Rows L2
/-! # Co, part 5: built-in functions and methods, isinstance -/
section
variable {P : Pa} {tb : Tb} {n lev : Nat} {cm : Bool} {N : List Str} {sc : Scope} {Ex : Addr → Nat → Prop} {W : WX} {X : Cx} {Hd : Addr → Prop}
variable {σ : L2.St} {μ μ' : Mu} {H H' : Hp} {QT QT' : Pq} {XT : Xq} {Q Q' : VK} {s : Shared} {pins : List (Addr × Obj)} {x y : V} {u v : Value} {t t' : T}
/-- the name of a built-in, and the value that stands for it -/
def biN : Bi → Str
  | .len => "len" | .abs => "abs" | .int => "int" | .str => "str" | .min1 => "min" | .max1 => "max" | .min2 => "min" | .max2 => "max" | .sum => "sum" | .any => "any" | .all => "all"
  | .list => "list" | .tuple => "tuple" | .gcd => "gcd" | .sorted => "sorted" | .listrng1 => "list" | .listrng2 => "list" | .listrev => "list" | .tuplerev => "tuple"
def biV : Bi → Value
  | .len => .builtin "len" | .abs => .builtin "abs" | .int => .type "int" | .str => .type "str" | .min1 => .builtin "min" | .max1 => .builtin "max" | .min2 => .builtin "min" | .max2 => .builtin "max"
  | .sum => .builtin "sum" | .any => .builtin "any" | .all => .builtin "all" | .list => .type "list" | .tuple => .type "tuple" | .gcd => .builtin "math.gcd" | .sorted => .builtin "sorted"
  | .listrng1 => .type "list" | .listrng2 => .type "list" | .listrev => .type "list" | .tuplerev => .type "tuple"
/-- those that are called with their arguments' values (the others have a form of their own) -/
def biS : Bi → Bool
  | .len => true | .abs => true | .int => true | .min1 => true | .max1 => true | .min2 => true | .max2 => true | .sum => true | .any => true | .all => true
  | .list => true | .tuple => true | .gcd => true
  | _ => false
theorem seq_of_or {a : Addr} {vs : List V} (h : SqL X.K H a vs ∨ SqT X.K H a vs) : SqL X.K H a vs ∨ SqT X.K H a vs := h
theorem bi_ok {mu : Bool} (b : Bi) (hc : X.calm = true) (hb : biS b = true) {ts : List T} {vs : List V} {us : List Value} (I : Inv X pins σ H s) (c : Cn P tb X.K Ex Hd W σ μ H QT XT Q) (d : DenL P tb X.K Ex (Plc Hd μ) H ts vs) (r : Vals vs us) (h : wBi mu b ts μ QT) :
    wpAny (model X.prog X.w) X.A (call (biV b) us) (EP X pins σ Q) X.xe s := by
  cases b with
  | len =>
    cases ts with
    | nil => exact h.elim
    | cons t r1 =>
      cases r1 with
      | cons _ _ => exact h.elim
      | nil =>
        obtain ⟨v, rfl, dv⟩ := d.inv1
        simp only [wBi] at h
        split at h
        · rename_i z
          obtain ⟨hz, h⟩ := h
          exact call_len_str pins s σ H _ us Q I r ⟨z, by rw [show v = .str z from dv], hz, c.here (t := .int _) rfl h⟩
        · rename_i ns
          obtain ⟨a, rfl, q⟩ := dv
          refine call_len_seq pins s σ H _ us Q I r ⟨a, _, rfl, .inl q.seq, ?_⟩
          rw [List.length_map]
          exact c.here (t := .int _) rfl h
        · split at h
          · rename_i xs e
            obtain ⟨a, ws, rfl, q, dl⟩ := seqO_den c.ok dv e
            refine call_len_seq pins s σ H _ us Q I r ⟨a, _, rfl, q, ?_⟩
            rw [← dl.len]
            exact c.here (t := .int _) rfl h
          · exact h.elim
  | abs =>
    cases ts with
    | nil => exact h.elim
    | cons t r1 =>
      cases r1 with
      | cons _ _ => cases t <;> exact h.elim
      | nil =>
        obtain ⟨v, rfl, dv⟩ := d.inv1
        cases t with
        | int i => exact call_abs pins s σ H _ us Q I r ⟨i, by rw [show v = .int i from dv], c.here (t := .int _) rfl h⟩
        | _ => exact h.elim
  | int =>
    cases ts with
    | nil => exact h.elim
    | cons t r1 =>
      cases r1 with
      | cons _ _ => cases t <;> exact h.elim
      | nil =>
        obtain ⟨v, rfl, dv⟩ := d.inv1
        cases t with
        | int i => exact call_int1 pins s σ H _ us Q I r (.inl ⟨i, by rw [show v = .int i from dv], c.here (t := .int _) rfl h⟩)
        | bl i => exact call_int1 pins s σ H _ us Q I r (.inr ⟨i, by rw [show v = .bl i from dv], c.here (t := .int _) rfl h⟩)
        | _ => exact h.elim
  | str => cases hb
  | min2 =>
    cases ts with
    | nil => exact h.elim
    | cons t r1 =>
      cases r1 with
      | nil => cases t <;> exact h.elim
      | cons t2 r2 =>
        cases r2 with
        | cons _ _ => cases t <;> cases t2 <;> exact h.elim
        | nil =>
          obtain ⟨v, w, rfl, dv, dw⟩ := d.inv2
          cases t with
          | int i =>
            cases t2 with
            | int j => exact call_min2 hc pins s σ H _ us Q I r ⟨i, j, by rw [show v = .int i from dv, show w = .int j from dw], c.here (t := .int _) rfl h⟩
            | _ => exact h.elim
          | _ => cases t2 <;> exact h.elim
  | max2 =>
    cases ts with
    | nil => exact h.elim
    | cons t r1 =>
      cases r1 with
      | nil => cases t <;> exact h.elim
      | cons t2 r2 =>
        cases r2 with
        | cons _ _ => cases t <;> cases t2 <;> exact h.elim
        | nil =>
          obtain ⟨v, w, rfl, dv, dw⟩ := d.inv2
          cases t with
          | int i =>
            cases t2 with
            | int j => exact call_max2 hc pins s σ H _ us Q I r ⟨i, j, by rw [show v = .int i from dv, show w = .int j from dw], c.here (t := .int _) rfl h⟩
            | _ => exact h.elim
          | _ => cases t2 <;> exact h.elim
  | gcd =>
    cases ts with
    | nil => exact h.elim
    | cons t r1 =>
      cases r1 with
      | nil => cases t <;> exact h.elim
      | cons t2 r2 =>
        cases r2 with
        | cons _ _ => cases t <;> cases t2 <;> exact h.elim
        | nil =>
          obtain ⟨v, w, rfl, dv, dw⟩ := d.inv2
          cases t with
          | int i =>
            cases t2 with
            | int j => exact cr_gcd pins s σ H _ us Q I r ⟨i, j, by rw [show v = .int i from dv, show w = .int j from dw], c.here (t := .int _) rfl h⟩
            | _ => exact h.elim
          | _ => cases t2 <;> exact h.elim
  | min1 =>
    cases ts with
    | nil => exact h.elim
    | cons t r1 =>
      cases r1 with
      | cons _ _ => exact h.elim
      | nil =>
        obtain ⟨v, rfl, dv⟩ := d.inv1
        simp only [wBi] at h
        split at h
        · rename_i ns e
          obtain ⟨xs, e1, e2⟩ := Option.bind_eq_some_iff.mp e
          obtain ⟨a, ws, rfl, q, dl⟩ := lstO_den c.ok dv e1
          have hv := dl.ints e2
          subst hv
          exact cr_min hc pins s σ H _ us Q I r ⟨a, ns, rfl, .of q, h.1, fun m hm hle => c.here (t := .int m) rfl (h.2 m hm hle)⟩
        · exact h.elim
  | max1 =>
    cases ts with
    | nil => exact h.elim
    | cons t r1 =>
      cases r1 with
      | cons _ _ => exact h.elim
      | nil =>
        obtain ⟨v, rfl, dv⟩ := d.inv1
        simp only [wBi] at h
        split at h
        · rename_i ns e
          obtain ⟨xs, e1, e2⟩ := Option.bind_eq_some_iff.mp e
          obtain ⟨a, ws, rfl, q, dl⟩ := lstO_den c.ok dv e1
          have hv := dl.ints e2
          subst hv
          exact cr_max hc pins s σ H _ us Q I r ⟨a, ns, rfl, .of q, h.1, fun m hm hle => c.here (t := .int m) rfl (h.2 m hm hle)⟩
        · exact h.elim
  | sum =>
    cases ts with
    | nil => exact h.elim
    | cons t r1 =>
      cases r1 with
      | cons _ _ => exact h.elim
      | nil =>
        obtain ⟨v, rfl, dv⟩ := d.inv1
        simp only [wBi] at h
        split at h
        · rename_i ns e
          obtain ⟨xs, e1, e2⟩ := Option.bind_eq_some_iff.mp e
          obtain ⟨a, ws, rfl, q, dl⟩ := lstO_den c.ok dv e1
          have hv := dl.ints e2
          subst hv
          exact cr_sum hc pins s σ H _ us Q I r ⟨a, ns, rfl, .of q, c.here (t := .int _) rfl h⟩
        · exact h.elim
  | any =>
    cases ts with
    | nil => exact h.elim
    | cons t r1 =>
      cases r1 with
      | cons _ _ => exact h.elim
      | nil =>
        obtain ⟨v, rfl, dv⟩ := d.inv1
        simp only [wBi] at h
        split at h
        · rename_i ns e
          obtain ⟨xs, e1, e2⟩ := Option.bind_eq_some_iff.mp e
          obtain ⟨a, ws, rfl, q, dl⟩ := lstO_den c.ok dv e1
          have hv := dl.bls e2
          subst hv
          exact cr_any hc pins s σ H _ us Q I r ⟨a, ns, rfl, .of q, c.here (t := .bl _) rfl h⟩
        · exact h.elim
  | all =>
    cases ts with
    | nil => exact h.elim
    | cons t r1 =>
      cases r1 with
      | cons _ _ => exact h.elim
      | nil =>
        obtain ⟨v, rfl, dv⟩ := d.inv1
        simp only [wBi] at h
        split at h
        · rename_i ns e
          obtain ⟨xs, e1, e2⟩ := Option.bind_eq_some_iff.mp e
          obtain ⟨a, ws, rfl, q, dl⟩ := lstO_den c.ok dv e1
          have hv := dl.bls e2
          subst hv
          exact cr_all hc pins s σ H _ us Q I r ⟨a, ns, rfl, .of q, c.here (t := .bl _) rfl h⟩
        · exact h.elim
  | list =>
    cases ts with
    | nil => exact h.elim
    | cons t r1 =>
      cases r1 with
      | cons _ _ => exact h.elim
      | nil =>
        obtain ⟨v, rfl, dv⟩ := d.inv1
        simp only [wBi] at h
        split at h
        · rename_i xs e
          obtain ⟨a, ws, rfl, q, dl⟩ := seqO_den c.ok dv e
          exact call_list_of pins s σ H _ us Q I r ⟨a, ws, rfl, q, fun l hl => c.newL hl dl h⟩
        · exact h.elim
  | tuple =>
    cases ts with
    | nil => exact h.elim
    | cons t r1 =>
      cases r1 with
      | cons _ _ => exact h.elim
      | nil =>
        obtain ⟨v, rfl, dv⟩ := d.inv1
        simp only [wBi] at h
        split at h
        · rename_i xs e
          cases t with
          | tup ys =>
            obtain ⟨a, ws, rfl, q, dl⟩ := seqO_den c.ok dv e
            simp only [seqO, Option.some.injEq] at e; subst e
            obtain ⟨a', ws', ea, q', dl'⟩ := dv
            cases ea
            have hq : SqT X.K H a ws' := by
              rcases q' with ⟨_, q'⟩ | q'
              · exact .inl q'
              · exact q' H
            exact call_tuple_of pins s σ H _ us Q I r ⟨a, ws', rfl, .inr ⟨hq, c.here (t := .tup _) ⟨a, ws', rfl, q', dl'⟩ h⟩⟩
          | lst ys =>
            obtain ⟨a, ws, rfl, q, dl⟩ := lstO_den (xs := xs) c.ok dv e
            exact call_tuple_of pins s σ H _ us Q I r ⟨a, ws, rfl, .inl ⟨.of q, fun l hl => c.newT hl dl h⟩⟩
          | h b =>
            obtain ⟨a, ws, rfl, q, dl⟩ := lstO_den (xs := xs) c.ok dv e
            exact call_tuple_of pins s σ H _ us Q I r ⟨a, ws, rfl, .inl ⟨.of q, fun l hl => c.newT hl dl h⟩⟩
          | _ => simp [seqO] at e
        · exact h.elim
  | sorted => cases hb
  | listrng1 => cases hb
  | listrng2 => cases hb
  | listrev => cases hb
  | tuplerev => cases hb
/-! ### methods of built-in types -/
def bmN : Bm → Str
  | .append => "append" | .pop0 => "pop" | .pop1 => "pop" | .index => "index" | .insert => "insert" | .extend => "extend" | .isdigit => "isdigit" | .split => "split" | .join => "join" | .bitlen => "bit_length"
def bmI : Bm → String
  | .append => "list.append" | .pop0 => "list.pop" | .pop1 => "list.pop" | .index => "list.index" | .insert => "list.insert" | .extend => "list.extend" | .isdigit => "str.isdigit" | .split => "str.split" | .join => "str.join" | .bitlen => "int.bit_length"
/-- those of lists that are called by their values -/
def bmL : Bm → Bool
  | .append => true | .pop0 => true | .pop1 => true
  | _ => false
theorem rcv_list {m : Bm} (hm : bmL m = true) (o : Ok P tb X.K Ex Hd μ H) (d : DenX P tb X Ex Hd μ H t x) (h : bmRcv m t μ) : tyV X.K "list" x H := by
  have h' : (lstO μ t).isSome = true := by cases m <;> first | exact h | cases hm
  obtain ⟨xs, e⟩ := Option.isSome_iff_exists.mp h'
  obtain ⟨a, vs, rfl, q, _⟩ := lstO_den o d e
  exact .inl ⟨rfl, vs, .of q⟩
theorem handle_of {F : List T → Prop} {a : Addr} (h : match μ a with | some (.lst xs) => F xs | _ => False) : ∃ xs, μ a = some (.lst xs) ∧ F xs := by
  split at h
  · rename_i xs e; exact ⟨xs, e, h⟩
  · exact h.elim
theorem bm_ok (m : Bm) (hm : bmL m = true) {ts : List T} {vs : List V} {us : List Value} (I : Inv X pins σ H s) (rx : RelV x u) (dx : DenX P tb X Ex Hd μ H t x) (c : Cn P tb X.K Ex Hd W σ μ H QT XT Q) (d : DenL P tb X.K Ex (Plc Hd μ) H ts vs) (r : Vals vs us) (h : wBm m t ts μ QT) :
    wpAny (model X.prog X.w) X.A (call (.builtin (bmI m)) (u :: us)) (EP X pins σ Q) X.xe s := by
  cases m with
  | append =>
    cases t with
    | h a =>
      obtain rfl : x = .ref a := dx
      cases ts with
      | nil => exact h.elim
      | cons z r1 =>
        cases r1 with
        | cons _ _ => exact h.elim
        | nil =>
          obtain ⟨v, rfl, dv⟩ := d.inv1
          obtain ⟨xs, e, hl, h⟩ := handle_of h
          obtain ⟨nh, ws, q, dl⟩ := c.ok.own a _ e
          refine mt_append pins s σ H _ _ u us Q I rx r ⟨a, ws, v, rfl, rfl, q, by rw [← dl.len, sizeLine_eq]; exact hl, ?_⟩
          exact c.nx .non (μ.set a (.lst (xs ++ [z]))) .non _ (ext_put (.inr ⟨_, e⟩)) (c.ok.put (m := .lst (xs ++ [z])) (.inr ⟨_, e⟩) ⟨_, upd_same, (dl.append (.one dv)).ext (ext_put (.inr ⟨_, e⟩))⟩) rfl h
    | _ => cases ts <;> first | exact h.elim | (rename_i z r1; cases r1 <;> exact h.elim)
  | pop0 =>
    cases t with
    | h a =>
      obtain rfl : x = .ref a := dx
      cases ts with
      | cons _ _ => exact h.elim
      | nil =>
        obtain rfl : vs = [] := d
        obtain ⟨xs, e, z, hz, h⟩ := handle_of h
        obtain ⟨nh, ws, q, dl⟩ := c.ok.own a _ e
        obtain ⟨w, hw, dw⟩ := dl.get hz
        refine mt_pop pins s σ H _ _ u us Q I rx r ⟨a, ws, w, rfl, rfl, q, by rw [← dl.len]; exact hw, ?_⟩
        exact c.nx z (μ.set a (.lst xs.dropLast)) w _ (ext_put (.inr ⟨_, e⟩)) (c.ok.put (m := .lst xs.dropLast) (.inr ⟨_, e⟩) ⟨_, upd_same, dl.dropLast.ext (ext_put (.inr ⟨_, e⟩))⟩) (dw.ext (ext_put (.inr ⟨_, e⟩))) h
    | _ => cases ts <;> exact h.elim
  | pop1 =>
    cases t with
    | h a =>
      obtain rfl : x = .ref a := dx
      cases ts with
      | nil => exact h.elim
      | cons z0 r1 =>
        cases r1 with
        | cons _ _ => cases z0 <;> exact h.elim
        | nil =>
          obtain ⟨v, rfl, dv⟩ := d.inv1
          cases z0 with
          | int i =>
            obtain rfl : v = .int i := dv
            obtain ⟨xs, e, h1, h2, k, z, hk, hz, h⟩ := handle_of h
            obtain ⟨nh, ws, q, dl⟩ := c.ok.own a _ e
            obtain ⟨w, hw, dw⟩ := dl.get hz
            refine mt_popAt pins s σ H _ _ u us Q I rx r ⟨a, ws, i, k, w, rfl, rfl, q, h1, h2, by rw [← dl.len]; exact hk, hw, ?_⟩
            exact c.nx z (μ.set a (.lst (xs.eraseIdx k))) w _ (ext_put (.inr ⟨_, e⟩)) (c.ok.put (m := .lst (xs.eraseIdx k)) (.inr ⟨_, e⟩) ⟨_, upd_same, (dl.erase k).ext (ext_put (.inr ⟨_, e⟩))⟩) (dw.ext (ext_put (.inr ⟨_, e⟩))) h
          | _ => exact h.elim
    | _ => cases ts with
      | nil => exact h.elim
      | cons z0 r1 => cases r1 <;> cases z0 <;> exact h.elim
  | _ => cases hm
/-! ### isinstance of a value, one type -/
def tyU (tb : Tb) : Ty → Value
  | .tint => .type "int" | .tbool => .type "bool" | .tlist => .type "list" | .ttuple => .type "tuple" | .tstr => .type "str" | .cls c => .ref (tb.ca c) | .exc x => .ref (tb.xa x) | .tve => .type "ValueError"
def tyW (tb : Tb) : Ty → V
  | .tint => .ty "int" | .tbool => .ty "bool" | .tlist => .ty "list" | .ttuple => .ty "tuple" | .tstr => .ty "str" | .cls c => .ref (tb.ca c) | .exc x => .ref (tb.xa x) | .tve => .ty "ValueError"
/-- a value's own type by its tree: none where it isn't known -/
def tyT (tb : Tb) (μ : Mu) : T → Option Value
  | .non => some (.type "NoneType") | .bl _ => some (.type "bool") | .int _ => some (.type "int") | .str _ => some (.type "str") | .tup _ => some (.type "tuple") | .lst _ => some (.type "list")
  | .ins c _ => some (.ref (tb.ca c))
  | .h a => (match μ a with
    | some (.lst _) => some (.type "list")
    | some (.ins c _) => some (.ref (tb.ca c))
    | none => none)
  | _ => none
theorem tyKn_ty (h : tyKn μ t = true) : ∃ ty, tyT tb μ t = some ty := by
  cases t with
  | h a =>
    simp only [tyKn] at h
    obtain ⟨m, e⟩ := Option.isSome_iff_exists.mp h
    cases m with
    | lst xs => exact ⟨_, by simp only [tyT, e]; rfl⟩
    | ins c fs => exact ⟨_, by simp only [tyT, e]; rfl⟩
  | scr _ => cases h
  | exc _ => cases h
  | _ => exact ⟨_, rfl⟩
theorem tyT_den (F : Facts P tb X.K X.mg) (o : Ok P tb X.K Ex Hd μ H) (d : DenX P tb X Ex Hd μ H t x) {ty : Value} (h : tyT tb μ t = some ty) : TyX X.K H x ty := by
  have inst : ∀ {a dx : Addr} {c : Nat} {fs : List (Str × V)}, H a = some (.ins (tb.ca c) dx fs) → c < P.cn.length → TyX X.K H (.ref a) (.ref (tb.ca c)) := fun {a dx c fs} e hc => by
    obtain ⟨k1, k2, k3, k4⟩ := F.clk c hc
    exact .base (.ins e (F.cls c hc) k1 k2 k3 k4)
  cases t with
  | non => simp only [tyT, Option.some.injEq] at h; rw [← h, show x = .non from d]; exact .base .non
  | bl b => simp only [tyT, Option.some.injEq] at h; rw [← h, show x = .bl b from d]; exact .base (.bl b)
  | int b => simp only [tyT, Option.some.injEq] at h; rw [← h, show x = .int b from d]; exact .base (.int b)
  | str b => simp only [tyT, Option.some.injEq] at h; rw [← h, show x = .str b from d]; exact .base (.str b)
  | tup b =>
    simp only [tyT, Option.some.injEq] at h; rw [← h]
    obtain ⟨a, vs, rfl, q, _⟩ := d
    rcases q with ⟨_, q | ⟨o, q⟩⟩ | q
    · exact .base (.tup q)
    · exact .fTuple q
    · rcases q (fun _ => none) with (q | ⟨_, q⟩) | ⟨o, its, n, q, c, _⟩
      · cases q
      · cases q
      · exact .kTuple q c
  | lst b =>
    simp only [tyT, Option.some.injEq] at h; rw [← h]
    obtain ⟨a, vs, rfl, _, q, _⟩ := d
    exact .base (.lst q)
  | ins c fs =>
    simp only [tyT, Option.some.injEq] at h; rw [← h]
    obtain ⟨a, dx, vs, rfl, _, q, k, _⟩ := d
    exact inst q k.1
  | h a =>
    simp only [tyT] at h
    rw [show x = .ref a from d]
    split at h
    · rename_i xs e
      simp only [Option.some.injEq] at h; rw [← h]
      obtain ⟨_, vs, q, _⟩ := o.own a _ e
      exact .base (.lst q)
    · rename_i c fs e
      simp only [Option.some.injEq] at h; rw [← h]
      obtain ⟨_, dx, vs, q, k, _⟩ := o.own a _ e
      exact inst q k.1
    · cases h
  | _ => simp [tyT] at h
/-- no error's class is asked -/
def tyOk (P : Pa) : Ty → Bool
  | .exc _ => false
  | .tve => false
  | .cls c => decide (c < P.cn.length)
  | _ => true
theorem kit_BB {a b : String} {r : Bool} (h : kitB a b = some r) {K : PySem.W.Frag} : PySem.W.kitOne K (.type a) (.type b) = some r := kit_ty h
theorem isi_ok (g : Facts P tb X.K X.mg) {c0 : Ty} (hc : tyOk P c0 = true) (o : Ok P tb X.K Ex Hd μ H) (d : DenX P tb X Ex Hd μ H t x) {ty : Value} (h : tyT tb μ t = some ty) (hcl : ∀ c fs, insO μ t = some (c, fs) → c < P.cn.length) : PySem.W.kitOne X.K ty (tyU tb c0) = some (isTy P μ t c0) := by
  have prim : ∀ (nm : String), nm ∈ (["int", "bool", "list", "tuple", "str", "NoneType"] : List String) → (∀ c, c0 = .cls c → isTy P μ t c0 = false) →
      (c0 = .tint → kitB nm "int" = some (isTy P μ t c0)) → (c0 = .tbool → kitB nm "bool" = some (isTy P μ t c0)) → (c0 = .tlist → kitB nm "list" = some (isTy P μ t c0)) → (c0 = .ttuple → kitB nm "tuple" = some (isTy P μ t c0)) →
      (c0 = .tstr → kitB nm "str" = some (isTy P μ t c0)) → PySem.W.kitOne X.K (.type nm) (tyU tb c0) = some (isTy P μ t c0) := by
    intro nm hnm hcls h1 h2 h3 h4 h5
    cases c0 with
    | tint => exact kit_ty (h1 rfl)
    | tbool => exact kit_ty (h2 rfl)
    | tlist => exact kit_ty (h3 rfl)
    | ttuple => exact kit_ty (h4 rfl)
    | tstr => exact kit_ty (h5 rfl)
    | cls c => rw [hcls c rfl]; exact g.kitC c nm (of_decide_eq_true hc) hnm
    | exc _ => cases hc
    | tve => cases hc
  have own : ∀ {c : Nat} {fs : List (Nat × T)}, insO μ t = some (c, fs) → (isTy P μ t .tint = false ∧ isTy P μ t .tbool = false ∧ isTy P μ t .tlist = false ∧ isTy P μ t .ttuple = false ∧ isTy P μ t .tstr = false) →
      PySem.W.kitOne X.K (.ref (tb.ca c)) (tyU tb c0) = some (isTy P μ t c0) := by
    intro c fs e hf
    obtain ⟨f1, f2, f3, f4, f5⟩ := hf
    have hcn := hcl c fs e
    cases c0 with
    | tint => rw [f1]; exact g.kitB c "int" hcn (by simp)
    | tbool => rw [f2]; exact g.kitB c "bool" hcn (by simp)
    | tlist => rw [f3]; exact g.kitB c "list" hcn (by simp)
    | ttuple => rw [f4]; exact g.kitB c "tuple" hcn (by simp)
    | tstr => rw [f5]; exact g.kitB c "str" hcn (by simp)
    | cls c' =>
      simp only [isTy, e]
      exact g.kit c c' hcn (of_decide_eq_true hc)
    | exc _ => cases hc
    | tve => cases hc
  cases t with
  | non =>
    simp only [tyT, Option.some.injEq] at h; rw [← h]
    exact prim "NoneType" (by simp) (fun c e => by subst e; rfl) (fun e => by subst e; show _ = some false; decide +kernel) (fun e => by subst e; show _ = some false; decide +kernel) (fun e => by subst e; show _ = some false; decide +kernel) (fun e => by subst e; show _ = some false; decide +kernel) (fun e => by subst e; show _ = some false; decide +kernel)
  | bl b =>
    simp only [tyT, Option.some.injEq] at h; rw [← h]
    exact prim "bool" (by simp) (fun c e => by subst e; rfl) (fun e => by subst e; show _ = some true; decide +kernel) (fun e => by subst e; show _ = some true; decide +kernel) (fun e => by subst e; show _ = some false; decide +kernel) (fun e => by subst e; show _ = some false; decide +kernel) (fun e => by subst e; show _ = some false; decide +kernel)
  | int b =>
    simp only [tyT, Option.some.injEq] at h; rw [← h]
    exact prim "int" (by simp) (fun c e => by subst e; rfl) (fun e => by subst e; show _ = some true; decide +kernel) (fun e => by subst e; show _ = some false; decide +kernel) (fun e => by subst e; show _ = some false; decide +kernel) (fun e => by subst e; show _ = some false; decide +kernel) (fun e => by subst e; show _ = some false; decide +kernel)
  | str b =>
    simp only [tyT, Option.some.injEq] at h; rw [← h]
    exact prim "str" (by simp) (fun c e => by subst e; rfl) (fun e => by subst e; show _ = some false; decide +kernel) (fun e => by subst e; show _ = some false; decide +kernel) (fun e => by subst e; show _ = some false; decide +kernel) (fun e => by subst e; show _ = some false; decide +kernel) (fun e => by subst e; show _ = some true; decide +kernel)
  | tup b =>
    simp only [tyT, Option.some.injEq] at h; rw [← h]
    exact prim "tuple" (by simp) (fun c e => by subst e; rfl) (fun e => by subst e; show _ = some false; decide +kernel) (fun e => by subst e; show _ = some false; decide +kernel) (fun e => by subst e; show _ = some false; decide +kernel) (fun e => by subst e; show _ = some true; decide +kernel) (fun e => by subst e; show _ = some false; decide +kernel)
  | lst b =>
    simp only [tyT, Option.some.injEq] at h; rw [← h]
    exact prim "list" (by simp) (fun c e => by subst e; rfl) (fun e => by subst e; show _ = some false; decide +kernel) (fun e => by subst e; show _ = some false; decide +kernel) (fun e => by subst e; show _ = some true; decide +kernel) (fun e => by subst e; show _ = some false; decide +kernel) (fun e => by subst e; show _ = some false; decide +kernel)
  | ins c fs =>
    simp only [tyT, Option.some.injEq] at h; rw [← h]
    exact own (fs := fs) rfl ⟨rfl, rfl, rfl, rfl, rfl⟩
  | h a =>
    simp only [tyT] at h
    split at h
    · rename_i xs e
      simp only [Option.some.injEq] at h; rw [← h]
      have fi : insO μ (.h a) = none := by simp only [insO, e]
      exact prim "list" (by simp) (fun c e' => by subst e'; simp only [isTy, fi]) (fun e' => by subst e'; show _ = some false; decide +kernel) (fun e' => by subst e'; show _ = some false; decide +kernel) (fun e' => by subst e'; simp only [isTy, e]; decide +kernel) (fun e' => by subst e'; show _ = some false; decide +kernel) (fun e' => by subst e'; show _ = some false; decide +kernel)
    · rename_i c fs e
      simp only [Option.some.injEq] at h; rw [← h]
      exact own (fs := fs) (by simp only [insO, e]) ⟨rfl, rfl, by simp only [isTy, e], rfl, rfl⟩
    · cases h
  | _ => simp [tyT] at h
end
end Co
set_option Elab.async false
set_option linter.all false
set_option maxRecDepth 100000
set_option maxHeartbeats 1000000
namespace Co
open PySem PySem.Spec PyProof.Rows L2
/-! # Co, part 6: is the body the text (a Bool), and what the text does then -/
def visB (sc : Scope) (x : Str) : Bool := match sc.names.lookup x with
  | some .local => true
  | some .cell => true
  | some .free => true
  | _ => false
def locB (sc : Scope) (x : Str) : Bool := match sc.names.lookup x with
  | some .local => true
  | some .cell => true
  | _ => false
def gloB (sc : Scope) (x : Str) : Bool := match sc.names.lookup x with
  | some .globalImplicit => true
  | _ => false
def dbgB (x : Str) : Bool := !(x == ("__debug__" : Str)) && (!(x == ("__classdict__" : Str)) && !(x == ("__name__" : Str)))
def cstB : T → Const → Bool
  | .non, .none => true
  | .bl b, .bool c => b == c
  | .int i, .int j => decide (i = j)
  | .str x, .str y => decide (x = y)
  | _, _ => false
def notStar : Expr → Bool
  | .Starred _ _ => false
  | _ => true
def notSup : Expr → Bool
  | .Call (.Name _ _) [] [] _ => false
  | _ => true
def notSet : Expr → Bool
  | .Set _ _ _ => false
  | _ => true
def notSlice : Expr → Bool
  | .Slice _ _ _ _ => false
  | _ => true
/-- tested by its value's truth -/
def plainT : Expr → Bool
  | .UnaryOp .Not _ _ => false
  | .BoolOp _ _ _ => false
  | .IfExp _ _ _ _ => false
  | .Compare _ _ _ _ => false
  | _ => true
def isNop : E → Bool
  | .nop => true
  | _ => false
def esLen : Es → Nat
  | .nil => 0
  | .cons _ r => esLen r + 1
def fnOkB (P : Pa) (lv : Nat → Nat) (n lev j k : Nat) : Bool := decide (j < n) && (decide (lv j ≤ lev) && (decide (P.np j - k ≤ (P.df j).length) && decide (k ≤ P.np j)))
def dynB (P : Pa) (lv : Nat → Nat) (n lev m k : Nat) : Bool := P.mtl.all fun q => !(q.2.1 == m) || fnOkB P lv n lev q.2.2 k
def chnB : Cm → Bool
  | .lt => true
  | .le => true
  | .gt => true
  | .ge => true
  | _ => false
def tyN (P : Pa) : Ty → Str
  | .tint => "int"
  | .tbool => "bool"
  | .tlist => "list"
  | .ttuple => "tuple"
  | .tstr => "str"
  | .cls c => P.cn.getD c ""
  | .exc x => P.xn.getD x ""
  | .tve => "ValueError"
def tyB (P : Pa) (sc : Scope) (c : Ty) : Expr → Bool
  | .Name x _ => decide (x = tyN P c) && (gloB sc x && dbgB x)
  | _ => false
def mtTg (N : List Str) (sc : Scope) : Tg → Expr → Bool
  | .nm i, .Name x _ => decide (N[i]? = some x) && locB sc x
  | .tp is, .Tuple es _ _ => go is es
  | _, _ => false
where
  go : List Nat → List Expr → Bool
  | [], [] => true
  | i :: is, .Name x _ :: es => decide (N[i]? = some x) && (locB sc x && go is es)
  | _, _ => false
/-- the slots that a comprehension's target takes are its own -/
def tgOwn : Tg → List Nat → Bool
  | .nm i, own => own.contains i
  | .tp is, own => is.all own.contains
/-- arguments or none -/
def bmA : Bm → List Expr → Bool
  | .pop0, [] => true
  | .pop0, _ :: _ => false
  | _, [] => false
  | _, _ :: _ => true
def ownP (N : List Str) (own : List Nat) : List (Str × Nat) := own.map fun i => (N.getD i "", i)
mutual
def mtE (P : Pa) (lv : Nat → Nat) (n lev : Nat) (N : List Str) (cm : Bool) : Scope → E → Expr → Bool
  | sc, .var i, .Name x _ => decide (N[i]? = some x) && (visB sc x && dbgB x)
  | _, .cst t, .Constant c _ _ => cstB t c
  | sc, .glb k, .Name x _ => (match P.gl[k]? with
    | some (y, _) => decide (y = x)
    | none => false) && (gloB sc x && dbgB x)
  | sc, .bin o a b, .BinOp l op r _ => decide (opP o = op) && (mtE P lv n lev N cm sc a l && mtE P lv n lev N cm sc b r)
  | sc, .obin m a b, .BinOp l op r _ => cm && (decide (nmA P m = dunder op.info.2) && (decide (m < P.at_.length) && (dynB P lv n lev m 2 && (mtE P lv n lev N cm sc a l && mtE P lv n lev N cm sc b r))))
  | sc, .cat _ a b, .BinOp l op r _ => decide (op = .Add) && (mtE P lv n lev N cm sc a l && mtE P lv n lev N cm sc b r)
  | sc, .rep _ a b, .BinOp l op r _ => decide (op = .Mult) && (mtE P lv n lev N cm sc a l && mtE P lv n lev N cm sc b r)
  | sc, .neg a, .UnaryOp op x _ => decide (op = .USub) && mtE P lv n lev N cm sc a x
  | sc, .ong m a, .UnaryOp op x _ => cm && (decide (op = .USub) && (decide (nmA P m = "__neg__") && (decide (m < P.at_.length) && (dynB P lv n lev m 1 && mtE P lv n lev N cm sc a x))))
  | sc, .not a, .UnaryOp op x _ => decide (op = .Not) && (testB a && mtE P lv n lev N cm sc a x)
  | sc, .cmp o a b, .Compare l [op] [r] _ => decide (cmP o = op) && (notSet r && (mtE P lv n lev N cm sc a l && mtE P lv n lev N cm sc b r))
  | sc, .oeq ng m a b, .Compare l [op] [r] _ => cm && (!ng && (decide (op = .Eq) && (decide (nmA P m = "__eq__") && (decide (m < P.at_.length) && (dynB P lv n lev m 2 && (notSet r && (mtE P lv n lev N cm sc a l && mtE P lv n lev N cm sc b r)))))))
  | sc, .chn o o' a b c, .Compare l [op, op'] [r, r'] _ => chnB o && (chnB o' && (decide (cmP o = op) && (decide (cmP o' = op') && (notSet r' && (mtE P lv n lev N cm sc a l && (mtE P lv n lev N cm sc b r && mtE P lv n lev N cm sc c r'))))))
  | sc, .and es, .BoolOp op xs _ => decide (op = .And) && mtBs P lv n lev N cm sc es xs
  | sc, .or es, .BoolOp op xs _ => decide (op = .Or) && mtBs P lv n lev N cm sc es xs
  | sc, .ite c a b, .IfExp t x y _ => testB c && (mtE P lv n lev N cm sc c t && (mtE P lv n lev N cm sc a x && mtE P lv n lev N cm sc b y))
  | sc, .tup es, .Tuple xs _ _ => mtEs P lv n lev N cm sc es xs
  | sc, .lst _ es, .List xs _ => mtEs P lv n lev N cm sc es xs
  | sc, .fld a f, .Attribute x nm _ => decide (nmA P f = nm) && (decide (f < P.at_.length) && (notSup x && mtE P lv n lev N cm sc a x))
  | sc, .idx a i, .Subscript x y _ => notSlice y && (mtE P lv n lev N cm sc a x && mtE P lv n lev N cm sc i y)
  | sc, .slc _ a lo hi, .Subscript x (.Slice l h none _) _ => mtE P lv n lev N cm sc a x && ((match l with
      | none => isNop lo
      | some e => mtE P lv n lev N cm sc lo e) && (match h with
      | none => isNop hi
      | some e => mtE P lv n lev N cm sc hi e))
  | sc, .call j es, .Call (.Name x _) xs [] _ => cm && (fnOkB P lv n lev j (esLen es) && (decide (P.fn[j]? = some x) && (!(x == ("" : Str)) && (gloB sc x && (dbgB x && mtEs P lv n lev N cm sc es xs)))))
  | sc, .mk c j _ es, .Call (.Name x _) xs [] _ => cm && (fnOkB P lv n lev j (esLen es + 1) && (decide (lv j + 1 ≤ lev) && (decide (P.cn[c]? = some x) && (decide (P.mt c initId = some j) && (gloB sc x && (dbgB x && mtEs P lv n lev N cm sc es xs))))))
  | sc, .met a m es, .Call (.Attribute x nm ap) xs [] p => cm && (decide (nmA P m = nm) && (decide (m < P.at_.length) && (notSup x && ((ap.endLine == p.line) && (decide (xs.length < 29) && (dynB P lv n lev m (esLen es + 1) && (mtE P lv n lev N cm sc a x && mtEs P lv n lev N cm sc es xs)))))))
  | sc, .bi _ b es, .Call (.Name x _) xs [] _ => cm && (!xs.isEmpty && (biS b && (decide (x = biN b) && (gloB sc x && ((match b with
      | .gcd => P.gcd
      | _ => true) && mtEs P lv n lev N cm sc es xs)))))
  | sc, .bm a m es, .Call (.Attribute x nm ap) xs [] p => bmL m && (bmA m xs && (decide (nm = bmN m) && (notSup x && ((ap.endLine == p.line) && (decide (xs.length < 29) && (mtE P lv n lev N cm sc a x && mtEs P lv n lev N cm sc es xs))))))
  | sc, .lc _ el g it cs own, .ListComp ex [⟨tg, ie, ifs, k⟩] scope _ => cm && (decide (k = 0) && (blkC N sc scope (ownP N own) && (tgOwn g own && (mtTg N scope g tg && (notSet ie && (mtI P lv n lev N cm sc it tg ie && (mtTs P lv n lev N cm (relS scope sc) cs ifs && mtE P lv n lev N cm (relS scope sc) el ex)))))))
  | sc, .frz a, ex => mtE P lv n lev N cm sc a ex
  | sc, .isi a c, .Call (.Name x _) [e, ce] [] _ => cm && (tyOk P c && (decide (x = "isinstance") && (gloB sc x && (tyB P sc c ce && (notStar e && mtE P lv n lev N cm sc a e)))))
  | _, _, _ => false
def mtEs (P : Pa) (lv : Nat → Nat) (n lev : Nat) (N : List Str) (cm : Bool) : Scope → Es → List Expr → Bool
  | _, .nil, [] => true
  | sc, .cons e r, x :: xs => notStar x && (mtE P lv n lev N cm sc e x && mtEs P lv n lev N cm sc r xs)
  | _, _, _ => false
/-- may it stand as a test -/
def testB : E → Bool
  | .ite _ _ _ => false
  | .and es => testBs es
  | .or es => testBs es
  | .frz a => false
  | _ => true
def testBs : Es → Bool
  | .nil => true
  | .cons e r => testB e && testBs r
def mtBs (P : Pa) (lv : Nat → Nat) (n lev : Nat) (N : List Str) (cm : Bool) : Scope → Es → List Expr → Bool
  | sc, .cons e .nil, [x] => mtE P lv n lev N cm sc e x
  | sc, .cons e (.cons e2 r), x :: y :: xs => mtE P lv n lev N cm sc e x && mtBs P lv n lev N cm sc (.cons e2 r) (y :: xs)
  | _, _, _ => false
def mtTs (P : Pa) (lv : Nat → Nat) (n lev : Nat) (N : List Str) (cm : Bool) : Scope → Es → List Expr → Bool
  | _, .nil, [] => true
  | sc, .cons e r, x :: xs => testB e && (mtE P lv n lev N cm sc e x && mtTs P lv n lev N cm sc r xs)
  | _, _, _ => false
def mtI (P : Pa) (lv : Nat → Nat) (n lev : Nat) (N : List Str) (cm : Bool) : Scope → It → Expr → Expr → Bool
  | sc, .ex e, _, x => mtE P lv n lev N cm sc e x
  | sc, .rng1 a, _, .Call (.Name x _) [e] [] _ => decide (x = "range") && (gloB sc x && (notStar e && mtE P lv n lev N cm sc a e))
  | sc, .rng2 a b, _, .Call (.Name x _) [e, f] [] _ => decide (x = "range") && (gloB sc x && (notStar e && (notStar f && (mtE P lv n lev N cm sc a e && mtE P lv n lev N cm sc b f))))
  | sc, .enu a, .Tuple _ _ _, .Call (.Name x _) [e] [] _ => decide (x = "enumerate") && (gloB sc x && (notStar e && mtE P lv n lev N cm sc a e))
  | sc, .zip a b, .Tuple _ _ _, .Call (.Name x _) [e, f] [] _ => decide (x = "zip") && (gloB sc x && (notStar e && (notStar f && (mtE P lv n lev N cm sc a e && mtE P lv n lev N cm sc b f))))
  | sc, .rev a, _, .Call (.Name x _) [e] [] _ => decide (x = "reversed") && (gloB sc x && (notStar e && mtE P lv n lev N cm sc a e))
  | _, _, _, _ => false
end
end Co
set_option Elab.async false
set_option linter.all false
set_option maxRecDepth 100000
set_option maxHeartbeats 1000000
namespace Co
open PySem PySem.Spec PyProof.Rows L2
/-! # Co, part 7: readings over the layer -/
theorem band {a b : Bool} (h : (a && b) = true) : a = true ∧ b = true := Bool.and_eq_true_iff.mp h
/-- the slots -/
structure SD (P : Pa) (tb : Tb) (K : PySem.W.Frag) (Ex : Addr → Nat → Prop) (Pl : Addr → Prop) (H : Hp) (σT : Sg) (σ : L2.St) : Prop where
  len : σT.length = σ.length
  at_ : ∀ i t, getS σT i = some t → ∃ v, σ[i]? = some (some v) ∧ Den P tb K Ex Pl H t v
section
variable {P : Pa} {tb : Tb} {n lev : Nat} {cm : Bool} {N : List Str} {sc : Scope} {Ex : Addr → Nat → Prop} {W : WX} {X : Cx} {Hd : Addr → Prop}
variable {σ : L2.St} {σT : Sg} {μ μ' μ1 : Mu} {H H' H1 : Hp} {QT QT' : Pq} {XT : Xq} {Q Q' : VK} {s : Shared} {pins : List (Addr × Obj)} {x y : V} {u v : Value} {t t' : T} {K : PySem.W.Frag} {Pl Pl' : Addr → Prop}
theorem SD.ext (sd : SD P tb K Ex (Plc Hd μ) H σT σ) (x : Co.Ext μ H μ' H') : SD P tb K Ex (Plc Hd μ') H' σT σ :=
  ⟨sd.len, fun i t e => let ⟨v, h1, h2⟩ := sd.at_ i t e; ⟨v, h1, h2.ext x⟩⟩
theorem getS_set : ∀ {σ : Sg} {i j : Nat} {o : Option T} {t : T}, getS (setS σ i o) j = some t → (j = i ∧ o = some t ∧ i < σ.length) ∨ (j ≠ i ∧ getS σ j = some t)
  | [], _, _, _, _, h => by simp [setS, getS] at h
  | a :: r, 0, 0, o, t, h => .inl ⟨rfl, h, Nat.zero_lt_succ _⟩
  | a :: r, 0, j + 1, o, t, h => .inr ⟨Nat.succ_ne_zero _, h⟩
  | a :: r, i + 1, 0, o, t, h => .inr ⟨(Nat.succ_ne_zero _).symm, h⟩
  | a :: r, i + 1, j + 1, o, t, h => by
    rcases getS_set (σ := r) (i := i) (j := j) h with ⟨e, h1, h2⟩ | ⟨e, h1⟩
    · exact .inl ⟨by rw [e], h1, Nat.succ_lt_succ h2⟩
    · exact .inr ⟨fun z => e (Nat.succ.inj z), h1⟩
theorem setS_len : ∀ {σ : Sg} {i : Nat} {o : Option T}, (setS σ i o).length = σ.length
  | [], _, _ => rfl
  | _ :: _, 0, _ => rfl
  | _ :: r, i + 1, o => congrArg Nat.succ (setS_len (σ := r) (i := i) (o := o))
theorem SD.set (sd : SD P tb K Ex Pl H σT σ) {i : Nat} {t : T} {v : V} (d : Den P tb K Ex Pl H t v) : SD P tb K Ex Pl H (setS σT i (some t)) (σ.set i (some v)) := by
  refine ⟨by rw [setS_len, List.length_set]; exact sd.len, fun j u e => ?_⟩
  rcases getS_set e with ⟨rfl, e1, hl⟩ | ⟨ne, e1⟩
  · cases e1
    exact ⟨v, by rw [List.getElem?_set_self (by rw [← sd.len]; exact hl)], d⟩
  · obtain ⟨w, h1, h2⟩ := sd.at_ j u e1
    exact ⟨w, by rw [List.getElem?_set_ne (Ne.symm ne)]; exact h1, h2⟩
theorem SD.unset (sd : SD P tb K Ex Pl H σT σ) {i : Nat} : SD P tb K Ex Pl H (setS σT i none) (σ.set i none) := by
  refine ⟨by rw [setS_len, List.length_set]; exact sd.len, fun j u e => ?_⟩
  rcases getS_set e with ⟨rfl, e1, hl⟩ | ⟨ne, e1⟩
  · cases e1
  · obtain ⟨w, h1, h2⟩ := sd.at_ j u e1
    exact ⟨w, by rw [List.getElem?_set_ne (Ne.symm ne)]; exact h1, h2⟩
theorem SD.wipe (sd : SD P tb K Ex Pl H σT σ) : ∀ vs : List Nat, SD P tb K Ex Pl H (wipeS σT vs) (L2.wipe σ vs)
  | [] => sd
  | v :: vs => (SD.wipe sd vs).unset
/-! ### readings -/
/-- what follows a test; arguments -/
structure CB (P : Pa) (tb : Tb) (K : PySem.W.Frag) (Ex : Addr → Nat → Prop) (Hd : Addr → Prop) (W : WX) (σ : L2.St) (μ : Mu) (H : Hp) (QT : Bool → Mu → Prop) (XT : Xq) (Q : Bool → Hp → Prop) : Prop where
  ok : Ok P tb K Ex Hd μ H
  nx : ∀ b μ' H', Co.Ext μ H μ' H' → Ok P tb K Ex Hd μ' H' → QT b μ' → Q b H'
  xc : ∀ c μ' H', Co.Ext μ H μ' H' → Ok P tb K Ex Hd μ' H' → XT c μ' → W (.ref (tb.xa c)) none σ H'
structure CA (P : Pa) (tb : Tb) (K : PySem.W.Frag) (Ex : Addr → Nat → Prop) (Hd : Addr → Prop) (W : WX) (σ : L2.St) (μ : Mu) (H : Hp) (QT : List T → Mu → Prop) (XT : Xq) (Q : List V → Hp → Prop) : Prop where
  ok : Ok P tb K Ex Hd μ H
  nx : ∀ ts μ' vs H', Co.Ext μ H μ' H' → Ok P tb K Ex Hd μ' H' → DenL P tb K Ex (Plc Hd μ') H' ts vs → QT ts μ' → Q vs H'
  xc : ∀ c μ' H', Co.Ext μ H μ' H' → Ok P tb K Ex Hd μ' H' → XT c μ' → W (.ref (tb.xa c)) none σ H'
def LE (P : Pa) (tb : Tb) (Ex : Addr → Nat → Prop) (W : WX) (K : PySem.W.Frag) (ev : EV) : TE := fun σ H Q => ∃ (Hd : Addr → Prop) (μ : Mu) (σT : Sg) (QT : Pq) (XT : Xq), SD P tb K Ex (Plc Hd μ) H σT σ ∧ Cn P tb K Ex Hd W σ μ H QT XT Q ∧ ev σT μ QT XT
def LT (P : Pa) (tb : Tb) (Ex : Addr → Nat → Prop) (W : WX) (K : PySem.W.Frag) (et : ET) : TT := fun σ H Q => ∃ (Hd : Addr → Prop) (μ : Mu) (σT : Sg) (QT : Bool → Mu → Prop) (XT : Xq), SD P tb K Ex (Plc Hd μ) H σT σ ∧ CB P tb K Ex Hd W σ μ H QT XT Q ∧ et σT μ QT XT
def LA (P : Pa) (tb : Tb) (Ex : Addr → Nat → Prop) (W : WX) (K : PySem.W.Frag) (ea : EA) : TA := fun σ H Q => ∃ (Hd : Addr → Prop) (μ : Mu) (σT : Sg) (QT : List T → Mu → Prop) (XT : Xq), SD P tb K Ex (Plc Hd μ) H σT σ ∧ CA P tb K Ex Hd W σ μ H QT XT Q ∧ ea σT μ QT XT
theorem Cn.ext (c : Cn P tb K Ex Hd W σ μ H QT XT Q) (x : Co.Ext μ H μ1 H1) (o : Ok P tb K Ex Hd μ1 H1) : Cn P tb K Ex Hd W σ μ1 H1 QT XT Q :=
  ⟨o, fun t μ' v H' e => c.nx t μ' v H' (x.trans e), fun cc μ' H' e => c.xc cc μ' H' (x.trans e)⟩
theorem CB.ext {QB : Bool → Mu → Prop} {QC : Bool → Hp → Prop} (c : CB P tb K Ex Hd W σ μ H QB XT QC) (x : Co.Ext μ H μ1 H1) (o : Ok P tb K Ex Hd μ1 H1) : CB P tb K Ex Hd W σ μ1 H1 QB XT QC :=
  ⟨o, fun b μ' H' e => c.nx b μ' H' (x.trans e), fun cc μ' H' e => c.xc cc μ' H' (x.trans e)⟩
theorem CA.ext {QA : List T → Mu → Prop} {QC : List V → Hp → Prop} (c : CA P tb K Ex Hd W σ μ H QA XT QC) (x : Co.Ext μ H μ1 H1) (o : Ok P tb K Ex Hd μ1 H1) : CA P tb K Ex Hd W σ μ1 H1 QA XT QC :=
  ⟨o, fun b μ' v H' e => c.nx b μ' v H' (x.trans e), fun cc μ' H' e => c.xc cc μ' H' (x.trans e)⟩
/-- one expression, then G -/
theorem LE1 {ev : EV} {G : T → Mu → Prop} {R : V → Hp → Prop} (sd : SD P tb K Ex (Plc Hd μ) H σT σ) (ok : Ok P tb K Ex Hd μ H)
    (xc : ∀ c μ' H', Co.Ext μ H μ' H' → Ok P tb K Ex Hd μ' H' → XT c μ' → W (.ref (tb.xa c)) none σ H') (h : ev σT μ G XT)
    (k : ∀ t μ1 v H1, Co.Ext μ H μ1 H1 → Ok P tb K Ex Hd μ1 H1 → Den P tb K Ex (Plc Hd μ1) H1 t v → G t μ1 → R v H1) : LE P tb Ex W K ev σ H R :=
  ⟨Hd, μ, σT, G, XT, sd, ⟨ok, fun t μ' v H' e o d q => k t μ' v H' e o d q, xc⟩, h⟩
theorem LT1 {et : ET} {G : Bool → Mu → Prop} {R : Bool → Hp → Prop} (sd : SD P tb K Ex (Plc Hd μ) H σT σ) (ok : Ok P tb K Ex Hd μ H)
    (xc : ∀ c μ' H', Co.Ext μ H μ' H' → Ok P tb K Ex Hd μ' H' → XT c μ' → W (.ref (tb.xa c)) none σ H') (h : et σT μ G XT)
    (k : ∀ b μ1 H1, Co.Ext μ H μ1 H1 → Ok P tb K Ex Hd μ1 H1 → G b μ1 → R b H1) : LT P tb Ex W K et σ H R :=
  ⟨Hd, μ, σT, G, XT, sd, ⟨ok, fun t μ' H' e o q => k t μ' H' e o q, xc⟩, h⟩
theorem LA1 {ea : EA} {G : List T → Mu → Prop} {R : List V → Hp → Prop} (sd : SD P tb K Ex (Plc Hd μ) H σT σ) (ok : Ok P tb K Ex Hd μ H)
    (xc : ∀ c μ' H', Co.Ext μ H μ' H' → Ok P tb K Ex Hd μ' H' → XT c μ' → W (.ref (tb.xa c)) none σ H') (h : ea σT μ G XT)
    (k : ∀ ts μ1 vs H1, Co.Ext μ H μ1 H1 → Ok P tb K Ex Hd μ1 H1 → DenL P tb K Ex (Plc Hd μ1) H1 ts vs → G ts μ1 → R vs H1) : LA P tb Ex W K ea σ H R :=
  ⟨Hd, μ, σT, G, XT, sd, ⟨ok, fun t μ' v H' e o d q => k t μ' v H' e o d q, xc⟩, h⟩
/-- two expressions, then G -/
theorem LE2 {eva evb : EV} {G : T → T → Mu → Prop} (sd : SD P tb K Ex (Plc Hd μ) H σT σ) (c : Cn P tb K Ex Hd W σ μ H QT XT Q) (h : eva σT μ (fun x μ1 => evb σT μ1 (fun y μ2 => G x y μ2) XT) XT) :
    LE P tb Ex W K eva σ H fun x H1 => LE P tb Ex W K evb σ H1 fun y H2 => ∃ μ2 t t', Cn P tb K Ex Hd W σ μ2 H2 QT XT Q ∧ Den P tb K Ex (Plc Hd μ2) H2 t x ∧ Den P tb K Ex (Plc Hd μ2) H2 t' y ∧ G t t' μ2 :=
  LE1 sd c.ok c.xc h fun t μ1 v H1 e1 o1 d1 q1 => LE1 (sd.ext e1) o1 (c.ext e1 o1).xc q1 fun t' μ2 w H2 e2 o2 d2 q2 => ⟨μ2, t, t', c.ext (e1.trans e2) o2, d1.ext e2, d2, q2⟩
/-- from a value to its test -/
theorem pt_of {e : Expr} {ev : EV} (h : PE X e (LE P tb Ex W X.K ev)) (he : ∀ whole, isTrue e X.env whole = (do let v ← whole; standAt e.pos; holding [v] (truthy v))) : PT X e (LT P tb Ex W X.K (tOf ev)) := by
  have h' := pt_truth h he
  refine ⟨fun pins s σ H Q I hq => h'.run pins s σ H Q I ?_⟩
  obtain ⟨Hd, μ, σT, QT, XT, sd, c, hq⟩ := hq
  exact LE1 sd c.ok c.xc hq fun t μ1 v H1 e1 o1 d1 ⟨b, hb, q1⟩ => ⟨b, tru_den o1 d1 hb, c.nx b μ1 H1 e1 o1 q1⟩
theorem isTrue_plain' : ∀ {e : Expr}, plainT e = true → ∀ env whole, isTrue e env whole = (do let v ← whole; standAt e.pos; holding [v] (truthy v))
  | .UnaryOp op _ _, h, _, _ => by cases op <;> first | rfl | exact nomatch (show false = true from h)
  | .BoolOp _ _ _, h, _, _ => nomatch (show false = true from h)
  | .IfExp _ _ _ _, h, _, _ => nomatch (show false = true from h)
  | .Compare _ _ _ _, h, _, _ => nomatch (show false = true from h)
  | .NamedExpr _ _ _, _, _, _ => rfl
  | .BinOp _ _ _ _, _, _, _ => rfl
  | .Lambda _ _ _ _, _, _, _ => rfl
  | .Dict _ _ _, _, _, _ => rfl
  | .Set _ _ _, _, _, _ => rfl
  | .ListComp _ _ _ _, _, _, _ => rfl
  | .SetComp _ _ _ _, _, _, _ => rfl
  | .DictComp _ _ _ _ _, _, _, _ => rfl
  | .GeneratorExp _ _ _ _, _, _, _ => rfl
  | .Await _ _, _, _, _ => rfl
  | .Yield _ _, _, _, _ => rfl
  | .YieldFrom _ _, _, _, _ => rfl
  | .Call _ _ _ _, _, _, _ => rfl
  | .FormattedValue _ _ _ _, _, _, _ => rfl
  | .JoinedStr _ _, _, _, _ => rfl
  | .Constant _ _ _, _, _, _ => rfl
  | .Attribute _ _ _, _, _, _ => rfl
  | .Subscript _ _ _, _, _, _ => rfl
  | .Starred _ _, _, _, _ => rfl
  | .Name _ _, _, _, _ => rfl
  | .List _ _, _, _, _ => rfl
  | .Tuple _ _ _, _, _, _ => rfl
  | .Slice _ _ _ _, _, _, _ => rfl
theorem starEach_cons : ∀ {e : Expr}, notStar e = true → ∀ (es : List Expr) (env : Env), starEach (e :: es) env = (false, eval e env) :: starEach es env
  | .Starred _ _, h, _, _ => nomatch (show false = true from h)
  | .UnaryOp _ _ _, _, _, _ => rfl
  | .BoolOp _ _ _, _, _, _ => rfl
  | .IfExp _ _ _ _, _, _, _ => rfl
  | .Compare _ _ _ _, _, _, _ => rfl
  | .NamedExpr _ _ _, _, _, _ => rfl
  | .BinOp _ _ _ _, _, _, _ => rfl
  | .Lambda _ _ _ _, _, _, _ => rfl
  | .Dict _ _ _, _, _, _ => rfl
  | .Set _ _ _, _, _, _ => rfl
  | .ListComp _ _ _ _, _, _, _ => rfl
  | .SetComp _ _ _ _, _, _, _ => rfl
  | .DictComp _ _ _ _ _, _, _, _ => rfl
  | .GeneratorExp _ _ _ _, _, _, _ => rfl
  | .Await _ _, _, _, _ => rfl
  | .Yield _ _, _, _, _ => rfl
  | .YieldFrom _ _, _, _, _ => rfl
  | .Call _ _ _ _, _, _, _ => rfl
  | .FormattedValue _ _ _ _, _, _, _ => rfl
  | .JoinedStr _ _, _, _, _ => rfl
  | .Constant _ _ _, _, _, _ => rfl
  | .Attribute _ _ _, _, _, _ => rfl
  | .Subscript _ _ _, _, _, _ => rfl
  | .Name _ _, _, _, _ => rfl
  | .List _ _, _, _, _ => rfl
  | .Tuple _ _ _, _, _, _ => rfl
  | .Slice _ _ _ _, _, _, _ => rfl
theorem attrBase : ∀ {o : Expr}, notSup o = true → ∀ (f : Str) (env : Env) (w : Sem Value), attributeBase o f env w = w
  | .Call (.Name _ _) [] [] _, h, _, _, _ => nomatch (show false = true from h)
  | .Call (.Name _ _) (_ :: _) _ _, _, _, _, _ => rfl
  | .Call (.Name _ _) [] (_ :: _) _, _, _, _, _ => rfl
  | .Call (.UnaryOp _ _ _) _ _ _, _, _, _, _ => rfl
  | .Call (.BoolOp _ _ _) _ _ _, _, _, _, _ => rfl
  | .Call (.IfExp _ _ _ _) _ _ _, _, _, _, _ => rfl
  | .Call (.Compare _ _ _ _) _ _ _, _, _, _, _ => rfl
  | .Call (.NamedExpr _ _ _) _ _ _, _, _, _, _ => rfl
  | .Call (.BinOp _ _ _ _) _ _ _, _, _, _, _ => rfl
  | .Call (.Lambda _ _ _ _) _ _ _, _, _, _, _ => rfl
  | .Call (.Dict _ _ _) _ _ _, _, _, _, _ => rfl
  | .Call (.Set _ _ _) _ _ _, _, _, _, _ => rfl
  | .Call (.ListComp _ _ _ _) _ _ _, _, _, _, _ => rfl
  | .Call (.SetComp _ _ _ _) _ _ _, _, _, _, _ => rfl
  | .Call (.DictComp _ _ _ _ _) _ _ _, _, _, _, _ => rfl
  | .Call (.GeneratorExp _ _ _ _) _ _ _, _, _, _, _ => rfl
  | .Call (.Await _ _) _ _ _, _, _, _, _ => rfl
  | .Call (.Yield _ _) _ _ _, _, _, _, _ => rfl
  | .Call (.YieldFrom _ _) _ _ _, _, _, _, _ => rfl
  | .Call (.Call _ _ _ _) _ _ _, _, _, _, _ => rfl
  | .Call (.FormattedValue _ _ _ _) _ _ _, _, _, _, _ => rfl
  | .Call (.JoinedStr _ _) _ _ _, _, _, _, _ => rfl
  | .Call (.Constant _ _ _) _ _ _, _, _, _, _ => rfl
  | .Call (.Attribute _ _ _) _ _ _, _, _, _, _ => rfl
  | .Call (.Subscript _ _ _) _ _ _, _, _, _, _ => rfl
  | .Call (.Starred _ _) _ _ _, _, _, _, _ => rfl
  | .Call (.List _ _) _ _ _, _, _, _, _ => rfl
  | .Call (.Tuple _ _ _) _ _ _, _, _, _, _ => rfl
  | .Call (.Slice _ _ _ _) _ _ _, _, _, _, _ => rfl
  | .UnaryOp _ _ _, _, _, _, _ => rfl
  | .BoolOp _ _ _, _, _, _, _ => rfl
  | .IfExp _ _ _ _, _, _, _, _ => rfl
  | .Compare _ _ _ _, _, _, _, _ => rfl
  | .NamedExpr _ _ _, _, _, _, _ => rfl
  | .BinOp _ _ _ _, _, _, _, _ => rfl
  | .Lambda _ _ _ _, _, _, _, _ => rfl
  | .Dict _ _ _, _, _, _, _ => rfl
  | .Set _ _ _, _, _, _, _ => rfl
  | .ListComp _ _ _ _, _, _, _, _ => rfl
  | .SetComp _ _ _ _, _, _, _, _ => rfl
  | .DictComp _ _ _ _ _, _, _, _, _ => rfl
  | .GeneratorExp _ _ _ _, _, _, _, _ => rfl
  | .Await _ _, _, _, _, _ => rfl
  | .Yield _ _, _, _, _, _ => rfl
  | .YieldFrom _ _, _, _, _, _ => rfl
  | .FormattedValue _ _ _ _, _, _, _, _ => rfl
  | .JoinedStr _ _, _, _, _, _ => rfl
  | .Constant _ _ _, _, _, _, _ => rfl
  | .Attribute _ _ _, _, _, _, _ => rfl
  | .Subscript _ _ _, _, _, _, _ => rfl
  | .Starred _ _, _, _, _, _ => rfl
  | .Name _ _, _, _, _, _ => rfl
  | .List _ _, _, _, _, _ => rfl
  | .Tuple _ _ _, _, _, _, _ => rfl
  | .Slice _ _ _ _, _, _, _, _ => rfl
theorem notSet_in : ∀ {b : Expr}, notSet b = true → ∀ op, behindInMarks op b = false := by
  intro b h op
  cases b <;> first | rfl | exact nomatch (show false = true from h)
theorem notSet_it {b : Expr} (h : notSet b = true) (env : Env) (x : Value) : foldedSetIterable b env x = pure x := by
  cases b <;> first | rfl | exact nomatch (show false = true from h)
theorem notSlice_ix {b : Expr} (h : notSlice b = true) : PlainIx b := by
  intro o i
  cases b <;> first | rfl | exact nomatch (show false = true from h)
/-- no star at all -/
def noStars (es : List Expr) : Bool := es.all notStar
theorem stars_plain : ∀ {es : List Expr}, noStars es = true → ∀ (pos : Pos) (env : Env), (backTo pos (starEach es env)).any (·.1) = false
  | [], _, _, _ => rfl
  | e :: es, h, pos, env => by
    have h' := band (show (notStar e && noStars es) = true from h)
    rw [starEach_cons h'.1]
    show (false || (backTo pos (starEach es env)).any (·.1)) = false
    rw [stars_plain h'.2]; rfl
theorem stars_few : ∀ {es : List Expr}, noStars es = true → ∀ (pos : Pos) (env : Env), (backTo pos (starEach es env)).all (fun x => !x.1) = true
  | [], _, _, _ => rfl
  | e :: es, h, pos, env => by
    have h' := band (show (notStar e && noStars es) = true from h)
    rw [starEach_cons h'.1]
    show (true && (backTo pos (starEach es env)).all (fun x => !x.1)) = true
    rw [stars_few h'.2]; rfl
theorem vis_of (h : visB sc x' = true) : Vis sc x' := by
  unfold visB at h
  unfold Vis
  split at h
  · exact .inl (by assumption)
  · exact .inr (.inl (by assumption))
  · exact .inr (.inr (by assumption))
  · cases h
theorem loc_of (h : locB sc x' = true) : L2.Loc sc x' := by
  unfold locB at h
  unfold L2.Loc
  split at h
  · exact .inl (by assumption)
  · exact .inr (by assumption)
  · cases h
theorem glo_of {x' : Str} (hs : X.env.scope = sc) (h : gloB sc x' = true) : Gl X x' := by
  unfold gloB at h
  unfold Gl Env.kindOf
  rw [hs]
  split at h
  · assumption
  · cases h
theorem dbg_of {x' : Str} (h : dbgB x' = true) : (x' == ("__debug__" : Str)) = false ∧ (x' == ("__classdict__" : Str)) = false ∧ x' ≠ "__name__" := by
  unfold dbgB at h
  simp only [Bool.and_eq_true, Bool.not_eq_true'] at h
  exact ⟨h.1, h.2.1, beq_eq_false_iff_ne.mp h.2.2⟩
end
end Co
set_option Elab.async false
set_option linter.all false
set_option maxRecDepth 100000
set_option maxHeartbeats 1000000
namespace Co
open PySem PySem.Spec PyProof.Rows L2
/-! # Co, part 8: each form of an expression -/
section
variable {P : Pa} {tb : Tb} {n lev : Nat} {cm : Bool} {N : List Str} {sc : Scope} {Ex : Addr → Nat → Prop} {W : WX} {X : Cx} {Hd : Addr → Prop}
variable {a b c : Expr} {ea eb ec : E} {pos : Pos} {es : List Expr} {el : Es} {x' : Str} {p : Pos}
abbrev SE (P : Pa) (tb : Tb) (Ex : Addr → Nat → Prop) (W : WX) (X : Cx) (ex : Expr) (ev : EV) : Prop := PE X ex (LE P tb Ex W X.K ev)
abbrev ST (P : Pa) (tb : Tb) (Ex : Addr → Nat → Prop) (W : WX) (X : Cx) (ex : Expr) (et : ET) : Prop := PT X ex (LT P tb Ex W X.K et)
theorem PE.imp' {t t' : TE} (h : PE X a t) (i : ∀ σ H Q, t' σ H Q → t σ H Q) : PE X a t' := ⟨fun pins s σ H Q I q => h.run pins s σ H Q I (i σ H Q q)⟩
theorem PT.imp' {t t' : TT} (h : PT X a t) (i : ∀ σ H Q, t' σ H Q → t σ H Q) : PT X a t' := ⟨fun pins s σ H Q I q => h.run pins s σ H Q I (i σ H Q q)⟩
theorem s_var {i : Nat} (hN : X.N[i]? = some x') (hv : Vis X.env.scope x') (hd : dbgB x' = true) : SE P tb Ex W X (.Name x' pos) (sE P (.var i)).v := by
  obtain ⟨d1, d2, _⟩ := dbg_of hd
  refine PE.imp' (pe_var hN hv d1 d2) fun σ H Q h => ?_
  obtain ⟨Hd, μ, σT, QT, XT, sd, c, h⟩ := h
  cases e : getS σT i with
  | none =>
    exfalso
    have h' : (match getS σT i with | some t => QT t μ | none => False) := h
    rw [e] at h'; exact h'
  | some t =>
    have h' : (match getS σT i with | some t => QT t μ | none => False) := h
    rw [e] at h'
    obtain ⟨v, h1, h2⟩ := sd.at_ i t e
    exact ⟨v, h1, c.here h2 h'⟩
theorem s_cst {t : T} {k : Nat} {co : Const} (hc : cstB t co = true) : SE P tb Ex W X (.Constant co k pos) (sE P (.cst t)).v := by
  have go : ∀ {v : V}, (∀ Pl H, Den P tb X.K Ex Pl H t v) → PE X (.Constant co k pos) (tC v) → SE P tb Ex W X (.Constant co k pos) (sE P (.cst t)).v := fun {v} d hp => PE.imp' hp fun σ H Q h => by
    obtain ⟨Hd, μ, σT, QT, XT, sd, c, h⟩ := h
    exact c.here (d _ _) h
  cases t with
  | non => cases co with
    | none => exact go (v := .non) (fun _ _ => rfl) pe_non
    | _ => exact nomatch (show false = true from hc)
  | bl b => cases co with
    | bool b' =>
      have e : b = b' := eq_of_beq (show (b == b') = true from hc)
      subst e
      exact go (v := .bl b) (fun _ _ => rfl) pe_bl
    | _ => exact nomatch (show false = true from hc)
  | int b => cases co with
    | int b' =>
      have e : b = b' := of_decide_eq_true hc
      subst e
      exact go (v := .int b) (fun _ _ => rfl) pe_int
    | _ => exact nomatch (show false = true from hc)
  | str b => cases co with
    | str b' =>
      have e : b = b' := of_decide_eq_true hc
      subst e
      exact go (v := .str b) (fun _ _ => rfl) pe_str
    | _ => exact nomatch (show false = true from hc)
  | _ => cases co <;> exact nomatch (show false = true from hc)
theorem s_glb {k : Nat} {t : T} (F : Facts P tb X.K X.mg) (hk : P.gl[k]? = some (x', t)) (hg : Gl X x') (hd : dbgB x' = true) : SE P tb Ex W X (.Name x' pos) (sE P (.glb k)).v := by
  obtain ⟨u, v, hm, r, d⟩ := F.gl k x' t hk
  refine PE.imp' (pe_glob hg hm r (dbg_of hd).1) fun σ H Q h => ?_
  obtain ⟨Hd, μ, σT, QT, XT, sd, c, h⟩ := h
  have h' : (match P.gl[k]? with | some (_, t) => QT t μ | none => False) := h
  rw [hk] at h'
  exact c.here (d _ _ _) h'
theorem s_bin {o : Op2} (ha : SE P tb Ex W X a (sE P ea).v) (hb : SE P tb Ex W X b (sE P eb).v) : SE P tb Ex W X (.BinOp a (opP o) b pos) (sE P (.bin o ea eb)).v := by
  refine ⟨fun pins s σ H Q I h => ?_⟩
  obtain ⟨Hd, μ, σT, QT, XT, sd, c, h⟩ := h
  exact wpAny_BinOp (L2.bin ha hb I (LE2 sd c h) fun v u s2 x y H2 I2 rx ry ⟨μ2, t, t', c2, d1, d2, q⟩ => bin_ok o I2 rx ry c2 d1 d2 q)
theorem s_cat {mu : Bool} (ha : SE P tb Ex W X a (sE P ea).v) (hb : SE P tb Ex W X b (sE P eb).v) : SE P tb Ex W X (.BinOp a .Add b pos) (sE P (.cat mu ea eb)).v := by
  refine ⟨fun pins s σ H Q I h => ?_⟩
  obtain ⟨Hd, μ, σT, QT, XT, sd, c, h⟩ := h
  exact wpAny_BinOp (L2.bin ha hb I (LE2 sd c h) fun v u s2 x y H2 I2 rx ry ⟨μ2, t, t', c2, d1, d2, q⟩ => cat_ok I2 rx ry c2 d1 d2 q)
theorem s_rep {mu : Bool} (ha : SE P tb Ex W X a (sE P ea).v) (hb : SE P tb Ex W X b (sE P eb).v) : SE P tb Ex W X (.BinOp a .Mult b pos) (sE P (.rep mu ea eb)).v := by
  refine ⟨fun pins s σ H Q I h => ?_⟩
  obtain ⟨Hd, μ, σT, QT, XT, sd, c, h⟩ := h
  exact wpAny_BinOp (L2.bin ha hb I (LE2 sd c h) fun v u s2 x y H2 I2 rx ry ⟨μ2, t, t', c2, d1, d2, q⟩ => rep_ok I2 rx ry c2 d1 d2 q)
theorem s_neg (ha : SE P tb Ex W X a (sE P ea).v) : SE P tb Ex W X (.UnaryOp .USub a pos) (sE P (.neg ea)).v := by
  refine ⟨fun pins s σ H Q I h => ?_⟩
  obtain ⟨Hd, μ, σT, QT, XT, sd, c, h⟩ := h
  refine UnaryOp_ (thn (ha.run pins s σ H _ I (LE1 (G := fun x μ1 => wNeg x μ1 QT) sd c.ok c.xc h fun t μ1 v H1 e1 o1 d1 q => (⟨μ1, t, c.ext e1 o1, d1, q⟩ : ∃ μ1 t, Cn P tb X.K Ex Hd W σ μ1 H1 QT XT Q ∧ Den P tb X.K Ex (Plc Hd μ1) H1 t v ∧ wNeg t μ1 QT))) fun u s1 hh => ?_)
  obtain ⟨x, H1, I1, r1, μ1, t, c1, d1, q⟩ := hh
  exact neg_ok I1 r1 c1 d1 q
theorem s_not (ha : SE P tb Ex W X a (sE P ea).v) : SE P tb Ex W X (.UnaryOp .Not a pos) (sE P (.not ea)).v := by
  refine PE.imp' (pe_notT ha) fun σ H Q h => ?_
  obtain ⟨Hd, μ, σT, QT, XT, sd, c, h⟩ := h
  exact LE1 sd c.ok c.xc h fun t μ1 v H1 e1 o1 d1 ⟨b, hb, q⟩ => ⟨b, tru_den o1 d1 hb, (c.ext e1 o1).here (t := .bl (!b)) rfl q⟩
theorem t_not (ha : ST P tb Ex W X a (sE P ea).t) : ST P tb Ex W X (.UnaryOp .Not a pos) (sE P (.not ea)).t := by
  refine PT.imp' (pt_not ha) fun σ H Q h => ?_
  obtain ⟨Hd, μ, σT, QT, XT, sd, c, h⟩ := h
  exact LT1 sd c.ok c.xc h fun b μ1 H1 e1 o1 q => c.nx (!b) μ1 H1 e1 o1 q
theorem s_cmp {o : Cm} (hu : X.A.units + 64 < cLine) (hs : notSet b = true) (ha : SE P tb Ex W X a (sE P ea).v) (hb : SE P tb Ex W X b (sE P eb).v) : SE P tb Ex W X (.Compare a [cmP o] [b] pos) (sE P (.cmp o ea eb)).v := by
  refine ⟨fun pins s σ H Q I h => ?_⟩
  obtain ⟨Hd, μ, σT, QT, XT, sd, c, h⟩ := h
  exact wpAny_Compare1 (L2.bin ha hb I (LE2 sd c h) fun v u s2 x y H2 I2 rx ry ⟨μ2, t, t', c2, d1, d2, q⟩ => cmp_ok o hu I2 rx ry c2 d1 d2 q) (notSet_in hs _)
theorem cn_of_cb {QB : Bool → Mu → Prop} {XT : Xq} {σ : L2.St} {μ : Mu} {H : Hp} {QC : Bool → Hp → Prop} (c : CB P tb X.K Ex Hd W σ μ H QB XT QC) :
    Cn P tb X.K Ex Hd W σ μ H (fun t μ1 => ∃ b, t = .bl b ∧ QB b μ1) XT (fun v H1 => ∃ b, v = .bl b ∧ QC b H1) :=
  ⟨c.ok, fun t μ' v H' e o d ⟨b, hb, q⟩ => by subst hb; exact ⟨b, d, c.nx b μ' H' e o q⟩, c.xc⟩
theorem t_cmp {o : Cm} (hu : X.A.units + 64 < cLine) (hs : notSet b = true) (ha : SE P tb Ex W X a (sE P ea).v) (hb : SE P tb Ex W X b (sE P eb).v) : ST P tb Ex W X (.Compare a [cmP o] [b] pos) (sE P (.cmp o ea eb)).t := by
  refine ⟨fun pins s σ H Q I h => ?_⟩
  obtain ⟨Hd, μ, σT, QT, XT, sd, c, h⟩ := h
  refine wpAny_isTrue_Compare1 (L2.bin ha hb I (LE2 sd (cn_of_cb c) h) fun v u s2 x y H2 I2 rx ry ⟨μ2, t, t', c2, d1, d2, q⟩ => ?_) (notSet_in hs _)
  refine thn (cmp_ok o hu I2 rx ry c2 d1 d2 q) fun w s3 ⟨z, H3, I3, r3, b, e, q3⟩ => ?_
  subst e; cases r3
  exact wpAny_truthy_bool ⟨H3, I3, q3⟩
theorem chn_op {o : Cm} (h : chnB o = true) : OpR X (compareOp (cmP o)) (rI0 fun i j => .bl (cmI o i j)) := by
  cases o with
  | lt => exact op_lt
  | le => exact op_le
  | gt => exact op_gt
  | ge => exact op_ge
  | _ => cases h
theorem ints_of {F : Int → Int → Prop} {t t' : T} (h : match t, t' with | .int i, .int j => F i j | _, _ => False) : ∃ i j, t = .int i ∧ t' = .int j ∧ F i j := by
  split at h
  · exact ⟨_, _, rfl, rfl, h⟩
  · exact h.elim
theorem chn_imp {o o' : Cm} {σ : L2.St} {H : Hp} {Q : VK} (h : LE P tb Ex W X.K (sE P (.chn o o' ea eb ec)).v σ H Q) :
    tChain (rI0 fun i j => .bl (cmI o i j)) (rI0 fun i j => .bl (cmI o' i j)) (LE P tb Ex W X.K (sE P ea).v) (LE P tb Ex W X.K (sE P eb).v) (LE P tb Ex W X.K (sE P ec).v) σ H Q := by
  obtain ⟨Hd, μ, σT, QT, XT, sd, c, h⟩ := h
  refine LE1 sd c.ok c.xc h fun t μ1 v H1 e1 o1 d1 h1 => LE1 (sd.ext e1) o1 (c.ext e1 o1).xc h1 fun t' μ2 w H2 e2 o2 d2 h2 => ?_
  obtain ⟨i, j, rfl, rfl, h2⟩ := ints_of (F := fun i j => if cmI o i j = true then _ else _) h2
  refine ⟨i, j, d1, d2, _, rfl, ?_⟩
  have c2 := c.ext (e1.trans e2) o2
  by_cases hc : cmI o i j = true
  · rw [if_pos hc] at h2 ⊢
    refine LE1 (sd.ext (e1.trans e2)) o2 c2.xc h2 fun t3 μ3 u H3 e3 o3 d3 h3 => ?_
    cases t3 with
    | int k => exact ⟨j, k, d2, d3, (c2.ext e3 o3).here (t := .bl (cmI o' j k)) rfl h3⟩
    | _ => exact h3.elim
  · rw [if_neg hc] at h2 ⊢
    exact c2.here (t := .bl false) rfl h2
theorem lastM {op op' : CmpOp} (h : notSet c = true) : lastMarks [op, op'] [b, c] = false := notSet_in h op'
theorem s_chn {o o' : Cm} (h1 : chnB o = true) (h2 : chnB o' = true) (hs : notSet c = true) (ha : SE P tb Ex W X a (sE P ea).v) (hb : SE P tb Ex W X b (sE P eb).v) (hc : SE P tb Ex W X c (sE P ec).v) :
    SE P tb Ex W X (.Compare a [cmP o, cmP o'] [b, c] pos) (sE P (.chn o o' ea eb ec)).v :=
  PE.imp' (pe_chain (chn_op h1) (chn_op h2) ha hb hc (lastM hs)) fun _ _ _ h => chn_imp h
theorem t_chn {o o' : Cm} (h1 : chnB o = true) (h2 : chnB o' = true) (hs : notSet c = true) (ha : SE P tb Ex W X a (sE P ea).v) (hb : SE P tb Ex W X b (sE P eb).v) (hc : SE P tb Ex W X c (sE P ec).v) :
    ST P tb Ex W X (.Compare a [cmP o, cmP o'] [b, c] pos) (sE P (.chn o o' ea eb ec)).t :=
  PT.imp' (pt_chain (chn_op h1) (chn_op h2) ha hb hc (lastM hs)) fun σ H Q ⟨Hd, μ, σT, QT, XT, sd, c, h⟩ => chn_imp ⟨Hd, μ, σT, _, XT, sd, cn_of_cb c, h⟩
theorem s_ite (hc : ST P tb Ex W X c (sE P ec).t) (ha : SE P tb Ex W X a (sE P ea).v) (hb : SE P tb Ex W X b (sE P eb).v) : SE P tb Ex W X (.IfExp c a b pos) (sE P (.ite ec ea eb)).v := by
  refine PE.imp' (pe_ifExp hc ha hb) fun σ H Q h => ?_
  obtain ⟨Hd, μ, σT, QT, XT, sd, c, h⟩ := h
  refine LT1 sd c.ok c.xc h fun k μ1 H1 e1 o1 q => ?_
  cases k with
  | true => rw [if_pos rfl] at q ⊢; exact ⟨Hd, μ1, σT, QT, XT, sd.ext e1, c.ext e1 o1, q⟩
  | false => rw [if_neg Bool.false_ne_true] at q ⊢; exact ⟨Hd, μ1, σT, QT, XT, sd.ext e1, c.ext e1 o1, q⟩
abbrev SA (P : Pa) (tb : Tb) (Ex : Addr → Nat → Prop) (W : WX) (X : Cx) (es : List Expr) (ea : EA) : Prop := PA X es (LA P tb Ex W X.K ea)
theorem s_nil : SA P tb Ex W X [] (sEs P .nil) := ⟨fun _ _ s σ H Q I h => by
  obtain ⟨Hd, μ, σT, QT, XT, sd, c, h⟩ := h
  exact Calls.spliced_nil ⟨[], H, I, .nil, c.nx [] μ [] H .refl c.ok rfl h⟩⟩
theorem s_cons (hs : notStar a = true) (ha : SE P tb Ex W X a (sE P ea).v) (hr : SA P tb Ex W X es (sEs P el)) : SA P tb Ex W X (a :: es) (sEs P (.cons ea el)) := by
  have q := pa_cons ha hr (starEach_cons hs es X.env)
  refine ⟨fun pos pins s σ H Q I h => q.run pos pins s σ H Q I ?_⟩
  obtain ⟨Hd, μ, σT, QT, XT, sd, c, h⟩ := h
  exact LE1 sd c.ok c.xc h fun t μ1 v H1 e1 o1 d1 h1 => LA1 (sd.ext e1) o1 (c.ext e1 o1).xc h1 fun ts μ2 vs H2 e2 o2 d2 h2 => c.nx (t :: ts) μ2 (v :: vs) H2 (e1.trans e2) o2 (.cons (d1.ext e2) d2) h2
theorem s_tup {k : Nat} (h : SA P tb Ex W X es (sEs P el)) : SE P tb Ex W X (.Tuple es k pos) (sE P (.tup el)).v := by
  refine PE.imp' (pe_tup h) fun σ H Q h => ?_
  obtain ⟨Hd, μ, σT, QT, XT, sd, c, h⟩ := h
  refine LA1 sd c.ok c.xc h fun ts μ1 vs H1 e1 o1 d1 ⟨hl, q⟩ => ⟨by rw [← d1.len, sizeLine_eq]; exact hl, fun p hp => (c.ext e1 o1).newT hp d1 q⟩
theorem s_lst {mu : Bool} (h : SA P tb Ex W X es (sEs P el)) : SE P tb Ex W X (.List es pos) (sE P (.lst mu el)).v := by
  refine PE.imp' (pe_lst h) fun σ H Q h => ?_
  obtain ⟨Hd, μ, σT, QT, XT, sd, c, h⟩ := h
  refine LA1 sd c.ok c.xc h fun ts μ1 vs H1 e1 o1 d1 q => ⟨by rw [← d1.len]; exact q.le, fun p hp => (c.ext e1 o1).newL hp d1 q⟩
theorem inj_fl (F : Facts P tb X.K X.mg) {c f : Nat} {fs : List (Nat × T)} (hf : f < P.at_.length) (ok : okF P c fs) : ∀ p ∈ fs, nmA P p.1 = nmA P f → p.1 = f := fun p hp e => by
  have h1 := F.fli c p.1 (ok p hp)
  unfold nmA at e
  rw [List.getD_eq_getElem?_getD, List.getD_eq_getElem?_getD, List.getElem?_eq_getElem h1, List.getElem?_eq_getElem hf] at e
  exact (List.getElem_inj F.nd).mp e
theorem lookF_mem : ∀ {fs : List (Nat × T)} {f : Nat} {t : T}, lookF f fs = some t → ∃ p ∈ fs, p.1 = f
  | [], _, _, h => by cases h
  | (g, u) :: r, f, t, h => by
    simp only [lookF] at h
    by_cases z : g = f
    · exact ⟨(g, u), List.mem_cons_self, z⟩
    · rw [if_neg z] at h
      obtain ⟨p, hp, e⟩ := lookF_mem h
      exact ⟨p, List.mem_cons_of_mem _ hp, e⟩
theorem fld_ok (F : Facts P tb X.K X.mg) {f : Nat} {t : T} {x : V} {σ : L2.St} {μ : Mu} {H : Hp} {QT : Pq} {XT : Xq} {Q : VK} (hf : f < P.at_.length) (cn : Cn P tb X.K Ex Hd W σ μ H QT XT Q) (d : Den P tb X.K Ex (Plc Hd μ) H t x) (h : wFld t f μ QT) :
    ∃ a C dx fs v, x = .ref a ∧ H a = some (.ins C dx fs) ∧ Cls X.K C ∧ NoAttr X.K C (nmA P f) ∧ fs.lookup (nmA P f) = some v ∧ Q v H := by
  unfold wFld at h
  split at h
  · rename_i c fs e
    split at h
    · rename_i w e2
      obtain ⟨a, dx, vs, rfl, q, k, dF⟩ := insO_den cn.ok d e
      obtain ⟨v, hv, dv⟩ := lookF_den (inj_fl F hf k.2) dF e2
      obtain ⟨p, hp, ep⟩ := lookF_mem e2
      have hfl : (P.fl c).contains f = true := by rw [← ep]; exact k.2 p hp
      exact ⟨a, _, dx, vs, v, rfl, q, F.cls c k.1, F.noat c f k.1 hfl, hv, cn.here dv h⟩
    · exact h.elim
  · exact h.elim
theorem s_fld {f : Nat} (F : Facts P tb X.K X.mg) (hf : f < P.at_.length) (hs : notSup a = true) (ha : SE P tb Ex W X a (sE P ea).v) : SE P tb Ex W X (.Attribute a (nmA P f) pos) (sE P (.fld ea f)).v := by
  refine PE.imp' (pe_fld ha (attrBase hs _ _ _)) fun σ H Q h => ?_
  obtain ⟨Hd, μ, σT, QT, XT, sd, c, h⟩ := h
  exact LE1 sd c.ok c.xc h fun t μ1 v H1 e1 o1 d1 h1 => fld_ok F hf (c.ext e1 o1) d1 h1
theorem s_idx (hs : notSlice b = true) (ha : SE P tb Ex W X a (sE P ea).v) (hb : SE P tb Ex W X b (sE P eb).v) : SE P tb Ex W X (.Subscript a b pos) (sE P (.idx ea eb)).v := by
  refine ⟨fun pins s σ H Q I h => ?_⟩
  obtain ⟨Hd, μ, σT, QT, XT, sd, c, h⟩ := h
  exact Subscript_ (binT ha hb I (LE2 sd c h) fun v u s2 x y H2 I2 rx ry ⟨μ2, t, t', c2, d1, d2, q⟩ => ix_seq a b pins s2 σ H2 x y v u Q I2 rx ry (idx_ok I2 rx ry c2 d1 d2 q) (notSlice_ix hs _ _))
/-- a part of a slice -/
theorem PO.imp' {o : Option Expr} {t t' : TO} (h : PO X o t) (i : ∀ σ H R, t' σ H R → t σ H R) : PO X o t' := ⟨fun pins s σ H R I q => h.run pins s σ H R I (i σ H R q)⟩
def LO (P : Pa) (tb : Tb) (Ex : Addr → Nat → Prop) (W : WX) (K : PySem.W.Frag) (e : E) (ev : EV) : TO := fun σ H R => ∃ (Hd : Addr → Prop) (μ : Mu) (σT : Sg) (QT : Pq) (XT : Xq), SD P tb K Ex (Plc Hd μ) H σT σ ∧ Ok P tb K Ex Hd μ H ∧ ev σT μ QT XT ∧
  (∀ t μ' v H', Co.Ext μ H μ' H' → Ok P tb K Ex Hd μ' H' → Den P tb K Ex (Plc Hd μ') H' t v → QT t μ' → ∃ l, partE e t = some l ∧ R l H') ∧ (∀ c μ' H', Co.Ext μ H μ' H' → Ok P tb K Ex Hd μ' H' → XT c μ' → W (.ref (tb.xa c)) none σ H')
theorem so_none (h : isNop ea = true) : PO X none (LO P tb Ex W X.K ea (sE P ea).v) := by
  cases ea <;> first | exact nomatch (show false = true from h) | skip
  refine PO.imp' po_none fun σ H R h => ?_
  obtain ⟨Hd, μ, σT, QT, XT, sd, ok, h, k, _⟩ := h
  obtain ⟨l, e, q⟩ := k .non μ .non H .refl ok rfl h
  cases e
  exact q
theorem so_some (hn : isNop ea = false) (ha : SE P tb Ex W X a (sE P ea).v) : PO X (some a) (LO P tb Ex W X.K ea (sE P ea).v) := by
  refine PO.imp' (po_some ha) fun σ H R h => ?_
  obtain ⟨Hd, μ, σT, QT, XT, sd, ok, h, k, xc⟩ := h
  refine LE1 sd ok xc h fun t μ1 v H1 e1 o1 d1 q1 => ?_
  obtain ⟨l, e, q⟩ := k t μ1 v H1 e1 o1 d1 q1
  have : ∃ i, t = .int i ∧ l = some i := by
    cases ea <;> first | exact nomatch (show true = false from hn) | (cases t <;> first | (cases e; exact ⟨_, rfl, rfl⟩) | cases e)
  obtain ⟨i, rfl, rfl⟩ := this
  exact ⟨i, d1, q⟩
theorem s_slc {mu : Bool} {lo hi : Option Expr} {el eh : E} {p2 : Pos} (ha : SE P tb Ex W X a (sE P ea).v) (hl : PO X lo (LO P tb Ex W X.K el (sE P el).v)) (hh : PO X hi (LO P tb Ex W X.K eh (sE P eh).v)) :
    SE P tb Ex W X (.Subscript a (.Slice lo hi none p2) pos) (sE P (.slc mu ea el eh)).v := by
  refine PE.imp' (pe_slice sl_any ha hl hh) fun σ H Q h => ?_
  obtain ⟨Hd, μ, σT, QT, XT, sd, c, h⟩ := h
  refine LE1 sd c.ok c.xc h fun t μ1 v H1 e1 o1 d1 h1 => ⟨Hd, μ1, σT, _, XT, sd.ext e1, o1, h1, fun t2 μ2 v2 H2 e2 o2 d2 h2 => ?_, (c.ext e1 o1).xc⟩
  have c2 := c.ext (e1.trans e2) o2
  obtain ⟨l, hp, h2⟩ := h2
  refine ⟨l, hp, Hd, μ2, σT, _, XT, sd.ext (e1.trans e2), o2, h2, fun t3 μ3 v3 H3 e3 o3 d3 h3 => ?_, c2.xc⟩
  obtain ⟨u, q2, h3⟩ := h3
  exact ⟨u, q2, slc_ok (c2.ext e3 o3) (d1.ext (e2.trans e3)) h3⟩
end
end Co
set_option Elab.async false
set_option linter.all false
set_option maxRecDepth 100000
set_option maxHeartbeats 1000000
namespace Co
open PySem PySem.Spec PyProof.Rows L2
/-! # Co, part 9: calls, and, or -/
section
variable {P : Pa} {tb : Tb} {n lev : Nat} {cm : Bool} {N : List Str} {sc : Scope} {Ex : Addr → Nat → Prop} {W : WX} {X : Cx} {Hd : Addr → Prop}
variable {a b c : Expr} {ea eb ec : E} {pos : Pos} {es : List Expr} {el : Es} {x' : Str} {p : Pos} {e : Expr}
variable {σ : L2.St} {μ μ' : Mu} {H H' : Hp} {QT QT' : Pq} {XT : Xq} {Q Q' : VK} {s : Shared} {pins : List (Addr × Obj)} {x y : V} {u v : Value} {t t' : T}
theorem s_call {j : Nat} (g : GE P tb n lev true N sc Ex W X) (hj : j < n) (hl : tb.lv j ≤ lev) (hn : P.fn[j]? = some x') (hne : x' ≠ "") (hg : Gl X x') (hd : dbgB x' = true) (hst : noStars (e :: es) = true) (ha : SA P tb Ex W X (e :: es) (sEs P el)) :
    SE P tb Ex W X (.Call (.Name x' p) (e :: es) [] pos) (sE P (.call j el)).v := by
  refine ⟨fun pins s σ H Q I h => ?_⟩
  obtain ⟨Hd, μ, σT, QT, XT, sd, c, h⟩ := h
  refine wpAny_Call_Name_kw (ld_glob I hg ((g.fn j hj).nm x' hn hne) ?_ (dbg_of hd).1)
  have hA := ha.run pos pins s σ H _ I (LA1 (R := fun vs H1 => ∃ μ1 ts, Cn P tb X.K Ex Hd W σ μ1 H1 QT XT Q ∧ DenL P tb X.K Ex (Plc Hd μ1) H1 ts vs ∧ callOk P j ts.length ∧ P.S j (fillD P j ts) μ1 QT XT) sd c.ok c.xc h
    fun ts μ1 vs H1 e1 o1 d1 q => ⟨μ1, ts, c.ext e1 o1, d1, q⟩)
  have h1 := band (show (notStar e && noStars es) = true from hst)
  refine PySem.W.callWith_K (h₀ := X.base) I.ok.mod.kin (g.fn j hj).kp (thn hA fun us s1 ⟨vs, H1, I1, r1, μ1, ts, c1, d1, ck, q⟩ => ⟨I1.kIn, ?_⟩) (starEach_cons h1.1 es X.env) (stars_plain h1.2 pos X.env)
  exact call_fn g hj hl ck I1 c1 d1 r1 q
theorem s_call0 {j : Nat} (g : GE P tb n lev true N sc Ex W X) (hj : j < n) (hl : tb.lv j ≤ lev) (hn : P.fn[j]? = some x') (hne : x' ≠ "") (hg : Gl X x') (hd : dbgB x' = true) :
    SE P tb Ex W X (.Call (.Name x' p) [] [] pos) (sE P (.call j .nil)).v := by
  refine ⟨fun pins s σ H Q I h => ?_⟩
  obtain ⟨Hd, μ, σT, QT, XT, sd, c, ck, h⟩ := h
  refine wpAny_Call_Name_kw (ld_glob I hg ((g.fn j hj).nm x' hn hne) ?_ (dbg_of hd).1)
  exact PySem.W.callWith_K0 I.kIn (g.fn j hj).kp (call_fn (ts := []) (vs := []) (us := []) g hj hl ck I c rfl .nil h)
theorem s_mk {j c0 : Nat} {fz : Bool} (g : GE P tb n lev true N sc Ex W X) (hj : j < n) (hl : tb.lv j + 1 ≤ lev) (hc : P.cn[c0]? = some x') (hm : P.mt c0 initId = some j) (hg : Gl X x') (hd : dbgB x' = true) (hst : noStars (e :: es) = true) (ha : SA P tb Ex W X (e :: es) (sEs P el)) :
    SE P tb Ex W X (.Call (.Name x' p) (e :: es) [] pos) (sE P (.mk c0 j fz el)).v := by
  refine ⟨fun pins s σ H Q I h => ?_⟩
  obtain ⟨Hd, μ, σT, QT, XT, sd, c, h⟩ := h
  obtain ⟨hc0, _⟩ := List.getElem?_eq_some_iff.mp hc
  refine wpAny_Call_Name_kw (ld_glob I hg (g.F.mgc c0 x' hc) ?_ (dbg_of hd).1)
  have hA := ha.run pos pins s σ H _ I (LA1 (R := fun vs H1 => ∃ μ1 ts, Cn P tb X.K Ex Hd W σ μ1 H1 QT XT Q ∧ DenL P tb X.K Ex (Plc Hd μ1) H1 ts vs ∧ wMk P c0 j fz ts μ1 QT XT) sd c.ok c.xc h
    fun ts μ1 vs H1 e1 o1 d1 q => ⟨μ1, ts, c.ext e1 o1, d1, q⟩)
  have h1 := band (show (notStar e && noStars es) = true from hst)
  refine PySem.W.callWith_K (h₀ := X.base) I.ok.mod.kin (g.F.mkf c0 j hc0 hm).kp (thn hA fun us s1 ⟨vs, H1, I1, r1, μ1, ts, c1, d1, q⟩ => ⟨I1.kIn, ?_⟩) (starEach_cons h1.1 es X.env) (stars_plain h1.2 pos X.env)
  exact make_fn g hj hl hc0 hm I1 c1 d1 r1 q
theorem s_mk0 {j c0 : Nat} {fz : Bool} (g : GE P tb n lev true N sc Ex W X) (hj : j < n) (hl : tb.lv j + 1 ≤ lev) (hc : P.cn[c0]? = some x') (hm : P.mt c0 initId = some j) (hg : Gl X x') (hd : dbgB x' = true) :
    SE P tb Ex W X (.Call (.Name x' p) [] [] pos) (sE P (.mk c0 j fz .nil)).v := by
  refine ⟨fun pins s σ H Q I h => ?_⟩
  obtain ⟨Hd, μ, σT, QT, XT, sd, c, h⟩ := h
  obtain ⟨hc0, _⟩ := List.getElem?_eq_some_iff.mp hc
  refine wpAny_Call_Name_kw (ld_glob I hg (g.F.mgc c0 x' hc) ?_ (dbg_of hd).1)
  exact PySem.W.callWith_K0 I.kIn (g.F.mkf c0 j hc0 hm).kp (make_fn (ts := []) (vs := []) (us := []) g hj hl hc0 hm I c rfl .nil h)
/-- what a method's table says -/
theorem dyn_of {lv : Nat → Nat} {m k c0 j : Nat} (h : dynB P lv n lev m k = true) (hj : P.mt c0 m = some j) : j < n ∧ lv j ≤ lev ∧ callOk P j k := by
  unfold Pa.mt at hj
  unfold dynB at h
  have go : ∀ l : List (Nat × Nat × Nat), (l.all fun q => !(q.2.1 == m) || fnOkB P lv n lev q.2.2 k) = true → mtG c0 m l = some j → fnOkB P lv n lev j k = true := by
    intro l
    induction l with
    | nil => intro _ e; cases e
    | cons q r ih =>
      obtain ⟨c', m', j'⟩ := q
      intro hall e
      rw [List.all_cons, Bool.and_eq_true] at hall
      simp only [mtG] at e
      by_cases z : c' = c0 ∧ m' = m
      · rw [if_pos z] at e; cases e
        have h1 := hall.1
        simp only [z.2, beq_self_eq_true, Bool.not_true, Bool.false_or] at h1
        exact h1
      · rw [if_neg z] at e; exact ih hall.2 e
  have h2 := go _ h hj
  unfold fnOkB at h2
  simp only [Bool.and_eq_true, decide_eq_true_eq] at h2
  exact ⟨h2.1, h2.2.1, h2.2.2.2, h2.2.2.1⟩
theorem eval_meth {o : Expr} {m : Str} {apos : Pos} {env : Env} (hs : notSup o = true) (hl : (apos.endLine == pos.line) = true) (hst : noStars es = true) (hf : es.length < 29) :
    eval (.Call (.Attribute o m apos) es [] pos) env = (do
      let ov ← eval o env
      standAt apos.atName
      let (f, first) ← holding [ov] (getMethod ov m (do return (← importBound o env).getD true))
      callWith pos f first (backTo pos (starEach es env)) (backToKw pos (keywordEach [] env))) := by
  have few : methodCallForm (es.length + ([] : List Keyword).length) (backTo pos (starEach es env)) (backToKw pos (keywordEach [] env)) = true := by
    unfold methodCallForm
    rw [stars_few hst]
    simp only [keywordEach, backToKw, List.map_nil, List.all_nil, Bool.true_and, List.length_nil, Nat.add_zero, List.isEmpty_nil, if_pos, decide_eq_true_eq]
    omega
  rw [arm_eval_Call, attrBase hs]
  unfold methodCall calleeOf methodCallPos
  rw [few]
  simp only [Bool.not_true, Bool.false_or, hl, if_true, pure_bind]
theorem pl_any (o : Expr) (env : Env) : True := trivial
/-- the receiver of an own method -/
theorem recv_ok (F : Facts P tb X.K X.mg) {m : Nat} {c0 : Nat} {fs : List (Nat × T)} {j : Nat} (hm : m < P.at_.length) (o : Ok P tb X.K Ex Hd μ H) (d : Den P tb X.K Ex (Plc Hd μ) H t x) (e : insO μ t = some (c0, fs)) (hj : P.mt c0 m = some j) :
    ∃ a dx vs, x = .ref a ∧ H a = some (.ins (tb.ca c0) dx vs) ∧ c0 < P.cn.length ∧ Cls X.K (tb.ca c0) ∧ Meth X.K (tb.ca c0) (nmA P m) (tb.fa j) ∧ vs.lookup (nmA P m) = none := by
  obtain ⟨a, dx, vs, rfl, q, k, dF⟩ := insO_den o d e
  obtain ⟨h1, h2, h3⟩ := F.met c0 m j k.1 hj
  refine ⟨a, dx, vs, rfl, q, k.1, F.cls c0 k.1, h3, DenF.none (fun p hp z => ?_) dF⟩
  have := inj_fl F hm k.2 p hp z
  have hfl := k.2 p hp
  rw [this, h2] at hfl
  cases hfl
theorem met_cases {F : Nat → Prop} {o : Option (Nat × List (Nat × T))} {m : Nat} (h : match o with | some (c, _) => (match P.mt c m with | some j => F j | none => False) | none => False) : ∃ c fs j, o = some (c, fs) ∧ P.mt c m = some j ∧ F j := by
  split at h
  · rename_i c fs
    split at h
    · rename_i j e
      exact ⟨c, fs, j, rfl, e, h⟩
    · exact h.elim
  · exact h.elim
theorem s_met {o : Expr} {eo : E} {m : Nat} {apos : Pos} (g : GE P tb n lev true N sc Ex W X) (hm : m < P.at_.length) (hs : notSup o = true) (hline : (apos.endLine == pos.line) = true) (hf : (e :: es).length < 29) (hst : noStars (e :: es) = true)
    (hd : dynB P tb.lv n lev m (esLen el + 1) = true) (ho : SE P tb Ex W X o (sE P eo).v) (ha : SA P tb Ex W X (e :: es) (sEs P el)) :
    SE P tb Ex W X (.Call (.Attribute o (nmA P m) apos) (e :: es) [] pos) (sE P (.met eo m el)).v := by
  refine ⟨fun pins s σ H Q I h => ?_⟩
  obtain ⟨Hd, μ, σT, QT, XT, sd, c, h⟩ := h
  have hO := ho.run pins s σ H _ I (LE1 sd c.ok c.xc h fun t μ1 v H1 e1 o1 d1 q => (show ∃ μ1 t, Cn P tb X.K Ex Hd W σ μ1 H1 QT XT Q ∧ SD P tb X.K Ex (Plc Hd μ1) H1 σT σ ∧ Den P tb X.K Ex (Plc Hd μ1) H1 t v ∧ _ from ⟨μ1, t, c.ext e1 o1, sd.ext e1, d1, q⟩))
  refine PySem.W.methodCall_KW (thn hO fun ov s1 ⟨x, H1, I1, rx, μ1, t, c1, sd1, d1, q⟩ => ?_) (eval_meth hs hline hst hf)
  obtain ⟨c0, fs, j, hi, hj, q⟩ := met_cases q
  obtain ⟨a, dx, vs, rfl, hH, hc, hcl, hme, hno⟩ := recv_ok g.F hm c1.ok d1 hi hj
  obtain rfl : ov = Value.ref a := rx
  obtain ⟨hjn, hjl, _⟩ := dyn_of hd hj
  refine getmeth_ok I1 hH hcl hme hno ?_
  have h1 := band (show (notStar e && noStars es) = true from hst)
  have hA := ha.run pos pins s1 σ H1 _ I1 (LA1 (R := fun vs H2 => ∃ μ2 ts, Cn P tb X.K Ex Hd W σ μ2 H2 QT XT Q ∧ DenL P tb X.K Ex (Plc Hd μ2) H2 (t :: ts) (.ref a :: vs) ∧ callOk P j (ts.length + 1) ∧ P.S j (fillD P j (t :: ts)) μ2 QT XT) sd1 c1.ok c1.xc q
    fun ts μ2 vs H2 e2 o2 d2 q => ⟨μ2, ts, c1.ext e2 o2, .cons (d1.ext e2) d2, q⟩)
  refine PySem.W.callWith_K (first := [.ref a]) (h₀ := X.base) I1.ok.mod.kin hme.kp (thn hA fun us s2 ⟨vs, H2, I2, r2, μ2, ts, c2, d2, ck, q⟩ => ⟨I2.kIn, ?_⟩) (starEach_cons h1.1 es X.env) (stars_plain h1.2 pos X.env)
  exact call_fn (us := .ref a :: us) g hjn hjl (by rw [List.length_cons]; exact ck) I2 c2 d2 (.cons rfl r2) q
theorem s_met0 {o : Expr} {eo : E} {m : Nat} {apos : Pos} (g : GE P tb n lev true N sc Ex W X) (hm : m < P.at_.length) (hs : notSup o = true) (hline : (apos.endLine == pos.line) = true)
    (hd : dynB P tb.lv n lev m 1 = true) (ho : SE P tb Ex W X o (sE P eo).v) :
    SE P tb Ex W X (.Call (.Attribute o (nmA P m) apos) [] [] pos) (sE P (.met eo m .nil)).v := by
  refine ⟨fun pins s σ H Q I h => ?_⟩
  obtain ⟨Hd, μ, σT, QT, XT, sd, c, h⟩ := h
  have hO := ho.run pins s σ H _ I (LE1 sd c.ok c.xc h fun t μ1 v H1 e1 o1 d1 q => (show ∃ μ1 t, Cn P tb X.K Ex Hd W σ μ1 H1 QT XT Q ∧ SD P tb X.K Ex (Plc Hd μ1) H1 σT σ ∧ Den P tb X.K Ex (Plc Hd μ1) H1 t v ∧ _ from ⟨μ1, t, c.ext e1 o1, sd.ext e1, d1, q⟩))
  refine PySem.W.methodCall_KW (thn hO fun ov s1 ⟨x, H1, I1, rx, μ1, t, c1, sd1, d1, q⟩ => ?_) (eval_meth (es := []) hs hline rfl (by decide))
  obtain ⟨c0, fs, j, hi, hj, q⟩ := met_cases q
  obtain ⟨a, dx, vs, rfl, hH, hc, hcl, hme, hno⟩ := recv_ok g.F hm c1.ok d1 hi hj
  obtain rfl : ov = Value.ref a := rx
  obtain ⟨hjn, hjl, _⟩ := dyn_of hd hj
  refine getmeth_ok I1 hH hcl hme hno ?_
  obtain ⟨ck, q⟩ := q
  exact PySem.W.callWith_K0 (first := [.ref a]) I1.kIn hme.kp (call_fn (ts := [t]) (vs := [.ref a]) (us := [.ref a]) g hjn hjl ck I1 c1 (.one d1) (.cons rfl .nil) q)
/-! ### operators of own classes -/
/-- what an own operator gives back is a value of the layer -/
theorem back_ok {Q0 : Value → Shared → Prop} {r : Value} {s' : Shared} (h : EP X pins σ Q r s') (k : ∀ v H', Inv X pins σ H' s' → RelV v r → Q v H' → Q0 r s') : PySem.W.CmpBack Q0 r s' := by
  obtain ⟨v, H', I, rr, q⟩ := h
  have kk := k v H' I rr q
  cases v with
  | non => cases rr; exact kk
  | bl b => cases rr; exact kk
  | int b => obtain ⟨t, rfl⟩ := rr; exact kk
  | str b => obtain ⟨t, rfl⟩ := rr; exact kk
  | byt b => obtain ⟨t, rfl⟩ := rr; exact kk
  | flt b => obtain ⟨t, rfl⟩ := rr; exact kk
  | ref b => cases rr; exact kk
  | ty b => cases rr; exact kk
theorem own_cases {m : Nat} {ys : List T} (h : wOwn P m t ys μ QT XT) : ∃ c fs j, insO μ t = some (c, fs) ∧ P.mt c m = some j ∧ callOk P j (ys.length + 1) ∧ P.S j (fillD P j (t :: ys)) μ QT XT := by
  unfold wOwn at h
  split at h
  · rename_i c fs e
    split at h
    · rename_i j e2
      exact ⟨c, fs, j, e, e2, h⟩
    · exact h.elim
  · exact h.elim
theorem inst_at {a dx : Addr} {c0 : Nat} {vs : List (Str × V)} (I : Inv X pins σ H s) (h : H a = some (.ins (tb.ca c0) dx vs)) : ∃ od, PySem.W.InstAt s.heap a (PySem.W.instObj (tb.ca c0) dx) (tb.ca c0) (some od) := by
  obtain ⟨mA, J, _⟩ := ins_get I.hok h
  obtain ⟨od, J, _⟩ := J.look
  exact ⟨od, J⟩
theorem neg_own {m : Nat} (g : GE P tb n lev true N sc Ex W X) (hm : m < P.at_.length) (hn : nmA P m = "__neg__") (hd : dynB P tb.lv n lev m 1 = true) (I : Inv X pins σ H s) (rx : RelV x u) (c : Cn P tb X.K Ex Hd W σ μ H QT XT Q) (d1 : Den P tb X.K Ex (Plc Hd μ) H t x) (h : wOwn P m t [] μ QT XT) :
    wpAny (model X.prog X.w) X.A (unaryOp .USub u) (EP X pins σ Q) X.xe s := by
  obtain ⟨c0, fs, j, hi, hj, ck, h⟩ := own_cases h
  obtain ⟨a, dx, vs, rfl, hH, hc, hcl, hme, hno⟩ := recv_ok g.F hm c.ok d1 hi hj
  obtain rfl : u = Value.ref a := rx
  obtain ⟨hjn, hjl, _⟩ := dyn_of hd hj
  obtain ⟨od, J⟩ := inst_at I hH
  obtain ⟨mF, hF⟩ := I.fr
  have ha := hme.at_
  rw [hn] at ha
  exact PySem.W.ksp_neg hF I.ok.mod.kin J ha hme.fn (call_fn (ts := [t]) (vs := [.ref a]) g hjn hjl ck I c (.one d1) (.cons rfl .nil) h)
theorem bin_own {m : Nat} {op : Operator} (g : GE P tb n lev true N sc Ex W X) (hm : m < P.at_.length) (hn : nmA P m = dunder op.info.2) (hd : dynB P tb.lv n lev m 2 = true) (I : Inv X pins σ H s) (rx : RelV x u) (ry : RelV y v) (c : Cn P tb X.K Ex Hd W σ μ H QT XT Q)
    (d1 : Den P tb X.K Ex (Plc Hd μ) H t x) (d2 : Den P tb X.K Ex (Plc Hd μ) H t' y) (hsame : ∀ c fs c' fs', insO μ t = some (c, fs) → insO μ t' = some (c', fs') → c = c') (hins : (insO μ t').isSome = true) (h : wOwn P m t [t'] μ QT XT) :
    wpAny (model X.prog X.w) X.A (binaryOp op u v) (EP X pins σ Q) X.xe s := by
  obtain ⟨c0, fs, j, hi, hj, ck, h⟩ := own_cases h
  obtain ⟨a, dx, vs, rfl, hH, hc, hcl, hme, hno⟩ := recv_ok g.F hm c.ok d1 hi hj
  obtain ⟨⟨c1, gs⟩, hi2⟩ := Option.isSome_iff_exists.mp hins
  have ec := hsame _ _ _ _ hi hi2
  subst ec
  obtain ⟨b, dy, ws, rfl, hH2, _, _⟩ := insO_den c.ok d2 hi2
  obtain rfl : u = Value.ref a := rx
  obtain rfl : v = Value.ref b := ry
  obtain ⟨hjn, hjl, _⟩ := dyn_of hd hj
  obtain ⟨od, J⟩ := inst_at I hH
  obtain ⟨od2, J2⟩ := inst_at I hH2
  obtain ⟨mF, hF⟩ := I.fr
  have ha := hme.at_
  rw [hn] at ha
  refine PySem.W.binop_K hF I.ok.mod.kin J J2.type (g.F.self c0 hc) ha hme.fn (thn (call_fn (ts := [t, t']) (vs := [.ref a, .ref b]) g hjn hjl ck I c (.cons d1 (.one d2)) (.cons rfl (.cons rfl .nil)) h) fun r s' q => back_ok q fun v' H' I' rr q' => ⟨v', H', I', rr, q'⟩)
theorem eq_own {m : Nat} (g : GE P tb n lev true N sc Ex W X) (hm : m < P.at_.length) (hn : nmA P m = "__eq__") (hd : dynB P tb.lv n lev m 2 = true) (I : Inv X pins σ H s) (rx : RelV x u) (ry : RelV y v) (c : Cn P tb X.K Ex Hd W σ μ H QT XT Q)
    (d1 : Den P tb X.K Ex (Plc Hd μ) H t x) (d2 : Den P tb X.K Ex (Plc Hd μ) H t' y) {tv : Value} (htv : ∀ M, PySem.W.Looks M s.heap (typeOf v) tv) (hnf : ∀ c fs, insO μ t = some (c, fs) → PySem.W.notFirst X.K (tb.ca c) tv = true) (h : wOwn P m t [t'] μ QT XT) :
    wpAny (model X.prog X.w) X.A (compareOp .Eq u v) (EP X pins σ Q) X.xe s := by
  obtain ⟨c0, fs, j, hi, hj, ck, h⟩ := own_cases h
  obtain ⟨a, dx, vs, rfl, hH, hc, hcl, hme, hno⟩ := recv_ok g.F hm c.ok d1 hi hj
  obtain rfl : u = Value.ref a := rx
  obtain ⟨hjn, hjl, _⟩ := dyn_of hd hj
  obtain ⟨od, J⟩ := inst_at I hH
  obtain ⟨mF, hF⟩ := I.fr
  have ha := hme.at_
  rw [hn] at ha
  show wpAny (model X.prog X.w) X.A (richCompare .Eq (.ref a) v) (EP X pins σ Q) X.xe s
  refine PySem.W.cmp_K (op := .Eq) (by have := g.un; omega) hF I.ok.mod.kin J (htv _) (hnf _ _ hi) ha hme.fn (thn (call_fn (ts := [t, t']) (vs := [.ref a, y]) g hjn hjl ck I c (.cons d1 (.one d2)) (.cons rfl (.cons ry .nil)) h) fun r s' q => back_ok q fun v' H' I' rr q' => ⟨v', H', I', rr, q'⟩)
end
end Co
set_option Elab.async false
set_option linter.all false
set_option maxRecDepth 100000
set_option maxHeartbeats 1000000
namespace Co
open PySem PySem.Spec PyProof.Rows L2
/-! # Co, part 10: built-in calls, own operators, and | or, isinstance -/
section
variable {P : Pa} {tb : Tb} {n lev : Nat} {cm : Bool} {N : List Str} {sc : Scope} {Ex : Addr → Nat → Prop} {W : WX} {X : Cx} {Hd : Addr → Prop}
variable {a b c : Expr} {ea eb ec : E} {pos : Pos} {es : List Expr} {el : Es} {x' : Str} {p : Pos} {e : Expr}
variable {σ : L2.St} {μ μ' : Mu} {H H' : Hp} {QT QT' : Pq} {XT : Xq} {Q Q' : VK} {s : Shared} {pins : List (Addr × Obj)} {x y : V} {u v : Value} {t t' : T}
theorem boot_all : bootBuiltins "len" = some (.builtin "len") ∧ bootBuiltins "abs" = some (.builtin "abs") ∧ bootBuiltins "int" = some (.type "int") ∧ bootBuiltins "min" = some (.builtin "min") ∧ bootBuiltins "max" = some (.builtin "max") ∧
    bootBuiltins "sum" = some (.builtin "sum") ∧ bootBuiltins "any" = some (.builtin "any") ∧ bootBuiltins "all" = some (.builtin "all") ∧ bootBuiltins "list" = some (.type "list") ∧ bootBuiltins "tuple" = some (.type "tuple") ∧
    bootBuiltins "isinstance" = some (.builtin "isinstance") ∧ bootBuiltins "bool" = some (.type "bool") ∧ bootBuiltins "str" = some (.type "str") ∧ bootBuiltins "ValueError" = some (.type "ValueError") := by decide +kernel
theorem ld_bi {Q0 : Value → Shared → Prop} (F : Facts P tb X.K X.mg) {b : Bi} (hb : biS b = true) (hg : Gl X (biN b)) (hgc : b = .gcd → P.gcd = true) (I : Inv X pins σ H s) (h : Q0 (biV b) s) : wpAny (model X.prog X.w) X.A (eval (.Name (biN b) p) X.env) Q0 X.xe s := by
  obtain ⟨b1, b2, b3, b4, b5, b6, b7, b8, b9, b10, _⟩ := boot_all
  cases b with
  | len => exact ld_blt I hg (F.fr _ (by simp [blts, biN])) b1 h (by decide +kernel) (by decide +kernel)
  | abs => exact ld_blt I hg (F.fr _ (by simp [blts, biN])) b2 h (by decide +kernel) (by decide +kernel)
  | int => exact ld_blt I hg (F.fr _ (by simp [blts, biN])) b3 h (by decide +kernel) (by decide +kernel)
  | min1 => exact ld_blt I hg (F.fr _ (by simp [blts, biN])) b4 h (by decide +kernel) (by decide +kernel)
  | min2 => exact ld_blt I hg (F.fr _ (by simp [blts, biN])) b4 h (by decide +kernel) (by decide +kernel)
  | max1 => exact ld_blt I hg (F.fr _ (by simp [blts, biN])) b5 h (by decide +kernel) (by decide +kernel)
  | max2 => exact ld_blt I hg (F.fr _ (by simp [blts, biN])) b5 h (by decide +kernel) (by decide +kernel)
  | sum => exact ld_blt I hg (F.fr _ (by simp [blts, biN])) b6 h (by decide +kernel) (by decide +kernel)
  | any => exact ld_blt I hg (F.fr _ (by simp [blts, biN])) b7 h (by decide +kernel) (by decide +kernel)
  | all => exact ld_blt I hg (F.fr _ (by simp [blts, biN])) b8 h (by decide +kernel) (by decide +kernel)
  | list => exact ld_blt I hg (F.fr _ (by simp [blts, biN])) b9 h (by decide +kernel) (by decide +kernel)
  | tuple => exact ld_blt I hg (F.fr _ (by simp [blts, biN])) b10 h (by decide +kernel) (by decide +kernel)
  | gcd => exact ld_glob I hg (F.gcd (hgc rfl)) h (by decide +kernel)
  | _ => cases hb
theorem callWith_bi {Q0 : Value → Shared → Prop} {b : Bi} (hb : biS b = true) (hst : noStars (e :: es) = true) (h : wpAny (model X.prog X.w) X.A (spliced (backTo pos (starEach (e :: es) X.env))) (fun us s1 => wpAny (model X.prog X.w) X.A (call (biV b) us) Q0 X.xe s1) X.xe s) :
    wpAny (model X.prog X.w) X.A (callWith pos (biV b) [] (backTo pos (starEach (e :: es) X.env)) (backToKw pos (keywordEach [] X.env))) Q0 X.xe s := by
  have h1 := band (show (notStar e && noStars es) = true from hst)
  have k1 := starEach_cons h1.1 es X.env
  have k2 := stars_plain h1.2 pos X.env
  have hv : (∃ i, biV b = .builtin i) ∨ ∃ T, biV b = .type T := by
    cases b <;> first | exact .inl ⟨_, rfl⟩ | exact .inr ⟨_, rfl⟩
  generalize biV b = bv at h hv
  rcases hv with ⟨i, rfl⟩ | ⟨T, rfl⟩
  · exact PyProof.Rows.callWith_builtin1 h k1 k2
  · exact PyProof.Rows.callWith_type1 h k1 k2
theorem s_bi {mu : Bool} {b : Bi} (F : Facts P tb X.K X.mg) (hc : X.calm = true) (hb : biS b = true) (hg : Gl X (biN b)) (hgc : b = .gcd → P.gcd = true) (hst : noStars (e :: es) = true) (ha : SA P tb Ex W X (e :: es) (sEs P el)) :
    SE P tb Ex W X (.Call (.Name (biN b) p) (e :: es) [] pos) (sE P (.bi mu b el)).v := by
  refine ⟨fun pins s σ H Q I h => ?_⟩
  obtain ⟨Hd, μ, σT, QT, XT, sd, c, h⟩ := h
  refine wpAny_Call_Name_kw (ld_bi F hb hg hgc I ?_)
  have hA := ha.run pos pins s σ H _ I (LA1 (R := fun vs H1 => ∃ μ1 ts, Cn P tb X.K Ex Hd W σ μ1 H1 QT XT Q ∧ DenL P tb X.K Ex (Plc Hd μ1) H1 ts vs ∧ wBi mu b ts μ1 QT) sd c.ok c.xc h
    fun ts μ1 vs H1 e1 o1 d1 q => ⟨μ1, ts, c.ext e1 o1, d1, q⟩)
  exact callWith_bi hb hst (thn hA fun us s1 ⟨vs, H1, I1, r1, μ1, ts, c1, d1, q⟩ => bi_ok b hc hb I1 c1 d1 r1 q)
theorem pa_list : PlainAttrs "list" := PySem.F.plainAttrs_list
theorem s_bm {o : Expr} {eo : E} {m : Bm} {apos : Pos} (hm : bmL m = true) (hs : notSup o = true) (hline : (apos.endLine == pos.line) = true) (hf : (e :: es).length < 29) (hst : noStars (e :: es) = true) (hne : m ≠ .pop0) (ho : SE P tb Ex W X o (sE P eo).v) (ha : SA P tb Ex W X (e :: es) (sEs P el)) :
    SE P tb Ex W X (.Call (.Attribute o (bmN m) apos) (e :: es) [] pos) (sE P (.bm eo m el)).v := by
  have h1 := band (show (notStar e && noStars es) = true from hst)
  have hfew : ((backTo pos (starEach (e :: es) X.env)).all (fun x => !x.1) && (backToKw pos (keywordEach [] X.env)).all (fun x => x.1.isSome)
      && decide ((e :: es).length + ([] : List Keyword).length + (if ([] : List Keyword).isEmpty then 0 else 1) < 30)) = true := by
    rw [stars_few hst]
    simp only [keywordEach, backToKw, List.map_nil, List.all_nil, Bool.true_and, List.length_nil, Nat.add_zero, List.isEmpty_nil, if_pos, decide_eq_true_eq]
    omega
  have key : ∀ {idn : String}, Slot "list" (bmN m) idn → typeOf (.builtin idn) = pure (.type "method_descriptor") → idn = bmI m → SE P tb Ex W X (.Call (.Attribute o (bmN m) apos) (e :: es) [] pos) (sE P (.bm eo m el)).v := by
    intro idn slot hty hid
    subst hid
    have R := pe_bm (X := X) (r := fun x vs H Q => ∃ (Hd : Addr → Prop) (μ : Mu) (t : T) (ts : List T) (QT : Pq) (XT : Xq) (σ' : L2.St), Cn P tb X.K Ex Hd W σ' μ H QT XT Q ∧ Den P tb X.K Ex (Plc Hd μ) H t x ∧ DenL P tb X.K Ex (Plc Hd μ) H ts vs ∧ wBm m t ts μ QT) pa_list slot hty
      (fun pins s σ H x xs v us Q I rx rs ⟨Hd, μ, t, ts, QT, XT, σ', c, d, dl, q⟩ => bm_ok m hm I rx d (c.noX (W' := fun _ _ _ _ => True)) dl rs q) ho ha (attrBase hs _ _ _) hfew hline (starEach_cons h1.1 es X.env) (stars_plain h1.2 pos X.env)
    refine PE.imp' R fun σ H Q h => ?_
    obtain ⟨Hd, μ, σT, QT, XT, sd, c, h⟩ := h
    refine LE1 sd c.ok c.xc h fun t μ1 v H1 e1 o1 d1 ⟨hr, q⟩ => ⟨rcv_list hm o1 d1 hr, ?_⟩
    exact LA1 (sd.ext e1) o1 (c.ext e1 o1).xc q fun ts μ2 vs H2 e2 o2 d2 q2 => ⟨Hd, μ2, t, ts, QT, XT, σ, c.ext (e1.trans e2) o2, d1.ext e2, d2, q2⟩
  cases m with
  | append => exact key PySem.F.slot_list_append PySem.F.type_list_append rfl
  | pop1 => exact key PySem.F.slot_list_pop PySem.F.type_list_pop rfl
  | pop0 => exact absurd rfl hne
  | _ => cases hm
theorem s_bm0 {o : Expr} {eo : E} {apos : Pos} (hs : notSup o = true) (hline : (apos.endLine == pos.line) = true) (ho : SE P tb Ex W X o (sE P eo).v) :
    SE P tb Ex W X (.Call (.Attribute o (bmN .pop0) apos) [] [] pos) (sE P (.bm eo .pop0 .nil)).v := by
  have R := pe_bm0 (X := X) (r := fun x vs H Q => ∃ (Hd : Addr → Prop) (μ : Mu) (t : T) (ts : List T) (QT : Pq) (XT : Xq) (σ' : L2.St), Cn P tb X.K Ex Hd W σ' μ H QT XT Q ∧ Den P tb X.K Ex (Plc Hd μ) H t x ∧ DenL P tb X.K Ex (Plc Hd μ) H ts vs ∧ wBm .pop0 t ts μ QT) pa_list PySem.F.slot_list_pop PySem.F.type_list_pop
    (fun pins s σ H x xs v us Q I rx rs ⟨Hd, μ, t, ts, QT, XT, σ', c, d, dl, q⟩ => bm_ok .pop0 rfl I rx d (c.noX (W' := fun _ _ _ _ => True)) dl rs q) ho (attrBase hs _ _ _) hline
  refine PE.imp' R fun σ H Q h => ?_
  obtain ⟨Hd, μ, σT, QT, XT, sd, c, h⟩ := h
  exact LE1 sd c.ok c.xc h fun t μ1 v H1 e1 o1 d1 ⟨hr, q⟩ => ⟨rcv_list rfl o1 d1 hr, Hd, μ1, t, [], QT, XT, σ, c.ext e1 o1, d1, rfl, q⟩
/-! ### own operators -/
theorem sameC_of {μ : Mu} {t t' : T} (h : sameC μ t t' = true) : (∀ c fs c' fs', insO μ t = some (c, fs) → insO μ t' = some (c', fs') → c = c') ∧ (insO μ t').isSome = true := by
  unfold sameC at h
  split at h
  · rename_i c fs c' fs' e1 e2
    refine ⟨fun c1 f1 c2 f2 h1 h2 => ?_, by rw [e2]; rfl⟩
    rw [e1] at h1; rw [e2] at h2
    cases h1; cases h2
    exact eq_of_beq h
  · cases h
theorem s_obin {m : Nat} {op : Operator} (g : GE P tb n lev true N sc Ex W X) (hm : m < P.at_.length) (hn : nmA P m = dunder op.info.2) (hd : dynB P tb.lv n lev m 2 = true) (ha : SE P tb Ex W X a (sE P ea).v) (hb : SE P tb Ex W X b (sE P eb).v) :
    SE P tb Ex W X (.BinOp a op b pos) (sE P (.obin m ea eb)).v := by
  refine ⟨fun pins s σ H Q I h => ?_⟩
  obtain ⟨Hd, μ, σT, QT, XT, sd, c, h⟩ := h
  refine wpAny_BinOp (L2.bin ha hb I (LE2 sd c h) fun v u s2 x y H2 I2 rx ry ⟨μ2, t, t', c2, d1, d2, hsm, q⟩ => ?_)
  obtain ⟨h1, h2⟩ := sameC_of hsm
  exact bin_own g hm hn hd I2 rx ry c2 d1 d2 h1 h2 q
theorem s_ong {m : Nat} (g : GE P tb n lev true N sc Ex W X) (hm : m < P.at_.length) (hn : nmA P m = "__neg__") (hd : dynB P tb.lv n lev m 1 = true) (ha : SE P tb Ex W X a (sE P ea).v) :
    SE P tb Ex W X (.UnaryOp .USub a pos) (sE P (.ong m ea)).v := by
  refine ⟨fun pins s σ H Q I h => ?_⟩
  obtain ⟨Hd, μ, σT, QT, XT, sd, c, h⟩ := h
  refine UnaryOp_ (thn (ha.run pins s σ H _ I (LE1 (R := fun v H1 => ∃ μ1 t, Cn P tb X.K Ex Hd W σ μ1 H1 QT XT Q ∧ Den P tb X.K Ex (Plc Hd μ1) H1 t v ∧ wOwn P m t [] μ1 QT XT) sd c.ok c.xc h fun t μ1 v H1 e1 o1 d1 q => ⟨μ1, t, c.ext e1 o1, d1, q⟩)) fun u s1 hh => ?_)
  obtain ⟨x, H1, I1, r1, μ1, t, c1, d1, q⟩ := hh
  exact neg_own g hm hn hd I1 r1 c1 d1 q
/-- the type of a value, looked up -/
theorem look_ty {ty : Value} (I : Inv X pins σ H s) (rx : RelV x u) (o : Ok P tb X.K Ex Hd μ H) (d : Den P tb X.K Ex (Plc Hd μ) H t x) (h : tyT tb μ t = some ty) : ∀ M, PySem.W.Looks M s.heap (typeOf u) ty := by
  have ref : ∀ {a : Addr} {ob : Obj}, s.heap.get? a = some ob → ∀ M, PySem.W.Looks M s.heap (typeOf (.ref a)) ob.cls := fun {a ob} e M A Q E s' k q => wpAny_typeOf_ref (k _ _ e) q
  have lst : ∀ {a : Addr} {vs : List V}, H a = some (.lst vs) → ∀ M, PySem.W.Looks M s.heap (typeOf (.ref a)) (.type "list") := fun {a vs} e M => by
    obtain ⟨_, its, n, _, q⟩ := I.hok a _ e
    exact ref q M
  have ins : ∀ {a dx : Addr} {c : Nat} {vs : List (Str × V)}, H a = some (.ins (tb.ca c) dx vs) → ∀ M, PySem.W.Looks M s.heap (typeOf (.ref a)) (.ref (tb.ca c)) := fun {a dx c vs} e M => by
    obtain ⟨_, J⟩ := inst_at (tb := tb) I e
    exact J.type
  cases t with
  | non => simp only [tyT, Option.some.injEq] at h; subst h; rw [show x = .non from d] at rx; cases rx; intro M A Q E s' k q; exact wpAny_pure q
  | bl b => simp only [tyT, Option.some.injEq] at h; subst h; rw [show x = .bl b from d] at rx; cases rx; intro M A Q E s' k q; exact wpAny_pure q
  | int b => simp only [tyT, Option.some.injEq] at h; subst h; rw [show x = .int b from d] at rx; obtain ⟨t, rfl⟩ := rx; intro M A Q E s' k q; exact wpAny_pure q
  | str b => simp only [tyT, Option.some.injEq] at h; subst h; rw [show x = .str b from d] at rx; obtain ⟨t, rfl⟩ := rx; intro M A Q E s' k q; exact wpAny_pure q
  | tup b =>
    simp only [tyT, Option.some.injEq] at h; subst h
    obtain ⟨a, vs, rfl, q, _⟩ := seqO_den (xs := b) o d rfl
    cases rx
    rcases q with q | q
    · obtain ⟨its, _, ⟨ob, n, e, hc, _⟩, _⟩ := I.list q
      obtain ⟨a', vs', ea, q', _⟩ := d
      cases ea
      have hq : SqT X.K H a vs' := by
        rcases q' with ⟨_, q'⟩ | q'
        · exact .inl q'
        · exact q' H
      obtain ⟨its2, _, ⟨ob2, e2, hc2, _⟩, _⟩ := I.tuple hq
      intro M
      have := ref e2 M
      rw [hc2] at this
      exact this
    · obtain ⟨its2, _, ⟨ob2, e2, hc2, _⟩, _⟩ := I.tuple q
      intro M
      have := ref e2 M
      rw [hc2] at this
      exact this
  | lst b =>
    simp only [tyT, Option.some.injEq] at h; subst h
    obtain ⟨a, vs, rfl, q, _⟩ := lstO_den (xs := b) o d rfl
    cases rx
    exact lst q
  | ins c fs =>
    simp only [tyT, Option.some.injEq] at h; subst h
    obtain ⟨a, dx, vs, rfl, q, _⟩ := insO_den o d rfl
    cases rx
    exact ins q
  | h a =>
    rw [show x = .ref a from d] at rx
    cases rx
    simp only [tyT] at h
    split at h
    · rename_i xs e
      simp only [Option.some.injEq] at h; subst h
      obtain ⟨_, vs, q, _⟩ := o.own a _ e
      exact lst q
    · rename_i c fs e
      simp only [Option.some.injEq] at h; subst h
      obtain ⟨_, dx, vs, q, _⟩ := o.own a _ e
      exact ins q
    · cases h
  | _ => simp [tyT] at h
theorem ty_first (F : Facts P tb X.K X.mg) (o : Ok P tb X.K Ex Hd μ H) (d : Den P tb X.K Ex (Plc Hd μ) H t x) {ty : Value} (h : tyT tb μ t = some ty) {c : Nat} (hc : c < P.cn.length) : PySem.W.notFirst X.K (tb.ca c) ty = true := by
  cases t with
  | non => simp only [tyT, Option.some.injEq] at h; subst h; exact F.nfB c _ hc (by simp)
  | bl b => simp only [tyT, Option.some.injEq] at h; subst h; exact F.nfB c _ hc (by simp)
  | int b => simp only [tyT, Option.some.injEq] at h; subst h; exact F.nfB c _ hc (by simp)
  | str b => simp only [tyT, Option.some.injEq] at h; subst h; exact F.nfB c _ hc (by simp)
  | tup b => simp only [tyT, Option.some.injEq] at h; subst h; exact F.nfB c _ hc (by simp)
  | lst b => simp only [tyT, Option.some.injEq] at h; subst h; exact F.nfB c _ hc (by simp)
  | ins c' fs =>
    simp only [tyT, Option.some.injEq] at h; subst h
    obtain ⟨_, _, _, _, _, k, _⟩ := insO_den o d rfl
    exact F.nf c c' hc k.1
  | h a =>
    simp only [tyT] at h
    split at h
    · simp only [Option.some.injEq] at h; subst h; exact F.nfB c _ hc (by simp)
    · rename_i c' fs e
      simp only [Option.some.injEq] at h; subst h
      obtain ⟨_, _, _, _, k, _⟩ := o.own a _ e
      exact F.nf c c' hc k.1
    · cases h
  | _ => simp [tyT] at h
theorem oeq_ok {m : Nat} (g : GE P tb n lev true N sc Ex W X) (hm : m < P.at_.length) (hn : nmA P m = "__eq__") (hd : dynB P tb.lv n lev m 2 = true) (I : Inv X pins σ H s) (rx : RelV x u) (ry : RelV y v) (c : Cn P tb X.K Ex Hd W σ μ H QT XT Q)
    (d1 : Den P tb X.K Ex (Plc Hd μ) H t x) (d2 : Den P tb X.K Ex (Plc Hd μ) H t' y) (hk : tyKn μ t' = true) (h : wOwn P m t [t'] μ (fun t μ' => ∃ b, t = .bl b ∧ QT (.bl (b ^^ false)) μ') XT) :
    wpAny (model X.prog X.w) X.A (compareOp .Eq u v) (EP X pins σ Q) X.xe s := by
  obtain ⟨ty, hty⟩ := tyKn_ty (tb := tb) hk
  have c' : Cn P tb X.K Ex Hd W σ μ H (fun t μ' => ∃ b, t = .bl b ∧ QT (.bl (b ^^ false)) μ') XT Q :=
    ⟨c.ok, fun t μ' v H' e o d ⟨b, hb, q⟩ => by subst hb; rw [xorF] at q; exact c.nx (.bl b) μ' v H' e o d q, c.xc⟩
  refine eq_own g hm hn hd I rx ry c' d1 d2 (look_ty I ry c.ok d2 hty) (fun c0 fs e => ?_) h
  obtain ⟨_, _, _, _, _, k, _⟩ := insO_den c.ok d1 e
  exact ty_first g.F c.ok d2 hty k.1
theorem s_oeq {m : Nat} (g : GE P tb n lev true N sc Ex W X) (hm : m < P.at_.length) (hn : nmA P m = "__eq__") (hd : dynB P tb.lv n lev m 2 = true) (hs : notSet b = true) (ha : SE P tb Ex W X a (sE P ea).v) (hb : SE P tb Ex W X b (sE P eb).v) :
    SE P tb Ex W X (.Compare a [.Eq] [b] pos) (sE P (.oeq false m ea eb)).v := by
  refine ⟨fun pins s σ H Q I h => ?_⟩
  obtain ⟨Hd, μ, σT, QT, XT, sd, c, h⟩ := h
  exact wpAny_Compare1 (L2.bin ha hb I (LE2 sd c h) fun v u s2 x y H2 I2 rx ry ⟨μ2, t, t', c2, d1, d2, hk, q⟩ => oeq_ok g hm hn hd I2 rx ry c2 d1 d2 hk q) (notSet_in hs _)
theorem t_oeq {m : Nat} (g : GE P tb n lev true N sc Ex W X) (hm : m < P.at_.length) (hn : nmA P m = "__eq__") (hd : dynB P tb.lv n lev m 2 = true) (hs : notSet b = true) (ha : SE P tb Ex W X a (sE P ea).v) (hb : SE P tb Ex W X b (sE P eb).v) :
    ST P tb Ex W X (.Compare a [.Eq] [b] pos) (sE P (.oeq false m ea eb)).t := by
  refine ⟨fun pins s σ H Q I h => ?_⟩
  obtain ⟨Hd, μ, σT, QT, XT, sd, c, h⟩ := h
  refine wpAny_isTrue_Compare1 (L2.bin ha hb I (LE2 sd (cn_of_cb c) h) fun v u s2 x y H2 I2 rx ry ⟨μ2, t, t', c2, d1, d2, hk, q⟩ => ?_) (notSet_in hs _)
  refine thn (oeq_ok g hm hn hd I2 rx ry c2 d1 d2 hk q) fun w s3 ⟨z, H3, I3, r3, b, e, q3⟩ => ?_
  subst e; cases r3
  exact wpAny_truthy_bool ⟨H3, I3, q3⟩
/-! ### isinstance -/
theorem ty_pe (F : Facts P tb X.K X.mg) {c0 : Ty} (hc : tyOk P c0 = true) (hs : X.env.scope = sc) (h : tyB P sc c0 e = true) : PE X e (tC (tyW tb c0)) ∧ ClsV (tyW tb c0) (tyU tb c0) ∧ notStar e = true := by
  cases e with
  | Name x p =>
    have h' := band (show (decide (x = tyN P c0) && (gloB sc x && dbgB x)) = true from h)
    have h2 := band h'.2
    have hx : x = tyN P c0 := of_decide_eq_true h'.1
    have hg := glo_of (X := X) hs h2.1
    obtain ⟨d1, _, d3⟩ := dbg_of h2.2
    obtain ⟨b1, b2, b3, b4, b5, b6, b7, b8, b9, b10, b11, b12, b13, _⟩ := boot_all
    subst hx
    cases c0 with
    | tint => exact ⟨pe_bltn hg (F.fr _ (by simp [blts, tyN])) b3 (v := .ty "int") rfl d3 d1, .ty _, rfl⟩
    | tbool => exact ⟨pe_bltn hg (F.fr _ (by simp [blts, tyN])) b12 (v := .ty "bool") rfl d3 d1, .ty _, rfl⟩
    | tlist => exact ⟨pe_bltn hg (F.fr _ (by simp [blts, tyN])) b9 (v := .ty "list") rfl d3 d1, .ty _, rfl⟩
    | ttuple => exact ⟨pe_bltn hg (F.fr _ (by simp [blts, tyN])) b10 (v := .ty "tuple") rfl d3 d1, .ty _, rfl⟩
    | tstr => exact ⟨pe_bltn hg (F.fr _ (by simp [blts, tyN])) b13 (v := .ty "str") rfl d3 d1, .ty _, rfl⟩
    | cls c =>
      have hc' : c < P.cn.length := of_decide_eq_true hc
      have e1 : P.cn[c]? = some (tyN P (.cls c)) := by
        show _ = some (P.cn.getD c "")
        rw [List.getD_eq_getElem?_getD, List.getElem?_eq_getElem hc']; rfl
      exact ⟨pe_glob hg (F.mgc c _ e1) (v := .ref (tb.ca c)) rfl d1, .own _, rfl⟩
    | exc _ => cases hc
    | tve => cases hc
  | _ => exact nomatch (show false = true from h)
theorem s_isi {c0 : Ty} (F : Facts P tb X.K X.mg) (hc : tyOk P c0 = true) (hs : X.env.scope = sc) (hg : Gl X "isinstance") (ht : tyB P sc c0 e = true) (hst : notStar a = true) (ha : SE P tb Ex W X a (sE P ea).v) :
    SE P tb Ex W X (.Call (.Name "isinstance" p) [a, e] [] pos) (sE P (.isi ea c0)).v := by
  obtain ⟨hT, hcl, hst2⟩ := ty_pe F hc hs ht
  have hA : PA X [a, e] (tCons (LE P tb Ex W X.K (sE P ea).v) (tCons (tC (tyW tb c0)) tNil)) := pa_cons ha (pa_cons hT pa_nil (starEach_cons hst2 [] X.env)) (starEach_cons hst [e] X.env)
  refine PE.imp' (pe_callB call_isi hg (F.fr _ (by simp [blts])) boot_all.2.2.2.2.2.2.2.2.2.2.1 hA (by decide +kernel) (by decide +kernel) (starEach_cons hst [e] X.env) (stars_plain (es := [e]) (by show (notStar e && true) = true; rw [hst2]; rfl) pos X.env)) fun σ H Q h => ?_
  obtain ⟨Hd, μ, σT, QT, XT, sd, c, h⟩ := h
  refine LE1 sd c.ok c.xc h fun t μ1 v H1 e1 o1 d1 ⟨hk, q⟩ => ?_
  obtain ⟨ty, hty⟩ := tyKn_ty (tb := tb) hk
  refine ⟨v, _, ty, _, _, rfl, hcl, tyT_den F o1 d1 hty, isi_ok F hc o1 d1 hty (fun c1 fs e' => ?_), (c.ext e1 o1).here (t := .bl _) rfl q⟩
  obtain ⟨_, _, _, _, _, k, _⟩ := insO_den o1 d1 e'
  exact k.1
end
end Co
set_option Elab.async false
set_option linter.all false
set_option maxRecDepth 100000
set_option maxHeartbeats 1000000
namespace Co
open PySem PySem.Spec PyProof.Rows L2
/-! # Co, part 11: what is walked, targets, comprehensions -/
section
variable {P : Pa} {tb : Tb} {n lev : Nat} {cm : Bool} {N : List Str} {sc : Scope} {Ex : Addr → Nat → Prop} {W : WX} {X : Cx} {Hd Hd' : Addr → Prop}
variable {a b c : Expr} {ea eb ec : E} {pos : Pos} {es : List Expr} {el : Es} {x' : Str} {p : Pos} {e : Expr}
variable {σ : L2.St} {σT : Sg} {μ μ' μ1 : Mu} {H H' H1 : Hp} {QT QT' : Pq} {XT : Xq} {Q Q' : VK} {s : Shared} {pins : List (Addr × Obj)} {x y : V} {u v : Value} {t t' : T} {K : PySem.W.Frag} {tg : Expr}
/-- from one hidden part to another -/
theorem gr_pl (x : Co.Ext μ H μ1 H1) (hh : ∀ a, Hd' a → Hd a ∨ H a = none) : ∀ a, Plc Hd μ a → H a ≠ none → Plc Hd' μ1 a ∧ H1 a = H a := fun a p h => by
  obtain ⟨n, e⟩ := x a h p.1
  refine ⟨⟨n, fun z => ?_⟩, e⟩
  rcases hh a z with q | q
  · exact p.2 q
  · exact h q
theorem DenL.gr (x : Co.Ext μ H μ1 H1) (hh : ∀ a, Hd' a → Hd a ∨ H a = none) {ts : List T} {vs : List V} (h : DenL P tb K Ex (Plc Hd μ) H ts vs) : DenL P tb K Ex (Plc Hd' μ1) H1 ts vs := h.mono (gr_pl x hh) fun _ _ z => z
theorem Den.gr (x : Co.Ext μ H μ1 H1) (hh : ∀ a, Hd' a → Hd a ∨ H a = none) {t : T} {v : V} (h : Den P tb K Ex (Plc Hd μ) H t v) : Den P tb K Ex (Plc Hd' μ1) H1 t v := h.mono (gr_pl x hh) fun _ _ z => z
/-- J walks the items as long as gd holds of the store -/
def Wlk (P : Pa) (tb : Tb) (K : PySem.W.Frag) (Ex : Addr → Nat → Prop) (Hd : Addr → Prop) (μ : Mu) (H : Hp) (J : L2.It) (items : List T) (gd : Mu → Prop) : Prop :=
  ∀ (Hd' : Addr → Prop) (μ1 : Mu) (H1 : Hp) (i : Nat), Co.Ext μ H μ1 H1 → (∀ a, Hd' a → Hd a ∨ H a = none) → Ok P tb K Ex Hd' μ1 H1 → gd μ1 →
    (items.length ≤ i → J.stop i H1) ∧ (∀ t, items[i]? = some t → J.go i H1 ∧ ∀ x H2, J.yld i H1 x H2 → Co.Ext μ1 H1 μ1 H2 ∧ Ok P tb K Ex Hd' μ1 H2 ∧ Den P tb K Ex (Plc Hd' μ1) H2 t x)
def LI (P : Pa) (tb : Tb) (Ex : Addr → Nat → Prop) (W : WX) (K : PySem.W.Frag) (ei : EI) : TI := fun σ H R => ∃ (Hd : Addr → Prop) (μ : Mu) (σT : Sg) (RT : List T → (Mu → Prop) → Mu → Prop) (XT : Xq), SD P tb K Ex (Plc Hd μ) H σT σ ∧ Ok P tb K Ex Hd μ H ∧ ei σT μ RT XT ∧
  (∀ items gd μ' H' J, Co.Ext μ H μ' H' → Ok P tb K Ex Hd μ' H' → gd μ' → Wlk P tb K Ex Hd μ' H' J items gd → RT items gd μ' → R J H') ∧ (∀ c μ' H', Co.Ext μ H μ' H' → Ok P tb K Ex Hd μ' H' → XT c μ' → W (.ref (tb.xa c)) none σ H')
abbrev SI (P : Pa) (tb : Tb) (Ex : Addr → Nat → Prop) (W : WX) (X : Cx) (tg ex : Expr) (ei : EI) : Prop := PI X tg ex (LI P tb Ex W X.K ei)
theorem PI.imp' {wi wi' : TI} (h : PI X tg e wi) (i : ∀ σ H R, wi' σ H R → wi σ H R) : PI X tg e wi' := ⟨fun pins s σ H R I q => h.run pins s σ H R I (i σ H R q)⟩
/-! ### the walks -/
/-- what stands at a list's address -/
theorem lstG_den {xs : List T} {gd : Mu → Prop} (o : Ok P tb K Ex Hd μ H) (d : Den P tb K Ex (Plc Hd μ) H t x) (e : lstG μ t = some (xs, gd)) : gd μ ∧ ∃ a vs, x = .ref a ∧ H a = some (.lst vs) ∧
    ∀ (Hd' : Addr → Prop) (μ1 : Mu) (H1 : Hp), Co.Ext μ H μ1 H1 → (∀ a, Hd' a → Hd a ∨ H a = none) → Ok P tb K Ex Hd' μ1 H1 → gd μ1 → ∃ ws, H1 a = some (.lst ws) ∧ DenL P tb K Ex (Plc Hd' μ1) H1 xs ws := by
  cases t with
  | lst ys =>
    simp only [lstG, Option.some.injEq, Prod.mk.injEq] at e
    obtain ⟨rfl, rfl⟩ := e
    obtain ⟨a, vs, rfl, pl, q, dl⟩ := d
    refine ⟨trivial, a, vs, rfl, q, fun Hd' μ1 H1 ex hh o1 _ => ?_⟩
    obtain ⟨_, eq⟩ := ex a (by rw [q]; intro z; cases z) pl.1
    exact ⟨vs, eq.trans q, dl.gr ex hh⟩
  | h a =>
    simp only [lstG] at e
    split at e
    · rename_i ys eq
      simp only [Option.some.injEq, Prod.mk.injEq] at e
      obtain ⟨rfl, rfl⟩ := e
      obtain ⟨_, vs, q, dl⟩ := o.own a _ eq
      refine ⟨eq, a, vs, d, q, fun Hd' μ1 H1 ex hh o1 g => ?_⟩
      obtain ⟨_, ws, q2, d2⟩ := o1.own a _ g
      exact ⟨ws, q2, d2⟩
    · cases e
  | _ => simp [lstG] at e
/-- what stands at a tuple's address -/
theorem tup_den {xs : List T} (d : Den P tb K Ex (Plc Hd μ) H (.tup xs) x) : ∃ a vs, x = .ref a ∧ SqT K H a vs ∧
    ∀ (Hd' : Addr → Prop) (μ1 : Mu) (H1 : Hp), Co.Ext μ H μ1 H1 → (∀ a, Hd' a → Hd a ∨ H a = none) → SqT K H1 a vs ∧ DenL P tb K Ex (Plc Hd' μ1) H1 xs vs := by
  obtain ⟨a, vs, rfl, q, dl⟩ := d
  refine ⟨a, vs, rfl, ?_, fun Hd' μ1 H1 ex hh => ⟨?_, dl.gr ex hh⟩⟩
  · rcases q with ⟨_, q⟩ | q
    · exact .inl q
    · exact q H
  · rcases q with ⟨pl, q⟩ | q
    · have hn : H a ≠ none := by rcases q with q | ⟨o, q⟩ <;> rw [q] <;> intro z <;> cases z
      obtain ⟨_, eq⟩ := ex a hn pl.1
      rcases q with q | ⟨o, q⟩
      · exact .inl (.inl (eq.trans q))
      · exact .inl (.inr ⟨o, eq.trans q⟩)
    · exact q H1
/-- H tells one list at an address -/
theorem sq_one {a : Addr} {vs ws : List V} (h : H a = some (.lst vs)) (h' : SqL K H a ws) (hk : ∀ o : Obj, K.lookup a = some o → False) : ws = vs := by
  rcases h' with (q | ⟨o, q⟩) | ⟨o, _, _, q, _⟩
  · rw [h] at q; cases q; rfl
  · rw [h] at q; cases q
  · exact (hk o q).elim
theorem wlk_list {a : Addr} {xs : List T} {gd : Mu → Prop} (h : ∀ (Hd' : Addr → Prop) (μ1 : Mu) (H1 : Hp), Co.Ext μ H μ1 H1 → (∀ a, Hd' a → Hd a ∨ H a = none) → Ok P tb K Ex Hd' μ1 H1 → gd μ1 → ∃ ws, H1 a = some (.lst ws) ∧ DenL P tb K Ex (Plc Hd' μ1) H1 xs ws) :
    Wlk P tb K Ex Hd μ H (Itl K a) xs gd := by
  intro Hd' μ1 H1 i ex hh o1 g
  obtain ⟨ws, q, dl⟩ := h Hd' μ1 H1 ex hh o1 g
  refine ⟨fun hi => ⟨ws, .of q, by rw [← dl.len]; exact hi⟩, fun t ht => ?_⟩
  obtain ⟨w, hw, dw⟩ := dl.get ht
  refine ⟨⟨ws, w, .of q, hw⟩, fun x H2 ⟨e2, hx⟩ => ?_⟩
  subst e2
  have := hx ws (.of q)
  rw [hw] at this; cases this
  exact ⟨.refl, o1, dw⟩
theorem wlk_tup {a : Addr} {xs : List T} {vs : List V} (h : ∀ (Hd' : Addr → Prop) (μ1 : Mu) (H1 : Hp), Co.Ext μ H μ1 H1 → (∀ a, Hd' a → Hd a ∨ H a = none) → SqT K H1 a vs ∧ DenL P tb K Ex (Plc Hd' μ1) H1 xs vs) :
    Wlk P tb K Ex Hd μ H (Itt K a) xs (fun _ => True) := by
  intro Hd' μ1 H1 i ex hh o1 g
  obtain ⟨q, dl⟩ := h Hd' μ1 H1 ex hh
  refine ⟨fun hi => ⟨vs, q, by rw [← dl.len]; exact hi⟩, fun t ht => ?_⟩
  obtain ⟨w, hw, dw⟩ := dl.get ht
  refine ⟨⟨vs, w, q, hw⟩, fun x H2 ⟨e2, hx⟩ => ?_⟩
  subst e2
  have := hx vs q
  rw [hw] at this; cases this
  exact ⟨.refl, o1, dw⟩
theorem wlk_rng {lo : Int} {k : Nat} : Wlk P tb K Ex Hd μ H (Itr lo k) (rangeT lo k) (fun _ => True) := by
  intro Hd' μ1 H1 i ex hh o1 g
  refine ⟨fun hi => ?_, fun t ht => ?_⟩
  · unfold rangeT at hi
    rw [List.length_map, List.length_range] at hi
    exact hi
  · unfold rangeT at ht
    rw [List.getElem?_map] at ht
    obtain ⟨j, hj, rfl⟩ := Option.map_eq_some_iff.mp ht
    obtain ⟨hl, hj⟩ := List.getElem?_eq_some_iff.mp hj
    rw [List.length_range] at hl
    rw [List.getElem_range] at hj
    subst hj
    exact ⟨hl, fun x H2 ⟨e2, hx⟩ => by subst e2; subst hx; exact ⟨.refl, o1, rfl⟩⟩
/-- a new pair -/
theorem pair_ok (o1 : Ok P tb K Ex Hd μ1 H1) {p : Addr} {v w : V} {t1 t2 : T} (hp : H1 p = none) (d1 : Den P tb K Ex (Plc Hd μ1) H1 t1 v) (d2 : Den P tb K Ex (Plc Hd μ1) H1 t2 w) :
    Co.Ext μ1 H1 μ1 (upd H1 p (.tup [v, w])) ∧ Ok P tb K Ex Hd μ1 (upd H1 p (.tup [v, w])) ∧ Den P tb K Ex (Plc Hd μ1) (upd H1 p (.tup [v, w])) (.tup [t1, t2]) (.ref p) :=
  ⟨ext_new hp, o1.new hp, p, [v, w], rfl, .inl ⟨⟨(o1.free hp).1, (o1.free hp).2⟩, .inl upd_same⟩, .cons (d1.ext (ext_new hp)) (.one (d2.ext (ext_new hp)))⟩
theorem enuT_get : ∀ {xs : List T} {k i : Nat} {t : T}, (enuT k xs)[i]? = some t → ∃ z, xs[i]? = some z ∧ t = .tup [.int ((k + i : Nat) : Int), z]
  | [], _, _, _, h => by simp [enuT] at h
  | x :: r, k, 0, t, h => by simp [enuT] at h; exact ⟨x, rfl, by rw [← h]; rfl⟩
  | x :: r, k, i + 1, t, h => by
    obtain ⟨z, h1, h2⟩ := enuT_get (xs := r) (k := k + 1) (i := i) (t := t) (by simpa [enuT] using h)
    exact ⟨z, by simpa using h1, by rw [h2]; congr 3; omega⟩
theorem enuT_len : ∀ {xs : List T} {k : Nat}, (enuT k xs).length = xs.length
  | [], _ => rfl
  | _ :: r, k => congrArg Nat.succ (enuT_len (xs := r) (k := k + 1))
theorem zipT_get : ∀ {xs ys : List T} {i : Nat} {t : T}, (zipT xs ys)[i]? = some t → ∃ z w, xs[i]? = some z ∧ ys[i]? = some w ∧ t = .tup [z, w]
  | [], _, _, _, h => by simp [zipT] at h
  | _ :: _, [], _, _, h => by simp [zipT] at h
  | x :: r, y :: q, 0, t, h => by simp [zipT] at h; exact ⟨x, y, rfl, rfl, h.symm⟩
  | x :: r, y :: q, i + 1, t, h => by
    obtain ⟨z, w, h1, h2, h3⟩ := zipT_get (xs := r) (ys := q) (i := i) (t := t) (by simpa [zipT] using h)
    exact ⟨z, w, by simpa using h1, by simpa using h2, h3⟩
theorem zipT_len : ∀ {xs ys : List T}, (zipT xs ys).length = min xs.length ys.length
  | [], _ => by simp [zipT]
  | _ :: _, [] => by simp [zipT]
  | _ :: r, _ :: q => by simp only [zipT, List.length_cons, zipT_len (xs := r) (ys := q)]; omega
theorem wlk_enu {a : Addr} {xs : List T} {gd : Mu → Prop} (h : ∀ (Hd' : Addr → Prop) (μ1 : Mu) (H1 : Hp), Co.Ext μ H μ1 H1 → (∀ a, Hd' a → Hd a ∨ H a = none) → Ok P tb K Ex Hd' μ1 H1 → gd μ1 → ∃ ws, H1 a = some (.lst ws) ∧ DenL P tb K Ex (Plc Hd' μ1) H1 xs ws) :
    Wlk P tb K Ex Hd μ H (Ite K a) (enuT 0 xs) gd := by
  intro Hd' μ1 H1 i ex hh o1 g
  obtain ⟨ws, q, dl⟩ := h Hd' μ1 H1 ex hh o1 g
  refine ⟨fun hi => ⟨ws, .of q, by rw [← dl.len]; rw [enuT_len] at hi; exact hi⟩, fun t ht => ?_⟩
  obtain ⟨z, hz, rfl⟩ := enuT_get ht
  obtain ⟨w, hw, dw⟩ := dl.get hz
  refine ⟨⟨ws, w, .of q, hw⟩, fun x H2 ⟨T, x1, e1, e2, e3, hx⟩ => ?_⟩
  subst e1; subst e3
  have := hx ws (.of q)
  rw [hw] at this; cases this
  rw [Nat.zero_add]
  exact pair_ok o1 e2 rfl dw
theorem wlk_zip {a b : Addr} {xs ys : List T} {gd gd' : Mu → Prop} (h : ∀ (Hd' : Addr → Prop) (μ1 : Mu) (H1 : Hp), Co.Ext μ H μ1 H1 → (∀ a, Hd' a → Hd a ∨ H a = none) → Ok P tb K Ex Hd' μ1 H1 → gd μ1 → ∃ ws, H1 a = some (.lst ws) ∧ DenL P tb K Ex (Plc Hd' μ1) H1 xs ws)
    (h' : ∀ (Hd' : Addr → Prop) (μ1 : Mu) (H1 : Hp), Co.Ext μ H μ1 H1 → (∀ a, Hd' a → Hd a ∨ H a = none) → Ok P tb K Ex Hd' μ1 H1 → gd' μ1 → ∃ ws, H1 b = some (.lst ws) ∧ DenL P tb K Ex (Plc Hd' μ1) H1 ys ws) :
    Wlk P tb K Ex Hd μ H (Itz K a b) (zipT xs ys) (fun μ => gd μ ∧ gd' μ) := by
  intro Hd' μ1 H1 i ex hh o1 ⟨g, g'⟩
  obtain ⟨ws, q, dl⟩ := h Hd' μ1 H1 ex hh o1 g
  obtain ⟨ws', q', dl'⟩ := h' Hd' μ1 H1 ex hh o1 g'
  refine ⟨fun hi => ⟨ws, ws', .of q, .of q', ?_⟩, fun t ht => ?_⟩
  · rw [zipT_len, dl.len, dl'.len] at hi; omega
  obtain ⟨z, z', hz, hz', rfl⟩ := zipT_get ht
  obtain ⟨w, hw, dw⟩ := dl.get hz
  obtain ⟨w', hw', dw'⟩ := dl'.get hz'
  refine ⟨⟨ws, ws', w, w', .of q, .of q', hw, hw'⟩, fun x H2 ⟨T, x1, y1, e1, e2, e3, hx, hy⟩ => ?_⟩
  subst e1; subst e3
  have r1 := hx ws (.of q)
  rw [hw] at r1; cases r1
  have r2 := hy ws' (.of q')
  rw [hw'] at r2; cases r2
  exact pair_ok o1 e2 dw dw'
theorem wlk_zipT {a b : Addr} {xs ys : List T} {vs vs' : List V} (h : ∀ (Hd' : Addr → Prop) (μ1 : Mu) (H1 : Hp), Co.Ext μ H μ1 H1 → (∀ a, Hd' a → Hd a ∨ H a = none) → SqT K H1 a vs ∧ DenL P tb K Ex (Plc Hd' μ1) H1 xs vs)
    (h' : ∀ (Hd' : Addr → Prop) (μ1 : Mu) (H1 : Hp), Co.Ext μ H μ1 H1 → (∀ a, Hd' a → Hd a ∨ H a = none) → SqT K H1 b vs' ∧ DenL P tb K Ex (Plc Hd' μ1) H1 ys vs') :
    Wlk P tb K Ex Hd μ H (RZ.ItzT K a b) (zipT xs ys) (fun _ => True) := by
  intro Hd' μ1 H1 i ex hh o1 _
  obtain ⟨q, dl⟩ := h Hd' μ1 H1 ex hh
  obtain ⟨q', dl'⟩ := h' Hd' μ1 H1 ex hh
  refine ⟨fun hi => ⟨vs, vs', q, q', ?_⟩, fun t ht => ?_⟩
  · rw [zipT_len, dl.len, dl'.len] at hi; omega
  obtain ⟨z, z', hz, hz', rfl⟩ := zipT_get ht
  obtain ⟨w, hw, dw⟩ := dl.get hz
  obtain ⟨w', hw', dw'⟩ := dl'.get hz'
  refine ⟨⟨vs, vs', w, w', q, q', hw, hw'⟩, fun x H2 ⟨T, x1, y1, e1, e2, e3, hx, hy⟩ => ?_⟩
  subst e1; subst e3
  have r1 := hx vs q
  rw [hw] at r1; cases r1
  have r2 := hy vs' q'
  rw [hw'] at r2; cases r2
  exact pair_ok o1 e2 dw dw'
theorem rev_get {α : Type} {xs : List α} {i : Nat} {t : α} (h : xs.reverse[i]? = some t) : i < xs.length ∧ xs[xs.length - 1 - i]? = some t := by
  obtain ⟨hl, he⟩ := List.getElem?_eq_some_iff.mp h
  rw [List.length_reverse] at hl
  rw [List.getElem?_reverse hl] at h
  exact ⟨hl, h⟩
theorem wlk_rev {a : Addr} {xs : List T} {gd : Mu → Prop} {k : Nat} (hk : k = xs.length) (h : ∀ (Hd' : Addr → Prop) (μ1 : Mu) (H1 : Hp), Co.Ext μ H μ1 H1 → (∀ a, Hd' a → Hd a ∨ H a = none) → Ok P tb K Ex Hd' μ1 H1 → gd μ1 → ∃ ws, H1 a = some (.lst ws) ∧ DenL P tb K Ex (Plc Hd' μ1) H1 xs ws) :
    Wlk P tb K Ex Hd μ H (Itv K a k) xs.reverse gd := by
  subst hk
  intro Hd' μ1 H1 i ex hh o1 g
  obtain ⟨ws, q, dl⟩ := h Hd' μ1 H1 ex hh o1 g
  refine ⟨fun hi => by rw [List.length_reverse] at hi; exact hi, fun t ht => ?_⟩
  obtain ⟨hl, hz⟩ := rev_get ht
  obtain ⟨w, hw, dw⟩ := dl.get hz
  refine ⟨⟨hl, ws, w, .of q, hw⟩, fun x H2 ⟨e2, hx⟩ => ?_⟩
  subst e2
  have := hx ws (.of q)
  rw [hw] at this; cases this
  exact ⟨.refl, o1, dw⟩
theorem wlk_revT {a : Addr} {xs : List T} {vs : List V} {k : Nat} (hk : k = xs.length) (h : ∀ (Hd' : Addr → Prop) (μ1 : Mu) (H1 : Hp), Co.Ext μ H μ1 H1 → (∀ a, Hd' a → Hd a ∨ H a = none) → SqT K H1 a vs ∧ DenL P tb K Ex (Plc Hd' μ1) H1 xs vs) :
    Wlk P tb K Ex Hd μ H (RT.ItvT K a k) xs.reverse (fun _ => True) := by
  subst hk
  intro Hd' μ1 H1 i ex hh o1 g
  obtain ⟨q, dl⟩ := h Hd' μ1 H1 ex hh
  refine ⟨fun hi => by rw [List.length_reverse] at hi; exact hi, fun t ht => ?_⟩
  obtain ⟨hl, hz⟩ := rev_get ht
  obtain ⟨w, hw, dw⟩ := dl.get hz
  refine ⟨⟨hl, vs, w, q, hw⟩, fun x H2 ⟨e2, hx⟩ => ?_⟩
  subst e2
  have := hx vs q
  rw [hw] at this; cases this
  exact ⟨.refl, o1, dw⟩
/-! ### the forms -/
theorem it_list {R : L2.It → Hp → Prop} {ad : Addr} {ys : List V} (I : Inv X pins σ H s) (hq : SqL X.K H ad ys) (q : R (Itl X.K ad) H) : wpAny (model X.prog X.w) X.A (pyIter (.ref ad)) (PIE X pins σ tg R) X.xe s := by
  obtain ⟨us, r, pl, _⟩ := I.list hq
  have I1 : Inv X pins σ H { s with heap := s.heap.push { cls := .type "list_iterator", data := .fields #[.ref ad, rawInt 0] } } := I.kept (t' := s.toks) fun _ _ e => Heap.get?_push_of_some _ e
  refine wpAny_pyIter_list pl.isList ⟨s.heap.objs.size, [s.heap.objs.size], _, _, H, rfl, I1, turn_list ad _, ⟨_, Heap.get?_push_size _ rfl, rfl, rfl⟩, fun z hz => ?_, q⟩
  rw [List.mem_singleton.mp hz]
  exact I.fpOk (Nat.le_refl _) (I.hok.fresh (Nat.le_refl _))
theorem it_tup {R : L2.It → Hp → Prop} {ad : Addr} {ys : List V} (I : Inv X pins σ H s) (hq : SqT X.K H ad ys) (q : R (Itt X.K ad) H) : wpAny (model X.prog X.w) X.A (pyIter (.ref ad)) (PIE X pins σ tg R) X.xe s := by
  obtain ⟨us, r, pl, _⟩ := I.tuple hq
  refine wpAny_pyIter_tuple (show s.heap.IsTuple ad us.toArray from pl) ⟨s.heap.objs.size, [s.heap.objs.size], _, _, H, rfl, I.kept (t' := s.toks) fun _ _ e => Heap.get?_push_of_some _ e, turn_tuple ad _, ⟨_, Heap.get?_push_size _ rfl, rfl, rfl⟩, fun z hz => ?_, q⟩
  rw [List.mem_singleton.mp hz]
  exact I.fpOk (Nat.le_refl _) (I.hok.fresh (Nat.le_refl _))
theorem i_ex (he : SE P tb Ex W X e (sE P ea).v) : SI P tb Ex W X tg e (sI P (.ex ea)) := by
  refine ⟨fun pins s σ H R I h => ?_⟩
  obtain ⟨Hd, μ, σT, RT, XT, sd, ok, h, k, xc⟩ := h
  refine thn (he.run pins s σ H _ I (LE1 (R := fun x H1 => ∃ μ1 t, Co.Ext μ H μ1 H1 ∧ Ok P tb X.K Ex Hd μ1 H1 ∧ Den P tb X.K Ex (Plc Hd μ1) H1 t x ∧ _) sd ok xc h fun t μ1 v H1 e1 o1 d1 q => ⟨μ1, t, e1, o1, d1, q⟩)) fun u s1 hh => ?_
  obtain ⟨x, H1, I1, r1, μ1, t, e1, o1, d1, q⟩ := hh
  have lst : ∀ {xs : List T} {gd : Mu → Prop}, lstG μ1 t = some (xs, gd) → RT xs gd μ1 → wpAny (model X.prog X.w) X.A (pyIter u) (PIE X pins σ tg R) X.xe s1 := fun {xs gd} eg q => by
    obtain ⟨g0, a, vs, rfl, hq, hw⟩ := lstG_den o1 d1 eg
    cases r1
    exact it_list I1 (.of hq) (k xs gd μ1 H1 _ e1 o1 g0 (wlk_list hw) q)
  cases t with
  | tup xs =>
    obtain ⟨a, vs, rfl, hq, hw⟩ := tup_den d1
    cases r1
    exact it_tup I1 hq (k xs _ μ1 H1 _ e1 o1 trivial (wlk_tup hw) q)
  | lst xs => exact lst rfl q
  | h a =>
    simp only at q
    split at q
    · rename_i xs gd eg
      exact lst eg q
    · exact q.elim
  | _ => exact q.elim
theorem i_rng1 (F : Facts P tb X.K X.mg) (hg : Gl X "range") (hs : notStar e = true) (he : SE P tb Ex W X e (sE P ea).v) : SI P tb Ex W X tg (.Call (.Name "range" p) [e] [] pos) (sI P (.rng1 ea)) := by
  refine PI.imp' (pi_range1 hg (F.fr _ (by simp [blts])) (pa_cons he pa_nil (starEach_cons hs [] X.env)) (starEach_cons hs [] X.env)) fun σ H R h => ?_
  obtain ⟨Hd, μ, σT, RT, XT, sd, ok, h, k, xc⟩ := h
  refine LE1 sd ok xc h fun t μ1 v H1 e1 o1 d1 q => ?_
  cases t with
  | int j => exact ⟨j, by rw [show v = .int j from d1], q.1, q.2.1, k _ _ μ1 H1 _ e1 o1 trivial wlk_rng q.2.2⟩
  | _ => exact q.elim
theorem i_rng2 {e2 : Expr} (F : Facts P tb X.K X.mg) (hg : Gl X "range") (hs : notStar e = true) (hs2 : notStar e2 = true) (he : SE P tb Ex W X e (sE P ea).v) (he2 : SE P tb Ex W X e2 (sE P eb).v) : SI P tb Ex W X tg (.Call (.Name "range" p) [e, e2] [] pos) (sI P (.rng2 ea eb)) := by
  refine PI.imp' (pi_range2 hg (F.fr _ (by simp [blts])) (pa_cons he (pa_cons he2 pa_nil (starEach_cons hs2 [] X.env)) (starEach_cons hs [e2] X.env)) (by rw [starEach_cons hs, starEach_cons hs2]; rfl) (starEach_cons hs2 [] X.env)) fun σ H R h => ?_
  obtain ⟨Hd, μ, σT, RT, XT, sd, ok, h, k, xc⟩ := h
  refine LE1 sd ok xc h fun t μ1 v H1 e1 o1 d1 q1 => LE1 (sd.ext e1) o1 (fun c μ' H' ex => xc c μ' H' (e1.trans ex)) q1 fun t2 μ2 w H2 e2 o2 d2 q => ?_
  cases t with
  | int i => cases t2 with
    | int j => exact ⟨i, j, by rw [show v = .int i from d1, show w = .int j from d2], q.1, k _ _ μ2 H2 _ (e1.trans e2) o2 trivial wlk_rng q.2⟩
    | _ => exact q.elim
  | _ => cases t2 <;> exact q.elim
theorem i_enu {elts : List Expr} {kk : Nat} {tpos : Pos} (F : Facts P tb X.K X.mg) (hg : Gl X "enumerate") (hs : notStar e = true) (he : SE P tb Ex W X e (sE P ea).v) : SI P tb Ex W X (.Tuple elts kk tpos) (.Call (.Name "enumerate" p) [e] [] pos) (sI P (.enu ea)) := by
  refine PI.imp' (pi_enum hg (F.fr _ (by simp [blts])) (pa_cons he pa_nil (starEach_cons hs [] X.env)) (starEach_cons hs [] X.env)) fun σ H R h => ?_
  obtain ⟨Hd, μ, σT, RT, XT, sd, ok, h, k, xc⟩ := h
  refine LE1 sd ok xc h fun t μ1 v H1 e1 o1 d1 q => ?_
  split at q
  · rename_i xs gd eg
    obtain ⟨g0, a, vs, rfl, hq, hw⟩ := lstG_den o1 d1 eg
    exact ⟨a, vs, rfl, .of hq, k _ gd μ1 H1 _ e1 o1 g0 (wlk_enu hw) q⟩
  · exact q.elim
theorem i_zip {e2 : Expr} {elts : List Expr} {kk : Nat} {tpos : Pos} (F : Facts P tb X.K X.mg) (hg : Gl X "zip") (hs : notStar e = true) (hs2 : notStar e2 = true) (he : SE P tb Ex W X e (sE P ea).v) (he2 : SE P tb Ex W X e2 (sE P eb).v) :
    SI P tb Ex W X (.Tuple elts kk tpos) (.Call (.Name "zip" p) [e, e2] [] pos) (sI P (.zip ea eb)) := by
  refine PI.imp' (RZ.pi_zipA hg (F.fr _ (by simp [blts])) (pa_cons he (pa_cons he2 pa_nil (starEach_cons hs2 [] X.env)) (starEach_cons hs [e2] X.env)) (starEach_cons hs [e2] X.env) (stars_plain (es := [e2]) (by show (notStar e2 && true) = true; rw [hs2]; rfl) pos X.env)) fun σ H R h => ?_
  obtain ⟨Hd, μ, σT, RT, XT, sd, ok, h, k, xc⟩ := h
  refine LE1 sd ok xc h fun t μ1 v H1 e1 o1 d1 q1 => LE1 (sd.ext e1) o1 (fun c μ' H' ex => xc c μ' H' (e1.trans ex)) q1 fun t2 μ2 w H2 e2 o2 d2 q => ?_
  have d1' := d1.ext e2
  have lst : ∀ {xs ys : List T} {gd gd' : Mu → Prop}, lstG μ2 t = some (xs, gd) → lstG μ2 t2 = some (ys, gd') → RT (zipT xs ys) (fun μ => gd μ ∧ gd' μ) μ2 → ∃ a b xs ys, [v, w] = [V.ref a, V.ref b] ∧ ((SqL X.K H2 a xs ∧ SqL X.K H2 b ys ∧ R (Itz X.K a b) H2) ∨ (SqT X.K H2 a xs ∧ SqT X.K H2 b ys ∧ R (RZ.ItzT X.K a b) H2)) := fun {xs ys gd gd'} eg eg' q => by
    obtain ⟨g0, a, vs, rfl, hq, hw⟩ := lstG_den o2 d1' eg
    obtain ⟨g1, b, vs', rfl, hq', hw'⟩ := lstG_den o2 d2 eg'
    exact ⟨a, b, vs, vs', rfl, .inl ⟨.of hq, .of hq', k _ _ μ2 H2 _ (e1.trans e2) o2 ⟨g0, g1⟩ (wlk_zip hw hw') q⟩⟩
  have gen : (match lstG μ2 t, lstG μ2 t2 with | some (xs, gd), some (ys, gd') => RT (zipT xs ys) (fun μ => gd μ ∧ gd' μ) μ2 | _, _ => False) → ∃ a b xs ys, [v, w] = [V.ref a, V.ref b] ∧ ((SqL X.K H2 a xs ∧ SqL X.K H2 b ys ∧ R (Itz X.K a b) H2) ∨ (SqT X.K H2 a xs ∧ SqT X.K H2 b ys ∧ R (RZ.ItzT X.K a b) H2)) := fun q => by
    split at q
    · rename_i xs gd ys gd' eg eg'
      exact lst eg eg' q
    · exact q.elim
  cases t with
  | tup xs =>
    cases t2 with
    | tup ys =>
      obtain ⟨a, vs, rfl, hq, hw⟩ := tup_den d1'
      obtain ⟨b, vs', rfl, hq', hw'⟩ := tup_den d2
      exact ⟨a, b, vs, vs', rfl, .inr ⟨hq, hq', k _ _ μ2 H2 _ (e1.trans e2) o2 trivial (wlk_zipT hw hw') q⟩⟩
    | _ => exact gen q
  | _ => exact gen (by cases t2 <;> exact q)
theorem i_rev (F : Facts P tb X.K X.mg) (hg : Gl X "reversed") (hs : notStar e = true) (he : SE P tb Ex W X e (sE P ea).v) : SI P tb Ex W X tg (.Call (.Name "reversed" p) [e] [] pos) (sI P (.rev ea)) := by
  refine PI.imp' (RT.pi_revA hg (F.fr _ (by simp [blts])) he (starEach_cons hs [] X.env)) fun σ H R h => ?_
  obtain ⟨Hd, μ, σT, RV, XT, sd, ok, h, k, xc⟩ := h
  refine LE1 sd ok xc h fun t μ1 v H1 e1 o1 d1 q => ?_
  have lst : ∀ {xs : List T} {gd : Mu → Prop}, lstG μ1 t = some (xs, gd) → RV xs.reverse gd μ1 → ∃ (a : Addr) (xs : List V), v = .ref a ∧ ((SqL X.K H1 a xs ∧ R (Itv X.K a xs.length) H1) ∨ (SqT X.K H1 a xs ∧ R (RT.ItvT X.K a xs.length) H1)) := fun {xs gd} eg q => by
    obtain ⟨g0, a, vs, rfl, hq, hw⟩ := lstG_den o1 d1 eg
    obtain ⟨ws, hq2, dl⟩ := hw Hd μ1 H1 .refl (fun a z => .inl z) o1 g0
    rw [hq] at hq2; cases hq2
    exact ⟨a, vs, rfl, .inl ⟨.of hq, k _ gd μ1 H1 _ e1 o1 g0 (wlk_rev dl.len.symm hw) q⟩⟩
  cases t with
  | tup xs =>
    obtain ⟨a, vs, rfl, hq, hw⟩ := tup_den d1
    obtain ⟨_, dl⟩ := hw Hd μ1 H1 .refl (fun a z => .inl z)
    exact ⟨a, vs, rfl, .inr ⟨hq, k _ _ μ1 H1 _ e1 o1 trivial (wlk_revT dl.len.symm hw) q⟩⟩
  | lst xs => exact lst rfl q
  | h a =>
    simp only at q
    split at q
    · rename_i xs gd eg
      exact lst eg q
    · exact q.elim
  | _ => exact q.elim
end
end Co
set_option Elab.async false
set_option linter.all false
set_option maxRecDepth 100000
set_option maxHeartbeats 1000000
namespace Co
open PySem PySem.Spec PyProof.Rows L2
/-! # Co, part 12: targets, comprehensions, the soundness of expressions -/
section
variable {P : Pa} {tb : Tb} {n lev : Nat} {cm : Bool} {N : List Str} {sc : Scope} {Ex : Addr → Nat → Prop} {W : WX} {X : Cx} {Hd Hd' : Addr → Prop}
variable {a b c : Expr} {ea eb ec : E} {pos : Pos} {es : List Expr} {el : Es} {x' : Str} {p : Pos} {e : Expr}
variable {σ : L2.St} {σT : Sg} {μ μ' μ1 : Mu} {H H' H1 : Hp} {QT QT' : Pq} {XT : Xq} {Q Q' : VK} {s : Shared} {pins : List (Addr × Obj)} {x y : V} {u v : Value} {t t' : T} {K : PySem.W.Frag} {tg : Expr} {D : Addr}
theorem wipe_set {σ : L2.St} {i : Nat} {o : Option V} : ∀ {vs : List Nat}, i ∈ vs → L2.wipe (σ.set i o) vs = L2.wipe σ vs
  | v :: vs, h => by
    unfold L2.wipe
    by_cases hv : i ∈ vs
    · rw [wipe_set hv]
    · have e : i = v := by
        rcases List.mem_cons.mp h with q | q
        · exact q
        · exact absurd q hv
      subst e
      have go : ∀ {ws : List Nat}, i ∉ ws → L2.wipe (σ.set i o) ws = (L2.wipe σ ws).set i o := by
        intro ws
        induction ws with
        | nil => intro _; rfl
        | cons w ws ih =>
          intro hw
          simp only [List.mem_cons, not_or] at hw
          unfold L2.wipe
          rw [ih hw.2, List.set_comm _ _ hw.1]
      rw [go hv, List.set_set]
/-! ### targets -/
def LG (P : Pa) (tb : Tb) (Ex : Addr → Nat → Prop) (K : PySem.W.Frag) (g : Tg) : TG := fun v σ H Q => ∃ (Hd : Addr → Prop) (μ : Mu) (σT : Sg) (t : T) (QT : Sg → Prop), SD P tb K Ex (Plc Hd μ) H σT σ ∧ Den P tb K Ex (Plc Hd μ) H t v ∧ asgT g t σT QT ∧
  ∀ σ' σT', SD P tb K Ex (Plc Hd μ) H σT' σ' → (∀ vs, tgOwn g vs = true → L2.wipe σ' vs = L2.wipe σ vs) → QT σT' → Q σ' H
def LGs (P : Pa) (tb : Tb) (Ex : Addr → Nat → Prop) (K : PySem.W.Frag) (is : List Nat) : TGs := fun vs σ H Q => ∃ (Hd : Addr → Prop) (μ : Mu) (σT : Sg) (ts : List T) (QT : Sg → Prop), SD P tb K Ex (Plc Hd μ) H σT σ ∧ DenL P tb K Ex (Plc Hd μ) H ts vs ∧ asgL is ts σT QT ∧
  ∀ σ' σT', SD P tb K Ex (Plc Hd μ) H σT' σ' → (∀ vs, is.all vs.contains = true → L2.wipe σ' vs = L2.wipe σ vs) → QT σT' → Q σ' H
/-- names that may be stored to -/
def Str2 (X : Cx) (sc : Scope) : Prop := ∀ x, locB sc x = true → L2.Loc X.env.scope x ∧ (X.fn x = true ∨ X.env.scope.names.lookup x = some .local)
theorem PG.imp' {g g' : TG} (h : PG X e g) (i : ∀ v σ H Q, g' v σ H Q → g v σ H Q) : PG X e g' := ⟨fun pins s σ H v u Q I r q => h.run pins s σ H v u Q I r (i v σ H Q q)⟩
theorem each_name {es : List Expr} : assignEach (.Name x' p :: es) X.env = (false, assign (.Name x' p) X.env) :: assignEach es X.env := rfl
theorem gs_tg (nd : X.N.Nodup) (hl : Str2 X sc) (eN : X.N = N) : ∀ {is : List Nat} {es : List Expr}, mtTg.go N sc is es = true → PGs X es (LGs P tb Ex X.K is) ∧ (assignEach es X.env).length = is.length ∧ (assignEach es X.env).findIdx? (·.1) = none
  | [], [], _ => by
    refine ⟨⟨fun pins s σ H vs us Q I r h => ?_⟩, rfl, rfl⟩
    obtain ⟨Hd, μ, σT, ts, QT, sd, d, q, k⟩ := h
    cases ts with
    | nil =>
      rw [show vs = [] from d] at r
      exact pgs_nil.run pins s σ H [] us Q I r ⟨rfl, k σ σT sd (fun _ _ => rfl) q⟩
    | cons t ts => exact q.elim
  | i :: is, .Name x p :: es, h => by
    have h' := band (show (decide (N[i]? = some x) && (locB sc x && mtTg.go N sc is es)) = true from h)
    have h2 := band h'.2
    obtain ⟨l1, l2⟩ := hl x h2.1
    obtain ⟨ih, il, ir⟩ := gs_tg nd hl eN h2.2
    refine ⟨⟨fun pins s σ H vs us Q I r h => ?_⟩, ?_, ?_⟩
    · obtain ⟨Hd, μ, σT, ts, QT, sd, d, q, k⟩ := h
      cases ts with
      | nil => exact q.elim
      | cons t ts =>
        obtain ⟨v, vr, rfl, d1, d2⟩ := d
        exact (pgs_cons (pg_name (X := X) nd (by rw [eN]; exact of_decide_eq_true h'.1) l1 l2) ih).run pins s σ H _ us Q I r ⟨v, vr, rfl, Hd, μ, setS σT i (some t), ts, QT, sd.set d1, d2, q, fun σ' σT' sd' hw => k σ' σT' sd' fun vs hv => by
          have hv' := band (show (vs.contains i && is.all vs.contains) = true from hv)
          rw [hw vs hv'.2, wipe_set (List.contains_iff_mem.mp hv'.1)]⟩
    · rw [each_name, List.length_cons, il]; rfl
    · rw [each_name, List.findIdx?_cons, ir]; rfl
  | [], _ :: _, h => nomatch (show false = true from h)
  | _ :: _, [], h => nomatch (show false = true from h)
theorem g_tg (nd : X.N.Nodup) (hc : X.calm = true) (hl : Str2 X sc) (eN : X.N = N) : ∀ {g : Tg} {ex : Expr}, mtTg N sc g ex = true → PG X ex (LG P tb Ex X.K g)
  | .nm i, ex, h => by
    cases ex with
    | Name x p =>
      have h' := band (show (decide (N[i]? = some x) && locB sc x) = true from h)
      obtain ⟨l1, l2⟩ := hl x h'.2
      refine PG.imp' (pg_name (X := X) nd (by rw [eN]; exact of_decide_eq_true h'.1) l1 l2) fun v σ H Q hq => ?_
      obtain ⟨Hd, μ, σT, t, QT, sd, d, q, k⟩ := hq
      exact k _ _ (sd.set d) (fun vs hv => wipe_set (List.contains_iff_mem.mp (show vs.contains i = true from hv))) q
    | _ => exact nomatch (show false = true from h)
  | .tp is, ex, h => by
    cases ex with
    | Tuple es kk p =>
      obtain ⟨h1, h2, h3⟩ := gs_tg (P := P) (tb := tb) (Ex := Ex) nd hl eN (show mtTg.go N sc is es = true from h)
      refine PG.imp' (pg_tup hc h1 h2 h3) fun v σ H Q hq => ?_
      obtain ⟨Hd, μ, σT, t, QT, sd, d, q, k⟩ := hq
      cases t with
      | tup xs =>
        obtain ⟨a, vs, rfl, hq, hw⟩ := tup_den d
        have dl := (hw Hd μ H .refl fun a z => .inl z).2
        have ll : ∀ {is : List Nat} {xs : List T} {σ : Sg} {k : Sg → Prop}, asgL is xs σ k → xs.length = is.length := by
          intro is
          induction is with
          | nil => intro xs σ k h; cases xs with
            | nil => rfl
            | cons _ _ => exact h.elim
          | cons i is ih => intro xs σ k h; cases xs with
            | nil => exact h.elim
            | cons x xs => exact congrArg Nat.succ (ih (show asgL is xs _ k from h))
        exact ⟨a, vs, rfl, hq, by rw [← dl.len]; exact ll q, Hd, μ, σT, xs, QT, sd, dl, q, k⟩
      | _ => exact q.elim
    | _ => exact nomatch (show false = true from h)
/-! ### tests -/
theorem tests_no {M : Model} {A : Around} {E : Value → Shared → Prop} {Q : Bool → Shared → Prop} {env : Env} : ∀ {ifs : List Expr} {s : Shared}, Q false s →
    wpAny M A (forIn ifs false fun c r => if r = true then do let ok ← isTrue c env (eval c env); pure (ForInStep.yield ok) else pure (ForInStep.yield r)) Q E s
  | [], s, h => by rw [List.forIn_nil]; exact wpAny_pure h
  | c :: cs, s, h => by
    rw [List.forIn_cons]
    refine wpAny_bind ?_
    rw [if_neg (by decide)]
    exact wpAny_pure (tests_no h)
def STs (P : Pa) (tb : Tb) (Ex : Addr → Nat → Prop) (W : WX) (X : Cx) : List Expr → List ET → Prop
  | [], [] => True
  | e :: es, t :: ts => ST P tb Ex W X e t ∧ STs P tb Ex W X es ts
  | _, _ => False
theorem pts_allT : ∀ {ifs : List Expr} {ts : List ET}, STs P tb Ex W X ifs ts → PTs X ifs (LT P tb Ex W X.K (allT ts))
  | [], [], _ => by
    refine ⟨fun pins s σ H Q I h => pts_nil.run pins s σ H Q I ?_⟩
    obtain ⟨Hd, μ, σT, QT, XT, sd, c, h⟩ := h
    exact c.nx true μ H .refl c.ok h
  | e :: es, t :: ts, h => by
    obtain ⟨h1, h2⟩ := h
    · refine ⟨fun pins s σ H Q I h => ?_⟩
      obtain ⟨Hd, μ, σT, QT, XT, sd, c, h⟩ := h
      rw [List.forIn_cons]
      refine wpAny_bind ?_
      rw [if_pos rfl]
      refine wpAny_bind (thn (h1.run pins s σ H (fun b H1 => ∃ μ1, Co.Ext μ H μ1 H1 ∧ Ok P tb X.K Ex Hd μ1 H1 ∧ if b = true then allT ts σT μ1 QT XT else QT false μ1) I (LT1 sd c.ok c.xc h fun b μ1 H1 e1 o1 q => ⟨μ1, e1, o1, q⟩)) fun b s1 ⟨H1, I1, μ1, e1, o1, q⟩ => wpAny_pure ?_)
      cases b with
      | true =>
        rw [if_pos rfl] at q
        exact (pts_allT h2).run pins s1 σ H1 Q I1 ⟨Hd, μ1, σT, QT, XT, sd.ext e1, c.ext e1 o1, q⟩
      | false =>
        rw [if_neg (by decide)] at q
        exact tests_no ⟨H1, I1, c.nx false μ1 H1 e1 o1 q⟩
/-! ### comprehensions -/
def noW : WX := fun _ _ _ _ => False
theorem ownP_snd : ∀ {own : List Nat}, (ownP N own).map (·.2) = own
  | [] => rfl
  | i :: r => congrArg (i :: ·) (ownP_snd (own := r))
theorem wipe_wipe : ∀ {vs : List Nat} {σ : L2.St}, L2.wipe (L2.wipe σ vs) vs = L2.wipe σ vs := by
  have go : ∀ {ws vs : List Nat} {σ : L2.St}, (∀ w ∈ ws, w ∈ vs) → L2.wipe (L2.wipe σ ws) vs = L2.wipe σ vs := by
    intro ws
    induction ws with
    | nil => intro vs σ _; rfl
    | cons w ws ih =>
      intro vs σ h
      rw [show L2.wipe σ (w :: ws) = (L2.wipe σ ws).set w none from rfl, wipe_set (h w List.mem_cons_self)]
      exact ih fun z hz => h z (List.mem_cons_of_mem _ hz)
  intro vs σ
  exact go fun _ h => h
theorem denF_gr (x : Co.Ext μ H μ1 H1) (hh : ∀ a, Hd' a → Hd a ∨ H a = none) {ts : List (Nat × T)} {vs : List (Str × V)} (h : DenF P tb K Ex (Plc Hd μ) H ts vs) : DenF P tb K Ex (Plc Hd' μ1) H1 ts vs := h.mono (gr_pl x hh) fun _ _ z => z
abbrev Hid (Hd : Addr → Prop) (D : Addr) : Addr → Prop := fun a => Hd a ∨ a = D
theorem hid_hh {D : Addr} (h : H D = none) : ∀ a, Hid Hd D a → Hd a ∨ H a = none := fun a z => z.imp id fun e => by rw [e]; exact h
theorem Ok.hide (o : Ok P tb K Ex Hd μ H) {D : Addr} {u : HO} (h : H D = none) : Ok P tb K Ex (Hid Hd D) μ (upd H D u) := by
  have x : Co.Ext μ H μ (upd H D u) := ext_new h
  refine ⟨fun a m e => ?_, fun a z => ?_⟩
  · obtain ⟨nh, q⟩ := o.own a m e
    have ne : a ≠ D := fun z => o.there e (by rw [z]; exact h)
    refine ⟨fun z => z.elim nh ne, ?_⟩
    cases m with
    | lst xs =>
      obtain ⟨vs, q1, d⟩ := q
      exact ⟨vs, (upd_ne ne).trans q1, d.gr x (hid_hh h)⟩
    | ins c fs =>
      obtain ⟨dx, vs, q1, k, d⟩ := q
      exact ⟨dx, vs, (upd_ne ne).trans q1, k, denF_gr x (hid_hh h) d⟩
  · by_cases e : a = D
    · rw [e, upd_same]; intro z; cases z
    · rw [upd_ne e]
      exact o.hid a (z.resolve_right e)
/-- the hidden list is changed -/
theorem hid_pl {D : Addr} {u : HO} (hD : Hd D) : ∀ a, Plc Hd μ a → H a ≠ none → Plc Hd μ a ∧ upd H D u a = H a := fun a p _ => ⟨p, upd_ne fun z => p.2 (by rw [z]; exact hD)⟩
theorem Ok.hidPut (o : Ok P tb K Ex Hd μ H) {D : Addr} {u : HO} (hD : Hd D) : Ok P tb K Ex Hd μ (upd H D u) := by
  refine ⟨fun a m e => ?_, fun a z => ?_⟩
  · obtain ⟨nh, q⟩ := o.own a m e
    have ne : a ≠ D := fun z => nh (by rw [z]; exact hD)
    refine ⟨nh, ?_⟩
    cases m with
    | lst xs =>
      obtain ⟨vs, q1, d⟩ := q
      exact ⟨vs, (upd_ne ne).trans q1, d.mono (hid_pl hD) fun _ _ z => z⟩
    | ins c fs =>
      obtain ⟨dx, vs, q1, k, d⟩ := q
      exact ⟨dx, vs, (upd_ne ne).trans q1, k, d.mono (hid_pl hD) fun _ _ z => z⟩
  · by_cases e : a = D
    · rw [e, upd_same]; intro z; cases z
    · rw [upd_ne e]; exact o.hid a z
/-- it comes out -/
theorem show_pl {D : Addr} : ∀ a, Plc (Hid Hd D) μ a → H a ≠ none → Plc Hd μ a ∧ H a = H a := fun a p _ => ⟨⟨p.1, fun z => p.2 (.inl z)⟩, rfl⟩
theorem Ok.show (o : Ok P tb K Ex (Hid Hd D) μ H) : Ok P tb K Ex Hd μ H := by
  refine ⟨fun a m e => ?_, fun a z => o.hid a (.inl z)⟩
  obtain ⟨nh, q⟩ := o.own a m e
  refine ⟨fun z => nh (.inl z), ?_⟩
  cases m with
  | lst xs =>
    obtain ⟨vs, q1, d⟩ := q
    exact ⟨vs, q1, d.mono show_pl fun _ _ z => z⟩
  | ins c fs =>
    obtain ⟨dx, vs, q1, k, d⟩ := q
    exact ⟨dx, vs, q1, k, d.mono show_pl fun _ _ z => z⟩
theorem SD.hide (sd : SD P tb K Ex (Plc Hd μ) H σT σ) (x : Co.Ext μ H μ1 H1) (hh : ∀ a, Hd' a → Hd a ∨ H a = none) : SD P tb K Ex (Plc Hd' μ1) H1 σT σ :=
  ⟨sd.len, fun i t e => let ⟨v, h1, h2⟩ := sd.at_ i t e; ⟨v, h1, h2.gr x hh⟩⟩
theorem SD.hidPut (sd : SD P tb K Ex (Plc Hd μ) H σT σ) {D : Addr} {u : HO} (hD : Hd D) : SD P tb K Ex (Plc Hd μ) (upd H D u) σT σ :=
  ⟨sd.len, fun i t e => let ⟨v, h1, h2⟩ := sd.at_ i t e; ⟨v, h1, h2.mono (hid_pl hD) fun _ _ z => z⟩⟩
/-- from the tree of a comprehension to what the rule asks -/
theorem lc_imp {gT : Tg} {it : It} {mu : Bool} {ee : E} {cs : Es} {own : List Nat} (ho : tgOwn gT own = true) (h : LE P tb Ex W K (sE P (.lc mu ee gT it cs own)).v σ H Q) :
    tLc (LI P tb Ex W K (sI P it)) (LG P tb Ex K gT) (LT P tb Ex noW K (allT (sTs P cs))) (LE P tb Ex noW K (sE P ee).v) own σ H Q := by
  obtain ⟨Hd, μ, σT, QT, XT, sd, c, h⟩ := h
  refine ⟨Hd, μ, σT, _, XT, sd, c.ok, h, fun items gd μ1 H1 J e1 o1 g1 wl q => ?_, c.xc⟩
  intro D hD
  have sdw : SD P tb K Ex (Plc Hd μ1) H1 (wipeS σT own) (L2.wipe σ own) := (sd.ext e1).wipe own
  refine ⟨fun i m H2 => m = items.length - i ∧ i ≤ items.length ∧ ∃ μ2 acc vs, Co.Ext μ1 H1 μ2 H2 ∧ Ok P tb K Ex (Hid Hd D) μ2 H2 ∧ H2 D = some (.lst vs) ∧ DenL P tb K Ex (Plc (Hid Hd D) μ2) H2 acc vs ∧
    lcGo gT gd (allT (sTs P cs)) (sE P ee).v (wipeS σT own) (fun acc μ2 => wNew mu acc μ2 QT) (items.drop i) acc μ2, ⟨_, rfl, Nat.zero_le _, μ1, [], [], ext_new hD, o1.hide hD, upd_same, rfl, q⟩, ?_⟩
  rintro i m H2 ⟨rfl, hi, μ2, acc, vs, e2, o2, hv, da, q⟩
  by_cases hlt : i < items.length
  · obtain ⟨t, ht⟩ : ∃ t, items[i]? = some t := ⟨items[i], by simp [hlt]⟩
    have hd : items.drop i = t :: items.drop (i + 1) := by
      rw [List.drop_eq_getElem_cons hlt]
      rw [List.getElem?_eq_getElem hlt] at ht
      cases ht; rfl
    rw [hd] at q
    obtain ⟨g2, q⟩ := q
    obtain ⟨_, gy⟩ := wl (Hid Hd D) μ2 H2 i e2 (hid_hh hD) o2 g2
    obtain ⟨go, yl⟩ := gy t ht
    refine .inr ⟨go, fun H' => ∃ μ2 acc vs, Co.Ext μ1 H1 μ2 H' ∧ Ok P tb K Ex (Hid Hd D) μ2 H' ∧ H' D = some (.lst vs) ∧ DenL P tb K Ex (Plc (Hid Hd D) μ2) H' acc vs ∧
      lcGo gT gd (allT (sTs P cs)) (sE P ee).v (wipeS σT own) (fun acc μ2 => wNew mu acc μ2 QT) (items.drop (i + 1)) acc μ2, fun H' z => ⟨items.length - (i + 1), by omega, rfl, hlt, z⟩, fun x H3 y => ?_⟩
    obtain ⟨e3, o3, dx⟩ := yl x H3 y
    have sd3 : SD P tb K Ex (Plc (Hid Hd D) μ2) H3 (wipeS σT own) (L2.wipe σ own) := sdw.hide (e2.trans e3) (hid_hh hD)
    have nD : ∀ {μ' : Mu} {H' : Hp}, Ok P tb K Ex (Hid Hd D) μ' H' → μ' D = none := fun {μ' H'} o => by
      cases e : μ' D with
      | none => rfl
      | some m => exact absurd (.inr rfl) (o.own D m e).1
    have keep : ∀ {μ' μ'' : Mu} {H' H'' : Hp}, Co.Ext μ' H' μ'' H'' → Ok P tb K Ex (Hid Hd D) μ' H' → H' D = some (.lst vs) → H'' D = some (.lst vs) := fun {μ' μ'' H' H''} ex o e =>
      (ex D (by rw [e]; intro z; cases z) (nD o)).2.trans e
    refine ⟨Hid Hd D, μ2, wipeS σT own, t, _, sd3, dx, q, fun σ4 σT4 sd4 hw q4 => ⟨?_, ?_⟩⟩
    · rw [hw own ho, wipe_wipe]
    · have v3 := keep e3 o2 hv
      refine LT1 sd4 o3 (fun _ _ _ _ _ z => z.elim) q4 fun b μ5 H5 e5 o5 q5 => ?_
      have v5 := keep e5 o3 v3
      have d5 : DenL P tb K Ex (Plc (Hid Hd D) μ5) H5 acc vs := (da.ext e3).ext e5
      cases b with
      | true =>
        rw [if_pos rfl] at q5 ⊢
        refine LE1 (sd4.ext e5) o5 (fun _ _ _ _ _ z => z.elim) q5 fun z μ6 v6 H6 e6 o6 d6 q6 => ?_
        have v6' := keep e6 o5 v5
        refine ⟨vs, v6', ?_, μ6, acc ++ [z], vs ++ [v6], ?_, o6.hidPut (.inr rfl), upd_same, ?_, q6.2⟩
        · rw [← d5.len, sizeLine_eq]; exact q6.1
        · intro a ha hn
          obtain ⟨n1, n2⟩ := ((e2.trans e3).trans e5).trans e6 a ha hn
          exact ⟨n1, (upd_ne fun z => ha (by rw [z]; exact hD)).trans n2⟩
        · exact (DenL.append (d5.ext e6) (.one d6)).mono (hid_pl (.inr rfl)) fun _ _ z => z
      | false =>
        rw [if_neg (by decide)] at q5 ⊢
        exact ⟨μ5, acc, vs, ((e2.trans e3).trans e5), o5, v5, d5, q5⟩
  · have e : i = items.length := by omega
    subst e
    rw [List.drop_length] at q
    obtain ⟨g2, q⟩ := q
    obtain ⟨st, _⟩ := wl (Hid Hd D) μ2 H2 items.length e2 (hid_hh hD) o2 g2
    refine .inl ⟨st (Nat.le_refl _), ?_⟩
    have o2' : Ok P tb K Ex Hd μ2 H2 := o2.show
    have da' : DenL P tb K Ex (Plc Hd μ2) H2 acc vs := da.mono show_pl fun _ _ z => z
    have nD : μ2 D = none := by
      cases e : μ2 D with
      | none => rfl
      | some m => exact absurd (.inr rfl) (o2.own D m e).1
    obtain ⟨_, q⟩ := q
    cases mu with
    | false => exact c.nx (.lst acc) μ2 _ _ (e1.trans e2) o2' ⟨D, vs, rfl, ⟨nD, (o1.free hD).2⟩, hv, da'⟩ q
    | true =>
      have up : upd H2 D (.lst vs) = H2 := by
        funext a
        by_cases z : a = D
        · rw [z, upd_same, hv]
        · exact upd_ne z
      have hh : ∀ a, Plc Hd μ2 a → H2 a ≠ none → True := fun _ _ _ => trivial
      have mo : ∀ a, Plc (Hid Hd D) μ2 a → H2 a ≠ none → Plc Hd (μ2.set D (.lst acc)) a ∧ H2 a = H2 a := fun a p _ => ⟨⟨(Mu.set_ne fun z => p.2 (.inr z)).trans p.1, fun z => p.2 (.inl z)⟩, rfl⟩
      refine c.nx (.h D) (μ2.set D (.lst acc)) _ _ ?_ ?_ rfl (q D nD)
      · intro a ha hn
        obtain ⟨n1, n2⟩ := (e1.trans e2) a ha hn
        have nz : a ≠ D := fun z => by
          have : H1 D = none := hD
          obtain ⟨_, m2⟩ := e1 a ha hn
          rw [z, this] at m2
          exact ha (by rw [z]; exact m2.symm)
        exact ⟨(Mu.set_ne nz).trans n1, n2⟩
      · refine ⟨fun a m e => ?_, fun a z => o2.hid a (.inl z)⟩
        by_cases z : a = D
        · subst z
          rw [Mu.set_same] at e
          cases e
          exact ⟨(o1.free hD).2, vs, hv, da.mono mo fun _ _ z => z⟩
        · rw [Mu.set_ne z] at e
          obtain ⟨nh, q⟩ := o2.own a m e
          refine ⟨fun z => nh (.inl z), ?_⟩
          cases m with
          | lst xs =>
            obtain ⟨vs, q1, d⟩ := q
            exact ⟨vs, q1, d.mono mo fun _ _ z => z⟩
          | ins c fs =>
            obtain ⟨dx, vs, q1, k, d⟩ := q
            exact ⟨dx, vs, q1, k, d.mono mo fun _ _ z => z⟩
/-- in a comprehension's block -/
theorem GE.blk (g : GE P tb n lev true N sc Ex W X) (s : Shared) (H : Hp) (scope : Scope) (C : Addr) (cl : List (Str × Addr)) (fp : List Addr) :
    GE P tb n lev true N (relS scope sc) Ex noW (X.blk s H scope (compEnvC scope cl C X.env) fp) where
  F := g.F
  fn := g.fn
  eN := g.eN
  nd := g.nd
  esc := by rw [← g.esc]; rfl
  calm := g.calm
  room := g.room
  nex := g.nex
  un := g.un
  tk := fun u s' ⟨_, _, _, _, _, _, _, _, _, _, _, _, _, _, _, _, w⟩ => w.elim
theorem blk_str2 {s : Shared} {scope : Scope} {C : Addr} {cl : List (Str × Addr)} {fp : List Addr} : Str2 (X.blk s H scope (compEnvC scope cl C X.env) fp) scope := fun x h => by
  have e : (X.blk s H scope (compEnvC scope cl C X.env) fp).env.scope = relS scope X.env.scope := rfl
  rw [e]
  rcases loc_of h with k | k
  · have := lookup_relS_keep (sc := X.env.scope) (by decide) k
    exact ⟨.inl this, .inr this⟩
  · have := lookup_relS_keep (sc := X.env.scope) (by decide) k
    exact ⟨.inr this, .inl (by show (scope.names.lookup x == some .cell) = true; rw [k]; rfl)⟩
end
end Co
set_option Elab.async false
set_option linter.all false
set_option maxRecDepth 100000
set_option maxHeartbeats 2000000
namespace Co
open PySem PySem.Spec PyProof.Rows L2
/-! # Co, part 13: the soundness of expressions -/
section
variable {P : Pa} {tb : Tb} {n lev : Nat} {cm : Bool} {N : List Str} {Ex : Addr → Nat → Prop}
variable {W : WX} {X : Cx} {Hd : Addr → Prop} {ea : E} {ex : Expr} {sc : Scope} {pos p : Pos} {tg : Expr}
def Sv (P : Pa) (tb : Tb) (Ex : Addr → Nat → Prop) (W : WX) (X : Cx) (ex : Expr) (e : E) : Prop := SE P tb Ex W X ex (sE P e).v ∧ (testB e = true → ST P tb Ex W X ex (sE P e).t)
theorem sv_plain {e : E} (hs : SE P tb Ex W X ex (sE P e).v) (ht : (sE P e).t = tOf (sE P e).v := by rfl) (hp : plainT ex = true := by rfl) : Sv P tb Ex W X ex e :=
  ⟨hs, fun _ => by rw [ht]; exact pt_of hs (isTrue_plain' hp _)⟩
theorem s_frz (ha : SE P tb Ex W X ex (sE P ea).v) : SE P tb Ex W X ex (sE P (.frz ea)).v := by
  refine PE.imp' ha fun σ H Q h => ?_
  obtain ⟨Hd, μ, σT, QT, XT, sd, c, h⟩ := h
  refine LE1 sd c.ok c.xc h fun t μ1 v H1 e1 o1 d1 q => ?_
  cases t with
  | h a =>
    have q : (match μ1 a with | some (.lst xs) => QT (.lst xs) (μ1.del a) | some (.ins c fs) => QT (.ins c fs) (μ1.del a) | none => False) := q
    split at q
    · rename_i xs hm
      obtain ⟨nh, vs, q1, dl⟩ := o1.own a _ hm
      rw [show v = .ref a from d1]
      exact c.nx (.lst xs) (μ1.del a) _ _ (e1.trans ext_del) (o1.del a) ⟨a, vs, rfl, ⟨Mu.del_same, nh⟩, q1, dl.ext ext_del⟩ q
    · rename_i c' fs hm
      obtain ⟨nh, dx', vs', hH, k, dF⟩ := o1.own a _ hm
      rw [show v = .ref a from d1]
      exact c.nx (.ins c' fs) (μ1.del a) _ _ (e1.trans ext_del) (o1.del a) ⟨a, dx', vs', rfl, ⟨Mu.del_same, nh⟩, hH, k, dF.ext ext_del⟩ q
    · exact q.elim
  | _ => exact q.elim
theorem nop_no {lv : Nat → Nat} {e : E} (h : mtE P lv n lev N cm sc e ex = true) : isNop e = false := by
  cases e <;> first | rfl | skip
  cases ex <;> exact nomatch (show false = true from h)
def bop (k : Bool) : BoolOp := if k = true then .And else .Or
theorem fn_of {lv : Nat → Nat} {j k : Nat} (h : fnOkB P lv n lev j k = true) : j < n ∧ lv j ≤ lev ∧ callOk P j k := by
  have h1 := band (show (decide (j < n) && (decide (lv j ≤ lev) && (decide (P.np j - k ≤ (P.df j).length) && decide (k ≤ P.np j)))) = true from h)
  have h2 := band h1.2
  have h3 := band h2.2
  exact ⟨of_decide_eq_true h1.1, of_decide_eq_true h2.1, of_decide_eq_true h3.2, of_decide_eq_true h3.1⟩
theorem es_len {lv : Nat → Nat} : ∀ {es : Es} {xs : List Expr}, mtEs P lv n lev N cm sc es xs = true → noStars xs = true ∧ esLen es = xs.length
  | .nil, [], _ => ⟨rfl, rfl⟩
  | .cons e r, x :: xs, h => by
    have h1 := band (show (notStar x && (mtE P lv n lev N cm sc e x && mtEs P lv n lev N cm sc r xs)) = true from h)
    obtain ⟨i1, i2⟩ := es_len (band h1.2).2
    exact ⟨by show (notStar x && noStars xs) = true; rw [h1.1, i1]; rfl, by show esLen r + 1 = xs.length + 1; rw [i2]⟩
  | .nil, _ :: _, h => nomatch (show false = true from h)
  | .cons _ _, [], h => nomatch (show false = true from h)
theorem bs_v {k : Bool} {x y : Expr} {xs : List Expr} {e e2 : E} {r : Es} (ha : SE P tb Ex W X x (sE P e).v) (hb : PE X (.BoolOp (bop k) (y :: xs) pos) (LE P tb Ex W X.K (sBs P k (.cons e2 r)).v)) :
    PE X (.BoolOp (bop k) (x :: y :: xs) pos) (LE P tb Ex W X.K (sBs P k (.cons e (.cons e2 r))).v) := by
  cases k with
  | true =>
    refine PE.imp' (pe_and ha hb) fun σ H Q h => ?_
    obtain ⟨Hd, μ, σT, QT, XT, sd, c, h⟩ := h
    refine LE1 sd c.ok c.xc h fun t μ1 v H1 e1 o1 d1 q => ?_
    obtain ⟨b, rfl, q⟩ := q
    refine ⟨b, d1, ?_⟩
    cases b with
    | true =>
      rw [if_pos rfl] at q ⊢
      exact ⟨Hd, μ1, σT, QT, XT, sd.ext e1, c.ext e1 o1, q⟩
    | false =>
      rw [if_neg (by decide)] at q ⊢
      exact (c.ext e1 o1).here (t := .bl false) rfl q
  | false =>
    refine PE.imp' (pe_or ha hb) fun σ H Q h => ?_
    obtain ⟨Hd, μ, σT, QT, XT, sd, c, h⟩ := h
    refine LE1 sd c.ok c.xc h fun t μ1 v H1 e1 o1 d1 q => ?_
    obtain ⟨b, rfl, q⟩ := q
    refine ⟨b, d1, ?_⟩
    cases b with
    | false =>
      rw [if_pos rfl] at q
      rw [if_neg (by decide)]
      exact ⟨Hd, μ1, σT, QT, XT, sd.ext e1, c.ext e1 o1, q⟩
    | true =>
      rw [if_neg (by decide)] at q
      rw [if_pos rfl]
      exact (c.ext e1 o1).here (t := .bl true) rfl q
theorem bs_t {k : Bool} {x y : Expr} {xs : List Expr} {e e2 : E} {r : Es} (ha : ST P tb Ex W X x (sE P e).t) (hb : PW X (.BoolOp (bop k) (y :: xs) pos) (LT P tb Ex W X.K (sBs P k (.cons e2 r)).t)) :
    PW X (.BoolOp (bop k) (x :: y :: xs) pos) (LT P tb Ex W X.K (sBs P k (.cons e (.cons e2 r))).t) := by
  have wimp : ∀ {e : Expr} {t t' : TT}, PW X e t → (∀ σ H Q, t' σ H Q → t σ H Q) → PW X e t' := fun h i => ⟨fun wh pins s σ H Q I q => h.run wh pins s σ H Q I (i σ H Q q)⟩
  cases k with
  | true =>
    refine wimp (pw_and ha hb) fun σ H Q h => ?_
    obtain ⟨Hd, μ, σT, QT, XT, sd, c, h⟩ := h
    refine LT1 sd c.ok c.xc h fun b μ1 H1 e1 o1 q => ?_
    cases b with
    | true =>
      rw [if_pos rfl] at q ⊢
      exact ⟨Hd, μ1, σT, QT, XT, sd.ext e1, c.ext e1 o1, q⟩
    | false =>
      rw [if_neg (by decide)] at q ⊢
      exact c.nx false μ1 H1 e1 o1 q
  | false =>
    refine wimp (pw_or ha hb) fun σ H Q h => ?_
    obtain ⟨Hd, μ, σT, QT, XT, sd, c, h⟩ := h
    refine LT1 sd c.ok c.xc h fun b μ1 H1 e1 o1 q => ?_
    cases b with
    | false =>
      rw [if_pos rfl] at q
      rw [if_neg (by decide)]
      exact ⟨Hd, μ1, σT, QT, XT, sd.ext e1, c.ext e1 o1, q⟩
    | true =>
      rw [if_neg (by decide)] at q
      rw [if_pos rfl]
      exact c.nx true μ1 H1 e1 o1 q
/-- a comprehension -/
theorem s_lc {elt iter : Expr} {ifs : List Expr} {scope : Scope} {gT : Tg} {it : It} {mu : Bool} {ee : E} {cs : Es} {own : List Nat} (g : GE P tb n lev true N sc Ex W X) (hb : blkC N sc scope (ownP N own) = true) (ho : tgOwn gT own = true) (ht : mtTg N scope gT tg = true)
    (hs : notSet iter = true) (hi : SI P tb Ex W X tg iter (sI P it))
    (hc : ∀ (X' : Cx), GE P tb n lev true N (relS scope sc) Ex noW X' → STs P tb Ex noW X' ifs (sTs P cs)) (he : ∀ (X' : Cx), GE P tb n lev true N (relS scope sc) Ex noW X' → SE P tb Ex noW X' elt (sE P ee).v) :
    SE P tb Ex W X (.ListComp elt [⟨tg, iter, ifs, 0⟩] scope pos) (sE P (.lc mu ee gT it cs own)).v := by
  have hN : X.N.Nodup := by rw [g.eN]; exact g.nd
  have ok : BlkOk X.N X.env.scope scope (ownP N own) := by rw [g.eN, g.esc]; exact blkOk_by hb
  have R := pe_lc (pos := pos) (own := ownP N own) (g := LG P tb Ex X.K gT) (tt := LT P tb Ex noW X.K (allT (sTs P cs))) (te := LE P tb Ex noW X.K (sE P ee).v) (g.calm rfl) hN hi ok
    (fun s H C cl fp => g_tg (X := X.blk s H scope (compEnvC scope cl C X.env) fp) hN (g.calm rfl) blk_str2 g.eN ht)
    (fun s H C cl fp => pts_allT (X := X.blk s H scope (compEnvC scope cl C X.env) fp) (hc _ (g.blk s H scope C cl fp)))
    (fun s H C cl fp => he _ (g.blk s H scope C cl fp)) (notSet_it hs X.env)
  refine PE.imp' R fun σ H Q h => ?_
  rw [ownP_snd]
  exact lc_imp ho h

mutual
theorem so_E : ∀ (e : E) {W : WX} {X : Cx} {sc : Scope} {ex : Expr}, GE P tb n lev cm N sc Ex W X → mtE P tb.lv n lev N cm sc e ex = true → Sv P tb Ex W X ex e
  | .var i, W, X, sc, ex, g, h => by
    cases ex <;> first | exact nomatch (show false = true from h) | skip
    rename_i x p
    have h1 := band (show (decide (N[i]? = some x) && (visB sc x && dbgB x)) = true from h)
    have h2 := band h1.2
    exact sv_plain (s_var (by rw [g.eN]; exact of_decide_eq_true h1.1) (by rw [g.esc]; exact vis_of h2.1) h2.2)
  | .cst t, W, X, sc, ex, g, h => by
    cases ex <;> first | exact nomatch (show false = true from h) | skip
    exact sv_plain (s_cst h)
  | .glb k, W, X, sc, ex, g, h => by
    cases ex <;> first | exact nomatch (show false = true from h) | skip
    rename_i x p
    have h1 := band (show ((match P.gl[k]? with | some (y, _) => decide (y = x) | none => false) && (gloB sc x && dbgB x)) = true from h)
    have h2 := band h1.2
    have hk : ∃ t, P.gl[k]? = some (x, t) := by
      have := h1.1
      split at this
      · rename_i y t e
        exact ⟨t, by rw [e, of_decide_eq_true this]⟩
      · cases this
    obtain ⟨t, hk⟩ := hk
    exact sv_plain (s_glb g.F hk (glo_of g.esc h2.1) h2.2)
  | .bin o a b, W, X, sc, ex, g, h => by
    cases ex <;> first | exact nomatch (show false = true from h) | skip
    have h1 := band h
    have h2 := band h1.2
    have e := of_decide_eq_true h1.1
    subst e
    exact sv_plain (s_bin (so_E a g h2.1).1 (so_E b g h2.2).1)
  | .obin m a b, W, X, sc, ex, g, h => by
    cases ex <;> first | exact nomatch (show false = true from h) | skip
    have h1 := band h
    have h2 := band h1.2
    have h3 := band h2.2
    have h4 := band h3.2
    have h5 := band h4.2
    have g' : GE P tb n lev true N sc Ex W X := h1.1 ▸ g
    exact sv_plain (s_obin g' (of_decide_eq_true h3.1) (of_decide_eq_true h2.1) h4.1 (so_E a g h5.1).1 (so_E b g h5.2).1)
  | .cat mu a b, W, X, sc, ex, g, h => by
    cases ex <;> first | exact nomatch (show false = true from h) | skip
    have h1 := band h
    have h2 := band h1.2
    have e := of_decide_eq_true h1.1
    subst e
    exact sv_plain (s_cat (so_E a g h2.1).1 (so_E b g h2.2).1)
  | .rep mu a b, W, X, sc, ex, g, h => by
    cases ex <;> first | exact nomatch (show false = true from h) | skip
    have h1 := band h
    have h2 := band h1.2
    have e := of_decide_eq_true h1.1
    subst e
    exact sv_plain (s_rep (so_E a g h2.1).1 (so_E b g h2.2).1)
  | .neg a, W, X, sc, ex, g, h => by
    cases ex <;> first | exact nomatch (show false = true from h) | skip
    have h1 := band h
    have e := of_decide_eq_true h1.1
    subst e
    exact sv_plain (s_neg (so_E a g h1.2).1)
  | .ong m a, W, X, sc, ex, g, h => by
    cases ex <;> first | exact nomatch (show false = true from h) | skip
    have h0 := band h
    have h1 := band h0.2
    have h2 := band h1.2
    have h3 := band h2.2
    have h4 := band h3.2
    have e := of_decide_eq_true h1.1
    subst e
    have g' : GE P tb n lev true N sc Ex W X := h0.1 ▸ g
    exact sv_plain (s_ong g' (of_decide_eq_true h3.1) (of_decide_eq_true h2.1) h4.1 (so_E a g h4.2).1)
  | .not a, W, X, sc, ex, g, h => by
    cases ex <;> first | exact nomatch (show false = true from h) | skip
    have h1 := band h
    have h2 := band h1.2
    have e := of_decide_eq_true h1.1
    subst e
    have ia := so_E a g h2.2
    exact ⟨s_not ia.1, fun _ => t_not (ia.2 h2.1)⟩
  | .cmp o a b, W, X, sc, ex, g, h => by
    cases ex <;> first | exact nomatch (show false = true from h) | skip
    rename_i l ops rs p
    cases ops with
    | nil => exact nomatch (show false = true from h)
    | cons op ops =>
    cases rs with
    | nil => cases ops <;> exact nomatch (show false = true from h)
    | cons r rs =>
    cases ops <;> cases rs <;> first | exact nomatch (show false = true from h) | skip
    have h1 := band h
    have h2 := band h1.2
    have h3 := band h2.2
    have e := of_decide_eq_true h1.1
    subst e
    have ia := (so_E a g h3.1).1
    have ib := (so_E b g h3.2).1
    exact ⟨s_cmp g.un h2.1 ia ib, fun _ => t_cmp g.un h2.1 ia ib⟩
  | .oeq ng m a b, W, X, sc, ex, g, h => by
    cases ex <;> first | exact nomatch (show false = true from h) | skip
    rename_i l ops rs p
    cases ops with
    | nil => exact nomatch (show false = true from h)
    | cons op ops =>
    cases rs with
    | nil => cases ops <;> exact nomatch (show false = true from h)
    | cons r rs =>
    cases ops <;> cases rs <;> first | exact nomatch (show false = true from h) | skip
    have h0 := band h
    have h1 := band h0.2
    have h2 := band h1.2
    have h3 := band h2.2
    have h4 := band h3.2
    have h5 := band h4.2
    have h6 := band h5.2
    have h7 := band h6.2
    have g' : GE P tb n lev true N sc Ex W X := h0.1 ▸ g
    have e := of_decide_eq_true h2.1
    subst e
    have ia := (so_E a g h7.1).1
    have ib := (so_E b g h7.2).1
    cases ng with
    | true => exact nomatch (show false = true from h1.1)
    | false => exact ⟨s_oeq g' (of_decide_eq_true h4.1) (of_decide_eq_true h3.1) h5.1 h6.1 ia ib, fun _ => t_oeq g' (of_decide_eq_true h4.1) (of_decide_eq_true h3.1) h5.1 h6.1 ia ib⟩
  | .chn o o' a b c, W, X, sc, ex, g, h => by
    cases ex <;> first | exact nomatch (show false = true from h) | skip
    rename_i l ops rs p
    obtain ⟨op, op', r, r', rfl, rfl⟩ : ∃ op op' r r', ops = [op, op'] ∧ rs = [r, r'] := by
      rcases ops with _ | ⟨op, _ | ⟨op', _ | ⟨op3, ops⟩⟩⟩ <;> rcases rs with _ | ⟨r, _ | ⟨r', _ | ⟨r3, rs⟩⟩⟩ <;> first | exact nomatch (show false = true from h) | exact ⟨_, _, _, _, rfl, rfl⟩
    have h1 := band h
    have h2 := band h1.2
    have h3 := band h2.2
    have h4 := band h3.2
    have h5 := band h4.2
    have h6 := band h5.2
    have h7 := band h6.2
    have e := of_decide_eq_true h3.1
    subst e
    have e := of_decide_eq_true h4.1
    subst e
    have ia := (so_E a g h6.1).1
    have ib := (so_E b g h7.1).1
    have ic := (so_E c g h7.2).1
    exact ⟨s_chn h1.1 h2.1 h5.1 ia ib ic, fun _ => t_chn h1.1 h2.1 h5.1 ia ib ic⟩
  | .and es, W, X, sc, ex, g, h => by
    cases ex <;> first | exact nomatch (show false = true from h) | skip
    have h1 := band h
    have e := of_decide_eq_true h1.1
    subst e
    rename_i xs pos
    have i := so_Bs es (k := true) (pos := pos) g h1.2
    exact ⟨i.1, fun ht => (i.2 ht).pt⟩
  | .or es, W, X, sc, ex, g, h => by
    cases ex <;> first | exact nomatch (show false = true from h) | skip
    have h1 := band h
    have e := of_decide_eq_true h1.1
    subst e
    rename_i xs pos
    have i := so_Bs es (k := false) (pos := pos) g h1.2
    exact ⟨i.1, fun ht => (i.2 ht).pt⟩
  | .ite c a b, W, X, sc, ex, g, h => by
    cases ex <;> first | exact nomatch (show false = true from h) | skip
    have h1 := band h
    have h2 := band h1.2
    have h3 := band h2.2
    exact ⟨s_ite ((so_E c g h2.1).2 h1.1) (so_E a g h3.1).1 (so_E b g h3.2).1, fun z => nomatch z⟩
  | .tup es, W, X, sc, ex, g, h => by
    cases ex <;> first | exact nomatch (show false = true from h) | skip
    exact sv_plain (s_tup (so_Es es g h))
  | .lst mu es, W, X, sc, ex, g, h => by
    cases ex <;> first | exact nomatch (show false = true from h) | skip
    exact sv_plain (s_lst (so_Es es g h))
  | .fld a f, W, X, sc, ex, g, h => by
    cases ex <;> first | exact nomatch (show false = true from h) | skip
    have h1 := band h
    have h2 := band h1.2
    have h3 := band h2.2
    have e := of_decide_eq_true h1.1
    subst e
    exact sv_plain (s_fld g.F (of_decide_eq_true h2.1) h3.1 (so_E a g h3.2).1)
  | .idx a i, W, X, sc, ex, g, h => by
    cases ex <;> first | exact nomatch (show false = true from h) | skip
    have h1 := band h
    have h2 := band h1.2
    exact sv_plain (s_idx h1.1 (so_E a g h2.1).1 (so_E i g h2.2).1)
  | .slc mu a lo hi, W, X, sc, ex, g, h => by
    cases ex <;> first | exact nomatch (show false = true from h) | skip
    rename_i x y p
    cases y <;> first | exact nomatch (show false = true from h) | skip
    rename_i l u st p2
    cases st with
    | some _ => exact nomatch (show false = true from h)
    | none =>
    have h1 := band h
    have h2 := band h1.2
    refine sv_plain (s_slc (so_E a g h1.1).1 ?_ ?_)
    · cases l with
      | none => exact so_none h2.1
      | some e => exact so_some (nop_no h2.1) (so_E lo g h2.1).1
    · cases u with
      | none => exact so_none h2.2
      | some e => exact so_some (nop_no h2.2) (so_E hi g h2.2).1
  | .nop, W, X, sc, ex, g, h => by cases ex <;> exact nomatch (show false = true from h)
  | .call j es, W, X, sc, ex, g, h => by
    cases ex <;> first | exact nomatch (show false = true from h) | skip
    rename_i f xs kws p
    cases f <;> first | exact nomatch (show false = true from h) | skip
    cases kws with
    | cons _ _ => exact nomatch (show false = true from h)
    | nil =>
    have h0 := band h
    have h1 := band h0.2
    have h2 := band h1.2
    have h3 := band h2.2
    have h4 := band h3.2
    have h5 := band h4.2
    have g' : GE P tb n lev true N sc Ex W X := h0.1 ▸ g
    obtain ⟨f1, f2, f3⟩ := fn_of h1.1
    have hne := beq_eq_false_iff_ne.mp ((Bool.not_eq_true' _).mp h3.1)
    have ia := so_Es es g h5.2
    obtain ⟨k1, k2⟩ := es_len h5.2
    cases xs with
    | nil => cases es with
      | nil => exact sv_plain (s_call0 g' f1 f2 (of_decide_eq_true h2.1) hne (glo_of g.esc h4.1) h5.1)
      | cons _ _ => cases k2
    | cons x xs => exact sv_plain (s_call g' f1 f2 (of_decide_eq_true h2.1) hne (glo_of g.esc h4.1) h5.1 k1 ia)
  | .mk c j fz es, W, X, sc, ex, g, h => by
    cases ex <;> first | exact nomatch (show false = true from h) | skip
    rename_i f xs kws p
    cases f <;> first | exact nomatch (show false = true from h) | skip
    cases kws with
    | cons _ _ => exact nomatch (show false = true from h)
    | nil =>
    have h0 := band h
    have h1 := band h0.2
    have h2 := band h1.2
    have h3 := band h2.2
    have h4 := band h3.2
    have h5 := band h4.2
    have h6 := band h5.2
    have g' : GE P tb n lev true N sc Ex W X := h0.1 ▸ g
    obtain ⟨f1, f2, f3⟩ := fn_of h1.1
    have ia := so_Es es g h6.2
    obtain ⟨k1, k2⟩ := es_len h6.2
    cases xs with
    | nil => cases es with
      | nil => exact sv_plain (s_mk0 g' f1 (of_decide_eq_true h2.1) (of_decide_eq_true h3.1) (of_decide_eq_true h4.1) (glo_of g.esc h5.1) h6.1)
      | cons _ _ => cases k2
    | cons x xs => exact sv_plain (s_mk g' f1 (of_decide_eq_true h2.1) (of_decide_eq_true h3.1) (of_decide_eq_true h4.1) (glo_of g.esc h5.1) h6.1 k1 ia)
  | .met a m es, W, X, sc, ex, g, h => by
    cases ex <;> first | exact nomatch (show false = true from h) | skip
    rename_i f xs kws p
    cases f <;> first | exact nomatch (show false = true from h) | skip
    cases kws with
    | cons _ _ => exact nomatch (show false = true from h)
    | nil =>
    have h0 := band h
    have h1 := band h0.2
    have h2 := band h1.2
    have h3 := band h2.2
    have h4 := band h3.2
    have h5 := band h4.2
    have h6 := band h5.2
    have h7 := band h6.2
    have g' : GE P tb n lev true N sc Ex W X := h0.1 ▸ g
    have e := of_decide_eq_true h1.1
    subst e
    have io := (so_E a g h7.1).1
    have ia := so_Es es g h7.2
    obtain ⟨k1, k2⟩ := es_len h7.2
    cases xs with
    | nil => cases es with
      | nil => exact sv_plain (s_met0 g' (of_decide_eq_true h2.1) h3.1 h4.1 h6.1 io)
      | cons _ _ => cases k2
    | cons x xs => exact sv_plain (s_met g' (of_decide_eq_true h2.1) h3.1 h4.1 (of_decide_eq_true h5.1) k1 h6.1 io ia)
  | .bi mu b es, W, X, sc, ex, g, h => by
    cases ex <;> first | exact nomatch (show false = true from h) | skip
    rename_i f xs kws p
    cases f <;> first | exact nomatch (show false = true from h) | skip
    cases kws with
    | cons _ _ => exact nomatch (show false = true from h)
    | nil =>
    have h0 := band h
    have h1 := band h0.2
    have h2 := band h1.2
    have h3 := band h2.2
    have h4 := band h3.2
    have h5 := band h4.2
    have g' : GE P tb n lev true N sc Ex W X := h0.1 ▸ g
    have e := of_decide_eq_true h3.1
    subst e
    have ia := so_Es es g h5.2
    obtain ⟨k1, k2⟩ := es_len h5.2
    cases xs with
    | nil => exact nomatch h1.1
    | cons x xs => exact sv_plain (s_bi g.F (g'.calm rfl) h2.1 (glo_of g.esc h4.1) (fun e => by subst e; exact h5.1) k1 ia)
  | .bm a m es, W, X, sc, ex, g, h => by
    cases ex <;> first | exact nomatch (show false = true from h) | skip
    rename_i f xs kws p
    cases f <;> first | exact nomatch (show false = true from h) | skip
    cases kws with
    | cons _ _ => exact nomatch (show false = true from h)
    | nil =>
    have h0 := band h
    have h1 := band h0.2
    have h2 := band h1.2
    have h3 := band h2.2
    have h4 := band h3.2
    have h5 := band h4.2
    have h6 := band h5.2
    have e := of_decide_eq_true h2.1
    subst e
    have io := (so_E a g h6.1).1
    have ia := so_Es es g h6.2
    obtain ⟨k1, k2⟩ := es_len h6.2
    have hA := h1.1
    cases xs with
    | nil => cases es with
      | nil => cases m <;> first | exact nomatch (show false = true from hA) | exact sv_plain (s_bm0 h3.1 h4.1 io)
      | cons _ _ => cases k2
    | cons x xs => exact sv_plain (s_bm h0.1 h3.1 h4.1 (of_decide_eq_true h5.1) k1 (fun e => by subst e; exact nomatch (show false = true from hA)) io ia)
  | .lc mu el gT it cs own, W, X, sc, ex, g, h => by
    cases ex <;> first | exact nomatch (show false = true from h) | skip
    rename_i elt gens scope p
    obtain ⟨tg, ie, ifs, k, rfl⟩ : ∃ tg ie ifs k, gens = [⟨tg, ie, ifs, k⟩] := by
      rcases gens with _ | ⟨⟨t, i, f, k⟩, _ | ⟨⟨t2, i2, f2, k2⟩, cs⟩⟩ <;> first | exact nomatch (show false = true from h) | exact ⟨_, _, _, _, rfl⟩
    have h0 := band h
    have h1 := band h0.2
    have h2 := band h1.2
    have h3 := band h2.2
    have h4 := band h3.2
    have h5 := band h4.2
    have h6 := band h5.2
    have h7 := band h6.2
    have e := of_decide_eq_true h1.1
    subst e
    have g' : GE P tb n lev true N sc Ex W X := h0.1 ▸ g
    exact sv_plain (s_lc g' h2.1 h3.1 h4.1 h5.1 (so_I it g h6.1) (fun X' gx => so_Ts cs (h0.1.symm ▸ gx) h7.1) (fun X' gx => (so_E el (h0.1.symm ▸ gx) h7.2).1))
  | .lc2 .., W, X, sc, ex, g, h => by cases ex <;> exact nomatch (show false = true from h)
  | .frz a, W, X, sc, ex, g, h => ⟨s_frz (so_E a g h).1, fun z => nomatch z⟩
  | .isi a c, W, X, sc, ex, g, h => by
    cases ex <;> first | exact nomatch (show false = true from h) | skip
    rename_i f xs kws p
    cases f <;> first | exact nomatch (show false = true from h) | skip
    obtain ⟨e1, ce, rfl⟩ : ∃ e1 ce, xs = [e1, ce] := by
      cases xs with
      | nil => exact nomatch (show false = true from h)
      | cons e1 xs =>
      cases xs with
      | nil => exact nomatch (show false = true from h)
      | cons ce xs =>
      cases xs with
      | nil => exact ⟨_, _, rfl⟩
      | cons _ _ => exact nomatch (show false = true from h)
    cases kws with
    | cons _ _ => exact nomatch (show false = true from h)
    | nil =>
    have h0 := band h
    have h1 := band h0.2
    have h2 := band h1.2
    have h3 := band h2.2
    have h4 := band h3.2
    have h5 := band h4.2
    have g' : GE P tb n lev true N sc Ex W X := h0.1 ▸ g
    have e := of_decide_eq_true h2.1
    subst e
    exact sv_plain (s_isi g.F h1.1 g.esc (glo_of g.esc h3.1) h4.1 h5.1 (so_E a g h5.2).1)
  | .isx .., W, X, sc, ex, g, h => by cases ex <;> exact nomatch (show false = true from h)
theorem so_Es : ∀ (es : Es) {W : WX} {X : Cx} {sc : Scope} {xs : List Expr}, GE P tb n lev cm N sc Ex W X → mtEs P tb.lv n lev N cm sc es xs = true → SA P tb Ex W X xs (sEs P es)
  | .nil, W, X, sc, xs, g, h => by
    cases xs with
    | nil => exact s_nil
    | cons _ _ => exact nomatch (show false = true from h)
  | .cons e r, W, X, sc, xs, g, h => by
    cases xs with
    | nil => exact nomatch (show false = true from h)
    | cons x xs =>
      have h1 := band h
      have h2 := band h1.2
      exact s_cons h1.1 (so_E e g h2.1).1 (so_Es r g h2.2)
theorem so_Bs : ∀ (es : Es) {W : WX} {X : Cx} {sc : Scope} {xs : List Expr} {k : Bool} {pos : Pos}, GE P tb n lev cm N sc Ex W X → mtBs P tb.lv n lev N cm sc es xs = true →
    PE X (.BoolOp (bop k) xs pos) (LE P tb Ex W X.K (sBs P k es).v) ∧ (testBs es = true → PW X (.BoolOp (bop k) xs pos) (LT P tb Ex W X.K (sBs P k es).t))
  | .nil, W, X, sc, xs, k, pos, g, h => by cases xs <;> exact nomatch (show false = true from h)
  | .cons e .nil, W, X, sc, xs, k, pos, g, h => by
    cases xs with
    | nil => exact nomatch (show false = true from h)
    | cons x xs =>
      cases xs with
      | cons _ _ => exact nomatch (show false = true from h)
      | nil =>
        have i := so_E e g h
        refine ⟨pe_one i.1, fun ht => ?_⟩
        have it := i.2 (band (show (testB e && true) = true from ht)).1
        cases k with
        | true => exact pw_and1 it
        | false => exact pw_or1 it
  | .cons e (.cons e2 r), W, X, sc, xs, k, pos, g, h => by
    cases xs with
    | nil => exact nomatch (show false = true from h)
    | cons x xs =>
      cases xs with
      | nil => exact nomatch (show false = true from h)
      | cons y xs =>
        have h1 := band h
        have i := so_E e g h1.1
        have j := so_Bs (.cons e2 r) (k := k) (pos := pos) g h1.2
        refine ⟨bs_v i.1 j.1, fun ht => ?_⟩
        have h2 := band (show (testB e && testBs (.cons e2 r)) = true from ht)
        exact bs_t (i.2 h2.1) (j.2 h2.2)
theorem so_Ts : ∀ (es : Es) {W : WX} {X : Cx} {sc : Scope} {xs : List Expr}, GE P tb n lev cm N sc Ex W X → mtTs P tb.lv n lev N cm sc es xs = true → STs P tb Ex W X xs (sTs P es)
  | .nil, W, X, sc, xs, g, h => by
    cases xs with
    | nil => exact trivial
    | cons _ _ => exact nomatch (show false = true from h)
  | .cons e r, W, X, sc, xs, g, h => by
    cases xs with
    | nil => exact nomatch (show false = true from h)
    | cons x xs =>
      have h1 := band h
      have h2 := band h1.2
      exact ⟨(so_E e g h2.1).2 h1.1, so_Ts r g h2.2⟩
theorem so_I : ∀ (it : It) {W : WX} {X : Cx} {sc : Scope} {tg ex : Expr}, GE P tb n lev cm N sc Ex W X → mtI P tb.lv n lev N cm sc it tg ex = true → SI P tb Ex W X tg ex (sI P it)
  | .ex e, W, X, sc, tg, ex, g, h => i_ex (so_E e g h).1
  | .rng1 a, W, X, sc, tg, ex, g, h => by
    cases ex <;> first | exact nomatch (show false = true from h) | skip
    rename_i f xs kws p
    cases f <;> first | exact nomatch (show false = true from h) | skip
    obtain ⟨e1, rfl⟩ : ∃ e1, xs = [e1] := by
      cases xs with
      | nil => exact nomatch (show false = true from h)
      | cons e1 xs =>
      cases xs with
      | nil => exact ⟨_, rfl⟩
      | cons ce xs => exact nomatch (show false = true from h)
    cases kws with
    | cons _ _ => exact nomatch (show false = true from h)
    | nil =>
    have h1 := band h
    have h2 := band h1.2
    have h3 := band h2.2
    have e := of_decide_eq_true h1.1
    subst e
    exact i_rng1 g.F (glo_of g.esc h2.1) h3.1 (so_E a g h3.2).1
  | .rng2 a b, W, X, sc, tg, ex, g, h => by
    cases ex <;> first | exact nomatch (show false = true from h) | skip
    rename_i f xs kws p
    cases f <;> first | exact nomatch (show false = true from h) | skip
    obtain ⟨e1, ce, rfl⟩ : ∃ e1 ce, xs = [e1, ce] := by
      cases xs with
      | nil => exact nomatch (show false = true from h)
      | cons e1 xs =>
      cases xs with
      | nil => exact nomatch (show false = true from h)
      | cons ce xs =>
      cases xs with
      | nil => exact ⟨_, _, rfl⟩
      | cons _ _ => exact nomatch (show false = true from h)
    cases kws with
    | cons _ _ => exact nomatch (show false = true from h)
    | nil =>
    have h1 := band h
    have h2 := band h1.2
    have h3 := band h2.2
    have h4 := band h3.2
    have h5 := band h4.2
    have e := of_decide_eq_true h1.1
    subst e
    exact i_rng2 g.F (glo_of g.esc h2.1) h3.1 h4.1 (so_E a g h5.1).1 (so_E b g h5.2).1
  | .rng3 .., W, X, sc, tg, ex, g, h => by cases ex <;> exact nomatch (show false = true from h)
  | .enu a, W, X, sc, tg, ex, g, h => by
    cases tg <;> first | (cases ex <;> exact nomatch (show false = true from h)) | skip
    cases ex <;> first | exact nomatch (show false = true from h) | skip
    rename_i f xs kws p
    cases f <;> first | exact nomatch (show false = true from h) | skip
    obtain ⟨e1, rfl⟩ : ∃ e1, xs = [e1] := by
      cases xs with
      | nil => exact nomatch (show false = true from h)
      | cons e1 xs =>
      cases xs with
      | nil => exact ⟨_, rfl⟩
      | cons ce xs => exact nomatch (show false = true from h)
    cases kws with
    | cons _ _ => exact nomatch (show false = true from h)
    | nil =>
    have h1 := band h
    have h2 := band h1.2
    have h3 := band h2.2
    have e := of_decide_eq_true h1.1
    subst e
    exact i_enu g.F (glo_of g.esc h2.1) h3.1 (so_E a g h3.2).1
  | .zip a b, W, X, sc, tg, ex, g, h => by
    cases tg <;> first | (cases ex <;> exact nomatch (show false = true from h)) | skip
    cases ex <;> first | exact nomatch (show false = true from h) | skip
    rename_i f xs kws p
    cases f <;> first | exact nomatch (show false = true from h) | skip
    obtain ⟨e1, ce, rfl⟩ : ∃ e1 ce, xs = [e1, ce] := by
      cases xs with
      | nil => exact nomatch (show false = true from h)
      | cons e1 xs =>
      cases xs with
      | nil => exact nomatch (show false = true from h)
      | cons ce xs =>
      cases xs with
      | nil => exact ⟨_, _, rfl⟩
      | cons _ _ => exact nomatch (show false = true from h)
    cases kws with
    | cons _ _ => exact nomatch (show false = true from h)
    | nil =>
    have h1 := band h
    have h2 := band h1.2
    have h3 := band h2.2
    have h4 := band h3.2
    have h5 := band h4.2
    have e := of_decide_eq_true h1.1
    subst e
    exact i_zip g.F (glo_of g.esc h2.1) h3.1 h4.1 (so_E a g h5.1).1 (so_E b g h5.2).1
  | .rev a, W, X, sc, tg, ex, g, h => by
    cases ex <;> first | exact nomatch (show false = true from h) | skip
    rename_i f xs kws p
    cases f <;> first | exact nomatch (show false = true from h) | skip
    obtain ⟨e1, rfl⟩ : ∃ e1, xs = [e1] := by
      cases xs with
      | nil => exact nomatch (show false = true from h)
      | cons e1 xs =>
      cases xs with
      | nil => exact ⟨_, rfl⟩
      | cons ce xs => exact nomatch (show false = true from h)
    cases kws with
    | cons _ _ => exact nomatch (show false = true from h)
    | nil =>
    have h1 := band h
    have h2 := band h1.2
    have h3 := band h2.2
    have e := of_decide_eq_true h1.1
    subst e
    exact i_rev g.F (glo_of g.esc h2.1) h3.1 (so_E a g h3.2).1
end
end
end Co
set_option Elab.async false
set_option linter.all false
set_option maxRecDepth 100000
set_option maxHeartbeats 2000000
namespace Co
open PySem PySem.Spec PyProof.Rows L2
/-! # Co, part 14: statements, one by one -/
structure CK (P : Pa) (tb : Tb) (K : PySem.W.Frag) (Ex : Addr → Nat → Prop) (Hd : Addr → Prop) (W : WX) (μ : Mu) (H : Hp) (KT : Kt) (D : Ends) : Prop where
  nx : ∀ σT' μ' σ' H', Co.Ext μ H μ' H' → Ok P tb K Ex Hd μ' H' → SD P tb K Ex (Plc Hd μ') H' σT' σ' → KT.nx σT' μ' → D.nx σ' H'
  bk : ∀ σT' μ' σ' H', Co.Ext μ H μ' H' → Ok P tb K Ex Hd μ' H' → SD P tb K Ex (Plc Hd μ') H' σT' σ' → KT.bk σT' μ' → D.bk σ' H'
  ct : ∀ σT' μ' σ' H', Co.Ext μ H μ' H' → Ok P tb K Ex Hd μ' H' → SD P tb K Ex (Plc Hd μ') H' σT' σ' → KT.ct σT' μ' → D.ct σ' H'
  rt : ∀ t μ' v H', Co.Ext μ H μ' H' → Ok P tb K Ex Hd μ' H' → Den P tb K Ex (Plc Hd μ') H' t v → KT.rt t μ' → D.rt v H'
  xc : ∀ c σT' μ' σ' H', Co.Ext μ H μ' H' → Ok P tb K Ex Hd μ' H' → SD P tb K Ex (Plc Hd μ') H' σT' σ' → KT.xc c σT' μ' → W (.ref (tb.xa c)) none σ' H'
def LS (P : Pa) (tb : Tb) (Ex : Addr → Nat → Prop) (W : WX) (K : PySem.W.Frag) (sv : Kt → Sg → Mu → Prop) : TS := fun D σ H => ∃ (Hd : Addr → Prop) (μ : Mu) (σT : Sg) (KT : Kt), SD P tb K Ex (Plc Hd μ) H σT σ ∧ Ok P tb K Ex Hd μ H ∧ CK P tb K Ex Hd W μ H KT D ∧ sv KT σT μ
abbrev SS (P : Pa) (tb : Tb) (Ex : Addr → Nat → Prop) (W : WX) (X : Cx) (st : Stmt) (s : S) : Prop := PS X st (LS P tb Ex W X.K (sS P s))
abbrev SSs (P : Pa) (tb : Tb) (Ex : Addr → Nat → Prop) (W : WX) (X : Cx) (st : List Stmt) (s : Ss) : Prop := PSs X st (LS P tb Ex W X.K (sSs P s))
section
variable {P : Pa} {tb : Tb} {n lev : Nat} {cm : Bool} {N : List Str} {sc : Scope} {Ex : Addr → Nat → Prop} {W : WX} {X : Cx} {Hd Hd' : Addr → Prop}
variable {a b c : Expr} {ea eb ec : E} {pos : Pos} {es : List Expr} {el : Es} {x' : Str} {p : Pos} {e : Expr}
variable {σ : L2.St} {σT : Sg} {μ μ' μ1 : Mu} {H H' H1 : Hp} {QT QT' : Pq} {XT : Xq} {Q Q' : VK} {s : Shared} {pins : List (Addr × Obj)} {x y : V} {u v : Value} {t t' : T} {K : PySem.W.Frag} {tg : Expr} {KT : Kt} {D : Ends}
theorem CK.ext (c : CK P tb K Ex Hd W μ H KT D) (e : Co.Ext μ H μ1 H1) : CK P tb K Ex Hd W μ1 H1 KT D :=
  ⟨fun a b c' d e' => c.nx a b c' d (e.trans e'), fun a b c' d e' => c.bk a b c' d (e.trans e'), fun a b c' d e' => c.ct a b c' d (e.trans e'), fun a b c' d e' => c.rt a b c' d (e.trans e'), fun a b c' d f e' => c.xc a b c' d f (e.trans e')⟩
theorem CK.xe (c : CK P tb K Ex Hd W μ H KT D) (sd : SD P tb K Ex (Plc Hd μ) H σT σ) : ∀ cc μ' H', Co.Ext μ H μ' H' → Ok P tb K Ex Hd μ' H' → KT.xc cc σT μ' → W (.ref (tb.xa cc)) none σ H' :=
  fun cc μ' H' e o q => c.xc cc σT μ' σ H' e o (sd.ext e) q
theorem PS.imp' {st : Stmt} {t t' : TS} (h : PS X st t) (i : ∀ D σ H, t' D σ H → t D σ H) : PS X st t' := ⟨fun pins s σ H D I q => h.run pins s σ H D I (i D σ H q)⟩
theorem PSs.imp' {st : List Stmt} {t t' : TS} (h : PSs X st t) (i : ∀ D σ H, t' D σ H → t D σ H) : PSs X st t' := ⟨fun pins s σ H D I q => h.run pins s σ H D I (i D σ H q)⟩
/-- where a statement stands -/
structure GT (P : Pa) (tb : Tb) (n lev : Nat) (N : List Str) (sc : Scope) (W : WX) (X : Cx) : Prop where
  g : GE P tb n lev true N sc NoEx W X
  hs : X.stack = X.env :: X.outer
  hf : X.env.frame = some X.env.locals
  hl : Str2 X sc
  pass : PassesOwn (model X.prog X.w) X.A X.env X.xe
/-! ### the swaps -/
def notComp : Expr → Bool
  | .ListComp _ _ _ _ => false
  | .SetComp _ _ _ _ => false
  | .DictComp _ _ _ _ _ => false
  | _ => true
theorem sw_no (h : notComp e = true) (t : Option Expr) (l : Nat) (env : Env) : swapsWith e t l env = pure false := by
  cases e <;> first | rfl | exact nomatch (show false = true from h)
theorem sw_tup {es : List Expr} {k : Nat} {pt : Pos} (l : Nat) (env : Env) : swapsWithSole [.Tuple es k pt] e l env = pure false := by
  show swapsWith e (some (.Tuple es k pt)) l env = pure false
  cases e <;> rfl
theorem sw_sub {o i : Expr} {pt : Pos} (l : Nat) (env : Env) : swapsWithSole [.Subscript o i pt] e l env = pure false := by
  show swapsWith e (some (.Subscript o i pt)) l env = pure false
  cases e <;> rfl
theorem sw_att {o : Expr} {f : Str} {pt : Pos} (l : Nat) (env : Env) : swapsWith e (some (.Attribute o f pt)) l env = pure false := by
  cases e <;> rfl
theorem sto_sub {o i : Expr} {pt : Pos} (env : Env) : swappedStores [.Subscript o i pt] e env = pure none := by
  cases e <;> rfl
/-- no tuple, or one of constants: stored one by one -/
def flatV : Expr → Bool
  | .Tuple vs _ _ => vs.all (foldedForSure 8)
  | _ => true
theorem sto_flat {es : List Expr} {k : Nat} {pt : Pos} (h : flatV e = true) (env : Env) : swappedStores [.Tuple es k pt] e env = pure none := by
  cases e <;> first | rfl | skip
  have h' : _ = true := h
  unfold flatV at h'
  unfold swappedStores
  simp only [h', if_true]
  repeat (first | rfl | split)
/-- no names among the targets -/
def noName : Expr → Bool
  | .Name _ _ => false
  | _ => true
theorem sto_nonames {es : List Expr} {k : Nat} {pt : Pos} (h : es.all noName = true) (h2 : es.length ≠ 0) (env : Env) : swappedStores [.Tuple es k pt] e env = pure none := by
  cases e <;> first | rfl | skip
  have key : ∀ f : Expr → Option Str, (∀ x ∈ es, f x = none) → es.filterMap f = [] := fun f hf => List.filterMap_eq_nil_iff.mpr hf
  unfold swappedStores
  simp only []
  split
  · rfl
  · split
    · rfl
    · split
      · rfl
      · rename_i z
        exfalso
        apply z
        rw [key _ (fun x hx => by
          have hx' := List.all_eq_true.mp h x hx
          cases x <;> first | rfl | exact nomatch (show false = true from hx'))]
        simp only [List.length_nil, Bool.or_eq_true, bne_iff_ne, ne_eq]
        exact .inl fun q => h2 q.symm
end
end Co
set_option Elab.async false
set_option linter.all false
set_option maxRecDepth 100000
set_option maxHeartbeats 2000000
namespace Co
open PySem PySem.Spec PyProof.Rows L2
/-! # Co, part 15: the rules of statements -/
section
variable {P : Pa} {tb : Tb} {n lev : Nat} {cm : Bool} {N : List Str} {sc : Scope} {Ex : Addr → Nat → Prop} {W : WX} {X : Cx} {Hd Hd' : Addr → Prop}
variable {a b c : Expr} {ea eb ec : E} {pos : Pos} {es : List Expr} {el : Es} {x' : Str} {p : Pos} {e : Expr}
variable {σ : L2.St} {σT : Sg} {μ μ' μ1 : Mu} {H H' H1 : Hp} {QT QT' : Pq} {XT : Xq} {Q Q' : VK} {s : Shared} {pins : List (Addr × Obj)} {x y : V} {u v : Value} {t t' : T} {K : PySem.W.Frag} {tg : Expr} {KT : Kt} {D : Ends}
theorem r_set {i : Nat} (nd : X.N.Nodup) (hi : X.N[i]? = some x') (hl : L2.Loc X.env.scope x' ∧ (X.fn x' = true ∨ X.env.scope.names.lookup x' = some .local)) (hc : notComp e = true) (he : SE P tb Ex W X e (sE P ea).v) :
    SS P tb Ex W X (.Assign [.Name x' p] e pos) (.set i ea) := by
  refine PS.imp' (ps_set nd hi hl.1 he (sw_no hc _ _ _) hl.2) fun D σ H h => ?_
  obtain ⟨Hd, μ, σT, KT, sd, ok, ck, h⟩ := h
  exact LE1 sd ok (ck.xe sd) h fun t μ1 v H1 e1 o1 d1 q => ck.nx _ _ _ _ e1 o1 ((sd.ext e1).set d1) q
theorem r_setLc {i : Nat} {elt iter : Expr} {ifs : List Expr} {scope : Scope} {gT : Tg} {it : It} {mu : Bool} {ee : E} {cs : Es} {own : List Nat} {py spos : Pos} (g : GE P tb n lev true N sc Ex W X)
    (hy : N[i]? = some x') (hyl : sc.names.lookup x' = some .local) (hline : (py.line == pos.line) = true) (hno : (scope.names.any fun (n, k) => n == x' && (k == .local || k == .cell)) = false) (hkind : X.env.scope.kind = .function)
    (hb : blkC N sc scope (ownP N own) = true) (ho : tgOwn gT own = true) (ht : mtTg N scope gT tg = true) (hs : notSet iter = true) (hi : SI P tb Ex W X tg iter (sI P it))
    (hc : ∀ (X' : Cx), GE P tb n lev true N (relS scope sc) Ex noW X' → STs P tb Ex noW X' ifs (sTs P cs)) (he : ∀ (X' : Cx), GE P tb n lev true N (relS scope sc) Ex noW X' → SE P tb Ex noW X' elt (sE P ee).v) :
    SS P tb Ex W X (.Assign [.Name x' py] (.ListComp elt [⟨tg, iter, ifs, 0⟩] scope pos) spos) (.set i (.lc mu ee gT it cs own)) := by
  have hN : X.N.Nodup := by rw [g.eN]; exact g.nd
  have ok : BlkOk X.N X.env.scope scope (ownP N own) := by rw [g.eN, g.esc]; exact blkOk_by hb
  have hyl' : X.env.scope.names.lookup x' = some .local := by rw [g.esc]; exact hyl
  have R := ps_setLc (pos := pos) (spos := spos) (py := py) (i := i) (own := ownP N own) (g := LG P tb Ex X.K gT) (tt := LT P tb Ex noW X.K (allT (sTs P cs))) (te := LE P tb Ex noW X.K (sE P ee).v) (g.calm rfl) hN (by rw [g.eN]; exact hy) hyl'
    (sw_true hkind hyl' hline hno) hi ok
    (fun s H C cl fp => g_tg (X := X.blk s H scope (compEnvC scope cl C X.env) fp) hN (g.calm rfl) blk_str2 g.eN ht)
    (fun s H C cl fp => pts_allT (X := X.blk s H scope (compEnvC scope cl C X.env) fp) (hc _ (g.blk s H scope C cl fp)))
    (fun s H C cl fp => he _ (g.blk s H scope C cl fp)) (notSet_it hs X.env)
  refine PS.imp' R fun D σ H h => ?_
  obtain ⟨Hd, μ, σT, KT, sd, ok, ck, h⟩ := h
  rw [ownP_snd]
  have h' : (sE P (.lc mu ee gT it cs own)).v σT μ (fun t μ1 => KT.nx (setS σT i (some t)) μ1) (fun c μ1 => KT.xc c σT μ1) := h
  exact lc_imp ho (LE1 sd ok (ck.xe sd) h' fun t μ1 v H1 e1 o1 d1 q => ck.nx _ _ _ _ e1 o1 ((sd.ext e1).set d1) q)
theorem r_unp {is : List Nat} {kk : Nat} {tp : Pos} (g : GE P tb n lev true N sc Ex W X) (hl : Str2 X sc) (ht : mtTg N sc (.tp is) (.Tuple es kk tp) = true) (hv : flatV e = true) (he : SE P tb Ex W X e (sE P ea).v) :
    SS P tb Ex W X (.Assign [.Tuple es kk tp] e pos) (.unp is ea) := by
  have hN : X.N.Nodup := by rw [g.eN]; exact g.nd
  refine PS.imp' (ps_asg he (g_tg (P := P) (tb := tb) (Ex := Ex) hN (g.calm rfl) hl g.eN ht) (sw_tup _ _) (sto_flat hv _)) fun D σ H h => ?_
  obtain ⟨Hd, μ, σT, KT, sd, ok, ck, h⟩ := h
  refine LE1 sd ok (ck.xe sd) h fun t μ1 v H1 e1 o1 d1 q => ?_
  cases t with
  | tup xs => exact ⟨Hd, μ1, σT, .tup xs, fun σ1 => KT.nx σ1 μ1, sd.ext e1, d1, q, fun σ' σT' sd' _ q' => ck.nx _ _ _ _ e1 o1 sd' q'⟩
  | _ => exact q.elim
theorem r_ret (he : SE P tb Ex W X e (sE P ea).v) : SS P tb Ex W X (.Return (some e) pos) (.ret ea) := by
  refine PS.imp' (ps_ret he) fun D σ H h => ?_
  obtain ⟨Hd, μ, σT, KT, sd, ok, ck, h⟩ := h
  exact LE1 sd ok (ck.xe sd) h fun t μ1 v H1 e1 o1 d1 q => ck.rt _ _ _ _ e1 o1 d1 q
theorem r_retN : SS P tb Ex W X (.Return none pos) .retN := by
  refine PS.imp' ps_retN fun D σ H h => ?_
  obtain ⟨Hd, μ, σT, KT, sd, ok, ck, h⟩ := h
  exact ck.rt .non μ .non H .refl ok rfl h
theorem r_exp (hc : notComp e = true) (he : SE P tb Ex W X e (sE P ea).v) : SS P tb Ex W X (.Expr e pos) (.exp ea) := by
  refine PS.imp' (ps_expr he (sw_no hc _ _ _)) fun D σ H h => ?_
  obtain ⟨Hd, μ, σT, KT, sd, ok, ck, h⟩ := h
  exact LE1 sd ok (ck.xe sd) h fun t μ1 v H1 e1 o1 d1 q => ck.nx _ _ _ _ e1 o1 (sd.ext e1) q
theorem r_pas : SS P tb Ex W X (.Pass pos) .pas := by
  refine PS.imp' ps_pass fun D σ H h => ?_
  obtain ⟨Hd, μ, σT, KT, sd, ok, ck, h⟩ := h
  exact ck.nx _ _ _ _ .refl ok sd h
theorem r_brk : SS P tb Ex W X (.Break pos) .brk := by
  refine PS.imp' ps_break fun D σ H h => ?_
  obtain ⟨Hd, μ, σT, KT, sd, ok, ck, h⟩ := h
  exact ck.bk _ _ _ _ .refl ok sd h
theorem r_cnt : SS P tb Ex W X (.Continue pos) .cnt := by
  refine PS.imp' ps_continue fun D σ H h => ?_
  obtain ⟨Hd, μ, σT, KT, sd, ok, ck, h⟩ := h
  exact ck.ct _ _ _ _ .refl ok sd h
theorem r_ifs {sa sb : Ss} {as bs : List Stmt} (hc : ST P tb Ex W X c (sE P ec).t) (ha : SSs P tb Ex W X as sa) (hb : SSs P tb Ex W X bs sb) : SS P tb Ex W X (.If c as bs pos) (.ifs ec sa sb) := by
  refine PS.imp' (ps_if hc ha hb) fun D σ H h => ?_
  obtain ⟨Hd, μ, σT, KT, sd, ok, ck, h⟩ := h
  refine LT1 sd ok (ck.xe sd) h fun k μ1 H1 e1 o1 q => ?_
  cases k with
  | true => rw [if_pos rfl] at q ⊢; exact ⟨Hd, μ1, σT, KT, sd.ext e1, o1, ck.ext e1, q⟩
  | false => rw [if_neg (by decide)] at q ⊢; exact ⟨Hd, μ1, σT, KT, sd.ext e1, o1, ck.ext e1, q⟩
theorem r_nil : SSs P tb Ex W X [] .nil := by
  refine PSs.imp' pss_nil fun D σ H h => ?_
  obtain ⟨Hd, μ, σT, KT, sd, ok, ck, h⟩ := h
  exact ck.nx _ _ _ _ .refl ok sd h
theorem r_cons {st : Stmt} {sts : List Stmt} {s0 : S} {r : Ss} (h1 : SS P tb Ex W X st s0) (h2 : SSs P tb Ex W X sts r) : SSs P tb Ex W X (st :: sts) (.cons s0 r) := by
  refine PSs.imp' (pss_cons h1 h2) fun D σ H h => ?_
  obtain ⟨Hd, μ, σT, KT, sd, ok, ck, h⟩ := h
  exact ⟨Hd, μ, σT, { KT with nx := sSs P r KT }, sd, ok, ⟨fun a b c d e' o' sd' q => ⟨Hd, b, a, KT, sd', o', ck.ext e', q⟩, ck.bk, ck.ct, ck.rt, ck.xc⟩, h⟩
theorem r_fr {gT : Tg} {it : It} {iter : Expr} {bs : List Stmt} {sb : Ss} (g : GT P tb n lev N sc W X) (ht : mtTg N sc gT tg = true) (hs : notSet iter = true) (hi : SI P tb NoEx W X tg iter (sI P it)) (hb : SSs P tb NoEx W X bs sb) :
    SS P tb NoEx W X (.For tg iter bs [] pos) (.fr gT it sb) := by
  have hN : X.N.Nodup := by rw [g.g.eN]; exact g.g.nd
  refine PS.imp' (ps_for g.pass (g.g.calm rfl) hi (g_tg (P := P) (tb := tb) (Ex := NoEx) hN (g.g.calm rfl) g.hl g.g.eN ht) hb (notSet_it hs X.env)) fun D σ H h => ?_
  obtain ⟨Hd, μ, σT, KT, sd, ok, ck, h⟩ := h
  refine ⟨Hd, μ, σT, _, _, sd, ok, h, fun items gd μ1 H1 J e1 o1 g1 wl q => ?_, ck.xe sd⟩
  refine ⟨fun i m σ' H' => m = items.length - i ∧ i ≤ items.length ∧ ∃ μ2 σT2, Co.Ext μ1 H1 μ2 H' ∧ Ok P tb X.K NoEx Hd μ2 H' ∧ SD P tb X.K NoEx (Plc Hd μ2) H' σT2 σ' ∧
    frGo (fun n => sSs P sb { KT with nx := n, ct := n, bk := KT.nx }) gT gd KT.nx (items.drop i) σT2 μ2, ⟨_, rfl, Nat.zero_le _, μ1, σT, .refl, o1, sd.ext e1, q⟩, ?_⟩
  rintro i m σ' H2 ⟨rfl, hi, μ2, σT2, e2, o2, sd2, q⟩
  by_cases hlt : i < items.length
  · obtain ⟨t, ht⟩ : ∃ t, items[i]? = some t := ⟨items[i], by simp [hlt]⟩
    have hd : items.drop i = t :: items.drop (i + 1) := by
      rw [List.drop_eq_getElem_cons hlt]
      rw [List.getElem?_eq_getElem hlt] at ht
      cases ht; rfl
    rw [hd] at q
    obtain ⟨g2, q⟩ := q
    obtain ⟨_, gy⟩ := wl Hd μ2 H2 i e2 (fun a z => .inl z) o2 g2
    obtain ⟨go, yl⟩ := gy t ht
    refine .inr ⟨go, fun σ' H' => ∃ μ2 σT2, Co.Ext μ1 H1 μ2 H' ∧ Ok P tb X.K NoEx Hd μ2 H' ∧ SD P tb X.K NoEx (Plc Hd μ2) H' σT2 σ' ∧
      frGo (fun n => sSs P sb { KT with nx := n, ct := n, bk := KT.nx }) gT gd KT.nx (items.drop (i + 1)) σT2 μ2, fun σ' H' z => ⟨items.length - (i + 1), by omega, rfl, hlt, z⟩, fun x H3 y => ?_⟩
    obtain ⟨e3, o3, dx⟩ := yl x H3 y
    refine ⟨Hd, μ2, σT2, t, _, sd2.ext e3, dx, q, fun σ4 σT4 sd4 _ q4 => ?_⟩
    have e13 := (e1.trans e2).trans e3
    refine ⟨Hd, μ2, σT4, { KT with nx := frGo (fun n => sSs P sb { KT with nx := n, ct := n, bk := KT.nx }) gT gd KT.nx (items.drop (i + 1)), ct := frGo (fun n => sSs P sb { KT with nx := n, ct := n, bk := KT.nx }) gT gd KT.nx (items.drop (i + 1)), bk := KT.nx }, sd4, o3, ⟨fun a b c d e' o' sd' q' => ⟨b, a, (e2.trans e3).trans e', o', sd', q'⟩, fun a b c d e' o' sd' q' => ck.nx a b c d (e13.trans e') o' sd' q', fun a b c d e' o' sd' q' => ⟨b, a, (e2.trans e3).trans e', o', sd', q'⟩,
      fun a b c d e' o' dn q' => ck.rt a b c d (e13.trans e') o' dn q', fun a b c d f e' o' sd' q' => ck.xc a b c d f (e13.trans e') o' sd' q'⟩, q4⟩
  · have e : i = items.length := by omega
    subst e
    rw [List.drop_length] at q
    obtain ⟨g2, q⟩ := q
    obtain ⟨st, _⟩ := wl Hd μ2 H2 items.length e2 (fun a z => .inl z) o2 g2
    exact .inl ⟨st (Nat.le_refl _), ck.nx _ _ _ _ (e1.trans e2) o2 sd2 q⟩
theorem r_wh {bs : List Stmt} {sb : Ss} (g : GT P tb n lev N sc W X) (hc : ST P tb NoEx W X c (sE P ec).t) (hb : SSs P tb NoEx W X bs sb) :
    SS P tb NoEx W X (.While c bs [] pos) (.wh ec sb) := by
  refine PS.imp' (ps_while g.pass hc hb) fun D σ H h => ?_
  obtain ⟨Hd, μ, σT, KT, sd, ok, ck, h⟩ := h
  obtain ⟨Wv, ⟨m0, w0⟩, turn⟩ := h
  refine ⟨fun m σ' H' => ∃ μ2 σT2, Co.Ext μ H μ2 H' ∧ Ok P tb X.K NoEx Hd μ2 H' ∧ SD P tb X.K NoEx (Plc Hd μ2) H' σT2 σ' ∧ Wv m σT2 μ2, ⟨m0, μ, σT, .refl, ok, sd, w0⟩, ?_⟩
  rintro m σ' H' ⟨μ2, σT2, e2, o2, sd2, w2⟩
  have ck2 := ck.ext e2
  refine LT1 sd2 o2 (ck2.xe sd2) (turn m σT2 μ2 w2) fun k μ3 H3 e3 o3 q => ?_
  cases k with
  | false =>
    rw [if_neg (by decide)] at q ⊢
    exact ck2.nx _ _ _ _ e3 o3 (sd2.ext e3) q
  | true =>
    rw [if_pos rfl] at q ⊢
    have e23 := e2.trans e3
    refine ⟨fun σ' H' => ∃ m', m' < m ∧ ∃ μ2 σT2, Co.Ext μ H μ2 H' ∧ Ok P tb X.K NoEx Hd μ2 H' ∧ SD P tb X.K NoEx (Plc Hd μ2) H' σT2 σ' ∧ Wv m' σT2 μ2, fun σ' H' z => z, Hd, μ3, σT2, { KT with nx := fun σ' μ' => ∃ m', m' < m ∧ Wv m' σ' μ', ct := fun σ' μ' => ∃ m', m' < m ∧ Wv m' σ' μ', bk := KT.nx }, sd2.ext e3, o3, ⟨?_, ?_, ?_, ?_, ?_⟩, q⟩
    · rintro a b c d e' o' sd' ⟨m', hm, w⟩
      exact ⟨m', hm, b, a, e23.trans e', o', sd', w⟩
    · exact fun a b c d e' o' sd' q' => ck.nx a b c d (e23.trans e') o' sd' q'
    · rintro a b c d e' o' sd' ⟨m', hm, w⟩
      exact ⟨m', hm, b, a, e23.trans e', o', sd', w⟩
    · exact fun a b c d e' o' dn q' => ck.rt a b c d (e23.trans e') o' dn q'
    · exact fun a b c d f e' o' sd' q' => ck.xc a b c d f (e23.trans e') o' sd' q'
theorem r_rai {xi : Nat} {m : Str} {j : Nat} {p2 pp : Pos} (F : Facts P tb X.K X.mg) (hc : X.calm = true) (tk : Takes X W) (hx : P.xn[xi]? = some x') (hg : Gl X x') (hd : dbgB x' = true) :
    SS P tb Ex W X (.Raise (some (.Call (.Name x' p) [.Constant (.str m) j p2] [] pp)) none pos) (.rai xi m) := by
  obtain ⟨q1, q2, q3, q4⟩ := F.exi xi x' hx
  refine PS.imp' (ps_raise hc tk (pmk_own PySem.F.excBase_ValueError q1 (F.exg xi x' hx) q2 (raises_own q3 q4) hg (dbg_of hd).1)) fun D σ H h => ?_
  obtain ⟨Hd, μ, σT, KT, sd, ok, ck, h⟩ := h
  exact ck.xc xi σT μ σ H .refl ok sd h
theorem r_gst {sts : List Stmt} {r : Ss} {i : Nat} (h2 : SSs P tb Ex W X sts r) : SSs P tb Ex W X sts (.cons (.gst i) r) := by
  refine PSs.imp' h2 fun D σ H h => ?_
  obtain ⟨Hd, μ, σT, KT, sd, ok, ck, h⟩ := h
  have h' : (match getS σT i with | some t => wFrz t μ fun t' μ' => sSs P r KT (setS σT i (some t')) μ' | none => False) := h
  split at h'
  · rename_i t eg
    obtain ⟨v, hv, dv⟩ := sd.at_ i t eg
    have same : ∀ {t' : T}, Den P tb X.K Ex (Plc Hd μ) H t' v → True := fun _ => trivial
    have go : ∀ {μ' : Mu} {t' : T}, Co.Ext μ H μ' H → Ok P tb X.K Ex Hd μ' H → Den P tb X.K Ex (Plc Hd μ') H t' v → sSs P r KT (setS σT i (some t')) μ' → LS P tb Ex W X.K (sSs P r) D σ H := fun {μ' t'} ex o d q => by
      have e : σ.set i (some v) = σ := by
        obtain ⟨hl, he⟩ := List.getElem?_eq_some_iff.mp hv
        rw [← he]; exact List.set_getElem_self hl
      have sd' := (sd.ext ex).set (i := i) d
      rw [e] at sd'
      exact ⟨Hd, μ', _, KT, sd', o, ck.ext ex, q⟩
    cases t with
    | h a =>
      have h2 : (match μ a with | some (.lst xs) => sSs P r KT (setS σT i (some (.lst xs))) (μ.del a) | some (.ins c fs) => sSs P r KT (setS σT i (some (.ins c fs))) (μ.del a) | none => False) := h'
      split at h2
      · rename_i xs hm
        obtain ⟨nh, vs, q1, dl⟩ := ok.own a _ hm
        exact go (t' := .lst xs) ext_del (ok.del a) ⟨a, vs, dv, ⟨Mu.del_same, nh⟩, q1, dl.ext ext_del⟩ h2
      · rename_i c' fs hm
        obtain ⟨nh, dx', vs', hH, k, dF⟩ := ok.own a _ hm
        exact go (t' := .ins c' fs) ext_del (ok.del a) ⟨a, dx', vs', dv, ⟨Mu.del_same, nh⟩, hH, k, dF.ext ext_del⟩ h2
      · exact h2.elim
    | _ => exact h'.elim
  · exact h'.elim
end
end Co
set_option Elab.async false
set_option linter.all false
set_option maxRecDepth 100000
set_option maxHeartbeats 2000000
namespace Co
open PySem PySem.Spec PyProof.Rows L2
/-! # Co, part 16: stores, several at once, errors that are caught -/
section
variable {P : Pa} {tb : Tb} {n lev : Nat} {cm : Bool} {N : List Str} {sc : Scope} {Ex : Addr → Nat → Prop} {W : WX} {X : Cx} {Hd Hd' : Addr → Prop}
variable {a b c o i : Expr} {ea eb ec eo ei : E} {pos tpos : Pos} {es : List Expr} {el : Es} {x' : Str} {p : Pos} {e : Expr}
variable {σ : L2.St} {σT : Sg} {μ μ' μ1 : Mu} {H H' H1 : Hp} {QT QT' : Pq} {XT : Xq} {Q Q' : VK} {s : Shared} {pins : List (Addr × Obj)} {x y : V} {u v : Value} {t t' : T} {K : PySem.W.Frag} {tg : Expr} {KT : Kt} {D : Ends}
/-! ### stores -/
theorem six_ok {to ti tv : T} {ov iv v : V} {R : Mu → Prop} {Q : Hp → Prop} (o1 : Ok P tb K Ex Hd μ H) (do_ : Den P tb K Ex (Plc Hd μ) H to ov) (di : Den P tb K Ex (Plc Hd μ) H ti iv) (dv : Den P tb K Ex (Plc Hd μ) H tv v) (h : wSix to ti tv μ R)
    (k : ∀ μ' H', Co.Ext μ H μ' H' → Ok P tb K Ex Hd μ' H' → R μ' → Q H') : rSetL ov iv v H Q := by
  unfold wSix at h
  split at h
  · rename_i a kk
    split at h
    · rename_i xs em
      obtain ⟨j, hj, q⟩ := h
      obtain ⟨_, vs, hv, dl⟩ := o1.own a _ em
      have ex := ext_put (μ := μ) (H := H) (p := a) (u := .lst (vs.set j v)) (m := .lst (xs.set j tv)) (.inr ⟨_, em⟩)
      refine ⟨a, vs, kk, j, do_, di, hv, by rw [← dl.len]; exact hj, k _ _ ex (o1.put (m := .lst (xs.set j tv)) (.inr ⟨_, em⟩) ⟨vs.set j v, upd_same, (dl.set j dv).ext ex⟩) q⟩
    · exact h.elim
  · exact h.elim
theorem pg_ix {o i : Expr} {to ti : TE} {t : TSet} (hi' : notSlice i = true) (ho : PE X o to) (hi : PE X i ti) (hs : PSet X t) : PG X (.Subscript o i pos) (gSub to ti t) :=
  pg_sub ho hi hs (by intro v; cases i <;> first | rfl | exact nomatch (show false = true from hi'))
theorem r_six (hn : notSlice i = true) (hv : SE P tb Ex W X e (sE P ea).v) (ho : SE P tb Ex W X o (sE P eo).v) (hi : SE P tb Ex W X i (sE P ei).v) : SS P tb Ex W X (.Assign [.Subscript o i tpos] e pos) (.six eo ei ea) := by
  refine PS.imp' (ps_asg hv (pg_ix hn ho hi set_list) (sw_sub _ _) (sto_sub _)) fun D σ H h => ?_
  obtain ⟨Hd, μ, σT, KT, sd, ok, ck, h⟩ := h
  refine LE1 sd ok (ck.xe sd) h fun t μ1 v H1 e1 o1 d1 q => LE1 (sd.ext e1) o1 ((ck.ext e1).xe (sd.ext e1)) q fun t2 μ2 v2 H2 e2 o2 d2 q2 => LE1 (sd.ext (e1.trans e2)) o2 ((ck.ext (e1.trans e2)).xe (sd.ext (e1.trans e2))) q2 fun t3 μ3 v3 H3 e3 o3 d3 q3 => ?_
  have e12 := e1.trans e2
  exact six_ok o3 (d2.ext e3) d3 (d1.ext (e2.trans e3)) q3 fun μ' H' e4 o4 q4 => ck.nx _ _ _ _ ((e12.trans e3).trans e4) o4 (sd.ext ((e12.trans e3).trans e4)) q4
theorem r_sfl {f : Nat} (F : Facts P tb X.K X.mg) (hf : f < P.at_.length) (hv : SE P tb Ex W X e (sE P ea).v) (ho : SE P tb Ex W X o (sE P eo).v) : SS P tb Ex W X (.Assign [.Attribute o (nmA P f) tpos] e pos) (.sfl eo f ea) := by
  refine PS.imp' (ps_fld ho hv (sw_att _ _)) fun D σ H h => ?_
  obtain ⟨Hd, μ, σT, KT, sd, ok, ck, h⟩ := h
  refine LE1 sd ok (ck.xe sd) h fun t μ1 v H1 e1 o1 d1 q => LE1 (sd.ext e1) o1 ((ck.ext e1).xe (sd.ext e1)) q fun t2 μ2 v2 H2 e2 o2 d2 q2 => ?_
  unfold wSfl at q2
  split at q2
  · rename_i a
    split at q2
    · rename_i c fs em
      obtain ⟨hl, hc, q⟩ := q2
      obtain ⟨_, dx, vs, hv, k, dF⟩ := o2.own a _ em
      have ex := ext_put (μ := μ2) (H := H2) (p := a) (u := .ins (tb.ca c) dx (putF (nmA P f) v vs)) (m := .ins c (putN f t fs)) (.inr ⟨_, em⟩)
      have ok' := o2.put (u := .ins (tb.ca c) dx (putF (nmA P f) v vs)) (m := .ins c (putN f t fs)) (.inr ⟨_, em⟩) ⟨dx, putF (nmA P f) v vs, upd_same, ⟨k.1, okF_put hc k.2⟩, DenF.put ((d1.ext e2).ext ex) (inj_fl F hf k.2) (dF.ext ex)⟩
      have et := (e1.trans e2).trans ex
      exact ⟨a, _, dx, vs, d2, hv, F.cls c k.1, F.noat c f k.1 hc, by rw [← dF.len]; exact hl, ck.nx _ _ _ _ et ok' (sd.ext et) q⟩
    · exact q2.elim
  · exact q2.elim
theorem r_aug {i : Nat} {op : Op2} (nd : X.N.Nodup) (hi : X.N[i]? = some x') (hl : L2.Loc X.env.scope x' ∧ (X.fn x' = true ∨ X.env.scope.names.lookup x' = some .local)) (hop : op = .add ∨ op = .sub) (he : SE P tb Ex W X e (sE P ea).v) :
    SS P tb Ex W X (.AugAssign (.Name x' p) (opP op) e pos) (.aug i op ea) := by
  have go : ∀ {F : Int → Int → Int} {opr : Operator}, opP op = opr → PIp X opr (ipI F) → (∀ t t' μ QT, wAugV op t t' μ QT → ∃ i j, t = .int i ∧ t' = .int j ∧ QT (.int (F i j)) μ) → SS P tb Ex W X (.AugAssign (.Name x' p) (opP op) e pos) (.aug i op ea) := fun {F opr} eo hp hq => by
    rw [eo]
    refine PS.imp' (ps_aug nd hi hl.1 he hp hl.2) fun D σ H h => ?_
    obtain ⟨Hd, μ, σT, KT, sd, ok, ck, h⟩ := h
    have h' : (match getS σT i with | some x => (sE P ea).v σT μ (fun y μ1 => wAugV op x y μ1 fun z μ2 => KT.nx (setS σT i (some z)) μ2) (fun c μ1 => KT.xc c σT μ1) | none => False) := h
    cases eg : getS σT i with
    | none => rw [eg] at h'; exact h'.elim
    | some t0 =>
      rw [eg] at h'
      obtain ⟨x0, hx0, d0⟩ := sd.at_ i t0 eg
      refine ⟨x0, hx0, LE1 sd ok (ck.xe sd) h' fun t μ1 v H1 e1 o1 d1 q => ?_⟩
      obtain ⟨k, j, rfl, rfl, q2⟩ := hq _ _ _ _ q
      exact ⟨k, j, d0, d1, ck.nx _ _ _ _ e1 o1 ((sd.ext e1).set (t := .int (F k j)) (v := .int (F k j)) rfl) q2⟩
  rcases hop with rfl | rfl
  · refine go rfl ip_add fun t t' μ QT h => ?_
    cases t <;> cases t' <;> first | exact ⟨_, _, rfl, rfl, h⟩ | exact h.elim
  · refine go rfl ip_sub fun t t' μ QT h => ?_
    cases t <;> cases t' <;> first | exact ⟨_, _, rfl, rfl, h⟩ | exact h.elim
/-! ### several at once -/
theorem constOf {vs : List Expr} {k : Nat} {pt : Pos} {p1 p2 p3 : Pos} {k1 : Nat} {a b : Expr} {x1 x2 : Str} (h0 : X.env.scope.kind = .function) (h1 : X.env.scope.names.lookup x1 = some .local) (h2 : X.env.scope.names.lookup x2 = some .local) (hline : (p2.line == p1.line) = true) (hne : x1 ≠ x2)
    (ha : notStar a = true) (hb : notStar b = true) (hf : [a, b].all (foldedForSure 8) = false) (hc : [a, b].all (constantsAlone 8) = false) :
    swappedStores [.Tuple [.Name x1 p1, .Name x2 p2] k pt] (.Tuple [a, b] k1 p3) X.env = pure (some [x1, x2]) := by
  have hk1 : X.env.kindOf x1 = some .local := h1
  have hk2 : X.env.kindOf x2 = some .local := h2
  have hbk : X.env.blockKind = .function := by unfold Env.blockKind; rw [h0]; rfl
  have hs : ([a, b].any fun | .Starred .. => true | _ => false) = false := by
    cases a <;> first | exact nomatch (show false = true from ha) | (cases b <;> first | exact nomatch (show false = true from hb) | rfl)
  have hd : (x2 == x1) = false := beq_eq_false_iff_ne.mpr (Ne.symm hne)
  unfold swappedStores
  have hn : ([Expr.Name x1 p1, Expr.Name x2 p2].filterMap fun | .Name id pos => if X.env.kindOf id == some .local && pos.line == p1.line then some id else none | _ => none) = [x1, x2] := by
    simp [List.filterMap, hk1, hk2, hline]
  simp only [List.length_cons, List.length_nil, hbk, hs, hf, hc, hk1, hk2, hline, List.filterMap, List.head?, Option.map, Option.getD, Expr.pos]
  simp [List.eraseDups_cons, hd]
  intro z
  exfalso
  rcases z with z | z
  · cases a <;> first | exact nomatch (show false = true from ha) | cases z
  · cases b <;> first | exact nomatch (show false = true from hb) | cases z
theorem r_par {i j : Nat} {x1 x2 : Str} {p1 p2 pt p3 : Pos} {k k1 : Nat} (g : GE P tb n lev true N sc Ex W X) (h0 : X.env.scope.kind = .function) (hi : N[i]? = some x1) (hj : N[j]? = some x2) (hij : i ≠ j) (h1 : sc.names.lookup x1 = some .local) (h2 : sc.names.lookup x2 = some .local)
    (hline : (p2.line == p1.line) = true) (hne : x1 ≠ x2) (ha : notStar a = true) (hb : notStar b = true) (hf : [a, b].all (foldedForSure 8) = false) (hc : [a, b].all (constantsAlone 8) = false) (hA : SA P tb Ex W X [a, b] (sEs P el)) :
    SS P tb Ex W X (.Assign [.Tuple [.Name x1 p1, .Name x2 p2] k pt] (.Tuple [a, b] k1 p3) pos) (.par [i, j] el) := by
  have h1' : X.env.scope.names.lookup x1 = some .local := by rw [g.esc]; exact h1
  have h2' : X.env.scope.names.lookup x2 = some .local := by rw [g.esc]; exact h2
  refine PS.imp' (ps_par (g.calm rfl) (by rw [g.eN]; exact g.nd) (by rw [g.eN]; exact hi) (by rw [g.eN]; exact hj) hij h1' h2' hA (constOf (vs := []) h0 h1' h2' hline hne ha hb hf hc)) fun D σ H h => ?_
  obtain ⟨Hd, μ, σT, KT, sd, ok, ck, h⟩ := h
  refine LA1 sd ok (ck.xe sd) h fun ts μ1 vs H1 e1 o1 d1 q => ?_
  rcases ts with _ | ⟨t1, _ | ⟨t2, _ | ⟨t3, ts⟩⟩⟩
  · exact q.elim
  · exact q.elim
  · obtain ⟨v, w, rfl, dv, dw⟩ := d1.inv2
    exact ⟨v, w, rfl, ck.nx _ _ _ _ e1 o1 (((sd.ext e1).set dv).set dw) q⟩
  · exact q.elim
/-! ### o[i], p[j] = a tuple -/
def LU (P : Pa) (tb : Tb) (Ex : Addr → Nat → Prop) (W : WX) (K : PySem.W.Frag) (l : List (E × E)) : TGs := fun vs σ H Q => ∃ (Hd : Addr → Prop) (μ : Mu) (σT : Sg) (ts : List T) (R : Mu → Prop) (XT : Xq), SD P tb K Ex (Plc Hd μ) H σT σ ∧ Ok P tb K Ex Hd μ H ∧ DenL P tb K Ex (Plc Hd μ) H ts vs ∧
  unpSGo P XT σT R l ts μ ∧ (∀ μ' H', Co.Ext μ H μ' H' → Ok P tb K Ex Hd μ' H' → R μ' → Q σ H') ∧ ∀ c μ' H', Co.Ext μ H μ' H' → Ok P tb K Ex Hd μ' H' → XT c μ' → W (.ref (tb.xa c)) none σ H'
/-- targets with their readings -/
def UOk (P : Pa) (tb : Tb) (Ex : Addr → Nat → Prop) (W : WX) (X : Cx) : List (E × E) → List Expr → Prop
  | [], [] => True
  | (eo, ei) :: l, .Subscript o i _ :: es => (notSlice i = true ∧ SE P tb Ex W X o (sE P eo).v ∧ SE P tb Ex W X i (sE P ei).v) ∧ UOk P tb Ex W X l es
  | _, _ => False
theorem u_pgs : ∀ {l : List (E × E)} {es : List Expr}, UOk P tb Ex W X l es → PGs X es (LU P tb Ex W X.K l) ∧ (assignEach es X.env).length = l.length ∧ (assignEach es X.env).findIdx? (·.1) = none ∧ es.all noName = true
  | [], [], _ => by
    refine ⟨⟨fun pins s σ H vs us Q I r h => ?_⟩, rfl, rfl, rfl⟩
    obtain ⟨Hd, μ, σT, ts, R, XT, sd, ok, d, q, k, _⟩ := h
    cases ts with
    | nil =>
      rw [show vs = [] from d] at r
      exact pgs_nil.run pins s σ H [] us Q I r ⟨rfl, k μ H .refl ok q⟩
    | cons t ts => exact q.elim
  | (eo, ei) :: l, .Subscript o i p :: es, h => by
    obtain ⟨⟨hn, ho, hi⟩, hr⟩ := h
    obtain ⟨ih, il, ir, ia⟩ := u_pgs hr
    have each : assignEach (.Subscript o i p :: es) X.env = (false, assign (.Subscript o i p) X.env) :: assignEach es X.env := rfl
    refine ⟨⟨fun pins s σ H vs us Q I r h => ?_⟩, by rw [each, List.length_cons, il]; rfl, by rw [each, List.findIdx?_cons, ir]; rfl, ia⟩
    obtain ⟨Hd, μ, σT, ts, R, XT, sd, ok, d, q, k, xc⟩ := h
    cases ts with
    | nil => exact q.elim
    | cons t ts =>
      obtain ⟨v, vr, rfl, d1, d2⟩ := d
      refine (pgs_cons (pg_ix (pos := p) hn ho hi set_list) ih).run pins s σ H _ us Q I r ⟨v, vr, rfl, ?_⟩
      refine LE1 sd ok xc q fun t1 μ1 v1 H1 e1 o1 dd1 q1 => LE1 (sd.ext e1) o1 (fun c μ' H' e o z => xc c μ' H' (e1.trans e) o z) q1 fun t2 μ2 v2 H2 e2 o2 dd2 q2 => ?_
      have e12 := e1.trans e2
      exact six_ok o2 (dd1.ext e2) dd2 (d1.ext e12) q2 fun μ' H' e3 o3 q3 =>
        ⟨Hd, μ', σT, ts, R, XT, sd.ext (e12.trans e3), o3, d2.ext (e12.trans e3), q3, fun μ4 H4 e4 o4 q4 => k μ4 H4 ((e12.trans e3).trans e4) o4 q4, fun c μ4 H4 e4 o4 z => xc c μ4 H4 ((e12.trans e3).trans e4) o4 z⟩
  | [], _ :: _, h => h.elim
  | _ :: _, [], h => h.elim
theorem r_unpS {l : List (E × E)} {kk : Nat} {tp : Pos} (hc : X.calm = true) (h : UOk P tb Ex W X l es) (hl : es.length ≠ 0) (he : SE P tb Ex W X e (sE P ea).v) :
    SS P tb Ex W X (.Assign [.Tuple es kk tp] e pos) (.unpS l ea) := by
  obtain ⟨h1, h2, h3, h4⟩ := u_pgs h
  have len : ∀ {es : List Expr} {l : List (E × E)}, UOk P tb Ex W X l es → es.length = l.length := by
    intro es
    induction es with
    | nil => intro l h; cases l with
      | nil => rfl
      | cons _ _ => exact h.elim
    | cons x es ih => intro l h; cases l with
      | nil => exact h.elim
      | cons y l =>
        cases x <;> first | exact h.elim | exact congrArg Nat.succ (ih h.2)
  refine PS.imp' (ps_asg he (pg_tup (n := l.length) hc h1 h2 h3) (sw_tup _ _) (sto_nonames h4 hl _)) fun D σ H h => ?_
  obtain ⟨Hd, μ, σT, KT, sd, ok, ck, h⟩ := h
  refine LE1 sd ok (ck.xe sd) h fun t μ1 v H1 e1 o1 d1 q => ?_
  cases t with
  | tup xs =>
    obtain ⟨a, vs, rfl, hq, hw⟩ := tup_den d1
    have dl := (hw Hd μ1 H1 .refl fun a z => .inl z).2
    obtain ⟨hlen, q⟩ := q
    exact ⟨a, vs, rfl, hq, by rw [← dl.len]; exact hlen, Hd, μ1, σT, xs, _, _, sd.ext e1, o1, dl, q, fun μ' H' e' o' q' => ck.nx _ _ _ _ (e1.trans e') o' (sd.ext (e1.trans e')) q', fun c μ' H' e' o' z => ck.xc _ _ _ _ _ (e1.trans e') o' (sd.ext (e1.trans e')) z⟩
  | _ => exact q.elim
end
end Co
set_option Elab.async false
set_option linter.all false
set_option maxRecDepth 100000
set_option maxHeartbeats 2000000
namespace Co
open PySem PySem.Spec PyProof.Rows L2
/-! # Co, part 17: errors that are caught, with and without a name -/
abbrev Clause := Value × Option Nat × (Addr → Value → Option Addr → TS)
/-- behind a suite the clause's name is gone -/
def goneD (o : Option Nat) (D : Ends) : Ends := match o with
  | none => D
  | some i => { nx := fun σ H => D.nx (σ.set i none) H, rt := D.rt, bk := fun σ H => D.bk (σ.set i none) H, ct := fun σ H => D.ct (σ.set i none) H }
def boundO (o : Option Nat) (a : Addr) (σ : L2.St) : L2.St := match o with
  | none => σ
  | some i => σ.set i (some (.ref a))
/-- what a list of clauses asks of an error of the body -/
def wClauses (K : PySem.W.Frag) (Wo : WX) (D : Ends) : List Clause → WX
  | [] => Wo
  | q :: r => fun cls d σ H => ∃ yes, PySem.W.exmOne K cls q.1 = some yes ∧ match yes with
    | true => ∀ a, H a = none → q.2.2 a cls d (goneD q.2.1 D) (boundO q.2.1 a σ) H
    | false => wClauses K Wo D r cls d σ H
/-- the clauses as they are written -/
def ClauseOk (X : Cx) (hd : ExceptHandler) (q : Clause) : Prop := ∃ (x : Str) (np : Pos) (nm : Option Str) (b₀ : Stmt) (suite : List Stmt) (pos' : Pos), hd = .ExceptHandler (some (.Name x np)) nm (b₀ :: suite) pos' ∧ Names X x q.1 ∧ (match q.2.1, nm with
      | none, none => True
      | some i, some z => X.N[i]? = some z ∧ X.env.kindOf z = some .local
      | _, _ => False) ∧
    ∀ (a : Addr) (oe : Obj) (cls : Value) (d : Option Addr) (pn : List (Addr × Obj)), Zc cls d oe → (∃ vs, oe.data = .fields vs) → PSs (X.suite a ((a, oe) :: pn)) (b₀ :: suite) (q.2.2 a cls d)
def ClausesOk (X : Cx) : List ExceptHandler → List Clause → Prop
  | [], [] => True
  | hd :: hs, q :: r => ClauseOk X hd q ∧ ClausesOk X hs r
  | _, _ => False
section
variable {X : Cx} {pins : List (Addr × Obj)} {σ : L2.St} {H : Hp} {s s' sI : Shared} {D : Ends} {Wo : WX} {a : Addr} {cls : Value} {d : Option Addr} {B h : Heap}
/-- the error has come down to the frame: sI is the state without it -/
structure Landed (X : Cx) (pins : List (Addr × Obj)) (σ : L2.St) (H : Hp) (a : Addr) (cls : Value) (d : Option Addr) (B : Heap) (sI s : Shared) : Prop where
  inv : Inv X pins σ H sI
  nb : ∀ b o, sI.heap.get? b = some o → b ∉ frs X.stack → B.get? b = some o
  fl : HandSPX.FlyingZ B (X.env :: X.outer) a (Zc cls d) s.heap
  up : sI.heap.UpToSlots s.heap
  na : H a = none
  os : s.os = sI.os
  ag : AllBare s.gens
theorem Landed.here (l : Landed X pins σ H a cls d B sI s) : Inv X pins σ H s := l.inv.landed (s' := s) l.nb l.fl.1 l.up l.os l.ag
theorem Landed.off (l : Landed X pins σ H a cls d B sI s) (hf : X.env.frame = some X.env.locals) : (∃ oe vs, s.heap.get? a = some oe ∧ Zc cls d oe ∧ oe.data = .fields vs) ∧ a ≠ X.env.locals ∧ a ∉ X.fs := by
  obtain ⟨oe, vs, he, hz, hd⟩ := l.fl.there
  have out : a ∉ frs (X.env :: X.outer) := fun hm => by
    obtain ⟨_, o, e, nf⟩ := l.fl.2.2.1.mem hm
    rw [he] at e; cases e
    exact nf _ hd
  refine ⟨⟨oe, vs, he, hz, hd⟩, fun z => out (List.mem_filterMap.mpr ⟨X.env, List.mem_cons_self, by rw [hf, z]⟩), fun hm => ?_⟩
  obtain ⟨e, he', q⟩ := List.mem_filterMap.mp hm
  exact out (List.mem_filterMap.mpr ⟨e, List.mem_cons_of_mem _ he', q⟩)
/-- the flow behind a suite, where nothing is bound -/
theorem flow_back {Y : Cx} {pn : List (Addr × Obj)} (back : ∀ {σ H s}, Inv Y pn σ H s → Inv X pins σ H s) {f : Flow} (h : SP Y pn D f s) : SP X pins D f s := by
  cases f with
  | next => obtain ⟨σ, H, I, q⟩ := h; exact ⟨σ, H, back I, q⟩
  | brk => obtain ⟨σ, H, I, q⟩ := h; exact ⟨σ, H, back I, q⟩
  | cont => obtain ⟨σ, H, I, q⟩ := h; exact ⟨σ, H, back I, q⟩
  | ret u => obtain ⟨v, σ, H, I, r, q⟩ := h; exact ⟨v, σ, H, back I, r, q⟩
/-- no clause is left: it goes on -/
theorem pass_out (hs : X.stack = X.env :: X.outer) (hf : X.env.frame = some X.env.locals) (tk : Takes X Wo) (l : Landed X pins σ H a cls d B sI s) (q : Wo cls d σ H) : wpAny (model X.prog X.w) X.A (handleBy (.ref a) X.env []) (SP X pins D) X.xe s := by
  have gone : wpAny (model X.prog X.w) X.A (setFlight (.ref a) X.env.frame) (fun _ s4 => wpAny (model X.prog X.w) X.A (throw (.ref a) : Sem Flow) (SP X pins D) X.xe s4) X.xe s := by
    rw [hf]
    exact HandSPX.setFlight_upZ l.fl fun h' held up' => wpAny_throw (tk _ _ ⟨a, B, sI, pins, σ, H, cls, d, rfl, l.inv, l.nb, l.up.trans up', .inr (.inr (by rw [hs]; exact held)), l.na, l.os, l.ag, q⟩)
  obtain ⟨_, _, _, oe, vs, T, _, _, he, _, hd, h1, _⟩ := id l.fl
  refine wpAny_handleBy_nil ?_
  unfold PySem.passOn
  refine wpAny_bind (wpAny_field he hd h1 ?_)
  have nn : ¬ ((Value.ref T == Value.none) = true) := by simp
  rw [if_neg nn]
  first | exact wpAny_bind gone | exact wpAny_bind (wpAny_pure (wpAny_bind gone))
theorem Landed.again (l : Landed X pins σ H a cls d B sI s) {h' : Heap} (fl : HandSPX.FlyingZ B (X.env :: X.outer) a (Zc cls d) h') (up : s.heap.UpToSlots h') : Landed X pins σ H a cls d B sI { s with heap := h' } :=
  ⟨l.inv, l.nb, fl, l.up.trans up, l.na, l.os, l.ag⟩
theorem clauses_run (hs : X.stack = X.env :: X.outer) (hf : X.env.frame = some X.env.locals) (hN : X.N.Nodup) (ok : X.Ok) (tk : Takes X Wo) (l : Landed X pins σ H a cls d B sI s) : ∀ {hds : List ExceptHandler} {cl : List Clause}, ClausesOk X hds cl → wClauses X.K Wo D cl cls d σ H →
    wpAny (model X.prog X.w) X.A (handleBy (.ref a) X.env hds) (SP X pins D) X.xe s
  | [], [], _, w => pass_out hs hf tk l w
  | hd :: rest, (c, o, ts) :: r, h, w => by
    obtain ⟨⟨x, np, nm, b₀, suite, pos', rfl, hc, ho, hsu⟩, hr⟩ := h
    obtain ⟨yes, hm, w⟩ := w
    obtain ⟨⟨oe, vs, he, hz, hd⟩, nL, nF⟩ := l.off hf
    have S := l.here.suite he hd l.na nL nF
    have lt : PySem.W.Looks (model X.prog X.w) s.heap (typeOf (.ref a)) cls := fun A Q E s' k q => wpAny_typeOf_ref (k _ _ he) (by rw [hz.1]; exact q)
    have lm := PySem.W.exm_one (M := model X.prog X.w) l.here.kIn lt hm
    have named : ∀ {Q : Value → Shared → Prop} {E : Value → Shared → Prop}, Q c s → wpAny (model X.prog X.w) (X.A.mark (some (.ref a))) (eval (.Name x np) X.env) Q E s := fun {Q E} q => by
      obtain ⟨hg, hdb, k | ⟨k, kv, kn⟩⟩ := hc
      · exact ld_glob (X := X.suite a ((a, oe) :: (X.pn ++ pins))) S hg k q hdb
      · exact ld_blt (X := X.suite a ((a, oe) :: (X.pn ++ pins))) S hg k kv q kn hdb
    refine wpAny_handleBy_cons (codeAny_handlers_test (named (lm.here ?_))) (by intro q; cases q)
    cases yes with
    | false => exact clauses_run hs hf hN ok tk l hr w
    | true =>
      have w' := w a l.na
      cases o with
      | none =>
        cases nm with
        | some _ => exact ho.elim
        | none =>
          refine codeAny_handlers_suite (HandSPX.lands_againZ l.fl fun h4 fl4 up4 => ?_)
          have l4 := l.again fl4 up4
          obtain ⟨⟨oe4, vs4, he4, hz4, hd4⟩, _⟩ := l4.off hf
          exact wpAny_mono ((hsu a oe4 cls d (X.pn ++ pins) hz4 ⟨_, hd4⟩).run [] _ _ H _ (l4.here.suite he4 hd4 l.na nL nF) w') (fun f s6 q6 => flow_back (fun I => I.unsuite ok) q6) (fun _ _ z => z.elim)
      | some i =>
        cases nm with
        | none => exact ho.elim
        | some z =>
          obtain ⟨hi, hk⟩ := ho
          refine codeAny_handlers_suite_as (HandSPX.lands_againZ l.fl fun h4 fl4 up4 => ?_)
          have l4 := l.again fl4 up4
          obtain ⟨⟨oe4, vs4, he4, hz4, hd4⟩, _⟩ := l4.off hf
          refine store_ok (X := X.suite a ((a, oe4) :: (X.pn ++ pins))) (v := .ref a) (l4.here.suite he4 hd4 l.na nL nF) hN hi (.inl hk) rfl (fun s5 S5 => ?_) (.inr hk)
          refine wpAny_mono ((hsu a oe4 cls d (X.pn ++ pins) hz4 ⟨_, hd4⟩).run [] s5 _ H _ S5 w') (fun f s6 q6 => ?_) (fun _ _ z => z.elim)
          have un : ∀ {σ6 : L2.St} {H6 : Hp} {Q : Shared → Prop}, Inv (X.suite a ((a, oe4) :: (X.pn ++ pins))) [] σ6 H6 s6 → (∀ s7, Inv X pins (σ6.set i none) H6 s7 → Q s7) → wpAny (model X.prog X.w) X.A (do bindName X.env z .none; unbindBehindTheSuite X.env z pos') (fun _ s7 => Q s7) X.xe s6 :=
            fun {σ6 H6 Q} S6 hq => gone_ok (S6.unsuite ok) hN hi hk hq
          cases f with
          | next => obtain ⟨_, _, S6, q⟩ := q6; exact un S6 fun _ J => ⟨_, _, J, q⟩
          | brk => obtain ⟨_, _, S6, q⟩ := q6; exact un S6 fun _ J => ⟨_, _, J, q⟩
          | cont => obtain ⟨_, _, S6, q⟩ := q6; exact un S6 fun _ J => ⟨_, _, J, q⟩
          | ret _ => obtain ⟨_, _, _, S6, rr, q⟩ := q6; exact un S6 fun _ J => ⟨_, _, _, J, rr, q⟩
  | [], _ :: _, h, _ => h.elim
  | _ :: _, [], h, _ => h.elim
/-- try: body, then clauses -/
theorem ps_clauses {body : List Stmt} {tb : WX → TS} {h₀ : ExceptHandler} {hds : List ExceptHandler} {cl : List Clause} {pos : Pos} (hs : X.stack = X.env :: X.outer) (hf : X.env.frame = some X.env.locals) (hN : X.N.Nodup) (tk : Takes X Wo)
    (hb : ∀ (W : WX) (pn : List (Addr × Obj)) (xe : Value → Shared → Prop), Takes (X.tr pn xe) W → PassesOwn (model X.prog X.w) X.A X.env xe → PSs (X.tr pn xe) body (tb W)) (hh : ClausesOk X (h₀ :: hds) cl) :
    PS X (.Try body (h₀ :: hds) [] [] pos) (fun D σ H => tb (wClauses X.K Wo D cl) D σ H) := by
  refine ⟨fun pins s σ H D I q => wpAny_Try_except ?_⟩
  have ok := I.ok
  have fr : X.A.frames = some (X.env :: X.outer) := ok.frames.trans (congrArg some hs)
  refine wpAny_mono ((hb (wClauses X.K Wo D cl) (X.pn ++ pins) (fun e s₁ => wpAny (model X.prog X.w) X.A (noteFrame e X.env) (fun _ s₂ => wpAny (model X.prog X.w) X.A (setFlight e none) (fun _ s₃ =>
    wpAny (model X.prog X.w) X.A (handleBy e X.env (h₀ :: hds)) (SP X pins D) X.xe s₃) X.xe s₂) X.xe s₁) (fun u s' air => ?_) PassesOwn.looking).run [] s σ H D (I.toTry _) q) (fun f s1 q1 => ?_) (fun _ _ z => z)
  · obtain ⟨a, B, sI, pn', σ', H', cls, d, rfl, J, nb, up, sky, na, os, ag, w⟩ := air
    have sky' : Sky B (X.env :: X.outer) a (Zc cls d) X.env.locals s'.heap := by rw [← hs]; exact sky
    refine Sky.land Zc.steady fr hf sky' fun h3 fl3 up3 => ?_
    exact clauses_run (s := { s' with heap := h3 }) hs hf hN ok tk ⟨J.ofTry ok, nb, fl3, up.trans up3, na, os, ag⟩ hh w
  · have back := flow_back (X := X) (pins := pins) (fun I => I.ofTry ok) q1
    cases f with
    | next => exact wpAny_execs_nil back
    | brk => exact back
    | cont => exact back
    | ret u => exact back
end
end Co
set_option Elab.async false
set_option linter.all false
set_option maxRecDepth 100000
set_option maxHeartbeats 2000000
namespace Co
open PySem PySem.Spec PyProof.Rows L2
/-! # Co, part 18: is the statement the text; the soundness of bodies -/
section
variable {P : Pa} {tb : Tb} {n lev : Nat} {cm : Bool} {N : List Str} {sc : Scope} {Ex Ex' : Addr → Nat → Prop} {W : WX} {X : Cx} {Hd Hd' : Addr → Prop} {Pl : Addr → Prop}
variable {σ : L2.St} {σT : Sg} {μ μ' μ1 : Mu} {H H' H1 : Hp} {K : PySem.W.Frag} {KT : Kt} {D : Ends}
mutual
theorem den_no : ∀ {t : T} {v : V}, Den P tb K NoEx Pl H t v → noExc t = true
  | .non, _, _ => rfl
  | .bl _, _, _ => rfl
  | .int _, _, _ => rfl
  | .str _, _, _ => rfl
  | .tup xs, v, h => by
    obtain ⟨_, _, _, _, d⟩ := h
    exact denL_no d
  | .lst xs, v, h => by
    obtain ⟨_, _, _, _, _, d⟩ := h
    exact denL_no d
  | .ins c fs, v, h => by
    obtain ⟨_, _, _, _, _, _, _, d⟩ := h
    exact denF_no d
  | .scr _, _, _ => rfl
  | .h _, _, _ => rfl
  | .exc x, v, h => by
    obtain ⟨a, _, z⟩ := h
    exact z.elim
theorem denL_no : ∀ {ts : List T} {vs : List V}, DenL P tb K NoEx Pl H ts vs → noExcL ts = true
  | [], _, _ => rfl
  | t :: ts, vs, h => by
    obtain ⟨v, r, _, d, ds⟩ := h
    show (noExc t && noExcL ts) = true
    rw [den_no d, denL_no ds]; rfl
theorem denF_no : ∀ {ts : List (Nat × T)} {vs : List (Str × V)}, DenF P tb K NoEx Pl H ts vs → noExcF ts = true
  | [], _, _ => rfl
  | (f, t) :: ts, vs, h => by
    obtain ⟨v, r, _, d, ds⟩ := h
    show (noExc t && noExcF ts) = true
    rw [den_no d, denF_no ds]; rfl
end
theorem ok_no (o : Ok P tb K NoEx Hd μ H) (o' : Ok P tb K Ex' Hd μ H1) : Ok P tb K NoEx Hd μ H1 := by
  refine ⟨fun a m e => ?_, o'.hid⟩
  obtain ⟨nh, q⟩ := o.own a m e
  obtain ⟨_, q'⟩ := o'.own a m e
  refine ⟨nh, ?_⟩
  cases m with
  | lst xs =>
    obtain ⟨_, _, d⟩ := q
    obtain ⟨vs, h1, d'⟩ := q'
    exact ⟨vs, h1, d'.noExc trivial (denL_no d)⟩
  | ins c fs =>
    obtain ⟨_, _, _, _, d⟩ := q
    obtain ⟨dx, vs, h1, k, d'⟩ := q'
    exact ⟨dx, vs, h1, k, d'.noExc trivial (denF_no d)⟩
theorem ok_ex (o : Ok P tb K NoEx Hd μ H) : Ok P tb K Ex' Hd μ H := by
  refine ⟨fun a m e => ?_, o.hid⟩
  obtain ⟨nh, q⟩ := o.own a m e
  refine ⟨nh, ?_⟩
  cases m with
  | lst xs =>
    obtain ⟨vs, h1, d⟩ := q
    exact ⟨vs, h1, d.mono (fun a p _ => ⟨p, rfl⟩) fun _ _ z => z.elim⟩
  | ins c fs =>
    obtain ⟨dx, vs, h1, k, d⟩ := q
    exact ⟨dx, vs, h1, k, d.mono (fun a p _ => ⟨p, rfl⟩) fun _ _ z => z.elim⟩
theorem sd_ex (sd : SD P tb K NoEx Pl H σT σ) : SD P tb K Ex' Pl H σT σ :=
  ⟨sd.len, fun i t e => let ⟨v, h1, h2⟩ := sd.at_ i t e; ⟨v, h1, h2.mono (fun a p _ => ⟨p, rfl⟩) fun _ _ z => z.elim⟩⟩
theorem sd_no (sd : SD P tb K Ex' Pl H σT σ) (h : ∀ i t, getS σT i = some t → noExc t = true) : SD P tb K NoEx Pl H σT σ :=
  ⟨sd.len, fun i t e => let ⟨v, h1, h2⟩ := sd.at_ i t e; ⟨v, h1, h2.noExc trivial (h i t e)⟩⟩
theorem sd_all (sd : SD P tb K NoEx Pl H σT σ) : ∀ i t, getS σT i = some t → noExc t = true := fun i t e => let ⟨_, _, h2⟩ := sd.at_ i t e; den_no h2
/-! ### the clauses' readings -/
def exO (tb : Tb) (a : Addr) (cls : Value) : Addr → Nat → Prop := fun b x => b = a ∧ cls = .ref (tb.xa x)
def tsOf (P : Pa) (tb : Tb) (K : PySem.W.Frag) : Su → Addr → Value → Option Addr → TS
  | .ret e => fun a cls _ => tRet (LE P tb (exO tb a cls) noW K (sE P e).v)
  | .set i e => fun a cls _ => tAsg (LE P tb (exO tb a cls) noW K (sE P e).v) (gName i)
def clOf (P : Pa) (tb : Tb) (K : PySem.W.Frag) : Hs → List Clause
  | .nil => []
  | .cons x nm s r => (.ref (tb.xa x), nm, tsOf P tb K s) :: clOf P tb K r
theorem su_ok {s : Su} {a : Addr} {c : Nat} {nm : Option Nat} (sd : SD P tb K NoEx (Plc Hd μ) H σT σ) (ok : Ok P tb K NoEx Hd μ H) (ck : CK P tb K NoEx Hd W μ H KT D)
    (h : match nm with
        | some i => wSu P KT (fun σ' => setS σ' i none) s (setS σT i (some (.exc c))) μ
        | none => wSu P KT id s σT μ) : tsOf P tb K s a (.ref (tb.xa c)) none (goneD nm D) (boundO nm a σ) H := by
  have dx : ∀ {Pl : Addr → Prop} {H : Hp}, Den P tb K (exO tb a (.ref (tb.xa c))) Pl H (.exc c) (.ref a) := ⟨a, rfl, rfl, rfl⟩
  cases nm with
  | none =>
    cases s with
    | ret e =>
      refine LE1 (sd_ex sd) (ok_ex ok) (fun _ _ _ _ _ z => z.elim) (show (sE P e).v σT μ (fun t μ1 => μ1 = μ ∧ noExc t = true ∧ KT.rt t μ) (fun _ _ => False) from h) fun t μ1 v H1 e1 o1 d1 q => ?_
      obtain ⟨rfl, hn, q⟩ := q
      exact ck.rt _ _ _ _ e1 (ok_no ok o1) (d1.noExc trivial hn) q
    | set i e =>
      refine LE1 (sd_ex sd) (ok_ex ok) (fun _ _ _ _ _ z => z.elim) (show (sE P e).v σT μ (fun t μ1 => μ1 = μ ∧ noExc t = true ∧ KT.nx (setS σT i (some t)) μ) (fun _ _ => False) from h) fun t μ1 v H1 e1 o1 d1 q => ?_
      obtain ⟨rfl, hn, q⟩ := q
      exact ck.nx _ _ _ _ e1 (ok_no ok o1) ((sd.ext e1).set (d1.noExc trivial hn)) q
  | some j =>
    have sd' : SD P tb K (exO tb a (.ref (tb.xa c))) (Plc Hd μ) H (setS σT j (some (.exc c))) (σ.set j (some (.ref a))) := (sd_ex sd).set dx
    cases s with
    | ret e =>
      refine LE1 sd' (ok_ex ok) (fun _ _ _ _ _ z => z.elim) (show (sE P e).v (setS σT j (some (.exc c))) μ (fun t μ1 => μ1 = μ ∧ noExc t = true ∧ KT.rt t μ) (fun _ _ => False) from h) fun t μ1 v H1 e1 o1 d1 q => ?_
      obtain ⟨rfl, hn, q⟩ := q
      exact ck.rt _ _ _ _ e1 (ok_no ok o1) (d1.noExc trivial hn) q
    | set i e =>
      refine LE1 sd' (ok_ex ok) (fun _ _ _ _ _ z => z.elim) (show (sE P e).v (setS σT j (some (.exc c))) μ (fun t μ1 => μ1 = μ ∧ noExc t = true ∧ KT.nx (setS (setS (setS σT j (some (.exc c))) i (some t)) j none) μ) (fun _ _ => False) from h) fun t μ1 v H1 e1 o1 d1 q => ?_
      obtain ⟨rfl, hn, q⟩ := q
      refine ck.nx _ _ _ _ e1 (ok_no ok o1) (sd_no (((sd'.ext e1).set d1).unset (i := j)) fun k u e => ?_) q
      rcases getS_set e with ⟨_, z, _⟩ | ⟨nk, e⟩
      · cases z
      · rcases getS_set e with ⟨_, z, _⟩ | ⟨_, e⟩
        · cases z; exact hn
        · rcases getS_set e with ⟨z, _, _⟩ | ⟨_, e⟩
          · exact absurd z nk
          · exact sd_all sd k u e
def hsB (P : Pa) : Hs → Bool
  | .nil => true
  | .cons x _ _ r => decide (x < P.xn.length) && hsB P r
theorem clauses_ok {mg : Str → Option Value} (F : Facts P tb K mg) (sd : SD P tb K NoEx (Plc Hd μ) H σT σ) (ok : Ok P tb K NoEx Hd μ H) (ck : CK P tb K NoEx Hd W μ H KT D) : ∀ {hs : Hs} {c : Nat}, hsB P hs = true → sH P hs KT c σT μ →
    wClauses K W D (clOf P tb K hs) (.ref (tb.xa c)) none σ H
  | .nil, c, _, h => ck.xc c σT μ σ H .refl ok sd h
  | .cons x nm s r, c, hb, h => by
    have hb' := band (show (decide (x < P.xn.length) && hsB P r) = true from hb)
    obtain ⟨hc, h⟩ := h
    refine ⟨P.xm c x, F.exm c x hc (of_decide_eq_true hb'.1), ?_⟩
    cases hx : P.xm c x with
    | true =>
      rw [hx, if_pos rfl] at h
      exact fun a _ => su_ok sd ok ck h
    | false =>
      rw [hx, if_neg (by decide)] at h
      exact clauses_ok F sd ok ck hb'.2 h
end
end Co
set_option Elab.async false
set_option linter.all false
set_option maxRecDepth 100000
set_option maxHeartbeats 2000000
namespace Co
open PySem PySem.Spec PyProof.Rows L2
/-! # Co, part 19: is the body the text; the soundness of bodies -/
def locS (sc : Scope) (x : Str) : Bool := match sc.names.lookup x with
  | some .local => true
  | _ => false
theorem locS_of {sc : Scope} {x : Str} (h : locS sc x = true) : sc.names.lookup x = some .local := by
  unfold locS at h
  split at h
  · assumption
  · cases h
section
variable (P : Pa) (lv : Nat → Nat) (n lev : Nat) (N : List Str) (sc : Scope)
def swLc (x : Str) (np : Pos) : Expr → Bool
  | .ListComp _ _ scope p => locS sc x && ((np.line == p.line) && !(scope.names.any fun (n, k) => n == x && (k == .local || k == .cell)))
  | _ => false
def mtUS : List (E × E) → List Expr → Bool
  | [], [] => true
  | (eo, ei) :: l, .Subscript o i _ :: es => notSlice i && (mtE P lv n lev N true sc eo o && (mtE P lv n lev N true sc ei i && mtUS l es))
  | _, _ => false
def mtSu : Su → List Stmt → Bool
  | .ret e, [.Return (some ex) _] => mtE P lv n lev N false sc e ex
  | .set i e, [.Assign [.Name x _] ex _] => decide (N[i]? = some x) && (locB sc x && (notComp ex && mtE P lv n lev N false sc e ex))
  | _, _ => false
def nmB (i : Option Nat) (z : Option Str) : Bool := match i, z with
  | none, none => true
  | some i, some z => decide (N[i]? = some z) && locS sc z
  | _, _ => false
def mtHs : Hs → List ExceptHandler → Bool
  | .nil, [] => true
  | .cons x nm s r, .ExceptHandler (some (.Name c _)) z (st :: sts) _ :: hs => decide (P.xn[x]? = some c) && (gloB sc c && (dbgB c && (nmB N sc nm z && (mtSu P lv n lev N sc s (st :: sts) && mtHs r hs))))
  | _, _ => false
mutual
def mtS : S → Stmt → Bool
  | .set i e, .Assign [.Name x np] ex _ => decide (N[i]? = some x) && (locB sc x && (mtE P lv n lev N true sc e ex && (notComp ex || (swLc sc x np ex && (match e with | .lc .. => true | _ => false)))))
  | .unp is e, .Assign [.Tuple es kk tp] ex _ => mtTg N sc (.tp is) (.Tuple es kk tp) && (flatV ex && mtE P lv n lev N true sc e ex)
  | .par [i, j] es, .Assign [.Tuple [.Name x px, .Name y py] _ _] (.Tuple [a, b] _ _) _ => decide (N[i]? = some x) && (decide (N[j]? = some y) && (!(i == j) && (locS sc x && (locS sc y && ((py.line == px.line) && (!(x == y) && (notStar a && (notStar b &&
      (!([a, b].all (foldedForSure 8)) && (!([a, b].all (constantsAlone 8)) && mtEs P lv n lev N true sc es [a, b]))))))))))
  | .unpS ts e, .Assign [.Tuple es _ _] ex _ => !es.isEmpty && (mtUS P lv n lev N sc ts es && mtE P lv n lev N true sc e ex)
  | .sfl o f e, .Assign [.Attribute oe nm _] ex _ => decide (nmA P f = nm) && (decide (f < P.at_.length) && (mtE P lv n lev N true sc o oe && mtE P lv n lev N true sc e ex))
  | .six o i e, .Assign [.Subscript oe ie _] ex _ => notSlice ie && (mtE P lv n lev N true sc o oe && (mtE P lv n lev N true sc i ie && mtE P lv n lev N true sc e ex))
  | .aug i o e, .AugAssign (.Name x _) op ex _ => decide (N[i]? = some x) && (locB sc x && (decide (opP o = op) && ((match o with | .add => true | .sub => true | _ => false) && mtE P lv n lev N true sc e ex)))
  | .ret e, .Return (some ex) _ => mtE P lv n lev N true sc e ex
  | .retN, .Return none _ => true
  | .exp e, .Expr ex _ => notComp ex && mtE P lv n lev N true sc e ex
  | .ifs c a b, .If t x y _ => testB c && (mtE P lv n lev N true sc c t && (mtSs a x && mtSs b y))
  | .fr g it b, .For tg ie body [] _ => mtTg N sc g tg && (notSet ie && (mtI P lv n lev N true sc it tg ie && mtSs b body))
  | .wh c b, .While t body [] _ => testB c && (mtE P lv n lev N true sc c t && mtSs b body)
  | .brk, .Break _ => true
  | .cnt, .Continue _ => true
  | .pas, .Pass _ => true
  | .rai x m, .Raise (some (.Call (.Name c _) [.Constant (.str s) _ _] [] _)) none _ => decide (P.xn[x]? = some c) && (decide (m = s) && (gloB sc c && dbgB c))
  | .tr b hs, .Try body (h :: hds) [] [] _ => mtSs b body && mtHs P lv n lev N sc hs (h :: hds)
  | _, _ => false
def mtSs : Ss → List Stmt → Bool
  | .nil, [] => true
  | .cons (.gst _) r, sts => mtSs r sts
  | .cons s r, st :: sts => mtS s st && mtSs r sts
  | _, _ => false
end
end
section
variable {P : Pa} {tb : Tb} {n lev : Nat} {cm : Bool} {N : List Str} {sc : Scope} {W : WX} {X : Cx}
theorem GT.sto (g : GT P tb n lev N sc W X) {x : Str} (h : locB sc x = true) : L2.Loc X.env.scope x ∧ (X.fn x = true ∨ X.env.scope.names.lookup x = some .local) := g.hl x h
theorem GT.nd (g : GT P tb n lev N sc W X) : X.N.Nodup := by rw [g.g.eN]; exact g.g.nd
theorem GT.ix (g : GT P tb n lev N sc W X) {i : Nat} {x : Str} (h : decide (N[i]? = some x) = true) : X.N[i]? = some x := by rw [g.g.eN]; exact of_decide_eq_true h
theorem GT.tr (g : GT P tb n lev N sc W X) (W' : WX) (pn : List (Addr × Obj)) (xe : Value → Shared → Prop) (tk : Takes (X.tr pn xe) W') (hp : PassesOwn (model X.prog X.w) X.A X.env xe) : GT P tb n lev N sc W' (X.tr pn xe) where
  g := ⟨g.g.F, g.g.fn, g.g.eN, g.g.nd, g.g.esc, g.g.calm, g.g.room, g.g.nex, g.g.un, tk⟩
  hs := g.hs
  hf := g.hf
  hl := g.hl
  pass := hp
theorem GT.suite (g : GT P tb n lev N sc W X) (a : Addr) (pn : List (Addr × Obj)) (Ex' : Addr → Nat → Prop) : GE P tb n lev false N sc Ex' noW (X.suite a pn) where
  F := g.g.F
  fn := g.g.fn
  eN := g.g.eN
  nd := g.g.nd
  esc := g.g.esc
  calm := fun z => nomatch z
  room := fun z => nomatch z
  nex := fun z => nomatch z
  un := g.g.un
  tk := fun u s' ⟨_, _, _, _, _, _, _, _, _, _, _, _, _, _, _, _, w⟩ => w.elim
theorem us_ok {Ex : Addr → Nat → Prop} (g : GE P tb n lev true N sc Ex W X) : ∀ {l : List (E × E)} {es : List Expr}, mtUS P tb.lv n lev N sc l es = true → UOk P tb Ex W X l es
  | [], [], _ => trivial
  | (eo, ei) :: l, .Subscript o i _ :: es, h => by
    have h1 := band h
    have h2 := band h1.2
    have h3 := band h2.2
    exact ⟨⟨h1.1, (so_E eo g h2.1).1, (so_E ei g h3.1).1⟩, us_ok g h3.2⟩
  | [], _ :: _, h => nomatch (show false = true from h)
  | _ :: _, [], h => nomatch (show false = true from h)
theorem hs_B : ∀ {hs : Hs} {hds : List ExceptHandler}, mtHs P tb.lv n lev N sc hs hds = true → hsB P hs = true
  | .nil, _, _ => rfl
  | .cons x nm s r, hds, h => by
    rcases hds with _ | ⟨⟨ty, z, body, p⟩, hds⟩
    · exact nomatch (show false = true from h)
    cases ty with
    | none => exact nomatch (show false = true from h)
    | some ty =>
      cases ty <;> first | exact nomatch (show false = true from h) | skip
      cases body with
      | nil => exact nomatch (show false = true from h)
      | cons st sts =>
        have h1 := band h
        have h2 := band h1.2
        have h3 := band h2.2
        have h4 := band h3.2
        have h5 := band h4.2
        have e := of_decide_eq_true h1.1
        show (decide (x < P.xn.length) && hsB P r) = true
        rw [hs_B h5.2, decide_eq_true (List.getElem?_eq_some_iff.mp e).1]; rfl
theorem hs_ok (g : GT P tb n lev N sc W X) : ∀ {hs : Hs} {hds : List ExceptHandler}, mtHs P tb.lv n lev N sc hs hds = true → ClausesOk X hds (clOf P tb X.K hs)
  | .nil, hds, h => by
    cases hds with
    | nil => exact trivial
    | cons _ _ => exact nomatch (show false = true from h)
  | .cons x nm s r, hds, h => by
    rcases hds with _ | ⟨⟨ty, z, body, p⟩, hds⟩
    · exact nomatch (show false = true from h)
    cases ty with
    | none => exact nomatch (show false = true from h)
    | some ty =>
      cases ty <;> first | exact nomatch (show false = true from h) | skip
      rename_i c np
      cases body with
      | nil => exact nomatch (show false = true from h)
      | cons st sts =>
        have h1 := band h
        have h2 := band h1.2
        have h3 := band h2.2
        have h4 := band h3.2
        have h5 := band h4.2
        refine ⟨⟨c, np, z, st, sts, p, rfl, ⟨glo_of g.g.esc h2.1, (dbg_of h3.1).1, .inl (g.g.F.exg x c (of_decide_eq_true h1.1))⟩, ?_, fun a oe cls d pn _ _ => ?_⟩, hs_ok g h5.2⟩
        · have hn := h4.1
          unfold nmB at hn
          cases nm with
          | none => cases z with
            | none => exact trivial
            | some _ => cases hn
          | some i => cases z with
            | none => cases hn
            | some z =>
              have h6 := band hn
              exact ⟨g.ix h6.1, by show X.env.scope.names.lookup z = _; rw [g.g.esc]; exact locS_of h6.2⟩
        · have gs := g.suite a ((a, oe) :: pn) (exO tb a cls)
          have hm := h5.1
          cases s with
          | ret e =>
            cases st <;> first | exact nomatch (show false = true from hm) | skip
            rename_i v pp
            cases v with
            | none => exact nomatch (show false = true from hm)
            | some ex =>
              cases sts with
              | cons _ _ => exact nomatch (show false = true from hm)
              | nil => exact pss_one (ps_ret (so_E e gs hm).1)
          | set i e =>
            cases st <;> first | exact nomatch (show false = true from hm) | skip
            rename_i ts ex pp
            rcases ts with _ | ⟨tg, _ | ⟨_, _⟩⟩ <;> first | exact nomatch (show false = true from hm) | skip
            · cases tg <;> first | exact nomatch (show false = true from hm) | skip
              rename_i y yp
              cases sts with
              | cons _ _ => exact nomatch (show false = true from hm)
              | nil =>
                have h6 := band hm
                have h7 := band h6.2
                have h8 := band h7.2
                have lo := g.sto h7.1
                exact pss_one (ps_set (X := X.suite a ((a, oe) :: pn)) g.nd (g.ix h6.1) lo.1 (so_E e gs h8.2).1 (sw_no h8.1 _ _ _) lo.2)
            · cases tg <;> exact nomatch (show false = true from hm)
theorem r_tr {body : List Stmt} {sb : Ss} {hs : Hs} {h : ExceptHandler} {hds : List ExceptHandler} {pos : Pos} (g : GT P tb n lev N sc W X) (hh : mtHs P tb.lv n lev N sc hs (h :: hds) = true)
    (hb : ∀ (W' : WX) (X' : Cx), X'.env = X.env → GT P tb n lev N sc W' X' → SSs P tb NoEx W' X' body sb) : SS P tb NoEx W X (.Try body (h :: hds) [] [] pos) (.tr sb hs) := by
  refine PS.imp' (ps_clauses (tb := fun W' => LS P tb NoEx W' X.K (sSs P sb)) g.hs g.hf g.nd g.g.tk (fun W' pn xe tk hp => hb W' (X.tr pn xe) rfl (g.tr W' pn xe tk hp)) (hs_ok g hh)) fun D σ H h => ?_
  obtain ⟨Hd, μ, σT, KT, sd, ok, ck, h⟩ := h
  exact ⟨Hd, μ, σT, { KT with xc := sH P hs KT }, sd, ok, ⟨ck.nx, ck.bk, ck.ct, ck.rt, fun c a b c' d e' o' sd' q => clauses_ok g.g.F sd' o' (ck.ext e') (hs_B hh) q⟩, h⟩
end
end Co
set_option Elab.async false
set_option linter.all false
set_option maxRecDepth 100000
set_option maxHeartbeats 4000000
namespace Co
open PySem PySem.Spec PyProof.Rows L2
/-! # Co, part 20: the soundness of bodies -/
section
variable {P : Pa} {tb : Tb} {n lev : Nat} {N : List Str} {sc : Scope}
mutual
theorem so_S : ∀ (s : S) {W : WX} {X : Cx} {st : Stmt}, GT P tb n lev N sc W X → X.env.scope.kind = .function → mtS P tb.lv n lev N sc s st = true → SS P tb NoEx W X st s
  | .set i e, W, X, st, g, hk, h => by
    cases st <;> first | exact nomatch (show false = true from h) | skip
    rename_i ts ex p
    rcases ts with _ | ⟨tg, _ | ⟨_, _⟩⟩ <;> first | exact nomatch (show false = true from h) | skip
    · cases tg <;> first | exact nomatch (show false = true from h) | skip
      rename_i x np
      have h1 := band h
      have h2 := band h1.2
      have h3 := band h2.2
      rcases Bool.or_eq_true_iff.mp h3.2 with hc | hc
      · exact r_set g.nd (g.ix h1.1) (g.sto h2.1) hc (so_E e g.g h3.1).1
      · have h4 := band hc
        have hm := h3.1
        cases e <;> first | exact nomatch (show false = true from h4.2) | skip
        rename_i mu el gT it cs own
        cases ex <;> first | exact nomatch (show false = true from hm) | skip
        rename_i elt gens scope pp
        obtain ⟨tg, ie, ifs, k, rfl⟩ : ∃ tg ie ifs k, gens = [⟨tg, ie, ifs, k⟩] := by
          rcases gens with _ | ⟨⟨t, i, f, k⟩, _ | ⟨⟨t2, i2, f2, k2⟩, cs⟩⟩ <;> first | exact nomatch (show false = true from hm) | exact ⟨_, _, _, _, rfl⟩
        have m0 := band hm
        have m1 := band m0.2
        have m2 := band m1.2
        have m3 := band m2.2
        have m4 := band m3.2
        have m5 := band m4.2
        have m6 := band m5.2
        have m7 := band m6.2
        have e := of_decide_eq_true m1.1
        subst e
        have s1 := band (show (locS sc x && ((np.line == pp.line) && !(scope.names.any fun (n, k) => n == x && (k == .local || k == .cell)))) = true from h4.1)
        have s2 := band s1.2
        exact r_setLc g.g (of_decide_eq_true h1.1) (locS_of s1.1) s2.1 ((Bool.not_eq_true' _).mp s2.2) hk m2.1 m3.1 m4.1 m5.1 (so_I it g.g m6.1) (fun X' gx => so_Ts cs gx m7.1) (fun X' gx => (so_E el gx m7.2).1)
    · cases tg <;> exact nomatch (show false = true from h)
  | .unp is e, W, X, st, g, hk, h => by
    cases st <;> first | exact nomatch (show false = true from h) | skip
    rename_i ts ex p
    rcases ts with _ | ⟨tg, _ | ⟨_, _⟩⟩ <;> first | exact nomatch (show false = true from h) | skip
    · cases tg <;> first | exact nomatch (show false = true from h) | skip
      have h1 := band h
      have h2 := band h1.2
      exact r_unp g.g g.hl h1.1 h2.1 (so_E e g.g h2.2).1
    · cases tg <;> exact nomatch (show false = true from h)
  | .par is es, W, X, st, g, hk, h => by
    cases st <;> first | (rcases is with _ | ⟨_, _ | ⟨_, _ | ⟨_, _⟩⟩⟩ <;> exact nomatch (show false = true from h)) | skip
    rename_i ts ex p
    obtain ⟨i, j, rfl⟩ : ∃ i j, is = [i, j] := by
      rcases is with _ | ⟨i, _ | ⟨j, _ | ⟨_, _⟩⟩⟩ <;> first | exact ⟨_, _, rfl⟩ | exact nomatch (show false = true from h)
    obtain ⟨x, px, y, py, kk, tp, a, b, k1, p3, rfl, rfl⟩ : ∃ x px y py kk tp a b k1 p3, ts = [.Tuple [.Name x px, .Name y py] kk tp] ∧ ex = .Tuple [a, b] k1 p3 := by
      rcases ts with _ | ⟨tg, _ | ⟨_, _⟩⟩
      · exact nomatch (show false = true from h)
      · cases tg <;> first | exact nomatch (show false = true from h) | skip
        rename_i es1 kk tp
        rcases es1 with _ | ⟨t1, _ | ⟨t2, _ | ⟨_, _⟩⟩⟩
        · exact nomatch (show false = true from h)
        · cases t1 <;> exact nomatch (show false = true from h)
        · cases t1 <;> first | exact nomatch (show false = true from h) | skip
          cases t2 <;> first | exact nomatch (show false = true from h) | skip
          cases ex <;> first | exact nomatch (show false = true from h) | skip
          rename_i es2 k1 p3
          rcases es2 with _ | ⟨a, _ | ⟨b, _ | ⟨_, _⟩⟩⟩ <;> first | exact nomatch (show false = true from h) | exact ⟨_, _, _, _, _, _, _, _, _, _, rfl, rfl⟩
        · cases t1 <;> first | exact nomatch (show false = true from h) | skip
          cases t2 <;> exact nomatch (show false = true from h)
      · cases tg <;> first | exact nomatch (show false = true from h) | skip
        rename_i es1 kk tp
        rcases es1 with _ | ⟨t1, _ | ⟨t2, _ | ⟨_, _⟩⟩⟩
        · exact nomatch (show false = true from h)
        · cases t1 <;> exact nomatch (show false = true from h)
        · cases t1 <;> first | exact nomatch (show false = true from h) | skip
          cases t2 <;> first | exact nomatch (show false = true from h) | skip
        · cases t1 <;> first | exact nomatch (show false = true from h) | skip
          cases t2 <;> exact nomatch (show false = true from h)
    have h1 := band h
    have h2 := band h1.2
    have h3 := band h2.2
    have h4 := band h3.2
    have h5 := band h4.2
    have h6 := band h5.2
    have h7 := band h6.2
    have h8 := band h7.2
    have h9 := band h8.2
    have h10 := band h9.2
    have h11 := band h10.2
    exact r_par g.g hk (of_decide_eq_true h1.1) (of_decide_eq_true h2.1) (beq_eq_false_iff_ne.mp ((Bool.not_eq_true' _).mp h3.1)) (locS_of h4.1) (locS_of h5.1) h6.1 (beq_eq_false_iff_ne.mp ((Bool.not_eq_true' _).mp h7.1)) h8.1 h9.1
      ((Bool.not_eq_true' _).mp h10.1) ((Bool.not_eq_true' _).mp h11.1) (so_Es es g.g h11.2)
  | .unpS l e, W, X, st, g, hk, h => by
    cases st <;> first | exact nomatch (show false = true from h) | skip
    rename_i ts ex p
    rcases ts with _ | ⟨tg, _ | ⟨_, _⟩⟩ <;> first | exact nomatch (show false = true from h) | skip
    · cases tg <;> first | exact nomatch (show false = true from h) | skip
      rename_i es kk tp
      have h1 := band h
      have h2 := band h1.2
      refine r_unpS (g.g.calm rfl) (us_ok g.g h2.1) (fun z => ?_) (so_E e g.g h2.2).1
      cases es with
      | nil => exact nomatch h1.1
      | cons _ _ => cases z
    · cases tg <;> exact nomatch (show false = true from h)
  | .sfl o f e, W, X, st, g, hk, h => by
    cases st <;> first | exact nomatch (show false = true from h) | skip
    rename_i ts ex p
    rcases ts with _ | ⟨tg, _ | ⟨_, _⟩⟩ <;> first | exact nomatch (show false = true from h) | skip
    · cases tg <;> first | exact nomatch (show false = true from h) | skip
      have h1 := band h
      have h2 := band h1.2
      have h3 := band h2.2
      have e1 := of_decide_eq_true h1.1
      subst e1
      exact r_sfl g.g.F (of_decide_eq_true h2.1) (so_E e g.g h3.2).1 (so_E o g.g h3.1).1
    · cases tg <;> exact nomatch (show false = true from h)
  | .six o i e, W, X, st, g, hk, h => by
    cases st <;> first | exact nomatch (show false = true from h) | skip
    rename_i ts ex p
    rcases ts with _ | ⟨tg, _ | ⟨_, _⟩⟩ <;> first | exact nomatch (show false = true from h) | skip
    · cases tg <;> first | exact nomatch (show false = true from h) | skip
      have h1 := band h
      have h2 := band h1.2
      have h3 := band h2.2
      exact r_six h1.1 (so_E e g.g h3.2).1 (so_E o g.g h2.1).1 (so_E i g.g h3.1).1
    · cases tg <;> exact nomatch (show false = true from h)
  | .aug i o e, W, X, st, g, hk, h => by
    cases st <;> first | exact nomatch (show false = true from h) | skip
    rename_i tg op ex p
    cases tg <;> first | exact nomatch (show false = true from h) | skip
    have h1 := band h
    have h2 := band h1.2
    have h3 := band h2.2
    have h4 := band h3.2
    have e1 := of_decide_eq_true h3.1
    subst e1
    exact r_aug g.nd (g.ix h1.1) (g.sto h2.1) (by cases o <;> first | exact .inl rfl | exact .inr rfl | exact nomatch (show false = true from h4.1)) (so_E e g.g h4.2).1
  | .augI .., W, X, st, g, hk, h => by cases st <;> exact nomatch (show false = true from h)
  | .ret e, W, X, st, g, hk, h => by
    cases st <;> first | exact nomatch (show false = true from h) | skip
    rename_i v p
    cases v with
    | none => exact nomatch (show false = true from h)
    | some ex => exact r_ret (so_E e g.g h).1
  | .retN, W, X, st, g, hk, h => by
    cases st <;> first | exact nomatch (show false = true from h) | skip
    rename_i v p
    cases v with
    | none => exact r_retN
    | some ex => exact nomatch (show false = true from h)
  | .exp e, W, X, st, g, hk, h => by
    cases st <;> first | exact nomatch (show false = true from h) | skip
    have h1 := band h
    exact r_exp h1.1 (so_E e g.g h1.2).1
  | .ifs c a b, W, X, st, g, hk, h => by
    cases st <;> first | exact nomatch (show false = true from h) | skip
    have h1 := band h
    have h2 := band h1.2
    have h3 := band h2.2
    exact r_ifs ((so_E c g.g h2.1).2 h1.1) (so_Ss a g hk h3.1) (so_Ss b g hk h3.2)
  | .fr gT it b, W, X, st, g, hk, h => by
    cases st <;> first | exact nomatch (show false = true from h) | skip
    rename_i tg ie body el p
    cases el with
    | cons _ _ => exact nomatch (show false = true from h)
    | nil =>
      have h1 := band h
      have h2 := band h1.2
      have h3 := band h2.2
      exact r_fr g h1.1 h2.1 (so_I it g.g h3.1) (so_Ss b g hk h3.2)
  | .wh c b, W, X, st, g, hk, h => by
    cases st <;> first | exact nomatch (show false = true from h) | skip
    rename_i t body el p
    cases el with
    | cons _ _ => exact nomatch (show false = true from h)
    | nil =>
      have h1 := band h
      have h2 := band h1.2
      exact r_wh g ((so_E c g.g h2.1).2 h1.1) (so_Ss b g hk h2.2)
  | .gst .., W, X, st, g, hk, h => by cases st <;> exact nomatch (show false = true from h)
  | .brk, W, X, st, g, hk, h => by
    cases st <;> first | exact nomatch (show false = true from h) | skip
    exact r_brk
  | .cnt, W, X, st, g, hk, h => by
    cases st <;> first | exact nomatch (show false = true from h) | skip
    exact r_cnt
  | .pas, W, X, st, g, hk, h => by
    cases st <;> first | exact nomatch (show false = true from h) | skip
    exact r_pas
  | .rai x m, W, X, st, g, hk, h => by
    cases st <;> first | exact nomatch (show false = true from h) | skip
    rename_i v c p
    cases v with
    | none => exact nomatch (show false = true from h)
    | some v =>
    cases v <;> first | (cases c <;> exact nomatch (show false = true from h)) | skip
    rename_i f xs kws pp
    cases f <;> first | (cases c <;> exact nomatch (show false = true from h)) | skip
    rename_i nm np
    rcases xs with _ | ⟨a, _ | ⟨_, _⟩⟩
    · cases c <;> exact nomatch (show false = true from h)
    · cases a <;> first | (cases c <;> exact nomatch (show false = true from h)) | skip
      rename_i co kk cp
      cases co <;> first | (cases kws <;> cases c <;> exact nomatch (show false = true from h)) | skip
      cases kws with
      | cons _ _ => cases c <;> exact nomatch (show false = true from h)
      | nil =>
        cases c with
        | some _ => exact nomatch (show false = true from h)
        | none =>
          have h1 := band h
          have h2 := band h1.2
          have h3 := band h2.2
          exact r_rai g.g.F (g.g.calm rfl) g.g.tk (of_decide_eq_true h1.1) (glo_of g.g.esc h3.1) h3.2
    · cases a <;> first | (cases c <;> exact nomatch (show false = true from h)) | skip
      rename_i co kk cp
      cases co <;> (cases c <;> exact nomatch (show false = true from h))
  | .tr b hs, W, X, st, g, hk, h => by
    cases st <;> first | exact nomatch (show false = true from h) | skip
    rename_i body hds el fin p
    obtain ⟨h0, hr, rfl, rfl, rfl⟩ : ∃ h0 hr, hds = h0 :: hr ∧ el = [] ∧ fin = [] := by
      rcases hds with _ | ⟨h0, hr⟩ <;> rcases el with _ | ⟨_, _⟩ <;> rcases fin with _ | ⟨_, _⟩ <;> first | exact nomatch (show false = true from h) | exact ⟨_, _, rfl, rfl, rfl⟩
    have h1 := band h
    exact r_tr g h1.2 fun W' X' he gx => so_Ss b gx (by rw [he]; exact hk) h1.1
theorem so_Ss : ∀ (s : Ss) {W : WX} {X : Cx} {st : List Stmt}, GT P tb n lev N sc W X → X.env.scope.kind = .function → mtSs P tb.lv n lev N sc s st = true → SSs P tb NoEx W X st s
  | .nil, W, X, st, g, hk, h => by
    cases st with
    | nil => exact r_nil
    | cons _ _ => exact nomatch (show false = true from h)
  | .cons s r, W, X, st, g, hk, h => by
    cases hs : s with
    | gst i =>
      subst hs
      exact r_gst (so_Ss r g hk h)
    | _ =>
      cases st with
      | nil => subst hs; exact nomatch (show false = true from h)
      | cons st sts =>
        have h1 : mtS P tb.lv n lev N sc s st = true ∧ mtSs P tb.lv n lev N sc r sts = true := by subst hs; exact band h
        rw [← hs]
        exact r_cons (so_S s g hk h1.1) (so_Ss r g hk h1.2)
end
end
end Co
set_option Elab.async false
set_option linter.all false
set_option maxRecDepth 100000
set_option maxHeartbeats 2000000
namespace Co
open PySem PySem.Spec PyProof.Rows L2
/-! # Co, part 21: from the bodies to the functions -/
/-- one function: where it stands, its text, its slots, its tree -/
structure Fu where
  d : He.DefD
  ps : List Str
  N : List Str
  s : Ss
def startT (N : List Str) (ts : List T) : Sg := ts.map some ++ List.replicate (N.length - ts.length) none
def endK (Q : Pq) (X : Xq) : Kt := ⟨fun _ μ => Q .non μ, Q, fun _ _ => False, fun _ _ => False, fun c _ μ => X c μ⟩
/-- what is to be shown of a body -/
def VC (P : Pa) (u : Fu) (S : Spec) : Prop := ∀ ts μ Q X, ts.length = u.ps.length → S ts μ Q X → sSs P u.s (endK Q X) (startT u.N ts) μ
section
variable {P : Pa} {tb : Tb} {K : PySem.W.Frag} {mg : Str → Option Value} {base : Heap} {Pg : Program} {w : World}
theorem getS_start : ∀ {ts : List T} {m i : Nat} {t : T}, getS (ts.map some ++ List.replicate m none) i = some t → ts[i]? = some t
  | [], 0, i, t, h => by cases h
  | [], m + 1, 0, t, h => by cases h
  | [], m + 1, i + 1, t, h => by
    have := getS_start (ts := []) (m := m) (i := i) (t := t) h
    cases this
  | x :: ts, m, 0, t, h => by
    have h' : some x = some t := h
    rw [List.getElem?_cons_zero]; exact h'
  | x :: ts, m, i + 1, t, h => by
    rw [List.getElem?_cons_succ]
    exact getS_start (ts := ts) (m := m) (i := i) h
theorem fn_ok {u : Fu} {j k : Nat} {f : Addr} {fd : FuncData} (hd : tb.lv j = k + 1) (F : Facts P tb K mg) (fn : ∀ i, i < j → FnF P tb Pg w K mg base i)
    (D : FunD K u.d.name u.d.qual u.d.params u.d.body u.d.scope (u.d.dvs K) (u.d.kws K) f fd) (sc : FnScope u.N u.ps u.d.scope) (hps : tb.ps j = u.ps) (mt : mtSs P tb.lv j k u.N u.d.scope u.s u.d.body = true) (vc : VC P u (P.S j)) :
    FnOk Pg w K mg base (L2.CX Pg w) (tb.lv j) f fd (tb.ps j) (spOf P tb K j) := by
  rw [hd, hps]
  refine D.ok sc (fun vs H Q E h => ?_) (fun cdv A outer s H vs Q E hr h => ⟨LS P tb NoEx (fun cls d _ H => E cls d H) K (sSs P u.s), ?_, ?_⟩)
  · obtain ⟨Hd, μ, ts, QT, XT, _, d, hl, _⟩ := h
    rw [← d.len, hl, hps]
  · have tk : Takes (cxOf (L2.CX Pg w) Pg w K mg base u.N u.d.qual u.d.scope f cdv A outer s H E) (fun cls d _ H => E cls d H) := takes_of rfl rfl rfl rfl
    exact so_Ss u.s (X := cxOf (L2.CX Pg w) Pg w K mg base u.N u.d.qual u.d.scope f cdv A outer s H E)
      { g := { F := F, fn := fn, eN := rfl, nd := sc.nd, esc := rfl, calm := fun _ => rfl, room := fun _ => hr, nex := fun _ _ _ z => z.elim, un := by have := hr.un; show (A.deeper _).units + 64 < cLine; omega, tk := tk },
        hs := rfl, hf := rfl, hl := fun x hx => ⟨loc_of hx, .inl rfl⟩, pass := passes_of rfl } sc.kind mt
  · obtain ⟨Hd, μ, ts, QT, XT, ok, d, hl, hs, kq, kx⟩ := h
    rw [hps] at hl
    have hpl : u.ps.length ≤ u.N.length := by have := congrArg List.length sc.pre; rw [List.length_take] at this; omega
    refine ⟨Hd, μ, startT u.N ts, endK QT XT, ⟨?_, fun i t e => ?_⟩, ok, ⟨?_, ?_, ?_, ?_, ?_⟩, vc ts μ QT XT hl hs⟩
    · unfold startT L2.start
      rw [List.length_append, List.length_append, List.length_map, List.length_map, List.length_replicate, List.length_replicate, d.len]
    · obtain ⟨v, hv, dv⟩ := d.get (getS_start e)
      refine ⟨v, ?_, dv⟩
      obtain ⟨hi, _⟩ := List.getElem?_eq_some_iff.mp hv
      unfold L2.start
      rw [List.getElem?_append_left (by rw [List.length_map]; exact hi), List.getElem?_map, hv]; rfl
    · exact fun _ _ _ H' e o _ q => kq .non _ .non H' e o rfl q
    · exact fun _ _ _ _ _ _ _ q => q.elim
    · exact fun _ _ _ _ _ _ _ q => q.elim
    · exact fun t _ v H' e o dn q => kq t _ v H' e o dn q
    · exact fun c _ _ _ H' e o _ q => kx c _ H' e o q
end
end Co
set_option Elab.async false
set_option linter.all false
set_option maxRecDepth 100000
set_option maxHeartbeats 2000000
namespace Co
open PySem PySem.Spec PyProof.Rows L2
/-! # Co, part 22: the program's data; its facts, looked up -/
structure Da where
  at_ : List Str
  cn : List Str
  xn : List Str
  mtl : List (Nat × Nat × Nat)
  fls : List (List Nat)
  dfs : List (List T)
  xms : List (List Bool)
  gl : List (Str × T)
  fus : List Fu
  lvs : List Nat
  gcd : Bool
def Da.at (D : Da) (j : Nat) : Str × Option Str := match D.fus[j]? with
  | some u => u.d.at_
  | none => ("", none)
def Da.np (D : Da) (j : Nat) : Nat := match D.fus[j]? with
  | some u => u.ps.length
  | none => 0
def Da.fnm (D : Da) : List Str := D.fus.map fun u => match u.d.at_ with
  | (x, none) => x
  | _ => ""
def Da.pa (D : Da) (S : Nat → Spec) : Pa where
  at_ := D.at_
  cn := D.cn
  xn := D.xn
  mtl := D.mtl
  fl := fun c => D.fls.getD c []
  np := D.np
  df := fun j => D.dfs.getD j []
  xm := fun i j => (D.xms.getD i []).getD j false
  gl := D.gl
  fn := D.fnm
  gcd := D.gcd
  S := S
def Da.tb (D : Da) (K : PySem.W.Frag) (fd : Nat → FuncData) : Tb where
  ca := fun c => He.ga K (D.cn.getD c "")
  xa := fun c => He.ga K (D.xn.getD c "")
  fa := fun j => He.fAd K (D.at j)
  fd := fd
  ps := fun j => match D.fus[j]? with
    | some u => u.ps
    | none => []
  lv := fun j => D.lvs.getD j 0
/-- constants of the module -/
def glB (K : PySem.W.Frag) (x : Str) : T → Bool
  | .int i => (He.Fa.int x i).ok K
  | .str z => (He.Fa.str x z).ok K
  | .tup ts => (He.Fa.glo x).ok K && (match flatVs ts with
    | some vs => He.tupB K x vs
    | none => false)
  | _ => false
where
  flatVs : List T → Option (List He.Dv)
  | [] => some []
  | .int i :: r => (flatVs r).map (.int i :: ·)
  | .str z :: r => (flatVs r).map (.str z :: ·)
  | _ :: _ => none
def six : List String := ["int", "bool", "list", "tuple", "str", "NoneType"]
def five : List String := ["int", "bool", "list", "tuple", "str"]
/-- what is looked up of the classes among the rest -/
def clsB (K : PySem.W.Frag) (cs : List Str) (x : Str) : Bool :=
  PySem.W.selfFirst K (He.ga K x) && (decide (PySem.W.findIn K (.ref (He.ga K x)) "__class__" = some (some (.builtin "object.__class__"))) && (decide (PySem.W.specialIn K (.builtin "object.__class__") "__get__" = some (some (.builtin "getset_descriptor.__get__"))) &&
    (decide (PySem.W.takesIn K (.builtin "object.__class__") = some true) && (decide (PySem.W.mroIn K (He.ga K x) (.type "object") = some true) && ((cs.all fun y => PySem.W.notFirst K (He.ga K x) (.ref (He.ga K y)) && decide (PySem.W.kitOne K (.ref (He.ga K x)) (.ref (He.ga K y)) = some (x == y))) &&
      ((six.all fun n => PySem.W.notFirst K (He.ga K x) (.type n) && decide (PySem.W.kitOne K (.type n) (.ref (He.ga K x)) = some false)) && (five.all fun n => decide (PySem.W.kitOne K (.ref (He.ga K x)) (.type n) = some false))))))))
/-- what is looked up in the heap -/
def factB (D : Da) (K : PySem.W.Frag) : Bool :=
  (D.cn.all fun x => (He.Fa.cls x).ok K && ((He.Fa.glo x).ok K && clsB K D.cn x)) && ((D.xn.all fun x => (He.Fa.glo x).ok K && ((He.Fa.exc x).ok K)) && (blts.all (fun x => (He.Fa.free x).ok K) &&
    (((List.range D.xn.length).all fun i => (List.range D.xn.length).all fun j => (He.Fa.exm (D.xn.getD i "") (D.xn.getD j "") ((D.xms.getD i []).getD j false)).ok K) &&
    (((List.range D.cn.length).all fun c => (D.fls.getD c []).all fun f => (He.Fa.noat (D.cn.getD c "") (D.at_.getD f "")).ok K) &&
    ((D.mtl.all fun q => (He.Fa.meth (D.cn.getD q.1 "") (D.at_.getD q.2.1 "")).ok K && (!(q.2.1 == initId) || (He.Fa.mkr (D.cn.getD q.1 "")).ok K)) &&
    ((D.gl.all fun p => glB K p.1 p.2) && ((D.fus.all fun u => match u.d.at_ with
      | (x, none) => (He.Fa.glo x).ok K
      | _ => true) && (!D.gcd || decide (PySem.W.nsIn K mainGlobals "gcd" = some (some (.builtin "math.gcd")))))))))))
/-- what is seen of the data alone -/
def dataB (D : Da) : Bool :=
  decide (D.at_.Nodup) && (decide (D.cn.Nodup) && (decide (D.fls.length ≤ D.cn.length) && ((D.fls.all fun l => l.all fun f => decide (f < D.at_.length)) &&
    ((D.mtl.all fun q => decide (q.2.1 < D.at_.length) && (!((D.fls.getD q.1 []).contains q.2.1) && (decide (q.1 < D.cn.length) && decide (D.at q.2.2 = (D.cn.getD q.1 "", some (D.at_.getD q.2.1 "")))))) && decide (D.at_.getD initId "" = "__init__")))))
section
variable {D : Da} {K : PySem.W.Frag} {h : Heap} {mg : Str → Option Value} {S : Nat → Spec} {fd : Nat → FuncData}
theorem mtG_mem {c m j : Nat} : ∀ {l : List (Nat × Nat × Nat)}, mtG c m l = some j → (c, m, j) ∈ l
  | [], e => by cases e
  | (c', m', j') :: r, e => by
    unfold mtG at e
    split at e
    · rename_i q
      obtain ⟨rfl, rfl⟩ := q
      cases e
      exact List.mem_cons_self
    · exact List.mem_cons_of_mem _ (mtG_mem e)
theorem getD_of {l : List Str} {i : Nat} {x : Str} (e : l[i]? = some x) : l.getD i "" = x := by
  rw [List.getD_eq_getElem?_getD, e]; rfl
theorem mem_getD {l : List Str} {i : Nat} (hi : i < l.length) : l.getD i "" ∈ l := by
  rw [List.getD_eq_getElem?_getD, List.getElem?_eq_getElem hi]
  exact List.getElem_mem hi
theorem flatV_den {P : Pa} {tb : Tb} {Ex : Addr → Nat → Prop} {Pl : Addr → Prop} {H : Hp} : ∀ {ts : List T} {vs : List He.Dv}, glB.flatVs ts = some vs → DenL P tb K Ex Pl H ts (vs.map (He.Dv.v K))
  | [], vs, e => by
    cases e
    exact rfl
  | .int i :: r, vs, e => by
    obtain ⟨vs', e', rfl⟩ := Option.map_eq_some_iff.mp (show (glB.flatVs r).map (He.Dv.int i :: ·) = some vs from e)
    exact .cons rfl (flatV_den e')
  | .str i :: r, vs, e => by
    obtain ⟨vs', e', rfl⟩ := Option.map_eq_some_iff.mp (show (glB.flatVs r).map (He.Dv.str i :: ·) = some vs from e)
    exact .cons rfl (flatV_den e')
  | .non :: _, vs, e => by cases e
  | .bl _ :: _, vs, e => by cases e
  | .tup _ :: _, vs, e => by cases e
  | .lst _ :: _, vs, e => by cases e
  | .ins _ _ :: _, vs, e => by cases e
  | .scr _ :: _, vs, e => by cases e
  | .h _ :: _, vs, e => by cases e
  | .exc _ :: _, vs, e => by cases e
theorem gl_ok (X : K.In h) (G : h.Ns mainGlobals mg) {P : Pa} {tb : Tb} {x : Str} {t : T} (c : glB K x t = true) : ∃ u v, mg x = some u ∧ RelV v u ∧ ∀ Ex Pl H, Den P tb K Ex Pl H t v := by
  cases t with
  | int i =>
    obtain ⟨t, e⟩ := He.int_ok X G c
    exact ⟨_, .int i, e, ⟨t, rfl⟩, fun _ _ _ => rfl⟩
  | str i =>
    obtain ⟨t, e⟩ := He.str_ok X G c
    exact ⟨_, .str i, e, ⟨t, rfl⟩, fun _ _ _ => rfl⟩
  | tup ts =>
    have c' := band (show ((He.Fa.glo x).ok K && (match glB.flatVs ts with | some vs => He.tupB K x vs | none => false)) = true from c)
    have e := He.glo_ok X G c'.1
    have c2 := c'.2
    split at c2
    · rename_i vs ev
      exact ⟨_, .ref (He.ga K x), e, rfl, fun Ex Pl H => ⟨_, _, rfl, .inr fun H' => He.tupB_ok c2 H', flatV_den ev⟩⟩
    · cases c2
  | _ => cases c
theorem facts_ok (X : K.In h) (G : h.Ns mainGlobals mg) (b : factB D K = true) (q : dataB D = true) : Facts (D.pa S) (D.tb K fd) K mg := by
  have b1 := band b
  have b2 := band b1.2
  have b3 := band b2.2
  have b4 := band b3.2
  have b5 := band b4.2
  have b6 := band b5.2
  have b7 := band b6.2
  have b8 := band b7.2
  have q1 := band q
  have q2 := band q1.2
  have q3 := band q2.2
  have q4 := band q3.2
  have q5 := band q4.2
  have cls : ∀ c, c < D.cn.length → (He.Fa.cls (D.cn.getD c "")).ok K = true ∧ (He.Fa.glo (D.cn.getD c "")).ok K = true ∧ clsB K D.cn (D.cn.getD c "") = true := fun c hc =>
    let z := band (List.all_eq_true.mp b1.1 _ (mem_getD hc))
    ⟨z.1, (band z.2).1, (band z.2).2⟩
  have flL : ∀ c f, ((D.fls.getD c []).contains f = true) → c < D.fls.length ∧ f ∈ D.fls.getD c [] := fun c f hf => by
    have hm : f ∈ D.fls.getD c [] := List.contains_iff_mem.mp hf
    refine ⟨?_, hm⟩
    by_cases hc : c < D.fls.length
    · exact hc
    · rw [List.getD_eq_getElem?_getD, List.getElem?_eq_none (by omega)] at hm
      cases hm
  have met : ∀ c m j, (D.pa S).mt c m = some j → (m < D.at_.length ∧ (D.fls.getD c []).contains m = false ∧ c < D.cn.length ∧ D.at j = (D.cn.getD c "", some (D.at_.getD m ""))) ∧ (He.Fa.meth (D.cn.getD c "") (D.at_.getD m "")).ok K = true ∧ (m = initId → (He.Fa.mkr (D.cn.getD c "")).ok K = true) := fun c m j hm => by
    have hmem := mtG_mem (show mtG c m D.mtl = some j from hm)
    have z1 := band (List.all_eq_true.mp q5.1 _ hmem)
    have z2 := band z1.2
    have z3 := band z2.2
    have y1 := band (List.all_eq_true.mp b6.1 _ hmem)
    refine ⟨⟨of_decide_eq_true z1.1, (Bool.not_eq_true' _).mp z2.1, of_decide_eq_true z3.1, of_decide_eq_true z3.2⟩, y1.1, fun e => ?_⟩
    have y2 : (!(m == initId) || (He.Fa.mkr (D.cn.getD c "")).ok K) = true := y1.2
    rw [e] at y2
    exact y2
  have cb : ∀ c, c < D.cn.length → _ := fun c hc => band (cls c hc).2.2
  refine ⟨of_decide_eq_true q1.1, fun c hc => He.cls_ok (cls c hc).1, fun c f hf => ?_, fun c f hc hf => ?_, fun c m j hc hm => ?_, fun c hc => (cb c hc).1, fun c x e => ?_, fun c j hc hm => ?_, fun k x t e => ?_, fun x hx => He.free_ok X G (List.all_eq_true.mp b3.1 x hx), fun i x e => ?_, fun i x e => ?_, fun i j hi hj => ?_, fun hg => ?_,
    fun c hc => ?_, fun c d hc hd => ?_, fun c n hc hn => ?_, fun c d hc hd => ?_, fun c n hc hn => ?_, fun c n hc hn => ?_⟩
  · obtain ⟨hc, hm⟩ := flL c f hf
    have z := List.all_eq_true.mp q4.1 (D.fls.getD c []) (by rw [List.getD_eq_getElem?_getD, List.getElem?_eq_getElem hc]; exact List.getElem_mem hc)
    exact of_decide_eq_true (List.all_eq_true.mp z f hm)
  · obtain ⟨_, hm⟩ := flL c f hf
    exact He.noat_ok (List.all_eq_true.mp (List.all_eq_true.mp b5.1 c (List.mem_range.mpr hc)) f hm)
  · obtain ⟨⟨m1, m2, m3, m4⟩, m5, _⟩ := met c m j hm
    refine ⟨m1, m2, ?_⟩
    have := He.meth_ok m5
    show Meth K (He.ga K (D.cn.getD c "")) (D.at_.getD m "") (He.fAd K (D.at j))
    rw [m4]
    exact this
  · have hc := (List.getElem?_eq_some_iff.mp e).1
    have := He.glo_ok X G (cls c hc).2.1
    rw [show x = D.cn.getD c "" from (getD_of e).symm]
    exact this
  · obtain ⟨⟨m1, m2, m3, m4⟩, m5, m6⟩ := met c initId j hm
    have := He.mkr_ok (m6 rfl)
    show Mk K (He.ga K (D.cn.getD c "")) (He.fAd K (D.at j))
    rw [m4, of_decide_eq_true q5.2]
    exact this
  · exact gl_ok X G (List.all_eq_true.mp b7.1 (x, t) (List.mem_of_getElem? e))
  · have := He.glo_ok X G (band (List.all_eq_true.mp b2.1 x (List.mem_of_getElem? e))).1
    show mg x = some (.ref (He.ga K (D.xn.getD i "")))
    rw [show D.xn.getD i "" = x from getD_of e]
    exact this
  · have := He.exc_ok (band (List.all_eq_true.mp b2.1 x (List.mem_of_getElem? e))).2
    show PySem.W.excIn K (He.ga K (D.xn.getD i "")) _ _ = true ∧ PySem.W.keepIn K (.ref (He.ga K (D.xn.getD i ""))) = true ∧ PySem.W.subIn K (.ref (He.ga K (D.xn.getD i ""))) _ = _ ∧ PySem.W.typeIn K (.ref (He.ga K (D.xn.getD i ""))) = _
    rw [show D.xn.getD i "" = x from getD_of e]
    exact this
  · exact He.exm_ok (List.all_eq_true.mp (List.all_eq_true.mp b4.1 i (List.mem_range.mpr hi)) j (List.mem_range.mpr hj))
  · have z := b8.2
    rw [show D.gcd = true from hg] at z
    exact PySem.W.mg_of X G (of_decide_eq_true (show decide _ = true from z))
  · have z1 := band (cb c hc).2
    have z2 := band z1.2
    have z3 := band z2.2
    have z4 := band z3.2
    exact ⟨of_decide_eq_true z1.1, of_decide_eq_true z2.1, of_decide_eq_true z3.1, of_decide_eq_true z4.1⟩
  · have z1 := band (cb c hc).2
    have z2 := band z1.2
    have z3 := band z2.2
    have z4 := band z3.2
    have z5 := band z4.2
    exact (band (List.all_eq_true.mp z5.1 _ (mem_getD hd))).1
  · have z1 := band (cb c hc).2
    have z2 := band z1.2
    have z3 := band z2.2
    have z4 := band z3.2
    have z5 := band z4.2
    have z6 := band z5.2
    exact (band (List.all_eq_true.mp z6.1 n hn)).1
  · have z1 := band (cb c hc).2
    have z2 := band z1.2
    have z3 := band z2.2
    have z4 := band z3.2
    have z5 := band z4.2
    have e := of_decide_eq_true (band (List.all_eq_true.mp z5.1 _ (mem_getD hd))).2
    have e2 : (D.cn.getD c "" == D.cn.getD d "") = (c == d) := by
      have nd := of_decide_eq_true q2.1
      by_cases hcd : c = d
      · subst hcd; simp
      · have : D.cn.getD c "" ≠ D.cn.getD d "" := fun z => (by
          have hc' : c < D.cn.length := hc
          have hd' : d < D.cn.length := hd
          rw [List.getD_eq_getElem?_getD, List.getD_eq_getElem?_getD, List.getElem?_eq_getElem hc', List.getElem?_eq_getElem hd'] at z
          rcases Nat.lt_or_gt_of_ne hcd with lt | lt
          · exact absurd z (List.pairwise_iff_getElem.mp nd c d hc' hd' lt)
          · exact absurd z.symm (List.pairwise_iff_getElem.mp nd d c hd' hc' lt))
        rw [beq_eq_false_iff_ne.mpr this, beq_eq_false_iff_ne.mpr hcd]
    rw [e2] at e
    exact e
  · have z1 := band (cb c hc).2
    have z2 := band z1.2
    have z3 := band z2.2
    have z4 := band z3.2
    have z5 := band z4.2
    have z6 := band z5.2
    exact of_decide_eq_true (List.all_eq_true.mp z6.2 n hn)
  · have z1 := band (cb c hc).2
    have z2 := band z1.2
    have z3 := band z2.2
    have z4 := band z3.2
    have z5 := band z4.2
    have z6 := band z5.2
    exact of_decide_eq_true (band (List.all_eq_true.mp z6.1 n hn)).2
end
end Co
set_option Elab.async false
set_option linter.all false
set_option maxRecDepth 100000
set_option maxHeartbeats 2000000
namespace Co
open PySem PySem.Spec PyProof.Rows L2
/-! # Co, part 23: all functions; the law's end -/
def Bd (u : Fu) (df : List T) : Prop := ∀ (K : PySem.W.Frag) (f : Addr) (fd : FuncData), FunD K u.d.name u.d.qual u.d.params u.d.body u.d.scope (u.d.dvs K) (u.d.kws K) f fd → ∀ k, k ≤ df.length →
  ∃ ds dvs, Binds K fd u.ps ds ∧ Vals dvs ds ∧ ∀ P tb Ex Pl H, DenL P tb K Ex Pl H (df.drop (df.length - k)) dvs
theorem bd0 {u : Fu} (hd : u.d.dfl = []) (hk : u.d.kwd = []) (h : ∀ (kV doc pm : Value) (an : Option Addr) (cdv ct : Value) (us : List Value), us.length = u.ps.length → bindArgs (PySem.W.fnOf u.d.name u.d.qual u.d.params u.d.body u.d.scope .none kV doc pm an cdv ct) ⟨us, []⟩ = pure (u.ps.zip us)) : Bd u [] := by
  intro K f fd F k hk'
  have e : u.d.dvs K = [] := by unfold He.DefD.dvs; rw [hd]; rfl
  rw [e] at F
  have k0 : k = 0 := Nat.le_zero.mp hk'
  subst k0
  exact ⟨[], [], F.bindsN h, .nil, fun _ _ _ _ _ => rfl⟩
def scB (u : Fu) : Bool := (match u.d.scope.kind with | .function => true | _ => false) && (!u.d.scope.isCoroutine && (!u.d.scope.isGenerator && (decide u.N.Nodup && (decide (u.N.take u.ps.length = u.ps) && (u.ps.all (locB u.d.scope) && u.d.scope.names.all fun y => decide (y.2 ≠ .free))))))
theorem scB_ok {u : Fu} (h : scB u = true) : FnScope u.N u.ps u.d.scope := by
  have h1 := band h
  have h2 := band h1.2
  have h3 := band h2.2
  have h4 := band h3.2
  have h5 := band h4.2
  have h6 := band h5.2
  refine ⟨?_, (Bool.not_eq_true' _).mp h2.1, (Bool.not_eq_true' _).mp h3.1, of_decide_eq_true h4.1, of_decide_eq_true h5.1, fun x hx => loc_of (List.all_eq_true.mp h6.1 x hx), fun y hy => of_decide_eq_true (List.all_eq_true.mp h6.2 y hy)⟩
  have := h1.1
  split at this
  · assumption
  · cases this
/-- a function's text is its tree's -/
def fuB (D : Da) (S : Nat → Spec) (j : Nat) (u : Fu) : Bool := scB u && (decide (1 ≤ D.lvs.getD j 0) && mtSs (D.pa S) (fun j => D.lvs.getD j 0) j (D.lvs.getD j 0 - 1) u.N u.d.scope u.s u.d.body)
def obsB (D : Da) (K : PySem.W.Frag) : He.AlD := (factB D K && D.fus.all fun u => u.d.ok K, D.fus.map fun u => He.fnW K u.d.at_)
def valB (D : Da) : He.AlD := (true, D.fus.map fun u => u.d.val)
def obsG (n : Nat) (D : Da) (g : Addr → Option Obj) : He.AlD := obsB D (He.frG g (He.asD g n))
def hookC (n : Nat) (D : Da) : PySem.W.Hook where
  α := He.AlD
  obs := fun s => obsG n D s.heap.get?
  val := fun _ => valB D
  says := fun _ h => ∃ K : PySem.W.Frag, K.In h ∧ obsB D K = valB D
  of := fun _ _ e => ⟨_, He.frG_in, e⟩
  keeps := fun _ _ _ ⟨K, hK, c⟩ k => ⟨K, PySem.W.Frag.In.keeps hK k, c⟩
theorem obsG_eq {n : Nat} {D : Da} {g : Addr → Option Obj} {s : Shared} (h : ∀ a, g a = s.heap.get? a) : obsG n D g = (hookC n D).obs s := by
  have e : g = s.heap.get? := funext h
  rw [e] <;> rfl
section
variable {D : Da} {K : PySem.W.Frag} {h : Heap} {mg : Str → Option Value} {S : Nat → Spec} {Pg : Program} {w : World} {base : Heap}
theorem defs_ok (c : obsB D K = valB D) {j : Nat} {u : Fu} (hj : D.fus[j]? = some u) : ∃ fd, FunD K u.d.name u.d.qual u.d.params u.d.body u.d.scope (u.d.dvs K) (u.d.kws K) (He.fAd K u.d.at_) fd := by
  have c2 := (band (show (factB D K && D.fus.all fun u => u.d.ok K) = true from congrArg (fun z : He.AlD => z.1) c)).2
  have e : D.fus.map (fun u => He.fnW K u.d.at_) = D.fus.map fun u => u.d.val := congrArg (fun z : He.AlD => z.2) c
  have e2 : (D.fus.map fun u => He.fnW K u.d.at_)[j]? = (D.fus.map fun u => u.d.val)[j]? := by rw [e]
  rw [List.getElem?_map, List.getElem?_map, hj] at e2
  exact He.DefD.funD (Option.some.inj e2) (List.all_eq_true.mp c2 u (List.mem_of_getElem? hj))
theorem all_fn (X : K.In h) (G : h.Ns mainGlobals mg) (c : obsB D K = valB D) (q : dataB D = true) (hu : ∀ (j : Nat) (u : Fu), D.fus[j]? = some u → fuB D S j u = true ∧ Bd u (D.dfs.getD j []) ∧ VC (D.pa S) u (S j)) :
    ∃ fd : Nat → FuncData, (∀ (j : Nat) (u : Fu), D.fus[j]? = some u → FunD K u.d.name u.d.qual u.d.params u.d.body u.d.scope (u.d.dvs K) (u.d.kws K) (He.fAd K u.d.at_) (fd j)) ∧ ∀ (base : Heap) (Pg : Program) (w : World) j, j < D.fus.length → FnF (D.pa S) (D.tb K fd) Pg w K mg base j := by
  by_cases hl : D.fus.length = 0
  · have fd0 : FuncData := PySem.W.fnOf "" "" ⟨[], [], none, [], [], none, []⟩ [] default .none .none .none .none none .none .none
    exact ⟨fun _ => fd0, fun j u e => by have := (List.getElem?_eq_some_iff.mp e).1; omega, fun _ _ _ j hj => by omega⟩
  have ex : ∀ j : Nat, ∃ fd : FuncData, ∀ u : Fu, D.fus[j]? = some u → FunD K u.d.name u.d.qual u.d.params u.d.body u.d.scope (u.d.dvs K) (u.d.kws K) (He.fAd K u.d.at_) fd := fun j => by
    cases e : D.fus[j]? with
    | some u =>
      obtain ⟨fd, F⟩ := defs_ok c e
      exact ⟨fd, fun u' e' => by cases e'; exact F⟩
    | none =>
      obtain ⟨fd, _⟩ := defs_ok c (j := 0) (u := D.fus[0]) (List.getElem?_eq_getElem (by omega))
      exact ⟨fd, fun u' e' => by cases e'⟩
  refine ⟨fun j => (ex j).choose, fun j u e => (ex j).choose_spec u e, fun base Pg w => ?_⟩
  generalize hfd : (fun j => (ex j).choose) = fd
  have FD : ∀ (j : Nat) (u : Fu), D.fus[j]? = some u → FunD K u.d.name u.d.qual u.d.params u.d.body u.d.scope (u.d.dvs K) (u.d.kws K) (He.fAd K u.d.at_) (fd j) := fun j u e => by rw [← hfd]; exact (ex j).choose_spec u e
  have fb := (band (show (factB D K && D.fus.all fun u => u.d.ok K) = true from congrArg (fun z : He.AlD => z.1) c)).1
  have F := facts_ok (S := S) (fd := fd) X G fb q
  intro j
  induction j using Nat.strongRecOn with
  | ind j ih =>
    intro hj
    obtain ⟨u, hu'⟩ : ∃ u : Fu, D.fus[j]? = some u := ⟨_, List.getElem?_eq_getElem hj⟩
    obtain ⟨hb, hbd, hvc⟩ := hu j u hu'
    have h1 := band hb
    have h2 := band h1.2
    have fun_ := FD j u hu'
    have eps : (D.tb K fd).ps j = u.ps := by show (match D.fus[j]? with | some u => u.ps | none => []) = _; rw [hu']
    have eat : D.at j = u.d.at_ := by unfold Da.at; rw [hu']
    have efa : (D.tb K fd).fa j = He.fAd K u.d.at_ := by show He.fAd K (D.at j) = _; rw [eat]
    have hlv : (D.tb K fd).lv j = (D.lvs.getD j 0 - 1) + 1 := by
      show D.lvs.getD j 0 = _
      have := of_decide_eq_true h2.1
      omega
    refine ⟨?_, ?_, fun x hx hne => ?_, ?_, fun k hk => ?_⟩
    · rw [efa]
      exact fn_ok hlv F (fun i hi => ih i hi (Nat.lt_trans hi hj)) fun_ (scB_ok h1.1) eps h2.2 hvc
    · rw [efa]; exact fun_.kp
    · have b8 := (band (band (band (band (band (band (band fb).2).2).2).2).2).2).2
      have b9 := (band b8).1
      have z := List.all_eq_true.mp b9 u (List.mem_of_getElem? hu')
      have e2 : (D.pa S).fn[j]? = some (match u.d.at_ with | (x, none) => x | _ => "") := by
        show D.fnm[j]? = _
        unfold Da.fnm
        rw [List.getElem?_map, hu']; rfl
      rw [hx] at e2
      rw [efa]
      have e3 := Option.some.inj e2
      cases ha : u.d.at_ with
      | mk a o =>
        rw [ha] at e3 z
        cases o with
        | none =>
          have e4 : x = a := e3
          rw [e4]
          exact He.glo_ok X G z
        | some m => exact absurd (show x = "" from e3) hne
    · rw [eps]
      show u.ps.length = D.np j
      unfold Da.np; rw [hu']
    · obtain ⟨ds, dvs, b1, b2, b3⟩ := hbd K _ _ fun_ k hk
      rw [eps]
      exact ⟨ds, dvs, b1, b2, fun Ex Pl H => b3 _ _ Ex Pl H⟩
/-- the law's def, as the end of a proof over the head asks it -/
theorem law_fn (X : K.In h) (G : h.Ns mainGlobals mg) (c : obsB D K = valB D) (q : dataB D = true) (hu : ∀ (j : Nat) (u : Fu), D.fus[j]? = some u → fuB D S j u = true ∧ Bd u (D.dfs.getD j []) ∧ VC (D.pa S) u (S j))
    {jl : Nat} {ul : Fu} {x : Str} (hl : D.fus[jl]? = some ul) (hps : ul.ps = [x]) {nm : Str} (hat : ul.d.at_ = (nm, none)) {fa : Addr} (hmg : mg nm = some (.ref fa)) (hbA : ul.d.dfl = [])
    (hbind : ∀ (kV doc pm : Value) (an : Option Addr) (cdv ct : Value) (us : List Value), us.length = ul.ps.length → bindArgs (PySem.W.fnOf ul.d.name ul.d.qual ul.d.params ul.d.body ul.d.scope .none kV doc pm an cdv ct) ⟨us, []⟩ = pure (ul.ps.zip us))
    (hS : ∀ ns : List Int, ns.length ≤ 63 → S jl [.scr ns] (fun _ => none) (fun t _ => t = .bl true) (fun _ _ => False)) :
    ∃ (fd : FuncData) (sp : Sp), (∀ (s : Shared) (u : Value), BindsTo s fd ⟨[u], []⟩ [(x, u)]) ∧ (∀ (H : Hp) (a : Addr) (ns : List Int), ns.length ≤ 63 → SqL K H a (ns.map V.int) → sp [.ref a] H (fun v _ => v = .bl true) fun _ _ _ => False) ∧
      ∀ (Pg : Program) (w : World) (base : Heap), FnOk Pg w K mg base (L2.CX Pg w) (D.lvs.getD jl 0) fa fd [x] sp := by
  obtain ⟨fd, FD, FN⟩ := all_fn X G c q hu
  have hj : jl < D.fus.length := (List.getElem?_eq_some_iff.mp hl).1
  have F := FD jl ul hl
  have eps : (D.tb K fd).ps jl = [x] := by show (match D.fus[jl]? with | some u => u.ps | none => []) = _; rw [hl]; exact hps
  have fb := (band (show (factB D K && D.fus.all fun u => u.d.ok K) = true from congrArg (fun z : He.AlD => z.1) c)).1
  have efa : (D.tb K fd).fa jl = fa := by
    show He.fAd K (D.at jl) = fa
    have eat : D.at jl = (nm, none) := by unfold Da.at; rw [hl]; exact hat
    rw [eat]
    have b8 := (band (band (band (band (band (band (band fb).2).2).2).2).2).2).2
    have z := List.all_eq_true.mp (band b8).1 ul (List.mem_of_getElem? hl)
    rw [hat] at z
    have e := He.glo_ok X G z
    rw [hmg] at e
    cases e
    rfl
  have ed : ul.d.dvs K = [] := by unfold He.DefD.dvs; rw [hbA]; rfl
  refine ⟨fd jl, spOf (D.pa S) (D.tb K fd) K jl, fun s v => ?_, fun H a ns hn hq => ?_, fun Pg w base => ?_⟩
  · rw [ed] at F
    have := F.bindsA hbind s [v] (by rw [hps]; rfl)
    rw [hps] at this
    exact this
  · refine ⟨fun _ => False, fun _ => none, [.scr ns], fun t _ => t = .bl true, fun _ _ => False, ⟨fun _ _ e => (by cases e), fun _ z => False.elim z⟩, .one ⟨a, rfl, ?_⟩, by rw [eps]; rfl, hS ns hn, fun t μ' v H' _ _ d e => ?_, fun _ _ _ _ _ z => z⟩
    · rcases hq with q | ⟨o, its, n, q1, q2⟩
      · exact .inl ⟨⟨rfl, id⟩, q⟩
      · exact .inr fun H' => .inr ⟨o, its, n, q1, q2⟩
    · subst e
      exact d
  · have := (FN base Pg w jl hj).ok
    rw [efa, eps] at this
    exact this
end
end Co
set_option Elab.async false
set_option linter.all false
set_option maxRecDepth 100000
set_option maxHeartbeats 2000000
namespace Co
open PySem PySem.Spec PyProof.Rows L2
/-! # Co, part 24: no world is named in what leaves a function -/
def CXall : CXT := fun outer H s E u s' => ∃ (Pg : Program) (w : World), L2.CX Pg w outer H s E u s'
theorem CXall.no (H : Hp) (s : Shared) (e : Value) (s' : Shared) (h : CXall [] H s (fun _ _ _ => False) e s') : False := by
  obtain ⟨_, _, _, _, _, _, _, _, _, _, _, _, _, _, z⟩ := h
  exact z
theorem fn_all {Pg : Program} {w : World} {K : PySem.W.Frag} {mg : Str → Option Value} {base : Heap} {k : Nat} {f : Addr} {fd : FuncData} {ps : List Str} {sp : Sp} (F : FnOk Pg w K mg base (L2.CX Pg w) k f fd ps sp) : FnOk Pg w K mg base CXall k f fd ps sp :=
  ⟨F.len, fun A outer s H args us vs Q E hr he hb hv hs => codeAny_mono (F.run A outer s H args us vs Q E hr he hb hv hs) fun r s' h => by
    cases r with
    | error e => exact ⟨Pg, w, h⟩
    | ok fl => cases fl <;> exact h⟩
end Co
set_option Elab.async false
set_option linter.all false
set_option maxRecDepth 100000
set_option maxHeartbeats 2000000
namespace Co
open PySem PySem.Spec PyProof.Rows L2
/-! # Co, part 25: what bodies' proofs lean on -/
theorem lcGo_ok {g : Tg} {gd : Mu → Prop} {tt : ET} {el : EV} {σ : Sg} {Q : List T → Mu → Prop} {μ : Mu} (R : T → Option T) (hg : gd μ) : ∀ {items acc : List T}, acc.length + items.length ≤ 16777216 →
    (∀ x, x ∈ items → ∀ (k : T → Mu → Prop) (n : Mu → Prop), (match R x with | some y => k y μ | none => n μ) → asgT g x σ fun σ1 => tt σ1 μ (fun b μ1 => if b = true then el σ1 μ1 k (fun _ _ => False) else n μ1) (fun _ _ => False)) →
    Q (acc ++ items.filterMap R) μ → lcGo g gd tt el σ Q items acc μ
  | [], acc, _, _, q => ⟨hg, by simpa using q⟩
  | x :: xs, acc, hl, h, q => by
    refine ⟨hg, h x List.mem_cons_self _ _ ?_⟩
    simp only [List.length_cons] at hl
    rw [List.filterMap_cons] at q
    cases e : R x with
    | none =>
      rw [e] at q
      exact lcGo_ok R hg (by omega) (fun y hy => h y (List.mem_cons_of_mem _ hy)) q
    | some y =>
      rw [e] at q
      exact ⟨by omega, lcGo_ok R hg (by simp only [List.length_append, List.length_singleton]; omega) (fun y hy => h y (List.mem_cons_of_mem _ hy)) (by simpa using q)⟩
theorem for_ok {bd : (Sg → Mu → Prop) → Sg → Mu → Prop} {g : Tg} {gd : Mu → Prop} {nx : Sg → Mu → Prop} (I : Nat → Sg → Mu → Prop) {items : List T} {σ : Sg} {μ : Mu} (h0 : I 0 σ μ)
    (hs : ∀ i x σ μ (n : Sg → Mu → Prop), items[i]? = some x → I i σ μ → (∀ σ' μ', I (i + 1) σ' μ' → n σ' μ') → gd μ ∧ asgT g x σ fun σ1 => bd n σ1 μ) (he : ∀ σ μ, I items.length σ μ → gd μ ∧ nx σ μ) : frGo bd g gd nx items σ μ := by
  have go : ∀ (xs : List T) (k : Nat) (σ : Sg) (μ : Mu), items.drop k = xs → k ≤ items.length → I k σ μ → frGo bd g gd nx xs σ μ := by
    intro xs
    induction xs with
    | nil =>
      intro k σ μ e hk i
      have : k = items.length := by
        have := congrArg List.length e
        rw [List.length_drop, List.length_nil] at this
        omega
      subst this
      exact he σ μ i
    | cons x xs ih =>
      intro k σ μ e hk i
      have hlt : k < items.length := by
        have := congrArg List.length e
        rw [List.length_drop, List.length_cons] at this
        omega
      have hx : items[k]? = some x := by
        have := congrArg (fun l => l[0]?) e
        simpa using this
      have hd : items.drop (k + 1) = xs := by
        have := congrArg List.tail e
        simpa using this
      exact hs k x σ μ _ hx i fun σ' μ' i' => ih (k + 1) σ' μ' hd hlt i'
  exact go items 0 σ μ (by simp) (Nat.zero_le _) h0
theorem Mu.set_set {μ : Mu} {a : Addr} {m m' : M} : (μ.set a m).set a m' = μ.set a m' := by
  funext x; unfold Mu.set; split <;> rfl
theorem Mu.del_set {μ : Mu} {a : Addr} {m : M} (h : μ a = none) : (μ.set a m).del a = μ := by
  funext x
  show (if x = a then none else (if x = a then some m else μ x)) = μ x
  by_cases e : x = a
  · rw [if_pos e, e, h]
  · rw [if_neg e, if_neg e]
theorem Mu.set_eq {μ : Mu} {a : Addr} {m : M} (h : μ a = some m) : μ.set a m = μ := by
  funext x
  show (if x = a then some m else μ x) = μ x
  by_cases e : x = a
  · rw [if_pos e, e, h]
  · rw [if_neg e]
theorem Mu.comm {μ : Mu} {a b : Addr} {m m' : M} (h : a ≠ b) : (μ.set a m).set b m' = (μ.set b m').set a m := by
  funext x; unfold Mu.set
  by_cases e : x = a
  · subst e; simp [h]
  · by_cases e2 : x = b
    · subst e2; simp [e]
    · simp [e, e2]
/-- the store but for some places -/
def Fr (μ μ' : Mu) (D : List Addr) : Prop := ∀ x, μ x ≠ none → x ∉ D → μ' x = μ x
theorem Fr.refl {μ : Mu} {D : List Addr} : Fr μ μ D := fun _ _ _ => rfl
theorem Fr.trans {μ μ1 μ2 : Mu} {D : List Addr} (h : Fr μ μ1 D) (g : Fr μ1 μ2 D) : Fr μ μ2 D := fun x hx hd => by
  have e := h x hx hd
  rw [g x (by rw [e]; exact hx) hd, e]
theorem Fr.mono {μ μ' : Mu} {D D' : List Addr} (h : Fr μ μ' D) (s : ∀ x, x ∈ D → x ∈ D') : Fr μ μ' D' := fun x hx hd => h x hx fun z => hd (s x z)
theorem Fr.set {μ : Mu} {a : Addr} {m : M} {D : List Addr} (h : a ∈ D ∨ μ a = none) : Fr μ (μ.set a m) D := fun x hx hd => Mu.set_ne fun e => by
  subst e
  rcases h with h | h
  · exact hd h
  · exact hx h
theorem Fr.get {μ μ' : Mu} {D : List Addr} (h : Fr μ μ' D) {a : Addr} {m : M} (e : μ a = some m) (hd : a ∉ D) : μ' a = some m := (h a (by rw [e]; intro z; cases z) hd).trans e
/-! ### == of data -/
theorem datL_ints : ∀ {xs : List Int}, datL (xs.map T.int) = some (xs.map PyData.int)
  | [] => rfl
  | x :: xs => by simp only [List.map_cons, datL, dat, datL_ints (xs := xs)]
theorem eqv_ints : ∀ {xs ys : List Int}, PyData.eqvAll (xs.map PyData.int) (ys.map PyData.int) = decide (xs = ys)
  | [], [] => by simp [PyData.eqvAll]
  | [], _ :: _ => by simp [PyData.eqvAll]
  | _ :: _, [] => by simp [PyData.eqvAll]
  | x :: xs, y :: ys => by
    simp only [List.map_cons, PyData.eqvAll, PyData.eqv, eqv_ints (xs := xs) (ys := ys), List.cons.injEq, Bool.decide_and]
    congr 1
theorem lay_ints : ∀ {xs : List Int}, PyData.canLayAll0 (xs.map PyData.int) = true ∧ PyData.depthAll (xs.map PyData.int) = 0
  | [] => ⟨rfl, rfl⟩
  | x :: xs => by
    obtain ⟨h1, h2⟩ := lay_ints (xs := xs)
    constructor
    · simp only [List.map_cons, PyData.canLayAll0, PyData.canLay0, h1, Bool.and_self]
    · simp only [List.map_cons, PyData.depthAll, PyData.depth, h2]; rfl
theorem shp_ints {xs : List Int} : shp (.list (xs.map PyData.int)) := by
  unfold shp SeqAt.shaped
  simp only [PyData.canLay0, PyData.depth, lay_ints.1, lay_ints.2]
  rfl
theorem shp_wl {s : Str} {xs : List Int} (h : PyData.strOk s = true) : shp (.tuple [.str s, .list (xs.map PyData.int)]) := by
  unfold shp SeqAt.shaped
  simp only [PyData.canLay0, PyData.canLayAll0, PyData.depth, PyData.depthAll, lay_ints.1, lay_ints.2, h]
  rfl
theorem shp_wi {s : Str} {i : Int} (h : PyData.strOk s = true) : shp (.tuple [.str s, .int i]) := by
  unfold shp SeqAt.shaped
  simp only [PyData.canLay0, PyData.canLayAll0, PyData.depth, PyData.depthAll, h]
  rfl
theorem shp_wn {s : Str} (h : PyData.strOk s = true) : shp (.tuple [.str s, .none]) := by
  unfold shp SeqAt.shaped
  simp only [PyData.canLay0, PyData.canLayAll0, PyData.depth, PyData.depthAll, h]
  rfl
theorem shp_ii {i j : Int} : shp (.tuple [.int i, .int j]) := by
  unfold shp SeqAt.shaped
  simp only [PyData.canLay0, PyData.canLayAll0, PyData.depth, PyData.depthAll]; rfl
theorem shp_int {i : Int} : shp (.int i) := by
  unfold shp SeqAt.shaped
  simp only [PyData.canLay0, PyData.depth]; rfl
theorem shp_non : shp .none := by
  unfold shp SeqAt.shaped
  simp only [PyData.canLay0, PyData.depth]; rfl
theorem shp_str {s : Str} (h : PyData.strOk s = true) : shp (.str s) := by
  unfold shp SeqAt.shaped
  simp only [PyData.canLay0, PyData.depth, h]; rfl
section
variable {ng : Bool} {μ : Mu} {Q : Pq}
theorem wEq_int {i j : Int} : wEq ng (.int i) (.int j) μ Q = Q (.bl ((i == j) ^^ ng)) μ := by
  unfold wEq
  simp only [datM, dat1, dat, shp_int, PyData.eqv, true_and]
theorem wEq_nint {j : Int} : wEq ng .non (.int j) μ Q = Q (.bl ng) μ := by
  unfold wEq
  simp only [datM, dat1, dat, shp_int, shp_non, PyData.eqv, true_and, Bool.false_xor]
theorem wEq_str {s t : Str} (h1 : PyData.strOk s = true) (h2 : PyData.strOk t = true) : wEq ng (.str s) (.str t) μ Q = Q (.bl ((s == t) ^^ ng)) μ := by
  unfold wEq
  simp only [datM, dat1, dat, shp_str h1, shp_str h2, PyData.eqv, true_and]
theorem wEq_nstr {s : Str} (h1 : PyData.strOk s = true) : wEq ng (.str s) .non μ Q = Q (.bl ng) μ := by
  unfold wEq
  simp only [datM, dat1, dat, shp_str h1, shp_non, PyData.eqv, true_and, Bool.false_xor]
end
end Co
set_option Elab.async false
set_option linter.all false
set_option maxRecDepth 100000
set_option maxHeartbeats 2000000
namespace Co
open PySem PySem.Spec PyProof.Rows L2
/-! # Co, part 26: the readings by cases, as equations -/
section
variable {μ : Mu} {Q : Pq} {i j : Int} {a : Addr} {x y z : T} {xs ys : List T} {mu : Bool} {b c : Bool} {s t : Str} {R : Mu → Prop} {k : Bool → Prop} {X : Xq}
theorem w_add : wBin .add (.int i) (.int j) μ Q = Q (.int (i + j)) μ := id rfl
theorem w_sub : wBin .sub (.int i) (.int j) μ Q = Q (.int (i - j)) μ := id rfl
theorem w_mul : wBin .mul (.int i) (.int j) μ Q = (IntMulOk i j ∧ Q (.int (i * j)) μ) := id rfl
theorem w_fdiv : wBin .fdiv (.int i) (.int j) μ Q = (j ≠ 0 ∧ j.natAbs.log2 < 9000 ∧ Q (.int (i.fdiv j)) μ) := id rfl
theorem w_mod : wBin .mod (.int i) (.int j) μ Q = (j ≠ 0 ∧ Q (.int (i.fmod j)) μ) := id rfl
theorem w_pow : wBin .pow (.int i) (.int j) μ Q = ((0 ≤ j ∧ j ≤ 1000000 ∧ i.natAbs < 2 ^ 64) ∧ Q (.int (i ^ j.toNat)) μ) := id rfl
theorem w_neg : wNeg (.int i) μ Q = Q (.int (-i)) μ := id rfl
theorem w_lt : wCmp .lt (.int i) (.int j) μ Q = Q (.bl (decide (i < j))) μ := id rfl
theorem w_le : wCmp .le (.int i) (.int j) μ Q = Q (.bl (decide (i ≤ j))) μ := id rfl
theorem w_gt : wCmp .gt (.int i) (.int j) μ Q = Q (.bl (decide (j < i))) μ := id rfl
theorem w_ge : wCmp .ge (.int i) (.int j) μ Q = Q (.bl (decide (j ≤ i))) μ := id rfl
theorem w_eq : wCmp .eq x y μ Q = wEq false x y μ Q := by cases x <;> cases y <;> rfl
theorem w_ne : wCmp .ne x y μ Q = wEq true x y μ Q := by cases x <;> cases y <;> rfl
theorem w_is : wCmp .is_ x .non μ Q = Q (.bl (isNon x)) μ := by cases x <;> rfl
theorem w_isnot : wCmp .isnot x .non μ Q = Q (.bl (!isNon x)) μ := by cases x <;> rfl
theorem w_in : wCmp .in_ x y μ Q = wIn false x y μ Q := by cases x <;> cases y <;> rfl
theorem w_notin : wCmp .notin x y μ Q = wIn true x y μ Q := by cases x <;> cases y <;> rfl
theorem w_chn {o : Cm} : wChn o (.int i) (.int j) k = k (cmI o i j) := id rfl
theorem c_lt : cmI .lt i j = decide (i < j) := id rfl
theorem c_le : cmI .le i j = decide (i ≤ j) := id rfl
theorem c_gt : cmI .gt i j = decide (j < i) := id rfl
theorem c_ge : cmI .ge i j = decide (j ≤ i) := id rfl
theorem n_int : isNon (.int i) = false := id rfl
theorem n_non : isNon .non = true := id rfl
theorem n_tup : isNon (.tup xs) = false := id rfl
theorem n_lst : isNon (.lst xs) = false := id rfl
theorem n_str : isNon (.str s) = false := id rfl
theorem n_h : isNon (.h a) = false := id rfl
theorem t_bl : tru μ (.bl b) = some b := id rfl
theorem i_tup : wIdx (.tup xs) (.int i) μ Q = ∃ v, atI xs i = some v ∧ Q v μ := id rfl
theorem i_lst : wIdx (.lst xs) (.int i) μ Q = ∃ v, atI xs i = some v ∧ Q v μ := id rfl
theorem i_scr {ns : List Int} : wIdx (.scr ns) (.int i) μ Q = ∃ n, atI ns i = some n ∧ Q (.int n) μ := id rfl
theorem i_h (h : μ a = some (.lst xs)) : wIdx (.h a) (.int i) μ Q = ∃ v, atI xs i = some v ∧ Q v μ := by simp only [wIdx, seqO, h]
theorem i_set : wIdx (.h a) (.int i) (μ.set a (.lst xs)) Q = ∃ v, atI xs i = some v ∧ Q v (μ.set a (.lst xs)) := i_h Mu.set_same
theorem x_h (h : μ a = some (.lst xs)) : wSix (.h a) (.int i) x μ R = ∃ j, ixN xs.length i = some j ∧ R (μ.set a (.lst (xs.set j x))) := by simp only [wSix, h]
theorem x_set : wSix (.h a) (.int i) x (μ.set a (.lst xs)) R = ∃ j, ixN xs.length i = some j ∧ R (μ.set a (.lst (xs.set j x))) := by rw [x_h Mu.set_same]; simp only [Mu.set_set]
theorem l_h (h : μ a = some (.lst xs)) : wBi mu .len [.h a] μ Q = Q (.int xs.length) μ := by simp only [wBi, seqO, h]
theorem l_set : wBi mu .len [.h a] (μ.set a (.lst xs)) Q = Q (.int xs.length) (μ.set a (.lst xs)) := l_h Mu.set_same
theorem l_lst : wBi mu .len [.lst xs] μ Q = Q (.int xs.length) μ := id rfl
theorem l_tup : wBi mu .len [.tup xs] μ Q = Q (.int xs.length) μ := id rfl
theorem l_scr {ns : List Int} : wBi mu .len [.scr ns] μ Q = Q (.int ns.length) μ := id rfl
theorem b_int : wBi mu .int [.int i] μ Q = Q (.int i) μ := id rfl
theorem b_bl : wBi mu .int [.bl b] μ Q = Q (.int (if b then 1 else 0)) μ := id rfl
theorem b_abs : wBi mu .abs [.int i] μ Q = Q (.int (if i < 0 then -i else i)) μ := id rfl
theorem b_min2 : wBi mu .min2 [.int i, .int j] μ Q = Q (.int (if j < i then j else i)) μ := id rfl
theorem b_max2 : wBi mu .max2 [.int i, .int j] μ Q = Q (.int (if j > i then j else i)) μ := id rfl
theorem b_sum {ns : List Int} (h : intsO xs = some ns) : wBi mu .sum [.lst xs] μ Q = Q (.int ns.sum) μ := by simp only [wBi, lstO, Option.bind_some, h]
theorem b_any {ns : List Bool} (h : blsO xs = some ns) : wBi mu .any [.lst xs] μ Q = Q (.bl (ns.any id)) μ := by simp only [wBi, lstO, Option.bind_some, h]
theorem b_all {ns : List Bool} (h : blsO xs = some ns) : wBi mu .all [.lst xs] μ Q = Q (.bl (ns.all id)) μ := by simp only [wBi, lstO, Option.bind_some, h]
theorem b_min1 {ns : List Int} (h : intsO xs = some ns) : wBi mu .min1 [.lst xs] μ Q = (0 < ns.length ∧ ∀ m, m ∈ ns → (∀ y, y ∈ ns → m ≤ y) → Q (.int m) μ) := by simp only [wBi, lstO, Option.bind_some, h]
theorem f_h {c0 f : Nat} {fs : List (Nat × T)} (h : μ a = some (.ins c0 fs)) : wFld (.h a) f μ Q = (match lookF f fs with | some v => Q v μ | none => False) := by
  unfold wFld
  rw [show insO μ (.h a) = some (c0, fs) from by simp only [insO, h]]
  try rfl
theorem f_ins {c0 f : Nat} {fs : List (Nat × T)} : wFld (.ins c0 fs) f μ Q = (match lookF f fs with | some v => Q v μ | none => False) := id rfl
theorem a_h (h : μ a = some (.lst xs)) : wBm .append (.h a) [x] μ Q = (xs.length < 16777216 ∧ Q .non (μ.set a (.lst (xs ++ [x])))) := by simp only [wBm, h]
theorem a_set : wBm .append (.h a) [x] (μ.set a (.lst xs)) Q = (xs.length < 16777216 ∧ Q .non (μ.set a (.lst (xs ++ [x])))) := by rw [a_h Mu.set_same]; simp only [Mu.set_set]
theorem ar_h {m : Bm} (hm : m = .append ∨ m = .pop0 ∨ m = .pop1) (h : μ a = some (.lst xs)) : bmRcv m (.h a) μ = True := by
  rcases hm with rfl | rfl | rfl <;> simp only [bmRcv, lstO, h, Option.isSome_some]
theorem ar_set : bmRcv .append (.h a) (μ.set a (.lst xs)) = True := ar_h (.inl rfl) Mu.set_same
theorem nw_t : wNew true xs μ Q = (xs.length ≤ 16777216 ∧ ∀ a, μ a = none → Q (.h a) (μ.set a (.lst xs))) := id rfl
theorem nw_f : wNew false xs μ Q = (xs.length ≤ 16777216 ∧ Q (.lst xs) μ) := id rfl
theorem ct_ll : wCat mu (.lst xs) (.lst ys) μ Q = wNew mu (xs ++ ys) μ Q := id rfl
theorem sl_l {lo hi : Option Int} : wSlc mu (.lst xs) lo hi μ Q = wNew mu (cutT xs lo hi) μ Q := id rfl
theorem at_0 {α : Type} {x : α} {xs : List α} : atI (x :: xs) 0 = some x := by
  unfold atI ixN
  rw [if_pos (by decide), if_pos (by simp only [List.length_cons]; omega)]; rfl
theorem at_1 {α : Type} {x y : α} {xs : List α} : atI (x :: y :: xs) 1 = some y := by
  unfold atI ixN
  rw [if_pos (by decide), if_pos (by simp only [List.length_cons]; omega)]; rfl
theorem at_2 {α : Type} {x y z : α} {xs : List α} : atI (x :: y :: z :: xs) 2 = some z := by
  unfold atI ixN
  rw [if_pos (by decide), if_pos (by simp only [List.length_cons]; omega)]; rfl
theorem ix_0 {n : Nat} : ixN (n + 1) 0 = some 0 := by
  unfold ixN
  rw [if_pos (by decide), if_pos (by omega)]; rfl
theorem ix_1 {n : Nat} : ixN (n + 1 + 1) 1 = some 1 := by
  unfold ixN
  rw [if_pos (by decide), if_pos (by omega)]; rfl
theorem z_h (h : μ a = some (.lst xs)) : wFrz (.h a) μ Q = Q (.lst xs) (μ.del a) := by simp only [wFrz, h]
theorem z_set (h : μ a = none) : wFrz (.h a) (μ.set a (.lst xs)) Q = Q (.lst xs) μ := by rw [z_h Mu.set_same, Mu.del_set h]
theorem in_ints {ns : List Int} : wIn false (.int i) (.lst (ns.map T.int)) μ Q = Q (.bl (ns.contains i)) μ := by
  have h1 : (ns.map T.int).all flatT = true := by
    rw [List.all_eq_true]
    intro x hx
    obtain ⟨n, _, rfl⟩ := List.mem_map.mp hx
    rfl
  have h2 : ((ns.map T.int).any fun z => eqF z (.int i)) = ns.contains i := by
    rw [List.any_map]
    induction ns with
    | nil => rfl
    | cons n ns ih =>
      have ih' := ih (by
        rw [List.all_eq_true]
        intro x hx
        obtain ⟨n, _, rfl⟩ := List.mem_map.mp hx
        rfl)
      rw [List.any_cons, ih', List.contains_cons]
      show ((n == i) || _) = _
      rw [show (n == i) = (i == n) from by
        by_cases h : n = i
        · rw [h]
        · rw [beq_eq_false_iff_ne.mpr h, beq_eq_false_iff_ne.mpr (Ne.symm h)]]
  have e : wIn false (.int i) (.lst (ns.map T.int)) μ Q = (flatT (.int i) = true ∧ (ns.map T.int).all flatT = true ∧ Q (.bl (((ns.map T.int).any fun z => eqF z (.int i)) ^^ false)) μ) := id rfl
  rw [e, h1, h2, Bool.xor_false]
  simp only [flatT, true_and]
theorem lc_enc {α : Type} {enc : α → T} {g : Tg} {gd : Mu → Prop} {tt : ET} {el : EV} {σ : Sg} {Q : List T → Mu → Prop} (f : α → Bool) (y : α → T) (hg : gd μ) : ∀ {l : List α} {acc : List T}, acc.length + l.length ≤ 16777216 →
    (∀ x, x ∈ l → ∀ (k : T → Mu → Prop) (n : Mu → Prop), (if f x = true then k (y x) μ else n μ) → asgT g (enc x) σ fun σ1 => tt σ1 μ (fun b μ1 => if b = true then el σ1 μ1 k (fun _ _ => False) else n μ1) (fun _ _ => False)) →
    Q (acc ++ (l.filter f).map y) μ → lcGo g gd tt el σ Q (l.map enc) acc μ
  | [], acc, _, _, q => ⟨hg, by simpa using q⟩
  | x :: xs, acc, hl, h, q => by
    refine ⟨hg, h x List.mem_cons_self _ _ ?_⟩
    simp only [List.length_cons] at hl
    rw [List.filter_cons] at q
    by_cases e : f x = true
    · rw [if_pos e] at q ⊢
      exact ⟨by omega, lc_enc f y hg (by simp only [List.length_append, List.length_singleton]; omega) (fun z hz => h z (List.mem_cons_of_mem _ hz)) (by simpa using q)⟩
    · rw [if_neg e] at q ⊢
      exact lc_enc f y hg (by omega) (fun z hz => h z (List.mem_cons_of_mem _ hz)) q
theorem ints_map {l : List Int} : intsO (l.map T.int) = some l := by
  induction l with
  | nil => rfl
  | cons x l ih => simp only [List.map_cons, intsO, ih, Option.map_some]
theorem bls_map {l : List Bool} : blsO (l.map T.bl) = some l := by
  induction l with
  | nil => rfl
  | cons x l ih => simp only [List.map_cons, blsO, ih, Option.map_some]
theorem rng_nat {n : Nat} : rangeT 0 n = (List.range n).map fun k : Nat => T.int (k : Int) := by
  unfold rangeT
  congr 1
  funext k
  rw [Int.zero_add]
theorem g_lst : lstG μ (.lst xs) = some (xs, fun _ => True) := id rfl
theorem s_h {P : Pa} {c0 f : Nat} {fs : List (Nat × T)} (h : μ a = some (.ins c0 fs)) : wSfl P (.h a) x f μ R = (fs.length < 1000 ∧ (P.fl c0).contains f = true ∧ R (μ.set a (.ins c0 (putN f x fs)))) := by
  unfold wSfl
  simp only [h]
theorem bl_n : wIn false x (.lst xs) μ Q = (flatT x = true ∧ xs.all flatT = true ∧ Q (.bl ((xs.any fun z => eqF z x) ^^ false)) μ) := id rfl
theorem wEq_ll {ng : Bool} {ns ms : List Int} : wEq ng (.lst (ns.map T.int)) (.lst (ms.map T.int)) μ Q = Q (.bl (decide (ns = ms) ^^ ng)) μ := by
  unfold wEq
  simp only [datM, dat1, dat, datL_ints, Option.map_some, shp_ints, PyData.eqv, eqv_ints, true_and]
theorem wEq_hl {ng : Bool} {ns ms : List Int} (h : μ a = some (.lst (ns.map T.int))) : wEq ng (.h a) (.lst (ms.map T.int)) μ Q = Q (.bl (decide (ns = ms) ^^ ng)) μ := by
  unfold wEq
  simp only [datM, dat1, dat, h, datL_ints, Option.map_some, shp_ints, PyData.eqv, eqv_ints, true_and]
end
end Co
set_option Elab.async false
set_option linter.all false
set_option maxRecDepth 100000
set_option maxHeartbeats 2000000
namespace K98
open Co
/-! # groups within groups, in plain Lean -/
abbrev Gp := Option Nat × Int × Int
abbrev Gs := List Gp
def ab (G : Gs) (g : Nat) : Option Nat := match G[g]? with
  | some x => x.1
  | none => none
def mo (G : Gs) (g : Nat) : Int := match G[g]? with
  | some x => x.2.1
  | none => 0
def le (G : Gs) (g : Nat) : Int := match G[g]? with
  | some x => x.2.2
  | none => 0
inductive Ln (G : Gs) : Nat → List Nat → Prop
  | one {g : Nat} : ab G g = none → Ln G g [g]
  | more {g a : Nat} {l : List Nat} : ab G g = some a → Ln G a l → Ln G g (g :: l)
structure Wf (G : Gs) : Prop where
  lt : ∀ g a, g < G.length → ab G g = some a → a < G.length
  ends : ∀ g, g < G.length → ∃ l, Ln G g l
theorem Ln.ne {G : Gs} {g : Nat} {l : List Nat} (h : Ln G g l) : l ≠ [] := by cases h <;> intro z <;> cases z
theorem Ln.uniq {G : Gs} : ∀ {l l' : List Nat} {g : Nat}, Ln G g l → Ln G g l' → l = l'
  | _, _, _, .one h, .one _ => rfl
  | _, _, _, .one h, .more h' _ => by rw [h] at h'; cases h'
  | _, _, _, .more h _, .one h' => by rw [h] at h'; cases h'
  | _, _, _, .more h k, .more h' k' => by
    rw [h] at h'; cases h'
    rw [Ln.uniq k k']
theorem Ln.sub {G : Gs} : ∀ {l : List Nat} {g x : Nat}, Ln G g l → x ∈ l → ∃ l', Ln G x l' ∧ l'.length ≤ l.length
  | _, g, x, .one h, hx => by
    rw [List.mem_singleton] at hx
    subst hx
    exact ⟨_, .one h, Nat.le_refl _⟩
  | _, g, x, .more h k, hx => by
    rcases List.mem_cons.mp hx with e | hx
    · subst e
      exact ⟨_, .more h k, Nat.le_refl _⟩
    · obtain ⟨l', k', hl⟩ := Ln.sub k hx
      exact ⟨l', k', Nat.le_trans hl (Nat.le_succ _)⟩
theorem Ln.nodup {G : Gs} : ∀ {l : List Nat} {g : Nat}, Ln G g l → l.Nodup
  | _, g, .one h => by simp
  | _, g, .more (l := l) h k => by
    refine List.nodup_cons.mpr ⟨fun hm => ?_, Ln.nodup k⟩
    obtain ⟨l', k', hl⟩ := Ln.sub k hm
    have := Ln.uniq k' (.more h k)
    rw [this, List.length_cons] at hl
    omega
theorem Ln.lt {G : Gs} (w : Wf G) : ∀ {l : List Nat} {g : Nat}, g < G.length → Ln G g l → ∀ x, x ∈ l → x < G.length
  | _, g, hg, .one h, x, hx => by rw [List.mem_singleton] at hx; rw [hx]; exact hg
  | _, g, hg, .more h k, x, hx => by
    rcases List.mem_cons.mp hx with e | hx
    · rw [e]; exact hg
    · exact Ln.lt w (w.lt _ _ hg h) k x hx
theorem few : ∀ (n : Nat) {l : List Nat}, l.Nodup → (∀ x, x ∈ l → x < n) → l.length ≤ n
  | 0, l, _, h => by
    cases l with
    | nil => exact Nat.le_refl _
    | cons x l => exact absurd (h x List.mem_cons_self) (Nat.not_lt_zero _)
  | n + 1, l, nd, h => by
    have h2 := few n (l := l.erase n) (nd.erase n) fun x hx => by
      have hm := (List.Nodup.mem_erase_iff nd).mp hx
      have := h x hm.2
      have := hm.1
      omega
    by_cases hn : n ∈ l
    · rw [List.length_erase_of_mem hn] at h2; omega
    · rw [List.erase_of_not_mem hn] at h2; omega
theorem Ln.len {G : Gs} (w : Wf G) {l : List Nat} {g : Nat} (hg : g < G.length) (h : Ln G g l) : l.length ≤ G.length := few _ h.nodup (h.lt w hg)
theorem Ln.get0 {G : Gs} {l : List Nat} {g : Nat} (h : Ln G g l) : l[0]? = some g := by cases h <;> rfl
theorem Ln.step {G : Gs} : ∀ {l : List Nat} {g : Nat}, Ln G g l → ∀ {i x : Nat}, l[i]? = some x → ab G x = l[i + 1]?
  | _, g, .one h, i, x, e => by
    cases i with
    | zero => cases e; rw [h]; rfl
    | succ i => cases e
  | _, g, .more h k, i, x, e => by
    cases i with
    | zero =>
      cases e
      rw [h, List.getElem?_cons_succ, k.get0]
    | succ i =>
      rw [List.getElem?_cons_succ] at e ⊢
      exact Ln.step k e
/-- the line, with so many steps -/
def lineF : Nat → Gs → Nat → List Nat
  | 0, _, g => [g]
  | n + 1, G, g => match ab G g with
    | none => [g]
    | some a => g :: lineF n G a
def lineG (G : Gs) (g : Nat) : List Nat := lineF G.length G g
theorem lineF_ln {G : Gs} : ∀ {l : List Nat} {g n : Nat}, Ln G g l → l.length ≤ n + 1 → lineF n G g = l
  | _, g, n, .one h, _ => by
    cases n with
    | zero => rfl
    | succ n => unfold lineF; rw [h]
  | _, g, n, .more h k, hl => by
    cases n with
    | zero =>
      simp only [List.length_cons] at hl
      have := k.ne
      have : 0 < _ := List.length_pos_iff.mpr this
      omega
    | succ n =>
      unfold lineF
      rw [h]
      simp only [List.length_cons] at hl
      exact congrArg (g :: ·) (lineF_ln k (by omega))
theorem Wf.line {G : Gs} (w : Wf G) {g : Nat} (hg : g < G.length) : Ln G g (lineG G g) := by
  obtain ⟨l, h⟩ := w.ends g hg
  have := lineF_ln (n := G.length) h (by have := h.len w hg; omega)
  unfold lineG
  rw [this]; exact h
def usedG (G : Gs) (g : Nat) : Int := (((List.range G.length).filter fun at_ => (lineG G at_).contains g).map (le G)).sum
def roomsG (G : Gs) (g : Nat) : List (Int × Nat) := (lineG G g).map fun at_ => (mo G at_ - usedG G at_, at_)
def minL : List Int → Int
  | [] => 0
  | [x] => x
  | x :: y :: r => if x ≤ minL (y :: r) then x else minL (y :: r)
theorem minL_mem : ∀ {l : List Int}, l ≠ [] → minL l ∈ l
  | [], h => absurd rfl h
  | [x], _ => List.mem_singleton.mpr rfl
  | x :: y :: r, _ => by
    unfold minL
    split
    · exact List.mem_cons_self
    · exact List.mem_cons_of_mem _ (minL_mem (l := y :: r) (by simp))
theorem minL_le : ∀ {l : List Int} {y : Int}, y ∈ l → minL l ≤ y
  | [x], y, h => by rw [List.mem_singleton] at h; rw [h]; exact Int.le_refl _
  | x :: z :: r, y, h => by
    unfold minL
    rcases List.mem_cons.mp h with e | h
    · subst e
      split
      · exact Int.le_refl _
      · omega
    · have := minL_le (l := z :: r) h
      split <;> omega
theorem minL_eq {l : List Int} {m : Int} (h : m ∈ l) (h2 : ∀ y, y ∈ l → m ≤ y) : m = minL l := by
  have h3 : l ≠ [] := fun z => by rw [z] at h; cases h
  have := h2 _ (minL_mem h3)
  have := minL_le h
  omega
def leastG (G : Gs) (g : Nat) : Int := minL ((roomsG G g).map (·.1))
def firstG (G : Gs) (g : Nat) : Nat := (((roomsG G g).filter fun p => p.1 == leastG G g).map (·.2)).headD 0
theorem rooms_ne {G : Gs} (w : Wf G) {g : Nat} (hg : g < G.length) : roomsG G g ≠ [] := by
  have := (w.line hg).ne
  unfold roomsG
  intro z
  exact this (List.map_eq_nil_iff.mp z)
theorem first_ex {G : Gs} (w : Wf G) {g : Nat} (hg : g < G.length) : ∃ r, ((roomsG G g).filter fun p => p.1 == leastG G g).map (·.2) = firstG G g :: r := by
  have hm : leastG G g ∈ (roomsG G g).map (·.1) := minL_mem (by intro z; exact rooms_ne w hg (List.map_eq_nil_iff.mp z))
  obtain ⟨p, hp, e⟩ := List.mem_map.mp hm
  have hf : p ∈ (roomsG G g).filter fun p => p.1 == leastG G g := List.mem_filter.mpr ⟨hp, by simp [e]⟩
  unfold firstG
  cases q : (roomsG G g).filter fun p => p.1 == leastG G g with
  | nil => rw [q] at hf; cases hf
  | cons x r => exact ⟨_, rfl⟩
def beyondG (G : Gs) : List Nat := (List.range G.length).filter fun g => decide (usedG G g > mo G g)
/-! ### what a call is to do: the class of the refusal, or none; and what is left -/
def great : Int := 1000000000000
def putG (G : Gs) (g : Nat) (x : Gp) : Gs := G.set g x
inductive Op where
  | add (one : Option Int) (two : Int) | lend (g two : Int) | lim (g two : Int) | mov (g : Int) (two : Option Int)
def isG (G : Gs) (g : Int) : Bool := decide (0 ≤ g) && decide (g < G.length)
def okO (G : Gs) : Option Int → Bool
  | some i => isG G i
  | none => true
def absZ (i : Int) : Int := if i < 0 then -i else i
def overG (G : Gs) (i : Nat) : Bool := (lineG G i).any fun at_ => decide (usedG G at_ > mo G at_)
def dueG (G : Gs) : Op → Option Nat × Gs
  | .add one two =>
    if okO G one = false then (some 0, G)
    else if two < 0 ∨ great < two then (some 1, G)
    else if G.length = 40 then (some 2, G)
    else (none, G ++ [(one.map Int.toNat, two, 0)])
  | .lend g two =>
    if isG G g = false then (some 0, G)
    else if two = 0 ∨ great < absZ two then (some 1, G)
    else if (0 < two ∧ leastG G g.toNat < two) ∨ le G g.toNat + two < 0 then (some 2, G)
    else (none, putG G g.toNat (ab G g.toNat, mo G g.toNat, le G g.toNat + two))
  | .lim g two =>
    if isG G g = false then (some 0, G)
    else if two < 0 ∨ great < two then (some 1, G)
    else (none, putG G g.toNat (ab G g.toNat, two, le G g.toNat))
  | .mov g two =>
    if isG G g = false then (some 0, G)
    else if okO G two = false then (some 0, G)
    else match two with
      | some i => if (lineG G i.toNat).contains g.toNat = true then (some 2, G)
        else if overG (putG G g.toNat (some i.toNat, mo G g.toNat, le G g.toNat)) i.toNat = true then (some 2, G)
        else (none, putG G g.toNat (some i.toNat, mo G g.toNat, le G g.toNat))
      | none => (none, putG G g.toNat (none, mo G g.toNat, le G g.toNat))
/-! ### all stays in order -/
theorem ab_put {G : Gs} {g x : Nat} {y : Gp} (hg : g < G.length) : ab (putG G g y) x = if x = g then y.1 else ab G x := by
  unfold ab putG
  by_cases e : x = g
  · subst e
    rw [List.getElem?_set_self hg, if_pos rfl]
  · rw [List.getElem?_set_ne (Ne.symm e), if_neg e]
theorem len_put {G : Gs} {g : Nat} {y : Gp} : (putG G g y).length = G.length := List.length_set
theorem Ln.same {G G' : Gs} : ∀ {l : List Nat} {g : Nat}, Ln G g l → (∀ x, x ∈ l → ab G' x = ab G x) → Ln G' g l
  | _, g, .one h, e => .one (by rw [e _ List.mem_cons_self]; exact h)
  | _, g, .more h k, e => .more (by rw [e _ List.mem_cons_self]; exact h) (Ln.same k fun x hx => e x (List.mem_cons_of_mem _ hx))
theorem wf_nil : Wf [] := ⟨fun g a h => absurd h (Nat.not_lt_zero _), fun g h => absurd h (Nat.not_lt_zero _)⟩
theorem wf_keep {G : Gs} (w : Wf G) {g : Nat} {y : Gp} (hg : g < G.length) (e : y.1 = ab G g) : Wf (putG G g y) := by
  have ea : ∀ x, ab (putG G g y) x = ab G x := fun x => by
    rw [ab_put hg]
    split
    · rename_i h; rw [h, e]
    · rfl
  refine ⟨fun x a hx h => ?_, fun x hx => ?_⟩
  · rw [len_put] at hx ⊢
    rw [ea] at h
    exact w.lt x a hx h
  · rw [len_put] at hx
    obtain ⟨l, k⟩ := w.ends x hx
    exact ⟨l, k.same fun z _ => ea z⟩
theorem Ln.thru {G G' : Gs} {g : Nat} {m : List Nat} (hm : Ln G' g m) (e : ∀ x, x ≠ g → ab G' x = ab G x) : ∀ {l : List Nat} {x : Nat}, Ln G x l → ∃ l', Ln G' x l'
  | _, x, .one h => by
    by_cases z : x = g
    · rw [z]; exact ⟨m, hm⟩
    · exact ⟨_, .one (by rw [e x z]; exact h)⟩
  | _, x, .more h k => by
    by_cases z : x = g
    · rw [z]; exact ⟨m, hm⟩
    · obtain ⟨l', k'⟩ := Ln.thru hm e k
      exact ⟨_, .more (by rw [e x z]; exact h) k'⟩
theorem wf_move {G : Gs} (w : Wf G) {g a : Nat} {y : Gp} (hg : g < G.length) (ha : a < G.length) (hn : g ∉ lineG G a) (e : y.1 = some a) : Wf (putG G g y) := by
  have ea : ∀ x, x ≠ g → ab (putG G g y) x = ab G x := fun x hx => by rw [ab_put hg, if_neg hx]
  have k : Ln (putG G g y) a (lineG G a) := (w.line ha).same fun x hx => ea x fun z => hn (by rw [← z]; exact hx)
  have kg : Ln (putG G g y) g (g :: lineG G a) := .more (by rw [ab_put hg, if_pos rfl]; exact e) k
  refine ⟨fun x b hx h => ?_, fun x hx => ?_⟩
  · rw [len_put] at hx ⊢
    rw [ab_put hg] at h
    split at h
    · rw [e] at h; cases h; exact ha
    · exact w.lt x b hx h
  · rw [len_put] at hx
    exact Ln.thru kg ea (w.line hx)
theorem wf_off {G : Gs} (w : Wf G) {g : Nat} {y : Gp} (hg : g < G.length) (e : y.1 = none) : Wf (putG G g y) := by
  have ea : ∀ x, x ≠ g → ab (putG G g y) x = ab G x := fun x hx => by rw [ab_put hg, if_neg hx]
  have kg : Ln (putG G g y) g [g] := .one (by rw [ab_put hg, if_pos rfl]; exact e)
  refine ⟨fun x b hx h => ?_, fun x hx => ?_⟩
  · rw [len_put] at hx ⊢
    rw [ab_put hg] at h
    split at h
    · rw [e] at h; cases h
    · exact w.lt x b hx h
  · rw [len_put] at hx
    exact Ln.thru kg ea (w.line hx)
theorem ab_old {G : Gs} {y : Gp} {x : Nat} (hx : x < G.length) : ab (G ++ [y]) x = ab G x := by
  unfold ab
  rw [List.getElem?_append_left hx]
theorem wf_add {G : Gs} (w : Wf G) {y : Gp} (h : ∀ a, y.1 = some a → a < G.length) : Wf (G ++ [y]) := by
  have e : ab (G ++ [y]) G.length = y.1 := by unfold ab; simp
  have old : ∀ {x : Nat} {l : List Nat}, x < G.length → Ln G x l → Ln (G ++ [y]) x l := fun {x l} hx k => k.same fun z hz => ab_old (k.lt w hx z hz)
  refine ⟨fun x a hx q => ?_, fun x hx => ?_⟩
  · rw [List.length_append, List.length_singleton] at hx ⊢
    by_cases z : x = G.length
    · rw [z, e] at q
      have := h a q
      omega
    · rw [ab_old (by omega)] at q
      have := w.lt x a (by omega) q
      omega
  · rw [List.length_append, List.length_singleton] at hx
    by_cases z : x = G.length
    · subst z
      cases q : y.1 with
      | none => exact ⟨_, .one (by rw [e]; exact q)⟩
      | some a => exact ⟨_, .more (by rw [e]; exact q) (old (h a q) (w.line (h a q)))⟩
    · exact ⟨_, old (by omega) (w.line (by omega))⟩
theorem isG_of {G : Gs} {g : Int} (h : isG G g = true) : 0 ≤ g ∧ g < G.length ∧ g.toNat < G.length := by
  unfold isG at h
  simp only [Bool.and_eq_true, decide_eq_true_eq] at h
  omega
theorem wf_due {G : Gs} (w : Wf G) (o : Op) : Wf (dueG G o).2 := by
  cases o with
  | add one two =>
    simp only [dueG]
    split
    · exact w
    · rename_i h1
      split
      · exact w
      · split
        · exact w
        · refine wf_add w fun a ha => ?_
          cases one with
          | none => cases ha
          | some i =>
            cases ha
            simp only [Bool.not_eq_false] at h1
            exact (isG_of (show isG G i = true from h1)).2.2
  | lend g two =>
    simp only [dueG]
    split
    · exact w
    · rename_i h1
      simp only [Bool.not_eq_false] at h1
      split
      · exact w
      · split
        · exact w
        · exact wf_keep w (isG_of h1).2.2 rfl
  | lim g two =>
    simp only [dueG]
    split
    · exact w
    · rename_i h1
      simp only [Bool.not_eq_false] at h1
      split
      · exact w
      · exact wf_keep w (isG_of h1).2.2 rfl
  | mov g two =>
    simp only [dueG]
    split
    · exact w
    · rename_i h1
      simp only [Bool.not_eq_false] at h1
      cases two with
      | none => exact wf_off w (isG_of h1).2.2 rfl
      | some i =>
        simp only
        split
        · exact w
        · rename_i h2
          simp only [Bool.not_eq_false] at h2
          split
          · exact w
          · rename_i h3
            split
            · exact w
            · exact wf_move w (isG_of h1).2.2 (isG_of (show isG G i = true from h2)).2.2 (fun z => h3 (List.contains_iff_mem.mpr z)) rfl
end K98
set_option Elab.async false
set_option linter.all false
set_option maxRecDepth 100000
set_option maxHeartbeats 4000000
namespace K98
open PySem PySem.Spec PyProof.Rows L2 Co
abbrev PW : Program := PySem.Challenge.pw_bankwhole_k98_whole_limits_of_groups
def topSt (i : Nat) : Stmt := PW.main.body.getD i (.Pass ⟨0, 0, 0, 0⟩)
def clsSt (i k : Nat) : Stmt := match topSt i with
  | .ClassDef _ _ _ b _ _ _ _ _ _ _ => b.getD k (.Pass ⟨0, 0, 0, 0⟩)
  | s => s
/-- 0 self -/
def s_Limits_init : Ss := (.cons (.sfl (.var 0) 0 (.lst true .nil))
 (.cons (.sfl (.var 0) 1 (.lst true .nil))
 (.cons (.sfl (.var 0) 2 (.lst true .nil))
 .nil)))
def u_Limits_init : Fu := ⟨⟨("Limits", some "__init__"), "__init__", "Limits.__init__", defArgs (clsSt 8 0), defBody (clsSt 8 0), defScope (clsSt 8 0), [], []⟩, ["self"], ["self"], s_Limits_init⟩
/-- 0 cell, 1 k -/
def s_law_source : Ss := (.cons (.ifs (.cmp .ge (.var 0) (.bin .pow (.cst (.int 10)) (.cst (.int 18))))
 (.cons (.ret (.lst true (.cons (.bin .sub (.var 0) (.bin .pow (.cst (.int 10)) (.cst (.int 18)))) (.cons (.bin .add (.var 1) (.cst (.int 1))) .nil))))
 .nil)
 .nil)
 (.cons (.ret (.lst true (.cons (.cst (.int 0)) (.cons (.bin .mod (.bi false .int (.cons (.bin .add (.bin .add (.bin .mul (.var 0) (.cst (.int 7919))) (.bin .mul (.var 1) (.cst (.int 104729)))) (.cst (.int 1))) .nil)) (.cst (.int 2147483647))) .nil))))
 .nil))
def u_law_source : Fu := ⟨⟨("_law_source", none), "_law_source", "_law_source", defArgs (topSt 11), defBody (topSt 11), defScope (topSt 11), [], []⟩, ["cell", "k"], ["cell", "k"], s_law_source⟩
/-- 0 source, 1 many, 2 mixed, 3 picked -/
def s_law_pick : Ss := (.cons (.ifs (.cmp .gt (.idx (.var 0) (.cst (.int 0))) (.cst (.int 1)))
 (.cons (.set 3 (.bin .mod (.bi false .int (.cons (.idx (.var 0) (.cst (.int 0))) .nil)) (.var 1)))
 (.cons (.six (.var 0) (.cst (.int 0)) (.bin .fdiv (.idx (.var 0) (.cst (.int 0))) (.var 1)))
 (.cons (.ret (.var 3))
 .nil)))
 .nil)
 (.cons (.six (.var 0) (.cst (.int 1)) (.bin .mod (.bi false .int (.cons (.bin .add (.bin .mul (.idx (.var 0) (.cst (.int 1))) (.cst (.int 48271))) (.cst (.int 12345))) .nil)) (.cst (.int 2147483647))))
 (.cons (.set 2 (.bin .mod (.bi false .int (.cons (.bin .add (.bin .add (.bin .mul (.idx (.var 0) (.cst (.int 1))) (.cst (.int 69621))) (.bin .fdiv (.idx (.var 0) (.cst (.int 1))) (.cst (.int 127)))) (.cst (.int 7))) .nil)) (.cst (.int 2147483629))))
 (.cons (.ret (.bin .mod (.bi false .int (.cons (.bin .fdiv (.var 2) (.cst (.int 16))) .nil)) (.var 1)))
 .nil))))
def u_law_pick : Fu := ⟨⟨("_law_pick", none), "_law_pick", "_law_pick", defArgs (topSt 12), defBody (topSt 12), defScope (topSt 12), [], []⟩, ["source", "many"], ["source", "many", "mixed", "picked"], s_law_pick⟩
/-- 0 state, 1 group -/
def s_law_is_group : Ss := (.cons (.ret (.and (.cons (.cmp .ge (.var 1) (.cst (.int 0))) (.cons (.cmp .lt (.var 1) (.bi false .len (.cons (.var 0) .nil))) .nil))))
 .nil)
def u_law_is_group : Fu := ⟨⟨("_law_is_group", none), "_law_is_group", "_law_is_group", defArgs (topSt 17), defBody (topSt 17), defScope (topSt 17), [], []⟩, ["state", "group"], ["state", "group"], s_law_is_group⟩
/-- 0 state, 1 group, 2 found, 3 turn, 4 above -/
def s_law_line : Ss := (.cons (.set 2 (.lst true (.cons (.var 1) .nil)))
 (.cons (.fr (.nm 3) (.rng1 (.bi false .len (.cons (.var 0) .nil)))
 (.cons (.set 4 (.idx (.idx (.var 0) (.idx (.var 2) (.neg (.cst (.int 1))))) (.cst (.int 0))))
 (.cons (.ifs (.cmp .is_ (.var 4) (.cst .non))
 (.cons .brk
 .nil)
 .nil)
 (.cons (.exp (.bm (.var 2) .append (.cons (.var 4) .nil)))
 .nil))))
 (.cons (.ret (.frz (.var 2)))
 .nil)))
def u_law_line : Fu := ⟨⟨("_law_line", none), "_law_line", "_law_line", defArgs (topSt 13), defBody (topSt 13), defScope (topSt 13), [], []⟩, ["state", "group"], ["state", "group", "found", "turn", "above"], s_law_line⟩
/-- 0 state, 1 group, 2 at -/
def s_law_used : Ss := (.cons (.ret (.bi false .sum (.cons (.lc false (.idx (.idx (.var 0) (.var 2)) (.cst (.int 2))) (.nm 2) (.rng1 (.bi false .len (.cons (.var 0) .nil))) (.cons (.cmp .in_ (.var 1) (.call 4 (.cons (.var 0) (.cons (.var 2) .nil)))) .nil) [2]) .nil)))
 .nil)
def u_law_used : Fu := ⟨⟨("_law_used", none), "_law_used", "_law_used", defArgs (topSt 14), defBody (topSt 14), defScope (topSt 14), [], []⟩, ["state", "group"], ["state", "group", "at"], s_law_used⟩
/-- 0 state, 1 group, 2 rooms, 3 least, 4 at, 5 room -/
def s_law_room : Ss := (.cons (.set 2 (.lc false (.tup (.cons (.bin .sub (.idx (.idx (.var 0) (.var 4)) (.cst (.int 1))) (.call 5 (.cons (.var 0) (.cons (.var 4) .nil)))) (.cons (.var 4) .nil))) (.nm 4) (.ex (.call 4 (.cons (.var 0) (.cons (.var 1) .nil)))) .nil [4]))
 (.cons (.set 3 (.bi false .min1 (.cons (.lc false (.var 5) (.tp [5, 4]) (.ex (.var 2)) .nil [5, 4]) .nil)))
 (.cons (.ret (.tup (.cons (.var 3) (.cons (.idx (.lc false (.var 4) (.tp [5, 4]) (.ex (.var 2)) (.cons (.cmp .eq (.var 5) (.var 3)) .nil) [5, 4]) (.cst (.int 0))) .nil))))
 .nil)))
def u_law_room : Fu := ⟨⟨("_law_room", none), "_law_room", "_law_room", defArgs (topSt 15), defBody (topSt 15), defScope (topSt 15), [], []⟩, ["state", "group"], ["state", "group", "rooms", "least", "at", "room"], s_law_room⟩
/-- 0 source, 1 state, 2 which, 3 group, 4 units, 5 other, 6 steps, 7 room -/
def s_law_call : Ss := (.cons (.set 2 (.idx (.lst false (.cons (.cst (.int 0)) (.cons (.cst (.int 0)) (.cons (.cst (.int 1)) (.cons (.cst (.int 1)) (.cons (.cst (.int 1)) (.cons (.cst (.int 1)) (.cons (.cst (.int 2)) (.cons (.cst (.int 3)) (.cons (.cst (.int 3)) (.cons (.cst (.int 1)) .nil))))))))))) (.call 2 (.cons (.var 0) (.cons (.cst (.int 10)) .nil)))))
 (.cons (.set 3 (.idx (.lst false (.cons (.call 2 (.cons (.var 0) (.cons (.bin .add (.bi false .len (.cons (.var 1) .nil)) (.cst (.int 1))) .nil))) (.cons (.call 2 (.cons (.var 0) (.cons (.bin .add (.bi false .len (.cons (.var 1) .nil)) (.cst (.int 1))) .nil))) (.cons (.bi false .len (.cons (.var 1) .nil)) (.cons (.bin .sub (.cst (.int 0)) (.cst (.int 1))) .nil))))) (.bin .mul (.call 2 (.cons (.var 0) (.cons (.cst (.int 4)) .nil))) (.bi false .int (.cons (.cmp .eq (.call 2 (.cons (.var 0) (.cons (.cst (.int 4)) .nil))) (.cst (.int 0))) .nil)))))
 (.cons (.set 4 (.idx (.lst false (.cons (.call 2 (.cons (.var 0) (.cons (.cst (.int 100)) .nil))) (.cons (.bin .pow (.cst (.int 10)) (.cst (.int 12))) (.cons (.bin .add (.bin .pow (.cst (.int 10)) (.cst (.int 12))) (.cst (.int 1))) (.cons (.bin .sub (.cst (.int 0)) (.cst (.int 1))) (.cons (.cst (.int 0)) (.cons (.bin .pow (.cst (.int 10)) (.cst (.int 6))) .nil))))))) (.call 2 (.cons (.var 0) (.cons (.cst (.int 6)) .nil)))))
 (.cons (.ifs (.cmp .eq (.var 2) (.cst (.int 0)))
 (.cons (.ifs (.cmp .eq (.call 2 (.cons (.var 0) (.cons (.cst (.int 3)) .nil))) (.cst (.int 0)))
 (.cons (.set 3 (.cst .non))
 .nil)
 .nil)
 (.cons (.ret (.tup (.cons (.cst (.int 0)) (.cons (.var 3) (.cons (.var 4) .nil)))))
 .nil))
 .nil)
 (.cons (.ifs (.cmp .eq (.var 2) (.cst (.int 1)))
 (.cons (.set 6 (.lst false (.cons (.bin .add (.cst (.int 1)) (.call 2 (.cons (.var 0) (.cons (.cst (.int 60)) .nil)))) (.cons (.bin .sub (.bin .sub (.cst (.int 0)) (.cst (.int 1))) (.call 2 (.cons (.var 0) (.cons (.cst (.int 60)) .nil)))) (.cons (.cst (.int 0)) (.cons (.bin .add (.bin .pow (.cst (.int 10)) (.cst (.int 12))) (.cst (.int 1))) (.cons (.bin .sub (.bin .sub (.cst (.int 0)) (.bin .pow (.cst (.int 10)) (.cst (.int 12)))) (.cst (.int 1))) (.cons (.cst (.int 1)) .nil))))))))
 (.cons (.ifs (.call 3 (.cons (.var 1) (.cons (.var 3) .nil)))
 (.cons (.set 7 (.idx (.call 6 (.cons (.var 1) (.cons (.var 3) .nil))) (.cst (.int 0))))
 (.cons (.set 6 (.cat false (.var 6) (.lst false (.cons (.bi false .max2 (.cons (.var 7) (.cons (.cst (.int 1)) .nil))) (.cons (.bin .add (.var 7) (.cst (.int 1))) (.cons (.bin .sub (.cst (.int 0)) (.idx (.idx (.var 1) (.var 3)) (.cst (.int 2)))) (.cons (.bin .sub (.bin .sub (.cst (.int 0)) (.idx (.idx (.var 1) (.var 3)) (.cst (.int 2)))) (.cst (.int 1))) (.cons (.var 7) .nil))))))))
 .nil))
 .nil)
 (.cons (.ret (.tup (.cons (.cst (.int 1)) (.cons (.var 3) (.cons (.idx (.var 6) (.call 2 (.cons (.var 0) (.cons (.bi false .len (.cons (.var 6) .nil)) .nil)))) .nil)))))
 .nil)))
 .nil)
 (.cons (.ifs (.cmp .eq (.var 2) (.cst (.int 2)))
 (.cons (.ret (.tup (.cons (.cst (.int 2)) (.cons (.var 3) (.cons (.var 4) .nil)))))
 .nil)
 .nil)
 (.cons (.set 5 (.idx (.lst false (.cons (.cst .non) (.cons (.call 2 (.cons (.var 0) (.cons (.bin .add (.bi false .len (.cons (.var 1) .nil)) (.cst (.int 1))) .nil))) (.cons (.bin .sub (.cst (.int 0)) (.cst (.int 1))) (.cons (.var 3) .nil))))) (.call 2 (.cons (.var 0) (.cons (.cst (.int 4)) .nil)))))
 (.cons (.ifs (.cmp .eq (.call 2 (.cons (.var 0) (.cons (.cst (.int 2)) .nil))) (.cst (.int 0)))
 (.cons (.set 5 (.call 2 (.cons (.var 0) (.cons (.bi false .max2 (.cons (.bi false .len (.cons (.var 1) .nil)) (.cons (.cst (.int 1)) .nil))) .nil))))
 .nil)
 .nil)
 (.cons (.ret (.tup (.cons (.cst (.int 3)) (.cons (.var 3) (.cons (.var 5) .nil)))))
 .nil)))))))))
def u_law_call : Fu := ⟨⟨("_law_call", none), "_law_call", "_law_call", defArgs (topSt 20), defBody (topSt 20), defScope (topSt 20), [], []⟩, ["source", "state"], ["source", "state", "which", "group", "units", "other", "steps", "room"], s_law_call⟩
/-- 0 state, 1 which, 2 one, 3 two, 4 great, 5 made, 6 above, 7 most, 8 lent, 9 at -/
def s_law_due : Ss := (.cons (.set 4 (.bin .pow (.cst (.int 10)) (.cst (.int 12))))
 (.cons (.ifs (.cmp .eq (.var 1) (.cst (.int 0)))
 (.cons (.ifs (.and (.cons (.cmp .isnot (.var 2) (.cst .non)) (.cons (.not (.call 3 (.cons (.var 0) (.cons (.var 2) .nil)))) .nil)))
 (.cons (.ret (.tup (.cons (.cst (.str "missing")) (.cons (.var 0) .nil))))
 .nil)
 .nil)
 (.cons (.ifs (.or (.cons (.cmp .lt (.var 3) (.cst (.int 0))) (.cons (.cmp .gt (.var 3) (.var 4)) .nil)))
 (.cons (.ret (.tup (.cons (.cst (.str "value")) (.cons (.var 0) .nil))))
 .nil)
 .nil)
 (.cons (.ifs (.cmp .eq (.bi false .len (.cons (.var 0) .nil)) (.cst (.int 40)))
 (.cons (.ret (.tup (.cons (.cst (.str "refused")) (.cons (.var 0) .nil))))
 .nil)
 .nil)
 (.cons (.ret (.tup (.cons (.cst .non) (.cons (.cat false (.var 0) (.lst false (.cons (.tup (.cons (.var 2) (.cons (.var 3) (.cons (.cst (.int 0)) .nil)))) .nil))) .nil))))
 .nil))))
 .nil)
 (.cons (.ifs (.not (.call 3 (.cons (.var 0) (.cons (.var 2) .nil))))
 (.cons (.ret (.tup (.cons (.cst (.str "missing")) (.cons (.var 0) .nil))))
 .nil)
 .nil)
 (.cons (.unp [6, 7, 8] (.idx (.var 0) (.var 2)))
 (.cons (.ifs (.cmp .eq (.var 1) (.cst (.int 1)))
 (.cons (.ifs (.or (.cons (.cmp .eq (.var 3) (.cst (.int 0))) (.cons (.cmp .gt (.bi false .abs (.cons (.var 3) .nil)) (.var 4)) .nil)))
 (.cons (.ret (.tup (.cons (.cst (.str "value")) (.cons (.var 0) .nil))))
 .nil)
 .nil)
 (.cons (.ifs (.or (.cons (.and (.cons (.cmp .gt (.var 3) (.cst (.int 0))) (.cons (.cmp .gt (.var 3) (.idx (.call 6 (.cons (.var 0) (.cons (.var 2) .nil))) (.cst (.int 0)))) .nil))) (.cons (.cmp .lt (.bin .add (.var 8) (.var 3)) (.cst (.int 0))) .nil)))
 (.cons (.ret (.tup (.cons (.cst (.str "refused")) (.cons (.var 0) .nil))))
 .nil)
 .nil)
 (.cons (.ret (.tup (.cons (.cst .non) (.cons (.cat false (.cat false (.slc false (.var 0) .nop (.var 2)) (.lst false (.cons (.tup (.cons (.var 6) (.cons (.var 7) (.cons (.bin .add (.var 8) (.var 3)) .nil)))) .nil))) (.slc false (.var 0) (.bin .add (.var 2) (.cst (.int 1))) .nop)) .nil))))
 .nil)))
 .nil)
 (.cons (.ifs (.cmp .eq (.var 1) (.cst (.int 2)))
 (.cons (.ifs (.or (.cons (.cmp .lt (.var 3) (.cst (.int 0))) (.cons (.cmp .gt (.var 3) (.var 4)) .nil)))
 (.cons (.ret (.tup (.cons (.cst (.str "value")) (.cons (.var 0) .nil))))
 .nil)
 .nil)
 (.cons (.ret (.tup (.cons (.cst .non) (.cons (.cat false (.cat false (.slc false (.var 0) .nop (.var 2)) (.lst false (.cons (.tup (.cons (.var 6) (.cons (.var 3) (.cons (.var 8) .nil)))) .nil))) (.slc false (.var 0) (.bin .add (.var 2) (.cst (.int 1))) .nop)) .nil))))
 .nil))
 .nil)
 (.cons (.ifs (.and (.cons (.cmp .isnot (.var 3) (.cst .non)) (.cons (.not (.call 3 (.cons (.var 0) (.cons (.var 3) .nil)))) .nil)))
 (.cons (.ret (.tup (.cons (.cst (.str "missing")) (.cons (.var 0) .nil))))
 .nil)
 .nil)
 (.cons (.ifs (.and (.cons (.cmp .isnot (.var 3) (.cst .non)) (.cons (.cmp .in_ (.var 2) (.call 4 (.cons (.var 0) (.cons (.var 3) .nil)))) .nil)))
 (.cons (.ret (.tup (.cons (.cst (.str "refused")) (.cons (.var 0) .nil))))
 .nil)
 .nil)
 (.cons (.set 5 (.cat false (.cat false (.slc false (.var 0) .nop (.var 2)) (.lst false (.cons (.tup (.cons (.var 3) (.cons (.var 7) (.cons (.var 8) .nil)))) .nil))) (.slc false (.var 0) (.bin .add (.var 2) (.cst (.int 1))) .nop)))
 (.cons (.ifs (.and (.cons (.cmp .isnot (.var 3) (.cst .non)) (.cons (.cmp .ne (.lc false (.var 9) (.nm 9) (.ex (.call 4 (.cons (.var 5) (.cons (.var 3) .nil)))) (.cons (.cmp .gt (.call 5 (.cons (.var 5) (.cons (.var 9) .nil))) (.idx (.idx (.var 5) (.var 9)) (.cst (.int 1)))) .nil) [9]) (.lst false .nil)) .nil)))
 (.cons (.ret (.tup (.cons (.cst (.str "refused")) (.cons (.var 0) .nil))))
 .nil)
 .nil)
 (.cons (.ret (.tup (.cons (.cst .non) (.cons (.var 5) .nil))))
 .nil)))))))))))
def u_law_due : Fu := ⟨⟨("_law_due", none), "_law_due", "_law_due", defArgs (topSt 18), defBody (topSt 18), defScope (topSt 18), [], []⟩, ["state", "which", "one", "two"], ["state", "which", "one", "two", "great", "made", "above", "most", "lent", "at"], s_law_due⟩
/-- 0 self, 1 group -/
def s_Limits_there : Ss := (.cons (.ifs (.not (.chn .le .lt (.cst (.int 0)) (.var 1) (.bi false .len (.cons (.fld (.var 0) 1) .nil))))
 (.cons (.rai 0 "group")
 .nil)
 .nil)
 .nil)
def u_Limits_there : Fu := ⟨⟨("Limits", some "_there"), "_there", "Limits._there", defArgs (clsSt 8 2), defBody (clsSt 8 2), defScope (clsSt 8 2), [], []⟩, ["self", "group"], ["self", "group"], s_Limits_there⟩
/-- 0 self, 1 group, 2 found -/
def s_Limits_line : Ss := (.cons (.exp (.met (.var 0) 3 (.cons (.var 1) .nil)))
 (.cons (.set 2 (.lst true (.cons (.var 1) .nil)))
 (.cons (.wh (.cmp .isnot (.idx (.fld (.var 0) 0) (.idx (.var 2) (.neg (.cst (.int 1))))) (.cst .non))
 (.cons (.exp (.bm (.var 2) .append (.cons (.idx (.fld (.var 0) 0) (.idx (.var 2) (.neg (.cst (.int 1))))) .nil)))
 .nil))
 (.cons (.ret (.var 2))
 .nil))))
def u_Limits_line : Fu := ⟨⟨("Limits", some "line"), "line", "Limits.line", defArgs (clsSt 8 3), defBody (clsSt 8 3), defScope (clsSt 8 3), [], []⟩, ["self", "group"], ["self", "group", "found"], s_Limits_line⟩
/-- 0 self, 1 group, 2 at, 3 units -/
def s_Limits_used : Ss := (.cons (.exp (.met (.var 0) 3 (.cons (.var 1) .nil)))
 (.cons (.ret (.bi false .sum (.cons (.lc false (.var 3) (.tp [2, 3]) (.enu (.fld (.var 0) 2)) (.cons (.cmp .in_ (.var 1) (.frz (.met (.var 0) 4 (.cons (.var 2) .nil)))) .nil) [2, 3]) .nil)))
 .nil))
def u_Limits_used : Fu := ⟨⟨("Limits", some "used"), "used", "Limits.used", defArgs (clsSt 8 4), defBody (clsSt 8 4), defScope (clsSt 8 4), [], []⟩, ["self", "group"], ["self", "group", "at", "units"], s_Limits_used⟩
/-- 0 self, 1 group, 2 rooms, 3 least_room, 4 at, 5 units -/
def s_Limits_room : Ss := (.cons (.set 2 (.lc false (.tup (.cons (.bin .sub (.idx (.fld (.var 0) 1) (.var 4)) (.met (.var 0) 5 (.cons (.var 4) .nil))) (.cons (.var 4) .nil))) (.nm 4) (.ex (.frz (.met (.var 0) 4 (.cons (.var 1) .nil)))) .nil [4]))
 (.cons (.set 3 (.bi false .min1 (.cons (.lc false (.var 5) (.tp [5, 4]) (.ex (.var 2)) .nil [5, 4]) .nil)))
 (.cons (.ret (.tup (.cons (.var 3) (.cons (.idx (.lc false (.var 4) (.tp [5, 4]) (.ex (.var 2)) (.cons (.cmp .eq (.var 5) (.var 3)) .nil) [5, 4]) (.cst (.int 0))) .nil))))
 .nil)))
def u_Limits_room : Fu := ⟨⟨("Limits", some "room"), "room", "Limits.room", defArgs (clsSt 8 5), defBody (clsSt 8 5), defScope (clsSt 8 5), [], []⟩, ["self", "group"], ["self", "group", "rooms", "least_room", "at", "units"], s_Limits_room⟩
/-- 0 self, 1 above, 2 most -/
def s_Limits_add : Ss := (.cons (.ifs (.cmp .isnot (.var 1) (.cst .non))
 (.cons (.exp (.met (.var 0) 3 (.cons (.var 1) .nil)))
 .nil)
 .nil)
 (.cons (.ifs (.not (.chn .le .le (.cst (.int 0)) (.var 2) (.glb 0)))
 (.cons (.rai 1 "limit")
 .nil)
 .nil)
 (.cons (.ifs (.cmp .eq (.bi false .len (.cons (.fld (.var 0) 1) .nil)) (.glb 1))
 (.cons (.rai 2 "groups")
 .nil)
 .nil)
 (.cons (.exp (.bm (.fld (.var 0) 0) .append (.cons (.var 1) .nil)))
 (.cons (.exp (.bm (.fld (.var 0) 1) .append (.cons (.var 2) .nil)))
 (.cons (.exp (.bm (.fld (.var 0) 2) .append (.cons (.cst (.int 0)) .nil)))
 (.cons (.ret (.bin .sub (.bi false .len (.cons (.fld (.var 0) 1) .nil)) (.cst (.int 1))))
 .nil)))))))
def u_Limits_add : Fu := ⟨⟨("Limits", some "add"), "add", "Limits.add", defArgs (clsSt 8 1), defBody (clsSt 8 1), defScope (clsSt 8 1), [], []⟩, ["self", "above", "most"], ["self", "above", "most"], s_Limits_add⟩
/-- 0 self, 1 group, 2 units -/
def s_Limits_lend : Ss := (.cons (.exp (.met (.var 0) 3 (.cons (.var 1) .nil)))
 (.cons (.ifs (.or (.cons (.cmp .eq (.var 2) (.cst (.int 0))) (.cons (.cmp .gt (.bi false .abs (.cons (.var 2) .nil)) (.glb 0)) .nil)))
 (.cons (.rai 1 "units")
 .nil)
 .nil)
 (.cons (.ifs (.or (.cons (.cmp .gt (.var 2) (.bi false .max2 (.cons (.idx (.met (.var 0) 6 (.cons (.var 1) .nil)) (.cst (.int 0))) (.cons (.cst (.int 0)) .nil)))) (.cons (.cmp .lt (.bin .add (.idx (.fld (.var 0) 2) (.var 1)) (.var 2)) (.cst (.int 0))) .nil)))
 (.cons (.rai 2 "units")
 .nil)
 .nil)
 (.cons (.six (.fld (.var 0) 2) (.var 1) (.bin .add (.idx (.fld (.var 0) 2) (.var 1)) (.var 2)))
 .nil))))
def u_Limits_lend : Fu := ⟨⟨("Limits", some "lend"), "lend", "Limits.lend", defArgs (clsSt 8 6), defBody (clsSt 8 6), defScope (clsSt 8 6), [], []⟩, ["self", "group", "units"], ["self", "group", "units"], s_Limits_lend⟩
/-- 0 self, 1 group, 2 most -/
def s_Limits_set_limit : Ss := (.cons (.exp (.met (.var 0) 3 (.cons (.var 1) .nil)))
 (.cons (.ifs (.not (.chn .le .le (.cst (.int 0)) (.var 2) (.glb 0)))
 (.cons (.rai 1 "limit")
 .nil)
 .nil)
 (.cons (.six (.fld (.var 0) 1) (.var 1) (.var 2))
 .nil)))
def u_Limits_set_limit : Fu := ⟨⟨("Limits", some "set_limit"), "set_limit", "Limits.set_limit", defArgs (clsSt 8 7), defBody (clsSt 8 7), defScope (clsSt 8 7), [], []⟩, ["self", "group", "most"], ["self", "group", "most"], s_Limits_set_limit⟩
/-- 0 self, 1 group, 2 above, 3 kept, 4 at -/
def s_Limits_move : Ss := (.cons (.exp (.met (.var 0) 3 (.cons (.var 1) .nil)))
 (.cons (.ifs (.cmp .isnot (.var 2) (.cst .non))
 (.cons (.ifs (.cmp .in_ (.var 1) (.frz (.met (.var 0) 4 (.cons (.var 2) .nil))))
 (.cons (.rai 2 "within")
 .nil)
 .nil)
 .nil)
 .nil)
 (.cons (.set 3 (.idx (.fld (.var 0) 0) (.var 1)))
 (.cons (.six (.fld (.var 0) 0) (.var 1) (.var 2))
 (.cons (.ifs (.and (.cons (.cmp .isnot (.var 2) (.cst .non)) (.cons (.bi false .any (.cons (.lc false (.cmp .gt (.met (.var 0) 5 (.cons (.var 4) .nil)) (.idx (.fld (.var 0) 1) (.var 4))) (.nm 4) (.ex (.frz (.met (.var 0) 4 (.cons (.var 2) .nil)))) .nil [4]) .nil)) .nil)))
 (.cons (.six (.fld (.var 0) 0) (.var 1) (.var 3))
 (.cons (.rai 2 "units")
 .nil))
 .nil)
 .nil)))))
def u_Limits_move : Fu := ⟨⟨("Limits", some "move"), "move", "Limits.move", defArgs (clsSt 8 9), defBody (clsSt 8 9), defScope (clsSt 8 9), [], []⟩, ["self", "group", "above"], ["self", "group", "above", "kept", "at"], s_Limits_move⟩
/-- 0 limits, 1 which, 2 one, 3 two, 4 e -/
def s_law_try : Ss := (.cons (.tr (.cons (.ifs (.cmp .eq (.var 1) (.cst (.int 0)))
 (.cons (.ret (.tup (.cons (.cst (.str "done")) (.cons (.met (.var 0) 7 (.cons (.var 2) (.cons (.var 3) .nil))) .nil))))
 .nil)
 .nil)
 (.cons (.ifs (.cmp .eq (.var 1) (.cst (.int 1)))
 (.cons (.ret (.tup (.cons (.cst (.str "done")) (.cons (.met (.var 0) 9 (.cons (.var 2) (.cons (.var 3) .nil))) .nil))))
 .nil)
 .nil)
 (.cons (.ifs (.cmp .eq (.var 1) (.cst (.int 2)))
 (.cons (.ret (.tup (.cons (.cst (.str "done")) (.cons (.met (.var 0) 10 (.cons (.var 2) (.cons (.var 3) .nil))) .nil))))
 .nil)
 .nil)
 (.cons (.ifs (.cmp .eq (.var 1) (.cst (.int 3)))
 (.cons (.ret (.tup (.cons (.cst (.str "done")) (.cons (.met (.var 0) 11 (.cons (.var 2) (.cons (.var 3) .nil))) .nil))))
 .nil)
 .nil)
 (.cons (.ifs (.cmp .eq (.var 1) (.cst (.int 4)))
 (.cons (.ret (.tup (.cons (.cst (.str "done")) (.cons (.met (.var 0) 4 (.cons (.var 2) .nil)) .nil))))
 .nil)
 .nil)
 (.cons (.ifs (.cmp .eq (.var 1) (.cst (.int 5)))
 (.cons (.ret (.tup (.cons (.cst (.str "done")) (.cons (.met (.var 0) 5 (.cons (.var 2) .nil)) .nil))))
 .nil)
 .nil)
 (.cons (.ret (.tup (.cons (.cst (.str "done")) (.cons (.met (.var 0) 6 (.cons (.var 2) .nil)) .nil))))
 .nil)))))))
 (.cons 0 (some 4) (.ret (.tup (.cons (.cst (.str "missing")) (.cons (.cst .non) .nil))))
 (.cons 1 (some 4) (.ret (.tup (.cons (.cst (.str "value")) (.cons (.cst .non) .nil))))
 (.cons 2 (some 4) (.ret (.tup (.cons (.cst (.str "refused")) (.cons (.cst .non) .nil))))
 (.cons 3 (some 4) (.ret (.tup (.cons (.cst (.str "strange")) (.cons (.cst .non) .nil))))
 .nil)))))
 .nil)
def u_law_try : Fu := ⟨⟨("_law_try", none), "_law_try", "_law_try", defArgs (topSt 16), defBody (topSt 16), defScope (topSt 16), [], []⟩, ["limits", "which", "one", "two"], ["limits", "which", "one", "two", "e"], s_law_try⟩
/-- 0 source, 1 limits, 2 state, 3 which, 4 one, 5 two, 6 due, 7 made, 8 word, 9 told -/
def s_law_step_right : Ss := (.cons (.unp [3, 4, 5] (.call 7 (.cons (.var 0) (.cons (.var 2) .nil))))
 (.cons (.unp [6, 7] (.call 8 (.cons (.var 2) (.cons (.var 3) (.cons (.var 4) (.cons (.var 5) .nil))))))
 (.cons (.unp [8, 9] (.call 17 (.cons (.var 1) (.cons (.var 3) (.cons (.var 4) (.cons (.var 5) .nil))))))
 (.cons (.ifs (.cmp .isnot (.var 6) (.cst .non))
 (.cons (.ret (.idx (.lst false (.cons (.cst .non) (.cons (.var 2) .nil))) (.bi false .int (.cons (.cmp .eq (.var 8) (.var 6)) .nil))))
 .nil)
 .nil)
 (.cons (.ifs (.or (.cons (.cmp .ne (.var 8) (.cst (.str "done"))) (.cons (.and (.cons (.cmp .eq (.var 3) (.cst (.int 0))) (.cons (.or (.cons (.cmp .ne (.var 9) (.bi false .len (.cons (.var 2) .nil))) (.cons (.isi (.var 9) .tbool) .nil))) .nil))) .nil)))
 (.cons (.ret (.cst .non))
 .nil)
 .nil)
 (.cons (.ret (.var 7))
 .nil))))))
def u_law_step_right : Fu := ⟨⟨("_law_step_right", none), "_law_step_right", "_law_step_right", defArgs (topSt 21), defBody (topSt 21), defScope (topSt 21), [], []⟩, ["source", "limits", "state"], ["source", "limits", "state", "which", "one", "two", "due", "made", "word", "told"], s_law_step_right⟩
/-- 0 self, 1 at -/
def s_Limits_beyond : Ss := (.cons (.ret (.lc false (.var 1) (.nm 1) (.rng1 (.bi false .len (.cons (.fld (.var 0) 1) .nil))) (.cons (.cmp .gt (.met (.var 0) 5 (.cons (.var 1) .nil)) (.idx (.fld (.var 0) 1) (.var 1))) .nil) [1]))
 .nil)
def u_Limits_beyond : Fu := ⟨⟨("Limits", some "beyond"), "beyond", "Limits.beyond", defArgs (clsSt 8 8), defBody (clsSt 8 8), defScope (clsSt 8 8), [], []⟩, ["self"], ["self", "at"], s_Limits_beyond⟩
/-- 0 limits, 1 state, 2 group, 3 bad, 4 told, 5 word, 6 which, 7 at -/
def s_law_looks_right : Ss := (.cons (.fr (.nm 2) (.rng1 (.bi false .len (.cons (.var 1) .nil)))
 (.cons (.unp [5, 4] (.call 17 (.cons (.var 0) (.cons (.cst (.int 4)) (.cons (.var 2) (.cons (.cst .non) .nil))))))
 (.cons (.ifs (.or (.cons (.cmp .ne (.var 5) (.cst (.str "done"))) (.cons (.not (.isi (.var 4) .tlist)) (.cons (.cmp .ne (.var 4) (.call 4 (.cons (.var 1) (.cons (.var 2) .nil)))) .nil))))
 (.cons (.ret (.cst (.bl false)))
 .nil)
 .nil)
 (.cons (.exp (.bm (.var 4) .append (.cons (.cst (.int 0)) .nil)))
 (.cons (.ifs (.or (.cons (.cmp .ne (.call 17 (.cons (.var 0) (.cons (.cst (.int 5)) (.cons (.var 2) (.cons (.cst .non) .nil))))) (.tup (.cons (.cst (.str "done")) (.cons (.call 5 (.cons (.var 1) (.cons (.var 2) .nil))) .nil)))) (.cons (.cmp .ne (.call 17 (.cons (.var 0) (.cons (.cst (.int 4)) (.cons (.var 2) (.cons (.cst .non) .nil))))) (.tup (.cons (.cst (.str "done")) (.cons (.call 4 (.cons (.var 1) (.cons (.var 2) .nil))) .nil)))) .nil)))
 (.cons (.ret (.cst (.bl false)))
 .nil)
 .nil)
 (.cons (.unp [5, 4] (.call 17 (.cons (.var 0) (.cons (.cst (.int 6)) (.cons (.var 2) (.cons (.cst .non) .nil))))))
 (.cons (.ifs (.or (.cons (.cmp .ne (.var 5) (.cst (.str "done"))) (.cons (.not (.isi (.var 4) .ttuple)) (.cons (.cmp .ne (.var 4) (.call 6 (.cons (.var 1) (.cons (.var 2) .nil)))) .nil))))
 (.cons (.ret (.cst (.bl false)))
 .nil)
 .nil)
 .nil)))))))
 (.cons (.fr (.nm 3) (.ex (.lst false (.cons (.bi false .len (.cons (.var 1) .nil)) (.cons (.bin .sub (.cst (.int 0)) (.cst (.int 1))) (.cons (.cst (.int 99)) .nil)))))
 (.cons (.ifs (.cmp .ne (.lc false (.var 6) (.nm 6) (.ex (.lst false (.cons (.cst (.int 4)) (.cons (.cst (.int 5)) (.cons (.cst (.int 6)) .nil))))) (.cons (.cmp .ne (.call 17 (.cons (.var 0) (.cons (.var 6) (.cons (.var 3) (.cons (.cst .non) .nil))))) (.tup (.cons (.cst (.str "missing")) (.cons (.cst .non) .nil)))) .nil) [6]) (.lst false .nil))
 (.cons (.ret (.cst (.bl false)))
 .nil)
 .nil)
 .nil))
 (.cons (.set 4 (.met (.var 0) 12 .nil))
 (.cons (.ret (.and (.cons (.isi (.var 4) .tlist) (.cons (.cmp .eq (.var 4) (.lc false (.var 7) (.nm 7) (.rng1 (.bi false .len (.cons (.var 1) .nil))) (.cons (.cmp .gt (.call 5 (.cons (.var 1) (.cons (.var 7) .nil))) (.idx (.idx (.var 1) (.var 7)) (.cst (.int 1)))) .nil) [7])) .nil))))
 .nil))))
def u_law_looks_right : Fu := ⟨⟨("_law_looks_right", none), "_law_looks_right", "_law_looks_right", defArgs (topSt 19), defBody (topSt 19), defScope (topSt 19), [], []⟩, ["limits", "state"], ["limits", "state", "group", "bad", "told", "word", "which", "at"], s_law_looks_right⟩
/-- 0 limits, 1 state, 2 k, 3 above -/
def s_law_many_right : Ss := (.cons (.set 0 (.mk 0 0 false .nil))
 (.cons (.set 1 (.lst true .nil))
 (.cons (.fr (.nm 2) (.rng1 (.cst (.int 40)))
 (.cons (.set 3 (.idx (.lst false (.cons (.bin .sub (.var 2) (.cst (.int 1))) (.cons (.cst .non) .nil))) (.bi false .int (.cons (.cmp .eq (.var 2) (.cst (.int 0))) .nil))))
 (.cons (.ifs (.cmp .ne (.met (.var 0) 7 (.cons (.var 3) (.cons (.bin .sub (.cst (.int 100)) (.var 2)) .nil))) (.var 2))
 (.cons (.ret (.cst (.bl false)))
 .nil)
 .nil)
 (.cons (.exp (.bm (.var 1) .append (.cons (.tup (.cons (.var 3) (.cons (.bin .sub (.cst (.int 100)) (.var 2)) (.cons (.cst (.int 0)) .nil)))) .nil)))
 .nil))))
 (.cons (.ifs (.or (.cons (.cmp .ne (.call 17 (.cons (.var 0) (.cons (.cst (.int 0)) (.cons (.cst (.int 39)) (.cons (.cst (.int 5)) .nil))))) (.tup (.cons (.cst (.str "refused")) (.cons (.cst .non) .nil)))) (.cons (.cmp .ne (.call 17 (.cons (.var 0) (.cons (.cst (.int 0)) (.cons (.cst (.int 40)) (.cons (.cst (.int 5)) .nil))))) (.tup (.cons (.cst (.str "missing")) (.cons (.cst .non) .nil)))) (.cons (.cmp .ne (.call 17 (.cons (.var 0) (.cons (.cst (.int 0)) (.cons (.cst .non) (.cons (.bin .sub (.cst (.int 0)) (.cst (.int 1))) .nil))))) (.tup (.cons (.cst (.str "value")) (.cons (.cst .non) .nil)))) .nil))))
 (.cons (.ret (.cst (.bl false)))
 .nil)
 .nil)
 (.cons (.ifs (.or (.cons (.cmp .ne (.call 17 (.cons (.var 0) (.cons (.cst (.int 1)) (.cons (.cst (.int 39)) (.cons (.cst (.int 62)) .nil))))) (.tup (.cons (.cst (.str "refused")) (.cons (.cst .non) .nil)))) (.cons (.cmp .ne (.call 17 (.cons (.var 0) (.cons (.cst (.int 1)) (.cons (.cst (.int 39)) (.cons (.cst (.int 61)) .nil))))) (.tup (.cons (.cst (.str "done")) (.cons (.cst .non) .nil)))) .nil)))
 (.cons (.ret (.cst (.bl false)))
 .nil)
 .nil)
 (.cons (.six (.var 1) (.cst (.int 39)) (.tup (.cons (.cst (.int 38)) (.cons (.cst (.int 61)) (.cons (.cst (.int 61)) .nil)))))
 (.cons (.gst 1)
 (.cons (.ret (.and (.cons (.call 20 (.cons (.var 0) (.cons (.var 1) .nil))) (.cons (.cmp .eq (.call 17 (.cons (.var 0) (.cons (.cst (.int 3)) (.cons (.cst (.int 0)) (.cons (.cst (.int 39)) .nil))))) (.tup (.cons (.cst (.str "refused")) (.cons (.cst .non) .nil)))) (.cons (.call 20 (.cons (.var 0) (.cons (.var 1) .nil))) .nil)))))
 .nil))))))))
def u_law_many_right : Fu := ⟨⟨("_law_many_right", none), "_law_many_right", "_law_many_right", defArgs (topSt 22), defBody (topSt 22), defScope (topSt 22), [], []⟩, [], ["limits", "state", "k", "above"], s_law_many_right⟩
/-- 0 script, 1 k -/
def s_law_cell : Ss := (.cons (.ifs (.cmp .lt (.var 1) (.bi false .len (.cons (.var 0) .nil)))
 (.cons (.ret (.idx (.var 0) (.var 1)))
 .nil)
 .nil)
 (.cons (.ret (.cst (.int 0)))
 .nil))
def u_law_cell : Fu := ⟨⟨("_law_cell", none), "_law_cell", "_law_cell", defArgs (topSt 10), defBody (topSt 10), defScope (topSt 10), [], []⟩, ["script", "k"], ["script", "k"], s_law_cell⟩
/-- 0 script, 1 sets, 2 states, 3 k, 4 source, 5 at, 6 made -/
def s_law : Ss := (.cons (.set 1 (.lst false (.cons (.mk 0 0 false .nil) (.cons (.mk 0 0 false .nil) .nil))))
 (.cons (.set 2 (.lst true (.cons (.lst false .nil) (.cons (.lst false .nil) .nil))))
 (.cons (.fr (.nm 3) (.rng1 (.bin .add (.bi false .min2 (.cons (.bi false .len (.cons (.var 0) .nil)) (.cons (.cst (.int 60)) .nil))) (.cst (.int 12))))
 (.cons (.set 4 (.call 1 (.cons (.call 22 (.cons (.var 0) (.cons (.var 3) .nil))) (.cons (.var 3) .nil))))
 (.cons (.set 5 (.call 2 (.cons (.var 4) (.cons (.cst (.int 2)) .nil))))
 (.cons (.set 6 (.call 18 (.cons (.var 4) (.cons (.idx (.var 1) (.var 5)) (.cons (.idx (.var 2) (.var 5)) .nil)))))
 (.cons (.ifs (.cmp .is_ (.var 6) (.cst .non))
 (.cons (.ret (.cst (.bl false)))
 .nil)
 .nil)
 (.cons (.six (.var 2) (.var 5) (.var 6))
 (.cons (.ifs (.and (.cons (.cmp .eq (.call 2 (.cons (.var 4) (.cons (.cst (.int 5)) .nil))) (.cst (.int 0))) (.cons (.not (.call 20 (.cons (.idx (.var 1) (.var 5)) (.cons (.idx (.var 2) (.var 5)) .nil)))) .nil)))
 (.cons (.ret (.cst (.bl false)))
 .nil)
 .nil)
 .nil)))))))
 (.cons (.ifs (.or (.cons (.not (.call 20 (.cons (.idx (.var 1) (.cst (.int 0))) (.cons (.idx (.var 2) (.cst (.int 0))) .nil)))) (.cons (.not (.call 20 (.cons (.idx (.var 1) (.cst (.int 1))) (.cons (.idx (.var 2) (.cst (.int 1))) .nil)))) .nil)))
 (.cons (.ret (.cst (.bl false)))
 .nil)
 .nil)
 (.cons (.ret (.or (.cons (.cmp .gt (.call 2 (.cons (.call 1 (.cons (.call 22 (.cons (.var 0) (.cons (.cst (.int 0)) .nil))) (.cons (.cst (.int 90)) .nil))) (.cons (.cst (.int 6)) .nil))) (.cst (.int 0))) (.cons (.call 21 .nil) .nil))))
 .nil)))))
def u_law : Fu := ⟨⟨("law", none), "law", "law", defArgs (topSt 23), defBody (topSt 23), defScope (topSt 23), [], []⟩, ["script"], ["script", "sets", "states", "k", "source", "at", "made"], s_law⟩
def DD : Da where
  at_ := ["above", "most", "lent", "_there", "line", "used", "room", "add", "__init__", "lend", "set_limit", "move", "beyond"]
  cn := ["Limits"]
  xn := ["Missing", "BadValue", "Refused", "BankError"]
  mtl := [(0, 8, 0), (0, 3, 9), (0, 4, 10), (0, 5, 11), (0, 6, 12), (0, 7, 13), (0, 9, 14), (0, 10, 15), (0, 11, 16), (0, 12, 19)]
  fls := [[0, 1, 2]]
  dfs := [[], [], [], [], [], [], [], [], [], [], [], [], [], [], [], [], [], [], [], [], [], [], [], []]
  xms := [[true, false, false, true], [false, true, false, true], [false, false, true, true], [false, false, false, true]]
  gl := [("GREAT", (.int 1000000000000)), ("MOST_GROUPS", (.int 40))]
  fus := [u_Limits_init, u_law_source, u_law_pick, u_law_is_group, u_law_line, u_law_used, u_law_room, u_law_call, u_law_due, u_Limits_there, u_Limits_line, u_Limits_used, u_Limits_room, u_Limits_add, u_Limits_lend, u_Limits_set_limit, u_Limits_move, u_law_try, u_law_step_right, u_Limits_beyond, u_law_looks_right, u_law_many_right, u_law_cell, u_law]
  lvs := [1, 1, 1, 1, 1, 2, 3, 4, 4, 1, 2, 3, 4, 2, 5, 2, 4, 6, 7, 4, 7, 8, 1, 9]
  gcd := false
def looseN : List Str := ["BankError", "BadValue", "Missing", "Refused", "GREAT", "MOST_GROUPS", "Limits", "_law_cell", "_law_source", "_law_pick", "_law_line", "_law_used", "_law_room", "_law_try", "_law_is_group", "_law_due", "_law_looks_right", "_law_call", "_law_step_right", "_law_many_right"]
-- law at 23; order: 0 Limits_init, 1 law_source, 2 law_pick, 3 law_is_group, 4 law_line, 5 law_used, 6 law_room, 7 law_call, 8 law_due, 9 Limits_there, 10 Limits_line, 11 Limits_used, 12 Limits_room, 13 Limits_add, 14 Limits_lend, 15 Limits_set_limit, 16 Limits_move, 17 law_try, 18 law_step_right, 19 Limits_beyond, 20 law_looks_right, 21 law_many_right, 22 law_cell, 23 law
-- levels: 9
-- at: [(0, 'above'), (1, 'most'), (2, 'lent'), (3, '_there'), (4, 'line'), (5, 'used'), (6, 'room'), (7, 'add'), (8, '__init__'), (9, 'lend'), (10, 'set_limit'), (11, 'move'), (12, 'beyond')]; exc: [(0, 'Missing'), (1, 'BadValue'), (2, 'Refused'), (3, 'BankError')]

theorem dataOk : dataB DD = true := by decide +kernel
theorem fu_0 (S : Nat → Co.Spec) : fuB DD S 0 u_Limits_init = true := by kernel_rfl
theorem fu_1 (S : Nat → Co.Spec) : fuB DD S 1 u_law_source = true := by kernel_rfl
theorem fu_2 (S : Nat → Co.Spec) : fuB DD S 2 u_law_pick = true := by kernel_rfl
theorem fu_3 (S : Nat → Co.Spec) : fuB DD S 3 u_law_is_group = true := by kernel_rfl
theorem fu_4 (S : Nat → Co.Spec) : fuB DD S 4 u_law_line = true := by kernel_rfl
theorem fu_5 (S : Nat → Co.Spec) : fuB DD S 5 u_law_used = true := by kernel_rfl
theorem fu_6 (S : Nat → Co.Spec) : fuB DD S 6 u_law_room = true := by kernel_rfl
theorem fu_7 (S : Nat → Co.Spec) : fuB DD S 7 u_law_call = true := by kernel_rfl
theorem fu_8 (S : Nat → Co.Spec) : fuB DD S 8 u_law_due = true := by kernel_rfl
theorem fu_9 (S : Nat → Co.Spec) : fuB DD S 9 u_Limits_there = true := by kernel_rfl
theorem fu_10 (S : Nat → Co.Spec) : fuB DD S 10 u_Limits_line = true := by kernel_rfl
theorem fu_11 (S : Nat → Co.Spec) : fuB DD S 11 u_Limits_used = true := by kernel_rfl
theorem fu_12 (S : Nat → Co.Spec) : fuB DD S 12 u_Limits_room = true := by kernel_rfl
theorem fu_13 (S : Nat → Co.Spec) : fuB DD S 13 u_Limits_add = true := by kernel_rfl
theorem fu_14 (S : Nat → Co.Spec) : fuB DD S 14 u_Limits_lend = true := by kernel_rfl
theorem fu_15 (S : Nat → Co.Spec) : fuB DD S 15 u_Limits_set_limit = true := by kernel_rfl
theorem fu_16 (S : Nat → Co.Spec) : fuB DD S 16 u_Limits_move = true := by kernel_rfl
theorem fu_17 (S : Nat → Co.Spec) : fuB DD S 17 u_law_try = true := by kernel_rfl
theorem fu_18 (S : Nat → Co.Spec) : fuB DD S 18 u_law_step_right = true := by kernel_rfl
theorem fu_19 (S : Nat → Co.Spec) : fuB DD S 19 u_Limits_beyond = true := by kernel_rfl
theorem fu_20 (S : Nat → Co.Spec) : fuB DD S 20 u_law_looks_right = true := by kernel_rfl
theorem fu_21 (S : Nat → Co.Spec) : fuB DD S 21 u_law_many_right = true := by kernel_rfl
theorem fu_22 (S : Nat → Co.Spec) : fuB DD S 22 u_law_cell = true := by kernel_rfl
theorem fu_23 (S : Nat → Co.Spec) : fuB DD S 23 u_law = true := by kernel_rfl
end K98
set_option Elab.async false
set_option linter.all false
set_option maxRecDepth 100000
set_option maxHeartbeats 2000000
namespace K98
open PySem PySem.Spec PyProof.Rows L2 Co
/-! # what each function does -/
def aT : Option Nat → T
  | none => .non
  | some k => .int k
def oT : Option Int → T
  | none => .non
  | some i => .int i
def gT (x : Gp) : T := .tup [aT x.1, .int x.2.1, .int x.2.2]
def sT (G : Gs) : T := .lst (G.map gT)
def nL (l : List Nat) : List T := l.map fun k : Nat => T.int (k : Int)
def nT (l : List Nat) : T := .lst (nL l)
structure Rep (μ : Mu) (a p q r : Addr) (G : Gs) : Prop where
  ins : μ a = some (.ins 0 [(0, .h p), (1, .h q), (2, .h r)])
  pa : μ p = some (.lst (G.map fun x => aT x.1))
  qa : μ q = some (.lst (G.map fun x => .int x.2.1))
  ra : μ r = some (.lst (G.map fun x => .int x.2.2))
  pq : p ≠ q
  pr : p ≠ r
  qr : q ≠ r
theorem Rep.keep {μ μ' : Mu} {a p q r : Addr} {G : Gs} {D : List Addr} (h : Rep μ a p q r G) (f : Fr μ μ' D) (ha : a ∉ D) (hp : p ∉ D) (hq : q ∉ D) (hr : r ∉ D) : Rep μ' a p q r G :=
  ⟨f.get h.ins ha, f.get h.pa hp, f.get h.qa hq, f.get h.ra hr, h.pq, h.pr, h.qr⟩
def wordT : Nat → Str
  | 0 => "missing"
  | 1 => "value"
  | _ => "refused"
def dueT : Option Nat → T
  | none => .non
  | some c => .str (wordT c)
/-- the arguments of a call -/
def Op.args : Op → Int × T × T
  | .add one two => (0, oT one, .int two)
  | .lend g two => (1, .int g, .int two)
  | .lim g two => (2, .int g, .int two)
  | .mov g two => (3, .int g, oT two)
def Op.ret (G : Gs) : Op → T
  | .add _ _ => .int G.length
  | _ => .non
abbrev Sp0 := Co.Spec
def spInit : Sp0 := fun ts μ Q X => ∃ a, ts = [.h a] ∧ μ a = some (.ins 0 []) ∧ ∀ μ' p q r, μ p = none → μ q = none → μ r = none → Rep μ' a p q r [] → Fr μ μ' [a] → Q .non μ'
def spSource : Sp0 := fun ts μ Q X => ∃ c k, ts = [.int c, .int k] ∧ ∀ b, μ b = none → ∀ x y, Q (.h b) (μ.set b (.lst [.int x, .int y]))
def spPick : Sp0 := fun ts μ Q X => ∃ b m x y, ts = [.h b, .int m] ∧ μ b = some (.lst [.int x, .int y]) ∧ 0 < m ∧ m < 1000000 ∧ ∀ n x' y', 0 ≤ n → n < m → Q (.int n) (μ.set b (.lst [.int x', .int y']))
def spIsG : Sp0 := fun ts μ Q X => ∃ G i, ts = [sT G, .int i] ∧ Q (.bl (isG G i)) μ
def spLLine : Sp0 := fun ts μ Q X => ∃ G g, ts = [sT G, .int (g : Nat)] ∧ Wf G ∧ g < G.length ∧ G.length < 1000 ∧ Q (nT (lineG G g)) μ
def spLUsed : Sp0 := fun ts μ Q X => ∃ G g, ts = [sT G, .int (g : Nat)] ∧ Wf G ∧ g < G.length ∧ G.length < 1000 ∧ Q (.int (usedG G g)) μ
def spLRoom : Sp0 := fun ts μ Q X => ∃ G g, ts = [sT G, .int (g : Nat)] ∧ Wf G ∧ g < G.length ∧ G.length < 1000 ∧ Q (.tup [.int (leastG G g), .int (firstG G g)]) μ
def spCall : Sp0 := fun ts μ Q X => ∃ b x y G, ts = [.h b, sT G] ∧ μ b = some (.lst [.int x, .int y]) ∧ Wf G ∧ G.length < 1000 ∧ ∀ (o : Op) x' y', Q (.tup [.int o.args.1, o.args.2.1, o.args.2.2]) (μ.set b (.lst [.int x', .int y']))
def spDue : Sp0 := fun ts μ Q X => ∃ G o, ts = [sT G, .int (Op.args o).1, (Op.args o).2.1, (Op.args o).2.2] ∧ Wf G ∧ G.length ≤ 40 ∧ Q (.tup [dueT (dueG G o).1, sT (dueG G o).2]) μ
def spThere : Sp0 := fun ts μ Q X => ∃ a p q r G i, ts = [.h a, .int i] ∧ Rep μ a p q r G ∧ (isG G i = true → Q .non μ) ∧ (isG G i = false → X 0 μ)
def spLine : Sp0 := fun ts μ Q X => ∃ a p q r G i, ts = [.h a, .int i] ∧ Rep μ a p q r G ∧ Wf G ∧ G.length < 1000 ∧ (isG G i = true → ∀ b, μ b = none → Q (.h b) (μ.set b (.lst (nL (lineG G i.toNat))))) ∧ (isG G i = false → X 0 μ)
def spUsed : Sp0 := fun ts μ Q X => ∃ a p q r G i, ts = [.h a, .int i] ∧ Rep μ a p q r G ∧ Wf G ∧ G.length < 1000 ∧ (isG G i = true → Q (.int (usedG G i.toNat)) μ) ∧ (isG G i = false → X 0 μ)
def spRoom : Sp0 := fun ts μ Q X => ∃ a p q r G i, ts = [.h a, .int i] ∧ Rep μ a p q r G ∧ Wf G ∧ G.length < 1000 ∧ (isG G i = true → Q (.tup [.int (leastG G i.toNat), .int (firstG G i.toNat)]) μ) ∧ (isG G i = false → X 0 μ)
/-- a method that changes: as the calls are to do -/
def spOp (f : T → T → Op → Prop) : Sp0 := fun ts μ Q X => ∃ a p q r G o one two, ts = [.h a, one, two] ∧ f one two o ∧ Rep μ a p q r G ∧ Wf G ∧ G.length ≤ 40 ∧
  (∀ c μ', (dueG G o).1 = some c → Rep μ' a p q r G → Fr μ μ' [p, q, r] → X c μ') ∧ (∀ μ', (dueG G o).1 = none → Rep μ' a p q r (dueG G o).2 → Fr μ μ' [p, q, r] → Q (o.ret G) μ')
def spAdd := spOp fun one two o => ∃ i j, o = .add i j ∧ one = oT i ∧ two = .int j
def spLend := spOp fun one two o => ∃ i j, o = .lend i j ∧ one = .int i ∧ two = .int j
def spLim := spOp fun one two o => ∃ i j, o = .lim i j ∧ one = .int i ∧ two = .int j
def spMove := spOp fun one two o => ∃ i j, o = .mov i j ∧ one = .int i ∧ two = oT j
def spBeyond : Sp0 := fun ts μ Q X => ∃ a p q r G, ts = [.h a] ∧ Rep μ a p q r G ∧ Wf G ∧ G.length < 1000 ∧ Q (nT (beyondG G)) μ
/-- what a call comes to -/
def spTry : Sp0 := fun ts μ Q X => ∃ a p q r G w one two, ts = [.h a, .int w, one, two] ∧ Rep μ a p q r G ∧ Wf G ∧ G.length ≤ 40 ∧
  ((∃ o, (Op.args o) = (w, one, two) ∧ (∀ c μ', (dueG G o).1 = some c → Rep μ' a p q r G → Fr μ μ' [p, q, r] → Q (.tup [.str (wordT c), .non]) μ') ∧
      ∀ μ', (dueG G o).1 = none → Rep μ' a p q r (dueG G o).2 → Fr μ μ' [p, q, r] → Q (.tup [.str "done", o.ret G]) μ') ∨
    (∃ i, one = .int i ∧ (w = 4 ∨ w = 5 ∨ w = 6) ∧ (isG G i = false → Q (.tup [.str "missing", .non]) μ) ∧
      (isG G i = true → w = 4 → ∀ b, μ b = none → Q (.tup [.str "done", .h b]) (μ.set b (.lst (nL (lineG G i.toNat))))) ∧
      (isG G i = true → w = 5 → Q (.tup [.str "done", .int (usedG G i.toNat)]) μ) ∧
      (isG G i = true → w = 6 → Q (.tup [.str "done", .tup [.int (leastG G i.toNat), .int (firstG G i.toNat)]]) μ)))
def spLooks : Sp0 := fun ts μ Q X => ∃ a p q r G, ts = [.h a, sT G] ∧ Rep μ a p q r G ∧ Wf G ∧ G.length ≤ 40 ∧ ∀ μ', Fr μ μ' [] → Q (.bl true) μ'
def spStep : Sp0 := fun ts μ Q X => ∃ b x y a p q r G, ts = [.h b, .h a, sT G] ∧ μ b = some (.lst [.int x, .int y]) ∧ Rep μ a p q r G ∧ Wf G ∧ G.length ≤ 40 ∧ b ≠ p ∧ b ≠ q ∧ b ≠ r ∧
  ∀ μ' G' x' y', Wf G' → G'.length ≤ 40 → Rep μ' a p q r G' → μ' b = some (.lst [.int x', .int y']) → Fr μ μ' [b, p, q, r] → Q (sT G') μ'
def spMany : Sp0 := fun ts μ Q X => ts = [] ∧ ∀ μ', Fr μ μ' [] → Q (.bl true) μ'
def spCell : Sp0 := fun ts μ Q X => ∃ ns k, ts = [.scr ns, .int k] ∧ 0 ≤ k ∧ ∀ c, Q (.int c) μ
def spLaw : Sp0 := fun ts μ Q X => ∃ ns, ts = [.scr ns] ∧ ns.length ≤ 63 ∧ (∀ a, μ a = none) ∧ ∀ μ', Q (.bl true) μ'
def SS : Nat → Sp0
  | 0 => spInit | 1 => spSource | 2 => spPick | 3 => spIsG | 4 => spLLine | 5 => spLUsed | 6 => spLRoom | 7 => spCall | 8 => spDue | 9 => spThere | 10 => spLine | 11 => spUsed | 12 => spRoom
  | 13 => spAdd | 14 => spLend | 15 => spLim | 16 => spMove | 17 => spTry | 18 => spStep | 19 => spBeyond | 20 => spLooks | 21 => spMany | 22 => spCell | _ => spLaw
abbrev PP : Pa := DD.pa SS
/-! ### the tables -/
theorem S_0 : PP.S 0 = spInit := rfl
theorem S_1 : PP.S 1 = spSource := rfl
theorem S_2 : PP.S 2 = spPick := rfl
theorem S_3 : PP.S 3 = spIsG := rfl
theorem S_4 : PP.S 4 = spLLine := rfl
theorem S_5 : PP.S 5 = spLUsed := rfl
theorem S_6 : PP.S 6 = spLRoom := rfl
theorem S_7 : PP.S 7 = spCall := rfl
theorem S_8 : PP.S 8 = spDue := rfl
theorem S_9 : PP.S 9 = spThere := rfl
theorem S_10 : PP.S 10 = spLine := rfl
theorem S_11 : PP.S 11 = spUsed := rfl
theorem S_12 : PP.S 12 = spRoom := rfl
theorem S_13 : PP.S 13 = spAdd := rfl
theorem S_14 : PP.S 14 = spLend := rfl
theorem S_15 : PP.S 15 = spLim := rfl
theorem S_16 : PP.S 16 = spMove := rfl
theorem S_17 : PP.S 17 = spTry := rfl
theorem S_18 : PP.S 18 = spStep := rfl
theorem S_19 : PP.S 19 = spBeyond := rfl
theorem S_20 : PP.S 20 = spLooks := rfl
theorem S_21 : PP.S 21 = spMany := rfl
theorem S_22 : PP.S 22 = spCell := rfl
theorem df_no (j : Nat) : PP.df j = [] := by
  show DD.dfs.getD j [] = []
  have : ∀ l ∈ DD.dfs, l = [] := by decide
  rw [List.getD_eq_getElem?_getD]
  cases e : DD.dfs[j]? with
  | none => rfl
  | some l => exact this l (List.mem_of_getElem? e)
theorem fill (j : Nat) (ts : List T) : fillD PP j ts = ts := by unfold fillD; rw [df_no]; simp
theorem ok_ (j k : Nat) : callOk PP j k = (k = PP.np j) := by
  unfold callOk; rw [df_no]
  simp only [List.length_nil, Nat.le_zero_eq, eq_iff_iff]
  omega
theorem np_ : PP.np = fun j => ([1, 2, 2, 2, 2, 2, 2, 2, 4, 2, 2, 2, 2, 3, 3, 3, 3, 4, 3, 1, 2, 0, 2, 1].getD j 0) := by
  funext j
  show DD.np j = _
  have : ∀ k, DD.np (k + 24) = 0 := fun k => rfl
  by_cases h : j < 24
  · have : ∀ j : Fin 24, DD.np j.1 = ([1, 2, 2, 2, 2, 2, 2, 2, 4, 2, 2, 2, 2, 3, 3, 3, 3, 4, 3, 1, 2, 0, 2, 1].getD j.1 0) := by decide
    exact this ⟨j, h⟩
  · obtain ⟨k, rfl⟩ : ∃ k, j = k + 24 := ⟨j - 24, by omega⟩
    rw [this k]
    simp
theorem mt_3 : PP.mt 0 3 = some 9 := rfl
theorem mt_4 : PP.mt 0 4 = some 10 := rfl
theorem mt_5 : PP.mt 0 5 = some 11 := rfl
theorem mt_6 : PP.mt 0 6 = some 12 := rfl
theorem mt_7 : PP.mt 0 7 = some 13 := rfl
theorem mt_9 : PP.mt 0 9 = some 14 := rfl
theorem mt_10 : PP.mt 0 10 = some 15 := rfl
theorem mt_11 : PP.mt 0 11 = some 16 := rfl
theorem mt_12 : PP.mt 0 12 = some 19 := rfl
theorem gl_0 : PP.gl[0]? = some (("GREAT" : Str), T.int 1000000000000) := rfl
theorem gl_1 : PP.gl[1]? = some (("MOST_GROUPS" : Str), T.int 40) := rfl
/-! ### places -/
theorem atI_nat {α : Type} {xs : List α} {k : Nat} : atI xs (k : Int) = xs[k]? := by
  unfold atI ixN
  by_cases h : k < xs.length
  · rw [if_pos (by omega), if_pos (by omega)]; simp
  · rw [if_pos (by omega), if_neg (by omega), List.getElem?_eq_none (by omega)]; rfl
theorem atI_neg {α : Type} {xs : List α} {x : α} : atI (xs ++ [x]) (-1) = some x := by
  unfold atI ixN
  rw [if_neg (by decide), if_pos (by simp <;> omega)]
  simp only [List.length_append, List.length_singleton, Option.bind_some]
  have : ((-1 : Int) + ((xs.length + 1 : Nat) : Int)).toNat = xs.length := by omega
  rw [this]; simp
theorem atI_z {α : Type} {xs : List α} {i : Int} (h : 0 ≤ i) : atI xs i = xs[i.toNat]? := by
  have := atI_nat (xs := xs) (k := i.toNat)
  rw [Int.toNat_of_nonneg h] at this
  exact this
theorem wIdx_tup {xs : List T} {i : Int} {μ : Mu} {Q : Pq} : wIdx (.tup xs) (.int i) μ Q = ∃ v, atI xs i = some v ∧ Q v μ := rfl
theorem wIdx_lst {xs : List T} {i : Int} {μ : Mu} {Q : Pq} : wIdx (.lst xs) (.int i) μ Q = ∃ v, atI xs i = some v ∧ Q v μ := rfl
theorem wIdx_h {xs : List T} {i : Int} {μ : Mu} {Q : Pq} {a : Addr} (h : μ a = some (.lst xs)) : wIdx (.h a) (.int i) μ Q = ∃ v, atI xs i = some v ∧ Q v μ := by
  simp only [wIdx, seqO, h]
theorem len_h {xs : List T} {μ : Mu} {Q : Pq} {a : Addr} {mu : Bool} (h : μ a = some (.lst xs)) : wBi mu .len [.h a] μ Q = Q (.int xs.length) μ := by
  simp only [wBi, seqO, h]
theorem len_lst {xs : List T} {μ : Mu} {Q : Pq} {mu : Bool} : wBi mu .len [.lst xs] μ Q = Q (.int xs.length) μ := rfl
theorem fld_h {c f : Nat} {fs : List (Nat × T)} {μ : Mu} {Q : Pq} {a : Addr} (h : μ a = some (.ins c fs)) : wFld (.h a) f μ Q = (match lookF f fs with | some v => Q v μ | none => False) := by
  unfold wFld
  rw [show insO μ (.h a) = some (c, fs) from by simp only [insO, h]]
  try rfl
theorem Rep.f0 {μ : Mu} {a p q r : Addr} {G : Gs} {Q : Pq} (h : Rep μ a p q r G) : wFld (.h a) 0 μ Q = Q (.h p) μ := by rw [fld_h h.ins]; rfl
theorem Rep.f1 {μ : Mu} {a p q r : Addr} {G : Gs} {Q : Pq} (h : Rep μ a p q r G) : wFld (.h a) 1 μ Q = Q (.h q) μ := by rw [fld_h h.ins]; rfl
theorem Rep.f2 {μ : Mu} {a p q r : Addr} {G : Gs} {Q : Pq} (h : Rep μ a p q r G) : wFld (.h a) 2 μ Q = Q (.h r) μ := by rw [fld_h h.ins]; rfl
theorem ab_get {G : Gs} {g : Nat} (h : g < G.length) : (G.map fun x => aT x.1)[g]? = some (aT (ab G g)) := by
  unfold ab; rw [List.getElem?_map, List.getElem?_eq_getElem h]; rfl
theorem mo_get {G : Gs} {g : Nat} (h : g < G.length) : (G.map fun x => T.int x.2.1)[g]? = some (.int (mo G g)) := by
  unfold mo; rw [List.getElem?_map, List.getElem?_eq_getElem h]; rfl
theorem le_get {G : Gs} {g : Nat} (h : g < G.length) : (G.map fun x => T.int x.2.2)[g]? = some (.int (le G g)) := by
  unfold le; rw [List.getElem?_map, List.getElem?_eq_getElem h]; rfl
theorem g_get {G : Gs} {g : Nat} (h : g < G.length) : (G.map gT)[g]? = some (.tup [aT (ab G g), .int (mo G g), .int (le G g)]) := by
  unfold ab mo le; rw [List.getElem?_map, List.getElem?_eq_getElem h]; rfl
theorem mul_ok {a b : Int} (h1 : -(2 ^ 64) < b) (h2 : b < 2 ^ 64) : IntMulOk a b := IntMulOk.of_right (intBits_le_64 h1 h2)
end K98
set_option Elab.async false
set_option linter.all false
set_option maxRecDepth 100000
set_option maxHeartbeats 2000000
namespace K98
open PySem PySem.Spec PyProof.Rows L2 Co
theorem log_ok {m : Int} (h : 0 < m) (h2 : m < 1000000) : m.natAbs.log2 < 9000 := by
  have h3 : m.natAbs.log2 < 20 := (Nat.log2_lt (by omega)).mpr (by omega)
  omega
theorem vc22 : VC PP u_law_cell spCell := by
  intro ts μ Q X hl hS
  obtain ⟨ns, k, rfl, hk, hq⟩ := hS
  show sSs PP s_law_cell (endK Q X) [some (.scr ns), some (.int k)] μ
  simp (decide := true) only [s_law_cell, sSs, sS, sE, sBs, sEs, sTs, sI, rd, tOf, tOfB, getS, setS, wipeS, endK, nw_t, nw_f, partE, allT, asgT, asgL, T.bl.injEq, exists_eq_left', exists_eq_left, Option.some.injEq, decide_eq_true_eq, Mu.set_same, Mu.set_set, w_add, w_sub, w_mul, w_fdiv, w_mod, w_pow, w_neg, w_lt, w_le, w_gt, w_ge, w_eq, w_ne, w_is, w_isnot, w_in, w_notin, w_chn, c_lt, c_le, c_gt, c_ge, n_int, n_non, n_tup, n_lst, n_str, n_h, t_bl, i_tup, i_lst, i_scr, i_set, x_set, l_set, l_lst, l_tup, l_scr, b_int, b_bl, b_abs, b_min2, b_max2, a_set, ar_set, ct_ll, sl_l, at_0, at_1, at_2, ix_0, ix_1, fill, ok_, np_, List.getD_cons_zero, List.getD_cons_succ, List.length_cons, List.length_nil, List.set_cons_zero, List.set_cons_succ, gl_0, gl_1, true_and, and_true, if_true, if_false, Bool.not_eq_true', Bool.false_eq_true, g_lst]
  split
  · rename_i h
    rw [atI_z hk]
    exact ⟨_, List.getElem?_eq_getElem (by omega), hq _⟩
  · exact hq _
theorem vc1 : VC PP u_law_source spSource := by
  intro ts μ Q X hl hS
  obtain ⟨c, k, rfl, hq⟩ := hS
  show sSs PP s_law_source (endK Q X) [some (.int c), some (.int k)] μ
  simp (decide := true) only [s_law_source, sSs, sS, sE, sBs, sEs, sTs, sI, rd, tOf, tOfB, getS, setS, wipeS, endK, nw_t, nw_f, partE, allT, asgT, asgL, T.bl.injEq, exists_eq_left', exists_eq_left, Option.some.injEq, decide_eq_true_eq, Mu.set_same, Mu.set_set, w_add, w_sub, w_mul, w_fdiv, w_mod, w_pow, w_neg, w_lt, w_le, w_gt, w_ge, w_eq, w_ne, w_is, w_isnot, w_in, w_notin, w_chn, c_lt, c_le, c_gt, c_ge, n_int, n_non, n_tup, n_lst, n_str, n_h, t_bl, i_tup, i_lst, i_scr, i_set, x_set, l_set, l_lst, l_tup, l_scr, b_int, b_bl, b_abs, b_min2, b_max2, a_set, ar_set, ct_ll, sl_l, at_0, at_1, at_2, ix_0, ix_1, fill, ok_, np_, List.getD_cons_zero, List.getD_cons_succ, List.length_cons, List.length_nil, List.set_cons_zero, List.set_cons_succ, gl_0, gl_1, true_and, and_true, if_true, if_false, Bool.not_eq_true', Bool.false_eq_true, g_lst]
  split
  · exact fun a ha => hq a ha _ _
  · exact ⟨mul_ok (by decide) (by decide), mul_ok (by decide) (by decide), fun a ha => hq a ha _ _⟩
theorem vc2 : VC PP u_law_pick spPick := by
  intro ts μ Q X hl hS
  obtain ⟨b, m, x, y, rfl, hb, hm, hm2, hq⟩ := hS
  show sSs PP s_law_pick (endK Q X) [some (.h b), some (.int m), none, none] μ
  simp (decide := true) only [s_law_pick, sSs, sS, sE, sBs, sEs, sTs, sI, rd, tOf, tOfB, getS, setS, wipeS, endK, nw_t, nw_f, partE, allT, asgT, asgL, T.bl.injEq, exists_eq_left', exists_eq_left, Option.some.injEq, decide_eq_true_eq, Mu.set_same, Mu.set_set, w_add, w_sub, w_mul, w_fdiv, w_mod, w_pow, w_neg, w_lt, w_le, w_gt, w_ge, w_eq, w_ne, w_is, w_isnot, w_in, w_notin, w_chn, c_lt, c_le, c_gt, c_ge, n_int, n_non, n_tup, n_lst, n_str, n_h, t_bl, i_tup, i_lst, i_scr, i_set, x_set, l_set, l_lst, l_tup, l_scr, b_int, b_bl, b_abs, b_min2, b_max2, a_set, ar_set, ct_ll, sl_l, at_0, at_1, at_2, ix_0, ix_1, fill, ok_, np_, List.getD_cons_zero, List.getD_cons_succ, List.length_cons, List.length_nil, List.set_cons_zero, List.set_cons_succ, gl_0, gl_1, true_and, and_true, if_true, if_false, Bool.not_eq_true', Bool.false_eq_true, g_lst, i_h hb, x_h hb]
  split
  · exact ⟨by omega, by omega, log_ok hm hm2, hq _ _ _ (Int.fmod_nonneg_of_pos _ hm) (Int.fmod_lt_of_pos _ hm)⟩
  · exact ⟨mul_ok (by decide) (by decide), mul_ok (by decide) (by decide), by omega, hq _ _ _ (Int.fmod_nonneg_of_pos _ hm) (Int.fmod_lt_of_pos _ hm)⟩
theorem vc3 : VC PP u_law_is_group spIsG := by
  intro ts μ Q X hl hS
  obtain ⟨G, i, rfl, hq⟩ := hS
  show sSs PP s_law_is_group (endK Q X) [some (sT G), some (.int i)] μ
  simp only [s_law_is_group, sT, sSs, sS, sE, sBs, sEs, sTs, sI, rd, tOf, tOfB, getS, setS, wipeS, endK, nw_t, nw_f, partE, allT, asgT, asgL, T.bl.injEq, exists_eq_left', exists_eq_left, Option.some.injEq, decide_eq_true_eq, Mu.set_same, Mu.set_set, w_add, w_sub, w_mul, w_fdiv, w_mod, w_pow, w_neg, w_lt, w_le, w_gt, w_ge, w_eq, w_ne, w_is, w_isnot, w_in, w_notin, w_chn, c_lt, c_le, c_gt, c_ge, n_int, n_non, n_tup, n_lst, n_str, n_h, t_bl, i_tup, i_lst, i_scr, i_set, x_set, l_set, l_lst, l_tup, l_scr, b_int, b_bl, b_abs, b_min2, b_max2, a_set, ar_set, ct_ll, sl_l, at_0, at_1, at_2, ix_0, ix_1, fill, ok_, np_, List.getD_cons_zero, List.getD_cons_succ, List.length_cons, List.length_nil, List.set_cons_zero, List.set_cons_succ, gl_0, gl_1, true_and, and_true, if_true, if_false, Bool.not_eq_true', Bool.false_eq_true, g_lst]
  unfold isG at hq
  split
  · rename_i h
    rw [decide_eq_true h, Bool.true_and] at hq
    simpa using hq
  · rename_i h
    rw [decide_eq_false h, Bool.false_and] at hq
    rw [decide_eq_false h]
    exact hq
theorem vc9 : VC PP u_Limits_there spThere := by
  intro ts μ Q X hl hS
  obtain ⟨a, p, q, r, G, i, rfl, hr, hq, hx⟩ := hS
  show sSs PP s_Limits_there (endK Q X) [some (.h a), some (.int i)] μ
  simp only [s_Limits_there, sSs, sS, sE, sBs, sEs, sTs, sI, rd, tOf, tOfB, getS, setS, wipeS, endK, nw_t, nw_f, partE, allT, asgT, asgL, T.bl.injEq, exists_eq_left', exists_eq_left, Option.some.injEq, decide_eq_true_eq, Mu.set_same, Mu.set_set, w_add, w_sub, w_mul, w_fdiv, w_mod, w_pow, w_neg, w_lt, w_le, w_gt, w_ge, w_eq, w_ne, w_is, w_isnot, w_in, w_notin, w_chn, c_lt, c_le, c_gt, c_ge, n_int, n_non, n_tup, n_lst, n_str, n_h, t_bl, i_tup, i_lst, i_scr, i_set, x_set, l_set, l_lst, l_tup, l_scr, b_int, b_bl, b_abs, b_min2, b_max2, a_set, ar_set, ct_ll, sl_l, at_0, at_1, at_2, ix_0, ix_1, fill, ok_, np_, List.getD_cons_zero, List.getD_cons_succ, List.length_cons, List.length_nil, List.set_cons_zero, List.set_cons_succ, gl_0, gl_1, true_and, and_true, if_true, if_false, Bool.not_eq_true', Bool.false_eq_true, g_lst, hr.f1, l_h hr.qa]
  unfold isG at hq hx
  split
  · rename_i h
    rw [decide_eq_true h, Bool.true_and] at hq hx
    rw [List.length_map]
    split
    · rename_i h2; exact hx h2
    · rename_i h2; exact hq (by simpa using h2)
  · rename_i h
    rw [decide_eq_false h, Bool.false_and] at hx
    exact hx rfl
theorem nL_app {l : List Nat} {x : Nat} : nL (l ++ [x]) = nL l ++ [.int (x : Int)] := by unfold nL; rw [List.map_append]; rfl
theorem Rep.set {μ : Mu} {a p q r b : Addr} {G : Gs} {m : M} (h : Rep μ a p q r G) (hb : μ b = none) : Rep (μ.set b m) a p q r G := h.keep (D := []) (Fr.set (.inr hb)) (by simp) (by simp) (by simp) (by simp)
theorem isG_nat {G : Gs} {g : Nat} : isG G (g : Int) = decide (g < G.length) := by
  unfold isG
  rw [decide_eq_true (by omega : (0 : Int) ≤ g), Bool.true_and]
  by_cases h : g < G.length
  · rw [decide_eq_true h, decide_eq_true (by omega)]
  · rw [decide_eq_false h, decide_eq_false (by omega)]
theorem vc10 : VC PP u_Limits_line spLine := by
  intro ts μ Q X hl hS
  obtain ⟨a, p, q, r, G, i, rfl, hr, hw, hn, hq, hx⟩ := hS
  show sSs PP s_Limits_line (endK Q X) [some (.h a), some (.int i), none] μ
  simp (decide := true) only [s_Limits_line, sSs, sS, sE, sBs, sEs, sTs, sI, rd, tOf, tOfB, getS, setS, wipeS, endK, nw_t, nw_f, partE, allT, asgT, asgL, T.bl.injEq, exists_eq_left', exists_eq_left, Option.some.injEq, decide_eq_true_eq, Mu.set_same, Mu.set_set, w_add, w_sub, w_mul, w_fdiv, w_mod, w_pow, w_neg, w_lt, w_le, w_gt, w_ge, w_eq, w_ne, w_is, w_isnot, w_in, w_notin, w_chn, c_lt, c_le, c_gt, c_ge, n_int, n_non, n_tup, n_lst, n_str, n_h, t_bl, i_tup, i_lst, i_scr, i_set, x_set, l_set, l_lst, l_tup, l_scr, b_int, b_bl, b_abs, b_min2, b_max2, a_set, ar_set, ct_ll, sl_l, at_0, at_1, at_2, ix_0, ix_1, fill, ok_, np_, List.getD_cons_zero, List.getD_cons_succ, List.length_cons, List.length_nil, List.set_cons_zero, List.set_cons_succ, gl_0, gl_1, true_and, and_true, if_true, if_false, Bool.not_eq_true', Bool.false_eq_true, g_lst, insO, hr.ins, mt_3, S_9, spThere]
  refine ⟨a, p, q, r, G, i, rfl, hr, fun hg => fun b hb => ?_, hx⟩
  obtain ⟨h1, h2, h3⟩ := isG_of hg
  have ei : (i.toNat : Int) = i := Int.toNat_of_nonneg h1
  have hq := hq hg b hb
  have ln := hw.line h3
  refine ⟨fun m σ μ' => ∃ pre x l, σ = [some (.h a), some (.int i), some (.h b)] ∧ μ' = μ.set b (.lst (nL (pre ++ [x]))) ∧ Ln G x l ∧ pre ++ l = lineG G i.toNat ∧ m = l.length ∧ x < G.length, ⟨_, [], i.toNat, _, rfl, by unfold nL; simp [ei], ln, rfl, rfl, h3⟩, ?_⟩
  rintro m σ μ' ⟨pre, x, l, rfl, rfl, k, e, rfl, hx'⟩
  have hr' := hr.set (m := .lst (nL (pre ++ [x]))) hb
  simp (decide := true) only [sSs, sS, sE, sBs, sEs, sTs, sI, rd, tOf, tOfB, getS, setS, wipeS, endK, nw_t, nw_f, partE, allT, asgT, asgL, T.bl.injEq, exists_eq_left', exists_eq_left, Option.some.injEq, decide_eq_true_eq, Mu.set_same, Mu.set_set, w_add, w_sub, w_mul, w_fdiv, w_mod, w_pow, w_neg, w_lt, w_le, w_gt, w_ge, w_eq, w_ne, w_is, w_isnot, w_in, w_notin, w_chn, c_lt, c_le, c_gt, c_ge, n_int, n_non, n_tup, n_lst, n_str, n_h, t_bl, i_tup, i_lst, i_scr, i_set, x_set, l_set, l_lst, l_tup, l_scr, b_int, b_bl, b_abs, b_min2, b_max2, a_set, ar_set, ct_ll, sl_l, at_0, at_1, at_2, ix_0, ix_1, fill, ok_, np_, List.getD_cons_zero, List.getD_cons_succ, List.length_cons, List.length_nil, List.set_cons_zero, List.set_cons_succ, gl_0, gl_1, true_and, and_true, if_true, if_false, Bool.not_eq_true', Bool.false_eq_true, g_lst, hr'.f0, i_h hr'.pa, nL_app, atI_neg, atI_nat, ab_get hx']
  rw [nL_app] at hr'
  simp (decide := true) only [sSs, sS, sE, sBs, sEs, sTs, sI, rd, tOf, tOfB, getS, setS, wipeS, endK, nw_t, nw_f, partE, allT, asgT, asgL, T.bl.injEq, exists_eq_left', exists_eq_left, Option.some.injEq, decide_eq_true_eq, Mu.set_same, Mu.set_set, w_add, w_sub, w_mul, w_fdiv, w_mod, w_pow, w_neg, w_lt, w_le, w_gt, w_ge, w_eq, w_ne, w_is, w_isnot, w_in, w_notin, w_chn, c_lt, c_le, c_gt, c_ge, n_int, n_non, n_tup, n_lst, n_str, n_h, t_bl, i_tup, i_lst, i_scr, i_set, x_set, l_set, l_lst, l_tup, l_scr, b_int, b_bl, b_abs, b_min2, b_max2, a_set, ar_set, ct_ll, sl_l, at_0, at_1, at_2, ix_0, ix_1, fill, ok_, np_, List.getD_cons_zero, List.getD_cons_succ, List.length_cons, List.length_nil, List.set_cons_zero, List.set_cons_succ, gl_0, gl_1, true_and, and_true, if_true, if_false, Bool.not_eq_true', Bool.false_eq_true, g_lst, hr'.f0, i_h hr'.pa, nL_app, atI_neg, atI_nat, ab_get hx']
  cases k with
  | one h =>
    simp only [h, aT, n_non, if_false, Bool.true_eq_false]
    rw [← nL_app, e]
    exact hq
  | @more g a' l' h k' =>
    simp only [h, aT, n_int, if_true]
    refine ⟨?_, l'.length, by simp, pre ++ [x], a', l', by simp only [nL_app], k', by rw [← e]; simp, rfl, hw.lt _ _ hx' h⟩
    have := congrArg List.length e
    have := ln.len hw h3
    simp only [List.length_append, List.length_cons, List.length_nil, nL, List.length_map] at *
    omega
theorem vc0 : VC PP u_Limits_init spInit := by
  intro ts μ Q X hl hS
  obtain ⟨a, rfl, ha, hq⟩ := hS
  show sSs PP s_Limits_init (endK Q X) [some (.h a)] μ
  simp (decide := true) only [s_Limits_init, sSs, sS, sE, sBs, sEs, sTs, sI, rd, tOf, tOfB, getS, setS, wipeS, endK, nw_t, nw_f, partE, allT, asgT, asgL, T.bl.injEq, exists_eq_left', exists_eq_left, Option.some.injEq, decide_eq_true_eq, Mu.set_same, Mu.set_set, w_add, w_sub, w_mul, w_fdiv, w_mod, w_pow, w_neg, w_lt, w_le, w_gt, w_ge, w_eq, w_ne, w_is, w_isnot, w_in, w_notin, w_chn, c_lt, c_le, c_gt, c_ge, n_int, n_non, n_tup, n_lst, n_str, n_h, t_bl, i_tup, i_lst, i_scr, i_set, x_set, l_set, l_lst, l_tup, l_scr, b_int, b_bl, b_abs, b_min2, b_max2, a_set, ar_set, ct_ll, sl_l, at_0, at_1, at_2, ix_0, ix_1, fill, ok_, np_, List.getD_cons_zero, List.getD_cons_succ, List.length_cons, List.length_nil, List.set_cons_zero, List.set_cons_succ, gl_0, gl_1, true_and, and_true, if_true, if_false, Bool.not_eq_true', Bool.false_eq_true, g_lst]
  intro p hp
  have ap : a ≠ p := fun e => by rw [e, hp] at ha; cases ha
  rw [s_h ((Mu.set_ne ap).trans ha)]
  refine ⟨by simp [putN], rfl, fun q hq' => ?_⟩
  have qa : q ≠ a := fun e => by rw [e, Mu.set_same] at hq'; cases hq'
  rw [Mu.set_ne qa] at hq'
  have qp : q ≠ p := fun e => by rw [e, Mu.set_same] at hq'; cases hq'
  rw [Mu.set_ne qp] at hq'
  rw [s_h ((Mu.set_ne (Ne.symm qa)).trans Mu.set_same)]
  refine ⟨by simp [putN], rfl, fun r hr' => ?_⟩
  have ra : r ≠ a := fun e => by rw [e, Mu.set_same] at hr'; cases hr'
  rw [Mu.set_ne ra] at hr'
  have rq : r ≠ q := fun e => by rw [e, Mu.set_same] at hr'; cases hr'
  rw [Mu.set_ne rq, Mu.set_ne ra] at hr'
  have rp : r ≠ p := fun e => by rw [e, Mu.set_same] at hr'; cases hr'
  rw [Mu.set_ne rp] at hr'
  rw [s_h ((Mu.set_ne (Ne.symm ra)).trans Mu.set_same)]
  refine ⟨by simp [putN], rfl, hq _ p q r hp hq' hr' ⟨Mu.set_same, ?_, ?_, ?_, Ne.symm qp, Ne.symm rp, Ne.symm rq⟩ ?_⟩
  · rw [Mu.set_ne (Ne.symm ap), Mu.set_ne (Ne.symm rp), Mu.set_ne (Ne.symm ap), Mu.set_ne (Ne.symm qp), Mu.set_ne (Ne.symm ap), Mu.set_same]; rfl
  · rw [Mu.set_ne qa, Mu.set_ne (Ne.symm rq), Mu.set_ne qa, Mu.set_same]; rfl
  · rw [Mu.set_ne ra, Mu.set_same]; rfl
  · intro x hx hd
    have xa : x ≠ a := fun e => hd (by rw [e]; exact List.mem_singleton.mpr rfl)
    have xp : x ≠ p := fun e => hx (by rw [e]; exact hp)
    have xq : x ≠ q := fun e => hx (by rw [e]; exact hq')
    have xr : x ≠ r := fun e => hx (by rw [e]; exact hr')
    rw [Mu.set_ne xa, Mu.set_ne xr, Mu.set_ne xa, Mu.set_ne xq, Mu.set_ne xa, Mu.set_ne xp]
theorem take_last {l : List Nat} {i x : Nat} (h : l[i]? = some x) : l.take (i + 1) = l.take i ++ [x] := by
  rw [List.take_add_one, h]; rfl
theorem vc4 : VC PP u_law_line spLLine := by
  intro ts μ Q X hl hS
  obtain ⟨G, g, rfl, hw, hg, hn, hq⟩ := hS
  show sSs PP s_law_line (endK Q X) [some (sT G), some (.int (g : Nat)), none, none, none] μ
  simp (decide := true) only [s_law_line, sT, sSs, sS, sE, sBs, sEs, sTs, sI, rd, tOf, tOfB, getS, setS, wipeS, endK, nw_t, nw_f, partE, allT, asgT, asgL, T.bl.injEq, exists_eq_left', exists_eq_left, Option.some.injEq, decide_eq_true_eq, Mu.set_same, Mu.set_set, w_add, w_sub, w_mul, w_fdiv, w_mod, w_pow, w_neg, w_lt, w_le, w_gt, w_ge, w_eq, w_ne, w_is, w_isnot, w_in, w_notin, w_chn, c_lt, c_le, c_gt, c_ge, n_int, n_non, n_tup, n_lst, n_str, n_h, t_bl, i_tup, i_lst, i_scr, i_set, x_set, l_set, l_lst, l_tup, l_scr, b_int, b_bl, b_abs, b_min2, b_max2, a_set, ar_set, ct_ll, sl_l, at_0, at_1, at_2, ix_0, ix_1, fill, ok_, np_, List.getD_cons_zero, List.getD_cons_succ, List.length_cons, List.length_nil, List.set_cons_zero, List.set_cons_succ, gl_0, gl_1, true_and, and_true, if_true, if_false, Bool.not_eq_true', Bool.false_eq_true, g_lst]
  intro a ha
  rw [List.length_map]
  refine ⟨by omega, by omega, ?_⟩
  have ln := hw.line hg
  have ll := ln.len hw hg
  refine for_ok (fun i σ μ' => i + 1 ≤ (lineG G g).length ∧ μ' = μ.set a (.lst (nL ((lineG G g).take (i + 1)))) ∧ ∃ t3 t4, σ = [some (.lst (G.map gT)), some (.int (g : Nat)), some (.h a), t3, t4]) ?_ ?_ ?_
  · refine ⟨List.length_pos_iff.mpr ln.ne, ?_, none, none, rfl⟩
    rw [take_last ln.get0]; rfl
  · rintro i x σ μ' n hx ⟨hi, rfl, t3, t4, rfl⟩ hk
    have e : (lineG G g)[i]? = some ((lineG G g)[i]'hi) := List.getElem?_eq_getElem hi
    have hlt := ln.lt hw hg _ (List.getElem_mem hi)
    have st := ln.step e
    simp (decide := true) only [sSs, sS, sE, sBs, sEs, sTs, sI, rd, tOf, tOfB, getS, setS, wipeS, endK, nw_t, nw_f, partE, allT, asgT, asgL, T.bl.injEq, exists_eq_left', exists_eq_left, Option.some.injEq, decide_eq_true_eq, Mu.set_same, Mu.set_set, w_add, w_sub, w_mul, w_fdiv, w_mod, w_pow, w_neg, w_lt, w_le, w_gt, w_ge, w_eq, w_ne, w_is, w_isnot, w_in, w_notin, w_chn, c_lt, c_le, c_gt, c_ge, n_int, n_non, n_tup, n_lst, n_str, n_h, t_bl, i_tup, i_lst, i_scr, i_set, x_set, l_set, l_lst, l_tup, l_scr, b_int, b_bl, b_abs, b_min2, b_max2, a_set, ar_set, ct_ll, sl_l, at_0, at_1, at_2, ix_0, ix_1, fill, ok_, np_, List.getD_cons_zero, List.getD_cons_succ, List.length_cons, List.length_nil, List.set_cons_zero, List.set_cons_succ, gl_0, gl_1, true_and, and_true, if_true, if_false, Bool.not_eq_true', Bool.false_eq_true, g_lst, take_last e, nL_app, atI_neg, atI_nat, g_get hlt]
    cases hab : ab G ((lineG G g)[i]'hi) with
    | none =>
      simp only [aT, n_non, if_true]
      rw [hab] at st
      have hend : (lineG G g).length = i + 1 := by
        have := List.getElem?_eq_none_iff.mp st.symm
        omega
      rw [z_set ha, ← nL_app, ← take_last e, ← hend, List.take_length]
      exact hq
    | some b =>
      simp only [aT, n_int, Bool.false_eq_true, if_false]
      rw [hab] at st
      obtain ⟨hi2, _⟩ := List.getElem?_eq_some_iff.mp st.symm
      refine ⟨?_, hk _ _ ⟨hi2, ?_, _, _, rfl⟩⟩
      · simp only [nL, List.length_append, List.length_map, List.length_take, List.length_singleton]
        omega
      · rw [take_last st.symm, nL_app, take_last e, nL_app]
  · rintro σ μ' ⟨hi, rfl, t3, t4, rfl⟩
    simp only [Co.rangeT, List.length_map, List.length_range] at hi
    omega
theorem nrange {G : Gs} : Co.rangeT 0 (G.length : Int).toNat = (List.range G.length).map fun k : Nat => T.int (k : Int) := by rw [rng_nat]; simp
theorem in_nL {i : Nat} {l : List Nat} {μ : Mu} {Q : Pq} : wIn false (.int (i : Int)) (.lst (nL l)) μ Q = Q (.bl (l.contains i)) μ := by
  have e : nL l = (l.map fun k : Nat => (k : Int)).map T.int := by unfold nL; rw [List.map_map]; rfl
  rw [e, in_ints]
  congr 2
  induction l with
  | nil => rfl
  | cons x l ih =>
    rw [List.map_cons, List.contains_cons, List.contains_cons, ih (by unfold nL; rw [List.map_map]; rfl)]
    congr 1
    by_cases h : i = x
    · rw [h]; simp
    · rw [beq_eq_false_iff_ne.mpr h, beq_eq_false_iff_ne.mpr (by omega)]
theorem vc5 : VC PP u_law_used spLUsed := by
  intro ts μ Q X hl hS
  obtain ⟨G, g, rfl, hw, hg, hn, hq⟩ := hS
  show sSs PP s_law_used (endK Q X) [some (sT G), some (.int (g : Nat)), none] μ
  simp (decide := true) only [s_law_used, sT, sSs, sS, sE, sBs, sEs, sTs, sI, rd, tOf, tOfB, getS, setS, wipeS, endK, nw_t, nw_f, partE, allT, asgT, asgL, T.bl.injEq, exists_eq_left', exists_eq_left, Option.some.injEq, decide_eq_true_eq, Mu.set_same, Mu.set_set, w_add, w_sub, w_mul, w_fdiv, w_mod, w_pow, w_neg, w_lt, w_le, w_gt, w_ge, w_eq, w_ne, w_is, w_isnot, w_in, w_notin, w_chn, c_lt, c_le, c_gt, c_ge, n_int, n_non, n_tup, n_lst, n_str, n_h, t_bl, i_tup, i_lst, i_scr, i_set, x_set, l_set, l_lst, l_tup, l_scr, b_int, b_bl, b_abs, b_min2, b_max2, a_set, ar_set, ct_ll, sl_l, at_0, at_1, at_2, ix_0, ix_1, fill, ok_, np_, List.getD_cons_zero, List.getD_cons_succ, List.length_cons, List.length_nil, List.set_cons_zero, List.set_cons_succ, gl_0, gl_1, true_and, and_true, if_true, if_false, Bool.not_eq_true', Bool.false_eq_true, g_lst, S_4]
  rw [List.length_map]
  refine ⟨by omega, by omega, ?_⟩
  rw [nrange]
  refine lc_enc (fun k => (lineG G k).contains g) (fun k => .int (le G k)) trivial (by simp; omega) (fun k hk K N h => ?_) ?_
  · have hk' := List.mem_range.mp hk
    simp (decide := true) only [sSs, sS, sE, sBs, sEs, sTs, sI, rd, tOf, tOfB, getS, setS, wipeS, endK, nw_t, nw_f, partE, allT, asgT, asgL, T.bl.injEq, exists_eq_left', exists_eq_left, Option.some.injEq, decide_eq_true_eq, Mu.set_same, Mu.set_set, w_add, w_sub, w_mul, w_fdiv, w_mod, w_pow, w_neg, w_lt, w_le, w_gt, w_ge, w_eq, w_ne, w_is, w_isnot, w_in, w_notin, w_chn, c_lt, c_le, c_gt, c_ge, n_int, n_non, n_tup, n_lst, n_str, n_h, t_bl, i_tup, i_lst, i_scr, i_set, x_set, l_set, l_lst, l_tup, l_scr, b_int, b_bl, b_abs, b_min2, b_max2, a_set, ar_set, ct_ll, sl_l, at_0, at_1, at_2, ix_0, ix_1, fill, ok_, np_, List.getD_cons_zero, List.getD_cons_succ, List.length_cons, List.length_nil, List.set_cons_zero, List.set_cons_succ, gl_0, gl_1, true_and, and_true, if_true, if_false, Bool.not_eq_true', Bool.false_eq_true, g_lst]
    refine ⟨G, k, rfl, hw, hk', hn, ?_⟩
    simp only [nT, in_nL, sSs, sS, sE, sBs, sEs, sTs, sI, rd, tOf, tOfB, getS, setS, wipeS, endK, nw_t, nw_f, partE, allT, asgT, asgL, T.bl.injEq, exists_eq_left', exists_eq_left, Option.some.injEq, decide_eq_true_eq, Mu.set_same, Mu.set_set, w_add, w_sub, w_mul, w_fdiv, w_mod, w_pow, w_neg, w_lt, w_le, w_gt, w_ge, w_eq, w_ne, w_is, w_isnot, w_in, w_notin, w_chn, c_lt, c_le, c_gt, c_ge, n_int, n_non, n_tup, n_lst, n_str, n_h, t_bl, i_tup, i_lst, i_scr, i_set, x_set, l_set, l_lst, l_tup, l_scr, b_int, b_bl, b_abs, b_min2, b_max2, a_set, ar_set, ct_ll, sl_l, at_0, at_1, at_2, ix_0, ix_1, fill, ok_, np_, List.getD_cons_zero, List.getD_cons_succ, List.length_cons, List.length_nil, List.set_cons_zero, List.set_cons_succ, gl_0, gl_1, true_and, and_true, if_true, if_false, Bool.not_eq_true', Bool.false_eq_true, g_lst]
    by_cases hc : (lineG G k).contains g = true
    · rw [hc] at h ⊢
      simp (decide := true) only [sSs, sS, sE, sBs, sEs, sTs, sI, rd, tOf, tOfB, getS, setS, wipeS, endK, nw_t, nw_f, partE, allT, asgT, asgL, T.bl.injEq, exists_eq_left', exists_eq_left, Option.some.injEq, decide_eq_true_eq, Mu.set_same, Mu.set_set, w_add, w_sub, w_mul, w_fdiv, w_mod, w_pow, w_neg, w_lt, w_le, w_gt, w_ge, w_eq, w_ne, w_is, w_isnot, w_in, w_notin, w_chn, c_lt, c_le, c_gt, c_ge, n_int, n_non, n_tup, n_lst, n_str, n_h, t_bl, i_tup, i_lst, i_scr, i_set, x_set, l_set, l_lst, l_tup, l_scr, b_int, b_bl, b_abs, b_min2, b_max2, a_set, ar_set, ct_ll, sl_l, at_0, at_1, at_2, ix_0, ix_1, fill, ok_, np_, List.getD_cons_zero, List.getD_cons_succ, List.length_cons, List.length_nil, List.set_cons_zero, List.set_cons_succ, gl_0, gl_1, true_and, and_true, if_true, if_false, Bool.not_eq_true', Bool.false_eq_true, g_lst, atI_nat, g_get hk'] at h ⊢
      exact h
    · rw [Bool.not_eq_true] at hc
      rw [hc] at h ⊢
      simp (decide := true) only [sSs, sS, sE, sBs, sEs, sTs, sI, rd, tOf, tOfB, getS, setS, wipeS, endK, nw_t, nw_f, partE, allT, asgT, asgL, T.bl.injEq, exists_eq_left', exists_eq_left, Option.some.injEq, decide_eq_true_eq, Mu.set_same, Mu.set_set, w_add, w_sub, w_mul, w_fdiv, w_mod, w_pow, w_neg, w_lt, w_le, w_gt, w_ge, w_eq, w_ne, w_is, w_isnot, w_in, w_notin, w_chn, c_lt, c_le, c_gt, c_ge, n_int, n_non, n_tup, n_lst, n_str, n_h, t_bl, i_tup, i_lst, i_scr, i_set, x_set, l_set, l_lst, l_tup, l_scr, b_int, b_bl, b_abs, b_min2, b_max2, a_set, ar_set, ct_ll, sl_l, at_0, at_1, at_2, ix_0, ix_1, fill, ok_, np_, List.getD_cons_zero, List.getD_cons_succ, List.length_cons, List.length_nil, List.set_cons_zero, List.set_cons_succ, gl_0, gl_1, true_and, and_true, if_true, if_false, Bool.not_eq_true', Bool.false_eq_true, g_lst] at h ⊢
      exact h
  · have e : ((List.range G.length).filter fun k => (lineG G k).contains g).map (fun k => T.int (le G k)) = (((List.range G.length).filter fun k => (lineG G k).contains g).map (le G)).map T.int := by rw [List.map_map]; rfl
    rw [List.nil_append, e]
    refine ⟨?_, ?_⟩
    · rw [List.length_map, List.length_map]
      have := List.length_filter_le (fun k => (lineG G k).contains g) (List.range G.length)
      rw [List.length_range] at this
      omega
    · rw [b_sum ints_map]
      exact hq
end K98
set_option Elab.async false
set_option linter.all false
set_option maxRecDepth 100000
set_option maxHeartbeats 2000000
namespace K98
open PySem PySem.Spec PyProof.Rows L2 Co
def pT (p : Int × Nat) : T := .tup [.int p.1, .int (p.2 : Int)]
theorem rooms_len {G : Gs} (w : Wf G) {g : Nat} (hg : g < G.length) : (roomsG G g).length ≤ G.length := by
  unfold roomsG; rw [List.length_map]; exact (w.line hg).len w hg
/-- the second half of room: the least, and the first with it -/
theorem rooms_end {G : Gs} {g : Nat} (hw : Wf G) (hg : g < G.length) {Q : Pq} {μ : Mu} (hq : Q (.tup [.int (leastG G g), .int (firstG G g : Nat)]) μ) : ∀ m, m ∈ (roomsG G g).map (·.1) → (∀ y, y ∈ (roomsG G g).map (·.1) → m ≤ y) → m = leastG G g := fun m h1 h2 => minL_eq h1 h2
theorem vc6 : VC PP u_law_room spLRoom := by
  intro ts μ Q X hl hS
  obtain ⟨G, g, rfl, hw, hg, hn, hq⟩ := hS
  show sSs PP s_law_room (endK Q X) [some (sT G), some (.int (g : Nat)), none, none, none, none] μ
  simp (decide := true) only [s_law_room, sT, sSs, sS, sE, sBs, sEs, sTs, sI, rd, tOf, tOfB, getS, setS, wipeS, endK, nw_t, nw_f, partE, allT, asgT, asgL, T.bl.injEq, exists_eq_left', exists_eq_left, Option.some.injEq, decide_eq_true_eq, Mu.set_same, Mu.set_set, w_add, w_sub, w_mul, w_fdiv, w_mod, w_pow, w_neg, w_lt, w_le, w_gt, w_ge, w_eq, w_ne, w_is, w_isnot, w_in, w_notin, w_chn, c_lt, c_le, c_gt, c_ge, n_int, n_non, n_tup, n_lst, n_str, n_h, t_bl, i_tup, i_lst, i_scr, i_set, x_set, l_set, l_lst, l_tup, l_scr, b_int, b_bl, b_abs, b_min2, b_max2, a_set, ar_set, ct_ll, sl_l, at_0, at_1, at_2, ix_0, ix_1, fill, ok_, np_, List.getD_cons_zero, List.getD_cons_succ, List.length_cons, List.length_nil, List.set_cons_zero, List.set_cons_succ, gl_0, gl_1, true_and, and_true, if_true, if_false, Bool.not_eq_true', Bool.false_eq_true, g_lst, S_4, S_5]
  refine ⟨G, g, rfl, hw, hg, hn, ?_⟩
  have ln := hw.line hg
  have ll := ln.len hw hg
  have rl := rooms_len hw hg
  simp (decide := true) only [nT, sSs, sS, sE, sBs, sEs, sTs, sI, rd, tOf, tOfB, getS, setS, wipeS, endK, nw_t, nw_f, partE, allT, asgT, asgL, T.bl.injEq, exists_eq_left', exists_eq_left, Option.some.injEq, decide_eq_true_eq, Mu.set_same, Mu.set_set, w_add, w_sub, w_mul, w_fdiv, w_mod, w_pow, w_neg, w_lt, w_le, w_gt, w_ge, w_eq, w_ne, w_is, w_isnot, w_in, w_notin, w_chn, c_lt, c_le, c_gt, c_ge, n_int, n_non, n_tup, n_lst, n_str, n_h, t_bl, i_tup, i_lst, i_scr, i_set, x_set, l_set, l_lst, l_tup, l_scr, b_int, b_bl, b_abs, b_min2, b_max2, a_set, ar_set, ct_ll, sl_l, at_0, at_1, at_2, ix_0, ix_1, fill, ok_, np_, List.getD_cons_zero, List.getD_cons_succ, List.length_cons, List.length_nil, List.set_cons_zero, List.set_cons_succ, gl_0, gl_1, true_and, and_true, if_true, if_false, Bool.not_eq_true', Bool.false_eq_true, g_lst]
  refine lc_enc (l := lineG G g) (enc := fun k : Nat => T.int (k : Int)) (fun _ => true) (fun k => pT (mo G k - usedG G k, k)) trivial (by simp; omega) (fun k hk K N h => ?_) ?_
  · have hk' := ln.lt hw hg k hk
    simp (decide := true) only [sSs, sS, sE, sBs, sEs, sTs, sI, rd, tOf, tOfB, getS, setS, wipeS, endK, nw_t, nw_f, partE, allT, asgT, asgL, T.bl.injEq, exists_eq_left', exists_eq_left, Option.some.injEq, decide_eq_true_eq, Mu.set_same, Mu.set_set, w_add, w_sub, w_mul, w_fdiv, w_mod, w_pow, w_neg, w_lt, w_le, w_gt, w_ge, w_eq, w_ne, w_is, w_isnot, w_in, w_notin, w_chn, c_lt, c_le, c_gt, c_ge, n_int, n_non, n_tup, n_lst, n_str, n_h, t_bl, i_tup, i_lst, i_scr, i_set, x_set, l_set, l_lst, l_tup, l_scr, b_int, b_bl, b_abs, b_min2, b_max2, a_set, ar_set, ct_ll, sl_l, at_0, at_1, at_2, ix_0, ix_1, fill, ok_, np_, List.getD_cons_zero, List.getD_cons_succ, List.length_cons, List.length_nil, List.set_cons_zero, List.set_cons_succ, gl_0, gl_1, true_and, and_true, if_true, if_false, Bool.not_eq_true', Bool.false_eq_true, g_lst, atI_nat, g_get hk']
    refine ⟨G, k, rfl, hw, hk', hn, ?_⟩
    simp (decide := true) only [sSs, sS, sE, sBs, sEs, sTs, sI, rd, tOf, tOfB, getS, setS, wipeS, endK, nw_t, nw_f, partE, allT, asgT, asgL, T.bl.injEq, exists_eq_left', exists_eq_left, Option.some.injEq, decide_eq_true_eq, Mu.set_same, Mu.set_set, w_add, w_sub, w_mul, w_fdiv, w_mod, w_pow, w_neg, w_lt, w_le, w_gt, w_ge, w_eq, w_ne, w_is, w_isnot, w_in, w_notin, w_chn, c_lt, c_le, c_gt, c_ge, n_int, n_non, n_tup, n_lst, n_str, n_h, t_bl, i_tup, i_lst, i_scr, i_set, x_set, l_set, l_lst, l_tup, l_scr, b_int, b_bl, b_abs, b_min2, b_max2, a_set, ar_set, ct_ll, sl_l, at_0, at_1, at_2, ix_0, ix_1, fill, ok_, np_, List.getD_cons_zero, List.getD_cons_succ, List.length_cons, List.length_nil, List.set_cons_zero, List.set_cons_succ, gl_0, gl_1, true_and, and_true, if_true, if_false, Bool.not_eq_true', Bool.false_eq_true, g_lst]
    exact h
  have e : ((lineG G g).filter fun _ => true).map (fun k => pT (mo G k - usedG G k, k)) = (roomsG G g).map pT := by
    rw [List.filter_eq_self.mpr (fun _ _ => rfl)]
    unfold roomsG; rw [List.map_map]; rfl
  rw [List.nil_append, e, List.length_map]
  refine ⟨by omega, ?_⟩
  refine lc_enc (l := roomsG G g) (enc := pT) (fun _ => true) (fun p => .int p.1) trivial (by simp; omega) (fun p hp K N h => ?_) ?_
  · simp (decide := true) only [pT, sSs, sS, sE, sBs, sEs, sTs, sI, rd, tOf, tOfB, getS, setS, wipeS, endK, nw_t, nw_f, partE, allT, asgT, asgL, T.bl.injEq, exists_eq_left', exists_eq_left, Option.some.injEq, decide_eq_true_eq, Mu.set_same, Mu.set_set, w_add, w_sub, w_mul, w_fdiv, w_mod, w_pow, w_neg, w_lt, w_le, w_gt, w_ge, w_eq, w_ne, w_is, w_isnot, w_in, w_notin, w_chn, c_lt, c_le, c_gt, c_ge, n_int, n_non, n_tup, n_lst, n_str, n_h, t_bl, i_tup, i_lst, i_scr, i_set, x_set, l_set, l_lst, l_tup, l_scr, b_int, b_bl, b_abs, b_min2, b_max2, a_set, ar_set, ct_ll, sl_l, at_0, at_1, at_2, ix_0, ix_1, fill, ok_, np_, List.getD_cons_zero, List.getD_cons_succ, List.length_cons, List.length_nil, List.set_cons_zero, List.set_cons_succ, gl_0, gl_1, true_and, and_true, if_true, if_false, Bool.not_eq_true', Bool.false_eq_true, g_lst]
    exact h
  have e : ((roomsG G g).filter fun _ => true).map (fun p => T.int p.1) = ((roomsG G g).map (·.1)).map T.int := by
    rw [List.filter_eq_self.mpr (fun _ _ => rfl), List.map_map]; rfl
  rw [List.nil_append, e, b_min1 ints_map, List.length_map, List.length_map]
  refine ⟨by omega, List.length_pos_iff.mpr (rooms_ne hw hg), fun m h1 h2 => ?_⟩
  have hm := rooms_end hw hg hq m h1 h2
  subst hm
  refine lc_enc (l := roomsG G g) (enc := pT) (fun p => p.1 == leastG G g) (fun p => .int (p.2 : Nat)) trivial (by simp; omega) (fun p hp K N h => ?_) ?_
  · simp (decide := true) only [pT, sSs, sS, sE, sBs, sEs, sTs, sI, rd, tOf, tOfB, getS, setS, wipeS, endK, nw_t, nw_f, partE, allT, asgT, asgL, T.bl.injEq, exists_eq_left', exists_eq_left, Option.some.injEq, decide_eq_true_eq, Mu.set_same, Mu.set_set, w_add, w_sub, w_mul, w_fdiv, w_mod, w_pow, w_neg, w_lt, w_le, w_gt, w_ge, w_eq, w_ne, w_is, w_isnot, w_in, w_notin, w_chn, c_lt, c_le, c_gt, c_ge, n_int, n_non, n_tup, n_lst, n_str, n_h, t_bl, i_tup, i_lst, i_scr, i_set, x_set, l_set, l_lst, l_tup, l_scr, b_int, b_bl, b_abs, b_min2, b_max2, a_set, ar_set, ct_ll, sl_l, at_0, at_1, at_2, ix_0, ix_1, fill, ok_, np_, List.getD_cons_zero, List.getD_cons_succ, List.length_cons, List.length_nil, List.set_cons_zero, List.set_cons_succ, gl_0, gl_1, true_and, and_true, if_true, if_false, Bool.not_eq_true', Bool.false_eq_true, g_lst, wEq_int, Bool.xor_false]
    by_cases hc : (p.1 == leastG G g) = true
    · rw [hc] at h ⊢; exact h
    · rw [Bool.not_eq_true] at hc; rw [hc] at h ⊢; exact h
  obtain ⟨r, hr⟩ := first_ex hw hg
  have e : ((roomsG G g).filter fun p => p.1 == leastG G g).map (fun p => T.int (p.2 : Nat)) = nL (firstG G g :: r) := by
    rw [← hr]; unfold nL; rw [List.map_map]; rfl
  have el := congrArg List.length hr
  have lf := List.length_filter_le (fun p => p.1 == leastG G g) (roomsG G g)
  rw [List.nil_append, e]
  refine ⟨?_, ?_⟩
  · simp only [nL, List.length_map, List.length_cons] at el ⊢
    omega
  · exact ⟨_, at_0, hq⟩
theorem Rep.io {μ : Mu} {a p q r : Addr} {G : Gs} (h : Rep μ a p q r G) : insO μ (.h a) = some (0, [(0, .h p), (1, .h q), (2, .h r)]) := by simp only [insO, h.ins]
theorem enu_le : ∀ {G : Gs} {j : Nat}, enuT j (G.map fun x => T.int x.2.2) = (List.range G.length).map fun k => T.tup [.int ((j + k : Nat) : Int), .int (le G k)]
  | [], _ => rfl
  | x :: G, j => by
    simp only [List.length_cons, List.range_succ_eq_map, List.map_cons, List.map_map, enuT, enu_le (G := G)]
    congr 1
    apply List.map_congr_left
    intro k _
    show T.tup [.int ((j + 1 + k : Nat) : Int), .int (le G k)] = T.tup [.int ((j + (k + 1) : Nat) : Int), .int (le G k)]
    rw [show j + 1 + k = j + (k + 1) from by omega]
theorem lg_h {μ : Mu} {a : Addr} {xs : List T} (h : μ a = some (.lst xs)) : lstG μ (.h a) = some (xs, fun μ' => μ' a = some (.lst xs)) := by simp only [lstG, h]
theorem vc11 : VC PP u_Limits_used spUsed := by
  intro ts μ Q X hl hS
  obtain ⟨a, p, q, r, G, i, rfl, hr, hw, hn, hq, hx⟩ := hS
  show sSs PP s_Limits_used (endK Q X) [some (.h a), some (.int i), none, none] μ
  simp (decide := true) only [s_Limits_used, sSs, sS, sE, sBs, sEs, sTs, sI, rd, tOf, tOfB, getS, setS, wipeS, endK, nw_t, nw_f, partE, allT, asgT, asgL, T.bl.injEq, exists_eq_left', exists_eq_left, Option.some.injEq, decide_eq_true_eq, Mu.set_same, Mu.set_set, w_add, w_sub, w_mul, w_fdiv, w_mod, w_pow, w_neg, w_lt, w_le, w_gt, w_ge, w_eq, w_ne, w_is, w_isnot, w_in, w_notin, w_chn, c_lt, c_le, c_gt, c_ge, n_int, n_non, n_tup, n_lst, n_str, n_h, t_bl, i_tup, i_lst, i_scr, i_set, x_set, l_set, l_lst, l_tup, l_scr, b_int, b_bl, b_abs, b_min2, b_max2, a_set, ar_set, ct_ll, sl_l, at_0, at_1, at_2, ix_0, ix_1, fill, ok_, np_, List.getD_cons_zero, List.getD_cons_succ, List.length_cons, List.length_nil, List.set_cons_zero, List.set_cons_succ, gl_0, gl_1, true_and, and_true, if_true, if_false, Bool.not_eq_true', Bool.false_eq_true, g_lst, hr.io, mt_3, S_9, spThere, hr.f2, hr.f1, hr.f0]
  refine ⟨a, p, q, r, G, i, rfl, hr, fun hg => ?_, hx⟩
  obtain ⟨h1, h2, h3⟩ := isG_of hg
  have hq := hq hg
  obtain ⟨g, rfl⟩ := Int.eq_ofNat_of_zero_le h1
  simp only [Int.toNat_natCast] at hq h3
  simp only [lg_h hr.ra, enu_le]
  refine lc_enc (fun k => (lineG G k).contains g) (fun k => .int (le G k)) hr.ra (by simp; omega) (fun k hk K N h => ?_) ?_
  · have hk' := List.mem_range.mp hk
    simp (decide := true) only [sSs, sS, sE, sBs, sEs, sTs, sI, rd, tOf, tOfB, getS, setS, wipeS, endK, nw_t, nw_f, partE, allT, asgT, asgL, T.bl.injEq, exists_eq_left', exists_eq_left, Option.some.injEq, decide_eq_true_eq, Mu.set_same, Mu.set_set, w_add, w_sub, w_mul, w_fdiv, w_mod, w_pow, w_neg, w_lt, w_le, w_gt, w_ge, w_eq, w_ne, w_is, w_isnot, w_in, w_notin, w_chn, c_lt, c_le, c_gt, c_ge, n_int, n_non, n_tup, n_lst, n_str, n_h, t_bl, i_tup, i_lst, i_scr, i_set, x_set, l_set, l_lst, l_tup, l_scr, b_int, b_bl, b_abs, b_min2, b_max2, a_set, ar_set, ct_ll, sl_l, at_0, at_1, at_2, ix_0, ix_1, fill, ok_, np_, List.getD_cons_zero, List.getD_cons_succ, List.length_cons, List.length_nil, List.set_cons_zero, List.set_cons_succ, gl_0, gl_1, true_and, and_true, if_true, if_false, Bool.not_eq_true', Bool.false_eq_true, g_lst, hr.io, mt_4, S_10, Nat.zero_add]
    refine ⟨a, p, q, r, G, k, rfl, hr, hw, hn, fun _ b hb => ?_, fun z => absurd z (by rw [isG_nat]; simp [hk'])⟩
    simp only [Int.toNat_natCast, z_set hb, in_nL]
    simp (decide := true) only [sSs, sS, sE, sBs, sEs, sTs, sI, rd, tOf, tOfB, getS, setS, wipeS, endK, nw_t, nw_f, partE, allT, asgT, asgL, T.bl.injEq, exists_eq_left', exists_eq_left, Option.some.injEq, decide_eq_true_eq, Mu.set_same, Mu.set_set, w_add, w_sub, w_mul, w_fdiv, w_mod, w_pow, w_neg, w_lt, w_le, w_gt, w_ge, w_eq, w_ne, w_is, w_isnot, w_in, w_notin, w_chn, c_lt, c_le, c_gt, c_ge, n_int, n_non, n_tup, n_lst, n_str, n_h, t_bl, i_tup, i_lst, i_scr, i_set, x_set, l_set, l_lst, l_tup, l_scr, b_int, b_bl, b_abs, b_min2, b_max2, a_set, ar_set, ct_ll, sl_l, at_0, at_1, at_2, ix_0, ix_1, fill, ok_, np_, List.getD_cons_zero, List.getD_cons_succ, List.length_cons, List.length_nil, List.set_cons_zero, List.set_cons_succ, gl_0, gl_1, true_and, and_true, if_true, if_false, Bool.not_eq_true', Bool.false_eq_true, g_lst]
    by_cases hc : (lineG G k).contains g = true
    · rw [hc] at h ⊢
      exact h
    · rw [Bool.not_eq_true] at hc
      rw [hc] at h ⊢
      exact h
  · have e : ((List.range G.length).filter fun k => (lineG G k).contains g).map (fun k => T.int (le G k)) = (((List.range G.length).filter fun k => (lineG G k).contains g).map (le G)).map T.int := by rw [List.map_map]; rfl
    rw [List.nil_append, e]
    refine ⟨?_, ?_⟩
    · rw [List.length_map, List.length_map]
      have := List.length_filter_le (fun k => (lineG G k).contains g) (List.range G.length)
      rw [List.length_range] at this
      omega
    · rw [b_sum ints_map]
      exact hq
theorem vc12 : VC PP u_Limits_room spRoom := by
  intro ts μ Q X hl hS
  obtain ⟨a, p, q, r, G, i, rfl, hr, hw, hn, hq, hx⟩ := hS
  show sSs PP s_Limits_room (endK Q X) [some (.h a), some (.int i), none, none, none, none] μ
  simp (decide := true) only [s_Limits_room, sSs, sS, sE, sBs, sEs, sTs, sI, rd, tOf, tOfB, getS, setS, wipeS, endK, nw_t, nw_f, partE, allT, asgT, asgL, T.bl.injEq, exists_eq_left', exists_eq_left, Option.some.injEq, decide_eq_true_eq, Mu.set_same, Mu.set_set, w_add, w_sub, w_mul, w_fdiv, w_mod, w_pow, w_neg, w_lt, w_le, w_gt, w_ge, w_eq, w_ne, w_is, w_isnot, w_in, w_notin, w_chn, c_lt, c_le, c_gt, c_ge, n_int, n_non, n_tup, n_lst, n_str, n_h, t_bl, i_tup, i_lst, i_scr, i_set, x_set, l_set, l_lst, l_tup, l_scr, b_int, b_bl, b_abs, b_min2, b_max2, a_set, ar_set, ct_ll, sl_l, at_0, at_1, at_2, ix_0, ix_1, fill, ok_, np_, List.getD_cons_zero, List.getD_cons_succ, List.length_cons, List.length_nil, List.set_cons_zero, List.set_cons_succ, gl_0, gl_1, true_and, and_true, if_true, if_false, Bool.not_eq_true', Bool.false_eq_true, g_lst, hr.io, mt_4, S_10]
  refine ⟨a, p, q, r, G, i, rfl, hr, hw, hn, fun hi b hb => ?_, hx⟩
  obtain ⟨h1, h2, hg⟩ := isG_of hi
  have hq := hq hi
  generalize i.toNat = g at hg hq ⊢
  have ln := hw.line hg
  have ll := ln.len hw hg
  have rl := rooms_len hw hg
  rw [z_set hb]
  simp (decide := true) only [sSs, sS, sE, sBs, sEs, sTs, sI, rd, tOf, tOfB, getS, setS, wipeS, endK, nw_t, nw_f, partE, allT, asgT, asgL, T.bl.injEq, exists_eq_left', exists_eq_left, Option.some.injEq, decide_eq_true_eq, Mu.set_same, Mu.set_set, w_add, w_sub, w_mul, w_fdiv, w_mod, w_pow, w_neg, w_lt, w_le, w_gt, w_ge, w_eq, w_ne, w_is, w_isnot, w_in, w_notin, w_chn, c_lt, c_le, c_gt, c_ge, n_int, n_non, n_tup, n_lst, n_str, n_h, t_bl, i_tup, i_lst, i_scr, i_set, x_set, l_set, l_lst, l_tup, l_scr, b_int, b_bl, b_abs, b_min2, b_max2, a_set, ar_set, ct_ll, sl_l, at_0, at_1, at_2, ix_0, ix_1, fill, ok_, np_, List.getD_cons_zero, List.getD_cons_succ, List.length_cons, List.length_nil, List.set_cons_zero, List.set_cons_succ, gl_0, gl_1, true_and, and_true, if_true, if_false, Bool.not_eq_true', Bool.false_eq_true, g_lst]
  refine lc_enc (l := lineG G g) (enc := fun k : Nat => T.int (k : Int)) (fun _ => true) (fun k => pT (mo G k - usedG G k, k)) trivial (by simp; omega) (fun k hk K N h => ?_) ?_
  · have hk' := ln.lt hw hg k hk
    simp (decide := true) only [sSs, sS, sE, sBs, sEs, sTs, sI, rd, tOf, tOfB, getS, setS, wipeS, endK, nw_t, nw_f, partE, allT, asgT, asgL, T.bl.injEq, exists_eq_left', exists_eq_left, Option.some.injEq, decide_eq_true_eq, Mu.set_same, Mu.set_set, w_add, w_sub, w_mul, w_fdiv, w_mod, w_pow, w_neg, w_lt, w_le, w_gt, w_ge, w_eq, w_ne, w_is, w_isnot, w_in, w_notin, w_chn, c_lt, c_le, c_gt, c_ge, n_int, n_non, n_tup, n_lst, n_str, n_h, t_bl, i_tup, i_lst, i_scr, i_set, x_set, l_set, l_lst, l_tup, l_scr, b_int, b_bl, b_abs, b_min2, b_max2, a_set, ar_set, ct_ll, sl_l, at_0, at_1, at_2, ix_0, ix_1, fill, ok_, np_, List.getD_cons_zero, List.getD_cons_succ, List.length_cons, List.length_nil, List.set_cons_zero, List.set_cons_succ, gl_0, gl_1, true_and, and_true, if_true, if_false, Bool.not_eq_true', Bool.false_eq_true, g_lst, hr.f1, i_h hr.qa, atI_nat, mo_get hk', hr.io, mt_5, S_11]
    refine ⟨a, p, q, r, G, k, rfl, hr, hw, hn, fun _ => ?_, fun z => absurd z (by rw [isG_nat]; simp [hk'])⟩
    simp (decide := true) only [sSs, sS, sE, sBs, sEs, sTs, sI, rd, tOf, tOfB, getS, setS, wipeS, endK, nw_t, nw_f, partE, allT, asgT, asgL, T.bl.injEq, exists_eq_left', exists_eq_left, Option.some.injEq, decide_eq_true_eq, Mu.set_same, Mu.set_set, w_add, w_sub, w_mul, w_fdiv, w_mod, w_pow, w_neg, w_lt, w_le, w_gt, w_ge, w_eq, w_ne, w_is, w_isnot, w_in, w_notin, w_chn, c_lt, c_le, c_gt, c_ge, n_int, n_non, n_tup, n_lst, n_str, n_h, t_bl, i_tup, i_lst, i_scr, i_set, x_set, l_set, l_lst, l_tup, l_scr, b_int, b_bl, b_abs, b_min2, b_max2, a_set, ar_set, ct_ll, sl_l, at_0, at_1, at_2, ix_0, ix_1, fill, ok_, np_, List.getD_cons_zero, List.getD_cons_succ, List.length_cons, List.length_nil, List.set_cons_zero, List.set_cons_succ, gl_0, gl_1, true_and, and_true, if_true, if_false, Bool.not_eq_true', Bool.false_eq_true, g_lst, Int.toNat_natCast]
    exact h
  have e : ((lineG G g).filter fun _ => true).map (fun k => pT (mo G k - usedG G k, k)) = (roomsG G g).map pT := by
    rw [List.filter_eq_self.mpr (fun _ _ => rfl)]
    unfold roomsG; rw [List.map_map]; rfl
  rw [List.nil_append, e, List.length_map]
  refine ⟨by omega, ?_⟩
  refine lc_enc (l := roomsG G g) (enc := pT) (fun _ => true) (fun p => .int p.1) trivial (by simp; omega) (fun p hp K N h => ?_) ?_
  · simp (decide := true) only [pT, sSs, sS, sE, sBs, sEs, sTs, sI, rd, tOf, tOfB, getS, setS, wipeS, endK, nw_t, nw_f, partE, allT, asgT, asgL, T.bl.injEq, exists_eq_left', exists_eq_left, Option.some.injEq, decide_eq_true_eq, Mu.set_same, Mu.set_set, w_add, w_sub, w_mul, w_fdiv, w_mod, w_pow, w_neg, w_lt, w_le, w_gt, w_ge, w_eq, w_ne, w_is, w_isnot, w_in, w_notin, w_chn, c_lt, c_le, c_gt, c_ge, n_int, n_non, n_tup, n_lst, n_str, n_h, t_bl, i_tup, i_lst, i_scr, i_set, x_set, l_set, l_lst, l_tup, l_scr, b_int, b_bl, b_abs, b_min2, b_max2, a_set, ar_set, ct_ll, sl_l, at_0, at_1, at_2, ix_0, ix_1, fill, ok_, np_, List.getD_cons_zero, List.getD_cons_succ, List.length_cons, List.length_nil, List.set_cons_zero, List.set_cons_succ, gl_0, gl_1, true_and, and_true, if_true, if_false, Bool.not_eq_true', Bool.false_eq_true, g_lst]
    exact h
  have e : ((roomsG G g).filter fun _ => true).map (fun p => T.int p.1) = ((roomsG G g).map (·.1)).map T.int := by
    rw [List.filter_eq_self.mpr (fun _ _ => rfl), List.map_map]; rfl
  rw [List.nil_append, e, b_min1 ints_map, List.length_map, List.length_map]
  refine ⟨by omega, List.length_pos_iff.mpr (rooms_ne hw hg), fun m h1 h2 => ?_⟩
  have hm := rooms_end hw hg hq m h1 h2
  subst hm
  refine lc_enc (l := roomsG G g) (enc := pT) (fun p => p.1 == leastG G g) (fun p => .int (p.2 : Nat)) trivial (by simp; omega) (fun p hp K N h => ?_) ?_
  · simp (decide := true) only [pT, sSs, sS, sE, sBs, sEs, sTs, sI, rd, tOf, tOfB, getS, setS, wipeS, endK, nw_t, nw_f, partE, allT, asgT, asgL, T.bl.injEq, exists_eq_left', exists_eq_left, Option.some.injEq, decide_eq_true_eq, Mu.set_same, Mu.set_set, w_add, w_sub, w_mul, w_fdiv, w_mod, w_pow, w_neg, w_lt, w_le, w_gt, w_ge, w_eq, w_ne, w_is, w_isnot, w_in, w_notin, w_chn, c_lt, c_le, c_gt, c_ge, n_int, n_non, n_tup, n_lst, n_str, n_h, t_bl, i_tup, i_lst, i_scr, i_set, x_set, l_set, l_lst, l_tup, l_scr, b_int, b_bl, b_abs, b_min2, b_max2, a_set, ar_set, ct_ll, sl_l, at_0, at_1, at_2, ix_0, ix_1, fill, ok_, np_, List.getD_cons_zero, List.getD_cons_succ, List.length_cons, List.length_nil, List.set_cons_zero, List.set_cons_succ, gl_0, gl_1, true_and, and_true, if_true, if_false, Bool.not_eq_true', Bool.false_eq_true, g_lst, wEq_int, Bool.xor_false]
    by_cases hc : (p.1 == leastG G g) = true
    · rw [hc] at h ⊢; exact h
    · rw [Bool.not_eq_true] at hc; rw [hc] at h ⊢; exact h
  obtain ⟨r, hr⟩ := first_ex hw hg
  have e : ((roomsG G g).filter fun p => p.1 == leastG G g).map (fun p => T.int (p.2 : Nat)) = nL (firstG G g :: r) := by
    rw [← hr]; unfold nL; rw [List.map_map]; rfl
  have el := congrArg List.length hr
  have lf := List.length_filter_le (fun p => p.1 == leastG G g) (roomsG G g)
  rw [List.nil_append, e]
  refine ⟨?_, ?_⟩
  · simp only [nL, List.length_map, List.length_cons] at el ⊢
    omega
  · exact ⟨_, at_0, hq⟩
theorem vc19 : VC PP u_Limits_beyond spBeyond := by
  intro ts μ Q X hl hS
  obtain ⟨a, p, q, r, G, rfl, hr, hw, hn, hq⟩ := hS
  show sSs PP s_Limits_beyond (endK Q X) [some (.h a), none] μ
  simp (decide := true) only [s_Limits_beyond, sSs, sS, sE, sBs, sEs, sTs, sI, rd, tOf, tOfB, getS, setS, wipeS, endK, nw_t, nw_f, partE, allT, asgT, asgL, T.bl.injEq, exists_eq_left', exists_eq_left, Option.some.injEq, decide_eq_true_eq, Mu.set_same, Mu.set_set, w_add, w_sub, w_mul, w_fdiv, w_mod, w_pow, w_neg, w_lt, w_le, w_gt, w_ge, w_eq, w_ne, w_is, w_isnot, w_in, w_notin, w_chn, c_lt, c_le, c_gt, c_ge, n_int, n_non, n_tup, n_lst, n_str, n_h, t_bl, i_tup, i_lst, i_scr, i_set, x_set, l_set, l_lst, l_tup, l_scr, b_int, b_bl, b_abs, b_min2, b_max2, a_set, ar_set, ct_ll, sl_l, at_0, at_1, at_2, ix_0, ix_1, fill, ok_, np_, List.getD_cons_zero, List.getD_cons_succ, List.length_cons, List.length_nil, List.set_cons_zero, List.set_cons_succ, gl_0, gl_1, true_and, and_true, if_true, if_false, Bool.not_eq_true', Bool.false_eq_true, g_lst, hr.f1, l_h hr.qa]
  rw [List.length_map]
  refine ⟨by omega, by omega, ?_⟩
  rw [nrange]
  refine lc_enc (fun k => decide (usedG G k > mo G k)) (fun k => .int (k : Nat)) trivial (by simp; omega) (fun k hk K N h => ?_) ?_
  · have hk' := List.mem_range.mp hk
    simp (decide := true) only [sSs, sS, sE, sBs, sEs, sTs, sI, rd, tOf, tOfB, getS, setS, wipeS, endK, nw_t, nw_f, partE, allT, asgT, asgL, T.bl.injEq, exists_eq_left', exists_eq_left, Option.some.injEq, decide_eq_true_eq, Mu.set_same, Mu.set_set, w_add, w_sub, w_mul, w_fdiv, w_mod, w_pow, w_neg, w_lt, w_le, w_gt, w_ge, w_eq, w_ne, w_is, w_isnot, w_in, w_notin, w_chn, c_lt, c_le, c_gt, c_ge, n_int, n_non, n_tup, n_lst, n_str, n_h, t_bl, i_tup, i_lst, i_scr, i_set, x_set, l_set, l_lst, l_tup, l_scr, b_int, b_bl, b_abs, b_min2, b_max2, a_set, ar_set, ct_ll, sl_l, at_0, at_1, at_2, ix_0, ix_1, fill, ok_, np_, List.getD_cons_zero, List.getD_cons_succ, List.length_cons, List.length_nil, List.set_cons_zero, List.set_cons_succ, gl_0, gl_1, true_and, and_true, if_true, if_false, Bool.not_eq_true', Bool.false_eq_true, g_lst, hr.io, mt_5, S_11]
    refine ⟨a, p, q, r, G, k, rfl, hr, hw, hn, fun _ => ?_, fun z => absurd z (by rw [isG_nat]; simp [hk'])⟩
    simp (decide := true) only [sSs, sS, sE, sBs, sEs, sTs, sI, rd, tOf, tOfB, getS, setS, wipeS, endK, nw_t, nw_f, partE, allT, asgT, asgL, T.bl.injEq, exists_eq_left', exists_eq_left, Option.some.injEq, decide_eq_true_eq, Mu.set_same, Mu.set_set, w_add, w_sub, w_mul, w_fdiv, w_mod, w_pow, w_neg, w_lt, w_le, w_gt, w_ge, w_eq, w_ne, w_is, w_isnot, w_in, w_notin, w_chn, c_lt, c_le, c_gt, c_ge, n_int, n_non, n_tup, n_lst, n_str, n_h, t_bl, i_tup, i_lst, i_scr, i_set, x_set, l_set, l_lst, l_tup, l_scr, b_int, b_bl, b_abs, b_min2, b_max2, a_set, ar_set, ct_ll, sl_l, at_0, at_1, at_2, ix_0, ix_1, fill, ok_, np_, List.getD_cons_zero, List.getD_cons_succ, List.length_cons, List.length_nil, List.set_cons_zero, List.set_cons_succ, gl_0, gl_1, true_and, and_true, if_true, if_false, Bool.not_eq_true', Bool.false_eq_true, g_lst, hr.f1, i_h hr.qa, atI_nat, mo_get hk', Int.toNat_natCast] at h ⊢
    exact h
  · rw [List.nil_append]
    refine ⟨?_, hq⟩
    have := List.length_filter_le (fun k => decide (usedG G k > mo G k)) (List.range G.length)
    rw [List.length_range] at this
    rw [List.length_map]; omega
end K98
set_option Elab.async false
set_option linter.all false
set_option maxRecDepth 100000
set_option maxHeartbeats 2000000
namespace K98
open PySem PySem.Spec PyProof.Rows L2 Co
section
variable {μ : Mu} {a p q r : Addr} {G : Gs} {Q : Pq}
theorem in0 (h : μ a = some (.ins 0 [(0, .h p), (1, .h q), (2, .h r)])) : wFld (.h a) 0 μ Q = Q (.h p) μ := by rw [f_h h]; rfl
theorem in1 (h : μ a = some (.ins 0 [(0, .h p), (1, .h q), (2, .h r)])) : wFld (.h a) 1 μ Q = Q (.h q) μ := by rw [f_h h]; rfl
theorem in2 (h : μ a = some (.ins 0 [(0, .h p), (1, .h q), (2, .h r)])) : wFld (.h a) 2 μ Q = Q (.h r) μ := by rw [f_h h]; rfl
theorem io_ (h : μ a = some (.ins 0 [(0, .h p), (1, .h q), (2, .h r)])) : insO μ (.h a) = some (0, [(0, .h p), (1, .h q), (2, .h r)]) := by simp only [insO, h]
theorem Rep.ap (h : Rep μ a p q r G) : a ≠ p := fun e => by have := h.ins; rw [e, h.pa] at this; cases this
theorem Rep.aq (h : Rep μ a p q r G) : a ≠ q := fun e => by have := h.ins; rw [e, h.qa] at this; cases this
theorem Rep.ar (h : Rep μ a p q r G) : a ≠ r := fun e => by have := h.ins; rw [e, h.ra] at this; cases this
end
theorem set_same {α : Type} {l : List α} {g : Nat} {x : α} (h : l[g]? = some x) : l.set g x = l := by
  obtain ⟨hl, he⟩ := List.getElem?_eq_some_iff.mp h
  rw [← he]; exact List.set_getElem_self hl
theorem put_ab {G : Gs} {g : Nat} {y : Gp} (hg : g < G.length) (h : y.1 = ab G g) : (putG G g y).map (fun x => aT x.1) = G.map fun x => aT x.1 := by
  unfold putG; rw [List.map_set]; exact set_same (by rw [ab_get hg, h])
theorem put_mo {G : Gs} {g : Nat} {y : Gp} (hg : g < G.length) (h : y.2.1 = mo G g) : (putG G g y).map (fun x => T.int x.2.1) = G.map fun x => T.int x.2.1 := by
  unfold putG; rw [List.map_set]; exact set_same (by rw [mo_get hg, h])
theorem put_le {G : Gs} {g : Nat} {y : Gp} (hg : g < G.length) (h : y.2.2 = le G g) : (putG G g y).map (fun x => T.int x.2.2) = G.map fun x => T.int x.2.2 := by
  unfold putG; rw [List.map_set]; exact set_same (by rw [le_get hg, h])
theorem great_eq : great = 1000000000000 := id rfl
theorem abs_eq {i : Int} : absZ i = if i < 0 then -i else i := id rfl
theorem ixn {n g : Nat} (h : g < n) : ixN n (g : Int) = some g := by
  unfold ixN; rw [if_pos (by omega), if_pos (by omega)]; simp
theorem vc15 : VC PP u_Limits_set_limit spLim := by
  intro ts μ Q X hl hS
  obtain ⟨a, p, q, r, G, o, _, _, rfl, ⟨i, j, rfl, rfl, rfl⟩, hr, hw, hn, hx, hq⟩ := hS
  show sSs PP s_Limits_set_limit (endK Q X) [some (.h a), some (.int i), some (.int j)] μ
  simp (decide := true) only [s_Limits_set_limit, sSs, sS, sE, sBs, sEs, sTs, sI, rd, tOf, tOfB, getS, setS, wipeS, endK, nw_t, nw_f, partE, allT, asgT, asgL, T.bl.injEq, exists_eq_left', exists_eq_left, Option.some.injEq, decide_eq_true_eq, Mu.set_same, Mu.set_set, w_add, w_sub, w_mul, w_fdiv, w_mod, w_pow, w_neg, w_lt, w_le, w_gt, w_ge, w_eq, w_ne, w_is, w_isnot, w_in, w_notin, w_chn, c_lt, c_le, c_gt, c_ge, n_int, n_non, n_tup, n_lst, n_str, n_h, t_bl, i_tup, i_lst, i_scr, i_set, x_set, l_set, l_lst, l_tup, l_scr, b_int, b_bl, b_abs, b_min2, b_max2, a_set, ar_set, ct_ll, sl_l, at_0, at_1, at_2, ix_0, ix_1, fill, ok_, np_, List.getD_cons_zero, List.getD_cons_succ, List.length_cons, List.length_nil, List.set_cons_zero, List.set_cons_succ, gl_0, gl_1, true_and, and_true, if_true, if_false, Bool.not_eq_true', Bool.false_eq_true, g_lst, hr.io, mt_3, S_9, hr.f1]
  refine ⟨a, p, q, r, G, i, rfl, hr, fun hg => ?_, fun hg => hx 0 μ (by simp only [dueG, hg, if_true]) hr .refl⟩
  obtain ⟨h1, h2, h3⟩ := isG_of hg
  obtain ⟨g, rfl⟩ := Int.eq_ofNat_of_zero_le h1
  simp only [dueG, hg, Bool.true_eq_false, if_false, great_eq, Int.toNat_natCast] at hx hq h3
  have bad : (j < 0 ∨ 1000000000000 < j) → X 1 μ := fun h => hx 1 μ (by rw [if_pos h]) hr .refl
  simp (decide := true) only [sSs, sS, sE, sBs, sEs, sTs, sI, rd, tOf, tOfB, getS, setS, wipeS, endK, nw_t, nw_f, partE, allT, asgT, asgL, T.bl.injEq, exists_eq_left', exists_eq_left, Option.some.injEq, decide_eq_true_eq, Mu.set_same, Mu.set_set, w_add, w_sub, w_mul, w_fdiv, w_mod, w_pow, w_neg, w_lt, w_le, w_gt, w_ge, w_eq, w_ne, w_is, w_isnot, w_in, w_notin, w_chn, c_lt, c_le, c_gt, c_ge, n_int, n_non, n_tup, n_lst, n_str, n_h, t_bl, i_tup, i_lst, i_scr, i_set, x_set, l_set, l_lst, l_tup, l_scr, b_int, b_bl, b_abs, b_min2, b_max2, a_set, ar_set, ct_ll, sl_l, at_0, at_1, at_2, ix_0, ix_1, fill, ok_, np_, List.getD_cons_zero, List.getD_cons_succ, List.length_cons, List.length_nil, List.set_cons_zero, List.set_cons_succ, gl_0, gl_1, true_and, and_true, if_true, if_false, Bool.not_eq_true', Bool.false_eq_true, g_lst, hr.f1, x_h hr.qa]
  split
  · rename_i hj
    split
    · rename_i hj2
      exact bad (.inr (by simpa using hj2))
    · rename_i hj2
      have hj2 : j ≤ 1000000000000 := by simpa using hj2
      rw [List.length_map, ixn h3]
      have hno : ¬ (j < 0 ∨ 1000000000000 < j) := by omega
      rw [if_neg hno] at hq
      refine ⟨g, rfl, hq _ rfl ⟨(Mu.set_ne hr.aq).trans hr.ins, ?_, ?_, ?_, hr.pq, hr.pr, hr.qr⟩ (Fr.set (.inl (by simp)))⟩
      · rw [Mu.set_ne hr.pq, hr.pa, put_ab h3 rfl]
      · rw [Mu.set_same]; unfold putG; rw [List.map_set]
      · rw [Mu.set_ne (Ne.symm hr.qr), hr.ra, put_le h3 rfl]
  · rename_i hj
    exact bad (.inl (by omega))
theorem vc14 : VC PP u_Limits_lend spLend := by
  intro ts μ Q X hl hS
  obtain ⟨a, p, q, r, G, o, _, _, rfl, ⟨i, j, rfl, rfl, rfl⟩, hr, hw, hn, hx, hq⟩ := hS
  show sSs PP s_Limits_lend (endK Q X) [some (.h a), some (.int i), some (.int j)] μ
  simp (decide := true) only [s_Limits_lend, sSs, sS, sE, sBs, sEs, sTs, sI, rd, tOf, tOfB, getS, setS, wipeS, endK, nw_t, nw_f, partE, allT, asgT, asgL, T.bl.injEq, exists_eq_left', exists_eq_left, Option.some.injEq, decide_eq_true_eq, Mu.set_same, Mu.set_set, w_add, w_sub, w_mul, w_fdiv, w_mod, w_pow, w_neg, w_lt, w_le, w_gt, w_ge, w_eq, w_ne, w_is, w_isnot, w_in, w_notin, w_chn, c_lt, c_le, c_gt, c_ge, n_int, n_non, n_tup, n_lst, n_str, n_h, t_bl, i_tup, i_lst, i_scr, i_set, x_set, l_set, l_lst, l_tup, l_scr, b_int, b_bl, b_abs, b_min2, b_max2, a_set, ar_set, ct_ll, sl_l, at_0, at_1, at_2, ix_0, ix_1, fill, ok_, np_, List.getD_cons_zero, List.getD_cons_succ, List.length_cons, List.length_nil, List.set_cons_zero, List.set_cons_succ, gl_0, gl_1, true_and, and_true, if_true, if_false, Bool.not_eq_true', Bool.false_eq_true, g_lst, hr.io, mt_3, mt_6, S_9, S_12, hr.f1]
  refine ⟨a, p, q, r, G, i, rfl, hr, fun hg => ?_, fun hg => hx 0 μ (by simp only [dueG, hg, if_true]) hr .refl⟩
  obtain ⟨h1, h2, h3⟩ := isG_of hg
  have hg' := hg
  obtain ⟨g, rfl⟩ := Int.eq_ofNat_of_zero_le h1
  simp only [dueG, hg, Bool.true_eq_false, if_false, great_eq, Int.toNat_natCast] at hx hq h3
  simp (decide := true) only [sSs, sS, sE, sBs, sEs, sTs, sI, rd, tOf, tOfB, getS, setS, wipeS, endK, nw_t, nw_f, partE, allT, asgT, asgL, T.bl.injEq, exists_eq_left', exists_eq_left, Option.some.injEq, decide_eq_true_eq, Mu.set_same, Mu.set_set, w_add, w_sub, w_mul, w_fdiv, w_mod, w_pow, w_neg, w_lt, w_le, w_gt, w_ge, w_eq, w_ne, w_is, w_isnot, w_in, w_notin, w_chn, c_lt, c_le, c_gt, c_ge, n_int, n_non, n_tup, n_lst, n_str, n_h, t_bl, i_tup, i_lst, i_scr, i_set, x_set, l_set, l_lst, l_tup, l_scr, b_int, b_bl, b_abs, b_min2, b_max2, a_set, ar_set, ct_ll, sl_l, at_0, at_1, at_2, ix_0, ix_1, fill, ok_, np_, List.getD_cons_zero, List.getD_cons_succ, List.length_cons, List.length_nil, List.set_cons_zero, List.set_cons_succ, gl_0, gl_1, true_and, and_true, if_true, if_false, Bool.not_eq_true', Bool.false_eq_true, g_lst, wEq_int, Bool.xor_false, beq_iff_eq, hr.f2, x_h hr.ra, hr.io, mt_6, S_12]
  by_cases hj : j = 0
  · rw [if_neg (by simp [hj]), if_pos hj]
    exact hx 1 μ (by rw [if_pos (.inl hj)]) hr .refl
  rw [if_pos (by simp [hj])]
  by_cases h : 1000000000000 < (if j < 0 then -j else j)
  · rw [if_pos h]
    exact hx 1 μ (by rw [if_pos (.inr (by rw [abs_eq]; exact h))]) hr .refl
  rw [if_neg h]
  have hno : ¬ (j = 0 ∨ 1000000000000 < absZ j) := by
    rintro (z | z)
    · exact hj z
    · rw [abs_eq] at z; exact h z
  simp only [if_neg hno] at hx hq
  refine ⟨a, p, q, r, G, g, rfl, hr, hw, by omega, fun _ => ?_, fun z => absurd z (by rw [hg]; decide)⟩
  simp (decide := true) only [sSs, sS, sE, sBs, sEs, sTs, sI, rd, tOf, tOfB, getS, setS, wipeS, endK, nw_t, nw_f, partE, allT, asgT, asgL, T.bl.injEq, exists_eq_left', exists_eq_left, Option.some.injEq, decide_eq_true_eq, Mu.set_same, Mu.set_set, w_add, w_sub, w_mul, w_fdiv, w_mod, w_pow, w_neg, w_lt, w_le, w_gt, w_ge, w_eq, w_ne, w_is, w_isnot, w_in, w_notin, w_chn, c_lt, c_le, c_gt, c_ge, n_int, n_non, n_tup, n_lst, n_str, n_h, t_bl, i_tup, i_lst, i_scr, i_set, x_set, l_set, l_lst, l_tup, l_scr, b_int, b_bl, b_abs, b_min2, b_max2, a_set, ar_set, ct_ll, sl_l, at_0, at_1, at_2, ix_0, ix_1, fill, ok_, np_, List.getD_cons_zero, List.getD_cons_succ, List.length_cons, List.length_nil, List.set_cons_zero, List.set_cons_succ, gl_0, gl_1, true_and, and_true, if_true, if_false, Bool.not_eq_true', Bool.false_eq_true, g_lst, Int.toNat_natCast, hr.f2, i_h hr.ra, atI_nat, le_get h3, x_h hr.ra, List.length_map, ixn h3]
  have bad : (0 < j ∧ leastG G g < j ∨ le G g + j < 0) → X 2 μ := fun z => hx 2 μ (by rw [if_pos z]) hr .refl
  have good : ¬ (0 < j ∧ leastG G g < j ∨ le G g + j < 0) → Q T.non (μ.set r (M.lst ((List.map (fun x => T.int x.snd.snd) G).set g (T.int (le G g + j))))) := fun z => by
    rw [if_neg z] at hq
    refine hq _ rfl ⟨(Mu.set_ne hr.ar).trans hr.ins, ?_, ?_, ?_, hr.pq, hr.pr, hr.qr⟩ (Fr.set (.inl (by simp)))
    · rw [Mu.set_ne hr.pr, hr.pa, put_ab h3 rfl]
    · rw [Mu.set_ne hr.qr, hr.qa, put_mo h3 rfl]
    · rw [Mu.set_same]; unfold putG; rw [List.map_set]
  have hM : ∀ M : Int, (if 0 > leastG G g then 0 else leastG G g) = M → (M < j ↔ (0 < j ∧ leastG G g < j)) := fun M e => by
    split at e <;> omega
  generalize (if 0 > leastG G g then 0 else leastG G g) = M at hM ⊢
  have hM := hM M rfl
  by_cases h5 : M < j
  · simp only [decide_eq_true h5, h5, if_true, Bool.true_eq_false, if_false]
    exact bad (.inl (hM.mp h5))
  · simp only [decide_eq_false h5, h5, if_true, if_false]
    by_cases h6 : le G g + j < 0
    · simp only [h6, if_true]
      exact bad (.inr h6)
    · simp only [h6, if_true, if_false]
      exact good fun z => z.elim (fun z => h5 (hM.mpr z)) h6
theorem vc13 : VC PP u_Limits_add spAdd := by
  intro ts μ Q X hl hS
  obtain ⟨a, p, q, r, G, o, _, _, rfl, ⟨i, j, rfl, rfl, rfl⟩, hr, hw, hn, hx, hq⟩ := hS
  show sSs PP s_Limits_add (endK Q X) [some (.h a), some (oT i), some (.int j)] μ
  cases i with
  | none =>
    simp (decide := true) only [s_Limits_add, oT, sSs, sS, sE, sBs, sEs, sTs, sI, rd, tOf, tOfB, getS, setS, wipeS, endK, nw_t, nw_f, partE, allT, asgT, asgL, T.bl.injEq, exists_eq_left', exists_eq_left, Option.some.injEq, decide_eq_true_eq, Mu.set_same, Mu.set_set, w_add, w_sub, w_mul, w_fdiv, w_mod, w_pow, w_neg, w_lt, w_le, w_gt, w_ge, w_eq, w_ne, w_is, w_isnot, w_in, w_notin, w_chn, c_lt, c_le, c_gt, c_ge, n_int, n_non, n_tup, n_lst, n_str, n_h, t_bl, i_tup, i_lst, i_scr, i_set, x_set, l_set, l_lst, l_tup, l_scr, b_int, b_bl, b_abs, b_min2, b_max2, a_set, ar_set, ct_ll, sl_l, at_0, at_1, at_2, ix_0, ix_1, fill, ok_, np_, List.getD_cons_zero, List.getD_cons_succ, List.length_cons, List.length_nil, List.set_cons_zero, List.set_cons_succ, gl_0, gl_1, true_and, and_true, if_true, if_false, Bool.not_eq_true', Bool.false_eq_true, g_lst, hr.f1, l_h hr.qa]
    simp only [dueG, okO, Bool.true_eq_false, if_false, great_eq, Option.map_none] at hx hq
    have bad : (j < 0 ∨ 1000000000000 < j) → X 1 μ := fun h => hx 1 μ (by rw [if_pos h]) hr .refl

    split
    · rename_i hj
      split
      · rename_i hj2
        exact bad (.inr (by simpa using hj2))
      · rename_i hj2
        have hj2 : j ≤ 1000000000000 := by simpa using hj2
        have hno : ¬ (j < 0 ∨ 1000000000000 < j) := by omega
        simp only [if_neg hno] at hx hq
        simp (decide := true) only [sSs, sS, sE, sBs, sEs, sTs, sI, rd, tOf, tOfB, getS, setS, wipeS, endK, nw_t, nw_f, partE, allT, asgT, asgL, T.bl.injEq, exists_eq_left', exists_eq_left, Option.some.injEq, decide_eq_true_eq, Mu.set_same, Mu.set_set, w_add, w_sub, w_mul, w_fdiv, w_mod, w_pow, w_neg, w_lt, w_le, w_gt, w_ge, w_eq, w_ne, w_is, w_isnot, w_in, w_notin, w_chn, c_lt, c_le, c_gt, c_ge, n_int, n_non, n_tup, n_lst, n_str, n_h, t_bl, i_tup, i_lst, i_scr, i_set, x_set, l_set, l_lst, l_tup, l_scr, b_int, b_bl, b_abs, b_min2, b_max2, a_set, ar_set, ct_ll, sl_l, at_0, at_1, at_2, ix_0, ix_1, fill, ok_, np_, List.getD_cons_zero, List.getD_cons_succ, List.length_cons, List.length_nil, List.set_cons_zero, List.set_cons_succ, gl_0, gl_1, true_and, and_true, if_true, if_false, Bool.not_eq_true', Bool.false_eq_true, g_lst, hr.f1, l_h hr.qa, wEq_int, Bool.xor_false, List.length_map, beq_iff_eq]
        split
        · rename_i h40
          exact hx 2 μ (by rw [if_pos (by omega)]) hr .refl
        · rename_i h40
          rw [if_neg (by omega)] at hq
          simp only [in0 hr.ins, ar_h (.inl rfl) hr.pa, a_h hr.pa, true_and, List.length_map]
          refine ⟨by omega, ?_⟩
          generalize hP : (M.lst (List.map (fun x => aT x.fst) G ++ [T.non])) = P
          have i1 : (μ.set p P) a = _ := (Mu.set_ne hr.ap).trans hr.ins
          have q1 : (μ.set p P) q = _ := (Mu.set_ne (Ne.symm hr.pq)).trans hr.qa
          simp only [in1 i1, ar_h (.inl rfl) q1, a_h q1, true_and, List.length_map]
          refine ⟨by omega, ?_⟩
          generalize hQ : (M.lst (List.map (fun x => T.int x.snd.fst) G ++ [T.int j])) = Q1
          have i2 : ((μ.set p P).set q Q1) a = _ := (Mu.set_ne hr.aq).trans i1
          have r2 : ((μ.set p P).set q Q1) r = _ := (Mu.set_ne (Ne.symm hr.qr)).trans ((Mu.set_ne (Ne.symm hr.pr)).trans hr.ra)
          simp only [in2 i2, ar_h (.inl rfl) r2, a_h r2, true_and, List.length_map]
          refine ⟨by omega, ?_⟩
          generalize hR : (M.lst (List.map (fun x => T.int x.snd.snd) G ++ [T.int 0])) = R1
          have i3 : (((μ.set p P).set q Q1).set r R1) a = _ := (Mu.set_ne hr.ar).trans i2
          have q3 : (((μ.set p P).set q Q1).set r R1) q = some Q1 := (Mu.set_ne hr.qr).trans Mu.set_same
          have p3 : (((μ.set p P).set q Q1).set r R1) p = some P := (Mu.set_ne hr.pr).trans ((Mu.set_ne hr.pq).trans Mu.set_same)
          have q3' : (((μ.set p P).set q Q1).set r R1) q = some (M.lst (List.map (fun x => T.int x.snd.fst) G ++ [T.int j])) := by rw [q3, hQ]
          simp only [in1 i3, l_h q3', w_sub, List.length_append, List.length_map, List.length_singleton]
          have e1 : (((G.length + 1 : Nat) : Int) - 1) = G.length := by omega
          rw [e1]
          refine hq _ rfl ⟨i3, ?_, ?_, ?_, hr.pq, hr.pr, hr.qr⟩ ?_
          · rw [p3, ← hP, List.map_append]; rfl
          · rw [q3, ← hQ, List.map_append]; rfl
          · rw [Mu.set_same, ← hR, List.map_append]; rfl
          · exact ((Fr.set (.inl (by simp))).trans (Fr.set (.inl (by simp)))).trans (Fr.set (.inl (by simp)))
    · rename_i hj
      exact bad (.inl (by omega))
  | some i =>
    simp (decide := true) only [s_Limits_add, oT, sSs, sS, sE, sBs, sEs, sTs, sI, rd, tOf, tOfB, getS, setS, wipeS, endK, nw_t, nw_f, partE, allT, asgT, asgL, T.bl.injEq, exists_eq_left', exists_eq_left, Option.some.injEq, decide_eq_true_eq, Mu.set_same, Mu.set_set, w_add, w_sub, w_mul, w_fdiv, w_mod, w_pow, w_neg, w_lt, w_le, w_gt, w_ge, w_eq, w_ne, w_is, w_isnot, w_in, w_notin, w_chn, c_lt, c_le, c_gt, c_ge, n_int, n_non, n_tup, n_lst, n_str, n_h, t_bl, i_tup, i_lst, i_scr, i_set, x_set, l_set, l_lst, l_tup, l_scr, b_int, b_bl, b_abs, b_min2, b_max2, a_set, ar_set, ct_ll, sl_l, at_0, at_1, at_2, ix_0, ix_1, fill, ok_, np_, List.getD_cons_zero, List.getD_cons_succ, List.length_cons, List.length_nil, List.set_cons_zero, List.set_cons_succ, gl_0, gl_1, true_and, and_true, if_true, if_false, Bool.not_eq_true', Bool.false_eq_true, g_lst, hr.io, mt_3, S_9, hr.f1, l_h hr.qa]
    refine ⟨a, p, q, r, G, i, rfl, hr, fun hg => ?_, fun hg => hx 0 μ (by simp only [dueG, okO, hg, if_true]) hr .refl⟩
    obtain ⟨h1, h2, h3⟩ := isG_of hg
    obtain ⟨g, rfl⟩ := Int.eq_ofNat_of_zero_le h1
    simp only [dueG, okO, hg, Bool.true_eq_false, if_false, great_eq, Option.map_some, Int.toNat_natCast] at hx hq
    have bad : (j < 0 ∨ 1000000000000 < j) → X 1 μ := fun h => hx 1 μ (by rw [if_pos h]) hr .refl

    split
    · rename_i hj
      split
      · rename_i hj2
        exact bad (.inr (by simpa using hj2))
      · rename_i hj2
        have hj2 : j ≤ 1000000000000 := by simpa using hj2
        have hno : ¬ (j < 0 ∨ 1000000000000 < j) := by omega
        simp only [if_neg hno] at hx hq
        simp (decide := true) only [sSs, sS, sE, sBs, sEs, sTs, sI, rd, tOf, tOfB, getS, setS, wipeS, endK, nw_t, nw_f, partE, allT, asgT, asgL, T.bl.injEq, exists_eq_left', exists_eq_left, Option.some.injEq, decide_eq_true_eq, Mu.set_same, Mu.set_set, w_add, w_sub, w_mul, w_fdiv, w_mod, w_pow, w_neg, w_lt, w_le, w_gt, w_ge, w_eq, w_ne, w_is, w_isnot, w_in, w_notin, w_chn, c_lt, c_le, c_gt, c_ge, n_int, n_non, n_tup, n_lst, n_str, n_h, t_bl, i_tup, i_lst, i_scr, i_set, x_set, l_set, l_lst, l_tup, l_scr, b_int, b_bl, b_abs, b_min2, b_max2, a_set, ar_set, ct_ll, sl_l, at_0, at_1, at_2, ix_0, ix_1, fill, ok_, np_, List.getD_cons_zero, List.getD_cons_succ, List.length_cons, List.length_nil, List.set_cons_zero, List.set_cons_succ, gl_0, gl_1, true_and, and_true, if_true, if_false, Bool.not_eq_true', Bool.false_eq_true, g_lst, hr.f1, l_h hr.qa, wEq_int, Bool.xor_false, List.length_map, beq_iff_eq]
        split
        · rename_i h40
          exact hx 2 μ (by rw [if_pos (by omega)]) hr .refl
        · rename_i h40
          rw [if_neg (by omega)] at hq
          simp only [in0 hr.ins, ar_h (.inl rfl) hr.pa, a_h hr.pa, true_and, List.length_map]
          refine ⟨by omega, ?_⟩
          generalize hP : (M.lst (List.map (fun x => aT x.fst) G ++ [T.int (g : Int)])) = P
          have i1 : (μ.set p P) a = _ := (Mu.set_ne hr.ap).trans hr.ins
          have q1 : (μ.set p P) q = _ := (Mu.set_ne (Ne.symm hr.pq)).trans hr.qa
          simp only [in1 i1, ar_h (.inl rfl) q1, a_h q1, true_and, List.length_map]
          refine ⟨by omega, ?_⟩
          generalize hQ : (M.lst (List.map (fun x => T.int x.snd.fst) G ++ [T.int j])) = Q1
          have i2 : ((μ.set p P).set q Q1) a = _ := (Mu.set_ne hr.aq).trans i1
          have r2 : ((μ.set p P).set q Q1) r = _ := (Mu.set_ne (Ne.symm hr.qr)).trans ((Mu.set_ne (Ne.symm hr.pr)).trans hr.ra)
          simp only [in2 i2, ar_h (.inl rfl) r2, a_h r2, true_and, List.length_map]
          refine ⟨by omega, ?_⟩
          generalize hR : (M.lst (List.map (fun x => T.int x.snd.snd) G ++ [T.int 0])) = R1
          have i3 : (((μ.set p P).set q Q1).set r R1) a = _ := (Mu.set_ne hr.ar).trans i2
          have q3 : (((μ.set p P).set q Q1).set r R1) q = some Q1 := (Mu.set_ne hr.qr).trans Mu.set_same
          have p3 : (((μ.set p P).set q Q1).set r R1) p = some P := (Mu.set_ne hr.pr).trans ((Mu.set_ne hr.pq).trans Mu.set_same)
          have q3' : (((μ.set p P).set q Q1).set r R1) q = some (M.lst (List.map (fun x => T.int x.snd.fst) G ++ [T.int j])) := by rw [q3, hQ]
          simp only [in1 i3, l_h q3', w_sub, List.length_append, List.length_map, List.length_singleton]
          have e1 : (((G.length + 1 : Nat) : Int) - 1) = G.length := by omega
          rw [e1]
          refine hq _ rfl ⟨i3, ?_, ?_, ?_, hr.pq, hr.pr, hr.qr⟩ ?_
          · rw [p3, ← hP, List.map_append]; rfl
          · rw [q3, ← hQ, List.map_append]; rfl
          · rw [Mu.set_same, ← hR, List.map_append]; rfl
          · exact ((Fr.set (.inl (by simp))).trans (Fr.set (.inl (by simp)))).trans (Fr.set (.inl (by simp)))
    · rename_i hj
      exact bad (.inl (by omega))
theorem vc16 : VC PP u_Limits_move spMove := by
  intro ts μ Q X hl hS
  obtain ⟨a, p, q, r, G, o, _, _, rfl, ⟨i, j, rfl, rfl, rfl⟩, hr, hw, hn, hx, hq⟩ := hS
  show sSs PP s_Limits_move (endK Q X) [some (.h a), some (.int i), some (oT j), none, none] μ
  cases j with
  | none =>
    simp (decide := true) only [s_Limits_move, oT, sSs, sS, sE, sBs, sEs, sTs, sI, rd, tOf, tOfB, getS, setS, wipeS, endK, nw_t, nw_f, partE, allT, asgT, asgL, T.bl.injEq, exists_eq_left', exists_eq_left, Option.some.injEq, decide_eq_true_eq, Mu.set_same, Mu.set_set, w_add, w_sub, w_mul, w_fdiv, w_mod, w_pow, w_neg, w_lt, w_le, w_gt, w_ge, w_eq, w_ne, w_is, w_isnot, w_in, w_notin, w_chn, c_lt, c_le, c_gt, c_ge, n_int, n_non, n_tup, n_lst, n_str, n_h, t_bl, i_tup, i_lst, i_scr, i_set, x_set, l_set, l_lst, l_tup, l_scr, b_int, b_bl, b_abs, b_min2, b_max2, a_set, ar_set, ct_ll, sl_l, at_0, at_1, at_2, ix_0, ix_1, fill, ok_, np_, List.getD_cons_zero, List.getD_cons_succ, List.length_cons, List.length_nil, List.set_cons_zero, List.set_cons_succ, gl_0, gl_1, true_and, and_true, if_true, if_false, Bool.not_eq_true', Bool.false_eq_true, g_lst, hr.io, mt_3, S_9]
    refine ⟨a, p, q, r, G, i, rfl, hr, fun hg => ?_, fun hg => hx 0 μ (by simp only [dueG, hg, if_true]) hr .refl⟩
    obtain ⟨h1, h2, h3⟩ := isG_of hg
    obtain ⟨g, rfl⟩ := Int.eq_ofNat_of_zero_le h1
    simp only [dueG, okO, hg, Bool.true_eq_false, if_false, Int.toNat_natCast] at hx hq h3
    simp (decide := true) only [sSs, sS, sE, sBs, sEs, sTs, sI, rd, tOf, tOfB, getS, setS, wipeS, endK, nw_t, nw_f, partE, allT, asgT, asgL, T.bl.injEq, exists_eq_left', exists_eq_left, Option.some.injEq, decide_eq_true_eq, Mu.set_same, Mu.set_set, w_add, w_sub, w_mul, w_fdiv, w_mod, w_pow, w_neg, w_lt, w_le, w_gt, w_ge, w_eq, w_ne, w_is, w_isnot, w_in, w_notin, w_chn, c_lt, c_le, c_gt, c_ge, n_int, n_non, n_tup, n_lst, n_str, n_h, t_bl, i_tup, i_lst, i_scr, i_set, x_set, l_set, l_lst, l_tup, l_scr, b_int, b_bl, b_abs, b_min2, b_max2, a_set, ar_set, ct_ll, sl_l, at_0, at_1, at_2, ix_0, ix_1, fill, ok_, np_, List.getD_cons_zero, List.getD_cons_succ, List.length_cons, List.length_nil, List.set_cons_zero, List.set_cons_succ, gl_0, gl_1, true_and, and_true, if_true, if_false, Bool.not_eq_true', Bool.false_eq_true, g_lst, in0 hr.ins, i_h hr.pa, atI_nat, ab_get h3, x_h hr.pa, List.length_map, ixn h3]
    refine hq _ trivial ⟨(Mu.set_ne hr.ap).trans hr.ins, ?_, ?_, ?_, hr.pq, hr.pr, hr.qr⟩ (Fr.set (.inl (by simp)))
    · rw [Mu.set_same]; unfold putG; rw [List.map_set]; rfl
    · rw [Mu.set_ne (Ne.symm hr.pq), hr.qa, put_mo h3 rfl]
    · rw [Mu.set_ne (Ne.symm hr.pr), hr.ra, put_le h3 rfl]
  | some j =>
    simp (decide := true) only [s_Limits_move, oT, sSs, sS, sE, sBs, sEs, sTs, sI, rd, tOf, tOfB, getS, setS, wipeS, endK, nw_t, nw_f, partE, allT, asgT, asgL, T.bl.injEq, exists_eq_left', exists_eq_left, Option.some.injEq, decide_eq_true_eq, Mu.set_same, Mu.set_set, w_add, w_sub, w_mul, w_fdiv, w_mod, w_pow, w_neg, w_lt, w_le, w_gt, w_ge, w_eq, w_ne, w_is, w_isnot, w_in, w_notin, w_chn, c_lt, c_le, c_gt, c_ge, n_int, n_non, n_tup, n_lst, n_str, n_h, t_bl, i_tup, i_lst, i_scr, i_set, x_set, l_set, l_lst, l_tup, l_scr, b_int, b_bl, b_abs, b_min2, b_max2, a_set, ar_set, ct_ll, sl_l, at_0, at_1, at_2, ix_0, ix_1, fill, ok_, np_, List.getD_cons_zero, List.getD_cons_succ, List.length_cons, List.length_nil, List.set_cons_zero, List.set_cons_succ, gl_0, gl_1, true_and, and_true, if_true, if_false, Bool.not_eq_true', Bool.false_eq_true, g_lst, hr.io, mt_3, mt_4, S_9, S_10]
    refine ⟨a, p, q, r, G, i, rfl, hr, fun hg => ?_, fun hg => hx 0 μ (by simp only [dueG, hg, if_true]) hr .refl⟩
    simp (decide := true) only [sSs, sS, sE, sBs, sEs, sTs, sI, rd, tOf, tOfB, getS, setS, wipeS, endK, nw_t, nw_f, partE, allT, asgT, asgL, T.bl.injEq, exists_eq_left', exists_eq_left, Option.some.injEq, decide_eq_true_eq, Mu.set_same, Mu.set_set, w_add, w_sub, w_mul, w_fdiv, w_mod, w_pow, w_neg, w_lt, w_le, w_gt, w_ge, w_eq, w_ne, w_is, w_isnot, w_in, w_notin, w_chn, c_lt, c_le, c_gt, c_ge, n_int, n_non, n_tup, n_lst, n_str, n_h, t_bl, i_tup, i_lst, i_scr, i_set, x_set, l_set, l_lst, l_tup, l_scr, b_int, b_bl, b_abs, b_min2, b_max2, a_set, ar_set, ct_ll, sl_l, at_0, at_1, at_2, ix_0, ix_1, fill, ok_, np_, List.getD_cons_zero, List.getD_cons_succ, List.length_cons, List.length_nil, List.set_cons_zero, List.set_cons_succ, gl_0, gl_1, true_and, and_true, if_true, if_false, Bool.not_eq_true', Bool.false_eq_true, g_lst, hr.io, mt_4, S_10]
    refine ⟨a, p, q, r, G, j, rfl, hr, hw, by omega, fun hg2 b hb => ?_, fun hg2 => hx 0 μ (by simp only [dueG, hg, okO, hg2, Bool.true_eq_false, if_true, if_false]) hr .refl⟩
    obtain ⟨h1, h2, h3⟩ := isG_of hg
    obtain ⟨g, rfl⟩ := Int.eq_ofNat_of_zero_le h1
    obtain ⟨k1, k2, k3⟩ := isG_of hg2
    obtain ⟨k, rfl⟩ := Int.eq_ofNat_of_zero_le k1
    simp only [dueG, okO, hg, hg2, Bool.true_eq_false, if_false, Int.toNat_natCast] at hx hq h3 k3
    simp (decide := true) only [sSs, sS, sE, sBs, sEs, sTs, sI, rd, tOf, tOfB, getS, setS, wipeS, endK, nw_t, nw_f, partE, allT, asgT, asgL, T.bl.injEq, exists_eq_left', exists_eq_left, Option.some.injEq, decide_eq_true_eq, Mu.set_same, Mu.set_set, w_add, w_sub, w_mul, w_fdiv, w_mod, w_pow, w_neg, w_lt, w_le, w_gt, w_ge, w_eq, w_ne, w_is, w_isnot, w_in, w_notin, w_chn, c_lt, c_le, c_gt, c_ge, n_int, n_non, n_tup, n_lst, n_str, n_h, t_bl, i_tup, i_lst, i_scr, i_set, x_set, l_set, l_lst, l_tup, l_scr, b_int, b_bl, b_abs, b_min2, b_max2, a_set, ar_set, ct_ll, sl_l, at_0, at_1, at_2, ix_0, ix_1, fill, ok_, np_, List.getD_cons_zero, List.getD_cons_succ, List.length_cons, List.length_nil, List.set_cons_zero, List.set_cons_succ, gl_0, gl_1, true_and, and_true, if_true, if_false, Bool.not_eq_true', Bool.false_eq_true, g_lst, z_set hb, in_nL, Int.toNat_natCast, in0 hr.ins, i_h hr.pa, atI_nat, ab_get h3, x_h hr.pa, List.length_map, ixn h3]
    split
    · rename_i hc
      exact hx 2 μ (by rw [if_pos hc]) hr .refl
    · rename_i hc
      simp only [if_neg hc] at hx hq
      generalize hG : putG G g (some k, mo G g, le G g) = G1 at hx hq
      generalize hP : (M.lst ((List.map (fun x => aT x.fst) G).set g (T.int ↑k))) = P
      have w1 : Wf G1 := by rw [← hG]; exact wf_move hw h3 k3 (fun z => hc (List.contains_iff_mem.mpr z)) rfl
      have l1 : G1.length = G.length := by rw [← hG]; exact len_put
      have hr1 : Rep (μ.set p P) a p q r G1 := by
        refine ⟨(Mu.set_ne hr.ap).trans hr.ins, ?_, ?_, ?_, hr.pq, hr.pr, hr.qr⟩
        · rw [Mu.set_same, ← hP, ← hG]; unfold putG; rw [List.map_set]; rfl
        · rw [Mu.set_ne (Ne.symm hr.pq), hr.qa, ← hG, put_mo h3 rfl]
        · rw [Mu.set_ne (Ne.symm hr.pr), hr.ra, ← hG, put_le h3 rfl]
      simp (decide := true) only [sSs, sS, sE, sBs, sEs, sTs, sI, rd, tOf, tOfB, getS, setS, wipeS, endK, nw_t, nw_f, partE, allT, asgT, asgL, T.bl.injEq, exists_eq_left', exists_eq_left, Option.some.injEq, decide_eq_true_eq, Mu.set_same, Mu.set_set, w_add, w_sub, w_mul, w_fdiv, w_mod, w_pow, w_neg, w_lt, w_le, w_gt, w_ge, w_eq, w_ne, w_is, w_isnot, w_in, w_notin, w_chn, c_lt, c_le, c_gt, c_ge, n_int, n_non, n_tup, n_lst, n_str, n_h, t_bl, i_tup, i_lst, i_scr, i_set, x_set, l_set, l_lst, l_tup, l_scr, b_int, b_bl, b_abs, b_min2, b_max2, a_set, ar_set, ct_ll, sl_l, at_0, at_1, at_2, ix_0, ix_1, fill, ok_, np_, List.getD_cons_zero, List.getD_cons_succ, List.length_cons, List.length_nil, List.set_cons_zero, List.set_cons_succ, gl_0, gl_1, true_and, and_true, if_true, if_false, Bool.not_eq_true', Bool.false_eq_true, g_lst, hr1.io, mt_4, mt_5, S_10, S_11]
      refine ⟨a, p, q, r, G1, k, rfl, hr1, w1, by omega, fun _ b1 hb1 => ?_, fun z => absurd z (by rw [isG_nat, l1]; simp [k3])⟩
      simp (decide := true) only [sSs, sS, sE, sBs, sEs, sTs, sI, rd, tOf, tOfB, getS, setS, wipeS, endK, nw_t, nw_f, partE, allT, asgT, asgL, T.bl.injEq, exists_eq_left', exists_eq_left, Option.some.injEq, decide_eq_true_eq, Mu.set_same, Mu.set_set, w_add, w_sub, w_mul, w_fdiv, w_mod, w_pow, w_neg, w_lt, w_le, w_gt, w_ge, w_eq, w_ne, w_is, w_isnot, w_in, w_notin, w_chn, c_lt, c_le, c_gt, c_ge, n_int, n_non, n_tup, n_lst, n_str, n_h, t_bl, i_tup, i_lst, i_scr, i_set, x_set, l_set, l_lst, l_tup, l_scr, b_int, b_bl, b_abs, b_min2, b_max2, a_set, ar_set, ct_ll, sl_l, at_0, at_1, at_2, ix_0, ix_1, fill, ok_, np_, List.getD_cons_zero, List.getD_cons_succ, List.length_cons, List.length_nil, List.set_cons_zero, List.set_cons_succ, gl_0, gl_1, true_and, and_true, if_true, if_false, Bool.not_eq_true', Bool.false_eq_true, g_lst, z_set hb1, Int.toNat_natCast]
      have k4 : k < G1.length := by omega
      have ln := w1.line k4
      have ll := ln.len w1 k4
      refine lc_enc (l := lineG G1 k) (enc := fun k : Nat => T.int (k : Int)) (fun _ => true) (fun at_ => .bl (decide (usedG G1 at_ > mo G1 at_))) trivial (by simp; omega) (fun z hz K N h => ?_) ?_
      · have hz' := ln.lt w1 k4 z hz
        simp (decide := true) only [sSs, sS, sE, sBs, sEs, sTs, sI, rd, tOf, tOfB, getS, setS, wipeS, endK, nw_t, nw_f, partE, allT, asgT, asgL, T.bl.injEq, exists_eq_left', exists_eq_left, Option.some.injEq, decide_eq_true_eq, Mu.set_same, Mu.set_set, w_add, w_sub, w_mul, w_fdiv, w_mod, w_pow, w_neg, w_lt, w_le, w_gt, w_ge, w_eq, w_ne, w_is, w_isnot, w_in, w_notin, w_chn, c_lt, c_le, c_gt, c_ge, n_int, n_non, n_tup, n_lst, n_str, n_h, t_bl, i_tup, i_lst, i_scr, i_set, x_set, l_set, l_lst, l_tup, l_scr, b_int, b_bl, b_abs, b_min2, b_max2, a_set, ar_set, ct_ll, sl_l, at_0, at_1, at_2, ix_0, ix_1, fill, ok_, np_, List.getD_cons_zero, List.getD_cons_succ, List.length_cons, List.length_nil, List.set_cons_zero, List.set_cons_succ, gl_0, gl_1, true_and, and_true, if_true, if_false, Bool.not_eq_true', Bool.false_eq_true, g_lst, hr1.io, mt_5, S_11]
        refine ⟨a, p, q, r, G1, z, rfl, hr1, w1, by omega, fun _ => ?_, fun y => absurd y (by rw [isG_nat]; simp [hz'])⟩
        simp (decide := true) only [sSs, sS, sE, sBs, sEs, sTs, sI, rd, tOf, tOfB, getS, setS, wipeS, endK, nw_t, nw_f, partE, allT, asgT, asgL, T.bl.injEq, exists_eq_left', exists_eq_left, Option.some.injEq, decide_eq_true_eq, Mu.set_same, Mu.set_set, w_add, w_sub, w_mul, w_fdiv, w_mod, w_pow, w_neg, w_lt, w_le, w_gt, w_ge, w_eq, w_ne, w_is, w_isnot, w_in, w_notin, w_chn, c_lt, c_le, c_gt, c_ge, n_int, n_non, n_tup, n_lst, n_str, n_h, t_bl, i_tup, i_lst, i_scr, i_set, x_set, l_set, l_lst, l_tup, l_scr, b_int, b_bl, b_abs, b_min2, b_max2, a_set, ar_set, ct_ll, sl_l, at_0, at_1, at_2, ix_0, ix_1, fill, ok_, np_, List.getD_cons_zero, List.getD_cons_succ, List.length_cons, List.length_nil, List.set_cons_zero, List.set_cons_succ, gl_0, gl_1, true_and, and_true, if_true, if_false, Bool.not_eq_true', Bool.false_eq_true, g_lst, hr1.f1, i_h hr1.qa, atI_nat, mo_get hz', Int.toNat_natCast]
        exact h
      have e : ((lineG G1 k).filter fun _ => true).map (fun at_ => T.bl (decide (usedG G1 at_ > mo G1 at_))) = ((lineG G1 k).map fun at_ => decide (usedG G1 at_ > mo G1 at_)).map T.bl := by
        rw [List.filter_eq_self.mpr (fun _ _ => rfl), List.map_map]; rfl
      rw [List.nil_append, e, b_any bls_map, List.length_map, List.length_map]
      refine ⟨by omega, overG G1 k, ?_, ?_⟩
      · rw [t_bl, List.any_map]; rfl
      · by_cases ho : overG G1 k = true
        · rw [if_pos ho]
          have p1 : (μ.set p P) p = some (M.lst ((List.map (fun x => aT x.fst) G).set g (T.int ↑k))) := by rw [Mu.set_same, hP]
          simp only [hr1.f0, x_h p1, List.length_set, List.length_map, ixn h3, Option.some.injEq, exists_eq_left']
          have e2 : ((List.map (fun x => aT x.fst) G).set g (T.int ↑k)).set g (aT (ab G g)) = List.map (fun x => aT x.fst) G := by
            rw [List.set_set]; exact set_same (ab_get h3)
          refine hx 2 _ (by rw [if_pos ho]) ⟨?_, ?_, ?_, ?_, hr.pq, hr.pr, hr.qr⟩ ((Fr.set (.inl (by simp))).trans (Fr.set (.inl (by simp))))
          · exact (Mu.set_ne hr.ap).trans hr1.ins
          · rw [Mu.set_same, e2]
          · rw [Mu.set_ne (Ne.symm hr.pq), Mu.set_ne (Ne.symm hr.pq)]; exact hr.qa
          · rw [Mu.set_ne (Ne.symm hr.pr), Mu.set_ne (Ne.symm hr.pr)]; exact hr.ra
        · rw [if_neg ho]
          simp only [if_neg ho] at hq
          exact hq _ trivial hr1 (Fr.set (.inl (by simp)))
end K98
set_option Elab.async false
set_option linter.all false
set_option maxRecDepth 100000
set_option maxHeartbeats 4000000
namespace K98
open PySem PySem.Spec PyProof.Rows L2 Co
theorem cut_to {α : Type} : True := trivial
theorem cut_lo {xs : List T} {g : Nat} (h : g < xs.length) : cutT xs none (some (g : Int)) = xs.take g := by
  unfold cutT HT.sIx
  simp only [List.drop_zero]
  rw [if_neg (by omega)]
  congr 1
  simp
  omega
theorem cut_hi {xs : List T} {g : Nat} (h : g < xs.length) : cutT xs (some ((g : Int) + 1)) none = xs.drop (g + 1) := by
  have e : HT.sIx xs.length 0 (some ((g : Int) + 1)) = g + 1 := by
    show (if ((g : Int) + 1) < 0 then (((g : Int) + 1) + (xs.length : Int)).toNat else min ((g : Int) + 1).toNat xs.length) = g + 1
    rw [if_neg (by omega)]
    omega
  have e2 : HT.sIx xs.length xs.length none = xs.length := rfl
  unfold cutT
  rw [e, e2]
  exact List.take_of_length_le (by rw [List.length_drop]; omega)
theorem cut_put {G : Gs} {g : Nat} {y : Gp} (h : g < G.length) : cutT (G.map gT) none (some (g : Int)) ++ [gT y] ++ cutT (G.map gT) (some ((g : Int) + 1)) none = (putG G g y).map gT := by
  rw [cut_lo (by simpa using h), cut_hi (by simpa using h)]
  unfold putG
  rw [List.map_set, List.set_eq_take_append_cons_drop, if_pos (by simpa using h)]
  simp
theorem cut_len {G : Gs} {g : Nat} {y : Gp} (h : g < G.length) : (cutT (G.map gT) none (some (g : Int)) ++ [gT y]).length ≤ G.length ∧ (cutT (G.map gT) none (some (g : Int))).length ≤ G.length ∧ (cutT (G.map gT) (some ((g : Int) + 1)) none).length ≤ G.length := by
  rw [cut_lo (by simpa using h), cut_hi (by simpa using h)]
  simp only [List.length_append, List.length_take, List.length_drop, List.length_map, List.length_singleton]
  omega
theorem pt_int {e : Nat} {i : Int} : partE (.var e) (.int i) = some (some i) := id rfl
theorem pt_bin {a b : E} {o : Op2} {i : Int} : partE (.bin o a b) (.int i) = some (some i) := id rfl
theorem pt_nop : partE .nop .non = some none := id rfl
theorem made_len {G : Gs} {g : Nat} {y : Gp} (h : g < G.length) (hn : G.length ≤ 40) : (cutT (G.map gT) none (some (g : Int))).length ≤ 16777216 ∧ (cutT (G.map gT) none (some (g : Int)) ++ [gT y]).length ≤ 16777216 ∧ (cutT (G.map gT) (some ((g : Int) + 1)) none).length ≤ 16777216 ∧
    (cutT (G.map gT) none (some (g : Int)) ++ [gT y] ++ cutT (G.map gT) (some ((g : Int) + 1)) none).length ≤ 16777216 := by
  obtain ⟨h1, h2, h3⟩ := cut_len (y := y) h
  refine ⟨by omega, by omega, by omega, ?_⟩
  rw [cut_put h, List.length_map, len_put]; omega
theorem made_ok {G : Gs} {g : Nat} {y : Gp} {Q : Pq} {μ : Mu} (h : g < G.length) (hn : G.length ≤ 40) (hq : Q (T.tup [.non, .lst ((putG G g y).map gT)]) μ) : (cutT (G.map gT) none (some (g : Int))).length ≤ 16777216 ∧ (cutT (G.map gT) none (some (g : Int)) ++ [gT y]).length ≤ 16777216 ∧ (cutT (G.map gT) (some ((g : Int) + 1)) none).length ≤ 16777216 ∧
    (cutT (G.map gT) none (some (g : Int)) ++ [gT y] ++ cutT (G.map gT) (some ((g : Int) + 1)) none).length ≤ 16777216 ∧ Q (T.tup [.non, .lst (cutT (G.map gT) none (some (g : Int)) ++ [gT y] ++ cutT (G.map gT) (some ((g : Int) + 1)) none)]) μ := by
  obtain ⟨h1, h2, h3, h4⟩ := made_len (y := y) h hn
  exact ⟨h1, h2, h3, h4, by rw [cut_put h]; exact hq⟩
theorem vc8 : VC PP u_law_due spDue := by
  intro ts μ Q X hl hS
  obtain ⟨G, o, rfl, hw, hn, hq⟩ := hS
  clear hl
  show sSs PP s_law_due (endK Q X) [some (sT G), some (.int (Op.args o).1), some (Op.args o).2.1, some (Op.args o).2.2, none, none, none, none, none, none] μ
  have gr : (10 : Int) ^ Int.toNat 12 = 1000000000000 := by decide
  cases o with
  | add i j =>
    have tail : okO G i = true → ∀ v, v = oT i → (if decide (j < 0) = false then
        if 1000000000000 < j then Q (T.tup [T.str (Str.ofString "value"), T.lst (List.map gT G)]) μ
        else
          if (((List.map gT G).length : Int) == 40) = true then Q (T.tup [T.str (Str.ofString "refused"), T.lst (List.map gT G)]) μ
          else (List.map gT G ++ [T.tup [v, T.int j, T.int 0]]).length ≤ 16777216 ∧ Q (T.tup [T.non, T.lst (List.map gT G ++ [T.tup [v, T.int j, T.int 0]])]) μ
      else
        if j < 0 then Q (T.tup [T.str (Str.ofString "value"), T.lst (List.map gT G)]) μ
        else
          if (((List.map gT G).length : Int) == 40) = true then Q (T.tup [T.str (Str.ofString "refused"), T.lst (List.map gT G)]) μ
          else (List.map gT G ++ [T.tup [v, T.int j, T.int 0]]).length ≤ 16777216 ∧ Q (T.tup [T.non, T.lst (List.map gT G ++ [T.tup [v, T.int j, T.int 0]])]) μ) := by
      intro ho v hv
      simp only [dueG, ho, Bool.true_eq_false, if_false, great_eq] at hq
      by_cases h1 : j < 0
      · rw [if_pos (.inl h1)] at hq
        rw [if_neg (by simp [h1]), if_pos h1]
        exact hq
      · rw [if_pos (by simp [h1])]
        by_cases h2 : 1000000000000 < j
        · rw [if_pos (.inr h2)] at hq
          rw [if_pos h2]; exact hq
        · rw [if_neg h2]
          have h3 : ¬ (j < 0 ∨ 1000000000000 < j) := by omega
          rw [if_neg h3] at hq
          rw [List.length_map]
          by_cases h4 : G.length = 40
          · rw [if_pos h4] at hq
            rw [if_pos (by rw [h4]; rfl)]; exact hq
          · rw [if_neg h4] at hq
            rw [if_neg (by simp only [beq_iff_eq]; omega)]
            refine ⟨by simp only [List.length_append, List.length_map, List.length_singleton]; omega, ?_⟩
            have e : List.map gT G ++ [T.tup [v, T.int j, T.int 0]] = (G ++ [(i.map Int.toNat, j, 0)]).map gT := by
              rw [List.map_append, hv]
              cases i with
              | none => rfl
              | some i =>
                have := isG_of (show isG G i = true from ho)
                show _ ++ [T.tup [T.int i, _, _]] = _ ++ [T.tup [T.int (i.toNat : Int), _, _]]
                rw [Int.toNat_of_nonneg this.1]
            rw [e]; exact hq
    cases i with
    | none =>
      simp (decide := true) only [s_law_due, Op.args, sT, oT, sSs, sS, sE, sBs, sEs, sTs, sI, rd, tOf, tOfB, getS, setS, wipeS, endK, nw_t, nw_f, partE, allT, asgT, asgL, T.bl.injEq, exists_eq_left', exists_eq_left, Option.some.injEq, decide_eq_true_eq, Mu.set_same, Mu.set_set, w_add, w_sub, w_mul, w_fdiv, w_mod, w_pow, w_neg, w_lt, w_le, w_gt, w_ge, w_eq, w_ne, w_is, w_isnot, w_in, w_notin, w_chn, c_lt, c_le, c_gt, c_ge, n_int, n_non, n_tup, n_lst, n_str, n_h, t_bl, i_tup, i_lst, i_scr, i_set, x_set, l_set, l_lst, l_tup, l_scr, b_int, b_bl, b_abs, b_min2, b_max2, a_set, ar_set, ct_ll, sl_l, at_0, at_1, at_2, ix_0, ix_1, fill, ok_, np_, List.getD_cons_zero, List.getD_cons_succ, List.length_cons, List.length_nil, List.set_cons_zero, List.set_cons_succ, gl_0, gl_1, true_and, and_true, if_true, if_false, Bool.not_eq_true', Bool.false_eq_true, g_lst, wEq_int, Bool.xor_false, S_3, gr]
      exact tail rfl _ rfl
    | some i =>
      simp (decide := true) only [s_law_due, Op.args, sT, oT, sSs, sS, sE, sBs, sEs, sTs, sI, rd, tOf, tOfB, getS, setS, wipeS, endK, nw_t, nw_f, partE, allT, asgT, asgL, T.bl.injEq, exists_eq_left', exists_eq_left, Option.some.injEq, decide_eq_true_eq, Mu.set_same, Mu.set_set, w_add, w_sub, w_mul, w_fdiv, w_mod, w_pow, w_neg, w_lt, w_le, w_gt, w_ge, w_eq, w_ne, w_is, w_isnot, w_in, w_notin, w_chn, c_lt, c_le, c_gt, c_ge, n_int, n_non, n_tup, n_lst, n_str, n_h, t_bl, i_tup, i_lst, i_scr, i_set, x_set, l_set, l_lst, l_tup, l_scr, b_int, b_bl, b_abs, b_min2, b_max2, a_set, ar_set, ct_ll, sl_l, at_0, at_1, at_2, ix_0, ix_1, fill, ok_, np_, List.getD_cons_zero, List.getD_cons_succ, List.length_cons, List.length_nil, List.set_cons_zero, List.set_cons_succ, gl_0, gl_1, true_and, and_true, if_true, if_false, Bool.not_eq_true', Bool.false_eq_true, g_lst, wEq_int, Bool.xor_false, S_3, gr]
      refine ⟨G, i, rfl, ?_⟩
      cases ho : isG G i with
      | false =>
        simp (decide := true) only [t_bl, sSs, sS, sE, sBs, sEs, sTs, sI, rd, tOf, tOfB, getS, setS, wipeS, endK, nw_t, nw_f, partE, allT, asgT, asgL, T.bl.injEq, exists_eq_left', exists_eq_left, Option.some.injEq, decide_eq_true_eq, Mu.set_same, Mu.set_set, w_add, w_sub, w_mul, w_fdiv, w_mod, w_pow, w_neg, w_lt, w_le, w_gt, w_ge, w_eq, w_ne, w_is, w_isnot, w_in, w_notin, w_chn, c_lt, c_le, c_gt, c_ge, n_int, n_non, n_tup, n_lst, n_str, n_h, t_bl, i_tup, i_lst, i_scr, i_set, x_set, l_set, l_lst, l_tup, l_scr, b_int, b_bl, b_abs, b_min2, b_max2, a_set, ar_set, ct_ll, sl_l, at_0, at_1, at_2, ix_0, ix_1, fill, ok_, np_, List.getD_cons_zero, List.getD_cons_succ, List.length_cons, List.length_nil, List.set_cons_zero, List.set_cons_succ, gl_0, gl_1, true_and, and_true, if_true, if_false, Bool.not_eq_true', Bool.false_eq_true, g_lst]
        simp only [dueG, okO, ho, if_true] at hq
        exact hq
      | true =>
        simp (decide := true) only [t_bl, sSs, sS, sE, sBs, sEs, sTs, sI, rd, tOf, tOfB, getS, setS, wipeS, endK, nw_t, nw_f, partE, allT, asgT, asgL, T.bl.injEq, exists_eq_left', exists_eq_left, Option.some.injEq, decide_eq_true_eq, Mu.set_same, Mu.set_set, w_add, w_sub, w_mul, w_fdiv, w_mod, w_pow, w_neg, w_lt, w_le, w_gt, w_ge, w_eq, w_ne, w_is, w_isnot, w_in, w_notin, w_chn, c_lt, c_le, c_gt, c_ge, n_int, n_non, n_tup, n_lst, n_str, n_h, t_bl, i_tup, i_lst, i_scr, i_set, x_set, l_set, l_lst, l_tup, l_scr, b_int, b_bl, b_abs, b_min2, b_max2, a_set, ar_set, ct_ll, sl_l, at_0, at_1, at_2, ix_0, ix_1, fill, ok_, np_, List.getD_cons_zero, List.getD_cons_succ, List.length_cons, List.length_nil, List.set_cons_zero, List.set_cons_succ, gl_0, gl_1, true_and, and_true, if_true, if_false, Bool.not_eq_true', Bool.false_eq_true, g_lst]
        exact tail ho _ rfl
  | lim i j =>
    simp (decide := true) only [s_law_due, Op.args, sT, oT, sSs, sS, sE, sBs, sEs, sTs, sI, rd, tOf, tOfB, getS, setS, wipeS, endK, nw_t, nw_f, partE, allT, asgT, asgL, T.bl.injEq, exists_eq_left', exists_eq_left, Option.some.injEq, decide_eq_true_eq, Mu.set_same, Mu.set_set, w_add, w_sub, w_mul, w_fdiv, w_mod, w_pow, w_neg, w_lt, w_le, w_gt, w_ge, w_eq, w_ne, w_is, w_isnot, w_in, w_notin, w_chn, c_lt, c_le, c_gt, c_ge, n_int, n_non, n_tup, n_lst, n_str, n_h, t_bl, i_tup, i_lst, i_scr, i_set, x_set, l_set, l_lst, l_tup, l_scr, b_int, b_bl, b_abs, b_min2, b_max2, a_set, ar_set, ct_ll, sl_l, at_0, at_1, at_2, ix_0, ix_1, fill, ok_, np_, List.getD_cons_zero, List.getD_cons_succ, List.length_cons, List.length_nil, List.set_cons_zero, List.set_cons_succ, gl_0, gl_1, true_and, and_true, if_true, if_false, Bool.not_eq_true', Bool.false_eq_true, g_lst, wEq_int, Bool.xor_false, S_3, gr]
    refine ⟨G, i, rfl, ?_⟩
    cases hg : isG G i with
    | false =>
      simp (decide := true) only [t_bl, sSs, sS, sE, sBs, sEs, sTs, sI, rd, tOf, tOfB, getS, setS, wipeS, endK, nw_t, nw_f, partE, allT, asgT, asgL, T.bl.injEq, exists_eq_left', exists_eq_left, Option.some.injEq, decide_eq_true_eq, Mu.set_same, Mu.set_set, w_add, w_sub, w_mul, w_fdiv, w_mod, w_pow, w_neg, w_lt, w_le, w_gt, w_ge, w_eq, w_ne, w_is, w_isnot, w_in, w_notin, w_chn, c_lt, c_le, c_gt, c_ge, n_int, n_non, n_tup, n_lst, n_str, n_h, t_bl, i_tup, i_lst, i_scr, i_set, x_set, l_set, l_lst, l_tup, l_scr, b_int, b_bl, b_abs, b_min2, b_max2, a_set, ar_set, ct_ll, sl_l, at_0, at_1, at_2, ix_0, ix_1, fill, ok_, np_, List.getD_cons_zero, List.getD_cons_succ, List.length_cons, List.length_nil, List.set_cons_zero, List.set_cons_succ, gl_0, gl_1, true_and, and_true, if_true, if_false, Bool.not_eq_true', Bool.false_eq_true, g_lst]
      simp only [dueG, hg, if_true] at hq
      exact hq
    | true =>
      obtain ⟨h1, h2, h3⟩ := isG_of hg
      obtain ⟨g, rfl⟩ := Int.eq_ofNat_of_zero_le h1
      simp only [dueG, hg, Bool.true_eq_false, if_false, great_eq, Int.toNat_natCast] at hq h3
      simp (decide := true) only [t_bl, sSs, sS, sE, sBs, sEs, sTs, sI, rd, tOf, tOfB, getS, setS, wipeS, endK, nw_t, nw_f, partE, allT, asgT, asgL, T.bl.injEq, exists_eq_left', exists_eq_left, Option.some.injEq, decide_eq_true_eq, Mu.set_same, Mu.set_set, w_add, w_sub, w_mul, w_fdiv, w_mod, w_pow, w_neg, w_lt, w_le, w_gt, w_ge, w_eq, w_ne, w_is, w_isnot, w_in, w_notin, w_chn, c_lt, c_le, c_gt, c_ge, n_int, n_non, n_tup, n_lst, n_str, n_h, t_bl, i_tup, i_lst, i_scr, i_set, x_set, l_set, l_lst, l_tup, l_scr, b_int, b_bl, b_abs, b_min2, b_max2, a_set, ar_set, ct_ll, sl_l, at_0, at_1, at_2, ix_0, ix_1, fill, ok_, np_, List.getD_cons_zero, List.getD_cons_succ, List.length_cons, List.length_nil, List.set_cons_zero, List.set_cons_succ, gl_0, gl_1, true_and, and_true, if_true, if_false, Bool.not_eq_true', Bool.false_eq_true, g_lst, atI_nat, g_get h3, wEq_int, Bool.xor_false, pt_int, pt_bin, pt_nop]
      by_cases b1 : j < 0
      · rw [if_pos (.inl b1)] at hq
        rw [if_neg (by simp [b1]), if_pos b1]
        exact hq
      · rw [if_pos (by simp [b1])]
        by_cases b2 : 1000000000000 < j
        · rw [if_pos (.inr b2)] at hq
          rw [if_pos b2]; exact hq
        · rw [if_neg b2]
          rw [if_neg (by omega)] at hq
          exact made_ok (y := (ab G g, j, le G g)) h3 hn hq
  | lend i j =>
    simp (decide := true) only [s_law_due, Op.args, sT, oT, sSs, sS, sE, sBs, sEs, sTs, sI, rd, tOf, tOfB, getS, setS, wipeS, endK, nw_t, nw_f, partE, allT, asgT, asgL, T.bl.injEq, exists_eq_left', exists_eq_left, Option.some.injEq, decide_eq_true_eq, Mu.set_same, Mu.set_set, w_add, w_sub, w_mul, w_fdiv, w_mod, w_pow, w_neg, w_lt, w_le, w_gt, w_ge, w_eq, w_ne, w_is, w_isnot, w_in, w_notin, w_chn, c_lt, c_le, c_gt, c_ge, n_int, n_non, n_tup, n_lst, n_str, n_h, t_bl, i_tup, i_lst, i_scr, i_set, x_set, l_set, l_lst, l_tup, l_scr, b_int, b_bl, b_abs, b_min2, b_max2, a_set, ar_set, ct_ll, sl_l, at_0, at_1, at_2, ix_0, ix_1, fill, ok_, np_, List.getD_cons_zero, List.getD_cons_succ, List.length_cons, List.length_nil, List.set_cons_zero, List.set_cons_succ, gl_0, gl_1, true_and, and_true, if_true, if_false, Bool.not_eq_true', Bool.false_eq_true, g_lst, wEq_int, Bool.xor_false, S_3, gr]
    refine ⟨G, i, rfl, ?_⟩
    cases hg : isG G i with
    | false =>
      simp (decide := true) only [t_bl, sSs, sS, sE, sBs, sEs, sTs, sI, rd, tOf, tOfB, getS, setS, wipeS, endK, nw_t, nw_f, partE, allT, asgT, asgL, T.bl.injEq, exists_eq_left', exists_eq_left, Option.some.injEq, decide_eq_true_eq, Mu.set_same, Mu.set_set, w_add, w_sub, w_mul, w_fdiv, w_mod, w_pow, w_neg, w_lt, w_le, w_gt, w_ge, w_eq, w_ne, w_is, w_isnot, w_in, w_notin, w_chn, c_lt, c_le, c_gt, c_ge, n_int, n_non, n_tup, n_lst, n_str, n_h, t_bl, i_tup, i_lst, i_scr, i_set, x_set, l_set, l_lst, l_tup, l_scr, b_int, b_bl, b_abs, b_min2, b_max2, a_set, ar_set, ct_ll, sl_l, at_0, at_1, at_2, ix_0, ix_1, fill, ok_, np_, List.getD_cons_zero, List.getD_cons_succ, List.length_cons, List.length_nil, List.set_cons_zero, List.set_cons_succ, gl_0, gl_1, true_and, and_true, if_true, if_false, Bool.not_eq_true', Bool.false_eq_true, g_lst]
      simp only [dueG, hg, if_true] at hq
      exact hq
    | true =>
      obtain ⟨h1, h2, h3⟩ := isG_of hg
      obtain ⟨g, rfl⟩ := Int.eq_ofNat_of_zero_le h1
      simp only [dueG, hg, Bool.true_eq_false, if_false, great_eq, Int.toNat_natCast] at hq h3
      simp (decide := true) only [t_bl, sSs, sS, sE, sBs, sEs, sTs, sI, rd, tOf, tOfB, getS, setS, wipeS, endK, nw_t, nw_f, partE, allT, asgT, asgL, T.bl.injEq, exists_eq_left', exists_eq_left, Option.some.injEq, decide_eq_true_eq, Mu.set_same, Mu.set_set, w_add, w_sub, w_mul, w_fdiv, w_mod, w_pow, w_neg, w_lt, w_le, w_gt, w_ge, w_eq, w_ne, w_is, w_isnot, w_in, w_notin, w_chn, c_lt, c_le, c_gt, c_ge, n_int, n_non, n_tup, n_lst, n_str, n_h, t_bl, i_tup, i_lst, i_scr, i_set, x_set, l_set, l_lst, l_tup, l_scr, b_int, b_bl, b_abs, b_min2, b_max2, a_set, ar_set, ct_ll, sl_l, at_0, at_1, at_2, ix_0, ix_1, fill, ok_, np_, List.getD_cons_zero, List.getD_cons_succ, List.length_cons, List.length_nil, List.set_cons_zero, List.set_cons_succ, gl_0, gl_1, true_and, and_true, if_true, if_false, Bool.not_eq_true', Bool.false_eq_true, g_lst, atI_nat, g_get h3, wEq_int, Bool.xor_false, pt_int, pt_bin, pt_nop, S_6]
      have room : ∀ (R : Pq), R (.tup [.int (leastG G g), .int (firstG G g)]) μ → spLRoom [T.lst (List.map gT G), T.int ↑g] μ R X := fun R h => ⟨G, g, rfl, hw, h3, by omega, h⟩
      by_cases b1 : j = 0
      · rw [if_pos (.inl b1)] at hq
        simp (decide := true) only [b1, if_true, if_false]
        exact hq
      rw [if_pos (by simp [b1])]
      by_cases b2 : 1000000000000 < (if j < 0 then -j else j)
      · rw [if_pos (.inr (by rw [abs_eq]; exact b2))] at hq
        rw [if_pos b2]; exact hq
      rw [if_neg b2]
      rw [if_neg (fun z => z.elim b1 fun z => b2 (by rw [abs_eq] at z; exact z))] at hq
      have fin : ¬ (0 < j ∧ leastG G g < j ∨ le G g + j < 0) → _ := fun z => by
        rw [if_neg z] at hq
        exact made_ok (y := (ab G g, mo G g, le G g + j)) h3 hn hq
      have bad : (0 < j ∧ leastG G g < j ∨ le G g + j < 0) → Q (T.tup [T.str (Str.ofString "refused"), T.lst (List.map gT G)]) μ := fun z => by
        rw [if_pos z] at hq
        exact hq
      by_cases p0 : 0 < j
      · rw [if_pos p0]
        refine room _ ?_
        simp (decide := true) only [sSs, sS, sE, sBs, sEs, sTs, sI, rd, tOf, tOfB, getS, setS, wipeS, endK, nw_t, nw_f, partE, allT, asgT, asgL, T.bl.injEq, exists_eq_left', exists_eq_left, Option.some.injEq, decide_eq_true_eq, Mu.set_same, Mu.set_set, w_add, w_sub, w_mul, w_fdiv, w_mod, w_pow, w_neg, w_lt, w_le, w_gt, w_ge, w_eq, w_ne, w_is, w_isnot, w_in, w_notin, w_chn, c_lt, c_le, c_gt, c_ge, n_int, n_non, n_tup, n_lst, n_str, n_h, t_bl, i_tup, i_lst, i_scr, i_set, x_set, l_set, l_lst, l_tup, l_scr, b_int, b_bl, b_abs, b_min2, b_max2, a_set, ar_set, ct_ll, sl_l, at_0, at_1, at_2, ix_0, ix_1, fill, ok_, np_, List.getD_cons_zero, List.getD_cons_succ, List.length_cons, List.length_nil, List.set_cons_zero, List.set_cons_succ, gl_0, gl_1, true_and, and_true, if_true, if_false, Bool.not_eq_true', Bool.false_eq_true, g_lst]
        by_cases p1 : leastG G g < j
        · rw [if_neg (by simp [p1]), if_pos p1]
          exact bad (.inl ⟨p0, p1⟩)
        · rw [if_pos (by simp [p1])]
          by_cases p2 : le G g + j < 0
          · rw [if_pos p2]; exact bad (.inr p2)
          · rw [if_neg p2]; exact fin (fun z => z.elim (fun z => p1 z.2) p2)
      · rw [if_neg p0, if_pos (by simp [p0])]
        by_cases p2 : le G g + j < 0
        · rw [if_pos p2]; exact bad (.inr p2)
        · rw [if_neg p2]; exact fin (fun z => z.elim (fun z => p0 z.1) p2)
  | mov i j =>
    cases j with
    | none =>
      simp (decide := true) only [s_law_due, Op.args, sT, oT, sSs, sS, sE, sBs, sEs, sTs, sI, rd, tOf, tOfB, getS, setS, wipeS, endK, nw_t, nw_f, partE, allT, asgT, asgL, T.bl.injEq, exists_eq_left', exists_eq_left, Option.some.injEq, decide_eq_true_eq, Mu.set_same, Mu.set_set, w_add, w_sub, w_mul, w_fdiv, w_mod, w_pow, w_neg, w_lt, w_le, w_gt, w_ge, w_eq, w_ne, w_is, w_isnot, w_in, w_notin, w_chn, c_lt, c_le, c_gt, c_ge, n_int, n_non, n_tup, n_lst, n_str, n_h, t_bl, i_tup, i_lst, i_scr, i_set, x_set, l_set, l_lst, l_tup, l_scr, b_int, b_bl, b_abs, b_min2, b_max2, a_set, ar_set, ct_ll, sl_l, at_0, at_1, at_2, ix_0, ix_1, fill, ok_, np_, List.getD_cons_zero, List.getD_cons_succ, List.length_cons, List.length_nil, List.set_cons_zero, List.set_cons_succ, gl_0, gl_1, true_and, and_true, if_true, if_false, Bool.not_eq_true', Bool.false_eq_true, g_lst, wEq_int, Bool.xor_false, S_3, gr]
      refine ⟨G, i, rfl, ?_⟩
      cases hg : isG G i with
      | false =>
        simp (decide := true) only [t_bl, sSs, sS, sE, sBs, sEs, sTs, sI, rd, tOf, tOfB, getS, setS, wipeS, endK, nw_t, nw_f, partE, allT, asgT, asgL, T.bl.injEq, exists_eq_left', exists_eq_left, Option.some.injEq, decide_eq_true_eq, Mu.set_same, Mu.set_set, w_add, w_sub, w_mul, w_fdiv, w_mod, w_pow, w_neg, w_lt, w_le, w_gt, w_ge, w_eq, w_ne, w_is, w_isnot, w_in, w_notin, w_chn, c_lt, c_le, c_gt, c_ge, n_int, n_non, n_tup, n_lst, n_str, n_h, t_bl, i_tup, i_lst, i_scr, i_set, x_set, l_set, l_lst, l_tup, l_scr, b_int, b_bl, b_abs, b_min2, b_max2, a_set, ar_set, ct_ll, sl_l, at_0, at_1, at_2, ix_0, ix_1, fill, ok_, np_, List.getD_cons_zero, List.getD_cons_succ, List.length_cons, List.length_nil, List.set_cons_zero, List.set_cons_succ, gl_0, gl_1, true_and, and_true, if_true, if_false, Bool.not_eq_true', Bool.false_eq_true, g_lst]
        simp only [dueG, hg, if_true] at hq
        exact hq
      | true =>
        obtain ⟨h1, h2, h3⟩ := isG_of hg
        obtain ⟨g, rfl⟩ := Int.eq_ofNat_of_zero_le h1
        simp only [dueG, okO, hg, Bool.true_eq_false, if_false, Int.toNat_natCast] at hq h3
        simp (decide := true) only [t_bl, sSs, sS, sE, sBs, sEs, sTs, sI, rd, tOf, tOfB, getS, setS, wipeS, endK, nw_t, nw_f, partE, allT, asgT, asgL, T.bl.injEq, exists_eq_left', exists_eq_left, Option.some.injEq, decide_eq_true_eq, Mu.set_same, Mu.set_set, w_add, w_sub, w_mul, w_fdiv, w_mod, w_pow, w_neg, w_lt, w_le, w_gt, w_ge, w_eq, w_ne, w_is, w_isnot, w_in, w_notin, w_chn, c_lt, c_le, c_gt, c_ge, n_int, n_non, n_tup, n_lst, n_str, n_h, t_bl, i_tup, i_lst, i_scr, i_set, x_set, l_set, l_lst, l_tup, l_scr, b_int, b_bl, b_abs, b_min2, b_max2, a_set, ar_set, ct_ll, sl_l, at_0, at_1, at_2, ix_0, ix_1, fill, ok_, np_, List.getD_cons_zero, List.getD_cons_succ, List.length_cons, List.length_nil, List.set_cons_zero, List.set_cons_succ, gl_0, gl_1, true_and, and_true, if_true, if_false, Bool.not_eq_true', Bool.false_eq_true, g_lst, atI_nat, g_get h3, wEq_int, Bool.xor_false, pt_int, pt_bin, pt_nop]
        exact made_ok (y := (none, mo G g, le G g)) h3 hn hq
    | some j =>
      simp (decide := true) only [s_law_due, Op.args, sT, oT, sSs, sS, sE, sBs, sEs, sTs, sI, rd, tOf, tOfB, getS, setS, wipeS, endK, nw_t, nw_f, partE, allT, asgT, asgL, T.bl.injEq, exists_eq_left', exists_eq_left, Option.some.injEq, decide_eq_true_eq, Mu.set_same, Mu.set_set, w_add, w_sub, w_mul, w_fdiv, w_mod, w_pow, w_neg, w_lt, w_le, w_gt, w_ge, w_eq, w_ne, w_is, w_isnot, w_in, w_notin, w_chn, c_lt, c_le, c_gt, c_ge, n_int, n_non, n_tup, n_lst, n_str, n_h, t_bl, i_tup, i_lst, i_scr, i_set, x_set, l_set, l_lst, l_tup, l_scr, b_int, b_bl, b_abs, b_min2, b_max2, a_set, ar_set, ct_ll, sl_l, at_0, at_1, at_2, ix_0, ix_1, fill, ok_, np_, List.getD_cons_zero, List.getD_cons_succ, List.length_cons, List.length_nil, List.set_cons_zero, List.set_cons_succ, gl_0, gl_1, true_and, and_true, if_true, if_false, Bool.not_eq_true', Bool.false_eq_true, g_lst, wEq_int, Bool.xor_false, S_3, gr]
      refine ⟨G, i, rfl, ?_⟩
      cases hg : isG G i with
      | false =>
        simp (decide := true) only [t_bl, sSs, sS, sE, sBs, sEs, sTs, sI, rd, tOf, tOfB, getS, setS, wipeS, endK, nw_t, nw_f, partE, allT, asgT, asgL, T.bl.injEq, exists_eq_left', exists_eq_left, Option.some.injEq, decide_eq_true_eq, Mu.set_same, Mu.set_set, w_add, w_sub, w_mul, w_fdiv, w_mod, w_pow, w_neg, w_lt, w_le, w_gt, w_ge, w_eq, w_ne, w_is, w_isnot, w_in, w_notin, w_chn, c_lt, c_le, c_gt, c_ge, n_int, n_non, n_tup, n_lst, n_str, n_h, t_bl, i_tup, i_lst, i_scr, i_set, x_set, l_set, l_lst, l_tup, l_scr, b_int, b_bl, b_abs, b_min2, b_max2, a_set, ar_set, ct_ll, sl_l, at_0, at_1, at_2, ix_0, ix_1, fill, ok_, np_, List.getD_cons_zero, List.getD_cons_succ, List.length_cons, List.length_nil, List.set_cons_zero, List.set_cons_succ, gl_0, gl_1, true_and, and_true, if_true, if_false, Bool.not_eq_true', Bool.false_eq_true, g_lst]
        simp only [dueG, hg, if_true] at hq
        exact hq
      | true =>
        obtain ⟨h1, h2, h3⟩ := isG_of hg
        obtain ⟨g, rfl⟩ := Int.eq_ofNat_of_zero_le h1
        simp only [Int.toNat_natCast] at h3
        simp (decide := true) only [t_bl, sSs, sS, sE, sBs, sEs, sTs, sI, rd, tOf, tOfB, getS, setS, wipeS, endK, nw_t, nw_f, partE, allT, asgT, asgL, T.bl.injEq, exists_eq_left', exists_eq_left, Option.some.injEq, decide_eq_true_eq, Mu.set_same, Mu.set_set, w_add, w_sub, w_mul, w_fdiv, w_mod, w_pow, w_neg, w_lt, w_le, w_gt, w_ge, w_eq, w_ne, w_is, w_isnot, w_in, w_notin, w_chn, c_lt, c_le, c_gt, c_ge, n_int, n_non, n_tup, n_lst, n_str, n_h, t_bl, i_tup, i_lst, i_scr, i_set, x_set, l_set, l_lst, l_tup, l_scr, b_int, b_bl, b_abs, b_min2, b_max2, a_set, ar_set, ct_ll, sl_l, at_0, at_1, at_2, ix_0, ix_1, fill, ok_, np_, List.getD_cons_zero, List.getD_cons_succ, List.length_cons, List.length_nil, List.set_cons_zero, List.set_cons_succ, gl_0, gl_1, true_and, and_true, if_true, if_false, Bool.not_eq_true', Bool.false_eq_true, g_lst, atI_nat, g_get h3, wEq_int, Bool.xor_false, pt_int, pt_bin, pt_nop, S_3, S_4]
        refine ⟨G, j, rfl, ?_⟩
        cases hg2 : isG G j with
        | false =>
          simp (decide := true) only [t_bl, sSs, sS, sE, sBs, sEs, sTs, sI, rd, tOf, tOfB, getS, setS, wipeS, endK, nw_t, nw_f, partE, allT, asgT, asgL, T.bl.injEq, exists_eq_left', exists_eq_left, Option.some.injEq, decide_eq_true_eq, Mu.set_same, Mu.set_set, w_add, w_sub, w_mul, w_fdiv, w_mod, w_pow, w_neg, w_lt, w_le, w_gt, w_ge, w_eq, w_ne, w_is, w_isnot, w_in, w_notin, w_chn, c_lt, c_le, c_gt, c_ge, n_int, n_non, n_tup, n_lst, n_str, n_h, t_bl, i_tup, i_lst, i_scr, i_set, x_set, l_set, l_lst, l_tup, l_scr, b_int, b_bl, b_abs, b_min2, b_max2, a_set, ar_set, ct_ll, sl_l, at_0, at_1, at_2, ix_0, ix_1, fill, ok_, np_, List.getD_cons_zero, List.getD_cons_succ, List.length_cons, List.length_nil, List.set_cons_zero, List.set_cons_succ, gl_0, gl_1, true_and, and_true, if_true, if_false, Bool.not_eq_true', Bool.false_eq_true, g_lst]
          simp only [dueG, okO, hg, hg2, Bool.true_eq_false, if_true, if_false] at hq
          exact hq
        | true =>
          obtain ⟨k1, k2, k3⟩ := isG_of hg2
          obtain ⟨k, rfl⟩ := Int.eq_ofNat_of_zero_le k1
          simp only [dueG, okO, hg, hg2, Bool.true_eq_false, if_false, Int.toNat_natCast] at hq k3
          simp (decide := true) only [t_bl, sSs, sS, sE, sBs, sEs, sTs, sI, rd, tOf, tOfB, getS, setS, wipeS, endK, nw_t, nw_f, partE, allT, asgT, asgL, T.bl.injEq, exists_eq_left', exists_eq_left, Option.some.injEq, decide_eq_true_eq, Mu.set_same, Mu.set_set, w_add, w_sub, w_mul, w_fdiv, w_mod, w_pow, w_neg, w_lt, w_le, w_gt, w_ge, w_eq, w_ne, w_is, w_isnot, w_in, w_notin, w_chn, c_lt, c_le, c_gt, c_ge, n_int, n_non, n_tup, n_lst, n_str, n_h, t_bl, i_tup, i_lst, i_scr, i_set, x_set, l_set, l_lst, l_tup, l_scr, b_int, b_bl, b_abs, b_min2, b_max2, a_set, ar_set, ct_ll, sl_l, at_0, at_1, at_2, ix_0, ix_1, fill, ok_, np_, List.getD_cons_zero, List.getD_cons_succ, List.length_cons, List.length_nil, List.set_cons_zero, List.set_cons_succ, gl_0, gl_1, true_and, and_true, if_true, if_false, Bool.not_eq_true', Bool.false_eq_true, g_lst, S_4, S_5]
          refine ⟨G, k, rfl, hw, k3, by omega, ?_⟩
          simp (decide := true) only [nT, in_nL, sSs, sS, sE, sBs, sEs, sTs, sI, rd, tOf, tOfB, getS, setS, wipeS, endK, nw_t, nw_f, partE, allT, asgT, asgL, T.bl.injEq, exists_eq_left', exists_eq_left, Option.some.injEq, decide_eq_true_eq, Mu.set_same, Mu.set_set, w_add, w_sub, w_mul, w_fdiv, w_mod, w_pow, w_neg, w_lt, w_le, w_gt, w_ge, w_eq, w_ne, w_is, w_isnot, w_in, w_notin, w_chn, c_lt, c_le, c_gt, c_ge, n_int, n_non, n_tup, n_lst, n_str, n_h, t_bl, i_tup, i_lst, i_scr, i_set, x_set, l_set, l_lst, l_tup, l_scr, b_int, b_bl, b_abs, b_min2, b_max2, a_set, ar_set, ct_ll, sl_l, at_0, at_1, at_2, ix_0, ix_1, fill, ok_, np_, List.getD_cons_zero, List.getD_cons_succ, List.length_cons, List.length_nil, List.set_cons_zero, List.set_cons_succ, gl_0, gl_1, true_and, and_true, if_true, if_false, Bool.not_eq_true', Bool.false_eq_true, g_lst]
          by_cases hc : (lineG G k).contains g = true
          · rw [if_pos hc] at hq ⊢; exact hq
          · rw [if_neg hc] at hq ⊢
            obtain ⟨l1, l2, l3, l4⟩ := made_len (y := (some k, mo G g, le G g)) h3 hn
            have ec := cut_put (y := (some k, mo G g, le G g)) h3
            refine ⟨l1, l2, l3, l4, ?_⟩
            have w1 : Wf (putG G g (some k, mo G g, le G g)) := wf_move hw h3 k3 (fun z => hc (List.contains_iff_mem.mpr z)) rfl
            have n1 : (putG G g (some k, mo G g, le G g)).length = G.length := len_put
            generalize putG G g (some k, mo G g, le G g) = G1 at hq ec w1 n1
            have ec' : cutT (List.map gT G) none (some ↑g) ++ [T.tup [T.int ↑k, T.int (mo G g), T.int (le G g)]] ++ cutT (List.map gT G) (some (↑g + 1)) none = List.map gT G1 := ec
            rw [ec']
            have k4 : k < G1.length := by omega
            refine ⟨G1, k, rfl, w1, k4, by omega, ?_⟩
            have ln := w1.line k4
            have ll := ln.len w1 k4
            simp (decide := true) only [nT, sSs, sS, sE, sBs, sEs, sTs, sI, rd, tOf, tOfB, getS, setS, wipeS, endK, nw_t, nw_f, partE, allT, asgT, asgL, T.bl.injEq, exists_eq_left', exists_eq_left, Option.some.injEq, decide_eq_true_eq, Mu.set_same, Mu.set_set, w_add, w_sub, w_mul, w_fdiv, w_mod, w_pow, w_neg, w_lt, w_le, w_gt, w_ge, w_eq, w_ne, w_is, w_isnot, w_in, w_notin, w_chn, c_lt, c_le, c_gt, c_ge, n_int, n_non, n_tup, n_lst, n_str, n_h, t_bl, i_tup, i_lst, i_scr, i_set, x_set, l_set, l_lst, l_tup, l_scr, b_int, b_bl, b_abs, b_min2, b_max2, a_set, ar_set, ct_ll, sl_l, at_0, at_1, at_2, ix_0, ix_1, fill, ok_, np_, List.getD_cons_zero, List.getD_cons_succ, List.length_cons, List.length_nil, List.set_cons_zero, List.set_cons_succ, gl_0, gl_1, true_and, and_true, if_true, if_false, Bool.not_eq_true', Bool.false_eq_true, g_lst]
            refine lc_enc (l := lineG G1 k) (enc := fun k : Nat => T.int (k : Int)) (fun at_ => decide (usedG G1 at_ > mo G1 at_)) (fun at_ => .int (at_ : Nat)) trivial (by simp; omega) (fun z hz K N h => ?_) ?_
            · have hz' := ln.lt w1 k4 z hz
              simp (decide := true) only [sSs, sS, sE, sBs, sEs, sTs, sI, rd, tOf, tOfB, getS, setS, wipeS, endK, nw_t, nw_f, partE, allT, asgT, asgL, T.bl.injEq, exists_eq_left', exists_eq_left, Option.some.injEq, decide_eq_true_eq, Mu.set_same, Mu.set_set, w_add, w_sub, w_mul, w_fdiv, w_mod, w_pow, w_neg, w_lt, w_le, w_gt, w_ge, w_eq, w_ne, w_is, w_isnot, w_in, w_notin, w_chn, c_lt, c_le, c_gt, c_ge, n_int, n_non, n_tup, n_lst, n_str, n_h, t_bl, i_tup, i_lst, i_scr, i_set, x_set, l_set, l_lst, l_tup, l_scr, b_int, b_bl, b_abs, b_min2, b_max2, a_set, ar_set, ct_ll, sl_l, at_0, at_1, at_2, ix_0, ix_1, fill, ok_, np_, List.getD_cons_zero, List.getD_cons_succ, List.length_cons, List.length_nil, List.set_cons_zero, List.set_cons_succ, gl_0, gl_1, true_and, and_true, if_true, if_false, Bool.not_eq_true', Bool.false_eq_true, g_lst, S_5]
              refine ⟨G1, z, rfl, w1, hz', by omega, ?_⟩
              simp (decide := true) only [sSs, sS, sE, sBs, sEs, sTs, sI, rd, tOf, tOfB, getS, setS, wipeS, endK, nw_t, nw_f, partE, allT, asgT, asgL, T.bl.injEq, exists_eq_left', exists_eq_left, Option.some.injEq, decide_eq_true_eq, Mu.set_same, Mu.set_set, w_add, w_sub, w_mul, w_fdiv, w_mod, w_pow, w_neg, w_lt, w_le, w_gt, w_ge, w_eq, w_ne, w_is, w_isnot, w_in, w_notin, w_chn, c_lt, c_le, c_gt, c_ge, n_int, n_non, n_tup, n_lst, n_str, n_h, t_bl, i_tup, i_lst, i_scr, i_set, x_set, l_set, l_lst, l_tup, l_scr, b_int, b_bl, b_abs, b_min2, b_max2, a_set, ar_set, ct_ll, sl_l, at_0, at_1, at_2, ix_0, ix_1, fill, ok_, np_, List.getD_cons_zero, List.getD_cons_succ, List.length_cons, List.length_nil, List.set_cons_zero, List.set_cons_succ, gl_0, gl_1, true_and, and_true, if_true, if_false, Bool.not_eq_true', Bool.false_eq_true, g_lst, atI_nat, g_get hz'] at h ⊢
              exact h
            have e : ((lineG G1 k).filter fun at_ => decide (usedG G1 at_ > mo G1 at_)).map (fun at_ : Nat => T.int (at_ : Nat)) = (((lineG G1 k).filter fun at_ => decide (usedG G1 at_ > mo G1 at_)).map fun k : Nat => (k : Int)).map T.int := by rw [List.map_map]; rfl
            have lf := List.length_filter_le (fun at_ => decide (usedG G1 at_ > mo G1 at_)) (lineG G1 k)
            have ew : ∀ {ns : List Int} {Q : Pq} {μ : Mu}, wEq true (.lst (ns.map T.int)) (.lst []) μ Q = Q (.bl (decide (ns = []) ^^ true)) μ := fun {ns Q μ} => wEq_ll (ms := [])
            rw [List.nil_append, e, ew, List.length_map, List.length_map]
            refine ⟨by omega, _, rfl, ?_⟩
            have eo : (decide (((lineG G1 k).filter fun at_ => decide (usedG G1 at_ > mo G1 at_)).map (fun k : Nat => (k : Int)) = []) ^^ true) = overG G1 k := by
              rw [Bool.xor_true]
              unfold overG
              rw [Bool.eq_iff_iff]
              simp only [Bool.not_eq_true', decide_eq_false_iff_not, List.map_eq_nil_iff, List.filter_eq_nil_iff, List.any_eq_true]
              simp
            rw [eo]
            by_cases ho : overG G1 k = true
            · rw [if_pos ho] at hq ⊢; exact hq
            · rw [if_neg ho] at hq ⊢; exact hq
end K98
set_option Elab.async false
set_option linter.all false
set_option maxRecDepth 100000
set_option maxHeartbeats 4000000
namespace K98
open PySem PySem.Spec PyProof.Rows L2 Co
theorem due_c {G : Gs} {o : Op} {c : Nat} (h : (dueG G o).1 = some c) : c = 0 ∨ c = 1 ∨ c = 2 := by
  have key : ∀ {o' : Option Nat}, o' = some c → (o' = some 0 ∨ o' = some 1 ∨ o' = some 2 ∨ o' = none) → c = 0 ∨ c = 1 ∨ c = 2 := by
    rintro o' rfl (h | h | h | h) <;> first | (cases h; simp) | cases h
  refine key h ?_
  cases o with
  | add one two =>
    simp only [dueG]
    repeat (first | split | simp)
  | lend g two =>
    simp only [dueG]
    repeat (first | split | simp)
  | lim g two =>
    simp only [dueG]
    repeat (first | split | simp)
  | mov g two =>
    simp only [dueG]
    repeat (first | split | simp)
theorem xm_00 : PP.xm 0 0 = true := id rfl
theorem xm_10 : PP.xm 1 0 = false := id rfl
theorem xm_11 : PP.xm 1 1 = true := id rfl
theorem xm_20 : PP.xm 2 0 = false := id rfl
theorem xm_21 : PP.xm 2 1 = false := id rfl
theorem xm_22 : PP.xm 2 2 = true := id rfl
theorem xn_ : PP.xn.length = 4 := id rfl
theorem vc17 : VC PP u_law_try spTry := by
  intro ts μ Q X hl hS
  obtain ⟨a, p, q, r, G, w, one, two, rfl, hr, hw, hn, hS⟩ := hS
  clear hl
  show sSs PP s_law_try (endK Q X) [some (.h a), some (.int w), some one, some two, none] μ
  rcases hS with ⟨o, ho, hx, hq⟩ | ⟨i, rfl, hw4, hx, h4, h5, h6⟩
  · cases o with
    | add i j =>
      cases ho
      simp (decide := true) only [s_law_try, sSs, sS, sE, sBs, sEs, sTs, sI, rd, tOf, tOfB, getS, setS, wipeS, endK, nw_t, nw_f, partE, allT, asgT, asgL, T.bl.injEq, exists_eq_left', exists_eq_left, Option.some.injEq, decide_eq_true_eq, Mu.set_same, Mu.set_set, w_add, w_sub, w_mul, w_fdiv, w_mod, w_pow, w_neg, w_lt, w_le, w_gt, w_ge, w_eq, w_ne, w_is, w_isnot, w_in, w_notin, w_chn, c_lt, c_le, c_gt, c_ge, n_int, n_non, n_tup, n_lst, n_str, n_h, t_bl, i_tup, i_lst, i_scr, i_set, x_set, l_set, l_lst, l_tup, l_scr, b_int, b_bl, b_abs, b_min2, b_max2, a_set, ar_set, ct_ll, sl_l, at_0, at_1, at_2, ix_0, ix_1, fill, ok_, np_, List.getD_cons_zero, List.getD_cons_succ, List.length_cons, List.length_nil, List.set_cons_zero, List.set_cons_succ, gl_0, gl_1, true_and, and_true, if_true, if_false, Bool.not_eq_true', Bool.false_eq_true, g_lst, wEq_int, Bool.xor_false, hr.io, mt_7, S_13]
      refine ⟨a, p, q, r, G, .add i j, _, _, rfl, ⟨i, j, rfl, rfl, rfl⟩, hr, hw, hn, fun c μ' hc hr' hf => ?_, fun μ' hc hr' hf => hq μ' hc hr' hf⟩
      have hh := hx c μ' hc hr' hf
      rcases due_c hc with rfl | rfl | rfl <;> simp (decide := true) only [sH, wSu, xn_, xm_00, xm_10, xm_11, xm_20, xm_21, xm_22, noExc, noExcL, Bool.and_self, sSs, sS, sE, sBs, sEs, sTs, sI, rd, tOf, tOfB, getS, setS, wipeS, endK, nw_t, nw_f, partE, allT, asgT, asgL, T.bl.injEq, exists_eq_left', exists_eq_left, Option.some.injEq, decide_eq_true_eq, Mu.set_same, Mu.set_set, w_add, w_sub, w_mul, w_fdiv, w_mod, w_pow, w_neg, w_lt, w_le, w_gt, w_ge, w_eq, w_ne, w_is, w_isnot, w_in, w_notin, w_chn, c_lt, c_le, c_gt, c_ge, n_int, n_non, n_tup, n_lst, n_str, n_h, t_bl, i_tup, i_lst, i_scr, i_set, x_set, l_set, l_lst, l_tup, l_scr, b_int, b_bl, b_abs, b_min2, b_max2, a_set, ar_set, ct_ll, sl_l, at_0, at_1, at_2, ix_0, ix_1, fill, ok_, np_, List.getD_cons_zero, List.getD_cons_succ, List.length_cons, List.length_nil, List.set_cons_zero, List.set_cons_succ, gl_0, gl_1, true_and, and_true, if_true, if_false, Bool.not_eq_true', Bool.false_eq_true, g_lst] <;> exact hh
    | lend i j =>
      cases ho
      simp (decide := true) only [s_law_try, sSs, sS, sE, sBs, sEs, sTs, sI, rd, tOf, tOfB, getS, setS, wipeS, endK, nw_t, nw_f, partE, allT, asgT, asgL, T.bl.injEq, exists_eq_left', exists_eq_left, Option.some.injEq, decide_eq_true_eq, Mu.set_same, Mu.set_set, w_add, w_sub, w_mul, w_fdiv, w_mod, w_pow, w_neg, w_lt, w_le, w_gt, w_ge, w_eq, w_ne, w_is, w_isnot, w_in, w_notin, w_chn, c_lt, c_le, c_gt, c_ge, n_int, n_non, n_tup, n_lst, n_str, n_h, t_bl, i_tup, i_lst, i_scr, i_set, x_set, l_set, l_lst, l_tup, l_scr, b_int, b_bl, b_abs, b_min2, b_max2, a_set, ar_set, ct_ll, sl_l, at_0, at_1, at_2, ix_0, ix_1, fill, ok_, np_, List.getD_cons_zero, List.getD_cons_succ, List.length_cons, List.length_nil, List.set_cons_zero, List.set_cons_succ, gl_0, gl_1, true_and, and_true, if_true, if_false, Bool.not_eq_true', Bool.false_eq_true, g_lst, wEq_int, Bool.xor_false, hr.io, mt_9, S_14]
      refine ⟨a, p, q, r, G, .lend i j, _, _, rfl, ⟨i, j, rfl, rfl, rfl⟩, hr, hw, hn, fun c μ' hc hr' hf => ?_, fun μ' hc hr' hf => hq μ' hc hr' hf⟩
      have hh := hx c μ' hc hr' hf
      rcases due_c hc with rfl | rfl | rfl <;> simp (decide := true) only [sH, wSu, xn_, xm_00, xm_10, xm_11, xm_20, xm_21, xm_22, noExc, noExcL, Bool.and_self, sSs, sS, sE, sBs, sEs, sTs, sI, rd, tOf, tOfB, getS, setS, wipeS, endK, nw_t, nw_f, partE, allT, asgT, asgL, T.bl.injEq, exists_eq_left', exists_eq_left, Option.some.injEq, decide_eq_true_eq, Mu.set_same, Mu.set_set, w_add, w_sub, w_mul, w_fdiv, w_mod, w_pow, w_neg, w_lt, w_le, w_gt, w_ge, w_eq, w_ne, w_is, w_isnot, w_in, w_notin, w_chn, c_lt, c_le, c_gt, c_ge, n_int, n_non, n_tup, n_lst, n_str, n_h, t_bl, i_tup, i_lst, i_scr, i_set, x_set, l_set, l_lst, l_tup, l_scr, b_int, b_bl, b_abs, b_min2, b_max2, a_set, ar_set, ct_ll, sl_l, at_0, at_1, at_2, ix_0, ix_1, fill, ok_, np_, List.getD_cons_zero, List.getD_cons_succ, List.length_cons, List.length_nil, List.set_cons_zero, List.set_cons_succ, gl_0, gl_1, true_and, and_true, if_true, if_false, Bool.not_eq_true', Bool.false_eq_true, g_lst] <;> exact hh
    | lim i j =>
      cases ho
      simp (decide := true) only [s_law_try, sSs, sS, sE, sBs, sEs, sTs, sI, rd, tOf, tOfB, getS, setS, wipeS, endK, nw_t, nw_f, partE, allT, asgT, asgL, T.bl.injEq, exists_eq_left', exists_eq_left, Option.some.injEq, decide_eq_true_eq, Mu.set_same, Mu.set_set, w_add, w_sub, w_mul, w_fdiv, w_mod, w_pow, w_neg, w_lt, w_le, w_gt, w_ge, w_eq, w_ne, w_is, w_isnot, w_in, w_notin, w_chn, c_lt, c_le, c_gt, c_ge, n_int, n_non, n_tup, n_lst, n_str, n_h, t_bl, i_tup, i_lst, i_scr, i_set, x_set, l_set, l_lst, l_tup, l_scr, b_int, b_bl, b_abs, b_min2, b_max2, a_set, ar_set, ct_ll, sl_l, at_0, at_1, at_2, ix_0, ix_1, fill, ok_, np_, List.getD_cons_zero, List.getD_cons_succ, List.length_cons, List.length_nil, List.set_cons_zero, List.set_cons_succ, gl_0, gl_1, true_and, and_true, if_true, if_false, Bool.not_eq_true', Bool.false_eq_true, g_lst, wEq_int, Bool.xor_false, hr.io, mt_10, S_15]
      refine ⟨a, p, q, r, G, .lim i j, _, _, rfl, ⟨i, j, rfl, rfl, rfl⟩, hr, hw, hn, fun c μ' hc hr' hf => ?_, fun μ' hc hr' hf => hq μ' hc hr' hf⟩
      have hh := hx c μ' hc hr' hf
      rcases due_c hc with rfl | rfl | rfl <;> simp (decide := true) only [sH, wSu, xn_, xm_00, xm_10, xm_11, xm_20, xm_21, xm_22, noExc, noExcL, Bool.and_self, sSs, sS, sE, sBs, sEs, sTs, sI, rd, tOf, tOfB, getS, setS, wipeS, endK, nw_t, nw_f, partE, allT, asgT, asgL, T.bl.injEq, exists_eq_left', exists_eq_left, Option.some.injEq, decide_eq_true_eq, Mu.set_same, Mu.set_set, w_add, w_sub, w_mul, w_fdiv, w_mod, w_pow, w_neg, w_lt, w_le, w_gt, w_ge, w_eq, w_ne, w_is, w_isnot, w_in, w_notin, w_chn, c_lt, c_le, c_gt, c_ge, n_int, n_non, n_tup, n_lst, n_str, n_h, t_bl, i_tup, i_lst, i_scr, i_set, x_set, l_set, l_lst, l_tup, l_scr, b_int, b_bl, b_abs, b_min2, b_max2, a_set, ar_set, ct_ll, sl_l, at_0, at_1, at_2, ix_0, ix_1, fill, ok_, np_, List.getD_cons_zero, List.getD_cons_succ, List.length_cons, List.length_nil, List.set_cons_zero, List.set_cons_succ, gl_0, gl_1, true_and, and_true, if_true, if_false, Bool.not_eq_true', Bool.false_eq_true, g_lst] <;> exact hh
    | mov i j =>
      cases ho
      simp (decide := true) only [s_law_try, sSs, sS, sE, sBs, sEs, sTs, sI, rd, tOf, tOfB, getS, setS, wipeS, endK, nw_t, nw_f, partE, allT, asgT, asgL, T.bl.injEq, exists_eq_left', exists_eq_left, Option.some.injEq, decide_eq_true_eq, Mu.set_same, Mu.set_set, w_add, w_sub, w_mul, w_fdiv, w_mod, w_pow, w_neg, w_lt, w_le, w_gt, w_ge, w_eq, w_ne, w_is, w_isnot, w_in, w_notin, w_chn, c_lt, c_le, c_gt, c_ge, n_int, n_non, n_tup, n_lst, n_str, n_h, t_bl, i_tup, i_lst, i_scr, i_set, x_set, l_set, l_lst, l_tup, l_scr, b_int, b_bl, b_abs, b_min2, b_max2, a_set, ar_set, ct_ll, sl_l, at_0, at_1, at_2, ix_0, ix_1, fill, ok_, np_, List.getD_cons_zero, List.getD_cons_succ, List.length_cons, List.length_nil, List.set_cons_zero, List.set_cons_succ, gl_0, gl_1, true_and, and_true, if_true, if_false, Bool.not_eq_true', Bool.false_eq_true, g_lst, wEq_int, Bool.xor_false, hr.io, mt_11, S_16]
      refine ⟨a, p, q, r, G, .mov i j, _, _, rfl, ⟨i, j, rfl, rfl, rfl⟩, hr, hw, hn, fun c μ' hc hr' hf => ?_, fun μ' hc hr' hf => hq μ' hc hr' hf⟩
      have hh := hx c μ' hc hr' hf
      rcases due_c hc with rfl | rfl | rfl <;> simp (decide := true) only [sH, wSu, xn_, xm_00, xm_10, xm_11, xm_20, xm_21, xm_22, noExc, noExcL, Bool.and_self, sSs, sS, sE, sBs, sEs, sTs, sI, rd, tOf, tOfB, getS, setS, wipeS, endK, nw_t, nw_f, partE, allT, asgT, asgL, T.bl.injEq, exists_eq_left', exists_eq_left, Option.some.injEq, decide_eq_true_eq, Mu.set_same, Mu.set_set, w_add, w_sub, w_mul, w_fdiv, w_mod, w_pow, w_neg, w_lt, w_le, w_gt, w_ge, w_eq, w_ne, w_is, w_isnot, w_in, w_notin, w_chn, c_lt, c_le, c_gt, c_ge, n_int, n_non, n_tup, n_lst, n_str, n_h, t_bl, i_tup, i_lst, i_scr, i_set, x_set, l_set, l_lst, l_tup, l_scr, b_int, b_bl, b_abs, b_min2, b_max2, a_set, ar_set, ct_ll, sl_l, at_0, at_1, at_2, ix_0, ix_1, fill, ok_, np_, List.getD_cons_zero, List.getD_cons_succ, List.length_cons, List.length_nil, List.set_cons_zero, List.set_cons_succ, gl_0, gl_1, true_and, and_true, if_true, if_false, Bool.not_eq_true', Bool.false_eq_true, g_lst] <;> exact hh
  · rcases hw4 with rfl | rfl | rfl
    · simp (decide := true) only [s_law_try, sSs, sS, sE, sBs, sEs, sTs, sI, rd, tOf, tOfB, getS, setS, wipeS, endK, nw_t, nw_f, partE, allT, asgT, asgL, T.bl.injEq, exists_eq_left', exists_eq_left, Option.some.injEq, decide_eq_true_eq, Mu.set_same, Mu.set_set, w_add, w_sub, w_mul, w_fdiv, w_mod, w_pow, w_neg, w_lt, w_le, w_gt, w_ge, w_eq, w_ne, w_is, w_isnot, w_in, w_notin, w_chn, c_lt, c_le, c_gt, c_ge, n_int, n_non, n_tup, n_lst, n_str, n_h, t_bl, i_tup, i_lst, i_scr, i_set, x_set, l_set, l_lst, l_tup, l_scr, b_int, b_bl, b_abs, b_min2, b_max2, a_set, ar_set, ct_ll, sl_l, at_0, at_1, at_2, ix_0, ix_1, fill, ok_, np_, List.getD_cons_zero, List.getD_cons_succ, List.length_cons, List.length_nil, List.set_cons_zero, List.set_cons_succ, gl_0, gl_1, true_and, and_true, if_true, if_false, Bool.not_eq_true', Bool.false_eq_true, g_lst, wEq_int, Bool.xor_false, hr.io, mt_4, S_10]
      refine ⟨a, p, q, r, G, i, rfl, hr, hw, by omega, fun hg b hb => h4 hg rfl b hb, fun hg => ?_⟩
      have hh := hx hg
      simp (decide := true) only [sH, wSu, xn_, xm_00, xm_10, xm_11, xm_20, xm_21, xm_22, noExc, noExcL, Bool.and_self, sSs, sS, sE, sBs, sEs, sTs, sI, rd, tOf, tOfB, getS, setS, wipeS, endK, nw_t, nw_f, partE, allT, asgT, asgL, T.bl.injEq, exists_eq_left', exists_eq_left, Option.some.injEq, decide_eq_true_eq, Mu.set_same, Mu.set_set, w_add, w_sub, w_mul, w_fdiv, w_mod, w_pow, w_neg, w_lt, w_le, w_gt, w_ge, w_eq, w_ne, w_is, w_isnot, w_in, w_notin, w_chn, c_lt, c_le, c_gt, c_ge, n_int, n_non, n_tup, n_lst, n_str, n_h, t_bl, i_tup, i_lst, i_scr, i_set, x_set, l_set, l_lst, l_tup, l_scr, b_int, b_bl, b_abs, b_min2, b_max2, a_set, ar_set, ct_ll, sl_l, at_0, at_1, at_2, ix_0, ix_1, fill, ok_, np_, List.getD_cons_zero, List.getD_cons_succ, List.length_cons, List.length_nil, List.set_cons_zero, List.set_cons_succ, gl_0, gl_1, true_and, and_true, if_true, if_false, Bool.not_eq_true', Bool.false_eq_true, g_lst]
      exact hh
    · simp (decide := true) only [s_law_try, sSs, sS, sE, sBs, sEs, sTs, sI, rd, tOf, tOfB, getS, setS, wipeS, endK, nw_t, nw_f, partE, allT, asgT, asgL, T.bl.injEq, exists_eq_left', exists_eq_left, Option.some.injEq, decide_eq_true_eq, Mu.set_same, Mu.set_set, w_add, w_sub, w_mul, w_fdiv, w_mod, w_pow, w_neg, w_lt, w_le, w_gt, w_ge, w_eq, w_ne, w_is, w_isnot, w_in, w_notin, w_chn, c_lt, c_le, c_gt, c_ge, n_int, n_non, n_tup, n_lst, n_str, n_h, t_bl, i_tup, i_lst, i_scr, i_set, x_set, l_set, l_lst, l_tup, l_scr, b_int, b_bl, b_abs, b_min2, b_max2, a_set, ar_set, ct_ll, sl_l, at_0, at_1, at_2, ix_0, ix_1, fill, ok_, np_, List.getD_cons_zero, List.getD_cons_succ, List.length_cons, List.length_nil, List.set_cons_zero, List.set_cons_succ, gl_0, gl_1, true_and, and_true, if_true, if_false, Bool.not_eq_true', Bool.false_eq_true, g_lst, wEq_int, Bool.xor_false, hr.io, mt_5, S_11]
      refine ⟨a, p, q, r, G, i, rfl, hr, hw, by omega, fun hg => h5 hg rfl, fun hg => ?_⟩
      have hh := hx hg
      simp (decide := true) only [sH, wSu, xn_, xm_00, xm_10, xm_11, xm_20, xm_21, xm_22, noExc, noExcL, Bool.and_self, sSs, sS, sE, sBs, sEs, sTs, sI, rd, tOf, tOfB, getS, setS, wipeS, endK, nw_t, nw_f, partE, allT, asgT, asgL, T.bl.injEq, exists_eq_left', exists_eq_left, Option.some.injEq, decide_eq_true_eq, Mu.set_same, Mu.set_set, w_add, w_sub, w_mul, w_fdiv, w_mod, w_pow, w_neg, w_lt, w_le, w_gt, w_ge, w_eq, w_ne, w_is, w_isnot, w_in, w_notin, w_chn, c_lt, c_le, c_gt, c_ge, n_int, n_non, n_tup, n_lst, n_str, n_h, t_bl, i_tup, i_lst, i_scr, i_set, x_set, l_set, l_lst, l_tup, l_scr, b_int, b_bl, b_abs, b_min2, b_max2, a_set, ar_set, ct_ll, sl_l, at_0, at_1, at_2, ix_0, ix_1, fill, ok_, np_, List.getD_cons_zero, List.getD_cons_succ, List.length_cons, List.length_nil, List.set_cons_zero, List.set_cons_succ, gl_0, gl_1, true_and, and_true, if_true, if_false, Bool.not_eq_true', Bool.false_eq_true, g_lst]
      exact hh
    · simp (decide := true) only [s_law_try, sSs, sS, sE, sBs, sEs, sTs, sI, rd, tOf, tOfB, getS, setS, wipeS, endK, nw_t, nw_f, partE, allT, asgT, asgL, T.bl.injEq, exists_eq_left', exists_eq_left, Option.some.injEq, decide_eq_true_eq, Mu.set_same, Mu.set_set, w_add, w_sub, w_mul, w_fdiv, w_mod, w_pow, w_neg, w_lt, w_le, w_gt, w_ge, w_eq, w_ne, w_is, w_isnot, w_in, w_notin, w_chn, c_lt, c_le, c_gt, c_ge, n_int, n_non, n_tup, n_lst, n_str, n_h, t_bl, i_tup, i_lst, i_scr, i_set, x_set, l_set, l_lst, l_tup, l_scr, b_int, b_bl, b_abs, b_min2, b_max2, a_set, ar_set, ct_ll, sl_l, at_0, at_1, at_2, ix_0, ix_1, fill, ok_, np_, List.getD_cons_zero, List.getD_cons_succ, List.length_cons, List.length_nil, List.set_cons_zero, List.set_cons_succ, gl_0, gl_1, true_and, and_true, if_true, if_false, Bool.not_eq_true', Bool.false_eq_true, g_lst, wEq_int, Bool.xor_false, hr.io, mt_6, S_12]
      refine ⟨a, p, q, r, G, i, rfl, hr, hw, by omega, fun hg => h6 hg rfl, fun hg => ?_⟩
      have hh := hx hg
      simp (decide := true) only [sH, wSu, xn_, xm_00, xm_10, xm_11, xm_20, xm_21, xm_22, noExc, noExcL, Bool.and_self, sSs, sS, sE, sBs, sEs, sTs, sI, rd, tOf, tOfB, getS, setS, wipeS, endK, nw_t, nw_f, partE, allT, asgT, asgL, T.bl.injEq, exists_eq_left', exists_eq_left, Option.some.injEq, decide_eq_true_eq, Mu.set_same, Mu.set_set, w_add, w_sub, w_mul, w_fdiv, w_mod, w_pow, w_neg, w_lt, w_le, w_gt, w_ge, w_eq, w_ne, w_is, w_isnot, w_in, w_notin, w_chn, c_lt, c_le, c_gt, c_ge, n_int, n_non, n_tup, n_lst, n_str, n_h, t_bl, i_tup, i_lst, i_scr, i_set, x_set, l_set, l_lst, l_tup, l_scr, b_int, b_bl, b_abs, b_min2, b_max2, a_set, ar_set, ct_ll, sl_l, at_0, at_1, at_2, ix_0, ix_1, fill, ok_, np_, List.getD_cons_zero, List.getD_cons_succ, List.length_cons, List.length_nil, List.set_cons_zero, List.set_cons_succ, gl_0, gl_1, true_and, and_true, if_true, if_false, Bool.not_eq_true', Bool.false_eq_true, g_lst]
      exact hh
end K98
set_option Elab.async false
set_option linter.all false
set_option maxRecDepth 100000
set_option maxHeartbeats 4000000
namespace K98
open PySem PySem.Spec PyProof.Rows L2 Co
theorem pick_step {b : Addr} {m x y : Int} {μ : Mu} {R : Pq} {X : Xq} {Q0 : Op → Mu → Prop} (hb : μ b = some (.lst [.int x, .int y])) (hm : 0 < m) (hm2 : m < 1000000) (hq : ∀ o x' y', Q0 o (μ.set b (.lst [.int x', .int y'])))
    (h : ∀ n μ' x' y', 0 ≤ n → n < m → μ' b = some (.lst [.int x', .int y']) → (∀ o x' y', Q0 o (μ'.set b (.lst [.int x', .int y']))) → R (.int n) μ') : spPick [.h b, .int m] μ R X :=
  ⟨b, m, x, y, rfl, hb, hm, hm2, fun n x' y' h0 h1 => h n _ x' y' h0 h1 Mu.set_same fun o u v => by rw [Mu.set_set]; exact hq o u v⟩
theorem at_ex {xs : List T} {n : Int} (h0 : 0 ≤ n) (h1 : n < xs.length) : ∃ v, atI xs n = some v ∧ v ∈ xs := by
  rw [atI_z h0]
  exact ⟨_, List.getElem?_eq_getElem (by omega), List.getElem_mem _⟩
theorem at_ints {xs : List T} {n : Int} {R : T → Prop} (h0 : 0 ≤ n) (h1 : n < xs.length) (hx : ∀ v, v ∈ xs → ∃ i, v = .int i) (h : ∀ i, R (.int i)) : ∃ v, atI xs n = some v ∧ R v := by
  obtain ⟨v, e, hv⟩ := at_ex h0 h1
  obtain ⟨i, rfl⟩ := hx v hv
  exact ⟨_, e, h i⟩
theorem vc7 : VC PP u_law_call spCall := by
  intro ts μ Q X hl hS
  obtain ⟨b, x, y, G, rfl, hb, hw, hn, hq⟩ := hS
  clear hl
  show sSs PP s_law_call (endK Q X) [some (.h b), some (sT G), none, none, none, none, none, none] μ
  have gr : (10 : Int) ^ Int.toNat 12 = 1000000000000 := by decide
  have gr6 : (10 : Int) ^ Int.toNat 6 = 1000000 := by decide
  try simp (decide := true) only [s_law_call, sT, sSs, sS, sE, sBs, sEs, sTs, sI, rd, tOf, tOfB, getS, setS, wipeS, endK, nw_t, nw_f, partE, allT, asgT, asgL, T.bl.injEq, exists_eq_left', exists_eq_left, Option.some.injEq, decide_eq_true_eq, Mu.set_same, Mu.set_set, w_add, w_sub, w_mul, w_fdiv, w_mod, w_pow, w_neg, w_lt, w_le, w_gt, w_ge, w_eq, w_ne, w_is, w_isnot, w_in, w_notin, w_chn, c_lt, c_le, c_gt, c_ge, n_int, n_non, n_tup, n_lst, n_str, n_h, t_bl, i_tup, i_lst, i_scr, i_set, x_set, l_set, l_lst, l_tup, l_scr, b_int, b_bl, b_abs, b_min2, b_max2, a_set, ar_set, ct_ll, sl_l, at_0, at_1, at_2, ix_0, ix_1, fill, ok_, np_, List.getD_cons_zero, List.getD_cons_succ, List.length_cons, List.length_nil, List.set_cons_zero, List.set_cons_succ, gl_0, gl_1, true_and, and_true, if_true, if_false, Bool.not_eq_true', Bool.false_eq_true, g_lst, S_2]
  refine pick_step (Q0 := fun o μ => Q (.tup [.int (Op.args o).1, (Op.args o).2.1, (Op.args o).2.2]) μ) hb (by decide) (by decide) hq fun n1 μ x y a1 b1 hb hq => ?_
  have hwh : ∃ v, atI [T.int 0, T.int 0, T.int 1, T.int 1, T.int 1, T.int 1, T.int 2, T.int 3, T.int 3, T.int 1] n1 = some v ∧ (v = .int 0 ∨ v = .int 1 ∨ v = .int 2 ∨ v = .int 3) := by
    obtain ⟨v, e, hv⟩ := at_ex (xs := [T.int 0, T.int 0, T.int 1, T.int 1, T.int 1, T.int 1, T.int 2, T.int 3, T.int 3, T.int 1]) a1 (by simp; omega)
    refine ⟨v, e, ?_⟩
    simp only [List.mem_cons, List.mem_nil_iff, or_false] at hv
    rcases hv with rfl | rfl | rfl | rfl | rfl | rfl | rfl | rfl | rfl | rfl <;> simp
  obtain ⟨wv, ewv, hwv⟩ := hwh
  refine ⟨wv, ewv, ?_⟩
  try simp (decide := true) only [sSs, sS, sE, sBs, sEs, sTs, sI, rd, tOf, tOfB, getS, setS, wipeS, endK, nw_t, nw_f, partE, allT, asgT, asgL, T.bl.injEq, exists_eq_left', exists_eq_left, Option.some.injEq, decide_eq_true_eq, Mu.set_same, Mu.set_set, w_add, w_sub, w_mul, w_fdiv, w_mod, w_pow, w_neg, w_lt, w_le, w_gt, w_ge, w_eq, w_ne, w_is, w_isnot, w_in, w_notin, w_chn, c_lt, c_le, c_gt, c_ge, n_int, n_non, n_tup, n_lst, n_str, n_h, t_bl, i_tup, i_lst, i_scr, i_set, x_set, l_set, l_lst, l_tup, l_scr, b_int, b_bl, b_abs, b_min2, b_max2, a_set, ar_set, ct_ll, sl_l, at_0, at_1, at_2, ix_0, ix_1, fill, ok_, np_, List.getD_cons_zero, List.getD_cons_succ, List.length_cons, List.length_nil, List.set_cons_zero, List.set_cons_succ, gl_0, gl_1, true_and, and_true, if_true, if_false, Bool.not_eq_true', Bool.false_eq_true, g_lst, S_2, List.length_map]
  refine pick_step hb (by omega) (by omega) hq fun n2 μ x y a2 b2 hb hq => ?_
  try simp (decide := true) only [sSs, sS, sE, sBs, sEs, sTs, sI, rd, tOf, tOfB, getS, setS, wipeS, endK, nw_t, nw_f, partE, allT, asgT, asgL, T.bl.injEq, exists_eq_left', exists_eq_left, Option.some.injEq, decide_eq_true_eq, Mu.set_same, Mu.set_set, w_add, w_sub, w_mul, w_fdiv, w_mod, w_pow, w_neg, w_lt, w_le, w_gt, w_ge, w_eq, w_ne, w_is, w_isnot, w_in, w_notin, w_chn, c_lt, c_le, c_gt, c_ge, n_int, n_non, n_tup, n_lst, n_str, n_h, t_bl, i_tup, i_lst, i_scr, i_set, x_set, l_set, l_lst, l_tup, l_scr, b_int, b_bl, b_abs, b_min2, b_max2, a_set, ar_set, ct_ll, sl_l, at_0, at_1, at_2, ix_0, ix_1, fill, ok_, np_, List.getD_cons_zero, List.getD_cons_succ, List.length_cons, List.length_nil, List.set_cons_zero, List.set_cons_succ, gl_0, gl_1, true_and, and_true, if_true, if_false, Bool.not_eq_true', Bool.false_eq_true, g_lst, S_2, List.length_map]
  refine pick_step hb (by omega) (by omega) hq fun n3 μ x y a3 b3 hb hq => ?_
  try simp (decide := true) only [sSs, sS, sE, sBs, sEs, sTs, sI, rd, tOf, tOfB, getS, setS, wipeS, endK, nw_t, nw_f, partE, allT, asgT, asgL, T.bl.injEq, exists_eq_left', exists_eq_left, Option.some.injEq, decide_eq_true_eq, Mu.set_same, Mu.set_set, w_add, w_sub, w_mul, w_fdiv, w_mod, w_pow, w_neg, w_lt, w_le, w_gt, w_ge, w_eq, w_ne, w_is, w_isnot, w_in, w_notin, w_chn, c_lt, c_le, c_gt, c_ge, n_int, n_non, n_tup, n_lst, n_str, n_h, t_bl, i_tup, i_lst, i_scr, i_set, x_set, l_set, l_lst, l_tup, l_scr, b_int, b_bl, b_abs, b_min2, b_max2, a_set, ar_set, ct_ll, sl_l, at_0, at_1, at_2, ix_0, ix_1, fill, ok_, np_, List.getD_cons_zero, List.getD_cons_succ, List.length_cons, List.length_nil, List.set_cons_zero, List.set_cons_succ, gl_0, gl_1, true_and, and_true, if_true, if_false, Bool.not_eq_true', Bool.false_eq_true, g_lst, S_2, List.length_map]
  refine pick_step hb (by omega) (by omega) hq fun n4 μ x y a4 b4 hb hq => ?_
  try simp (decide := true) only [sSs, sS, sE, sBs, sEs, sTs, sI, rd, tOf, tOfB, getS, setS, wipeS, endK, nw_t, nw_f, partE, allT, asgT, asgL, T.bl.injEq, exists_eq_left', exists_eq_left, Option.some.injEq, decide_eq_true_eq, Mu.set_same, Mu.set_set, w_add, w_sub, w_mul, w_fdiv, w_mod, w_pow, w_neg, w_lt, w_le, w_gt, w_ge, w_eq, w_ne, w_is, w_isnot, w_in, w_notin, w_chn, c_lt, c_le, c_gt, c_ge, n_int, n_non, n_tup, n_lst, n_str, n_h, t_bl, i_tup, i_lst, i_scr, i_set, x_set, l_set, l_lst, l_tup, l_scr, b_int, b_bl, b_abs, b_min2, b_max2, a_set, ar_set, ct_ll, sl_l, at_0, at_1, at_2, ix_0, ix_1, fill, ok_, np_, List.getD_cons_zero, List.getD_cons_succ, List.length_cons, List.length_nil, List.set_cons_zero, List.set_cons_succ, gl_0, gl_1, true_and, and_true, if_true, if_false, Bool.not_eq_true', Bool.false_eq_true, g_lst, S_2, List.length_map]
  refine pick_step hb (by omega) (by omega) hq fun n5 μ x y a5 b5 hb hq => ?_
  try simp (decide := true) only [sSs, sS, sE, sBs, sEs, sTs, sI, rd, tOf, tOfB, getS, setS, wipeS, endK, nw_t, nw_f, partE, allT, asgT, asgL, T.bl.injEq, exists_eq_left', exists_eq_left, Option.some.injEq, decide_eq_true_eq, Mu.set_same, Mu.set_set, w_add, w_sub, w_mul, w_fdiv, w_mod, w_pow, w_neg, w_lt, w_le, w_gt, w_ge, w_eq, w_ne, w_is, w_isnot, w_in, w_notin, w_chn, c_lt, c_le, c_gt, c_ge, n_int, n_non, n_tup, n_lst, n_str, n_h, t_bl, i_tup, i_lst, i_scr, i_set, x_set, l_set, l_lst, l_tup, l_scr, b_int, b_bl, b_abs, b_min2, b_max2, a_set, ar_set, ct_ll, sl_l, at_0, at_1, at_2, ix_0, ix_1, fill, ok_, np_, List.getD_cons_zero, List.getD_cons_succ, List.length_cons, List.length_nil, List.set_cons_zero, List.set_cons_succ, gl_0, gl_1, true_and, and_true, if_true, if_false, Bool.not_eq_true', Bool.false_eq_true, g_lst, S_2, List.length_map, wEq_int, Bool.xor_false]
  have hif : ∀ c : Bool, (0 : Int) ≤ n4 * (if c = true then 1 else 0) ∧ n4 * (if c = true then 1 else 0) < 4 := fun c => by
    cases c <;> simp <;> omega
  refine ⟨mul_ok (by split <;> decide) (by split <;> decide), ?_⟩
  refine at_ints (hif _).1 (by have := (hif (n5 == 0)).2; simpa using this) (fun v hv => ?_) fun g => ?_
  · simp only [List.mem_cons, List.mem_nil_iff, or_false] at hv
    rcases hv with rfl | rfl | rfl | rfl <;> exact ⟨_, rfl⟩
  try simp (decide := true) only [sSs, sS, sE, sBs, sEs, sTs, sI, rd, tOf, tOfB, getS, setS, wipeS, endK, nw_t, nw_f, partE, allT, asgT, asgL, T.bl.injEq, exists_eq_left', exists_eq_left, Option.some.injEq, decide_eq_true_eq, Mu.set_same, Mu.set_set, w_add, w_sub, w_mul, w_fdiv, w_mod, w_pow, w_neg, w_lt, w_le, w_gt, w_ge, w_eq, w_ne, w_is, w_isnot, w_in, w_notin, w_chn, c_lt, c_le, c_gt, c_ge, n_int, n_non, n_tup, n_lst, n_str, n_h, t_bl, i_tup, i_lst, i_scr, i_set, x_set, l_set, l_lst, l_tup, l_scr, b_int, b_bl, b_abs, b_min2, b_max2, a_set, ar_set, ct_ll, sl_l, at_0, at_1, at_2, ix_0, ix_1, fill, ok_, np_, List.getD_cons_zero, List.getD_cons_succ, List.length_cons, List.length_nil, List.set_cons_zero, List.set_cons_succ, gl_0, gl_1, true_and, and_true, if_true, if_false, Bool.not_eq_true', Bool.false_eq_true, g_lst, S_2, List.length_map]
  refine pick_step hb (by omega) (by omega) hq fun n6 μ x y a6 b6 hb hq => ?_
  try simp (decide := true) only [sSs, sS, sE, sBs, sEs, sTs, sI, rd, tOf, tOfB, getS, setS, wipeS, endK, nw_t, nw_f, partE, allT, asgT, asgL, T.bl.injEq, exists_eq_left', exists_eq_left, Option.some.injEq, decide_eq_true_eq, Mu.set_same, Mu.set_set, w_add, w_sub, w_mul, w_fdiv, w_mod, w_pow, w_neg, w_lt, w_le, w_gt, w_ge, w_eq, w_ne, w_is, w_isnot, w_in, w_notin, w_chn, c_lt, c_le, c_gt, c_ge, n_int, n_non, n_tup, n_lst, n_str, n_h, t_bl, i_tup, i_lst, i_scr, i_set, x_set, l_set, l_lst, l_tup, l_scr, b_int, b_bl, b_abs, b_min2, b_max2, a_set, ar_set, ct_ll, sl_l, at_0, at_1, at_2, ix_0, ix_1, fill, ok_, np_, List.getD_cons_zero, List.getD_cons_succ, List.length_cons, List.length_nil, List.set_cons_zero, List.set_cons_succ, gl_0, gl_1, true_and, and_true, if_true, if_false, Bool.not_eq_true', Bool.false_eq_true, g_lst, S_2, List.length_map, gr, gr6]
  refine pick_step hb (by omega) (by omega) hq fun n7 μ x y a7 b7 hb hq => ?_
  try simp (decide := true) only [sSs, sS, sE, sBs, sEs, sTs, sI, rd, tOf, tOfB, getS, setS, wipeS, endK, nw_t, nw_f, partE, allT, asgT, asgL, T.bl.injEq, exists_eq_left', exists_eq_left, Option.some.injEq, decide_eq_true_eq, Mu.set_same, Mu.set_set, w_add, w_sub, w_mul, w_fdiv, w_mod, w_pow, w_neg, w_lt, w_le, w_gt, w_ge, w_eq, w_ne, w_is, w_isnot, w_in, w_notin, w_chn, c_lt, c_le, c_gt, c_ge, n_int, n_non, n_tup, n_lst, n_str, n_h, t_bl, i_tup, i_lst, i_scr, i_set, x_set, l_set, l_lst, l_tup, l_scr, b_int, b_bl, b_abs, b_min2, b_max2, a_set, ar_set, ct_ll, sl_l, at_0, at_1, at_2, ix_0, ix_1, fill, ok_, np_, List.getD_cons_zero, List.getD_cons_succ, List.length_cons, List.length_nil, List.set_cons_zero, List.set_cons_succ, gl_0, gl_1, true_and, and_true, if_true, if_false, Bool.not_eq_true', Bool.false_eq_true, g_lst, S_2, List.length_map, gr, gr6]
  refine at_ints a7 (by simpa using b7) (fun v hv => ?_) fun u => ?_
  · simp only [List.mem_cons, List.mem_nil_iff, or_false] at hv
    rcases hv with rfl | rfl | rfl | rfl | rfl | rfl <;> exact ⟨_, rfl⟩
  have fin : ∀ {μ : Mu} {x y : Int}, μ b = some (.lst [.int x, .int y]) → (∀ o x' y', Q (.tup [.int (Op.args o).1, (Op.args o).2.1, (Op.args o).2.2]) (μ.set b (.lst [.int x', .int y']))) → ∀ o, Q (.tup [.int (Op.args o).1, (Op.args o).2.1, (Op.args o).2.2]) μ := fun {μ x y} hb hq o => by
    have := hq o x y
    rw [Mu.set_eq hb] at this
    exact this
  rcases hwv with rfl | rfl | rfl | rfl
  · simp (decide := true) only [sSs, sS, sE, sBs, sEs, sTs, sI, rd, tOf, tOfB, getS, setS, wipeS, endK, nw_t, nw_f, partE, allT, asgT, asgL, T.bl.injEq, exists_eq_left', exists_eq_left, Option.some.injEq, decide_eq_true_eq, Mu.set_same, Mu.set_set, w_add, w_sub, w_mul, w_fdiv, w_mod, w_pow, w_neg, w_lt, w_le, w_gt, w_ge, w_eq, w_ne, w_is, w_isnot, w_in, w_notin, w_chn, c_lt, c_le, c_gt, c_ge, n_int, n_non, n_tup, n_lst, n_str, n_h, t_bl, i_tup, i_lst, i_scr, i_set, x_set, l_set, l_lst, l_tup, l_scr, b_int, b_bl, b_abs, b_min2, b_max2, a_set, ar_set, ct_ll, sl_l, at_0, at_1, at_2, ix_0, ix_1, fill, ok_, np_, List.getD_cons_zero, List.getD_cons_succ, List.length_cons, List.length_nil, List.set_cons_zero, List.set_cons_succ, gl_0, gl_1, true_and, and_true, if_true, if_false, Bool.not_eq_true', Bool.false_eq_true, g_lst, wEq_int, Bool.xor_false, S_2]
    refine pick_step hb (by omega) (by omega) hq fun n8 μ x y a8 b8 hb hq => ?_
    try simp (decide := true) only [sSs, sS, sE, sBs, sEs, sTs, sI, rd, tOf, tOfB, getS, setS, wipeS, endK, nw_t, nw_f, partE, allT, asgT, asgL, T.bl.injEq, exists_eq_left', exists_eq_left, Option.some.injEq, decide_eq_true_eq, Mu.set_same, Mu.set_set, w_add, w_sub, w_mul, w_fdiv, w_mod, w_pow, w_neg, w_lt, w_le, w_gt, w_ge, w_eq, w_ne, w_is, w_isnot, w_in, w_notin, w_chn, c_lt, c_le, c_gt, c_ge, n_int, n_non, n_tup, n_lst, n_str, n_h, t_bl, i_tup, i_lst, i_scr, i_set, x_set, l_set, l_lst, l_tup, l_scr, b_int, b_bl, b_abs, b_min2, b_max2, a_set, ar_set, ct_ll, sl_l, at_0, at_1, at_2, ix_0, ix_1, fill, ok_, np_, List.getD_cons_zero, List.getD_cons_succ, List.length_cons, List.length_nil, List.set_cons_zero, List.set_cons_succ, gl_0, gl_1, true_and, and_true, if_true, if_false, Bool.not_eq_true', Bool.false_eq_true, g_lst, wEq_int, Bool.xor_false, S_2]
    split
    · exact fin hb hq (.add none u)
    · exact fin hb hq (.add (some g) u)
  · simp (decide := true) only [sSs, sS, sE, sBs, sEs, sTs, sI, rd, tOf, tOfB, getS, setS, wipeS, endK, nw_t, nw_f, partE, allT, asgT, asgL, T.bl.injEq, exists_eq_left', exists_eq_left, Option.some.injEq, decide_eq_true_eq, Mu.set_same, Mu.set_set, w_add, w_sub, w_mul, w_fdiv, w_mod, w_pow, w_neg, w_lt, w_le, w_gt, w_ge, w_eq, w_ne, w_is, w_isnot, w_in, w_notin, w_chn, c_lt, c_le, c_gt, c_ge, n_int, n_non, n_tup, n_lst, n_str, n_h, t_bl, i_tup, i_lst, i_scr, i_set, x_set, l_set, l_lst, l_tup, l_scr, b_int, b_bl, b_abs, b_min2, b_max2, a_set, ar_set, ct_ll, sl_l, at_0, at_1, at_2, ix_0, ix_1, fill, ok_, np_, List.getD_cons_zero, List.getD_cons_succ, List.length_cons, List.length_nil, List.set_cons_zero, List.set_cons_succ, gl_0, gl_1, true_and, and_true, if_true, if_false, Bool.not_eq_true', Bool.false_eq_true, g_lst, wEq_int, Bool.xor_false, S_2, S_3, gr]
    refine pick_step hb (by omega) (by omega) hq fun n8 μ x y a8 b8 hb hq => ?_
    try simp (decide := true) only [sSs, sS, sE, sBs, sEs, sTs, sI, rd, tOf, tOfB, getS, setS, wipeS, endK, nw_t, nw_f, partE, allT, asgT, asgL, T.bl.injEq, exists_eq_left', exists_eq_left, Option.some.injEq, decide_eq_true_eq, Mu.set_same, Mu.set_set, w_add, w_sub, w_mul, w_fdiv, w_mod, w_pow, w_neg, w_lt, w_le, w_gt, w_ge, w_eq, w_ne, w_is, w_isnot, w_in, w_notin, w_chn, c_lt, c_le, c_gt, c_ge, n_int, n_non, n_tup, n_lst, n_str, n_h, t_bl, i_tup, i_lst, i_scr, i_set, x_set, l_set, l_lst, l_tup, l_scr, b_int, b_bl, b_abs, b_min2, b_max2, a_set, ar_set, ct_ll, sl_l, at_0, at_1, at_2, ix_0, ix_1, fill, ok_, np_, List.getD_cons_zero, List.getD_cons_succ, List.length_cons, List.length_nil, List.set_cons_zero, List.set_cons_succ, gl_0, gl_1, true_and, and_true, if_true, if_false, Bool.not_eq_true', Bool.false_eq_true, g_lst, S_2]
    refine pick_step hb (by omega) (by omega) hq fun n9 μ x y a9 b9 hb hq => ?_
    try simp (decide := true) only [sSs, sS, sE, sBs, sEs, sTs, sI, rd, tOf, tOfB, getS, setS, wipeS, endK, nw_t, nw_f, partE, allT, asgT, asgL, T.bl.injEq, exists_eq_left', exists_eq_left, Option.some.injEq, decide_eq_true_eq, Mu.set_same, Mu.set_set, w_add, w_sub, w_mul, w_fdiv, w_mod, w_pow, w_neg, w_lt, w_le, w_gt, w_ge, w_eq, w_ne, w_is, w_isnot, w_in, w_notin, w_chn, c_lt, c_le, c_gt, c_ge, n_int, n_non, n_tup, n_lst, n_str, n_h, t_bl, i_tup, i_lst, i_scr, i_set, x_set, l_set, l_lst, l_tup, l_scr, b_int, b_bl, b_abs, b_min2, b_max2, a_set, ar_set, ct_ll, sl_l, at_0, at_1, at_2, ix_0, ix_1, fill, ok_, np_, List.getD_cons_zero, List.getD_cons_succ, List.length_cons, List.length_nil, List.set_cons_zero, List.set_cons_succ, gl_0, gl_1, true_and, and_true, if_true, if_false, Bool.not_eq_true', Bool.false_eq_true, g_lst, S_2]
    refine ⟨G, g, rfl, isG G g, rfl, ?_⟩
    cases hg : isG G g with
    | false =>
      try simp (decide := true) only [sSs, sS, sE, sBs, sEs, sTs, sI, rd, tOf, tOfB, getS, setS, wipeS, endK, nw_t, nw_f, partE, allT, asgT, asgL, T.bl.injEq, exists_eq_left', exists_eq_left, Option.some.injEq, decide_eq_true_eq, Mu.set_same, Mu.set_set, w_add, w_sub, w_mul, w_fdiv, w_mod, w_pow, w_neg, w_lt, w_le, w_gt, w_ge, w_eq, w_ne, w_is, w_isnot, w_in, w_notin, w_chn, c_lt, c_le, c_gt, c_ge, n_int, n_non, n_tup, n_lst, n_str, n_h, t_bl, i_tup, i_lst, i_scr, i_set, x_set, l_set, l_lst, l_tup, l_scr, b_int, b_bl, b_abs, b_min2, b_max2, a_set, ar_set, ct_ll, sl_l, at_0, at_1, at_2, ix_0, ix_1, fill, ok_, np_, List.getD_cons_zero, List.getD_cons_succ, List.length_cons, List.length_nil, List.set_cons_zero, List.set_cons_succ, gl_0, gl_1, true_and, and_true, if_true, if_false, Bool.not_eq_true', Bool.false_eq_true, g_lst, S_2]
      refine pick_step hb (by simp) (by simp) hq fun n10 μ x y a10 b10 hb hq => ?_
      try simp (decide := true) only [sSs, sS, sE, sBs, sEs, sTs, sI, rd, tOf, tOfB, getS, setS, wipeS, endK, nw_t, nw_f, partE, allT, asgT, asgL, T.bl.injEq, exists_eq_left', exists_eq_left, Option.some.injEq, decide_eq_true_eq, Mu.set_same, Mu.set_set, w_add, w_sub, w_mul, w_fdiv, w_mod, w_pow, w_neg, w_lt, w_le, w_gt, w_ge, w_eq, w_ne, w_is, w_isnot, w_in, w_notin, w_chn, c_lt, c_le, c_gt, c_ge, n_int, n_non, n_tup, n_lst, n_str, n_h, t_bl, i_tup, i_lst, i_scr, i_set, x_set, l_set, l_lst, l_tup, l_scr, b_int, b_bl, b_abs, b_min2, b_max2, a_set, ar_set, ct_ll, sl_l, at_0, at_1, at_2, ix_0, ix_1, fill, ok_, np_, List.getD_cons_zero, List.getD_cons_succ, List.length_cons, List.length_nil, List.set_cons_zero, List.set_cons_succ, gl_0, gl_1, true_and, and_true, if_true, if_false, Bool.not_eq_true', Bool.false_eq_true, g_lst, S_2]
      refine at_ints a10 (by simpa using b10) (fun v hv => ?_) fun u => ?_
      · simp only [List.mem_cons, List.mem_nil_iff, or_false] at hv
        rcases hv with rfl | rfl | rfl | rfl | rfl | rfl <;> exact ⟨_, rfl⟩
      exact fin hb hq (.lend g u)
    | true =>
      obtain ⟨h1, h2, h3⟩ := isG_of hg
      obtain ⟨k, rfl⟩ := Int.eq_ofNat_of_zero_le h1
      simp only [Int.toNat_natCast] at h3
      try simp (decide := true) only [sSs, sS, sE, sBs, sEs, sTs, sI, rd, tOf, tOfB, getS, setS, wipeS, endK, nw_t, nw_f, partE, allT, asgT, asgL, T.bl.injEq, exists_eq_left', exists_eq_left, Option.some.injEq, decide_eq_true_eq, Mu.set_same, Mu.set_set, w_add, w_sub, w_mul, w_fdiv, w_mod, w_pow, w_neg, w_lt, w_le, w_gt, w_ge, w_eq, w_ne, w_is, w_isnot, w_in, w_notin, w_chn, c_lt, c_le, c_gt, c_ge, n_int, n_non, n_tup, n_lst, n_str, n_h, t_bl, i_tup, i_lst, i_scr, i_set, x_set, l_set, l_lst, l_tup, l_scr, b_int, b_bl, b_abs, b_min2, b_max2, a_set, ar_set, ct_ll, sl_l, at_0, at_1, at_2, ix_0, ix_1, fill, ok_, np_, List.getD_cons_zero, List.getD_cons_succ, List.length_cons, List.length_nil, List.set_cons_zero, List.set_cons_succ, gl_0, gl_1, true_and, and_true, if_true, if_false, Bool.not_eq_true', Bool.false_eq_true, g_lst, S_6]
      refine ⟨G, k, rfl, hw, h3, hn, ?_⟩
      try simp (decide := true) only [sSs, sS, sE, sBs, sEs, sTs, sI, rd, tOf, tOfB, getS, setS, wipeS, endK, nw_t, nw_f, partE, allT, asgT, asgL, T.bl.injEq, exists_eq_left', exists_eq_left, Option.some.injEq, decide_eq_true_eq, Mu.set_same, Mu.set_set, w_add, w_sub, w_mul, w_fdiv, w_mod, w_pow, w_neg, w_lt, w_le, w_gt, w_ge, w_eq, w_ne, w_is, w_isnot, w_in, w_notin, w_chn, c_lt, c_le, c_gt, c_ge, n_int, n_non, n_tup, n_lst, n_str, n_h, t_bl, i_tup, i_lst, i_scr, i_set, x_set, l_set, l_lst, l_tup, l_scr, b_int, b_bl, b_abs, b_min2, b_max2, a_set, ar_set, ct_ll, sl_l, at_0, at_1, at_2, ix_0, ix_1, fill, ok_, np_, List.getD_cons_zero, List.getD_cons_succ, List.length_cons, List.length_nil, List.set_cons_zero, List.set_cons_succ, gl_0, gl_1, true_and, and_true, if_true, if_false, Bool.not_eq_true', Bool.false_eq_true, g_lst, S_2, atI_nat, g_get h3, List.cons_append, List.nil_append]
      refine pick_step hb (by simp) (by simp) hq fun n10 μ x y a10 b10 hb hq => ?_
      try simp (decide := true) only [sSs, sS, sE, sBs, sEs, sTs, sI, rd, tOf, tOfB, getS, setS, wipeS, endK, nw_t, nw_f, partE, allT, asgT, asgL, T.bl.injEq, exists_eq_left', exists_eq_left, Option.some.injEq, decide_eq_true_eq, Mu.set_same, Mu.set_set, w_add, w_sub, w_mul, w_fdiv, w_mod, w_pow, w_neg, w_lt, w_le, w_gt, w_ge, w_eq, w_ne, w_is, w_isnot, w_in, w_notin, w_chn, c_lt, c_le, c_gt, c_ge, n_int, n_non, n_tup, n_lst, n_str, n_h, t_bl, i_tup, i_lst, i_scr, i_set, x_set, l_set, l_lst, l_tup, l_scr, b_int, b_bl, b_abs, b_min2, b_max2, a_set, ar_set, ct_ll, sl_l, at_0, at_1, at_2, ix_0, ix_1, fill, ok_, np_, List.getD_cons_zero, List.getD_cons_succ, List.length_cons, List.length_nil, List.set_cons_zero, List.set_cons_succ, gl_0, gl_1, true_and, and_true, if_true, if_false, Bool.not_eq_true', Bool.false_eq_true, g_lst, S_2]
      refine at_ints a10 (by simpa using b10) (fun v hv => ?_) fun u => ?_
      · simp only [List.mem_cons, List.mem_nil_iff, or_false] at hv
        rcases hv with rfl | rfl | rfl | rfl | rfl | rfl | rfl | rfl | rfl | rfl | rfl <;> exact ⟨_, rfl⟩
      exact fin hb hq (.lend k u)
  · simp (decide := true) only [sSs, sS, sE, sBs, sEs, sTs, sI, rd, tOf, tOfB, getS, setS, wipeS, endK, nw_t, nw_f, partE, allT, asgT, asgL, T.bl.injEq, exists_eq_left', exists_eq_left, Option.some.injEq, decide_eq_true_eq, Mu.set_same, Mu.set_set, w_add, w_sub, w_mul, w_fdiv, w_mod, w_pow, w_neg, w_lt, w_le, w_gt, w_ge, w_eq, w_ne, w_is, w_isnot, w_in, w_notin, w_chn, c_lt, c_le, c_gt, c_ge, n_int, n_non, n_tup, n_lst, n_str, n_h, t_bl, i_tup, i_lst, i_scr, i_set, x_set, l_set, l_lst, l_tup, l_scr, b_int, b_bl, b_abs, b_min2, b_max2, a_set, ar_set, ct_ll, sl_l, at_0, at_1, at_2, ix_0, ix_1, fill, ok_, np_, List.getD_cons_zero, List.getD_cons_succ, List.length_cons, List.length_nil, List.set_cons_zero, List.set_cons_succ, gl_0, gl_1, true_and, and_true, if_true, if_false, Bool.not_eq_true', Bool.false_eq_true, g_lst, wEq_int, Bool.xor_false, S_2]
    exact fin hb hq (.lim g u)
  · simp (decide := true) only [sSs, sS, sE, sBs, sEs, sTs, sI, rd, tOf, tOfB, getS, setS, wipeS, endK, nw_t, nw_f, partE, allT, asgT, asgL, T.bl.injEq, exists_eq_left', exists_eq_left, Option.some.injEq, decide_eq_true_eq, Mu.set_same, Mu.set_set, w_add, w_sub, w_mul, w_fdiv, w_mod, w_pow, w_neg, w_lt, w_le, w_gt, w_ge, w_eq, w_ne, w_is, w_isnot, w_in, w_notin, w_chn, c_lt, c_le, c_gt, c_ge, n_int, n_non, n_tup, n_lst, n_str, n_h, t_bl, i_tup, i_lst, i_scr, i_set, x_set, l_set, l_lst, l_tup, l_scr, b_int, b_bl, b_abs, b_min2, b_max2, a_set, ar_set, ct_ll, sl_l, at_0, at_1, at_2, ix_0, ix_1, fill, ok_, np_, List.getD_cons_zero, List.getD_cons_succ, List.length_cons, List.length_nil, List.set_cons_zero, List.set_cons_succ, gl_0, gl_1, true_and, and_true, if_true, if_false, Bool.not_eq_true', Bool.false_eq_true, g_lst, wEq_int, Bool.xor_false, S_2, List.length_map]
    refine pick_step hb (by omega) (by omega) hq fun n8 μ x y a8 b8 hb hq => ?_
    try simp (decide := true) only [sSs, sS, sE, sBs, sEs, sTs, sI, rd, tOf, tOfB, getS, setS, wipeS, endK, nw_t, nw_f, partE, allT, asgT, asgL, T.bl.injEq, exists_eq_left', exists_eq_left, Option.some.injEq, decide_eq_true_eq, Mu.set_same, Mu.set_set, w_add, w_sub, w_mul, w_fdiv, w_mod, w_pow, w_neg, w_lt, w_le, w_gt, w_ge, w_eq, w_ne, w_is, w_isnot, w_in, w_notin, w_chn, c_lt, c_le, c_gt, c_ge, n_int, n_non, n_tup, n_lst, n_str, n_h, t_bl, i_tup, i_lst, i_scr, i_set, x_set, l_set, l_lst, l_tup, l_scr, b_int, b_bl, b_abs, b_min2, b_max2, a_set, ar_set, ct_ll, sl_l, at_0, at_1, at_2, ix_0, ix_1, fill, ok_, np_, List.getD_cons_zero, List.getD_cons_succ, List.length_cons, List.length_nil, List.set_cons_zero, List.set_cons_succ, gl_0, gl_1, true_and, and_true, if_true, if_false, Bool.not_eq_true', Bool.false_eq_true, g_lst, wEq_int, Bool.xor_false, S_2, List.length_map]
    refine pick_step hb (by omega) (by omega) hq fun n9 μ x y a9 b9 hb hq => ?_
    try simp (decide := true) only [sSs, sS, sE, sBs, sEs, sTs, sI, rd, tOf, tOfB, getS, setS, wipeS, endK, nw_t, nw_f, partE, allT, asgT, asgL, T.bl.injEq, exists_eq_left', exists_eq_left, Option.some.injEq, decide_eq_true_eq, Mu.set_same, Mu.set_set, w_add, w_sub, w_mul, w_fdiv, w_mod, w_pow, w_neg, w_lt, w_le, w_gt, w_ge, w_eq, w_ne, w_is, w_isnot, w_in, w_notin, w_chn, c_lt, c_le, c_gt, c_ge, n_int, n_non, n_tup, n_lst, n_str, n_h, t_bl, i_tup, i_lst, i_scr, i_set, x_set, l_set, l_lst, l_tup, l_scr, b_int, b_bl, b_abs, b_min2, b_max2, a_set, ar_set, ct_ll, sl_l, at_0, at_1, at_2, ix_0, ix_1, fill, ok_, np_, List.getD_cons_zero, List.getD_cons_succ, List.length_cons, List.length_nil, List.set_cons_zero, List.set_cons_succ, gl_0, gl_1, true_and, and_true, if_true, if_false, Bool.not_eq_true', Bool.false_eq_true, g_lst, wEq_int, Bool.xor_false, S_2, List.length_map]
    obtain ⟨v, ev, hv⟩ := at_ex (xs := [T.non, T.int n8, T.int (0 - 1), T.int g]) a9 (by simpa using b9)
    refine ⟨v, ev, ?_⟩
    have hv : ∃ j, v = oT j := by
      simp only [List.mem_cons, List.mem_nil_iff, or_false] at hv
      rcases hv with rfl | rfl | rfl | rfl
      · exact ⟨none, rfl⟩
      · exact ⟨some _, rfl⟩
      · exact ⟨some _, rfl⟩
      · exact ⟨some _, rfl⟩
    obtain ⟨j, rfl⟩ := hv
    try simp (decide := true) only [sSs, sS, sE, sBs, sEs, sTs, sI, rd, tOf, tOfB, getS, setS, wipeS, endK, nw_t, nw_f, partE, allT, asgT, asgL, T.bl.injEq, exists_eq_left', exists_eq_left, Option.some.injEq, decide_eq_true_eq, Mu.set_same, Mu.set_set, w_add, w_sub, w_mul, w_fdiv, w_mod, w_pow, w_neg, w_lt, w_le, w_gt, w_ge, w_eq, w_ne, w_is, w_isnot, w_in, w_notin, w_chn, c_lt, c_le, c_gt, c_ge, n_int, n_non, n_tup, n_lst, n_str, n_h, t_bl, i_tup, i_lst, i_scr, i_set, x_set, l_set, l_lst, l_tup, l_scr, b_int, b_bl, b_abs, b_min2, b_max2, a_set, ar_set, ct_ll, sl_l, at_0, at_1, at_2, ix_0, ix_1, fill, ok_, np_, List.getD_cons_zero, List.getD_cons_succ, List.length_cons, List.length_nil, List.set_cons_zero, List.set_cons_succ, gl_0, gl_1, true_and, and_true, if_true, if_false, Bool.not_eq_true', Bool.false_eq_true, g_lst, wEq_int, Bool.xor_false, S_2, List.length_map]
    refine pick_step hb (by omega) (by omega) hq fun n10 μ x y a10 b10 hb hq => ?_
    try simp (decide := true) only [sSs, sS, sE, sBs, sEs, sTs, sI, rd, tOf, tOfB, getS, setS, wipeS, endK, nw_t, nw_f, partE, allT, asgT, asgL, T.bl.injEq, exists_eq_left', exists_eq_left, Option.some.injEq, decide_eq_true_eq, Mu.set_same, Mu.set_set, w_add, w_sub, w_mul, w_fdiv, w_mod, w_pow, w_neg, w_lt, w_le, w_gt, w_ge, w_eq, w_ne, w_is, w_isnot, w_in, w_notin, w_chn, c_lt, c_le, c_gt, c_ge, n_int, n_non, n_tup, n_lst, n_str, n_h, t_bl, i_tup, i_lst, i_scr, i_set, x_set, l_set, l_lst, l_tup, l_scr, b_int, b_bl, b_abs, b_min2, b_max2, a_set, ar_set, ct_ll, sl_l, at_0, at_1, at_2, ix_0, ix_1, fill, ok_, np_, List.getD_cons_zero, List.getD_cons_succ, List.length_cons, List.length_nil, List.set_cons_zero, List.set_cons_succ, gl_0, gl_1, true_and, and_true, if_true, if_false, Bool.not_eq_true', Bool.false_eq_true, g_lst, wEq_int, Bool.xor_false, S_2, List.length_map]
    split
    · refine pick_step hb (by split <;> omega) (by split <;> omega) hq fun n11 μ x y a11 b11 hb hq => ?_
      try simp (decide := true) only [sSs, sS, sE, sBs, sEs, sTs, sI, rd, tOf, tOfB, getS, setS, wipeS, endK, nw_t, nw_f, partE, allT, asgT, asgL, T.bl.injEq, exists_eq_left', exists_eq_left, Option.some.injEq, decide_eq_true_eq, Mu.set_same, Mu.set_set, w_add, w_sub, w_mul, w_fdiv, w_mod, w_pow, w_neg, w_lt, w_le, w_gt, w_ge, w_eq, w_ne, w_is, w_isnot, w_in, w_notin, w_chn, c_lt, c_le, c_gt, c_ge, n_int, n_non, n_tup, n_lst, n_str, n_h, t_bl, i_tup, i_lst, i_scr, i_set, x_set, l_set, l_lst, l_tup, l_scr, b_int, b_bl, b_abs, b_min2, b_max2, a_set, ar_set, ct_ll, sl_l, at_0, at_1, at_2, ix_0, ix_1, fill, ok_, np_, List.getD_cons_zero, List.getD_cons_succ, List.length_cons, List.length_nil, List.set_cons_zero, List.set_cons_succ, gl_0, gl_1, true_and, and_true, if_true, if_false, Bool.not_eq_true', Bool.false_eq_true, g_lst]
      exact fin hb hq (.mov g (some n11))
    · exact fin hb hq (.mov g j)

theorem strOk_of (s : Str) (h : PyData.strOk s = true := by decide +kernel) : PyData.strOk s = true := h
theorem word_ok : ∀ c, PyData.strOk (wordT c) = true
  | 0 => by decide +kernel
  | 1 => by decide +kernel
  | _ + 2 => by show PyData.strOk "refused" = true; decide +kernel
theorem word_done (c : Nat) : (wordT c == ("done" : Str)) = false := by
  match c with
  | 0 => decide +kernel
  | 1 => decide +kernel
  | _ + 2 => show (("refused" : Str) == ("done" : Str)) = false; decide +kernel
theorem len_due {G : Gs} {o : Op} (hn : G.length ≤ 40) : (dueG G o).2.length ≤ 40 := by
  cases o with
  | add one two =>
    simp only [dueG]
    split
    · exact hn
    · split
      · exact hn
      · split
        · exact hn
        · rename_i h
          simp only [List.length_append, List.length_singleton]
          omega
  | lend g two =>
    simp only [dueG]
    repeat (first | exact hn | (rw [len_put]; exact hn) | split)
  | lim g two =>
    simp only [dueG]
    repeat (first | exact hn | (rw [len_put]; exact hn) | split)
  | mov g two =>
    simp only [dueG]
    repeat (first | exact hn | (rw [len_put]; exact hn) | split)
theorem vc18 : VC PP u_law_step_right spStep := by
  intro ts μ Q X hl hS
  obtain ⟨b, x, y, a, p, q, r, G, rfl, hb, hr, hw, hn, bp, bq, br, hq⟩ := hS
  clear hl
  show sSs PP s_law_step_right (endK Q X) [some (.h b), some (.h a), some (sT G), none, none, none, none, none, none, none] μ
  simp (decide := true) only [s_law_step_right, sT, sSs, sS, sE, sBs, sEs, sTs, sI, rd, tOf, tOfB, getS, setS, wipeS, endK, nw_t, nw_f, partE, allT, asgT, asgL, T.bl.injEq, exists_eq_left', exists_eq_left, Option.some.injEq, decide_eq_true_eq, Mu.set_same, Mu.set_set, w_add, w_sub, w_mul, w_fdiv, w_mod, w_pow, w_neg, w_lt, w_le, w_gt, w_ge, w_eq, w_ne, w_is, w_isnot, w_in, w_notin, w_chn, c_lt, c_le, c_gt, c_ge, n_int, n_non, n_tup, n_lst, n_str, n_h, t_bl, i_tup, i_lst, i_scr, i_set, x_set, l_set, l_lst, l_tup, l_scr, b_int, b_bl, b_abs, b_min2, b_max2, a_set, ar_set, ct_ll, sl_l, at_0, at_1, at_2, ix_0, ix_1, fill, ok_, np_, List.getD_cons_zero, List.getD_cons_succ, List.length_cons, List.length_nil, List.set_cons_zero, List.set_cons_succ, gl_0, gl_1, true_and, and_true, if_true, if_false, Bool.not_eq_true', Bool.false_eq_true, g_lst, S_7, S_8, S_17]
  refine ⟨b, x, y, G, rfl, hb, hw, by omega, fun o x' y' => ?_⟩
  have ba : b ≠ a := fun e => by rw [e, hr.ins] at hb; cases hb
  have hr' : Rep (μ.set b (.lst [.int x', .int y'])) a p q r G := hr.keep (D := [b]) (Fr.set (.inl (by simp))) (by simp [Ne.symm ba]) (by simp [Ne.symm bp]) (by simp [Ne.symm bq]) (by simp [Ne.symm br])
  have hf : Fr μ (μ.set b (.lst [.int x', .int y'])) [b, p, q, r] := Fr.set (.inl (by simp))
  have hb' : (μ.set b (.lst [.int x', .int y'])) b = some (.lst [.int x', .int y']) := Mu.set_same
  generalize μ.set b (.lst [.int x', .int y']) = μ1 at hr' hf hb'
  try simp (decide := true) only [sSs, sS, sE, sBs, sEs, sTs, sI, rd, tOf, tOfB, getS, setS, wipeS, endK, nw_t, nw_f, partE, allT, asgT, asgL, T.bl.injEq, exists_eq_left', exists_eq_left, Option.some.injEq, decide_eq_true_eq, Mu.set_same, Mu.set_set, w_add, w_sub, w_mul, w_fdiv, w_mod, w_pow, w_neg, w_lt, w_le, w_gt, w_ge, w_eq, w_ne, w_is, w_isnot, w_in, w_notin, w_chn, c_lt, c_le, c_gt, c_ge, n_int, n_non, n_tup, n_lst, n_str, n_h, t_bl, i_tup, i_lst, i_scr, i_set, x_set, l_set, l_lst, l_tup, l_scr, b_int, b_bl, b_abs, b_min2, b_max2, a_set, ar_set, ct_ll, sl_l, at_0, at_1, at_2, ix_0, ix_1, fill, ok_, np_, List.getD_cons_zero, List.getD_cons_succ, List.length_cons, List.length_nil, List.set_cons_zero, List.set_cons_succ, gl_0, gl_1, true_and, and_true, if_true, if_false, Bool.not_eq_true', Bool.false_eq_true, g_lst, S_8]
  refine ⟨G, o, rfl, hw, hn, ?_⟩
  try simp (decide := true) only [sSs, sS, sE, sBs, sEs, sTs, sI, rd, tOf, tOfB, getS, setS, wipeS, endK, nw_t, nw_f, partE, allT, asgT, asgL, T.bl.injEq, exists_eq_left', exists_eq_left, Option.some.injEq, decide_eq_true_eq, Mu.set_same, Mu.set_set, w_add, w_sub, w_mul, w_fdiv, w_mod, w_pow, w_neg, w_lt, w_le, w_gt, w_ge, w_eq, w_ne, w_is, w_isnot, w_in, w_notin, w_chn, c_lt, c_le, c_gt, c_ge, n_int, n_non, n_tup, n_lst, n_str, n_h, t_bl, i_tup, i_lst, i_scr, i_set, x_set, l_set, l_lst, l_tup, l_scr, b_int, b_bl, b_abs, b_min2, b_max2, a_set, ar_set, ct_ll, sl_l, at_0, at_1, at_2, ix_0, ix_1, fill, ok_, np_, List.getD_cons_zero, List.getD_cons_succ, List.length_cons, List.length_nil, List.set_cons_zero, List.set_cons_succ, gl_0, gl_1, true_and, and_true, if_true, if_false, Bool.not_eq_true', Bool.false_eq_true, g_lst, S_17]
  refine ⟨a, p, q, r, G, _, _, _, rfl, hr', hw, hn, .inl ⟨o, rfl, fun c μ' hc hr2 hf2 => ?_, fun μ' hc hr2 hf2 => ?_⟩⟩
  · rw [hc]
    have b2 : μ' b = some (.lst [.int x', .int y']) := hf2.get hb' (by simp [bp, bq, br])
    have f2 : Fr μ μ' [b, p, q, r] := hf.trans (hf2.mono (by intro z hz; exact List.mem_cons_of_mem _ hz))
    try simp (decide := true) only [sSs, sS, sE, sBs, sEs, sTs, sI, rd, tOf, tOfB, getS, setS, wipeS, endK, nw_t, nw_f, partE, allT, asgT, asgL, T.bl.injEq, exists_eq_left', exists_eq_left, Option.some.injEq, decide_eq_true_eq, Mu.set_same, Mu.set_set, w_add, w_sub, w_mul, w_fdiv, w_mod, w_pow, w_neg, w_lt, w_le, w_gt, w_ge, w_eq, w_ne, w_is, w_isnot, w_in, w_notin, w_chn, c_lt, c_le, c_gt, c_ge, n_int, n_non, n_tup, n_lst, n_str, n_h, t_bl, i_tup, i_lst, i_scr, i_set, x_set, l_set, l_lst, l_tup, l_scr, b_int, b_bl, b_abs, b_min2, b_max2, a_set, ar_set, ct_ll, sl_l, at_0, at_1, at_2, ix_0, ix_1, fill, ok_, np_, List.getD_cons_zero, List.getD_cons_succ, List.length_cons, List.length_nil, List.set_cons_zero, List.set_cons_succ, gl_0, gl_1, true_and, and_true, if_true, if_false, Bool.not_eq_true', Bool.false_eq_true, g_lst, dueT, wEq_str (word_ok c) (word_ok c), beq_self_eq_true, Bool.xor_false]
    exact hq μ' G _ _ hw hn hr2 b2 f2
  · rw [hc]
    have b2 : μ' b = some (.lst [.int x', .int y']) := hf2.get hb' (by simp [bp, bq, br])
    have f2 : Fr μ μ' [b, p, q, r] := hf.trans (hf2.mono (by intro z hz; exact List.mem_cons_of_mem _ hz))
    have sd : PyData.strOk "done" = true := by decide +kernel
    have len : (dueG G o).2.length ≤ 40 := len_due hn
    have fin := hq μ' (dueG G o).2 _ _ (wf_due hw o) len hr2 b2 f2
    cases o with
    | add i j =>
      try simp (decide := true) only [sSs, sS, sE, sBs, sEs, sTs, sI, rd, tOf, tOfB, getS, setS, wipeS, endK, nw_t, nw_f, partE, allT, asgT, asgL, T.bl.injEq, exists_eq_left', exists_eq_left, Option.some.injEq, decide_eq_true_eq, Mu.set_same, Mu.set_set, w_add, w_sub, w_mul, w_fdiv, w_mod, w_pow, w_neg, w_lt, w_le, w_gt, w_ge, w_eq, w_ne, w_is, w_isnot, w_in, w_notin, w_chn, c_lt, c_le, c_gt, c_ge, n_int, n_non, n_tup, n_lst, n_str, n_h, t_bl, i_tup, i_lst, i_scr, i_set, x_set, l_set, l_lst, l_tup, l_scr, b_int, b_bl, b_abs, b_min2, b_max2, a_set, ar_set, ct_ll, sl_l, at_0, at_1, at_2, ix_0, ix_1, fill, ok_, np_, List.getD_cons_zero, List.getD_cons_succ, List.length_cons, List.length_nil, List.set_cons_zero, List.set_cons_succ, gl_0, gl_1, true_and, and_true, if_true, if_false, Bool.not_eq_true', Bool.false_eq_true, g_lst, dueT, wEq_str sd sd, beq_self_eq_true, Bool.xor_true, Op.args, Op.ret, wEq_int, List.length_map, Bool.not_true]
      exact ⟨rfl, fin⟩
    | lend i j =>
      try simp (decide := true) only [sSs, sS, sE, sBs, sEs, sTs, sI, rd, tOf, tOfB, getS, setS, wipeS, endK, nw_t, nw_f, partE, allT, asgT, asgL, T.bl.injEq, exists_eq_left', exists_eq_left, Option.some.injEq, decide_eq_true_eq, Mu.set_same, Mu.set_set, w_add, w_sub, w_mul, w_fdiv, w_mod, w_pow, w_neg, w_lt, w_le, w_gt, w_ge, w_eq, w_ne, w_is, w_isnot, w_in, w_notin, w_chn, c_lt, c_le, c_gt, c_ge, n_int, n_non, n_tup, n_lst, n_str, n_h, t_bl, i_tup, i_lst, i_scr, i_set, x_set, l_set, l_lst, l_tup, l_scr, b_int, b_bl, b_abs, b_min2, b_max2, a_set, ar_set, ct_ll, sl_l, at_0, at_1, at_2, ix_0, ix_1, fill, ok_, np_, List.getD_cons_zero, List.getD_cons_succ, List.length_cons, List.length_nil, List.set_cons_zero, List.set_cons_succ, gl_0, gl_1, true_and, and_true, if_true, if_false, Bool.not_eq_true', Bool.false_eq_true, g_lst, dueT, wEq_str sd sd, beq_self_eq_true, Bool.xor_true, Op.args, Op.ret, wEq_int, List.length_map, Bool.not_true]
      exact fin
    | lim i j =>
      try simp (decide := true) only [sSs, sS, sE, sBs, sEs, sTs, sI, rd, tOf, tOfB, getS, setS, wipeS, endK, nw_t, nw_f, partE, allT, asgT, asgL, T.bl.injEq, exists_eq_left', exists_eq_left, Option.some.injEq, decide_eq_true_eq, Mu.set_same, Mu.set_set, w_add, w_sub, w_mul, w_fdiv, w_mod, w_pow, w_neg, w_lt, w_le, w_gt, w_ge, w_eq, w_ne, w_is, w_isnot, w_in, w_notin, w_chn, c_lt, c_le, c_gt, c_ge, n_int, n_non, n_tup, n_lst, n_str, n_h, t_bl, i_tup, i_lst, i_scr, i_set, x_set, l_set, l_lst, l_tup, l_scr, b_int, b_bl, b_abs, b_min2, b_max2, a_set, ar_set, ct_ll, sl_l, at_0, at_1, at_2, ix_0, ix_1, fill, ok_, np_, List.getD_cons_zero, List.getD_cons_succ, List.length_cons, List.length_nil, List.set_cons_zero, List.set_cons_succ, gl_0, gl_1, true_and, and_true, if_true, if_false, Bool.not_eq_true', Bool.false_eq_true, g_lst, dueT, wEq_str sd sd, beq_self_eq_true, Bool.xor_true, Op.args, Op.ret, wEq_int, List.length_map, Bool.not_true]
      exact fin
    | mov i j =>
      try simp (decide := true) only [sSs, sS, sE, sBs, sEs, sTs, sI, rd, tOf, tOfB, getS, setS, wipeS, endK, nw_t, nw_f, partE, allT, asgT, asgL, T.bl.injEq, exists_eq_left', exists_eq_left, Option.some.injEq, decide_eq_true_eq, Mu.set_same, Mu.set_set, w_add, w_sub, w_mul, w_fdiv, w_mod, w_pow, w_neg, w_lt, w_le, w_gt, w_ge, w_eq, w_ne, w_is, w_isnot, w_in, w_notin, w_chn, c_lt, c_le, c_gt, c_ge, n_int, n_non, n_tup, n_lst, n_str, n_h, t_bl, i_tup, i_lst, i_scr, i_set, x_set, l_set, l_lst, l_tup, l_scr, b_int, b_bl, b_abs, b_min2, b_max2, a_set, ar_set, ct_ll, sl_l, at_0, at_1, at_2, ix_0, ix_1, fill, ok_, np_, List.getD_cons_zero, List.getD_cons_succ, List.length_cons, List.length_nil, List.set_cons_zero, List.set_cons_succ, gl_0, gl_1, true_and, and_true, if_true, if_false, Bool.not_eq_true', Bool.false_eq_true, g_lst, dueT, wEq_str sd sd, beq_self_eq_true, Bool.xor_true, Op.args, Op.ret, wEq_int, List.length_map, Bool.not_true]
      exact fin
end K98
set_option Elab.async false
set_option linter.all false
set_option maxRecDepth 100000
set_option maxHeartbeats 4000000
namespace K98
open PySem PySem.Spec PyProof.Rows L2 Co
section
variable {ng : Bool} {μ : Mu} {Q : Pq} {s t : Str} {i j u v : Int} {ns ms : List Int} {b : Addr}
theorem eq_wi (h1 : PyData.strOk s = true) (h2 : PyData.strOk t = true) : wEq ng (.tup [.str s, .int i]) (.tup [.str t, .int j]) μ Q = Q (.bl ((s == t && (i == j)) ^^ ng)) μ := by
  unfold wEq
  simp only [datM, datN, dat1, dat, Option.map_some, shp_wi h1, shp_wi h2, PyData.eqv, PyData.eqvAll, true_and, Bool.and_true]
theorem eq_wn (h1 : PyData.strOk s = true) (h2 : PyData.strOk t = true) : wEq ng (.tup [.str s, .non]) (.tup [.str t, .non]) μ Q = Q (.bl ((s == t) ^^ ng)) μ := by
  unfold wEq
  simp only [datM, datN, dat1, dat, Option.map_some, shp_wn h1, shp_wn h2, PyData.eqv, PyData.eqvAll, true_and, Bool.and_true]
theorem eq_ii : wEq ng (.tup [.int i, .int j]) (.tup [.int u, .int v]) μ Q = Q (.bl ((i == u && (j == v)) ^^ ng)) μ := by
  unfold wEq
  simp only [datM, datN, dat1, dat, Option.map_some, shp_ii, PyData.eqv, PyData.eqvAll, true_and, Bool.and_true]
theorem eq_wh (h1 : PyData.strOk s = true) (h2 : PyData.strOk t = true) (h : μ b = some (.lst (ns.map T.int))) : wEq ng (.tup [.str s, .h b]) (.tup [.str t, .lst (ms.map T.int)]) μ Q = Q (.bl ((s == t && decide (ns = ms)) ^^ ng)) μ := by
  unfold wEq
  simp only [datM, datN, dat1, dat, h, datL_ints, Option.map_some, shp_wl h1, shp_wl h2, PyData.eqv, PyData.eqvAll, eqv_ints, true_and, Bool.and_true]
end
theorem nL_ints {l : List Nat} : nL l = (l.map fun k : Nat => (k : Int)).map T.int := by unfold nL; rw [List.map_map]; rfl
theorem sd : PyData.strOk ("done" : Str) = true := by decide +kernel
theorem sm : PyData.strOk ("missing" : Str) = true := by decide +kernel
theorem ty_h {μ : Mu} {b : Addr} {xs : List T} (h : μ b = some (.lst xs)) : isTy PP μ (.h b) .tlist = true := by simp only [isTy, h]
theorem kn_h {μ : Mu} {b : Addr} {xs : List T} (h : μ b = some (.lst xs)) : tyKn μ (.h b) = true := by simp only [tyKn, h, Option.isSome_some]
theorem ty_t {μ : Mu} {xs : List T} : isTy PP μ (.tup xs) .ttuple = true := id rfl
theorem kn_t {μ : Mu} {xs : List T} : tyKn μ (.tup xs) = true := id rfl
theorem ty_l {μ : Mu} {xs : List T} : isTy PP μ (.lst xs) .tlist = true := id rfl
theorem kn_l {μ : Mu} {xs : List T} : tyKn μ (.lst xs) = true := id rfl
theorem fr_rep {μ μ' : Mu} {a p q r : Addr} {G : Gs} (h : Rep μ a p q r G) (f : Fr μ μ' []) : Rep μ' a p q r G := h.keep f (by simp) (by simp) (by simp) (by simp)
section
variable {μ : Mu} {a p q r : Addr} {G : Gs} {k : Nat} {Q : Pq} {X : Xq} {i w : Int}
theorem yes_ (hk : k < G.length) : isG G (k : Int) = true := by rw [isG_nat]; simp [hk]
theorem try4 (hr : Rep μ a p q r G) (hw : Wf G) (hn : G.length ≤ 40) (hk : k < G.length) (h : ∀ b, μ b = none → Q (.tup [.str "done", .h b]) (μ.set b (.lst (nL (lineG G k))))) : spTry [.h a, .int 4, .int (k : Int), .non] μ Q X :=
  ⟨a, p, q, r, G, 4, .int k, .non, rfl, hr, hw, hn, .inr ⟨k, rfl, .inl rfl, fun z => (Bool.noConfusion ((yes_ hk).symm.trans z)), fun _ _ => h, fun _ z => absurd z (by decide), fun _ z => absurd z (by decide)⟩⟩
theorem try5 (hr : Rep μ a p q r G) (hw : Wf G) (hn : G.length ≤ 40) (hk : k < G.length) (h : Q (.tup [.str "done", .int (usedG G k)]) μ) : spTry [.h a, .int 5, .int (k : Int), .non] μ Q X :=
  ⟨a, p, q, r, G, 5, .int k, .non, rfl, hr, hw, hn, .inr ⟨k, rfl, .inr (.inl rfl), fun z => (Bool.noConfusion ((yes_ hk).symm.trans z)), fun _ z => absurd z (by decide), fun _ _ => h, fun _ z => absurd z (by decide)⟩⟩
theorem try6 (hr : Rep μ a p q r G) (hw : Wf G) (hn : G.length ≤ 40) (hk : k < G.length) (h : Q (.tup [.str "done", .tup [.int (leastG G k), .int (firstG G k : Nat)]]) μ) : spTry [.h a, .int 6, .int (k : Int), .non] μ Q X :=
  ⟨a, p, q, r, G, 6, .int k, .non, rfl, hr, hw, hn, .inr ⟨k, rfl, .inr (.inr rfl), fun z => (Bool.noConfusion ((yes_ hk).symm.trans z)), fun _ z => absurd z (by decide), fun _ z => absurd z (by decide), fun _ _ => h⟩⟩
theorem tryM (hr : Rep μ a p q r G) (hw : Wf G) (hn : G.length ≤ 40) (hi : isG G i = false) (hw4 : w = 4 ∨ w = 5 ∨ w = 6) (h : Q (.tup [.str "missing", .non]) μ) : spTry [.h a, .int w, .int i, .non] μ Q X :=
  ⟨a, p, q, r, G, w, .int i, .non, rfl, hr, hw, hn, .inr ⟨i, rfl, hw4, fun _ => h, fun z => (Bool.noConfusion (hi.symm.trans z)), fun z => (Bool.noConfusion (hi.symm.trans z)), fun z => (Bool.noConfusion (hi.symm.trans z))⟩⟩
end
theorem vc20 : VC PP u_law_looks_right spLooks := by
  intro ts μ Q X hl hS
  obtain ⟨a, p, q, r, G, rfl, hr, hw, hn, hq⟩ := hS
  clear hl
  show sSs PP s_law_looks_right (endK Q X) [some (.h a), some (sT G), none, none, none, none, none, none] μ
  try simp (decide := true) only [s_law_looks_right, sT, sSs, sS, sE, sBs, sEs, sTs, sI, rd, tOf, tOfB, getS, setS, wipeS, endK, nw_t, nw_f, partE, allT, asgT, asgL, T.bl.injEq, exists_eq_left', exists_eq_left, Option.some.injEq, decide_eq_true_eq, Mu.set_same, Mu.set_set, w_add, w_sub, w_mul, w_fdiv, w_mod, w_pow, w_neg, w_lt, w_le, w_gt, w_ge, w_eq, w_ne, w_is, w_isnot, w_in, w_notin, w_chn, c_lt, c_le, c_gt, c_ge, n_int, n_non, n_tup, n_lst, n_str, n_h, t_bl, i_tup, i_lst, i_scr, i_set, x_set, l_set, l_lst, l_tup, l_scr, b_int, b_bl, b_abs, b_min2, b_max2, a_set, ar_set, ct_ll, sl_l, at_0, at_1, at_2, ix_0, ix_1, fill, ok_, np_, List.getD_cons_zero, List.getD_cons_succ, List.length_cons, List.length_nil, List.set_cons_zero, List.set_cons_succ, gl_0, gl_1, true_and, and_true, if_true, if_false, Bool.not_eq_true', Bool.false_eq_true, g_lst, List.length_map]
  refine ⟨by omega, by omega, ?_⟩
  rw [nrange]
  refine for_ok (fun i σ μ' => Fr μ μ' [] ∧ ∃ t2 t3 t4 t5 t6 t7, σ = [some (.h a), some (.lst (G.map gT)), t2, t3, t4, t5, t6, t7]) ⟨.refl, none, none, none, none, none, none, rfl⟩ ?_ ?_
  · rintro i x σ μ1 n hx ⟨hf, t2, t3, t4, t5, t6, t7, rfl⟩ hk
    obtain ⟨k, hk0, rfl⟩ : ∃ k, k < G.length ∧ x = T.int ((k : Nat) : Int) := by
      rw [List.getElem?_map] at hx
      obtain ⟨k, e, rfl⟩ := Option.map_eq_some_iff.mp hx
      exact ⟨k, List.mem_range.mp (List.mem_of_getElem? e), rfl⟩
    have hr1 := fr_rep hr hf
    refine ⟨trivial, ?_⟩
    try simp (decide := true) only [sSs, sS, sE, sBs, sEs, sTs, sI, rd, tOf, tOfB, getS, setS, wipeS, endK, nw_t, nw_f, partE, allT, asgT, asgL, T.bl.injEq, exists_eq_left', exists_eq_left, Option.some.injEq, decide_eq_true_eq, Mu.set_same, Mu.set_set, w_add, w_sub, w_mul, w_fdiv, w_mod, w_pow, w_neg, w_lt, w_le, w_gt, w_ge, w_eq, w_ne, w_is, w_isnot, w_in, w_notin, w_chn, c_lt, c_le, c_gt, c_ge, n_int, n_non, n_tup, n_lst, n_str, n_h, t_bl, i_tup, i_lst, i_scr, i_set, x_set, l_set, l_lst, l_tup, l_scr, b_int, b_bl, b_abs, b_min2, b_max2, a_set, ar_set, ct_ll, sl_l, at_0, at_1, at_2, ix_0, ix_1, fill, ok_, np_, List.getD_cons_zero, List.getD_cons_succ, List.length_cons, List.length_nil, List.set_cons_zero, List.set_cons_succ, gl_0, gl_1, true_and, and_true, if_true, if_false, Bool.not_eq_true', Bool.false_eq_true, g_lst, S_17]
    refine try4 hr1 hw hn hk0 fun b hb => ?_
    try simp (decide := true) only [sSs, sS, sE, sBs, sEs, sTs, sI, rd, tOf, tOfB, getS, setS, wipeS, endK, nw_t, nw_f, partE, allT, asgT, asgL, T.bl.injEq, exists_eq_left', exists_eq_left, Option.some.injEq, decide_eq_true_eq, Mu.set_same, Mu.set_set, w_add, w_sub, w_mul, w_fdiv, w_mod, w_pow, w_neg, w_lt, w_le, w_gt, w_ge, w_eq, w_ne, w_is, w_isnot, w_in, w_notin, w_chn, c_lt, c_le, c_gt, c_ge, n_int, n_non, n_tup, n_lst, n_str, n_h, t_bl, i_tup, i_lst, i_scr, i_set, x_set, l_set, l_lst, l_tup, l_scr, b_int, b_bl, b_abs, b_min2, b_max2, a_set, ar_set, ct_ll, sl_l, at_0, at_1, at_2, ix_0, ix_1, fill, ok_, np_, List.getD_cons_zero, List.getD_cons_succ, List.length_cons, List.length_nil, List.set_cons_zero, List.set_cons_succ, gl_0, gl_1, true_and, and_true, if_true, if_false, Bool.not_eq_true', Bool.false_eq_true, g_lst, Int.toNat_natCast, wEq_str sd sd, beq_self_eq_true, Bool.xor_true, Bool.not_true, kn_h Mu.set_same, ty_h Mu.set_same, S_4]
    refine ⟨G, k, rfl, hw, hk0, by omega, ?_⟩
    try simp (decide := true) only [nT, sSs, sS, sE, sBs, sEs, sTs, sI, rd, tOf, tOfB, getS, setS, wipeS, endK, nw_t, nw_f, partE, allT, asgT, asgL, T.bl.injEq, exists_eq_left', exists_eq_left, Option.some.injEq, decide_eq_true_eq, Mu.set_same, Mu.set_set, w_add, w_sub, w_mul, w_fdiv, w_mod, w_pow, w_neg, w_lt, w_le, w_gt, w_ge, w_eq, w_ne, w_is, w_isnot, w_in, w_notin, w_chn, c_lt, c_le, c_gt, c_ge, n_int, n_non, n_tup, n_lst, n_str, n_h, t_bl, i_tup, i_lst, i_scr, i_set, x_set, l_set, l_lst, l_tup, l_scr, b_int, b_bl, b_abs, b_min2, b_max2, a_set, ar_set, ct_ll, sl_l, at_0, at_1, at_2, ix_0, ix_1, fill, ok_, np_, List.getD_cons_zero, List.getD_cons_succ, List.length_cons, List.length_nil, List.set_cons_zero, List.set_cons_succ, gl_0, gl_1, true_and, and_true, if_true, if_false, Bool.not_eq_true', Bool.false_eq_true, g_lst, nL_ints, wEq_hl Mu.set_same, Bool.xor_true, Bool.not_true, S_17]
    refine ⟨by have := (hw.line hk0).len hw hk0; simp only [List.length_map]; omega, ?_⟩
    have hr2 := hr1.set (m := .lst (List.map T.int (List.map (fun k : Nat => (k : Int)) (lineG G k)) ++ [T.int 0])) hb
    have hf2 : Fr μ (μ1.set b (.lst (List.map T.int (List.map (fun k : Nat => (k : Int)) (lineG G k)) ++ [T.int 0]))) [] := hf.trans (Fr.set (.inr hb))
    generalize μ1.set b (.lst (List.map T.int (List.map (fun k : Nat => (k : Int)) (lineG G k)) ++ [T.int 0])) = μ2 at hr2 hf2
    refine try5 hr2 hw hn hk0 ?_
    try simp (decide := true) only [sSs, sS, sE, sBs, sEs, sTs, sI, rd, tOf, tOfB, getS, setS, wipeS, endK, nw_t, nw_f, partE, allT, asgT, asgL, T.bl.injEq, exists_eq_left', exists_eq_left, Option.some.injEq, decide_eq_true_eq, Mu.set_same, Mu.set_set, w_add, w_sub, w_mul, w_fdiv, w_mod, w_pow, w_neg, w_lt, w_le, w_gt, w_ge, w_eq, w_ne, w_is, w_isnot, w_in, w_notin, w_chn, c_lt, c_le, c_gt, c_ge, n_int, n_non, n_tup, n_lst, n_str, n_h, t_bl, i_tup, i_lst, i_scr, i_set, x_set, l_set, l_lst, l_tup, l_scr, b_int, b_bl, b_abs, b_min2, b_max2, a_set, ar_set, ct_ll, sl_l, at_0, at_1, at_2, ix_0, ix_1, fill, ok_, np_, List.getD_cons_zero, List.getD_cons_succ, List.length_cons, List.length_nil, List.set_cons_zero, List.set_cons_succ, gl_0, gl_1, true_and, and_true, if_true, if_false, Bool.not_eq_true', Bool.false_eq_true, g_lst, S_5]
    refine ⟨G, k, rfl, hw, hk0, by omega, ?_⟩
    try simp (decide := true) only [sSs, sS, sE, sBs, sEs, sTs, sI, rd, tOf, tOfB, getS, setS, wipeS, endK, nw_t, nw_f, partE, allT, asgT, asgL, T.bl.injEq, exists_eq_left', exists_eq_left, Option.some.injEq, decide_eq_true_eq, Mu.set_same, Mu.set_set, w_add, w_sub, w_mul, w_fdiv, w_mod, w_pow, w_neg, w_lt, w_le, w_gt, w_ge, w_eq, w_ne, w_is, w_isnot, w_in, w_notin, w_chn, c_lt, c_le, c_gt, c_ge, n_int, n_non, n_tup, n_lst, n_str, n_h, t_bl, i_tup, i_lst, i_scr, i_set, x_set, l_set, l_lst, l_tup, l_scr, b_int, b_bl, b_abs, b_min2, b_max2, a_set, ar_set, ct_ll, sl_l, at_0, at_1, at_2, ix_0, ix_1, fill, ok_, np_, List.getD_cons_zero, List.getD_cons_succ, List.length_cons, List.length_nil, List.set_cons_zero, List.set_cons_succ, gl_0, gl_1, true_and, and_true, if_true, if_false, Bool.not_eq_true', Bool.false_eq_true, g_lst, eq_wi sd sd, beq_self_eq_true, Bool.and_self, Bool.xor_true, Bool.not_true, S_17]
    refine try4 hr2 hw hn hk0 fun b2 hb2 => ?_
    try simp (decide := true) only [sSs, sS, sE, sBs, sEs, sTs, sI, rd, tOf, tOfB, getS, setS, wipeS, endK, nw_t, nw_f, partE, allT, asgT, asgL, T.bl.injEq, exists_eq_left', exists_eq_left, Option.some.injEq, decide_eq_true_eq, Mu.set_same, Mu.set_set, w_add, w_sub, w_mul, w_fdiv, w_mod, w_pow, w_neg, w_lt, w_le, w_gt, w_ge, w_eq, w_ne, w_is, w_isnot, w_in, w_notin, w_chn, c_lt, c_le, c_gt, c_ge, n_int, n_non, n_tup, n_lst, n_str, n_h, t_bl, i_tup, i_lst, i_scr, i_set, x_set, l_set, l_lst, l_tup, l_scr, b_int, b_bl, b_abs, b_min2, b_max2, a_set, ar_set, ct_ll, sl_l, at_0, at_1, at_2, ix_0, ix_1, fill, ok_, np_, List.getD_cons_zero, List.getD_cons_succ, List.length_cons, List.length_nil, List.set_cons_zero, List.set_cons_succ, gl_0, gl_1, true_and, and_true, if_true, if_false, Bool.not_eq_true', Bool.false_eq_true, g_lst, S_4]
    refine ⟨G, k, rfl, hw, hk0, by omega, ?_⟩
    try simp (decide := true) only [nT, sSs, sS, sE, sBs, sEs, sTs, sI, rd, tOf, tOfB, getS, setS, wipeS, endK, nw_t, nw_f, partE, allT, asgT, asgL, T.bl.injEq, exists_eq_left', exists_eq_left, Option.some.injEq, decide_eq_true_eq, Mu.set_same, Mu.set_set, w_add, w_sub, w_mul, w_fdiv, w_mod, w_pow, w_neg, w_lt, w_le, w_gt, w_ge, w_eq, w_ne, w_is, w_isnot, w_in, w_notin, w_chn, c_lt, c_le, c_gt, c_ge, n_int, n_non, n_tup, n_lst, n_str, n_h, t_bl, i_tup, i_lst, i_scr, i_set, x_set, l_set, l_lst, l_tup, l_scr, b_int, b_bl, b_abs, b_min2, b_max2, a_set, ar_set, ct_ll, sl_l, at_0, at_1, at_2, ix_0, ix_1, fill, ok_, np_, List.getD_cons_zero, List.getD_cons_succ, List.length_cons, List.length_nil, List.set_cons_zero, List.set_cons_succ, gl_0, gl_1, true_and, and_true, if_true, if_false, Bool.not_eq_true', Bool.false_eq_true, g_lst, nL_ints, eq_wh sd sd Mu.set_same, beq_self_eq_true, Bool.and_self, Bool.xor_true, Bool.not_true, S_17, decide_true]
    have hr3 := hr2.set (m := .lst (List.map T.int (List.map (fun k : Nat => (k : Int)) (lineG G k)))) hb2
    have hf3 : Fr μ (μ2.set b2 (.lst (List.map T.int (List.map (fun k : Nat => (k : Int)) (lineG G k))))) [] := hf2.trans (Fr.set (.inr hb2))
    generalize μ2.set b2 (.lst (List.map T.int (List.map (fun k : Nat => (k : Int)) (lineG G k)))) = μ3 at hr3 hf3
    refine try6 hr3 hw hn hk0 ?_
    try simp (decide := true) only [sSs, sS, sE, sBs, sEs, sTs, sI, rd, tOf, tOfB, getS, setS, wipeS, endK, nw_t, nw_f, partE, allT, asgT, asgL, T.bl.injEq, exists_eq_left', exists_eq_left, Option.some.injEq, decide_eq_true_eq, Mu.set_same, Mu.set_set, w_add, w_sub, w_mul, w_fdiv, w_mod, w_pow, w_neg, w_lt, w_le, w_gt, w_ge, w_eq, w_ne, w_is, w_isnot, w_in, w_notin, w_chn, c_lt, c_le, c_gt, c_ge, n_int, n_non, n_tup, n_lst, n_str, n_h, t_bl, i_tup, i_lst, i_scr, i_set, x_set, l_set, l_lst, l_tup, l_scr, b_int, b_bl, b_abs, b_min2, b_max2, a_set, ar_set, ct_ll, sl_l, at_0, at_1, at_2, ix_0, ix_1, fill, ok_, np_, List.getD_cons_zero, List.getD_cons_succ, List.length_cons, List.length_nil, List.set_cons_zero, List.set_cons_succ, gl_0, gl_1, true_and, and_true, if_true, if_false, Bool.not_eq_true', Bool.false_eq_true, g_lst, wEq_str sd sd, beq_self_eq_true, Bool.xor_true, Bool.not_true, kn_t, ty_t, S_6]
    refine ⟨G, k, rfl, hw, hk0, by omega, ?_⟩
    try simp (decide := true) only [sSs, sS, sE, sBs, sEs, sTs, sI, rd, tOf, tOfB, getS, setS, wipeS, endK, nw_t, nw_f, partE, allT, asgT, asgL, T.bl.injEq, exists_eq_left', exists_eq_left, Option.some.injEq, decide_eq_true_eq, Mu.set_same, Mu.set_set, w_add, w_sub, w_mul, w_fdiv, w_mod, w_pow, w_neg, w_lt, w_le, w_gt, w_ge, w_eq, w_ne, w_is, w_isnot, w_in, w_notin, w_chn, c_lt, c_le, c_gt, c_ge, n_int, n_non, n_tup, n_lst, n_str, n_h, t_bl, i_tup, i_lst, i_scr, i_set, x_set, l_set, l_lst, l_tup, l_scr, b_int, b_bl, b_abs, b_min2, b_max2, a_set, ar_set, ct_ll, sl_l, at_0, at_1, at_2, ix_0, ix_1, fill, ok_, np_, List.getD_cons_zero, List.getD_cons_succ, List.length_cons, List.length_nil, List.set_cons_zero, List.set_cons_succ, gl_0, gl_1, true_and, and_true, if_true, if_false, Bool.not_eq_true', Bool.false_eq_true, g_lst, eq_ii, beq_self_eq_true, Bool.and_self, Bool.xor_true, Bool.not_true]
    exact hk _ _ ⟨hf3, _, _, _, _, _, _, rfl⟩
  · rintro σ μ1 ⟨hf, t2, t3, t4, t5, t6, t7, rfl⟩
    refine ⟨trivial, ?_⟩
    have hr1 := fr_rep hr hf
    try simp (decide := true) only [sSs, sS, sE, sBs, sEs, sTs, sI, rd, tOf, tOfB, getS, setS, wipeS, endK, nw_t, nw_f, partE, allT, asgT, asgL, T.bl.injEq, exists_eq_left', exists_eq_left, Option.some.injEq, decide_eq_true_eq, Mu.set_same, Mu.set_set, w_add, w_sub, w_mul, w_fdiv, w_mod, w_pow, w_neg, w_lt, w_le, w_gt, w_ge, w_eq, w_ne, w_is, w_isnot, w_in, w_notin, w_chn, c_lt, c_le, c_gt, c_ge, n_int, n_non, n_tup, n_lst, n_str, n_h, t_bl, i_tup, i_lst, i_scr, i_set, x_set, l_set, l_lst, l_tup, l_scr, b_int, b_bl, b_abs, b_min2, b_max2, a_set, ar_set, ct_ll, sl_l, at_0, at_1, at_2, ix_0, ix_1, fill, ok_, np_, List.getD_cons_zero, List.getD_cons_succ, List.length_cons, List.length_nil, List.set_cons_zero, List.set_cons_succ, gl_0, gl_1, true_and, and_true, if_true, if_false, Bool.not_eq_true', Bool.false_eq_true, g_lst, List.length_map]
    have bads : ∀ v, v ∈ [T.int (G.length : Int), T.int (0 - 1), T.int 99] → ∃ i, v = T.int i ∧ isG G i = false := by
      intro v hv
      simp only [List.mem_cons, List.mem_nil_iff, or_false] at hv
      have ng : ∀ i : Int, (i < 0 ∨ (G.length : Int) ≤ i) → isG G i = false := fun i h => by
        unfold isG
        rcases h with h | h
        · rw [decide_eq_false (by omega : ¬ 0 ≤ i)]; rfl
        · rw [decide_eq_false (by omega : ¬ i < (G.length : Int)), Bool.and_false]
      rcases hv with rfl | rfl | rfl
      · exact ⟨_, rfl, ng _ (.inr (by omega))⟩
      · exact ⟨_, rfl, ng _ (.inl (by omega))⟩
      · exact ⟨_, rfl, ng _ (.inr (by omega))⟩
    refine for_ok (fun i σ μ' => μ' = μ1 ∧ ∃ t2 t3 t4 t5 t6 t7, σ = [some (.h a), some (.lst (G.map gT)), t2, t3, t4, t5, t6, t7]) ⟨rfl, t2, t3, t4, t5, t6, t7, rfl⟩ ?_ ?_
    · rintro i x σ _ n hx ⟨rfl, t2, t3, t4, t5, t6, t7, rfl⟩ hk
      obtain ⟨z, rfl, hz⟩ := bads x (List.mem_of_getElem? hx)
      refine ⟨trivial, ?_⟩
      try simp (decide := true) only [sSs, sS, sE, sBs, sEs, sTs, sI, rd, tOf, tOfB, getS, setS, wipeS, endK, nw_t, nw_f, partE, allT, asgT, asgL, T.bl.injEq, exists_eq_left', exists_eq_left, Option.some.injEq, decide_eq_true_eq, Mu.set_same, Mu.set_set, w_add, w_sub, w_mul, w_fdiv, w_mod, w_pow, w_neg, w_lt, w_le, w_gt, w_ge, w_eq, w_ne, w_is, w_isnot, w_in, w_notin, w_chn, c_lt, c_le, c_gt, c_ge, n_int, n_non, n_tup, n_lst, n_str, n_h, t_bl, i_tup, i_lst, i_scr, i_set, x_set, l_set, l_lst, l_tup, l_scr, b_int, b_bl, b_abs, b_min2, b_max2, a_set, ar_set, ct_ll, sl_l, at_0, at_1, at_2, ix_0, ix_1, fill, ok_, np_, List.getD_cons_zero, List.getD_cons_succ, List.length_cons, List.length_nil, List.set_cons_zero, List.set_cons_succ, gl_0, gl_1, true_and, and_true, if_true, if_false, Bool.not_eq_true', Bool.false_eq_true, g_lst, S_17]
      refine lc_enc (l := [(4 : Int), 5, 6]) (enc := T.int) (fun _ => false) (fun _ => .non) trivial (by decide) (fun w hw4 K N h => ?_) ?_
      · simp (decide := true) only [sSs, sS, sE, sBs, sEs, sTs, sI, rd, tOf, tOfB, getS, setS, wipeS, endK, nw_t, nw_f, partE, allT, asgT, asgL, T.bl.injEq, exists_eq_left', exists_eq_left, Option.some.injEq, decide_eq_true_eq, Mu.set_same, Mu.set_set, w_add, w_sub, w_mul, w_fdiv, w_mod, w_pow, w_neg, w_lt, w_le, w_gt, w_ge, w_eq, w_ne, w_is, w_isnot, w_in, w_notin, w_chn, c_lt, c_le, c_gt, c_ge, n_int, n_non, n_tup, n_lst, n_str, n_h, t_bl, i_tup, i_lst, i_scr, i_set, x_set, l_set, l_lst, l_tup, l_scr, b_int, b_bl, b_abs, b_min2, b_max2, a_set, ar_set, ct_ll, sl_l, at_0, at_1, at_2, ix_0, ix_1, fill, ok_, np_, List.getD_cons_zero, List.getD_cons_succ, List.length_cons, List.length_nil, List.set_cons_zero, List.set_cons_succ, gl_0, gl_1, true_and, and_true, if_true, if_false, Bool.not_eq_true', Bool.false_eq_true, g_lst, S_17]
        refine tryM hr1 hw hn hz (by simpa using hw4) ?_
        try simp (decide := true) only [sSs, sS, sE, sBs, sEs, sTs, sI, rd, tOf, tOfB, getS, setS, wipeS, endK, nw_t, nw_f, partE, allT, asgT, asgL, T.bl.injEq, exists_eq_left', exists_eq_left, Option.some.injEq, decide_eq_true_eq, Mu.set_same, Mu.set_set, w_add, w_sub, w_mul, w_fdiv, w_mod, w_pow, w_neg, w_lt, w_le, w_gt, w_ge, w_eq, w_ne, w_is, w_isnot, w_in, w_notin, w_chn, c_lt, c_le, c_gt, c_ge, n_int, n_non, n_tup, n_lst, n_str, n_h, t_bl, i_tup, i_lst, i_scr, i_set, x_set, l_set, l_lst, l_tup, l_scr, b_int, b_bl, b_abs, b_min2, b_max2, a_set, ar_set, ct_ll, sl_l, at_0, at_1, at_2, ix_0, ix_1, fill, ok_, np_, List.getD_cons_zero, List.getD_cons_succ, List.length_cons, List.length_nil, List.set_cons_zero, List.set_cons_succ, gl_0, gl_1, true_and, and_true, if_true, if_false, Bool.not_eq_true', Bool.false_eq_true, g_lst, eq_wn sm sm, beq_self_eq_true, Bool.xor_true, Bool.not_true] at h ⊢
        exact h
      · have e : ([(4 : Int), 5, 6].filter fun _ => false).map (fun _ => T.non) = ([] : List Int).map T.int := rfl
        have ew : ∀ {Q : Pq} {μ : Mu}, wEq true (.lst (([] : List Int).map T.int)) (.lst []) μ Q = Q (.bl (decide (([] : List Int) = []) ^^ true)) μ := fun {Q μ} => wEq_ll (ms := [])
        rw [List.nil_append, e, ew]
        refine ⟨by decide, _, rfl, ?_⟩
        try simp (decide := true) only [if_false]
        exact hk _ _ ⟨rfl, _, _, _, _, _, _, rfl⟩
    · rintro σ _ ⟨rfl, t2, t3, t4, t5, t6, t7, rfl⟩
      refine ⟨trivial, ?_⟩
      try simp (decide := true) only [sSs, sS, sE, sBs, sEs, sTs, sI, rd, tOf, tOfB, getS, setS, wipeS, endK, nw_t, nw_f, partE, allT, asgT, asgL, T.bl.injEq, exists_eq_left', exists_eq_left, Option.some.injEq, decide_eq_true_eq, Mu.set_same, Mu.set_set, w_add, w_sub, w_mul, w_fdiv, w_mod, w_pow, w_neg, w_lt, w_le, w_gt, w_ge, w_eq, w_ne, w_is, w_isnot, w_in, w_notin, w_chn, c_lt, c_le, c_gt, c_ge, n_int, n_non, n_tup, n_lst, n_str, n_h, t_bl, i_tup, i_lst, i_scr, i_set, x_set, l_set, l_lst, l_tup, l_scr, b_int, b_bl, b_abs, b_min2, b_max2, a_set, ar_set, ct_ll, sl_l, at_0, at_1, at_2, ix_0, ix_1, fill, ok_, np_, List.getD_cons_zero, List.getD_cons_succ, List.length_cons, List.length_nil, List.set_cons_zero, List.set_cons_succ, gl_0, gl_1, true_and, and_true, if_true, if_false, Bool.not_eq_true', Bool.false_eq_true, g_lst, hr1.io, mt_12, S_19]
      refine ⟨a, p, q, r, G, rfl, hr1, hw, by omega, ?_⟩
      try simp (decide := true) only [nT, sSs, sS, sE, sBs, sEs, sTs, sI, rd, tOf, tOfB, getS, setS, wipeS, endK, nw_t, nw_f, partE, allT, asgT, asgL, T.bl.injEq, exists_eq_left', exists_eq_left, Option.some.injEq, decide_eq_true_eq, Mu.set_same, Mu.set_set, w_add, w_sub, w_mul, w_fdiv, w_mod, w_pow, w_neg, w_lt, w_le, w_gt, w_ge, w_eq, w_ne, w_is, w_isnot, w_in, w_notin, w_chn, c_lt, c_le, c_gt, c_ge, n_int, n_non, n_tup, n_lst, n_str, n_h, t_bl, i_tup, i_lst, i_scr, i_set, x_set, l_set, l_lst, l_tup, l_scr, b_int, b_bl, b_abs, b_min2, b_max2, a_set, ar_set, ct_ll, sl_l, at_0, at_1, at_2, ix_0, ix_1, fill, ok_, np_, List.getD_cons_zero, List.getD_cons_succ, List.length_cons, List.length_nil, List.set_cons_zero, List.set_cons_succ, gl_0, gl_1, true_and, and_true, if_true, if_false, Bool.not_eq_true', Bool.false_eq_true, g_lst, kn_l, ty_l, List.length_map]
      refine ⟨by omega, by omega, ?_⟩
      rw [nrange]
      refine lc_enc (fun k => decide (usedG G k > mo G k)) (fun k => .int (k : Nat)) trivial (by simp; omega) (fun k hk K N h => ?_) ?_
      · have hk' := List.mem_range.mp hk
        try simp (decide := true) only [sSs, sS, sE, sBs, sEs, sTs, sI, rd, tOf, tOfB, getS, setS, wipeS, endK, nw_t, nw_f, partE, allT, asgT, asgL, T.bl.injEq, exists_eq_left', exists_eq_left, Option.some.injEq, decide_eq_true_eq, Mu.set_same, Mu.set_set, w_add, w_sub, w_mul, w_fdiv, w_mod, w_pow, w_neg, w_lt, w_le, w_gt, w_ge, w_eq, w_ne, w_is, w_isnot, w_in, w_notin, w_chn, c_lt, c_le, c_gt, c_ge, n_int, n_non, n_tup, n_lst, n_str, n_h, t_bl, i_tup, i_lst, i_scr, i_set, x_set, l_set, l_lst, l_tup, l_scr, b_int, b_bl, b_abs, b_min2, b_max2, a_set, ar_set, ct_ll, sl_l, at_0, at_1, at_2, ix_0, ix_1, fill, ok_, np_, List.getD_cons_zero, List.getD_cons_succ, List.length_cons, List.length_nil, List.set_cons_zero, List.set_cons_succ, gl_0, gl_1, true_and, and_true, if_true, if_false, Bool.not_eq_true', Bool.false_eq_true, g_lst, S_5]
        refine ⟨G, k, rfl, hw, hk', by omega, ?_⟩
        try simp (decide := true) only [sSs, sS, sE, sBs, sEs, sTs, sI, rd, tOf, tOfB, getS, setS, wipeS, endK, nw_t, nw_f, partE, allT, asgT, asgL, T.bl.injEq, exists_eq_left', exists_eq_left, Option.some.injEq, decide_eq_true_eq, Mu.set_same, Mu.set_set, w_add, w_sub, w_mul, w_fdiv, w_mod, w_pow, w_neg, w_lt, w_le, w_gt, w_ge, w_eq, w_ne, w_is, w_isnot, w_in, w_notin, w_chn, c_lt, c_le, c_gt, c_ge, n_int, n_non, n_tup, n_lst, n_str, n_h, t_bl, i_tup, i_lst, i_scr, i_set, x_set, l_set, l_lst, l_tup, l_scr, b_int, b_bl, b_abs, b_min2, b_max2, a_set, ar_set, ct_ll, sl_l, at_0, at_1, at_2, ix_0, ix_1, fill, ok_, np_, List.getD_cons_zero, List.getD_cons_succ, List.length_cons, List.length_nil, List.set_cons_zero, List.set_cons_succ, gl_0, gl_1, true_and, and_true, if_true, if_false, Bool.not_eq_true', Bool.false_eq_true, g_lst, atI_nat, g_get hk'] at h ⊢
        exact h
      · have e : ((List.range G.length).filter fun k => decide (usedG G k > mo G k)).map (fun k : Nat => T.int (k : Nat)) = ((beyondG G).map fun k : Nat => (k : Int)).map T.int := by rw [List.map_map]; rfl
        have lf := List.length_filter_le (fun k => decide (usedG G k > mo G k)) (List.range G.length)
        rw [List.length_range] at lf
        rw [List.nil_append, e, nL_ints, wEq_ll]
        refine ⟨by simp only [List.length_map]; unfold beyondG; omega, ?_⟩
        try simp (decide := true) only [decide_true, Bool.xor_false]
        exact hq _ hf
end K98
set_option Elab.async false
set_option linter.all false
set_option maxRecDepth 100000
set_option maxHeartbeats 4000000
namespace K98
open PySem PySem.Spec PyProof.Rows L2 Co
section
variable {μ : Mu} {a p q r : Addr} {G : Gs} {Q : Pq} {X : Xq}
theorem tryX (o : Op) {c : Nat} {w : Int} {one two : T} (ho : o.args = (w, one, two)) (hr : Rep μ a p q r G) (hw : Wf G) (hn : G.length ≤ 40) (hc : (dueG G o).1 = some c) (h : ∀ μ', Rep μ' a p q r G → Fr μ μ' [p, q, r] → Q (.tup [.str (wordT c), .non]) μ') : spTry [.h a, .int w, one, two] μ Q X :=
  ⟨a, p, q, r, G, w, one, two, rfl, hr, hw, hn, .inl ⟨o, ho, (fun c' μ' hc' hr' hf => by rw [hc] at hc'; cases hc'; exact h μ' hr' hf), (fun μ' hc' => by rw [hc] at hc'; cases hc')⟩⟩
theorem tryD (o : Op) {w : Int} {one two : T} {G' : Gs} (ho : o.args = (w, one, two)) (hr : Rep μ a p q r G) (hw : Wf G) (hn : G.length ≤ 40) (hc : dueG G o = (none, G')) (h : ∀ μ', Rep μ' a p q r G' → Fr μ μ' [p, q, r] → Q (.tup [.str "done", o.ret G]) μ') : spTry [.h a, .int w, one, two] μ Q X :=
  ⟨a, p, q, r, G, w, one, two, rfl, hr, hw, hn, .inl ⟨o, ho, (fun c' μ' hc' => by rw [hc] at hc'; cases hc'), (fun μ' hc' hr' hf => by rw [hc] at hr'; exact h μ' hr' hf)⟩⟩
end
theorem fr_nil {μ μ' : Mu} {D : List Addr} (h : Fr μ μ' D) (hd : ∀ x, x ∈ D → μ x = none) : Fr μ μ' [] := fun x hx _ => h x hx fun z => hx (hd x z)
def abk (k : Nat) : Option Nat := if k = 0 then none else some (k - 1)
def Gk (n : Nat) : Gs := (List.range n).map fun k => (abk k, (100 : Int) - k, 0)
theorem Gk_len {n : Nat} : (Gk n).length = n := by unfold Gk; simp
theorem Gk_succ {n : Nat} : Gk (n + 1) = Gk n ++ [(abk n, (100 : Int) - n, 0)] := by unfold Gk; rw [List.range_succ, List.map_append]; rfl
def aboveI (k : Nat) : Option Int := if k = 0 then none else some ((k : Int) - 1)
theorem due_k {k : Nat} (h : k < 40) : dueG (Gk k) (.add (aboveI k) (100 - k)) = (none, Gk (k + 1)) := by
  have ok : okO (Gk k) (aboveI k) = true := by
    unfold aboveI
    by_cases h0 : k = 0
    · rw [if_pos h0]; rfl
    · rw [if_neg h0]
      show isG (Gk k) ((k : Int) - 1) = true
      rw [show (k : Int) - 1 = ((k - 1 : Nat) : Int) from by omega, isG_nat, Gk_len]; simp; omega
  simp only [dueG, ok, Bool.true_eq_false, if_false, great_eq]
  rw [if_neg (by omega), if_neg (by rw [Gk_len]; omega), Gk_succ]
  congr 3
  unfold aboveI abk
  by_cases h0 : k = 0
  · rw [if_pos h0, if_pos h0]; rfl
  · rw [if_neg h0, if_neg h0]
    show ((some ((k : Int) - 1).toNat : Option Nat), (100 : Int) - k, (0 : Int)) = ((some (k - 1) : Option Nat), (100 : Int) - k, (0 : Int))
    rw [show ((k : Int) - 1).toNat = k - 1 from by omega]
def G41 : Gs := putG (Gk 40) 39 (some 38, 61, 61)
theorem d1 : (dueG (Gk 40) (.add (some 39) 5)).1 = some 2 := by decide +kernel
theorem d2 : (dueG (Gk 40) (.add (some 40) 5)).1 = some 0 := by decide +kernel
theorem d3 : (dueG (Gk 40) (.add none (0 - 1))).1 = some 1 := by decide +kernel
theorem d4 : (dueG (Gk 40) (.lend 39 62)).1 = some 2 := by decide +kernel
theorem d5 : dueG (Gk 40) (.lend 39 61) = (none, G41) := by decide +kernel
theorem d6 : (dueG G41 (.mov 0 (some 39))).1 = some 2 := by decide +kernel
theorem sv : PyData.strOk ("value" : Str) = true := by decide +kernel
theorem sr : PyData.strOk ("refused" : Str) = true := by decide +kernel
theorem G41_map : ((Gk 40).map gT).set 39 (.tup [.int 38, .int 61, .int 61]) = G41.map gT := by
  unfold G41 putG; rw [List.map_set]; rfl
theorem vc21 : VC PP u_law_many_right spMany := by
  intro ts μ Q X hl hS
  obtain ⟨rfl, hq⟩ := hS
  clear hl
  show sSs PP s_law_many_right (endK Q X) [none, none, none, none] μ
  simp (decide := true) only [s_law_many_right, wMk, sSs, sS, sE, sBs, sEs, sTs, sI, rd, tOf, tOfB, getS, setS, wipeS, endK, nw_t, nw_f, partE, allT, asgT, asgL, T.bl.injEq, exists_eq_left', exists_eq_left, Option.some.injEq, decide_eq_true_eq, Mu.set_same, Mu.set_set, w_add, w_sub, w_mul, w_fdiv, w_mod, w_pow, w_neg, w_lt, w_le, w_gt, w_ge, w_eq, w_ne, w_is, w_isnot, w_in, w_notin, w_chn, c_lt, c_le, c_gt, c_ge, n_int, n_non, n_tup, n_lst, n_str, n_h, t_bl, i_tup, i_lst, i_scr, i_set, x_set, l_set, l_lst, l_tup, l_scr, b_int, b_bl, b_abs, b_min2, b_max2, a_set, ar_set, ct_ll, sl_l, at_0, at_1, at_2, ix_0, ix_1, fill, ok_, np_, List.getD_cons_zero, List.getD_cons_succ, List.length_cons, List.length_nil, List.set_cons_zero, List.set_cons_succ, gl_0, gl_1, true_and, and_true, if_true, if_false, Bool.not_eq_true', Bool.false_eq_true, g_lst, S_0]
  intro a ha
  refine ⟨a, rfl, Mu.set_same, fun μ1 p q r hp hq' hr' hr hf => ?_⟩
  have pa : p ≠ a := fun e => by rw [e, Mu.set_same] at hp; cases hp
  have qa : q ≠ a := fun e => by rw [e, Mu.set_same] at hq'; cases hq'
  have ra : r ≠ a := fun e => by rw [e, Mu.set_same] at hr'; cases hr'
  rw [Mu.set_ne pa] at hp
  rw [Mu.set_ne qa] at hq'
  rw [Mu.set_ne ra] at hr'
  have f1 : Fr μ μ1 [a, p, q, r] := (Fr.set (.inl (by simp))).trans (hf.mono (by intro x hx; simp at hx; simp [hx]))
  try simp (decide := true) only [sSs, sS, sE, sBs, sEs, sTs, sI, rd, tOf, tOfB, getS, setS, wipeS, endK, nw_t, nw_f, partE, allT, asgT, asgL, T.bl.injEq, exists_eq_left', exists_eq_left, Option.some.injEq, decide_eq_true_eq, Mu.set_same, Mu.set_set, w_add, w_sub, w_mul, w_fdiv, w_mod, w_pow, w_neg, w_lt, w_le, w_gt, w_ge, w_eq, w_ne, w_is, w_isnot, w_in, w_notin, w_chn, c_lt, c_le, c_gt, c_ge, n_int, n_non, n_tup, n_lst, n_str, n_h, t_bl, i_tup, i_lst, i_scr, i_set, x_set, l_set, l_lst, l_tup, l_scr, b_int, b_bl, b_abs, b_min2, b_max2, a_set, ar_set, ct_ll, sl_l, at_0, at_1, at_2, ix_0, ix_1, fill, ok_, np_, List.getD_cons_zero, List.getD_cons_succ, List.length_cons, List.length_nil, List.set_cons_zero, List.set_cons_succ, gl_0, gl_1, true_and, and_true, if_true, if_false, Bool.not_eq_true', Bool.false_eq_true, g_lst]
  intro s hs
  have sne : ∀ {x : Addr} {m : M}, μ1 x = some m → s ≠ x := fun {x m} e z => by rw [z, e] at hs; cases hs
  have sp := sne hr.pa
  have sq := sne hr.qa
  have sr_ := sne hr.ra
  have sa := sne hr.ins
  have s0 : μ s = none := by
    cases e : μ s with
    | none => rfl
    | some m =>
      have := f1 s (by rw [e]; intro z; cases z) (by simp [sa, sp, sq, sr_])
      rw [hs, e] at this; cases this
  have f2 : Fr μ (μ1.set s (.lst [])) [a, p, q, r, s] := (f1.mono (by intro x hx; simp at hx ⊢; rcases hx with h | h | h | h <;> simp [h])).trans (Fr.set (.inl (by simp)))
  have hr2 := hr.set (m := .lst []) hs
  have all : ∀ {μ' : Mu}, Fr μ μ' [a, p, q, r, s] → Q (.bl true) μ' := fun {μ'} f => hq μ' (fr_nil f (by intro x hx; simp at hx; rcases hx with rfl | rfl | rfl | rfl | rfl <;> assumption))
  refine for_ok (fun i σ μ' => Wf (Gk i) ∧ Fr μ μ' [a, p, q, r, s] ∧ Rep μ' a p q r (Gk i) ∧ μ' s = some (.lst ((Gk i).map gT)) ∧ ∃ t2 t3, σ = [some (.h a), some (.h s), t2, t3]) ⟨wf_nil, f2, hr2, Mu.set_same, none, none, rfl⟩ ?_ ?_
  · rintro i x σ μ' n hx ⟨w, f, hr, hsl, t2, t3, rfl⟩ hk
    refine ⟨trivial, ?_⟩
    obtain ⟨hi, rfl⟩ : i < 40 ∧ x = T.int (i : Int) := by
      rw [rng_nat, List.getElem?_map] at hx
      obtain ⟨k, e, rfl⟩ := Option.map_eq_some_iff.mp hx
      obtain ⟨h1, h2⟩ := List.getElem?_eq_some_iff.mp e
      rw [List.length_range] at h1
      rw [List.getElem_range] at h2
      subst h2
      exact ⟨h1, rfl⟩
    have hab : atI [T.int ((i : Int) - 1), T.non] (if ((i : Int) == 0) = true then 1 else 0) = some (oT (aboveI i)) := by
      unfold aboveI
      by_cases h0 : i = 0
      · subst h0
        rw [if_pos (by decide), at_1]
        rfl
      · rw [if_neg (by simpa using h0), at_0, if_neg h0]
        rfl
    try simp (decide := true) only [sSs, sS, sE, sBs, sEs, sTs, sI, rd, tOf, tOfB, getS, setS, wipeS, endK, nw_t, nw_f, partE, allT, asgT, asgL, T.bl.injEq, exists_eq_left', exists_eq_left, Option.some.injEq, decide_eq_true_eq, Mu.set_same, Mu.set_set, w_add, w_sub, w_mul, w_fdiv, w_mod, w_pow, w_neg, w_lt, w_le, w_gt, w_ge, w_eq, w_ne, w_is, w_isnot, w_in, w_notin, w_chn, c_lt, c_le, c_gt, c_ge, n_int, n_non, n_tup, n_lst, n_str, n_h, t_bl, i_tup, i_lst, i_scr, i_set, x_set, l_set, l_lst, l_tup, l_scr, b_int, b_bl, b_abs, b_min2, b_max2, a_set, ar_set, ct_ll, sl_l, at_0, at_1, at_2, ix_0, ix_1, fill, ok_, np_, List.getD_cons_zero, List.getD_cons_succ, List.length_cons, List.length_nil, List.set_cons_zero, List.set_cons_succ, gl_0, gl_1, true_and, and_true, if_true, if_false, Bool.not_eq_true', Bool.false_eq_true, g_lst, wEq_int, Bool.xor_false, hab, hr.io, mt_7, S_13]
    refine ⟨a, p, q, r, Gk i, .add (aboveI i) (100 - i), _, _, rfl, ⟨_, _, rfl, rfl, rfl⟩, hr, w, by rw [Gk_len]; omega, fun c μ' hc => (by rw [due_k hi] at hc; cases hc), fun μ2 hc hr2 hf2 => ?_⟩
    rw [due_k hi] at hr2
    have hs2 := hf2.get hsl (by simp [sp, sq, sr_])
    have e0 : ((Gk i).length : Int) = i := by rw [Gk_len]
    try simp (decide := true) only [sSs, sS, sE, sBs, sEs, sTs, sI, rd, tOf, tOfB, getS, setS, wipeS, endK, nw_t, nw_f, partE, allT, asgT, asgL, T.bl.injEq, exists_eq_left', exists_eq_left, Option.some.injEq, decide_eq_true_eq, Mu.set_same, Mu.set_set, w_add, w_sub, w_mul, w_fdiv, w_mod, w_pow, w_neg, w_lt, w_le, w_gt, w_ge, w_eq, w_ne, w_is, w_isnot, w_in, w_notin, w_chn, c_lt, c_le, c_gt, c_ge, n_int, n_non, n_tup, n_lst, n_str, n_h, t_bl, i_tup, i_lst, i_scr, i_set, x_set, l_set, l_lst, l_tup, l_scr, b_int, b_bl, b_abs, b_min2, b_max2, a_set, ar_set, ct_ll, sl_l, at_0, at_1, at_2, ix_0, ix_1, fill, ok_, np_, List.getD_cons_zero, List.getD_cons_succ, List.length_cons, List.length_nil, List.set_cons_zero, List.set_cons_succ, gl_0, gl_1, true_and, and_true, if_true, if_false, Bool.not_eq_true', Bool.false_eq_true, g_lst, Op.ret, e0, wEq_int, beq_self_eq_true, Bool.xor_true, Bool.not_true, ar_h (.inl rfl) hs2, a_h hs2, List.length_map]
    refine ⟨by rw [Gk_len]; omega, hk _ _ ⟨?_, ?_, ?_, ?_, _, _, rfl⟩⟩
    · have := wf_due w (.add (aboveI i) (100 - i))
      rw [due_k hi] at this
      exact this
    · exact (f.trans (hf2.mono (by intro x hx; simp at hx; rcases hx with rfl | rfl | rfl <;> simp))).trans (Fr.set (.inl (by simp)))
    · exact hr2.keep (D := [s]) (Fr.set (.inl (by simp))) (by simp [Ne.symm sa]) (by simp [Ne.symm sp]) (by simp [Ne.symm sq]) (by simp [Ne.symm sr_])
    · rw [Mu.set_same, Gk_succ, List.map_append]
      have : oT (aboveI i) = aT (abk i) := by
        unfold aboveI abk
        by_cases h0 : i = 0
        · rw [if_pos h0, if_pos h0]; rfl
        · rw [if_neg h0, if_neg h0]
          show T.int ((i : Int) - 1) = T.int ((i - 1 : Nat) : Int)
          congr 1
          omega
      rw [this]; rfl
  · rintro σ μ' ⟨w, f, hr, hsl, t2, t3, rfl⟩
    have e40 : (Co.rangeT 0 (Int.toNat 40)).length = 40 := by rw [rng_nat]; simp
    rw [e40] at w hr hsl
    refine ⟨trivial, ?_⟩
    have l40 : (Gk 40).length ≤ 40 := by rw [Gk_len]; omega
    have sm_ : ∀ {μ1 μ2 : Mu} {m : M}, Fr μ1 μ2 [p, q, r] → μ1 s = some m → μ2 s = some m := fun h e => h.get e (by simp [sp, sq, sr_])
    have up : ∀ {μ1 μ2 : Mu}, Fr μ μ1 [a, p, q, r, s] → Fr μ1 μ2 [p, q, r] → Fr μ μ2 [a, p, q, r, s] := fun h g => h.trans (g.mono (by intro x hx; simp at hx; rcases hx with rfl | rfl | rfl <;> simp))
    try simp (decide := true) only [sSs, sS, sE, sBs, sEs, sTs, sI, rd, tOf, tOfB, getS, setS, wipeS, endK, nw_t, nw_f, partE, allT, asgT, asgL, T.bl.injEq, exists_eq_left', exists_eq_left, Option.some.injEq, decide_eq_true_eq, Mu.set_same, Mu.set_set, w_add, w_sub, w_mul, w_fdiv, w_mod, w_pow, w_neg, w_lt, w_le, w_gt, w_ge, w_eq, w_ne, w_is, w_isnot, w_in, w_notin, w_chn, c_lt, c_le, c_gt, c_ge, n_int, n_non, n_tup, n_lst, n_str, n_h, t_bl, i_tup, i_lst, i_scr, i_set, x_set, l_set, l_lst, l_tup, l_scr, b_int, b_bl, b_abs, b_min2, b_max2, a_set, ar_set, ct_ll, sl_l, at_0, at_1, at_2, ix_0, ix_1, fill, ok_, np_, List.getD_cons_zero, List.getD_cons_succ, List.length_cons, List.length_nil, List.set_cons_zero, List.set_cons_succ, gl_0, gl_1, true_and, and_true, if_true, if_false, Bool.not_eq_true', Bool.false_eq_true, g_lst, S_17]
    refine tryX (.add (some 39) 5) rfl hr w l40 d1 fun μ1 hr f1 => ?_
    have f := up f f1; have hsl := sm_ f1 hsl
    try simp (decide := true) only [sSs, sS, sE, sBs, sEs, sTs, sI, rd, tOf, tOfB, getS, setS, wipeS, endK, nw_t, nw_f, partE, allT, asgT, asgL, T.bl.injEq, exists_eq_left', exists_eq_left, Option.some.injEq, decide_eq_true_eq, Mu.set_same, Mu.set_set, w_add, w_sub, w_mul, w_fdiv, w_mod, w_pow, w_neg, w_lt, w_le, w_gt, w_ge, w_eq, w_ne, w_is, w_isnot, w_in, w_notin, w_chn, c_lt, c_le, c_gt, c_ge, n_int, n_non, n_tup, n_lst, n_str, n_h, t_bl, i_tup, i_lst, i_scr, i_set, x_set, l_set, l_lst, l_tup, l_scr, b_int, b_bl, b_abs, b_min2, b_max2, a_set, ar_set, ct_ll, sl_l, at_0, at_1, at_2, ix_0, ix_1, fill, ok_, np_, List.getD_cons_zero, List.getD_cons_succ, List.length_cons, List.length_nil, List.set_cons_zero, List.set_cons_succ, gl_0, gl_1, true_and, and_true, if_true, if_false, Bool.not_eq_true', Bool.false_eq_true, g_lst, wordT, eq_wn sr sr, beq_self_eq_true, Bool.xor_true, Bool.not_true, S_17]
    refine tryX (.add (some 40) 5) rfl hr w l40 d2 fun μ1 hr f1 => ?_
    have f := up f f1; have hsl := sm_ f1 hsl
    try simp (decide := true) only [sSs, sS, sE, sBs, sEs, sTs, sI, rd, tOf, tOfB, getS, setS, wipeS, endK, nw_t, nw_f, partE, allT, asgT, asgL, T.bl.injEq, exists_eq_left', exists_eq_left, Option.some.injEq, decide_eq_true_eq, Mu.set_same, Mu.set_set, w_add, w_sub, w_mul, w_fdiv, w_mod, w_pow, w_neg, w_lt, w_le, w_gt, w_ge, w_eq, w_ne, w_is, w_isnot, w_in, w_notin, w_chn, c_lt, c_le, c_gt, c_ge, n_int, n_non, n_tup, n_lst, n_str, n_h, t_bl, i_tup, i_lst, i_scr, i_set, x_set, l_set, l_lst, l_tup, l_scr, b_int, b_bl, b_abs, b_min2, b_max2, a_set, ar_set, ct_ll, sl_l, at_0, at_1, at_2, ix_0, ix_1, fill, ok_, np_, List.getD_cons_zero, List.getD_cons_succ, List.length_cons, List.length_nil, List.set_cons_zero, List.set_cons_succ, gl_0, gl_1, true_and, and_true, if_true, if_false, Bool.not_eq_true', Bool.false_eq_true, g_lst, wordT, eq_wn sm sm, beq_self_eq_true, Bool.xor_true, Bool.not_true, S_17]
    refine tryX (.add none (0 - 1)) rfl hr w l40 d3 fun μ1 hr f1 => ?_
    have f := up f f1; have hsl := sm_ f1 hsl
    try simp (decide := true) only [sSs, sS, sE, sBs, sEs, sTs, sI, rd, tOf, tOfB, getS, setS, wipeS, endK, nw_t, nw_f, partE, allT, asgT, asgL, T.bl.injEq, exists_eq_left', exists_eq_left, Option.some.injEq, decide_eq_true_eq, Mu.set_same, Mu.set_set, w_add, w_sub, w_mul, w_fdiv, w_mod, w_pow, w_neg, w_lt, w_le, w_gt, w_ge, w_eq, w_ne, w_is, w_isnot, w_in, w_notin, w_chn, c_lt, c_le, c_gt, c_ge, n_int, n_non, n_tup, n_lst, n_str, n_h, t_bl, i_tup, i_lst, i_scr, i_set, x_set, l_set, l_lst, l_tup, l_scr, b_int, b_bl, b_abs, b_min2, b_max2, a_set, ar_set, ct_ll, sl_l, at_0, at_1, at_2, ix_0, ix_1, fill, ok_, np_, List.getD_cons_zero, List.getD_cons_succ, List.length_cons, List.length_nil, List.set_cons_zero, List.set_cons_succ, gl_0, gl_1, true_and, and_true, if_true, if_false, Bool.not_eq_true', Bool.false_eq_true, g_lst, wordT, eq_wn sv sv, beq_self_eq_true, Bool.xor_true, Bool.not_true, S_17]
    refine tryX (.lend 39 62) rfl hr w l40 d4 fun μ1 hr f1 => ?_
    have f := up f f1; have hsl := sm_ f1 hsl
    try simp (decide := true) only [sSs, sS, sE, sBs, sEs, sTs, sI, rd, tOf, tOfB, getS, setS, wipeS, endK, nw_t, nw_f, partE, allT, asgT, asgL, T.bl.injEq, exists_eq_left', exists_eq_left, Option.some.injEq, decide_eq_true_eq, Mu.set_same, Mu.set_set, w_add, w_sub, w_mul, w_fdiv, w_mod, w_pow, w_neg, w_lt, w_le, w_gt, w_ge, w_eq, w_ne, w_is, w_isnot, w_in, w_notin, w_chn, c_lt, c_le, c_gt, c_ge, n_int, n_non, n_tup, n_lst, n_str, n_h, t_bl, i_tup, i_lst, i_scr, i_set, x_set, l_set, l_lst, l_tup, l_scr, b_int, b_bl, b_abs, b_min2, b_max2, a_set, ar_set, ct_ll, sl_l, at_0, at_1, at_2, ix_0, ix_1, fill, ok_, np_, List.getD_cons_zero, List.getD_cons_succ, List.length_cons, List.length_nil, List.set_cons_zero, List.set_cons_succ, gl_0, gl_1, true_and, and_true, if_true, if_false, Bool.not_eq_true', Bool.false_eq_true, g_lst, wordT, eq_wn sr sr, beq_self_eq_true, Bool.xor_true, Bool.not_true, S_17]
    refine tryD (.lend 39 61) rfl hr w l40 d5 fun μ1 hr f1 => ?_
    have f := up f f1; have hsl := sm_ f1 hsl
    have w41 : Wf G41 := by have := wf_due w (.lend 39 61); rw [d5] at this; exact this
    have l41 : G41.length ≤ 40 := by decide
    have ix : ixN ((Gk 40).map gT).length 39 = some 39 := by rw [List.length_map, Gk_len]; rfl
    try simp (decide := true) only [sSs, sS, sE, sBs, sEs, sTs, sI, rd, tOf, tOfB, getS, setS, wipeS, endK, nw_t, nw_f, partE, allT, asgT, asgL, T.bl.injEq, exists_eq_left', exists_eq_left, Option.some.injEq, decide_eq_true_eq, Mu.set_same, Mu.set_set, w_add, w_sub, w_mul, w_fdiv, w_mod, w_pow, w_neg, w_lt, w_le, w_gt, w_ge, w_eq, w_ne, w_is, w_isnot, w_in, w_notin, w_chn, c_lt, c_le, c_gt, c_ge, n_int, n_non, n_tup, n_lst, n_str, n_h, t_bl, i_tup, i_lst, i_scr, i_set, x_set, l_set, l_lst, l_tup, l_scr, b_int, b_bl, b_abs, b_min2, b_max2, a_set, ar_set, ct_ll, sl_l, at_0, at_1, at_2, ix_0, ix_1, fill, ok_, np_, List.getD_cons_zero, List.getD_cons_succ, List.length_cons, List.length_nil, List.set_cons_zero, List.set_cons_succ, gl_0, gl_1, true_and, and_true, if_true, if_false, Bool.not_eq_true', Bool.false_eq_true, g_lst, Op.ret, eq_wn sd sd, beq_self_eq_true, Bool.xor_true, Bool.not_true, S_17, x_h hsl, ix, z_set, S_20, G41_map, z_h Mu.set_same]
    have fd : Fr μ1 ((μ1.set s (M.lst (List.map gT G41))).del s) [s] := fun x hx hd => by
      have xs : x ≠ s := fun e => hd (by rw [e]; exact List.mem_singleton.mpr rfl)
      rw [Mu.del_ne xs, Mu.set_ne xs]
    have hr2 := hr.keep fd (by simp [Ne.symm sa]) (by simp [Ne.symm sp]) (by simp [Ne.symm sq]) (by simp [Ne.symm sr_])
    have f2 := f.trans (fd.mono (D' := [a, p, q, r, s]) (by intro x hx; simp at hx; rcases hx with rfl; simp))
    generalize (μ1.set s (M.lst (List.map gT G41))).del s = μ2 at hr2 f2
    refine ⟨a, p, q, r, G41, rfl, hr2, w41, l41, fun μ3 f3 => ⟨true, rfl, ?_⟩⟩
    rw [if_pos rfl]
    have hr3 := fr_rep hr2 f3
    have f3 := f2.trans (f3.mono (D' := [a, p, q, r, s]) (by intro x hx; cases hx))
    refine tryX (.mov 0 (some 39)) rfl hr3 w41 l41 d6 fun μ4 hr4 f4 => ?_
    have f4 := up f3 f4
    try simp (decide := true) only [sSs, sS, sE, sBs, sEs, sTs, sI, rd, tOf, tOfB, getS, setS, wipeS, endK, nw_t, nw_f, partE, allT, asgT, asgL, T.bl.injEq, exists_eq_left', exists_eq_left, Option.some.injEq, decide_eq_true_eq, Mu.set_same, Mu.set_set, w_add, w_sub, w_mul, w_fdiv, w_mod, w_pow, w_neg, w_lt, w_le, w_gt, w_ge, w_eq, w_ne, w_is, w_isnot, w_in, w_notin, w_chn, c_lt, c_le, c_gt, c_ge, n_int, n_non, n_tup, n_lst, n_str, n_h, t_bl, i_tup, i_lst, i_scr, i_set, x_set, l_set, l_lst, l_tup, l_scr, b_int, b_bl, b_abs, b_min2, b_max2, a_set, ar_set, ct_ll, sl_l, at_0, at_1, at_2, ix_0, ix_1, fill, ok_, np_, List.getD_cons_zero, List.getD_cons_succ, List.length_cons, List.length_nil, List.set_cons_zero, List.set_cons_succ, gl_0, gl_1, true_and, and_true, if_true, if_false, Bool.not_eq_true', Bool.false_eq_true, g_lst, wordT, eq_wn sr sr, beq_self_eq_true, Bool.xor_false]
    refine ⟨a, p, q, r, G41, rfl, hr4, w41, l41, fun μ5 f5 => all (f4.trans (f5.mono (by intro x hx; cases hx)))⟩
end K98
set_option Elab.async false
set_option linter.all false
set_option maxRecDepth 100000
set_option maxHeartbeats 4000000
namespace K98
open PySem PySem.Spec PyProof.Rows L2 Co
def adr (a p q r : Addr) : List Addr := [a, p, q, r]
theorem rep_keep {μ μ' : Mu} {a p q r : Addr} {G : Gs} {D : List Addr} (h : Rep μ a p q r G) (f : Fr μ μ' D) (d : ∀ x, x ∈ D → x ∉ adr a p q r) : Rep μ' a p q r G :=
  h.keep f (fun z => d a z (by simp [adr])) (fun z => d p z (by simp [adr])) (fun z => d q z (by simp [adr])) (fun z => d r z (by simp [adr]))
theorem rep_off {μ : Mu} {a p q r b : Addr} {G : Gs} (h : Rep μ a p q r G) (hb : μ b = none) : b ∉ adr a p q r := fun z => by
  simp only [adr, List.mem_cons, List.mem_nil_iff, or_false] at z
  rcases z with rfl | rfl | rfl | rfl
  · rw [h.ins] at hb; cases hb
  · rw [h.pa] at hb; cases hb
  · rw [h.qa] at hb; cases hb
  · rw [h.ra] at hb; cases hb
theorem rep_in {μ : Mu} {a p q r x : Addr} {G : Gs} (h : Rep μ a p q r G) (hx : x ∈ adr a p q r) : μ x ≠ none := fun e => rep_off h e hx
/-- one step with one of the sets -/
structure Two (a1 p1 q1 r1 a2 p2 q2 r2 S : Addr) : Prop where
  d : ∀ x, x ∈ adr a1 p1 q1 r1 → x ∉ adr a2 p2 q2 r2
  s1 : S ∉ adr a1 p1 q1 r1
  s2 : S ∉ adr a2 p2 q2 r2
structure Inv2 (μ : Mu) (a1 p1 q1 r1 a2 p2 q2 r2 S : Addr) (G H : Gs) : Prop where
  ra : Rep μ a1 p1 q1 r1 G
  rb : Rep μ a2 p2 q2 r2 H
  wa : Wf G
  wb : Wf H
  la : G.length ≤ 40
  lb : H.length ≤ 40
  st : μ S = some (.lst [sT G, sT H])
section
variable {μ μ' : Mu} {a1 p1 q1 r1 a2 p2 q2 r2 S b : Addr} {G H G' : Gs}
theorem Inv2.fresh (i : Inv2 μ a1 p1 q1 r1 a2 p2 q2 r2 S G H) {D : List Addr} (f : Fr μ μ' D) (h1 : ∀ x, x ∈ D → x ∉ adr a1 p1 q1 r1) (h2 : ∀ x, x ∈ D → x ∉ adr a2 p2 q2 r2) (hs : S ∉ D) : Inv2 μ' a1 p1 q1 r1 a2 p2 q2 r2 S G H :=
  ⟨rep_keep i.ra f h1, rep_keep i.rb f h2, i.wa, i.wb, i.la, i.lb, f.get i.st hs⟩
theorem Inv2.off1 (i : Inv2 μ a1 p1 q1 r1 a2 p2 q2 r2 S G H) (hb : μ b = none) : b ∉ adr a1 p1 q1 r1 ∧ b ∉ adr a2 p2 q2 r2 ∧ S ≠ b :=
  ⟨rep_off i.ra hb, rep_off i.rb hb, fun e => by rw [← e, i.st] at hb; cases hb⟩
end
theorem vc23 : VC PP u_law spLaw := by
  intro ts μ Q X hl hS
  obtain ⟨ns, rfl, hns, h0, hq⟩ := hS
  clear hl
  show sSs PP s_law (endK Q X) [some (.scr ns), none, none, none, none, none, none] μ
  simp (decide := true) only [s_law, wMk, sSs, sS, sE, sBs, sEs, sTs, sI, rd, tOf, tOfB, getS, setS, wipeS, endK, nw_t, nw_f, partE, allT, asgT, asgL, T.bl.injEq, exists_eq_left', exists_eq_left, Option.some.injEq, decide_eq_true_eq, Mu.set_same, Mu.set_set, w_add, w_sub, w_mul, w_fdiv, w_mod, w_pow, w_neg, w_lt, w_le, w_gt, w_ge, w_eq, w_ne, w_is, w_isnot, w_in, w_notin, w_chn, c_lt, c_le, c_gt, c_ge, n_int, n_non, n_tup, n_lst, n_str, n_h, t_bl, i_tup, i_lst, i_scr, i_set, x_set, l_set, l_lst, l_tup, l_scr, b_int, b_bl, b_abs, b_min2, b_max2, a_set, ar_set, ct_ll, sl_l, at_0, at_1, at_2, ix_0, ix_1, fill, ok_, np_, List.getD_cons_zero, List.getD_cons_succ, List.length_cons, List.length_nil, List.set_cons_zero, List.set_cons_succ, gl_0, gl_1, true_and, and_true, if_true, if_false, Bool.not_eq_true', Bool.false_eq_true, g_lst, S_0]
  intro a1 ha1
  refine ⟨a1, rfl, Mu.set_same, fun μ1 p1 q1 r1 hp1 hq1 hr1 rep1 f1 => ⟨rfl, ?_⟩⟩
  try simp (decide := true) only [sSs, sS, sE, sBs, sEs, sTs, sI, rd, tOf, tOfB, getS, setS, wipeS, endK, nw_t, nw_f, partE, allT, asgT, asgL, T.bl.injEq, exists_eq_left', exists_eq_left, Option.some.injEq, decide_eq_true_eq, Mu.set_same, Mu.set_set, w_add, w_sub, w_mul, w_fdiv, w_mod, w_pow, w_neg, w_lt, w_le, w_gt, w_ge, w_eq, w_ne, w_is, w_isnot, w_in, w_notin, w_chn, c_lt, c_le, c_gt, c_ge, n_int, n_non, n_tup, n_lst, n_str, n_h, t_bl, i_tup, i_lst, i_scr, i_set, x_set, l_set, l_lst, l_tup, l_scr, b_int, b_bl, b_abs, b_min2, b_max2, a_set, ar_set, ct_ll, sl_l, at_0, at_1, at_2, ix_0, ix_1, fill, ok_, np_, List.getD_cons_zero, List.getD_cons_succ, List.length_cons, List.length_nil, List.set_cons_zero, List.set_cons_succ, gl_0, gl_1, true_and, and_true, if_true, if_false, Bool.not_eq_true', Bool.false_eq_true, g_lst, wMk, S_0]
  intro a2 ha2
  have ne1 := rep_off rep1 ha2
  refine ⟨a2, rfl, Mu.set_same, fun μ2 p2 q2 r2 hp2 hq2 hr2 rep2 f2 => ⟨rfl, ?_⟩⟩
  try simp (decide := true) only [sSs, sS, sE, sBs, sEs, sTs, sI, rd, tOf, tOfB, getS, setS, wipeS, endK, nw_t, nw_f, partE, allT, asgT, asgL, T.bl.injEq, exists_eq_left', exists_eq_left, Option.some.injEq, decide_eq_true_eq, Mu.set_same, Mu.set_set, w_add, w_sub, w_mul, w_fdiv, w_mod, w_pow, w_neg, w_lt, w_le, w_gt, w_ge, w_eq, w_ne, w_is, w_isnot, w_in, w_notin, w_chn, c_lt, c_le, c_gt, c_ge, n_int, n_non, n_tup, n_lst, n_str, n_h, t_bl, i_tup, i_lst, i_scr, i_set, x_set, l_set, l_lst, l_tup, l_scr, b_int, b_bl, b_abs, b_min2, b_max2, a_set, ar_set, ct_ll, sl_l, at_0, at_1, at_2, ix_0, ix_1, fill, ok_, np_, List.getD_cons_zero, List.getD_cons_succ, List.length_cons, List.length_nil, List.set_cons_zero, List.set_cons_succ, gl_0, gl_1, true_and, and_true, if_true, if_false, Bool.not_eq_true', Bool.false_eq_true, g_lst, wMk, S_0]
  intro S hS
  have d : ∀ x, x ∈ adr a1 p1 q1 r1 → x ∉ adr a2 p2 q2 r2 := fun x hx z => by
    have n0 := rep_in rep1 hx
    have xa : x ≠ a2 := fun e => ne1 (by rw [← e]; exact hx)
    simp only [adr, List.mem_cons, List.mem_nil_iff, or_false] at z
    rcases z with rfl | rfl | rfl | rfl
    · exact xa rfl
    · rw [Mu.set_ne xa] at hp2; exact n0 hp2
    · rw [Mu.set_ne xa] at hq2; exact n0 hq2
    · rw [Mu.set_ne xa] at hr2; exact n0 hr2
  have rep1' : Rep μ2 a1 p1 q1 r1 [] := by
    have f : Fr μ1 μ2 [a2] := (Fr.set (.inl (by simp))).trans f2
    exact rep_keep rep1 f (by intro x hx; simp at hx; rw [hx]; exact ne1)
  have s1 := rep_off rep1' hS
  have s2 := rep_off rep2 hS
  have i0 : Inv2 (μ2.set S (.lst [.lst [], .lst []])) a1 p1 q1 r1 a2 p2 q2 r2 S [] [] :=
    ⟨rep1'.set hS, rep2.set hS, wf_nil, wf_nil, by decide, by decide, Mu.set_same⟩
  refine ⟨?_, ?_, ?_⟩
  · split <;> omega
  · split <;> omega
  refine for_ok (fun i σ μ' => (∃ G H, Inv2 μ' a1 p1 q1 r1 a2 p2 q2 r2 S G H) ∧ ∃ t3 t4 t5 t6, σ = [some (.scr ns), some (.lst [.h a1, .h a2]), some (.h S), t3, t4, t5, t6]) ⟨⟨[], [], i0⟩, none, none, none, none, rfl⟩ ?_ ?_
  · rintro i x σ μ' n hx ⟨⟨G, H, inv⟩, t3, t4, t5, t6, rfl⟩ hk
    obtain ⟨k, rfl⟩ : ∃ k : Nat, x = T.int (k : Int) := by
      rw [rng_nat, List.getElem?_map] at hx
      obtain ⟨k, e, rfl⟩ := Option.map_eq_some_iff.mp hx
      exact ⟨k, rfl⟩
    refine ⟨trivial, ?_⟩
    try simp (decide := true) only [sSs, sS, sE, sBs, sEs, sTs, sI, rd, tOf, tOfB, getS, setS, wipeS, endK, nw_t, nw_f, partE, allT, asgT, asgL, T.bl.injEq, exists_eq_left', exists_eq_left, Option.some.injEq, decide_eq_true_eq, Mu.set_same, Mu.set_set, w_add, w_sub, w_mul, w_fdiv, w_mod, w_pow, w_neg, w_lt, w_le, w_gt, w_ge, w_eq, w_ne, w_is, w_isnot, w_in, w_notin, w_chn, c_lt, c_le, c_gt, c_ge, n_int, n_non, n_tup, n_lst, n_str, n_h, t_bl, i_tup, i_lst, i_scr, i_set, x_set, l_set, l_lst, l_tup, l_scr, b_int, b_bl, b_abs, b_min2, b_max2, a_set, ar_set, ct_ll, sl_l, at_0, at_1, at_2, ix_0, ix_1, fill, ok_, np_, List.getD_cons_zero, List.getD_cons_succ, List.length_cons, List.length_nil, List.set_cons_zero, List.set_cons_succ, gl_0, gl_1, true_and, and_true, if_true, if_false, Bool.not_eq_true', Bool.false_eq_true, g_lst, S_22]
    refine ⟨ns, k, rfl, by omega, fun c => ?_⟩
    try simp (decide := true) only [sSs, sS, sE, sBs, sEs, sTs, sI, rd, tOf, tOfB, getS, setS, wipeS, endK, nw_t, nw_f, partE, allT, asgT, asgL, T.bl.injEq, exists_eq_left', exists_eq_left, Option.some.injEq, decide_eq_true_eq, Mu.set_same, Mu.set_set, w_add, w_sub, w_mul, w_fdiv, w_mod, w_pow, w_neg, w_lt, w_le, w_gt, w_ge, w_eq, w_ne, w_is, w_isnot, w_in, w_notin, w_chn, c_lt, c_le, c_gt, c_ge, n_int, n_non, n_tup, n_lst, n_str, n_h, t_bl, i_tup, i_lst, i_scr, i_set, x_set, l_set, l_lst, l_tup, l_scr, b_int, b_bl, b_abs, b_min2, b_max2, a_set, ar_set, ct_ll, sl_l, at_0, at_1, at_2, ix_0, ix_1, fill, ok_, np_, List.getD_cons_zero, List.getD_cons_succ, List.length_cons, List.length_nil, List.set_cons_zero, List.set_cons_succ, gl_0, gl_1, true_and, and_true, if_true, if_false, Bool.not_eq_true', Bool.false_eq_true, g_lst, S_1]
    refine ⟨c, k, rfl, fun b hb x y => ?_⟩
    obtain ⟨b1, b2, b3⟩ := inv.off1 hb
    have one : ∀ {z : Addr}, z ∈ [b] → z = b := fun h => by simpa using h
    try simp (decide := true) only [sSs, sS, sE, sBs, sEs, sTs, sI, rd, tOf, tOfB, getS, setS, wipeS, endK, nw_t, nw_f, partE, allT, asgT, asgL, T.bl.injEq, exists_eq_left', exists_eq_left, Option.some.injEq, decide_eq_true_eq, Mu.set_same, Mu.set_set, w_add, w_sub, w_mul, w_fdiv, w_mod, w_pow, w_neg, w_lt, w_le, w_gt, w_ge, w_eq, w_ne, w_is, w_isnot, w_in, w_notin, w_chn, c_lt, c_le, c_gt, c_ge, n_int, n_non, n_tup, n_lst, n_str, n_h, t_bl, i_tup, i_lst, i_scr, i_set, x_set, l_set, l_lst, l_tup, l_scr, b_int, b_bl, b_abs, b_min2, b_max2, a_set, ar_set, ct_ll, sl_l, at_0, at_1, at_2, ix_0, ix_1, fill, ok_, np_, List.getD_cons_zero, List.getD_cons_succ, List.length_cons, List.length_nil, List.set_cons_zero, List.set_cons_succ, gl_0, gl_1, true_and, and_true, if_true, if_false, Bool.not_eq_true', Bool.false_eq_true, g_lst, S_2]
    refine ⟨b, 2, x, y, rfl, Mu.set_same, by decide, by decide, fun m x y m0 m1 => ?_⟩
    have inv1 : Inv2 (μ'.set b (.lst [.int x, .int y])) a1 p1 q1 r1 a2 p2 q2 r2 S G H := inv.fresh (D := [b]) (Fr.set (.inl (by simp))) (fun z hz => by rw [one hz]; exact b1) (fun z hz => by rw [one hz]; exact b2) (by simp [b3])
    have hbv : (μ'.set b (.lst [.int x, .int y])) b = some (.lst [.int x, .int y]) := Mu.set_same
    rw [Mu.set_set]
    generalize μ'.set b (.lst [.int x, .int y]) = μ3 at inv1 hbv
    have bs : ∀ z, z ∈ adr a1 p1 q1 r1 → b ≠ z := fun z hz e => b1 (by rw [e]; exact hz)
    have bs2 : ∀ z, z ∈ adr a2 p2 q2 r2 → b ≠ z := fun z hz e => b2 (by rw [e]; exact hz)
    have m01 : m = 0 ∨ m = 1 := by omega
    rcases m01 with rfl | rfl
    · try simp (decide := true) only [sSs, sS, sE, sBs, sEs, sTs, sI, rd, tOf, tOfB, getS, setS, wipeS, endK, nw_t, nw_f, partE, allT, asgT, asgL, T.bl.injEq, exists_eq_left', exists_eq_left, Option.some.injEq, decide_eq_true_eq, Mu.set_same, Mu.set_set, w_add, w_sub, w_mul, w_fdiv, w_mod, w_pow, w_neg, w_lt, w_le, w_gt, w_ge, w_eq, w_ne, w_is, w_isnot, w_in, w_notin, w_chn, c_lt, c_le, c_gt, c_ge, n_int, n_non, n_tup, n_lst, n_str, n_h, t_bl, i_tup, i_lst, i_scr, i_set, x_set, l_set, l_lst, l_tup, l_scr, b_int, b_bl, b_abs, b_min2, b_max2, a_set, ar_set, ct_ll, sl_l, at_0, at_1, at_2, ix_0, ix_1, fill, ok_, np_, List.getD_cons_zero, List.getD_cons_succ, List.length_cons, List.length_nil, List.set_cons_zero, List.set_cons_succ, gl_0, gl_1, true_and, and_true, if_true, if_false, Bool.not_eq_true', Bool.false_eq_true, g_lst, i_h inv1.st, at_0, at_1, S_18]
      refine ⟨b, x, y, a1, p1, q1, r1, G, rfl, hbv, inv1.ra, inv1.wa, inv1.la, bs _ (by simp [adr]), bs _ (by simp [adr]), bs _ (by simp [adr]), fun μ4 G2 x y w' l' r' hb4 f' => ?_⟩
      have st4 : μ4 S = some (.lst [sT G, sT H]) := f'.get inv1.st (fun z => by simp at z; rcases z with rfl | rfl | rfl | rfl; exact b3 rfl; exact s1 (by simp [adr]); exact s1 (by simp [adr]); exact s1 (by simp [adr]))
      have oth := rep_keep inv1.rb f' (fun z hz => by simp at hz; rcases hz with rfl | rfl | rfl | rfl; exact b2; exact d _ (by simp [adr]); exact d _ (by simp [adr]); exact d _ (by simp [adr]))
      try simp (decide := true) only [sSs, sS, sE, sBs, sEs, sTs, sI, rd, tOf, tOfB, getS, setS, wipeS, endK, nw_t, nw_f, partE, allT, asgT, asgL, T.bl.injEq, exists_eq_left', exists_eq_left, Option.some.injEq, decide_eq_true_eq, Mu.set_same, Mu.set_set, w_add, w_sub, w_mul, w_fdiv, w_mod, w_pow, w_neg, w_lt, w_le, w_gt, w_ge, w_eq, w_ne, w_is, w_isnot, w_in, w_notin, w_chn, c_lt, c_le, c_gt, c_ge, n_int, n_non, n_tup, n_lst, n_str, n_h, t_bl, i_tup, i_lst, i_scr, i_set, x_set, l_set, l_lst, l_tup, l_scr, b_int, b_bl, b_abs, b_min2, b_max2, a_set, ar_set, ct_ll, sl_l, at_0, at_1, at_2, ix_0, ix_1, fill, ok_, np_, List.getD_cons_zero, List.getD_cons_succ, List.length_cons, List.length_nil, List.set_cons_zero, List.set_cons_succ, gl_0, gl_1, true_and, and_true, if_true, if_false, Bool.not_eq_true', Bool.false_eq_true, g_lst, sT, S_2]
      have st4' := st4
      simp only [sT] at st4'
      try simp (decide := true) only [sSs, sS, sE, sBs, sEs, sTs, sI, rd, tOf, tOfB, getS, setS, wipeS, endK, nw_t, nw_f, partE, allT, asgT, asgL, T.bl.injEq, exists_eq_left', exists_eq_left, Option.some.injEq, decide_eq_true_eq, Mu.set_same, Mu.set_set, w_add, w_sub, w_mul, w_fdiv, w_mod, w_pow, w_neg, w_lt, w_le, w_gt, w_ge, w_eq, w_ne, w_is, w_isnot, w_in, w_notin, w_chn, c_lt, c_le, c_gt, c_ge, n_int, n_non, n_tup, n_lst, n_str, n_h, t_bl, i_tup, i_lst, i_scr, i_set, x_set, l_set, l_lst, l_tup, l_scr, b_int, b_bl, b_abs, b_min2, b_max2, a_set, ar_set, ct_ll, sl_l, at_0, at_1, at_2, ix_0, ix_1, fill, ok_, np_, List.getD_cons_zero, List.getD_cons_succ, List.length_cons, List.length_nil, List.set_cons_zero, List.set_cons_succ, gl_0, gl_1, true_and, and_true, if_true, if_false, Bool.not_eq_true', Bool.false_eq_true, g_lst, x_h st4', ix_0, ix_1, S_2]
      have fs : ∀ {m : M}, Fr μ4 (μ4.set S m) [S] := fun {m} => Fr.set (.inl (by simp))
      have sone : ∀ {z : Addr}, z ∈ [S] → z = S := fun h => by simpa using h
      have rA' := rep_keep r' (fs (m := .lst [sT G2, sT H])) (fun z hz => by rw [sone hz]; exact s1)
      have rO := rep_keep oth (fs (m := .lst [sT G2, sT H])) (fun z hz => by rw [sone hz]; exact s2)
      have inv5 : Inv2 (μ4.set S (.lst [sT G2, sT H])) a1 p1 q1 r1 a2 p2 q2 r2 S G2 H := ⟨rA', rO, w', inv1.wb, l', inv1.lb, Mu.set_same⟩
      have hb5 : (μ4.set S (.lst [sT G2, sT H])) b = some (.lst [.int x, .int y]) := (Mu.set_ne (Ne.symm b3)).trans hb4
      simp only [sT] at inv5 hb5
      refine ⟨b, 5, x, y, rfl, hb5, by decide, by decide, fun m x y m0 m1 => ?_⟩
      have inv6 := inv5.fresh (D := [b]) (Fr.set (a := b) (m := .lst [.int x, .int y]) (.inl (by simp))) (fun z hz => by rw [one hz]; exact b1) (fun z hz => by rw [one hz]; exact b2) (by simp [b3])
      generalize Mu.set _ b (M.lst [.int x, .int y]) = μ6 at inv6
      try simp (decide := true) only [sSs, sS, sE, sBs, sEs, sTs, sI, rd, tOf, tOfB, getS, setS, wipeS, endK, nw_t, nw_f, partE, allT, asgT, asgL, T.bl.injEq, exists_eq_left', exists_eq_left, Option.some.injEq, decide_eq_true_eq, Mu.set_same, Mu.set_set, w_add, w_sub, w_mul, w_fdiv, w_mod, w_pow, w_neg, w_lt, w_le, w_gt, w_ge, w_eq, w_ne, w_is, w_isnot, w_in, w_notin, w_chn, c_lt, c_le, c_gt, c_ge, n_int, n_non, n_tup, n_lst, n_str, n_h, t_bl, i_tup, i_lst, i_scr, i_set, x_set, l_set, l_lst, l_tup, l_scr, b_int, b_bl, b_abs, b_min2, b_max2, a_set, ar_set, ct_ll, sl_l, at_0, at_1, at_2, ix_0, ix_1, fill, ok_, np_, List.getD_cons_zero, List.getD_cons_succ, List.length_cons, List.length_nil, List.set_cons_zero, List.set_cons_succ, gl_0, gl_1, true_and, and_true, if_true, if_false, Bool.not_eq_true', Bool.false_eq_true, g_lst, wEq_int, Bool.xor_false, i_h inv6.st, at_0, at_1, S_20, sT]
      split
      · refine ⟨a1, p1, q1, r1, G2, rfl, inv6.ra, inv6.wa, inv6.la, fun μ7 f7 => ⟨true, rfl, ?_⟩⟩
        try simp (decide := true) only [sSs, sS, sE, sBs, sEs, sTs, sI, rd, tOf, tOfB, getS, setS, wipeS, endK, nw_t, nw_f, partE, allT, asgT, asgL, T.bl.injEq, exists_eq_left', exists_eq_left, Option.some.injEq, decide_eq_true_eq, Mu.set_same, Mu.set_set, w_add, w_sub, w_mul, w_fdiv, w_mod, w_pow, w_neg, w_lt, w_le, w_gt, w_ge, w_eq, w_ne, w_is, w_isnot, w_in, w_notin, w_chn, c_lt, c_le, c_gt, c_ge, n_int, n_non, n_tup, n_lst, n_str, n_h, t_bl, i_tup, i_lst, i_scr, i_set, x_set, l_set, l_lst, l_tup, l_scr, b_int, b_bl, b_abs, b_min2, b_max2, a_set, ar_set, ct_ll, sl_l, at_0, at_1, at_2, ix_0, ix_1, fill, ok_, np_, List.getD_cons_zero, List.getD_cons_succ, List.length_cons, List.length_nil, List.set_cons_zero, List.set_cons_succ, gl_0, gl_1, true_and, and_true, if_true, if_false, Bool.not_eq_true', Bool.false_eq_true, g_lst]
        exact hk _ _ ⟨⟨_, _, inv6.fresh f7 (by simp) (by simp) (by simp)⟩, _, _, _, _, rfl⟩
      · exact hk _ _ ⟨⟨_, _, inv6⟩, _, _, _, _, rfl⟩
    · try simp (decide := true) only [sSs, sS, sE, sBs, sEs, sTs, sI, rd, tOf, tOfB, getS, setS, wipeS, endK, nw_t, nw_f, partE, allT, asgT, asgL, T.bl.injEq, exists_eq_left', exists_eq_left, Option.some.injEq, decide_eq_true_eq, Mu.set_same, Mu.set_set, w_add, w_sub, w_mul, w_fdiv, w_mod, w_pow, w_neg, w_lt, w_le, w_gt, w_ge, w_eq, w_ne, w_is, w_isnot, w_in, w_notin, w_chn, c_lt, c_le, c_gt, c_ge, n_int, n_non, n_tup, n_lst, n_str, n_h, t_bl, i_tup, i_lst, i_scr, i_set, x_set, l_set, l_lst, l_tup, l_scr, b_int, b_bl, b_abs, b_min2, b_max2, a_set, ar_set, ct_ll, sl_l, at_0, at_1, at_2, ix_0, ix_1, fill, ok_, np_, List.getD_cons_zero, List.getD_cons_succ, List.length_cons, List.length_nil, List.set_cons_zero, List.set_cons_succ, gl_0, gl_1, true_and, and_true, if_true, if_false, Bool.not_eq_true', Bool.false_eq_true, g_lst, i_h inv1.st, at_0, at_1, S_18]
      refine ⟨b, x, y, a2, p2, q2, r2, H, rfl, hbv, inv1.rb, inv1.wb, inv1.lb, bs2 _ (by simp [adr]), bs2 _ (by simp [adr]), bs2 _ (by simp [adr]), fun μ4 G2 x y w' l' r' hb4 f' => ?_⟩
      have st4 : μ4 S = some (.lst [sT G, sT H]) := f'.get inv1.st (fun z => by simp at z; rcases z with rfl | rfl | rfl | rfl; exact b3 rfl; exact s2 (by simp [adr]); exact s2 (by simp [adr]); exact s2 (by simp [adr]))
      have oth := rep_keep inv1.ra f' (fun z hz => by simp at hz; rcases hz with rfl | rfl | rfl | rfl; exact b1; exact (fun y => d _ y (by simp [adr])); exact (fun y => d _ y (by simp [adr])); exact (fun y => d _ y (by simp [adr])))
      try simp (decide := true) only [sSs, sS, sE, sBs, sEs, sTs, sI, rd, tOf, tOfB, getS, setS, wipeS, endK, nw_t, nw_f, partE, allT, asgT, asgL, T.bl.injEq, exists_eq_left', exists_eq_left, Option.some.injEq, decide_eq_true_eq, Mu.set_same, Mu.set_set, w_add, w_sub, w_mul, w_fdiv, w_mod, w_pow, w_neg, w_lt, w_le, w_gt, w_ge, w_eq, w_ne, w_is, w_isnot, w_in, w_notin, w_chn, c_lt, c_le, c_gt, c_ge, n_int, n_non, n_tup, n_lst, n_str, n_h, t_bl, i_tup, i_lst, i_scr, i_set, x_set, l_set, l_lst, l_tup, l_scr, b_int, b_bl, b_abs, b_min2, b_max2, a_set, ar_set, ct_ll, sl_l, at_0, at_1, at_2, ix_0, ix_1, fill, ok_, np_, List.getD_cons_zero, List.getD_cons_succ, List.length_cons, List.length_nil, List.set_cons_zero, List.set_cons_succ, gl_0, gl_1, true_and, and_true, if_true, if_false, Bool.not_eq_true', Bool.false_eq_true, g_lst, sT, S_2]
      have st4' := st4
      simp only [sT] at st4'
      try simp (decide := true) only [sSs, sS, sE, sBs, sEs, sTs, sI, rd, tOf, tOfB, getS, setS, wipeS, endK, nw_t, nw_f, partE, allT, asgT, asgL, T.bl.injEq, exists_eq_left', exists_eq_left, Option.some.injEq, decide_eq_true_eq, Mu.set_same, Mu.set_set, w_add, w_sub, w_mul, w_fdiv, w_mod, w_pow, w_neg, w_lt, w_le, w_gt, w_ge, w_eq, w_ne, w_is, w_isnot, w_in, w_notin, w_chn, c_lt, c_le, c_gt, c_ge, n_int, n_non, n_tup, n_lst, n_str, n_h, t_bl, i_tup, i_lst, i_scr, i_set, x_set, l_set, l_lst, l_tup, l_scr, b_int, b_bl, b_abs, b_min2, b_max2, a_set, ar_set, ct_ll, sl_l, at_0, at_1, at_2, ix_0, ix_1, fill, ok_, np_, List.getD_cons_zero, List.getD_cons_succ, List.length_cons, List.length_nil, List.set_cons_zero, List.set_cons_succ, gl_0, gl_1, true_and, and_true, if_true, if_false, Bool.not_eq_true', Bool.false_eq_true, g_lst, x_h st4', ix_0, ix_1, S_2]
      have fs : ∀ {m : M}, Fr μ4 (μ4.set S m) [S] := fun {m} => Fr.set (.inl (by simp))
      have sone : ∀ {z : Addr}, z ∈ [S] → z = S := fun h => by simpa using h
      have rA' := rep_keep r' (fs (m := .lst [sT G, sT G2])) (fun z hz => by rw [sone hz]; exact s2)
      have rO := rep_keep oth (fs (m := .lst [sT G, sT G2])) (fun z hz => by rw [sone hz]; exact s1)
      have inv5 : Inv2 (μ4.set S (.lst [sT G, sT G2])) a1 p1 q1 r1 a2 p2 q2 r2 S G G2 := ⟨rO, rA', inv1.wa, w', inv1.la, l', Mu.set_same⟩
      have hb5 : (μ4.set S (.lst [sT G, sT G2])) b = some (.lst [.int x, .int y]) := (Mu.set_ne (Ne.symm b3)).trans hb4
      simp only [sT] at inv5 hb5
      refine ⟨b, 5, x, y, rfl, hb5, by decide, by decide, fun m x y m0 m1 => ?_⟩
      have inv6 := inv5.fresh (D := [b]) (Fr.set (a := b) (m := .lst [.int x, .int y]) (.inl (by simp))) (fun z hz => by rw [one hz]; exact b1) (fun z hz => by rw [one hz]; exact b2) (by simp [b3])
      generalize Mu.set _ b (M.lst [.int x, .int y]) = μ6 at inv6
      try simp (decide := true) only [sSs, sS, sE, sBs, sEs, sTs, sI, rd, tOf, tOfB, getS, setS, wipeS, endK, nw_t, nw_f, partE, allT, asgT, asgL, T.bl.injEq, exists_eq_left', exists_eq_left, Option.some.injEq, decide_eq_true_eq, Mu.set_same, Mu.set_set, w_add, w_sub, w_mul, w_fdiv, w_mod, w_pow, w_neg, w_lt, w_le, w_gt, w_ge, w_eq, w_ne, w_is, w_isnot, w_in, w_notin, w_chn, c_lt, c_le, c_gt, c_ge, n_int, n_non, n_tup, n_lst, n_str, n_h, t_bl, i_tup, i_lst, i_scr, i_set, x_set, l_set, l_lst, l_tup, l_scr, b_int, b_bl, b_abs, b_min2, b_max2, a_set, ar_set, ct_ll, sl_l, at_0, at_1, at_2, ix_0, ix_1, fill, ok_, np_, List.getD_cons_zero, List.getD_cons_succ, List.length_cons, List.length_nil, List.set_cons_zero, List.set_cons_succ, gl_0, gl_1, true_and, and_true, if_true, if_false, Bool.not_eq_true', Bool.false_eq_true, g_lst, wEq_int, Bool.xor_false, i_h inv6.st, at_0, at_1, S_20, sT]
      split
      · refine ⟨a2, p2, q2, r2, G2, rfl, inv6.rb, inv6.wb, inv6.lb, fun μ7 f7 => ⟨true, rfl, ?_⟩⟩
        try simp (decide := true) only [sSs, sS, sE, sBs, sEs, sTs, sI, rd, tOf, tOfB, getS, setS, wipeS, endK, nw_t, nw_f, partE, allT, asgT, asgL, T.bl.injEq, exists_eq_left', exists_eq_left, Option.some.injEq, decide_eq_true_eq, Mu.set_same, Mu.set_set, w_add, w_sub, w_mul, w_fdiv, w_mod, w_pow, w_neg, w_lt, w_le, w_gt, w_ge, w_eq, w_ne, w_is, w_isnot, w_in, w_notin, w_chn, c_lt, c_le, c_gt, c_ge, n_int, n_non, n_tup, n_lst, n_str, n_h, t_bl, i_tup, i_lst, i_scr, i_set, x_set, l_set, l_lst, l_tup, l_scr, b_int, b_bl, b_abs, b_min2, b_max2, a_set, ar_set, ct_ll, sl_l, at_0, at_1, at_2, ix_0, ix_1, fill, ok_, np_, List.getD_cons_zero, List.getD_cons_succ, List.length_cons, List.length_nil, List.set_cons_zero, List.set_cons_succ, gl_0, gl_1, true_and, and_true, if_true, if_false, Bool.not_eq_true', Bool.false_eq_true, g_lst]
        exact hk _ _ ⟨⟨_, _, inv6.fresh f7 (by simp) (by simp) (by simp)⟩, _, _, _, _, rfl⟩
      · exact hk _ _ ⟨⟨_, _, inv6⟩, _, _, _, _, rfl⟩
  · rintro σ μ' ⟨⟨G, H, inv⟩, t3, t4, t5, t6, rfl⟩
    refine ⟨trivial, ?_⟩
    try simp (decide := true) only [sSs, sS, sE, sBs, sEs, sTs, sI, rd, tOf, tOfB, getS, setS, wipeS, endK, nw_t, nw_f, partE, allT, asgT, asgL, T.bl.injEq, exists_eq_left', exists_eq_left, Option.some.injEq, decide_eq_true_eq, Mu.set_same, Mu.set_set, w_add, w_sub, w_mul, w_fdiv, w_mod, w_pow, w_neg, w_lt, w_le, w_gt, w_ge, w_eq, w_ne, w_is, w_isnot, w_in, w_notin, w_chn, c_lt, c_le, c_gt, c_ge, n_int, n_non, n_tup, n_lst, n_str, n_h, t_bl, i_tup, i_lst, i_scr, i_set, x_set, l_set, l_lst, l_tup, l_scr, b_int, b_bl, b_abs, b_min2, b_max2, a_set, ar_set, ct_ll, sl_l, at_0, at_1, at_2, ix_0, ix_1, fill, ok_, np_, List.getD_cons_zero, List.getD_cons_succ, List.length_cons, List.length_nil, List.set_cons_zero, List.set_cons_succ, gl_0, gl_1, true_and, and_true, if_true, if_false, Bool.not_eq_true', Bool.false_eq_true, g_lst, i_h inv.st, at_0, at_1, S_20, sT]
    refine ⟨a1, p1, q1, r1, G, rfl, inv.ra, inv.wa, inv.la, fun μ3 f3 => ⟨true, rfl, ?_⟩⟩
    have inv3 := inv.fresh f3 (by simp) (by simp) (by simp)
    try simp (decide := true) only [sSs, sS, sE, sBs, sEs, sTs, sI, rd, tOf, tOfB, getS, setS, wipeS, endK, nw_t, nw_f, partE, allT, asgT, asgL, T.bl.injEq, exists_eq_left', exists_eq_left, Option.some.injEq, decide_eq_true_eq, Mu.set_same, Mu.set_set, w_add, w_sub, w_mul, w_fdiv, w_mod, w_pow, w_neg, w_lt, w_le, w_gt, w_ge, w_eq, w_ne, w_is, w_isnot, w_in, w_notin, w_chn, c_lt, c_le, c_gt, c_ge, n_int, n_non, n_tup, n_lst, n_str, n_h, t_bl, i_tup, i_lst, i_scr, i_set, x_set, l_set, l_lst, l_tup, l_scr, b_int, b_bl, b_abs, b_min2, b_max2, a_set, ar_set, ct_ll, sl_l, at_0, at_1, at_2, ix_0, ix_1, fill, ok_, np_, List.getD_cons_zero, List.getD_cons_succ, List.length_cons, List.length_nil, List.set_cons_zero, List.set_cons_succ, gl_0, gl_1, true_and, and_true, if_true, if_false, Bool.not_eq_true', Bool.false_eq_true, g_lst, i_h inv3.st, at_0, at_1, S_20, sT]
    refine ⟨a2, p2, q2, r2, H, rfl, inv3.rb, inv3.wb, inv3.lb, fun μ4 f4 => ⟨true, rfl, ?_⟩⟩
    have inv4 := inv3.fresh f4 (by simp) (by simp) (by simp)
    try simp (decide := true) only [sSs, sS, sE, sBs, sEs, sTs, sI, rd, tOf, tOfB, getS, setS, wipeS, endK, nw_t, nw_f, partE, allT, asgT, asgL, T.bl.injEq, exists_eq_left', exists_eq_left, Option.some.injEq, decide_eq_true_eq, Mu.set_same, Mu.set_set, w_add, w_sub, w_mul, w_fdiv, w_mod, w_pow, w_neg, w_lt, w_le, w_gt, w_ge, w_eq, w_ne, w_is, w_isnot, w_in, w_notin, w_chn, c_lt, c_le, c_gt, c_ge, n_int, n_non, n_tup, n_lst, n_str, n_h, t_bl, i_tup, i_lst, i_scr, i_set, x_set, l_set, l_lst, l_tup, l_scr, b_int, b_bl, b_abs, b_min2, b_max2, a_set, ar_set, ct_ll, sl_l, at_0, at_1, at_2, ix_0, ix_1, fill, ok_, np_, List.getD_cons_zero, List.getD_cons_succ, List.length_cons, List.length_nil, List.set_cons_zero, List.set_cons_succ, gl_0, gl_1, true_and, and_true, if_true, if_false, Bool.not_eq_true', Bool.false_eq_true, g_lst, S_22]
    refine ⟨ns, 0, rfl, by omega, fun c => ?_⟩
    try simp (decide := true) only [sSs, sS, sE, sBs, sEs, sTs, sI, rd, tOf, tOfB, getS, setS, wipeS, endK, nw_t, nw_f, partE, allT, asgT, asgL, T.bl.injEq, exists_eq_left', exists_eq_left, Option.some.injEq, decide_eq_true_eq, Mu.set_same, Mu.set_set, w_add, w_sub, w_mul, w_fdiv, w_mod, w_pow, w_neg, w_lt, w_le, w_gt, w_ge, w_eq, w_ne, w_is, w_isnot, w_in, w_notin, w_chn, c_lt, c_le, c_gt, c_ge, n_int, n_non, n_tup, n_lst, n_str, n_h, t_bl, i_tup, i_lst, i_scr, i_set, x_set, l_set, l_lst, l_tup, l_scr, b_int, b_bl, b_abs, b_min2, b_max2, a_set, ar_set, ct_ll, sl_l, at_0, at_1, at_2, ix_0, ix_1, fill, ok_, np_, List.getD_cons_zero, List.getD_cons_succ, List.length_cons, List.length_nil, List.set_cons_zero, List.set_cons_succ, gl_0, gl_1, true_and, and_true, if_true, if_false, Bool.not_eq_true', Bool.false_eq_true, g_lst, S_1]
    refine ⟨c, 90, rfl, fun b hb x y => ?_⟩
    try simp (decide := true) only [sSs, sS, sE, sBs, sEs, sTs, sI, rd, tOf, tOfB, getS, setS, wipeS, endK, nw_t, nw_f, partE, allT, asgT, asgL, T.bl.injEq, exists_eq_left', exists_eq_left, Option.some.injEq, decide_eq_true_eq, Mu.set_same, Mu.set_set, w_add, w_sub, w_mul, w_fdiv, w_mod, w_pow, w_neg, w_lt, w_le, w_gt, w_ge, w_eq, w_ne, w_is, w_isnot, w_in, w_notin, w_chn, c_lt, c_le, c_gt, c_ge, n_int, n_non, n_tup, n_lst, n_str, n_h, t_bl, i_tup, i_lst, i_scr, i_set, x_set, l_set, l_lst, l_tup, l_scr, b_int, b_bl, b_abs, b_min2, b_max2, a_set, ar_set, ct_ll, sl_l, at_0, at_1, at_2, ix_0, ix_1, fill, ok_, np_, List.getD_cons_zero, List.getD_cons_succ, List.length_cons, List.length_nil, List.set_cons_zero, List.set_cons_succ, gl_0, gl_1, true_and, and_true, if_true, if_false, Bool.not_eq_true', Bool.false_eq_true, g_lst, S_2]
    refine ⟨b, 6, x, y, rfl, Mu.set_same, by decide, by decide, fun m x y m0 m1 => ?_⟩
    try simp (decide := true) only [sSs, sS, sE, sBs, sEs, sTs, sI, rd, tOf, tOfB, getS, setS, wipeS, endK, nw_t, nw_f, partE, allT, asgT, asgL, T.bl.injEq, exists_eq_left', exists_eq_left, Option.some.injEq, decide_eq_true_eq, Mu.set_same, Mu.set_set, w_add, w_sub, w_mul, w_fdiv, w_mod, w_pow, w_neg, w_lt, w_le, w_gt, w_ge, w_eq, w_ne, w_is, w_isnot, w_in, w_notin, w_chn, c_lt, c_le, c_gt, c_ge, n_int, n_non, n_tup, n_lst, n_str, n_h, t_bl, i_tup, i_lst, i_scr, i_set, x_set, l_set, l_lst, l_tup, l_scr, b_int, b_bl, b_abs, b_min2, b_max2, a_set, ar_set, ct_ll, sl_l, at_0, at_1, at_2, ix_0, ix_1, fill, ok_, np_, List.getD_cons_zero, List.getD_cons_succ, List.length_cons, List.length_nil, List.set_cons_zero, List.set_cons_succ, gl_0, gl_1, true_and, and_true, if_true, if_false, Bool.not_eq_true', Bool.false_eq_true, g_lst, S_21]
    by_cases hm : 0 < m
    · simp (decide := true) only [hm, decide_true, if_true, if_false, Bool.true_eq_false]
      exact hq _
    · simp (decide := true) only [hm, decide_false, if_true, if_false]
      exact ⟨rfl, fun μ5 _ => hq _⟩
end K98
set_option Elab.async false
set_option linter.all false
set_option maxRecDepth 100000
set_option maxHeartbeats 0
namespace K98
open PySem PySem.Spec PyProof.Rows L2 Co
theorem bd_0 : Bd u_Limits_init [] := bd0 rfl rfl (fun _ _ _ _ _ _ us hl => match us, hl with | [_], _ => rfl)
theorem bd_1 : Bd u_law_source [] := bd0 rfl rfl (fun _ _ _ _ _ _ us hl => match us, hl with | [_, _], _ => rfl)
theorem bd_2 : Bd u_law_pick [] := bd0 rfl rfl (fun _ _ _ _ _ _ us hl => match us, hl with | [_, _], _ => rfl)
theorem bd_3 : Bd u_law_is_group [] := bd0 rfl rfl (fun _ _ _ _ _ _ us hl => match us, hl with | [_, _], _ => rfl)
theorem bd_4 : Bd u_law_line [] := bd0 rfl rfl (fun _ _ _ _ _ _ us hl => match us, hl with | [_, _], _ => rfl)
theorem bd_5 : Bd u_law_used [] := bd0 rfl rfl (fun _ _ _ _ _ _ us hl => match us, hl with | [_, _], _ => rfl)
theorem bd_6 : Bd u_law_room [] := bd0 rfl rfl (fun _ _ _ _ _ _ us hl => match us, hl with | [_, _], _ => rfl)
theorem bd_7 : Bd u_law_call [] := bd0 rfl rfl (fun _ _ _ _ _ _ us hl => match us, hl with | [_, _], _ => rfl)
theorem bd_8 : Bd u_law_due [] := bd0 rfl rfl (fun _ _ _ _ _ _ us hl => match us, hl with | [_, _, _, _], _ => rfl)
theorem bd_9 : Bd u_Limits_there [] := bd0 rfl rfl (fun _ _ _ _ _ _ us hl => match us, hl with | [_, _], _ => rfl)
theorem bd_10 : Bd u_Limits_line [] := bd0 rfl rfl (fun _ _ _ _ _ _ us hl => match us, hl with | [_, _], _ => rfl)
theorem bd_11 : Bd u_Limits_used [] := bd0 rfl rfl (fun _ _ _ _ _ _ us hl => match us, hl with | [_, _], _ => rfl)
theorem bd_12 : Bd u_Limits_room [] := bd0 rfl rfl (fun _ _ _ _ _ _ us hl => match us, hl with | [_, _], _ => rfl)
theorem bd_13 : Bd u_Limits_add [] := bd0 rfl rfl (fun _ _ _ _ _ _ us hl => match us, hl with | [_, _, _], _ => rfl)
theorem bd_14 : Bd u_Limits_lend [] := bd0 rfl rfl (fun _ _ _ _ _ _ us hl => match us, hl with | [_, _, _], _ => rfl)
theorem bd_15 : Bd u_Limits_set_limit [] := bd0 rfl rfl (fun _ _ _ _ _ _ us hl => match us, hl with | [_, _, _], _ => rfl)
theorem bd_16 : Bd u_Limits_move [] := bd0 rfl rfl (fun _ _ _ _ _ _ us hl => match us, hl with | [_, _, _], _ => rfl)
theorem bd_17 : Bd u_law_try [] := bd0 rfl rfl (fun _ _ _ _ _ _ us hl => match us, hl with | [_, _, _, _], _ => rfl)
theorem bd_18 : Bd u_law_step_right [] := bd0 rfl rfl (fun _ _ _ _ _ _ us hl => match us, hl with | [_, _, _], _ => rfl)
theorem bd_19 : Bd u_Limits_beyond [] := bd0 rfl rfl (fun _ _ _ _ _ _ us hl => match us, hl with | [_], _ => rfl)
theorem bd_20 : Bd u_law_looks_right [] := bd0 rfl rfl (fun _ _ _ _ _ _ us hl => match us, hl with | [_, _], _ => rfl)
theorem bd_21 : Bd u_law_many_right [] := bd0 rfl rfl (fun _ _ _ _ _ _ us hl => match us, hl with | [], _ => rfl)
theorem bd_22 : Bd u_law_cell [] := bd0 rfl rfl (fun _ _ _ _ _ _ us hl => match us, hl with | [_, _], _ => rfl)
theorem bd_23 : Bd u_law [] := bd0 rfl rfl (fun _ _ _ _ _ _ us hl => match us, hl with | [_], _ => rfl)
theorem vcs : ∀ (j : Nat) (u : Fu), DD.fus[j]? = some u → fuB DD SS j u = true ∧ Bd u (DD.dfs.getD j []) ∧ VC (DD.pa SS) u (SS j)
  | 0, u, h => by
    cases (Option.some.inj (show some u_Limits_init = some u from h))
    exact ⟨fu_0 SS, bd_0, vc0⟩
  | 1, u, h => by
    cases (Option.some.inj (show some u_law_source = some u from h))
    exact ⟨fu_1 SS, bd_1, vc1⟩
  | 2, u, h => by
    cases (Option.some.inj (show some u_law_pick = some u from h))
    exact ⟨fu_2 SS, bd_2, vc2⟩
  | 3, u, h => by
    cases (Option.some.inj (show some u_law_is_group = some u from h))
    exact ⟨fu_3 SS, bd_3, vc3⟩
  | 4, u, h => by
    cases (Option.some.inj (show some u_law_line = some u from h))
    exact ⟨fu_4 SS, bd_4, vc4⟩
  | 5, u, h => by
    cases (Option.some.inj (show some u_law_used = some u from h))
    exact ⟨fu_5 SS, bd_5, vc5⟩
  | 6, u, h => by
    cases (Option.some.inj (show some u_law_room = some u from h))
    exact ⟨fu_6 SS, bd_6, vc6⟩
  | 7, u, h => by
    cases (Option.some.inj (show some u_law_call = some u from h))
    exact ⟨fu_7 SS, bd_7, vc7⟩
  | 8, u, h => by
    cases (Option.some.inj (show some u_law_due = some u from h))
    exact ⟨fu_8 SS, bd_8, vc8⟩
  | 9, u, h => by
    cases (Option.some.inj (show some u_Limits_there = some u from h))
    exact ⟨fu_9 SS, bd_9, vc9⟩
  | 10, u, h => by
    cases (Option.some.inj (show some u_Limits_line = some u from h))
    exact ⟨fu_10 SS, bd_10, vc10⟩
  | 11, u, h => by
    cases (Option.some.inj (show some u_Limits_used = some u from h))
    exact ⟨fu_11 SS, bd_11, vc11⟩
  | 12, u, h => by
    cases (Option.some.inj (show some u_Limits_room = some u from h))
    exact ⟨fu_12 SS, bd_12, vc12⟩
  | 13, u, h => by
    cases (Option.some.inj (show some u_Limits_add = some u from h))
    exact ⟨fu_13 SS, bd_13, vc13⟩
  | 14, u, h => by
    cases (Option.some.inj (show some u_Limits_lend = some u from h))
    exact ⟨fu_14 SS, bd_14, vc14⟩
  | 15, u, h => by
    cases (Option.some.inj (show some u_Limits_set_limit = some u from h))
    exact ⟨fu_15 SS, bd_15, vc15⟩
  | 16, u, h => by
    cases (Option.some.inj (show some u_Limits_move = some u from h))
    exact ⟨fu_16 SS, bd_16, vc16⟩
  | 17, u, h => by
    cases (Option.some.inj (show some u_law_try = some u from h))
    exact ⟨fu_17 SS, bd_17, vc17⟩
  | 18, u, h => by
    cases (Option.some.inj (show some u_law_step_right = some u from h))
    exact ⟨fu_18 SS, bd_18, vc18⟩
  | 19, u, h => by
    cases (Option.some.inj (show some u_Limits_beyond = some u from h))
    exact ⟨fu_19 SS, bd_19, vc19⟩
  | 20, u, h => by
    cases (Option.some.inj (show some u_law_looks_right = some u from h))
    exact ⟨fu_20 SS, bd_20, vc20⟩
  | 21, u, h => by
    cases (Option.some.inj (show some u_law_many_right = some u from h))
    exact ⟨fu_21 SS, bd_21, vc21⟩
  | 22, u, h => by
    cases (Option.some.inj (show some u_law_cell = some u from h))
    exact ⟨fu_22 SS, bd_22, vc22⟩
  | 23, u, h => by
    cases (Option.some.inj (show some u_law = some u from h))
    exact ⟨fu_23 SS, bd_23, vc23⟩
  | n + 24, u, h => by cases (show (none : Option Fu) = some u from h)
theorem spec_law : ∀ ns : List Int, ns.length ≤ 63 → SS 23 [.scr ns] (fun _ => none) (fun t _ => t = .bl true) (fun _ _ => False) := fun ns h => ⟨ns, rfl, h, fun _ => rfl, fun _ => rfl⟩
abbrev R : PySem.W.OpenRow := PySem.W.OpenLaw.row PySem.Challenge.rw_bankwhole_k98_whole_limits_of_groups
abbrev hk : PySem.W.Hook := hookC 5 DD
def ob (s : PySem.W.SharedT) : He.AlD := obsG 5 DD (HandSHeadRun.getT s)
theorem ob_eq (s : PySem.W.SharedT) : ob s = hk.obs s.abs := obsG_eq (HandSHeadRun.getT_eq s)
theorem run (w : World) : HandSHeadRun.RunEq R (PySem.W.view R.prog [23]) hk ob 4000 looseN w := by
  intro os
  kernel_rfl
end K98
open PySem PySem.W PySem.Calls PyProof.Rows
theorem PySem.Challenge.cw_bankwhole_k98_whole_limits_of_groups_holds : PySem.Challenge.rw_bankwhole_k98_whole_limits_of_groups.Holds := by
  w_on; o_law
  refine HandSHeadRun.head_any (r := K98.R) (q := view K98.R.prog [23]) (H := K98.hk) (ob := K98.ob) (M := 4000) (loose := K98.looseN) (d := HandSHeadRun.topDef K98.R.prog 23) (kwd := []) K98.ob_eq
    (by kernel_rfl) (fun s => by kernel_rfl) K98.run (by kernel_rfl) (by kernel_rfl) (by kernel_rfl) (by rfl) (by first | assumption | decide +kernel) (by decide +kernel) ⟨rfl, rfl, rfl, rfl, rfl, by decide +kernel⟩ ?hw ?hc
  case hw => w_witness2
  case hc =>
    refine L2.walk_ofE (l := PySem.Challenge.rw_bankwhole_k98_whole_limits_of_groups) (n := 63) (k := 9) (x := "script") (CX := Co.CXall) rfl (by decide) (by kernel_rfl) ⟨rfl, by decide, by decide⟩ ?F Co.CXall.no
    intro w mg fa h Y G hmg0
    obtain ⟨K, KX, c⟩ := Y
    have hmg : mg ("law" : PySem.Str) = some (.ref fa) := by
      have e : (HandSHeadRun.topDef K98.R.prog 23).name = ("law" : PySem.Str) := by kernel_rfl
      rw [← e]
      exact hmg0
    obtain ⟨fd, sp, hb, hsp, hF⟩ := Co.law_fn (S := K98.SS) KX G c K98.dataOk K98.vcs (jl := 23) (ul := K98.u_law) rfl rfl (nm := "law") rfl hmg rfl (fun _ _ _ _ _ _ us hl => match us, hl with | [_], _ => rfl) K98.spec_law
    exact ⟨K, fd, sp, KX, hb, fun H a ns hl _ hS => hsp H a ns hl hS, fun base _ _ => Co.fn_all (hF _ w base)⟩

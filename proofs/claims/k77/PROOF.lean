import PyProof.Rows.All
import HandS.ForMost
import HandS.Head2
import HandS.HeadHook3
import HandS.HeadNt
import HandS.HeadEnd
import HandS.Words
import HandS.Wide
import HandS.TupAny
import HandS.Flow
import HandS.Deep
import HandS.TupLe
import HandS.Star
import HandS.IsInst
import HandS.FStr
import HandS.Style
import HandS.Property
import HandS.Text
import HandS.RaiseMore
import KE.GoesEnum
import KE.GoesZip
import HandS.Zip
import HandS.Iter
import HandS.Comp
import KE.KDictZip
import HandS.OwnIter
import HandS.ClsMeth
import PySem.Challenge.RW_fourcorners_k77_values_that_are_no_claim
set_option Elab.async false
set_option linter.all false
/-! The core language: data, terms, evaluator. -/
namespace Fc
open PySem L2

/-- deep data -/
inductive D where
  | non | bl (b : Bool) | int (i : Int) | str (s : Str)
  | tup (xs : List D) | lst (xs : List D) | ins (c : Nat) (fs : List (Str × D)) | dic (ps : List (Key × D))
  | oid (n : Nat)
  | fls (xs : List D)
  deriving Inhabited
/-- an object that may still be written -/
inductive Ob where
  | lst (xs : List D) | ins (c : Nat) (fs : List (Str × D))
/-- a slot -/
inductive Sl where
  | no | dp (d : D) | own (o : Ob)
/-- a value: data, or a new object nobody else knows -/
inductive L where
  | dp (d : D) | fr (o : Ob)
def Ob.deep : Ob → D
  | .lst xs => .lst xs
  | .ins c fs => .ins c fs
def L.deep : L → D
  | .dp d => d
  | .fr o => o.deep

mutual
def toP : D → Option PyData
  | .non => some .none
  | .bl b => some (.bool b)
  | .int i => some (.int i)
  | .str s => some (.str s)
  | .tup xs => (toPs xs).map .tuple
  | .lst xs => (toPs xs).map .list
  | .ins _ _ => none
  | .dic _ => none
  | .oid _ => none
  | .fls _ => none
def toPs : List D → Option (List PyData)
  | [] => some []
  | x :: xs => match toP x with
    | none => none
    | some p => (toPs xs).map (p :: ·)
end

inductive BOp where
  | add | sub | mul | fdiv | mod | pow | and
inductive COp where
  | eq | ne | lt | le | gt | ge | is | isn | inn | nin
inductive Ty where
  | int | bool | str | tup | lst | cls (c : Nat)
inductive Blt where
  | abs | all | any | divmod | int | list | max | min | repr | str | sum | tuple | sorted
inductive SM where
  | split | join | partition | upper | isdigit | get | count | index

mutual
inductive Tm where
  | var (i : Nat)
  | cst (d : D)
  | bin (op : BOp) (a b : Tm)
  | neg (a : Tm)
  | cmp (op : COp) (a b : Tm)
  | chain (op1 op2 : COp) (a b c : Tm)
  | and (a b : Tm) | or (a b : Tm) | not (a : Tm)
  | ife (c a b : Tm)
  | tup (xs : Tms) | lst (xs : Tms)
  | idx (a i : Tm)
  | slc (a : Tm) (lo hi : Tm)
  | rev (a : Tm)
  | call (f : Nat) (md : List Bool) (pm : List Nat) (xs : Tms)
  | make (c : Nat) (ds : List D) (xs : Tms)
  | meth (m : Str) (o : Tm) (xs : Tms)
  | prp (f : Str) (o : Tm)
  | fld (f : Str) (o : Tm)
  | isi (k : Ty) (a : Tm)
  | blt (b : Blt) (xs : Tms)
  | len (a : Tm)
  | sme (m : SM) (o : Tm) (xs : Tms)
  | fst (xs : Tms)
  | lc (vs : List Nat) (tg : Tg) (it : It) (c : Tm) (e : Tm)
  | lc2 (vs vs1 : List Nat) (tg : Tg) (it : It) (tg1 : Tg) (it1 : It) (e : Tm)
  | cmeth (c : Nat) (m : Str) (xs : Tms)
  | dnew
  | lzip (a b : Tm)
  | nil
inductive Tms where
  | nil | cons (x : Tm) (xs : Tms) | star (x : Tm) (xs : Tms)
inductive It where
  | seq (a : Tm) | range1 (a : Tm) | range2 (a b : Tm) | range3 (a b c : Tm) | enum (a : Tm) | zip (a b : Tm)
inductive Tg where
  | nm (i : Nat) | tp (xs : Tgs)
inductive Tgs where
  | nil | cons (t : Tg) (ts : Tgs)
end

abbrev E := List Sl × List Ob
/-- calls: the def, the arguments; the value, the written arguments, the objects -/
abbrev Cf := Nat → List Sl → List Ob → Option (L × List Sl × List Ob)
structure Cx0 where
  cf : Cf
  np : Nat
  kc : Nat → Bool
  mth : Nat → Str → Option (Nat × List Bool)
  prp : Nat → Str → Option Nat
  ini : Nat → Option Nat
  cm : Nat → Str → Option Nat
abbrev M (α : Type) := E → Option (α × E)
@[inline] def M.pure {α : Type} (a : α) : M α := fun s => some (a, s)
@[inline] def M.bind {α β : Type} (m : M α) (f : α → M β) : M β := fun s => match m s with
  | none => none
  | some (a, s') => f a s'
instance : Monad M where
  pure := M.pure
  bind := M.bind
def fail {α : Type} : M α := fun _ => none
def lift {α : Type} (o : Option α) : M α := fun s => o.map fun a => (a, s)

/-- a name: an own object is from now on data (a parameter's may not become so) -/
def getVar (np i : Nat) : M L := fun s => match s.1[i]? with
  | some (.dp d) => some (.dp d, s)
  | some (.own o) => if i < np then none else some (.dp o.deep, (s.1.set i (.dp o.deep), s.2))
  | _ => none
/-- a place: an own slot, or a value -/
inductive Pl where
  | sl (i : Nat) | vl (l : L)
def plOf (t : Tm) (r : M L) : M Pl := match t with
  | .var i => fun s => match s.1[i]? with
    | some (.dp d) => some (.vl (.dp d), s)
    | some (.own _) => some (.sl i, s)
    | _ => none
  | _ => fun s => match r s with
    | some (l, s') => some (.vl l, s')
    | none => none
def view (p : Pl) : M D := match p with
  | .vl l => pure l.deep
  | .sl i => fun s => match s.1[i]? with
    | some (.dp d) => some (d, s)
    | some (.own o) => some (o.deep, s)
    | _ => none

/-! ### operators -/
def mulOk (i j : Int) : Bool := decide (i.natAbs.log2 + j.natAbs.log2 < 100000000)
def binI : BOp → Int → Int → Option Int
  | .add, i, j => some (i + j)
  | .sub, i, j => some (i - j)
  | .mul, i, j => if mulOk i j then some (i * j) else none
  | .fdiv, i, j => if j != 0 && decide (j.natAbs.log2 < 9000) then some (i.fdiv j) else none
  | .mod, i, j => if j = 0 then none else some (i.fmod j)
  | .pow, i, j => if 0 ≤ j ∧ j ≤ 1000 ∧ i.natAbs < 2 ^ 64 then some (i ^ j.toNat) else none
  | .and, i, j => some (Builtin.bitAnd i j)
def bi (b : Bool) : Int := if b then 1 else 0
def binD : BOp → D → D → Option L
  | op, .int i, .int j => (binI op i j).map fun k => .dp (.int k)
  | .sub, .bl a, .bl b => some (.dp (.int (bi a - bi b)))
  | .add, .str a, .str b => if a.length + b.length ≤ sizeLine then some (.dp (.str (a ++ b))) else none
  | .add, .tup a, .tup b => if a.length + b.length ≤ sizeLine then some (.dp (.tup (a ++ b))) else none
  | .add, .lst a, .lst b => if a.length + b.length ≤ sizeLine then some (.fr (.lst (a ++ b))) else none
  | .mul, .lst a, .int k => if -(2 ^ 63) ≤ k ∧ k < 2 ^ 63 ∧ a.length * k.toNat ≤ sizeLine then some (.fr (.lst ((List.replicate k.toNat a).flatten))) else none
  | _, _, _ => none
def truthD : D → Option Bool
  | .non => some false
  | .bl b => some b
  | .int i => some (i != 0)
  | .str s => if s.length ≤ sizeLine then some ((s.length : Int) != 0) else none
  | .tup xs => some (!xs.isEmpty)
  | .lst xs => some (!xs.isEmpty)
  | .dic ps => some (!ps.isEmpty)
  | _ => none
def eqP (a b : D) : Option Bool := match toP a, toP b with
  | some p, some q => if SeqAt.shaped p && SeqAt.shaped q then some (PyData.eqv p q) else none
  | _, _ => none
def flatD : D → Bool
  | .non => true
  | .bl _ => true
  | .int _ => true
  | .str _ => true
  | _ => false
/-- == of flat data -/
def eqF : D → D → Bool
  | .non, .non => true
  | .bl a, .bl b => a == b
  | .bl a, .int j => bi a == j
  | .int i, .bl b => i == bi b
  | .int i, .int j => i == j
  | .str a, .str b => a == b
  | _, _ => false
/-- ==; of a list and [], a tuple and () whatever stands in it -/
def eqD (a b : D) : Option Bool := if flatD a && flatD b then some (eqF a b) else match a, b with
  | .lst xs, .lst [] => some xs.isEmpty
  | .tup xs, .tup [] => some xs.isEmpty
  | _, _ => eqP a b
/-- in, of data -/
def inP (a : D) (xs : List D) : Option Bool := match toP a, toPs xs with
  | some p, some ps => if SeqAt.shaped p && SeqAt.shaped (.list ps) then some (ps.any fun z => PyData.eqv z p) else none
  | _, _ => none
def inS (a : D) (xs : List D) : Option Bool := if flatD a && xs.all flatD then some (xs.any fun y => eqF y a) else inP a xs
def inD (a : D) : D → Option Bool
  | .tup xs => inS a xs
  | .lst xs => inS a xs
  | .str z => match a with
    | .str y => some (!(Builtin.Str.occurrences z y 0 z.length 1).isEmpty)
    | _ => none
  | _ => none
def cmpD : COp → D → D → Option Bool
  | .eq, a, b => eqD a b
  | .ne, a, b => (eqD a b).map not
  | .lt, .int i, .int j => some (decide (i < j))
  | .le, .int i, .int j => some (decide (i ≤ j))
  | .gt, .int i, .int j => some (decide (j < i))
  | .ge, .int i, .int j => some (decide (j ≤ i))
  | .is, .non, .non => some true
  | .is, .bl a, .bl b => some (decide (a = b))
  | .is, .bl _, .non => some false
  | .is, .int _, .non => some false
  | .is, .str _, .non => some false
  | .is, .tup _, .non => some false
  | .is, .lst _, .non => some false
  | .is, .ins _ _, .non => some false
  | .is, .dic _, .non => some false
  | .isn, .non, .non => some false
  | .isn, .bl a, .bl b => some (!decide (a = b))
  | .isn, .bl _, .non => some true
  | .isn, .int _, .non => some true
  | .isn, .str _, .non => some true
  | .isn, .tup _, .non => some true
  | .isn, .lst _, .non => some true
  | .isn, .ins _ _, .non => some true
  | .isn, .dic _, .non => some true
  | .inn, a, b => inD a b
  | .nin, a, b => (inD a b).map not
  | _, _, _ => none
def idxD : D → D → Option D
  | .tup xs, .int i => atI xs i
  | .lst xs, .int i => atI xs i
  | .fls xs, .int i => atI xs i
  | .str z, .int i => if z.length ≤ sizeLine then (atI z.cps.toList i).map fun c => .str ⟨#[c]⟩ else none
  | _, _ => none
def cutI : D → Option (Option Int)
  | .non => some none
  | .int i => some (some i)
  | _ => none
/-- an end of a slice: left out, or an int -/
def cutT : Tm → D → Option (Option Int)
  | .cst .non, _ => some none
  | _, .int i => some (some i)
  | _, _ => none
def cutL {α : Type} (xs : List α) (lo hi : Option Int) : List α := (xs.drop (HT.sIx xs.length 0 lo)).take (HT.sIx xs.length xs.length hi - HT.sIx xs.length 0 lo)
def slcD : D → Option Int → Option Int → Option L
  | .tup xs, lo, hi => some (.dp (.tup (cutL xs lo hi)))
  | .lst xs, lo, hi => some (.fr (.lst (cutL xs lo hi)))
  | .fls xs, lo, hi => some (.fr (.lst (cutL xs lo hi)))
  | .str z, lo, hi => if z.length ≤ sizeLine then some (.dp (.str (cutS z lo hi))) else none
  | _, _, _ => none
def revD : D → Option L
  | .tup xs => some (.dp (.tup xs.reverse))
  | .lst xs => some (.fr (.lst xs.reverse))
  | _ => none
def lenD : D → Option Nat
  | .tup xs => some xs.length
  | .lst xs => some xs.length
  | .fls xs => some xs.length
  | .str z => if z.length ≤ sizeLine then some z.length else none
  | _ => none
def intsL : List D → Option (List Int)
  | [] => some []
  | .int i :: r => (intsL r).map (i :: ·)
  | _ :: _ => none
def strsL : List D → Option (List Str)
  | [] => some []
  | .str i :: r => (strsL r).map (i :: ·)
  | _ :: _ => none
def boolsL : List D → Option (List Bool)
  | [] => some []
  | .bl i :: r => (boolsL r).map (i :: ·)
  | _ :: _ => none
/-- the text of a number, a text -/
def strD : D → Option Str
  | .int i => if i.natAbs.log2 < 1920 then some (toString i : String) else none
  | .str s => some s
  | _ => none
def itemsSeq : D → Option (List D)
  | .tup xs => some xs
  | .lst xs => some xs
  | _ => none
def itemsD : D → Option (List D)
  | .tup xs => some xs
  | .lst xs => some xs
  | .str z => some (z.cps.toList.map fun c => .str ⟨#[c]⟩)
  | _ => none
def valK : List (Key × D) → Key → Option D
  | [], _ => none
  | (k, d) :: r, x => if k = x then some d else valK r x
def keyD : D → Option Key
  | .int i => some (.inl i)
  | .str s => some (.inr s)
  | _ => none

/-! ### built-ins -/
def isD : Ty → D → Bool
  | .int, .int _ => true
  | .int, .bl _ => true
  | .bool, .bl _ => true
  | .str, .str _ => true
  | .tup, .tup _ => true
  | .lst, .lst _ => true
  | .cls c, .ins c' _ => c == c'
  | _, _ => false
/-- the classes that are asked about are known -/
def isK (kc : Nat → Bool) (k : Ty) (d : D) : Bool := (match k with
  | .cls c => kc c
  | _ => true) && (match d with
  | .ins c _ => kc c
  | .oid _ => false
  | .fls _ => false
  | _ => true)
/-- the text that tells data -/
def reprD (d : D) : Option Str := match toP d with
  | some p => if p.showable = true ∧ p.hasDict = false ∧ p.depth < 50 ∧ p.shown.length ≤ sizeLine then some p.shown else none
  | none => none
def bltD : Blt → List D → Option L
  | .abs, [.int i] => some (.dp (.int (if i < 0 then -i else i)))
  | .all, [.lst xs] => (boolsL xs).map fun bs => .dp (.bl (bs.all id))
  | .any, [.lst xs] => (boolsL xs).map fun bs => .dp (.bl (bs.any id))
  | .divmod, [.int i, .int j] => if 0 < j ∧ j < 1073741824 then some (.dp (.tup [.int (i / j), .int (i % j)])) else none
  | .int, [.int i] => some (.dp (.int i))
  | .int, [.bl b] => some (.dp (.int (bi b)))
  | .int, [.str a] => if a.length ≤ 640 then (PySem.intText? a).map fun n => .dp (.int n) else none
  | .list, [.lst xs] => some (.fr (.lst xs))
  | .list, [.tup xs] => some (.fr (.lst xs))
  | .max, [.int i, .int j] => some (.dp (.int (if j > i then j else i)))
  | .min, [.int i, .int j] => some (.dp (.int (if j < i then j else i)))
  | .str, [d] => (strD d).map fun s => .dp (.str s)
  | .repr, [.lst xs] => (reprD (.lst xs)).map fun s => .dp (.str s)
  | .sum, [.lst xs] => (intsL xs).map fun ns => .dp (.int ns.sum)
  | .tuple, [.lst xs] => some (.dp (.tup xs))
  | .tuple, [.tup xs] => some (.dp (.tup xs))
  | _, _ => none
def smD : SM → D → List D → Option L
  | .split, .str a, [.str b] => if (b.length == 0) = false ∧ a.length + 2 ≤ sizeLine then some (.fr (.lst ((Txt.split a b).map .str))) else none
  | .partition, .str a, [.str b] => if (b.length == 0) = false ∧ a.length ≤ sizeLine then some (.dp (.tup [.str (Txt.partition a b).1, .str (Txt.partition a b).2.1, .str (Txt.partition a b).2.2])) else none
  | .join, .str a, [d] => match itemsSeq d with
    | none => none
    | some xs => match strsL xs with
      | none => none
      | some ys => if (ys.map (·.length)).sum + ys.length * a.length ≤ 16777216 then some (.dp (.str (Txt.join a ys))) else none
  | .get, .dic ps, [.str k, d] => some (.dp ((valK ps (.inr k)).getD d))
  | _, _, _ => none
def fstD : List D → Option Str
  | [] => some ⟨#[]⟩
  | d :: r => match strD d, fstD r with
    | some a, some b => if a.length + b.length ≤ sizeLine then some (a ++ b) else none
    | _, _ => none

/-! ### targets of names -/
/-- a name is stored; an own parameter's may not be -/
def setSl (np i : Nat) (x : Sl) (ρ : List Sl) : Option (List Sl) := match ρ[i]? with
  | none => none
  | some (.own _) => if i < np then none else some (ρ.set i x)
  | some _ => some (ρ.set i x)
mutual
def bindT (np : Nat) : Tg → D → List Sl → Option (List Sl)
  | .nm i, d, ρ => setSl np i (.dp d) ρ
  | .tp ts, d, ρ => match d with
    | .tup xs => bindTs np ts xs ρ
    | _ => none
def bindTs (np : Nat) : Tgs → List D → List Sl → Option (List Sl)
  | .nil, [], ρ => some ρ
  | .cons t ts, x :: xs, ρ => match bindT np t x ρ with
    | none => none
    | some ρ' => bindTs np ts xs ρ'
  | _, _, _ => none
end
def wipeS (ρ : List Sl) : List Nat → List Sl
  | [] => ρ
  | v :: vs => (wipeS ρ vs).set v .no
/-- the slots vs as they were -/
def unwipe (ρ0 ρ : List Sl) : List Nat → List Sl
  | [] => ρ
  | v :: vs => (unwipe ρ0 ρ vs).set v (ρ0.getD v .no)
/-- a comprehension's turns -/
def lcGo (np : Nat) (vs : List Nat) (tg : Tg) (test : M Bool) (elt : M D) : List D → List D → M (List D)
  | [], acc => fun s => some (acc, s)
  | x :: xs, acc => fun s => match bindT np tg x (wipeS s.1 vs) with
    | none => none
    | some ρ => match test (ρ, s.2) with
      | none => none
      | some (false, s1) => lcGo np vs tg test elt xs acc s1
      | some (true, s1) => match elt s1 with
        | none => none
        | some (y, s2) => if acc.length < sizeLine then lcGo np vs tg test elt xs (acc ++ [y]) s2 else none
/-- no object of our own stands there -/
def notOwn (ρ : List Sl) (v : Nat) : Bool := match ρ[v]? with
  | some .no => true
  | some (.dp _) => true
  | _ => false
/-- the turns of a comprehension with two sources -/
def lcGo2 (np : Nat) (vs vs1 : List Nat) (tg tg1 : Tg) (src : M (List D)) (elt : M D) : List D → List D → M (List D)
  | [], acc => fun s => some (acc, s)
  | x :: xs, acc => fun s => match bindT np tg x (wipeS s.1 vs) with
    | none => none
    | some ρ => match src (ρ, s.2) with
      | none => none
      | some (ys, s1) => if vs1.all (fun v => notOwn s1.1 v) then (match lcGo np vs1 tg1 (fun s => some (true, s)) elt ys acc s1 with
        | none => none
        | some (acc', s2) => lcGo2 np vs vs1 tg tg1 src elt xs acc' (unwipe s1.1 s2.1 vs1, s2.2)) else none
def rangeD (lo hi : Int) : Option (List D) := if -(2 ^ 62) ≤ lo ∧ lo < 2 ^ 62 ∧ -(2 ^ 62) ≤ hi ∧ hi < 2 ^ 62 then some ((List.range (hi - lo).toNat).map fun (k : Nat) => .int (lo + (k : Int))) else none
/-- downwards by one -/
def rangeDown (lo hi c : Int) : Option (List D) := if c = -1 ∧ -(2 ^ 62) ≤ lo ∧ lo < 2 ^ 62 ∧ -(2 ^ 62) ≤ hi ∧ hi < 2 ^ 62 then some ((List.range (lo - hi).toNat).map fun (k : Nat) => .int (lo - (k : Int))) else none
def enumD (xs : List D) : List D := xs.zipIdx.map fun p => .tup [.int p.2, p.1]
def zipD (xs ys : List D) : List D := (xs.zip ys).map fun p => .tup [p.1, p.2]
/-- two lists, two tuples, a list and a tuple -/
def zipP : D → D → Option (List D)
  | .lst xs, .lst ys => some (zipD xs ys)
  | .lst xs, .tup ys => some (zipD xs ys)
  | .tup xs, .tup ys => some (zipD xs ys)
  | _, _ => none

/-- an argument: data, a slot handed on, a new object -/
inductive Ar where
  | val (d : D) | slt (i : Nat) | tmp (o : Ob) | unk
def argOf (md : Bool) (t : Tm) (r : M L) : M Ar := match md with
  | false => fun s => match r s with
    | some (l, s') => some (.val l.deep, s')
    | none => none
  | true => fun s => match plOf t r s with
    | some (.sl i, s') => some (.slt i, s')
    | some (.vl (.fr o), s') => some (.tmp o, s')
    | _ => none
def slOf (ρ : List Sl) : Ar → Option Sl
  | .val d => some (.dp d)
  | .slt i => match ρ[i]? with
    | some (.own o) => some (.own o)
    | _ => none
  | .tmp o => some (.own o)
  | .unk => some .no
def slsOf (ρ : List Sl) : List Ar → Option (List Sl)
  | [] => some []
  | a :: r => match slOf ρ a, slsOf ρ r with
    | some s, some ss => some (s :: ss)
    | _, _ => none
def backS (ρ : List Sl) : List Ar → List Sl → List Sl
  | .slt i :: r, o :: os => backS (ρ.set i o) r os
  | _ :: r, _ :: os => backS ρ r os
  | _, _ => ρ
def sltsOf : List Ar → List Nat
  | [] => []
  | .slt i :: r => i :: sltsOf r
  | _ :: r => sltsOf r
/-- the call of f with the arguments' places -/
def callAr (cf : Cf) (f : Nat) (as : List Ar) : M L := fun s => if (sltsOf as).Nodup then (match slsOf s.1 as with
  | none => none
  | some sls => match cf f sls s.2 with
    | none => none
    | some (l, outs, O') => some (l, (backS s.1 as outs, O'))) else none
def permute {α : Type} : List Nat → List α → Option (List α)
  | [], xs => some xs
  | [1, 0], [a, b] => some [b, a]
  | _, _ => none

/-- a test -/
def tst (t : Tm) (r : M L) : M Bool := fun s => match plOf t r s with
  | none => none
  | some (p, s1) => match view p s1 with
    | none => none
    | some (x, _) => match truthD x with
      | none => none
      | some k => some (k, s1)
/-- a value and, not to be mixed with it, a test -/
def evP (t : Tm) (v : M L) : M L × M Bool := (v, tst t v)
def andB (a b : M Bool) : M Bool := fun s => match a s with
  | none => none
  | some (true, s1) => b s1
  | some (false, s1) => some (false, s1)
def orB (a b : M Bool) : M Bool := fun s => match a s with
  | none => none
  | some (true, s1) => some (true, s1)
  | some (false, s1) => b s1
def notB (a : M Bool) : M Bool := fun s => match a s with
  | none => none
  | some (k, s1) => some (!k, s1)
variable (Γ : Cx0)
mutual
def evB : Tm → M L × M Bool
  | .var i => evP (.var i) (getVar Γ.np i)
  | .cst d => evP (.cst d) (fun s => some (.dp d, s))
  | .bin op a b => evP (.bin op a b) (fun s => match plOf a (evB a).1 s with
    | none => none
    | some (p, s1) => match plOf b (evB b).1 s1 with
      | none => none
      | some (q, s2) => match view p s2, view q s2 with
        | some (x, _), some (y, _) => match binD op x y with
          | none => none
          | some l => some (l, s2)
        | _, _ => none)
  | .neg a => evP (.neg a) (fun s => match (evB a).1 s with
    | some (.dp (.int i), s1) => some (.dp (.int (-i)), s1)
    | _ => none)
  | .cmp op a b => evP (.cmp op a b) (fun s => match plOf a (evB a).1 s with
    | none => none
    | some (p, s1) => match plOf b (evB b).1 s1 with
      | none => none
      | some (q, s2) => match view p s2, view q s2 with
        | some (x, _), some (y, _) => match cmpD op x y with
          | none => none
          | some c => some (.dp (.bl c), s2)
        | _, _ => none)
  | .chain o1 o2 a b c => evP (.chain o1 o2 a b c) (fun s => match (evB a).1 s with
    | none => none
    | some (x, s1) => match (evB b).1 s1 with
      | none => none
      | some (y, s2) => match cmpD o1 x.deep y.deep with
        | none => none
        | some false => some (.dp (.bl false), s2)
        | some true => match (evB c).1 s2 with
          | none => none
          | some (z, s3) => match cmpD o2 y.deep z.deep with
            | none => none
            | some k => some (.dp (.bl k), s3))
  | .and a b => (fun s => match (evB a).1 s with
    | none => none
    | some (x, s1) => match truthD x.deep with
      | none => none
      | some true => (evB b).1 s1
      | some false => some (.dp x.deep, s1), andB (evB a).2 (evB b).2)
  | .or a b => (fun s => match (evB a).1 s with
    | none => none
    | some (x, s1) => match truthD x.deep with
      | none => none
      | some false => (evB b).1 s1
      | some true => some (.dp x.deep, s1), orB (evB a).2 (evB b).2)
  | .not a => (fun s => match tst a (evB a).1 s with
    | none => none
    | some (k, s1) => some (.dp (.bl (!k)), s1), notB (evB a).2)
  | .ife c a b => evP (.ife c a b) (fun s => match (evB c).2 s with
    | none => none
    | some (true, s1) => (evB a).1 s1
    | some (false, s1) => (evB b).1 s1)
  | .tup xs => evP (.tup xs) (fun s => match evs xs s with
    | none => none
    | some (ds, s1) => if ds.length ≤ sizeLine then some (.dp (.tup ds), s1) else none)
  | .lst xs => evP (.lst xs) (fun s => match evs xs s with
    | none => none
    | some (ds, s1) => if ds.length ≤ sizeLine then some (.fr (.lst ds), s1) else none)
  | .idx a i => evP (.idx a i) (fun s => match plOf a (evB a).1 s with
    | none => none
    | some (p, s1) => match (evB i).1 s1 with
      | none => none
      | some (k, s2) => match view p s2 with
        | none => none
        | some (x, _) => match idxD x k.deep with
          | none => none
          | some d => some (.dp d, s2))
  | .slc a lo hi => evP (.slc a lo hi) (fun s => match plOf a (evB a).1 s with
    | none => none
    | some (p, s1) => match (evB lo).1 s1 with
      | none => none
      | some (l, s2) => match (evB hi).1 s2 with
        | none => none
        | some (h, s3) => match view p s3, cutT lo l.deep, cutT hi h.deep with
          | some (x, _), some l, some h => match slcD x l h with
            | none => none
            | some r => some (r, s3)
          | _, _, _ => none)
  | .rev a => evP (.rev a) (fun s => match plOf a (evB a).1 s with
    | none => none
    | some (p, s1) => match view p s1 with
      | none => none
      | some (x, _) => match revD x with
        | none => none
        | some r => some (r, s1))
  | .call f md pm xs => evP (.call f md pm xs) (fun s => match evA md xs s with
    | none => none
    | some (as, s1) => match permute pm as with
      | none => none
      | some as => callAr Γ.cf f as s1)
  | .make c dds xs => evP (.make c dds xs) (fun s => match evA [] xs s with
    | none => none
    | some (as, s1) => match Γ.ini c with
      | some f => match slsOf s1.1 (as ++ dds.map .val) with
        | none => none
        | some sls => match Γ.cf f (.own (.ins c []) :: sls) s1.2 with
          | some (.dp .non, .own o :: _, O') => some (.fr o, (s1.1, O'))
          | _ => none
      | _ => none)
  | .meth m o xs => evP (.meth m o xs) (fun s => match plOf o (evB o).1 s with
    | none => none
    | some (p, s1) => match view p s1 with
      | some (.ins c fs, _) => if (fs.lookup m).isSome then none else match Γ.mth c m with
        | some (f, true :: md) => match p with
          | .sl i => match evA md xs s1 with
            | none => none
            | some (as, s2) => callAr Γ.cf f (.slt i :: as) s2
          | _ => none
        | some (f, _ :: md) => match (evB o).1 s with
          | some (l, s1) => match evA md xs s1 with
            | none => none
            | some (as, s2) => callAr Γ.cf f (.val l.deep :: as) s2
          | none => none
        | _ => none
      | _ => none)
  | .prp f o => evP (.prp f o) (fun s => match (evB o).1 s with
    | some (l, s1) => match l.deep with
      | .ins c fs => match Γ.prp c f with
        | none => none
        | some g => callAr Γ.cf g [.val (.ins c fs)] s1
      | _ => none
    | none => none)
  | .fld f o => evP (.fld f o) (fun s => match plOf o (evB o).1 s with
    | none => none
    | some (p, s1) => match view p s1 with
      | some (.ins c fs, _) => if Γ.kc c then (match fs.lookup f with
        | none => none
        | some d => some (.dp d, s1)) else none
      | _ => none)
  | .isi k a => evP (.isi k a) (fun s => match (evB a).1 s with
    | none => none
    | some (l, s1) => if isK Γ.kc k l.deep then some (.dp (.bl (isD k l.deep)), s1) else none)
  | .len a => evP (.len a) (fun s => match plOf a (evB a).1 s with
    | none => none
    | some (p, s1) => match view p s1 with
      | none => none
      | some (x, _) => match lenD x with
        | none => none
        | some n => some (.dp (.int n), s1))
  | .blt b xs => evP (.blt b xs) (fun s => match evs xs s with
    | none => none
    | some (ds, s1) => match bltD b ds with
      | none => none
      | some l => some (l, s1))
  | .sme m o xs => evP (.sme m o xs) (fun s => match (evB o).1 s with
    | none => none
    | some (l, s1) => match evs xs s1 with
      | none => none
      | some (ds, s2) => match smD m l.deep ds with
        | none => none
        | some r => some (r, s2))
  | .fst xs => evP (.fst xs) (fun s => match evs xs s with
    | none => none
    | some (ds, s1) => match fstD ds with
      | none => none
      | some z => some (.dp (.str z), s1))
  | .lc vs tg it c e => evP (.lc vs tg it c e) (fun s => match evI it s with
    | none => none
    | some (xs, s1) => if vs.all (fun v => Γ.np ≤ v && notOwn s1.1 v) then (match lcGo Γ.np vs tg ((evB c).2) (fun s => match (evB e).1 s with
        | none => none
        | some (l, s') => some (l.deep, s')) xs [] s1 with
      | none => none
      | some (ys, s2) => some (.fr (.lst ys), (unwipe s1.1 s2.1 vs, s2.2))) else none)
  | .lc2 vs vs1 tg it tg1 it1 e => evP (.lc2 vs vs1 tg it tg1 it1 e) (fun s => match evI it s with
    | none => none
    | some (xs, s1) => if vs.all (fun v => Γ.np ≤ v && notOwn s1.1 v) then (match lcGo2 Γ.np vs vs1 tg tg1 (evI it1) (fun s => match (evB e).1 s with
        | none => none
        | some (l, s') => some (l.deep, s')) xs [] s1 with
      | none => none
      | some (ys, s2) => some (.fr (.lst ys), (unwipe s1.1 s2.1 vs, s2.2))) else none)
  | .cmeth c m xs => evP (.cmeth c m xs) (fun s => match evA [] xs s with
    | none => none
    | some (as, s1) => match Γ.cm c m with
      | none => none
      | some f => callAr Γ.cf f (.unk :: as) s1)
  | .lzip a b => evP (.lzip a b) (fun s => match (evB a).1 s with
    | none => none
    | some (l, s1) => match (evB b).1 s1 with
      | none => none
      | some (m, s2) => match l.deep, m.deep with
        | .tup xs, .tup ys => if min xs.length ys.length ≤ sizeLine then some (.fr (.lst (zipD xs ys)), s2) else none
        | _, _ => none)
  | .dnew => evP (.dnew) (fun s => some (.dp (.dic []), s))
  | .nil => evP (.nil) (fun _ => none
)
def evs : Tms → M (List D)
  | .nil => fun s => some ([], s)
  | .cons x xs => fun s => match (evB x).1 s with
    | none => none
    | some (l, s1) => match evs xs s1 with
      | none => none
      | some (ds, s2) => some (l.deep :: ds, s2)
  | .star x xs => fun s => match (evB x).1 s with
    | none => none
    | some (l, s1) => match itemsSeq l.deep with
      | none => none
      | some ys => match evs xs s1 with
        | none => none
        | some (ds, s2) => some (ys ++ ds, s2)
def evA (md : List Bool) : Tms → M (List Ar)
  | .nil => fun s => some ([], s)
  | .cons x xs => fun s => match argOf (md.headD false) x (evB x).1 s with
    | none => none
    | some (a, s1) => match evA md.tail xs s1 with
      | none => none
      | some (as, s2) => some (a :: as, s2)
  | .star _ _ => fun _ => none
def evI : It → M (List D)
  | .seq a => fun s => match (evB a).1 s with
    | none => none
    | some (l, s1) => match itemsD l.deep with
      | none => none
      | some xs => some (xs, s1)
  | .range1 a => fun s => match (evB a).1 s with
    | some (.dp (.int n), s1) => match rangeD 0 n with
      | none => none
      | some xs => some (xs, s1)
    | _ => none
  | .range2 a b => fun s => match (evB a).1 s with
    | some (.dp (.int m), s1) => match (evB b).1 s1 with
      | some (.dp (.int n), s2) => match rangeD m n with
        | none => none
        | some xs => some (xs, s2)
      | _ => none
    | _ => none
  | .range3 a b c => fun s => match (evB a).1 s with
    | some (.dp (.int m), s1) => match (evB b).1 s1 with
      | some (.dp (.int n), s2) => match (evB c).1 s2 with
        | some (.dp (.int c), s3) => match rangeDown m n c with
          | none => none
          | some xs => some (xs, s3)
        | _ => none
      | _ => none
    | _ => none
  | .enum a => fun s => match (evB a).1 s with
    | none => none
    | some (l, s1) => match itemsSeq l.deep with
      | none => none
      | some xs => some (enumD xs, s1)
  | .zip a b => fun s => match (evB a).1 s with
    | none => none
    | some (l, s1) => match (evB b).1 s1 with
      | none => none
      | some (m, s2) => match zipP l.deep m.deep with
        | none => none
        | some zs => some (zs, s2)
end
/-- a term's value -/
def ev (t : Tm) : M L := (evB Γ t).1
/-- a term as a test -/
def tsv (t : Tm) : M Bool := (evB Γ t).2

/-! ### statements -/
mutual
inductive Tgt where
  | nm (i : Nat) | sub (i : Nat) (k : Tm) | att (i : Nat) (f : Str) | tp (ts : Tgts)
inductive Tgts where
  | nil | cons (t : Tgt) (ts : Tgts)
end
mutual
inductive Sm where
  | asg (t : Tgt) (e : Tm)
  | par (ts : Tgts) (es : Tms)
  | aug (i : Nat) (e : Tm)
  | expr (e : Tm)
  | app (i : Nat) (e : Tm)
  | ife (c : Tm) (a b : Sms)
  | forr (tg : Tg) (it : It) (b : Sms)
  | whil (c : Tm) (b : Sms)
  | ret (e : Tm)
  | retN | pass | brk | cont
inductive Sms where
  | nil | cons (s : Sm) (r : Sms)
end
inductive Fl where
  | next | brk | cont | ret (l : L)
def slL : L → Sl
  | .dp d => .dp d
  | .fr o => .own o
def putA (f : Str) (v : D) : List (Str × D) → List (Str × D)
  | [] => [(f, v)]
  | (g, u) :: r => if g = f then (g, v) :: r else (g, u) :: putA f v r
/-- a value is stored -/
def asgL : Tgt → L → M Unit
  | .nm i, l => fun s => match setSl Γ.np i (slL l) s.1 with
    | none => none
    | some ρ => some ((), (ρ, s.2))
  | .sub i k, l => fun s => match s.1[i]? with
    | some (.own (.lst _)) => match ev Γ k s with
      | some (.dp (.int j), s1) => match s1.1[i]? with
        | some (.own (.lst xs)) => match L2.ixN xs.length j with
          | none => none
          | some n => some ((), (s1.1.set i (.own (.lst (xs.set n l.deep))), s1.2))
        | _ => none
      | _ => none
    | _ => none
  | .att i f, l => fun s => match s.1[i]? with
    | some (.own (.ins c fs)) => if fs.length < 1000 && Γ.kc c then some ((), (s.1.set i (.own (.ins c (putA f l.deep fs))), s.2)) else none
    | _ => none
  | .tp _, _ => fun _ => none
def asgs : Tgts → List L → M Unit
  | .nil, [] => fun s => some ((), s)
  | .cons t ts, l :: ls => fun s => match asgL Γ t l s with
    | none => none
    | some (_, s1) => asgs ts ls s1
  | _, _ => fun _ => none
def asgT : Tgt → L → M Unit
  | .tp ts, l => fun s => match l.deep with
    | .tup xs => asgs Γ ts (xs.map .dp) s
    | _ => none
  | t, l => asgL Γ t l
def evLs : Tms → M (List L)
  | .nil => fun s => some ([], s)
  | .cons x xs => fun s => match ev Γ x s with
    | none => none
    | some (l, s1) => match evLs xs s1 with
      | none => none
      | some (ls, s2) => some (l :: ls, s2)
  | .star _ _ => fun _ => none
def forGo (np : Nat) (tg : Tg) (body : M Fl) : List D → M Fl
  | [] => fun s => some (.next, s)
  | x :: xs => fun s => match bindT np tg x s.1 with
    | none => none
    | some ρ => match body (ρ, s.2) with
      | none => none
      | some (.brk, s1) => some (.next, s1)
      | some (.ret l, s1) => some (.ret l, s1)
      | some (_, s1) => forGo np tg body xs s1
def whilGo (test : M Bool) (body : M Fl) : Nat → M Fl
  | 0 => fun _ => none
  | n + 1 => fun s => match test s with
    | none => none
    | some (false, s1) => some (.next, s1)
    | some (true, s1) => match body s1 with
      | none => none
      | some (.brk, s2) => some (.next, s2)
      | some (.ret l, s2) => some (.ret l, s2)
      | some (_, s2) => whilGo test body n s2
def retV (t : Tm) (r : M L) : M L := match t with
  | .var i => fun s => match s.1[i]? with
    | some (.own o) => if i < Γ.np then none else some (.fr o, (s.1.set i .no, s.2))
    | some (.dp d) => some (.dp d, s)
    | _ => none
  | _ => r
variable (F : Nat)
mutual
def ex : Sm → M Fl
  | .asg t e => fun s => match ev Γ e s with
    | none => none
    | some (l, s1) => match asgT Γ t l s1 with
      | none => none
      | some (_, s2) => some (.next, s2)
  | .par ts es => fun s => match evLs Γ es s with
    | none => none
    | some (ls, s1) => match asgs Γ ts ls s1 with
      | none => none
      | some (_, s2) => some (.next, s2)
  | .aug i e => fun s => match s.1[i]? with
    | some (.dp (.int a)) => match ev Γ e s with
      | some (.dp (.int b), s1) => match setSl Γ.np i (.dp (.int (a + b))) s1.1 with
        | none => none
        | some ρ => some (.next, (ρ, s1.2))
      | _ => none
    | _ => none
  | .expr e => fun s => match ev Γ e s with
    | none => none
    | some (_, s1) => some (.next, s1)
  | .app i e => fun s => match s.1[i]? with
    | some (.own (.lst _)) => match ev Γ e s with
      | none => none
      | some (l, s1) => match s1.1[i]? with
        | some (.own (.lst xs)) => if xs.length < sizeLine then some (.next, (s1.1.set i (.own (.lst (xs ++ [l.deep]))), s1.2)) else none
        | _ => none
    | _ => none
  | .ife c a b => fun s => match tsv Γ c s with
    | none => none
    | some (true, s1) => exs a s1
    | some (false, s1) => exs b s1
  | .forr tg it b => fun s => match evI Γ it s with
    | none => none
    | some (xs, s1) => forGo Γ.np tg (exs b) xs s1
  | .whil c b => whilGo (tsv Γ c) (exs b) F
  | .ret e => fun s => match retV Γ e (ev Γ e) s with
    | none => none
    | some (l, s1) => some (.ret l, s1)
  | .retN => fun s => some (.ret (.dp .non), s)
  | .pass => fun s => some (.next, s)
  | .brk => fun s => some (.brk, s)
  | .cont => fun s => some (.cont, s)
def exs : Sms → M Fl
  | .nil => fun s => some (.next, s)
  | .cons x r => fun s => match ex x s with
    | none => none
    | some (.next, s1) => exs r s1
    | some (fl, s1) => some (fl, s1)
end
/-- a def: how many parameters and slots, its body -/
structure Fd where
  np : Nat
  nl : Nat
  body : Sms
structure Tab where
  kc : Nat → Bool
  fn : Nat → Option Fd
  mth : Nat → Str → Option (Nat × List Bool)
  prp : Nat → Str → Option Nat
  ini : Nat → Option Nat
  cm : Nat → Str → Option Nat
def callN (T : Tab) (F : Nat) : Nat → Cf
  | 0 => fun _ _ _ => none
  | n + 1 => fun f sls O => match T.fn f with
    | none => none
    | some d => if sls.length = d.np then (match exs ⟨callN T F n, d.np, T.kc, T.mth, T.prp, T.ini, T.cm⟩ F d.body (sls ++ List.replicate (d.nl - d.np) .no, O) with
      | some (.ret l, (ρ, O')) => some (l, ρ.take d.np, O')
      | some (.next, (ρ, O')) => some (.dp .non, ρ.take d.np, O')
      | _ => none) else none
end Fc
set_option Elab.async false
set_option linter.all false
set_option maxHeartbeats 4000000
set_option maxRecDepth 100000
/-! What stands behind the top, read by a Hook: the tables of a law's program, what is looked at. -/
namespace Fc
open PySem PySem.Spec PyProof.Rows L2
/-- what a name of the module stands for -/
inductive GN where
  | fn (f : Nat) | cls (c : Nat) | cst (d : D) | dic (ps : List (Key × D))
def bltNames : List String := ["abs", "all", "any", "divmod", "max", "min", "sum", "int", "str", "list", "tuple", "bool", "isinstance", "len", "range", "enumerate", "zip", "repr"]
/-! ### data of the written part -/
mutual
def rvB (K : PySem.W.Frag) : D → Value → Bool
  | .non, .none => true
  | .bl b, .bool c => b == c
  | .int i, .int j _ => decide (i = j)
  | .str s, .str t _ => decide (s = t)
  | .tup ds, .ref a => match K.lookup a with
    | some ⟨.type c, _, .seq its _, _⟩ => decide (c = "tuple") && (decide (its.size ≤ sizeLine) && rvBs K ds its.toList)
    | _ => false
  | _, _ => false
def rvBs (K : PySem.W.Frag) : List D → List Value → Bool
  | [], [] => true
  | d :: ds, u :: us => rvB K d u && rvBs K ds us
  | _, _ => false
end
/-- how the parameters are bound, all given -/
def BindP (name qual : Str) (st : Stmt) (ps : List Str) : List He.Dv → Prop
  | [] => ∀ (kV doc pm : Value) (an : Option Addr) (cdv ct : Value) (us : List Value), us.length = ps.length → bindArgs (PySem.W.fnOf name qual (defArgs st) (defBody st) (defScope st) .none kV doc pm an cdv ct) ⟨us, []⟩ = pure (ps.zip us)
  | d :: ds => ∀ (T : Addr) (kV doc pm : Value) (an : Option Addr) (cdv ct : Value) (us its : List Value), us.length = ps.length → its.length = (d :: ds).length →
      ∃ k, bindArgs (PySem.W.fnOf name qual (defArgs st) (defBody st) (defScope st) (.ref T) kV doc pm an cdv ct) ⟨us, []⟩ = seqItems? (.ref T) >>= k ∧ k (some its.toArray) = pure (ps.zip us)
structure FnI where
  ix : Nat
  d : Fd
  ad : Addr
  name : Str
  qual : Str
  st : Stmt
  N : List Str
  dfl : List He.Dv
  hb : BindP name qual st (N.take d.np) dfl
def FnI.ps (i : FnI) : List Str := i.N.take i.d.np
def FnI.A (i : FnI) : He5.DefA := ⟨fun _ => i.ad, i.name, i.qual, defArgs i.st, defBody i.st, defScope i.st, i.dfl, []⟩
/-! ### tables by binary digits -/
inductive Tr (α : Type) where
  | nil | nd (v : Option α) (l r : Tr α)
def Tr.get {α : Type} : Tr α → Nat → Option α
  | .nil, _ => none
  | .nd v l r, n => match n with
    | 0 => v
    | m + 1 => if m % 2 = 0 then l.get (m / 2) else r.get (m / 2)
def Tr.put {α : Type} (n : Nat) (x : α) : Nat → Tr α → Tr α
  | 0, t => t
  | k + 1, t => match t, n with
    | .nil, 0 => .nd (some x) .nil .nil
    | .nd _ l r, 0 => .nd (some x) l r
    | .nil, m + 1 => if m % 2 = 0 then .nd none (Tr.put (m / 2) x k .nil) .nil else .nd none .nil (Tr.put (m / 2) x k .nil)
    | .nd v l r, m + 1 => if m % 2 = 0 then .nd v (Tr.put (m / 2) x k l) r else .nd v l (Tr.put (m / 2) x k r)
def oall {α : Type} (p : α → Bool) : Option α → Bool
  | some x => p x
  | none => true
def Tr.all {α : Type} (p : α → Bool) : Tr α → Bool
  | .nil => true
  | .nd v l r => oall p v && (l.all p && r.all p)
theorem Tr.all_ok {α : Type} {p : α → Bool} : ∀ {t : Tr α} {n : Nat} {x : α}, t.all p = true → t.get n = some x → p x = true
  | .nil, n, x, _, e => by cases e
  | .nd v l r, n, x, h, e => by
    have h' : (oall p v && (l.all p && r.all p)) = true := h
    rw [Bool.and_eq_true, Bool.and_eq_true] at h'
    cases n with
    | zero =>
      have e' : v = some x := e
      have h1 := h'.1
      rw [e'] at h1
      exact h1
    | succ m =>
      have e' : (if m % 2 = 0 then l.get (m / 2) else r.get (m / 2)) = some x := e
      split at e'
      · exact Tr.all_ok h'.2.1 e'
      · exact Tr.all_ok h'.2.2 e'
def Tr.map {α β : Type} (f : α → β) : Tr α → Tr β
  | .nil => .nil
  | .nd v l r => .nd (v.map f) (l.map f) (r.map f)
theorem Tr.map_get {α β : Type} {f : α → β} : ∀ {t : Tr α} {n : Nat}, (t.map f).get n = (t.get n).map f
  | .nil, n => rfl
  | .nd v l r, n => by
    cases n with
    | zero => rfl
    | succ m =>
      show (if m % 2 = 0 then (l.map f).get (m / 2) else (r.map f).get (m / 2)) = (if m % 2 = 0 then l.get (m / 2) else r.get (m / 2)).map f
      split
      · exact Tr.map_get
      · exact Tr.map_get
/-! ### a law's tables -/
structure Inf where
  F : Nat
  fns : Tr FnI
  cs : List (Nat × Addr)
  gt : List (Nat × List (Str × GN))
  prp : List (Nat × Str × Nat × Addr)
  mth : List (Nat × Str × Nat × List Bool)
  cm : List (Nat × Str × Nat)
  ini : List (Nat × Nat)
  mks : List (Nat × Nat × List D)
  fl : List Str
  kw : List (Nat × List Str)
  /-- where the tables of text keys stand -/
  da : Str → Addr
  /-- the defs that show data -/
  sp : List Nat := []
variable (I : Inf)
def find2 {α : Type} (c : Nat) (m : Str) : List (Nat × Str × α) → Option α
  | [] => none
  | (c', m', x) :: r => if c' == c && m' == m then some x else find2 c m r
theorem find2_mem {α : Type} {c : Nat} {m : Str} {x : α} : ∀ {l : List (Nat × Str × α)}, find2 c m l = some x → (c, m, x) ∈ l
  | [], e => by cases e
  | (c', m', y) :: r, e => by
    have e' : (if (c' == c && m' == m) = true then some y else find2 c m r) = some x := e
    split at e'
    · rename_i h
      rw [Bool.and_eq_true] at h
      cases e'
      rw [eq_of_beq h.1, eq_of_beq h.2]
      exact List.mem_cons_self
    · exact List.mem_cons_of_mem _ (find2_mem e')
def find1 {α : Type} (c : Nat) : List (Nat × α) → Option α
  | [] => none
  | (c', x) :: r => if c' == c then some x else find1 c r
theorem find1_mem {α : Type} {c : Nat} {x : α} : ∀ {l : List (Nat × α)}, find1 c l = some x → (c, x) ∈ l
  | [], e => by cases e
  | (c', y) :: r, e => by
    have e' : (if (c' == c) = true then some y else find1 c r) = some x := e
    split at e'
    · rename_i h
      cases e'
      rw [eq_of_beq h]
      exact List.mem_cons_self
    · exact List.mem_cons_of_mem _ (find1_mem e')
def Inf.fa (f : Nat) : Addr := match I.fns.get f with
  | some i => i.ad
  | none => 0
def Inf.ca (c : Nat) : Addr := (find1 c I.cs).getD 0
def gLook (x : Str) : List (Str × GN) → Option GN
  | [] => none
  | (y, g) :: r => if y == x then some g else gLook x r
theorem gLook_mem {x : Str} {g : GN} : ∀ {l : List (Str × GN)}, gLook x l = some g → (x, g) ∈ l
  | [], e => by cases e
  | (y, h) :: r, e => by
    have e' : (if (y == x) = true then some h else gLook x r) = some g := e
    split at e'
    · rename_i q
      cases e'
      rw [eq_of_beq q]
      exact List.mem_cons_self
    · exact List.mem_cons_of_mem _ (gLook_mem e')
/-! ### what is looked at -/
def eqV (a b : Option (Option Value)) : Bool := He.eqO a b
def gnB (K : PySem.W.Frag) (p : Str × GN) : Bool := match p.2 with
  | .fn f => He.eqO (PySem.W.nsIn K mainGlobals p.1) (some (some (.ref (I.fa f)))) && (I.fns.get f).isSome
  | .cls c => He.eqO (PySem.W.nsIn K mainGlobals p.1) (some (some (.ref (I.ca c)))) && (find1 c I.cs).isSome
  | .cst d => (match PySem.W.nsIn K mainGlobals p.1 with
    | some (some u) => rvB K d u
    | _ => false)
  | .dic ps => He.eqO (PySem.W.nsIn K mainGlobals p.1) (some (some (.ref (I.da p.1))))
def tyNames : List String := ["NoneType", "bool", "int", "str", "tuple", "list", "dict"]
def kitB (K : PySem.W.Frag) : Bool := (["int", "bool", "str", "tuple", "list"] : List String).all fun n => (tyNames.all fun t => decide (PySem.W.kitOne K (.type t) (.type n) = some (t == n || (t == "bool" && n == "int")))) &&
  I.cs.all fun c => decide (PySem.W.kitOne K (.ref c.2) (.type n) = some false)
def clsB (K : PySem.W.Frag) (c : Nat × Addr) : Bool := PySem.W.plainGet K c.2 Str.empty && PySem.W.hasDictIn K c.2 && PySem.W.plainOver K c.2 && He.eqO (PySem.W.findIn K (.ref c.2) "__setattr__") (some (some (.builtin "object.__setattr__"))) &&
  He.eqO (PySem.W.findIn K (.ref c.2) "__class__") (some (some (.builtin "object.__class__"))) && He.eqO (PySem.W.specialIn K (.builtin "object.__class__") "__get__") (some (some (.builtin "getset_descriptor.__get__"))) &&
  decide (PySem.W.takesIn K (.builtin "object.__class__") = some true) && decide (PySem.W.mroIn K c.2 (.type "object") = some true) &&
  (I.fl.all fun f => He.eqO (PySem.W.findIn K (.ref c.2) f) (some none)) && (tyNames.all fun t => decide (PySem.W.kitOne K (.type t) (.ref c.2) = some false)) && (I.cs.all fun b => decide (PySem.W.kitOne K (.ref b.2) (.ref c.2) = some (b.1 == c.1))) && decide (I.ca c.1 = c.2)
def prpB (K : PySem.W.Frag) (q : Nat × Str × Nat × Addr) : Bool := (find1 q.1 I.cs).isSome && He.eqO (PySem.W.findIn K (.ref (I.ca q.1)) q.2.1) (some (some (.ref q.2.2.2))) && He.eqO (PySem.W.specialIn K (.ref q.2.2.2) "__get__") (some (some (.builtin "property.__get__"))) &&
  decide (PySem.W.takesIn K (.ref q.2.2.2) = some true) && (match PySem.W.recIn K q.2.2.2 "property" with
    | some (.ref g :: _) => decide (g = I.fa q.2.2.1)
    | _ => false) && (I.fns.get q.2.2.1).isSome
def mthB (K : PySem.W.Frag) (q : Nat × Str × Nat × List Bool) : Bool := (find1 q.1 I.cs).isSome && He.eqO (PySem.W.findIn K (.ref (I.ca q.1)) q.2.1) (some (some (.ref (I.fa q.2.2.1)))) && PySem.W.isFn K (.ref (I.fa q.2.2.1)) && (I.fns.get q.2.2.1).isSome
def cmB (K : PySem.W.Frag) (q : Nat × Str × Nat) : Bool := PySem.W.readsIn K (I.ca q.1) (.type "type") && He.eqO (PySem.W.specialIn K (.ref (I.ca q.1)) "__getattribute__") (some (some (.builtin "type.__getattribute__"))) &&
  He5.wrapB K (I.ca q.1) "classmethod" "classmethod.__get__" q.2.1 && decide (He5.wf K (I.ca q.1) "classmethod" q.2.1 = I.fa q.2.2) && PySem.W.fnIn K (I.fa q.2.2) && (I.fns.get q.2.2).isSome
def mkB (K : PySem.W.Frag) (q : Nat × Nat × List D) : Bool := PySem.W.makesIn K (I.ca q.1) && He.eqO (PySem.W.findIn K (.ref (I.ca q.1)) "__init__") (some (some (.ref (I.fa q.2.1)))) && PySem.W.isFn K (.ref (I.fa q.2.1)) && PySem.W.keepIn K (.ref (I.ca q.1)) && (match find1 q.1 I.ini with
    | some f => f == q.2.1
    | none => false) && (I.fns.get q.2.1).isSome
def Inf.dics : List (Str × List (Key × D)) := I.gt.flatMap fun l => l.2.filterMap fun p => match p.2 with
  | .dic ps => some (p.1, ps)
  | _ => none
def strKey : Key → Option Str
  | .inr s => some s
  | _ => none
def dicB (K : PySem.W.Frag) (q : Str × List (Key × D)) : Bool := q.2.all fun p => match p.1 with
  | .inr s => (match PySem.W.nsIn K (I.da q.1) s with
    | some (some u) => rvB K p.2 u
    | _ => false)
  | _ => false
/-- a default, told by data -/
def dfB (K : PySem.W.Frag) (p : D × He.Dv) : Bool := match p.2 with
  | .adr g => rvB K p.1 (.ref (g K))
  | _ => false
def dflOk (I : Inf) (K : PySem.W.Frag) : Bool := I.mks.all fun q => match I.fns.get q.2.1 with
  | some i => (q.2.2.zip (i.dfl.drop (i.dfl.length - q.2.2.length))).all (dfB K)
  | none => false
def Inf.okB (K : PySem.W.Frag) : Bool := (I.gt.all fun l => l.2.all fun p => gnB I K p) && (bltNames.all fun n => He.eqO (PySem.W.nsIn K mainGlobals (Str.ofString n)) (some none)) && kitB I K && (I.cs.all fun c => clsB I K c) &&
  (I.prp.all fun q => prpB I K q) && (I.mth.all fun q => mthB I K q) && (I.cm.all fun q => cmB I K q) && (I.mks.all fun q => mkB I K q) && (I.fns.all fun i => i.A.ok K) && (I.dics.all fun q => dicB I K q) && dflOk I K
/-- the same, in three parts -/
def Inf.ok1 (K : PySem.W.Frag) : Bool := (I.gt.all fun l => l.2.all fun p => gnB I K p) && (bltNames.all fun n => He.eqO (PySem.W.nsIn K mainGlobals (Str.ofString n)) (some none)) && kitB I K
def Inf.ok2 (K : PySem.W.Frag) : Bool := (I.cs.all fun c => clsB I K c) && (I.prp.all fun q => prpB I K q) && (I.mth.all fun q => mthB I K q) && (I.cm.all fun q => cmB I K q) && (I.mks.all fun q => mkB I K q) && (I.dics.all fun q => dicB I K q) && dflOk I K
def Inf.ok3 (K : PySem.W.Frag) : Bool := I.fns.all fun i => i.A.ok K
theorem Inf.ok_of {K : PySem.W.Frag} (h1 : I.ok1 K = true) (h2 : I.ok2 K = true) (h3 : I.ok3 K = true) : I.okB K = true := by
  unfold Inf.ok1 at h1
  unfold Inf.ok2 at h2
  unfold Inf.ok3 at h3
  unfold Inf.okB
  simp only [Bool.and_eq_true] at h1 h2 ⊢
  exact ⟨⟨⟨⟨⟨⟨⟨⟨⟨⟨h1.1.1, h1.1.2⟩, h1.2⟩, h2.1.1.1.1.1.1⟩, h2.1.1.1.1.1.2⟩, h2.1.1.1.1.2⟩, h2.1.1.1.2⟩, h2.1.1.2⟩, h3⟩, h2.1.2⟩, h2.2⟩
/-- the texts of the defs, as they stand -/
def Inf.fnv (K : PySem.W.Frag) : Tr He.FnW := I.fns.map fun i => He5.fnA K i.ad
def Inf.val : Tr He.FnW := I.fns.map fun i => i.A.val
abbrev AlF : Type := Bool × Tr He.FnW × List (Option (List (Option (Str × Int))))
def Inf.obs (K : PySem.W.Frag) : AlF := (I.okB K, I.fnv K, I.dics.map fun q => He.dicW K (I.da q.1))
def Inf.valF (w : World) : AlF := (true, I.val, I.dics.map fun q => some (He.keysIn w.params (q.2.filterMap fun p => strKey p.1)))
def Inf.hook (as : List Addr) : PySem.W.Hook where
  α := AlF
  obs := fun s => I.obs (He.frG s.heap.get? as)
  val := fun w => I.valF w
  says := fun w h => ∃ K : PySem.W.Frag, K.In h ∧ I.obs K = I.valF w
  of := fun _ _ e => ⟨_, He.frG_in, e⟩
  keeps := fun _ _ _ ⟨K, hK, c⟩ k => ⟨K, PySem.W.Frag.In.keeps hK k, c⟩
def Inf.obsT (as : List Addr) (s : PySem.W.SharedT) : AlF := I.obs (He.frG (HandSHeadRun.getT s) as)
theorem Inf.obs_eq (as : List Addr) (s : PySem.W.SharedT) : I.obsT as s = (I.hook as).obs s.abs := by
  show I.obs (He.frG (HandSHeadRun.getT s) as) = I.obs (He.frG s.abs.heap.get? as)
  rw [show HandSHeadRun.getT s = s.abs.heap.get? from funext (HandSHeadRun.getT_eq s)]
end Fc
set_option Elab.async false
set_option linter.all false
set_option maxRecDepth 100000
set_option maxHeartbeats 0
namespace Fc
namespace K77
open PySem PySem.Spec L2
def f_divisor : Fd := ⟨2, 2, (.cons (.par (.cons (.nm 0) (.cons (.nm 1) .nil)) (.cons (.blt .abs (.cons (.var 0) .nil)) (.cons (.blt .abs (.cons (.var 1) .nil)) .nil))) (.cons (.whil (.var 1) (.cons (.par (.cons (.nm 0) (.cons (.nm 1) .nil)) (.cons (.var 1) (.cons (.bin .mod (.blt .int (.cons (.var 0) .nil)) (.var 1)) .nil))) .nil)) (.cons (.ret (.var 0)) .nil)))⟩
def f_lowest : Fd := ⟨2, 3, (.cons (.asg (.nm 2) (.call 11 [] [] (.cons (.var 0) (.cons (.var 1) .nil)))) (.cons (.ife (.cmp .lt (.var 1) (.cst (.int (0)))) (.cons (.asg (.nm 2) (.neg (.var 2))) .nil) .nil) (.cons (.ret (.tup (.cons (.bin .fdiv (.var 0) (.var 2)) (.cons (.bin .fdiv (.var 1) (.var 2)) .nil)))) .nil)))⟩
def f_added : Fd := ⟨2, 2, (.cons (.ret (.call 12 [] [] (.cons (.bin .add (.bin .mul (.idx (.var 0) (.cst (.int (0)))) (.idx (.var 1) (.cst (.int (1))))) (.bin .mul (.idx (.var 1) (.cst (.int (0)))) (.idx (.var 0) (.cst (.int (1)))))) (.cons (.bin .mul (.idx (.var 0) (.cst (.int (1)))) (.idx (.var 1) (.cst (.int (1))))) .nil)))) .nil)⟩
def f_taken : Fd := ⟨2, 2, (.cons (.ret (.call 12 [] [] (.cons (.bin .sub (.bin .mul (.idx (.var 0) (.cst (.int (0)))) (.idx (.var 1) (.cst (.int (1))))) (.bin .mul (.idx (.var 1) (.cst (.int (0)))) (.idx (.var 0) (.cst (.int (1)))))) (.cons (.bin .mul (.idx (.var 0) (.cst (.int (1)))) (.idx (.var 1) (.cst (.int (1))))) .nil)))) .nil)⟩
def f_multiplied : Fd := ⟨2, 2, (.cons (.ret (.call 12 [] [] (.cons (.bin .mul (.idx (.var 0) (.cst (.int (0)))) (.idx (.var 1) (.cst (.int (0))))) (.cons (.bin .mul (.idx (.var 0) (.cst (.int (1)))) (.idx (.var 1) (.cst (.int (1))))) .nil)))) .nil)⟩
def f_divided : Fd := ⟨2, 2, (.cons (.ret (.call 12 [] [] (.cons (.bin .mul (.idx (.var 0) (.cst (.int (0)))) (.idx (.var 1) (.cst (.int (1))))) (.cons (.bin .mul (.idx (.var 0) (.cst (.int (1)))) (.idx (.var 1) (.cst (.int (0))))) .nil)))) .nil)⟩
def f_sign : Fd := ⟨1, 1, (.cons (.ret (.bin .sub (.cmp .gt (.idx (.var 0) (.cst (.int (0)))) (.cst (.int (0)))) (.cmp .lt (.idx (.var 0) (.cst (.int (0)))) (.cst (.int (0)))))) .nil)⟩
def f_is_less : Fd := ⟨2, 2, (.cons (.ret (.cmp .lt (.bin .mul (.idx (.var 0) (.cst (.int (0)))) (.idx (.var 1) (.cst (.int (1))))) (.bin .mul (.idx (.var 1) (.cst (.int (0)))) (.idx (.var 0) (.cst (.int (1))))))) .nil)⟩
def f_is_integer : Fd := ⟨1, 1, (.cons (.ret (.and (.isi .int (.var 0)) (.not (.isi .bool (.var 0))))) .nil)⟩
def f_is_between : Fd := ⟨3, 3, (.cons (.ret (.and (.call 19 [] [] (.cons (.var 0) .nil)) (.chain .le .le (.var 1) (.var 0) (.var 2)))) .nil)⟩
def f_is_fraction : Fd := ⟨1, 1, (.cons (.ife (.or (.not (.isi .tup (.var 0))) (.or (.cmp .ne (.len (.var 0)) (.cst (.int (2)))) (.or (.not (.call 19 [] [] (.cons (.idx (.var 0) (.cst (.int (0)))) .nil))) (.not (.call 19 [] [] (.cons (.idx (.var 0) (.cst (.int (1)))) .nil)))))) (.cons (.ret (.cst (.bl false))) .nil) .nil) (.cons (.ret (.and (.cmp .ge (.idx (.var 0) (.cst (.int (1)))) (.cst (.int (1)))) (.cmp .eq (.call 12 [] [] (.cons (.idx (.var 0) (.cst (.int (0)))) (.cons (.idx (.var 0) (.cst (.int (1)))) .nil))) (.var 0)))) .nil))⟩
def f_is_short : Fd := ⟨1, 1, (.cons (.ret (.and (.call 21 [] [] (.cons (.var 0) .nil)) (.and (.chain .le .le (.neg (.cst (.int (1000000000000)))) (.idx (.var 0) (.cst (.int (0)))) (.cst (.int (1000000000000)))) (.cmp .le (.idx (.var 0) (.cst (.int (1)))) (.cst (.int (1000000000000))))))) .nil)⟩
def f_is_stretch : Fd := ⟨2, 3, (.cons (.ife (.or (.not (.isi .tup (.var 0))) (.cmp .ne (.len (.var 0)) (.cst (.int (2))))) (.cons (.ret (.cst (.bl false))) .nil) .nil) (.cons (.ife (.not (.blt .all (.cons (.lc [2] (.nm 2) (.seq (.var 0)) (.cst (.bl true)) (.ife (.var 1) (.call 21 [] [] (.cons (.var 2) .nil)) (.call 22 [] [] (.cons (.var 2) .nil)))) .nil))) (.cons (.ret (.cst (.bl false))) .nil) .nil) (.cons (.ret (.not (.call 18 [] [] (.cons (.idx (.var 0) (.cst (.int (1)))) (.cons (.idx (.var 0) (.cst (.int (0)))) .nil))))) .nil)))⟩
def f_numeral : Fd := ⟨1, 3, (.cons (.asg (.nm 1) (.ife (.cmp .eq (.slc (.var 0) (.cst .non) (.cst (.int (1)))) (.cst (.str (Str.ofString "-")))) (.slc (.var 0) (.cst (.int (1))) (.cst .non)) (.var 0))) (.cons (.ife (.or (.cmp .eq (.var 1) (.cst (.str (Str.ofString "")))) (.not (.blt .all (.cons (.lc [2] (.nm 2) (.seq (.var 1)) (.cst (.bl true)) (.cmp .inn (.var 2) (.cst (.str (Str.ofString "0123456789"))))) .nil)))) (.cons (.ret (.cst .non)) .nil) .nil) (.cons (.ret (.ife (.and (.cmp .eq (.idx (.var 1) (.cst (.int (0)))) (.cst (.str (Str.ofString "0")))) (.cmp .ne (.var 0) (.cst (.str (Str.ofString "0"))))) (.cst .non) (.blt .int (.cons (.var 0) .nil)))) .nil)))⟩
def f_fraction_in : Fd := ⟨1, 5, (.cons (.asg (.tp (.cons (.nm 1) (.cons (.nm 2) (.cons (.nm 3) .nil)))) (.sme .partition (.var 0) (.cons (.cst (.str (Str.ofString "/"))) .nil))) (.cons (.asg (.nm 4) (.tup (.cons (.call 24 [] [] (.cons (.var 1) .nil)) (.cons (.ife (.cmp .ne (.var 2) (.cst (.str (Str.ofString "")))) (.call 24 [] [] (.cons (.var 3) .nil)) (.cst (.int (1)))) .nil)))) (.cons (.ife (.or (.cmp .inn (.cst .non) (.var 4)) (.not (.call 21 [] [] (.cons (.var 4) .nil)))) (.cons (.ret (.cst .non)) .nil) .nil) (.cons (.ret (.ife (.cmp .eq (.call 26 [] [] (.cons (.var 4) .nil)) (.var 0)) (.var 4) (.cst .non))) .nil))))⟩
def f_fraction_text : Fd := ⟨1, 1, (.cons (.ret (.ife (.cmp .eq (.idx (.var 0) (.cst (.int (1)))) (.cst (.int (1)))) (.blt .str (.cons (.idx (.var 0) (.cst (.int (0)))) .nil)) (.fst (.cons (.idx (.var 0) (.cst (.int (0)))) (.cons (.cst (.str (Str.ofString "/"))) (.cons (.idx (.var 0) (.cst (.int (1)))) .nil)))))) .nil)⟩
def f_numbers_text : Fd := ⟨1, 2, (.cons (.ret (.sme .join (.cst (.str (Str.ofString " "))) (.cons (.lc [1] (.nm 1) (.seq (.var 0)) (.cst (.bl true)) (.call 26 [] [] (.cons (.var 1) .nil))) .nil))) .nil)⟩
def f_numbers_in : Fd := ⟨1, 3, (.cons (.asg (.nm 1) (.blt .tuple (.cons (.lc [2] (.nm 2) (.seq (.var 0)) (.cst (.bl true)) (.call 25 [] [] (.cons (.var 2) .nil))) .nil))) (.cons (.ret (.ife (.cmp .inn (.cst .non) (.var 1)) (.cst .non) (.var 1))) .nil))⟩
def f_check_rate : Fd := ⟨1, 1, (.cons (.ife (.not (.call 22 [] [] (.cons (.var 0) .nil))) (.cons (.expr .nil) .nil) .nil) .nil)⟩
def f_are_numbers : Fd := ⟨3, 4, (.cons (.ret (.and (.isi .tup (.var 0)) (.and (.chain .le .le (.var 1) (.len (.var 0)) (.var 2)) (.blt .all (.cons (.lc [3] (.nm 3) (.seq (.var 0)) (.cst (.bl true)) (.call 22 [] [] (.cons (.var 3) .nil))) .nil))))) .nil)⟩
def f_number_fault : Fd := ⟨3, 5, (.cons (.ife (.not (.isi .tup (.var 0))) (.cons (.ret (.cst .non)) .nil) .nil) (.cons (.forr (.tp (.cons (.nm 3) (.cons (.nm 4) .nil))) (.enum (.var 0)) (.cons (.ife (.or (.cmp .eq (.var 3) (.var 2)) (.not (.call 22 [] [] (.cons (.var 4) .nil)))) (.cons (.ret (.var 3)) .nil) .nil) .nil)) (.cons (.ret (.cst .non)) .nil)))⟩
def f_are_short : Fd := ⟨1, 2, (.cons (.ret (.blt .all (.cons (.lc [1] (.nm 1) (.seq (.var 0)) (.cst (.bl true)) (.call 22 [] [] (.cons (.var 1) .nil))) .nil))) .nil)⟩
def f_slid_numbers : Fd := ⟨2, 5, (.cons (.asg (.nm 2) (.blt .list (.cons (.var 0) .nil))) (.cons (.forr (.nm 3) (.range1 (.bin .sub (.len (.var 2)) (.cst (.int (1))))) (.cons (.forr (.nm 4) (.range3 (.bin .sub (.len (.var 2)) (.cst (.int (2)))) (.bin .sub (.var 3) (.cst (.int (1)))) (.neg (.cst (.int (1))))) (.cons (.asg (.sub 2 (.var 4)) (.call 14 [] [] (.cons (.idx (.var 2) (.var 4)) (.cons (.call 15 [] [] (.cons (.var 1) (.cons (.idx (.var 2) (.bin .add (.var 4) (.cst (.int (1))))) .nil))) .nil)))) .nil)) .nil)) (.cons (.ret (.blt .tuple (.cons (.var 2) .nil))) .nil)))⟩
def m_Line___init__ : Fd := ⟨2, 2, (.cons (.ife (.not (.call 30 [] [] (.cons (.var 1) (.cons (.cst (.int (2))) (.cons (.cst (.int (6))) .nil))))) (.cons (.expr .nil) .nil) .nil) (.cons (.ife (.cmp .le (.call 17 [] [] (.cons (.idx (.var 1) (.neg (.cst (.int (1))))) .nil)) (.cst (.int (0)))) (.cons (.expr .nil) .nil) .nil) (.cons (.asg (.att 0 (Str.ofString "held")) (.var 1)) .nil)))⟩
def m_Line_read : Fd := ⟨2, 3, (.cons (.asg (.nm 2) (.call 47 [] [] (.cons (.var 1) (.cons (.cst (.bl false)) .nil)))) (.cons (.ife (.cmp .is (.var 2) (.cst .non)) (.cons (.expr .nil) .nil) .nil) (.cons (.ret (.var 2)) .nil)))⟩
def m_Line_numbers : Fd := ⟨1, 1, (.cons (.ret (.fld (Str.ofString "held") (.var 0))) .nil)⟩
def m_Line_text : Fd := ⟨1, 1, (.cons (.ret (.call 27 [] [] (.cons (.fld (Str.ofString "held") (.var 0)) .nil))) .nil)⟩
def f_line_with : Fd := ⟨1, 2, (.cons (.asg (.nm 1) (.make 12 [] (.cons (.tup (.cons (.cst (.tup [(.int (0)), (.int (1))])) (.cons (.cst (.tup [(.int (1)), (.int (1))])) .nil))) .nil))) (.cons (.asg (.att 1 (Str.ofString "held")) (.var 0)) (.cons (.ret (.var 1)) .nil)))⟩
def f_line_of : Fd := ⟨2, 3, (.cons (.asg (.nm 2) (.ife (.isi .str (.var 0)) (.call 28 [] [] (.cons (.sme .split (.var 0) (.cons (.cst (.str (Str.ofString " "))) .nil)) .nil)) (.cst .non))) (.cons (.ife (.or (.cmp .is (.var 2) (.cst .non)) (.or (.not (.chain .le .le (.cst (.int (2))) (.len (.var 2)) (.cst (.int (6))))) (.cmp .le (.call 17 [] [] (.cons (.idx (.var 2) (.neg (.cst (.int (1))))) .nil)) (.cst (.int (0)))))) (.cons (.ret (.cst .non)) .nil) .nil) (.cons (.ret (.ife (.or (.var 1) (.call 32 [] [] (.cons (.var 2) .nil))) (.call 46 [] [] (.cons (.var 2) .nil)) (.cst .non))) .nil)))⟩
def f_check_line : Fd := ⟨1, 1, (.cons (.ife (.not (.isi (.cls 12) (.var 0))) (.cons (.expr .nil) .nil) .nil) .nil)⟩
def f_trimmed : Fd := ⟨1, 2, (.cons (.asg (.nm 1) (.blt .list (.cons (.var 0) .nil))) (.cons (.whil (.and (.var 1) (.cmp .eq (.idx (.var 1) (.neg (.cst (.int (1))))) (.cst (.tup [(.int (0)), (.int (1))])))) (.cons (.asg (.nm 1) (.slc (.var 1) (.cst .non) (.neg (.cst (.int (1)))))) .nil)) (.cons (.ret (.var 1)) .nil)))⟩
def f_poly_sum : Fd := ⟨2, 6, (.cons (.asg (.tp (.cons (.nm 2) (.cons (.nm 3) .nil))) (.ife (.cmp .ge (.len (.var 0)) (.len (.var 1))) (.tup (.cons (.var 0) (.cons (.var 1) .nil))) (.tup (.cons (.var 1) (.cons (.var 0) .nil))))) (.cons (.ret (.call 49 [] [] (.cons (.lc [4, 5] (.tp (.cons (.nm 4) (.cons (.nm 5) .nil))) (.enum (.var 2)) (.cst (.bl true)) (.ife (.cmp .lt (.var 4) (.len (.var 3))) (.call 13 [] [] (.cons (.var 5) (.cons (.idx (.var 3) (.var 4)) .nil))) (.var 5))) .nil))) .nil))⟩
def f_poly_product : Fd := ⟨2, 7, (.cons (.ife (.or (.not (.var 0)) (.not (.var 1))) (.cons (.ret (.lst .nil)) .nil) .nil) (.cons (.asg (.nm 2) (.bin .mul (.lst (.cons (.cst (.tup [(.int (0)), (.int (1))])) .nil)) (.bin .sub (.bin .add (.len (.var 0)) (.len (.var 1))) (.cst (.int (1)))))) (.cons (.forr (.tp (.cons (.nm 3) (.cons (.nm 4) .nil))) (.enum (.var 0)) (.cons (.forr (.tp (.cons (.nm 5) (.cons (.nm 6) .nil))) (.enum (.var 1)) (.cons (.asg (.sub 2 (.bin .add (.var 3) (.var 5))) (.call 13 [] [] (.cons (.idx (.var 2) (.bin .add (.var 3) (.var 5))) (.cons (.call 15 [] [] (.cons (.var 4) (.cons (.var 6) .nil))) .nil)))) .nil)) .nil)) (.cons (.ret (.call 49 [] [] (.cons (.var 2) .nil))) .nil))))⟩
def f_turned : Fd := ⟨1, 2, (.cons (.ret (.lc [1] (.nm 1) (.seq (.var 0)) (.cst (.bl true)) (.tup (.cons (.neg (.idx (.var 1) (.cst (.int (0))))) (.cons (.idx (.var 1) (.cst (.int (1)))) .nil))))) .nil)⟩
def f_poly_value : Fd := ⟨2, 4, (.cons (.asg (.nm 2) (.cst (.tup [(.int (0)), (.int (1))]))) (.cons (.forr (.nm 3) (.seq (.rev (.var 0))) (.cons (.asg (.nm 2) (.call 13 [] [] (.cons (.call 15 [] [] (.cons (.var 2) (.cons (.var 1) .nil))) (.cons (.var 3) .nil)))) .nil)) (.cons (.ret (.var 2)) .nil)))⟩
def f_slope : Fd := ⟨1, 3, (.cons (.ret (.slc (.lc [1, 2] (.tp (.cons (.nm 1) (.cons (.nm 2) .nil))) (.enum (.var 0)) (.cst (.bl true)) (.call 15 [] [] (.cons (.var 2) (.cons (.tup (.cons (.var 1) (.cons (.cst (.int (1))) .nil))) .nil)))) (.cst (.int (1))) (.cst .non))) .nil)⟩
def f_remainder : Fd := ⟨2, 7, (.cons (.asg (.nm 2) (.blt .list (.cons (.var 0) .nil))) (.cons (.whil (.cmp .ge (.len (.var 2)) (.len (.var 1))) (.cons (.par (.cons (.nm 3) (.cons (.nm 4) .nil)) (.cons (.call 16 [] [] (.cons (.idx (.var 2) (.neg (.cst (.int (1))))) (.cons (.idx (.var 1) (.neg (.cst (.int (1))))) .nil))) (.cons (.bin .sub (.len (.var 2)) (.len (.var 1))) .nil))) (.cons (.forr (.tp (.cons (.nm 5) (.cons (.nm 6) .nil))) (.enum (.var 1)) (.cons (.asg (.sub 2 (.bin .add (.var 5) (.var 4))) (.call 14 [] [] (.cons (.idx (.var 2) (.bin .add (.var 5) (.var 4))) (.cons (.call 15 [] [] (.cons (.var 3) (.cons (.var 6) .nil))) .nil)))) .nil)) (.cons (.asg (.nm 2) (.call 49 [] [] (.cons (.var 2) .nil))) .nil)))) (.cons (.ret (.var 2)) .nil)))⟩
def f_chain : Fd := ⟨1, 2, (.cons (.asg (.nm 1) (.lst (.cons (.var 0) (.cons (.call 54 [] [] (.cons (.var 0) .nil)) .nil)))) (.cons (.whil (.idx (.var 1) (.neg (.cst (.int (1))))) (.cons (.app 1 (.call 52 [] [] (.cons (.call 55 [] [] (.cons (.idx (.var 1) (.neg (.cst (.int (2))))) (.cons (.idx (.var 1) (.neg (.cst (.int (1))))) .nil))) .nil))) .nil)) (.cons (.ret (.slc (.var 1) (.cst .non) (.neg (.cst (.int (1)))))) .nil)))⟩
def f_changes : Fd := ⟨2, 7, (.cons (.asg (.nm 2) (.lc [3] (.nm 3) (.seq (.var 0)) (.cst (.bl true)) (.call 17 [] [] (.cons (.call 53 [] [] (.cons (.var 3) (.cons (.var 1) .nil))) .nil)))) (.cons (.asg (.nm 2) (.lc [4] (.nm 4) (.seq (.var 2)) (.cmp .ne (.var 4) (.cst (.int (0)))) (.var 4))) (.cons (.ret (.blt .sum (.cons (.lc [5, 6] (.tp (.cons (.nm 5) (.cons (.nm 6) .nil))) (.zip (.var 2) (.slc (.var 2) (.cst (.int (1))) (.cst .non))) (.cst (.bl true)) (.blt .int (.cons (.cmp .ne (.var 5) (.var 6)) .nil))) .nil))) .nil)))⟩
def f_has_root : Fd := ⟨3, 4, (.cons (.ife (.or (.not (.var 0)) (.or (.cmp .eq (.call 17 [] [] (.cons (.call 53 [] [] (.cons (.var 0) (.cons (.var 1) .nil))) .nil)) (.cst (.int (0)))) (.cmp .eq (.call 17 [] [] (.cons (.call 53 [] [] (.cons (.var 0) (.cons (.var 2) .nil))) .nil)) (.cst (.int (0)))))) (.cons (.ret (.cst (.bl true))) .nil) .nil) (.cons (.asg (.nm 3) (.call 56 [] [] (.cons (.var 0) .nil))) (.cons (.ret (.cmp .ne (.call 57 [] [] (.cons (.var 3) (.cons (.var 1) .nil))) (.call 57 [] [] (.cons (.var 3) (.cons (.var 2) .nil))))) .nil)))⟩
def f_determinant : Fd := ⟨1, 7, (.cons (.ife (.not (.var 0)) (.cons (.ret (.lst (.cons (.tup (.cons (.cst (.int (1))) (.cons (.cst (.int (1))) .nil))) .nil))) .nil) .nil) (.cons (.asg (.nm 1) (.lst .nil)) (.cons (.forr (.tp (.cons (.nm 2) (.cons (.nm 3) .nil))) (.enum (.idx (.var 0) (.cst (.int (0))))) (.cons (.ife (.var 3) (.cons (.asg (.nm 4) (.call 59 [] [] (.cons (.lc [5] (.nm 5) (.seq (.slc (.var 0) (.cst (.int (1))) (.cst .non))) (.cst (.bl true)) (.lst (.star (.slc (.var 5) (.cst .non) (.var 2)) (.star (.slc (.var 5) (.bin .add (.var 2) (.cst (.int (1)))) (.cst .non)) .nil)))) .nil))) (.cons (.asg (.nm 6) (.call 51 [] [] (.cons (.var 3) (.cons (.var 4) .nil)))) (.cons (.asg (.nm 1) (.call 50 [] [] (.cons (.var 1) (.cons (.ife (.bin .and (.var 2) (.cst (.int (1)))) (.call 52 [] [] (.cons (.var 6) .nil)) (.var 6)) .nil)))) .nil))) .nil) .nil)) (.cons (.ret (.var 1)) .nil))))⟩
def f_table_of : Fd := ⟨1, 7, (.cons (.asg (.nm 1) (.bin .sub (.len (.var 0)) (.cst (.int (1))))) (.cons (.asg (.nm 2) (.lst .nil)) (.cons (.forr (.nm 3) (.range2 (.cst (.int (1))) (.bin .add (.var 1) (.cst (.int (1))))) (.cons (.asg (.nm 4) (.lc [5] (.nm 5) (.range2 (.cst (.int (1))) (.bin .add (.var 1) (.cst (.int (1))))) (.cst (.bl true)) (.bin .add (.bin .sub (.var 1) (.bin .mul (.cst (.int (2))) (.var 5))) (.var 3)))) (.cons (.app 2 (.lc [6] (.nm 6) (.seq (.var 4)) (.cst (.bl true)) (.ife (.chain .le .le (.cst (.int (0))) (.var 6) (.var 1)) (.idx (.var 0) (.var 6)) (.lst .nil)))) .nil))) (.cons (.ret (.var 2)) .nil))))⟩
def f_minors_of : Fd := ⟨1, 7, (.cons (.asg (.nm 1) (.call 60 [] [] (.cons (.lc [2] (.nm 2) (.seq (.var 0)) (.cst (.bl true)) (.call 49 [] [] (.cons (.lst (.cons (.var 2) .nil)) .nil))) .nil))) (.cons (.asg (.nm 3) (.lst .nil)) (.cons (.forr (.nm 4) (.range2 (.cst (.int (1))) (.bin .add (.len (.var 1)) (.cst (.int (1))))) (.cons (.asg (.nm 5) (.call 59 [] [] (.cons (.lc [6] (.nm 6) (.seq (.slc (.var 1) (.cst .non) (.var 4))) (.cst (.bl true)) (.slc (.var 6) (.cst .non) (.var 4))) .nil))) (.cons (.app 3 (.ife (.var 5) (.idx (.var 5) (.cst (.int (0)))) (.cst (.tup [(.int (0)), (.int (1))])))) .nil))) (.cons (.ret (.var 3)) .nil))))⟩
def f_calm_numbers : Fd := ⟨1, 2, (.cons (.ret (.blt .all (.cons (.lc [1] (.nm 1) (.seq (.call 61 [] [] (.cons (.var 0) .nil))) (.cst (.bl true)) (.cmp .gt (.call 17 [] [] (.cons (.var 1) .nil)) (.cst (.int (0))))) .nil))) .nil)⟩
def f_row_numbers : Fd := ⟨1, 4, (.cons (.ret (.lc [3] (.nm 3) (.seq (.cst (.tup [(.tup [(.int (0)), (.int (0)), (.int (1)), (.int (1))]), (.tup [(.int (1)), (.int (1)), (.int (0)), (.int (0))]), (.tup [(.int (0)), (.int (1)), (.int (1)), (.int (0))]), (.tup [(.int (1)), (.int (0)), (.int (0)), (.int (1))])]))) (.cst (.bl true)) (.blt .tuple (.cons (.lc [1, 2] (.tp (.cons (.nm 1) (.cons (.nm 2) .nil))) (.enum (.var 0)) (.cst (.bl true)) (.idx (.var 2) (.idx (.var 3) (.bin .mod (.var 1) (.cst (.int (4))))))) .nil)))) .nil)⟩
def f_check_stretches : Fd := ⟨1, 3, (.cons (.ife (.not (.isi .tup (.var 0))) (.cons (.expr .nil) .nil) .nil) (.cons (.forr (.tp (.cons (.nm 1) (.cons (.nm 2) .nil))) (.enum (.var 0)) (.cons (.ife (.or (.cmp .eq (.var 1) (.cst (.int (6)))) (.not (.call 23 [] [] (.cons (.var 2) (.cons (.cst (.bl false)) .nil))))) (.cons (.expr .nil) .nil) .nil) .nil)) (.cons (.ife (.cmp .lt (.len (.var 0)) (.cst (.int (2)))) (.cons (.expr .nil) .nil) .nil) (.cons (.ife (.cmp .le (.call 17 [] [] (.cons (.idx (.idx (.var 0) (.neg (.cst (.int (1))))) (.cst (.int (0)))) .nil)) (.cst (.int (0)))) (.cons (.expr .nil) .nil) .nil) .nil))))⟩
def m_Spans___init__ : Fd := ⟨2, 2, (.cons (.expr (.call 64 [] [] (.cons (.var 1) .nil))) (.cons (.asg (.att 0 (Str.ofString "held")) (.var 1)) .nil))⟩
def m_Spans_read : Fd := ⟨2, 3, (.cons (.asg (.nm 2) (.call 79 [] [] (.cons (.var 1) (.cons (.cst (.bl false)) .nil)))) (.cons (.ife (.cmp .is (.var 2) (.cst .non)) (.cons (.expr .nil) .nil) .nil) (.cons (.ret (.var 2)) .nil)))⟩
def m_Spans_stretches : Fd := ⟨1, 1, (.cons (.ret (.fld (Str.ofString "held") (.var 0))) .nil)⟩
def m_Spans_text : Fd := ⟨1, 3, (.cons (.ret (.sme .join (.cst (.str (Str.ofString "\n"))) (.cons (.lc [1, 2] (.tp (.cons (.nm 1) (.cons (.nm 2) .nil))) (.seq (.call 76 [] [] (.cons (.fld (Str.ofString "held") (.var 0)) .nil))) (.cst (.bl true)) (.fst (.cons (.cst (.str (Str.ofString "from "))) (.cons (.call 27 [] [] (.cons (.var 1) .nil)) (.cons (.cst (.str (Str.ofString " to "))) (.cons (.call 27 [] [] (.cons (.var 2) .nil)) .nil)))))) .nil))) .nil)⟩
def m_Spans_rows : Fd := ⟨1, 2, (.cons (.ret (.blt .tuple (.cons (.lc [1] (.nm 1) (.seq (.call 63 [] [] (.cons (.fld (Str.ofString "held") (.var 0)) .nil))) (.cst (.bl true)) (.make 12 [] (.cons (.var 1) .nil))) .nil))) .nil)⟩
def f_pairs_of : Fd := ⟨1, 3, (.cons (.ret (.lc [1, 2] (.tp (.cons (.nm 1) (.cons (.nm 2) .nil))) (.seq (.var 0)) (.cst (.bl true)) (.tup (.cons (.tup (.cons (.var 1) .nil)) (.cons (.tup (.cons (.var 2) .nil)) .nil))))) .nil)⟩
def f_stretch_in : Fd := ⟨1, 3, (.cons (.asg (.nm 1) (.sme .split (.var 0) (.cons (.cst (.str (Str.ofString " "))) .nil))) (.cons (.ife (.or (.cmp .ne (.len (.var 1)) (.cst (.int (4)))) (.or (.cmp .ne (.idx (.var 1) (.cst (.int (0)))) (.cst (.str (Str.ofString "from")))) (.cmp .ne (.idx (.var 1) (.cst (.int (2)))) (.cst (.str (Str.ofString "to")))))) (.cons (.ret (.cst .non)) .nil) .nil) (.cons (.asg (.nm 2) (.tup (.cons (.call 25 [] [] (.cons (.idx (.var 1) (.cst (.int (1)))) .nil)) (.cons (.call 25 [] [] (.cons (.idx (.var 1) (.cst (.int (3)))) .nil)) .nil)))) (.cons (.ret (.ife (.and (.cmp .nin (.cst .non) (.var 2)) (.call 23 [] [] (.cons (.var 2) (.cons (.cst (.bl true)) .nil)))) (.var 2) (.cst .non))) .nil))))⟩
def f_spans_with : Fd := ⟨1, 2, (.cons (.asg (.nm 1) (.make 13 [] (.cons (.tup (.cons (.tup (.cons (.tup (.cons (.cst (.int (1))) (.cons (.cst (.int (1))) .nil))) (.cons (.tup (.cons (.cst (.int (1))) (.cons (.cst (.int (1))) .nil))) .nil))) (.cons (.tup (.cons (.tup (.cons (.cst (.int (1))) (.cons (.cst (.int (1))) .nil))) (.cons (.tup (.cons (.cst (.int (1))) (.cons (.cst (.int (1))) .nil))) .nil))) .nil))) .nil))) (.cons (.asg (.att 1 (Str.ofString "held")) (.var 0)) (.cons (.ret (.var 1)) .nil)))⟩
def f_spans_of : Fd := ⟨2, 5, (.cons (.asg (.nm 2) (.ife (.isi .str (.var 0)) (.blt .tuple (.cons (.lc [3] (.nm 3) (.seq (.sme .split (.var 0) (.cons (.cst (.str (Str.ofString "\n"))) .nil))) (.cst (.bl true)) (.call 77 [] [] (.cons (.var 3) .nil))) .nil)) (.tup .nil))) (.cons (.ife (.or (.not (.chain .le .le (.cst (.int (2))) (.len (.var 2)) (.cst (.int (6))))) (.or (.cmp .inn (.cst .non) (.var 2)) (.cmp .le (.call 17 [] [] (.cons (.idx (.idx (.var 2) (.neg (.cst (.int (1))))) (.cst (.int (0)))) .nil)) (.cst (.int (0)))))) (.cons (.ret (.cst .non)) .nil) .nil) (.cons (.ife (.and (.not (.var 1)) (.not (.blt .all (.cons (.lc [4] (.nm 4) (.seq (.var 2)) (.cst (.bl true)) (.call 23 [] [] (.cons (.var 4) (.cons (.cst (.bl false)) .nil)))) .nil)))) (.cons (.ret (.cst .non)) .nil) .nil) (.cons (.ret (.call 78 [] [] (.cons (.var 2) .nil))) .nil))))⟩
def f_check_spans : Fd := ⟨1, 1, (.cons (.ife (.not (.isi (.cls 13) (.var 0))) (.cons (.expr .nil) .nil) .nil) .nil)⟩
def f_put_to : Fd := ⟨3, 5, (.cons (.ret (.blt .tuple (.cons (.lc [3, 4] (.tp (.cons (.nm 3) (.cons (.nm 4) .nil))) (.zip (.var 0) (.var 1)) (.cst (.bl true)) (.call 13 [] [] (.cons (.var 3) (.cons (.call 15 [] [] (.cons (.var 2) (.cons (.var 4) .nil))) .nil)))) .nil))) .nil)⟩
def f_with_parts : Fd := ⟨3, 6, (.cons (.asg (.nm 3) (.var 0)) (.cons (.forr (.tp (.cons (.nm 4) (.cons (.nm 5) .nil))) (.zip (.var 1) (.var 2)) (.cons (.asg (.nm 3) (.call 81 [] [] (.cons (.var 3) (.cons (.var 4) (.cons (.var 5) .nil))))) .nil)) (.cons (.ret (.var 3)) .nil)))⟩
def f_corners_in : Fd := ⟨1, 5, (.cons (.asg (.nm 1) (.lst (.cons (.tup .nil) .nil))) (.cons (.forr (.nm 2) (.seq (.var 0)) (.cons (.asg (.nm 1) (.lc2 [3, 4] [4] (.nm 3) (.seq (.var 1)) (.nm 4) (.seq (.var 2)) (.tup (.star (.var 3) (.cons (.var 4) .nil))))) .nil)) (.cons (.ret (.var 1)) .nil)))⟩
def f_is_high : Fd := ⟨3, 4, (.cons (.ret (.blt .all (.cons (.lc [3] (.nm 3) (.seq (.call 83 [] [] (.cons (.var 2) .nil))) (.cst (.bl true)) (.cmp .gt (.call 17 [] [] (.cons (.idx (.call 82 [] [] (.cons (.var 0) (.cons (.var 1) (.cons (.var 3) .nil)))) (.neg (.cst (.int (1))))) .nil)) (.cst (.int (0))))) .nil))) .nil)⟩
def f_check_parts : Fd := ⟨2, 4, (.cons (.ife (.not (.isi .tup (.var 0))) (.cons (.expr .nil) .nil) .nil) (.cons (.forr (.tp (.cons (.nm 2) (.cons (.nm 3) .nil))) (.enum (.var 0)) (.cons (.ife (.or (.cmp .eq (.var 2) (.cst (.int (3)))) (.not (.call 30 [] [] (.cons (.var 3) (.cons (.var 1) (.cons (.var 1) .nil)))))) (.cons (.expr .nil) .nil) .nil) .nil)) .nil))⟩
def f_check_box : Fd := ⟨2, 4, (.cons (.ife (.not (.isi .tup (.var 0))) (.cons (.expr .nil) .nil) .nil) (.cons (.forr (.tp (.cons (.nm 2) (.cons (.nm 3) .nil))) (.enum (.var 0)) (.cons (.ife (.or (.cmp .eq (.var 2) (.var 1)) (.not (.call 23 [] [] (.cons (.var 3) (.cons (.cst (.bl false)) .nil))))) (.cons (.expr .nil) .nil) .nil) .nil)) (.cons (.ife (.cmp .lt (.len (.var 0)) (.var 1)) (.cons (.expr .nil) .nil) .nil) .nil)))⟩
def f_all_ends : Fd := ⟨1, 5, (.cons (.asg (.nm 1) (.lst (.cons (.tup .nil) .nil))) (.cons (.forr (.nm 2) (.range1 (.var 0)) (.cons (.asg (.nm 1) (.lc2 [3, 4] [4] (.nm 3) (.seq (.var 1)) (.nm 4) (.seq (.tup (.cons (.cst (.int (0))) (.cons (.cst (.int (1))) .nil)))) (.tup (.star (.var 3) (.cons (.var 4) .nil))))) .nil)) (.cons (.ret (.var 1)) .nil)))⟩
def m_Machine___init__ : Fd := ⟨4, 4, (.cons (.ife (.not (.call 30 [] [] (.cons (.var 1) (.cons (.cst (.int (2))) (.cons (.cst (.int (6))) .nil))))) (.cons (.expr .nil) .nil) .nil) (.cons (.expr (.call 85 [] [] (.cons (.var 2) (.cons (.len (.var 1)) .nil)))) (.cons (.expr (.call 86 [] [] (.cons (.var 3) (.cons (.len (.var 2)) .nil)))) (.cons (.ife (.not (.call 84 [] [] (.cons (.var 1) (.cons (.var 2) (.cons (.var 3) .nil))))) (.cons (.expr .nil) .nil) .nil) (.cons (.expr (.meth (Str.ofString "take") (.var 0) (.cons (.var 1) (.cons (.var 2) (.cons (.var 3) .nil))))) .nil)))))⟩
def m_Machine_take : Fd := ⟨4, 4, (.cons (.asg (.att 0 (Str.ofString "held_base")) (.var 1)) (.cons (.asg (.att 0 (Str.ofString "held_parts")) (.var 2)) (.cons (.asg (.att 0 (Str.ofString "held_box")) (.var 3)) .nil)))⟩
def m_Machine_read : Fd := ⟨2, 3, (.cons (.asg (.nm 2) (.call 108 [] [] (.cons (.var 1) (.cons (.cst (.bl false)) .nil)))) (.cons (.ife (.cmp .is (.var 2) (.cst .non)) (.cons (.expr .nil) .nil) .nil) (.cons (.ret (.var 2)) .nil)))⟩
def m_Machine_base : Fd := ⟨1, 1, (.cons (.ret (.fld (Str.ofString "held_base") (.var 0))) .nil)⟩
def m_Machine_parts : Fd := ⟨1, 1, (.cons (.ret (.fld (Str.ofString "held_parts") (.var 0))) .nil)⟩
def m_Machine_box : Fd := ⟨1, 1, (.cons (.ret (.fld (Str.ofString "held_box") (.var 0))) .nil)⟩
def m_Machine_text : Fd := ⟨1, 5, (.cons (.asg (.nm 1) (.lst (.cons (.fst (.cons (.cst (.str (Str.ofString "base "))) (.cons (.call 27 [] [] (.cons (.fld (Str.ofString "held_base") (.var 0)) .nil)) .nil))) .nil))) (.cons (.forr (.tp (.cons (.nm 2) (.cons (.tp (.cons (.nm 3) (.cons (.nm 4) .nil))) .nil))) (.zip (.fld (Str.ofString "held_parts") (.var 0)) (.fld (Str.ofString "held_box") (.var 0))) (.cons (.app 1 (.fst (.cons (.cst (.str (Str.ofString "part "))) (.cons (.call 27 [] [] (.cons (.var 2) .nil)) (.cons (.cst (.str (Str.ofString " from "))) (.cons (.call 27 [] [] (.cons (.tup (.cons (.var 3) .nil)) .nil)) (.cons (.cst (.str (Str.ofString " to "))) (.cons (.call 27 [] [] (.cons (.tup (.cons (.var 4) .nil)) .nil)) .nil)))))))) .nil)) (.cons (.ret (.sme .join (.cst (.str (Str.ofString "\n"))) (.cons (.var 1) .nil))) .nil)))⟩
def m_Machine_edges : Fd := ⟨1, 4, (.cons (.asg (.nm 1) (.len (.fld (Str.ofString "held_parts") (.var 0)))) (.cons (.ret (.blt .tuple (.cons (.lc2 [2, 3] [3] (.nm 2) (.range1 (.var 1)) (.nm 3) (.seq (.call 87 [] [] (.cons (.bin .sub (.var 1) (.cst (.int (1)))) .nil))) (.tup (.cons (.var 2) (.cons (.var 3) .nil)))) .nil))) .nil))⟩
def f_machine_with : Fd := ⟨3, 4, (.cons (.ife (.not (.call 84 [] [] (.cons (.var 0) (.cons (.var 1) (.cons (.var 2) .nil))))) (.cons (.ret (.cst .non)) .nil) .nil) (.cons (.asg (.nm 3) (.make 14 [(.tup []), (.tup [])] (.cons (.tup (.cons (.tup (.cons (.cst (.int (0))) (.cons (.cst (.int (1))) .nil))) (.cons (.cst (.tup [(.int (1)), (.int (1))])) .nil))) .nil))) (.cons (.expr (.meth (Str.ofString "take") (.var 3) (.cons (.var 0) (.cons (.var 1) (.cons (.var 2) .nil))))) (.cons (.ret (.var 3)) .nil))))⟩
def f_part_in : Fd := ⟨1, 3, (.cons (.asg (.nm 1) (.sme .split (.var 0) (.cons (.cst (.str (Str.ofString " "))) .nil))) (.cons (.ife (.or (.cmp .ne (.idx (.var 1) (.cst (.int (0)))) (.cst (.str (Str.ofString "part")))) (.cmp .le (.len (.var 1)) (.cst (.int (4))))) (.cons (.ret (.cst .non)) .nil) .nil) (.cons (.asg (.nm 2) (.tup (.cons (.call 28 [] [] (.cons (.slc (.var 1) (.cst (.int (1))) (.neg (.cst (.int (4))))) .nil)) (.cons (.call 77 [] [] (.cons (.sme .join (.cst (.str (Str.ofString " "))) (.cons (.slc (.var 1) (.neg (.cst (.int (4)))) (.cst .non)) .nil)) .nil)) .nil)))) (.cons (.ret (.ife (.cmp .inn (.cst .non) (.var 2)) (.cst .non) (.var 2))) .nil))))⟩
def f_machine_of : Fd := ⟨2, 12, (.cons (.asg (.nm 2) (.ife (.isi .str (.var 0)) (.sme .split (.var 0) (.cons (.cst (.str (Str.ofString "\n"))) .nil)) (.lst (.cons (.cst (.str (Str.ofString ""))) .nil)))) (.cons (.par (.cons (.nm 3) (.cons (.nm 4) .nil)) (.cons (.sme .split (.idx (.var 2) (.cst (.int (0)))) (.cons (.cst (.str (Str.ofString " "))) .nil)) (.cons (.lc [5] (.nm 5) (.seq (.slc (.var 2) (.cst (.int (1))) (.cst .non))) (.cst (.bl true)) (.call 107 [] [] (.cons (.var 5) .nil))) .nil))) (.cons (.asg (.nm 6) (.ife (.cmp .eq (.idx (.var 3) (.cst (.int (0)))) (.cst (.str (Str.ofString "base")))) (.call 28 [] [] (.cons (.slc (.var 3) (.cst (.int (1))) (.cst .non)) .nil)) (.cst .non))) (.cons (.ife (.or (.cmp .is (.var 6) (.cst .non)) (.or (.cmp .inn (.cst .non) (.var 4)) (.or (.not (.chain .le .le (.cst (.int (2))) (.len (.var 6)) (.cst (.int (6))))) (.cmp .gt (.len (.var 4)) (.cst (.int (3))))))) (.cons (.ret (.cst .non)) .nil) .nil) (.cons (.par (.cons (.nm 7) (.cons (.nm 8) .nil)) (.cons (.blt .tuple (.cons (.lc [9] (.nm 9) (.seq (.var 4)) (.cst (.bl true)) (.idx (.var 9) (.cst (.int (0))))) .nil)) (.cons (.blt .tuple (.cons (.lc [9] (.nm 9) (.seq (.var 4)) (.cst (.bl true)) (.idx (.var 9) (.cst (.int (1))))) .nil)) .nil))) (.cons (.ife (.not (.blt .all (.cons (.lc [10] (.nm 10) (.seq (.var 7)) (.cst (.bl true)) (.cmp .eq (.len (.var 10)) (.len (.var 6)))) .nil))) (.cons (.ret (.cst .non)) .nil) .nil) (.cons (.ife (.and (.not (.var 1)) (.not (.blt .all (.cons (.lc [11] (.nm 11) (.seq (.tup (.cons (.var 6) (.star (.var 7) (.star (.var 8) .nil))))) (.cst (.bl true)) (.call 32 [] [] (.cons (.var 11) .nil))) .nil)))) (.cons (.ret (.cst .non)) .nil) .nil) (.cons (.ret (.call 106 [] [] (.cons (.var 6) (.cons (.var 7) (.cons (.var 8) .nil))))) .nil))))))))⟩
def f_check_machine : Fd := ⟨1, 1, (.cons (.ife (.not (.isi (.cls 14) (.var 0))) (.cons (.expr .nil) .nil) .nil) .nil)⟩
def f_is_edge : Fd := ⟨2, 4, (.cons (.asg (.nm 2) (.len (.prp (Str.ofString "parts") (.var 0)))) (.cons (.ife (.or (.not (.isi .tup (.var 1))) (.or (.cmp .ne (.len (.var 1)) (.cst (.int (2)))) (.not (.call 20 [] [] (.cons (.idx (.var 1) (.cst (.int (0)))) (.cons (.cst (.int (0))) (.cons (.bin .sub (.var 2) (.cst (.int (1)))) .nil))))))) (.cons (.ret (.cst (.bl false))) .nil) .nil) (.cons (.ife (.or (.not (.isi .tup (.idx (.var 1) (.cst (.int (1)))))) (.cmp .ne (.len (.idx (.var 1) (.cst (.int (1))))) (.bin .sub (.var 2) (.cst (.int (1)))))) (.cons (.ret (.cst (.bl false))) .nil) .nil) (.cons (.ret (.blt .all (.cons (.lc [3] (.nm 3) (.seq (.idx (.var 1) (.cst (.int (1))))) (.cst (.bl true)) (.call 20 [] [] (.cons (.var 3) (.cons (.cst (.int (0))) (.cons (.cst (.int (1))) .nil))))) .nil))) .nil))))⟩
def f_numbers_at : Fd := ⟨2, 2, (.cons (.ret (.call 82 [] [] (.cons (.prp (Str.ofString "base") (.var 0)) (.cons (.prp (Str.ofString "parts") (.var 0)) (.cons (.var 1) .nil))))) .nil)⟩
def f_edge_amounts : Fd := ⟨3, 10, (.cons (.asg (.tp (.cons (.nm 3) (.cons (.nm 4) .nil))) (.var 1)) (.cons (.asg (.tp (.cons (.nm 5) (.cons (.nm 6) .nil))) (.idx (.prp (Str.ofString "box") (.var 0)) (.var 3))) (.cons (.asg (.nm 7) (.lc [8, 9] (.tp (.cons (.nm 8) (.cons (.nm 9) .nil))) (.zip (.lst (.star (.slc (.prp (Str.ofString "box") (.var 0)) (.cst .non) (.var 3)) (.star (.slc (.prp (Str.ofString "box") (.var 0)) (.bin .add (.var 3) (.cst (.int (1)))) (.cst .non)) .nil))) (.var 4)) (.cst (.bl true)) (.idx (.var 8) (.var 9)))) (.cons (.ret (.tup (.star (.slc (.var 7) (.cst .non) (.var 3)) (.cons (.call 13 [] [] (.cons (.var 5) (.cons (.call 15 [] [] (.cons (.var 2) (.cons (.call 14 [] [] (.cons (.var 6) (.cons (.var 5) .nil))) .nil))) .nil))) (.star (.slc (.var 7) (.var 3) (.cst .non)) .nil))))) .nil))))⟩
def f_edge_numbers : Fd := ⟨3, 3, (.cons (.ret (.call 111 [] [] (.cons (.var 0) (.cons (.call 112 [] [] (.cons (.var 0) (.cons (.var 1) (.cons (.var 2) .nil)))) .nil)))) .nil)⟩
def f_corners_of : Fd := ⟨1, 1, (.cons (.ret (.call 83 [] [] (.cons (.prp (Str.ofString "box") (.var 0)) .nil))) .nil)⟩
def f_minor_along : Fd := ⟨2, 6, (.cons (.par (.cons (.nm 2) (.cons (.nm 3) .nil)) (.cons (.call 113 [] [] (.cons (.var 0) (.cons (.var 1) (.cons (.cst (.tup [(.int (0)), (.int (1))])) .nil)))) (.cons (.call 113 [] [] (.cons (.var 0) (.cons (.var 1) (.cons (.cst (.tup [(.int (1)), (.int (1))])) .nil)))) .nil))) (.cons (.ret (.call 59 [] [] (.cons (.call 60 [] [] (.cons (.lc [4, 5] (.tp (.cons (.nm 4) (.cons (.nm 5) .nil))) (.zip (.var 2) (.var 3)) (.cst (.bl true)) (.call 49 [] [] (.cons (.lst (.cons (.var 4) (.cons (.call 14 [] [] (.cons (.var 5) (.cons (.var 4) .nil))) .nil))) .nil))) .nil)) .nil))) .nil))⟩
def f_edge_is_calm : Fd := ⟨2, 2, (.cons (.ife (.not (.call 62 [] [] (.cons (.call 113 [] [] (.cons (.var 0) (.cons (.var 1) (.cons (.cst (.tup [(.int (0)), (.int (1))])) .nil)))) .nil))) (.cons (.ret (.cst (.bl false))) .nil) .nil) (.cons (.ret (.not (.call 58 [] [] (.cons (.call 115 [] [] (.cons (.var 0) (.cons (.var 1) .nil))) (.cons (.cst (.tup [(.int (0)), (.int (1))])) (.cons (.cst (.tup [(.int (1)), (.int (1))])) .nil)))))) .nil))⟩
def f_trouble_of : Fd := ⟨2, 3, (.cons (.forr (.nm 2) (.seq (.tup (.cons (.cst (.tup [(.int (0)), (.int (1))])) (.cons (.cst (.tup [(.int (1)), (.int (1))])) .nil)))) (.cons (.ife (.not (.call 62 [] [] (.cons (.call 113 [] [] (.cons (.var 0) (.cons (.var 1) (.cons (.var 2) .nil)))) .nil))) (.cons (.ret (.tup (.cons (.var 2) (.cons (.var 2) .nil)))) .nil) .nil) .nil)) (.cons (.ret (.ife (.call 116 [] [] (.cons (.var 0) (.cons (.var 1) .nil))) (.cst .non) (.tup (.cons (.cst (.tup [(.int (0)), (.int (1))])) (.cons (.cst (.tup [(.int (1)), (.int (1))])) .nil))))) .nil))⟩
def f_calm_machine : Fd := ⟨1, 2, (.cons (.ife (.not (.prp (Str.ofString "parts") (.var 0))) (.cons (.ret (.call 62 [] [] (.cons (.prp (Str.ofString "base") (.var 0)) .nil))) .nil) .nil) (.cons (.ret (.blt .all (.cons (.lc [1] (.nm 1) (.seq (.prp (Str.ofString "edges") (.var 0))) (.cst (.bl true)) (.call 116 [] [] (.cons (.var 0) (.cons (.var 1) .nil)))) .nil))) .nil))⟩
def f_fast_machine : Fd := ⟨2, 5, (.cons (.asg (.nm 2) (.blt .tuple (.cons (.call 34 [] [] (.cons (.prp (Str.ofString "base") (.var 0)) (.cons (.var 1) .nil))) .nil))) (.cons (.asg (.nm 3) (.blt .tuple (.cons (.lc [4] (.nm 4) (.seq (.prp (Str.ofString "parts") (.var 0))) (.cst (.bl true)) (.blt .tuple (.cons (.call 34 [] [] (.cons (.var 4) (.cons (.var 1) .nil))) .nil))) .nil))) (.cons (.ret (.call 118 [] [] (.cons (.call 106 [] [] (.cons (.var 2) (.cons (.var 3) (.cons (.prp (Str.ofString "box") (.var 0)) .nil)))) .nil))) .nil)))⟩
def f_restless_corner : Fd := ⟨1, 2, (.cons (.forr (.nm 1) (.seq (.call 114 [] [] (.cons (.var 0) .nil))) (.cons (.ife (.not (.call 62 [] [] (.cons (.call 111 [] [] (.cons (.var 0) (.cons (.var 1) .nil))) .nil))) (.cons (.ret (.var 1)) .nil) .nil) .nil)) (.cons (.ret (.cst .non)) .nil))⟩
def f_restless_edge : Fd := ⟨1, 2, (.cons (.forr (.nm 1) (.seq (.prp (Str.ofString "edges") (.var 0))) (.cons (.ife (.not (.call 116 [] [] (.cons (.var 0) (.cons (.var 1) .nil)))) (.cons (.ret (.var 1)) .nil) .nil) .nil)) (.cons (.ret (.cst .non)) .nil))⟩
def f_check_speed : Fd := ⟨1, 1, (.cons (.expr (.call 29 [] [] (.cons (.var 0) .nil))) (.cons (.ife (.cmp .lt (.call 17 [] [] (.cons (.var 0) .nil)) (.cst (.int (0)))) (.cons (.expr .nil) .nil) .nil) .nil))⟩
def f_are_same : Fd := ⟨2, 3, (.cons (.ife (.or (.not (.isi .tup (.var 0))) (.not (.blt .all (.cons (.lc [2] (.nm 2) (.seq (.var 0)) (.cst (.bl true)) (.call 21 [] [] (.cons (.var 2) .nil))) .nil)))) (.cons (.ret (.cst (.bl false))) .nil) .nil) (.cons (.ret (.cmp .eq (.blt .list (.cons (.var 0) .nil)) (.blt .list (.cons (.var 1) .nil)))) .nil))⟩
def f_accepts_line : Fd := ⟨2, 4, (.cons (.asg (.nm 2) (.call 47 [] [] (.cons (.idx (.var 0) (.cst (.int (1)))) (.cons (.cst (.bl true)) .nil)))) (.cons (.ife (.cmp .is (.var 2) (.cst .non)) (.cons (.ret (.cst (.bl false))) .nil) .nil) (.cons (.asg (.nm 3) (.call 61 [] [] (.cons (.prp (Str.ofString "numbers") (.var 2)) .nil))) (.cons (.ife (.cmp .eq (.idx (.var 0) (.cst (.int (0)))) (.cst (.str (Str.ofString "calm")))) (.cons (.ret (.and (.call 62 [] [] (.cons (.prp (Str.ofString "numbers") (.var 2)) .nil)) (.call 123 [] [] (.cons (.var 1) (.cons (.var 3) .nil))))) .nil) .nil) (.cons (.ret (.and (.call 19 [] [] (.cons (.var 1) .nil)) (.and (.chain .le .lt (.cst (.int (0))) (.var 1) (.len (.var 3))) (.cmp .le (.call 17 [] [] (.cons (.idx (.var 3) (.var 1)) .nil)) (.cst (.int (0))))))) .nil)))))⟩
def f_accepts_spans : Fd := ⟨2, 12, (.cons (.asg (.nm 2) (.call 79 [] [] (.cons (.idx (.var 0) (.cst (.int (1)))) (.cons (.cst (.bl true)) .nil)))) (.cons (.ife (.cmp .is (.var 2) (.cst .non)) (.cons (.ret (.cst (.bl false))) .nil) .nil) (.cons (.ife (.cmp .eq (.idx (.var 0) (.cst (.int (0)))) (.cst (.str (Str.ofString "all within")))) (.cons (.asg (.nm 3) (.call 63 [] [] (.cons (.prp (Str.ofString "stretches") (.var 2)) .nil))) (.cons (.ife (.or (.not (.isi .tup (.var 1))) (.cmp .ne (.len (.var 1)) (.len (.var 3)))) (.cons (.ret (.cst (.bl false))) .nil) .nil) (.cons (.ret (.blt .all (.cons (.lc [4, 5] (.tp (.cons (.nm 4) (.cons (.nm 5) .nil))) (.zip (.var 3) (.var 1)) (.cst (.bl true)) (.and (.call 62 [] [] (.cons (.var 4) .nil)) (.call 123 [] [] (.cons (.var 5) (.cons (.call 61 [] [] (.cons (.var 4) .nil)) .nil))))) .nil))) .nil))) .nil) (.cons (.asg (.nm 6) (.call 47 [] [] (.cons (.var 1) (.cons (.cst (.bl true)) .nil)))) (.cons (.ife (.or (.cmp .is (.var 6) (.cst .non)) (.cmp .ne (.len (.prp (Str.ofString "numbers") (.var 6))) (.len (.prp (Str.ofString "stretches") (.var 2))))) (.cons (.ret (.cst (.bl false))) .nil) .nil) (.cons (.asg (.nm 7) (.lzip (.prp (Str.ofString "numbers") (.var 6)) (.prp (Str.ofString "stretches") (.var 2)))) (.cons (.asg (.nm 8) (.blt .all (.cons (.lc [9, 10, 11] (.tp (.cons (.nm 9) (.cons (.tp (.cons (.nm 10) (.cons (.nm 11) .nil))) .nil))) (.seq (.var 7)) (.cst (.bl true)) (.and (.not (.call 18 [] [] (.cons (.var 9) (.cons (.var 10) .nil)))) (.not (.call 18 [] [] (.cons (.var 11) (.cons (.var 9) .nil)))))) .nil))) (.cons (.ret (.and (.var 8) (.not (.call 62 [] [] (.cons (.prp (Str.ofString "numbers") (.var 6)) .nil))))) .nil))))))))⟩
def f_are_amounts : Fd := ⟨2, 5, (.cons (.ife (.or (.not (.isi .tup (.var 1))) (.or (.cmp .ne (.len (.var 1)) (.len (.prp (Str.ofString "box") (.var 0)))) (.not (.blt .all (.cons (.lc [2] (.nm 2) (.seq (.var 1)) (.cst (.bl true)) (.call 21 [] [] (.cons (.var 2) .nil))) .nil))))) (.cons (.ret (.cst (.bl false))) .nil) .nil) (.cons (.ret (.blt .all (.cons (.lc [2, 3, 4] (.tp (.cons (.nm 2) (.cons (.tp (.cons (.nm 3) (.cons (.nm 4) .nil))) .nil))) (.zip (.var 1) (.prp (Str.ofString "box") (.var 0))) (.cst (.bl true)) (.and (.not (.call 18 [] [] (.cons (.var 2) (.cons (.var 3) .nil)))) (.not (.call 18 [] [] (.cons (.var 4) (.cons (.var 2) .nil)))))) .nil))) .nil))⟩
def f_is_trouble : Fd := ⟨3, 7, (.cons (.ife (.or (.not (.isi .tup (.var 2))) (.or (.cmp .ne (.len (.var 2)) (.cst (.int (2)))) (.not (.blt .all (.cons (.lc [3] (.nm 3) (.seq (.var 2)) (.cst (.bl true)) (.call 21 [] [] (.cons (.var 3) .nil))) .nil))))) (.cons (.ret (.cst (.bl false))) .nil) .nil) (.cons (.asg (.tp (.cons (.nm 4) (.cons (.nm 5) .nil))) (.var 2)) (.cons (.ife (.or (.cmp .lt (.call 17 [] [] (.cons (.var 4) .nil)) (.cst (.int (0)))) (.or (.call 18 [] [] (.cons (.tup (.cons (.cst (.int (1))) (.cons (.cst (.int (1))) .nil))) (.cons (.var 5) .nil))) (.call 18 [] [] (.cons (.var 5) (.cons (.var 4) .nil))))) (.cons (.ret (.cst (.bl false))) .nil) .nil) (.cons (.asg (.nm 6) (.lc [3] (.nm 3) (.seq (.var 2)) (.cst (.bl true)) (.call 62 [] [] (.cons (.call 113 [] [] (.cons (.var 0) (.cons (.var 1) (.cons (.var 3) .nil)))) .nil)))) (.cons (.ife (.cmp .eq (.var 4) (.var 5)) (.cons (.ret (.not (.idx (.var 6) (.cst (.int (0)))))) .nil) .nil) (.cons (.ret (.and (.blt .all (.cons (.var 6) .nil)) (.call 58 [] [] (.cons (.call 115 [] [] (.cons (.var 0) (.cons (.var 1) .nil))) (.cons (.var 4) (.cons (.var 5) .nil)))))) .nil))))))⟩
def f_accepts_machine : Fd := ⟨2, 5, (.cons (.asg (.nm 2) (.call 108 [] [] (.cons (.idx (.var 0) (.cst (.int (1)))) (.cons (.cst (.bl true)) .nil)))) (.cons (.ife (.cmp .is (.var 2) (.cst .non)) (.cons (.ret (.cst (.bl false))) .nil) .nil) (.cons (.ife (.cmp .eq (.idx (.var 0) (.cst (.int (0)))) (.cst (.str (Str.ofString "fast")))) (.cons (.ret (.and (.cmp .is (.var 1) (.cst .non)) (.and (.call 21 [] [] (.cons (.idx (.var 0) (.cst (.int (2)))) .nil)) (.and (.cmp .ge (.call 17 [] [] (.cons (.idx (.var 0) (.cst (.int (2)))) .nil)) (.cst (.int (0)))) (.call 119 [] [] (.cons (.var 2) (.cons (.idx (.var 0) (.cst (.int (2)))) .nil))))))) .nil) .nil) (.cons (.ife (.cmp .eq (.idx (.var 0) (.cst (.int (0)))) (.cst (.str (Str.ofString "all")))) (.cons (.ife (.or (.not (.isi .tup (.var 1))) (.or (.cmp .ne (.len (.var 1)) (.len (.prp (Str.ofString "edges") (.var 2)))) (.not (.call 118 [] [] (.cons (.var 2) .nil))))) (.cons (.ret (.cst (.bl false))) .nil) .nil) (.cons (.ret (.blt .all (.cons (.lc [3, 4] (.tp (.cons (.nm 3) (.cons (.nm 4) .nil))) (.zip (.var 1) (.prp (Str.ofString "edges") (.var 2))) (.cst (.bl true)) (.call 123 [] [] (.cons (.var 3) (.cons (.call 115 [] [] (.cons (.var 2) (.cons (.var 4) .nil))) .nil)))) .nil))) .nil)) .nil) (.cons (.ife (.call 126 [] [] (.cons (.var 2) (.cons (.var 1) .nil))) (.cons (.ret (.not (.call 62 [] [] (.cons (.call 111 [] [] (.cons (.var 2) (.cons (.var 1) .nil))) .nil)))) .nil) .nil) (.cons (.ife (.or (.not (.isi .tup (.var 1))) (.or (.cmp .ne (.len (.var 1)) (.cst (.int (2)))) (.not (.call 110 [] [] (.cons (.var 2) (.cons (.idx (.var 1) (.cst (.int (0)))) .nil)))))) (.cons (.ret (.cst (.bl false))) .nil) .nil) (.cons (.ret (.call 127 [] [] (.cons (.var 2) (.cons (.idx (.var 1) (.cst (.int (0)))) (.cons (.idx (.var 1) (.cst (.int (1)))) .nil))))) .nil)))))))⟩
def f_accepts : Fd := ⟨2, 2, (.cons (.ife (.or (.not (.isi .tup (.var 0))) (.or (.cmp .eq (.len (.var 0)) (.cst (.int (0)))) (.not (.isi .str (.idx (.var 0) (.cst (.int (0)))))))) (.cons (.ret (.cst (.bl false))) .nil) .nil) (.cons (.ife (.cmp .ne (.sme .get (.cst (.dic [(.inr (Str.ofString "calm"), (.int (2))), (.inr (Str.ofString "restless"), (.int (2))), (.inr (Str.ofString "all within"), (.int (2))), (.inr (Str.ofString "not within"), (.int (2))), (.inr (Str.ofString "all"), (.int (2))), (.inr (Str.ofString "not all"), (.int (2))), (.inr (Str.ofString "fast"), (.int (3)))])) (.cons (.idx (.var 0) (.cst (.int (0)))) (.cons (.cst (.int (0))) .nil))) (.len (.var 0))) (.cons (.ret (.cst (.bl false))) .nil) .nil) (.cons (.ife (.cmp .inn (.idx (.var 0) (.cst (.int (0)))) (.tup (.cons (.cst (.str (Str.ofString "calm"))) (.cons (.cst (.str (Str.ofString "restless"))) .nil)))) (.cons (.ret (.call 124 [] [] (.cons (.var 0) (.cons (.var 1) .nil)))) .nil) .nil) (.cons (.ret (.ife (.cmp .inn (.idx (.var 0) (.cst (.int (0)))) (.tup (.cons (.cst (.str (Str.ofString "all within"))) (.cons (.cst (.str (Str.ofString "not within"))) .nil)))) (.call 125 [] [] (.cons (.var 0) (.cons (.var 1) .nil))) (.call 128 [] [] (.cons (.var 0) (.cons (.var 1) .nil))))) .nil))))⟩
def f_paper_of_line : Fd := ⟨1, 5, (.cons (.expr (.call 48 [] [] (.cons (.var 0) .nil))) (.cons (.asg (.nm 1) (.call 61 [] [] (.cons (.prp (Str.ofString "numbers") (.var 0)) .nil))) (.cons (.asg (.nm 2) (.lc [3, 4] (.tp (.cons (.nm 3) (.cons (.nm 4) .nil))) (.enum (.var 1)) (.cmp .le (.call 17 [] [] (.cons (.var 4) .nil)) (.cst (.int (0)))) (.var 3))) (.cons (.ret (.ife (.var 2) (.tup (.cons (.tup (.cons (.cst (.str (Str.ofString "restless"))) (.cons (.prp (Str.ofString "text") (.var 0)) .nil))) (.cons (.idx (.var 2) (.cst (.int (0)))) .nil))) (.tup (.cons (.tup (.cons (.cst (.str (Str.ofString "calm"))) (.cons (.prp (Str.ofString "text") (.var 0)) .nil))) (.cons (.blt .tuple (.cons (.var 1) .nil)) .nil))))) .nil))))⟩
def f_paper_of_spans : Fd := ⟨1, 2, (.cons (.expr (.call 80 [] [] (.cons (.var 0) .nil))) (.cons (.forr (.nm 1) (.seq (.prp (Str.ofString "rows") (.var 0))) (.cons (.ife (.not (.call 62 [] [] (.cons (.prp (Str.ofString "numbers") (.var 1)) .nil))) (.cons (.ret (.tup (.cons (.tup (.cons (.cst (.str (Str.ofString "not within"))) (.cons (.prp (Str.ofString "text") (.var 0)) .nil))) (.cons (.prp (Str.ofString "text") (.var 1)) .nil)))) .nil) .nil) .nil)) (.cons (.ret (.tup (.cons (.tup (.cons (.cst (.str (Str.ofString "all within"))) (.cons (.prp (Str.ofString "text") (.var 0)) .nil))) (.cons (.blt .tuple (.cons (.lc [1] (.nm 1) (.seq (.call 63 [] [] (.cons (.prp (Str.ofString "stretches") (.var 0)) .nil))) (.cst (.bl true)) (.blt .tuple (.cons (.call 61 [] [] (.cons (.var 1) .nil)) .nil))) .nil)) .nil)))) .nil)))⟩
def f_paper_of_machine : Fd := ⟨1, 3, (.cons (.expr (.call 109 [] [] (.cons (.var 0) .nil))) (.cons (.ife (.call 118 [] [] (.cons (.var 0) .nil)) (.cons (.ret (.tup (.cons (.tup (.cons (.cst (.str (Str.ofString "all"))) (.cons (.prp (Str.ofString "text") (.var 0)) .nil))) (.cons (.blt .tuple (.cons (.lc [1] (.nm 1) (.seq (.prp (Str.ofString "edges") (.var 0))) (.cst (.bl true)) (.blt .tuple (.cons (.call 115 [] [] (.cons (.var 0) (.cons (.var 1) .nil))) .nil))) .nil)) .nil)))) .nil) .nil) (.cons (.asg (.nm 2) (.call 120 [] [] (.cons (.var 0) .nil))) (.cons (.ife (.cmp .isn (.var 2) (.cst .non)) (.cons (.ret (.tup (.cons (.tup (.cons (.cst (.str (Str.ofString "not all"))) (.cons (.prp (Str.ofString "text") (.var 0)) .nil))) (.cons (.var 2) .nil)))) .nil) .nil) (.cons (.asg (.nm 1) (.call 121 [] [] (.cons (.var 0) .nil))) (.cons (.ret (.tup (.cons (.tup (.cons (.cst (.str (Str.ofString "not all"))) (.cons (.prp (Str.ofString "text") (.var 0)) .nil))) (.cons (.tup (.cons (.var 1) (.cons (.call 117 [] [] (.cons (.var 0) (.cons (.var 1) .nil))) .nil))) .nil)))) .nil))))))⟩
def f_paper_of_speed : Fd := ⟨2, 2, (.cons (.expr (.call 109 [] [] (.cons (.var 0) .nil))) (.cons (.expr (.call 122 [] [] (.cons (.var 1) .nil))) (.cons (.ret (.ife (.call 119 [] [] (.cons (.var 0) (.cons (.var 1) .nil))) (.tup (.cons (.tup (.cons (.cst (.str (Str.ofString "fast"))) (.cons (.prp (Str.ofString "text") (.var 0)) (.cons (.var 1) .nil)))) (.cons (.cst .non) .nil))) (.cst .non))) .nil)))⟩
def f__law_spring : Fd := ⟨2, 5, (.cons (.asg (.nm 2) (.bin .add (.cst (.int (60013))) (.bin .mul (.cst (.int (7411))) (.var 1)))) (.cons (.forr (.nm 3) (.seq (.slc (.var 0) (.cst .non) (.cst (.int (4))))) (.cons (.asg (.nm 2) (.bin .mod (.blt .int (.cons (.bin .add (.bin .add (.bin .mul (.var 2) (.cst (.int (35393)))) (.var 3)) (.cst (.int (607)))) .nil)) (.cst (.int (2147480057))))) .nil)) (.cons (.asg (.nm 4) (.ife (.cmp .lt (.var 1) (.len (.var 0))) (.idx (.var 0) (.var 1)) (.cst (.int (0))))) (.cons (.ret (.lst (.cons (.bin .mod (.blt .int (.cons (.bin .add (.bin .mul (.var 2) (.cst (.int (83)))) (.var 4)) .nil)) (.cst (.int (2147480057)))) (.cons (.ife (.cmp .ge (.blt .abs (.cons (.var 4) .nil)) (.bin .pow (.cst (.int (10))) (.cst (.int (18))))) (.blt .abs (.cons (.var 4) .nil)) (.cst (.int (0)))) .nil)))) .nil))))⟩
def f__law_draw : Fd := ⟨2, 4, (.cons (.ife (.cmp .gt (.idx (.var 0) (.cst (.int (1)))) (.cst (.int (0)))) (.cons (.asg (.tp (.cons (.sub 0 (.cst (.int (1)))) (.cons (.nm 2) .nil))) (.blt .divmod (.cons (.idx (.var 0) (.cst (.int (1)))) (.cons (.var 1) .nil)))) (.cons (.ret (.var 2)) .nil)) .nil) (.cons (.asg (.nm 3) (.bin .mod (.blt .int (.cons (.bin .add (.bin .mul (.idx (.var 0) (.cst (.int (0)))) (.cst (.int (40151)))) (.cst (.int (9103)))) .nil)) (.cst (.int (2147480057))))) (.cons (.asg (.sub 0 (.cst (.int (0)))) (.var 3)) (.cons (.ret (.bin .mod (.blt .int (.cons (.bin .fdiv (.var 3) (.cst (.int (512)))) .nil)) (.var 1))) .nil))))⟩
def f__law_given : Fd := ⟨1, 6, (.cons (.asg (.nm 1) (.cmeth 14 (Str.ofString "read") (.cons (.cst (.str (Str.ofString "base 1 3 3 1\npart 0 1 0 0 from -1 to 1/2"))) .nil))) (.cons (.asg (.nm 2) (.cmeth 14 (Str.ofString "read") (.cons (.cst (.str (Str.ofString "base 1 1 1\npart 0 1 0 from -2 to 2"))) .nil))) (.cons (.asg (.nm 3) (.cmeth 13 (Str.ofString "read") (.cons (.cst (.str (Str.ofString "from 1 to 2\nfrom 3 to 4\nfrom 2 to 3\nfrom 1 to 1"))) .nil))) (.cons (.asg (.nm 4) (.cmeth 13 (Str.ofString "read") (.cons (.cst (.str (Str.ofString "from 1 to 9\nfrom 3 to 4\nfrom 2 to 3\nfrom 1 to 1"))) .nil))) (.cons (.asg (.nm 5) (.lst (.cons (.call 130 [] [] (.cons (.cmeth 12 (Str.ofString "read") (.cons (.cst (.str (Str.ofString "2 3 1"))) .nil)) .nil)) (.cons (.call 130 [] [] (.cons (.cmeth 12 (Str.ofString "read") (.cons (.cst (.str (Str.ofString "1 0 1"))) .nil)) .nil)) (.cons (.call 131 [] [] (.cons (.var 3) .nil)) .nil))))) (.cons (.asg (.nm 5) (.bin .add (.var 5) (.lst (.cons (.call 131 [] [] (.cons (.var 4) .nil)) (.cons (.call 132 [] [] (.cons (.var 1) .nil)) (.cons (.call 132 [] [] (.cons (.var 2) .nil)) .nil)))))) (.cons (.ret (.bin .add (.var 5) (.lst (.cons (.call 133 [] [] (.cons (.var 1) (.cons (.tup (.cons (.cst (.int (1))) (.cons (.cst (.int (4))) .nil))) .nil))) .nil)))) .nil)))))))⟩
def f__law_bad_part : Fd := ⟨2, 3, (.cons (.asg (.nm 2) (.call 135 [true, false] [] (.cons (.var 0) (.cons (.cst (.int (8))) .nil)))) (.cons (.ife (.isi .str (.var 1)) (.cons (.ret (.idx (.lst (.cons (.bin .add (.var 1) (.cst (.str (Str.ofString "\n")))) (.cons (.bin .add (.var 1) (.cst (.str (Str.ofString " q")))) (.cons (.bin .add (.var 1) (.cst (.str (Str.ofString " ")))) (.cons (.bin .add (.cst (.str (Str.ofString " "))) (.var 1)) (.cons (.cst .non) (.cons (.cst (.int (7))) (.cons (.lst (.cons (.var 1) .nil)) (.cons (.bin .add (.var 1) (.cst (.str (Str.ofString "/0")))) .nil))))))))) (.var 2))) .nil) .nil) (.cons (.ret (.idx (.lst (.cons (.blt .list (.cons (.var 1) .nil)) (.cons (.cst .non) (.cons (.cst (.str (Str.ofString "1/4"))) (.cons (.bin .add (.var 1) (.tup (.cons (.cst (.int (1))) .nil))) (.cons (.tup (.cons (.var 1) .nil)) (.cons .dnew (.cons (.tup (.cons (.cst (.int (2))) (.cons (.cst (.int (8))) .nil))) (.cons (.tup (.cons (.neg (.cst (.int (1)))) (.cons (.cst (.int (4))) .nil))) .nil))))))))) (.var 2))) .nil)))⟩
def f__law_no_claim : Fd := ⟨2, 4, (.cons (.par (.cons (.nm 2) (.cons (.nm 3) .nil)) (.cons (.call 135 [true, false] [] (.cons (.var 0) (.cons (.cst (.int (8))) .nil))) (.cons (.call 135 [true, false] [] (.cons (.var 0) (.cons (.len (.var 1)) .nil))) .nil))) (.cons (.ife (.cmp .eq (.var 2) (.cst (.int (0)))) (.cons (.ret (.bin .add (.slc (.var 1) (.cst .non) (.var 3)) (.slc (.var 1) (.bin .add (.var 3) (.cst (.int (1)))) (.cst .non)))) .nil) .nil) (.cons (.ife (.cmp .eq (.var 2) (.cst (.int (1)))) (.cons (.ret (.bin .add (.bin .add (.slc (.var 1) (.cst .non) (.bin .add (.var 3) (.cst (.int (1))))) (.tup (.cons (.cst (.int (5))) .nil))) (.slc (.var 1) (.bin .add (.var 3) (.cst (.int (1)))) (.cst .non)))) .nil) .nil) (.cons (.ife (.cmp .eq (.var 2) (.cst (.int (2)))) (.cons (.ret (.idx (.lst (.cons (.blt .list (.cons (.var 1) .nil)) (.cons (.cst .non) (.cons (.tup .nil) (.cons (.idx (.var 1) (.cst (.int (0)))) (.cons .dnew (.cons (.tup (.cons (.var 1) .nil)) (.cons (.cst (.int (7))) (.cons (.cst (.str (Str.ofString "all"))) .nil))))))))) (.call 135 [true, false] [] (.cons (.var 0) (.cons (.cst (.int (8))) .nil))))) .nil) .nil) (.cons (.ret (.bin .add (.bin .add (.slc (.var 1) (.cst .non) (.var 3)) (.tup (.cons (.call 137 [true, false] [] (.cons (.var 0) (.cons (.idx (.var 1) (.var 3)) .nil))) .nil))) (.slc (.var 1) (.bin .add (.var 3) (.cst (.int (1)))) (.cst .non)))) .nil)))))⟩
def f__law_right : Fd := ⟨1, 7, (.cons (.forr (.tp (.cons (.nm 1) (.cons (.nm 2) .nil))) (.seq (.call 136 [true] [] (.cons (.var 0) .nil))) (.cons (.ife (.cmp .ne (.lst (.cons (.cmp .is (.call 129 [] [] (.cons (.var 1) (.cons (.var 2) .nil))) (.cst (.bl true))) (.cons (.cmp .is (.call 129 [] [1, 0] (.cons (.var 2) (.cons (.var 1) .nil))) (.cst (.bl true))) .nil))) (.lst (.cons (.cst (.bl true)) (.cons (.cst (.bl true)) .nil)))) (.cons (.ret (.cst (.bl false))) .nil) .nil) (.cons (.forr (.nm 3) (.range1 (.cst (.int (10)))) (.cons (.asg (.nm 4) (.call 138 [true, false] [] (.cons (.var 0) (.cons (.var 1) .nil)))) (.cons (.asg (.nm 5) (.ife (.cmp .lt (.var 3) (.cst (.int (5)))) (.call 129 [] [] (.cons (.var 4) (.cons (.var 2) .nil))) (.call 129 [] [1, 0] (.cons (.var 2) (.cons (.var 4) .nil))))) (.cons (.ife (.cmp .isn (.var 5) (.cst (.bl false))) (.cons (.ret (.cst (.bl false))) .nil) .nil) .nil)))) (.cons (.asg (.nm 6) (.lst (.cons (.cst (.bl true)) (.cons (.cst (.int (77))) (.cons (.cst (.str (Str.ofString "Q"))) (.cons (.lst .nil) (.cons .dnew (.cons (.lst (.cons (.var 2) .nil)) (.cons (.tup (.cons (.var 2) .nil)) (.cons (.var 1) (.cons (.tup (.cons (.var 2) (.cons (.var 2) (.cons (.var 2) .nil)))) (.cons (.cst (.str (Str.ofString "calm"))) (.cons (.neg (.cst (.int (1)))) (.cons (.tup (.cons (.cst (.int (1))) (.cons (.cst (.int (7))) .nil))) .nil)))))))))))))) (.cons (.app 6 (.tup (.cons (.cst .non) .nil))) (.cons (.ife (.cmp .isn (.call 129 [] [] (.cons (.var 1) (.cons (.idx (.var 6) (.call 135 [true, false] [] (.cons (.var 0) (.cons (.cst (.int (13))) .nil)))) .nil))) (.cst (.bl false))) (.cons (.ret (.cst (.bl false))) .nil) .nil) .nil)))))) (.cons (.ret (.cst (.bl true))) .nil))⟩
def f_law : Fd := ⟨1, 2, (.cons (.ret (.blt .all (.cons (.lc [1] (.nm 1) (.range1 (.cst (.int (3)))) (.cst (.bl true)) (.call 139 [true] [] (.cons (.call 134 [] [] (.cons (.var 0) (.cons (.var 1) .nil))) .nil))) .nil))) .nil)⟩
abbrev prog : Program := PySem.Challenge.rw_fourcorners_k77_values_that_are_no_claim.prog
def top (i : Nat) : Stmt := prog.main.body.getD i (.Pass ⟨0, 0, 0, 0⟩)
def mem (s : Stmt) (j : Nat) : Stmt := match s with
  | .ClassDef _ _ _ b _ _ _ _ _ _ _ => b.getD j (.Pass ⟨0, 0, 0, 0⟩)
  | _ => .Pass ⟨0, 0, 0, 0⟩
def n_11 : List Str := ["one", "other"]
theorem b_11 : BindP "divisor" "divisor" (top 18) (n_11.take 2) [] := fun kV doc pm an cdv ct us hl => match us, hl with | [_, _], _ => rfl
def i_11 : FnI := ⟨11, f_divisor, 244, "divisor", "divisor", (top 18), n_11, [], b_11⟩
def n_12 : List Str := ["top", "bottom", "common"]
theorem b_12 : BindP "lowest" "lowest" (top 19) (n_12.take 2) [] := fun kV doc pm an cdv ct us hl => match us, hl with | [_, _], _ => rfl
def i_12 : FnI := ⟨12, f_lowest, 251, "lowest", "lowest", (top 19), n_12, [], b_12⟩
def n_13 : List Str := ["one", "other"]
theorem b_13 : BindP "added" "added" (top 20) (n_13.take 2) [] := fun kV doc pm an cdv ct us hl => match us, hl with | [_, _], _ => rfl
def i_13 : FnI := ⟨13, f_added, 258, "added", "added", (top 20), n_13, [], b_13⟩
def n_14 : List Str := ["one", "other"]
theorem b_14 : BindP "taken" "taken" (top 21) (n_14.take 2) [] := fun kV doc pm an cdv ct us hl => match us, hl with | [_, _], _ => rfl
def i_14 : FnI := ⟨14, f_taken, 265, "taken", "taken", (top 21), n_14, [], b_14⟩
def n_15 : List Str := ["one", "other"]
theorem b_15 : BindP "multiplied" "multiplied" (top 22) (n_15.take 2) [] := fun kV doc pm an cdv ct us hl => match us, hl with | [_, _], _ => rfl
def i_15 : FnI := ⟨15, f_multiplied, 272, "multiplied", "multiplied", (top 22), n_15, [], b_15⟩
def n_16 : List Str := ["one", "other"]
theorem b_16 : BindP "divided" "divided" (top 23) (n_16.take 2) [] := fun kV doc pm an cdv ct us hl => match us, hl with | [_, _], _ => rfl
def i_16 : FnI := ⟨16, f_divided, 279, "divided", "divided", (top 23), n_16, [], b_16⟩
def n_17 : List Str := ["one"]
theorem b_17 : BindP "sign" "sign" (top 24) (n_17.take 1) [] := fun kV doc pm an cdv ct us hl => match us, hl with | [_], _ => rfl
def i_17 : FnI := ⟨17, f_sign, 286, "sign", "sign", (top 24), n_17, [], b_17⟩
def n_18 : List Str := ["one", "other"]
theorem b_18 : BindP "is_less" "is_less" (top 25) (n_18.take 2) [] := fun kV doc pm an cdv ct us hl => match us, hl with | [_, _], _ => rfl
def i_18 : FnI := ⟨18, f_is_less, 293, "is_less", "is_less", (top 25), n_18, [], b_18⟩
def n_19 : List Str := ["value"]
theorem b_19 : BindP "is_integer" "is_integer" (top 28) (n_19.take 1) [] := fun kV doc pm an cdv ct us hl => match us, hl with | [_], _ => rfl
def i_19 : FnI := ⟨19, f_is_integer, 300, "is_integer", "is_integer", (top 28), n_19, [], b_19⟩
def n_20 : List Str := ["value", "least", "most"]
theorem b_20 : BindP "is_between" "is_between" (top 29) (n_20.take 3) [] := fun kV doc pm an cdv ct us hl => match us, hl with | [_, _, _], _ => rfl
def i_20 : FnI := ⟨20, f_is_between, 307, "is_between", "is_between", (top 29), n_20, [], b_20⟩
def n_21 : List Str := ["value"]
theorem b_21 : BindP "is_fraction" "is_fraction" (top 30) (n_21.take 1) [] := fun kV doc pm an cdv ct us hl => match us, hl with | [_], _ => rfl
def i_21 : FnI := ⟨21, f_is_fraction, 314, "is_fraction", "is_fraction", (top 30), n_21, [], b_21⟩
def n_22 : List Str := ["value"]
theorem b_22 : BindP "is_short" "is_short" (top 31) (n_22.take 1) [] := fun kV doc pm an cdv ct us hl => match us, hl with | [_], _ => rfl
def i_22 : FnI := ⟨22, f_is_short, 321, "is_short", "is_short", (top 31), n_22, [], b_22⟩
def n_23 : List Str := ["value", "is_any", "end"]
theorem b_23 : BindP "is_stretch" "is_stretch" (top 32) (n_23.take 2) [] := fun kV doc pm an cdv ct us hl => match us, hl with | [_, _], _ => rfl
def i_23 : FnI := ⟨23, f_is_stretch, 326, "is_stretch", "is_stretch", (top 32), n_23, [], b_23⟩
def n_24 : List Str := ["word", "digits", "sign"]
theorem b_24 : BindP "numeral" "numeral" (top 33) (n_24.take 1) [] := fun kV doc pm an cdv ct us hl => match us, hl with | [_], _ => rfl
def i_24 : FnI := ⟨24, f_numeral, 331, "numeral", "numeral", (top 33), n_24, [], b_24⟩
def n_25 : List Str := ["word", "top", "stroke", "bottom", "found"]
theorem b_25 : BindP "fraction_in" "fraction_in" (top 34) (n_25.take 1) [] := fun kV doc pm an cdv ct us hl => match us, hl with | [_], _ => rfl
def i_25 : FnI := ⟨25, f_fraction_in, 338, "fraction_in", "fraction_in", (top 34), n_25, [], b_25⟩
def n_26 : List Str := ["fraction"]
theorem b_26 : BindP "fraction_text" "fraction_text" (top 35) (n_26.take 1) [] := fun kV doc pm an cdv ct us hl => match us, hl with | [_], _ => rfl
def i_26 : FnI := ⟨26, f_fraction_text, 345, "fraction_text", "fraction_text", (top 35), n_26, [], b_26⟩
def n_27 : List Str := ["numbers", "number"]
theorem b_27 : BindP "numbers_text" "numbers_text" (top 36) (n_27.take 1) [] := fun kV doc pm an cdv ct us hl => match us, hl with | [_], _ => rfl
def i_27 : FnI := ⟨27, f_numbers_text, 350, "numbers_text", "numbers_text", (top 36), n_27, [], b_27⟩
def n_28 : List Str := ["words", "found", "word"]
theorem b_28 : BindP "numbers_in" "numbers_in" (top 37) (n_28.take 1) [] := fun kV doc pm an cdv ct us hl => match us, hl with | [_], _ => rfl
def i_28 : FnI := ⟨28, f_numbers_in, 355, "numbers_in", "numbers_in", (top 37), n_28, [], b_28⟩
def n_29 : List Str := ["value"]
theorem b_29 : BindP "check_rate" "check_rate" (top 38) (n_29.take 1) [] := fun kV doc pm an cdv ct us hl => match us, hl with | [_], _ => rfl
def i_29 : FnI := ⟨29, f_check_rate, 362, "check_rate", "check_rate", (top 38), n_29, [], b_29⟩
def n_30 : List Str := ["value", "least", "most", "number"]
theorem b_30 : BindP "are_numbers" "are_numbers" (top 39) (n_30.take 3) [] := fun kV doc pm an cdv ct us hl => match us, hl with | [_, _, _], _ => rfl
def i_30 : FnI := ⟨30, f_are_numbers, 367, "are_numbers", "are_numbers", (top 39), n_30, [], b_30⟩
def n_31 : List Str := ["value", "least", "most", "index", "number"]
theorem b_31 : BindP "number_fault" "number_fault" (top 40) (n_31.take 3) [] := fun kV doc pm an cdv ct us hl => match us, hl with | [_, _, _], _ => rfl
def i_31 : FnI := ⟨31, f_number_fault, 374, "number_fault", "number_fault", (top 40), n_31, [], b_31⟩
def n_32 : List Str := ["numbers", "number"]
theorem b_32 : BindP "are_short" "are_short" (top 41) (n_32.take 1) [] := fun kV doc pm an cdv ct us hl => match us, hl with | [_], _ => rfl
def i_32 : FnI := ⟨32, f_are_short, 379, "are_short", "are_short", (top 41), n_32, [], b_32⟩
def n_34 : List Str := ["numbers", "rate", "found", "start", "place"]
theorem b_34 : BindP "slid_numbers" "slid_numbers" (top 47) (n_34.take 2) [] := fun kV doc pm an cdv ct us hl => match us, hl with | [_, _], _ => rfl
def i_34 : FnI := ⟨34, f_slid_numbers, 395, "slid_numbers", "slid_numbers", (top 47), n_34, [], b_34⟩
def n_35 : List Str := ["self", "numbers"]
theorem b_35 : BindP "__init__" "Line.__init__" (mem (top 48) 0) (n_35.take 2) [] := fun kV doc pm an cdv ct us hl => match us, hl with | [_, _], _ => rfl
def i_35 : FnI := ⟨35, m_Line___init__, 409, "__init__", "Line.__init__", (mem (top 48) 0), n_35, [], b_35⟩
def n_36 : List Str := ["cls", "text", "line"]
theorem b_36 : BindP "read" "Line.read" (mem (top 48) 1) (n_36.take 2) [] := fun kV doc pm an cdv ct us hl => match us, hl with | [_, _], _ => rfl
def i_36 : FnI := ⟨36, m_Line_read, 416, "read", "Line.read", (mem (top 48) 1), n_36, [], b_36⟩
def n_37 : List Str := ["self"]
theorem b_37 : BindP "numbers" "Line.numbers" (mem (top 48) 2) (n_37.take 1) [] := fun kV doc pm an cdv ct us hl => match us, hl with | [_], _ => rfl
def i_37 : FnI := ⟨37, m_Line_numbers, 426, "numbers", "Line.numbers", (mem (top 48) 2), n_37, [], b_37⟩
def n_39 : List Str := ["self"]
theorem b_39 : BindP "text" "Line.text" (mem (top 48) 4) (n_39.take 1) [] := fun kV doc pm an cdv ct us hl => match us, hl with | [_], _ => rfl
def i_39 : FnI := ⟨39, m_Line_text, 442, "text", "Line.text", (mem (top 48) 4), n_39, [], b_39⟩
def n_46 : List Str := ["numbers", "line"]
theorem b_46 : BindP "line_with" "line_with" (top 49) (n_46.take 1) [] := fun kV doc pm an cdv ct us hl => match us, hl with | [_], _ => rfl
def i_46 : FnI := ⟨46, f_line_with, 499, "line_with", "line_with", (top 49), n_46, [], b_46⟩
def n_47 : List Str := ["value", "is_any", "numbers"]
theorem b_47 : BindP "line_of" "line_of" (top 50) (n_47.take 2) [] := fun kV doc pm an cdv ct us hl => match us, hl with | [_, _], _ => rfl
def i_47 : FnI := ⟨47, f_line_of, 506, "line_of", "line_of", (top 50), n_47, [], b_47⟩
def n_48 : List Str := ["value"]
theorem b_48 : BindP "check_line" "check_line" (top 51) (n_48.take 1) [] := fun kV doc pm an cdv ct us hl => match us, hl with | [_], _ => rfl
def i_48 : FnI := ⟨48, f_check_line, 513, "check_line", "check_line", (top 51), n_48, [], b_48⟩
def n_49 : List Str := ["numbers", "found"]
theorem b_49 : BindP "trimmed" "trimmed" (top 54) (n_49.take 1) [] := fun kV doc pm an cdv ct us hl => match us, hl with | [_], _ => rfl
def i_49 : FnI := ⟨49, f_trimmed, 521, "trimmed", "trimmed", (top 54), n_49, [], b_49⟩
def n_50 : List Str := ["one", "other", "long", "short", "at", "number"]
theorem b_50 : BindP "poly_sum" "poly_sum" (top 55) (n_50.take 2) [] := fun kV doc pm an cdv ct us hl => match us, hl with | [_, _], _ => rfl
def i_50 : FnI := ⟨50, f_poly_sum, 526, "poly_sum", "poly_sum", (top 55), n_50, [], b_50⟩
def n_51 : List Str := ["one", "other", "found", "at", "number", "place", "factor"]
theorem b_51 : BindP "poly_product" "poly_product" (top 56) (n_51.take 2) [] := fun kV doc pm an cdv ct us hl => match us, hl with | [_, _], _ => rfl
def i_51 : FnI := ⟨51, f_poly_product, 533, "poly_product", "poly_product", (top 56), n_51, [], b_51⟩
def n_52 : List Str := ["one", "number"]
theorem b_52 : BindP "turned" "turned" (top 57) (n_52.take 1) [] := fun kV doc pm an cdv ct us hl => match us, hl with | [_], _ => rfl
def i_52 : FnI := ⟨52, f_turned, 538, "turned", "turned", (top 57), n_52, [], b_52⟩
def n_53 : List Str := ["one", "x", "found", "number"]
theorem b_53 : BindP "poly_value" "poly_value" (top 58) (n_53.take 2) [] := fun kV doc pm an cdv ct us hl => match us, hl with | [_, _], _ => rfl
def i_53 : FnI := ⟨53, f_poly_value, 545, "poly_value", "poly_value", (top 58), n_53, [], b_53⟩
def n_54 : List Str := ["one", "at", "number"]
theorem b_54 : BindP "slope" "slope" (top 59) (n_54.take 1) [] := fun kV doc pm an cdv ct us hl => match us, hl with | [_], _ => rfl
def i_54 : FnI := ⟨54, f_slope, 550, "slope", "slope", (top 59), n_54, [], b_54⟩
def n_55 : List Str := ["one", "other", "found", "factor", "gap", "at", "number"]
theorem b_55 : BindP "remainder" "remainder" (top 60) (n_55.take 2) [] := fun kV doc pm an cdv ct us hl => match us, hl with | [_, _], _ => rfl
def i_55 : FnI := ⟨55, f_remainder, 557, "remainder", "remainder", (top 60), n_55, [], b_55⟩
def n_56 : List Str := ["one", "found"]
theorem b_56 : BindP "chain" "chain" (top 61) (n_56.take 1) [] := fun kV doc pm an cdv ct us hl => match us, hl with | [_], _ => rfl
def i_56 : FnI := ⟨56, f_chain, 564, "chain", "chain", (top 61), n_56, [], b_56⟩
def n_57 : List Str := ["links", "x", "signs", "link", "each", "left", "right"]
theorem b_57 : BindP "changes" "changes" (top 62) (n_57.take 2) [] := fun kV doc pm an cdv ct us hl => match us, hl with | [_, _], _ => rfl
def i_57 : FnI := ⟨57, f_changes, 569, "changes", "changes", (top 62), n_57, [], b_57⟩
def n_58 : List Str := ["one", "low", "high", "links"]
theorem b_58 : BindP "has_root" "has_root" (top 63) (n_58.take 3) [] := fun kV doc pm an cdv ct us hl => match us, hl with | [_, _, _], _ => rfl
def i_58 : FnI := ⟨58, f_has_root, 576, "has_root", "has_root", (top 63), n_58, [], b_58⟩
def n_59 : List Str := ["rows", "found", "place", "number", "rest", "row", "part"]
theorem b_59 : BindP "determinant" "determinant" (top 64) (n_59.take 1) [] := fun kV doc pm an cdv ct us hl => match us, hl with | [_], _ => rfl
def i_59 : FnI := ⟨59, f_determinant, 581, "determinant", "determinant", (top 64), n_59, [], b_59⟩
def n_60 : List Str := ["polys", "degree", "rows", "row", "places", "column", "place"]
theorem b_60 : BindP "table_of" "table_of" (top 67) (n_60.take 1) [] := fun kV doc pm an cdv ct us hl => match us, hl with | [_], _ => rfl
def i_60 : FnI := ⟨60, f_table_of, 587, "table_of", "table_of", (top 67), n_60, [], b_60⟩
def n_61 : List Str := ["numbers", "rows", "number", "found", "size", "told", "row"]
theorem b_61 : BindP "minors_of" "minors_of" (top 68) (n_61.take 1) [] := fun kV doc pm an cdv ct us hl => match us, hl with | [_], _ => rfl
def i_61 : FnI := ⟨61, f_minors_of, 592, "minors_of", "minors_of", (top 68), n_61, [], b_61⟩
def n_62 : List Str := ["numbers", "minor"]
theorem b_62 : BindP "calm_numbers" "calm_numbers" (top 69) (n_62.take 1) [] := fun kV doc pm an cdv ct us hl => match us, hl with | [_], _ => rfl
def i_62 : FnI := ⟨62, f_calm_numbers, 597, "calm_numbers", "calm_numbers", (top 69), n_62, [], b_62⟩
def n_63 : List Str := ["stretches", "place", "stretch", "ends"]
theorem b_63 : BindP "row_numbers" "row_numbers" (top 72) (n_63.take 1) [] := fun kV doc pm an cdv ct us hl => match us, hl with | [_], _ => rfl
def i_63 : FnI := ⟨63, f_row_numbers, 607, "row_numbers", "row_numbers", (top 72), n_63, [], b_63⟩
def n_64 : List Str := ["value", "index", "stretch"]
theorem b_64 : BindP "check_stretches" "check_stretches" (top 73) (n_64.take 1) [] := fun kV doc pm an cdv ct us hl => match us, hl with | [_], _ => rfl
def i_64 : FnI := ⟨64, f_check_stretches, 614, "check_stretches", "check_stretches", (top 73), n_64, [], b_64⟩
def n_65 : List Str := ["self", "stretches"]
theorem b_65 : BindP "__init__" "Spans.__init__" (mem (top 74) 0) (n_65.take 2) [] := fun kV doc pm an cdv ct us hl => match us, hl with | [_, _], _ => rfl
def i_65 : FnI := ⟨65, m_Spans___init__, 628, "__init__", "Spans.__init__", (mem (top 74) 0), n_65, [], b_65⟩
def n_66 : List Str := ["cls", "text", "spans"]
theorem b_66 : BindP "read" "Spans.read" (mem (top 74) 1) (n_66.take 2) [] := fun kV doc pm an cdv ct us hl => match us, hl with | [_, _], _ => rfl
def i_66 : FnI := ⟨66, m_Spans_read, 635, "read", "Spans.read", (mem (top 74) 1), n_66, [], b_66⟩
def n_67 : List Str := ["self"]
theorem b_67 : BindP "stretches" "Spans.stretches" (mem (top 74) 2) (n_67.take 1) [] := fun kV doc pm an cdv ct us hl => match us, hl with | [_], _ => rfl
def i_67 : FnI := ⟨67, m_Spans_stretches, 645, "stretches", "Spans.stretches", (mem (top 74) 2), n_67, [], b_67⟩
def n_69 : List Str := ["self", "low", "high"]
theorem b_69 : BindP "text" "Spans.text" (mem (top 74) 4) (n_69.take 1) [] := fun kV doc pm an cdv ct us hl => match us, hl with | [_], _ => rfl
def i_69 : FnI := ⟨69, m_Spans_text, 659, "text", "Spans.text", (mem (top 74) 4), n_69, [], b_69⟩
def n_70 : List Str := ["self", "numbers"]
theorem b_70 : BindP "rows" "Spans.rows" (mem (top 74) 5) (n_70.take 1) [] := fun kV doc pm an cdv ct us hl => match us, hl with | [_], _ => rfl
def i_70 : FnI := ⟨70, m_Spans_rows, 665, "rows", "Spans.rows", (mem (top 74) 5), n_70, [], b_70⟩
def n_76 : List Str := ["stretches", "low", "high"]
theorem b_76 : BindP "pairs_of" "pairs_of" (top 75) (n_76.take 1) [] := fun kV doc pm an cdv ct us hl => match us, hl with | [_], _ => rfl
def i_76 : FnI := ⟨76, f_pairs_of, 713, "pairs_of", "pairs_of", (top 75), n_76, [], b_76⟩
def n_77 : List Str := ["row", "words", "found"]
theorem b_77 : BindP "stretch_in" "stretch_in" (top 76) (n_77.take 1) [] := fun kV doc pm an cdv ct us hl => match us, hl with | [_], _ => rfl
def i_77 : FnI := ⟨77, f_stretch_in, 720, "stretch_in", "stretch_in", (top 76), n_77, [], b_77⟩
def n_78 : List Str := ["stretches", "spans"]
theorem b_78 : BindP "spans_with" "spans_with" (top 77) (n_78.take 1) [] := fun kV doc pm an cdv ct us hl => match us, hl with | [_], _ => rfl
def i_78 : FnI := ⟨78, f_spans_with, 727, "spans_with", "spans_with", (top 77), n_78, [], b_78⟩
def n_79 : List Str := ["value", "is_any", "stretches", "row", "stretch"]
theorem b_79 : BindP "spans_of" "spans_of" (top 78) (n_79.take 2) [] := fun kV doc pm an cdv ct us hl => match us, hl with | [_, _], _ => rfl
def i_79 : FnI := ⟨79, f_spans_of, 732, "spans_of", "spans_of", (top 78), n_79, [], b_79⟩
def n_80 : List Str := ["value"]
theorem b_80 : BindP "check_spans" "check_spans" (top 79) (n_80.take 1) [] := fun kV doc pm an cdv ct us hl => match us, hl with | [_], _ => rfl
def i_80 : FnI := ⟨80, f_check_spans, 739, "check_spans", "check_spans", (top 79), n_80, [], b_80⟩
def n_81 : List Str := ["numbers", "part", "amount", "number", "more"]
theorem b_81 : BindP "put_to" "put_to" (top 82) (n_81.take 3) [] := fun kV doc pm an cdv ct us hl => match us, hl with | [_, _, _], _ => rfl
def i_81 : FnI := ⟨81, f_put_to, 744, "put_to", "put_to", (top 82), n_81, [], b_81⟩
def n_82 : List Str := ["base", "parts", "amounts", "found", "part", "amount"]
theorem b_82 : BindP "with_parts" "with_parts" (top 83) (n_82.take 3) [] := fun kV doc pm an cdv ct us hl => match us, hl with | [_, _, _], _ => rfl
def i_82 : FnI := ⟨82, f_with_parts, 751, "with_parts", "with_parts", (top 83), n_82, [], b_82⟩
def n_83 : List Str := ["box", "found", "stretch", "amounts", "end"]
theorem b_83 : BindP "corners_in" "corners_in" (top 84) (n_83.take 1) [] := fun kV doc pm an cdv ct us hl => match us, hl with | [_], _ => rfl
def i_83 : FnI := ⟨83, f_corners_in, 756, "corners_in", "corners_in", (top 84), n_83, [], b_83⟩
def n_84 : List Str := ["base", "parts", "box", "amounts"]
theorem b_84 : BindP "is_high" "is_high" (top 85) (n_84.take 3) [] := fun kV doc pm an cdv ct us hl => match us, hl with | [_, _, _], _ => rfl
def i_84 : FnI := ⟨84, f_is_high, 761, "is_high", "is_high", (top 85), n_84, [], b_84⟩
def n_85 : List Str := ["value", "many", "index", "part"]
theorem b_85 : BindP "check_parts" "check_parts" (top 86) (n_85.take 2) [] := fun kV doc pm an cdv ct us hl => match us, hl with | [_, _], _ => rfl
def i_85 : FnI := ⟨85, f_check_parts, 768, "check_parts", "check_parts", (top 86), n_85, [], b_85⟩
def n_86 : List Str := ["value", "many", "index", "stretch"]
theorem b_86 : BindP "check_box" "check_box" (top 87) (n_86.take 2) [] := fun kV doc pm an cdv ct us hl => match us, hl with | [_, _], _ => rfl
def i_86 : FnI := ⟨86, f_check_box, 775, "check_box", "check_box", (top 87), n_86, [], b_86⟩
def n_87 : List Str := ["many", "found", "place", "ends", "end"]
theorem b_87 : BindP "all_ends" "all_ends" (top 88) (n_87.take 1) [] := fun kV doc pm an cdv ct us hl => match us, hl with | [_], _ => rfl
def i_87 : FnI := ⟨87, f_all_ends, 780, "all_ends", "all_ends", (top 88), n_87, [], b_87⟩
def n_88 : List Str := ["self", "base", "parts", "box"]
theorem b_88 : BindP "__init__" "Machine.__init__" (mem (top 89) 0) (n_88.take 4) [.adr fun _ => 788, .adr fun _ => 789] := fun T kV doc pm an cdv ct us its hl hl2 => match us, its, hl, hl2 with | [_, _, _, _], [_, _], _, _ => ⟨_, rfl, rfl⟩
def i_88 : FnI := ⟨88, m_Machine___init__, 797, "__init__", "Machine.__init__", (mem (top 89) 0), n_88, [.adr fun _ => 788, .adr fun _ => 789], b_88⟩
def n_89 : List Str := ["self", "base", "parts", "box"]
theorem b_89 : BindP "take" "Machine.take" (mem (top 89) 1) (n_89.take 4) [] := fun kV doc pm an cdv ct us hl => match us, hl with | [_, _, _, _], _ => rfl
def i_89 : FnI := ⟨89, m_Machine_take, 804, "take", "Machine.take", (mem (top 89) 1), n_89, [], b_89⟩
def n_90 : List Str := ["cls", "text", "machine"]
theorem b_90 : BindP "read" "Machine.read" (mem (top 89) 2) (n_90.take 2) [] := fun kV doc pm an cdv ct us hl => match us, hl with | [_, _], _ => rfl
def i_90 : FnI := ⟨90, m_Machine_read, 811, "read", "Machine.read", (mem (top 89) 2), n_90, [], b_90⟩
def n_91 : List Str := ["self"]
theorem b_91 : BindP "base" "Machine.base" (mem (top 89) 3) (n_91.take 1) [] := fun kV doc pm an cdv ct us hl => match us, hl with | [_], _ => rfl
def i_91 : FnI := ⟨91, m_Machine_base, 821, "base", "Machine.base", (mem (top 89) 3), n_91, [], b_91⟩
def n_92 : List Str := ["self"]
theorem b_92 : BindP "parts" "Machine.parts" (mem (top 89) 4) (n_92.take 1) [] := fun kV doc pm an cdv ct us hl => match us, hl with | [_], _ => rfl
def i_92 : FnI := ⟨92, m_Machine_parts, 829, "parts", "Machine.parts", (mem (top 89) 4), n_92, [], b_92⟩
def n_93 : List Str := ["self"]
theorem b_93 : BindP "box" "Machine.box" (mem (top 89) 5) (n_93.take 1) [] := fun kV doc pm an cdv ct us hl => match us, hl with | [_], _ => rfl
def i_93 : FnI := ⟨93, m_Machine_box, 837, "box", "Machine.box", (mem (top 89) 5), n_93, [], b_93⟩
def n_95 : List Str := ["self", "rows", "part", "low", "high"]
theorem b_95 : BindP "text" "Machine.text" (mem (top 89) 7) (n_95.take 1) [] := fun kV doc pm an cdv ct us hl => match us, hl with | [_], _ => rfl
def i_95 : FnI := ⟨95, m_Machine_text, 853, "text", "Machine.text", (mem (top 89) 7), n_95, [], b_95⟩
def n_96 : List Str := ["self", "many", "index", "ends"]
theorem b_96 : BindP "edges" "Machine.edges" (mem (top 89) 8) (n_96.take 1) [] := fun kV doc pm an cdv ct us hl => match us, hl with | [_], _ => rfl
def i_96 : FnI := ⟨96, m_Machine_edges, 859, "edges", "Machine.edges", (mem (top 89) 8), n_96, [], b_96⟩
def n_106 : List Str := ["base", "parts", "box", "machine"]
theorem b_106 : BindP "machine_with" "machine_with" (top 90) (n_106.take 3) [] := fun kV doc pm an cdv ct us hl => match us, hl with | [_, _, _], _ => rfl
def i_106 : FnI := ⟨106, f_machine_with, 937, "machine_with", "machine_with", (top 90), n_106, [], b_106⟩
def n_107 : List Str := ["row", "words", "found"]
theorem b_107 : BindP "part_in" "part_in" (top 91) (n_107.take 1) [] := fun kV doc pm an cdv ct us hl => match us, hl with | [_], _ => rfl
def i_107 : FnI := ⟨107, f_part_in, 944, "part_in", "part_in", (top 91), n_107, [], b_107⟩
def n_108 : List Str := ["value", "is_any", "rows", "words", "found", "row", "base", "parts", "box", "pair", "part", "numbers"]
theorem b_108 : BindP "machine_of" "machine_of" (top 92) (n_108.take 2) [] := fun kV doc pm an cdv ct us hl => match us, hl with | [_, _], _ => rfl
def i_108 : FnI := ⟨108, f_machine_of, 949, "machine_of", "machine_of", (top 92), n_108, [], b_108⟩
def n_109 : List Str := ["value"]
theorem b_109 : BindP "check_machine" "check_machine" (top 93) (n_109.take 1) [] := fun kV doc pm an cdv ct us hl => match us, hl with | [_], _ => rfl
def i_109 : FnI := ⟨109, f_check_machine, 956, "check_machine", "check_machine", (top 93), n_109, [], b_109⟩
def n_110 : List Str := ["machine", "value", "many", "end"]
theorem b_110 : BindP "is_edge" "is_edge" (top 94) (n_110.take 2) [] := fun kV doc pm an cdv ct us hl => match us, hl with | [_, _], _ => rfl
def i_110 : FnI := ⟨110, f_is_edge, 961, "is_edge", "is_edge", (top 94), n_110, [], b_110⟩
def n_111 : List Str := ["machine", "amounts"]
theorem b_111 : BindP "numbers_at" "numbers_at" (top 95) (n_111.take 2) [] := fun kV doc pm an cdv ct us hl => match us, hl with | [_, _], _ => rfl
def i_111 : FnI := ⟨111, f_numbers_at, 968, "numbers_at", "numbers_at", (top 95), n_111, [], b_111⟩
def n_112 : List Str := ["machine", "edge", "t", "index", "ends", "low", "high", "found", "stretch", "end"]
theorem b_112 : BindP "edge_amounts" "edge_amounts" (top 96) (n_112.take 3) [] := fun kV doc pm an cdv ct us hl => match us, hl with | [_, _, _], _ => rfl
def i_112 : FnI := ⟨112, f_edge_amounts, 973, "edge_amounts", "edge_amounts", (top 96), n_112, [], b_112⟩
def n_113 : List Str := ["machine", "edge", "t"]
theorem b_113 : BindP "edge_numbers" "edge_numbers" (top 97) (n_113.take 3) [] := fun kV doc pm an cdv ct us hl => match us, hl with | [_, _, _], _ => rfl
def i_113 : FnI := ⟨113, f_edge_numbers, 980, "edge_numbers", "edge_numbers", (top 97), n_113, [], b_113⟩
def n_114 : List Str := ["machine"]
theorem b_114 : BindP "corners_of" "corners_of" (top 98) (n_114.take 1) [] := fun kV doc pm an cdv ct us hl => match us, hl with | [_], _ => rfl
def i_114 : FnI := ⟨114, f_corners_of, 987, "corners_of", "corners_of", (top 98), n_114, [], b_114⟩
def n_115 : List Str := ["machine", "edge", "low", "high", "one", "other"]
theorem b_115 : BindP "minor_along" "minor_along" (top 102) (n_115.take 2) [] := fun kV doc pm an cdv ct us hl => match us, hl with | [_, _], _ => rfl
def i_115 : FnI := ⟨115, f_minor_along, 994, "minor_along", "minor_along", (top 102), n_115, [], b_115⟩
def n_116 : List Str := ["machine", "edge"]
theorem b_116 : BindP "edge_is_calm" "edge_is_calm" (top 103) (n_116.take 2) [] := fun kV doc pm an cdv ct us hl => match us, hl with | [_, _], _ => rfl
def i_116 : FnI := ⟨116, f_edge_is_calm, 1001, "edge_is_calm", "edge_is_calm", (top 103), n_116, [], b_116⟩
def n_117 : List Str := ["machine", "edge", "end"]
theorem b_117 : BindP "trouble_of" "trouble_of" (top 104) (n_117.take 2) [] := fun kV doc pm an cdv ct us hl => match us, hl with | [_, _], _ => rfl
def i_117 : FnI := ⟨117, f_trouble_of, 1008, "trouble_of", "trouble_of", (top 104), n_117, [], b_117⟩
def n_118 : List Str := ["machine", "edge"]
theorem b_118 : BindP "calm_machine" "calm_machine" (top 106) (n_118.take 1) [] := fun kV doc pm an cdv ct us hl => match us, hl with | [_], _ => rfl
def i_118 : FnI := ⟨118, f_calm_machine, 1013, "calm_machine", "calm_machine", (top 106), n_118, [], b_118⟩
def n_119 : List Str := ["machine", "rate", "base", "parts", "part"]
theorem b_119 : BindP "fast_machine" "fast_machine" (top 107) (n_119.take 2) [] := fun kV doc pm an cdv ct us hl => match us, hl with | [_, _], _ => rfl
def i_119 : FnI := ⟨119, f_fast_machine, 1018, "fast_machine", "fast_machine", (top 107), n_119, [], b_119⟩
def n_120 : List Str := ["machine", "amounts"]
theorem b_120 : BindP "restless_corner" "restless_corner" (top 108) (n_120.take 1) [] := fun kV doc pm an cdv ct us hl => match us, hl with | [_], _ => rfl
def i_120 : FnI := ⟨120, f_restless_corner, 1025, "restless_corner", "restless_corner", (top 108), n_120, [], b_120⟩
def n_121 : List Str := ["machine", "edge"]
theorem b_121 : BindP "restless_edge" "restless_edge" (top 109) (n_121.take 1) [] := fun kV doc pm an cdv ct us hl => match us, hl with | [_], _ => rfl
def i_121 : FnI := ⟨121, f_restless_edge, 1032, "restless_edge", "restless_edge", (top 109), n_121, [], b_121⟩
def n_122 : List Str := ["rate"]
theorem b_122 : BindP "check_speed" "check_speed" (top 110) (n_122.take 1) [] := fun kV doc pm an cdv ct us hl => match us, hl with | [_], _ => rfl
def i_122 : FnI := ⟨122, f_check_speed, 1039, "check_speed", "check_speed", (top 110), n_122, [], b_122⟩
def n_123 : List Str := ["value", "numbers", "number"]
theorem b_123 : BindP "are_same" "are_same" (top 113) (n_123.take 2) [] := fun kV doc pm an cdv ct us hl => match us, hl with | [_, _], _ => rfl
def i_123 : FnI := ⟨123, f_are_same, 1045, "are_same", "are_same", (top 113), n_123, [], b_123⟩
def n_124 : List Str := ["claim", "paper", "line", "found"]
theorem b_124 : BindP "accepts_line" "accepts_line" (top 114) (n_124.take 2) [] := fun kV doc pm an cdv ct us hl => match us, hl with | [_, _], _ => rfl
def i_124 : FnI := ⟨124, f_accepts_line, 1052, "accepts_line", "accepts_line", (top 114), n_124, [], b_124⟩
def n_125 : List Str := ["claim", "paper", "spans", "rows", "row", "part", "line", "pairs", "within", "number", "low", "high"]
theorem b_125 : BindP "accepts_spans" "accepts_spans" (top 115) (n_125.take 2) [] := fun kV doc pm an cdv ct us hl => match us, hl with | [_, _], _ => rfl
def i_125 : FnI := ⟨125, f_accepts_spans, 1057, "accepts_spans", "accepts_spans", (top 115), n_125, [], b_125⟩
def n_126 : List Str := ["machine", "value", "x", "low", "high"]
theorem b_126 : BindP "are_amounts" "are_amounts" (top 116) (n_126.take 2) [] := fun kV doc pm an cdv ct us hl => match us, hl with | [_, _], _ => rfl
def i_126 : FnI := ⟨126, f_are_amounts, 1062, "are_amounts", "are_amounts", (top 116), n_126, [], b_126⟩
def n_127 : List Str := ["machine", "edge", "value", "t", "low", "high", "calm"]
theorem b_127 : BindP "is_trouble" "is_trouble" (top 117) (n_127.take 3) [] := fun kV doc pm an cdv ct us hl => match us, hl with | [_, _, _], _ => rfl
def i_127 : FnI := ⟨127, f_is_trouble, 1067, "is_trouble", "is_trouble", (top 117), n_127, [], b_127⟩
def n_128 : List Str := ["claim", "paper", "machine", "part", "edge"]
theorem b_128 : BindP "accepts_machine" "accepts_machine" (top 118) (n_128.take 2) [] := fun kV doc pm an cdv ct us hl => match us, hl with | [_, _], _ => rfl
def i_128 : FnI := ⟨128, f_accepts_machine, 1072, "accepts_machine", "accepts_machine", (top 118), n_128, [], b_128⟩
def n_129 : List Str := ["claim", "paper"]
theorem b_129 : BindP "accepts" "accepts" (top 119) (n_129.take 2) [] := fun kV doc pm an cdv ct us hl => match us, hl with | [_, _], _ => rfl
def i_129 : FnI := ⟨129, f_accepts, 1079, "accepts", "accepts", (top 119), n_129, [], b_129⟩
def n_130 : List Str := ["line", "found", "bad", "index", "minor"]
theorem b_130 : BindP "paper_of_line" "paper_of_line" (top 121) (n_130.take 1) [] := fun kV doc pm an cdv ct us hl => match us, hl with | [_], _ => rfl
def i_130 : FnI := ⟨130, f_paper_of_line, 1084, "paper_of_line", "paper_of_line", (top 121), n_130, [], b_130⟩
def n_131 : List Str := ["spans", "row"]
theorem b_131 : BindP "paper_of_spans" "paper_of_spans" (top 122) (n_131.take 1) [] := fun kV doc pm an cdv ct us hl => match us, hl with | [_], _ => rfl
def i_131 : FnI := ⟨131, f_paper_of_spans, 1089, "paper_of_spans", "paper_of_spans", (top 122), n_131, [], b_131⟩
def n_132 : List Str := ["machine", "edge", "amounts"]
theorem b_132 : BindP "paper_of_machine" "paper_of_machine" (top 123) (n_132.take 1) [] := fun kV doc pm an cdv ct us hl => match us, hl with | [_], _ => rfl
def i_132 : FnI := ⟨132, f_paper_of_machine, 1094, "paper_of_machine", "paper_of_machine", (top 123), n_132, [], b_132⟩
def n_133 : List Str := ["machine", "rate"]
theorem b_133 : BindP "paper_of_speed" "paper_of_speed" (top 124) (n_133.take 2) [] := fun kV doc pm an cdv ct us hl => match us, hl with | [_, _], _ => rfl
def i_133 : FnI := ⟨133, f_paper_of_speed, 1101, "paper_of_speed", "paper_of_speed", (top 124), n_133, [], b_133⟩
def n_134 : List Str := ["_law_cells", "_law_turn", "_law_mixed", "_law_cell", "_law_own"]
theorem b_134 : BindP "_law_spring" "_law_spring" (top 126) (n_134.take 2) [] := fun kV doc pm an cdv ct us hl => match us, hl with | [_, _], _ => rfl
def i_134 : FnI := ⟨134, f__law_spring, 1108, "_law_spring", "_law_spring", (top 126), n_134, [], b_134⟩
def n_135 : List Str := ["_law_spring_here", "_law_amount", "_law_figure", "_law_mixed"]
theorem b_135 : BindP "_law_draw" "_law_draw" (top 127) (n_135.take 2) [] := fun kV doc pm an cdv ct us hl => match us, hl with | [_, _], _ => rfl
def i_135 : FnI := ⟨135, f__law_draw, 1115, "_law_draw", "_law_draw", (top 127), n_135, [], b_135⟩
def n_136 : List Str := ["_law_spring_here", "_law_pole", "_law_sway", "_law_tight", "_law_loose", "_law_found"]
theorem b_136 : BindP "_law_given" "_law_given" (top 128) (n_136.take 1) [] := fun kV doc pm an cdv ct us hl => match us, hl with | [_], _ => rfl
def i_136 : FnI := ⟨136, f__law_given, 1122, "_law_given", "_law_given", (top 128), n_136, [], b_136⟩
def n_137 : List Str := ["_law_spring_here", "_law_part", "_law_way"]
theorem b_137 : BindP "_law_bad_part" "_law_bad_part" (top 129) (n_137.take 2) [] := fun kV doc pm an cdv ct us hl => match us, hl with | [_, _], _ => rfl
def i_137 : FnI := ⟨137, f__law_bad_part, 1129, "_law_bad_part", "_law_bad_part", (top 129), n_137, [], b_137⟩
def n_138 : List Str := ["_law_spring_here", "_law_claim_here", "_law_way", "_law_at"]
theorem b_138 : BindP "_law_no_claim" "_law_no_claim" (top 130) (n_138.take 2) [] := fun kV doc pm an cdv ct us hl => match us, hl with | [_, _], _ => rfl
def i_138 : FnI := ⟨138, f__law_no_claim, 1136, "_law_no_claim", "_law_no_claim", (top 130), n_138, [], b_138⟩
def n_139 : List Str := ["_law_spring_here", "_law_claim_here", "_law_proof", "_law_turn", "_law_bad", "_law_told", "_law_odd"]
theorem b_139 : BindP "_law_right" "_law_right" (top 131) (n_139.take 1) [] := fun kV doc pm an cdv ct us hl => match us, hl with | [_], _ => rfl
def i_139 : FnI := ⟨139, f__law_right, 1143, "_law_right", "_law_right", (top 131), n_139, [], b_139⟩
def n_140 : List Str := ["_law_cells", "_law_turn"]
theorem b_140 : BindP "law" "law" (top 132) (n_140.take 1) [] := fun kV doc pm an cdv ct us hl => match us, hl with | [_], _ => rfl
def i_140 : FnI := ⟨140, f_law, 1148, "law", "law", (top 132), n_140, [], b_140⟩
def fns : Tr FnI := (.nd none (.nd none (.nd none (.nd none (.nd (some i_15) (.nd (some i_31) (.nd (some i_63) (.nd (some i_127) .nil .nil) .nil) (.nd (some i_95) .nil .nil)) (.nd (some i_47) (.nd (some i_79) .nil .nil) (.nd (some i_111) .nil .nil))) (.nd (some i_23) (.nd (some i_39) (.nd none (.nd (some i_135) .nil .nil) .nil) .nil) (.nd (some i_55) (.nd (some i_87) .nil .nil) (.nd (some i_119) .nil .nil)))) (.nd (some i_11) (.nd (some i_19) (.nd (some i_35) (.nd (some i_67) (.nd (some i_131) .nil .nil) .nil) .nil) (.nd (some i_51) (.nd (some i_83) .nil .nil) (.nd (some i_115) .nil .nil))) (.nd (some i_27) (.nd none (.nd none (.nd (some i_139) .nil .nil) .nil) (.nd (some i_107) .nil .nil)) (.nd (some i_59) (.nd (some i_91) .nil .nil) (.nd (some i_123) .nil .nil))))) (.nd none (.nd none (.nd (some i_17) (.nd none (.nd (some i_65) (.nd (some i_129) .nil .nil) .nil) .nil) (.nd (some i_49) (.nd (some i_81) .nil .nil) (.nd (some i_113) .nil .nil))) (.nd (some i_25) (.nd none (.nd none (.nd (some i_137) .nil .nil) .nil) .nil) (.nd (some i_57) (.nd (some i_89) .nil .nil) (.nd (some i_121) .nil .nil)))) (.nd (some i_13) (.nd (some i_21) (.nd (some i_37) (.nd (some i_69) (.nd (some i_133) .nil .nil) .nil) .nil) (.nd (some i_53) (.nd (some i_85) .nil .nil) (.nd (some i_117) .nil .nil))) (.nd (some i_29) (.nd none (.nd (some i_77) .nil .nil) (.nd (some i_109) .nil .nil)) (.nd (some i_61) (.nd (some i_93) .nil .nil) (.nd (some i_125) .nil .nil)))))) (.nd none (.nd none (.nd none (.nd (some i_16) (.nd (some i_32) (.nd (some i_64) (.nd (some i_128) .nil .nil) .nil) (.nd (some i_96) .nil .nil)) (.nd (some i_48) (.nd (some i_80) .nil .nil) (.nd (some i_112) .nil .nil))) (.nd (some i_24) (.nd none (.nd none (.nd (some i_136) .nil .nil) .nil) .nil) (.nd (some i_56) (.nd (some i_88) .nil .nil) (.nd (some i_120) .nil .nil)))) (.nd (some i_12) (.nd (some i_20) (.nd (some i_36) (.nd none (.nd (some i_132) .nil .nil) .nil) .nil) (.nd (some i_52) (.nd (some i_84) .nil .nil) (.nd (some i_116) .nil .nil))) (.nd (some i_28) (.nd none (.nd (some i_76) (.nd (some i_140) .nil .nil) .nil) (.nd (some i_108) .nil .nil)) (.nd (some i_60) (.nd (some i_92) .nil .nil) (.nd (some i_124) .nil .nil))))) (.nd none (.nd none (.nd (some i_18) (.nd (some i_34) (.nd (some i_66) (.nd (some i_130) .nil .nil) .nil) .nil) (.nd (some i_50) (.nd (some i_82) .nil .nil) (.nd (some i_114) .nil .nil))) (.nd (some i_26) (.nd none (.nd none (.nd (some i_138) .nil .nil) .nil) (.nd (some i_106) .nil .nil)) (.nd (some i_58) (.nd (some i_90) .nil .nil) (.nd (some i_122) .nil .nil)))) (.nd (some i_14) (.nd (some i_22) (.nd none (.nd (some i_70) (.nd (some i_134) .nil .nil) .nil) .nil) (.nd (some i_54) (.nd (some i_86) .nil .nil) (.nd (some i_118) .nil .nil))) (.nd (some i_30) (.nd (some i_46) (.nd (some i_78) .nil .nil) (.nd (some i_110) .nil .nil)) (.nd (some i_62) .nil (.nd (some i_126) .nil .nil)))))))
def inf : Inf where
  F := 60
  fns := fns
  cs := [(12, 488), (13, 704), (14, 926)]
  gt := [(3, [("law", .fn 140), ("LOW", .cst (.tup [(.int (0)), (.int (1))])), ("ONE", .cst (.tup [(.int (1)), (.int (1))]))]), (4, [("sign", .fn 17), ("Line", .cls 12), ("HIGH", .cst (.tup [(.int (1)), (.int (1))])), ("TAIL", .cst (.int (4)))]), (5, [("added", .fn 13), ("taken", .fn 14), ("slope", .fn 54), ("chain", .fn 56), ("Spans", .cls 13)]), (6, [("lowest", .fn 12), ("turned", .fn 52), ("put_to", .fn 81), ("DIGITS", .cst (.str (Str.ofString "0123456789"))), ("NOUGHT", .cst (.tup [(.int (0)), (.int (1))])), ("ROUNDS", .cst (.tup [(.tup [(.int (0)), (.int (0)), (.int (1)), (.int (1))]), (.tup [(.int (1)), (.int (1)), (.int (0)), (.int (0))]), (.tup [(.int (0)), (.int (1)), (.int (1)), (.int (0))]), (.tup [(.int (1)), (.int (0)), (.int (0)), (.int (1))])]))]), (7, [("divisor", .fn 11), ("divided", .fn 16), ("is_less", .fn 18), ("numeral", .fn 24), ("line_of", .fn 47), ("trimmed", .fn 49), ("changes", .fn 57), ("is_high", .fn 84), ("part_in", .fn 107), ("is_edge", .fn 110), ("accepts", .fn 129), ("Machine", .cls 14), ("LENGTHS", .dic [(.inr (Str.ofString "calm"), (.int (2))), (.inr (Str.ofString "restless"), (.int (2))), (.inr (Str.ofString "all within"), (.int (2))), (.inr (Str.ofString "not within"), (.int (2))), (.inr (Str.ofString "all"), (.int (2))), (.inr (Str.ofString "not all"), (.int (2))), (.inr (Str.ofString "fast"), (.int (3)))])]), (8, [("is_short", .fn 22), ("poly_sum", .fn 50), ("has_root", .fn 58), ("table_of", .fn 60), ("pairs_of", .fn 76), ("spans_of", .fn 79), ("all_ends", .fn 87), ("are_same", .fn 123)]), (9, [("are_short", .fn 32), ("line_with", .fn 46), ("remainder", .fn 55), ("minors_of", .fn 61), ("check_box", .fn 86), ("_law_draw", .fn 135), ("ZERO_calm", .cst (.tup [(.int (0)), (.int (1))]))]), (10, [("multiplied", .fn 15), ("is_integer", .fn 19), ("is_between", .fn 20), ("is_stretch", .fn 23), ("numbers_in", .fn 28), ("check_rate", .fn 29), ("check_line", .fn 48), ("poly_value", .fn 53), ("stretch_in", .fn 77), ("spans_with", .fn 78), ("with_parts", .fn 82), ("corners_in", .fn 83), ("machine_of", .fn 108), ("numbers_at", .fn 111), ("corners_of", .fn 114), ("trouble_of", .fn 117), ("is_trouble", .fn 127), ("_law_given", .fn 136), ("_law_right", .fn 139), ("MOST_PARTS", .cst (.int (3))), ("MOST_SHORT", .cst (.int (1000000000000))), ("ZERO_polys", .cst (.tup [(.int (0)), (.int (1))]))]), (11, [("is_fraction", .fn 21), ("fraction_in", .fn 25), ("are_numbers", .fn 30), ("determinant", .fn 59), ("row_numbers", .fn 63), ("check_spans", .fn 80), ("check_parts", .fn 85), ("minor_along", .fn 115), ("check_speed", .fn 122), ("are_amounts", .fn 126), ("_law_spring", .fn 134)]), (12, [("numbers_text", .fn 27), ("number_fault", .fn 31), ("slid_numbers", .fn 34), ("poly_product", .fn 51), ("calm_numbers", .fn 62), ("machine_with", .fn 106), ("edge_amounts", .fn 112), ("edge_numbers", .fn 113), ("edge_is_calm", .fn 116), ("calm_machine", .fn 118), ("fast_machine", .fn 119), ("accepts_line", .fn 124), ("MOST_NUMBERS", .cst (.int (6)))]), (13, [("fraction_text", .fn 26), ("check_machine", .fn 109), ("restless_edge", .fn 121), ("accepts_spans", .fn 125), ("paper_of_line", .fn 130), ("_law_bad_part", .fn 137), ("_law_no_claim", .fn 138)]), (14, [("paper_of_spans", .fn 131), ("paper_of_speed", .fn 133)]), (15, [("check_stretches", .fn 64), ("restless_corner", .fn 120), ("accepts_machine", .fn 128)]), (16, [("paper_of_machine", .fn 132)])]
  prp := [(12, "numbers", 37, 427), (12, "text", 39, 443), (13, "stretches", 67, 646), (13, "text", 69, 660), (13, "rows", 70, 666), (14, "base", 91, 822), (14, "parts", 92, 830), (14, "box", 93, 838), (14, "text", 95, 854), (14, "edges", 96, 860)]
  mth := [(14, "take", 89, [true, false, false, false])]
  cm := [(12, "read", 36), (13, "read", 66), (14, "read", 90)]
  ini := [(12, 35), (13, 65), (14, 88)]
  mks := [(12, 35, []), (14, 88, [(.tup []), (.tup [])]), (13, 65, [])]
  fl := ["held", "held_base", "held_box", "held_parts"]
  kw := [(129, ["paper", "claim"])]
  da := fun x => if x == "LENGTHS" then 1040 else 0
  sp := []
def as0 : List Nat := [2, 3, 243, 244, 250, 251, 257, 258, 264, 265, 271, 272, 278, 279, 285, 286, 292, 293, 299, 300, 306, 307, 313, 314, 320, 321, 325, 326, 330, 331, 337, 338, 344, 345, 349, 350, 354, 355, 361, 362]
def as1 : List Nat := [366, 367, 373, 374, 378, 379, 380, 381, 394, 395, 408, 409, 415, 416, 418, 425, 426, 427, 441, 442, 443, 487, 488, 498, 499, 505, 506, 512, 513, 514, 520, 521, 525, 526, 532, 533, 537, 538, 544, 545]
def as2 : List Nat := [549, 550, 556, 557, 563, 564, 568, 569, 575, 576, 580, 581, 582, 586, 587, 591, 592, 596, 597, 598, 599, 600, 601, 602, 606, 607, 613, 614, 627, 628, 634, 635, 637, 644, 645, 646, 658, 659, 660, 664]
def as3 : List Nat := [665, 666, 703, 704, 712, 713, 719, 720, 726, 727, 731, 732, 738, 739, 743, 744, 750, 751, 755, 756, 760, 761, 767, 768, 774, 775, 779, 780, 788, 789, 790, 796, 797, 803, 804, 810, 811, 813, 820, 821]
def as4 : List Nat := [822, 828, 829, 830, 836, 837, 838, 852, 853, 854, 858, 859, 860, 925, 926, 936, 937, 943, 944, 948, 949, 955, 956, 960, 961, 967, 968, 972, 973, 979, 980, 986, 987, 988, 989, 993, 994, 1000, 1001, 1007]
def as5 : List Nat := [1008, 1012, 1013, 1017, 1018, 1024, 1025, 1031, 1032, 1038, 1039, 1040, 1044, 1045, 1051, 1052, 1056, 1057, 1061, 1062, 1066, 1067, 1071, 1072, 1078, 1079, 1083, 1084, 1088, 1089, 1093, 1094, 1100, 1101, 1107, 1108, 1114, 1115, 1121, 1122]
def as6 : List Nat := [1128, 1129, 1135, 1136, 1142, 1143, 1147, 1148]
def adrs : List Addr := as0 ++ as1 ++ as2 ++ as3 ++ as4 ++ as5 ++ as6
def loose0 : List Str := ["_wall", "__name__", "BadValue", "NoAnswer", "InvalidText", "InvalidFraction", "NotALine", "NotSpans", "NotAMachine", "InvalidNumbers", "InvalidStretches", "InvalidParts", "InvalidBox", "NotHigh", "MOST_DEGREE", "MOST_PARTS"]
def loose1 : List Str := ["MOST_SHORT", "divisor", "lowest", "added", "taken", "multiplied", "divided", "sign", "is_less", "DIGITS", "is_integer", "is_between", "is_fraction", "is_short", "is_stretch", "numeral"]
def loose2 : List Str := ["fraction_in", "fraction_text", "numbers_text", "numbers_in", "check_rate", "are_numbers", "number_fault", "are_short", "NOUGHT", "ONE", "MOST_NUMBERS", "value_at", "slid_numbers", "Line", "line_with", "line_of"]
def loose3 : List Str := ["check_line", "ZERO_polys", "trimmed", "poly_sum", "poly_product", "turned", "poly_value", "slope", "remainder", "chain", "changes", "has_root", "determinant", "ZERO_calm", "table_of", "minors_of"]
def loose4 : List Str := ["calm_numbers", "ROUNDS", "row_numbers", "check_stretches", "Spans", "pairs_of", "stretch_in", "spans_with", "spans_of", "check_spans", "TAIL", "put_to", "with_parts", "corners_in", "is_high", "check_parts"]
def loose5 : List Str := ["check_box", "all_ends", "Machine", "machine_with", "part_in", "machine_of", "check_machine", "is_edge", "numbers_at", "edge_amounts", "edge_numbers", "corners_of", "LOW", "HIGH", "minor_along", "edge_is_calm"]
def loose6 : List Str := ["trouble_of", "calm_machine", "fast_machine", "restless_corner", "restless_edge", "check_speed", "LENGTHS", "are_same", "accepts_line", "accepts_spans", "are_amounts", "is_trouble", "accepts_machine", "accepts", "paper_of_line", "paper_of_spans"]
def loose7 : List Str := ["paper_of_machine", "paper_of_speed", "_law_spring", "_law_draw", "_law_given", "_law_bad_part", "_law_no_claim", "_law_right"]
def loose : List Str := loose0 ++ loose1 ++ loose2 ++ loose3 ++ loose4 ++ loose5 ++ loose6 ++ loose7
abbrev R : PySem.W.OpenRow := PySem.W.OpenLaw.row PySem.Challenge.rw_fourcorners_k77_values_that_are_no_claim
abbrev qv : Program := PySem.W.view R.prog [132]
def lawIx : Nat := 140
def lawTop : Nat := 132
end K77
end Fc
set_option Elab.async false
set_option maxRecDepth 100000
set_option maxHeartbeats 0
namespace Fc
namespace K77
open PySem
theorem runA_false (w : World) (os : OsState) : Option.map (fun s => (HandSHeadRun.looksF R.prog (PySem.W.boot_heap (w.withFollow "special-get-raises" false).params) s.abs, HandSHeadRun.seenQ qv loose (PySem.importedModules R.prog.main.body) (fun s => PySem.W.xlAt qv [] s && PySem.W.recOk R.records s) s.abs, (inf.fnv (He.frG (HandSHeadRun.getT s) adrs), inf.dics.map fun q => He.dicW (He.frG (HandSHeadRun.getT s) adrs) (inf.da q.1)))) (HandSHeadRun.endF (HandSHeadRun.stepQ (HandSHeadRun.denQ HandSHeadRun.tabQ) R.prog (w.withFollow "special-get-raises" false)) 20000 R.prog (w.withFollow "special-get-raises" false) os) = some ((true, PySem.W.openGood qv loose, (inf.val, inf.dics.map fun q => some (He.keysIn (w.withFollow "special-get-raises" false).params (q.2.filterMap fun p => strKey p.1))))) := by
  kernel_rfl
end K77
end Fc
set_option Elab.async false
set_option maxRecDepth 100000
set_option maxHeartbeats 0
namespace Fc
namespace K77
open PySem
theorem runB_false (w : World) (os : OsState) : Option.map (fun s => (inf.ok1 (He.frG (HandSHeadRun.getT s) adrs), inf.ok2 (He.frG (HandSHeadRun.getT s) adrs), inf.ok3 (He.frG (HandSHeadRun.getT s) adrs))) (HandSHeadRun.endF (HandSHeadRun.stepQ (HandSHeadRun.denQ HandSHeadRun.tabQ) R.prog (w.withFollow "special-get-raises" false)) 20000 R.prog (w.withFollow "special-get-raises" false) os) = some ((true, true, true)) := by
  kernel_rfl
end K77
end Fc
set_option Elab.async false
set_option maxRecDepth 100000
set_option maxHeartbeats 0
namespace Fc
namespace K77
open PySem
theorem runA_true (w : World) (os : OsState) : Option.map (fun s => (HandSHeadRun.looksF R.prog (PySem.W.boot_heap (w.withFollow "special-get-raises" true).params) s.abs, HandSHeadRun.seenQ qv loose (PySem.importedModules R.prog.main.body) (fun s => PySem.W.xlAt qv [] s && PySem.W.recOk R.records s) s.abs, (inf.fnv (He.frG (HandSHeadRun.getT s) adrs), inf.dics.map fun q => He.dicW (He.frG (HandSHeadRun.getT s) adrs) (inf.da q.1)))) (HandSHeadRun.endF (HandSHeadRun.stepQ (HandSHeadRun.denQ HandSHeadRun.tabQ) R.prog (w.withFollow "special-get-raises" true)) 20000 R.prog (w.withFollow "special-get-raises" true) os) = some ((true, PySem.W.openGood qv loose, (inf.val, inf.dics.map fun q => some (He.keysIn (w.withFollow "special-get-raises" true).params (q.2.filterMap fun p => strKey p.1))))) := by
  kernel_rfl
end K77
end Fc
set_option Elab.async false
set_option maxRecDepth 100000
set_option maxHeartbeats 0
namespace Fc
namespace K77
open PySem
theorem runB_true (w : World) (os : OsState) : Option.map (fun s => (inf.ok1 (He.frG (HandSHeadRun.getT s) adrs), inf.ok2 (He.frG (HandSHeadRun.getT s) adrs), inf.ok3 (He.frG (HandSHeadRun.getT s) adrs))) (HandSHeadRun.endF (HandSHeadRun.stepQ (HandSHeadRun.denQ HandSHeadRun.tabQ) R.prog (w.withFollow "special-get-raises" true)) 20000 R.prog (w.withFollow "special-get-raises" true) os) = some ((true, true, true)) := by
  kernel_rfl
end K77
end Fc
set_option Elab.async false
set_option maxRecDepth 100000
set_option maxHeartbeats 0
namespace Fc
namespace K77
open PySem
theorem comb {β : Type} {o : Option PySem.W.SharedT} {f1 : PySem.W.SharedT → Bool} {f2 : PySem.W.SharedT → β} {as : List Addr} {v : β} {w : World}
    (hA : o.map (fun s => (f1 s, f2 s, (inf.fnv (He.frG (HandSHeadRun.getT s) as), inf.dics.map fun q => He.dicW (He.frG (HandSHeadRun.getT s) as) (inf.da q.1)))) = some (true, v, (inf.val, inf.dics.map fun q => some (He.keysIn w.params (q.2.filterMap fun p => strKey p.1)))))
    (hB : o.map (fun s => (inf.ok1 (He.frG (HandSHeadRun.getT s) as), inf.ok2 (He.frG (HandSHeadRun.getT s) as), inf.ok3 (He.frG (HandSHeadRun.getT s) as))) = some (true, true, true)) :
    o.map (fun s => (f1 s, f2 s, inf.obsT as s)) = some (true, v, (inf.hook as).val w) := by
  cases o with
  | none => cases hA
  | some s =>
    obtain ⟨e1, q⟩ := Prod.mk.inj (Option.some.inj hA)
    obtain ⟨e2, e6⟩ := Prod.mk.inj q
    obtain ⟨h3, q⟩ := Prod.mk.inj (Option.some.inj hB)
    obtain ⟨h4, h5⟩ := Prod.mk.inj q
    have e3 : inf.okB (He.frG (HandSHeadRun.getT s) as) = true := Inf.ok_of inf h3 h4 h5
    obtain ⟨e4, e5⟩ := Prod.mk.inj e6
    show some (f1 s, f2 s, (inf.okB (He.frG (HandSHeadRun.getT s) as), inf.fnv (He.frG (HandSHeadRun.getT s) as), inf.dics.map fun q => He.dicW (He.frG (HandSHeadRun.getT s) as) (inf.da q.1))) = _
    rw [e1, e2, e3, e4, e5]
    rfl
theorem run_false (w : World) : HandSHeadRun.RunEq R qv (inf.hook adrs) (inf.obsT adrs) 20000 loose (w.withFollow "special-get-raises" false) := by
  intro os
  have a := runA_false w os
  have c := runB_false w os
  generalize HandSHeadRun.endF (HandSHeadRun.stepQ (HandSHeadRun.denQ HandSHeadRun.tabQ) R.prog (w.withFollow "special-get-raises" false)) 20000 R.prog (w.withFollow "special-get-raises" false) os = o at a c ⊢
  exact comb a c
theorem run_true (w : World) : HandSHeadRun.RunEq R qv (inf.hook adrs) (inf.obsT adrs) 20000 loose (w.withFollow "special-get-raises" true) := by
  intro os
  have a := runA_true w os
  have c := runB_true w os
  generalize HandSHeadRun.endF (HandSHeadRun.stepQ (HandSHeadRun.denQ HandSHeadRun.tabQ) R.prog (w.withFollow "special-get-raises" true)) 20000 R.prog (w.withFollow "special-get-raises" true) os = o at a c ⊢
  exact comb a c
theorem run (w : World) : HandSHeadRun.RunEq R qv (inf.hook adrs) (inf.obsT adrs) 20000 loose w := PySem.W.byRow2 "special-get-raises" (P := fun w => HandSHeadRun.RunEq R qv (inf.hook adrs) (inf.obsT adrs) 20000 loose w) run_false run_true w
end K77
end Fc
set_option Elab.async false
set_option linter.all false
set_option maxHeartbeats 1000000
/-! What the data stand for in the abstract heap. -/
namespace Fc
open PySem L2

/-- a list that nobody writes -/
def FL (K : PySem.W.Frag) (W : Addr → Prop) (H : Hp) (a : Addr) (vs : List V) : Prop := (∃ o, H a = some (.frz o (.lst vs)) ∧ ¬ W a) ∨
  ∃ (o : Obj) (its : Array Value) (n : Nat), K.lookup a = some o ∧ o.cls = .type "list" ∧ o.dict = none ∧ o.data = .seq its n ∧ its.size ≤ sizeLine ∧ Vals vs its.toList
theorem FL.sql {K : PySem.W.Frag} {W : Addr → Prop} {H : Hp} {a : Addr} {vs : List V} (h : FL K W H a vs) : SqL K H a vs := by
  rcases h with ⟨o, h, _⟩ | h
  · exact .inl (.inr ⟨o, h⟩)
  · exact .inr h
/-- d is told by v; the writable addresses W apart -/
inductive RV (K : PySem.W.Frag) (ca : Nat → Addr) (ψ : List Addr) (W : Addr → Prop) (H : Hp) : D → V → Prop
  | non : RV K ca ψ W H .non .non
  | bl (b : Bool) : RV K ca ψ W H (.bl b) (.bl b)
  | int (i : Int) : RV K ca ψ W H (.int i) (.int i)
  | str (s : Str) : RV K ca ψ W H (.str s) (.str s)
  | tup {a : Addr} {vs : List V} {ds : List D} : SqT K H a vs → ds.length = vs.length → (∀ (i : Nat) (d : D) (v : V), ds[i]? = some d → vs[i]? = some v → RV K ca ψ W H d v) → RV K ca ψ W H (.tup ds) (.ref a)
  | lst {a : Addr} {vs : List V} {ds : List D} : H a = some (.lst vs) → ¬ W a → ds.length = vs.length → (∀ (i : Nat) (d : D) (v : V), ds[i]? = some d → vs[i]? = some v → RV K ca ψ W H d v) → RV K ca ψ W H (.lst ds) (.ref a)
  | ins {a dx : Addr} {c : Nat} {vs : List (Str × V)} {fs : List (Str × D)} : H a = some (.ins (ca c) dx vs) → ¬ W a → fs.map (·.1) = vs.map (·.1) →
      (∀ (i : Nat) (p : Str × D) (q : Str × V), fs[i]? = some p → vs[i]? = some q → RV K ca ψ W H p.2 q.2) → RV K ca ψ W H (.ins c fs) (.ref a)
  | dic {a : Addr} {kvs : List (Key × V)} {ps : List (Key × D)} : H a = some (.dK kvs) → ¬ W a → ps.map (·.1) = kvs.map (·.1) →
      (∀ (i : Nat) (p : Key × D) (q : Key × V), ps[i]? = some p → kvs[i]? = some q → RV K ca ψ W H p.2 q.2) → RV K ca ψ W H (.dic ps) (.ref a)
  | oid {a : Addr} {n : Nat} : ψ[n]? = some a → RV K ca ψ W H (.oid n) (.ref a)
  | fls {a : Addr} {vs : List V} {ds : List D} : FL K W H a vs → ds.length = vs.length → (∀ (i : Nat) (d : D) (v : V), ds[i]? = some d → vs[i]? = some v → RV K ca ψ W H d v) → RV K ca ψ W H (.fls ds) (.ref a)

def RVs (K : PySem.W.Frag) (ca : Nat → Addr) (ψ : List Addr) (W : Addr → Prop) (H : Hp) (ds : List D) (vs : List V) : Prop :=
  ds.length = vs.length ∧ ∀ (i : Nat) (d : D) (v : V), ds[i]? = some d → vs[i]? = some v → RV K ca ψ W H d v
def RVf (K : PySem.W.Frag) (ca : Nat → Addr) (ψ : List Addr) (W : Addr → Prop) (H : Hp) (ds : List (Str × D)) (vs : List (Str × V)) : Prop :=
  ds.map (·.1) = vs.map (·.1) ∧ ∀ (i : Nat) (p : Str × D) (q : Str × V), ds[i]? = some p → vs[i]? = some q → RV K ca ψ W H p.2 q.2

/-- an object's contents at a -/
def ObAt (K : PySem.W.Frag) (ca : Nat → Addr) (ψ : List Addr) (W : Addr → Prop) (H : Hp) (a : Addr) : Ob → Prop
  | .lst ds => ∃ vs, H a = some (.lst vs) ∧ RVs K ca ψ W H ds vs
  | .ins c fs => ∃ dx vs, H a = some (.ins (ca c) dx vs) ∧ RVf K ca ψ W H fs vs

/-- what stood stands, but for the writable -/
structure Pres (K : PySem.W.Frag) (W : Addr → Prop) (H : Hp) (W' : Addr → Prop) (H' : Hp) : Prop where
  keep : ∀ a o, H a = some o → ¬ W a → H' a = some o ∧ ¬ W' a
  tups : ∀ a xs, SqT K H a xs → SqT K H' a xs
  dom : ∀ a, H a ≠ none → H' a ≠ none
theorem Pres.refl {K : PySem.W.Frag} {W : Addr → Prop} {H : Hp} : Pres K W H W H := ⟨fun _ _ h n => ⟨h, n⟩, fun _ _ h => h, fun _ h => h⟩
theorem Pres.trans {K : PySem.W.Frag} {W W1 W2 : Addr → Prop} {H H1 H2 : Hp} (x : Pres K W H W1 H1) (y : Pres K W1 H1 W2 H2) : Pres K W H W2 H2 :=
  ⟨fun a o h n => let ⟨h1, n1⟩ := x.keep a o h n; y.keep a o h1 n1, fun a xs h => y.tups a xs (x.tups a xs h), fun a h => y.dom a (x.dom a h)⟩
/-- fewer writable addresses -/
theorem Pres.less {K : PySem.W.Frag} {W W' : Addr → Prop} {H : Hp} (h : ∀ a, W' a → W a) : Pres K W H W' H := ⟨fun a _ e n => ⟨e, fun z => n (h a z)⟩, fun _ _ h => h, fun _ h => h⟩

theorem RV.mono {K : PySem.W.Frag} {ca : Nat → Addr} {ψ ψ' : List Addr} {W W' : Addr → Prop} {H H' : Hp} (hp : ψ <+: ψ') (P : Pres K W H W' H') {d : D} {v : V} (h : RV K ca ψ W H d v) : RV K ca ψ' W' H' d v := by
  induction h with
  | non => exact .non
  | bl b => exact .bl b
  | int i => exact .int i
  | str s => exact .str s
  | tup h1 h2 _ ih => exact .tup (P.tups _ _ h1) h2 ih
  | lst h1 n h2 _ ih => exact .lst (P.keep _ _ h1 n).1 (P.keep _ _ h1 n).2 h2 ih
  | ins h1 n h2 _ ih => exact .ins (P.keep _ _ h1 n).1 (P.keep _ _ h1 n).2 h2 ih
  | dic h1 n h2 _ ih => exact .dic (P.keep _ _ h1 n).1 (P.keep _ _ h1 n).2 h2 ih
  | fls h1 h2 _ ih =>
    refine .fls ?_ h2 ih
    rcases h1 with ⟨o, h1, n⟩ | h1
    · exact .inl ⟨o, (P.keep _ _ h1 n).1, (P.keep _ _ h1 n).2⟩
    · exact .inr h1
  | oid h =>
    obtain ⟨r, rfl⟩ := hp
    exact .oid (by rw [List.getElem?_append_left (List.getElem?_eq_some_iff.mp h).1]; exact h)
section
variable {K : PySem.W.Frag} {ca : Nat → Addr} {ψ ψ' : List Addr} {W W' : Addr → Prop} {H H' : Hp}
theorem RVs.mono (hp : ψ <+: ψ') (P : Pres K W H W' H') {ds : List D} {vs : List V} (h : RVs K ca ψ W H ds vs) : RVs K ca ψ' W' H' ds vs := ⟨h.1, fun i d v e1 e2 => (h.2 i d v e1 e2).mono hp P⟩
theorem RVf.mono (hp : ψ <+: ψ') (P : Pres K W H W' H') {ds : List (Str × D)} {vs : List (Str × V)} (h : RVf K ca ψ W H ds vs) : RVf K ca ψ' W' H' ds vs := ⟨h.1, fun i d v e1 e2 => (h.2 i d v e1 e2).mono hp P⟩
theorem ObAt.mono (hp : ψ <+: ψ') (P : Pres K W H W' H') {a : Addr} {o : Ob} (e : H' a = H a) (h : ObAt K ca ψ W H a o) : ObAt K ca ψ' W' H' a o := by
  cases o with
  | lst ds =>
    obtain ⟨vs, h1, h2⟩ := h
    exact ⟨vs, e.trans h1, h2.mono hp P⟩
  | ins c fs =>
    obtain ⟨dx, vs, h1, h2⟩ := h
    exact ⟨dx, vs, e.trans h1, h2.mono hp P⟩
theorem ObAt.some {a : Addr} {o : Ob} (h : ObAt K ca ψ W H a o) : ∃ x, H a = some x := by
  cases o with
  | lst ds => obtain ⟨vs, h1, _⟩ := h; exact ⟨_, h1⟩
  | ins c fs => obtain ⟨dx, vs, h1, _⟩ := h; exact ⟨_, h1⟩
/-- an object that nobody writes any more is data -/
theorem ObAt.deep {a : Addr} {o : Ob} (h : ObAt K ca ψ W H a o) (n : ¬ W a) : RV K ca ψ W H o.deep (.ref a) := by
  cases o with
  | lst ds => obtain ⟨vs, h1, h2⟩ := h; exact .lst h1 n h2.1 h2.2
  | ins c fs => obtain ⟨dx, vs, h1, h2⟩ := h; exact .ins h1 n h2.1 h2.2
theorem RVs.nil : RVs K ca ψ W H [] [] := ⟨rfl, fun i d v e => by simp at e⟩
theorem RVs.cons {d : D} {v : V} {ds : List D} {vs : List V} (h : RV K ca ψ W H d v) (r : RVs K ca ψ W H ds vs) : RVs K ca ψ W H (d :: ds) (v :: vs) := by
  refine ⟨by simp [r.1], fun i d' v' e1 e2 => ?_⟩
  cases i with
  | zero =>
    simp at e1 e2
    subst e1 e2
    exact h
  | succ i => exact r.2 i d' v' (by simpa using e1) (by simpa using e2)
theorem RVs.head {d : D} {v : V} {ds : List D} {vs : List V} (r : RVs K ca ψ W H (d :: ds) (v :: vs)) : RV K ca ψ W H d v := r.2 0 d v rfl rfl
theorem RVs.tail {d : D} {v : V} {ds : List D} {vs : List V} (r : RVs K ca ψ W H (d :: ds) (v :: vs)) : RVs K ca ψ W H ds vs :=
  ⟨by have := r.1; simpa using this, fun i d' v' e1 e2 => r.2 (i + 1) d' v' (by simpa using e1) (by simpa using e2)⟩
theorem RVs.nil_inv {vs : List V} (r : RVs K ca ψ W H [] vs) : vs = [] := by
  have := r.1
  exact List.length_eq_zero_iff.mp (by simpa using this.symm)
theorem RVs.cons_inv {d : D} {ds : List D} {vs : List V} (r : RVs K ca ψ W H (d :: ds) vs) : ∃ v vs', vs = v :: vs' ∧ RV K ca ψ W H d v ∧ RVs K ca ψ W H ds vs' := by
  cases vs with
  | nil => have := r.1; simp at this
  | cons v vs => exact ⟨v, vs, rfl, r.head, r.tail⟩
theorem RVs.append {ds es : List D} {vs us : List V} (h : RVs K ca ψ W H ds vs) (r : RVs K ca ψ W H es us) : RVs K ca ψ W H (ds ++ es) (vs ++ us) := by
  induction ds generalizing vs with
  | nil => rw [h.nil_inv]; exact r
  | cons d ds ih =>
    obtain ⟨v, vs', rfl, h1, h2⟩ := h.cons_inv
    exact .cons h1 (ih h2)
theorem RVs.get {ds : List D} {vs : List V} (h : RVs K ca ψ W H ds vs) {i : Nat} {d : D} (e : ds[i]? = some d) : ∃ v, vs[i]? = some v ∧ RV K ca ψ W H d v := by
  have hi : i < vs.length := by rw [← h.1]; exact (List.getElem?_eq_some_iff.mp e).1
  exact ⟨vs[i], by simp [hi], h.2 i d _ e (by simp [hi])⟩
theorem RVs.of_zip {ds : List D} {vs : List V} {f : List Nat} : RVs K ca ψ W H ds vs → True := fun _ => trivial
theorem RVs.take {ds : List D} {vs : List V} (h : RVs K ca ψ W H ds vs) (n : Nat) : RVs K ca ψ W H (ds.take n) (vs.take n) := by
  refine ⟨by simp [h.1], fun i d v e1 e2 => ?_⟩
  rw [List.getElem?_take] at e1 e2
  split at e1
  · rename_i hi
    rw [if_pos hi] at e2
    exact h.2 i d v e1 e2
  · cases e1
theorem RVs.drop {ds : List D} {vs : List V} (h : RVs K ca ψ W H ds vs) (n : Nat) : RVs K ca ψ W H (ds.drop n) (vs.drop n) := by
  refine ⟨by simp [h.1], fun i d v e1 e2 => ?_⟩
  rw [List.getElem?_drop] at e1 e2
  exact h.2 _ d v e1 e2
theorem RVs.set {ds : List D} {vs : List V} (h : RVs K ca ψ W H ds vs) (n : Nat) {d : D} {v : V} (r : RV K ca ψ W H d v) : RVs K ca ψ W H (ds.set n d) (vs.set n v) := by
  refine ⟨by simp [h.1], fun i d' v' e1 e2 => ?_⟩
  rw [List.getElem?_set] at e1 e2
  split at e1
  · rename_i hi
    subst hi
    rw [if_pos rfl] at e2
    split at e1
    · split at e2
      · cases e1; cases e2; exact r
      · cases e2
    · cases e1
  · rename_i hi
    rw [if_neg hi] at e2
    exact h.2 i d' v' e1 e2
theorem RVs.reverse {ds : List D} {vs : List V} (h : RVs K ca ψ W H ds vs) : RVs K ca ψ W H ds.reverse vs.reverse := by
  induction ds generalizing vs with
  | nil => rw [h.nil_inv]; exact .nil
  | cons d ds ih =>
    obtain ⟨v, vs', rfl, h1, h2⟩ := h.cons_inv
    rw [List.reverse_cons, List.reverse_cons]
    exact (ih h2).append (.cons h1 .nil)
theorem RVs.flat {ds : List D} {vs : List V} (h : RVs K ca ψ W H ds vs) : ∀ n : Nat, RVs K ca ψ W H (List.replicate n ds).flatten (List.replicate n vs).flatten
  | 0 => .nil
  | n + 1 => by
    rw [List.replicate_succ, List.replicate_succ, List.flatten_cons, List.flatten_cons]
    exact h.append (RVs.flat h n)
end

/-! ### the state -/
/-- what stays through a def's body: the classes' places, the heap at the entry, how many parameters, the own parameters' addresses; what the callers own besides -/
structure Par where
  K : PySem.W.Frag
  ca : Nat → Addr
  H0 : Hp
  np : Nat
  pa : List (Option Addr)
  U : Addr → Prop
/-- the writable addresses -/
def W0 (ψ : List Addr) (τ : List (Addr × Ob)) (ρ : List Sl) (σ : St) (a : Addr) : Prop :=
  a ∈ ψ ∨ a ∈ τ.map (·.1) ∨ ∃ (i : Nat) (o : Ob), ρ[i]? = some (.own o) ∧ σ[i]? = some (some (.ref a))
/-- .. and those of the callers: no data hang on them -/
def Wr (U : Addr → Prop) (ψ : List Addr) (τ : List (Addr × Ob)) (ρ : List Sl) (σ : St) (a : Addr) : Prop := W0 ψ τ ρ σ a ∨ U a
/-- a list or an instance stands there -/
def Lo (H : Hp) (a : Addr) : Prop := (∃ xs, H a = some (.lst xs)) ∨ (∃ C dx fs, H a = some (.ins C dx fs))
structure Rep (P : Par) (ψ : List Addr) (τ : List (Addr × Ob)) (ρ : List Sl) (O : List Ob) (σ : St) (H : Hp) : Prop where
  len : ρ.length = σ.length
  dp : ∀ (i : Nat) (d : D), ρ[i]? = some (.dp d) → ∃ v, σ[i]? = some (some v) ∧ RV P.K P.ca ψ (Wr P.U ψ τ ρ σ) H d v
  own : ∀ (i : Nat) (o : Ob), ρ[i]? = some (.own o) → ∃ a, σ[i]? = some (some (.ref a)) ∧ ObAt P.K P.ca ψ (Wr P.U ψ τ ρ σ) H a o ∧ (P.np ≤ i → P.H0 a = none)
  inj : ∀ (i j : Nat) (oi oj : Ob) (a : Addr), ρ[i]? = some (.own oi) → ρ[j]? = some (.own oj) → σ[i]? = some (some (.ref a)) → σ[j]? = some (some (.ref a)) → i = j
  tmp : ∀ p ∈ τ, ObAt P.K P.ca ψ (Wr P.U ψ τ ρ σ) H p.1 p.2 ∧ P.H0 p.1 = none
  tnd : (τ.map (·.1)).Nodup
  tow : ∀ (i : Nat) (o : Ob) (a : Addr), ρ[i]? = some (.own o) → σ[i]? = some (some (.ref a)) → a ∉ τ.map (·.1)
  plen : ψ.length = O.length
  oid : ∀ (n : Nat) (a : Addr) (o : Ob), ψ[n]? = some a → O[n]? = some o → ObAt P.K P.ca ψ (Wr P.U ψ τ ρ σ) H a o
  pnd : ψ.Nodup
  pow : ∀ (i : Nat) (o : Ob) (a : Addr), ρ[i]? = some (.own o) → σ[i]? = some (some (.ref a)) → a ∉ ψ
  ptm : ∀ a ∈ τ.map (·.1), a ∉ ψ
  par : ∀ (j : Nat) (a : Addr), P.pa[j]? = some (some a) → (∃ o, ρ[j]? = some (.own o)) ∧ σ[j]? = some (some (.ref a))
  ent : ∀ a, P.H0 a ≠ none → H a ≠ none
  out : ∀ a, P.U a → ¬ W0 ψ τ ρ σ a
  uob : ∀ a, P.U a → Lo H a
/-- from one state to a later one -/
structure Aft (P : Par) (ψ : List Addr) (τ : List (Addr × Ob)) (ρ : List Sl) (σ : St) (H : Hp) (ψ' : List Addr) (τ' : List (Addr × Ob)) (ρ' : List Sl) (O' : List Ob) (σ' : St) (H' : Hp) : Prop where
  pre : ψ <+: ψ'
  pres : Pres P.K (Wr P.U ψ τ ρ σ) H (Wr P.U ψ' τ' ρ' σ') H'
  rep : Rep P ψ' τ' ρ' O' σ' H'
  unt : ∀ a, P.U a → H' a = H a
theorem Aft.refl {P : Par} {ψ : List Addr} {τ : List (Addr × Ob)} {ρ : List Sl} {O : List Ob} {σ : St} {H : Hp} (r : Rep P ψ τ ρ O σ H) : Aft P ψ τ ρ σ H ψ τ ρ O σ H := ⟨List.prefix_refl _, .refl, r, fun _ _ => rfl⟩
theorem Aft.trans {P : Par} {ψ ψ1 ψ2 : List Addr} {τ τ1 τ2 : List (Addr × Ob)} {ρ ρ1 ρ2 : List Sl} {O1 O2 : List Ob} {σ σ1 σ2 : St} {H H1 H2 : Hp}
    (x : Aft P ψ τ ρ σ H ψ1 τ1 ρ1 O1 σ1 H1) (y : Aft P ψ1 τ1 ρ1 σ1 H1 ψ2 τ2 ρ2 O2 σ2 H2) : Aft P ψ τ ρ σ H ψ2 τ2 ρ2 O2 σ2 H2 := ⟨x.pre.trans y.pre, x.pres.trans y.pres, y.rep, fun a h => (y.unt a h).trans (x.unt a h)⟩
end Fc
set_option Elab.async false
set_option linter.all false
set_option maxHeartbeats 1000000
/-! The state's algebra. -/
namespace Fc
open PySem L2

theorem sqt_ext {K : PySem.W.Frag} {H H' : Hp} (h : ∀ a o, H a = some o → H' a = some o) {a : Addr} {xs : List V} (s : SqT K H a xs) : SqT K H' a xs := by
  rcases s with (s | ⟨o, s⟩) | s
  · exact .inl (.inl (h _ _ s))
  · exact .inl (.inr ⟨o, h _ _ s⟩)
  · exact .inr s
/-- .. where one address that holds no tuple changes -/
theorem sqt_but {K : PySem.W.Frag} {H H' : Hp} {e : Addr} (h : ∀ a o, a ≠ e → H a = some o → H' a = some o) (ht : (∃ xs, H e = some (.lst xs)) ∨ (∃ C dx fs, H e = some (.ins C dx fs))) {a : Addr} {xs : List V} (s : SqT K H a xs) : SqT K H' a xs := by
  have ne : ∀ (b : Addr) u, H b = some u → (∀ xs, u ≠ .lst xs) → (∀ C dx fs, u ≠ .ins C dx fs) → b ≠ e := fun b u hb h1 h2 z => by
    subst z
    rcases ht with ⟨ys, q⟩ | ⟨C, dx, fs, q⟩
    · rw [hb] at q; exact h1 ys (Option.some.inj q)
    · rw [hb] at q; exact h2 C dx fs (Option.some.inj q)
  rcases s with (s | ⟨o, s⟩) | s
  · exact .inl (.inl (h _ _ (ne _ _ s (fun _ z => by cases z) (fun _ _ _ z => by cases z)) s))
  · exact .inl (.inr ⟨o, h _ _ (ne _ _ s (fun _ z => by cases z) (fun _ _ _ z => by cases z)) s⟩)
  · exact .inr s

abbrev Ext (H H' : Hp) : Prop := ∀ a o, H a = some o → H' a = some o
theorem Ext.refl {H : Hp} : Ext H H := fun _ _ h => h
theorem Ext.trans {H H1 H2 : Hp} (x : Ext H H1) (y : Ext H1 H2) : Ext H H2 := fun a o h => y a o (x a o h)
theorem Ext.upd {H : Hp} {p : Addr} {u : HO} (h : H p = none) : Ext H (upd H p u) := fun a o e => by rw [upd_ne (ne_of_none e h)]; exact e
theorem Ext.dom {H H' : Hp} (x : Ext H H') : ∀ a, H a ≠ none → H' a ≠ none := fun a h => by
  cases e : H a with
  | none => exact absurd e h
  | some o => rw [x a o e]; exact fun z => by cases z

section
variable {P : Par} {ψ : List Addr} {τ : List (Addr × Ob)} {ρ : List Sl} {O : List Ob} {σ : L2.St} {H H' : Hp} {a p : Addr} {o : Ob}
theorem lo_ext {H H' : Hp} {a : Addr} (x : Ext H H') (h : Lo H a) : Lo H' a := by
  rcases h with ⟨xs, e⟩ | ⟨C, dx, fs, e⟩
  · exact .inl ⟨xs, x _ _ e⟩
  · exact .inr ⟨C, dx, fs, x _ _ e⟩
theorem lo_some {H : Hp} {a : Addr} (h : Lo H a) : H a ≠ none := by
  rcases h with ⟨xs, e⟩ | ⟨C, dx, fs, e⟩ <;> rw [e] <;> exact fun z => by cases z
theorem lo_same {H H' : Hp} {a : Addr} (x : Ext H H') (h : Lo H a) : H' a = H a := by
  rcases h with ⟨xs, e⟩ | ⟨C, dx, fs, e⟩ <;> rw [e, x _ _ e]
/-- new objects that the state does not speak of -/
theorem Rep.ext (r : Rep P ψ τ ρ O σ H) (x : Ext H H') : Aft P ψ τ ρ σ H ψ τ ρ O σ H' := by
  have pr : Pres P.K (Wr P.U ψ τ ρ σ) H (Wr P.U ψ τ ρ σ) H' := ⟨fun a o h n => ⟨x a o h, n⟩, fun a xs s => sqt_ext x s, x.dom⟩
  have ob : ∀ {a : Addr} {o : Ob}, ObAt P.K P.ca ψ (Wr P.U ψ τ ρ σ) H a o → ObAt P.K P.ca ψ (Wr P.U ψ τ ρ σ) H' a o := fun {a o} h => by
    obtain ⟨u, hu⟩ := h.some
    exact h.mono (List.prefix_refl _) pr (by rw [hu]; exact x _ _ hu)
  exact ⟨List.prefix_refl _, pr, ⟨r.len, fun i d e => let ⟨v, h1, h2⟩ := r.dp i d e; ⟨v, h1, h2.mono (List.prefix_refl _) pr⟩, fun i o e => let ⟨a, h1, h2, h3⟩ := r.own i o e; ⟨a, h1, ob h2, h3⟩, r.inj,
    fun q hq => ⟨ob (r.tmp q hq).1, (r.tmp q hq).2⟩, r.tnd, r.tow, r.plen, fun n a o e1 e2 => ob (r.oid n a o e1 e2), r.pnd, r.pow, r.ptm, r.par, fun a h => x.dom a (r.ent a h), r.out, fun a h => lo_ext x (r.uob a h)⟩, fun a h => lo_same x (r.uob a h)⟩
/-- the writable addresses hold lists and instances -/
theorem Rep.wobj (r : Rep P ψ τ ρ O σ H) (h : Wr P.U ψ τ ρ σ a) : Lo H a := by
  have key : ∀ {o : Ob}, ObAt P.K P.ca ψ (Wr P.U ψ τ ρ σ) H a o → (∃ xs, H a = some (.lst xs)) ∨ (∃ C dx fs, H a = some (.ins C dx fs)) := fun {o} h => by
    cases o with
    | lst ds => obtain ⟨vs, h1, _⟩ := h; exact .inl ⟨_, h1⟩
    | ins c fs => obtain ⟨dx, vs, h1, _⟩ := h; exact .inr ⟨_, _, _, h1⟩
  rcases h with (h | h | ⟨i, o, h1, h2⟩) | h
  · obtain ⟨n, hn, e⟩ := List.mem_iff_getElem.mp h
    have hn2 : n < O.length := by rw [← r.plen]; exact hn
    exact key (r.oid n a O[n] (by rw [← e]; simp [hn]) (by simp [hn2]))
  · obtain ⟨q, hq, rfl⟩ := List.mem_map.mp h
    exact key (r.tmp q hq).1
  · obtain ⟨b, h3, h4, _⟩ := r.own i o h1
    rw [h2] at h3
    cases h3
    exact key h4
  · exact r.uob a h
theorem Rep.wsome (r : Rep P ψ τ ρ O σ H) (h : Wr P.U ψ τ ρ σ a) : H a ≠ none := by
  exact lo_some (r.wobj h)
/-- a new object of the state's own -/
theorem Rep.push (r : Rep P ψ τ ρ O σ H) (x : Ext H H') (hp : H p = none) (hob : Pres P.K (Wr P.U ψ τ ρ σ) H (Wr P.U ψ ((p, o) :: τ) ρ σ) H' → ObAt P.K P.ca ψ (Wr P.U ψ ((p, o) :: τ) ρ σ) H' p o) :
    Aft P ψ τ ρ σ H ψ ((p, o) :: τ) ρ O σ H' := by
  have hw : ∀ b, Wr P.U ψ ((p, o) :: τ) ρ σ b ↔ b = p ∨ Wr P.U ψ τ ρ σ b := fun b => by
    unfold Wr W0
    simp only [List.map_cons, List.mem_cons]
    constructor
    · rintro ((h | (h | h) | h) | h)
      · exact .inr (.inl (.inl h))
      · exact .inl h
      · exact .inr (.inl (.inr (.inl h)))
      · exact .inr (.inl (.inr (.inr h)))
      · exact .inr (.inr h)
    · rintro (h | (h | h | h) | h)
      · exact .inl (.inr (.inl (.inl h)))
      · exact .inl (.inl h)
      · exact .inl (.inr (.inl (.inr h)))
      · exact .inl (.inr (.inr h))
      · exact .inr h
  have pr : Pres P.K (Wr P.U ψ τ ρ σ) H (Wr P.U ψ ((p, o) :: τ) ρ σ) H' := ⟨fun a u h n => ⟨x a u h, fun z => by
    rcases (hw a).mp z with z | z
    · subst z; rw [hp] at h; cases h
    · exact n z⟩, fun a xs s => sqt_ext x s, x.dom⟩
  have ob : ∀ {a : Addr} {u : Ob}, ObAt P.K P.ca ψ (Wr P.U ψ τ ρ σ) H a u → ObAt P.K P.ca ψ (Wr P.U ψ ((p, o) :: τ) ρ σ) H' a u := fun {a u} h => by
    obtain ⟨w, hu⟩ := h.some
    exact h.mono (List.prefix_refl _) pr (by rw [hu]; exact x _ _ hu)
  have h0 : P.H0 p = none := by
    cases e : P.H0 p with
    | none => rfl
    | some u => exact absurd hp (r.ent p (by rw [e]; exact fun z => by cases z))
  refine ⟨List.prefix_refl _, pr, ⟨r.len, fun i d e => let ⟨v, h1, h2⟩ := r.dp i d e; ⟨v, h1, h2.mono (List.prefix_refl _) pr⟩, fun i u e => let ⟨a, h1, h2, h3⟩ := r.own i u e; ⟨a, h1, ob h2, h3⟩, r.inj, fun q hq => ?_, ?_, fun i u a h1 h2 hm => ?_, r.plen, fun n a u e1 e2 => ob (r.oid n a u e1 e2),
    r.pnd, r.pow, fun a hm => ?_, r.par, fun a h => x.dom a (r.ent a h), fun a h z => ?_, fun a h => lo_ext x (r.uob a h)⟩, fun a h => lo_same x (r.uob a h)⟩
  · rcases List.mem_cons.mp hq with e | hq
    · subst e
      exact ⟨hob pr, h0⟩
    · exact ⟨ob (r.tmp q hq).1, (r.tmp q hq).2⟩
  · rw [List.map_cons, List.nodup_cons]
    exact ⟨fun z => r.wsome (.inl (.inr (.inl z))) hp, r.tnd⟩
  · rw [List.map_cons] at hm
    rcases List.mem_cons.mp hm with z | z
    · have e : a = p := z
      subst e
      exact r.wsome (.inl (.inr (.inr ⟨i, u, h1, h2⟩))) hp
    · exact r.tow i u a h1 h2 z
  · rw [List.map_cons] at hm
    rcases List.mem_cons.mp hm with z | z
    · intro q
      have e : a = p := z
      subst e
      exact r.wsome (.inl (.inl q)) hp
    · exact r.ptm a z
  · rcases (hw a).mp (.inl z) with e | e
    · subst e; exact lo_some (r.uob a h) hp
    · rcases e with e | e
      · exact r.out a h e
      · unfold W0 at z
        simp only [List.map_cons, List.mem_cons] at z
        rcases z with z | (z | z) | z
        · exact r.out a h (.inl z)
        · subst z; exact lo_some (r.uob _ h) hp
        · exact r.out a h (.inr (.inl z))
        · exact r.out a h (.inr (.inr z))
/-- the last new object is data from now on -/
theorem Rep.pop (r : Rep P ψ ((a, o) :: τ) ρ O σ H) : Aft P ψ ((a, o) :: τ) ρ σ H ψ τ ρ O σ H ∧ RV P.K P.ca ψ (Wr P.U ψ τ ρ σ) H o.deep (.ref a) := by
  have hw0 : ∀ b, W0 ψ τ ρ σ b → W0 ψ ((a, o) :: τ) ρ σ b := fun b h => by
    rcases h with h | h | h
    · exact .inl h
    · exact .inr (.inl (List.mem_cons_of_mem _ h))
    · exact .inr (.inr h)
  have hw : ∀ b, Wr P.U ψ τ ρ σ b → Wr P.U ψ ((a, o) :: τ) ρ σ b := fun b h => h.imp (hw0 b) id
  have pr : Pres P.K (Wr P.U ψ ((a, o) :: τ) ρ σ) H (Wr P.U ψ τ ρ σ) H := .less hw
  have ob : ∀ {a' : Addr} {u : Ob}, ObAt P.K P.ca ψ (Wr P.U ψ ((a, o) :: τ) ρ σ) H a' u → ObAt P.K P.ca ψ (Wr P.U ψ τ ρ σ) H a' u := fun {a' u} h => h.mono (List.prefix_refl _) pr rfl
  have nd := r.tnd
  rw [List.map_cons, List.nodup_cons] at nd
  refine ⟨⟨List.prefix_refl _, pr, ⟨r.len, fun i d e => let ⟨v, h1, h2⟩ := r.dp i d e; ⟨v, h1, h2.mono (List.prefix_refl _) pr⟩, fun i u e => let ⟨a, h1, h2, h3⟩ := r.own i u e; ⟨a, h1, ob h2, h3⟩, r.inj,
    fun q hq => ⟨ob (r.tmp q (List.mem_cons_of_mem _ hq)).1, (r.tmp q (List.mem_cons_of_mem _ hq)).2⟩, nd.2, fun i u b h1 h2 hm => r.tow i u b h1 h2 (List.mem_cons_of_mem _ hm), r.plen, fun n a u e1 e2 => ob (r.oid n a u e1 e2), r.pnd, r.pow,
    fun b hm => r.ptm b (List.mem_cons_of_mem _ hm), r.par, r.ent, fun b h z => r.out b h (hw0 b z), r.uob⟩, fun _ _ => rfl⟩, ?_⟩
  refine (ob (r.tmp (a, o) List.mem_cons_self).1).deep ?_
  rintro ((h | h | ⟨i, u, h1, h2⟩) | h)
  · exact r.ptm a List.mem_cons_self h
  · exact nd.1 h
  · exact r.tow i u a h1 h2 List.mem_cons_self
  · exact r.out a h (.inr (.inl List.mem_cons_self))

theorem get_set {α : Type} {l : List α} {i j : Nat} {x y : α} (h : (l.set i x)[j]? = some y) : (j = i ∧ y = x ∧ i < l.length) ∨ (j ≠ i ∧ l[j]? = some y) := by
  rw [List.getElem?_set] at h
  split at h
  · rename_i e
    split at h
    · rename_i hl
      exact .inl ⟨e.symm, (Option.some.inj h).symm, hl⟩
    · cases h
  · rename_i e
    exact .inr ⟨fun z => e z.symm, h⟩
theorem set_ne {α : Type} {l : List α} {i j : Nat} {x : α} (h : j ≠ i) : (l.set i x)[j]? = l[j]? := List.getElem?_set_ne (fun z => h z.symm)
theorem set_same {α : Type} {l : List α} {i : Nat} {x : α} (h : i < l.length) : (l.set i x)[i]? = some x := by simp [h]
/-- the slot i gets data: an own object there is let go -/
theorem Rep.setDp (r : Rep P ψ τ ρ O σ H) {i : Nat} {x : Sl} {y : Option V} (hi : i < ρ.length) (hx : ∀ o, x ≠ .own o) (hv : ∀ d, x = .dp d → ∃ v, y = some v ∧ RV P.K P.ca ψ (Wr P.U ψ τ (ρ.set i x) (σ.set i y)) H d v) (hp : P.pa[i]? = none ∨ P.pa[i]? = some none) :
    Aft P ψ τ ρ σ H ψ τ (ρ.set i x) O (σ.set i y) H := by
  have hiσ : i < σ.length := by rw [← r.len]; exact hi
  have hw0 : ∀ b, W0 ψ τ (ρ.set i x) (σ.set i y) b → W0 ψ τ ρ σ b := fun b h => by
    rcases h with h | h | ⟨j, u, h1, h2⟩
    · exact .inl h
    · exact .inr (.inl h)
    · rcases get_set h1 with ⟨e, q, _⟩ | ⟨e, q⟩
      · exact absurd q.symm (hx u)
      · rw [set_ne e] at h2
        exact .inr (.inr ⟨j, u, q, h2⟩)
  have hw : ∀ b, Wr P.U ψ τ (ρ.set i x) (σ.set i y) b → Wr P.U ψ τ ρ σ b := fun b h => h.imp (hw0 b) id
  have pr : Pres P.K (Wr P.U ψ τ ρ σ) H (Wr P.U ψ τ (ρ.set i x) (σ.set i y)) H := .less hw
  have ob : ∀ {a' : Addr} {u : Ob}, ObAt P.K P.ca ψ (Wr P.U ψ τ ρ σ) H a' u → ObAt P.K P.ca ψ (Wr P.U ψ τ (ρ.set i x) (σ.set i y)) H a' u := fun {a' u} h => h.mono (List.prefix_refl _) pr rfl
  have own : ∀ {j : Nat} {u : Ob}, (ρ.set i x)[j]? = some (.own u) → j ≠ i ∧ ρ[j]? = some (.own u) := fun {j u} h => by
    rcases get_set h with ⟨e, q, _⟩ | ⟨e, q⟩
    · exact absurd q.symm (hx u)
    · exact ⟨e, q⟩
  refine ⟨List.prefix_refl _, pr, ⟨by rw [List.length_set, List.length_set]; exact r.len, fun j d e => ?_, fun j u e => ?_, fun j k u w b h1 h2 h3 h4 => ?_, fun q hq => ⟨ob (r.tmp q hq).1, (r.tmp q hq).2⟩, r.tnd, fun j u b h1 h2 => ?_, r.plen, fun n a u e1 e2 => ob (r.oid n a u e1 e2), r.pnd, fun j u b h1 h2 => ?_, r.ptm, fun j b h => ?_, r.ent, fun b h z => r.out b h (hw0 b z), r.uob⟩, fun _ _ => rfl⟩
  · rcases get_set e with ⟨e, q, _⟩ | ⟨e, q⟩
    · subst e
      obtain ⟨v, h1, h2⟩ := hv d q.symm
      exact ⟨v, by rw [set_same hiσ, h1], h2⟩
    · obtain ⟨v, h1, h2⟩ := r.dp j d q
      exact ⟨v, by rw [set_ne e]; exact h1, h2.mono (List.prefix_refl _) pr⟩
  · obtain ⟨e, q⟩ := own e
    obtain ⟨b, h1, h2, h3⟩ := r.own j u q
    exact ⟨b, by rw [set_ne e]; exact h1, ob h2, h3⟩
  · obtain ⟨e1, q1⟩ := own h1
    obtain ⟨e2, q2⟩ := own h2
    rw [set_ne e1] at h3
    rw [set_ne e2] at h4
    exact r.inj j k u w b q1 q2 h3 h4
  · obtain ⟨e, q⟩ := own h1
    rw [set_ne e] at h2
    exact r.tow j u b q h2
  · obtain ⟨e, q⟩ := own h1
    rw [set_ne e] at h2
    exact r.pow j u b q h2
  · have ne : j ≠ i := fun z => by subst z; rcases hp with hp | hp <;> rw [hp] at h <;> cases h
    obtain ⟨⟨u, h1⟩, h2⟩ := r.par j b h
    exact ⟨⟨u, by rw [set_ne ne]; exact h1⟩, by rw [set_ne ne]; exact h2⟩
/-- the slot i takes the last new object -/
theorem Rep.setOwn (r : Rep P ψ ((a, o) :: τ) ρ O σ H) {i : Nat} (hi : i < ρ.length) (hp : P.pa[i]? = none ∨ P.pa[i]? = some none) :
    Aft P ψ ((a, o) :: τ) ρ σ H ψ τ (ρ.set i (.own o)) O (σ.set i (some (.ref a))) H := by
  have hiσ : i < σ.length := by rw [← r.len]; exact hi
  have nd := r.tnd
  rw [List.map_cons, List.nodup_cons] at nd
  have own : ∀ {j : Nat} {u : Ob} {b : Addr}, (ρ.set i (.own o))[j]? = some (.own u) → (σ.set i (some (.ref a)))[j]? = some (some (.ref b)) → (j = i ∧ u = o ∧ b = a) ∨ (j ≠ i ∧ ρ[j]? = some (.own u) ∧ σ[j]? = some (some (.ref b))) := fun {j u b} h h' => by
    rcases get_set h with ⟨e, q, _⟩ | ⟨e, q⟩
    · subst e
      rw [set_same hiσ] at h'
      refine .inl ⟨rfl, ?_, ?_⟩
      · injection q
      · injection h' with h'
        injection h' with h'
        injection h' with h'
        exact h'.symm
    · rw [set_ne e] at h'
      exact .inr ⟨e, q, h'⟩
  have hw0 : ∀ b, W0 ψ τ (ρ.set i (.own o)) (σ.set i (some (.ref a))) b → W0 ψ ((a, o) :: τ) ρ σ b := fun b h => by
    rcases h with h | h | ⟨j, u, h1, h2⟩
    · exact .inl h
    · exact .inr (.inl (List.mem_cons_of_mem _ h))
    · rcases own h1 h2 with ⟨_, _, e⟩ | ⟨_, q1, q2⟩
      · subst e; exact .inr (.inl List.mem_cons_self)
      · exact .inr (.inr ⟨j, u, q1, q2⟩)
  have hw : ∀ b, Wr P.U ψ τ (ρ.set i (.own o)) (σ.set i (some (.ref a))) b → Wr P.U ψ ((a, o) :: τ) ρ σ b := fun b h => h.imp (hw0 b) id
  have pr : Pres P.K (Wr P.U ψ ((a, o) :: τ) ρ σ) H (Wr P.U ψ τ (ρ.set i (.own o)) (σ.set i (some (.ref a)))) H := .less hw
  have ob : ∀ {a' : Addr} {u : Ob}, ObAt P.K P.ca ψ (Wr P.U ψ ((a, o) :: τ) ρ σ) H a' u → ObAt P.K P.ca ψ (Wr P.U ψ τ (ρ.set i (.own o)) (σ.set i (some (.ref a)))) H a' u := fun {a' u} h => h.mono (List.prefix_refl _) pr rfl
  refine ⟨List.prefix_refl _, pr, ⟨by rw [List.length_set, List.length_set]; exact r.len, fun j d e => ?_, fun j u e => ?_, fun j k u w b h1 h2 h3 h4 => ?_, fun q hq => ⟨ob (r.tmp q (List.mem_cons_of_mem _ hq)).1, (r.tmp q (List.mem_cons_of_mem _ hq)).2⟩, nd.2, fun j u b h1 h2 hm => ?_, r.plen, fun n a u e1 e2 => ob (r.oid n a u e1 e2), r.pnd, fun j u b h1 h2 => ?_,
    fun b hm => r.ptm b (List.mem_cons_of_mem _ hm), fun j b h => ?_, r.ent, fun b h z => r.out b h (hw0 b z), r.uob⟩, fun _ _ => rfl⟩
  · rcases get_set e with ⟨_, q, _⟩ | ⟨e, q⟩
    · cases q
    · obtain ⟨v, h1, h2⟩ := r.dp j d q
      exact ⟨v, by rw [set_ne e]; exact h1, h2.mono (List.prefix_refl _) pr⟩
  · rcases get_set e with ⟨e, q, _⟩ | ⟨e, q⟩
    · subst e
      injection q with q
      subst q
      exact ⟨a, set_same hiσ, ob (r.tmp (a, u) List.mem_cons_self).1, fun _ => (r.tmp (a, u) List.mem_cons_self).2⟩
    · obtain ⟨b, h1, h2, h3⟩ := r.own j u q
      exact ⟨b, by rw [set_ne e]; exact h1, ob h2, h3⟩
  · rcases own h1 h3 with ⟨e1, _, q1⟩ | ⟨e1, q1, p1⟩
    · rcases own h2 h4 with ⟨e2, _, q2⟩ | ⟨e2, q2, p2⟩
      · rw [e1, e2]
      · subst q1
        exact absurd List.mem_cons_self (r.tow k w b q2 p2)
    · rcases own h2 h4 with ⟨e2, _, q2⟩ | ⟨e2, q2, p2⟩
      · subst q2
        exact absurd List.mem_cons_self (r.tow j u b q1 p1)
      · exact r.inj j k u w b q1 q2 p1 p2
  · rcases own h1 h2 with ⟨_, _, q1⟩ | ⟨_, q1, p1⟩
    · subst q1; exact nd.1 hm
    · exact r.tow j u b q1 p1 (List.mem_cons_of_mem _ hm)
  · rcases own h1 h2 with ⟨_, _, q1⟩ | ⟨_, q1, p1⟩
    · subst q1; exact r.ptm b List.mem_cons_self
    · exact r.pow j u b q1 p1
  · have ne : j ≠ i := fun z => by subst z; rcases hp with hp | hp <;> rw [hp] at h <;> cases h
    obtain ⟨⟨u, h1⟩, h2⟩ := r.par j b h
    exact ⟨⟨u, by rw [set_ne ne]; exact h1⟩, by rw [set_ne ne]; exact h2⟩
/-- an own slot's object is data from now on -/
theorem Rep.freeze (r : Rep P ψ τ ρ O σ H) {i : Nat} (hi : ρ[i]? = some (.own o)) (hp : P.pa[i]? = none ∨ P.pa[i]? = some none) :
    ∃ a, σ[i]? = some (some (.ref a)) ∧ Aft P ψ τ ρ σ H ψ τ (ρ.set i (.dp o.deep)) O σ H ∧ RV P.K P.ca ψ (Wr P.U ψ τ (ρ.set i (.dp o.deep)) σ) H o.deep (.ref a) := by
  obtain ⟨a, ha, hob, _⟩ := r.own i o hi
  have hl : i < ρ.length := (List.getElem?_eq_some_iff.mp hi).1
  have hiσ : i < σ.length := by rw [← r.len]; exact hl
  have es : σ.set i (some (.ref a)) = σ := by
    apply List.ext_getElem?
    intro j
    by_cases e : j = i
    · subst e; rw [set_same hiσ, ha]
    · rw [set_ne e]
  have hw0 : ∀ b, W0 ψ τ (ρ.set i (.dp o.deep)) σ b → W0 ψ τ ρ σ b := fun b h => by
    rcases h with h | h | ⟨j, u, h1, h2⟩
    · exact .inl h
    · exact .inr (.inl h)
    · rcases get_set h1 with ⟨_, q, _⟩ | ⟨_, q⟩
      · cases q
      · exact .inr (.inr ⟨j, u, q, h2⟩)
  have hw : ∀ b, Wr P.U ψ τ (ρ.set i (.dp o.deep)) σ b → Wr P.U ψ τ ρ σ b := fun b h => h.imp (hw0 b) id
  have nw : ¬ Wr P.U ψ τ (ρ.set i (.dp o.deep)) σ a := by
    rintro ((h | h | ⟨j, u, h1, h2⟩) | h)
    · exact r.pow i o a hi ha h
    · exact r.tow i o a hi ha h
    · rcases get_set h1 with ⟨_, q, _⟩ | ⟨e, q⟩
      · cases q
      · exact e (r.inj j i u o a q hi h2 ha)
    · exact r.out a h (.inr (.inr ⟨i, o, hi, ha⟩))
  have rv : RV P.K P.ca ψ (Wr P.U ψ τ (ρ.set i (.dp o.deep)) σ) H o.deep (.ref a) := (hob.mono (List.prefix_refl _) (.less hw) rfl).deep nw
  have q := r.setDp (i := i) (x := .dp o.deep) (y := some (.ref a)) hl (fun _ z => by cases z) (fun d e => by
    injection e with e
    subst e
    exact ⟨_, rfl, by rw [es]; exact rv⟩) hp
  rw [es] at q
  exact ⟨a, ha, q, rv⟩
/-- an own slot's object is written -/
theorem Rep.write (r : Rep P ψ τ ρ O σ H) {i : Nat} {o' : Ob} {u : HO} (hi : ρ[i]? = some (.own o)) (ha : σ[i]? = some (some (.ref a))) (hob : ∀ W' H', (∀ b, W' b ↔ Wr P.U ψ τ ρ σ b) → Pres P.K (Wr P.U ψ τ ρ σ) H W' H' → H' a = some u → ObAt P.K P.ca ψ W' H' a o') :
    Aft P ψ τ ρ σ H ψ τ (ρ.set i (.own o')) O σ (upd H a u) := by
  have hl : i < ρ.length := (List.getElem?_eq_some_iff.mp hi).1
  have hw0 : ∀ b, W0 ψ τ (ρ.set i (.own o')) σ b ↔ W0 ψ τ ρ σ b := fun b => by
    constructor
    · rintro (h | h | ⟨j, w, h1, h2⟩)
      · exact .inl h
      · exact .inr (.inl h)
      · rcases get_set h1 with ⟨e, q, _⟩ | ⟨_, q⟩
        · subst e; exact .inr (.inr ⟨j, o, hi, h2⟩)
        · exact .inr (.inr ⟨j, w, q, h2⟩)
    · rintro (h | h | ⟨j, w, h1, h2⟩)
      · exact .inl h
      · exact .inr (.inl h)
      · by_cases e : j = i
        · subst e; exact .inr (.inr ⟨j, o', set_same hl, h2⟩)
        · exact .inr (.inr ⟨j, w, by rw [set_ne e]; exact h1, h2⟩)
  have hw : ∀ b, Wr P.U ψ τ (ρ.set i (.own o')) σ b ↔ Wr P.U ψ τ ρ σ b := fun b => or_congr (hw0 b) Iff.rfl
  have wa0 : W0 ψ τ ρ σ a := .inr (.inr ⟨i, o, hi, ha⟩)
  have wa : Wr P.U ψ τ ρ σ a := .inl wa0
  have nu : ∀ b, P.U b → b ≠ a := fun b h z => r.out b h (z ▸ wa0)
  have keep : ∀ b x, b ≠ a → H b = some x → upd H a u b = some x := fun b x e q => by rw [upd_ne e]; exact q
  have pr : Pres P.K (Wr P.U ψ τ ρ σ) H (Wr P.U ψ τ (ρ.set i (.own o')) σ) (upd H a u) := ⟨fun b x h n => ⟨keep b x (fun z => n (z ▸ wa)) h, fun z => n ((hw b).mp z)⟩, fun b xs s => sqt_but keep (r.wobj wa) s, fun b h => by
    by_cases e : b = a
    · subst e; rw [upd_same]; exact fun z => by cases z
    · rw [upd_ne e]; exact h⟩
  have ob : ∀ {b : Addr} {w : Ob}, b ≠ a → ObAt P.K P.ca ψ (Wr P.U ψ τ ρ σ) H b w → ObAt P.K P.ca ψ (Wr P.U ψ τ (ρ.set i (.own o')) σ) (upd H a u) b w := fun {b w} ne h => h.mono (List.prefix_refl _) pr (upd_ne ne)
  have own : ∀ {j : Nat} {w : Ob}, (ρ.set i (.own o'))[j]? = some (.own w) → ∃ w', ρ[j]? = some (.own w') := fun {j w} h => by
    rcases get_set h with ⟨e, _, _⟩ | ⟨_, q⟩
    · subst e; exact ⟨o, hi⟩
    · exact ⟨w, q⟩
  refine ⟨List.prefix_refl _, pr, ⟨by rw [List.length_set]; exact r.len, fun j d e => ?_, fun j w e => ?_, fun j k x y b h1 h2 h3 h4 => ?_, fun q hq => ⟨ob (fun z => ?_) (r.tmp q hq).1, (r.tmp q hq).2⟩, r.tnd, fun j w b h1 h2 => ?_, r.plen, fun n b w e1 e2 => ob (fun z => ?_) (r.oid n b w e1 e2), r.pnd, fun j w b h1 h2 => ?_, r.ptm, fun j b h => ?_,
    fun b h => pr.dom b (r.ent b h), fun b h z => r.out b h ((hw0 b).mp z), fun b h => by
      unfold Lo
      rw [upd_ne (nu b h)]
      exact r.uob b h⟩, fun b h => upd_ne (nu b h)⟩
  · rcases get_set e with ⟨_, q, _⟩ | ⟨_, q⟩
    · cases q
    · obtain ⟨v, h1, h2⟩ := r.dp j d q
      exact ⟨v, h1, h2.mono (List.prefix_refl _) pr⟩
  · rcases get_set e with ⟨e, q, _⟩ | ⟨e, q⟩
    · subst e
      injection q with q
      subst q
      obtain ⟨b, h1, h2, h3⟩ := r.own j o hi
      rw [ha] at h1
      cases h1
      exact ⟨a, ha, hob _ _ hw pr upd_same, h3⟩
    · obtain ⟨b, h1, h2, h3⟩ := r.own j w q
      refine ⟨b, h1, ob (fun z => ?_) h2, h3⟩
      subst z
      exact e (r.inj j i w o b q hi h1 ha)
  · obtain ⟨x', q1⟩ := own h1
    obtain ⟨y', q2⟩ := own h2
    exact r.inj j k x' y' b q1 q2 h3 h4
  · exact r.tow i o a hi ha (z ▸ List.mem_map.mpr ⟨q, hq, rfl⟩)
  · obtain ⟨w', q1⟩ := own h1
    exact r.tow j w' b q1 h2
  · subst z
    exact r.pow i o b hi ha (List.mem_of_getElem? e1)
  · obtain ⟨w', q1⟩ := own h1
    exact r.pow j w' b q1 h2
  · obtain ⟨⟨w, h1⟩, h2⟩ := r.par j b h
    refine ⟨?_, h2⟩
    by_cases e : j = i
    · subst e; exact ⟨o', set_same hl⟩
    · exact ⟨w, by rw [set_ne e]; exact h1⟩
end
end Fc
set_option Elab.async false
set_option linter.all false
set_option maxHeartbeats 1000000
set_option maxRecDepth 10000
/-! Readings; names, constants, operators. -/
namespace Fc
open PySem L2

theorem PE.imp {X : Cx} {e : Expr} {t t' : TE} (h : PE X e t) (i : ∀ σ H Q, t' σ H Q → t σ H Q) : PE X e t' := ⟨fun pins s σ H Q I q => h.run pins s σ H Q I (i _ _ _ q)⟩
theorem PT.imp {X : Cx} {e : Expr} {t t' : TT} (h : PT X e t) (i : ∀ σ H Q, t' σ H Q → t σ H Q) : PT X e t' := ⟨fun pins s σ H Q I q => h.run pins s σ H Q I (i _ _ _ q)⟩
theorem PA.imp {X : Cx} {e : List Expr} {t t' : TA} (h : PA X e t) (i : ∀ σ H Q, t' σ H Q → t σ H Q) : PA X e t' := ⟨fun p pins s σ H Q I q => h.run p pins s σ H Q I (i _ _ _ q)⟩
theorem PS.imp {X : Cx} {e : Stmt} {t t' : TS} (h : PS X e t) (i : ∀ σ H D, t' D σ H → t D σ H) : PS X e t' := ⟨fun pins s σ H D I q => h.run pins s σ H D I (i _ _ _ q)⟩
theorem PSs.imp {X : Cx} {e : List Stmt} {t t' : TS} (h : PSs X e t) (i : ∀ σ H D, t' D σ H → t D σ H) : PSs X e t' := ⟨fun pins s σ H D I q => h.run pins s σ H D I (i _ _ _ q)⟩

/-- a value's end: data, or a new object laid on τ -/
def Res (P : Par) (ψ : List Addr) (τ : List (Addr × Ob)) (ρ : List Sl) (σ : L2.St) (H : Hp) (l : L) (ρ' : List Sl) (O' : List Ob) (ψ' : List Addr) (H' : Hp) (v : V) : Prop :=
  match l with
  | .dp d => Aft P ψ τ ρ σ H ψ' τ ρ' O' σ H' ∧ RV P.K P.ca ψ' (Wr P.U ψ' τ ρ' σ) H' d v
  | .fr o => ∃ a, v = .ref a ∧ Aft P ψ τ ρ σ H ψ' ((a, o) :: τ) ρ' O' σ H'
section
variable {P : Par} {ψ ψ1 ψ' : List Addr} {τ τ1 : List (Addr × Ob)} {ρ ρ1 ρ' : List Sl} {O O1 O' : List Ob} {σ : L2.St} {H H1 H' : Hp} {l : L} {v : V}
theorem Res.deep (h : Res P ψ τ ρ σ H l ρ' O' ψ' H' v) : Aft P ψ τ ρ σ H ψ' τ ρ' O' σ H' ∧ RV P.K P.ca ψ' (Wr P.U ψ' τ ρ' σ) H' l.deep v := by
  cases l with
  | dp d => exact h
  | fr o =>
    obtain ⟨a, rfl, h⟩ := h
    obtain ⟨h2, h3⟩ := h.rep.pop
    exact ⟨h.trans h2, h3⟩
theorem Res.after (x : Aft P ψ τ ρ σ H ψ1 τ ρ1 O1 σ H1) (h : Res P ψ1 τ ρ1 σ H1 l ρ' O' ψ' H' v) : Res P ψ τ ρ σ H l ρ' O' ψ' H' v := by
  cases l with
  | dp d => exact ⟨x.trans h.1, h.2⟩
  | fr o =>
    obtain ⟨a, e, h⟩ := h
    exact ⟨a, e, x.trans h⟩
end

def tEv (Γ : Cx0) (P : Par) (t : Tm) : TE := fun σ H Q => ∃ ψ τ ρ O l ρ' O', Rep P ψ τ ρ O σ H ∧ ev Γ t (ρ, O) = some (l, (ρ', O')) ∧ ∀ ψ' H' v, Res P ψ τ ρ σ H l ρ' O' ψ' H' v → Q v H'

/-- the new objects with a place's -/
def tpl (p : Pl) (v : V) (τ : List (Addr × Ob)) : List (Addr × Ob) := match p, v with
  | .vl (.fr o), .ref a => (a, o) :: τ
  | _, _ => τ
def PlR (P : Par) (ψ : List Addr) (τ : List (Addr × Ob)) (ρ : List Sl) (σ : L2.St) (H : Hp) (p : Pl) (v : V) : Prop := match p with
  | .sl i => σ[i]? = some (some v)
  | .vl (.dp d) => RV P.K P.ca ψ (Wr P.U ψ τ ρ σ) H d v
  | .vl (.fr o) => ∃ a, v = .ref a ∧ (a, o) ∈ τ
def tPl (Γ : Cx0) (P : Par) (t : Tm) : TE := fun σ H Q => ∃ ψ τ ρ O p ρ' O', Rep P ψ τ ρ O σ H ∧ plOf t (ev Γ t) (ρ, O) = some (p, (ρ', O')) ∧
  ∀ ψ' H' v, Aft P ψ τ ρ σ H ψ' (tpl p v τ) ρ' O' σ H' → PlR P ψ' (tpl p v τ) ρ' σ H' p v → Q v H'
/-- v may be read as d -/
def Rdb (P : Par) (ψ : List Addr) (τ : List (Addr × Ob)) (ρ : List Sl) (σ : L2.St) (H : Hp) (d : D) (v : V) : Prop :=
  RV P.K P.ca ψ (Wr P.U ψ τ ρ σ) H d v ∨ ∃ a o, v = .ref a ∧ d = o.deep ∧ ObAt P.K P.ca ψ (Wr P.U ψ τ ρ σ) H a o
section
variable {P : Par} {ψ ψ1 ψ' : List Addr} {τ τ1 τ' : List (Addr × Ob)} {ρ ρ1 ρ' : List Sl} {O O1 O' : List Ob} {σ : L2.St} {H H1 H' : Hp} {l : L} {v : V} {p : Pl} {d : D}
theorem PlR.after (x : Aft P ψ τ ρ σ H ψ' τ' ρ' O' σ H') (ht : ∀ q ∈ τ, q ∈ τ') (h : PlR P ψ τ ρ σ H p v) : PlR P ψ' τ' ρ' σ H' p v := by
  cases p with
  | sl i => exact h
  | vl l =>
    cases l with
    | dp d => exact RV.mono x.pre x.pres h
    | fr o => obtain ⟨a, e, m⟩ := h; exact ⟨a, e, ht _ m⟩
theorem tpl_sub (p : Pl) (v : V) (τ : List (Addr × Ob)) : ∀ q ∈ τ, q ∈ tpl p v τ := fun q hq => by
  unfold tpl
  split
  · exact List.mem_cons_of_mem _ hq
  · exact hq
/-- a place's own new object is data again -/
theorem Rep.popl (r : Rep P ψ (tpl p v τ) ρ O σ H) : Aft P ψ (tpl p v τ) ρ σ H ψ τ ρ O σ H := by
  cases p with
  | sl i => exact .refl r
  | vl l =>
    cases l with
    | dp d => exact .refl r
    | fr o => cases v <;> first | exact .refl r | exact r.pop.1
theorem view_ok {s : E} (r : Rep P ψ τ ρ O σ H) (h : PlR P ψ τ ρ σ H p v) (e : view p (ρ, O) = some (d, s)) : Rdb P ψ τ ρ σ H d v := by
  cases p with
  | sl i =>
    unfold view at e
    dsimp only at e
    split at e
    · rename_i x hx
      obtain ⟨v', h1, h2⟩ := r.dp i x hx
      have hv : σ[i]? = some (some v) := h
      rw [hv] at h1
      cases h1
      cases e
      exact .inl h2
    · rename_i o hx
      obtain ⟨a, h1, h2, _⟩ := r.own i o hx
      have hv : σ[i]? = some (some v) := h
      rw [hv] at h1
      cases h1
      cases e
      exact .inr ⟨a, o, rfl, rfl, h2⟩
    · cases e
  | vl l =>
    have e' : some (l.deep, (ρ, O)) = some (d, s) := e
    cases e'
    cases l with
    | dp x => exact .inl h
    | fr o =>
      obtain ⟨a, e, m⟩ := h
      exact .inr ⟨a, o, e, rfl, (r.tmp _ m).1⟩
theorem Rdb.after (pre : ψ <+: ψ') (pr : Pres P.K (Wr P.U ψ τ ρ σ) H (Wr P.U ψ' τ' ρ' σ) H) (h : Rdb P ψ τ ρ σ H d v) : Rdb P ψ' τ' ρ' σ H d v := by
  rcases h with h | ⟨a, o, e1, e2, h⟩
  · exact .inl (h.mono pre pr)
  · exact .inr ⟨a, o, e1, e2, h.mono pre pr rfl⟩
/-- what a list, a tuple .. holds -/
theorem Rdb.lst {xs : List D} (h : Rdb P ψ τ ρ σ H (.lst xs) v) : ∃ a vs, v = .ref a ∧ H a = some (.lst vs) ∧ RVs P.K P.ca ψ (Wr P.U ψ τ ρ σ) H xs vs := by
  rcases h with h | ⟨a, o, e1, e2, h⟩
  · cases h with
    | lst h1 n h2 h3 => exact ⟨_, _, rfl, h1, h2, h3⟩
  · cases o with
    | lst ds =>
      cases e2
      obtain ⟨vs, h1, h2⟩ := h
      exact ⟨a, vs, e1, h1, h2⟩
    | ins c fs => cases e2
theorem Rdb.fls {xs : List D} (h : Rdb P ψ τ ρ σ H (.fls xs) v) : ∃ a vs, v = .ref a ∧ FL P.K (Wr P.U ψ τ ρ σ) H a vs ∧ RVs P.K P.ca ψ (Wr P.U ψ τ ρ σ) H xs vs := by
  rcases h with h | ⟨a, o, e1, e2, h⟩
  · cases h with
    | fls h1 h2 h3 => exact ⟨_, _, rfl, h1, h2, h3⟩
  · cases o <;> cases e2
theorem Rdb.tup {xs : List D} (h : Rdb P ψ τ ρ σ H (.tup xs) v) : ∃ a vs, v = .ref a ∧ SqT P.K H a vs ∧ RVs P.K P.ca ψ (Wr P.U ψ τ ρ σ) H xs vs := by
  rcases h with h | ⟨a, o, e1, e2, h⟩
  · cases h with
    | tup h1 h2 h3 => exact ⟨_, _, rfl, h1, h2, h3⟩
  · cases o <;> cases e2
theorem Rdb.int {i : Int} (h : Rdb P ψ τ ρ σ H (.int i) v) : v = .int i := by
  rcases h with h | ⟨a, o, e1, e2, h⟩
  · cases h; rfl
  · cases o <;> cases e2
theorem Rdb.bl {i : Bool} (h : Rdb P ψ τ ρ σ H (.bl i) v) : v = .bl i := by
  rcases h with h | ⟨a, o, e1, e2, h⟩
  · cases h; rfl
  · cases o <;> cases e2
theorem Rdb.str {i : Str} (h : Rdb P ψ τ ρ σ H (.str i) v) : v = .str i := by
  rcases h with h | ⟨a, o, e1, e2, h⟩
  · cases h; rfl
  · cases o <;> cases e2
theorem Rdb.non (h : Rdb P ψ τ ρ σ H .non v) : v = .non := by
  rcases h with h | ⟨a, o, e1, e2, h⟩
  · cases h; rfl
  · cases o <;> cases e2
theorem Rdb.ins {c : Nat} {fs : List (Str × D)} (h : Rdb P ψ τ ρ σ H (.ins c fs) v) : ∃ a dx vs, v = .ref a ∧ H a = some (.ins (P.ca c) dx vs) ∧ RVf P.K P.ca ψ (Wr P.U ψ τ ρ σ) H fs vs := by
  rcases h with h | ⟨a, o, e1, e2, h⟩
  · cases h with
    | ins h1 n h2 h3 => exact ⟨_, _, _, rfl, h1, h2, h3⟩
  · cases o with
    | lst ds => cases e2
    | ins c fs =>
      cases e2
      obtain ⟨dx, vs, h1, h2⟩ := h
      exact ⟨a, dx, vs, e1, h1, h2⟩

/-! ### ends -/
theorem res_dp (r : Rep P ψ τ ρ O σ H) (h : RV P.K P.ca ψ (Wr P.U ψ τ ρ σ) H d v) : Res P ψ τ ρ σ H (.dp d) ρ O ψ H v := ⟨.refl r, h⟩
/-- a new tuple -/
theorem res_tup (r : Rep P ψ τ ρ O σ H) {ds : List D} {vs : List V} (h : RVs P.K P.ca ψ (Wr P.U ψ τ ρ σ) H ds vs) {q : Addr} (hq : H q = none) : Res P ψ τ ρ σ H (.dp (.tup ds)) ρ O ψ (upd H q (.tup vs)) (.ref q) := by
  have a := r.ext (Ext.upd (u := .tup vs) hq)
  have h' := h.mono a.pre a.pres
  exact ⟨a, .tup (.inl (.inl upd_same)) h'.1 h'.2⟩
/-- a new list -/
theorem res_lst (r : Rep P ψ τ ρ O σ H) {ds : List D} {vs : List V} (h : RVs P.K P.ca ψ (Wr P.U ψ τ ρ σ) H ds vs) {q : Addr} (hq : H q = none) : Res P ψ τ ρ σ H (.fr (.lst ds)) ρ O ψ (upd H q (.lst vs)) (.ref q) :=
  ⟨q, rfl, r.push (Ext.upd hq) hq fun pr => ⟨vs, upd_same, h.mono (List.prefix_refl _) pr⟩⟩
end

/-! ### rules: from a state, with readable values, to an end -/
def rB (P : Par) (f : D → D → Option L) : R2 := fun x y H Q => ∃ ψ τ ρ O σ dx dy l, Rep P ψ τ ρ O σ H ∧ Rdb P ψ τ ρ σ H dx x ∧ Rdb P ψ τ ρ σ H dy y ∧ f dx dy = some l ∧ ∀ H' v, Res P ψ τ ρ σ H l ρ O ψ H' v → Q v H'
section
variable {X : Cx} {P : Par} {Γ : Cx0} {e a b : Expr} {t ta tb : Tm} {pos : Pos}
theorem var_ok {i : Nat} (h : PE X e (tVar i)) (hp : ∀ j a, P.pa[j]? = some (some a) → j < Γ.np) : PE X e (tEv Γ P (.var i)) := PE.imp h fun σ H Q q => by
  obtain ⟨ψ, τ, ρ, O, l, ρ', O', r, e, k⟩ := q
  have e' : getVar Γ.np i (ρ, O) = some (l, (ρ', O')) := e
  unfold getVar at e'
  dsimp only at e'
  split at e'
  · rename_i d hd
    cases e'
    obtain ⟨v, h1, h2⟩ := r.dp i d hd
    exact ⟨v, h1, k ψ H v (res_dp r h2)⟩
  · rename_i o ho
    split at e'
    · cases e'
    · rename_i hn
      cases e'
      have hpa : P.pa[i]? = none ∨ P.pa[i]? = some none := by
        cases q : P.pa[i]? with
        | none => exact .inl rfl
        | some z =>
          cases z with
          | none => exact .inr rfl
          | some a => exact absurd (hp i a q) hn
      obtain ⟨a, h1, h2, h3⟩ := r.freeze ho hpa
      exact ⟨_, h1, k ψ H _ ⟨h2, h3⟩⟩
  · cases e'
theorem place_ok (h : PE X e (tEv Γ P t)) (hv : ∀ i, t = .var i → PE X e (tVar i)) : PE X e (tPl Γ P t) := by
  by_cases c : ∃ i, t = .var i
  · obtain ⟨i, rfl⟩ := c
    refine PE.imp (hv i rfl) fun σ H Q q => ?_
    obtain ⟨ψ, τ, ρ, O, p, ρ', O', r, e, k⟩ := q
    unfold plOf at e
    dsimp only at e
    split at e
    · rename_i d hd
      cases e
      obtain ⟨v, h1, h2⟩ := r.dp i d hd
      exact ⟨v, h1, k ψ H v (.refl r) h2⟩
    · rename_i o ho
      cases e
      obtain ⟨a, h1, h2, _⟩ := r.own i o ho
      exact ⟨_, h1, k ψ H _ (.refl r) h1⟩
    · cases e
  · refine PE.imp h fun σ H Q q => ?_
    obtain ⟨ψ, τ, ρ, O, p, ρ', O', r, e, k⟩ := q
    have e2 : (match ev Γ t (ρ, O) with
      | some (l, s') => some (Pl.vl l, s')
      | none => none) = some (p, (ρ', O')) := by
      cases t <;> first | exact e | exact absurd ⟨_, rfl⟩ c
    split at e2
    · rename_i l s' hl
      cases e2
      refine ⟨ψ, τ, ρ, O, l, ρ', O', r, hl, fun ψ' H' v res => ?_⟩
      cases l with
      | dp d => exact k ψ' H' v res.1 res.2
      | fr o =>
        obtain ⟨a, e, res⟩ := res
        subst e
        exact k ψ' H' _ res ⟨a, rfl, List.mem_cons_self⟩
    · cases e2
theorem cst_ok {d : D} {t : TE} (h : PE X e t) (hd : ∀ σ H (Q : VK), (∀ v, (∀ ψ W, RV P.K P.ca ψ W H d v) → Q v H) → t σ H Q) : PE X e (tEv Γ P (.cst d)) := PE.imp h fun σ H Q q => by
  obtain ⟨ψ, τ, ρ, O, l, ρ', O', r, e, k⟩ := q
  have e' : some (L.dp d, (ρ, O)) = some (l, (ρ', O')) := e
  cases e'
  exact hd σ H Q fun v hv => k ψ H v (res_dp r (hv _ _))
/-- two places, then a rule -/
theorem two_ok {f : D → D → Option L} (m : Tm) (hm : ∀ s, ev Γ m s = (match plOf ta (ev Γ ta) s with
      | none => none
      | some (p, s1) => match plOf tb (ev Γ tb) s1 with
        | none => none
        | some (q, s2) => match view p s2, view q s2 with
          | some (x, _), some (y, _) => match f x y with
            | none => none
            | some l => some (l, s2)
          | _, _ => none)) {σ : L2.St} {H : Hp} {Q : VK} (q : tEv Γ P m σ H Q) :
    tPl Γ P ta σ H fun x H1 => tPl Γ P tb σ H1 fun y H2 => rB P f x y H2 Q := by
  obtain ⟨ψ, τ, ρ, O, l, ρ', O', r, e, k⟩ := q
  rw [hm] at e
  cases e1 : plOf ta (ev Γ ta) (ρ, O) with
  | none => rw [e1] at e; cases e
  | some z1 =>
    obtain ⟨p, ρ1, O1⟩ := z1
    rw [e1] at e
    dsimp only at e
    cases e2 : plOf tb (ev Γ tb) (ρ1, O1) with
    | none => rw [e2] at e; cases e
    | some z2 =>
      obtain ⟨q, ρ2, O2⟩ := z2
      rw [e2] at e
      dsimp only at e
      refine ⟨ψ, τ, ρ, O, p, ρ1, O1, r, e1, fun ψ1 H1 x a1 pl1 => ?_⟩
      refine ⟨ψ1, tpl p x τ, ρ1, O1, q, ρ2, O2, a1.rep, e2, fun ψ2 H2 y a2 pl2 => ?_⟩
      have pl1' : PlR P ψ2 (tpl q y (tpl p x τ)) ρ2 σ H2 p x := pl1.after a2 (tpl_sub _ _ _)
      cases v1 : view p (ρ2, O2) with
      | none => rw [v1] at e; cases e
      | some w1 =>
        obtain ⟨dx, s1⟩ := w1
        rw [v1] at e
        cases v2 : view q (ρ2, O2) with
        | none => rw [v2] at e; cases e
        | some w2 =>
          obtain ⟨dy, s2⟩ := w2
          rw [v2] at e
          dsimp only at e
          cases ef : f dx dy with
          | none => rw [ef] at e; cases e
          | some l' =>
            rw [ef] at e
            cases e
            have x1 := view_ok a2.rep pl1' v1
            have x2 := view_ok a2.rep pl2 v2
            have b1 := a2.rep.popl
            have b2 := b1.rep.popl
            have b := b1.trans b2
            refine ⟨ψ2, τ, _, _, σ, dx, dy, _, b.rep, x1.after b.pre b.pres, x2.after b.pre b.pres, ef, fun H' v res => k ψ2 H' v (Res.after ((a1.trans a2).trans b) res)⟩
theorem bin_ok {op : BOp} {po : Operator} (ho : OpR X (binaryOp po) (rB P (binD op))) (ha : PE X a (tPl Γ P ta)) (hb : PE X b (tPl Γ P tb)) : PE X (.BinOp a po b pos) (tEv Γ P (.bin op ta tb)) :=
  PE.imp (pe_op ho ha hb) fun σ H Q q => two_ok (.bin op ta tb) (fun s => rfl) q
end
end Fc
set_option Elab.async false
set_option linter.all false
set_option maxHeartbeats 1000000
set_option maxRecDepth 10000
/-! Operators. -/
namespace Fc
open PySem L2
theorem mulOk_fits {i j : Int} (h : mulOk i j = true) : IntMulOk i j := by
  have h3 : i.natAbs.log2 + j.natAbs.log2 < 100000000 := of_decide_eq_true h
  have b : ∀ x : Int, Builtin.Int.intBits x ≤ x.natAbs.log2 + 1 := fun x => by
    unfold Builtin.Int.intBits
    split <;> omega
  have h1 := b i
  have h2 := b j
  have e : bitsLine = 134217728 := by decide
  unfold IntMulOk
  intro z
  rw [Bool.and_eq_true] at z
  have z2 := z.2
  unfold Builtin.Int.intTooBig at z2
  have z3 := of_decide_eq_true z2
  rw [e] at z3
  omega
theorem gives_sub_bb (a b : Bool) : Gives (Builtin.«int.__sub__» ⟨[.bool a, .bool b], []⟩) (.int (bi a - bi b)) :=
  .of_wp fun M A E s Q h => by obtain ⟨hp, g, d, tk, os⟩ := s; wp_walk; exact ⟨_, rfl, h⟩
theorem sub_bb {a b : Bool} {prog : Program} {w : World} {A : Around} {E : Value → Shared → Prop} {s : Shared} {Q : Value → Shared → Prop} (h : Q (.int (bi a - bi b) s.toks) { s with toks := s.toks + 1 }) :
    wpAny (model prog w) A (binaryOp .Sub (.bool a) (.bool b)) Q E s :=
  PySem.binaryOp_gives (op := .Sub) (T := "bool") rfl rfl F.fills_bool_sub F.slot_bool_sub F.entry_int_sub (F.args_int_sub_2 _ _) (gives_sub_bb a b) trivial h
section
variable {X : Cx} {P : Par}
theorem ob_add (hK : P.K = X.K) : OpR X (binaryOp .Add) (rB P (binD .add)) := by
  intro pins s σ' H x y v u Q I rx ry h
  obtain ⟨ψ, τ, ρ, O, σ, dx, dy, l, r, hx, hy, e, k⟩ := h
  unfold binD at e
  split at e
  · rename_i i j
    obtain ⟨n, e1, e2⟩ := Option.map_eq_some_iff.mp e
    cases e1; cases e2
    exact op_add pins s σ' H x y v u Q I rx ry ⟨_, _, hx.int, hy.int, k H _ (res_dp r (.int _))⟩
  · contradiction
  · rename_i a b _
    split at e
    · rename_i hl
      cases e
      exact op_add_str pins s σ' H x y v u Q I rx ry ⟨_, _, hx.str, hy.str, hl, k H _ (res_dp r (.str _))⟩
    · cases e
  · rename_i a b _
    split at e
    · rename_i hl
      cases e
      obtain ⟨p, vs, rfl, hp, rp⟩ := hx.tup
      obtain ⟨q, us, rfl, hq, rq⟩ := hy.tup
      have rr := rp.append rq
      refine op_catA pins s σ' H _ _ v u Q I rx ry ⟨p, q, vs, us, rfl, rfl, hK ▸ hp, hK ▸ hq, by rw [← rp.1, ← rq.1]; exact hl, fun e0 => ?_, fun e0 e1 => ?_, fun e0 e1 t ht => k _ _ (res_tup r rr ht)⟩
      · subst e0
        have ea : a = [] := List.length_eq_zero_iff.mp rp.1
        subst ea
        exact k H _ (res_dp r (.tup hq rq.1 rq.2))
      · subst e1
        have ea : b = [] := List.length_eq_zero_iff.mp rq.1
        subst ea
        rw [List.append_nil] at k
        exact k H _ (res_dp r (.tup hp rp.1 rp.2))
    · cases e
  · rename_i a b _
    split at e
    · rename_i hl
      cases e
      obtain ⟨p, vs, rfl, hp, rp⟩ := hx.lst
      obtain ⟨q, us, rfl, hq, rq⟩ := hy.lst
      exact op_cat pins s σ' H _ _ v u Q I rx ry ⟨p, q, vs, us, rfl, rfl, hp, hq, by rw [← rp.1, ← rq.1]; exact hl, fun t ht => k _ _ (res_lst r (rp.append rq) ht)⟩
    · cases e
  · contradiction
  · cases e
theorem ob_sub (hK : P.K = X.K) : OpR X (binaryOp .Sub) (rB P (binD .sub)) := by
  intro pins s σ' H x y v u Q I rx ry h
  obtain ⟨ψ, τ, ρ, O, σ, dx, dy, l, r, hx, hy, e, k⟩ := h
  unfold binD at e
  split at e
  · rename_i i j
    obtain ⟨n, e1, e2⟩ := Option.map_eq_some_iff.mp e
    cases e1; cases e2
    exact op_sub pins s σ' H x y v u Q I rx ry ⟨_, _, hx.int, hy.int, k H _ (res_dp r (.int _))⟩
  · rename_i a b _
    cases e
    have ex := hx.bl
    have ey := hy.bl
    subst ex ey
    cases rx
    cases ry
    exact sub_bb ⟨.int _, H, I.tok _, ⟨_, rfl⟩, k H _ (res_dp r (.int _))⟩
  all_goals first | contradiction | cases e
theorem op_mulB : OpR X (binaryOp .Mult) (rI (fun i j => mulOk i j = true) fun i j => .int (i * j)) := opI fun _ _ _ _ _ _ _ hc q => PyProof.Rows.mul_int q (mulOk_fits hc)
theorem ob_mul (hK : P.K = X.K) : OpR X (binaryOp .Mult) (rB P (binD .mul)) := by
  intro pins s σ' H x y v u Q I rx ry h
  obtain ⟨ψ, τ, ρ, O, σ, dx, dy, l, r, hx, hy, e, k⟩ := h
  unfold binD at e
  split at e
  · rename_i i j
    obtain ⟨n, e1, e2⟩ := Option.map_eq_some_iff.mp e
    unfold binI at e1
    dsimp only at e1
    split at e1
    · rename_i hm
      cases e1; cases e2
      exact op_mulB pins s σ' H x y v u Q I rx ry ⟨_, _, hx.int, hy.int, hm, k H _ (res_dp r (.int _))⟩
    · cases e1
  · contradiction
  · contradiction
  · contradiction
  · contradiction
  · rename_i a n _
    split at e
    · rename_i hl
      cases e
      obtain ⟨p, vs, rfl, hp, rp⟩ := hx.lst
      exact op_rep pins s σ' H _ _ v u Q I rx ry ⟨p, n, vs, rfl, hy.int, hp, hl.1, hl.2.1, by rw [← rp.1]; exact hl.2.2, fun t ht => k _ _ (res_lst r (rp.flat _) ht)⟩
    · cases e
  · cases e
theorem op_fdivB : OpR X (binaryOp .FloorDiv) (rI (fun i j => j ≠ 0 ∧ j.natAbs.log2 < 9000) fun i j => .int (i.fdiv j)) := opI fun _ _ _ _ _ _ _ hc q => PyProof.Rows.floordiv_int hc.1 q (.inl (PyProof.noPylong_of_log2 hc.2))
theorem ob_fdiv (hK : P.K = X.K) : OpR X (binaryOp .FloorDiv) (rB P (binD .fdiv)) := by
  intro pins s σ' H x y v u Q I rx ry h
  obtain ⟨ψ, τ, ρ, O, σ, dx, dy, l, r, hx, hy, e, k⟩ := h
  unfold binD at e
  split at e
  · rename_i i j
    obtain ⟨n, e1, e2⟩ := Option.map_eq_some_iff.mp e
    unfold binI at e1
    dsimp only at e1
    split at e1
    · rename_i hm
      cases e1; cases e2
      rw [Bool.and_eq_true, bne_iff_ne, decide_eq_true_eq] at hm
      exact op_fdivB pins s σ' H x y v u Q I rx ry ⟨_, _, hx.int, hy.int, hm, k H _ (res_dp r (.int _))⟩
    · cases e1
  all_goals first | contradiction | cases e
theorem ob_mod (hK : P.K = X.K) : OpR X (binaryOp .Mod) (rB P (binD .mod)) := by
  intro pins s σ' H x y v u Q I rx ry h
  obtain ⟨ψ, τ, ρ, O, σ, dx, dy, l, r, hx, hy, e, k⟩ := h
  unfold binD at e
  split at e
  · rename_i i j
    obtain ⟨n, e1, e2⟩ := Option.map_eq_some_iff.mp e
    unfold binI at e1
    dsimp only at e1
    split at e1
    · cases e1
    · rename_i hm
      cases e1; cases e2
      exact op_modN pins s σ' H x y v u Q I rx ry ⟨_, _, hx.int, hy.int, hm, k H _ (res_dp r (.int _))⟩
  all_goals first | contradiction | cases e
theorem ob_pow (hK : P.K = X.K) : OpR X (binaryOp .Pow) (rB P (binD .pow)) := by
  intro pins s σ' H x y v u Q I rx ry h
  obtain ⟨ψ, τ, ρ, O, σ, dx, dy, l, r, hx, hy, e, k⟩ := h
  unfold binD at e
  split at e
  · rename_i i j
    obtain ⟨n, e1, e2⟩ := Option.map_eq_some_iff.mp e
    unfold binI at e1
    dsimp only at e1
    split at e1
    · rename_i hm
      cases e1; cases e2
      exact op_pow pins s σ' H x y v u Q I rx ry ⟨_, _, hx.int, hy.int, ⟨hm.1, by have := hm.2.1; omega, hm.2.2⟩, k H _ (res_dp r (.int _))⟩
    · cases e1
  all_goals first | contradiction | cases e
theorem ob_and (hK : P.K = X.K) : OpR X (binaryOp .BitAnd) (rB P (binD .and)) := by
  intro pins s σ' H x y v u Q I rx ry h
  obtain ⟨ψ, τ, ρ, O, σ, dx, dy, l, r, hx, hy, e, k⟩ := h
  unfold binD at e
  split at e
  · rename_i i j
    obtain ⟨n, e1, e2⟩ := Option.map_eq_some_iff.mp e
    cases e1; cases e2
    exact op_and pins s σ' H x y v u Q I rx ry ⟨_, _, hx.int, hy.int, k H _ (res_dp r (.int _))⟩
  all_goals first | contradiction | cases e
end
end Fc
set_option Elab.async false
set_option linter.all false
set_option maxHeartbeats 1000000
set_option maxRecDepth 10000
/-! Comparisons. -/
namespace Fc
open PySem L2
section
variable {P : Par} {ψ : List Addr} {τ : List (Addr × Ob)} {ρ : List Sl} {O : List Ob} {σ : L2.St} {H : Hp} {d : D} {v : V} {W : Addr → Prop}
theorem toPs_len : ∀ {xs : List D} {ps : List PyData}, toPs xs = some ps → xs.length = ps.length
  | [], ps, h => by cases h; rfl
  | x :: xs, ps, h => by
    unfold toPs at h
    split at h
    · cases h
    · obtain ⟨qs, h1, h2⟩ := Option.map_eq_some_iff.mp h
      subst h2
      simp [toPs_len h1]
theorem toPs_get : ∀ {xs : List D} {ps : List PyData}, toPs xs = some ps → ∀ (i : Nat) (d : D), xs[i]? = some d → ∃ p, ps[i]? = some p ∧ toP d = some p
  | [], ps, h, i, d, e => by simp at e
  | x :: xs, ps, h, i, d, e => by
    unfold toPs at h
    split at h
    · cases h
    · rename_i p hp
      obtain ⟨qs, h1, h2⟩ := Option.map_eq_some_iff.mp h
      subst h2
      cases i with
      | zero => simp at e; subst e; exact ⟨p, rfl, hp⟩
      | succ i => exact (toPs_get h1 i d (by simpa using e)).imp fun _ z => by simpa using z
theorem dpAll_of {K : PySem.W.Frag} : ∀ {vs : List V} {ps : List PyData}, vs.length = ps.length → (∀ (i : Nat) (v : V) (p : PyData), vs[i]? = some v → ps[i]? = some p → Dp K H v p) → DpAll K H vs ps
  | [], [], _, _ => .nil
  | [], _ :: _, h, _ => by simp at h
  | _ :: _, [], h, _ => by simp at h
  | v :: vs, p :: ps, h, f => .cons (f 0 v p rfl rfl) (dpAll_of (by simpa using h) fun i v p e1 e2 => f (i + 1) v p (by simpa using e1) (by simpa using e2))
theorem RV.dp {K : PySem.W.Frag} {ca : Nat → Addr} (h : RV K ca ψ W H d v) : ∀ {p : PyData}, toP d = some p → Dp K H v p := by
  induction h with
  | non => intro p e; unfold toP at e; cases e; exact .non
  | bl b => intro p e; unfold toP at e; cases e; exact .bl b
  | int i => intro p e; unfold toP at e; cases e; exact .int i
  | str s => intro p e; unfold toP at e; cases e; exact .str s
  | @tup a vs ds h1 h2 h3 ih =>
    intro p e
    unfold toP at e
    obtain ⟨ps, e1, e2⟩ := Option.map_eq_some_iff.mp e
    subst e2
    refine .tup h1 (dpAll_of (h2.symm.trans (toPs_len e1)) fun i v p k1 k2 => ?_)
    have hi : i < ds.length := by rw [h2]; exact (List.getElem?_eq_some_iff.mp k1).1
    obtain ⟨q, q1, q2⟩ := toPs_get e1 i ds[i] (by simp [hi])
    rw [k2] at q1
    cases q1
    exact ih i ds[i] v (by simp [hi]) k1 q2
  | @lst a vs ds h1 n h2 h3 ih =>
    intro p e
    unfold toP at e
    obtain ⟨ps, e1, e2⟩ := Option.map_eq_some_iff.mp e
    subst e2
    refine .lst (.inl (.inl h1)) (dpAll_of (h2.symm.trans (toPs_len e1)) fun i v p k1 k2 => ?_)
    have hi : i < ds.length := by rw [h2]; exact (List.getElem?_eq_some_iff.mp k1).1
    obtain ⟨q, q1, q2⟩ := toPs_get e1 i ds[i] (by simp [hi])
    rw [k2] at q1
    cases q1
    exact ih i ds[i] v (by simp [hi]) k1 q2
  | ins _ _ _ _ _ => intro p e; unfold toP at e; cases e
  | dic _ _ _ _ _ => intro p e; unfold toP at e; cases e
  | oid _ => intro p e; unfold toP at e; cases e
  | fls _ _ _ _ => intro p e; unfold toP at e; cases e
theorem RVs.dpAll {K : PySem.W.Frag} {ca : Nat → Addr} {xs : List D} {vs : List V} (h : RVs K ca ψ W H xs vs) {ps : List PyData} (e : toPs xs = some ps) : DpAll K H vs ps := by
  refine dpAll_of (h.1.symm.trans (toPs_len e)) fun i v p k1 k2 => ?_
  have hi : i < xs.length := by rw [h.1]; exact (List.getElem?_eq_some_iff.mp k1).1
  obtain ⟨q, q1, q2⟩ := toPs_get e i xs[i] (by simp [hi])
  rw [k2] at q1
  cases q1
  exact (h.2 i xs[i] v (by simp [hi]) k1).dp q2
theorem Rdb.dp (h : Rdb P ψ τ ρ σ H d v) {p : PyData} (e : toP d = some p) : Dp P.K H v p := by
  rcases h with h | ⟨a, o, rfl, rfl, h⟩
  · exact RV.dp h e
  · cases o with
    | lst ds =>
      obtain ⟨vs, h1, h2⟩ := h
      unfold Ob.deep toP at e
      obtain ⟨ps, e1, e2⟩ := Option.map_eq_some_iff.mp e
      subst e2
      exact .lst (.inl (.inl h1)) (h2.dpAll e1)
    | ins c fs => unfold Ob.deep toP at e; cases e
theorem flat_rel (f : flatD d = true) (h : Rdb P ψ τ ρ σ H d v) : L2.flatV v = true := by
  cases d <;> first | cases f | skip
  · rw [h.non]; rfl
  · rw [h.bl]; rfl
  · rw [h.int]; rfl
  · rw [h.str]; rfl
theorem eqF_rel {e : D} {u : V} (f : flatD d = true) (g : flatD e = true) (h : Rdb P ψ τ ρ σ H d v) (k : Rdb P ψ τ ρ σ H e u) : L2.eqV v u = eqF d e := by
  cases d <;> first | cases f | skip
  all_goals cases e <;> first | cases g | skip
  all_goals first
    | (rw [h.non, k.non]; rfl) | (rw [h.non, k.bl]; rfl) | (rw [h.non, k.int]; rfl) | (rw [h.non, k.str]; rfl)
    | (rw [h.bl, k.non]; rfl) | (rw [h.bl, k.bl]; rfl) | (rw [h.bl, k.int]; rfl) | (rw [h.bl, k.str]; rfl)
    | (rw [h.int, k.non]; rfl) | (rw [h.int, k.bl]; rfl) | (rw [h.int, k.int]; rfl) | (rw [h.int, k.str]; rfl)
    | (rw [h.str, k.non]; rfl) | (rw [h.str, k.bl]; rfl) | (rw [h.str, k.int]; rfl) | (rw [h.str, k.str]; rfl)
end
theorem op_eqFlat {X : Cx} : OpR X (compareOp .Eq) (fun x y H Q => L2.flatV x = true ∧ L2.flatV y = true ∧ Q (.bl (L2.eqV x y)) H) := by
  intro pins s σ H x y v u Q I rx ry h
  obtain ⟨fx, fy, q⟩ := h
  have fin : ∀ {k : Bool}, k = L2.eqV x y → EP X pins σ Q (.bool k) s := fun {k} e => ⟨.bl _, H, I, by rw [e]; rfl, q⟩
  cases x with
  | non =>
    cases rx
    cases y with
    | non =>
      cases ry
      exact (SeqAt.RcAt.none_none) _ _ _ _ (fin rfl)
    | bl j =>
      cases ry
      exact (SeqAt.RcAt.none_bool j) _ _ _ _ (fin rfl)
    | int j =>
      obtain ⟨u, rfl⟩ := ry
      exact (SeqAt.RcAt.none_int j u) _ _ _ _ (fin rfl)
    | str j =>
      obtain ⟨u, rfl⟩ := ry
      exact (SeqAt.RcAt.none_str j u) _ _ _ _ (fin rfl)
    | _ => cases fy
  | bl i =>
    cases rx
    cases y with
    | non =>
      cases ry
      exact (SeqAt.RcAt.bool_none i) _ _ _ _ (fin rfl)
    | bl j =>
      cases ry
      exact (SeqAt.RcAt.bool_bool i j) _ _ _ _ (fin rfl)
    | int j =>
      obtain ⟨u, rfl⟩ := ry
      exact (SeqAt.RcAt.bool_int i j u) _ _ _ _ (fin rfl)
    | str j =>
      obtain ⟨u, rfl⟩ := ry
      exact (SeqAt.RcAt.bool_str i j u) _ _ _ _ (fin rfl)
    | _ => cases fy
  | int i =>
    obtain ⟨t, rfl⟩ := rx
    cases y with
    | non =>
      cases ry
      exact (SeqAt.RcAt.int_none i t) _ _ _ _ (fin rfl)
    | bl j =>
      cases ry
      exact (SeqAt.RcAt.int_bool i t j) _ _ _ _ (fin rfl)
    | int j =>
      obtain ⟨u, rfl⟩ := ry
      exact (SeqAt.RcAt.int_int i t j u) _ _ _ _ (fin rfl)
    | str j =>
      obtain ⟨u, rfl⟩ := ry
      exact (SeqAt.RcAt.int_str i t j u) _ _ _ _ (fin rfl)
    | _ => cases fy
  | str i =>
    obtain ⟨t, rfl⟩ := rx
    cases y with
    | non =>
      cases ry
      exact (SeqAt.RcAt.str_none i t) _ _ _ _ (fin rfl)
    | bl j =>
      cases ry
      exact (SeqAt.RcAt.str_bool i t j) _ _ _ _ (fin rfl)
    | int j =>
      obtain ⟨u, rfl⟩ := ry
      exact (SeqAt.RcAt.str_int i t j u) _ _ _ _ (fin rfl)
    | str j =>
      obtain ⟨u, rfl⟩ := ry
      exact (SeqAt.RcAt.str_str i t j u) _ _ _ _ (fin rfl)
    | _ => cases fy
  | _ => cases fx
theorem op_neFlat {X : Cx} : OpR X (compareOp .NotEq) (fun x y H Q => L2.flatV x = true ∧ L2.flatV y = true ∧ Q (.bl (!L2.eqV x y)) H) := by
  intro pins s σ H x y v u Q I rx ry h
  obtain ⟨fx, fy, q⟩ := h
  have fin : ∀ {k : Bool}, k = !L2.eqV x y → EP X pins σ Q (.bool k) s := fun {k} e => ⟨.bl _, H, I, by rw [e]; rfl, q⟩
  cases x with
  | non =>
    cases rx
    cases y with
    | non =>
      cases ry
      exact (SeqAt.RcNeAt.none_none) _ _ _ _ (fin rfl)
    | bl j =>
      cases ry
      exact (SeqAt.RcNeAt.none_bool j) _ _ _ _ (fin rfl)
    | int j =>
      obtain ⟨u, rfl⟩ := ry
      exact (SeqAt.RcNeAt.none_int j u) _ _ _ _ (fin rfl)
    | str j =>
      obtain ⟨u, rfl⟩ := ry
      exact (SeqAt.RcNeAt.none_str j u) _ _ _ _ (fin rfl)
    | _ => cases fy
  | bl i =>
    cases rx
    cases y with
    | non =>
      cases ry
      exact (SeqAt.RcNeAt.bool_none i) _ _ _ _ (fin rfl)
    | bl j =>
      cases ry
      exact (SeqAt.RcNeAt.bool_bool i j) _ _ _ _ (fin rfl)
    | int j =>
      obtain ⟨u, rfl⟩ := ry
      exact (SeqAt.RcNeAt.bool_int i j u) _ _ _ _ (fin rfl)
    | str j =>
      obtain ⟨u, rfl⟩ := ry
      exact (SeqAt.RcNeAt.bool_str i j u) _ _ _ _ (fin rfl)
    | _ => cases fy
  | int i =>
    obtain ⟨t, rfl⟩ := rx
    cases y with
    | non =>
      cases ry
      exact (SeqAt.RcNeAt.int_none i t) _ _ _ _ (fin rfl)
    | bl j =>
      cases ry
      exact (SeqAt.RcNeAt.int_bool i t j) _ _ _ _ (fin rfl)
    | int j =>
      obtain ⟨u, rfl⟩ := ry
      exact (SeqAt.RcNeAt.int_int i t j u) _ _ _ _ (fin rfl)
    | str j =>
      obtain ⟨u, rfl⟩ := ry
      exact (SeqAt.RcNeAt.int_str i t j u) _ _ _ _ (fin rfl)
    | _ => cases fy
  | str i =>
    obtain ⟨t, rfl⟩ := rx
    cases y with
    | non =>
      cases ry
      exact (SeqAt.RcNeAt.str_none i t) _ _ _ _ (fin rfl)
    | bl j =>
      cases ry
      exact (SeqAt.RcNeAt.str_bool i t j) _ _ _ _ (fin rfl)
    | int j =>
      obtain ⟨u, rfl⟩ := ry
      exact (SeqAt.RcNeAt.str_int i t j u) _ _ _ _ (fin rfl)
    | str j =>
      obtain ⟨u, rfl⟩ := ry
      exact (SeqAt.RcNeAt.str_str i t j u) _ _ _ _ (fin rfl)
    | _ => cases fy
  | _ => cases fx
end Fc
set_option Elab.async false
set_option linter.all false
set_option maxHeartbeats 1000000
set_option maxRecDepth 10000
/-! Comparisons: the rules. -/
namespace Fc
open PySem L2
/-- a comparison's end -/
def cmpL (op : COp) (a b : D) : Option L := (cmpD op a b).map fun c => .dp (.bl c)
section
variable {X : Cx} {P : Par}
theorem rB_cmp {op : COp} {f : Value → Value → Sem Value}
    (h : ∀ (pins : List (Addr × Obj)) (s : Shared) (σ' : L2.St) (H : Hp) (x y : V) (v u : Value) (Q : VK) ψ τ ρ O σ dx dy c, Inv X pins σ' H s → RelV x v → RelV y u → Rep P ψ τ ρ O σ H → Rdb P ψ τ ρ σ H dx x → Rdb P ψ τ ρ σ H dy y → cmpD op dx dy = some c → Q (.bl c) H →
      wpAny (model X.prog X.w) X.A (f v u) (EP X pins σ' Q) X.xe s) : OpR X f (rB P (cmpL op)) := by
  intro pins s σ' H x y v u Q I rx ry h'
  obtain ⟨ψ, τ, ρ, O, σ, dx, dy, l, r, hx, hy, e, k⟩ := h'
  unfold cmpL at e
  obtain ⟨c, e1, e2⟩ := Option.map_eq_some_iff.mp e
  subst e2
  exact h pins s σ' H x y v u Q ψ τ ρ O σ dx dy c I rx ry r hx hy e1 (k H _ (res_dp r (.bl c)))
theorem eqD_cases {a b : D} {c : Bool} (h : eqD a b = some c) : (flatD a = true ∧ flatD b = true ∧ c = eqF a b) ∨ (∃ xs, a = .lst xs ∧ b = .lst [] ∧ c = xs.isEmpty) ∨ (∃ xs, a = .tup xs ∧ b = .tup [] ∧ c = xs.isEmpty) ∨
    ∃ p q, toP a = some p ∧ toP b = some q ∧ SeqAt.shaped p = true ∧ SeqAt.shaped q = true ∧ c = PyData.eqv p q := by
  unfold eqD at h
  split at h
  · rename_i hf
    rw [Bool.and_eq_true] at hf
    cases h
    exact .inl ⟨hf.1, hf.2, rfl⟩
  · split at h
    · cases h
      exact .inr (.inl ⟨_, rfl, rfl, rfl⟩)
    · cases h
      exact .inr (.inr (.inl ⟨_, rfl, rfl, rfl⟩))
    · unfold eqP at h
      split at h
      · rename_i p q h1 h2
        split at h
        · rename_i hs
          rw [Bool.and_eq_true] at hs
          cases h
          exact .inr (.inr (.inr ⟨p, q, h1, h2, hs.1, hs.2, rfl⟩))
        · cases h
      · cases h
theorem oc_eq (hK : P.K = X.K) (hu : X.A.units + 65 < cLine) : OpR X (compareOp .Eq) (rB P (cmpL .eq)) := rB_cmp fun pins s σ' H x y v u Q ψ τ ρ O σ dx dy c I rx ry r hx hy e q => by
  have e' : eqD dx dy = some c := e
  rcases eqD_cases e' with ⟨f, g, rfl⟩ | ⟨xs, rfl, rfl, rfl⟩ | ⟨xs, rfl, rfl, rfl⟩ | ⟨p, p', h1, h2, s1, s2, rfl⟩
  · exact op_eqFlat pins s σ' H x y v u Q I rx ry ⟨flat_rel f hx, flat_rel g hy, by rw [eqF_rel f g hx hy]; exact q⟩
  · obtain ⟨a, vs, rfl, ha, ra⟩ := hx.lst
    obtain ⟨b, us, rfl, hb, rb⟩ := hy.lst
    have eb := rb.nil_inv
    subst eb
    cases rx
    cases ry
    obtain ⟨i1, r1, p1, _⟩ := I.list (.inl (.inl ha))
    obtain ⟨i2, r2, p2, _⟩ := I.list (.inl (.inl hb))
    cases r2
    have n1 : i1.toArray.size = xs.length := by rw [ra.1, r1.length]; simp
    cases xs with
    | nil =>
      have e0 : i1 = [] := List.length_eq_zero_iff.mp (by simpa using n1)
      subst e0
      exact SeqAt.RcAt.lists (e := fun _ => true) p1.isList p2.isList rfl (by omega) (fun j h1 => absurd h1 (by simp)) _ _ _ _ ⟨.bl _, H, I, rfl, q⟩
    | cons x xs => exact SeqAt.RcAt.lists_lengths p1.isList p2.isList (by rw [n1]; simp) (by omega) _ _ _ _ ⟨.bl _, H, I, rfl, q⟩
  · obtain ⟨a, vs, rfl, ha, ra⟩ := hx.tup
    obtain ⟨b, us, rfl, hb, rb⟩ := hy.tup
    have eb := rb.nil_inv
    subst eb
    cases rx
    cases ry
    rw [hK] at ha hb
    obtain ⟨i1, r1, p1, _⟩ := I.tuple ha
    obtain ⟨i2, r2, p2, _⟩ := I.tuple hb
    cases r2
    have n1 : i1.toArray.size = xs.length := by rw [ra.1, r1.length]; simp
    refine SeqAt.RcAt.tuples (e := fun _ => true) p1 p2 (by omega) (fun j h1 h2 => absurd h2 (by simp)) _ _ _ _ ⟨.bl _, H, I, ?_, q⟩
    rw [n1]
    cases xs <;> simp [RelV]
  · exact op_eqD (by omega) pins s σ' H x y v u Q I rx ry ⟨p, p', hK ▸ hx.dp h1, hK ▸ hy.dp h2, s1, s2, q⟩
theorem oc_ne (hK : P.K = X.K) (hu : X.A.units + 65 < cLine) : OpR X (compareOp .NotEq) (rB P (cmpL .ne)) := rB_cmp fun pins s σ' H x y v u Q ψ τ ρ O σ dx dy c I rx ry r hx hy e q => by
  have e' : (eqD dx dy).map not = some c := e
  obtain ⟨c', e1, e2⟩ := Option.map_eq_some_iff.mp e'
  subst e2
  rcases eqD_cases e1 with ⟨f, g, rfl⟩ | ⟨xs, rfl, rfl, rfl⟩ | ⟨xs, rfl, rfl, rfl⟩ | ⟨p, p', h1, h2, s1, s2, rfl⟩
  · exact op_neFlat pins s σ' H x y v u Q I rx ry ⟨flat_rel f hx, flat_rel g hy, by rw [eqF_rel f g hx hy]; exact q⟩
  · obtain ⟨a, vs, rfl, ha, ra⟩ := hx.lst
    obtain ⟨b, us, rfl, hb, rb⟩ := hy.lst
    have eb := rb.nil_inv
    subst eb
    cases rx
    cases ry
    obtain ⟨i1, r1, p1, _⟩ := I.list (.inl (.inl ha))
    obtain ⟨i2, r2, p2, _⟩ := I.list (.inl (.inl hb))
    cases r2
    have n1 : i1.toArray.size = xs.length := by rw [ra.1, r1.length]; simp
    cases xs with
    | nil =>
      have e0 : i1 = [] := List.length_eq_zero_iff.mp (by simpa using n1)
      subst e0
      exact SeqAt.RcNeAt.lists (e := fun _ => true) p1.isList p2.isList rfl (by omega) (fun j h1 => absurd h1 (by simp)) _ _ _ _ ⟨.bl _, H, I, rfl, q⟩
    | cons x xs => exact SeqAt.RcNeAt.lists_lengths p1.isList p2.isList (by rw [n1]; simp) (by omega) _ _ _ _ ⟨.bl _, H, I, rfl, q⟩
  · obtain ⟨a, vs, rfl, ha, ra⟩ := hx.tup
    obtain ⟨b, us, rfl, hb, rb⟩ := hy.tup
    have eb := rb.nil_inv
    subst eb
    cases rx
    cases ry
    rw [hK] at ha hb
    obtain ⟨i1, r1, p1, _⟩ := I.tuple ha
    obtain ⟨i2, r2, p2, _⟩ := I.tuple hb
    cases r2
    have n1 : i1.toArray.size = xs.length := by rw [ra.1, r1.length]; simp
    refine SeqAt.RcNeAt.tuples (e := fun _ => true) p1 p2 (by omega) (fun j h1 h2 => absurd h2 (by simp)) _ _ _ _ ⟨.bl _, H, I, ?_, q⟩
    rw [n1]
    cases xs <;> simp [RelV]
  · exact op_neD (by omega) pins s σ' H x y v u Q I rx ry ⟨p, p', hK ▸ hx.dp h1, hK ▸ hy.dp h2, s1, s2, q⟩
theorem oc_lt : OpR X (compareOp .Lt) (rB P (cmpL .lt)) := rB_cmp fun pins s σ' H x y v u Q ψ τ ρ O σ dx dy c I rx ry r hx hy e q => by
  unfold cmpD at e
  split at e <;> first | contradiction | skip
  all_goals first | (cases e; exact op_lt pins s σ' H x y v u Q I rx ry ⟨_, _, hx.int, hy.int, q⟩) | cases e
theorem oc_le : OpR X (compareOp .LtE) (rB P (cmpL .le)) := rB_cmp fun pins s σ' H x y v u Q ψ τ ρ O σ dx dy c I rx ry r hx hy e q => by
  unfold cmpD at e
  split at e <;> first | contradiction | skip
  all_goals first | (cases e; exact op_le pins s σ' H x y v u Q I rx ry ⟨_, _, hx.int, hy.int, q⟩) | cases e
theorem oc_gt : OpR X (compareOp .Gt) (rB P (cmpL .gt)) := rB_cmp fun pins s σ' H x y v u Q ψ τ ρ O σ dx dy c I rx ry r hx hy e q => by
  unfold cmpD at e
  split at e <;> first | contradiction | skip
  all_goals first | (cases e; exact op_gt pins s σ' H x y v u Q I rx ry ⟨_, _, hx.int, hy.int, q⟩) | cases e
theorem oc_ge : OpR X (compareOp .GtE) (rB P (cmpL .ge)) := rB_cmp fun pins s σ' H x y v u Q ψ τ ρ O σ dx dy c I rx ry r hx hy e q => by
  unfold cmpD at e
  split at e <;> first | contradiction | skip
  all_goals first | (cases e; exact op_ge pins s σ' H x y v u Q I rx ry ⟨_, _, hx.int, hy.int, q⟩) | cases e
/-- no data but None is told by None -/
theorem Rdb.isNon {ψ : List Addr} {τ : List (Addr × Ob)} {ρ : List Sl} {σ : L2.St} {H : Hp} {d : D} {v : V} (h : Rdb P ψ τ ρ σ H d v) : (v = .non) ↔ d = .non := by
  constructor
  · intro e
    subst e
    rcases h with h | ⟨a, o, e1, _⟩
    · cases h; rfl
    · cases e1
  · intro e
    subst e
    exact h.non
theorem oc_is : OpR X (compareOp .Is) (rB P (cmpL .is)) := rB_cmp fun pins s σ' H x y v u Q ψ τ ρ O σ dx dy c I rx ry r hx hy e q => by
  have key : dy = .non → c = decide (x = .non) → wpAny (model X.prog X.w) X.A (compareOp .Is v u) (EP X pins σ' Q) X.xe s := fun e1 e2 => by
    subst e1
    exact op_isN pins s σ' H x y v u Q I rx ry ⟨hy.non, e2 ▸ q⟩
  have nn : dx ≠ .non → false = decide (x = .non) := fun h => (decide_eq_false fun z => h (hx.isNon.mp z)).symm
  unfold cmpD at e
  split at e <;> first | contradiction | skip
  · cases e; exact key rfl (by rw [hx.non]; rfl)
  · cases e; exact op_is_bl pins s σ' H x y v u Q I rx ry ⟨_, _, hx.bl, hy.bl, q⟩
  all_goals first | (cases e; exact key rfl (nn (fun z => by cases z))) | cases e
theorem oc_isn : OpR X (compareOp .IsNot) (rB P (cmpL .isn)) := rB_cmp fun pins s σ' H x y v u Q ψ τ ρ O σ dx dy c I rx ry r hx hy e q => by
  have key : dy = .non → c = !decide (x = .non) → wpAny (model X.prog X.w) X.A (compareOp .IsNot v u) (EP X pins σ' Q) X.xe s := fun e1 e2 => by
    subst e1
    exact op_notN pins s σ' H x y v u Q I rx ry ⟨hy.non, e2 ▸ q⟩
  have nn : dx ≠ .non → true = !decide (x = .non) := fun h => by rw [decide_eq_false fun z => h (hx.isNon.mp z)]; rfl
  unfold cmpD at e
  split at e <;> first | contradiction | skip
  · cases e; exact key rfl (by rw [hx.non]; rfl)
  · cases e; exact op_isnot_bl pins s σ' H x y v u Q I rx ry ⟨_, _, hx.bl, hy.bl, q⟩
  all_goals first | (cases e; exact key rfl (nn (fun z => by cases z))) | cases e
theorem inS_cases {a : D} {xs : List D} {c : Bool} (h : inS a xs = some c) : (flatD a = true ∧ xs.all flatD = true ∧ c = xs.any fun y => eqF y a) ∨
    ∃ p ps, toP a = some p ∧ toPs xs = some ps ∧ SeqAt.shaped p = true ∧ SeqAt.shaped (.list ps) = true ∧ c = ps.any fun z => PyData.eqv z p := by
  unfold inS at h
  split at h
  · rename_i hf
    rw [Bool.and_eq_true] at hf
    cases h
    exact .inl ⟨hf.1, hf.2, rfl⟩
  · unfold inP at h
    split at h
    · rename_i p ps h1 h2
      split at h
      · rename_i hs
        rw [Bool.and_eq_true] at hs
        cases h
        exact .inr ⟨p, ps, h1, h2, hs.1, hs.2, rfl⟩
      · cases h
    · cases h
theorem flats_rel {ψ : List Addr} {τ : List (Addr × Ob)} {ρ : List Sl} {σ : L2.St} {H : Hp} : ∀ {xs : List D} {vs : List V}, RVs P.K P.ca ψ (Wr P.U ψ τ ρ σ) H xs vs → xs.all flatD = true → vs.all L2.flatV = true
  | [], vs, h, _ => by rw [h.nil_inv]; rfl
  | x :: xs, vs, h, f => by
    obtain ⟨v, vs', rfl, h1, h2⟩ := h.cons_inv
    rw [List.all_cons, Bool.and_eq_true] at f ⊢
    exact ⟨flat_rel (P := P) f.1 (.inl h1), flats_rel h2 f.2⟩
theorem inV_rel {ψ : List Addr} {τ : List (Addr × Ob)} {ρ : List Sl} {σ : L2.St} {H : Hp} {a : D} {x : V} (ha : Rdb P ψ τ ρ σ H a x) (fa : flatD a = true) : ∀ {xs : List D} {vs : List V}, RVs P.K P.ca ψ (Wr P.U ψ τ ρ σ) H xs vs → xs.all flatD = true → L2.inV x vs = xs.any fun y => eqF y a
  | [], vs, h, _ => by rw [h.nil_inv]; rfl
  | y :: xs, vs, h, f => by
    obtain ⟨v, vs', rfl, h1, h2⟩ := h.cons_inv
    rw [List.all_cons, Bool.and_eq_true] at f
    have ih := inV_rel ha fa h2 f.2
    unfold L2.inV at ih ⊢
    rw [List.any_cons, List.any_cons, ih, eqF_rel f.1 fa (.inl h1) ha]
/-- what is in a list or tuple -/
theorem in_seq (hK : P.K = X.K) (hu : X.A.units + 65 < cLine) {pins : List (Addr × Obj)} {s : Shared} {σ' : L2.St} {H : Hp} {x : V} {v : Value} {Q : VK} {ψ : List Addr} {τ : List (Addr × Ob)} {ρ : List Sl} {σ : L2.St} {dx : D} {xs : List D} {vs : List V} {a : Addr} {c : Bool} {neg : Bool}
    (I : Inv X pins σ' H s) (rx : RelV x v) (hx : Rdb P ψ τ ρ σ H dx x) (ha : SqL P.K H a vs ∨ SqT P.K H a vs) (rv : RVs P.K P.ca ψ (Wr P.U ψ τ ρ σ) H xs vs) (e : inS dx xs = some c) (q : Q (.bl (if neg then !c else c)) H) :
    wpAny (model X.prog X.w) X.A (compareOp (if neg then .NotIn else .In) v (.ref a)) (EP X pins σ' Q) X.xe s := by
  rw [hK] at ha
  rcases inS_cases e with ⟨f, g, rfl⟩ | ⟨p, ps, h1, h2, s1, s2, rfl⟩
  · have ei := inV_rel hx f rv g
    cases neg with
    | false => exact op_in_seq pins s σ' H x (.ref a) v (.ref a) Q I rx rfl ⟨a, vs, rfl, ha, flat_rel f hx, flats_rel rv g, by rw [ei]; exact q⟩
    | true => exact op_notIn_seq pins s σ' H x (.ref a) v (.ref a) Q I rx rfl ⟨a, vs, rfl, ha, flat_rel f hx, flats_rel rv g, by rw [ei]; exact q⟩
  · have dx' : Dp X.K H x p := hK ▸ hx.dp h1
    have da : DpAll X.K H vs ps := hK ▸ rv.dpAll h2
    obtain ⟨as, r1⟩ := Dp.reads I p x v dx' rx
    have lay := SeqAt.canLay_of_shaped s2
    rcases ha with ha | ha
    · obtain ⟨bs, r2⟩ := Dp.reads I (.list ps) (.ref a) (.ref a) (.lst ha da) rfl
      cases neg with
      | false => exact SeqAt.in_list_reads r2 r1 lay (SeqAt.canLay_of_shaped s1) (by have := SeqAt.depth_of_shaped s1; have := Nat.min_le_right (PyData.depthAll ps) p.depth; omega) ⟨.bl _, H, I, rfl, q⟩
      | true => exact SeqAt.notIn_list_reads r2 r1 lay (SeqAt.canLay_of_shaped s1) (by have := SeqAt.depth_of_shaped s1; have := Nat.min_le_right (PyData.depthAll ps) p.depth; omega) ⟨.bl _, H, I, rfl, q⟩
    · obtain ⟨bs, r2⟩ := Dp.reads I (.tuple ps) (.ref a) (.ref a) (.tup ha da) rfl
      cases neg with
      | false => exact SeqAt.in_tuple_reads r2 r1 lay (SeqAt.canLay_of_shaped s1) (by have := SeqAt.depth_of_shaped s1; have := Nat.min_le_right (PyData.depthAll ps) p.depth; omega) ⟨.bl _, H, I, rfl, q⟩
      | true => exact SeqAt.notIn_tuple_reads r2 r1 lay (SeqAt.canLay_of_shaped s1) (by have := SeqAt.depth_of_shaped s1; have := Nat.min_le_right (PyData.depthAll ps) p.depth; omega) ⟨.bl _, H, I, rfl, q⟩
theorem oc_in (hK : P.K = X.K) (hu : X.A.units + 65 < cLine) : OpR X (compareOp .In) (rB P (cmpL .inn)) := rB_cmp fun pins s σ' H x y v u Q ψ τ ρ O σ dx dy c I rx ry r hx hy e q => by
  have e' : inD dx dy = some c := e
  unfold inD at e'
  split at e'
  · obtain ⟨a, vs, rfl, ha, ra⟩ := hy.tup
    cases ry
    exact in_seq (neg := false) hK hu I rx hx (.inr ha) ra e' q
  · obtain ⟨a, vs, rfl, ha, ra⟩ := hy.lst
    cases ry
    exact in_seq (neg := false) hK hu I rx hx (.inl (.inl (.inl ha))) ra e' q
  · split at e'
    · cases e'
      exact op_in_str pins s σ' H x y v u Q I rx ry ⟨_, _, hx.str, hy.str, q⟩
    · cases e'
  · cases e'
theorem oc_nin (hK : P.K = X.K) (hu : X.A.units + 65 < cLine) : OpR X (compareOp .NotIn) (rB P (cmpL .nin)) := rB_cmp fun pins s σ' H x y v u Q ψ τ ρ O σ dx dy c I rx ry r hx hy e q => by
  have e' : (inD dx dy).map not = some c := e
  obtain ⟨c', e1, e2⟩ := Option.map_eq_some_iff.mp e'
  subst e2
  unfold inD at e1
  split at e1
  · obtain ⟨a, vs, rfl, ha, ra⟩ := hy.tup
    cases ry
    exact in_seq (neg := true) hK hu I rx hx (.inr ha) ra e1 q
  · obtain ⟨a, vs, rfl, ha, ra⟩ := hy.lst
    cases ry
    exact in_seq (neg := true) hK hu I rx hx (.inl (.inl (.inl ha))) ra e1 q
  · split at e1
    · cases e1
      exact op_notin_str pins s σ' H x y v u Q I rx ry ⟨_, _, hx.str, hy.str, q⟩
    · cases e1
  · cases e1
end
end Fc
set_option Elab.async false
set_option linter.all false
set_option maxHeartbeats 1000000
set_option maxRecDepth 10000
/-! Comparisons, tests, and, or, not, if, lists of arguments, displays. -/
namespace Fc
open PySem L2
def tTst (Γ : Cx0) (P : Par) (r : M Bool) : TT := fun σ H Q => ∃ ψ τ ρ O k ρ' O', Rep P ψ τ ρ O σ H ∧ r (ρ, O) = some (k, (ρ', O')) ∧ ∀ ψ' H', Aft P ψ τ ρ σ H ψ' τ ρ' O' σ H' → Q k H'
section
variable {P : Par} {ψ ψ1 ψ' : List Addr} {τ τ1 τ' : List (Addr × Ob)} {ρ ρ1 ρ' : List Sl} {O O1 O' : List Ob} {σ : L2.St} {H H1 H' : Hp} {l : L} {v : V} {p : Pl} {d : D}
theorem truth_rel {k : Bool} (h : Rdb P ψ τ ρ σ H d v) (e : truthD d = some k) : TruV P.K v H k := by
  unfold truthD at e
  split at e
  · rw [h.non]; cases e; rfl
  · rw [h.bl]; cases e; rfl
  · rw [h.int]; cases e; rfl
  · rw [h.str]
    split at e
    · rename_i hl
      cases e
      exact ⟨hl, rfl⟩
    · cases e
  · rename_i xs
    obtain ⟨a, vs, rfl, ha, ra⟩ := h.tup
    cases e
    refine .inr (.inl ⟨vs, ha, ?_⟩)
    cases xs with
    | nil => rw [ra.nil_inv]; rfl
    | cons x xs =>
      obtain ⟨v, vs', rfl, _⟩ := ra.cons_inv
      rfl
  · rename_i xs
    obtain ⟨a, vs, rfl, ha, ra⟩ := h.lst
    cases e
    refine .inl ⟨vs, .inl (.inl ha), ?_⟩
    cases xs with
    | nil => rw [ra.nil_inv]; rfl
    | cons x xs =>
      obtain ⟨v, vs', rfl, _⟩ := ra.cons_inv
      rfl
  · rename_i ps
    rcases h with h | ⟨a, o, _, e2, _⟩
    · cases h with
      | dic h1 n h2 h3 =>
        rename_i a kvs
        cases e
        refine .inr (.inr ⟨kvs, h1, ?_⟩)
        cases ps with
        | nil => cases kvs with
          | nil => rfl
          | cons _ _ => simp at h2
        | cons p ps => cases kvs with
          | nil => simp at h2
          | cons _ _ => rfl
    · cases o <;> cases e2
  · cases e
end
section
variable {X : Cx} {P : Par} {Γ : Cx0} {e a b c : Expr} {t ta tb tc : Tm} {pos : Pos} {rest : List Expr}
theorem cmp_ok {op : COp} {po : CmpOp} (ho : OpR X (compareOp po) (rB P (cmpL op))) (ha : PE X a (tPl Γ P ta)) (hb : PE X b (tPl Γ P tb)) (hm : behindInMarks po b = false) : PE X (.Compare a [po] [b] pos) (tEv Γ P (.cmp op ta tb)) :=
  PE.imp (pe_cmpR ho ha hb hm) fun σ H Q q => two_ok (f := cmpL op) (.cmp op ta tb) (fun s => by
    show (match plOf ta (ev Γ ta) s with
      | none => none
      | some (p, s1) => match plOf tb (ev Γ tb) s1 with
        | none => none
        | some (q, s2) => match view p s2, view q s2 with
          | some (x, _), some (y, _) => match cmpD op x y with
            | none => none
            | some c => some (L.dp (.bl c), s2)
          | _, _ => none) = _
    cases plOf ta (ev Γ ta) s with
    | none => rfl
    | some z1 =>
      dsimp only
      cases plOf tb (ev Γ tb) z1.2 with
      | none => rfl
      | some z2 =>
        dsimp only
        cases view z1.1 z2.2 with
        | none => rfl
        | some w1 =>
          cases view z2.1 z2.2 with
          | none => rfl
          | some w2 =>
            dsimp only
            unfold cmpL
            cases cmpD op w1.1 w2.1 <;> rfl) q
/-- a value as a test -/
theorem tst_of (h : tTst Γ P (tst t (ev Γ t)) σ H Q) : tPl Γ P t σ H fun x H1 => ∃ k, TruV P.K x H1 k ∧ Q k H1 := by
  obtain ⟨ψ, τ, ρ, O, k, ρ', O', r, e, q⟩ := h
  unfold tst at e
  cases e1 : plOf t (ev Γ t) (ρ, O) with
  | none => rw [e1] at e; cases e
  | some z =>
    obtain ⟨p, ρ1, O1⟩ := z
    rw [e1] at e
    dsimp only at e
    cases e2 : view p (ρ1, O1) with
    | none => rw [e2] at e; cases e
    | some w =>
      obtain ⟨d, s2⟩ := w
      rw [e2] at e
      dsimp only at e
      cases e3 : truthD d with
      | none => rw [e3] at e; cases e
      | some k' =>
        rw [e3] at e
        cases e
        exact ⟨ψ, τ, ρ, O, p, ρ', O', r, e1, fun ψ' H' v a pl => ⟨_, truth_rel (view_ok a.rep pl e2) e3, q ψ' H' (a.trans a.rep.popl)⟩⟩
theorem plain_t (hK : P.K = X.K) (ha : PE X e (tPl Γ P t)) (he : ∀ whole, isTrue e X.env whole = (do let v ← whole; standAt e.pos; holding [v] (truthy v))) : PT X e (tTst Γ P (tst t (ev Γ t))) :=
  PT.imp (pt_truth ha he) fun σ H Q q => by rw [← hK]; exact tst_of q
/-- what is told by a truth value -/
theorem truV_bl {K : PySem.W.Frag} {H : Hp} {k : Bool} {x : V} (h : TruV K x H k) {c : Bool} (e : x = .bl c) : c = k := by
  subst e
  exact (show k = c from h).symm
theorem cmp_t {op : COp} {po : CmpOp} (ho : OpR X (compareOp po) (rB P (cmpL op))) (ha : PE X a (tPl Γ P ta)) (hb : PE X b (tPl Γ P tb)) (hm : behindInMarks po b = false) : PT X (.Compare a [po] [b] pos) (tTst Γ P (tst (.cmp op ta tb) (ev Γ (.cmp op ta tb)))) :=
  PT.imp (pt_cmpR ho ha hb hm) fun σ H Q q => by
    obtain ⟨ψ, τ, ρ, O, k, ρ', O', r, e, q⟩ := q
    cases e1 : ev Γ (.cmp op ta tb) (ρ, O) with
    | none =>
      have e' : (match (match ev Γ (.cmp op ta tb) (ρ, O) with
        | some (l, s') => some (Pl.vl l, s')
        | none => none) with
        | none => none
        | some (p, s1) => match view p s1 with
          | none => none
          | some (x, _) => match truthD x with
            | none => none
            | some k => some (k, s1)) = some (k, (ρ', O')) := e
      rw [e1] at e'
      cases e'
    | some z =>
      obtain ⟨l, ρ1, O1⟩ := z
      have e' : (match (match ev Γ (.cmp op ta tb) (ρ, O) with
        | some (l, s') => some (Pl.vl l, s')
        | none => none) with
        | none => none
        | some (p, s1) => match view p s1 with
          | none => none
          | some (x, _) => match truthD x with
            | none => none
            | some k => some (k, s1)) = some (k, (ρ', O')) := e
      rw [e1] at e'
      have e'' : (match truthD l.deep with
            | none => none
            | some k => some (k, (ρ1, O1))) = some (k, (ρ', O')) := e'
      -- the value is a truth value
      have hl : ∃ c, l = .dp (.bl c) := by
        have e2 : (match plOf ta (ev Γ ta) (ρ, O) with
          | none => none
          | some (p, s1) => match plOf tb (ev Γ tb) s1 with
            | none => none
            | some (q, s2) => match view p s2, view q s2 with
              | some (x, _), some (y, _) => match cmpD op x y with
                | none => none
                | some c => some (L.dp (.bl c), s2)
              | _, _ => none) = some (l, (ρ1, O1)) := e1
        split at e2
        · cases e2
        · split at e2
          · cases e2
          · split at e2
            · split at e2
              · cases e2
              · cases e2; exact ⟨_, rfl⟩
            · cases e2
      obtain ⟨c, rfl⟩ := hl
      have e3 : some (c, (ρ1, O1)) = some (k, (ρ', O')) := e''
      cases e3
      have base := two_ok (f := cmpL op) (Q := fun x H1 => ∃ k, x = .bl k ∧ Q k H1) (P := P) (Γ := Γ) (σ := σ) (H := H) (.cmp op ta tb) (fun s => by
        show (match plOf ta (ev Γ ta) s with
          | none => none
          | some (p, s1) => match plOf tb (ev Γ tb) s1 with
            | none => none
            | some (q, s2) => match view p s2, view q s2 with
              | some (x, _), some (y, _) => match cmpD op x y with
                | none => none
                | some c => some (L.dp (.bl c), s2)
              | _, _ => none) = _
        cases plOf ta (ev Γ ta) s with
        | none => rfl
        | some z1 =>
          dsimp only
          cases plOf tb (ev Γ tb) z1.2 with
          | none => rfl
          | some z2 =>
            dsimp only
            cases view z1.1 z2.2 with
            | none => rfl
            | some w1 =>
              cases view z2.1 z2.2 with
              | none => rfl
              | some w2 =>
                dsimp only
                unfold cmpL
                cases cmpD op w1.1 w2.1 <;> rfl) ⟨ψ, τ, ρ, O, _, ρ', O', r, e1, fun ψ' H' v res => by
          obtain ⟨a, rv⟩ := res
          cases rv
          exact ⟨_, rfl, q ψ' H' a⟩⟩
      exact base
/-- and, or, not as tests -/
theorem and_t {ra rb : M Bool} (ha : PT X a (tTst Γ P ra)) (hb : PW X (.BoolOp .And (b :: rest) pos) (tTst Γ P rb)) : PW X (.BoolOp .And (a :: b :: rest) pos) (tTst Γ P (andB ra rb)) := by
  have h := pw_and ha hb
  refine ⟨fun wh pins s σ H Q I q => h.run wh pins s σ H Q I ?_⟩
  obtain ⟨ψ, τ, ρ, O, k, ρ', O', r, e, q⟩ := q
  unfold andB at e
  cases e1 : ra (ρ, O) with
  | none => rw [e1] at e; cases e
  | some z =>
    obtain ⟨k1, ρ1, O1⟩ := z
    rw [e1] at e
    refine ⟨ψ, τ, ρ, O, k1, ρ1, O1, r, e1, fun ψ1 H1 a1 => ?_⟩
    cases k1 with
    | true => exact ⟨ψ1, τ, ρ1, O1, k, ρ', O', a1.rep, e, fun ψ2 H2 a2 => q ψ2 H2 (a1.trans a2)⟩
    | false =>
      cases e
      exact q ψ1 H1 a1
theorem or_t {ra rb : M Bool} (ha : PT X a (tTst Γ P ra)) (hb : PW X (.BoolOp .Or (b :: rest) pos) (tTst Γ P rb)) : PW X (.BoolOp .Or (a :: b :: rest) pos) (tTst Γ P (orB ra rb)) := by
  have h := pw_or ha hb
  refine ⟨fun wh pins s σ H Q I q => h.run wh pins s σ H Q I ?_⟩
  obtain ⟨ψ, τ, ρ, O, k, ρ', O', r, e, q⟩ := q
  unfold orB at e
  cases e1 : ra (ρ, O) with
  | none => rw [e1] at e; cases e
  | some z =>
    obtain ⟨k1, ρ1, O1⟩ := z
    rw [e1] at e
    refine ⟨ψ, τ, ρ, O, k1, ρ1, O1, r, e1, fun ψ1 H1 a1 => ?_⟩
    cases k1 with
    | false => exact ⟨ψ1, τ, ρ1, O1, k, ρ', O', a1.rep, e, fun ψ2 H2 a2 => q ψ2 H2 (a1.trans a2)⟩
    | true =>
      cases e
      exact q ψ1 H1 a1
theorem not_t {ra : M Bool} (ha : PT X a (tTst Γ P ra)) : PT X (.UnaryOp .Not a pos) (tTst Γ P (notB ra)) :=
  PT.imp (pt_not ha) fun σ H Q q => by
    obtain ⟨ψ, τ, ρ, O, k, ρ', O', r, e, q⟩ := q
    unfold notB at e
    cases e1 : ra (ρ, O) with
    | none => rw [e1] at e; cases e
    | some z =>
      obtain ⟨k1, ρ1, O1⟩ := z
      rw [e1] at e
      cases e
      exact ⟨ψ, τ, ρ, O, k1, ρ', O', r, e1, fun ψ1 H1 a1 => q ψ1 H1 a1⟩
/-- .. as values -/
theorem and_ok (hK : P.K = X.K) (ha : PE X a (tEv Γ P ta)) (hb : PE X (.BoolOp .And (b :: rest) pos) (tEv Γ P tb)) : PE X (.BoolOp .And (a :: b :: rest) pos) (tEv Γ P (.and ta tb)) :=
  PE.imp (pe_andT ha hb) fun σ H Q q => by
    obtain ⟨ψ, τ, ρ, O, l, ρ', O', r, e, k⟩ := q
    have e' : (match ev Γ ta (ρ, O) with
      | none => none
      | some (x, s1) => match truthD x.deep with
        | none => none
        | some true => ev Γ tb s1
        | some false => some (L.dp x.deep, s1)) = some (l, (ρ', O')) := e
    cases e1 : ev Γ ta (ρ, O) with
    | none => rw [e1] at e'; cases e'
    | some z =>
      obtain ⟨x, ρ1, O1⟩ := z
      rw [e1] at e'
      dsimp only at e'
      refine ⟨ψ, τ, ρ, O, x, ρ1, O1, r, e1, fun ψ1 H1 v1 res => ?_⟩
      obtain ⟨a1, rv⟩ := res.deep
      cases e2 : truthD x.deep with
      | none => rw [e2] at e'; cases e'
      | some k1 =>
        rw [e2] at e'
        refine ⟨k1, by rw [← hK]; exact truth_rel (P := P) (.inl rv) e2, ?_⟩
        cases k1 with
        | true => exact ⟨ψ1, τ, ρ1, O1, l, ρ', O', a1.rep, e', fun ψ2 H2 v2 res2 => k ψ2 H2 v2 (Res.after a1 res2)⟩
        | false =>
          cases e'
          exact k ψ1 H1 v1 (Res.after a1 (res_dp a1.rep rv))
theorem or_ok (hK : P.K = X.K) (ha : PE X a (tEv Γ P ta)) (hb : PE X (.BoolOp .Or (b :: rest) pos) (tEv Γ P tb)) : PE X (.BoolOp .Or (a :: b :: rest) pos) (tEv Γ P (.or ta tb)) :=
  PE.imp (pe_orT ha hb) fun σ H Q q => by
    obtain ⟨ψ, τ, ρ, O, l, ρ', O', r, e, k⟩ := q
    have e' : (match ev Γ ta (ρ, O) with
      | none => none
      | some (x, s1) => match truthD x.deep with
        | none => none
        | some false => ev Γ tb s1
        | some true => some (L.dp x.deep, s1)) = some (l, (ρ', O')) := e
    cases e1 : ev Γ ta (ρ, O) with
    | none => rw [e1] at e'; cases e'
    | some z =>
      obtain ⟨x, ρ1, O1⟩ := z
      rw [e1] at e'
      dsimp only at e'
      refine ⟨ψ, τ, ρ, O, x, ρ1, O1, r, e1, fun ψ1 H1 v1 res => ?_⟩
      obtain ⟨a1, rv⟩ := res.deep
      cases e2 : truthD x.deep with
      | none => rw [e2] at e'; cases e'
      | some k1 =>
        rw [e2] at e'
        refine ⟨k1, by rw [← hK]; exact truth_rel (P := P) (.inl rv) e2, ?_⟩
        cases k1 with
        | false => exact ⟨ψ1, τ, ρ1, O1, l, ρ', O', a1.rep, e', fun ψ2 H2 v2 res2 => k ψ2 H2 v2 (Res.after a1 res2)⟩
        | true =>
          cases e'
          exact k ψ1 H1 v1 (Res.after a1 (res_dp a1.rep rv))
theorem not_ok (hK : P.K = X.K) (ha : PE X a (tPl Γ P ta)) : PE X (.UnaryOp .Not a pos) (tEv Γ P (.not ta)) :=
  PE.imp (pe_notT ha) fun σ H Q q => by
    obtain ⟨ψ, τ, ρ, O, l, ρ', O', r, e, k⟩ := q
    have e' : (match tst ta (ev Γ ta) (ρ, O) with
      | none => none
      | some (k, s1) => some (L.dp (.bl (!k)), s1)) = some (l, (ρ', O')) := e
    cases e1 : tst ta (ev Γ ta) (ρ, O) with
    | none => rw [e1] at e'; cases e'
    | some z =>
      obtain ⟨k1, ρ1, O1⟩ := z
      rw [e1] at e'
      cases e'
      rw [← hK]
      exact tst_of ⟨ψ, τ, ρ, O, k1, ρ', O', r, e1, fun ψ1 H1 a1 => k ψ1 H1 _ (Res.after a1 (res_dp a1.rep (.bl _)))⟩
theorem ife_ok (hc : PT X c (tTst Γ P (tsv Γ tc))) (ha : PE X a (tEv Γ P ta)) (hb : PE X b (tEv Γ P tb)) : PE X (.IfExp c a b pos) (tEv Γ P (.ife tc ta tb)) :=
  PE.imp (pe_ifExp hc ha hb) fun σ H Q q => by
    obtain ⟨ψ, τ, ρ, O, l, ρ', O', r, e, k⟩ := q
    have e' : (match tsv Γ tc (ρ, O) with
      | none => none
      | some (true, s1) => ev Γ ta s1
      | some (false, s1) => ev Γ tb s1) = some (l, (ρ', O')) := e
    cases e1 : tsv Γ tc (ρ, O) with
    | none => rw [e1] at e'; cases e'
    | some z =>
      obtain ⟨k1, ρ1, O1⟩ := z
      rw [e1] at e'
      refine ⟨ψ, τ, ρ, O, k1, ρ1, O1, r, e1, fun ψ1 H1 a1 => ?_⟩
      cases k1 with
      | true => exact ⟨ψ1, τ, ρ1, O1, l, ρ', O', a1.rep, e', fun ψ2 H2 v2 res2 => k ψ2 H2 v2 (Res.after a1 res2)⟩
      | false => exact ⟨ψ1, τ, ρ1, O1, l, ρ', O', a1.rep, e', fun ψ2 H2 v2 res2 => k ψ2 H2 v2 (Res.after a1 res2)⟩
end
end Fc
set_option Elab.async false
set_option linter.all false
set_option maxHeartbeats 1000000
set_option maxRecDepth 10000
/-! Chains, lists of arguments, displays, subscripts, slices, fields, isinstance. -/
namespace Fc
open PySem L2
/-- a way through two values -/
theorem some_inv {α β : Type} {o : Option α} {f : α → Option β} {b : β} (h : (match o with
  | none => none
  | some a => f a) = some b) : ∃ a, o = some a ∧ f a = some b := by
  cases o with
  | none => cases h
  | some a => exact ⟨a, rfl, h⟩
def tEs (Γ : Cx0) (P : Par) (xs : Tms) : TA := fun σ H Q => ∃ ψ τ ρ O ds ρ' O', Rep P ψ τ ρ O σ H ∧ evs Γ xs (ρ, O) = some (ds, (ρ', O')) ∧
  ∀ ψ' H' vs, Aft P ψ τ ρ σ H ψ' τ ρ' O' σ H' → RVs P.K P.ca ψ' (Wr P.U ψ' τ ρ' σ) H' ds vs → Q vs H'
section
variable {X : Cx} {P : Par} {Γ : Cx0} {e a b c i lo hi : Expr} {es : List Expr} {t ta tb tc tl th : Tm} {xs : Tms} {pos p2 : Pos}
theorem chain_imp {o1 o2 : COp} {σ : L2.St} {H : Hp} {Q : VK} (q : tEv Γ P (.chain o1 o2 ta tb tc) σ H Q) : tChain (rB P (cmpL o1)) (rB P (cmpL o2)) (tEv Γ P ta) (tEv Γ P tb) (tEv Γ P tc) σ H Q := by
  obtain ⟨ψ, τ, ρ, O, l, ρ', O', r, e, k⟩ := q
  have e' : (match ev Γ ta (ρ, O) with
    | none => none
    | some (x, s1) => match ev Γ tb s1 with
      | none => none
      | some (y, s2) => match cmpD o1 x.deep y.deep with
        | none => none
        | some false => some (L.dp (.bl false), s2)
        | some true => match ev Γ tc s2 with
          | none => none
          | some (z, s3) => match cmpD o2 y.deep z.deep with
            | none => none
            | some k => some (L.dp (.bl k), s3)) = some (l, (ρ', O')) := e
  cases e1 : ev Γ ta (ρ, O) with
  | none => rw [e1] at e'; cases e'
  | some z1 =>
    obtain ⟨x, ρ1, O1⟩ := z1
    rw [e1] at e'
    dsimp only at e'
    cases e2 : ev Γ tb (ρ1, O1) with
    | none => rw [e2] at e'; cases e'
    | some z2 =>
      obtain ⟨y, ρ2, O2⟩ := z2
      rw [e2] at e'
      dsimp only at e'
      refine ⟨ψ, τ, ρ, O, x, ρ1, O1, r, e1, fun ψ1 H1 vx resx => ?_⟩
      obtain ⟨a1, rx⟩ := resx.deep
      refine ⟨ψ1, τ, ρ1, O1, y, ρ2, O2, a1.rep, e2, fun ψ2 H2 vy resy => ?_⟩
      obtain ⟨a2, ry⟩ := resy.deep
      have rx2 := rx.mono a2.pre a2.pres
      cases e3 : cmpD o1 x.deep y.deep with
      | none => rw [e3] at e'; cases e'
      | some k1 =>
        rw [e3] at e'
        refine ⟨ψ2, τ, ρ2, O2, σ, x.deep, y.deep, .dp (.bl k1), a2.rep, .inl rx2, .inl ry, by unfold cmpL; rw [e3]; rfl, fun H3 v3 res3 => ?_⟩
        obtain ⟨a3, r3⟩ := res3
        cases r3
        refine ⟨k1, rfl, ?_⟩
        cases k1 with
        | false =>
          cases e'
          exact k ψ2 H3 _ (Res.after ((a1.trans a2).trans a3) (res_dp a3.rep (.bl false)))
        | true =>
          dsimp only at e'
          cases e4 : ev Γ tc (ρ2, O2) with
          | none => rw [e4] at e'; cases e'
          | some z4 =>
            obtain ⟨z, ρ4, O4⟩ := z4
            rw [e4] at e'
            dsimp only at e'
            refine ⟨ψ2, τ, ρ2, O2, z, ρ4, O4, a3.rep, e4, fun ψ4 H4 vz resz => ?_⟩
            obtain ⟨a4, rz⟩ := resz.deep
            cases e5 : cmpD o2 y.deep z.deep with
            | none => rw [e5] at e'; cases e'
            | some k2 =>
              rw [e5] at e'
              cases e'
              refine ⟨ψ4, τ, ρ', O', σ, y.deep, z.deep, .dp (.bl k2), a4.rep, .inl ((ry.mono a3.pre a3.pres).mono a4.pre a4.pres), .inl rz, by unfold cmpL; rw [e5]; rfl, fun H5 v5 res5 => ?_⟩
              exact k ψ4 H5 v5 (Res.after (((a1.trans a2).trans a3).trans a4) res5)
theorem chain_ok {o1 o2 : COp} {p1 p2' : CmpOp} (h1 : OpR X (compareOp p1) (rB P (cmpL o1))) (h2 : OpR X (compareOp p2') (rB P (cmpL o2))) (ha : PE X a (tEv Γ P ta)) (hb : PE X b (tEv Γ P tb)) (hc : PE X c (tEv Γ P tc)) (hm : lastMarks [p1, p2'] [b, c] = false) :
    PE X (.Compare a [p1, p2'] [b, c] pos) (tEv Γ P (.chain o1 o2 ta tb tc)) :=
  PE.imp (pe_chain h1 h2 ha hb hc hm) fun σ H Q q => chain_imp q
theorem neg_ok (ha : PE X a (tEv Γ P ta)) : PE X (.UnaryOp .USub a pos) (tEv Γ P (.neg ta)) :=
  PE.imp (pe_un un_neg ha) fun σ H Q q => by
    obtain ⟨ψ, τ, ρ, O, l, ρ', O', r, e, k⟩ := q
    have e' : (match ev Γ ta (ρ, O) with
      | some (.dp (.int i), s1) => some (L.dp (.int (-i)), s1)
      | _ => none) = some (l, (ρ', O')) := e
    split at e'
    · rename_i i s1 e1
      cases e'
      refine ⟨ψ, τ, ρ, O, _, ρ', O', r, e1, fun ψ1 H1 v res => ?_⟩
      obtain ⟨a1, rv⟩ := res
      cases rv
      exact ⟨i, rfl, k ψ1 H1 _ (Res.after a1 (res_dp a1.rep (.int _)))⟩
    · cases e'
/-! ### argument lists -/
theorem es_nil : PA X [] (tEs Γ P .nil) := PA.imp pa_nil fun σ H Q q => by
  obtain ⟨ψ, τ, ρ, O, ds, ρ', O', r, e, k⟩ := q
  have e' : some (([] : List D), (ρ, O)) = some (ds, (ρ', O')) := e
  cases e'
  exact k ψ H [] (.refl r) .nil
theorem es_cons (ha : PE X e (tEv Γ P t)) (hr : PA X es (tEs Γ P xs)) (hs : starEach (e :: es) X.env = (false, eval e X.env) :: starEach es X.env) : PA X (e :: es) (tEs Γ P (.cons t xs)) :=
  PA.imp (pa_cons ha hr hs) fun σ H Q q => by
    obtain ⟨ψ, τ, ρ, O, ds, ρ', O', r, e, k⟩ := q
    have e' : (match ev Γ t (ρ, O) with
      | none => none
      | some (l, s1) => match evs Γ xs s1 with
        | none => none
        | some (ds, s2) => some (l.deep :: ds, s2)) = some (ds, (ρ', O')) := e
    cases e1 : ev Γ t (ρ, O) with
    | none => rw [e1] at e'; cases e'
    | some z1 =>
      obtain ⟨l, ρ1, O1⟩ := z1
      rw [e1] at e'
      dsimp only at e'
      cases e2 : evs Γ xs (ρ1, O1) with
      | none => rw [e2] at e'; cases e'
      | some z2 =>
        obtain ⟨ds2, ρ2, O2⟩ := z2
        rw [e2] at e'
        cases e'
        refine ⟨ψ, τ, ρ, O, l, ρ1, O1, r, e1, fun ψ1 H1 v res => ?_⟩
        obtain ⟨a1, rv⟩ := res.deep
        refine ⟨ψ1, τ, ρ1, O1, ds2, _, _, a1.rep, e2, fun ψ2 H2 vs a2 rvs => ?_⟩
        exact k ψ2 H2 _ (a1.trans a2) (.cons (rv.mono a2.pre a2.pres) rvs)
theorem es_star (hK : P.K = X.K) (ha : PE X e (tEv Γ P t)) (hr : PA X es (tEs Γ P xs)) (hs : starEach (.Starred e p2 :: es) X.env = (true, eval e X.env) :: starEach es X.env) : PA X (.Starred e p2 :: es) (tEs Γ P (.star t xs)) :=
  PA.imp (StX.pa_star ha hr hs) fun σ H Q q => by
    obtain ⟨ψ, τ, ρ, O, ds, ρ', O', r, e, k⟩ := q
    have e' : (match ev Γ t (ρ, O) with
      | none => none
      | some (l, s1) => match itemsSeq l.deep with
        | none => none
        | some ys => match evs Γ xs s1 with
          | none => none
          | some (ds, s2) => some (ys ++ ds, s2)) = some (ds, (ρ', O')) := e
    cases e1 : ev Γ t (ρ, O) with
    | none => rw [e1] at e'; cases e'
    | some z1 =>
      obtain ⟨l, ρ1, O1⟩ := z1
      rw [e1] at e'
      dsimp only at e'
      cases e3 : itemsSeq l.deep with
      | none => rw [e3] at e'; cases e'
      | some ys =>
        rw [e3] at e'
        dsimp only at e'
        cases e2 : evs Γ xs (ρ1, O1) with
        | none => rw [e2] at e'; cases e'
        | some z2 =>
          obtain ⟨ds2, ρ2, O2⟩ := z2
          rw [e2] at e'
          cases e'
          refine ⟨ψ, τ, ρ, O, l, ρ1, O1, r, e1, fun ψ1 H1 v res => ?_⟩
          obtain ⟨a1, rv⟩ := res.deep
          have key : ∃ p vs, v = V.ref p ∧ (SqT P.K H1 p vs ∨ SqL P.K H1 p vs) ∧ RVs P.K P.ca ψ1 (Wr P.U ψ1 τ ρ1 σ) H1 ys vs := by
            unfold itemsSeq at e3
            split at e3
            · rename_i zs ez
              cases e3
              rw [ez] at rv
              obtain ⟨p, vs, h1, h2, h3⟩ := Rdb.tup (P := P) (.inl rv)
              exact ⟨p, vs, h1, .inl h2, h3⟩
            · rename_i zs ez
              cases e3
              rw [ez] at rv
              obtain ⟨p, vs, h1, h2, h3⟩ := Rdb.lst (P := P) (.inl rv)
              exact ⟨p, vs, h1, .inr (.inl (.inl h2)), h3⟩
            · cases e3
          obtain ⟨p, vs, rfl, h2, h3⟩ := key
          refine ⟨p, vs, rfl, by rw [← hK]; exact h2, ?_⟩
          refine ⟨ψ1, τ, ρ1, O1, ds2, _, _, a1.rep, e2, fun ψ2 H2 ws a2 rws => ?_⟩
          exact k ψ2 H2 _ (a1.trans a2) ((h3.mono a2.pre a2.pres).append rws)
/-! ### displays -/
theorem tup_ok {k0 : Nat} (h : PA X es (tEs Γ P xs)) : PE X (.Tuple es k0 pos) (tEv Γ P (.tup xs)) := PE.imp (pe_tup h) fun σ H Q q => by
  obtain ⟨ψ, τ, ρ, O, l, ρ', O', r, e, k⟩ := q
  have e' : (match evs Γ xs (ρ, O) with
    | none => none
    | some (ds, s1) => if ds.length ≤ sizeLine then some (L.dp (.tup ds), s1) else none) = some (l, (ρ', O')) := e
  cases e1 : evs Γ xs (ρ, O) with
  | none => rw [e1] at e'; cases e'
  | some z1 =>
    obtain ⟨ds, ρ1, O1⟩ := z1
    rw [e1] at e'
    dsimp only at e'
    split at e'
    · rename_i hl
      cases e'
      refine ⟨ψ, τ, ρ, O, ds, _, _, r, e1, fun ψ1 H1 vs a1 rvs => ⟨by rw [← rvs.1]; exact hl, fun p hp => k ψ1 _ _ (Res.after a1 (res_tup a1.rep rvs hp))⟩⟩
    · cases e'
theorem lst_ok (h : PA X es (tEs Γ P xs)) : PE X (.List es pos) (tEv Γ P (.lst xs)) := PE.imp (pe_lst h) fun σ H Q q => by
  obtain ⟨ψ, τ, ρ, O, l, ρ', O', r, e, k⟩ := q
  have e' : (match evs Γ xs (ρ, O) with
    | none => none
    | some (ds, s1) => if ds.length ≤ sizeLine then some (L.fr (.lst ds), s1) else none) = some (l, (ρ', O')) := e
  cases e1 : evs Γ xs (ρ, O) with
  | none => rw [e1] at e'; cases e'
  | some z1 =>
    obtain ⟨ds, ρ1, O1⟩ := z1
    rw [e1] at e'
    dsimp only at e'
    split at e'
    · rename_i hl
      cases e'
      refine ⟨ψ, τ, ρ, O, ds, _, _, r, e1, fun ψ1 H1 vs a1 rvs => ⟨by rw [← rvs.1]; exact hl, fun p hp => k ψ1 _ _ (Res.after a1 (res_lst a1.rep rvs hp))⟩⟩
    · cases e'
/-! ### subscripts -/
/-- .. at an index -/
def rX (P : Par) : R2 := fun x y H Q => ∃ ψ τ ρ O σ dx dy d, Rep P ψ τ ρ O σ H ∧ Rdb P ψ τ ρ σ H dx x ∧ Rdb P ψ τ ρ σ H dy y ∧ idxD dx dy = some d ∧ ∀ v, RV P.K P.ca ψ (Wr P.U ψ τ ρ σ) H d v → Q v H
theorem atI_rel {α β : Type} {xs : List α} {ys : List β} (hl : xs.length = ys.length) {i : Int} {a : α} (h : atI xs i = some a) : ∃ (n : Nat) (b : β), xs[n]? = some a ∧ ys[n]? = some b ∧ atI ys i = some b := by
  unfold atI at h ⊢
  rw [hl] at h
  obtain ⟨n, h1, h2⟩ := Option.bind_eq_some_iff.mp h
  have hn : n < ys.length := by rw [← hl]; exact (List.getElem?_eq_some_iff.mp h2).1
  exact ⟨n, ys[n], h2, by simp [hn], by rw [h1]; simp [hn]⟩
theorem ix_ok (hK : P.K = X.K) : IxR X (rX P) := by
  intro value slice pins s σ' H x y v u Q I rx ry h hs
  obtain ⟨ψ, τ, ρ, O, σ, dx, dy, d, r, hx, hy, e, k⟩ := h
  unfold idxD at e
  split at e
  · obtain ⟨a, vs, rfl, ha, ra⟩ := hx.tup
    obtain ⟨n, w, h1, h2, h3⟩ := atI_rel ra.1 e
    exact ix_tup value slice pins s σ' H _ y v u Q I rx ry ⟨a, vs, _, w, rfl, hy.int, hK ▸ ha, h3, k w (ra.2 n d w h1 h2)⟩ hs
  · obtain ⟨a, vs, rfl, ha, ra⟩ := hx.lst
    obtain ⟨n, w, h1, h2, h3⟩ := atI_rel ra.1 e
    exact ix_list value slice pins s σ' H _ y v u Q I rx ry ⟨a, vs, _, w, rfl, hy.int, .inl (.inl ha), h3, k w (ra.2 n d w h1 h2)⟩ hs
  · obtain ⟨a, vs, rfl, ha, ra⟩ := hx.fls
    obtain ⟨n, w, h1, h2, h3⟩ := atI_rel ra.1 e
    exact ix_list value slice pins s σ' H _ y v u Q I rx ry ⟨a, vs, _, w, rfl, hy.int, hK ▸ ha.sql, h3, k w (ra.2 n d w h1 h2)⟩ hs
  · split at e
    · rename_i hl
      obtain ⟨ch, h1, h2⟩ := Option.map_eq_some_iff.mp e
      subst h2
      exact ix_str value slice pins s σ' H x y v u Q I rx ry ⟨_, _, ch, hx.str, hy.int, hl, h1, k _ (.str _)⟩ hs
    · cases e
  · cases e
theorem idx_ok (hK : P.K = X.K) (ha : PE X a (tPl Γ P ta)) (hb : PE X b (tEv Γ P tb)) (hs : PlainIx b) : PE X (.Subscript a b pos) (tEv Γ P (.idx ta tb)) :=
  PE.imp (pe_ix (ix_ok hK) ha hb hs) fun σ H Q q => by
    obtain ⟨ψ, τ, ρ, O, l, ρ', O', r, e, k⟩ := q
    have e' : (match plOf ta (ev Γ ta) (ρ, O) with
      | none => none
      | some (p, s1) => match ev Γ tb s1 with
        | none => none
        | some (k, s2) => match view p s2 with
          | none => none
          | some (x, _) => match idxD x k.deep with
            | none => none
            | some d => some (L.dp d, s2)) = some (l, (ρ', O')) := e
    rcases e1 : plOf ta (ev Γ ta) (ρ, O) with _ | ⟨p, ρ1, O1⟩
    · rw [e1] at e'; cases e'
    rw [e1] at e'
    dsimp only at e'
    rcases e2 : ev Γ tb (ρ1, O1) with _ | ⟨kk, ρ2, O2⟩
    · rw [e2] at e'; cases e'
    rw [e2] at e'
    dsimp only at e'
    rcases e3 : view p (ρ2, O2) with _ | ⟨x, s3⟩
    · rw [e3] at e'; cases e'
    rw [e3] at e'
    dsimp only at e'
    rcases e4 : idxD x kk.deep with _ | d
    · rw [e4] at e'; cases e'
    rw [e4] at e'
    dsimp only at e'
    cases e'
    refine ⟨ψ, τ, ρ, O, p, ρ1, O1, r, e1, fun ψ1 H1 vx a1 pl => ?_⟩
    refine ⟨ψ1, tpl p vx τ, ρ1, O1, kk, _, _, a1.rep, e2, fun ψ2 H2 vk res => ?_⟩
    obtain ⟨a2, rk⟩ := res.deep
    have x1 := view_ok a2.rep (pl.after a2 (fun _ z => z)) e3
    have b1 := a2.rep.popl
    refine ⟨ψ2, τ, _, _, σ, x, kk.deep, d, b1.rep, x1.after b1.pre b1.pres, .inl (rk.mono b1.pre b1.pres), e4, fun v rv => k ψ2 H2 v (Res.after ((a1.trans a2).trans b1) (res_dp b1.rep rv))⟩
/-! ### slices -/
def rY (P : Par) : V → Option Int → Option Int → Hp → VK → Prop := fun x lo hi H Q => ∃ ψ τ ρ O σ dx l, Rep P ψ τ ρ O σ H ∧ Rdb P ψ τ ρ σ H dx x ∧ slcD dx lo hi = some l ∧ ∀ H' v, Res P ψ τ ρ σ H l ρ O ψ H' v → Q v H'
theorem RVs.cut {ψ : List Addr} {W : Addr → Prop} {H : Hp} {ds : List D} {vs : List V} (h : RVs P.K P.ca ψ W H ds vs) (lo hi : Option Int) : RVs P.K P.ca ψ W H (cutL ds lo hi) (cutV vs lo hi) := by
  unfold cutL cutV
  rw [h.1]
  exact (h.drop _).take _
theorem cut_whole {α : Type} {xs : List α} {lo hi : Option Int} (h : HT.sIx xs.length 0 lo = 0 ∧ HT.sIx xs.length xs.length hi = xs.length) : cutL xs lo hi = xs := by
  unfold cutL
  rw [h.1, h.2]
  simp
theorem sl_ok (hK : P.K = X.K) : SlR X (rY P) := by
  intro pins s σ' H x v vl vu lo hi sl Q I rx hs pl pu h
  obtain ⟨ψ, τ, ρ, O, σ, dx, l, r, hx, e, k⟩ := h
  unfold slcD at e
  split at e
  · rename_i xs
    cases e
    obtain ⟨a, vs, rfl, ha, ra⟩ := hx.tup
    refine sl_tupA pins s σ' H _ v vl vu lo hi sl Q I rx hs pl pu ⟨a, vs, rfl, hK ▸ ha, fun hw => ?_, fun _ p hp => k _ _ (res_tup r (ra.cut lo hi) hp)⟩
    refine k H _ (res_dp r ?_)
    rw [cut_whole (by rw [ra.1]; exact hw)]
    exact .tup ha ra.1 ra.2
  · cases e
    obtain ⟨a, vs, rfl, ha, ra⟩ := hx.lst
    exact sl_list pins s σ' H _ v vl vu lo hi sl Q I rx hs pl pu ⟨a, vs, rfl, .inl (.inl ha), fun p hp => k _ _ (res_lst r (ra.cut lo hi) hp)⟩
  · cases e
    obtain ⟨a, vs, rfl, ha, ra⟩ := hx.fls
    exact sl_list pins s σ' H _ v vl vu lo hi sl Q I rx hs pl pu ⟨a, vs, rfl, hK ▸ ha.sql, fun p hp => k _ _ (res_lst r (ra.cut lo hi) hp)⟩
  · split at e
    · rename_i hl
      cases e
      exact sl_str pins s σ' H x v vl vu lo hi sl Q I rx hs pl pu ⟨_, hx.str, hl, k H _ (res_dp r (.str _))⟩
    · cases e
  · cases e
/-- an end of a slice -/
def tPo (Γ : Cx0) (P : Par) (t : Tm) : TO := fun σ H Q => ∃ ψ τ ρ O l ρ' O' i, Rep P ψ τ ρ O σ H ∧ ev Γ t (ρ, O) = some (l, (ρ', O')) ∧ cutT t l.deep = some i ∧ ∀ ψ' H', Aft P ψ τ ρ σ H ψ' τ ρ' O' σ H' → Q i H'
theorem PO.imp {X : Cx} {e : Option Expr} {t t' : TO} (h : PO X e t) (i : ∀ σ H Q, t' σ H Q → t σ H Q) : PO X e t' := ⟨fun pins s σ H Q I q => h.run pins s σ H Q I (i _ _ _ q)⟩
theorem po_no : PO X none (tPo Γ P (.cst .non)) := PO.imp po_none fun σ H Q q => by
  obtain ⟨ψ, τ, ρ, O, l, ρ', O', i, r, e, e2, k⟩ := q
  have e' : some (L.dp .non, (ρ, O)) = some (l, (ρ', O')) := e
  cases e'
  cases e2
  exact k ψ H (.refl r)
theorem po_so (hn : t ≠ .cst .non) (h : PE X e (tEv Γ P t)) : PO X (some e) (tPo Γ P t) := PO.imp (po_some h) fun σ H Q q => by
  obtain ⟨ψ, τ, ρ, O, l, ρ', O', i, r, e, e2, k⟩ := q
  refine ⟨ψ, τ, ρ, O, l, ρ', O', r, e, fun ψ1 H1 v res => ?_⟩
  obtain ⟨a1, rv⟩ := res.deep
  have key : ∃ j, l.deep = .int j ∧ i = some j := by
    unfold cutT at e2
    split at e2
    · exact absurd rfl hn
    · rename_i j _ h
      cases e2
      exact ⟨j, by assumption, rfl⟩
    · cases e2
  obtain ⟨j, h, rfl⟩ := key
  rw [h] at rv
  cases rv
  exact ⟨j, rfl, k ψ1 H1 a1⟩
theorem slc_ok (hK : P.K = X.K) (ha : PE X a (tPl Γ P ta)) {elo ehi : Option Expr} (hl : PO X elo (tPo Γ P tl)) (hh : PO X ehi (tPo Γ P th)) : PE X (.Subscript a (.Slice elo ehi none p2) pos) (tEv Γ P (.slc ta tl th)) :=
  PE.imp (pe_slice (sl_ok hK) ha hl hh) fun σ H Q q => by
    obtain ⟨ψ, τ, ρ, O, l, ρ', O', r, e, k⟩ := q
    have e' : (match plOf ta (ev Γ ta) (ρ, O) with
      | none => none
      | some (p, s1) => match ev Γ tl s1 with
        | none => none
        | some (l, s2) => match ev Γ th s2 with
          | none => none
          | some (h, s3) => match view p s3, cutT tl l.deep, cutT th h.deep with
            | some (x, _), some l, some h => match slcD x l h with
              | none => none
              | some r => some (r, s3)
            | _, _, _ => none) = some (l, (ρ', O')) := e
    rcases e1 : plOf ta (ev Γ ta) (ρ, O) with _ | ⟨p, ρ1, O1⟩
    · rw [e1] at e'; cases e'
    rw [e1] at e'
    dsimp only at e'
    rcases e2 : ev Γ tl (ρ1, O1) with _ | ⟨ll, ρ2, O2⟩
    · rw [e2] at e'; cases e'
    rw [e2] at e'
    dsimp only at e'
    rcases e3 : ev Γ th (ρ2, O2) with _ | ⟨lh, ρ3, O3⟩
    · rw [e3] at e'; cases e'
    rw [e3] at e'
    dsimp only at e'
    split at e'
    · rename_i x sx i j v1 c1 c2
      rcases e4 : slcD x i j with _ | res
      · rw [e4] at e'; cases e'
      rw [e4] at e'
      dsimp only at e'
      cases e'
      refine ⟨ψ, τ, ρ, O, p, ρ1, O1, r, e1, fun ψ1 H1 vx a1 pl => ?_⟩
      refine ⟨ψ1, tpl p vx τ, ρ1, O1, ll, ρ2, O2, i, a1.rep, e2, c1, fun ψ2 H2 a2 => ?_⟩
      refine ⟨ψ2, tpl p vx τ, ρ2, O2, lh, _, _, j, a2.rep, e3, c2, fun ψ3 H3 a3 => ?_⟩
      have x1 := view_ok a3.rep (pl.after (a2.trans a3) (fun _ z => z)) v1
      have b1 := a3.rep.popl
      exact ⟨ψ3, τ, _, _, σ, x, _, b1.rep, x1.after b1.pre b1.pres, e4, fun H' v rs => k ψ3 H' v (Res.after (((a1.trans a2).trans a3).trans b1) rs)⟩
    · cases e'
/-! ### len, a field -/
def rLenB (P : Par) : List V → Hp → VK → Prop := fun xs H Q => ∃ ψ τ ρ O σ dx x n, Rep P ψ τ ρ O σ H ∧ xs = [x] ∧ Rdb P ψ τ ρ σ H dx x ∧ lenD dx = some n ∧ Q (.int n) H
end
end Fc
set_option Elab.async false
set_option linter.all false
set_option maxHeartbeats 2000000
set_option maxRecDepth 10000
/-! Calls: the state of a callee, the state behind it. -/
namespace Fc
open PySem L2
def paOf : List Sl → List V → List (Option Addr)
  | .own _ :: r, .ref a :: vs => some a :: paOf r vs
  | _ :: r, _ :: vs => none :: paOf r vs
  | _, _ => []
def par0 (K : PySem.W.Frag) (ca : Nat → Addr) (U : Addr → Prop) (H : Hp) (sls : List Sl) (vs : List V) : Par := ⟨K, ca, H, sls.length, paOf sls vs, U⟩
theorem paOf_get : ∀ {sls : List Sl} {vs : List V} {j : Nat} {a : Addr}, (paOf sls vs)[j]? = some (some a) → (∃ o, sls[j]? = some (.own o)) ∧ vs[j]? = some (.ref a)
  | [], vs, j, a, h => by unfold paOf at h; simp at h
  | s :: sls, [], j, a, h => by
    have e : paOf (s :: sls) [] = [] := by cases s <;> rfl
    rw [e] at h
    simp at h
  | s :: sls, v :: vs, 0, a, h => by
    unfold paOf at h
    split at h
    · rename_i h1 h2
      injection h1 with h1 h1'
      injection h2 with h2 h2'
      subst h1 h2
      have h3 := Option.some.inj h
      have h4 := Option.some.inj h3
      subst h4
      exact ⟨⟨_, rfl⟩, rfl⟩
    · cases h
    · cases h
  | s :: sls, v :: vs, j + 1, a, h => by
    have e : (paOf (s :: sls) (v :: vs))[j + 1]? = (paOf sls vs)[j]? := by
      cases s with
      | no => rfl
      | dp d => rfl
      | own o => cases v <;> rfl
    rw [e] at h
    obtain ⟨⟨o, h1⟩, h2⟩ := paOf_get h
    exact ⟨⟨o, by simpa using h1⟩, by simpa using h2⟩
/-! ### arguments -/
def t1 : Ar → V → List (Addr × Ob) → List (Addr × Ob)
  | .tmp o, .ref a, τ => (a, o) :: τ
  | _, _, τ => τ
def tacc : List Ar → List V → List (Addr × Ob) → List (Addr × Ob)
  | a :: as, v :: vs, τ => tacc as vs (t1 a v τ)
  | _, _, τ => τ
def ArR (P : Par) (ψ : List Addr) (τ : List (Addr × Ob)) (ρ : List Sl) (σ : L2.St) (H : Hp) : Ar → V → Prop
  | .val d, v => RV P.K P.ca ψ (Wr P.U ψ τ ρ σ) H d v
  | .slt i, v => σ[i]? = some (some v)
  | .tmp o, v => ∃ a, v = .ref a ∧ (a, o) ∈ τ
  | .unk, _ => True
def ArRs (P : Par) (ψ : List Addr) (τ : List (Addr × Ob)) (ρ : List Sl) (σ : L2.St) (H : Hp) (as : List Ar) (vs : List V) : Prop :=
  as.length = vs.length ∧ ∀ (j : Nat) (a : Ar) (v : V), as[j]? = some a → vs[j]? = some v → ArR P ψ τ ρ σ H a v
theorem t1_sub (a : Ar) (v : V) (τ : List (Addr × Ob)) : ∀ q ∈ τ, q ∈ t1 a v τ := fun q hq => by
  unfold t1
  split
  · exact List.mem_cons_of_mem _ hq
  · exact hq
theorem tacc_sub : ∀ (as : List Ar) (vs : List V) (τ : List (Addr × Ob)), ∀ q ∈ τ, q ∈ tacc as vs τ
  | [], vs, τ, q, hq => by unfold tacc; exact hq
  | a :: as, [], τ, q, hq => by unfold tacc; exact hq
  | a :: as, v :: vs, τ, q, hq => tacc_sub as vs _ q (t1_sub a v τ q hq)
/-- a new object stands once among those of the arguments -/
theorem tacc_once : ∀ (as : List Ar) (vs : List V) (τ : List (Addr × Ob)), ((tacc as vs τ).map (·.1)).Nodup → (τ.map (·.1)).Nodup ∧
    (∀ (j : Nat) (o : Ob) (a : Addr), as[j]? = some (.tmp o) → vs[j]? = some (.ref a) → a ∉ τ.map (·.1) ∧ (a, o) ∈ tacc as vs τ) ∧
    ∀ (j k : Nat) (o o' : Ob) (a : Addr), as[j]? = some (.tmp o) → vs[j]? = some (.ref a) → as[k]? = some (.tmp o') → vs[k]? = some (.ref a) → j = k
  | [], vs, τ, h => ⟨by unfold tacc at h; exact h, fun j o a e => by simp at e, fun j k o o' a e => by simp at e⟩
  | x :: as, [], τ, h => ⟨by unfold tacc at h; exact h, fun j o a _ e => by simp at e, fun j k o o' a _ e => by simp at e⟩
  | x :: as, v :: vs, τ, h => by
    have h' : ((tacc as vs (t1 x v τ)).map (·.1)).Nodup := h
    obtain ⟨n1, n2, n3⟩ := tacc_once as vs _ h'
    have nτ : (τ.map (·.1)).Nodup := by
      cases x with
      | tmp o =>
        cases v with
        | ref a =>
          have q : (((a, o) :: τ).map (·.1)).Nodup := n1
          rw [List.map_cons, List.nodup_cons] at q
          exact q.2
        | _ => exact n1
      | _ => exact n1
    have here : ∀ (o : Ob) (a : Addr), x = .tmp o → v = .ref a → a ∉ τ.map (·.1) ∧ (a, o) ∈ t1 x v τ := fun o a e1 e2 => by
      subst e1 e2
      have q : (((a, o) :: τ).map (·.1)).Nodup := n1
      rw [List.map_cons, List.nodup_cons] at q
      exact ⟨q.1, List.mem_cons_self⟩
    have off : ∀ b, b ∈ τ.map (·.1) → b ∈ (t1 x v τ).map (·.1) := fun b hb => by
      obtain ⟨q, hq, e⟩ := List.mem_map.mp hb
      exact List.mem_map.mpr ⟨q, t1_sub x v τ q hq, e⟩
    refine ⟨nτ, fun j o a e1 e2 => ?_, fun j k o o' a e1 e2 e3 e4 => ?_⟩
    · cases j with
      | zero =>
        simp at e1 e2
        obtain ⟨h1, h2⟩ := here o a e1 e2
        exact ⟨h1, tacc_sub as vs _ _ h2⟩
      | succ j =>
        obtain ⟨h1, h2⟩ := n2 j o a (by simpa using e1) (by simpa using e2)
        exact ⟨fun z => h1 (off a z), h2⟩
    · cases j with
      | zero =>
        cases k with
        | zero => rfl
        | succ k =>
          simp at e1 e2
          obtain ⟨h1, h2⟩ := n2 k o' a (by simpa using e3) (by simpa using e4)
          exact absurd (List.mem_map.mpr ⟨_, (here o a e1 e2).2, rfl⟩) h1
      | succ j =>
        cases k with
        | zero =>
          simp at e3 e4
          obtain ⟨h1, h2⟩ := n2 j o a (by simpa using e1) (by simpa using e2)
          exact absurd (List.mem_map.mpr ⟨_, (here o' a e3 e4).2, rfl⟩) h1
        | succ k => rw [n3 j k o o' a (by simpa using e1) (by simpa using e2) (by simpa using e3) (by simpa using e4)]
theorem slsOf_len {ρ : List Sl} : ∀ {as : List Ar} {sls : List Sl}, slsOf ρ as = some sls → as.length = sls.length
  | [], sls, h => by cases h; rfl
  | a :: as, sls, h => by
    unfold slsOf at h
    split at h
    · rename_i s ss h1 h2
      cases h
      simp [slsOf_len h2]
    · cases h
theorem slsOf_get {ρ : List Sl} : ∀ {as : List Ar} {sls : List Sl}, slsOf ρ as = some sls → ∀ {j : Nat} {a : Ar}, as[j]? = some a → ∃ s, slOf ρ a = some s ∧ sls[j]? = some s
  | [], sls, h, j, a, e => by simp at e
  | x :: as, sls, h, j, a, e => by
    unfold slsOf at h
    split at h
    · rename_i s ss h1 h2
      cases h
      cases j with
      | zero => simp at e; subst e; exact ⟨s, h1, rfl⟩
      | succ j =>
        obtain ⟨s', h3, h4⟩ := slsOf_get h2 (by simpa using e : as[j]? = some a)
        exact ⟨s', h3, by simpa using h4⟩
    · cases h
theorem slts_mem : ∀ {as : List Ar} {i : Nat}, i ∈ sltsOf as ↔ ∃ j : Nat, as[j]? = some (Ar.slt i)
  | [], i => by simp [sltsOf]
  | a :: as, i => by
    have ih := slts_mem (as := as) (i := i)
    constructor
    · intro h
      cases a with
      | slt k =>
        have h' : i ∈ k :: sltsOf as := h
        rcases List.mem_cons.mp h' with e | h'
        · exact ⟨0, by simp [e]⟩
        · obtain ⟨j, hj⟩ := ih.mp h'
          exact ⟨j + 1, by simpa using hj⟩
      | val d =>
        obtain ⟨j, hj⟩ := ih.mp h
        exact ⟨j + 1, by simpa using hj⟩
      | tmp o =>
        obtain ⟨j, hj⟩ := ih.mp h
        exact ⟨j + 1, by simpa using hj⟩
      | unk =>
        obtain ⟨j, hj⟩ := ih.mp h
        exact ⟨j + 1, by simpa using hj⟩
    · rintro ⟨j, hj⟩
      cases j with
      | zero =>
        simp at hj
        subst hj
        exact List.mem_cons_self
      | succ j =>
        have h' := ih.mpr ⟨j, by simpa using hj⟩
        cases a with
        | slt k => exact List.mem_cons_of_mem _ h'
        | val d => exact h'
        | tmp o => exact h'
        | unk => exact h'
theorem slts_once : ∀ {as : List Ar}, (sltsOf as).Nodup → ∀ {j k i : Nat}, as[j]? = some (Ar.slt i) → as[k]? = some (Ar.slt i) → j = k
  | [], _, j, k, i, e, _ => by simp at e
  | a :: as, nd, j, k, i, e1, e2 => by
    have nd' : (sltsOf as).Nodup := by
      cases a with
      | slt x => exact (List.nodup_cons.mp nd).2
      | val d => exact nd
      | tmp o => exact nd
      | unk => exact nd
    have no : ∀ m : Nat, a = Ar.slt i → as[m]? = some (Ar.slt i) → False := fun m h1 h2 => by
      subst h1
      exact (List.nodup_cons.mp nd).1 (slts_mem.mpr ⟨m, h2⟩)
    cases j with
    | zero =>
      cases k with
      | zero => rfl
      | succ k => exact absurd (no k (by simpa using e1) (by simpa using e2)) (by simp)
    | succ j =>
      cases k with
      | zero => exact absurd (no j (by simpa using e2) (by simpa using e1)) (by simp)
      | succ k => rw [slts_once nd' (by simpa using e1 : as[j]? = some (.slt i)) (by simpa using e2)]
theorem backS_len : ∀ (as : List Ar) (outs : List Sl) (ρ : List Sl), (backS ρ as outs).length = ρ.length
  | [], outs, ρ => by cases outs <;> rfl
  | a :: as, [], ρ => by cases a <;> rfl
  | a :: as, o :: os, ρ => by
    cases a with
    | slt i =>
      show (backS (ρ.set i o) as os).length = _
      rw [backS_len as os, List.length_set]
    | val d => exact backS_len as os ρ
    | tmp x => exact backS_len as os ρ
    | unk => exact backS_len as os ρ
/-- a slot that was handed on, one that was not -/
theorem backS_out : ∀ {as : List Ar} {outs : List Sl} {ρ : List Sl} {i : Nat}, i ∉ sltsOf as → (backS ρ as outs)[i]? = ρ[i]?
  | [], outs, ρ, i, _ => by cases outs <;> rfl
  | a :: as, [], ρ, i, _ => by cases a <;> rfl
  | a :: as, o :: os, ρ, i, h => by
    cases a with
    | slt k =>
      have h' : i ∉ k :: sltsOf as := h
      rw [List.mem_cons, not_or] at h'
      show (backS (ρ.set k o) as os)[i]? = _
      rw [backS_out h'.2, set_ne h'.1]
    | val d => exact backS_out (ρ := ρ) (as := as) (outs := os) h
    | tmp x => exact backS_out (ρ := ρ) (as := as) (outs := os) h
    | unk => exact backS_out (ρ := ρ) (as := as) (outs := os) h
theorem backS_in : ∀ {as : List Ar} {outs : List Sl} {ρ : List Sl} {i j : Nat} {o : Sl}, (sltsOf as).Nodup → as[j]? = some (.slt i) → outs[j]? = some o → i < ρ.length → (backS ρ as outs)[i]? = some o
  | [], outs, ρ, i, j, o, _, e, _, _ => by simp at e
  | a :: as, [], ρ, i, j, o, _, _, e, _ => by simp at e
  | a :: as, x :: os, ρ, i, j, o, nd, e1, e2, hi => by
    cases j with
    | zero =>
      simp at e1 e2
      subst e1 e2
      have nd' : i ∉ sltsOf as := (List.nodup_cons.mp nd).1
      show (backS (ρ.set i x) as os)[i]? = _
      rw [backS_out nd', set_same hi]
    | succ j =>
      have e1' : as[j]? = some (.slt i) := by simpa using e1
      have e2' : os[j]? = some o := by simpa using e2
      cases a with
      | slt k =>
        show (backS (ρ.set k x) as os)[i]? = _
        exact backS_in (ρ := ρ.set k x) (List.nodup_cons.mp nd).2 e1' e2' (by rw [List.length_set]; exact hi)
      | val d => exact backS_in (as := as) (outs := os) (ρ := ρ) nd e1' e2' hi
      | tmp y => exact backS_in (as := as) (outs := os) (ρ := ρ) nd e1' e2' hi
      | unk => exact backS_in (as := as) (outs := os) (ρ := ρ) nd e1' e2' hi
end Fc
set_option Elab.async false
set_option linter.all false
set_option maxHeartbeats 2000000
set_option maxRecDepth 10000
/-! The state of a callee, the state behind a call. -/
namespace Fc
open PySem L2

structure Args (P : Par) (ψ : List Addr) (τ0 : List (Addr × Ob)) (ρ : List Sl) (O : List Ob) (σ : L2.St) (H : Hp) (as : List Ar) (vs : List V) (sls : List Sl) : Prop where
  rep : Rep P ψ (tacc as vs τ0) ρ O σ H
  ar : ArRs P ψ (tacc as vs τ0) ρ σ H as vs
  sl : slsOf ρ as = some sls
  nd : (sltsOf as).Nodup
/-- what the callers of the callee own -/
def Uc (P : Par) (ψ : List Addr) (τ : List (Addr × Ob)) (ρ : List Sl) (σ : L2.St) (sls : List Sl) (vs : List V) (a : Addr) : Prop := Wr P.U ψ τ ρ σ a ∧ ¬ W0 ψ [] sls (vs.map some) a
section
variable {P : Par} {ψ ψ' : List Addr} {τ0 τc : List (Addr × Ob)} {ρ outs sls : List Sl} {O O' : List Ob} {σ σ' : L2.St} {H H' : Hp} {as : List Ar} {vs : List V}
theorem Args.len1 (g : Args P ψ τ0 ρ O σ H as vs sls) : as.length = sls.length := slsOf_len g.sl
theorem Args.len2 (g : Args P ψ τ0 ρ O σ H as vs sls) : as.length = vs.length := g.ar.1
theorem map_some_get {vs : List V} {j : Nat} {v : V} : (vs.map some)[j]? = some (some v) ↔ vs[j]? = some v := by
  rw [List.getElem?_map]
  cases vs[j]? <;> simp
/-- an own argument: a slot that is handed on, or a new object -/
theorem Args.own (g : Args P ψ τ0 ρ O σ H as vs sls) {j : Nat} {o : Ob} (e : sls[j]? = some (.own o)) :
    ∃ a, vs[j]? = some (.ref a) ∧ ((∃ k, as[j]? = some (.slt k) ∧ ρ[k]? = some (.own o) ∧ σ[k]? = some (some (.ref a))) ∨ (as[j]? = some (.tmp o) ∧ (a, o) ∈ tacc as vs τ0 ∧ a ∉ τ0.map (·.1))) := by
  have hj : j < as.length := by rw [g.len1]; exact (List.getElem?_eq_some_iff.mp e).1
  have hv : j < vs.length := by rw [← g.len2]; exact hj
  obtain ⟨x, e1⟩ : ∃ x, as[j]? = some x := ⟨as[j], by simp [hj]⟩
  obtain ⟨v, e2⟩ : ∃ v, vs[j]? = some v := ⟨vs[j], by simp [hv]⟩
  obtain ⟨s, h1, h2⟩ := slsOf_get g.sl e1
  rw [e] at h2
  cases h2
  have h3 := g.ar.2 j _ _ e1 e2
  cases x with
  | val d => cases h1
  | slt k =>
    unfold slOf at h1
    dsimp only at h1
    split at h1
    · rename_i o' ho
      cases h1
      obtain ⟨a, q1, q2, _⟩ := g.rep.own k o ho
      have h3' : σ[k]? = some (some v) := h3
      rw [q1] at h3'
      cases h3'
      exact ⟨a, e2, .inl ⟨k, e1, ho, q1⟩⟩
    · cases h1
  | unk => cases h1
  | tmp o' =>
    cases h1
    obtain ⟨a, q1, q2⟩ := h3
    subst q1
    obtain ⟨_, t2, _⟩ := tacc_once as vs τ0 g.rep.tnd
    exact ⟨a, e2, .inr ⟨e1, q2, (t2 j o a e1 e2).1⟩⟩
theorem Args.slt (g : Args P ψ τ0 ρ O σ H as vs sls) {j k : Nat} (e : as[j]? = some (.slt k)) : ∃ (o : Ob) (a : Addr), sls[j]? = some (.own o) ∧ vs[j]? = some (.ref a) ∧ ρ[k]? = some (.own o) ∧ σ[k]? = some (some (.ref a)) := by
  obtain ⟨s, h1, h2⟩ := slsOf_get g.sl e
  unfold slOf at h1
  dsimp only at h1
  split at h1
  · rename_i o ho
    cases h1
    obtain ⟨a, q1, q2⟩ := g.own h2
    rcases q2 with ⟨k', q3, q4, q5⟩ | ⟨q3, _⟩
    · rw [e] at q3
      cases q3
      exact ⟨o, a, h2, q1, q4, q5⟩
    · rw [e] at q3
      cases q3
  · cases h1
theorem Args.w0 (g : Args P ψ τ0 ρ O σ H as vs sls) {a : Addr} (h : W0 ψ [] sls (vs.map some) a) : W0 ψ (tacc as vs τ0) ρ σ a := by
  rcases h with h | h | ⟨i, o, h1, h2⟩
  · exact .inl h
  · cases h
  · obtain ⟨b, q1, q2⟩ := g.own h1
    rw [map_some_get] at h2
    rw [q1] at h2
    cases h2
    rcases q2 with ⟨k, _, q4, q5⟩ | ⟨_, q4, _⟩
    · exact .inr (.inr ⟨k, o, q4, q5⟩)
    · exact .inr (.inl (List.mem_map.mpr ⟨_, q4, rfl⟩))
theorem Args.wr (g : Args P ψ τ0 ρ O σ H as vs sls) (a : Addr) : Wr (Uc P ψ (tacc as vs τ0) ρ σ sls vs) ψ [] sls (vs.map some) a ↔ Wr P.U ψ (tacc as vs τ0) ρ σ a := by
  constructor
  · rintro (h | h)
    · exact .inl (g.w0 h)
    · exact h.1
  · intro h
    by_cases c : W0 ψ [] sls (vs.map some) a
    · exact .inl c
    · exact .inr ⟨h, c⟩
/-- the callee's state -/
theorem Args.enter (g : Args P ψ τ0 ρ O σ H as vs sls) : Rep (par0 P.K P.ca (Uc P ψ (tacc as vs τ0) ρ σ sls vs) H sls vs) ψ [] sls O (vs.map some) H := by
  have W : ∀ a, Wr (Uc P ψ (tacc as vs τ0) ρ σ sls vs) ψ [] sls (vs.map some) a → Wr P.U ψ (tacc as vs τ0) ρ σ a := fun a h => (g.wr a).mp h
  have ps : Pres P.K (Wr P.U ψ (tacc as vs τ0) ρ σ) H (Wr (Uc P ψ (tacc as vs τ0) ρ σ sls vs) ψ [] sls (vs.map some)) H := .less W
  have hl : sls.length = vs.length := g.len1.symm.trans g.len2
  refine ⟨by simp [hl], fun i d e => ?_, fun i o e => ?_, fun i j oi oj a e1 e2 e3 e4 => ?_, fun p hp => (by cases hp), List.nodup_nil, fun i o a _ _ => List.not_mem_nil, g.rep.plen, fun n a o e1 e2 => ?_, g.rep.pnd, fun i o a e1 e2 => ?_, fun a ha => (by cases ha), fun j a e => ?_, fun a h => h, fun a h => h.2, fun a h => g.rep.wobj h.1⟩
  · have hi : i < as.length := by rw [g.len1]; exact (List.getElem?_eq_some_iff.mp e).1
    have hv : i < vs.length := by rw [← g.len2]; exact hi
    obtain ⟨x, e1⟩ : ∃ x, as[i]? = some x := ⟨as[i], by simp [hi]⟩
    obtain ⟨v, e2⟩ : ∃ v, vs[i]? = some v := ⟨vs[i], by simp [hv]⟩
    obtain ⟨s, h1, h2⟩ := slsOf_get g.sl e1
    rw [e] at h2
    cases h2
    have h3 := g.ar.2 i _ _ e1 e2
    refine ⟨v, map_some_get.mpr e2, ?_⟩
    cases x with
    | val d' =>
      cases h1
      exact RV.mono (List.prefix_refl _) ps h3
    | slt k =>
      unfold slOf at h1
      dsimp only at h1
      split at h1 <;> cases h1
    | tmp o => cases h1
    | unk => cases h1
  · obtain ⟨a, q1, q2⟩ := g.own e
    refine ⟨a, map_some_get.mpr q1, ?_, fun hn => ?_⟩
    · rcases q2 with ⟨k, _, q4, q5⟩ | ⟨_, q4, _⟩
      · obtain ⟨a', t1, t2, _⟩ := g.rep.own k o q4
        rw [q5] at t1
        cases t1
        exact t2.mono (List.prefix_refl _) ps rfl
      · exact (g.rep.tmp _ q4).1.mono (List.prefix_refl _) ps rfl
    · have h1 : i < sls.length := (List.getElem?_eq_some_iff.mp e).1
      have h2 : sls.length ≤ i := hn
      omega
  · rw [map_some_get] at e3 e4
    obtain ⟨a1, q1, q2⟩ := g.own e1
    obtain ⟨a2, t1, t2⟩ := g.own e2
    rw [e3] at q1
    cases q1
    rw [e4] at t1
    cases t1
    rcases q2 with ⟨k, q3, q4, q5⟩ | ⟨q3, q4, q5⟩
    · rcases t2 with ⟨m, t3, t4, t5⟩ | ⟨t3, t4, t5⟩
      · have hk := g.rep.inj k m _ _ a q4 t4 q5 t5
        subst hk
        exact slts_once g.nd q3 t3
      · exact absurd (List.mem_map.mpr ⟨_, t4, rfl⟩) (g.rep.tow k _ a q4 q5)
    · rcases t2 with ⟨m, t3, t4, t5⟩ | ⟨t3, t4, t5⟩
      · exact absurd (List.mem_map.mpr ⟨_, q4, rfl⟩) (g.rep.tow m _ a t4 t5)
      · obtain ⟨_, _, z3⟩ := tacc_once as vs τ0 g.rep.tnd
        exact z3 i j _ _ a q3 e3 t3 e4
  · exact (g.rep.oid n a o e1 e2).mono (List.prefix_refl _) ps rfl
  · rw [map_some_get] at e2
    obtain ⟨b, q1, q2⟩ := g.own e1
    rw [e2] at q1
    cases q1
    rcases q2 with ⟨k, _, q4, q5⟩ | ⟨_, q4, _⟩
    · exact g.rep.pow k o a q4 q5
    · exact g.rep.ptm a (List.mem_map.mpr ⟨_, q4, rfl⟩)
  · obtain ⟨h1, h2⟩ := paOf_get e
    exact ⟨h1, map_some_get.mpr h2⟩
/-- behind a call -/
theorem Args.back (g : Args P ψ τ0 ρ O σ H as vs sls) {τk : List (Addr × Ob)} (hk : ∀ p ∈ τk, ∃ (j : Nat) (o0 : Ob), as[j]? = some (Ar.tmp o0) ∧ vs[j]? = some (V.ref p.1) ∧ outs[j]? = some (Sl.own p.2)) (hkn : (τk.map (·.1)).Nodup) (x : Aft (par0 P.K P.ca (Uc P ψ (tacc as vs τ0) ρ σ sls vs) H sls vs) ψ [] sls (vs.map some) H ψ' τc outs O' σ' H') :
    Aft P ψ (tacc as vs τ0) ρ σ H ψ' (τc ++ (τk ++ τ0)) (backS ρ as outs) O' σ H' ∧ ∀ b, Wr P.U ψ' (τc ++ (τk ++ τ0)) (backS ρ as outs) σ b → Wr (Uc P ψ (tacc as vs τ0) ρ σ sls vs) ψ' τc outs σ' b := by
  obtain ⟨xpre, xpres, xr, xunt⟩ := x
  have hpa : ∀ (j : Nat) (o : Ob) (a : Addr), sls[j]? = some (.own o) → vs[j]? = some (.ref a) → (∃ o', outs[j]? = some (.own o')) ∧ σ'[j]? = some (some (.ref a)) := fun j o a e1 e2 => by
    refine xr.par j a ?_
    show (paOf sls vs)[j]? = _
    clear g hk hkn xpre xpres xr xunt
    induction sls generalizing vs j with
    | nil => simp at e1
    | cons s r ih =>
      cases vs with
      | nil => simp at e2
      | cons v vs =>
        cases j with
        | zero =>
          simp at e1 e2
          subst e1 e2
          rfl
        | succ j =>
          have h := ih (vs := vs) j (by simpa using e1) (by simpa using e2)
          cases s with
          | no => exact h
          | dp d => exact h
          | own o => cases v <;> exact h
  -- an own slot behind the call was one before it
  have own' : ∀ (i : Nat) (o : Ob), (backS ρ as outs)[i]? = some (.own o) →
      (∃ (j : Nat) (a : Addr) (o0 : Ob), as[j]? = some (Ar.slt i) ∧ sls[j]? = some (Sl.own o0) ∧ vs[j]? = some (V.ref a) ∧ outs[j]? = some (Sl.own o) ∧ ρ[i]? = some (Sl.own o0) ∧ σ[i]? = some (some (V.ref a)) ∧ σ'[j]? = some (some (V.ref a))) ∨ (i ∉ sltsOf as ∧ ρ[i]? = some (.own o)) := fun i o e => by
    by_cases c : i ∈ sltsOf as
    · obtain ⟨j, hj⟩ := slts_mem.mp c
      obtain ⟨o0, a, q1, q2, q3, q4⟩ := g.slt hj
      obtain ⟨⟨o', t1⟩, t2⟩ := hpa j o0 a q1 q2
      have hi : i < ρ.length := (List.getElem?_eq_some_iff.mp q3).1
      rw [backS_in g.nd hj t1 hi] at e
      cases e
      exact .inl ⟨j, a, o0, hj, q1, q2, t1, q3, q4, t2⟩
    · rw [backS_out c] at e
      exact .inr ⟨c, e⟩
  have own0 : ∀ (i : Nat) (o : Ob), (backS ρ as outs)[i]? = some (.own o) → ∃ o0, ρ[i]? = some (.own o0) := fun i o e => by
    rcases own' i o e with ⟨j, a, o0, _, _, _, _, h, _⟩ | ⟨_, h⟩
    · exact ⟨_, h⟩
    · exact ⟨_, h⟩
  have uslot : ∀ (i : Nat) (o : Ob) (a : Addr), i ∉ sltsOf as → ρ[i]? = some (.own o) → σ[i]? = some (some (.ref a)) → Uc P ψ (tacc as vs τ0) ρ σ sls vs a := fun i o a c e1 e2 => by
    refine ⟨.inl (.inr (.inr ⟨i, o, e1, e2⟩)), ?_⟩
    rintro (h | h | ⟨j, o', h1, h2⟩)
    · exact g.rep.pow i o a e1 e2 h
    · cases h
    · rw [map_some_get] at h2
      obtain ⟨b, q1, q2⟩ := g.own h1
      rw [h2] at q1
      cases q1
      rcases q2 with ⟨k, q3, q4, q5⟩ | ⟨_, q4, _⟩
      · have := g.rep.inj i k _ _ a e1 q4 e2 q5
        subst this
        exact c (slts_mem.mpr ⟨j, q3⟩)
      · exact g.rep.tow i o a e1 e2 (List.mem_map.mpr ⟨_, q4, rfl⟩)
  have sub0 : ∀ a, a ∈ τ0.map (·.1) → a ∈ (tacc as vs τ0).map (·.1) := fun a h => by
    obtain ⟨q, hq, e⟩ := List.mem_map.mp h
    exact List.mem_map.mpr ⟨q, tacc_sub as vs τ0 q hq, e⟩
  have utmp : ∀ a, a ∈ τ0.map (·.1) → Uc P ψ (tacc as vs τ0) ρ σ sls vs a := fun a ha => by
    refine ⟨.inl (.inr (.inl (sub0 a ha))), ?_⟩
    rintro (h | h | ⟨j, o', h1, h2⟩)
    · exact g.rep.ptm a (sub0 a ha) h
    · cases h
    · rw [map_some_get] at h2
      obtain ⟨b, q1, q2⟩ := g.own h1
      rw [h2] at q1
      cases q1
      rcases q2 with ⟨k, q3, q4, q5⟩ | ⟨_, q4, q5⟩
      · exact g.rep.tow k _ a q4 q5 (sub0 a ha)
      · exact q5 ha
  have uu : ∀ a, P.U a → Uc P ψ (tacc as vs τ0) ρ σ sls vs a := fun a ha => ⟨.inr ha, fun h => g.rep.out a ha (g.w0 h)⟩
  have out' : ∀ a, Uc P ψ (tacc as vs τ0) ρ σ sls vs a → ¬ W0 ψ' τc outs σ' a := fun a h => xr.out a h
  have unt' : ∀ a, Uc P ψ (tacc as vs τ0) ρ σ sls vs a → H' a = H a := fun a h => xunt a h
  have kept : ∀ a o, (a, o) ∈ τk → ∃ (j : Nat), outs[j]? = some (Sl.own o) ∧ σ'[j]? = some (some (V.ref a)) ∧ a ∈ (tacc as vs τ0).map (·.1) ∧ a ∉ τ0.map (·.1) ∧ P.H0 a = none := fun a o h => by
    obtain ⟨j, o0, q1, q2, q3⟩ := hk _ h
    obtain ⟨s, h1, h2⟩ := slsOf_get g.sl q1
    cases h1
    obtain ⟨b, t1, t2⟩ := g.own h2
    rw [q2] at t1
    cases t1
    rcases t2 with ⟨k, t3, _⟩ | ⟨t3, t4, t5⟩
    · rw [q1] at t3
      cases t3
    · exact ⟨j, q3, (hpa j o0 a h2 q2).2, List.mem_map.mpr ⟨_, t4, rfl⟩, t5, (g.rep.tmp _ t4).2⟩
  have keptm : ∀ a, a ∈ τk.map (·.1) → ∃ o, (a, o) ∈ τk := fun a h => by
    obtain ⟨q, hq, e⟩ := List.mem_map.mp h
    exact ⟨q.2, by rw [← e]; exact hq⟩
  have WW : ∀ b, Wr P.U ψ' (τc ++ (τk ++ τ0)) (backS ρ as outs) σ b → Wr (Uc P ψ (tacc as vs τ0) ρ σ sls vs) ψ' τc outs σ' b := fun b hb => by
    rcases hb with (h | h | ⟨i, o, h1, h2⟩) | h
    · exact .inl (.inl h)
    · rw [List.map_append, List.mem_append, List.map_append, List.mem_append] at h
      rcases h with h | h | h
      · exact .inl (.inr (.inl h))
      · obtain ⟨o, ho⟩ := keptm b h
        obtain ⟨j, q1, q2, _⟩ := kept b o ho
        exact .inl (.inr (.inr ⟨j, o, q1, q2⟩))
      · exact .inr (utmp b h)
    · rcases own' i o h1 with ⟨j, a, o0, _, _, _, q1, _, q2, q3⟩ | ⟨c, q⟩
      · rw [h2] at q2
        cases q2
        exact .inl (.inr (.inr ⟨j, o, q1, q3⟩))
      · exact .inr (uslot i o b c q h2)
    · exact .inr (uu b h)
  have less : Pres P.K (Wr (Uc P ψ (tacc as vs τ0) ρ σ sls vs) ψ' τc outs σ') H' (Wr P.U ψ' (τc ++ (τk ++ τ0)) (backS ρ as outs) σ) H' := .less WW
  have pr : Pres P.K (Wr P.U ψ (tacc as vs τ0) ρ σ) H (Wr P.U ψ' (τc ++ (τk ++ τ0)) (backS ρ as outs) σ) H' := by
    refine Pres.trans ⟨fun a o h n => ?_, fun a xs h => xpres.tups a xs h, fun a h => xpres.dom a h⟩ less
    exact xpres.keep a o h fun z => n ((g.wr a).mp z)
  have newτ : ∀ a, a ∈ τc.map (·.1) → H a = none := fun a ha => by
    obtain ⟨q, hq, e⟩ := List.mem_map.mp ha
    rw [← e]
    exact (xr.tmp q hq).2
  have old : ∀ (i : Nat) (o : Ob) (a : Addr), ρ[i]? = some (.own o) → σ[i]? = some (some (.ref a)) → H a ≠ none := fun i o a e1 e2 => by
    obtain ⟨b, q1, q2, _⟩ := g.rep.own i o e1
    rw [e2] at q1
    cases q1
    obtain ⟨y, hy⟩ := q2.some
    rw [hy]
    simp
  refine ⟨⟨xpre, pr, ⟨?_, fun i d e => ?_, fun i o e => ?_, fun i j oi oj a e1 e2 e3 e4 => ?_, fun p hp => ?_, ?_, fun i o a e1 e2 ha => ?_, xr.plen, fun n a o e1 e2 => ?_, xr.pnd, fun i o a e1 e2 ha => ?_, fun a ha => ?_, fun j a e => ?_, fun a ha => ?_, fun a ha => ?_, fun a ha => ?_⟩, fun a ha => unt' a (uu a ha)⟩, WW⟩
  · rw [backS_len]; exact g.rep.len
  · by_cases c : i ∈ sltsOf as
    · obtain ⟨j, hj⟩ := slts_mem.mp c
      obtain ⟨o0, a, q1, q2, q3, q4⟩ := g.slt hj
      obtain ⟨⟨o', t1⟩, t2⟩ := hpa j o0 a q1 q2
      have hi : i < ρ.length := (List.getElem?_eq_some_iff.mp q3).1
      rw [backS_in g.nd hj t1 hi] at e
      cases e
    · rw [backS_out c] at e
      obtain ⟨v, h1, h2⟩ := g.rep.dp i d e
      exact ⟨v, h1, h2.mono xpre pr⟩
  · rcases own' i o e with ⟨j, a, o0, _, _, q0, q1, q4, q2, q3⟩ | ⟨c, q⟩
    · obtain ⟨b, t1, t2, _⟩ := xr.own j o q1
      rw [q3] at t1
      cases t1
      obtain ⟨b, z1, _, z3⟩ := g.rep.own i o0 q4
      rw [q2] at z1
      cases z1
      exact ⟨a, q2, t2.mono (List.prefix_refl _) less rfl, z3⟩
    · obtain ⟨b, z1, z2, z3⟩ := g.rep.own i o q
      exact ⟨b, z1, z2.mono xpre pr (unt' b (uslot i o b c q z1)), z3⟩
  · obtain ⟨o1, h1⟩ := own0 i oi e1
    obtain ⟨o2, h2⟩ := own0 j oj e2
    exact g.rep.inj i j o1 o2 a h1 h2 e3 e4
  · rcases List.mem_append.mp hp with h | hh
    · obtain ⟨t1, t2⟩ := xr.tmp p h
      refine ⟨t1.mono (List.prefix_refl _) less rfl, ?_⟩
      cases hh : P.H0 p.1 with
      | none => rfl
      | some y => exact absurd t2 (g.rep.ent p.1 (by rw [hh]; simp))
    rcases List.mem_append.mp hh with h | h
    · obtain ⟨j, q1, q2, _, _, q5⟩ := kept p.1 p.2 h
      obtain ⟨b, t1, t2, _⟩ := xr.own j p.2 q1
      rw [q2] at t1
      cases t1
      exact ⟨t2.mono (List.prefix_refl _) less rfl, q5⟩
    · obtain ⟨t1, t2⟩ := g.rep.tmp p (tacc_sub as vs τ0 p h)
      exact ⟨t1.mono xpre pr (unt' _ (utmp _ (List.mem_map.mpr ⟨_, h, rfl⟩))), t2⟩
  · rw [List.map_append, List.nodup_append, List.map_append, List.nodup_append]
    obtain ⟨n0, _, _⟩ := tacc_once as vs τ0 g.rep.tnd
    refine ⟨xr.tnd, ⟨hkn, n0, fun a ha b hb e => ?_⟩, fun a ha b hb e => ?_⟩
    · subst e
      obtain ⟨o, ho⟩ := keptm a ha
      obtain ⟨j, _, _, _, q4, _⟩ := kept a o ho
      exact q4 hb
    subst e
    rcases List.mem_append.mp hb with hb | hb
    · obtain ⟨o, ho⟩ := keptm a hb
      obtain ⟨j, q1, q2, _⟩ := kept a o ho
      exact xr.tow j o a q1 q2 ha
    obtain ⟨q, hq, e⟩ := List.mem_map.mp hb
    obtain ⟨y, hy⟩ := (g.rep.tmp q (tacc_sub as vs τ0 q hq)).1.some
    rw [e, newτ a ha] at hy
    cases hy
  · obtain ⟨o0, h0⟩ := own0 i o e1
    rw [List.map_append, List.mem_append, List.map_append, List.mem_append] at ha
    rcases ha with ha | ha | ha
    · exact old i o0 a h0 e2 (newτ a ha)
    · obtain ⟨o', ho⟩ := keptm a ha
      obtain ⟨j, _, _, q3, _⟩ := kept a o' ho
      exact g.rep.tow i o0 a h0 e2 q3
    · exact g.rep.tow i o0 a h0 e2 (sub0 a ha)
  · exact (xr.oid n a o e1 e2).mono (List.prefix_refl _) less rfl
  · rcases own' i o e1 with ⟨j, b, o0, _, _, q0, q1, q4, q2, q3⟩ | ⟨c, q⟩
    · rw [e2] at q2
      cases q2
      exact xr.pow j o a q1 q3 ha
    · exact out' a (uslot i o a c q e2) (.inl ha)
  · rw [List.map_append, List.mem_append, List.map_append, List.mem_append] at ha
    rcases ha with ha | ha | ha
    · exact xr.ptm a ha
    · obtain ⟨o', ho⟩ := keptm a ha
      obtain ⟨j, q1, q2, _⟩ := kept a o' ho
      exact xr.pow j o' a q1 q2
    · exact fun z => out' a (utmp a ha) (.inl z)
  · obtain ⟨⟨o, h1⟩, h2⟩ := g.rep.par j a e
    refine ⟨?_, h2⟩
    by_cases c : j ∈ sltsOf as
    · obtain ⟨k, hk⟩ := slts_mem.mp c
      obtain ⟨o0, b, q1, q2, q3, q4⟩ := g.slt hk
      obtain ⟨⟨o', t1⟩, t2⟩ := hpa k o0 b q1 q2
      have hi : j < ρ.length := (List.getElem?_eq_some_iff.mp q3).1
      exact ⟨o', backS_in g.nd hk t1 hi⟩
    · exact ⟨o, by rw [backS_out c]; exact h1⟩
  · exact pr.dom a (g.rep.ent a ha)
  · rintro (h | h | ⟨i, o, h1, h2⟩)
    · exact out' a (uu a ha) (.inl h)
    · rw [List.map_append, List.mem_append, List.map_append, List.mem_append] at h
      rcases h with h | h | h
      · exact out' a (uu a ha) (.inr (.inl h))
      · obtain ⟨o', ho⟩ := keptm a h
        obtain ⟨j, _, _, q3, _⟩ := kept a o' ho
        exact g.rep.out a ha (.inr (.inl q3))
      · exact g.rep.out a ha (.inr (.inl (sub0 a h)))
    · obtain ⟨o0, h0⟩ := own0 i o h1
      exact g.rep.out a ha (.inr (.inr ⟨i, o0, h0, h2⟩))
  · exact xr.uob a (uu a ha)
/-- a callee's end: its own state may be another -/
def ResE (P : Par) (ψ : List Addr) (ρ : List Sl) (σ : L2.St) (H : Hp) (l : L) (ρ' : List Sl) (O' : List Ob) (ψ' : List Addr) (H' : Hp) (v : V) (σ' : L2.St) : Prop :=
  match l with
  | .dp d => Aft P ψ [] ρ σ H ψ' [] ρ' O' σ' H' ∧ RV P.K P.ca ψ' (Wr P.U ψ' [] ρ' σ') H' d v
  | .fr o => ∃ a, v = .ref a ∧ Aft P ψ [] ρ σ H ψ' [(a, o)] ρ' O' σ' H'
theorem Args.res (g : Args P ψ τ0 ρ O σ H as vs sls) {l : L} {v : V} (x : ResE (par0 P.K P.ca (Uc P ψ (tacc as vs τ0) ρ σ sls vs) H sls vs) ψ sls (vs.map some) H l outs O' ψ' H' v σ')
    {ψ1 : List Addr} {ρ1 : List Sl} {H1 : Hp} (y : Aft P ψ1 τ0 ρ1 σ H1 ψ (tacc as vs τ0) ρ O σ H) : Res P ψ1 τ0 ρ1 σ H1 l (backS ρ as outs) O' ψ' H' v := by
  cases l with
  | dp d =>
    obtain ⟨h1, h2⟩ := x
    obtain ⟨h3, h4⟩ := g.back (τk := []) (fun p hp => by cases hp) List.nodup_nil h1
    exact ⟨y.trans h3, h2.mono (List.prefix_refl _) (.less h4)⟩
  | fr o =>
    obtain ⟨a, e, h1⟩ := x
    obtain ⟨h3, h4⟩ := g.back (τk := []) (fun p hp => by cases hp) List.nodup_nil h1
    exact ⟨a, e, y.trans h3⟩
/-- a new object is given to a callee that ends with None and returned -/
theorem Args.made {a : Addr} {o0 o : Ob} (g : Args P ψ τ0 ρ O σ H (.tmp o0 :: as) (.ref a :: vs) sls) (hv : ∀ x ∈ as, ∃ d, x = .val d) {r : List Sl} {v : V} (ho : outs = .own o :: r)
    (x : ResE (par0 P.K P.ca (Uc P ψ (tacc (.tmp o0 :: as) (.ref a :: vs) τ0) ρ σ sls (.ref a :: vs)) H sls (.ref a :: vs)) ψ sls ((V.ref a :: vs).map some) H (.dp .non) outs O' ψ' H' v σ') :
    v = .non ∧ Aft P ψ (tacc (.tmp o0 :: as) (.ref a :: vs) τ0) ρ σ H ψ' ((a, o) :: τ0) ρ O' σ H' := by
  obtain ⟨h1, h2⟩ := x
  subst ho
  obtain ⟨h3, h4⟩ := g.back (τk := [(a, o)]) (fun p hp => by
    rw [List.mem_singleton] at hp
    subst hp
    exact ⟨0, o0, rfl, rfl, rfl⟩) (by simp) h1
  have e : ∀ (as : List Ar) (outs ρ : List Sl), (∀ x ∈ as, ∃ d, x = .val d) → backS ρ as outs = ρ := fun as => by
    induction as with
    | nil => intro outs ρ _; cases outs <;> rfl
    | cons x as ih =>
      intro outs ρ h
      obtain ⟨d, rfl⟩ := h x List.mem_cons_self
      cases outs with
      | nil => rfl
      | cons y ys => exact ih ys ρ fun z hz => h z (List.mem_cons_of_mem _ hz)
  have e1 : backS ρ (Ar.tmp o0 :: as) (Sl.own o :: r) = ρ := e as r ρ hv
  rw [e1] at h3
  exact ⟨by cases h2; rfl, h3⟩
end
/-- what a def promises by the evaluator -/
def spEv (K : PySem.W.Frag) (ca : Nat → Addr) (T : Tab) (F n f : Nat) : Sp := fun vs H Q _ => ∃ U ψ O sls l outs O', Rep (par0 K ca U H sls vs) ψ [] sls O (vs.map some) H ∧ callN T F n f sls O = some (l, outs, O') ∧
  ∀ ψ' H' v σ', ResE (par0 K ca U H sls vs) ψ sls (vs.map some) H l outs O' ψ' H' v σ' → Q v H'
/-- .. from the caller's state -/
theorem Args.sp {P : Par} {ψ ψ1 : List Addr} {τ0 : List (Addr × Ob)} {ρ ρ1 ρ' : List Sl} {O O' : List Ob} {σ : L2.St} {H H1 : Hp} {as : List Ar} {vs : List V} {T : Tab} {F n f : Nat} {l : L} {E : XK} {Q : V → Hp → Prop}
    (y : Aft P ψ1 τ0 ρ1 σ H1 ψ (tacc as vs τ0) ρ O σ H) (ar : ArRs P ψ (tacc as vs τ0) ρ σ H as vs) (e : callAr (callN T F n) f as (ρ, O) = some (l, (ρ', O')))
    (q : ∀ ψ' H' v, Res P ψ1 τ0 ρ1 σ H1 l ρ' O' ψ' H' v → Q v H') : spEv P.K P.ca T F n f vs H Q E := by
  unfold callAr at e
  dsimp only at e
  split at e
  · rename_i nd
    cases e1 : slsOf ρ as with
    | none => rw [e1] at e; cases e
    | some sls =>
      rw [e1] at e
      dsimp only at e
      cases e2 : callN T F n f sls O with
      | none => rw [e2] at e; cases e
      | some z =>
        obtain ⟨l2, outs, O2⟩ := z
        rw [e2] at e
        cases e
        have g : Args P ψ τ0 ρ O σ H as vs sls := ⟨y.rep, ar, e1, nd⟩
        exact ⟨_, ψ, O, sls, _, outs, _, g.enter, e2, fun ψ' H' v σ' x => q ψ' H' v (g.res x y)⟩
  · cases e
end Fc
set_option Elab.async false
set_option linter.all false
set_option maxHeartbeats 2000000
set_option maxRecDepth 10000
/-! Calls: arguments, functions, methods, new instances, properties, fields. -/
namespace Fc
open PySem L2

def tAr (Γ : Cx0) (P : Par) (md : Bool) (t : Tm) : TE := fun σ H Q => ∃ ψ τ ρ O a ρ' O', Rep P ψ τ ρ O σ H ∧ argOf md t (ev Γ t) (ρ, O) = some (a, (ρ', O')) ∧
  ∀ ψ' H' v, Aft P ψ τ ρ σ H ψ' (t1 a v τ) ρ' O' σ H' → ArR P ψ' (t1 a v τ) ρ' σ H' a v → Q v H'
def tAs (Γ : Cx0) (P : Par) (md : List Bool) (xs : Tms) : TA := fun σ H Q => ∃ ψ τ ρ O as ρ' O', Rep P ψ τ ρ O σ H ∧ evA Γ md xs (ρ, O) = some (as, (ρ', O')) ∧
  ∀ ψ' H' vs, Aft P ψ τ ρ σ H ψ' (tacc as vs τ) ρ' O' σ H' → ArRs P ψ' (tacc as vs τ) ρ' σ H' as vs → Q vs H'
theorem ArR.after {P : Par} {ψ ψ' : List Addr} {τ τ' : List (Addr × Ob)} {ρ ρ' : List Sl} {O' : List Ob} {σ : L2.St} {H H' : Hp} {a : Ar} {v : V} (x : Aft P ψ τ ρ σ H ψ' τ' ρ' O' σ H') (ht : ∀ q ∈ τ, q ∈ τ') (h : ArR P ψ τ ρ σ H a v) : ArR P ψ' τ' ρ' σ H' a v := by
  cases a with
  | val d => exact RV.mono x.pre x.pres h
  | slt i => exact h
  | tmp o => obtain ⟨b, e, m⟩ := h; exact ⟨b, e, ht _ m⟩
  | unk => trivial
theorem PE.or {X : Cx} {e : Expr} {t1 t2 : TE} (h1 : PE X e t1) (h2 : PE X e t2) : PE X e (fun σ H Q => t1 σ H Q ∨ t2 σ H Q) := ⟨fun pins s σ H Q I q => by
  rcases q with q | q
  · exact h1.run pins s σ H Q I q
  · exact h2.run pins s σ H Q I q⟩
section
variable {X : Cx} {P : Par} {Γ : Cx0} {e o : Expr} {es : List Expr} {t to : Tm} {xs : Tms} {md : List Bool} {pos p2 apos kpos : Pos}
theorem arg_val (h : PE X e (tEv Γ P t)) : PE X e (tAr Γ P false t) := PE.imp h fun σ H Q q => by
  obtain ⟨ψ, τ, ρ, O, a, ρ', O', r, e, k⟩ := q
  have e' : (match ev Γ t (ρ, O) with
    | some (l, s') => some (Ar.val l.deep, s')
    | none => none) = some (a, (ρ', O')) := e
  split at e'
  · rename_i l s' hl
    cases e'
    refine ⟨ψ, τ, ρ, O, l, ρ', O', r, hl, fun ψ' H' v res => ?_⟩
    obtain ⟨h1, h2⟩ := res.deep
    exact k ψ' H' v h1 h2
  · cases e'
theorem arg_mut (h : PE X e (tPl Γ P t)) : PE X e (tAr Γ P true t) := PE.imp h fun σ H Q q => by
  obtain ⟨ψ, τ, ρ, O, a, ρ', O', r, e, k⟩ := q
  have e' : (match plOf t (ev Γ t) (ρ, O) with
    | some (.sl i, s') => some (Ar.slt i, s')
    | some (.vl (.fr o), s') => some (.tmp o, s')
    | _ => none) = some (a, (ρ', O')) := e
  split at e'
  · rename_i i s' hl
    cases e'
    exact ⟨ψ, τ, ρ, O, .sl i, ρ', O', r, hl, fun ψ' H' v h1 h2 => k ψ' H' v h1 h2⟩
  · rename_i o s' hl
    cases e'
    refine ⟨ψ, τ, ρ, O, .vl (.fr o), ρ', O', r, hl, fun ψ' H' v h1 h2 => ?_⟩
    have ht : tpl (.vl (.fr o)) v τ = t1 (.tmp o) v τ := by cases v <;> rfl
    rw [ht] at h1 h2
    exact k ψ' H' v h1 h2
  · cases e'
theorem as_nil : PA X [] (tAs Γ P md .nil) := PA.imp pa_nil fun σ H Q q => by
  obtain ⟨ψ, τ, ρ, O, as, ρ', O', r, e, k⟩ := q
  have e' : some (([] : List Ar), (ρ, O)) = some (as, (ρ', O')) := e
  cases e'
  exact k ψ H [] (.refl r) ⟨rfl, fun j a v e => by simp at e⟩
theorem ArRs.cons {ψ : List Addr} {τ : List (Addr × Ob)} {ρ : List Sl} {σ : L2.St} {H : Hp} {a : Ar} {v : V} {as : List Ar} {vs : List V} (h : ArR P ψ τ ρ σ H a v) (r : ArRs P ψ τ ρ σ H as vs) : ArRs P ψ τ ρ σ H (a :: as) (v :: vs) := by
  refine ⟨by simp [r.1], fun j a' v' e1 e2 => ?_⟩
  cases j with
  | zero =>
    simp at e1 e2
    subst e1 e2
    exact h
  | succ j => exact r.2 j a' v' (by simpa using e1) (by simpa using e2)
theorem as_step {σ : L2.St} {H : Hp} {Q : List V → Hp → Prop} (q : tAs Γ P md (.cons t xs) σ H Q) : tAr Γ P (md.headD false) t σ H fun v H1 => tAs Γ P md.tail xs σ H1 fun vs H2 => Q (v :: vs) H2 := by
  obtain ⟨ψ, τ, ρ, O, as, ρ', O', r, e, k⟩ := q
  have e' : (match argOf (md.headD false) t (ev Γ t) (ρ, O) with
    | none => none
    | some (a, s1) => match evA Γ md.tail xs s1 with
      | none => none
      | some (as, s2) => some (a :: as, s2)) = some (as, (ρ', O')) := e
  cases e1 : argOf (md.headD false) t (ev Γ t) (ρ, O) with
  | none => rw [e1] at e'; cases e'
  | some z1 =>
    obtain ⟨a, ρ1, O1⟩ := z1
    rw [e1] at e'
    dsimp only at e'
    cases e2 : evA Γ md.tail xs (ρ1, O1) with
    | none => rw [e2] at e'; cases e'
    | some z2 =>
      obtain ⟨as2, ρ2, O2⟩ := z2
      rw [e2] at e'
      cases e'
      refine ⟨ψ, τ, ρ, O, a, ρ1, O1, r, e1, fun ψ1 H1 v a1 rv => ?_⟩
      refine ⟨ψ1, t1 a v τ, ρ1, O1, as2, _, _, a1.rep, e2, fun ψ2 H2 vs a2 rvs => ?_⟩
      exact k ψ2 H2 _ (a1.trans a2) (.cons (rv.after a2 (tacc_sub as2 vs _)) rvs)
theorem as_cons (ha : PE X e (tAr Γ P (md.headD false) t)) (hr : PA X es (tAs Γ P md.tail xs)) (hs : starEach (e :: es) X.env = (false, eval e X.env) :: starEach es X.env) : PA X (e :: es) (tAs Γ P md (.cons t xs)) :=
  PA.imp (pa_cons ha hr hs) fun σ H Q q => as_step q
theorem PK.imp {kws : List Keyword} {t t' : TA} (h : PK X kws t) (i : ∀ σ H Q, t' σ H Q → t σ H Q) : PK X kws t' := ⟨fun p pins s σ H Q I q => h.run p pins s σ H Q I (i _ _ _ q)⟩
theorem ak_nil : PK X [] (tAs Γ P md .nil) := PK.imp pk_nil fun σ H Q q => by
  obtain ⟨ψ, τ, ρ, O, as, ρ', O', r, e, k⟩ := q
  have e' : some (([] : List Ar), (ρ, O)) = some (as, (ρ', O')) := e
  cases e'
  exact k ψ H [] (.refl r) ⟨rfl, fun j a v e => by simp at e⟩
theorem ak_cons {kws : List Keyword} {nm : Option Str} (ha : PE X e (tAr Γ P (md.headD false) t)) (hr : PK X kws (tAs Γ P md.tail xs)) : PK X (⟨nm, e, kpos⟩ :: kws) (tAs Γ P md (.cons t xs)) :=
  PK.imp (pk_cons ha hr) fun σ H Q q => as_step q
theorem pl_deep {s s1 s2 s3 : Fc.E} {p : Pl} {d : D} {l : L} (h1 : plOf t (ev Γ t) s = some (p, s1)) (h2 : view p s1 = some (d, s3)) (h3 : ev Γ t s = some (l, s2)) : l.deep = d := by
  by_cases c : ∃ i, t = .var i
  · obtain ⟨i, rfl⟩ := c
    have h3' : getVar Γ.np i s = some (l, s2) := h3
    unfold plOf at h1
    unfold getVar at h3'
    dsimp only at h1 h3'
    split at h1
    · rename_i d' hd
      cases h1
      rw [hd] at h3'
      cases h3'
      have h2' : some (d', s) = some (d, s3) := h2
      cases h2'
      rfl
    · rename_i o ho
      cases h1
      unfold view at h2
      dsimp only at h2
      rw [ho] at h2 h3'
      cases h2
      dsimp only at h3'
      split at h3'
      · cases h3'
      · cases h3'
        rfl
    · cases h1
  · have e2 : (match ev Γ t s with
      | some (l, s') => some (Pl.vl l, s')
      | none => none) = some (p, s1) := by
      cases t <;> first | exact h1 | exact absurd ⟨_, rfl⟩ c
    rw [h3] at e2
    cases e2
    have h2' : some (l.deep, s1) = some (d, s3) := h2
    cases h2'
    rfl
/-! ### functions -/
variable {CX : CXT} {k n F : Nat} {T : Tab} {f : Nat} {fa : Addr} {fd : FuncData} {ps : List Str} {x m : Str}
theorem passes_no {X : Cx} : Passes (L2.CX X.prog X.w) X (fun _ _ _ => False) := fun pins σ H s e s' I c => by
  obtain ⟨a, B, H', cls, d, _, _, _, _, _, _, _, hE⟩ := c
  exact False.elim hE
theorem permute_nil {as : List Ar} : permute [] as = some as := rfl
theorem call_sp {σ : L2.St} {H : Hp} {Q : VK} {E : XK} (hc : Γ.cf = callN T F n) (q : tEv Γ P (.call f md [] xs) σ H Q) : tAs Γ P md xs σ H fun vs H1 => spEv P.K P.ca T F n f vs H1 Q E := by
  obtain ⟨ψ, τ, ρ, O, l, ρ', O', r, e, kk⟩ := q
  have e' : (match evA Γ md xs (ρ, O) with
    | none => none
    | some (as, s1) => match permute [] as with
      | none => none
      | some as => callAr Γ.cf f as s1) = some (l, (ρ', O')) := e
  cases e1 : evA Γ md xs (ρ, O) with
  | none => rw [e1] at e'; cases e'
  | some z =>
    obtain ⟨as, ρ1, O1⟩ := z
    rw [e1] at e'
    have e2 : callAr Γ.cf f as (ρ1, O1) = some (l, (ρ', O')) := e'
    rw [hc] at e2
    exact ⟨ψ, τ, ρ, O, as, ρ1, O1, r, e1, fun ψ1 H1 vs a1 ar => Args.sp a1 ar e2 kk⟩
variable (hK : P.K = X.K) (hc : Γ.cf = callN T F n)
include hc in
theorem call_ok (Fk : FnOk X.prog X.w X.K X.mg X.base CX k fa fd ps (spEv P.K P.ca T F n f)) (hr : Room k X.A) (hg : Gl X x) (hm : X.mg x = some (.ref fa)) (hk : PySem.W.keepIn X.K (.ref fa) = true) (hb : Binds X.K fd ps []) {E : XK} (hx : Passes CX X E)
    (ha : PA X (e :: es) (tAs Γ P md xs)) (hdb : (x == ("__debug__" : Str)) = false) (he : starEach (e :: es) X.env = (false, eval e X.env) :: starEach es X.env) (hpl : (backTo pos (starEach es X.env)).any (·.1) = false) :
    PE X (.Call (.Name x p2) (e :: es) [] pos) (tEv Γ P (.call f md [] xs)) := PE.imp (pe_call Fk hr hg hm hk hb .nil hx ha hdb he hpl) fun σ H Q q => by
  have h := call_sp (E := E) hc q
  obtain ⟨ψ, τ, ρ, O, as, ρ', O', r, e1, kk⟩ := h
  exact ⟨ψ, τ, ρ, O, as, ρ', O', r, e1, fun ψ' H' vs a1 a2 => by
    show spEv P.K P.ca T F n f (vs ++ []) H' Q E
    rw [List.append_nil]
    exact kk ψ' H' vs a1 a2⟩
include hc in
theorem call0_ok (Fk : FnOk X.prog X.w X.K X.mg X.base CX k fa fd ps (spEv P.K P.ca T F n f)) (hr : Room k X.A) (hg : Gl X x) (hm : X.mg x = some (.ref fa)) (hk : PySem.W.keepIn X.K (.ref fa) = true) (hb : Binds X.K fd ps []) {E : XK} (hx : Passes CX X E)
    (hdb : (x == ("__debug__" : Str)) = false) : PE X (.Call (.Name x p2) [] [] pos) (tEv Γ P (.call f md [] .nil)) := PE.imp (pe_call0 Fk hr hg hm hk hb .nil hx hdb) fun σ H Q q => by
  have h := call_sp (E := E) hc q
  obtain ⟨ψ, τ, ρ, O, as, ρ', O', r, e1, kk⟩ := h
  have e' : some (([] : List Ar), (ρ, O)) = some (as, (ρ', O')) := e1
  cases e'
  exact kk ψ H [] (.refl r) ⟨rfl, fun j a v e => by simp at e⟩
/-- f(k = e, ..), every parameter in its order -/
theorem pe_callW {sp : Sp} {E : XK} {kws : List Keyword} {tk : TA} (Fk : FnOk X.prog X.w X.K X.mg X.base CX k fa fd ps sp) (hr : Room k X.A) (hg : Gl X x) (hm : X.mg x = some (.ref fa)) (hk : PySem.W.keepIn X.K (.ref fa) = true)
    (hb : KBinds X.K fd ps ps (fun _ ws => ws) (fun _ zs => zs)) (hx : Passes CX X E) (hkw : PK X kws tk) (hall : (backToKw pos (keywordEach kws X.env)).all (·.1.isSome) = true) (hks : (backToKw pos (keywordEach kws X.env)).filterMap (·.1) = ps)
    (hdb : (x == ("__debug__" : Str)) = false) (hpl : ((backTo pos (starEach [] X.env)).any (·.1) || (backToKw pos (keywordEach kws X.env)).any (·.1.isNone)) = false) :
    PE X (.Call (.Name x p2) [] kws pos) (fun σ H Q => tk σ H fun zs H1 => sp zs H1 Q E) := by
  refine ⟨fun pins s σ H Q I h => ?_⟩
  refine wpAny_Call_Name_kw (ld_glob I hg hm ?_ hdb)
  refine PySem.W.callWith_KW0 (h₀ := X.base) I.ok.mod.kin hk hall ?_ hpl
  refine thn (hkw.run pos pins s σ H _ I h) fun ws s2 ⟨zs, H2, I2, rz, q2⟩ => ⟨I2.kIn, ?_⟩
  rw [hks]
  exact run_fnk (us := []) (vs := []) Fk hr hb hx I2 .nil rz q2
include hc in
theorem callW_ok {E : XK} {kws : List Keyword} (Fk : FnOk X.prog X.w X.K X.mg X.base CX k fa fd ps (spEv P.K P.ca T F n f)) (hr : Room k X.A) (hg : Gl X x) (hm : X.mg x = some (.ref fa)) (hk : PySem.W.keepIn X.K (.ref fa) = true)
    (hb : KBinds X.K fd ps ps (fun _ ws => ws) (fun _ zs => zs)) (hx : Passes CX X E) (hkw : PK X kws (tAs Γ P md xs)) (hall : (backToKw pos (keywordEach kws X.env)).all (·.1.isSome) = true) (hks : (backToKw pos (keywordEach kws X.env)).filterMap (·.1) = ps)
    (hdb : (x == ("__debug__" : Str)) = false) (hpl : ((backTo pos (starEach [] X.env)).any (·.1) || (backToKw pos (keywordEach kws X.env)).any (·.1.isNone)) = false) :
    PE X (.Call (.Name x p2) [] kws pos) (tEv Γ P (.call f md [] xs)) := PE.imp (pe_callW Fk hr hg hm hk hb hx hkw hall hks hdb hpl) fun σ H Q q => call_sp (E := E) hc q
/-! ### methods -/
/-- what must be known of the method m of the class at C -/
def MthOk (X : Cx) (m : Str) (C : Addr) (sp : Sp) : Prop := ∃ CX k fa fd ps E, Cls X.K C ∧ Meth X.K C m fa ∧ FnOk X.prog X.w X.K X.mg X.base CX k fa fd ps sp ∧ Room k X.A ∧ Binds X.K fd ps [] ∧ Passes CX X E ∧ ∀ vs H Q E', sp vs H Q E' → sp vs H Q E
def tMthD (X : Cx) (m : Str) (ta : TE) (t : TA) : TE := fun σ H Q => ta σ H fun x H1 => ∃ a C dx fs sp, x = .ref a ∧ H1 a = some (.ins C dx fs) ∧ fs.lookup m = none ∧ MthOk X m C sp ∧ t σ H1 fun vs H2 => sp (x :: vs) H2 Q (fun _ _ _ => False)
theorem pe_methD {pl : Sem Bool} {ta : TE} {t : TA} (he : PE X o ta) (ha : PA X (e :: es) t)
    (hst : starEach (e :: es) X.env = (false, eval e X.env) :: starEach es X.env) (hpl : (backTo pos (starEach es X.env)).any (·.1) = false)
    (ht : eval (.Call (.Attribute o m apos) (e :: es) [] pos) X.env = (do
      let ov ← eval o X.env
      standAt apos.atName
      let (f, first) ← holding [ov] (getMethod ov m pl)
      callWith pos f first (backTo pos (starEach (e :: es) X.env)) (backToKw pos (keywordEach [] X.env)))) :
    PE X (.Call (.Attribute o m apos) (e :: es) [] pos) (tMthD X m ta t) := by
  refine ⟨fun pins s σ H Q I h => ?_⟩
  refine PySem.W.methodCall_KW (pl := pl) (thn (he.run pins s σ H _ I h) fun u s1 ⟨x, H1, I1, rx, a, C, dx, fs, sp, ex, ea, l, ⟨CX, k, fa, fd, ps, E, c, hm, Fk, hr, hb, hx, hE⟩, q⟩ => ?_) ht
  subst ex
  obtain rfl : u = Value.ref a := rx
  refine getmeth_ok I1 ea c hm l ?_
  refine PySem.W.callWith_K (first := [.ref a]) (h₀ := X.base) I.ok.mod.kin hm.kp (thn (ha.run pos pins s1 σ H1 _ I1 q) fun us s2 ⟨vs, H2, I2, r, q2⟩ => ⟨I2.kIn, ?_⟩) hst hpl
  have := run_fn (ds := []) (dvs := []) (us := .ref a :: us) (vs := .ref a :: vs) Fk hr hb .nil hx I2 (.cons rfl r) (by rw [List.append_nil]; exact hE _ _ _ _ q2)
  exact this
theorem pe_methD0 {pl : Sem Bool} {ta : TE} (he : PE X o ta)
    (ht : eval (.Call (.Attribute o m apos) [] [] pos) X.env = (do
      let ov ← eval o X.env
      standAt apos.atName
      let (f, first) ← holding [ov] (getMethod ov m pl)
      callWith pos f first (backTo pos (starEach [] X.env)) (backToKw pos (keywordEach [] X.env)))) :
    PE X (.Call (.Attribute o m apos) [] [] pos) (tMthD X m ta tNil) := by
  refine ⟨fun pins s σ H Q I h => ?_⟩
  refine PySem.W.methodCall_KW (pl := pl) (thn (he.run pins s σ H _ I h) fun u s1 ⟨x, H1, I1, rx, a, C, dx, fs, sp, ex, ea, l, ⟨CX, k, fa, fd, ps, E, c, hm, Fk, hr, hb, hx, hE⟩, q⟩ => ?_) ht
  subst ex
  obtain rfl : u = Value.ref a := rx
  refine getmeth_ok I1 ea c hm l ?_
  exact PySem.W.callWith_K0 (first := [.ref a]) I1.kIn hm.kp (run_fn (ds := []) (dvs := []) (us := [.ref a]) (vs := [.ref a]) Fk hr hb .nil hx I1 (.cons rfl .nil) (hE _ _ _ _ q))
include hc in
/-- what the evaluator's method call asks for -/
theorem meth_sp {σ : L2.St} {H : Hp} {Q : VK} (hK : P.K = X.K) (hM : ∀ c f md, Γ.mth c m = some (f, md) → MthOk X m (P.ca c) (spEv P.K P.ca T F n f)) (q : tEv Γ P (.meth m to xs) σ H Q) :
    (tEv Γ P to σ H fun x H1 => ∃ a C dx fs sp, x = .ref a ∧ H1 a = some (.ins C dx fs) ∧ fs.lookup m = none ∧ MthOk X m C sp ∧ ∃ md, tAs Γ P md xs σ H1 fun vs H2 => sp (x :: vs) H2 Q (fun _ _ _ => False)) ∨
    (tPl Γ P to σ H fun x H1 => ∃ a C dx fs sp, x = .ref a ∧ H1 a = some (.ins C dx fs) ∧ fs.lookup m = none ∧ MthOk X m C sp ∧ ∃ md, tAs Γ P md xs σ H1 fun vs H2 => sp (x :: vs) H2 Q (fun _ _ _ => False)) := by
  obtain ⟨ψ, τ, ρ, O, l, ρ', O', r, e, kk⟩ := q
  have look : ∀ {fs : List (Str × D)} {vs : List (Str × V)} , fs.map (·.1) = vs.map (·.1) → (fs.lookup m).isSome = false → vs.lookup m = none := fun {fs vs} h1 h2 => by
    induction fs generalizing vs with
    | nil => cases vs with
      | nil => rfl
      | cons v vs => simp at h1
    | cons a fs ih =>
      cases vs with
      | nil => simp at h1
      | cons v vs =>
        obtain ⟨a1, a2⟩ := a
        obtain ⟨v1, v2⟩ := v
        simp at h1
        obtain ⟨h3, h4⟩ := h1
        subst h3
        rw [List.lookup_cons] at h2 ⊢
        cases hq : m == a1 with
        | true => rw [hq] at h2; simp at h2
        | false => rw [hq] at h2; exact ih (by simpa using h4) h2
  have e' := e
  unfold ev at e'
  rw [evB] at e'
  dsimp only [evP] at e'
  rw [show (evB Γ to).1 = ev Γ to from rfl] at e'
  cases e1 : plOf to (ev Γ to) (ρ, O) with
  | none => rw [e1] at e'; cases e'
  | some z1 =>
    obtain ⟨p, ρ1, O1⟩ := z1
    rw [e1] at e'
    dsimp only at e'
    split at e'
    · rename_i c fs s2 hv
      cases hl : (fs.lookup m).isSome with
      | true => rw [hl] at e'; cases e'
      | false =>
        rw [hl] at e'
        rw [if_neg (by simp)] at e'
        split at e'
        · rename_i f md hm
          split at e'
          · rename_i i
            cases e2 : evA Γ md xs (ρ1, O1) with
            | none => rw [e2] at e'; cases e'
            | some z2 =>
              obtain ⟨as, ρ2, O2⟩ := z2
              rw [e2] at e'
              have e3 : callAr Γ.cf f (.slt i :: as) (ρ2, O2) = some (l, (ρ', O')) := e'
              rw [hc] at e3
              refine .inr ⟨ψ, τ, ρ, O, .sl i, ρ1, O1, r, e1, fun ψ1 H1 v a1 rv => ?_⟩
              obtain ⟨a, dx, vs, q1, q2, q3⟩ := (view_ok a1.rep rv hv).ins
              subst q1
              refine ⟨a, _, dx, vs, _, rfl, q2, look q3.1 hl, hM c f _ hm, md, ψ1, τ, ρ1, O1, as, ρ2, O2, a1.rep, e2, fun ψ2 H2 us a2 ar => ?_⟩
              exact Args.sp (as := .slt i :: as) (vs := V.ref a :: us) (a1.trans a2) (.cons rv ar) e3 kk
          · cases e'
        · rename_i f b md hb hm
          cases e2 : ev Γ to (ρ, O) with
          | none => rw [e2] at e'; cases e'
          | some z2 =>
            obtain ⟨l0, ρ2, O2⟩ := z2
            rw [e2] at e'
            dsimp only at e'
            cases e3 : evA Γ md xs (ρ2, O2) with
            | none => rw [e3] at e'; cases e'
            | some z3 =>
              obtain ⟨as, ρ3, O3⟩ := z3
              rw [e3] at e'
              have e4 : callAr Γ.cf f (.val l0.deep :: as) (ρ3, O3) = some (l, (ρ', O')) := e'
              rw [hc] at e4
              refine .inl ⟨ψ, τ, ρ, O, l0, ρ2, O2, r, e2, fun ψ1 H1 v res => ?_⟩
              obtain ⟨a1, rv⟩ := res.deep
              have hd : l0.deep = .ins c fs := pl_deep e1 hv e2
              rw [hd] at rv
              cases rv with
              | ins h1 h2 h3 h4 =>
                refine ⟨_, _, _, _, _, rfl, h1, look h3 hl, hM c f _ hm, md, ψ1, τ, ρ2, O2, as, ρ3, O3, a1.rep, e3, fun ψ2 H2 us a2 ar => ?_⟩
                refine Args.sp (as := .val l0.deep :: as) (vs := V.ref _ :: us) (a1.trans a2) (.cons ?_ ar) e4 kk
                rw [hd]
                exact ArR.after (a := .val (.ins c fs)) a2 (tacc_sub as us τ) (.ins h1 h2 h3 h4)
        · cases e'
    · cases e'
end
end Fc
set_option Elab.async false
set_option linter.all false
set_option maxHeartbeats 2000000
set_option maxRecDepth 10000
/-! Methods, new instances, properties, fields. -/
namespace Fc
open PySem L2
theorem PA.ex {α : Type} {X : Cx} {es : List Expr} {t : α → TA} (h : ∀ a, PA X es (t a)) : PA X es (fun σ H Q => ∃ a, t a σ H Q) := ⟨fun p pins s σ H Q I ⟨a, q⟩ => (h a).run p pins s σ H Q I q⟩
section
variable {X : Cx} {P : Par} {Γ : Cx0} {e o : Expr} {es : List Expr} {t to : Tm} {xs : Tms} {pos p2 apos kpos : Pos} {k n F : Nat} {T : Tab} {fa : Addr} {fd : FuncData} {ps : List Str} {x m : Str} {CX : CXT}
theorem meth_ok {pl : Sem Bool} (hc : Γ.cf = callN T F n) (hK : P.K = X.K) (hM : ∀ c f md, Γ.mth c m = some (f, md) → MthOk X m (P.ca c) (spEv P.K P.ca T F n f)) (hE : PE X o (tEv Γ P to)) (hP : PE X o (tPl Γ P to)) (ha : ∀ md, PA X (e :: es) (tAs Γ P md xs))
    (hst : starEach (e :: es) X.env = (false, eval e X.env) :: starEach es X.env) (hpl : (backTo pos (starEach es X.env)).any (·.1) = false)
    (ht : eval (.Call (.Attribute o m apos) (e :: es) [] pos) X.env = (do
      let ov ← eval o X.env
      standAt apos.atName
      let (f, first) ← holding [ov] (getMethod ov m pl)
      callWith pos f first (backTo pos (starEach (e :: es) X.env)) (backToKw pos (keywordEach [] X.env)))) :
    PE X (.Call (.Attribute o m apos) (e :: es) [] pos) (tEv Γ P (.meth m to xs)) := PE.imp (pe_methD (PE.or hE hP) (PA.ex ha) hst hpl ht) fun σ H Q q => meth_sp hc hK hM q
theorem meth0_ok {pl : Sem Bool} (hc : Γ.cf = callN T F n) (hK : P.K = X.K) (hM : ∀ c f md, Γ.mth c m = some (f, md) → MthOk X m (P.ca c) (spEv P.K P.ca T F n f)) (hE : PE X o (tEv Γ P to)) (hP : PE X o (tPl Γ P to))
    (ht : eval (.Call (.Attribute o m apos) [] [] pos) X.env = (do
      let ov ← eval o X.env
      standAt apos.atName
      let (f, first) ← holding [ov] (getMethod ov m pl)
      callWith pos f first (backTo pos (starEach [] X.env)) (backToKw pos (keywordEach [] X.env)))) :
    PE X (.Call (.Attribute o m apos) [] [] pos) (tEv Γ P (.meth m to .nil)) := PE.imp (pe_methD0 (PE.or hE hP) ht) fun σ H Q q => by
  have nl : ∀ {md : List Bool} {σ : L2.St} {H : Hp} {Q : List V → Hp → Prop}, tAs Γ P md .nil σ H Q → Q [] H := fun {md σ H Q} q => by
    obtain ⟨ψ, τ, ρ, O, as, ρ', O', r, e, k⟩ := q
    have e' : some (([] : List Ar), (ρ, O)) = some (as, (ρ', O')) := e
    cases e'
    exact k ψ H [] (.refl r) ⟨rfl, fun j a v e => by simp at e⟩
  have mE : ∀ {Q Q' : VK}, (∀ v H, Q v H → Q' v H) → tEv Γ P to σ H Q → tEv Γ P to σ H Q' := fun {Q Q'} i ⟨ψ, τ, ρ, O, l, ρ', O', r, e, k⟩ => ⟨ψ, τ, ρ, O, l, ρ', O', r, e, fun ψ' H' v z => i _ _ (k ψ' H' v z)⟩
  have mP : ∀ {Q Q' : VK}, (∀ v H, Q v H → Q' v H) → tPl Γ P to σ H Q → tPl Γ P to σ H Q' := fun {Q Q'} i ⟨ψ, τ, ρ, O, l, ρ', O', r, e, k⟩ => ⟨ψ, τ, ρ, O, l, ρ', O', r, e, fun ψ' H' v z1 z2 => i _ _ (k ψ' H' v z1 z2)⟩
  rcases meth_sp hc hK hM q with h | h
  · exact .inl (mE (fun v H1 ⟨a, C, dx, fs, sp, h1, h2, h3, h4, md, h5⟩ => ⟨a, C, dx, fs, sp, h1, h2, h3, h4, nl h5⟩) h)
  · exact .inr (mP (fun v H1 ⟨a, C, dx, fs, sp, h1, h2, h3, h4, md, h5⟩ => ⟨a, C, dx, fs, sp, h1, h2, h3, h4, nl h5⟩) h)

/-! ### new instances -/
theorem evA_vals : ∀ {xs : Tms} {s s' : Fc.E} {as : List Ar}, evA Γ [] xs s = some (as, s') → ∀ a ∈ as, ∃ d, a = Ar.val d
  | .nil, s, s', as, h => by
    have h' : some (([] : List Ar), s) = some (as, s') := h
    cases h'
    intro a ha
    cases ha
  | .cons x xs, s, s', as, h => by
    have h' : (match argOf false x (ev Γ x) s with
      | none => none
      | some (a, s1) => match evA Γ [] xs s1 with
        | none => none
        | some (as, s2) => some (a :: as, s2)) = some (as, s') := h
    cases e1 : argOf false x (ev Γ x) s with
    | none => rw [e1] at h'; cases h'
    | some z1 =>
      obtain ⟨a, s1⟩ := z1
      rw [e1] at h'
      dsimp only at h'
      cases e2 : evA Γ [] xs s1 with
      | none => rw [e2] at h'; cases h'
      | some z2 =>
        obtain ⟨as2, s2⟩ := z2
        rw [e2] at h'
        cases h'
        intro b hb
        rcases List.mem_cons.mp hb with e | hb
        · subst e
          unfold argOf at e1
          dsimp only at e1
          split at e1
          · cases e1; exact ⟨_, rfl⟩
          · cases e1
        · exact evA_vals e2 b hb
  | .star _ _, s, s', as, h => by cases h
theorem tacc_vals : ∀ {as : List Ar} {vs : List V} {τ : List (Addr × Ob)}, (∀ a ∈ as, ∃ d, a = Ar.val d) → tacc as vs τ = τ
  | [], vs, τ, _ => by unfold tacc; rfl
  | a :: as, [], τ, _ => by unfold tacc; rfl
  | a :: as, v :: vs, τ, h => by
    obtain ⟨d, rfl⟩ := h a List.mem_cons_self
    show tacc as vs τ = τ
    exact tacc_vals fun b hb => h b (List.mem_cons_of_mem _ hb)
theorem slts_vals : ∀ {as : List Ar}, (∀ a ∈ as, ∃ d, a = Ar.val d) → sltsOf as = []
  | [], _ => rfl
  | a :: as, h => by
    obtain ⟨d, rfl⟩ := h a List.mem_cons_self
    show sltsOf as = []
    exact slts_vals fun b hb => h b (List.mem_cons_of_mem _ hb)
theorem ArRs.append {ψ : List Addr} {τ : List (Addr × Ob)} {ρ : List Sl} {σ : L2.St} {H : Hp} {as bs : List Ar} {vs us : List V} (h : ArRs P ψ τ ρ σ H as vs) (r : ArRs P ψ τ ρ σ H bs us) : ArRs P ψ τ ρ σ H (as ++ bs) (vs ++ us) := by
  refine ⟨by simp [h.1, r.1], fun j a v e1 e2 => ?_⟩
  rw [List.getElem?_append] at e1 e2
  rw [← h.1] at e2
  split at e1
  · rename_i hj
    rw [if_pos hj] at e2
    exact h.2 j a v e1 e2
  · rename_i hj
    rw [if_neg hj] at e2
    exact r.2 _ a v e1 e2
theorem make_sp {c : Nat} {dds : List D} {dvs : List V} {σ : L2.St} {H : Hp} {Q : VK} {E : XK} {f : Nat} (hc : Γ.cf = callN T F n) (hi : Γ.ini c = some f) (hdd : ∀ ψ W H, RVs P.K P.ca ψ W H dds dvs) (q : tEv Γ P (.make c dds xs) σ H Q) : tMake (P.ca c) (spEv P.K P.ca T F n f) dvs E (tAs Γ P [] xs) σ H Q := by
  obtain ⟨ψ, τ, ρ, O, l, ρ', O', r, e, kk⟩ := q
  have e' := e
  unfold ev at e'
  rw [evB] at e'
  dsimp only [evP] at e'
  rw [hi, hc] at e'
  cases e1 : evA Γ [] xs (ρ, O) with
  | none => rw [e1] at e'; cases e'
  | some z1 =>
    obtain ⟨as, ρ1, O1⟩ := z1
    rw [e1] at e'
    dsimp only at e'
    have hv := evA_vals e1
    have hv2 : ∀ a ∈ as ++ dds.map Ar.val, ∃ d, a = Ar.val d := fun a ha => by
      rcases List.mem_append.mp ha with ha | ha
      · exact hv a ha
      · obtain ⟨d, _, e⟩ := List.mem_map.mp ha
        exact ⟨d, e.symm⟩
    cases e2 : slsOf ρ1 (as ++ dds.map .val) with
    | none => rw [e2] at e'; cases e'
    | some sls =>
      rw [e2] at e'
      dsimp only at e'
      split at e'
      · rename_i o rr O2 e3
        cases e'
        refine ⟨ψ, τ, ρ, O, as, ρ', O1, r, e1, fun ψ1 H1 vs a1 ar => ?_⟩
        rw [tacc_vals hv] at a1 ar
        intro x dx hx hdx hne
        have x1 : Ext H1 (upd (upd H1 dx (.own x)) x (.ins (P.ca c) dx [])) := Ext.trans (Ext.upd hdx) (Ext.upd (by rw [upd_ne (Ne.symm hne)]; exact hx))
        have pu := a1.rep.push (o := .ins c []) x1 hx fun _ => ⟨dx, [], upd_same, rfl, fun i p q e => by simp at e⟩
        have ar2 : ArRs P ψ1 ((x, .ins c []) :: τ) ρ' σ (upd (upd H1 dx (.own x)) x (.ins (P.ca c) dx [])) (.tmp (.ins c []) :: (as ++ dds.map .val)) (.ref x :: (vs ++ dvs)) := by
          refine .cons ⟨x, rfl, List.mem_cons_self⟩ (.append ⟨ar.1, fun j a v q1 q2 => (ar.2 j a v q1 q2).after pu fun q hq => List.mem_cons_of_mem _ hq⟩ ?_)
          refine ⟨by rw [List.length_map]; exact (hdd ψ (fun _ => False) H).1, fun j a v q1 q2 => ?_⟩
          rw [List.getElem?_map] at q1
          cases hq : dds[j]? with
          | none => rw [hq] at q1; cases q1
          | some d =>
            rw [hq] at q1
            cases q1
            exact (hdd ψ1 _ _).2 j d v hq q2
        have tt : tacc (.tmp (.ins c []) :: (as ++ dds.map Ar.val)) (.ref x :: (vs ++ dvs)) τ = (x, .ins c []) :: τ := by
          show tacc (as ++ dds.map Ar.val) (vs ++ dvs) ((x, .ins c []) :: τ) = _
          exact tacc_vals hv2
        have g : Args P ψ1 τ ρ' O1 σ (upd (upd H1 dx (.own x)) x (.ins (P.ca c) dx [])) (.tmp (.ins c []) :: (as ++ dds.map .val)) (.ref x :: (vs ++ dvs)) (.own (.ins c []) :: sls) := by
          refine ⟨by rw [tt]; exact pu.rep, by rw [tt]; exact ar2, ?_, ?_⟩
          · unfold slsOf
            rw [e2]
            rfl
          · show (sltsOf (as ++ dds.map .val)).Nodup
            rw [slts_vals hv2]
            exact List.nodup_nil
        refine ⟨_, ψ1, O1, _, .dp .non, .own o :: rr, _, g.enter, e3, fun ψ2 H2 v σ2 y => ?_⟩
        obtain ⟨z1, z2⟩ := g.made hv2 rfl y
        refine ⟨z1, kk ψ2 H2 _ ⟨x, rfl, ?_⟩⟩
        rw [tt] at z2
        exact (a1.trans pu).trans z2
      · cases e'
theorem make_ok {c : Nat} {dds : List D} {dvs : List V} {ds : List Value} {E : XK} {f : Nat} (hc : Γ.cf = callN T F n) (hK : P.K = X.K) (hi : Γ.ini c = some f) (hdd : ∀ ψ W H, RVs P.K P.ca ψ W H dds dvs) (M : Mk X.K (P.ca c) fa) (Fk : FnOk X.prog X.w X.K X.mg X.base CX k fa fd ps (spEv P.K P.ca T F n f))
    (hr : Room (k + 1) X.A) (hg : Gl X x) (hm : X.mg x = some (.ref (P.ca c))) (hb : Binds X.K fd ps ds) (hd : Vals dvs ds) (hx : Passes CX X E) (ha : PA X (e :: es) (tAs Γ P [] xs)) (hdb : (x == ("__debug__" : Str)) = false)
    (he : starEach (e :: es) X.env = (false, eval e X.env) :: starEach es X.env) (hpl : (backTo pos (starEach es X.env)).any (·.1) = false) : PE X (.Call (.Name x p2) (e :: es) [] pos) (tEv Γ P (.make c dds xs)) :=
  PE.imp (pe_make M Fk hr hg hm hb hd hx ha hdb he hpl) fun σ H Q q => make_sp hc hi hdd q
/-! ### properties, fields -/
def tPrpD (X : Cx) (f : Str) (ta : TE) : TE := fun σ H Q => ta σ H fun x H1 => ∃ a C dx fs sp CX k p g fd ps E, x = .ref a ∧ H1 a = some (.ins C dx fs) ∧ Cls X.K C ∧ PropOf X.K C f p g ∧ FnOk X.prog X.w X.K X.mg X.base CX k g fd ps sp ∧ Room (k + 1) X.A ∧ Binds X.K fd ps [] ∧ Passes CX X.nox E ∧ sp [.ref a] H1 Q E
theorem pe_propD {f : Str} {ta : TE} (he : PE X e ta) (hab : attributeBase e f X.env (eval e X.env) = eval e X.env) : PE X (.Attribute e f pos) (tPrpD X f ta) := by
  refine ⟨fun pins s σ H Q I h => ?_⟩
  refine attr_of hab (thn (he.run pins s σ H _ I h) fun u s1 ⟨x, H1, I1, rx, a, C, dx, fs, sp, CX, k, p, g, fd, ps, E, ex, ea, c, hp, Fk, hr, hb, hx, q⟩ => ?_)
  subst ex
  obtain rfl : u = Value.ref a := rx
  exact getprop_ok (ds := []) (dvs := []) I1 ea c hp Fk hr hb .nil hx q
theorem prp_ok {f : Str} (hc : Γ.cf = callN T F n) (hK : P.K = X.K)
    (hp : ∀ c g, Γ.prp c f = some g → ∃ CX k p ga fd ps E, Cls X.K (P.ca c) ∧ PropOf X.K (P.ca c) f p ga ∧ FnOk X.prog X.w X.K X.mg X.base CX k ga fd ps (spEv P.K P.ca T F n g) ∧ Room (k + 1) X.A ∧ Binds X.K fd ps [] ∧ Passes CX X.nox E)
    (he : PE X e (tEv Γ P t)) (hab : attributeBase e f X.env (eval e X.env) = eval e X.env) : PE X (.Attribute e f pos) (tEv Γ P (.prp f t)) := PE.imp (pe_propD he hab) fun σ H Q q => by
  obtain ⟨ψ, τ, ρ, O, l, ρ', O', r, e, kk⟩ := q
  have e' := e
  unfold ev at e'
  rw [evB] at e'
  dsimp only [evP] at e'
  rw [show (evB Γ t).1 = ev Γ t from rfl, hc] at e'
  cases e1 : ev Γ t (ρ, O) with
  | none => rw [e1] at e'; cases e'
  | some z1 =>
    obtain ⟨l1, ρ1, O1⟩ := z1
    rw [e1] at e'
    dsimp only at e'
    split at e'
    · rename_i c fs hl
      cases e2 : Γ.prp c f with
      | none => rw [e2] at e'; cases e'
      | some g =>
        rw [e2] at e'
        obtain ⟨CX, k, p, ga, fd, ps, E, q1, q2, q3, q4, q5, q6⟩ := hp c g e2
        refine ⟨ψ, τ, ρ, O, l1, ρ1, O1, r, e1, fun ψ1 H1 v res => ?_⟩
        obtain ⟨a1, rv⟩ := res.deep
        rw [hl] at rv
        cases rv with
        | ins h1 h2 h3 h4 =>
          refine ⟨_, _, _, _, _, CX, k, p, ga, fd, ps, E, rfl, h1, q1, q2, q3, q4, q5, q6, ?_⟩
          refine Args.sp (as := [.val (.ins c fs)]) (vs := [V.ref _]) a1 (.cons (.ins h1 h2 h3 h4) ⟨rfl, fun j a v e => by simp at e⟩) e' kk
    · cases e'
theorem look_rv {f : Str} {K : PySem.W.Frag} {ca : Nat → Addr} {ψ : List Addr} {W : Addr → Prop} {H : Hp} : ∀ {fs : List (Str × D)} {vs : List (Str × V)} {d : D}, RVf K ca ψ W H fs vs → fs.lookup f = some d → ∃ v, vs.lookup f = some v ∧ RV K ca ψ W H d v
  | [], vs, d, _, e => by cases e
  | (g, u) :: fs, [], d, h, e => by have := h.1; simp at this
  | (g, u) :: fs, (g', u') :: vs, d, h, e => by
    have h1 := h.1
    simp at h1
    obtain ⟨hg, ht⟩ := h1
    subst hg
    rw [List.lookup_cons] at e ⊢
    cases hq : f == g with
    | true =>
      rw [hq] at e
      cases e
      exact ⟨u', rfl, h.2 0 _ _ rfl rfl⟩
    | false =>
      rw [hq] at e
      exact look_rv (fs := fs) (vs := vs) ⟨by simpa using ht, fun i p q e1 e2 => h.2 (i + 1) p q (by simpa using e1) (by simpa using e2)⟩ e
theorem fld_ok {f : Str} (hK : P.K = X.K) (hn : ∀ c, Γ.kc c = true → Cls X.K (P.ca c) ∧ NoAttr X.K (P.ca c) f) (he : PE X e (tPl Γ P t)) (hab : attributeBase e f X.env (eval e X.env) = eval e X.env) : PE X (.Attribute e f pos) (tEv Γ P (.fld f t)) :=
  PE.imp (pe_fld he hab) fun σ H Q q => by
    obtain ⟨ψ, τ, ρ, O, l, ρ', O', r, e, kk⟩ := q
    have e' := e
    unfold ev at e'
    rw [evB] at e'
    dsimp only [evP] at e'
    rw [show (evB Γ t).1 = ev Γ t from rfl] at e'
    cases e1 : plOf t (ev Γ t) (ρ, O) with
    | none => rw [e1] at e'; cases e'
    | some z1 =>
      obtain ⟨p, ρ1, O1⟩ := z1
      rw [e1] at e'
      dsimp only at e'
      split at e'
      · rename_i c fs s2 hv
        split at e'
        · rename_i hkc
          cases e2 : fs.lookup f with
          | none => rw [e2] at e'; cases e'
          | some d =>
            rw [e2] at e'
            cases e'
            refine ⟨ψ, τ, ρ, O, p, ρ', O', r, e1, fun ψ1 H1 v a1 rv => ?_⟩
            have a2 := a1.rep.popl
            obtain ⟨a, dx, vs, q1, q2, q3⟩ := (view_ok a1.rep rv hv).ins
            obtain ⟨w, q4, q5⟩ := look_rv q3 e2
            refine ⟨a, _, dx, vs, w, q1, q2, (hn c hkc).1, (hn c hkc).2, q4, kk ψ1 H1 w ⟨a1.trans a2, q5.mono a2.pre a2.pres⟩⟩
        · cases e'
      · cases e'
end
end Fc
set_option Elab.async false
set_option linter.all false
set_option maxHeartbeats 2000000
set_option maxRecDepth 10000
/-! Built-in functions. -/
namespace Fc
open PySem L2
def BltR (X : Cx) (P : Par) (b : Blt) (r : List V → Hp → VK → Prop) : Prop := ∀ ψ τ ρ O σ H ds vs l Q, Rep P ψ τ ρ O σ H → RVs P.K P.ca ψ (Wr P.U ψ τ ρ σ) H ds vs → bltD b ds = some l → (∀ ψ' H' v, Res P ψ τ ρ σ H l ρ O ψ' H' v → Q v H') → r vs H Q
section
variable {X : Cx} {P : Par} {Γ : Cx0} {e : Expr} {es : List Expr} {t : Tm} {xs : Tms} {pos p2 : Pos} {b : Blt} {r : List V → Hp → VK → Prop} {id : String} {x : Str}
theorem blt_sp (h : BltR X P b r) {σ : L2.St} {H : Hp} {Q : VK} (q : tEv Γ P (.blt b xs) σ H Q) : tEs Γ P xs σ H fun vs H1 => r vs H1 Q := by
  obtain ⟨ψ, τ, ρ, O, l, ρ', O', rr, e, k⟩ := q
  have e' : (match evs Γ xs (ρ, O) with
    | none => none
    | some (ds, s1) => match bltD b ds with
      | none => none
      | some l => some (l, s1)) = some (l, (ρ', O')) := e
  cases e1 : evs Γ xs (ρ, O) with
  | none => rw [e1] at e'; cases e'
  | some z1 =>
    obtain ⟨ds, ρ1, O1⟩ := z1
    rw [e1] at e'
    dsimp only at e'
    cases e2 : bltD b ds with
    | none => rw [e2] at e'; cases e'
    | some l1 =>
      rw [e2] at e'
      cases e'
      refine ⟨ψ, τ, ρ, O, ds, _, _, rr, e1, fun ψ1 H1 vs a1 rv => ?_⟩
      exact h _ _ _ _ _ _ _ _ _ _ a1.rep rv e2 fun ψ2 H2 v res => k ψ2 H2 v (res.after a1)
theorem bltB_ok (h : BltR X P b r) (hc : CallR X (.builtin id) r) (hg : Gl X x) (hm : X.mg x = none) (hv : bootBuiltins x = some (.builtin id)) (ha : PA X (e :: es) (tEs Γ P xs)) (hn : x ≠ "__name__") (hdb : (x == ("__debug__" : Str)) = false)
    (he : starEach (e :: es) X.env = (false, eval e X.env) :: starEach es X.env) (hpl : (backTo pos (starEach es X.env)).any (·.1) = false) : PE X (.Call (.Name x p2) (e :: es) [] pos) (tEv Γ P (.blt b xs)) :=
  PE.imp (pe_callB hc hg hm hv ha hn hdb he hpl) fun σ H Q q => blt_sp h q
theorem bltT_ok (h : BltR X P b r) (hc : CallR X (.type id) r) (hg : Gl X x) (hm : X.mg x = none) (hv : bootBuiltins x = some (.type id)) (ha : PA X (e :: es) (tEs Γ P xs)) (hn : x ≠ "__name__") (hdb : (x == ("__debug__" : Str)) = false)
    (he : starEach (e :: es) X.env = (false, eval e X.env) :: starEach es X.env) (hpl : (backTo pos (starEach es X.env)).any (·.1) = false) : PE X (.Call (.Name x p2) (e :: es) [] pos) (tEv Γ P (.blt b xs)) :=
  PE.imp (pe_callTy hc hg hm hv ha hn hdb he hpl) fun σ H Q q => blt_sp h q
/-! ### the functions one by one -/
theorem RVs.one {K : PySem.W.Frag} {ca : Nat → Addr} {ψ : List Addr} {W : Addr → Prop} {H : Hp} {d : D} {vs : List V} (h : RVs K ca ψ W H [d] vs) : ∃ v, vs = [v] ∧ RV K ca ψ W H d v := by
  obtain ⟨v, vs', rfl, h1, h2⟩ := h.cons_inv
  rw [h2.nil_inv]
  exact ⟨v, rfl, h1⟩
theorem RVs.two {K : PySem.W.Frag} {ca : Nat → Addr} {ψ : List Addr} {W : Addr → Prop} {H : Hp} {d d' : D} {vs : List V} (h : RVs K ca ψ W H [d, d'] vs) : ∃ v v', vs = [v, v'] ∧ RV K ca ψ W H d v ∧ RV K ca ψ W H d' v' := by
  obtain ⟨v, vs', rfl, h1, h2⟩ := h.cons_inv
  obtain ⟨v', rfl, h3⟩ := h2.one
  exact ⟨v, v', rfl, h1, h3⟩
theorem RVs.bls {K : PySem.W.Frag} {ca : Nat → Addr} {ψ : List Addr} {W : Addr → Prop} {H : Hp} : ∀ {ds : List D} {vs : List V} {bs : List Bool}, RVs K ca ψ W H ds vs → boolsL ds = some bs → vs = bs.map V.bl
  | [], vs, bs, h, e => by cases e; exact h.nil_inv
  | d :: ds, vs, bs, h, e => by
    cases d with
    | bl b =>
      unfold boolsL at e
      cases e1 : boolsL ds with
      | none => rw [e1] at e; cases e
      | some bs' =>
        rw [e1] at e
        cases e
        obtain ⟨v, vs', rfl, h1, h2⟩ := h.cons_inv
        cases h1
        rw [RVs.bls h2 e1]
        rfl
    | _ => cases e
theorem RVs.ints {K : PySem.W.Frag} {ca : Nat → Addr} {ψ : List Addr} {W : Addr → Prop} {H : Hp} : ∀ {ds : List D} {vs : List V} {bs : List Int}, RVs K ca ψ W H ds vs → intsL ds = some bs → vs = bs.map V.int
  | [], vs, bs, h, e => by cases e; exact h.nil_inv
  | d :: ds, vs, bs, h, e => by
    cases d with
    | int b =>
      unfold intsL at e
      cases e1 : intsL ds with
      | none => rw [e1] at e; cases e
      | some bs' =>
        rw [e1] at e
        cases e
        obtain ⟨v, vs', rfl, h1, h2⟩ := h.cons_inv
        cases h1
        rw [RVs.ints h2 e1]
        rfl
    | _ => cases e
theorem RVs.strs {K : PySem.W.Frag} {ca : Nat → Addr} {ψ : List Addr} {W : Addr → Prop} {H : Hp} : ∀ {ds : List D} {vs : List V} {bs : List Str}, RVs K ca ψ W H ds vs → strsL ds = some bs → vs = bs.map V.str
  | [], vs, bs, h, e => by cases e; exact h.nil_inv
  | d :: ds, vs, bs, h, e => by
    cases d with
    | str b =>
      unfold strsL at e
      cases e1 : strsL ds with
      | none => rw [e1] at e; cases e
      | some bs' =>
        rw [e1] at e
        cases e
        obtain ⟨v, vs', rfl, h1, h2⟩ := h.cons_inv
        cases h1
        rw [RVs.strs h2 e1]
        rfl
    | _ => cases e
theorem blt_abs : BltR X P .abs (fun xs H Q => ∃ i, xs = [.int i] ∧ Q (.int (if i < 0 then -i else i)) H) := fun ψ τ ρ O σ H ds vs l Q rr rv e k => by
  unfold bltD at e
  split at e <;> first | cases e | skip
  all_goals (rename_i hd; cases hd)
  obtain ⟨v, rfl, h1⟩ := rv.one
  cases h1
  exact ⟨_, rfl, k ψ H _ (res_dp rr (.int _))⟩
theorem blt_all (hK : P.K = X.K) : BltR X P .all (rAll X.K) := fun ψ τ ρ O σ H ds vs l Q rr rv e k => by
  unfold bltD at e
  split at e <;> first | cases e | skip
  all_goals (rename_i hd; cases hd)
  obtain ⟨v, rfl, h1⟩ := rv.one
  rename_i zs
  cases hb : boolsL zs with
  | none => rw [hb] at e; cases e
  | some bs =>
    rw [hb] at e
    cases e
    cases h1 with
    | lst h1 h2 h3 h4 =>
      have := RVs.bls ⟨h3, h4⟩ hb
      subst this
      exact ⟨_, bs, rfl, .inl (.inl h1), k ψ H _ (res_dp rr (.bl _))⟩
theorem blt_any (hK : P.K = X.K) : BltR X P .any (rAny X.K) := fun ψ τ ρ O σ H ds vs l Q rr rv e k => by
  unfold bltD at e
  split at e <;> first | cases e | skip
  all_goals (rename_i hd; cases hd)
  obtain ⟨v, rfl, h1⟩ := rv.one
  rename_i zs
  cases hb : boolsL zs with
  | none => rw [hb] at e; cases e
  | some bs =>
    rw [hb] at e
    cases e
    cases h1 with
    | lst h1 h2 h3 h4 =>
      have := RVs.bls ⟨h3, h4⟩ hb
      subst this
      exact ⟨_, bs, rfl, .inl (.inl h1), k ψ H _ (res_dp rr (.bl _))⟩
theorem blt_sum (hK : P.K = X.K) : BltR X P .sum (rSum X.K) := fun ψ τ ρ O σ H ds vs l Q rr rv e k => by
  unfold bltD at e
  split at e <;> first | cases e | skip
  all_goals (rename_i hd; cases hd)
  obtain ⟨v, rfl, h1⟩ := rv.one
  rename_i zs
  cases hb : intsL zs with
  | none => rw [hb] at e; cases e
  | some bs =>
    rw [hb] at e
    cases e
    cases h1 with
    | lst h1 h2 h3 h4 =>
      have := RVs.ints ⟨h3, h4⟩ hb
      subst this
      exact ⟨_, bs, rfl, .inl (.inl h1), k ψ H _ (res_dp rr (.int _))⟩
theorem blt_divmod : BltR X P .divmod (fun xs H Q => ∃ i j, xs = [.int i, .int j] ∧ CDiv i j ∧ ∀ p, H p = none → Q (.ref p) (upd H p (.tup [.int (i / j), .int (i % j)]))) := fun ψ τ ρ O σ H ds vs l Q rr rv e k => by
  unfold bltD at e
  split at e <;> first | cases e | skip
  all_goals (rename_i hd; cases hd)
  obtain ⟨v, v', rfl, h1, h2⟩ := rv.two
  cases h1
  cases h2
  split at e
  · rename_i hj
    cases e
    exact ⟨_, _, rfl, hj, fun p hp => k ψ _ _ (res_tup rr (.cons (.int _) (.cons (.int _) .nil)) hp)⟩
  · cases e
theorem blt_int : BltR X P .int (fun xs H Q => ((∃ i, xs = [.int i] ∧ Q (.int i) H) ∨ ∃ k, xs = [.bl k] ∧ Q (.int (if k then 1 else 0)) H) ∨ ∃ a n, xs = [.str a] ∧ PySem.intText? a = some n ∧ a.length ≤ 640 ∧ Q (.int n) H) := fun ψ τ ρ O σ H ds vs l Q rr rv e k => by
  unfold bltD at e
  split at e <;> first | cases e | skip
  all_goals (rename_i hd; cases hd)
  · obtain ⟨v, rfl, h1⟩ := rv.one
    cases h1
    exact .inl (.inl ⟨_, rfl, k ψ H _ (res_dp rr (.int _))⟩)
  · obtain ⟨v, rfl, h1⟩ := rv.one
    cases h1
    exact .inl (.inr ⟨_, rfl, k ψ H _ (res_dp rr (.int _))⟩)
  · obtain ⟨v, rfl, h1⟩ := rv.one
    cases h1
    split at e
    · rename_i a hl
      cases hn : PySem.intText? a with
      | none => rw [hn] at e; cases e
      | some n =>
        rw [hn] at e
        cases e
        exact .inr ⟨_, _, rfl, hn, hl, k ψ H _ (res_dp rr (.int _))⟩
    · cases e
theorem blt_max (hc : X.calm = true) : BltR X P .max (fun xs H Q => ∃ i j, xs = [.int i, .int j] ∧ Q (.int (if j > i then j else i)) H) := fun ψ τ ρ O σ H ds vs l Q rr rv e k => by
  unfold bltD at e
  split at e <;> first | cases e | skip
  all_goals (rename_i hd; cases hd)
  obtain ⟨v, v', rfl, h1, h2⟩ := rv.two
  cases h1
  cases h2
  exact ⟨_, _, rfl, k ψ H _ (res_dp rr (.int _))⟩
theorem blt_min (hc : X.calm = true) : BltR X P .min (fun xs H Q => ∃ i j, xs = [.int i, .int j] ∧ Q (.int (if j < i then j else i)) H) := fun ψ τ ρ O σ H ds vs l Q rr rv e k => by
  unfold bltD at e
  split at e <;> first | cases e | skip
  all_goals (rename_i hd; cases hd)
  obtain ⟨v, v', rfl, h1, h2⟩ := rv.two
  cases h1
  cases h2
  exact ⟨_, _, rfl, k ψ H _ (res_dp rr (.int _))⟩
theorem blt_str : BltR X P .str (fun xs H Q => (∃ i, xs = [.int i] ∧ i.natAbs.log2 < 1920 ∧ Q (.str (toString i)) H) ∨ ∃ a, xs = [.str a] ∧ Q (.str a) H) := fun ψ τ ρ O σ H ds vs l Q rr rv e k => by
  unfold bltD at e
  split at e <;> first | cases e | skip
  all_goals (rename_i hd; cases hd)
  obtain ⟨v, rfl, h1⟩ := rv.one
  rename_i d
  cases d with
  | int i =>
    cases h1
    unfold strD at e
    dsimp only at e
    split at e
    · rename_i hl
      cases e
      exact .inl ⟨_, rfl, hl, k ψ H _ (res_dp rr (.str _))⟩
    · cases e
  | str a =>
    cases h1
    cases e
    exact .inr ⟨_, rfl, k ψ H _ (res_dp rr (.str _))⟩
  | _ => cases e
theorem blt_list (hK : P.K = X.K) : BltR X P .list (fun xs H Q => ∃ p ys, xs = [.ref p] ∧ (SqL X.K H p ys ∨ SqT X.K H p ys) ∧ ∀ l, H l = none → Q (.ref l) (upd H l (.lst ys))) := fun ψ τ ρ O σ H ds vs l Q rr rv e k => by
  unfold bltD at e
  split at e <;> first | cases e | skip
  all_goals (rename_i hd; cases hd)
  · obtain ⟨v, rfl, h1⟩ := rv.one
    cases h1 with
    | lst h1 h2 h3 h4 => exact ⟨_, _, rfl, .inl (.inl (.inl h1)), fun p hp => k ψ _ _ (res_lst rr ⟨h3, h4⟩ hp)⟩
  · obtain ⟨v, rfl, h1⟩ := rv.one
    cases h1 with
    | tup h1 h3 h4 => exact ⟨_, _, rfl, .inr (hK ▸ h1), fun p hp => k ψ _ _ (res_lst rr ⟨h3, h4⟩ hp)⟩
theorem blt_tuple (hK : P.K = X.K) : BltR X P .tuple (fun xs H Q => ∃ p ys, xs = [.ref p] ∧ ((SqL X.K H p ys ∧ ∀ l, H l = none → Q (.ref l) (upd H l (.tup ys))) ∨ (SqT X.K H p ys ∧ Q (.ref p) H))) := fun ψ τ ρ O σ H ds vs l Q rr rv e k => by
  unfold bltD at e
  split at e <;> first | cases e | skip
  all_goals (rename_i hd; cases hd)
  · obtain ⟨v, rfl, h1⟩ := rv.one
    cases h1 with
    | lst h1 h2 h3 h4 => exact ⟨_, _, rfl, .inl ⟨.inl (.inl h1), fun p hp => k ψ _ _ (res_tup rr ⟨h3, h4⟩ hp)⟩⟩
  · obtain ⟨v, rfl, h1⟩ := rv.one
    cases h1 with
    | tup h1 h3 h4 => exact ⟨_, _, rfl, .inr ⟨hK ▸ h1, k ψ H _ (res_dp rr (.tup h1 h3 h4))⟩⟩
end
end Fc
set_option Elab.async false
set_option linter.all false
set_option maxHeartbeats 2000000
set_option maxRecDepth 10000
/-! isinstance, len, reversed. -/
namespace Fc
open PySem L2
/-- a value's class -/
def tyD (ca : Nat → Addr) : D → Option Value
  | .non => some (.type "NoneType")
  | .bl _ => some (.type "bool")
  | .int _ => some (.type "int")
  | .str _ => some (.type "str")
  | .tup _ => some (.type "tuple")
  | .lst _ => some (.type "list")
  | .dic _ => some (.type "dict")
  | .ins c _ => some (.ref (ca c))
  | .oid _ => none
  | .fls _ => none
/-- a class whose instances are told apart -/
structure ClsI (K : PySem.W.Frag) (C : Addr) : Prop where
  cl : Cls K C
  ha : PySem.W.findIn K (.ref C) "__class__" = some (some (.builtin "object.__class__"))
  hn : PySem.W.specialIn K (.builtin "object.__class__") "__get__" = some (some (.builtin "getset_descriptor.__get__"))
  htk : PySem.W.takesIn K (.builtin "object.__class__") = some true
  hm : PySem.W.mroIn K C (.type "object") = some true
section
variable {X : Cx} {P : Par} {Γ : Cx0} {e a ec : Expr} {es : List Expr} {t : Tm} {xs : Tms} {pos p2 p3 : Pos} {x : Str}
theorem rv_ty (hK : P.K = X.K) (hc : ∀ c, Γ.kc c = true → ClsI X.K (P.ca c)) {k : Ty} {ψ : List Addr} {W : Addr → Prop} {H : Hp} {d : D} {v : V} (h : RV P.K P.ca ψ W H d v) (hk : isK Γ.kc k d = true) : ∃ u, tyD P.ca d = some u ∧ TyX X.K H v u := by
  cases h with
  | non => exact ⟨_, rfl, .base .non⟩
  | bl b => exact ⟨_, rfl, .base (.bl b)⟩
  | int i => exact ⟨_, rfl, .base (.int i)⟩
  | str s => exact ⟨_, rfl, .base (.str s)⟩
  | tup h1 h2 h3 =>
    refine ⟨_, rfl, ?_⟩
    rw [hK] at h1
    rcases h1 with (h1 | ⟨o, h1⟩) | ⟨o, its, n, h1, h2, _⟩
    · exact .base (.tup h1)
    · exact .fTuple h1
    · exact .kTuple h1 h2
  | lst h1 => exact ⟨_, rfl, .base (.lst h1)⟩
  | @ins a dx c vs fs h1 h2 h3 h4 =>
    have hkc : Γ.kc c = true := by
      unfold isK at hk
      rw [Bool.and_eq_true] at hk
      exact hk.2
    have i := hc c hkc
    exact ⟨_, rfl, .base (.ins h1 i.cl i.ha i.hn i.htk i.hm)⟩
  | dic h1 => exact ⟨_, rfl, .base (.dK h1)⟩
  | oid h =>
    unfold isK at hk
    rw [Bool.and_eq_true] at hk
    exact absurd hk.2 (by simp)
  | fls h =>
    unfold isK at hk
    rw [Bool.and_eq_true] at hk
    exact absurd hk.2 (by simp)
theorem isi_ok {k : Ty} {cv : V} {cu : Value} (hK : P.K = X.K) (hc : ∀ c, Γ.kc c = true → ClsI X.K (P.ca c)) (hkit : ∀ d u, tyD P.ca d = some u → isK Γ.kc k d = true → PySem.W.kitOne X.K u cu = some (isD k d)) (hcv : ClsV cv cu)
    (ha : PE X a (tEv Γ P t)) (hec : PE X ec (tC cv)) (hg : Gl X "isinstance") (hm : X.mg "isinstance" = none)
    (he : starEach [a, ec] X.env = (false, eval a X.env) :: starEach [ec] X.env) (he2 : starEach [ec] X.env = (false, eval ec X.env) :: starEach [] X.env) (hpl : (backTo pos (starEach [ec] X.env)).any (·.1) = false) :
    PE X (.Call (.Name "isinstance" p2) [a, ec] [] pos) (tEv Γ P (.isi k t)) :=
  PE.imp (pe_callB call_isi hg hm (by rfl) (pa_cons ha (pa_cons hec pa_nil he2) he) (by decide) (by decide) he hpl) fun σ H Q q => by
    obtain ⟨ψ, τ, ρ, O, l, ρ', O', r, e, kk⟩ := q
    have e' : (match ev Γ t (ρ, O) with
      | none => none
      | some (l, s1) => if isK Γ.kc k l.deep then some (L.dp (.bl (isD k l.deep)), s1) else none) = some (l, (ρ', O')) := e
    cases e1 : ev Γ t (ρ, O) with
    | none => rw [e1] at e'; cases e'
    | some z1 =>
      obtain ⟨l1, ρ1, O1⟩ := z1
      rw [e1] at e'
      dsimp only at e'
      split at e'
      · rename_i hk
        cases e'
        refine ⟨ψ, τ, ρ, O, l1, ρ', O', r, e1, fun ψ1 H1 v res => ?_⟩
        obtain ⟨a1, rv⟩ := res.deep
        obtain ⟨u, h1, h2⟩ := rv_ty hK hc rv hk
        exact ⟨v, cv, u, cu, _, rfl, hcv, h2, hkit _ _ h1 hk, kk ψ1 H1 _ ⟨a1, .bl _⟩⟩
      · cases e'
/-! ### len -/
theorem len_ok (hK : P.K = X.K) (ha : PE X a (tPl Γ P t)) (hg : Gl X "len") (hm : X.mg "len" = none) (he : starEach [a] X.env = (false, eval a X.env) :: starEach [] X.env) (hpl : (backTo pos (starEach [] X.env)).any (·.1) = false) :
    PE X (.Call (.Name "len" p2) [a] [] pos) (tEv Γ P (.len t)) :=
  PE.imp (pe_callB call_len hg hm (by rfl) (pa_cons ha pa_nil he) (by decide) (by decide) he hpl) fun σ H Q q => by
    obtain ⟨ψ, τ, ρ, O, l, ρ', O', r, e, kk⟩ := q
    have e' : (match plOf t (ev Γ t) (ρ, O) with
      | none => none
      | some (p, s1) => match view p s1 with
        | none => none
        | some (x, _) => match lenD x with
          | none => none
          | some n => some (L.dp (.int n), s1)) = some (l, (ρ', O')) := e
    cases e1 : plOf t (ev Γ t) (ρ, O) with
    | none => rw [e1] at e'; cases e'
    | some z1 =>
      obtain ⟨p, ρ1, O1⟩ := z1
      rw [e1] at e'
      dsimp only at e'
      cases hv : view p (ρ1, O1) with
      | none => rw [hv] at e'; cases e'
      | some z2 =>
        obtain ⟨d, s2⟩ := z2
        rw [hv] at e'
        dsimp only at e'
        cases hl : lenD d with
        | none => rw [hl] at e'; cases e'
        | some n =>
          rw [hl] at e'
          cases e'
          refine ⟨ψ, τ, ρ, O, p, ρ', O', r, e1, fun ψ1 H1 v a1 rv => ?_⟩
          have a2 := a1.rep.popl
          have rd := view_ok a1.rep rv hv
          have fin := kk ψ1 H1 _ ⟨a1.trans a2, .int (n : Int)⟩
          cases d with
          | tup zs =>
            cases hl
            obtain ⟨b, vs, rfl, h1, h2⟩ := rd.tup
            refine ⟨_, zs.length, rfl, .inr ⟨vs, hK ▸ h1, h2.1⟩, fin⟩
          | lst zs =>
            cases hl
            obtain ⟨b, vs, rfl, h1, h2⟩ := rd.lst
            refine ⟨_, zs.length, rfl, .inl ⟨vs, .inl (.inl h1), h2.1⟩, fin⟩
          | fls zs =>
            cases hl
            obtain ⟨b, vs, rfl, h1, h2⟩ := rd.fls
            refine ⟨_, zs.length, rfl, .inl ⟨vs, hK ▸ h1.sql, h2.1⟩, fin⟩
          | str z =>
            have h := rd.str
            subst h
            unfold lenD at hl
            dsimp only at hl
            split at hl
            · rename_i hz
              cases hl
              exact ⟨_, _, rfl, ⟨hz, rfl⟩, fin⟩
            · cases hl
          | _ => cases hl
end
end Fc
set_option Elab.async false
set_option linter.all false
set_option maxHeartbeats 2000000
set_option maxRecDepth 10000
/-! Methods of texts, a written dict's get, f-texts, reversals. -/
namespace Fc
open PySem L2
section
variable {X : Cx} {P : Par} {Γ : Cx0} {e a o e2 : Expr} {es : List Expr} {t to t2 : Tm} {xs : Tms} {pos p2 p3 apos cpos : Pos} {x : Str}
/-- a text's method of one argument -/
def SmR (X : Cx) (P : Par) (m : SM) (r : V → List V → Hp → VK → Prop) : Prop := ∀ ψ τ ρ O σ H a d v l Q, Rep P ψ τ ρ O σ H → RV P.K P.ca ψ (Wr P.U ψ τ ρ σ) H d v → smD m (.str a) [d] = some l → (∀ ψ' H' v, Res P ψ τ ρ σ H l ρ O ψ' H' v → Q v H') → r (.str a) [v] H Q
theorem sme_ok {id : String} {name : Str} {m : SM} {r : V → List V → Hp → VK → Prop} (hm : m ≠ .get) (h : SmR X P m r) (slot : Slot "str" name id) (ty : typeOf (.builtin id) = pure (.type "method_descriptor")) (rule : MtR X id r) (ho : PE X o (tEv Γ P to)) (he : PE X e (tEv Γ P t))
    (hs : starEach [e] X.env = [(false, eval e X.env)]) (hbase : attributeBase o name X.env (eval o X.env) = eval o X.env) (hline : (apos.endLine == pos.line) = true) : PE X (.Call (.Attribute o name apos) [e] [] pos) (tEv Γ P (.sme m to (.cons t .nil))) :=
  PE.imp (pe_m1 slot ty rule ho he hs hbase hline) fun σ H Q q => by
    obtain ⟨ψ, τ, ρ, O, l, ρ', O', rr, e, k⟩ := q
    have e' : (match ev Γ to (ρ, O) with
      | none => none
      | some (l, s1) => match evs Γ (.cons t .nil) s1 with
        | none => none
        | some (ds, s2) => match smD m l.deep ds with
          | none => none
          | some r => some (r, s2)) = some (l, (ρ', O')) := e
    cases e1 : ev Γ to (ρ, O) with
    | none => rw [e1] at e'; cases e'
    | some z1 =>
      obtain ⟨l1, ρ1, O1⟩ := z1
      rw [e1] at e'
      dsimp only at e'
      cases e2 : evs Γ (.cons t .nil) (ρ1, O1) with
      | none => rw [e2] at e'; cases e'
      | some z2 =>
        obtain ⟨ds, ρ2, O2⟩ := z2
        rw [e2] at e'
        dsimp only at e'
        have e2' : (match ev Γ t (ρ1, O1) with
          | none => none
          | some (l, s1) => some ([l.deep], s1)) = some (ds, (ρ2, O2)) := e2
        cases e3 : ev Γ t (ρ1, O1) with
        | none => rw [e3] at e2'; cases e2'
        | some z3 =>
          obtain ⟨l2, ρ3, O3⟩ := z3
          rw [e3] at e2'
          cases e2'
          cases e4 : smD m l1.deep [l2.deep] with
          | none => rw [e4] at e'; cases e'
          | some l4 =>
            rw [e4] at e'
            cases e'
            have hstr : ∃ a, l1.deep = .str a := by
              unfold smD at e4
              split at e4 <;> first | exact ⟨_, ‹l1.deep = _›⟩ | (exact absurd rfl hm) | (cases e4) | skip
            obtain ⟨a, ha⟩ := hstr
            rw [ha] at e4
            refine ⟨ψ, τ, ρ, O, l1, ρ1, O1, rr, e1, fun ψ1 H1 v res => ?_⟩
            obtain ⟨a1, rv⟩ := res.deep
            rw [ha] at rv
            cases rv
            refine ⟨⟨a, rfl⟩, ψ1, τ, ρ1, O1, l2, _, _, a1.rep, e3, fun ψ2 H2 w res2 => ?_⟩
            obtain ⟨a2, rw2⟩ := res2.deep
            exact h _ _ _ _ _ _ _ _ _ _ _ a2.rep rw2 e4 fun ψ3 H3 u res3 => k ψ3 H3 u (res3.after (a1.trans a2))
theorem rvs_strs {K : PySem.W.Frag} {ca : Nat → Addr} {ψ : List Addr} {W : Addr → Prop} {H : Hp} : ∀ ys : List Str, RVs K ca ψ W H (ys.map D.str) (ys.map V.str)
  | [] => .nil
  | y :: ys => .cons (.str y) (rvs_strs ys)
theorem sm_split : SmR X P .split (fun x xs H Q => ∃ a b, x = .str a ∧ xs = [.str b] ∧ (b.length == 0) = false ∧ a.length + 2 ≤ sizeLine ∧ rNewStrs (Txt.split a b) H Q) := fun ψ τ ρ O σ H a d v l Q rr rv e k => by
  cases d with
  | str b =>
    cases rv
    unfold smD at e
    dsimp only at e
    split at e
    · rename_i h
      cases e
      exact ⟨a, b, rfl, rfl, h.1, h.2, fun p hp => k ψ _ _ (res_lst rr (rvs_strs _) hp)⟩
    · cases e
  | _ => cases e
theorem sm_partition : SmR X P .partition (fun x xs H Q => ∃ a b, x = .str a ∧ xs = [.str b] ∧ (b.length == 0) = false ∧ a.length ≤ sizeLine ∧
    ∀ p, H p = none → Q (.ref p) (upd H p (.tup [.str (Txt.partition a b).1, .str (Txt.partition a b).2.1, .str (Txt.partition a b).2.2]))) := fun ψ τ ρ O σ H a d v l Q rr rv e k => by
  cases d with
  | str b =>
    cases rv
    unfold smD at e
    dsimp only at e
    split at e
    · rename_i h
      cases e
      exact ⟨a, b, rfl, rfl, h.1, h.2, fun p hp => k ψ _ _ (res_tup rr (.cons (.str _) (.cons (.str _) (.cons (.str _) .nil))) hp)⟩
    · cases e
  | _ => cases e
theorem sm_join (hK : P.K = X.K) : SmR X P .join (fun x xs H Q => ∃ a p, ∃ ys : List Str, x = .str a ∧ xs = [.ref p] ∧ (SqL X.K H p (ys.map V.str) ∨ SqT X.K H p (ys.map V.str)) ∧
    (ys.map (·.length)).sum + ys.length * a.length ≤ 16777216 ∧ Q (.str (Txt.join a ys)) H) := fun ψ τ ρ O σ H a d v l Q rr rv e k => by
  unfold smD at e
  dsimp only at e
  cases hi : itemsSeq d with
  | none => rw [hi] at e; cases e
  | some zs =>
    rw [hi] at e
    dsimp only at e
    cases hs : strsL zs with
    | none => rw [hs] at e; cases e
    | some ys =>
      rw [hs] at e
      dsimp only at e
      split at e
      · rename_i hz
        cases e
        have fin := k ψ H _ (res_dp rr (.str (Txt.join a ys)))
        cases d with
        | tup ws =>
          cases hi
          cases rv with
          | tup h1 h3 h4 =>
            have := RVs.strs ⟨h3, h4⟩ hs
            subst this
            exact ⟨a, _, ys, rfl, rfl, .inr (hK ▸ h1), hz, fin⟩
        | lst ws =>
          cases hi
          cases rv with
          | lst h1 h2 h3 h4 =>
            have := RVs.strs ⟨h3, h4⟩ hs
            subst this
            exact ⟨a, _, ys, rfl, rfl, .inl (.inl (.inl h1)), hz, fin⟩
        | _ => cases hi
      · cases e
/-! ### a written dict -/
def tKGet (K : PySem.W.Frag) (d : Addr) (ty tx : TE) : TE := fun σ H Q => ty σ H fun y H1 => tx σ H1 fun z H2 => ∃ (s : Str) (r : Option Value), y = .str s ∧ PySem.W.nsIn K d s = some r ∧ ((r = none ∧ Q z H2) ∨ ∃ u v, r = some u ∧ RelV v u ∧ Q v H2)
theorem pe_kget {d : Addr} {en : Array DictEntry} {n : Nat} {ty tx : TE} {f : Expr} (Dk : KDict X.K X.w d en n) (hg : Gl X x) (hm : X.mg x = some (.ref d)) (he : PE X e ty) (hf : PE X f tx) (m : M2 X (.Name x p2) "get" apos e f cpos) (hdb : (x == ("__debug__" : Str)) = false) :
    PE X (.Call (.Attribute (.Name x p2) "get" apos) [e, f] [] cpos) (tKGet X.K d ty tx) := by
  refine ⟨fun pins s σ H Q I h => ?_⟩
  refine wpAny_Call_method m.base m.few m.line PySem.F.plainAttrs_dict PySem.F.slot_dict_get PySem.F.type_dict_get (ld_glob I hg hm ?_ hdb)
  have mp := PySem.W.mapOf_K (prog := X.prog) (w := X.w) I.kIn Dk.at_ Dk.lit
  refine ⟨mp.typeIs, mp.noDict, ?_⟩
  rw [m.trees]
  refine Calls.callWith_builtin rfl (Calls.evalArgs_plain (Calls.spliced_cons (thn (he.run pins s σ H _ I h) fun iv s2 ⟨y, H2, I2, ry, q2⟩ =>
    Calls.spliced_cons (thn (hf.run pins s2 σ H2 _ I2 q2) fun fv s3 ⟨z, H3, I3, rz, ss, r, ey, en', q3⟩ => Calls.spliced_nil ?_))))
  subst ey
  obtain ⟨t, rfl⟩ := ry
  have mp3 := PySem.W.mapOf_K (prog := X.prog) (w := X.w) I3.kIn Dk.at_ Dk.lit
  refine call_meetsIn PySem.F.slot_dict_get mp3.typeIs PySem.F.entry_dict_get (PySem.F.args_dict_get_3 _ _ _) (PySem.meets_dict_get_default (PySem.strKind X.prog X.w) d (PySem.strKind_is X.prog X.w ss t) Dk.low fv) ⟨_, mp3, ?_⟩
  rw [PySem.W.find_K Dk.at_ en']
  rcases q3 with ⟨rfl, q⟩ | ⟨u, v, rfl, ru, q⟩
  · exact ⟨z, H3, I3.tok _, rz, q⟩
  · exact ⟨v, H3, I3.tok _, ru, q⟩
/-- a written dict's contents -/
def KDicD (K : PySem.W.Frag) (P : Par) (d : Addr) (ps : List (Key × D)) : Prop := ∀ s : Str, ∃ r, PySem.W.nsIn K d s = some r ∧ ((r = none ∧ valK ps (.inr s) = none) ∨ ∃ u v dd, r = some u ∧ RelV v u ∧ valK ps (.inr s) = some dd ∧ ∀ ψ W H, RV P.K P.ca ψ W H dd v)
theorem kget_ok {d : Addr} {en : Array DictEntry} {n : Nat} {f : Expr} {ps : List (Key × D)} (Dk : KDict X.K X.w d en n) (hd : KDicD X.K P d ps) (hg : Gl X x) (hm : X.mg x = some (.ref d)) (he : PE X e (tEv Γ P t)) (hf : PE X f (tEv Γ P t2))
    (m : M2 X (.Name x p2) "get" apos e f cpos) (hdb : (x == ("__debug__" : Str)) = false) : PE X (.Call (.Attribute (.Name x p2) "get" apos) [e, f] [] cpos) (tEv Γ P (.sme .get (.cst (.dic ps)) (.cons t (.cons t2 .nil)))) :=
  PE.imp (pe_kget Dk hg hm he hf m hdb) fun σ H Q q => by
    obtain ⟨ψ, τ, ρ, O, l, ρ', O', rr, e, k⟩ := q
    have e' : (match evs Γ (.cons t (.cons t2 .nil)) (ρ, O) with
        | none => none
        | some (ds, s2) => match smD .get (.dic ps) ds with
          | none => none
          | some r => some (r, s2)) = some (l, (ρ', O')) := e
    cases e2 : evs Γ (.cons t (.cons t2 .nil)) (ρ, O) with
    | none => rw [e2] at e'; cases e'
    | some z2 =>
      obtain ⟨ds, ρ2, O2⟩ := z2
      rw [e2] at e'
      dsimp only at e'
      have e2' : (match ev Γ t (ρ, O) with
        | none => none
        | some (l, s1) => match (match ev Γ t2 s1 with
          | none => none
          | some (l, s1) => some ([l.deep], s1)) with
          | none => none
          | some (ds, s2) => some (l.deep :: ds, s2)) = some (ds, (ρ2, O2)) := e2
      cases e3 : ev Γ t (ρ, O) with
      | none => rw [e3] at e2'; cases e2'
      | some z3 =>
        obtain ⟨l3, ρ3, O3⟩ := z3
        rw [e3] at e2'
        dsimp only at e2'
        cases e4 : ev Γ t2 (ρ3, O3) with
        | none => rw [e4] at e2'; cases e2'
        | some z4 =>
          obtain ⟨l4, ρ4, O4⟩ := z4
          rw [e4] at e2'
          cases e2'
          cases e5 : smD .get (.dic ps) [l3.deep, l4.deep] with
          | none => rw [e5] at e'; cases e'
          | some l5 =>
            rw [e5] at e'
            cases e'
            cases h3 : l3.deep with
            | str ss =>
              rw [h3] at e5
              have e6 : some (L.dp ((valK ps (.inr ss)).getD l4.deep)) = some l := e5
              cases e6
              refine ⟨ψ, τ, ρ, O, l3, ρ3, O3, rr, e3, fun ψ1 H1 v res => ?_⟩
              obtain ⟨a1, rv⟩ := res.deep
              rw [h3] at rv
              cases rv
              refine ⟨ψ1, τ, ρ3, O3, l4, _, _, a1.rep, e4, fun ψ2 H2 w res2 => ?_⟩
              obtain ⟨a2, rw2⟩ := res2.deep
              obtain ⟨r, q1, q2⟩ := hd ss
              refine ⟨ss, r, rfl, q1, ?_⟩
              rcases q2 with ⟨q2, q3⟩ | ⟨u, v, dd, q2, q3, q4, q5⟩
              · refine .inl ⟨q2, k ψ2 H2 w ?_⟩
                rw [q3]
                exact ⟨a1.trans a2, rw2⟩
              · refine .inr ⟨u, v, q2, q3, k ψ2 H2 v ?_⟩
                rw [q4]
                exact ⟨a1.trans a2, q5 _ _ _⟩
            | _ => rw [h3] at e5; cases e5
/-! ### f-texts -/
theorem str_assoc (a b c : Str) : (a ++ b) ++ c = a ++ (b ++ c) := by
  show Str.mk ((a.cps ++ b.cps) ++ c.cps) = Str.mk (a.cps ++ (b.cps ++ c.cps))
  rw [Array.append_assoc]
theorem str_nil (a : Str) : a ++ (⟨#[]⟩ : Str) = a := by
  show Str.mk (a.cps ++ #[]) = a
  rw [Array.append_empty]
theorem str_len (a b : Str) : (a ++ b).length = a.length + b.length := by
  show (a.cps ++ b.cps).size = _
  rw [Array.size_append]
  rfl
inductive FJ (X : Cx) (Γ : Cx0) (P : Par) : List Expr → Tms → Prop where
  | nil : FJ X Γ P [] .nil
  | txt {s : Str} {k : Nat} {p : Pos} {es : List Expr} {xs : Tms} (r : FJ X Γ P es xs) : FJ X Γ P (.Constant (.str s) k p :: es) (.cons (.cst (.str s)) xs)
  | val {e : Expr} {p : Pos} {es : List Expr} {t : Tm} {xs : Tms} (h : PE X e (tEv Γ P t)) (r : FJ X Γ P es xs) : FJ X Γ P (.FormattedValue e (-1) none p :: es) (.cons t xs)
theorem fj_ts {vs : List Expr} {xs : Tms} (h : FJ X Γ P vs xs) : ∃ ts, PJ X vs ts ∧ ∀ ψ τ ρ O σ H ds ρ' O' z acc (Q : Str → Hp → Prop), Rep P ψ τ ρ O σ H → evs Γ xs (ρ, O) = some (ds, (ρ', O')) → fstD ds = some z → acc.length + z.length ≤ sizeLine →
    (∀ ψ' H', Aft P ψ τ ρ σ H ψ' τ ρ' O' σ H' → Q (acc ++ z) H') → tJs ts acc σ H Q := by
  induction h with
  | nil =>
    refine ⟨[], .nil, fun ψ τ ρ O σ H ds ρ' O' z acc Q r e1 e2 e3 k => ?_⟩
    have e1' : some (([] : List D), (ρ, O)) = some (ds, (ρ', O')) := e1
    cases e1'
    cases e2
    have := k ψ H (.refl r)
    rw [str_nil] at this
    exact this
  | @txt s kk p es xs r ih =>
    obtain ⟨ts, h1, h2⟩ := ih
    refine ⟨tC (.str s) :: ts, .cons pe_str h1, fun ψ τ ρ O σ H ds ρ' O' z acc Q r e1 e2 e3 k => ?_⟩
    have e1' : (match evs Γ xs (ρ, O) with
      | none => none
      | some (ds, s2) => some (D.str s :: ds, s2)) = some (ds, (ρ', O')) := e1
    cases q1 : evs Γ xs (ρ, O) with
    | none => rw [q1] at e1'; cases e1'
    | some z1 =>
      obtain ⟨ds1, ρ1, O1⟩ := z1
      rw [q1] at e1'
      cases e1'
      have e2' : (match strD (.str s), fstD ds1 with
        | some a, some b => if a.length + b.length ≤ sizeLine then some (a ++ b) else none
        | _, _ => none) = some z := e2
      cases q2 : fstD ds1 with
      | none => rw [q2] at e2'; cases e2'
      | some b =>
        rw [q2] at e2'
        have e2'' : (if s.length + b.length ≤ sizeLine then some (s ++ b) else none) = some z := e2'
        split at e2''
        · cases e2''
          rw [str_len] at e3
          refine ⟨s, rfl, by rw [str_len]; omega, ?_⟩
          refine h2 ψ τ ρ O σ H ds1 _ _ b (acc ++ s) Q r q1 q2 (by rw [str_len]; omega) fun ψ' H' a => ?_
          rw [str_assoc]
          exact k ψ' H' a
        · cases e2''
  | @val e p es t xs he r ih =>
    obtain ⟨ts, h1, h2⟩ := ih
    refine ⟨tFmt (tEv Γ P t) :: ts, .cons (pe_fmt he) h1, fun ψ τ ρ O σ H ds ρ' O' z acc Q r e1 e2 e3 k => ?_⟩
    have e1' : (match ev Γ t (ρ, O) with
      | none => none
      | some (l, s1) => match evs Γ xs s1 with
        | none => none
        | some (ds, s2) => some (l.deep :: ds, s2)) = some (ds, (ρ', O')) := e1
    cases q0 : ev Γ t (ρ, O) with
    | none => rw [q0] at e1'; cases e1'
    | some z0 =>
      obtain ⟨l, ρ0, O0⟩ := z0
      rw [q0] at e1'
      dsimp only at e1'
      cases q1 : evs Γ xs (ρ0, O0) with
      | none => rw [q1] at e1'; cases e1'
      | some z1 =>
        obtain ⟨ds1, ρ1, O1⟩ := z1
        rw [q1] at e1'
        cases e1'
        have e2' : (match strD l.deep, fstD ds1 with
          | some a, some b => if a.length + b.length ≤ sizeLine then some (a ++ b) else none
          | _, _ => none) = some z := e2
        cases q3 : strD l.deep with
        | none => rw [q3] at e2'; cases e2'
        | some s =>
          cases q2 : fstD ds1 with
          | none => rw [q3, q2] at e2'; cases e2'
          | some b =>
            rw [q3, q2] at e2'
            have e2'' : (if s.length + b.length ≤ sizeLine then some (s ++ b) else none) = some z := e2'
            split at e2''
            · cases e2''
              rw [str_len] at e3
              refine ⟨ψ, τ, ρ, O, l, ρ0, O0, r, q0, fun ψ1 H1 v res => ?_⟩
              obtain ⟨a1, rv⟩ := res.deep
              have fin : (acc ++ s).length ≤ sizeLine ∧ tJs ts (acc ++ s) σ H1 Q := by
                refine ⟨by rw [str_len]; omega, ?_⟩
                refine h2 ψ1 τ ρ0 O0 σ H1 ds1 _ _ b (acc ++ s) Q a1.rep q1 q2 (by rw [str_len]; omega) fun ψ' H' a => ?_
                rw [str_assoc]
                exact k ψ' H' (a1.trans a)
              cases hd : l.deep with
              | int i =>
                rw [hd] at rv q3
                cases rv
                unfold strD at q3
                dsimp only at q3
                split at q3
                · rename_i hl
                  cases q3
                  exact .inr ⟨i, rfl, hl, _, rfl, fin.1, fin.2⟩
                · cases q3
              | str y =>
                rw [hd] at rv q3
                cases rv
                cases q3
                exact .inl ⟨_, rfl, by omega, _, rfl, fin.1, fin.2⟩
              | _ => rw [hd] at q3; cases q3
            · cases e2''
theorem fst_ok {v1 v2 : Expr} {rest : List Expr} (h : FJ X Γ P (v1 :: v2 :: rest) xs) : PE X (.JoinedStr (v1 :: v2 :: rest) pos) (tEv Γ P (.fst xs)) := by
  obtain ⟨ts, h1, h2⟩ := fj_ts h
  refine PE.imp (pe_joined h1) fun σ H Q q => ?_
  obtain ⟨ψ, τ, ρ, O, l, ρ', O', rr, e, k⟩ := q
  have e' : (match evs Γ xs (ρ, O) with
    | none => none
    | some (ds, s1) => match fstD ds with
      | none => none
      | some z => some (L.dp (.str z), s1)) = some (l, (ρ', O')) := e
  cases q1 : evs Γ xs (ρ, O) with
  | none => rw [q1] at e'; cases e'
  | some z1 =>
    obtain ⟨ds1, ρ1, O1⟩ := z1
    rw [q1] at e'
    dsimp only at e'
    cases q2 : fstD ds1 with
    | none => rw [q2] at e'; cases e'
    | some b =>
      rw [q2] at e'
      cases e'
      have hb : b.length ≤ sizeLine := by
        cases ds1 with
        | nil => cases q2; exact Nat.zero_le _
        | cons d ds =>
          have q2' : (match strD d, fstD ds with
            | some a, some b => if a.length + b.length ≤ sizeLine then some (a ++ b) else none
            | _, _ => none) = some b := q2
          split at q2'
          · split at q2'
            · cases q2'
              rw [str_len]
              assumption
            · cases q2'
          · cases q2'
      have z0 : (Str.empty : Str).length = 0 := rfl
      refine h2 ψ τ ρ O σ H ds1 _ _ b Str.empty _ rr q1 q2 (by rw [z0]; omega) fun ψ' H' a => ?_
      have e3 : Str.empty ++ b = b := by
        show Str.mk (#[] ++ b.cps) = b
        rw [Array.empty_append]
      rw [e3]
      exact k ψ' H' _ ⟨a, .str b⟩
theorem fst1_ok {e : Expr} {p : Pos} (he : PE X e (tEv Γ P t)) : PE X (.JoinedStr [.FormattedValue e (-1) none p] pos) (tEv Γ P (.fst (.cons t .nil))) := by
  refine PE.imp (pe_joined1 (pe_fmt he)) fun σ H Q q => ?_
  obtain ⟨ψ, τ, ρ, O, l, ρ', O', rr, e, k⟩ := q
  have e' : (match (match ev Γ t (ρ, O) with
      | none => none
      | some (l, s1) => some ([l.deep], s1)) with
    | none => none
    | some (ds, s1) => match fstD ds with
      | none => none
      | some z => some (L.dp (.str z), s1)) = some (l, (ρ', O')) := e
  cases q0 : ev Γ t (ρ, O) with
  | none => rw [q0] at e'; cases e'
  | some z0 =>
    obtain ⟨l0, ρ0, O0⟩ := z0
    rw [q0] at e'
    dsimp only at e'
    have q2' : fstD [l0.deep] = match strD l0.deep with
      | some a => if a.length + 0 ≤ sizeLine then some (a ++ (⟨#[]⟩ : Str)) else none
      | none => none := by
      cases hh : strD l0.deep <;> (show (match strD l0.deep, some (⟨#[]⟩ : Str) with
        | some a, some b => if a.length + b.length ≤ sizeLine then some (a ++ b) else none
        | _, _ => none) = _) <;> rw [hh] <;> rfl
    rw [q2'] at e'
    refine ⟨ψ, τ, ρ, O, l0, ρ0, O0, rr, q0, fun ψ1 H1 v res => ?_⟩
    obtain ⟨a1, rv⟩ := res.deep
    cases hd : l0.deep with
    | int i =>
      rw [hd] at rv e'
      cases rv
      unfold strD at e'
      dsimp only at e'
      split at e'
      · cases e'
      · rename_i z hz
        split at hz
        · rename_i hz2
          split at hz2
          · rename_i hl
            cases hz2
            split at hz
            · cases hz
              cases e'
              refine .inr ⟨i, rfl, hl, ?_⟩
              rw [str_nil] at k
              exact k ψ1 H1 _ ⟨a1, .str _⟩
            · cases hz
          · cases hz2
        · cases hz
    | str y =>
      rw [hd] at rv e'
      cases rv
      unfold strD at e'
      dsimp only at e'
      split at e'
      · cases e'
      · rename_i z hz
        split at hz
        · cases hz
          cases e'
          refine .inl ⟨y, rfl, by omega, ?_⟩
          rw [str_nil] at k
          exact k ψ1 H1 _ ⟨a1, .str _⟩
        · cases hz
    | _ => rw [hd] at e'; cases e'
end
end Fc
set_option Elab.async false
set_option linter.all false
set_option maxHeartbeats 2000000
set_option maxRecDepth 100000
/-! enumerate of a tuple. -/
namespace Fc
open PySem PySem.Spec PyProof.Rows L2
set_option maxHeartbeats 4000000 in
theorem meets_enumerate_newB1 {v : Value} {o : Obj} {H : Heap → Prop} (B : Begins v o H) :
    Meets (Builtin.«enumerate.__new__» ⟨[.type "enumerate", v], []⟩) (fun _ R s => H s.heap ∧
      R (.ok (.ret (.ref (s.heap.push o).objs.size))) { s with heap := (s.heap.push o).push { cls := .type "enumerate", data := .fields #[.none, .bool false, .ref s.heap.objs.size, rawInt 0, .none, .none] } }) :=
  .of_wp fun prog w A R s h => by
    obtain ⟨hp, g, d, tk, os⟩ := s; obtain ⟨h1, h⟩ := h
    have hsub := sub_enumerate
    have q1 : ∀ {A' : Around} {E : Value → Shared → Prop} {Q : Value → Shared → Prop}, Q (.ref hp.objs.size) ⟨hp.push o, g, d, tk, os⟩ → wpAny (model prog w) A' (pyIter v) Q E ⟨hp, g, d, tk, os⟩ :=
      fun q => B.iter prog w _ _ ⟨hp, g, d, tk, os⟩ _ h1 q
    wp_walk using q1
    refine wpAny_stack_any fun st => wpAny_pure ?_
    split
    · rename_i c _ _ _ _ _
      cases (c == Value.type "enumerate")
      · wp_walk using q1
        exact ⟨_, rfl, h⟩
      · wp_walk using q1
        exact ⟨_, rfl, h⟩
    · wp_walk using q1
      exact ⟨_, rfl, h⟩
theorem enum_begins1 {prog : Program} {w : World} {A : Around} {E : Value → Shared → Prop} {s : Shared} {v : Value} {o : Obj} {H : Heap → Prop} {Q : Value → Shared → Prop} (B : Begins v o H) (h1 : H s.heap)
    (h : ∀ h', IsEnum h' (s.heap.objs.size + 1) s.heap.objs.size 0 .none → h'.get? s.heap.objs.size = some o → h'.objs.size = s.heap.objs.size + 2 →
      (∀ b o, s.heap.get? b = some o → h'.get? b = some o) → Q (.ref (s.heap.objs.size + 1)) { s with heap := h' }) :
    wpAny (model prog w) A (call (.type "enumerate") [v]) Q E s := by
  refine callType_new F.called_enumerate (by decide) (F.typeCall_enumerate_1 _) (F.newCall_enumerate_1 _) (fun obj => F.args_object_init_2 obj _) F.entry_enumerate_new
    (meets_enumerate_newB1 B) ⟨h1, ?_⟩
  have hz : (s.heap.push o).objs.size = s.heap.objs.size + 1 := Heap.size_push ..
  show _ ∧ _
  rw [hz]
  have he : IsEnum ((s.heap.push o).push { cls := .type "enumerate", data := .fields #[.none, .bool false, .ref s.heap.objs.size, rawInt 0, .none, .none] }) (s.heap.objs.size + 1) s.heap.objs.size 0 .none := by
    have := Heap.get?_push_size (s.heap.push o) (o := { cls := .type "enumerate", data := .fields #[.none, .bool false, .ref s.heap.objs.size, rawInt 0, .none, .none] }) rfl
    rw [hz] at this; exact this
  refine ⟨⟨_, he, rfl⟩, h _ he (Heap.get?_push_of_some _ (Heap.get?_push_size _ B.free)) (by rw [Heap.size_push, hz]) fun b o x => Heap.get?_push_of_some _ (Heap.get?_push_of_some _ x)⟩
theorem pyNext_enumT_end {prog : Program} {w : World} {A : Around} {E : Value → Shared → Prop} {s : Shared} {e it a : Addr} {i : Nat} {items : Array Value} {old : Value} {Q : Option Value → Shared → Prop} (hh : A.in1.handled = none)
    (he : IsEnum s.heap e it i old) (hit : s.heap.IsTupleIter it a i) (hl : s.heap.IsTuple a items) (hx : items[i]? = none)
    (hQ : ∀ h', Heap.ExtBut it s.heap h' → Q none { s with heap := h' }) : wpAny (model prog w) A (pyNext (.ref e)) Q E s := by
  have hT : s.TypeIs (.ref e) "enumerate" := ⟨_, he, rfl⟩
  unfold pyNext
  refine wpAny_bind (wpAny_attempt (wpAny_callSpecial?_slot (name := Str.ofString "__next__") hT F.slot_enumerate_next
    (wpAny_call_entry F.slot_enumerate_next hT F.entry_enumerate_next ?_ (F.args_enumerate_next_1 _))))
  show wpAny _ _ (field (.ref e) 2 >>= _) _ _ _
  refine wpAny_bind (wpAny_field he rfl (x := .ref it) rfl ?_)
  refine wpAny_bind (wpAny_nextOf_tuple_end hh hit hl hx fun h' x he' hx' => ?_)
  obtain ⟨o, ho, hc⟩ := hx'
  refine wpAny_bind (wpAny_isInstance (T := "StopIteration") (b := true) ⟨o, ho, hc⟩ isSubtype_stop ?_)
  exact wpAny_pure (hQ _ he')
/-- the tuple at a, each item in a new pair -/
def IteT (K : PySem.W.Frag) (a : Addr) : L2.It :=
  ⟨fun i H => ∃ (xs : List V) (x : V), SqT K H a xs ∧ xs[i]? = some x, fun i H v H' => ∃ T x, v = .ref T ∧ H T = none ∧ H' = upd H T (.tup [.int (i : Nat), x]) ∧ ∀ xs, SqT K H a xs → xs[i]? = some x, fun i H => ∃ xs : List V, SqT K H a xs ∧ xs.length ≤ i⟩
theorem turn_enumT {P : Program} {w : World} {K : PySem.W.Frag} {elts : List Expr} {kk : Nat} {tpos : Pos} (a e it : Addr) :
    Turn P w K (.Tuple elts kk tpos) (IteT K a) [e, it] e (fun i h => (∃ old, IsEnum h e it ((i : Nat) : Int) old) ∧ h.IsTupleIter it a i ∧ e ≠ it ∧ a ≠ it ∧ e ≠ a) where
  mem := by simp
  obj := fun i h st b hb => by
    obtain ⟨⟨old, he⟩, ⟨o, ho, hc, hd⟩, _⟩ := st
    have e' : b = e ∨ b = it := by simpa using hb
    rcases e' with z | z
    · rw [z]; exact ⟨_, he, fun v q => nomatch q⟩
    · rw [z]; exact ⟨o, ho, fun v q => by rw [hd] at q; cases q⟩
  keep := fun i h h' st k => let ⟨⟨old, he⟩, hi, hne⟩ := st; ⟨⟨old, k e (by simp) _ he⟩, hi.at fun o q => k it (by simp) o q, hne⟩
  item := by
    intro X hP hw hK hc i pins s σ H E I hf st hg
    subst hP hw hK
    obtain ⟨⟨old, he⟩, hit, hne, hai, hea⟩ := st
    obtain ⟨xs, x, hq, hx⟩ := hg
    obtain ⟨its, rv, p, hz⟩ := I.tuple hq
    obtain ⟨u, hu, ru⟩ := rv.get hx
    have hel : e < s.heap.objs.size := Heap.lt_size he
    have hil : it < s.heap.objs.size := by obtain ⟨_, q, _⟩ := hit; exact Heap.lt_size q
    have hh : X.A.in1.handled = none := I.ok.hd hc
    have hlt : i < its.toArray.size := by
      have := (List.getElem?_eq_some_iff.mp hu).1
      simpa using this
    refine wpAny_pyNext_enum_itemD (Draws.tuple hh it a hai its.toArray) he ⟨hit, p⟩ hlt hne (by simp; exact ⟨hne, hea⟩) fun y h' tk hy ho hst' hT hsz hk => ?_
    have hyu : y = u := by
      have : its[i]? = some y := by simpa using hy
      rw [hu] at this
      exact (Option.some.inj this).symm
    subst hyu
    refine ⟨_, rfl, wpAny_letOwnedTupleGo_enum (s := { s with heap := h', toks := tk + 1 }) ho fun h'' he' sb => ?_⟩
    have hT2 : h''.get? s.heap.objs.size = some { cls := .type "tuple", data := .seq #[.int i tk, y] } := (sb.2 _ (Nat.ne_of_gt hel)).trans hT
    have new : ObjOk X.prog X.w (upd H s.heap.objs.size (.tup [.int (i : Nat), x])) h'' s.heap.objs.size (.tup [.int (i : Nat), x]) :=
      ⟨by show 2 ≤ sizeLine; decide, [.int i tk, y], .cons ⟨_, rfl⟩ (.cons ru .nil), ⟨_, hT2, rfl, _, rfl⟩⟩
    have I1 : Inv X pins σ (upd H s.heap.objs.size (.tup [.int (i : Nat), x])) { s with heap := h'', toks := tk + 1 } :=
      I.turnedNew (ch := [e, it]) (fun b ob hb q => (sb.2 b (fun z => hb (by simp [z]))).trans (hk b ob (fun z => hb (by simp [z])) (fun z => hb (by simp [z])) q)) hf (Nat.le_refl _) new
    refine ⟨.ref s.heap.objs.size, _, I1, rfl, ⟨_, x, rfl, I.hok.fresh (Nat.le_refl _), rfl, fun ys hy => by rw [I.tuple_inj hy hq]; exact hx⟩, ⟨⟨y, ?_⟩, hst'.1.at fun o q => (sb.2 it (Ne.symm hne)).trans q, hne, hai, hea⟩, fun b hb => ?_⟩
    · have e1 : ((i + 1 : Nat) : Int) = (i : Int) + 1 := by omega
      rw [e1]; exact he'
    · have hb' : b < s.heap.objs.size := by
        have e' : b = e ∨ b = it := by simpa using hb
        rcases e' with z | z
        · rw [z]; exact hel
        · rw [z]; exact hil
      rw [upd_ne (Nat.ne_of_lt hb')]
      exact (hf b hb).1
  done := by
    intro X hP hw hK hc i pins s σ H E I hf st hg
    subst hP hw hK
    obtain ⟨⟨old, he⟩, hit, hne, hai, hea⟩ := st
    obtain ⟨xs, hq, hx⟩ := hg
    obtain ⟨its, rv, p, hz⟩ := I.tuple hq
    obtain ⟨f0, f1, f2, f3, f4, f5⟩ := hf it (by simp)
    have hl := rv.length
    have hh : X.A.in1.handled = none := I.ok.hd hc
    exact pyNext_enumT_end hh he hit p (by simp; omega) fun h' eb => ⟨rfl, I.turned (t' := s.toks) (fun b o hb q => eb b o hb q) f0 f1 f3 f4 f5⟩
  self := fun A i s Q E st h => let ⟨⟨_, he⟩, _⟩ := st; wpAny_pyIter_enum he h
def iEnumT (K : PySem.W.Frag) (ta : TA) : TI := fun σ H R => ta σ H fun vs H1 => ∃ a xs, vs = [.ref a] ∧ SqT K H1 a xs ∧ R (IteT K a) H1
theorem pi_enumT {X : Cx} {e : Expr} {ta : TA} {p pos tpos : Pos} {elts : List Expr} {kk : Nat} (hg : Gl X "enumerate") (hm : X.mg "enumerate" = none) (ha : PA X [e] ta) (hs : starEach [e] X.env = [(false, eval e X.env)]) :
    PI X (.Tuple elts kk tpos) (.Call (.Name "enumerate" p) [e] [] pos) (iEnumT X.K ta) := by
  refine ⟨fun pins s σ H R I h => ?_⟩
  refine Call_ (ld_blt I hg hm boot_enumerate (PyProof.Rows.callWith_type1 (thn (ha.run pos pins s σ H _ I h) fun us s1 ⟨vs, H1, I1, r1, q1⟩ => ?_) hs rfl))
  obtain ⟨a, xs, ex, hq, q⟩ := q1
  subst ex
  cases r1 with
  | cons r rr =>
    cases rr
    cases r
    obtain ⟨its, rv, p', hz⟩ := I1.tuple hq
    obtain ⟨o1, ho1, _⟩ := id p'
    have hal : a < s1.heap.objs.size := Heap.lt_size ho1
    refine enum_begins1 (begins_tuple a its.toArray) p' fun h' he hit hsz hk => wpAny_pyIter_enum he ?_
    have I2 : Inv X pins σ H1 { s1 with heap := h' } := I1.kept (t' := s1.toks) hk
    refine ⟨s1.heap.objs.size + 1, [s1.heap.objs.size + 1, s1.heap.objs.size], _, _, H1, rfl, I2, turn_enumT a (s1.heap.objs.size + 1) s1.heap.objs.size, ⟨⟨.none, he⟩, ⟨_, hit, rfl, rfl⟩, Nat.succ_ne_self _, Nat.ne_of_lt hal, Nat.ne_of_gt (Nat.lt_succ_of_lt hal)⟩, fun b hb => ?_, q⟩
    have e' : b = s1.heap.objs.size + 1 ∨ b = s1.heap.objs.size := by simpa using hb
    have hle : s1.heap.objs.size ≤ b := by
      rcases e' with z | z
      · rw [z]; exact Nat.le_add_right _ _
      · rw [z]; exact Nat.le_refl _
    exact I1.fpOk hle (I1.hok.fresh hle)
end Fc
set_option Elab.async false
set_option linter.all false
set_option maxHeartbeats 2000000
set_option maxRecDepth 100000
/-! zip of a list and a tuple. -/
namespace Fc
open PySem PySem.Spec PyProof.Rows L2
def ItzLT (K : PySem.W.Frag) (a b : Addr) : L2.It :=
  ⟨fun i H => ∃ (xs ys : List V) (x y : V), SqL K H a xs ∧ SqT K H b ys ∧ xs[i]? = some x ∧ ys[i]? = some y,
    fun i H v H' => ∃ T x y, v = .ref T ∧ H T = none ∧ H' = upd H T (.tup [x, y]) ∧ (∀ xs, SqL K H a xs → xs[i]? = some x) ∧ ∀ ys, SqT K H b ys → ys[i]? = some y,
    fun i H => ∃ xs ys : List V, SqL K H a xs ∧ SqT K H b ys ∧ i = min xs.length ys.length⟩
theorem turn_zipLT {P : Program} {w : World} {K : PySem.W.Frag} {elts : List Expr} {kk : Nat} {tpos : Pos} {a b z TI TO i1 i2 : Addr} (S : ZipSep2 z TI TO i1 i2 [i1, a] [i2, b]) :
    Turn P w K (.Tuple elts kk tpos) (ItzLT K a b) [z, TI, TO, i1, i2] z (fun i h => IsZip h z TI TO .none ∧ IsPair h TI (.ref i1) (.ref i2) ∧ (∃ x y, IsPair h TO x y) ∧ h.IsListIter i1 a i ∧ h.IsTupleIter i2 b i) where
  mem := by simp
  obj := fun i h st c hc => by
    obtain ⟨s1, s2, ⟨_, _, s3⟩, ⟨_, s4, _, t4⟩, ⟨_, s5, _, t5⟩⟩ := st
    rcases (show c = z ∨ c = TI ∨ c = TO ∨ c = i1 ∨ c = i2 by simpa using hc) with q | q | q | q | q <;> subst q
    · exact ⟨_, s1, fun v q => nomatch q⟩
    · exact ⟨_, s2, fun v q => nomatch q⟩
    · exact ⟨_, s3, fun v q => nomatch q⟩
    · exact ⟨_, s4, fun v q => by rw [t4] at q; cases q⟩
    · exact ⟨_, s5, fun v q => by rw [t5] at q; cases q⟩
  keep := fun i h h' st k => by
    obtain ⟨s1, s2, ⟨_, _, s3⟩, s4, s5⟩ := st
    exact ⟨k z (by simp) _ s1, k TI (by simp) _ s2, ⟨_, _, k TO (by simp) _ s3⟩, s4.at fun o q => k i1 (by simp) o q, s5.at fun o q => k i2 (by simp) o q⟩
  item := by
    intro X hP hw hK hc i pins s σ H E I hf st hg
    subst hP hw hK
    obtain ⟨s1, s2, ⟨_, _, s3⟩, s4, s5⟩ := st
    obtain ⟨xs, ys, x, y, g1, g2, g3, g4⟩ := hg
    obtain ⟨us, u1, u2, _⟩ := I.list g1
    obtain ⟨ws, w1, w2, _⟩ := I.tuple g2
    have hh : X.A.in1.handled = none := I.ok.hd hc
    have l1 := u1.length
    have l2 := w1.length
    have b1 : i < us.toArray.size := by have := (List.getElem?_eq_some_iff.mp g3).1; simp; omega
    have b2 : i < ws.toArray.size := by have := (List.getElem?_eq_some_iff.mp g4).1; simp; omega
    have zlt : z < s.heap.objs.size := Heap.lt_size s1
    have ai : a ≠ i1 := fun q => by
      obtain ⟨o, ho, hco, _⟩ := u2.isList
      obtain ⟨o', ho', hco', _⟩ := s4
      rw [q, ho'] at ho
      cases ho
      rw [hco'] at hco
      exact absurd (Value.type.inj hco) (by decide)
    have bi : b ≠ i2 := fun q => by
      obtain ⟨o, ho, hco, _⟩ := w2
      obtain ⟨o', ho', hco', _⟩ := s5
      rw [q, ho'] at ho
      cases ho
      rw [hco'] at hco
      exact absurd (Value.type.inj hco) (by decide)
    refine wpAny_pyNext_zipD2_item S (Draws.list hh i1 a ai us.toArray) (Draws.tuple hh i2 b bi ws.toArray) s1 s2 s3 ⟨s4, u2.isList⟩ ⟨s5, w2⟩ b1 b2 fun p q h' tk e1 e2 z' TO' t1 t2 hT hsz hk => ?_
    obtain ⟨p', hp, rp⟩ := u1.get g3
    obtain ⟨q', hq, rq⟩ := w1.get g4
    have ep : p' = p := by
      have : us[i]? = some p := by simpa using e1
      rw [hp] at this
      exact Option.some.inj this
    have eq' : q' = q := by
      have : ws[i]? = some q := by simpa using e2
      rw [hq] at this
      exact Option.some.inj this
    subst ep eq'
    refine ⟨_, rfl, wpAny_letOwnedTupleGo_zip (s := { s with heap := h', toks := tk }) z' fun h'' z'' sb => ?_⟩
    have hT2 : h''.get? s.heap.objs.size = some { cls := .type "tuple", data := .seq #[p', q'] } := (sb.2 _ (Nat.ne_of_gt zlt)).trans hT
    have I1 : Inv X pins σ (upd H s.heap.objs.size (.tup [x, y])) { s with heap := h'', toks := tk } :=
      I.turnedNew (ch := [z, TI, TO, i1, i2]) (fun c o hb q => (sb.2 c (fun q' => hb (by simp [q']))).trans (hk c o (fun q' => hb (by simp [q'])) (fun q' => hb (by simp [q'])) (fun q' => hb (by simp [q'])) (fun q' => hb (by simp [q'])) q)) hf (Nat.le_refl _)
        ⟨by show 2 ≤ sizeLine; decide, [p', q'], .cons rp (.cons rq .nil), ⟨_, hT2, rfl, _, rfl⟩⟩
    have i1z : i1 ≠ z := fun q => S.zf1 (by simp [q])
    have i2z : i2 ≠ z := fun q => S.zf2 (by simp [q])
    refine ⟨.ref s.heap.objs.size, _, I1, rfl, ⟨_, x, y, rfl, I.hok.fresh (Nat.le_refl _), rfl, fun l hl => by rw [I.list_inj hl g1]; exact g3, fun l hl => by rw [I.tuple_inj hl g2]; exact g4⟩, ⟨z'', ?_, ⟨p', q', (sb.2 _ S.TOz).trans TO'⟩, t1.1.at fun o q => (sb.2 _ i1z).trans q, t2.1.at fun o q => (sb.2 _ i2z).trans q⟩, fun c hcm => ?_⟩
    · exact (sb.2 _ S.TIz).trans (hk _ _ S.TIz S.TITO S.TIi1 S.TIi2 s2)
    · have hlt : c < s.heap.objs.size := by
        rcases (show c = z ∨ c = TI ∨ c = TO ∨ c = i1 ∨ c = i2 by simpa using hcm) with q | q | q | q | q <;> subst q
        · exact zlt
        · exact Heap.lt_size s2
        · exact Heap.lt_size s3
        · obtain ⟨_, q, _⟩ := s4; exact Heap.lt_size q
        · obtain ⟨_, q, _⟩ := s5; exact Heap.lt_size q
      rw [upd_ne (Nat.ne_of_lt hlt)]
      exact (hf c hcm).1
  done := by
    intro X hP hw hK hc i pins s σ H E I hf st hg
    subst hP hw hK
    obtain ⟨s1, s2, ⟨_, _, s3⟩, s4, s5⟩ := st
    obtain ⟨xs, ys, g1, g2, g3⟩ := hg
    obtain ⟨us, u1, u2, _⟩ := I.list g1
    obtain ⟨ws, w1, w2, _⟩ := I.tuple g2
    have hh : X.A.in1.handled = none := I.ok.hd hc
    have l1 := u1.length
    have l2 := w1.length
    have ai : a ≠ i1 := fun q => by
      obtain ⟨o, ho, hco, _⟩ := u2.isList
      obtain ⟨o', ho', hco', _⟩ := s4
      rw [q, ho'] at ho
      cases ho
      rw [hco'] at hco
      exact absurd (Value.type.inj hco) (by decide)
    have bi : b ≠ i2 := fun q => by
      obtain ⟨o, ho, hco, _⟩ := w2
      obtain ⟨o', ho', hco', _⟩ := s5
      rw [q, ho'] at ho
      cases ho
      rw [hco'] at hco
      exact absurd (Value.type.inj hco) (by decide)
    exact wpAny_pyNext_zipD2_end S (Draws.list hh i1 a ai us.toArray) (Draws.tuple hh i2 b bi ws.toArray) s1 s2 s3 ⟨s4, u2.isList⟩ ⟨s5, w2⟩ (by simp; omega) (by simp; omega) (by simp; omega) fun h' tk hk =>
      ⟨rfl, I.turnedL (ch := [z, TI, TO, i1, i2]) (fun c o hb q => hk c o (fun q' => hb (by simp [q'])) (fun q' => hb (by simp [q'])) (fun q' => hb (by simp [q'])) (fun q' => hb (by simp [q'])) q) hf⟩
  self := fun A i s Q E st h => wpAny_pyIter_zip st.1 h
def iZipLT (K : PySem.W.Frag) (ta : TA) : TI := fun σ H R => ta σ H fun vs H1 => ∃ a b xs ys, vs = [.ref a, .ref b] ∧ SqL K H1 a xs ∧ SqT K H1 b ys ∧ R (ItzLT K a b) H1
theorem pi_zipLT {X : Cx} {e e2 : Expr} {ta : TA} {p pos tpos : Pos} {elts : List Expr} {kk : Nat} (hg : Gl X "zip") (hm : X.mg "zip" = none) (ha : PA X [e, e2] ta)
    (hs : starEach [e, e2] X.env = (false, eval e X.env) :: starEach [e2] X.env) (hpl : (backTo pos (starEach [e2] X.env)).any (·.1) = false) :
    PI X (.Tuple elts kk tpos) (.Call (.Name "zip" p) [e, e2] [] pos) (iZipLT X.K ta) := by
  refine ⟨fun pins s σ H R I h => ?_⟩
  refine Call_ (ld_blt I hg hm PyProof.Rows.boot_zip (PyProof.Rows.callWith_type1 (thn (ha.run pos pins s σ H _ I h) fun us s1 ⟨vs, H1, I1, r1, q1⟩ => ?_) hs hpl))
  obtain ⟨a, b, xs, ys, ex, hqx, hqy, q⟩ := q1
  subst ex
  cases r1 with
  | cons r rr =>
    cases rr with
    | cons r' rr =>
      cases rr
      cases r
      cases r'
      obtain ⟨its, rv, p1, _⟩ := I1.list hqx
      obtain ⟨its2, rv2, p2, _⟩ := I1.tuple hqy
      obtain ⟨o2, ho2, _⟩ := id p2
      have la : a < s1.heap.objs.size := p1.lt
      have lb : b < s1.heap.objs.size := Heap.lt_size ho2
      refine zip_begins2 (begins_list a its.toArray) (begins_tuple b its2.toArray) p1.isList p2 fun h' hz hTI hTO h1 h2 hsz hk => wpAny_pyIter_zip hz ?_
      have I2 : Inv X pins σ H1 { s1 with heap := h' } := I1.kept (t' := s1.toks) hk
      refine ⟨s1.heap.objs.size + 4, [s1.heap.objs.size + 4, s1.heap.objs.size + 2, s1.heap.objs.size + 3, s1.heap.objs.size, s1.heap.objs.size + 1], _, _, H1, rfl, I2, turn_zipLT (zip_sep2 (fp1 := [a]) (fp2 := [b]) (by simpa using la) (by simpa using lb)), ⟨hz, hTI, ⟨_, _, hTO⟩, ⟨_, h1, rfl, rfl⟩, ⟨_, h2, rfl, rfl⟩⟩, fun c hcm => ?_, q⟩
      have hle : s1.heap.objs.size ≤ c := by
        rcases (show c = s1.heap.objs.size + 4 ∨ c = s1.heap.objs.size + 2 ∨ c = s1.heap.objs.size + 3 ∨ c = s1.heap.objs.size ∨ c = s1.heap.objs.size + 1 by simpa using hcm) with z | z | z | z | z <;> subst z <;> first | exact Nat.le_refl _ | exact Nat.le_add_right _ _
      exact I1.fpOk hle (I1.hok.fresh hle)
end Fc
set_option Elab.async false
set_option linter.all false
set_option maxHeartbeats 2000000
set_option maxRecDepth 10000
/-! What is walked. -/
namespace Fc
open PySem L2
/-- J's turns give what xs tells, in every later state -/
def ItOk (K : PySem.W.Frag) (ca : Nat → Addr) (ψ : List Addr) (W : Addr → Prop) (H : Hp) (J : L2.It) (xs : List D) : Prop := ∀ ψ' W' H', ψ <+: ψ' → Pres K W H W' H' →
  (∀ i, xs.length = i → J.stop i H') ∧ ∀ i d, xs[i]? = some d → J.go i H' ∧ ∀ x H'', J.yld i H' x H'' → Ext H' H'' ∧ RV K ca ψ' W' H'' d x
def tIt (Γ : Cx0) (P : Par) (it : It) : TI := fun σ H R => ∃ ψ τ ρ O xs ρ' O', Rep P ψ τ ρ O σ H ∧ evI Γ it (ρ, O) = some (xs, (ρ', O')) ∧
  ∀ ψ' H' J, Aft P ψ τ ρ σ H ψ' τ ρ' O' σ H' → ItOk P.K P.ca ψ' (Wr P.U ψ' τ ρ' σ) H' J xs → R J H'
theorem PI.imp {X : Cx} {tg e : Expr} {t t' : TI} (h : PI X tg e t) (i : ∀ σ H Q, t' σ H Q → t σ H Q) : PI X tg e t' := ⟨fun pins s σ H Q I q => h.run pins s σ H Q I (i _ _ _ q)⟩
theorem PI.or {X : Cx} {tg e : Expr} {t t' : TI} (h : PI X tg e t) (h' : PI X tg e t') : PI X tg e (fun σ H R => t σ H R ∨ t' σ H R) := ⟨fun pins s σ H Q I q => by
  rcases q with q | q
  · exact h.run pins s σ H Q I q
  · exact h'.run pins s σ H Q I q⟩
theorem pres_ext {K : PySem.W.Frag} {W : Addr → Prop} {H H' : Hp} (x : Ext H H') : Pres K W H W H' := ⟨fun a o h n => ⟨x a o h, n⟩, fun a xs h => sqt_ext x h, x.dom⟩
section
variable {K : PySem.W.Frag} {ca : Nat → Addr} {ψ : List Addr} {W : Addr → Prop} {H : Hp} {a b : Addr} {vs us : List V} {xs ys : List D}
theorem sql_lst {K : PySem.W.Frag} {H : Hp} {a : Addr} {vs : List V} (h : H a = some (.lst vs)) (us : List V) : SqL K H a us ↔ Rd H a (.lst us) ∨ ∃ (o : Obj) (its : Array Value) (n : Nat), K.lookup a = some o ∧ o.cls = .type "list" ∧ o.dict = none ∧ o.data = .seq its n ∧ its.size ≤ sizeLine ∧ Vals us its.toList := Iff.rfl
theorem it_ints {lo : Int} {n : Nat} : ItOk K ca ψ W H (Itr lo n) ((List.range n).map fun (k : Nat) => D.int (lo + (k : Int))) := fun ψ' W' H' _ pr => by
  refine ⟨fun i hi' => have hi := Nat.le_of_eq hi'; (by simpa using hi : n ≤ i), fun i d e => ?_⟩
  rw [List.getElem?_map] at e
  cases hq : (List.range n)[i]? with
  | none => rw [hq] at e; cases e
  | some k =>
    rw [hq] at e
    cases e
    obtain ⟨h1, h2⟩ := List.getElem?_eq_some_iff.mp hq
    rw [List.length_range] at h1
    rw [List.getElem_range] at h2
    subst h2
    exact ⟨h1, fun x H'' ⟨y1, y2⟩ => by subst y1 y2; exact ⟨Ext.refl, .int _⟩⟩
theorem it_down {lo : Int} {n : Nat} : ItOk K ca ψ W H (Itc lo (-1) n) ((List.range n).map fun (k : Nat) => D.int (lo - (k : Int))) := fun ψ' W' H' _ pr => by
  refine ⟨fun i hi' => have hi := Nat.le_of_eq hi'; (by simpa using hi : n ≤ i), fun i d e => ?_⟩
  rw [List.getElem?_map] at e
  cases hq : (List.range n)[i]? with
  | none => rw [hq] at e; cases e
  | some k =>
    rw [hq] at e
    cases e
    obtain ⟨h1, h2⟩ := List.getElem?_eq_some_iff.mp hq
    rw [List.length_range] at h1
    rw [List.getElem_range] at h2
    subst h2
    refine ⟨h1, fun x H'' ⟨y1, y2⟩ => ?_⟩
    subst y1 y2
    refine ⟨Ext.refl, ?_⟩
    show RV K ca ψ' W' _ (.int (lo - (i : Int))) _
    rw [show lo - (i : Int) = lo + (i : Int) * -1 by omega]
    exact .int _
theorem it_lst (ha : H a = some (.lst vs)) (n : ¬ W a) (r : RVs K ca ψ W H xs vs) : ItOk K ca ψ W H (Itl K a) xs := fun ψ' W' H' hp pr => by
  obtain ⟨h1, n1⟩ := pr.keep _ _ ha n
  have r' := r.mono hp pr
  refine ⟨fun i hi' => have hi := Nat.le_of_eq hi'; ⟨vs, .inl (.inl h1), by rw [← r.1]; exact hi⟩, fun i d e => ?_⟩
  obtain ⟨v, e1, e2⟩ := r'.get e
  refine ⟨⟨vs, v, .inl (.inl h1), e1⟩, fun x H'' ⟨y1, y2⟩ => ?_⟩
  subst y1
  have := y2 vs (.inl (.inl h1))
  rw [e1] at this
  cases this
  exact ⟨Ext.refl, e2⟩
theorem it_tup (ha : SqT K H a vs) (r : RVs K ca ψ W H xs vs) : ItOk K ca ψ W H (Itt K a) xs := fun ψ' W' H' hp pr => by
  have h1 := pr.tups _ _ ha
  have r' := r.mono hp pr
  refine ⟨fun i hi' => have hi := Nat.le_of_eq hi'; ⟨vs, h1, by rw [← r.1]; exact hi⟩, fun i d e => ?_⟩
  obtain ⟨v, e1, e2⟩ := r'.get e
  refine ⟨⟨vs, v, h1, e1⟩, fun x H'' ⟨y1, y2⟩ => ?_⟩
  subst y1
  have := y2 vs h1
  rw [e1] at this
  cases this
  exact ⟨Ext.refl, e2⟩
theorem it_str {z : Str} : ItOk K ca ψ W H (Its z) (z.cps.toList.map fun c => .str ⟨#[c]⟩) := fun ψ' W' H' hp pr => by
  refine ⟨fun i hi' => have hi := Nat.le_of_eq hi'; ?_, fun i d e => ?_⟩
  · rw [List.length_map, Array.length_toList] at hi
    exact hi
  · rw [List.getElem?_map] at e
    cases hq : z.cps.toList[i]? with
    | none => rw [hq] at e; cases e
    | some c =>
      rw [hq] at e
      cases e
      have hi : i < z.cps.size := by
        have := (List.getElem?_eq_some_iff.mp hq).1
        rwa [Array.length_toList] at this
      refine ⟨hi, fun x H'' ⟨y1, c', y2, y3⟩ => ?_⟩
      subst y1 y3
      rw [Array.getElem?_toList] at hq
      rw [hq] at y2
      cases y2
      exact ⟨Ext.refl, .str _⟩
theorem rv_pair {d1 d2 : D} {v1 v2 : V} {T : Addr} (h1 : RV K ca ψ W H d1 v1) (h2 : RV K ca ψ W H d2 v2) (hT : H T = none) : Ext H (upd H T (.tup [v1, v2])) ∧ RV K ca ψ W (upd H T (.tup [v1, v2])) (.tup [d1, d2]) (.ref T) := by
  have x : Ext H (upd H T (.tup [v1, v2])) := Ext.upd hT
  have pr : Pres K W H W (upd H T (.tup [v1, v2])) := pres_ext x
  have r : RVs K ca ψ W (upd H T (.tup [v1, v2])) [d1, d2] [v1, v2] := .cons (h1.mono (List.prefix_refl _) pr) (.cons (h2.mono (List.prefix_refl _) pr) .nil)
  exact ⟨x, .tup (.inl (.inl upd_same)) r.1 r.2⟩
theorem it_enum (ha : H a = some (.lst vs)) (n : ¬ W a) (r : RVs K ca ψ W H xs vs) : ItOk K ca ψ W H (Ite K a) (enumD xs) := fun ψ' W' H' hp pr => by
  obtain ⟨h1, n1⟩ := pr.keep _ _ ha n
  have r' := r.mono hp pr
  have hl : (enumD xs).length = xs.length := by unfold enumD; simp
  refine ⟨fun i hi' => have hi := Nat.le_of_eq hi'; ⟨vs, .inl (.inl h1), by rw [← r.1, ← hl]; exact hi⟩, fun i d e => ?_⟩
  unfold enumD at e
  rw [List.getElem?_map, List.getElem?_zipIdx] at e
  cases hq : xs[i]? with
  | none => rw [hq] at e; cases e
  | some d0 =>
    rw [hq] at e
    cases e
    obtain ⟨v, e1, e2⟩ := r'.get hq
    refine ⟨⟨vs, v, .inl (.inl h1), e1⟩, fun x H'' ⟨T, y, y1, y2, y3, y4⟩ => ?_⟩
    have := y4 vs (.inl (.inl h1))
    rw [e1] at this
    cases this
    subst y1 y3
    have e3 : ((0 + i : Nat) : Int) = ((i : Nat) : Int) := by simp
    show Ext H' _ ∧ RV K ca ψ' W' _ (.tup [.int ((0 + i : Nat) : Int), d0]) _
    rw [e3]
    exact rv_pair (.int _) e2 y2
theorem it_zip {S : Hp → Addr → List V → Prop} {J : L2.It} (hS : ∀ W' H' c ws, Pres K W H W' H' → ((c = a ∧ ws = vs) ∨ (c = b ∧ ws = us)) → S H' c ws)
    (hgo : J.go = fun i H => ∃ (xs ys : List V) (x y : V), S H a xs ∧ S H b ys ∧ xs[i]? = some x ∧ ys[i]? = some y)
    (hy : J.yld = fun i H v H' => ∃ T x y, v = .ref T ∧ H T = none ∧ H' = upd H T (.tup [x, y]) ∧ (∀ xs, S H a xs → xs[i]? = some x) ∧ ∀ ys, S H b ys → ys[i]? = some y)
    (hst : J.stop = fun i H => ∃ xs ys : List V, S H a xs ∧ S H b ys ∧ (xs.length ≤ i ∨ ys.length ≤ i))
    (r : RVs K ca ψ W H xs vs) (r2 : RVs K ca ψ W H ys us) : ItOk K ca ψ W H J (zipD xs ys) := fun ψ' W' H' hp pr => by
  have h1 := hS W' H' a vs pr (.inl ⟨rfl, rfl⟩)
  have h2 := hS W' H' b us pr (.inr ⟨rfl, rfl⟩)
  have r' := r.mono hp pr
  have r2' := r2.mono hp pr
  refine ⟨fun i hi' => have hi := Nat.le_of_eq hi'; ?_, fun i d e => ?_⟩
  · rw [hst]
    refine ⟨vs, us, h1, h2, ?_⟩
    unfold zipD at hi
    rw [List.length_map, List.length_zip] at hi
    rw [← r.1, ← r2.1]
    omega
  · unfold zipD at e
    rw [List.getElem?_map] at e
    cases hq : (xs.zip ys)[i]? with
    | none => rw [hq] at e; cases e
    | some p =>
      rw [hq] at e
      cases e
      obtain ⟨q1, q2⟩ := List.getElem?_zip_eq_some.mp hq
      obtain ⟨v, e1, e2⟩ := r'.get q1
      obtain ⟨w, e3, e4⟩ := r2'.get q2
      rw [hgo, hy]
      refine ⟨⟨vs, us, v, w, h1, h2, e1, e3⟩, fun x H'' ⟨T, y, y', y1, y2, y3, y4, y5⟩ => ?_⟩
      have t1 := y4 vs h1
      rw [e1] at t1
      cases t1
      have t2 := y5 us h2
      rw [e3] at t2
      cases t2
      subst y1 y3
      exact rv_pair e2 e4 y2
theorem it_zipLT (p1 : H a = some (.lst vs)) (p2 : ¬ W a) (q1 : SqT K H b us) (r : RVs K ca ψ W H xs vs) (r2 : RVs K ca ψ W H ys us) : ItOk K ca ψ W H (ItzLT K a b) (zipD xs ys) := fun ψ' W' H' hp pr => by
  have h1 : SqL K H' a vs := .inl (.inl (pr.keep _ _ p1 p2).1)
  have h2 : SqT K H' b us := pr.tups _ _ q1
  have r' := r.mono hp pr
  have r2' := r2.mono hp pr
  refine ⟨fun i hi => ⟨vs, us, h1, h2, ?_⟩, fun i d e => ?_⟩
  · unfold zipD at hi
    rw [List.length_map, List.length_zip] at hi
    rw [← r.1, ← r2.1]
    omega
  · unfold zipD at e
    rw [List.getElem?_map] at e
    cases hq : (xs.zip ys)[i]? with
    | none => rw [hq] at e; cases e
    | some p =>
      rw [hq] at e
      cases e
      obtain ⟨q1, q2⟩ := List.getElem?_zip_eq_some.mp hq
      obtain ⟨v, e1, e2⟩ := r'.get q1
      obtain ⟨w, e3, e4⟩ := r2'.get q2
      refine ⟨⟨vs, us, v, w, h1, h2, e1, e3⟩, fun x H'' ⟨T, y, y', y1, y2, y3, y4, y5⟩ => ?_⟩
      have t1 := y4 vs h1
      rw [e1] at t1
      cases t1
      have t2 := y5 us h2
      rw [e3] at t2
      cases t2
      subst y1 y3
      exact rv_pair e2 e4 y2
end
section
variable {X : Cx} {P : Par} {Γ : Cx0} {e a b c tg : Expr} {t ta tb tc : Tm} {pos p2 tpos : Pos} {elts : List Expr} {kk : Nat}
theorem it_seq (hK : P.K = X.K) (h : PE X e (tEv Γ P t)) : PI X tg e (tIt Γ P (.seq t)) := PI.imp (PI.or (pi_list h) (PI.or (pi_tup h) (pi_str h))) fun σ H R q => by
  obtain ⟨ψ, τ, ρ, O, xs, ρ', O', r, e, k⟩ := q
  have e' : (match ev Γ t (ρ, O) with
    | none => none
    | some (l, s1) => match itemsD l.deep with
      | none => none
      | some xs => some (xs, s1)) = some (xs, (ρ', O')) := e
  cases e1 : ev Γ t (ρ, O) with
  | none => rw [e1] at e'; cases e'
  | some z1 =>
    obtain ⟨l, ρ1, O1⟩ := z1
    rw [e1] at e'
    dsimp only at e'
    cases hd : l.deep with
    | tup zs =>
      rw [hd] at e'
      have e2 : some (zs, (ρ1, O1)) = some (xs, (ρ', O')) := e'
      cases e2
      refine .inr (.inl ⟨ψ, τ, ρ, O, l, _, _, r, e1, fun ψ1 H1 v res => ?_⟩)
      obtain ⟨a1, rv⟩ := res.deep
      rw [hd] at rv
      cases rv with
      | tup h1 h3 h4 => exact ⟨_, rfl, ⟨_, hK ▸ h1⟩, k ψ1 H1 _ a1 (hK ▸ it_tup h1 ⟨h3, h4⟩)⟩
    | lst zs =>
      rw [hd] at e'
      have e2 : some (zs, (ρ1, O1)) = some (xs, (ρ', O')) := e'
      cases e2
      refine .inl ⟨ψ, τ, ρ, O, l, _, _, r, e1, fun ψ1 H1 v res => ?_⟩
      obtain ⟨a1, rv⟩ := res.deep
      rw [hd] at rv
      cases rv with
      | lst h1 h2 h3 h4 => exact ⟨_, rfl, ⟨_, .inl (.inl h1)⟩, k ψ1 H1 _ a1 (hK ▸ it_lst h1 h2 ⟨h3, h4⟩)⟩
    | str z =>
      rw [hd] at e'
      have e2 : some (z.cps.toList.map fun c => D.str ⟨#[c]⟩, (ρ1, O1)) = some (xs, (ρ', O')) := e'
      cases e2
      refine .inr (.inr ⟨ψ, τ, ρ, O, l, _, _, r, e1, fun ψ1 H1 v res => ?_⟩)
      obtain ⟨a1, rv⟩ := res.deep
      rw [hd] at rv
      cases rv
      exact ⟨_, rfl, k ψ1 H1 _ a1 it_str⟩
    | _ => rw [hd] at e'; cases e'
theorem it_range1 (hg : Gl X "range") (hm : X.mg "range" = none) (ha : PE X a (tEv Γ P ta)) (hs : starEach [a] X.env = [(false, eval a X.env)]) : PI X tg (.Call (.Name "range" p2) [a] [] pos) (tIt Γ P (.range1 ta)) :=
  PI.imp (pi_range1 hg hm (pa_cons ha pa_nil hs) hs) fun σ H R q => by
    obtain ⟨ψ, τ, ρ, O, xs, ρ', O', r, e, k⟩ := q
    have e' : (match ev Γ ta (ρ, O) with
      | some (.dp (.int n), s1) => match rangeD 0 n with
        | none => none
        | some xs => some (xs, s1)
      | _ => none) = some (xs, (ρ', O')) := e
    split at e'
    · rename_i n s1 e1
      obtain ⟨ρ1, O1⟩ := s1
      cases hr : rangeD 0 n with
      | none => rw [hr] at e'; cases e'
      | some ys =>
        rw [hr] at e'
        cases e'
        unfold rangeD at hr
        split at hr
        · rename_i hb
          cases hr
          refine ⟨ψ, τ, ρ, O, _, _, _, r, e1, fun ψ1 H1 v res => ?_⟩
          obtain ⟨a1, rv⟩ := res
          cases rv
          refine ⟨n, rfl, hb.2.2.1, hb.2.2.2, k ψ1 H1 _ a1 ?_⟩
          rw [show (n - 0).toNat = n.toNat by omega]
          exact it_ints
        · cases hr
    · cases e'
theorem it_range2 (hg : Gl X "range") (hm : X.mg "range" = none) (ha : PE X a (tEv Γ P ta)) (hb : PE X b (tEv Γ P tb)) (hs : starEach [a, b] X.env = [(false, eval a X.env), (false, eval b X.env)]) (hs2 : starEach [b] X.env = [(false, eval b X.env)]) :
    PI X tg (.Call (.Name "range" p2) [a, b] [] pos) (tIt Γ P (.range2 ta tb)) :=
  PI.imp (pi_range2 hg hm (pa_cons ha (pa_cons hb pa_nil (by rw [hs2]; rfl)) (by rw [hs, hs2])) hs hs2) fun σ H R q => by
    obtain ⟨ψ, τ, ρ, O, xs, ρ', O', r, e, k⟩ := q
    have e' : (match ev Γ ta (ρ, O) with
      | some (.dp (.int m), s1) => match ev Γ tb s1 with
        | some (.dp (.int n), s2) => match rangeD m n with
          | none => none
          | some xs => some (xs, s2)
        | _ => none
      | _ => none) = some (xs, (ρ', O')) := e
    split at e'
    · rename_i m s1 e1
      obtain ⟨ρ1, O1⟩ := s1
      split at e'
      · rename_i n s2 e2
        obtain ⟨ρ2, O2⟩ := s2
        cases hr : rangeD m n with
        | none => rw [hr] at e'; cases e'
        | some ys =>
          rw [hr] at e'
          cases e'
          unfold rangeD at hr
          split at hr
          · rename_i hbd
            cases hr
            refine ⟨ψ, τ, ρ, O, _, _, _, r, e1, fun ψ1 H1 v res => ?_⟩
            obtain ⟨a1, rv⟩ := res
            cases rv
            refine ⟨ψ1, τ, ρ1, O1, _, _, _, a1.rep, e2, fun ψ2 H2 w res2 => ?_⟩
            obtain ⟨a2, rw2⟩ := res2
            cases rw2
            exact ⟨m, n, rfl, hbd, k ψ2 H2 _ (a1.trans a2) it_ints⟩
          · cases hr
      · cases e'
    · cases e'
theorem it_range3 (hg : Gl X "range") (hm : X.mg "range" = none) (ha : PE X a (tEv Γ P ta)) (hb : PE X b (tEv Γ P tb)) (hc : PE X c (tEv Γ P tc)) (hs : starEach [a, b, c] X.env = (false, eval a X.env) :: starEach [b, c] X.env) (hs2 : starEach [b, c] X.env = (false, eval b X.env) :: starEach [c] X.env)
    (hs3 : starEach [c] X.env = (false, eval c X.env) :: starEach [] X.env) (hpl : (backTo pos (starEach [b, c] X.env)).any (·.1) = false) :
    PI X tg (.Call (.Name "range" p2) [a, b, c] [] pos) (tIt Γ P (.range3 ta tb tc)) :=
  PI.imp (pi_range3 hg hm (pa_cons ha (pa_cons hb (pa_cons hc pa_nil hs3) hs2) hs) hs hpl) fun σ H R q => by
    obtain ⟨ψ, τ, ρ, O, xs, ρ', O', r, e, k⟩ := q
    have e' : (match ev Γ ta (ρ, O) with
      | some (.dp (.int m), s1) => match ev Γ tb s1 with
        | some (.dp (.int n), s2) => match ev Γ tc s2 with
          | some (.dp (.int c), s3) => match rangeDown m n c with
            | none => none
            | some xs => some (xs, s3)
          | _ => none
        | _ => none
      | _ => none) = some (xs, (ρ', O')) := e
    split at e'
    · rename_i m s1 e1
      obtain ⟨ρ1, O1⟩ := s1
      split at e'
      · rename_i n s2 e2
        obtain ⟨ρ2, O2⟩ := s2
        split at e'
        · rename_i c s3 e3
          obtain ⟨ρ3, O3⟩ := s3
          cases hr : rangeDown m n c with
          | none => rw [hr] at e'; cases e'
          | some ys =>
            rw [hr] at e'
            cases e'
            unfold rangeDown at hr
            split at hr
            · rename_i hbd
              cases hr
              obtain ⟨h0, h1, h2, h3, h4⟩ := hbd
              subst h0
              refine ⟨ψ, τ, ρ, O, _, _, _, r, e1, fun ψ1 H1 v res => ?_⟩
              obtain ⟨a1, rv⟩ := res
              cases rv
              refine ⟨ψ1, τ, ρ1, O1, _, _, _, a1.rep, e2, fun ψ2 H2 w res2 => ?_⟩
              obtain ⟨a2, rw2⟩ := res2
              cases rw2
              refine ⟨ψ2, τ, ρ2, O2, _, _, _, a2.rep, e3, fun ψ3 H3 u res3 => ?_⟩
              obtain ⟨a3, rw3⟩ := res3
              cases rw3
              exact ⟨m, n, -1, _, rfl, .neg h1 h2 h3 h4, k ψ3 H3 _ ((a1.trans a2).trans a3) it_down⟩
            · cases hr
        · cases e'
      · cases e'
    · cases e'
theorem it_enumT {a : Addr} {vs : List V} {xs : List D} (ha : SqT K H a vs) (r : RVs K ca ψ W H xs vs) : ItOk K ca ψ W H (IteT K a) (enumD xs) := fun ψ' W' H' hp pr => by
  have h1 := pr.tups _ _ ha
  have r' := r.mono hp pr
  have hl : (enumD xs).length = xs.length := by unfold enumD; simp
  refine ⟨fun i hi' => have hi := Nat.le_of_eq hi'; ⟨vs, h1, by rw [← r.1, ← hl]; exact hi⟩, fun i d e => ?_⟩
  unfold enumD at e
  rw [List.getElem?_map, List.getElem?_zipIdx] at e
  cases hq : xs[i]? with
  | none => rw [hq] at e; cases e
  | some d' =>
    rw [hq] at e
    cases e
    obtain ⟨v, e1, e2⟩ := r'.get hq
    refine ⟨⟨vs, v, h1, e1⟩, fun x H'' ⟨T, y, y1, y2, y3, y4⟩ => ?_⟩
    subst y1 y3
    have := y4 vs h1
    rw [e1] at this
    cases this
    obtain ⟨q1, q2⟩ := rv_pair (.int (i : Int)) e2 y2
    refine ⟨q1, ?_⟩
    simpa using q2
theorem it_enumerate (hK : P.K = X.K) (hg : Gl X "enumerate") (hm : X.mg "enumerate" = none) (ha : PE X a (tEv Γ P ta)) (hs : starEach [a] X.env = [(false, eval a X.env)]) : PI X (.Tuple elts kk tpos) (.Call (.Name "enumerate" p2) [a] [] pos) (tIt Γ P (.enum ta)) :=
  PI.imp (PI.or (pi_enum hg hm (pa_cons ha pa_nil hs) hs) (pi_enumT hg hm (pa_cons ha pa_nil hs) hs)) fun σ H R q => by
    obtain ⟨ψ, τ, ρ, O, xs, ρ', O', r, e, k⟩ := q
    have e' : (match ev Γ ta (ρ, O) with
      | none => none
      | some (l, s1) => match itemsSeq l.deep with
        | none => none
        | some xs => some (enumD xs, s1)) = some (xs, (ρ', O')) := e
    cases e1 : ev Γ ta (ρ, O) with
    | none => rw [e1] at e'; cases e'
    | some z1 =>
      obtain ⟨l, ρ1, O1⟩ := z1
      rw [e1] at e'
      dsimp only at e'
      cases hd : l.deep with
      | lst zs =>
        rw [hd] at e'
        cases e'
        refine .inl ⟨ψ, τ, ρ, O, l, _, _, r, e1, fun ψ1 H1 v res => ?_⟩
        obtain ⟨a1, rv⟩ := res.deep
        rw [hd] at rv
        cases rv with
        | lst h1 h2 h3 h4 => exact ⟨_, _, rfl, .inl (.inl h1), k ψ1 H1 _ a1 (hK ▸ it_enum h1 h2 ⟨h3, h4⟩)⟩
      | tup zs =>
        rw [hd] at e'
        cases e'
        refine .inr ⟨ψ, τ, ρ, O, l, _, _, r, e1, fun ψ1 H1 v res => ?_⟩
        obtain ⟨a1, rv⟩ := res.deep
        rw [hd] at rv
        cases rv with
        | tup h1 h3 h4 => exact ⟨_, _, rfl, hK ▸ h1, k ψ1 H1 _ a1 (hK ▸ it_enumT h1 ⟨h3, h4⟩)⟩
      | _ => rw [hd] at e'; cases e'
theorem it_zipped (hK : P.K = X.K) (hg : Gl X "zip") (hm : X.mg "zip" = none) (ha : PE X a (tEv Γ P ta)) (hb : PE X b (tEv Γ P tb)) (hs : starEach [a, b] X.env = (false, eval a X.env) :: starEach [b] X.env) (hs2 : starEach [b] X.env = (false, eval b X.env) :: starEach [] X.env) (hpl : (backTo pos (starEach [b] X.env)).any (·.1) = false) :
    PI X (.Tuple elts kk tpos) (.Call (.Name "zip" p2) [a, b] [] pos) (tIt Γ P (.zip ta tb)) :=
  PI.imp (PI.or (RZ.pi_zipA hg hm (pa_cons ha (pa_cons hb pa_nil hs2) hs) hs hpl) (pi_zipLT hg hm (pa_cons ha (pa_cons hb pa_nil hs2) hs) hs hpl)) fun σ H R q => by
    obtain ⟨ψ, τ, ρ, O, xs, ρ', O', r, e, k⟩ := q
    have e' : (match ev Γ ta (ρ, O) with
      | none => none
      | some (l, s1) => match ev Γ tb s1 with
        | none => none
        | some (m, s2) => match zipP l.deep m.deep with
          | none => none
          | some zs => some (zs, s2)) = some (xs, (ρ', O')) := e
    cases e1 : ev Γ ta (ρ, O) with
    | none => rw [e1] at e'; cases e'
    | some z1 =>
      obtain ⟨l, ρ1, O1⟩ := z1
      rw [e1] at e'
      dsimp only at e'
      cases e2 : ev Γ tb (ρ1, O1) with
      | none => rw [e2] at e'; cases e'
      | some z2 =>
        obtain ⟨m, ρ2, O2⟩ := z2
        rw [e2] at e'
        dsimp only at e'
        cases e3 : zipP l.deep m.deep with
        | none => rw [e3] at e'; cases e'
        | some zs =>
          rw [e3] at e'
          cases e'
          unfold zipP at e3
          split at e3
          · rename_i ys zs h1 h2
            cases e3
            refine .inl ?_
            refine ⟨ψ, τ, ρ, O, l, _, _, r, e1, fun ψ1 H1 v res => ?_⟩
            obtain ⟨a1, rv⟩ := res.deep
            refine ⟨ψ1, τ, _, _, m, _, _, a1.rep, e2, fun ψ2 H2 w res2 => ?_⟩
            obtain ⟨a2, rw2⟩ := res2.deep
            have rv2 := rv.mono a2.pre a2.pres
            rw [h1] at rv2
            rw [h2] at rw2
            cases rv2 with
            | lst p1 p2 p3 p4 =>
              cases rw2 with
              | lst q1 q2 q3 q4 =>
                refine ⟨_, _, _, _, rfl, .inl ⟨.inl (.inl p1), .inl (.inl q1), k ψ2 H2 _ (a1.trans a2) ?_⟩⟩
                refine it_zip (S := SqL X.K) (fun W' H' c ws pr hc => ?_) rfl rfl rfl ⟨p3, p4⟩ ⟨q3, q4⟩
                rcases hc with ⟨rfl, rfl⟩ | ⟨rfl, rfl⟩
                · exact .inl (.inl (pr.keep _ _ p1 p2).1)
                · exact .inl (.inl (pr.keep _ _ q1 q2).1)
          · rename_i ys zs h1 h2
            cases e3
            refine .inr ?_
            refine ⟨ψ, τ, ρ, O, l, _, _, r, e1, fun ψ1 H1 v res => ?_⟩
            obtain ⟨a1, rv⟩ := res.deep
            refine ⟨ψ1, τ, _, _, m, _, _, a1.rep, e2, fun ψ2 H2 w res2 => ?_⟩
            obtain ⟨a2, rw2⟩ := res2.deep
            have rv2 := rv.mono a2.pre a2.pres
            rw [h1] at rv2
            rw [h2] at rw2
            cases rv2 with
            | lst p1 p2 p3 p4 =>
              cases rw2 with
              | tup q1 q3 q4 =>
                exact ⟨_, _, _, _, rfl, .inl (.inl p1), hK ▸ q1, k ψ2 H2 _ (a1.trans a2) (hK ▸ it_zipLT p1 p2 q1 ⟨p3, p4⟩ ⟨q3, q4⟩)⟩
          · rename_i ys zs h1 h2
            cases e3
            refine .inl ?_
            refine ⟨ψ, τ, ρ, O, l, _, _, r, e1, fun ψ1 H1 v res => ?_⟩
            obtain ⟨a1, rv⟩ := res.deep
            refine ⟨ψ1, τ, _, _, m, _, _, a1.rep, e2, fun ψ2 H2 w res2 => ?_⟩
            obtain ⟨a2, rw2⟩ := res2.deep
            have rv2 := rv.mono a2.pre a2.pres
            rw [h1] at rv2
            rw [h2] at rw2
            cases rv2 with
            | tup p1 p3 p4 =>
              cases rw2 with
              | tup q1 q3 q4 =>
                refine ⟨_, _, _, _, rfl, .inr ⟨hK ▸ p1, hK ▸ q1, k ψ2 H2 _ (a1.trans a2) ?_⟩⟩
                refine it_zip (S := SqT X.K) (fun W' H' c ws pr hc => ?_) rfl rfl rfl ⟨p3, p4⟩ ⟨q3, q4⟩
                rcases hc with ⟨rfl, rfl⟩ | ⟨rfl, rfl⟩
                · exact hK ▸ pr.tups _ _ p1
                · exact hK ▸ pr.tups _ _ q1
          · cases e3
end
end Fc
set_option Elab.async false
set_option linter.all false
set_option maxHeartbeats 2000000
set_option maxRecDepth 10000
/-! Targets. -/
namespace Fc
open PySem L2
section
variable {P : Par} {ψ ψ1 ψ' : List Addr} {τ τ1 τ' : List (Addr × Ob)} {ρ ρ1 ρ' : List Sl} {O O1 O' : List Ob} {σ : L2.St} {H H1 H' : Hp} {l : L} {v : V} {d : D}
theorem Rep.setD (r : Rep P ψ τ ρ O σ H) {i : Nat} {d : D} {v : V} (hi : i < ρ.length) (hv : RV P.K P.ca ψ (Wr P.U ψ τ ρ σ) H d v) (hp : P.pa[i]? = none ∨ P.pa[i]? = some none) : Aft P ψ τ ρ σ H ψ τ (ρ.set i (.dp d)) O (σ.set i (some v)) H := by
  refine r.setDp hi (fun o z => by cases z) (fun d' e => ?_) hp
  cases e
  refine ⟨v, rfl, hv.mono (List.prefix_refl _) (.less fun b hb => ?_)⟩
  rcases hb with (h | h | ⟨j, o, h1, h2⟩) | h
  · exact .inl (.inl h)
  · exact .inl (.inr (.inl h))
  · rcases get_set h1 with ⟨_, q, _⟩ | ⟨ne, q⟩
    · cases q
    · rw [set_ne ne] at h2
      exact .inl (.inr (.inr ⟨j, o, q, h2⟩))
  · exact .inr h
theorem Rep.perm (r : Rep P ψ τ ρ O σ H) (h : τ.Perm τ') : Aft P ψ τ ρ σ H ψ τ' ρ O σ H := by
  have hm : ∀ a, a ∈ τ'.map (·.1) ↔ a ∈ τ.map (·.1) := fun a => ((h.map (·.1)).mem_iff).symm
  have hw0 : ∀ b, W0 ψ τ' ρ σ b ↔ W0 ψ τ ρ σ b := fun b => by
    unfold W0
    rw [hm b]
  have hw : ∀ b, Wr P.U ψ τ' ρ σ b ↔ Wr P.U ψ τ ρ σ b := fun b => or_congr (hw0 b) Iff.rfl
  have pr : Pres P.K (Wr P.U ψ τ ρ σ) H (Wr P.U ψ τ' ρ σ) H := .less fun a ha => (hw a).mp ha
  refine ⟨List.prefix_refl _, pr, ⟨r.len, fun i d e => ?_, fun i o e => ?_, r.inj, fun q hq => ?_, ((h.map (·.1)).nodup_iff).mp r.tnd, fun i o a e1 e2 z => r.tow i o a e1 e2 ((hm a).mp z), r.plen, fun n a o e1 e2 => (r.oid n a o e1 e2).mono (List.prefix_refl _) pr rfl, r.pnd, r.pow, fun a z => r.ptm a ((hm a).mp z), r.par, r.ent, fun a ha z => r.out a ha ((hw0 a).mp z), r.uob⟩, fun _ _ => rfl⟩
  · obtain ⟨v, h1, h2⟩ := r.dp i d e
    exact ⟨v, h1, h2.mono (List.prefix_refl _) pr⟩
  · obtain ⟨a, h1, h2, h3⟩ := r.own i o e
    exact ⟨a, h1, h2.mono (List.prefix_refl _) pr rfl, h3⟩
  · obtain ⟨h1, h2⟩ := r.tmp q (h.mem_iff.mpr hq)
    exact ⟨h1.mono (List.prefix_refl _) pr rfl, h2⟩
/-- an own parameter is not stored over -/
def PaOk (P : Par) (np : Nat) : Prop := P.np = np ∧ ∀ j a, P.pa[j]? = some (some a) → j < np
theorem setSl_pa {np i : Nat} {x : Sl} (hp : PaOk P np) (r : Rep P ψ τ ρ O σ H) (e : setSl np i x ρ = some ρ') : i < ρ.length ∧ ρ' = ρ.set i x ∧ (P.pa[i]? = none ∨ P.pa[i]? = some none) := by
  unfold setSl at e
  have key : ∀ {o}, ρ[i]? = some o → (∀ u, o = Sl.own u → ¬ i < np) → (P.pa[i]? = none ∨ P.pa[i]? = some none) := fun {o} h1 h2 => by
    cases h3 : P.pa[i]? with
    | none => exact .inl rfl
    | some y =>
      cases y with
      | none => exact .inr rfl
      | some a =>
        obtain ⟨⟨u, h4⟩, _⟩ := r.par i a h3
        rw [h1] at h4
        cases h4
        exact absurd (hp.2 i a h3) (h2 u rfl)
  cases h : ρ[i]? with
  | none => rw [h] at e; cases e
  | some o =>
    have hi : i < ρ.length := (List.getElem?_eq_some_iff.mp h).1
    rw [h] at e
    cases o with
    | own u =>
      dsimp only at e
      split at e
      · cases e
      · rename_i hn
        cases e
        exact ⟨hi, rfl, key h fun _ _ => hn⟩
    | no => cases e; exact ⟨hi, rfl, key h fun u z => by cases z⟩
    | dp d => cases e; exact ⟨hi, rfl, key h fun u z => by cases z⟩
/-- the new objects with a value's -/
def tl1 (l : L) (v : V) (τ : List (Addr × Ob)) : List (Addr × Ob) := match l, v with
  | .fr o, .ref a => (a, o) :: τ
  | _, _ => τ
def LR (P : Par) (ψ : List Addr) (τ : List (Addr × Ob)) (ρ : List Sl) (σ : L2.St) (H : Hp) (l : L) (v : V) : Prop := match l with
  | .dp d => RV P.K P.ca ψ (Wr P.U ψ τ ρ σ) H d v
  | .fr o => ∃ a, v = .ref a ∧ (a, o) ∈ τ
theorem tl1_sub (l : L) (v : V) (τ : List (Addr × Ob)) : ∀ q ∈ τ, q ∈ tl1 l v τ := fun q hq => by
  unfold tl1
  split
  · exact List.mem_cons_of_mem _ hq
  · exact hq
theorem LR.after {σ' : L2.St} (x : Aft P ψ τ ρ σ H ψ' τ' ρ' O' σ' H') (ht : ∀ q ∈ τ, q ∈ τ') (h : LR P ψ τ ρ σ H l v) : LR P ψ' τ' ρ' σ' H' l v := by
  cases l with
  | dp d => exact RV.mono x.pre x.pres h
  | fr o => obtain ⟨a, e, m⟩ := h; exact ⟨a, e, ht _ m⟩
/-- an end as a value laid on τ -/
theorem Res.lr (h : Res P ψ τ ρ σ H l ρ' O' ψ' H' v) : Aft P ψ τ ρ σ H ψ' (tl1 l v τ) ρ' O' σ H' ∧ LR P ψ' (tl1 l v τ) ρ' σ H' l v := by
  cases l with
  | dp d => exact h
  | fr o =>
    obtain ⟨a, rfl, h⟩ := h
    exact ⟨h, a, rfl, List.mem_cons_self⟩
/-- a value's own object is data -/
theorem Rep.popv (r : Rep P ψ (tl1 l v τ) ρ O σ H) (h : LR P ψ (tl1 l v τ) ρ σ H l v) : Aft P ψ (tl1 l v τ) ρ σ H ψ τ ρ O σ H ∧ RV P.K P.ca ψ (Wr P.U ψ τ ρ σ) H l.deep v := by
  cases l with
  | dp d => exact ⟨.refl r, h⟩
  | fr o =>
    obtain ⟨a, rfl, m⟩ := h
    exact r.pop
/-- a name is stored -/
theorem set_nm {np i : Nat} (hp : PaOk P np) (r : Rep P ψ (tl1 l v τ) ρ O σ H) (h : LR P ψ (tl1 l v τ) ρ σ H l v) (e : setSl np i (slL l) ρ = some ρ') : Aft P ψ (tl1 l v τ) ρ σ H ψ τ ρ' O (σ.set i (some v)) H := by
  obtain ⟨h1, h2, h3⟩ := setSl_pa hp r e
  subst h2
  cases l with
  | dp d => exact r.setD h1 h h3
  | fr o =>
    obtain ⟨a, rfl, m⟩ := h
    exact r.setOwn h1 h3
end
theorem PG.imp {X : Cx} {e : Expr} {t t' : TG} (h : PG X e t) (i : ∀ v σ H Q, t' v σ H Q → t v σ H Q) : PG X e t' := ⟨fun pins s σ H v u Q I r q => h.run pins s σ H v u Q I r (i _ _ _ _ q)⟩
theorem PGs.imp {X : Cx} {e : List Expr} {t t' : TGs} (h : PGs X e t) (i : ∀ v σ H Q, t' v σ H Q → t v σ H Q) : PGs X e t' := ⟨fun pins s σ H v u Q I r q => h.run pins s σ H v u Q I r (i _ _ _ _ q)⟩
/-! ### names of a walk -/
mutual
def tgIx : Tg → List Nat
  | .nm i => [i]
  | .tp ts => tgsIx ts
def tgsIx : Tgs → List Nat
  | .nil => []
  | .cons t ts => tgIx t ++ tgsIx ts
end
/-- the state but for the slots vs -/
def But (vs : List Nat) (σ σ' : L2.St) : Prop := σ'.length = σ.length ∧ ∀ j, j ∉ vs → σ'[j]? = σ[j]?
theorem But.refl {vs : List Nat} {σ : L2.St} : But vs σ σ := ⟨rfl, fun _ _ => rfl⟩
theorem But.trans {vs us : List Nat} {σ σ1 σ2 : L2.St} (h : But vs σ σ1) (k : But us σ1 σ2) : But (vs ++ us) σ σ2 := ⟨k.1.trans h.1, fun j hj => (k.2 j fun z => hj (List.mem_append_right _ z)).trans (h.2 j fun z => hj (List.mem_append_left _ z))⟩
def tPg (P : Par) (np : Nat) (tg : Tg) : TG := fun v σ H Q => ∃ ψ τ ρ O d ρ', Rep P ψ τ ρ O σ H ∧ RV P.K P.ca ψ (Wr P.U ψ τ ρ σ) H d v ∧ bindT np tg d ρ = some ρ' ∧ ∀ σ', Aft P ψ τ ρ σ H ψ τ ρ' O σ' H → But (tgIx tg) σ σ' → Q σ' H
def tPgs (P : Par) (np : Nat) (tg : Tgs) : TGs := fun vs σ H Q => ∃ ψ τ ρ O ds ρ', Rep P ψ τ ρ O σ H ∧ RVs P.K P.ca ψ (Wr P.U ψ τ ρ σ) H ds vs ∧ bindTs np tg ds ρ = some ρ' ∧ ∀ σ', Aft P ψ τ ρ σ H ψ τ ρ' O σ' H → But (tgsIx tg) σ σ' → Q σ' H
section
variable {X : Cx} {P : Par} {e : Expr} {es : List Expr} {pos : Pos} {np : Nat}
theorem tg_nm {i : Nat} {x : Str} (hp : PaOk P np) (h : PG X e (gName i)) : PG X e (tPg P np (.nm i)) := PG.imp h fun v σ H Q q => by
  obtain ⟨ψ, τ, ρ, O, d, ρ', r, rv, e, k⟩ := q
  have e' : setSl np i (.dp d) ρ = some ρ' := e
  refine k _ (set_nm (l := .dp d) (τ := τ) hp r rv e') ⟨by simp, fun j hj => ?_⟩
  refine set_ne fun z => hj ?_
  subst z
  show j ∈ [j]
  simp
theorem tgs_nil : PGs X [] (tPgs P np .nil) := PGs.imp pgs_nil fun vs σ H Q q => by
  obtain ⟨ψ, τ, ρ, O, ds, ρ', r, rv, e, k⟩ := q
  cases ds with
  | nil =>
    have e' : some ρ = some ρ' := e
    cases e'
    exact ⟨rv.nil_inv, k σ (.refl r) .refl⟩
  | cons d ds => cases e
theorem tgs_cons {t : Tg} {ts : Tgs} (h1 : PG X e (tPg P np t)) (h2 : PGs X es (tPgs P np ts)) (hs : (assignEach (e :: es) X.env).map (·.2) = assign e X.env :: (assignEach es X.env).map (·.2)) : PGs X (e :: es) (tPgs P np (.cons t ts)) :=
  PGs.imp (pgs_cons h1 h2 hs) fun vs σ H Q q => by
    obtain ⟨ψ, τ, ρ, O, ds, ρ', r, rv, e, k⟩ := q
    cases ds with
    | nil => cases e
    | cons d ds =>
      obtain ⟨v, vs', rfl, rv1, rv2⟩ := rv.cons_inv
      have e' : (match bindT np t d ρ with
        | none => none
        | some ρ' => bindTs np ts ds ρ') = some ρ' := e
      cases e1 : bindT np t d ρ with
      | none => rw [e1] at e'; cases e'
      | some ρ1 =>
        rw [e1] at e'
        refine ⟨v, vs', rfl, ψ, τ, ρ, O, d, ρ1, r, rv1, e1, fun σ1 a1 b1 => ?_⟩
        refine ⟨ψ, τ, ρ1, O, ds, ρ', a1.rep, rv2.mono a1.pre a1.pres, e', fun σ2 a2 b2 => ?_⟩
        exact k σ2 (a1.trans a2) (b1.trans b2)
mutual
def nTgs : Tgs → Nat
  | .nil => 0
  | .cons _ ts => nTgs ts + 1
end
theorem bindTs_len : ∀ {ts : Tgs} {ds : List D} {ρ ρ' : List Sl}, bindTs np ts ds ρ = some ρ' → ds.length = nTgs ts
  | .nil, [], _, _, _ => rfl
  | .nil, _ :: _, _, _, e => by cases e
  | .cons t ts, [], _, _, e => by cases e
  | .cons t ts, d :: ds, ρ, ρ', e => by
    have e' : (match bindT np t d ρ with
      | none => none
      | some ρ' => bindTs np ts ds ρ') = some ρ' := e
    split at e'
    · cases e'
    · show ds.length + 1 = nTgs ts + 1
      rw [bindTs_len e']
theorem tg_tp {ts : Tgs} {k : Nat} (hK : P.K = X.K) (hc : X.calm = true) (h : PGs X es (tPgs P np ts)) (hn : (assignEach es X.env).length = nTgs ts) (hst : (assignEach es X.env).findIdx? (·.1) = none) : PG X (.Tuple es k pos) (tPg P np (.tp ts)) :=
  PG.imp (pg_tup hc h hn hst) fun v σ H Q q => by
    obtain ⟨ψ, τ, ρ, O, d, ρ', r, rv, e, kk⟩ := q
    cases d with
    | tup xs =>
      have e' : bindTs np ts xs ρ = some ρ' := e
      cases rv with
      | tup h1 h3 h4 => exact ⟨_, _, rfl, hK ▸ h1, by rw [← h3]; exact bindTs_len e', ψ, τ, ρ, O, xs, ρ', r, ⟨h3, h4⟩, e', kk⟩
    | _ => cases e
end
end Fc
set_option Elab.async false
set_option linter.all false
set_option maxHeartbeats 2000000
set_option maxRecDepth 10000
/-! Comprehensions. -/
namespace Fc
open PySem L2
section
variable {P : Par} {ψ ψ1 ψ' : List Addr} {τ τ1 τ' : List (Addr × Ob)} {ρ ρ1 ρ' : List Sl} {O O1 O' : List Ob} {σ σ1 : L2.St} {H H1 H' : Hp} {l : L} {v : V} {d : D} {a : Addr} {o o' : Ob} {u : HO}
/-- the new object on top is written -/
theorem Rep.wtmp (r : Rep P ψ ((a, o) :: τ) ρ O σ H) (hob : ∀ W' H', (∀ b, W' b ↔ Wr P.U ψ ((a, o) :: τ) ρ σ b) → Pres P.K (Wr P.U ψ ((a, o) :: τ) ρ σ) H W' H' → H' a = some u → ObAt P.K P.ca ψ W' H' a o') :
    Aft P ψ ((a, o) :: τ) ρ σ H ψ ((a, o') :: τ) ρ O σ (upd H a u) := by
  have hw0 : ∀ b, W0 ψ ((a, o') :: τ) ρ σ b ↔ W0 ψ ((a, o) :: τ) ρ σ b := fun b => Iff.rfl
  have hw : ∀ b, Wr P.U ψ ((a, o') :: τ) ρ σ b ↔ Wr P.U ψ ((a, o) :: τ) ρ σ b := fun b => Iff.rfl
  have wa0 : W0 ψ ((a, o) :: τ) ρ σ a := .inr (.inl (List.mem_cons_self))
  have wa : Wr P.U ψ ((a, o) :: τ) ρ σ a := .inl wa0
  have nu : ∀ b, P.U b → b ≠ a := fun b h z => r.out b h (z ▸ wa0)
  have keep : ∀ b x, b ≠ a → H b = some x → upd H a u b = some x := fun b x e q => by rw [upd_ne e]; exact q
  have pr : Pres P.K (Wr P.U ψ ((a, o) :: τ) ρ σ) H (Wr P.U ψ ((a, o') :: τ) ρ σ) (upd H a u) := ⟨fun b x h n => ⟨keep b x (fun z => n (z ▸ wa)) h, fun z => n ((hw b).mp z)⟩, fun b xs s => sqt_but keep (r.wobj wa) s, fun b h => by
    by_cases e : b = a
    · subst e; rw [upd_same]; exact fun z => by cases z
    · rw [upd_ne e]; exact h⟩
  have ob : ∀ {b : Addr} {w : Ob}, b ≠ a → ObAt P.K P.ca ψ (Wr P.U ψ ((a, o) :: τ) ρ σ) H b w → ObAt P.K P.ca ψ (Wr P.U ψ ((a, o') :: τ) ρ σ) (upd H a u) b w := fun {b w} ne h => h.mono (List.prefix_refl _) pr (upd_ne ne)
  have nd := r.tnd
  rw [List.map_cons, List.nodup_cons] at nd
  refine ⟨List.prefix_refl _, pr, ⟨r.len, fun j d e => ?_, fun j w e => ?_, r.inj, fun q hq => ?_, r.tnd, r.tow, r.plen, fun n b w e1 e2 => ob (fun z => ?_) (r.oid n b w e1 e2), r.pnd, r.pow, r.ptm, r.par,
    fun b h => pr.dom b (r.ent b h), r.out, fun b h => by
      unfold Lo
      rw [upd_ne (nu b h)]
      exact r.uob b h⟩, fun b h => upd_ne (nu b h)⟩
  · obtain ⟨v, h1, h2⟩ := r.dp j d e
    exact ⟨v, h1, h2.mono (List.prefix_refl _) pr⟩
  · obtain ⟨b, h1, h2, h3⟩ := r.own j w e
    refine ⟨b, h1, ob (fun z => ?_) h2, h3⟩
    subst z
    exact r.tow j w b e h1 List.mem_cons_self
  · rcases List.mem_cons.mp hq with e | hq
    · subst e
      exact ⟨hob _ _ hw pr upd_same, (r.tmp (a, o) List.mem_cons_self).2⟩
    · refine ⟨ob (fun z => ?_) (r.tmp q (List.mem_cons_of_mem _ hq)).1, (r.tmp q (List.mem_cons_of_mem _ hq)).2⟩
      exact nd.1 (List.mem_map.mpr ⟨q, hq, z⟩)
  · subst z
    exact r.ptm b List.mem_cons_self (List.mem_of_getElem? e1)
theorem Rep.setN (r : Rep P ψ τ ρ O σ H) {i : Nat} {y : Option V} (hi : i < ρ.length) (hp : P.pa[i]? = none ∨ P.pa[i]? = some none) : Aft P ψ τ ρ σ H ψ τ (ρ.set i .no) O (σ.set i y) H :=
  r.setDp hi (fun o z => by cases z) (fun d e => by cases e) hp
theorem wipeS_length (ρ : List Sl) : ∀ vs : List Nat, (wipeS ρ vs).length = ρ.length
  | [] => rfl
  | v :: vs => by unfold wipeS; rw [List.length_set, wipeS_length ρ vs]
theorem unwipe_length (ρ0 ρ : List Sl) : ∀ vs : List Nat, (unwipe ρ0 ρ vs).length = ρ.length
  | [] => rfl
  | v :: vs => by unfold unwipe; rw [List.length_set, unwipe_length ρ0 ρ vs]
/-- no parameter that is written stands there -/
def NoPa (P : Par) (vs : List Nat) : Prop := ∀ v ∈ vs, P.pa[v]? = none ∨ P.pa[v]? = some none
theorem NoPa.of {np : Nat} (hp : PaOk P np) {vs : List Nat} (h : ∀ v ∈ vs, np ≤ v) : NoPa P vs := fun v hv => by
  cases h3 : P.pa[v]? with
  | none => exact .inl rfl
  | some y =>
    cases y with
    | none => exact .inr rfl
    | some a => have := hp.2 v a h3; have := h v hv; omega
theorem Rep.wipe (r : Rep P ψ τ ρ O σ H) : ∀ {vs : List Nat}, NoPa P vs → (∀ v ∈ vs, v < ρ.length) → Aft P ψ τ ρ σ H ψ τ (wipeS ρ vs) O (L2.wipe σ vs) H
  | [], _, _ => .refl r
  | v :: vs, hp, hl => by
    have h1 := Rep.wipe r (vs := vs) (fun u hu => hp u (List.mem_cons_of_mem _ hu)) (fun u hu => hl u (List.mem_cons_of_mem _ hu))
    refine h1.trans ?_
    show Aft P ψ τ (wipeS ρ vs) (L2.wipe σ vs) H ψ τ ((wipeS ρ vs).set v .no) O ((L2.wipe σ vs).set v none) H
    exact h1.rep.setN (by rw [wipeS_length]; exact hl v List.mem_cons_self) (hp v List.mem_cons_self)
/-- the state's slots vs as they were -/
def unwipeT (σ0 σ : L2.St) : List Nat → L2.St
  | [] => σ
  | v :: vs => (unwipeT σ0 σ vs).set v (σ0.getD v none)
theorem Rep.unwipe (r0 : Rep P ψ τ ρ O σ H) (r : Rep P ψ1 τ1 ρ1 O1 σ1 H1) (pre : ψ <+: ψ1) (pr : Pres P.K (Wr P.U ψ τ ρ σ) H (Wr P.U ψ1 τ1 ρ1 σ1) H1) (hlen : ρ1.length = ρ.length) :
    ∀ {vs : List Nat}, NoPa P vs → (∀ v ∈ vs, notOwn ρ v = true) → Aft P ψ1 τ1 ρ1 σ1 H1 ψ1 τ1 (Fc.unwipe ρ ρ1 vs) O1 (unwipeT σ σ1 vs) H1
  | [], _, _ => .refl r
  | v :: vs, hp, hn => by
    have h1 := Rep.unwipe r0 r pre pr hlen (vs := vs) (fun u hu => hp u (List.mem_cons_of_mem _ hu)) (fun u hu => hn u (List.mem_cons_of_mem _ hu))
    refine h1.trans ?_
    show Aft P ψ1 τ1 (Fc.unwipe ρ ρ1 vs) (unwipeT σ σ1 vs) H1 ψ1 τ1 ((Fc.unwipe ρ ρ1 vs).set v (ρ.getD v .no)) O1 ((unwipeT σ σ1 vs).set v (σ.getD v none)) H1
    have hv := hn v List.mem_cons_self
    have hpv := hp v List.mem_cons_self
    unfold notOwn at hv
    have hl : v < ρ.length := by
      cases hh : ρ[v]? with
      | none => rw [hh] at hv; cases hv
      | some _ => exact (List.getElem?_eq_some_iff.mp hh).1
    have hl2 : v < (Fc.unwipe ρ ρ1 vs).length := by rw [unwipe_length, hlen]; exact hl
    cases hh : ρ[v]? with
    | none => rw [hh] at hv; cases hv
    | some x =>
      have hg : ρ.getD v .no = x := by rw [List.getD_eq_getElem?_getD, hh]; rfl
      rw [hg]
      cases x with
      | no => exact h1.rep.setN hl2 hpv
      | dp d =>
        obtain ⟨w, q1, q2⟩ := r0.dp v d hh
        have hg2 : σ.getD v none = some w := by rw [List.getD_eq_getElem?_getD, q1]; rfl
        rw [hg2]
        exact h1.rep.setD hl2 ((q2.mono pre pr).mono h1.pre h1.pres) hpv
      | own o => rw [hh] at hv; cases hv
theorem wipe_un (ρ0 ρ : List Sl) : ∀ vs : List Nat, wipeS (Fc.unwipe ρ0 ρ vs) vs = wipeS ρ vs := fun vs => by
  apply List.ext_getElem?
  have h1 : ∀ (vs : List Nat) (ρ : List Sl) (j : Nat), (wipeS ρ vs)[j]? = if j ∈ vs ∧ j < ρ.length then some .no else ρ[j]? := fun vs => by
    induction vs with
    | nil => intro ρ j; simp [wipeS]
    | cons v vs ih =>
      intro ρ j
      unfold wipeS
      rw [List.getElem?_set, ih, wipeS_length]
      by_cases e : v = j
      · subst e
        by_cases l : v < ρ.length
        · simp [l]
        · simp [l]
      · simp [e, Ne.symm e]
  have h2 : ∀ (vs : List Nat) (j : Nat), j ∉ vs → (Fc.unwipe ρ0 ρ vs)[j]? = ρ[j]? := fun vs => by
    induction vs with
    | nil => intro j _; rfl
    | cons v vs ih =>
      intro j hj
      unfold Fc.unwipe
      rw [set_ne (fun e => hj (by rw [e]; exact List.mem_cons_self)), ih j fun z => hj (List.mem_cons_of_mem _ z)]
  intro j
  rw [h1, h1, unwipe_length]
  by_cases hj : j ∈ vs
  · by_cases l : j < ρ.length
    · simp [hj, l]
    · simp only [hj, l, and_false, if_false]
      rw [List.getElem?_eq_none (by rw [unwipe_length]; omega), List.getElem?_eq_none (by omega)]
  · simp only [hj, false_and, if_false]
    exact h2 vs j hj
theorem unwipeT_id {σ σ1 : L2.St} {vs : List Nat} (hl : σ1.length = σ.length) (h : ∀ j, j ∉ vs → σ1[j]? = σ[j]?) : unwipeT σ σ1 vs = σ := by
  have h0 : ∀ (vs : List Nat), (unwipeT σ σ1 vs).length = σ1.length := fun vs => by
    induction vs with
    | nil => rfl
    | cons v vs ih => unfold unwipeT; rw [List.length_set, ih]
  have h2 : ∀ (vs : List Nat) (j : Nat), (unwipeT σ σ1 vs)[j]? = if j ∈ vs then σ[j]? else σ1[j]? := fun vs => by
    induction vs with
    | nil => intro j; simp [unwipeT]
    | cons v vs ih =>
      intro j
      unfold unwipeT
      rw [List.getElem?_set, ih, h0]
      by_cases e : v = j
      · subst e
        by_cases l : v < σ1.length
        · have l' : v < σ.length := by omega
          simp [l, List.getD_eq_getElem?_getD, l']
        · have : σ[v]? = none := List.getElem?_eq_none (by omega)
          simp [l, this]
      · simp [e, Ne.symm e]
  apply List.ext_getElem?
  intro j
  rw [h2]
  by_cases hj : j ∈ vs
  · rw [if_pos hj]
  · rw [if_neg hj]; exact h j hj
theorem wipe_get (σ : L2.St) : ∀ (vs : List Nat) (j : Nat), (L2.wipe σ vs)[j]? = if j ∈ vs ∧ j < σ.length then some none else σ[j]? := fun vs => by
  induction vs with
  | nil => intro j; simp [L2.wipe]
  | cons v vs ih =>
    intro j
    unfold L2.wipe
    rw [List.getElem?_set, ih, wipe_length]
    by_cases e : v = j
    · subst e
      by_cases l : v < σ.length
      · simp [l]
      · simp [l]
    · simp [e, Ne.symm e]
end
theorem unwipe_self {ρ : List Sl} : ∀ {vs : List Nat}, (∀ v ∈ vs, notOwn ρ v = true) → Fc.unwipe ρ ρ vs = ρ
  | [], _ => rfl
  | v :: vs, h => by
    unfold Fc.unwipe
    rw [unwipe_self fun u hu => h u (List.mem_cons_of_mem _ hu)]
    have hv := h v List.mem_cons_self
    unfold notOwn at hv
    cases hh : ρ[v]? with
    | none => rw [hh] at hv; cases hv
    | some x =>
      have hg : ρ.getD v .no = x := by rw [List.getD_eq_getElem?_getD, hh]; rfl
      rw [hg]
      apply List.ext_getElem?
      intro j
      rw [List.getElem?_set]
      split
      · rename_i e
        subst e
        rw [hh, if_pos (List.getElem?_eq_some_iff.mp hh).1]
      · rfl
theorem lc_tLc {P : Par} {Γ : Cx0} {vs : List Nat} {tg : Tg} {it : It} {c t : Tm} {σ : L2.St} {H : Hp} {Q : VK} (hpa : PaOk P Γ.np) (htg : ∀ j ∈ tgIx tg, j ∈ vs) (q : tEv Γ P (.lc vs tg it c t) σ H Q) :
    tLc (tIt Γ P it) (tPg P Γ.np tg) (tTst Γ P (tsv Γ c)) (tEv Γ P t) vs σ H Q := by
  obtain ⟨ψ, τ, ρ, O, l, ρ', O', r, e, k⟩ := q
  have e' : (match evI Γ it (ρ, O) with
    | none => none
    | some (xs, s1) => if vs.all (fun v => Γ.np ≤ v && notOwn s1.1 v) then (match lcGo Γ.np vs tg (tsv Γ c) (fun s => match ev Γ t s with
        | none => none
        | some (l, s') => some (l.deep, s')) xs [] s1 with
      | none => none
      | some (ys, s2) => some (L.fr (.lst ys), (Fc.unwipe s1.1 s2.1 vs, s2.2))) else none) = some (l, (ρ', O')) := e
  cases e1 : evI Γ it (ρ, O) with
  | none => rw [e1] at e'; cases e'
  | some z1 =>
    obtain ⟨xs, ρ1, O1⟩ := z1
    rw [e1] at e'
    dsimp only at e'
    split at e'
    · rename_i hall
      have hnp : ∀ v ∈ vs, Γ.np ≤ v := fun v hv => by
        have := List.all_eq_true.mp hall v hv
        rw [Bool.and_eq_true, decide_eq_true_eq] at this
        exact this.1
      have hno : ∀ v ∈ vs, notOwn ρ1 v = true := fun v hv => by
        have := List.all_eq_true.mp hall v hv
        rw [Bool.and_eq_true] at this
        exact this.2
      have hNo : NoPa P vs := .of hpa hnp
      have hlt : ∀ v ∈ vs, v < ρ1.length := fun v hv => by
        have h := hno v hv
        unfold notOwn at h
        cases hh : ρ1[v]? with
        | none => rw [hh] at h; cases h
        | some _ => exact (List.getElem?_eq_some_iff.mp hh).1
      split at e'
      · cases e'
      · rename_i ys s2 e2
        obtain ⟨ρ2, O2⟩ := s2
        cases e'
        refine ⟨ψ, τ, ρ, O, xs, ρ1, O1, r, e1, fun ψ1 H1 J a1 itok => ?_⟩
        intro D hD
        let W : Nat → Nat → Hp → Prop := fun i m Hh => m = xs.length - i ∧ i ≤ xs.length ∧ ∃ ψi ρi Oi acc, Aft P ψ1 τ ρ1 σ H1 ψi ((D, .lst acc) :: τ) (Fc.unwipe ρ1 ρi vs) Oi σ Hh ∧ ρi.length = ρ1.length ∧
          lcGo Γ.np vs tg (tsv Γ c) (fun s => match ev Γ t s with
            | none => none
            | some (l, s') => some (l.deep, s')) (xs.drop i) acc (ρi, Oi) = some (ys, (ρ2, O2))
        refine ⟨W, ⟨xs.length, by simp, Nat.zero_le _, ψ1, ρ1, O1, [], ?_, rfl, e2⟩, ?_⟩
        · rw [unwipe_self hno]
          exact a1.rep.push (o := .lst []) (Ext.upd hD) hD fun _ => ⟨[], upd_same, .nil⟩
        rintro i m Hh ⟨rfl, hi, ψi, ρi, Oi, acc, aft, hlen, go⟩
        by_cases hlt2 : i < xs.length
        · have hdr : xs.drop i = xs[i] :: xs.drop (i + 1) := List.drop_eq_getElem_cons hlt2
          rw [hdr] at go
          have go' : (match bindT Γ.np tg xs[i] (wipeS ρi vs) with
            | none => none
            | some ρ => match tsv Γ c (ρ, Oi) with
              | none => none
              | some (false, s1) => lcGo Γ.np vs tg (tsv Γ c) (fun s => match ev Γ t s with
                | none => none
                | some (l, s') => some (l.deep, s')) (xs.drop (i + 1)) acc s1
              | some (true, s1) => match (match ev Γ t s1 with
                | none => none
                | some (l, s') => some (l.deep, s')) with
                | none => none
                | some (y, s2) => if acc.length < sizeLine then lcGo Γ.np vs tg (tsv Γ c) (fun s => match ev Γ t s with
                  | none => none
                  | some (l, s') => some (l.deep, s')) (xs.drop (i + 1)) (acc ++ [y]) s2 else none) = some (ys, (ρ2, O2)) := go
          obtain ⟨gg, gy⟩ := (itok ψi _ Hh aft.pre aft.pres).2 i xs[i] (by simp [hlt2])
          refine .inr ⟨gg, fun H' => W (i + 1) (xs.length - (i + 1)) H', fun H' w => ⟨_, by omega, w⟩, fun x H' yl => ?_⟩
          obtain ⟨ext, rv⟩ := gy x H' yl
          have a2 := aft.rep.ext ext
          have a3 := a2.rep.wipe hNo (fun v hv => by rw [unwipe_length, hlen]; exact hlt v hv)
          rw [wipe_un] at a3
          cases e3 : bindT Γ.np tg xs[i] (wipeS ρi vs) with
          | none => rw [e3] at go'; cases go'
          | some ρb =>
            rw [e3] at go'
            dsimp only at go'
            refine ⟨ψi, (D, .lst acc) :: τ, wipeS ρi vs, Oi, xs[i], ρb, a3.rep, rv.mono a3.pre a3.pres, e3, fun σ2 a4 b4 => ?_⟩
            have hl2 : σ2.length = σ.length := by rw [b4.1, wipe_length]
            have hoff : ∀ j, j ∉ vs → σ2[j]? = σ[j]? := fun j hj => by
              rw [b4.2 j fun z => hj (htg j z), wipe_get]
              rw [if_neg fun z => hj z.1]
            refine ⟨?_, ?_⟩
            · apply List.ext_getElem?
              intro j
              rw [wipe_get, wipe_get, hl2]
              by_cases hj : j ∈ vs
              · by_cases l : j < σ.length
                · simp [hj, l]
                · rw [if_neg fun z => l z.2, if_neg fun z => l z.2, List.getElem?_eq_none (by omega), List.getElem?_eq_none (by omega)]
              · rw [if_neg fun z => hj z.1, if_neg fun z => hj z.1]
                exact hoff j hj
            cases e4 : tsv Γ c (ρb, Oi) with
            | none => rw [e4] at go'; cases go'
            | some z4 =>
              obtain ⟨b, ρ3, O3⟩ := z4
              rw [e4] at go'
              refine ⟨ψi, (D, .lst acc) :: τ, ρb, Oi, b, ρ3, O3, a4.rep, e4, fun ψ5 H5 a5 => ?_⟩
              have un : ∀ {ψ7 H7 ρ7 O7 acc7}, Aft P ψ5 ((D, .lst acc) :: τ) ρ3 σ2 H5 ψ7 ((D, .lst acc7) :: τ) ρ7 O7 σ2 H7 → ρ7.length = ρ1.length ∧ Aft P ψ1 τ ρ1 σ H1 ψ7 ((D, .lst acc7) :: τ) (Fc.unwipe ρ1 ρ7 vs) O7 σ H7 := fun {ψ7 H7 ρ7 O7 acc7} a7 => by
                have all := ((((aft.trans a2).trans a3).trans a4).trans a5).trans a7
                have hl7 : ρ7.length = ρ1.length := by rw [a7.rep.len, hl2, a1.rep.len]
                have a8 := Rep.unwipe a1.rep a7.rep all.pre all.pres hl7 hNo hno
                rw [unwipeT_id hl2 hoff] at a8
                exact ⟨hl7, all.trans a8⟩
              cases b with
              | false =>
                obtain ⟨h1, h2⟩ := un (.refl a5.rep)
                show if false = true then _ else W (i + 1) (xs.length - (i + 1)) H5
                rw [if_neg (by simp)]
                exact ⟨rfl, hlt2, ψ5, ρ3, O3, acc, h2, h1, go'⟩
              | true =>
                dsimp only at go'
                show if true = true then (tEv Γ P t σ2 H5 fun y H4 => ∃ acc, H4 D = some (HO.lst acc) ∧ acc.length < sizeLine ∧ W (i + 1) (xs.length - (i + 1)) (upd H4 D (HO.lst (acc ++ [y])))) else _
                rw [if_pos rfl]
                cases e5 : ev Γ t (ρ3, O3) with
                | none => rw [e5] at go'; cases go'
                | some z5 =>
                  obtain ⟨l5, ρ4, O4⟩ := z5
                  rw [e5] at go'
                  dsimp only at go'
                  split at go'
                  · rename_i hz
                    refine ⟨ψ5, (D, .lst acc) :: τ, ρ3, O3, l5, ρ4, O4, a5.rep, e5, fun ψ6 H6 y res => ?_⟩
                    obtain ⟨a6, rv6⟩ := res.deep
                    obtain ⟨us, hD6, rvs⟩ := (a6.rep.tmp (D, .lst acc) List.mem_cons_self).1
                    refine ⟨us, hD6, by rw [← rvs.1]; exact hz, ?_⟩
                    have a7 := a6.rep.wtmp (o' := .lst (acc ++ [l5.deep])) (u := .lst (us ++ [y])) fun W' H' hW pr hH => ⟨us ++ [y], hH, (rvs.mono (List.prefix_refl _) pr).append (.cons (rv6.mono (List.prefix_refl _) pr) .nil)⟩
                    obtain ⟨h1, h2⟩ := un (a6.trans a7)
                    exact ⟨rfl, hlt2, ψ6, ρ4, O4, acc ++ [l5.deep], h2, h1, go'⟩
                  · cases go'
        · have hie : i = xs.length := by omega
          subst hie
          rw [List.drop_length] at go
          have go' : some (acc, (ρi, Oi)) = some (ys, (ρ2, O2)) := go
          cases go'
          exact .inl ⟨(itok ψi _ Hh aft.pre aft.pres).1 _ rfl, k ψi Hh _ ⟨D, rfl, a1.trans aft⟩⟩
    · cases e'
theorem lc_ok {X : Cx} {P : Par} {Γ : Cx0} {elt tg iter : Expr} {ifs : List Expr} {scope : Scope} {own : List (Str × Nat)} {pos : Pos} {tg' : Tg} {it : It} {c t : Tm} (hc : X.calm = true) (hN : X.N.Nodup) (hpa : PaOk P Γ.np) (htg : ∀ j ∈ tgIx tg', j ∈ own.map (·.2)) (hi : PI X tg iter (tIt Γ P it)) (ok : BlkOk X.N X.env.scope scope own)
    (hg : ∀ (s : Shared) (H : Hp) (C : Addr) (cl : List (Str × Addr)) (fp : List Addr), PG (X.blk s H scope (compEnvC scope cl C X.env) fp) tg (tPg P Γ.np tg')) (ht : ∀ (s : Shared) (H : Hp) (C : Addr) (cl : List (Str × Addr)) (fp : List Addr), PTs (X.blk s H scope (compEnvC scope cl C X.env) fp) ifs (tTst Γ P (tsv Γ c)))
    (he : ∀ (s : Shared) (H : Hp) (C : Addr) (cl : List (Str × Addr)) (fp : List Addr), PE (X.blk s H scope (compEnvC scope cl C X.env) fp) elt (tEv Γ P t)) (hs : ∀ x, foldedSetIterable iter X.env x = pure x) :
    PE X (.ListComp elt [⟨tg, iter, ifs, 0⟩] scope pos) (tEv Γ P (.lc (own.map (·.2)) tg' it c t)) :=
  PE.imp (pe_lc hc hN hi ok hg ht he hs) fun σ H Q q => lc_tLc hpa htg q
theorem PTs.imp {X : Cx} {ifs : List Expr} {t t' : TT} (h : PTs X ifs t) (i : ∀ σ H Q, t' σ H Q → t σ H Q) : PTs X ifs t' := ⟨fun pins s σ H Q I q => h.run pins s σ H Q I (i _ _ _ q)⟩
/-- no condition -/
theorem lc_yes {X : Cx} {P : Par} {Γ : Cx0} : PTs X [] (tTst Γ P (tsv Γ (.cst (.bl true)))) := PTs.imp pts_nil fun σ H Q q => by
  obtain ⟨ψ, τ, ρ, O, k, ρ', O', r, e, kk⟩ := q
  have e' : some (true, (ρ, O)) = some (k, (ρ', O')) := e
  cases e'
  exact kk ψ H (.refl r)
end Fc
set_option Elab.async false
set_option linter.all false
set_option maxHeartbeats 2000000
set_option maxRecDepth 10000
/-! Statements. -/
namespace Fc
open PySem L2
/-- an own object leaves its slot -/
theorem Rep.lift {P : Par} {ψ : List Addr} {τ : List (Addr × Ob)} {ρ : List Sl} {O : List Ob} {σ : L2.St} {H : Hp} {i : Nat} {o : Ob} {a : Addr} (r : Rep P ψ τ ρ O σ H) (hi : ρ[i]? = some (.own o)) (ha : σ[i]? = some (some (.ref a))) (h0 : P.H0 a = none) (hp : P.pa[i]? = none ∨ P.pa[i]? = some none) :
    Aft P ψ τ ρ σ H ψ ((a, o) :: τ) (ρ.set i .no) O (σ.set i none) H := by
  have hl : i < ρ.length := (List.getElem?_eq_some_iff.mp hi).1
  have hlσ : i < σ.length := by rw [← r.len]; exact hl
  have hw0 : ∀ b, W0 ψ ((a, o) :: τ) (ρ.set i .no) (σ.set i none) b ↔ W0 ψ τ ρ σ b := fun b => by
    constructor
    · rintro (h | h | ⟨j, w, h1, h2⟩)
      · exact .inl h
      · rw [List.map_cons, List.mem_cons] at h
        rcases h with h | h
        · exact .inr (.inr ⟨i, o, hi, by rw [h]; exact ha⟩)
        · exact .inr (.inl h)
      · rcases get_set h1 with ⟨_, q, _⟩ | ⟨ne, q⟩
        · cases q
        · rw [set_ne ne] at h2
          exact .inr (.inr ⟨j, w, q, h2⟩)
    · rintro (h | h | ⟨j, w, h1, h2⟩)
      · exact .inl h
      · exact .inr (.inl (by rw [List.map_cons]; exact List.mem_cons_of_mem _ h))
      · by_cases e : j = i
        · subst e
          rw [ha] at h2
          cases h2
          exact .inr (.inl (by rw [List.map_cons]; exact List.mem_cons_self))
        · exact .inr (.inr ⟨j, w, by rw [set_ne e]; exact h1, by rw [set_ne e]; exact h2⟩)
  have hw : ∀ b, Wr P.U ψ ((a, o) :: τ) (ρ.set i .no) (σ.set i none) b ↔ Wr P.U ψ τ ρ σ b := fun b => or_congr (hw0 b) Iff.rfl
  have pr : Pres P.K (Wr P.U ψ τ ρ σ) H (Wr P.U ψ ((a, o) :: τ) (ρ.set i .no) (σ.set i none)) H := .less fun b hb => (hw b).mp hb
  have own : ∀ {j : Nat} {w : Ob}, (ρ.set i .no)[j]? = some (.own w) → j ≠ i ∧ ρ[j]? = some (.own w) := fun {j w} h => by
    rcases get_set h with ⟨_, q, _⟩ | ⟨ne, q⟩
    · cases q
    · exact ⟨ne, q⟩
  have oba : ObAt P.K P.ca ψ (Wr P.U ψ τ ρ σ) H a o := by
    obtain ⟨b, h1, h2, _⟩ := r.own i o hi
    rw [ha] at h1
    cases h1
    exact h2
  refine ⟨List.prefix_refl _, pr, ⟨by rw [List.length_set, List.length_set]; exact r.len, fun j d e => ?_, fun j w e => ?_, fun j k x y b h1 h2 h3 h4 => ?_, fun q hq => ?_, ?_, fun j w b h1 h2 hb => ?_, r.plen, fun n b w e1 e2 => (r.oid n b w e1 e2).mono (List.prefix_refl _) pr rfl, r.pnd, fun j w b h1 h2 => ?_, fun b hb => ?_, fun j b h => ?_,
    r.ent, fun b h z => r.out b h ((hw0 b).mp z), r.uob⟩, fun _ _ => rfl⟩
  · rcases get_set e with ⟨_, q, _⟩ | ⟨ne, q⟩
    · cases q
    · obtain ⟨v, h1, h2⟩ := r.dp j d q
      exact ⟨v, by rw [set_ne ne]; exact h1, h2.mono (List.prefix_refl _) pr⟩
  · obtain ⟨ne, q⟩ := own e
    obtain ⟨b, h1, h2, h3⟩ := r.own j w q
    exact ⟨b, by rw [set_ne ne]; exact h1, h2.mono (List.prefix_refl _) pr rfl, h3⟩
  · obtain ⟨n1, q1⟩ := own h1
    obtain ⟨n2, q2⟩ := own h2
    rw [set_ne n1] at h3
    rw [set_ne n2] at h4
    exact r.inj j k x y b q1 q2 h3 h4
  · rcases List.mem_cons.mp hq with e | hq
    · subst e
      exact ⟨oba.mono (List.prefix_refl _) pr rfl, h0⟩
    · exact ⟨(r.tmp q hq).1.mono (List.prefix_refl _) pr rfl, (r.tmp q hq).2⟩
  · rw [List.map_cons, List.nodup_cons]
    exact ⟨r.tow i o a hi ha, r.tnd⟩
  · obtain ⟨n1, q1⟩ := own h1
    rw [set_ne n1] at h2
    rw [List.map_cons, List.mem_cons] at hb
    rcases hb with hb | hb
    · subst hb
      exact n1 (r.inj j i w o b q1 hi h2 ha)
    · exact r.tow j w b q1 h2 hb
  · obtain ⟨n1, q1⟩ := own h1
    rw [set_ne n1] at h2
    exact r.pow j w b q1 h2
  · rw [List.map_cons, List.mem_cons] at hb
    rcases hb with hb | hb
    · rw [hb]; exact r.pow i o a hi ha
    · exact r.ptm b hb
  · have ne : j ≠ i := fun e => by
      subst e
      rcases hp with hp | hp <;> rw [hp] at h <;> cases h
    obtain ⟨⟨w, h1⟩, h2⟩ := r.par j b h
    exact ⟨⟨w, by rw [set_ne ne]; exact h1⟩, by rw [set_ne ne]; exact h2⟩
theorem PaOk.at {P : Par} {np i : Nat} (hp : PaOk P np) (h : ¬ i < np) : P.pa[i]? = none ∨ P.pa[i]? = some none := by
  cases h3 : P.pa[i]? with
  | none => exact .inl rfl
  | some y =>
    cases y with
    | none => exact .inr rfl
    | some a => exact absurd (hp.2 i a h3) h
/-- the end fl of a body reaches what is wanted -/
def FlOk (D : Ends) (P : Par) (ψ : List Addr) (ρ : List Sl) (σ : L2.St) (H : Hp) (fl : Fl) (ρ' : List Sl) (O' : List Ob) : Prop := match fl with
  | .next => ∀ ψ' H' σ', Aft P ψ [] ρ σ H ψ' [] ρ' O' σ' H' → D.nx σ' H'
  | .brk => ∀ ψ' H' σ', Aft P ψ [] ρ σ H ψ' [] ρ' O' σ' H' → D.bk σ' H'
  | .cont => ∀ ψ' H' σ', Aft P ψ [] ρ σ H ψ' [] ρ' O' σ' H' → D.ct σ' H'
  | .ret l => ∀ ψ' H' σ' v, ResE P ψ ρ σ H l ρ' O' ψ' H' v σ' → D.rt v H'
def tSt (P : Par) (r : M Fl) : TS := fun D σ H => ∃ ψ ρ O fl ρ' O', Rep P ψ [] ρ O σ H ∧ r (ρ, O) = some (fl, (ρ', O')) ∧ FlOk D P ψ ρ σ H fl ρ' O'
section
variable {P : Par} {ψ ψ1 ψ' : List Addr} {ρ ρ1 ρ' : List Sl} {O O1 O' : List Ob} {σ σ1 σ' : L2.St} {H H1 H' : Hp} {l : L} {v : V} {d : D} {D : Ends} {fl : Fl}
theorem ResE.after (x : Aft P ψ [] ρ σ H ψ1 [] ρ1 O1 σ1 H1) (h : ResE P ψ1 ρ1 σ1 H1 l ρ' O' ψ' H' v σ') : ResE P ψ ρ σ H l ρ' O' ψ' H' v σ' := by
  cases l with
  | dp d => exact ⟨x.trans h.1, h.2⟩
  | fr o => obtain ⟨a, e, h⟩ := h; exact ⟨a, e, x.trans h⟩
theorem FlOk.after (x : Aft P ψ [] ρ σ H ψ1 [] ρ1 O1 σ1 H1) (h : FlOk D P ψ ρ σ H fl ρ' O') : FlOk D P ψ1 ρ1 σ1 H1 fl ρ' O' := by
  cases fl with
  | next => exact fun ψ' H' σ' a => h ψ' H' σ' (x.trans a)
  | brk => exact fun ψ' H' σ' a => h ψ' H' σ' (x.trans a)
  | cont => exact fun ψ' H' σ' a => h ψ' H' σ' (x.trans a)
  | ret l => exact fun ψ' H' σ' v a => h ψ' H' σ' v (a.after x)
theorem Res.toE (h : Res P ψ [] ρ σ H l ρ' O' ψ' H' v) : ResE P ψ ρ σ H l ρ' O' ψ' H' v σ := by
  cases l with
  | dp d => exact h
  | fr o => exact h
end
section
variable {X : Cx} {P : Par} {Γ : Cx0} {F : Nat} {st : Stmt} {sts rest body a b : List Stmt} {e c tg iter o value : Expr} {t tc : Tm} {s : Sm} {r ss sa sb : Sms} {pos p2 p3 apos cpos : Pos}
theorem ss_nil : PSs X [] (tSt P (exs Γ F .nil)) := PSs.imp pss_nil fun σ H D q => by
  obtain ⟨ψ, ρ, O, fl, ρ', O', r, e, k⟩ := q
  have e' : some (Fl.next, (ρ, O)) = some (fl, (ρ', O')) := e
  cases e'
  exact k ψ H σ (.refl r)
theorem ss_cons (h1 : PS X st (tSt P (ex Γ F s))) (h2 : PSs X rest (tSt P (exs Γ F r))) : PSs X (st :: rest) (tSt P (exs Γ F (.cons s r))) := PSs.imp (pss_cons h1 h2) fun σ H D q => by
  obtain ⟨ψ, ρ, O, fl, ρ', O', rr, e, k⟩ := q
  have e' : (match ex Γ F s (ρ, O) with
    | none => none
    | some (.next, s1) => exs Γ F r s1
    | some (fl, s1) => some (fl, s1)) = some (fl, (ρ', O')) := e
  cases e1 : ex Γ F s (ρ, O) with
  | none => rw [e1] at e'; cases e'
  | some z =>
    obtain ⟨f1, ρ1, O1⟩ := z
    rw [e1] at e'
    refine ⟨ψ, ρ, O, f1, ρ1, O1, rr, e1, ?_⟩
    cases f1 with
    | next => exact fun ψ1 H1 σ1 a1 => ⟨ψ1, ρ1, O1, fl, ρ', O', a1.rep, e', k.after a1⟩
    | brk => cases e'; exact k
    | cont => cases e'; exact k
    | ret l => cases e'; exact k
theorem st_pass : PS X (.Pass pos) (tSt P (ex Γ F .pass)) := PS.imp ps_pass fun σ H D q => by
  obtain ⟨ψ, ρ, O, fl, ρ', O', r, e, k⟩ := q
  have e' : some (Fl.next, (ρ, O)) = some (fl, (ρ', O')) := e
  cases e'
  exact k ψ H σ (.refl r)
theorem st_brk : PS X (.Break pos) (tSt P (ex Γ F .brk)) := PS.imp ps_break fun σ H D q => by
  obtain ⟨ψ, ρ, O, fl, ρ', O', r, e, k⟩ := q
  have e' : some (Fl.brk, (ρ, O)) = some (fl, (ρ', O')) := e
  cases e'
  exact k ψ H σ (.refl r)
theorem st_cont : PS X (.Continue pos) (tSt P (ex Γ F .cont)) := PS.imp ps_continue fun σ H D q => by
  obtain ⟨ψ, ρ, O, fl, ρ', O', r, e, k⟩ := q
  have e' : some (Fl.cont, (ρ, O)) = some (fl, (ρ', O')) := e
  cases e'
  exact k ψ H σ (.refl r)
theorem st_retN : PS X (.Return none pos) (tSt P (ex Γ F .retN)) := PS.imp ps_retN fun σ H D q => by
  obtain ⟨ψ, ρ, O, fl, ρ', O', r, e, k⟩ := q
  have e' : some (Fl.ret (.dp .non), (ρ, O)) = some (fl, (ρ', O')) := e
  cases e'
  exact k ψ H σ .non ⟨.refl r, .non⟩
theorem st_expr (he : PE X e (tEv Γ P t)) (hs : swapsWith e none pos.line X.env = pure false) : PS X (.Expr e pos) (tSt P (ex Γ F (.expr t))) := PS.imp (ps_expr he hs) fun σ H D q => by
  obtain ⟨ψ, ρ, O, fl, ρ', O', r, e, k⟩ := q
  have e' : (match ev Γ t (ρ, O) with
    | none => none
    | some (_, s1) => some (Fl.next, s1)) = some (fl, (ρ', O')) := e
  cases e1 : ev Γ t (ρ, O) with
  | none => rw [e1] at e'; cases e'
  | some z =>
    obtain ⟨l1, ρ1, O1⟩ := z
    rw [e1] at e'
    cases e'
    exact ⟨ψ, [], ρ, O, l1, _, _, r, e1, fun ψ1 H1 v res => k ψ1 H1 σ res.deep.1⟩
theorem st_if (hc : PT X c (tTst Γ P (tsv Γ tc))) (ha : PSs X a (tSt P (exs Γ F sa))) (hb : PSs X b (tSt P (exs Γ F sb))) : PS X (.If c a b pos) (tSt P (ex Γ F (.ife tc sa sb))) := PS.imp (ps_if hc ha hb) fun σ H D q => by
  obtain ⟨ψ, ρ, O, fl, ρ', O', r, e, k⟩ := q
  have e' : (match tsv Γ tc (ρ, O) with
    | none => none
    | some (true, s1) => exs Γ F sa s1
    | some (false, s1) => exs Γ F sb s1) = some (fl, (ρ', O')) := e
  cases e1 : tsv Γ tc (ρ, O) with
  | none => rw [e1] at e'; cases e'
  | some z =>
    obtain ⟨k1, ρ1, O1⟩ := z
    rw [e1] at e'
    refine ⟨ψ, [], ρ, O, k1, ρ1, O1, r, e1, fun ψ1 H1 a1 => ?_⟩
    cases k1 with
    | true => exact ⟨ψ1, ρ1, O1, fl, ρ', O', a1.rep, e', k.after a1⟩
    | false => exact ⟨ψ1, ρ1, O1, fl, ρ', O', a1.rep, e', k.after a1⟩
/-- return of a name: an own object goes out with it -/
theorem st_ret (he : PE X e (tEv Γ P t)) (hv : ∀ i, t = .var i → PE X e (tVar i)) (hpa : PaOk P Γ.np) : PS X (.Return (some e) pos) (tSt P (ex Γ F (.ret t))) := by
  by_cases cv : ∃ i, t = .var i
  · obtain ⟨i, rfl⟩ := cv
    refine PS.imp (ps_ret (hv i rfl)) fun σ H D q => ?_
    obtain ⟨ψ, ρ, O, fl, ρ', O', r, e, k⟩ := q
    have e' : (match (match ρ[i]? with
        | some (.own o) => if i < Γ.np then none else some (L.fr o, (ρ.set i .no, O))
        | some (.dp d) => some (L.dp d, (ρ, O))
        | _ => none) with
      | none => none
      | some (l, s1) => some (Fl.ret l, s1)) = some (fl, (ρ', O')) := e
    cases hh : ρ[i]? with
    | none => rw [hh] at e'; cases e'
    | some x =>
      rw [hh] at e'
      cases x with
      | no => cases e'
      | dp d =>
        cases e'
        obtain ⟨v, h1, h2⟩ := r.dp i d hh
        exact ⟨v, h1, k ψ H σ v ⟨.refl r, h2⟩⟩
      | own o =>
        dsimp only at e'
        split at e'
        · cases e'
        · rename_i l s1 hl
          split at hl
          · cases hl
          · rename_i hnp
            cases hl
            cases e'
            obtain ⟨a, h1, h2, h3⟩ := r.own i o hh
            exact ⟨_, h1, k ψ H (σ.set i none) _ ⟨a, rfl, r.lift hh h1 (h3 (by rw [hpa.1]; omega)) (hpa.at hnp)⟩⟩
  · refine PS.imp (ps_ret he) fun σ H D q => ?_
    obtain ⟨ψ, ρ, O, fl, ρ', O', r, e, k⟩ := q
    have e2 : (match ev Γ t (ρ, O) with
      | none => none
      | some (l, s1) => some (Fl.ret l, s1)) = some (fl, (ρ', O')) := by
      cases t <;> first | exact e | exact absurd ⟨_, rfl⟩ cv
    cases e1 : ev Γ t (ρ, O) with
    | none => rw [e1] at e2; cases e2
    | some z =>
      obtain ⟨l1, ρ1, O1⟩ := z
      rw [e1] at e2
      cases e2
      exact ⟨ψ, [], ρ, O, l1, _, _, r, e1, fun ψ1 H1 v res => k ψ1 H1 σ v res.toE⟩
/-! ### stores -/
theorem st_nm {i : Nat} {x : Str} (hpa : PaOk P Γ.np) (h : PS X st (tAsg (tEv Γ P t) (gName i))) : PS X st (tSt P (ex Γ F (.asg (.nm i) t))) := PS.imp h fun σ H D q => by
  obtain ⟨ψ, ρ, O, fl, ρ', O', r, e, k⟩ := q
  have e' : (match ev Γ t (ρ, O) with
    | none => none
    | some (l, s1) => match (match setSl Γ.np i (slL l) s1.1 with
      | none => none
      | some ρ => some ((), (ρ, s1.2))) with
      | none => none
      | some (_, s2) => some (Fl.next, s2)) = some (fl, (ρ', O')) := e
  cases e1 : ev Γ t (ρ, O) with
  | none => rw [e1] at e'; cases e'
  | some z =>
    obtain ⟨l1, ρ1, O1⟩ := z
    rw [e1] at e'
    dsimp only at e'
    cases e2 : setSl Γ.np i (slL l1) ρ1 with
    | none => rw [e2] at e'; cases e'
    | some ρ2 =>
      rw [e2] at e'
      cases e'
      refine ⟨ψ, [], ρ, O, l1, ρ1, _, r, e1, fun ψ1 H1 v res => ?_⟩
      obtain ⟨a1, h1⟩ := res.lr
      exact k ψ1 H1 _ (a1.trans (set_nm hpa a1.rep h1 e2))
/-- a value is stored by a target -/
def tGt (Γ : Cx0) (P : Par) (t : Tgt) : TG := fun v σ H Q => ∃ ψ τ ρ O l ρ' O', Rep P ψ (tl1 l v τ) ρ O σ H ∧ LR P ψ (tl1 l v τ) ρ σ H l v ∧ asgL Γ t l (ρ, O) = some ((), (ρ', O')) ∧ ∀ ψ' H' σ', Aft P ψ (tl1 l v τ) ρ σ H ψ' τ ρ' O' σ' H' → Q σ' H'
theorem gt_nm {i : Nat} (hpa : PaOk P Γ.np) (h : PG X e (gName i)) : PG X e (tGt Γ P (.nm i)) := PG.imp h fun v σ H Q q => by
  obtain ⟨ψ, τ, ρ, O, l, ρ', O', r, rv, e, k⟩ := q
  have e' : (match setSl Γ.np i (slL l) ρ with
    | none => none
    | some ρ => some ((), (ρ, O))) = some ((), (ρ', O')) := e
  cases e2 : setSl Γ.np i (slL l) ρ with
  | none => rw [e2] at e'; cases e'
  | some ρ2 =>
    rw [e2] at e'
    cases e'
    exact k ψ H _ (set_nm hpa r rv e2)
theorem gt_sub {i : Nat} {ie : Expr} {tk : Tm} (hv : PE X o (tVar i)) (hi : PE X ie (tEv Γ P tk))
    (ha : ∀ v, assign (.Subscript o ie pos) X.env v = (do
      let ov ← holding [v] (eval o X.env)
      let iv ← holding [v, ov] (eval ie X.env)
      standAt pos
      holding [v, ov, iv] (setItem ov iv v)
      release [v, ov, iv] [])) : PG X (.Subscript o ie pos) (tGt Γ P (.sub i tk)) := PG.imp (pg_sub hv hi set_list ha) fun v σ H Q q => by
  obtain ⟨ψ, τ, ρ, O, l, ρ', O', r, rv, e, k⟩ := q
  have e' : (match ρ[i]? with
    | some (.own (.lst _)) => match ev Γ tk (ρ, O) with
      | some (.dp (.int j), s1) => match s1.1[i]? with
        | some (.own (.lst xs)) => match L2.ixN xs.length j with
          | none => none
          | some n => some ((), (s1.1.set i (.own (.lst (xs.set n l.deep))), s1.2))
        | _ => none
      | _ => none
    | _ => none) = some ((), (ρ', O')) := e
  split at e'
  · rename_i xs0 h0
    split at e'
    · rename_i j s1 h1
      obtain ⟨ρ1, O1⟩ := s1
      split at e'
      · rename_i xs h2
        split at e'
        · cases e'
        · rename_i n h3
          cases e'
          obtain ⟨a, q1, q2, _⟩ := r.own i _ h0
          refine ⟨_, q1, ψ, tl1 l v τ, ρ, O, _, ρ1, _, r, h1, fun ψ1 H1 w res => ?_⟩
          obtain ⟨a1, rw1⟩ := res
          cases rw1
          obtain ⟨b, p1, p2, _⟩ := a1.rep.own i _ h2
          rw [q1] at p1
          cases p1
          obtain ⟨us, hb, rvs⟩ := p2
          refine ⟨a, us, j, n, rfl, rfl, hb, by rw [← rvs.1]; exact h3, ?_⟩
          have rv1 := rv.after a1 fun _ h => h
          obtain ⟨a2, rd⟩ := a1.rep.popv rv1
          obtain ⟨b, p1, p2, _⟩ := a2.rep.own i _ h2
          rw [q1] at p1
          cases p1
          obtain ⟨us', hb', rvs2⟩ := p2
          rw [hb] at hb'
          cases hb'
          exact k ψ1 _ σ ((a1.trans a2).trans (a2.rep.write (o' := .lst (xs.set n l.deep)) (u := .lst (us.set n v)) h2 q1 fun W' H' hW pr hH => ⟨us.set n v, hH, (rvs2.mono (List.prefix_refl _) pr).set n (rd.mono (List.prefix_refl _) pr)⟩))
      · cases e'
    · cases e'
  · cases e'
/-- target = value, a single target that is no name -/
theorem st_asg {tt : Tgt} (hnt : ∀ ts, tt ≠ .tp ts) (h : PS X st (tAsg (tEv Γ P t) (tGt Γ P tt))) : PS X st (tSt P (ex Γ F (.asg tt t))) := PS.imp h fun σ H D q => by
  obtain ⟨ψ, ρ, O, fl, ρ', O', r, e, k⟩ := q
  have e' : (match ev Γ t (ρ, O) with
    | none => none
    | some (l, s1) => match asgL Γ tt l s1 with
      | none => none
      | some (_, s2) => some (Fl.next, s2)) = some (fl, (ρ', O')) := by
    cases tt <;> first | exact e | exact absurd rfl (hnt _)
  cases e1 : ev Γ t (ρ, O) with
  | none => rw [e1] at e'; cases e'
  | some z =>
    obtain ⟨l1, ρ1, O1⟩ := z
    rw [e1] at e'
    dsimp only at e'
    cases e2 : asgL Γ tt l1 (ρ1, O1) with
    | none => rw [e2] at e'; cases e'
    | some z2 =>
      obtain ⟨_, ρ2, O2⟩ := z2
      rw [e2] at e'
      cases e'
      refine ⟨ψ, [], ρ, O, l1, ρ1, O1, r, e1, fun ψ1 H1 v res => ?_⟩
      obtain ⟨a1, h1⟩ := res.lr
      exact ⟨ψ1, [], ρ1, O1, l1, _, _, a1.rep, h1, e2, fun ψ2 H2 σ2 a2 => k ψ2 H2 σ2 (a1.trans a2)⟩
end
end Fc
set_option Elab.async false
set_option linter.all false
set_option maxHeartbeats 2000000
set_option maxRecDepth 10000
/-! Walks, loops, append, fields. -/
namespace Fc
open PySem L2
section
variable {X : Cx} {P : Par} {Γ : Cx0} {F : Nat} {st : Stmt} {sts rest body a b : List Stmt} {e c tg iter o value : Expr} {t tc : Tm} {s : Sm} {r ss sa sb : Sms} {pos p2 p3 apos cpos : Pos} {it : It} {tg' : Tg}
theorem st_for (hp : PassesOwn (model X.prog X.w) X.A X.env X.xe) (hc : X.calm = true) (hi : PI X tg iter (tIt Γ P it)) (hg : PG X tg (tPg P Γ.np tg')) (hb : PSs X body (tSt P (exs Γ F sb))) (hs : ∀ x, foldedSetIterable iter X.env x = pure x) :
    PS X (.For tg iter body [] pos) (tSt P (ex Γ F (.forr tg' it sb))) := PS.imp (ps_for hp hc hi hg hb hs) fun σ H D q => by
  obtain ⟨ψ, ρ, O, fl, ρ', O', r, e, k⟩ := q
  have e' : (match evI Γ it (ρ, O) with
    | none => none
    | some (xs, s1) => forGo Γ.np tg' (exs Γ F sb) xs s1) = some (fl, (ρ', O')) := e
  cases e1 : evI Γ it (ρ, O) with
  | none => rw [e1] at e'; cases e'
  | some z =>
    obtain ⟨xs, ρ1, O1⟩ := z
    rw [e1] at e'
    dsimp only at e'
    refine ⟨ψ, [], ρ, O, xs, ρ1, O1, r, e1, fun ψ1 H1 J a1 itok => ?_⟩
    let W : Nat → Nat → L2.St → Hp → Prop := fun i m σi Hi => m = xs.length - i ∧ i ≤ xs.length ∧ ∃ ψi ρi Oi, Aft P ψ1 [] ρ1 σ H1 ψi [] ρi Oi σi Hi ∧ forGo Γ.np tg' (exs Γ F sb) (xs.drop i) (ρi, Oi) = some (fl, (ρ', O'))
    refine ⟨W, ⟨xs.length, by simp, Nat.zero_le _, ψ1, ρ1, O1, .refl a1.rep, e'⟩, ?_⟩
    rintro i m σi Hi ⟨rfl, hi, ψi, ρi, Oi, aft, go⟩
    by_cases hlt : i < xs.length
    · have hdr : xs.drop i = xs[i] :: xs.drop (i + 1) := List.drop_eq_getElem_cons hlt
      rw [hdr] at go
      have go' : (match bindT Γ.np tg' xs[i] ρi with
        | none => none
        | some ρ => match exs Γ F sb (ρ, Oi) with
          | none => none
          | some (.brk, s1) => some (Fl.next, s1)
          | some (.ret l, s1) => some (Fl.ret l, s1)
          | some (_, s1) => forGo Γ.np tg' (exs Γ F sb) (xs.drop (i + 1)) s1) = some (fl, (ρ', O')) := go
      obtain ⟨gg, gy⟩ := (itok ψi _ Hi aft.pre aft.pres).2 i xs[i] (by simp [hlt])
      refine .inr ⟨gg, fun σ' H' => W (i + 1) (xs.length - (i + 1)) σ' H', fun σ' H' w => ⟨_, by omega, w⟩, fun x H' yl => ?_⟩
      obtain ⟨ext, rv⟩ := gy x H' yl
      have a2 := aft.rep.ext ext
      cases e3 : bindT Γ.np tg' xs[i] ρi with
      | none => rw [e3] at go'; cases go'
      | some ρb =>
        rw [e3] at go'
        dsimp only at go'
        refine ⟨ψi, [], ρi, Oi, xs[i], ρb, a2.rep, rv, e3, fun σ2 a4 b4 => ?_⟩
        cases e4 : exs Γ F sb (ρb, Oi) with
        | none => rw [e4] at go'; cases go'
        | some z4 =>
          obtain ⟨f1, ρ3, O3⟩ := z4
          rw [e4] at go'
          refine ⟨ψi, ρb, Oi, f1, ρ3, O3, a4.rep, e4, ?_⟩
          have aa := (aft.trans a2).trans a4
          cases f1 with
          | next => exact fun ψ' H' σ' a5 => ⟨rfl, hlt, ψ', ρ3, O3, aa.trans a5, go'⟩
          | cont => exact fun ψ' H' σ' a5 => ⟨rfl, hlt, ψ', ρ3, O3, aa.trans a5, go'⟩
          | brk =>
            cases go'
            exact fun ψ' H' σ' a5 => k ψ' H' σ' (a1.trans (aa.trans a5))
          | ret l =>
            cases go'
            exact fun ψ' H' σ' v a5 => k ψ' H' σ' v (a5.after (a1.trans aa))
    · have hie : i = xs.length := by omega
      subst hie
      rw [List.drop_length] at go
      have go' : some (Fl.next, (ρi, Oi)) = some (fl, (ρ', O')) := go
      cases go'
      exact .inl ⟨(itok ψi _ Hi aft.pre aft.pres).1 _ rfl, k ψi Hi σi (a1.trans aft)⟩
theorem st_while (hp : PassesOwn (model X.prog X.w) X.A X.env X.xe) (hc : PT X c (tTst Γ P (tsv Γ tc))) (hb : PSs X body (tSt P (exs Γ F sb))) : PS X (.While c body [] pos) (tSt P (ex Γ F (.whil tc sb))) := PS.imp (ps_while hp hc hb) fun σ H D q => by
  obtain ⟨ψ, ρ, O, fl, ρ', O', r, e, k⟩ := q
  have e' : whilGo (tsv Γ tc) (exs Γ F sb) F (ρ, O) = some (fl, (ρ', O')) := e
  let W : Nat → L2.St → Hp → Prop := fun m σi Hi => ∃ ψi ρi Oi, Aft P ψ [] ρ σ H ψi [] ρi Oi σi Hi ∧ whilGo (tsv Γ tc) (exs Γ F sb) m (ρi, Oi) = some (fl, (ρ', O'))
  refine ⟨W, ⟨F, ψ, ρ, O, .refl r, e'⟩, ?_⟩
  rintro m σi Hi ⟨ψi, ρi, Oi, aft, go⟩
  cases m with
  | zero => cases go
  | succ m =>
    have go' : (match tsv Γ tc (ρi, Oi) with
      | none => none
      | some (false, s1) => some (Fl.next, s1)
      | some (true, s1) => match exs Γ F sb s1 with
        | none => none
        | some (.brk, s2) => some (Fl.next, s2)
        | some (.ret l, s2) => some (Fl.ret l, s2)
        | some (_, s2) => whilGo (tsv Γ tc) (exs Γ F sb) m s2) = some (fl, (ρ', O')) := go
    cases e1 : tsv Γ tc (ρi, Oi) with
    | none => rw [e1] at go'; cases go'
    | some z =>
      obtain ⟨b, ρ1, O1⟩ := z
      rw [e1] at go'
      refine ⟨ψi, [], ρi, Oi, b, ρ1, O1, aft.rep, e1, fun ψ1 H1 a1 => ?_⟩
      cases b with
      | false =>
        show if false = true then _ else D.nx σi H1
        rw [if_neg (by simp)]
        cases go'
        exact k ψ1 H1 σi (aft.trans a1)
      | true =>
        show if true = true then (∃ N : L2.St → Hp → Prop, (∀ σ' H', N σ' H' → ∃ m', m' < m + 1 ∧ W m' σ' H') ∧ tSt P (exs Γ F sb) { D with nx := N, ct := N, bk := D.nx } σi H1) else _
        rw [if_pos rfl]
        refine ⟨fun σ' H' => W m σ' H', fun σ' H' w => ⟨m, Nat.lt_succ_self _, w⟩, ?_⟩
        dsimp only at go'
        cases e4 : exs Γ F sb (ρ1, O1) with
        | none => rw [e4] at go'; cases go'
        | some z4 =>
          obtain ⟨f1, ρ3, O3⟩ := z4
          rw [e4] at go'
          refine ⟨ψ1, ρ1, O1, f1, ρ3, O3, a1.rep, e4, ?_⟩
          have aa := aft.trans a1
          cases f1 with
          | next => exact fun ψ' H' σ' a5 => ⟨ψ', ρ3, O3, aa.trans a5, go'⟩
          | cont => exact fun ψ' H' σ' a5 => ⟨ψ', ρ3, O3, aa.trans a5, go'⟩
          | brk =>
            cases go'
            exact fun ψ' H' σ' a5 => k ψ' H' σ' (aa.trans a5)
          | ret l =>
            cases go'
            exact fun ψ' H' σ' v a5 => k ψ' H' σ' v (a5.after aa)
theorem st_app {i : Nat} (ho : PE X o (tVar i)) (he : PE X e (tEv Γ P t)) (hbase : attributeBase o "append" X.env (eval o X.env) = eval o X.env)
    (hfew : ((backTo cpos (starEach [e] X.env)).all (fun x => !x.1) && (backToKw cpos (keywordEach [] X.env)).all (fun x => x.1.isSome)
      && decide (([e] : List Expr).length + ([] : List Keyword).length + (if ([] : List Keyword).isEmpty then 0 else 1) < 30)) = true)
    (hline : (apos.endLine == cpos.line) = true) (hs : starEach [e] X.env = (false, eval e X.env) :: starEach [] X.env) (hplain : (backTo cpos (starEach [] X.env)).any (·.1) = false)
    (hsw : swapsWith (.Call (.Attribute o "append" apos) [e] [] cpos) none pos.line X.env = pure false) : PS X (.Expr (.Call (.Attribute o "append" apos) [e] [] cpos) pos) (tSt P (ex Γ F (.app i t))) :=
  PS.imp (ps_expr (pe_bm (r := rAppend) PySem.F.plainAttrs_list PySem.F.slot_list_append PySem.F.type_list_append mt_append ho (pa_cons he pa_nil hs) hbase hfew hline hs hplain) hsw) fun σ H D q => by
    obtain ⟨ψ, ρ, O, fl, ρ', O', r, e, k⟩ := q
    have e' : (match ρ[i]? with
      | some (.own (.lst _)) => match ev Γ t (ρ, O) with
        | none => none
        | some (l, s1) => match s1.1[i]? with
          | some (.own (.lst xs)) => if xs.length < sizeLine then some (Fl.next, (s1.1.set i (.own (.lst (xs ++ [l.deep]))), s1.2)) else none
          | _ => none
      | _ => none) = some (fl, (ρ', O')) := e
    split at e'
    · rename_i xs0 h0
      cases e1 : ev Γ t (ρ, O) with
      | none => rw [e1] at e'; cases e'
      | some z =>
        obtain ⟨l1, ρ1, O1⟩ := z
        rw [e1] at e'
        dsimp only at e'
        split at e'
        · rename_i xs h2
          split at e'
          · rename_i hz
            cases e'
            obtain ⟨a, q1, q2, _⟩ := r.own i _ h0
            obtain ⟨us0, hb0, _⟩ := q2
            refine ⟨_, q1, .inl ⟨rfl, us0, .inl (.inl hb0)⟩, ψ, [], ρ, O, l1, ρ1, _, r, e1, fun ψ1 H1 w res => ?_⟩
            obtain ⟨a1, rd⟩ := res.deep
            obtain ⟨b, p1, p2, _⟩ := a1.rep.own i _ h2
            rw [q1] at p1
            cases p1
            obtain ⟨us, hb, rvs⟩ := p2
            refine ⟨a, us, w, rfl, rfl, hb, by rw [← rvs.1]; exact hz, ?_⟩
            exact k ψ1 _ σ (a1.trans (a1.rep.write (o' := .lst (xs ++ [l1.deep])) (u := .lst (us ++ [w])) h2 q1 fun W' H' hW pr hH => ⟨us ++ [w], hH, (rvs.mono (List.prefix_refl _) pr).append (.cons (rd.mono (List.prefix_refl _) pr) .nil)⟩))
          · cases e'
        · cases e'
    · cases e'
theorem putA_rv {K : PySem.W.Frag} {ca : Nat → Addr} {ψ : List Addr} {W : Addr → Prop} {H : Hp} {f : Str} {d : D} {v : V} (hv : RV K ca ψ W H d v) : ∀ {fs : List (Str × D)} {vs : List (Str × V)}, RVf K ca ψ W H fs vs → RVf K ca ψ W H (putA f d fs) (putF f v vs)
  | [], vs, h => by
    have h1 := h.1
    have hvs : vs = [] := by
      cases vs with
      | nil => rfl
      | cons a r => simp at h1
    subst hvs
    refine ⟨rfl, fun i p q e1 e2 => ?_⟩
    cases i with
    | zero =>
      have e1' : (f, d) = p := by simpa [putA] using e1
      have e2' : (f, v) = q := by simpa [putF] using e2
      subst e1' e2'
      exact hv
    | succ i => simp [putA] at e1
  | (g, u) :: fs, [], h => by have := h.1; simp at this
  | (g, u) :: fs, (g', u') :: vs, h => by
    have h1 := h.1
    simp at h1
    obtain ⟨hg, ht⟩ := h1
    subst hg
    have tl : RVf K ca ψ W H fs vs := ⟨ht, fun i p q e1 e2 => h.2 (i + 1) p q (by simpa using e1) (by simpa using e2)⟩
    unfold putA putF
    by_cases e : g = f
    · rw [if_pos e, if_pos e]
      refine ⟨by simp [ht], fun i p q e1 e2 => ?_⟩
      cases i with
      | zero =>
        simp at e1 e2
        subst e1 e2
        exact hv
      | succ i => exact tl.2 i p q (by simpa using e1) (by simpa using e2)
    · rw [if_neg e, if_neg e]
      have ih := putA_rv (f := f) hv tl
      refine ⟨by simp [ih.1], fun i p q e1 e2 => ?_⟩
      cases i with
      | zero =>
        simp at e1 e2
        subst e1 e2
        exact h.2 0 _ _ rfl rfl
      | succ i => exact ih.2 i p q (by simpa using e1) (by simpa using e2)
/-- self.f = value -/
theorem st_att {i : Nat} {f : Str} (hK : P.K = X.K) (hn : ∀ c, Γ.kc c = true → Cls X.K (P.ca c) ∧ NoAttr X.K (P.ca c) f) (ho : PE X o (tVar i)) (hv : PE X value (tEv Γ P t)) (hs : swapsWith value (some (.Attribute o f p2)) pos.line X.env = pure false) :
    PS X (.Assign [.Attribute o f p2] value pos) (tSt P (ex Γ F (.asg (.att i f) t))) := PS.imp (ps_fld ho hv hs) fun σ H D q => by
  obtain ⟨ψ, ρ, O, fl, ρ', O', r, e, k⟩ := q
  have e' : (match ev Γ t (ρ, O) with
    | none => none
    | some (l, s1) => match (match s1.1[i]? with
      | some (.own (.ins c fs)) => if fs.length < 1000 && Γ.kc c then some ((), (s1.1.set i (.own (.ins c (putA f l.deep fs))), s1.2)) else none
      | _ => none) with
      | none => none
      | some (_, s2) => some (Fl.next, s2)) = some (fl, (ρ', O')) := e
  cases e1 : ev Γ t (ρ, O) with
  | none => rw [e1] at e'; cases e'
  | some z =>
    obtain ⟨l1, ρ1, O1⟩ := z
    rw [e1] at e'
    dsimp only at e'
    split at e'
    · cases e'
    · rename_i u s2 h1
      split at h1
      · rename_i c fs h2
        split at h1
        · rename_i hz
          cases h1
          cases e'
          rw [Bool.and_eq_true, decide_eq_true_eq] at hz
          refine ⟨ψ, [], ρ, O, l1, ρ1, _, r, e1, fun ψ1 H1 w res => ?_⟩
          obtain ⟨a1, rd⟩ := res.deep
          obtain ⟨b, p1, p2, _⟩ := a1.rep.own i _ h2
          obtain ⟨dx, us, hb, rvf⟩ := p2
          refine ⟨_, p1, b, P.ca c, dx, us, rfl, hb, (hn c hz.2).1, (hn c hz.2).2, ?_, ?_⟩
          · have := congrArg List.length rvf.1
            rw [List.length_map, List.length_map] at this
            omega
          · exact k ψ1 _ σ (a1.trans (a1.rep.write (o' := .ins c (putA f l1.deep fs)) (u := .ins (P.ca c) dx (putF f w us)) h2 p1 fun W' H' hW pr hH => ⟨dx, putF f w us, hH, putA_rv (rd.mono (List.prefix_refl _) pr) (rvf.mono (List.prefix_refl _) pr)⟩))
        · cases h1
      · cases h1
end
end Fc
set_option Elab.async false
set_option linter.all false
set_option maxHeartbeats 2000000
set_option maxRecDepth 10000
/-! Several targets. -/
namespace Fc
open PySem L2
def LV (K : PySem.W.Frag) (ca : Nat → Addr) (ψ : List Addr) (W : Addr → Prop) (H : Hp) : L → V → Prop
  | .dp d, v => RV K ca ψ W H d v
  | .fr _, v => ∃ a, v = .ref a
def LVs (K : PySem.W.Frag) (ca : Nat → Addr) (ψ : List Addr) (W : Addr → Prop) (H : Hp) : List L → List V → Prop
  | [], [] => True
  | l :: ls, v :: vs => LV K ca ψ W H l v ∧ LVs K ca ψ W H ls vs
  | _, _ => False
def tll : List L → List V → List (Addr × Ob) → List (Addr × Ob)
  | l :: ls, v :: vs, τ => tl1 l v (tll ls vs τ)
  | _, _, τ => τ
section
variable {K : PySem.W.Frag} {ca : Nat → Addr} {ψ ψ' : List Addr} {W W' : Addr → Prop} {H H' : Hp}
theorem LV.mono (hp : ψ <+: ψ') (P : Pres K W H W' H') {l : L} {v : V} (h : LV K ca ψ W H l v) : LV K ca ψ' W' H' l v := by
  cases l with
  | dp d => exact RV.mono hp P h
  | fr o => exact h
theorem LVs.mono (hp : ψ <+: ψ') (P : Pres K W H W' H') : ∀ {ls : List L} {vs : List V}, LVs K ca ψ W H ls vs → LVs K ca ψ' W' H' ls vs
  | [], [], h => trivial
  | l :: ls, v :: vs, h => ⟨h.1.mono hp P, LVs.mono hp P h.2⟩
  | [], _ :: _, h => h.elim
  | _ :: _, [], h => h.elim
theorem LVs.len : ∀ {ls : List L} {vs : List V}, LVs K ca ψ W H ls vs → ls.length = vs.length
  | [], [], h => rfl
  | l :: ls, v :: vs, h => by rw [List.length_cons, List.length_cons, LVs.len h.2]
  | [], _ :: _, h => h.elim
  | _ :: _, [], h => h.elim
theorem LVs.of_rvs : ∀ {ds : List D} {vs : List V}, RVs K ca ψ W H ds vs → LVs K ca ψ W H (ds.map L.dp) vs
  | [], vs, h => by rw [h.nil_inv]; trivial
  | d :: ds, vs, h => by
    obtain ⟨v, vs', rfl, h1, h2⟩ := h.cons_inv
    exact ⟨h1, LVs.of_rvs h2⟩
end
theorem tll_dp : ∀ {ds : List D} {vs : List V} {τ : List (Addr × Ob)}, tll (ds.map L.dp) vs τ = τ
  | [], vs, τ => by cases vs <;> rfl
  | d :: ds, [], τ => rfl
  | d :: ds, v :: vs, τ => by
    show tl1 (.dp d) v (tll (ds.map L.dp) vs τ) = τ
    rw [tll_dp]
    cases v <;> rfl
theorem tl1_perm (l : L) (v : V) {τ τ' : List (Addr × Ob)} (h : τ.Perm τ') : (tl1 l v τ).Perm (tl1 l v τ') := by
  unfold tl1
  split
  · exact h.cons _
  · exact h
theorem tl1_swap (l k : L) (v w : V) (τ : List (Addr × Ob)) : (tl1 l v (tl1 k w τ)).Perm (tl1 k w (tl1 l v τ)) := by
  unfold tl1
  cases l <;> cases v <;> cases k <;> cases w <;> first | exact List.Perm.refl _ | exact List.Perm.swap _ _ _
theorem tll_in : ∀ (ls : List L) (vs : List V) (k : L) (w : V) (τ : List (Addr × Ob)), (tll ls vs (tl1 k w τ)).Perm (tl1 k w (tll ls vs τ))
  | [], vs, k, w, τ => by unfold tll; exact .refl _
  | l :: ls, [], k, w, τ => by unfold tll; exact .refl _
  | l :: ls, v :: vs, k, w, τ => by
    show (tl1 l v (tll ls vs (tl1 k w τ))).Perm (tl1 k w (tl1 l v (tll ls vs τ)))
    exact (tl1_perm l v (tll_in ls vs k w τ)).trans (tl1_swap l k v w _)
section
variable {P : Par} {ψ : List Addr} {τ : List (Addr × Ob)} {ρ : List Sl} {σ : L2.St} {H : Hp} {l : L} {v : V}
theorem LV.lr (h : LV P.K P.ca ψ (Wr P.U ψ (tl1 l v τ) ρ σ) H l v) : LR P ψ (tl1 l v τ) ρ σ H l v := by
  cases l with
  | dp d => exact h
  | fr o =>
    obtain ⟨a, rfl⟩ := h
    exact ⟨a, rfl, List.mem_cons_self⟩
theorem LR.lv (h : LR P ψ τ ρ σ H l v) : LV P.K P.ca ψ (Wr P.U ψ τ ρ σ) H l v := by
  cases l with
  | dp d => exact h
  | fr o => obtain ⟨a, e, _⟩ := h; exact ⟨a, e⟩
end
/-- values from the left -/
def tLs (Γ : Cx0) (P : Par) (xs : Tms) : TA := fun σ H Q => ∃ ψ τ ρ O ls ρ' O', Rep P ψ τ ρ O σ H ∧ evLs Γ xs (ρ, O) = some (ls, (ρ', O')) ∧
  ∀ ψ' H' vs, Aft P ψ τ ρ σ H ψ' (tll ls vs τ) ρ' O' σ H' → LVs P.K P.ca ψ' (Wr P.U ψ' (tll ls vs τ) ρ' σ) H' ls vs → Q vs H'
def tGts (Γ : Cx0) (P : Par) (ts : Tgts) : TGs := fun vs σ H Q => ∃ ψ τ ρ O ls ρ' O', Rep P ψ (tll ls vs τ) ρ O σ H ∧ LVs P.K P.ca ψ (Wr P.U ψ (tll ls vs τ) ρ σ) H ls vs ∧ asgs Γ ts ls (ρ, O) = some ((), (ρ', O')) ∧
  ∀ ψ' H' σ', Aft P ψ (tll ls vs τ) ρ σ H ψ' τ ρ' O' σ' H' → Q σ' H'
section
variable {X : Cx} {P : Par} {Γ : Cx0} {F : Nat} {st : Stmt} {es : List Expr} {e tg a b : Expr} {t : Tm} {xs : Tms} {tt : Tgt} {ts : Tgts} {pos tp2 : Pos}
theorem lv_nil : PA X [] (tLs Γ P .nil) := PA.imp pa_nil fun σ H Q q => by
  obtain ⟨ψ, τ, ρ, O, ls, ρ', O', r, e, k⟩ := q
  have e' : some (([] : List L), (ρ, O)) = some (ls, (ρ', O')) := e
  cases e'
  exact k ψ H [] (.refl r) trivial
theorem lv_cons (ha : PE X e (tEv Γ P t)) (hr : PA X es (tLs Γ P xs)) (hs : starEach (e :: es) X.env = (false, eval e X.env) :: starEach es X.env) : PA X (e :: es) (tLs Γ P (.cons t xs)) :=
  PA.imp (pa_cons ha hr hs) fun σ H Q q => by
    obtain ⟨ψ, τ, ρ, O, ls, ρ', O', r, e, k⟩ := q
    have e' : (match ev Γ t (ρ, O) with
      | none => none
      | some (l, s1) => match evLs Γ xs s1 with
        | none => none
        | some (ls, s2) => some (l :: ls, s2)) = some (ls, (ρ', O')) := e
    cases e1 : ev Γ t (ρ, O) with
    | none => rw [e1] at e'; cases e'
    | some z1 =>
      obtain ⟨l, ρ1, O1⟩ := z1
      rw [e1] at e'
      dsimp only at e'
      cases e2 : evLs Γ xs (ρ1, O1) with
      | none => rw [e2] at e'; cases e'
      | some z2 =>
        obtain ⟨ls2, ρ2, O2⟩ := z2
        rw [e2] at e'
        cases e'
        refine ⟨ψ, τ, ρ, O, l, ρ1, O1, r, e1, fun ψ1 H1 v res => ?_⟩
        obtain ⟨a1, rv⟩ := res.lr
        refine ⟨ψ1, tl1 l v τ, ρ1, O1, ls2, _, _, a1.rep, e2, fun ψ2 H2 vs a2 rvs => ?_⟩
        have a3 := a2.rep.perm (tll_in ls2 vs l v τ)
        exact k ψ2 H2 (v :: vs) ((a1.trans a2).trans a3) ⟨(rv.lv.mono a2.pre a2.pres).mono a3.pre a3.pres, rvs.mono a3.pre a3.pres⟩
theorem gts_nil : PGs X [] (tGts Γ P .nil) := PGs.imp pgs_nil fun vs σ H Q q => by
  obtain ⟨ψ, τ, ρ, O, ls, ρ', O', r, rv, e, k⟩ := q
  cases ls with
  | nil =>
    cases vs with
    | nil =>
      have e' : some ((), (ρ, O)) = some ((), (ρ', O')) := e
      cases e'
      exact ⟨rfl, k ψ H σ (.refl r)⟩
    | cons v vs => exact rv.elim
  | cons l ls => cases e
theorem gts_cons (h1 : PG X e (tGt Γ P tt)) (h2 : PGs X es (tGts Γ P ts)) (hs : (assignEach (e :: es) X.env).map (·.2) = assign e X.env :: (assignEach es X.env).map (·.2)) : PGs X (e :: es) (tGts Γ P (.cons tt ts)) :=
  PGs.imp (pgs_cons h1 h2 hs) fun vs σ H Q q => by
    obtain ⟨ψ, τ, ρ, O, ls, ρ', O', r, rv, e, k⟩ := q
    cases ls with
    | nil => cases e
    | cons l ls =>
      cases vs with
      | nil => exact rv.elim
      | cons v vs =>
        obtain ⟨rv1, rv2⟩ := rv
        have e' : (match asgL Γ tt l (ρ, O) with
          | none => none
          | some (_, s1) => asgs Γ ts ls s1) = some ((), (ρ', O')) := e
        cases e1 : asgL Γ tt l (ρ, O) with
        | none => rw [e1] at e'; cases e'
        | some z1 =>
          obtain ⟨_, ρ1, O1⟩ := z1
          rw [e1] at e'
          refine ⟨v, vs, rfl, ψ, tll ls vs τ, ρ, O, l, ρ1, O1, r, LV.lr rv1, e1, fun ψ1 H1 σ1 a1 => ?_⟩
          refine ⟨ψ1, τ, ρ1, O1, ls, ρ', O', a1.rep, rv2.mono a1.pre a1.pres, e', fun ψ2 H2 σ2 a2 => ?_⟩
          exact k ψ2 H2 σ2 (a1.trans a2)
def nTgts : Tgts → Nat
  | .nil => 0
  | .cons _ ts => nTgts ts + 1
theorem asgs_len : ∀ {ts : Tgts} {ls : List L} {s s' : Fc.E}, asgs Γ ts ls s = some ((), s') → ls.length = nTgts ts
  | .nil, [], _, _, _ => rfl
  | .nil, _ :: _, _, _, e => by cases e
  | .cons t ts, [], _, _, e => by cases e
  | .cons t ts, d :: ds, s, s', e => by
    have e' : (match asgL Γ t d s with
      | none => none
      | some (_, s1) => asgs Γ ts ds s1) = some ((), s') := e
    split at e'
    · cases e'
    · show ds.length + 1 = nTgts ts + 1
      rw [asgs_len e']
/-- (a, b, ..) = a tuple -/
theorem st_tup {k : Nat} (hK : P.K = X.K) (h : PS X st (tAsg (tEv Γ P t) (gTup X.K (nTgts ts) (tGts Γ P ts)))) : PS X st (tSt P (ex Γ F (.asg (.tp ts) t))) := PS.imp h fun σ H D q => by
  obtain ⟨ψ, ρ, O, fl, ρ', O', r, e, k⟩ := q
  have e' : (match ev Γ t (ρ, O) with
    | none => none
    | some (l, s1) => match (match l.deep with
      | .tup xs => asgs Γ ts (xs.map .dp) s1
      | _ => none) with
      | none => none
      | some (_, s2) => some (Fl.next, s2)) = some (fl, (ρ', O')) := e
  cases e1 : ev Γ t (ρ, O) with
  | none => rw [e1] at e'; cases e'
  | some z =>
    obtain ⟨l1, ρ1, O1⟩ := z
    rw [e1] at e'
    dsimp only at e'
    cases hd : l1.deep with
    | tup zs =>
      rw [hd] at e'
      dsimp only at e'
      cases e2 : asgs Γ ts (zs.map .dp) (ρ1, O1) with
      | none => rw [e2] at e'; cases e'
      | some z2 =>
        obtain ⟨_, ρ2, O2⟩ := z2
        rw [e2] at e'
        cases e'
        refine ⟨ψ, [], ρ, O, l1, ρ1, O1, r, e1, fun ψ1 H1 v res => ?_⟩
        obtain ⟨a1, rv⟩ := res.deep
        rw [hd] at rv
        cases rv with
        | @tup a vs ds h1 h3 h4 =>
          have hl := asgs_len e2
          rw [List.length_map] at hl
          have r2 : Rep P ψ1 (tll (zs.map L.dp) vs []) ρ1 O1 σ H1 := by rw [tll_dp]; exact a1.rep
          refine ⟨a, vs, rfl, hK ▸ h1, by rw [← h3]; exact hl, ψ1, [], ρ1, O1, zs.map .dp, _, _, r2, ?_, e2, fun ψ2 H2 σ2 a2 => ?_⟩
          · rw [tll_dp]
            exact LVs.of_rvs ⟨h3, h4⟩
          · rw [tll_dp] at a2
            exact k ψ2 H2 σ2 (a1.trans a2)
    | _ => rw [hd] at e'; cases e'
/-- a, b = x, y: two plain locals -/
theorem st_par {i j : Nat} {ta tb : Tm} (hpa : PaOk P Γ.np) (h : PS X st (tPar i j (tLs Γ P (.cons ta (.cons tb .nil))))) : PS X st (tSt P (ex Γ F (.par (.cons (.nm i) (.cons (.nm j) .nil)) (.cons ta (.cons tb .nil))))) := PS.imp h fun σ H D q => by
  obtain ⟨ψ, ρ, O, fl, ρ', O', r, e, k⟩ := q
  have e' : (match evLs Γ (.cons ta (.cons tb .nil)) (ρ, O) with
    | none => none
    | some (ls, s1) => match asgs Γ (.cons (.nm i) (.cons (.nm j) .nil)) ls s1 with
      | none => none
      | some (_, s2) => some (Fl.next, s2)) = some (fl, (ρ', O')) := e
  cases e1 : evLs Γ (.cons ta (.cons tb .nil)) (ρ, O) with
  | none => rw [e1] at e'; cases e'
  | some z =>
    obtain ⟨ls, ρ1, O1⟩ := z
    rw [e1] at e'
    dsimp only at e'
    refine ⟨ψ, [], ρ, O, ls, ρ1, O1, r, e1, fun ψ1 H1 vs a1 lv => ?_⟩
    cases e2 : asgs Γ (.cons (.nm i) (.cons (.nm j) .nil)) ls (ρ1, O1) with
    | none => rw [e2] at e'; cases e'
    | some z2 =>
      obtain ⟨_, ρ2, O2⟩ := z2
      rw [e2] at e'
      cases e'
      have hl := asgs_len e2
      obtain ⟨l1, l2, rfl⟩ : ∃ l1 l2, ls = [l1, l2] := by
        match ls, hl with
        | [l1, l2], _ => exact ⟨l1, l2, rfl⟩
      obtain ⟨v1, v2, rfl⟩ : ∃ v1 v2, vs = [v1, v2] := by
        have := lv.len
        match vs, this with
        | [v1, v2], _ => exact ⟨v1, v2, rfl⟩
      have e3 : (match (match setSl Γ.np i (slL l1) ρ1 with
        | none => none
        | some ρ => some ((), (ρ, O1))) with
        | none => none
        | some (_, s1) => match (match setSl Γ.np j (slL l2) s1.1 with
          | none => none
          | some ρ => some ((), (ρ, s1.2))) with
          | none => none
          | some (_, s1) => some ((), s1)) = some ((), (ρ', O')) := e2
      cases e4 : setSl Γ.np i (slL l1) ρ1 with
      | none => rw [e4] at e3; cases e3
      | some ρ3 =>
        rw [e4] at e3
        dsimp only at e3
        cases e5 : setSl Γ.np j (slL l2) ρ3 with
        | none => rw [e5] at e3; cases e3
        | some ρ4 =>
          rw [e5] at e3
          cases e3
          refine ⟨v1, v2, rfl, ?_⟩
          obtain ⟨lv1, lv2, _⟩ := lv
          have a2 := set_nm (l := l1) (v := v1) (τ := tl1 l2 v2 []) hpa a1.rep (LV.lr lv1) e4
          have a3 := set_nm (l := l2) (v := v2) (τ := []) hpa a2.rep (LV.lr (lv2.mono a2.pre a2.pres)) e5
          exact k ψ1 H1 _ ((a1.trans a2).trans a3)
/-- a, b = x, y in general: a tuple is laid and taken apart -/
theorem st_part {k0 : Nat} (hK : P.K = X.K) (ha : PA X es (tLs Γ P xs)) (h : ∀ te, PE X (.Tuple es k0 tp2) te → PS X st (tAsg te (gTup X.K (nTgts ts) (tGts Γ P ts)))) (hz : nTgts ts ≤ sizeLine) : PS X st (tSt P (ex Γ F (.par ts xs))) :=
  PS.imp (h _ (pe_tup ha)) fun σ H D q => by
    obtain ⟨ψ, ρ, O, fl, ρ', O', r, e, k⟩ := q
    have e' : (match evLs Γ xs (ρ, O) with
      | none => none
      | some (ls, s1) => match asgs Γ ts ls s1 with
        | none => none
        | some (_, s2) => some (Fl.next, s2)) = some (fl, (ρ', O')) := e
    cases e1 : evLs Γ xs (ρ, O) with
    | none => rw [e1] at e'; cases e'
    | some z =>
      obtain ⟨ls, ρ1, O1⟩ := z
      rw [e1] at e'
      dsimp only at e'
      cases e2 : asgs Γ ts ls (ρ1, O1) with
      | none => rw [e2] at e'; cases e'
      | some z2 =>
        obtain ⟨_, ρ2, O2⟩ := z2
        rw [e2] at e'
        cases e'
        refine ⟨ψ, [], ρ, O, ls, ρ1, O1, r, e1, fun ψ1 H1 vs a1 lv => ?_⟩
        have hl := asgs_len e2
        have hlv := lv.len
        refine ⟨by omega, fun q hq => ?_⟩
        have a2 := a1.rep.ext (Ext.upd (u := .tup vs) hq)
        exact ⟨q, vs, rfl, .inl (.inl upd_same), by omega, ψ1, [], ρ1, O1, ls, _, _, a2.rep, lv.mono a2.pre a2.pres, e2, fun ψ2 H2 σ2 a3 => k ψ2 H2 σ2 ((a1.trans a2).trans a3)⟩
end
end Fc
set_option Elab.async false
set_option linter.all false
set_option maxHeartbeats 2000000
set_option maxRecDepth 10000
/-! Defs: their promise from their bodies. -/
namespace Fc
open PySem L2
section
variable {P : Par} {ψ : List Addr} {τ : List (Addr × Ob)} {ρ : List Sl} {O : List Ob} {σ : L2.St} {H : Hp}
theorem pad_own {k i : Nat} {o : Ob} (h : (ρ ++ List.replicate k Sl.no)[i]? = some (.own o)) : ρ[i]? = some (.own o) := by
  rw [List.getElem?_append] at h
  split at h
  · exact h
  · rw [List.getElem?_replicate] at h
    split at h <;> cases h
theorem pad_dp {k i : Nat} {d : D} (h : (ρ ++ List.replicate k Sl.no)[i]? = some (.dp d)) : ρ[i]? = some (.dp d) := by
  rw [List.getElem?_append] at h
  split at h
  · exact h
  · rw [List.getElem?_replicate] at h
    split at h <;> cases h
theorem pad_st {k i : Nat} (hi : i < σ.length) : (σ ++ List.replicate k (none : Option V))[i]? = σ[i]? := List.getElem?_append_left hi
theorem pad_ρ {k i : Nat} {x : Sl} (h : ρ[i]? = some x) : (ρ ++ List.replicate k Sl.no)[i]? = some x := by
  rw [List.getElem?_append_left (List.getElem?_eq_some_iff.mp h).1]; exact h
theorem Rep.pad (r : Rep P ψ τ ρ O σ H) (k : Nat) : Aft P ψ τ ρ σ H ψ τ (ρ ++ List.replicate k .no) O (σ ++ List.replicate k none) H := by
  have lt : ∀ {i : Nat} {x : Sl}, ρ[i]? = some x → i < σ.length := fun h => by rw [← r.len]; exact (List.getElem?_eq_some_iff.mp h).1
  have hw0 : ∀ b, W0 ψ τ (ρ ++ List.replicate k .no) (σ ++ List.replicate k none) b ↔ W0 ψ τ ρ σ b := fun b => by
    constructor
    · rintro (h | h | ⟨j, w, h1, h2⟩)
      · exact .inl h
      · exact .inr (.inl h)
      · have q := pad_own h1
        rw [pad_st (lt q)] at h2
        exact .inr (.inr ⟨j, w, q, h2⟩)
    · rintro (h | h | ⟨j, w, h1, h2⟩)
      · exact .inl h
      · exact .inr (.inl h)
      · exact .inr (.inr ⟨j, w, pad_ρ h1, by rw [pad_st (lt h1)]; exact h2⟩)
  have hw : ∀ b, Wr P.U ψ τ (ρ ++ List.replicate k .no) (σ ++ List.replicate k none) b ↔ Wr P.U ψ τ ρ σ b := fun b => or_congr (hw0 b) Iff.rfl
  have pr : Pres P.K (Wr P.U ψ τ ρ σ) H (Wr P.U ψ τ (ρ ++ List.replicate k .no) (σ ++ List.replicate k none)) H := .less fun b hb => (hw b).mp hb
  refine ⟨List.prefix_refl _, pr, ⟨by simp [r.len], fun i d e => ?_, fun i o e => ?_, fun i j x y a h1 h2 h3 h4 => ?_, fun q hq => ⟨(r.tmp q hq).1.mono (List.prefix_refl _) pr rfl, (r.tmp q hq).2⟩, r.tnd, fun i o a e1 e2 => ?_, r.plen, fun n a o e1 e2 => (r.oid n a o e1 e2).mono (List.prefix_refl _) pr rfl, r.pnd, fun i o a e1 e2 => ?_, r.ptm, fun j a e => ?_, r.ent, fun a h z => r.out a h ((hw0 a).mp z), r.uob⟩, fun _ _ => rfl⟩
  · have q := pad_dp e
    obtain ⟨v, h1, h2⟩ := r.dp i d q
    exact ⟨v, by rw [pad_st (lt q)]; exact h1, h2.mono (List.prefix_refl _) pr⟩
  · have q := pad_own e
    obtain ⟨a, h1, h2, h3⟩ := r.own i o q
    exact ⟨a, by rw [pad_st (lt q)]; exact h1, h2.mono (List.prefix_refl _) pr rfl, h3⟩
  · have q1 := pad_own h1
    have q2 := pad_own h2
    rw [pad_st (lt q1)] at h3
    rw [pad_st (lt q2)] at h4
    exact r.inj i j x y a q1 q2 h3 h4
  · have q := pad_own e1
    rw [pad_st (lt q)] at e2
    exact r.tow i o a q e2
  · have q := pad_own e1
    rw [pad_st (lt q)] at e2
    exact r.pow i o a q e2
  · obtain ⟨⟨o, h1⟩, h2⟩ := r.par j a e
    exact ⟨⟨o, pad_ρ h1⟩, by rw [pad_st (lt h1)]; exact h2⟩
theorem Rep.cut (r : Rep P ψ τ ρ O σ H) (n : Nat) (hpa : ∀ j a, P.pa[j]? = some (some a) → j < n) : Aft P ψ τ ρ σ H ψ τ (ρ.take n) O (σ.take n) H := by
  have tk : ∀ {i : Nat} {x : Sl}, (ρ.take n)[i]? = some x → i < n ∧ ρ[i]? = some x := fun {i x} h => by
    rw [List.getElem?_take] at h
    split at h
    · rename_i hi; exact ⟨hi, h⟩
    · cases h
  have ts : ∀ {i : Nat}, i < n → (σ.take n)[i]? = σ[i]? := fun {i} hi => by rw [List.getElem?_take, if_pos hi]
  have tr : ∀ {i : Nat}, i < n → (ρ.take n)[i]? = ρ[i]? := fun {i} hi => by rw [List.getElem?_take, if_pos hi]
  have hw0 : ∀ b, W0 ψ τ (ρ.take n) (σ.take n) b → W0 ψ τ ρ σ b := fun b h => by
    rcases h with h | h | ⟨j, w, h1, h2⟩
    · exact .inl h
    · exact .inr (.inl h)
    · obtain ⟨hj, q⟩ := tk h1
      rw [ts hj] at h2
      exact .inr (.inr ⟨j, w, q, h2⟩)
  have pr : Pres P.K (Wr P.U ψ τ ρ σ) H (Wr P.U ψ τ (ρ.take n) (σ.take n)) H := .less fun b hb => hb.elim (fun z => .inl (hw0 b z)) .inr
  refine ⟨List.prefix_refl _, pr, ⟨by rw [List.length_take, List.length_take, r.len], fun i d e => ?_, fun i o e => ?_, fun i j x y a h1 h2 h3 h4 => ?_, fun q hq => ⟨(r.tmp q hq).1.mono (List.prefix_refl _) pr rfl, (r.tmp q hq).2⟩, r.tnd, fun i o a e1 e2 => ?_, r.plen, fun n a o e1 e2 => (r.oid n a o e1 e2).mono (List.prefix_refl _) pr rfl, r.pnd, fun i o a e1 e2 => ?_, r.ptm, fun j a e => ?_, r.ent, fun a h z => r.out a h (hw0 a z), r.uob⟩, fun _ _ => rfl⟩
  · obtain ⟨hi, q⟩ := tk e
    obtain ⟨v, h1, h2⟩ := r.dp i d q
    exact ⟨v, by rw [ts hi]; exact h1, h2.mono (List.prefix_refl _) pr⟩
  · obtain ⟨hi, q⟩ := tk e
    obtain ⟨a, h1, h2, h3⟩ := r.own i o q
    exact ⟨a, by rw [ts hi]; exact h1, h2.mono (List.prefix_refl _) pr rfl, h3⟩
  · obtain ⟨i1, q1⟩ := tk h1
    obtain ⟨i2, q2⟩ := tk h2
    rw [ts i1] at h3
    rw [ts i2] at h4
    exact r.inj i j x y a q1 q2 h3 h4
  · obtain ⟨hi, q⟩ := tk e1
    rw [ts hi] at e2
    exact r.tow i o a q e2
  · obtain ⟨hi, q⟩ := tk e1
    rw [ts hi] at e2
    exact r.pow i o a q e2
  · have hj := hpa j a e
    obtain ⟨⟨o, h1⟩, h2⟩ := r.par j a e
    exact ⟨⟨o, by rw [tr hj]; exact h1⟩, by rw [ts hj]; exact h2⟩
end
theorem par0_ok {K : PySem.W.Frag} {ca : Nat → Addr} {U : Addr → Prop} {H : Hp} {sls : List Sl} {vs : List V} : PaOk (par0 K ca U H sls vs) sls.length := ⟨rfl, fun j a e => by
  obtain ⟨⟨o, h⟩, _⟩ := paOf_get e
  exact (List.getElem?_eq_some_iff.mp h).1⟩
/-- no calls left: nothing is promised -/
theorem fn_zero {CX : CXT} {P : Program} {w : World} {K : PySem.W.Frag} {mg : Str → Option Value} {base : Heap} {k : Nat} {fa : Addr} {fd : FuncData} {ps : List Str} {ca : Nat → Addr} {T : Tab} {F f : Nat} : FnOk P w K mg base CX k fa fd ps (spEv K ca T F 0 f) :=
  ⟨fun vs H Q E h => (by obtain ⟨_, _, _, _, _, _, _, _, e, _⟩ := h; cases e), fun A outer s H args us vs Q E _ _ _ _ h => (by obtain ⟨_, _, _, _, _, _, _, _, e, _⟩ := h; cases e)⟩
theorem fn_ok {CX : CXT} {P : Program} {w : World} {K : PySem.W.Frag} {mg : Str → Option Value} {base : Heap} {k : Nat} {fa : Addr} {name qual : Str} {params : Arguments} {body : List Stmt} {scope : Scope} {dV kV doc pm cdv ct oc : Value} {an od : Option Addr}
    {osl : Array (Option Value)} {N ps : List Str} {ca : Nat → Addr} {T : Tab} {F n f : Nat} {d : Fd} (hT : T.fn f = some d) (lk : K.lookup fa = some ⟨oc, od, .func (PySem.W.fnOf name qual params body scope dV kV doc pm an cdv ct), osl⟩) (hcd : PySem.W.codeIn K cdv qual = true) (S : FnScope N ps scope)
    (hN : N.length = d.nl) (hps : ps.length = d.np) (hle : d.np ≤ d.nl)
    (hb : ∀ (A : Around) (outer : List Env) (s : Shared) (H : Hp) (E : XK) (p : Par), Room k (A.deeper (PyProof.Rows.envOfC qual scope s.heap.objs.size fa cdv)) → p.K = K → p.ca = ca → PaOk p d.np →
      PSs (cxOf CX P w K mg base N qual scope fa cdv A outer s H E) body (tSt p (exs ⟨callN T F n, d.np, T.kc, T.mth, T.prp, T.ini, T.cm⟩ F d.body))) :
    FnOk P w K mg base CX (k + 1) fa (PySem.W.fnOf name qual params body scope dV kV doc pm an cdv ct) ps (spEv K ca T F (n + 1) f) := by
  have inv : ∀ {sls O l outs O'}, callN T F (n + 1) f sls O = some (l, outs, O') → sls.length = d.np ∧ ∃ fl ρ, exs ⟨callN T F n, d.np, T.kc, T.mth, T.prp, T.ini, T.cm⟩ F d.body (sls ++ List.replicate (d.nl - d.np) .no, O) = some (fl, (ρ, O')) ∧ outs = ρ.take d.np ∧ (fl = .ret l ∨ (fl = .next ∧ l = .dp .non)) := fun {sls O l outs O'} h => by
    have h' : (match T.fn f with
      | none => none
      | some d => if sls.length = d.np then (match exs ⟨callN T F n, d.np, T.kc, T.mth, T.prp, T.ini, T.cm⟩ F d.body (sls ++ List.replicate (d.nl - d.np) .no, O) with
        | some (.ret l, (ρ, O')) => some (l, ρ.take d.np, O')
        | some (.next, (ρ, O')) => some (.dp .non, ρ.take d.np, O')
        | _ => none) else none) = some (l, outs, O') := h
    rw [hT] at h'
    dsimp only at h'
    split at h'
    · rename_i hl
      refine ⟨hl, ?_⟩
      split at h'
      · rename_i l1 ρ O1 e
        cases h'
        exact ⟨_, _, e, rfl, .inl rfl⟩
      · rename_i ρ O1 e
        cases h'
        exact ⟨_, _, e, rfl, .inr ⟨rfl, rfl⟩⟩
      · cases h'
    · cases h'
  refine fn_of lk hcd S (fun vs H Q E h => ?_) fun A outer s H vs Q E hr h => ?_
  · obtain ⟨U, ψ, O, sls, l, outs, O', r, e, _⟩ := h
    have := r.len
    rw [List.length_map] at this
    rw [← this, (inv e).1, hps]
  · obtain ⟨U, ψ, O, sls, l, outs, O', r, e, k0⟩ := h
    obtain ⟨hl, fl, ρ, e1, rfl, hf⟩ := inv e
    have hvl : vs.length = d.np := by
      have := r.len
      rw [List.length_map] at this
      omega
    refine ⟨_, hb A outer s H E (par0 K ca U H sls vs) hr rfl rfl (hl ▸ par0_ok), ?_⟩
    have a0 := r.pad (d.nl - d.np)
    have hst : L2.start N vs = vs.map some ++ List.replicate (d.nl - d.np) none := by
      unfold L2.start
      rw [hN, hvl]
    rw [hst]
    refine ⟨ψ, _, O, fl, ρ, O', a0.rep, e1, ?_⟩
    have fin : ∀ {τc ψ' H' σ'}, Aft (par0 K ca U H sls vs) ψ [] (sls ++ List.replicate (d.nl - d.np) .no) (vs.map some ++ List.replicate (d.nl - d.np) none) H ψ' τc ρ O' σ' H' → Aft (par0 K ca U H sls vs) ψ [] sls (vs.map some) H ψ' τc (ρ.take d.np) O' (σ'.take d.np) H' ∧ Aft (par0 K ca U H sls vs) ψ' τc ρ σ' H' ψ' τc (ρ.take d.np) O' (σ'.take d.np) H' := fun {τc ψ' H' σ'} a => by
      have c := a.rep.cut d.np (fun j b hj => by rw [← hl]; exact par0_ok.2 j b hj)
      exact ⟨(a0.trans a).trans c, c⟩
    rcases hf with hf | ⟨hf, hl2⟩
    · subst hf
      intro ψ' H' σ' v res
      cases l with
      | dp dd =>
        obtain ⟨res, rv⟩ := res
        obtain ⟨f1, f2⟩ := fin res
        exact k0 ψ' H' v (σ'.take d.np) ⟨f1, rv.mono f2.pre f2.pres⟩
      | fr o =>
        obtain ⟨a, ea, res⟩ := res
        exact k0 ψ' H' v (σ'.take d.np) ⟨a, ea, (fin res).1⟩
    · subst hf hl2
      intro ψ' H' σ' a
      exact k0 ψ' H' .non (σ'.take d.np) ⟨(fin a).1, .non⟩
end Fc
set_option Elab.async false
set_option linter.all false
set_option maxHeartbeats 2000000
set_option maxRecDepth 100000
/-! t[::-1]. -/
namespace Fc
open PySem L2 PyProof.Rows
section
variable {prog : Program} {w : World} {A : Around} {E : Value → Shared → Prop} {s : Shared}
theorem slicePart_neg {v : Value} {Q : Option Int → Shared → Prop} (p : IsPart v (some (-1))) (h : Q (some (-1)) s) : wpAny (model prog w) A (Builtin.Slice.slicePartIndex v) Q E s := by
  cases p with
  | int i t => exact slicePart_int h
theorem sliceApplied_rev {sl : Addr} {vs : Value} {n : Nat} {Q : Int × Int × Nat → Shared → Prop} (hs : s.heap.IsSliceOf sl .none .none vs) (ps : IsPart vs (some (-1)))
    (h : Q ((n : Int) - 1, -1, n) s) : wpAny (model prog w) A (Builtin.Slice.sliceApplied (.ref sl) (pure (n : Int))) Q E s := by
  obtain ⟨os, hos, hcs, hds⟩ := id hs
  unfold Builtin.Slice.sliceApplied Builtin.Slice.sliceFields
  refine wpAny_bind (wpAny_bind (wpAny_field hos hds (x := .none) rfl (wpAny_bind (wpAny_field hos hds (x := .none) rfl (wpAny_bind (wpAny_field hos hds (x := vs) rfl (wpAny_pure ?_)))))))
  refine wpAny_bind (slicePart_neg ps ?_)
  show wpAny _ _ (if ((-1 : Int) == 0) = true then _ else _) _ _ s
  rw [if_neg (by decide)]
  refine wpAny_bind (slicePart_none (wpAny_bind (slicePart_none (wpAny_bind (wpAny_pure ?_)))))
  have e1 : Builtin.Slice.sliceAdjust none none (-1) (n : Int) = ((n : Int) - 1, -1) := by
    unfold Builtin.Slice.sliceAdjust
    simp
  have e2 : Builtin.Slice.slicePlaces ((n : Int) - 1) (-1) (-1) = n := by
    unfold Builtin.Slice.slicePlaces
    have h1 : ¬ ((-1 : Int) > 0) := by omega
    simp only [h1, if_false]
    have h2 : (-(-1) : Int) = 1 := by omega
    rw [h2]
    simp only [Int.ediv_one]
    split <;> omega
  show wpAny _ _ (match Builtin.Slice.sliceAdjust none none (-1) (n : Int) with | (lo, hi) => pure (lo, (-1 : Int), Builtin.Slice.slicePlaces lo hi (-1))) _ _ s
  rw [e1]
  show wpAny _ _ (pure ((n : Int) - 1, (-1 : Int), Builtin.Slice.slicePlaces ((n : Int) - 1) (-1) (-1))) _ _ s
  rw [e2]
  exact wpAny_pure h
theorem fm_congr {α β : Type} {f g : α → Option β} : ∀ {l : List α}, (∀ x ∈ l, f x = g x) → l.filterMap f = l.filterMap g
  | [], _ => rfl
  | a :: l, h => by
    rw [List.filterMap_cons, List.filterMap_cons, h a List.mem_cons_self, fm_congr fun x hx => h x (List.mem_cons_of_mem _ hx)]
theorem pick_rev (xs : Array Value) : ((List.range xs.size).filterMap fun (m : Nat) => xs[((xs.size : Int) - 1 + (m : Int) * -1).toNat]?).toArray = xs.toList.reverse.toArray := by
  congr 1
  have e : ∀ m ∈ List.range xs.size, xs[((xs.size : Int) - 1 + (m : Int) * -1).toNat]? = (fun m => xs[xs.size - 1 - m]?) m := fun m hm => by
    have := List.mem_range.mp hm
    have : ((xs.size : Int) - 1 + (m : Int) * -1).toNat = xs.size - 1 - m := by omega
    rw [this]
  rw [fm_congr e]
  have h1 : (List.range xs.size).filterMap (fun m => xs[xs.size - 1 - m]?) = ((List.range xs.size).map fun k => xs.size - 1 - k).filterMap (xs[·]?) := by
    rw [List.filterMap_map]
    rfl
  rw [h1, PySem.W.krv_range, List.filterMap_reverse, PySem.W.krv_all]
theorem getItem_tuple_rev {t sl : Addr} {items : Array Value} {vs : Value} {Q : Value → Shared → Prop} (ht : IsTup s.heap t items) (hs : s.heap.IsSliceOf sl .none .none vs) (ps : IsPart vs (some (-1)))
    (h : Q (.ref s.heap.objs.size) { s with heap := s.heap.push { cls := .type "tuple", data := .seq items.toList.reverse.toArray } })
    (hsz : items.size ≤ sizeLine) : wpAny (model prog w) A (getItem (.ref t) (.ref sl)) Q E s := by
  have htake : sizeOk (.seq items.toList.reverse.toArray) := by
    show items.toList.reverse.toArray.size ≤ sizeLine
    rw [List.size_toArray, List.length_reverse, Array.length_toList]
    exact hsz
  obtain ⟨os, hos, hcs, hds⟩ := id hs
  have hTs : s.TypeIs (.ref sl) "slice" := ⟨os, hos, hcs⟩
  unfold getItem
  try with_reducible refine wpAny_holding ?_
  first | refine wpAny_bind (wpAny_pure ?_) | skip
  refine wpAny_bind (wpAny_sequenceKey ht.typeIs (by decide) ?_)
  refine wpAny_bind (wpAny_callSpecial?_slot (name := Str.ofString "__getitem__") ht.typeIs PyProof.Rows.slot_tuple_getitem
    (wpAny_call_entry PyProof.Rows.slot_tuple_getitem ht.typeIs entry_tuple_getitem ?_ (args_tuple_getitem _ _)))
  show wpAny _ _ (Builtin.Tuple.tupleItemsOf (.ref t) >>= _) _ _ s
  refine wpAny_bind (PyProof.Rows.tupleItemsOf_ ht ?_)
  refine wpAny_bind (wpAny_typeOf hTs ?_)
  rw [if_pos (by decide)]
  refine wpAny_bind (sliceApplied_rev hs ps ?_)
  have hno : ¬ ((((items.size : Int) - 1) == 0 && (-1 : Int) == 1 && items.size == items.size) = true) := by
    intro q
    rw [Bool.and_eq_true, Bool.and_eq_true] at q
    exact absurd q.1.2 (by decide)
  show wpAny _ _ (if (((items.size : Int) - 1) == 0 && (-1 : Int) == 1 && items.size == items.size) = true then _ else _) _ _ s
  rw [if_neg hno, pick_rev]
  first
    | exact wpAny_bind (m := Builtin.Tuple.tupleExact _) (wpAny_newObj_type (wpAny_pure ⟨_, rfl, wpAny_pure h⟩) htake)
    | exact wpAny_bind (m := Builtin.Tuple.tupleExact _) (wpAny_newObj_type (wpAny_bind (wpAny_pure (wpAny_pure ⟨_, rfl, wpAny_pure h⟩))) htake)
    | exact wpAny_bind (wpAny_bind (m := Builtin.Tuple.tupleExact _) (wpAny_newObj_type (wpAny_pure (wpAny_pure ⟨_, rfl, wpAny_pure h⟩)) htake))
    | exact wpAny_bind (wpAny_bind (m := Builtin.Tuple.tupleExact _) (wpAny_newObj_type (wpAny_pure ⟨_, rfl, wpAny_pure h⟩) htake))
end
def tRevT (K : PySem.W.Frag) (te : TE) : TE := fun σ H Q => te σ H fun x H1 => ∃ a xs, x = .ref a ∧ SqT K H1 a xs ∧ ∀ p, H1 p = none → Q (.ref p) (upd H1 p (.tup xs.reverse))
theorem pe_revT {X : Cx} {e : Expr} {te : TE} {k : Nat} {p1 p2 p3 pos : Pos} (he : PE X e te) : PE X (.Subscript e (.Slice none none (some (.UnaryOp .USub (.Constant (.int 1) k p1) p2)) p3) pos) (tRevT X.K te) := by
  refine ⟨fun pins s σ H Q I h => ?_⟩
  refine Subscript_ (thn (he.run pins s σ H _ I h) fun v s1 ⟨x, H1, I1, r1, q1⟩ => ?_)
  obtain ⟨a, xs, ex, hx, q⟩ := q1
  subst ex
  cases r1
  have hst : PO X (some (.UnaryOp .USub (.Constant (.int 1) k p1) p2)) (tPart (tUn (rU fun i => .int (-i)) (tC (.int 1)))) := po_some (pe_un un_neg pe_int)
  refine wpAny_Slice (thn (po_none.run pins s1 σ H1 (fun o H2 => o = none ∧ H2 = H1) I1 ⟨rfl, rfl⟩) fun vl s2 ⟨l, H2, I2, pl, el, e2⟩ => ?_)
  subst el e2
  refine thn (po_none.run pins s2 σ H2 (fun o H3 => o = none ∧ H3 = H2) I2 ⟨rfl, rfl⟩) fun vu s3 ⟨u, H3, I3, pu, eu, e3⟩ => ?_
  subst eu e3
  refine thn (hst.run pins s3 σ H3 (fun o H4 => o = some (-1) ∧ H4 = H3) I3 ⟨1, rfl, -1, rfl, rfl, rfl⟩) fun vs s4 ⟨o, H4, I4, ps, eo, e4⟩ => ?_
  subst eo e4
  have I5 : Inv X pins σ H4 { s4 with heap := s4.heap.push { cls := .type "slice", data := .fields #[vl, vu, vs] } } := I4.kept (t' := s4.toks) fun b ob q => Heap.get?_push_of_some _ q
  obtain ⟨its, r, ht, hz⟩ := I5.tuple hx
  have hlen := r.length
  cases pl
  cases pu
  show wpAny (model X.prog X.w) X.A (subscriptTail e (.Slice none none (some (.UnaryOp .USub (.Constant (.int 1) k p1) p2)) p3) (.ref a) (.ref s4.heap.objs.size)) (EP X pins σ Q) X.xe { s4 with heap := s4.heap.push { cls := .type "slice", data := .fields #[.none, .none, vs] } }
  refine tail_any (ops := [.ref a, .ref s4.heap.objs.size]) ht.typeIs (PyProof.Rows.slot_tuple_getitem.lookup) ?_ (by with_unfolding_all rfl)
  refine getItem_tuple_rev ht (Heap.IsSliceOf.new _ .none .none vs) ps ?_ (by rw [List.size_toArray]; omega)
  exact ⟨.ref _, _, I5.laid (t' := s4.toks) (o := .tup xs.reverse) (fun b ob q => Heap.get?_push_of_some _ q) (Nat.le_refl _) ⟨by rw [List.length_reverse]; exact hz, _, r.reverse, IsTup.new _ _⟩, rfl, q _ (I5.hok.fresh (Nat.le_refl _))⟩
theorem rev_ok {X : Cx} {P : Par} {Γ : Cx0} {e : Expr} {t : Tm} {k : Nat} {p1 p2 p3 pos : Pos} (hK : P.K = X.K) (ha : PE X e (tPl Γ P t)) : PE X (.Subscript e (.Slice none none (some (.UnaryOp .USub (.Constant (.int 1) k p1) p2)) p3) pos) (tEv Γ P (.rev t)) :=
  PE.imp (PE.or (pe_revL ha) (pe_revT ha)) fun σ H Q q => by
    obtain ⟨ψ, τ, ρ, O, l, ρ', O', r, e, kk⟩ := q
    have e' : (match plOf t (ev Γ t) (ρ, O) with
      | none => none
      | some (p, s1) => match view p s1 with
        | none => none
        | some (x, _) => match revD x with
          | none => none
          | some r => some (r, s1)) = some (l, (ρ', O')) := e
    cases e1 : plOf t (ev Γ t) (ρ, O) with
    | none => rw [e1] at e'; cases e'
    | some z1 =>
      obtain ⟨p, ρ1, O1⟩ := z1
      rw [e1] at e'
      dsimp only at e'
      cases hv : view p (ρ1, O1) with
      | none => rw [hv] at e'; cases e'
      | some z2 =>
        obtain ⟨d, s2⟩ := z2
        rw [hv] at e'
        dsimp only at e'
        cases d with
        | tup zs =>
          have e2 : some (L.dp (.tup zs.reverse), (ρ1, O1)) = some (l, (ρ', O')) := e'
          cases e2
          refine .inr ⟨ψ, τ, ρ, O, p, _, _, r, e1, fun ψ1 H1 v a1 rv => ?_⟩
          have rd := (view_ok a1.rep rv hv)
          have a2 := a1.rep.popl
          obtain ⟨b, vs, rfl, h1, h2⟩ := rd.tup
          exact ⟨b, vs, rfl, hK ▸ h1, fun q hq => kk ψ1 _ _ (Res.after (a1.trans a2) (res_tup a2.rep ((h2.mono a2.pre a2.pres).reverse) hq))⟩
        | lst zs =>
          have e2 : some (L.fr (.lst zs.reverse), (ρ1, O1)) = some (l, (ρ', O')) := e'
          cases e2
          refine .inl ⟨ψ, τ, ρ, O, p, _, _, r, e1, fun ψ1 H1 v a1 rv => ?_⟩
          have rd := (view_ok a1.rep rv hv)
          have a2 := a1.rep.popl
          obtain ⟨b, vs, rfl, h1, h2⟩ := rd.lst
          exact ⟨b, vs, rfl, .inl (.inl h1), fun q hq => kk ψ1 _ _ (Res.after (a1.trans a2) (res_lst a2.rep ((h2.mono a2.pre a2.pres).reverse) hq))⟩
        | _ => cases e'
end Fc
set_option Elab.async false
set_option linter.all false
set_option maxHeartbeats 2000000
set_option maxRecDepth 10000
/-! What the form of an expression gives. -/
namespace Fc
open PySem L2
/-- the forms that are checked -/
def okH : Expr → Bool
  | .BoolOp .. => true | .BinOp .. => true | .UnaryOp .. => true | .IfExp .. => true | .ListComp .. => true | .Compare .. => true | .Call .. => true | .JoinedStr .. => true
  | .Constant .. => true | .Attribute .. => true | .Subscript .. => true | .Name .. => true | .List .. => true | .Tuple .. => true | .Dict .. => true | _ => false
def isLC : Expr → Bool
  | .ListComp .. => true
  | _ => false
def noIf : Expr → Bool
  | .IfExp .. => false | _ => true
def noCall0 : Expr → Bool
  | .Call _ [] [] _ => false | _ => true
section
variable {X : Cx} {e : Expr} {es : List Expr} {pos : Pos}
theorem okH_star (h : okH e = true) (env : Env) : starEach (e :: es) env = (false, eval e env) :: starEach es env := by
  cases e <;> first | rfl | cases h
theorem okH_plain (h : okH e = true) : PlainIx e := fun o i => by cases e <;> first | rfl | cases h
theorem okH_behind (h : okH e = true) (op : CmpOp) : behindInMarks op e = false := by cases e <;> first | rfl | cases h
theorem okH_fold (h : okH e = true) (env : Env) (x : Value) : foldedSetIterable e env x = pure x := by cases e <;> first | rfl | cases h
theorem base_ok (h : noCall0 e = true) (f : Str) (env : Env) (whole : Sem Value) : attributeBase e f env whole = whole := by
  cases e with
  | Call g as ks p =>
    cases as with
    | nil =>
      cases ks with
      | nil => cases h
      | cons k ks => cases g <;> rfl
    | cons a as => cases g <;> rfl
  | _ => rfl
/-- not one of the forms that are tested in their own way -/
def plainT : Expr → Bool
  | .UnaryOp .Not _ _ => false | .BoolOp .. => false | .IfExp .. => false | .Compare .. => false | _ => true
theorem plainT_ok (h : plainT e = true) (env : Env) (whole : Sem Value) : isTrue e env whole = (do let v ← whole; standAt e.pos; holding [v] (truthy v)) := by
  cases e with
  | UnaryOp op x p => cases op <;> first | rfl | cases h
  | BoolOp => cases h
  | IfExp => cases h
  | Compare => cases h
  | _ => rfl
/-- no starred argument -/
theorem star_all {es : List Expr} (h : es.all okH = true) (env : Env) : (backTo pos (starEach es env)).any (·.1) = false := by
  induction es with
  | nil => rfl
  | cons e es ih =>
    rw [List.all_cons, Bool.and_eq_true] at h
    rw [okH_star h.1]
    unfold backTo
    rw [List.map_cons, List.any_cons]
    exact ih h.2
theorem star_none {es : List Expr} (h : es.all okH = true) (env : Env) : (backTo pos (starEach es env)).all (fun x => !x.1) = true := by
  induction es with
  | nil => rfl
  | cons e es ih =>
    rw [List.all_cons, Bool.and_eq_true] at h
    rw [okH_star h.1]
    unfold backTo
    rw [List.map_cons, List.all_cons]
    exact ih h.2
theorem few_ok {es : List Expr} (h : es.all okH = true) (hn : es.length < 29) (env : Env) : ((backTo pos (starEach es env)).all (fun x => !x.1) && (backToKw pos (keywordEach [] env)).all (fun x => x.1.isSome)
      && decide (es.length + ([] : List Keyword).length + (if ([] : List Keyword).isEmpty then 0 else 1) < 30)) = true := by
  rw [star_none h]
  show (true && true && decide (es.length + 0 + 0 < 30)) = true
  rw [decide_eq_true (by omega)]
  rfl
theorem meth_ht {o : Expr} {m : Str} {apos : Pos} {es : List Expr} (h : noCall0 o = true) (ha : es.all okH = true) (hn : es.length < 29) (hl : (apos.endLine == pos.line) = true) (env : Env) : eval (.Call (.Attribute o m apos) es [] pos) env = (do
      let ov ← eval o env
      standAt apos.atName
      let (f, first) ← holding [ov] (getMethod ov m (do return (← importBound o env).getD true))
      callWith pos f first (backTo pos (starEach es env)) (backToKw pos (keywordEach [] env))) := by
  rw [PySem.arm_eval_Call, base_ok h]
  have hform : methodCallForm (es.length + ([] : List Keyword).length) (backTo pos (starEach es env)) (backToKw pos (keywordEach [] env)) = true := few_ok ha hn env
  have hpos : methodCallPos true o env apos pos = pure pos := by unfold methodCallPos; simp [hl]
  unfold methodCall
  rw [hform, hpos]
  unfold calleeOf
  simp only [if_true, pure_bind]
end
end Fc
set_option Elab.async false
set_option linter.all false
set_option maxHeartbeats 4000000
set_option maxRecDepth 10000
/-! The checker: a term tells an expression. -/
namespace Fc
open PySem L2
structure Ck where
  gl : Str → Option GN
  /-- the classes that may be made, with the defaults that fill up -/
  mks : Nat → List D → Bool
  /-- names of fields, of methods, of properties -/
  fl : Str → Bool
  /-- names of keywords, in the order of the call -/
  kws : Nat → List Str → Bool
  /-- the defs that show data; whether nothing is being shown here -/
  sp : Nat → Bool
  gd : Bool
mutual
def beqD : D → D → Bool
  | .non, .non => true
  | .bl a, .bl b => a == b
  | .int a, .int b => a == b
  | .str a, .str b => a == b
  | .tup a, .tup b => beqDs a b
  | .lst a, .lst b => beqDs a b
  | _, _ => false
def beqDs : List D → List D → Bool
  | [], [] => true
  | a :: as, b :: bs => beqD a b && beqDs as bs
  | _, _ => false
end
mutual
theorem beqD_ok : ∀ {a b : D}, beqD a b = true → a = b
  | .non, b, h => by cases b <;> first | rfl | cases h
  | .bl x, b, h => by
    cases b with
    | bl y => rw [eq_of_beq (show (x == y) = true from h)]
    | _ => cases h
  | .int x, b, h => by
    cases b with
    | int y => rw [eq_of_beq (show (x == y) = true from h)]
    | _ => cases h
  | .str x, b, h => by
    cases b with
    | str y => rw [eq_of_beq (show (x == y) = true from h)]
    | _ => cases h
  | .tup x, b, h => by
    cases b with
    | tup y => rw [beqDs_ok (show beqDs x y = true from h)]
    | _ => cases h
  | .lst x, b, h => by
    cases b with
    | lst y => rw [beqDs_ok (show beqDs x y = true from h)]
    | _ => cases h
  | .ins _ _, b, h => by cases b <;> cases h
  | .dic _, b, h => by cases b <;> cases h
  | .oid _, b, h => by cases b <;> cases h
  | .fls _, b, h => by cases b <;> cases h
theorem beqDs_ok : ∀ {a b : List D}, beqDs a b = true → a = b
  | [], [], _ => rfl
  | x :: xs, y :: ys, h => by
    have h' : (beqD x y && beqDs xs ys) = true := h
    rw [Bool.and_eq_true] at h'
    rw [beqD_ok h'.1, beqDs_ok h'.2]
  | [], _ :: _, h => by cases h
  | _ :: _, [], h => by cases h
end
def beqDic : List (Key × D) → List (Key × D) → Bool
  | [], [] => true
  | (k, a) :: as, (l, b) :: bs => decide (k = l) && beqD a b && beqDic as bs
  | _, _ => false
theorem beqDic_ok : ∀ {a b : List (Key × D)}, beqDic a b = true → a = b
  | [], [], _ => rfl
  | (k, x) :: xs, (l, y) :: ys, h => by
    have h' : (decide (k = l) && beqD x y && beqDic xs ys) = true := h
    rw [Bool.and_eq_true, Bool.and_eq_true, decide_eq_true_eq] at h'
    rw [h'.1.1, beqD_ok h'.1.2, beqDic_ok h'.2]
  | [], _ :: _, h => by cases h
  | _ :: _, [], h => by cases h
def cstC : Const → D → Bool
  | .none, .non => true
  | .bool b, .bl c => b == c
  | .int i, .int j => i == j
  | .str s, .str t => s == t
  | _, _ => false
def bopOk : BOp → Operator → Bool
  | .add, .Add => true | .sub, .Sub => true | .mul, .Mult => true | .fdiv, .FloorDiv => true | .mod, .Mod => true | .pow, .Pow => true | .and, .BitAnd => true
  | _, _ => false
def copOk : COp → CmpOp → Bool
  | .eq, .Eq => true | .ne, .NotEq => true | .lt, .Lt => true | .le, .LtE => true | .gt, .Gt => true | .ge, .GtE => true | .is, .Is => true | .isn, .IsNot => true | .inn, .In => true | .nin, .NotIn => true
  | _, _ => false
def visB (sc : Scope) (x : Str) : Bool := match sc.names.lookup x with
  | some .local => true | some .cell => true | some .free => true | _ => false
def glB (sc : Scope) (x : Str) : Bool := match sc.names.lookup x with
  | some .globalImplicit => !(x == ("__debug__" : Str)) | _ => false
/-- a name of a slot -/
def varB (N : List Str) (sc : Scope) (i : Nat) (x : Str) : Bool := N[i]? == some x && visB sc x && !(x == ("__debug__" : Str)) && !(x == ("__classdict__" : Str))
/-- .. that may be stored -/
def stoB (N : List Str) (sc : Scope) (fl : Str → Bool) (i : Nat) (x : Str) : Bool := N[i]? == some x && (match sc.names.lookup x with
  | some .local => true | some .cell => fl x | _ => false)
def isRepr : Blt → Bool
  | .repr => true
  | _ => false
def bltB : Blt → Option (String × Bool)
  | .abs => some ("abs", false) | .all => some ("all", false) | .any => some ("any", false) | .divmod => some ("divmod", false) | .max => some ("max", false) | .min => some ("min", false) | .sum => some ("sum", false)
  | .repr => some ("repr", false)
  | .int => some ("int", true) | .str => some ("str", true) | .list => some ("list", true) | .tuple => some ("tuple", true)
  | _ => none
def smN : SM → Option String
  | .split => some "split" | .join => some "join" | .partition => some "partition" | _ => none
def tyN : Ty → Option String
  | .int => some "int" | .bool => some "bool" | .str => some "str" | .tup => some "tuple" | .lst => some "list" | .cls _ => none
/-- the scope of a block as it is read -/
def relS (scope sc : Scope) : Scope := { scope with names := scope.names.map fun (n, k) => if (k == .free && sc.kind == .function && sc.names.lookup n == some .cell) then (n, .cell) else (n, k) }
theorem relS_ok (scope : Scope) (env : Env) : relabel scope env = relS scope env.scope := rfl
/-- BlkOk, decided -/
def blkB (N : List Str) (sc scope : Scope) (own : List (Str × Nat)) : Bool :=
  (match scope.kind with | .function => true | _ => false) && scope.names.all (fun y => scope.names.lookup y.1 == some y.2) && own.all (fun p => N[p.2]? == some p.1) &&
  scope.names.all (fun y => match y.2 with | .free => (sc.names.lookup y.1 == some .cell || sc.names.lookup y.1 == some .free) | _ => true) &&
  scope.names.all (fun y => match y.2 with | .local => ((own.map (·.1)).contains y.1 || !N.contains y.1) | .cell => ((own.map (·.1)).contains y.1 || !N.contains y.1) | _ => true)
/-- the block's own names with their slots -/
def ownOf (N : List Str) (vs : List Nat) : List (Str × Nat) := vs.map fun v => (N.getD v ⟨#[]⟩, v)
def isTxt : Tm → Str → Bool
  | .cst (.str s'), s => s == s'
  | _, _ => false
def isTupE : Expr → Bool
  | .Tuple .. => true
  | _ => false
def isGetM : SM → Bool
  | .get => true
  | _ => false
def dicOk (C : Ck) (x : Str) : Tm → Bool
  | .cst (.dic ps) => (match C.gl x with
    | some (.dic ps') => beqDic ps ps'
    | _ => false)
  | _ => false
def isYes : Tm → Bool
  | .cst (.bl true) => true
  | _ => false
def fstB : List Expr → Bool
  | [] => false
  | [.FormattedValue _ _ _ _] => true
  | [_] => false
  | _ => true
def isNon : Tm → Bool
  | .cst .non => true
  | _ => false
section
variable (C : Ck) (N : List Str)
mutual
def chkG (sc : Scope) (fl : Str → Bool) : Tg → Expr → Bool
  | .nm i, e => match e with
    | .Name x _ => stoB N sc fl i x
    | _ => false
  | .tp ts, e => match e with
    | .Tuple es _ _ => chkGs sc fl ts es
    | _ => false
def chkGs (sc : Scope) (fl : Str → Bool) : Tgs → List Expr → Bool
  | .nil, es => es.isEmpty
  | .cons t ts, es => match es with
    | e :: es => chkG sc fl t e && chkGs sc fl ts es
    | [] => false
end
mutual
def chkE (sc : Scope) : Tm → Expr → Bool
  | .var i, e => match e with
    | .Name x _ => varB N sc i x
    | _ => false
  | .cst d, e => match e with
    | .Name x _ => glB sc x && (match C.gl x with
      | some (.cst d') => beqD d d'
      | _ => false)
    | .Constant c _ _ => cstC c d
    | _ => false
  | .bin op a b, e => match e with
    | .BinOp a' po b' _ => bopOk op po && chkE sc a a' && chkE sc b b'
    | _ => false
  | .neg a, e => match e with
    | .UnaryOp .USub a' _ => chkE sc a a'
    | _ => false
  | .cmp op a b, e => match e with
    | .Compare a' [po] [b'] _ => copOk op po && chkE sc a a' && chkE sc b b'
    | _ => false
  | .chain o1 o2 a b c, e => match e with
    | .Compare a' [p1, p2] [b', c'] _ => copOk o1 p1 && copOk o2 p2 && chkE sc a a' && chkE sc b b' && chkE sc c c'
    | _ => false
  | .and a b, e => match e with
    | .BoolOp .And (x :: y :: rest) pos => noIf x && chkE sc a x && (match rest with
      | [] => noIf y && chkE sc b y
      | _ :: _ => chkE sc b (.BoolOp .And (y :: rest) pos))
    | _ => false
  | .or a b, e => match e with
    | .BoolOp .Or (x :: y :: rest) pos => noIf x && chkE sc a x && (match rest with
      | [] => noIf y && chkE sc b y
      | _ :: _ => chkE sc b (.BoolOp .Or (y :: rest) pos))
    | _ => false
  | .not a, e => match e with
    | .UnaryOp .Not a' _ => noIf a' && chkE sc a a'
    | _ => false
  | .ife c a b, e => match e with
    | .IfExp c' a' b' _ => noIf c' && chkE sc c c' && chkE sc a a' && chkE sc b b'
    | _ => false
  | .tup xs, e => match e with
    | .Tuple es _ _ => chks sc xs es
    | _ => false
  | .lst xs, e => match e with
    | .List es _ => chks sc xs es
    | _ => false
  | .idx a i, e => match e with
    | .Subscript a' i' _ => chkE sc a a' && chkE sc i i'
    | _ => false
  | .slc a lo hi, e => match e with
    | .Subscript a' (.Slice lo' hi' none _) _ => chkE sc a a' && (match lo' with
      | none => isNon lo
      | some l => !isNon lo && chkE sc lo l) && (match hi' with
      | none => isNon hi
      | some h => !isNon hi && chkE sc hi h)
    | _ => false
  | .rev a, e => match e with
    | .Subscript a' (.Slice none none (some (.UnaryOp .USub (.Constant (.int i) _ _) _)) _) _ => i == 1 && chkE sc a a'
    | _ => false
  | .call f md pm xs, e => match e with
    | .Call (.Name x _) es [] _ => pm.isEmpty && glB sc x && (match C.gl x with
      | some (.fn g) => g == f
      | _ => false) && es.all okH && chks sc xs es && (C.gd || !C.sp f)
    | .Call (.Name x _) [] [⟨some a, e1, _⟩, ⟨some b, e2, _⟩] _ => md.isEmpty && pm == [1, 0] && glB sc x && (match C.gl x with
      | some (.fn g) => g == f
      | _ => false) && C.kws f [a, b] && [e1, e2].all okH && chks sc xs [e1, e2] && !C.sp f
    | _ => false
  | .make c dds xs, e => match e with
    | .Call (.Name x _) (e0 :: es) [] _ => glB sc x && (match C.gl x with
      | some (.cls g) => g == c
      | _ => false) && C.mks c dds && (e0 :: es).all okH && chks sc xs (e0 :: es)
    | _ => false
  | .meth m o xs, e => match e with
    | .Call (.Attribute o' m' apos) es [] pos => m == m' && noCall0 o' && apos.endLine == pos.line && es.all okH && decide (es.length < 29) && chkE sc o o' && chks sc xs es
    | _ => false
  | .prp f o, e => match e with
    | .Attribute o' f' _ => f == f' && noCall0 o' && chkE sc o o'
    | _ => false
  | .fld f o, e => match e with
    | .Attribute o' f' _ => f == f' && C.fl f && noCall0 o' && chkE sc o o'
    | _ => false
  | .isi k a, e => match e with
    | .Call (.Name x _) [a', .Name y _] [] _ => x == ("isinstance" : Str) && glB sc x && chkE sc a a' && glB sc y && (match k with
      | .cls c => (match C.gl y with
        | some (.cls g) => g == c
        | _ => false)
      | k => (match tyN k with
        | some n => y == Str.ofString n
        | none => false))
    | _ => false
  | .len a, e => match e with
    | .Call (.Name x _) [a'] [] _ => x == ("len" : Str) && glB sc x && chkE sc a a'
    | _ => false
  | .blt b xs, e => match e with
    | .Call (.Name x _) (e0 :: es) [] _ => glB sc x && (match bltB b with
      | some (n, _) => x == Str.ofString n
      | none => false) && (e0 :: es).all okH && chks sc xs (e0 :: es) && (C.gd || !isRepr b)
    | _ => false
  | .sme m o xs, e => match e with
    | .Call (.Attribute o' m' apos) [a'] [] pos => (match smN m with
      | some n => m' == Str.ofString n
      | none => false) && noCall0 o' && apos.endLine == pos.line && okH a' && chkE sc o o' && chks sc xs [a']
    | .Call (.Attribute (.Name x _) m' apos) [a', b'] [] pos => isGetM m && m' == ("get" : Str) && dicOk C x o && glB sc x && apos.endLine == pos.line && okH a' && okH b' && chks sc xs [a', b']
    | _ => false
  | .fst xs, e => match e with
    | .JoinedStr vs _ => fstB vs && chkF sc xs vs
    | _ => false
  | .lc vs tg it c t, e => match e with
    | .ListComp elt [⟨tg', iter, ifs, 0⟩] scope _ => blkB N sc scope (ownOf N vs) && (tgIx tg).all vs.contains && chkI sc it tg' iter && chkG N (relS scope sc) (fun x => scope.names.lookup x == some .cell) tg tg' && (match ifs with
      | [] => isYes c
      | [c'] => noIf c' && chkE (relS scope sc) c c'
      | _ => false) && chkE (relS scope sc) t elt
    | _ => false
  | .lc2 vs vs1 tg it tg1 it1 t, e => match e with
    | .ListComp elt [⟨tg', iter, [], 0⟩, ⟨tg1', iter1, [], 0⟩] scope _ => blkB N sc scope (ownOf N vs) && (tgIx tg).all vs.contains && (tgIx tg1).all vs1.contains && vs1.all vs.contains && chkI sc it tg' iter && chkG N (relS scope sc) (fun x => scope.names.lookup x == some .cell) tg tg' &&
      chkI (relS scope sc) it1 tg1' iter1 && chkG N (relS scope sc) (fun x => scope.names.lookup x == some .cell) tg1 tg1' && chkE (relS scope sc) t elt
    | _ => false
  | .cmeth c m xs, e => match e with
    | .Call (.Attribute (.Name x _) m' apos) (e0 :: es) [] pos => m == m' && glB sc x && (match C.gl x with
      | some (.cls g) => g == c
      | _ => false) && apos.endLine == pos.line && (e0 :: es).all okH && decide ((e0 :: es).length < 29) && chks sc xs (e0 :: es)
    | _ => false
  | .dnew, e => match e with
    | .Dict [] [] _ => true
    | _ => false
  | .lzip a b, e => match e with
    | .Call (.Name x _) [.Call (.Name y _) [a', b'] [] _] [] _ => x == ("list" : Str) && glB sc x && y == ("zip" : Str) && glB sc y && chkE sc a a' && chkE sc b b'
    | _ => false
  | .nil, e => okH e
def chks (sc : Scope) : Tms → List Expr → Bool
  | .nil, es => es.isEmpty
  | .cons t ts, es => match es with
    | e :: es => chkE sc t e && chks sc ts es
    | [] => false
  | .star t ts, es => match es with
    | .Starred e _ :: es => chkE sc t e && chks sc ts es
    | _ => false
def chkF (sc : Scope) : Tms → List Expr → Bool
  | .nil, es => es.isEmpty
  | .cons t ts, es => match es with
    | .Constant (.str s) _ _ :: es => isTxt t s && chkF sc ts es
    | .FormattedValue e cv none _ :: es => cv == -1 && chkE sc t e && chkF sc ts es
    | _ => false
  | .star _ _, _ => false
def chkI (sc : Scope) : It → Expr → Expr → Bool
  | .seq t, tg, e => okH e && chkE sc t e
  | .range1 a, tg, e => match e with
    | .Call (.Name x _) [a'] [] _ => x == ("range" : Str) && glB sc x && chkE sc a a'
    | _ => false
  | .range2 a b, tg, e => match e with
    | .Call (.Name x _) [a', b'] [] _ => x == ("range" : Str) && glB sc x && chkE sc a a' && chkE sc b b'
    | _ => false
  | .range3 a b c, tg, e => match e with
    | .Call (.Name x _) [a', b', c'] [] _ => x == ("range" : Str) && glB sc x && chkE sc a a' && chkE sc b b' && chkE sc c c'
    | _ => false
  | .enum a, tg, e => match e with
    | .Call (.Name x _) [a'] [] _ => x == ("enumerate" : Str) && glB sc x && chkE sc a a' && isTupE tg
    | _ => false
  | .zip a b, tg, e => match e with
    | .Call (.Name x _) [a', b'] [] _ => x == ("zip" : Str) && glB sc x && chkE sc a a' && chkE sc b b' && isTupE tg
    | _ => false
end
end
end Fc
set_option Elab.async false
set_option linter.all false
set_option maxHeartbeats 2000000
set_option maxRecDepth 100000
/-! list(zip(a, b)) of two tuples. -/
namespace Fc
open PySem PySem.Spec PyProof.Rows L2
theorem zip_no_len : typeLookup (.type "zip") "__len__" = pure none := by rw [typeLookup_type, builtinLookup_eq_fast]; kernel_rfl
theorem zip_no_hint : typeLookup (.type "zip") "__length_hint__" = pure none := by rw [typeLookup_type, builtinLookup_eq_fast]; kernel_rfl
section
variable {prog : Program} {w : World} {A : Around} {E : Value → Shared → Prop} {s : Shared}
theorem zipT_next_item_held {z TI TO T i1 i2 l1 l2 : Addr} {f : Bool} {oT : Obj} {k1 k2 : Nat} {xs ys : Array Value} {x y : Value} {Q : Value → Shared → Prop} (D : ZipApart z TI TO i1 i2 l1 l2)
    (hz : IsZipHeld s.heap z TI TO T f) (hT : s.heap.get? T = some oT) (hTI : IsPair s.heap TI (.ref i1) (.ref i2))
    (h1 : s.heap.IsTupleIter i1 l1 k1) (h2 : s.heap.IsTupleIter i2 l2 k2) (hl1 : s.heap.IsTuple l1 xs) (hl2 : s.heap.IsTuple l2 ys) (hx : xs[k1]? = some x) (hy : ys[k2]? = some y)
    (hQ : ∀ h', IsZipHeld h' z TI TO T true → h'.IsTupleIter i1 l1 (k1 + 1) → h'.IsTupleIter i2 l2 (k2 + 1) → IsPair h' s.heap.objs.size x y → h'.objs.size = s.heap.objs.size + 1 →
      (∀ c o, c ≠ z → c ≠ i1 → c ≠ i2 → s.heap.get? c = some o → h'.get? c = some o) → Q (.ref s.heap.objs.size) { s with heap := h' }) :
    wpAny (model prog w) A (Builtin.«zip.__next__» ⟨[.ref z], []⟩) (fun fin s' => ∃ v, fin = .done (.ret v) ∧ Q v s') E s := by
  show wpAny _ _ (field (.ref z) 2 >>= _) _ _ _
  refine wpAny_bind (wpAny_field hz rfl (x := .bool false) rfl ?_)
  show wpAny _ _ (field (.ref z) 3 >>= _) _ _ _
  refine wpAny_bind (wpAny_field hz rfl (x := .ref TI) rfl ?_)
  refine wpAny_bind (wpAny_seqItems hTI rfl ?_)
  show wpAny _ _ (Builtin.SmallTypes.ownedTupleIsFree (.ref z) >>= _) _ _ _
  refine wpAny_bind (wpAny_tupleHeld_zip hz hT fun h₁ hz₁ hs₁ => ?_)
  simp only [Bool.false_eq_true, if_false]
  refine wpAny_bind ?_
  rw [← Array.forIn_toList]
  simp only [List.forIn_cons, List.forIn_nil]
  refine wpAny_bind (wpAny_bind (wpAny_holding ?_))
  show wpAny _ _ (Builtin.SmallTypes.nextOf (.ref i1) >>= _) _ _ _
  refine wpAny_bind (RZ.nextOf_tuple_item (s := { s with heap := h₁ }) (h1.extBut hs₁.extBut D.i1z) (hl1.extBut hs₁.extBut D.l1z) hx fun h₂ h1₂ hs₂ => wpAny_pure ?_)
  refine wpAny_pure ?_
  refine wpAny_bind (wpAny_bind (wpAny_holding ?_))
  show wpAny _ _ (Builtin.SmallTypes.nextOf (.ref i2) >>= _) _ _ _
  refine wpAny_bind (RZ.nextOf_tuple_item (s := { s with heap := h₂ }) ((h2.extBut hs₁.extBut D.i2z).extBut hs₂.extBut D.i12.symm) ((hl2.extBut hs₁.extBut D.l2z).extBut hs₂.extBut D.l2i1) hy fun h₃ h2₃ hs₃ => wpAny_pure ?_)
  refine wpAny_pure (wpAny_pure ?_)
  show wpAny _ _ (newTuple [x, y] >>= _) _ _ _
  refine wpAny_bind (wpAny_newTuple ?_)
  have hsz : h₃.objs.size = s.heap.objs.size := by rw [hs₃.1, hs₂.1, hs₁.1]
  have hz₃ : IsZipHeld h₃ z TI TO T true := hs₃.extBut _ _ D.i2z.symm (hs₂.extBut _ _ D.i1z.symm hz₁)
  have hk : ∀ c o, c ≠ z → c ≠ i1 → c ≠ i2 → s.heap.get? c = some o → h₃.get? c = some o := fun c o c1 c2 c3 e => hs₃.extBut _ _ c3 (hs₂.extBut _ _ c2 (hs₁.extBut _ _ c1 e))
  have h1₃ : h₃.IsTupleIter i1 l1 (k1 + 1) := h1₂.extBut hs₃.extBut D.i12
  refine wpAny_pure ⟨_, rfl, ?_⟩
  show Q (.ref h₃.objs.size) _
  have hp : IsPair (h₃.push { cls := .type "tuple", data := .seq #[x, y] }) h₃.objs.size x y := Heap.get?_push_size _ rfl
  have hz4 : (h₃.push { cls := .type "tuple", data := .seq #[x, y] }).objs.size = h₃.objs.size + 1 := Heap.size_push ..
  rw [hsz] at hp hz4 ⊢
  exact hQ _ (Heap.get?_push_of_some _ hz₃) (h1₃.at fun o e => Heap.get?_push_of_some _ e) (h2₃.at fun o e => Heap.get?_push_of_some _ e) hp hz4 fun c o c1 c2 c3 e => Heap.get?_push_of_some _ (hk c o c1 c2 c3 e)
theorem zipT_next_end_held {z TI TO T i1 i2 l1 l2 : Addr} {f : Bool} {oT : Obj} {k1 k2 : Nat} {xs ys : Array Value} {Q : Fin → Shared → Prop} (hh : A.handled = none) (D : ZipApart z TI TO i1 i2 l1 l2)
    (hz : IsZipHeld s.heap z TI TO T f) (hT : s.heap.get? T = some oT) (hTI : IsPair s.heap TI (.ref i1) (.ref i2))
    (h1 : s.heap.IsTupleIter i1 l1 k1) (h2 : s.heap.IsTupleIter i2 l2 k2) (hl1 : s.heap.IsTuple l1 xs) (hl2 : s.heap.IsTuple l2 ys) (hend : xs[k1]? = none ∨ ys[k2]? = none)
    (hE : ∀ h' e, (∀ c o, c ≠ z → c ≠ i1 → c ≠ i2 → s.heap.get? c = some o → h'.get? c = some o) → (∃ o, h'.get? e = some o ∧ o.cls = .type "StopIteration") → E (.ref e) { s with heap := h' }) :
    wpAny (model prog w) A (Builtin.«zip.__next__» ⟨[.ref z], []⟩) Q E s := by
  show wpAny _ _ (field (.ref z) 2 >>= _) _ _ _
  refine wpAny_bind (wpAny_field hz rfl (x := .bool false) rfl ?_)
  show wpAny _ _ (field (.ref z) 3 >>= _) _ _ _
  refine wpAny_bind (wpAny_field hz rfl (x := .ref TI) rfl ?_)
  refine wpAny_bind (wpAny_seqItems hTI rfl ?_)
  show wpAny _ _ (Builtin.SmallTypes.ownedTupleIsFree (.ref z) >>= _) _ _ _
  refine wpAny_bind (wpAny_tupleHeld_zip hz hT fun h₁ hz₁ hs₁ => ?_)
  simp only [Bool.false_eq_true, if_false]
  refine wpAny_bind ?_
  rw [← Array.forIn_toList]
  simp only [List.forIn_cons, List.forIn_nil]
  refine wpAny_bind (wpAny_bind (wpAny_holding ?_))
  show wpAny _ _ (Builtin.SmallTypes.nextOf (.ref i1) >>= _) _ _ _
  cases hx : xs[k1]? with
  | none =>
    refine wpAny_bind (RZ.nextOf_tuple_end (s := { s with heap := h₁ }) hh (h1.extBut hs₁.extBut D.i1z) (hl1.extBut hs₁.extBut D.l1z) hx fun h₂ e hs₂ he => ?_)
    exact hE h₂ e (fun c o c1 c2 _ x => hs₂ _ _ c2 (hs₁.extBut _ _ c1 x)) he
  | some x =>
    have hy : ys[k2]? = none := by rcases hend with h | h; rw [hx] at h; cases h; exact h
    refine wpAny_bind (RZ.nextOf_tuple_item (s := { s with heap := h₁ }) (h1.extBut hs₁.extBut D.i1z) (hl1.extBut hs₁.extBut D.l1z) hx fun h₂ h1₂ hs₂ => wpAny_pure ?_)
    refine wpAny_pure ?_
    refine wpAny_bind (wpAny_bind (wpAny_holding ?_))
    show wpAny _ _ (Builtin.SmallTypes.nextOf (.ref i2) >>= _) _ _ _
    refine wpAny_bind (RZ.nextOf_tuple_end (s := { s with heap := h₂ }) hh ((h2.extBut hs₁.extBut D.i2z).extBut hs₂.extBut D.i12.symm) ((hl2.extBut hs₁.extBut D.l2z).extBut hs₂.extBut D.l2i1) hy fun h₃ e hs₃ he => ?_)
    exact hE h₃ e (fun c o c1 c2 c3 x => hs₃ _ _ c3 (hs₂.extBut _ _ c2 (hs₁.extBut _ _ c1 x))) he
/-- what a zip of two tuples stands at -/
def ZSt (h : Heap) (z TI TO i1 i2 a b : Addr) (k : Nat) : Prop := IsPair h TI (.ref i1) (.ref i2) ∧ h.IsTupleIter i1 a k ∧ h.IsTupleIter i2 b k ∧
  ((IsZip h z TI TO .none ∧ ∃ x y, IsPair h TO x y) ∨ ∃ T f, IsZipHeld h z TI TO T f ∧ ∃ oT, h.get? T = some oT)
theorem pyNext_zs_item {z TI TO i1 i2 l1 l2 : Addr} {k : Nat} {xs ys : Array Value} {x y : Value} {Q : Option Value → Shared → Prop} (D : ZipApart z TI TO i1 i2 l1 l2)
    (st : ZSt s.heap z TI TO i1 i2 l1 l2 k) (hl1 : s.heap.IsTuple l1 xs) (hl2 : s.heap.IsTuple l2 ys) (hx : xs[k]? = some x) (hy : ys[k]? = some y)
    (hQ : ∀ h', ZSt h' z TI TO i1 i2 l1 l2 (k + 1) → IsPair h' s.heap.objs.size x y → h'.objs.size = s.heap.objs.size + 1 →
      (∀ c o, c ≠ z → c ≠ TO → c ≠ i1 → c ≠ i2 → s.heap.get? c = some o → h'.get? c = some o) → Q (some (.ref s.heap.objs.size)) { s with heap := h' }) :
    wpAny (model prog w) A (pyNext (.ref z)) Q E s := by
  obtain ⟨hTI, h1, h2, st⟩ := st
  rcases st with ⟨hz, a, b, hTO⟩ | ⟨T, f, hz, oT, hT⟩
  · refine RZ.pyNext_zipT_item D hz hTI hTO h1 h2 hl1 hl2 hx hy fun h' z' TO' h1' h2' hp hs hk => hQ h' ⟨?_, h1', h2', .inr ⟨_, false, z', _, hp⟩⟩ hp hs hk
    exact hk _ _ D.TIz D.TITO D.TIi1 D.TIi2 hTI
  · have hTy : s.TypeIs (.ref z) "zip" := ⟨_, hz, rfl⟩
    have hTlt : T < s.heap.objs.size := Heap.lt_size hT
    have hzT : ∀ c, c ≠ z → c ≠ i1 → c ≠ i2 → True := fun _ _ _ _ => trivial
    unfold pyNext
    refine wpAny_bind (wpAny_attempt (wpAny_callSpecial?_slot (name := Str.ofString "__next__") hTy F.slot_zip_next
      (wpAny_call_entry F.slot_zip_next hTy F.entry_zip_next
        (zipT_next_item_held D hz hT hTI h1 h2 hl1 hl2 hx hy fun h' z' h1' h2' hp hs hk => wpAny_pure (hQ h' ⟨?_, h1', h2', .inr ⟨T, true, z', ?_⟩⟩ hp hs (fun c o c1 c2 c3 c4 e => hk c o c1 c3 c4 e))) (F.args_zip_next_1 _))))
    · exact hk _ _ D.TIz D.TIi1 D.TIi2 hTI
    · by_cases q1 : T = z
      · subst q1; exact ⟨_, z'⟩
      · by_cases q2 : T = i1
        · obtain ⟨o, ho, _⟩ := h1'
          exact ⟨o, q2 ▸ ho⟩
        · by_cases q3 : T = i2
          · obtain ⟨o, ho, _⟩ := h2'
            exact ⟨o, q3 ▸ ho⟩
          · exact ⟨oT, hk T oT q1 q2 q3 hT⟩
theorem pyNext_zs_end {z TI TO i1 i2 l1 l2 : Addr} {k : Nat} {xs ys : Array Value} {Q : Option Value → Shared → Prop} (hh : A.in1.handled = none) (D : ZipApart z TI TO i1 i2 l1 l2)
    (st : ZSt s.heap z TI TO i1 i2 l1 l2 k) (hl1 : s.heap.IsTuple l1 xs) (hl2 : s.heap.IsTuple l2 ys) (hend : xs[k]? = none ∨ ys[k]? = none)
    (hQ : ∀ h', (∀ c o, c ≠ z → c ≠ TO → c ≠ i1 → c ≠ i2 → s.heap.get? c = some o → h'.get? c = some o) → Q none { s with heap := h' }) :
    wpAny (model prog w) A (pyNext (.ref z)) Q E s := by
  obtain ⟨hTI, h1, h2, st⟩ := st
  rcases st with ⟨hz, a, b, hTO⟩ | ⟨T, f, hz, oT, hT⟩
  · exact RZ.pyNext_zipT_end hh D hz hTI hTO h1 h2 hl1 hl2 hend hQ
  · have hTy : s.TypeIs (.ref z) "zip" := ⟨_, hz, rfl⟩
    unfold pyNext
    refine wpAny_bind (wpAny_attempt (wpAny_callSpecial?_slot (name := Str.ofString "__next__") hTy F.slot_zip_next
      (wpAny_call_entry F.slot_zip_next hTy F.entry_zip_next (zipT_next_end_held hh D hz hT hTI h1 h2 hl1 hl2 hend fun h' e hk he => ?_) (F.args_zip_next_1 _))))
    obtain ⟨o, ho, hc⟩ := he
    refine wpAny_bind (wpAny_isInstance (T := "StopIteration") (b := true) ⟨o, ho, hc⟩ isSubtype_stop ?_)
    exact wpAny_pure (hQ _ fun c o c1 c2 c3 c4 e => hk c o c1 c3 c4 e)
theorem ZSt.type {z TI TO i1 i2 a b : Addr} {k : Nat} (h : ZSt s.heap z TI TO i1 i2 a b k) : s.TypeIs (.ref z) "zip" := by
  obtain ⟨_, _, _, ⟨hz, _⟩ | ⟨T, f, hz, _⟩⟩ := h
  · exact ⟨_, hz, rfl⟩
  · exact ⟨_, hz, rfl⟩
end
section
variable {X : Cx} {pins : List (Addr × Obj)} {σ : L2.St} {A1 : Around}
theorem zl_loop {z TI TO i1 i2 a b q : Addr} {xs ys : List V} {n : Nat} {P : Nat → List V → Hp → Prop} {Rs : Result → Shared → Prop} (D : ZipApart z TI TO i1 i2 a b) (hA : A1.in1.in1.handled = none)
    (hn : n = min xs.length ys.length) (hz : n ≤ sizeLine)
    (hP : ∀ i acc H, P i acc H → SqT X.K H a xs ∧ SqT X.K H b ys ∧ H q = some (.lst acc) ∧ acc.length = i)
    (hstep : ∀ i acc H x y T, P i acc H → xs[i]? = some x → ys[i]? = some y → H T = none → P (i + 1) (acc ++ [.ref T]) (upd (upd H T (.tup [x, y])) q (.lst (acc ++ [.ref T]))))
    (hdone : ∀ acc H s, Inv X pins σ H s → P n acc H → Rs (.ok (.ret .none)) s) :
    ∀ (m i : Nat) (acc : List V) (H : Hp) (s : Shared), m = n - i → i ≤ n → Inv X pins σ H s → P i acc H → ZSt s.heap z TI TO i1 i2 a b i → (∀ c ∈ [z, TI, TO, i1, i2], FpOk X pins H c ∧ c < s.heap.objs.size) →
      codeAny (model X.prog X.w) A1 (.builtin "list.extend.loop" ⟨[.ref q, .ref z, .none], []⟩) Rs s := by
  intro m
  induction m with
  | zero =>
    intro i acc H s hm hi I hp st hf
    refine codeAny_builtin PySem.F.entry_extend_loop ?_
    rw [Around.under_plainId PySem.F.plain_extend_loop _]
    show wpAny _ A1.in1 (pyNext (.ref z) >>= _) _ _ s
    obtain ⟨q1, q2, q3, q4⟩ := hP i acc H hp
    obtain ⟨its, rv, p, _⟩ := I.tuple q1
    obtain ⟨its2, rv2, p2, _⟩ := I.tuple q2
    have l1 := rv.length
    have l2 := rv2.length
    have hin : i = n := by omega
    subst hin
    have he : its.toArray[i]? = none ∨ its2.toArray[i]? = none := by
      by_cases c : xs.length ≤ ys.length
      · exact .inl (by simp; omega)
      · exact .inr (by simp; omega)
    refine wpAny_bind (pyNext_zs_end hA D st p p2 he fun h' hk => wpAny_pure ?_)
    exact hdone acc H _ (I.turnedL (t' := s.toks) (ch := [z, TI, TO, i1, i2]) (fun c o hb q => hk c o (fun q' => hb (by simp [q'])) (fun q' => hb (by simp [q'])) (fun q' => hb (by simp [q'])) (fun q' => hb (by simp [q'])) q) fun c hc => (hf c hc).1) hp
  | succ m ih =>
    intro i acc H s hm hi I hp st hf
    refine codeAny_builtin PySem.F.entry_extend_loop ?_
    rw [Around.under_plainId PySem.F.plain_extend_loop _]
    show wpAny _ A1.in1 (pyNext (.ref z) >>= _) _ _ s
    obtain ⟨q1, q2, q3, q4⟩ := hP i acc H hp
    obtain ⟨its, rv, p, _⟩ := I.tuple q1
    obtain ⟨its2, rv2, p2, _⟩ := I.tuple q2
    obtain ⟨x, hx⟩ : ∃ x, xs[i]? = some x := ⟨xs[i]'(by omega), by simp⟩
    obtain ⟨y, hy⟩ : ∃ y, ys[i]? = some y := ⟨ys[i]'(by omega), by simp⟩
    obtain ⟨u, hu, ru⟩ := rv.get hx
    obtain ⟨u2, hu2, ru2⟩ := rv2.get hy
    have hfresh : H s.heap.objs.size = none := I.hok.fresh (Nat.le_refl _)
    refine wpAny_bind (pyNext_zs_item D st p p2 (x := u) (y := u2) (by simpa using hu) (by simpa using hu2) fun h' st' hT hsz hk => ?_)
    have new : ObjOk X.prog X.w (upd H s.heap.objs.size (.tup [x, y])) h' s.heap.objs.size (.tup [x, y]) :=
      ⟨by show 2 ≤ sizeLine; decide, [u, u2], .cons ru (.cons ru2 .nil), ⟨_, hT, rfl, _, rfl⟩⟩
    have I1 : Inv X pins σ (upd H s.heap.objs.size (.tup [x, y])) { s with heap := h' } :=
      I.turnedNew (t' := s.toks) (ch := [z, TI, TO, i1, i2]) (fun c o hb q => hk c o (fun q' => hb (by simp [q'])) (fun q' => hb (by simp [q'])) (fun q' => hb (by simp [q'])) (fun q' => hb (by simp [q'])) q) (fun c hc => (hf c hc).1) (Nat.le_refl _) new
    have hqT : q ≠ s.heap.objs.size := ne_of_none q3 hfresh
    have hq1 : upd H s.heap.objs.size (.tup [x, y]) q = some (.lst acc) := by rw [upd_ne hqT]; exact q3
    show wpAny _ A1.in1 (updateSeq q (·.push (.ref s.heap.objs.size)) >>= _) _ _ _
    obtain ⟨z0, its0, k0, r0, hl0, e0⟩ := I1.lstM hq1
    have hacc : acc.length < sizeLine := by omega
    refine wpAny_bind (wpAny_updateSeq e0 rfl (wpAny_pure ⟨plainId_quiet PySem.F.plain_extend_loop _, ?_⟩) (by rw [List.size_toArray]; omega) (by show (its0.toArray.push _).size ≤ sizeLine + 1; rw [Array.size_push, List.size_toArray]; omega))
    have I2 := I1.lset (f := (·.push (.ref s.heap.objs.size))) (its' := its0 ++ [.ref s.heap.objs.size]) (ys := acc ++ [.ref s.heap.objs.size]) (t' := s.toks) hq1 e0 (by simp) (r0.append (.cons (show L2.RelV (V.ref s.heap.objs.size) (Value.ref s.heap.objs.size) from rfl) .nil)) (by rw [List.length_append, List.length_singleton]; omega)
    have old : ∀ c ∈ [z, TI, TO, i1, i2], c ≠ q ∧ c ≠ s.heap.objs.size := fun c hc => by
      exact ⟨(ne_of_none q3 (hf c hc).1.1).symm, Nat.ne_of_lt (hf c hc).2⟩
    have up : ∀ c o, c ≠ q → h'.get? c = some o → (h'.update q (Obj.mapSeq (·.push (.ref s.heap.objs.size)))).get? c = some o := fun c o hc e => (Heap.get?_update_other _ _ (Ne.symm hc)).trans e
    refine ih (i + 1) _ _ _ (by omega) (by omega) I2 (hstep i acc H x y _ hp hx hy hfresh) ?_ fun c hc => ?_
    · obtain ⟨a1, a2, a3, a4⟩ := st'
      refine ⟨up _ _ (old TI (by simp)).1 a1, a2.at fun o e => up _ o (old i1 (by simp)).1 e, a3.at fun o e => up _ o (old i2 (by simp)).1 e, ?_⟩
      rcases a4 with ⟨b1, x', y', b2⟩ | ⟨T, f, b1, oT, b2⟩
      · exact .inl ⟨up _ _ (old z (by simp)).1 b1, x', y', up _ _ (old TO (by simp)).1 b2⟩
      · refine .inr ⟨T, f, up _ _ (old z (by simp)).1 b1, ?_⟩
        by_cases c : T = q
        · subst c
          exact ⟨_, PySem.IsL.update e0 _⟩
        · exact ⟨oT, up T oT c b2⟩
    · obtain ⟨o1, o2⟩ := old c hc
      obtain ⟨⟨f0, f1⟩, f2⟩ := hf c hc
      refine ⟨⟨by rw [upd_ne o1, upd_ne o2]; exact f0, f1⟩, ?_⟩
      show c < (h'.update q _).objs.size
      rw [Heap.size_update, hsz]
      exact Nat.lt_succ_of_lt f2
end
end Fc
namespace Fc
open PySem PySem.Spec PyProof.Rows L2
def tLz (K : PySem.W.Frag) (ta : TA) : TE := fun σ H Q => ta σ H fun vs H1 => ∃ a b xs ys, vs = [.ref a, .ref b] ∧ SqT K H1 a xs ∧ SqT K H1 b ys ∧ min xs.length ys.length ≤ sizeLine ∧ ∀ q, H1 q = none → ∃ P : Nat → List V → Hp → Prop,
  P 0 [] (upd H1 q (.lst [])) ∧ (∀ i acc H, P i acc H → SqT K H a xs ∧ SqT K H b ys ∧ H q = some (.lst acc) ∧ acc.length = i) ∧
  (∀ i acc H x y T, P i acc H → xs[i]? = some x → ys[i]? = some y → H T = none → P (i + 1) (acc ++ [.ref T]) (upd (upd H T (.tup [x, y])) q (.lst (acc ++ [.ref T])))) ∧ ∀ acc H, P (min xs.length ys.length) acc H → Q (.ref q) H
theorem pe_lzip {X : Cx} {e e2 : Expr} {ta : TA} {p p2 pos pos2 : Pos} (hcalm : X.calm = true) (hg0 : Gl X "list") (hm0 : X.mg "list" = none) (hg : Gl X "zip") (hm : X.mg "zip" = none) (ha : PA X [e, e2] ta)
    (hs : starEach [e, e2] X.env = (false, eval e X.env) :: starEach [e2] X.env) (hpl : (backTo pos2 (starEach [e2] X.env)).any (·.1) = false) :
    PE X (.Call (.Name "list" p) [.Call (.Name "zip" p2) [e, e2] [] pos2] [] pos) (tLz X.K ta) := by
  refine ⟨fun pins s σ H Q I h => ?_⟩
  refine Call_ (ld_blt I hg0 hm0 PyProof.Rows.boot_list (PyProof.Rows.callWith_type1 ?_ rfl rfl))
  show wpAny _ _ (spliced ((false, eval (.Call (.Name "zip" p2) [e, e2] [] pos2) X.env) :: backTo pos (starEach [] X.env))) _ _ s
  have hA : X.A.in1.handled = none := I.ok.hd hcalm
  refine Calls.spliced_cons (thn (Q := fun v s2 => ∃ (z TI TO i1 i2 a b : Addr) (H1 : Hp) (xs ys : List V), v = .ref z ∧ Inv X pins σ H1 s2 ∧ ZipApart z TI TO i1 i2 a b ∧ ZSt s2.heap z TI TO i1 i2 a b 0 ∧ IsZip s2.heap z TI TO .none ∧ (∀ c ∈ [z, TI, TO, i1, i2], FpOk X pins H1 c ∧ c < s2.heap.objs.size) ∧
      SqT X.K H1 a xs ∧ SqT X.K H1 b ys ∧ min xs.length ys.length ≤ sizeLine ∧ ∀ q, H1 q = none → ∃ P : Nat → List V → Hp → Prop,
      P 0 [] (upd H1 q (.lst [])) ∧ (∀ i acc H, P i acc H → SqT X.K H a xs ∧ SqT X.K H b ys ∧ H q = some (.lst acc) ∧ acc.length = i) ∧
      (∀ i acc H x y T, P i acc H → xs[i]? = some x → ys[i]? = some y → H T = none → P (i + 1) (acc ++ [.ref T]) (upd (upd H T (.tup [x, y])) q (.lst (acc ++ [.ref T])))) ∧ ∀ acc H, P (min xs.length ys.length) acc H → Q (.ref q) H)
    (Call_ (ld_blt I hg hm PyProof.Rows.boot_zip (PyProof.Rows.callWith_type1 (thn (ha.run pos2 pins s σ H _ I h) fun us s1 ⟨vs, H1, I1, r1, q1⟩ => ?_) hs hpl))) fun v s2 q => ?_)
  · obtain ⟨a, b, xs, ys, ex, hqx, hqy, hmin, q⟩ := q1
    subst ex
    cases r1 with
    | cons r rr =>
      cases rr with
      | cons r' rr =>
        cases rr
        cases r
        cases r'
        obtain ⟨its, rv, p1, _⟩ := I1.tuple hqx
        obtain ⟨its2, rv2, p2, _⟩ := I1.tuple hqy
        obtain ⟨o1, ho1, _⟩ := id p1
        obtain ⟨o2, ho2, _⟩ := id p2
        refine RZ.call_zipT (show s1.heap.IsTuple a its.toArray from p1) (show s1.heap.IsTuple b its2.toArray from p2) fun h' hz hTI hTO h1 h2 hsz hk => ?_
        have I2 : Inv X pins σ H1 { s1 with heap := h' } := I1.kept (t' := s1.toks) hk
        refine ⟨_, _, _, _, _, a, b, H1, xs, ys, rfl, I2, PySem.W.ktu_apart s1.heap.objs.size a b (Heap.lt_size ho1) (Heap.lt_size ho2), ⟨hTI, h1, h2, .inl ⟨hz, _, _, hTO⟩⟩, hz, fun c hcm => ?_, hqx, hqy, hmin, q⟩
        have e' : c = s1.heap.objs.size + 4 ∨ c = s1.heap.objs.size + 2 ∨ c = s1.heap.objs.size + 3 ∨ c = s1.heap.objs.size ∨ c = s1.heap.objs.size + 1 := by simpa using hcm
        have hle : s1.heap.objs.size ≤ c ∧ c < h'.objs.size := by
          rw [hsz]
          have q0 : (s1.heap.objs.size : Nat) < s1.heap.objs.size + 5 := by omega
          rcases e' with z | z | z | z | z <;> subst z <;> exact ⟨by first | exact Nat.le_refl _ | exact Nat.le_add_right _ _, by first | exact q0 | exact Nat.add_lt_add_left (by decide) _⟩
        exact ⟨I1.fpOk hle.1 (I1.hok.fresh hle.1), hle.2⟩
  · obtain ⟨z, TI, TO, i1, i2, a, b, H1, xs, ys, rfl, I2, D, st, hzp, hf, hqx, hqy, hmin, q⟩ := q
    refine Calls.spliced_nil ?_
    have fr : H1 s2.heap.objs.size = none := I2.hok.fresh (Nat.le_refl _)
    obtain ⟨P, p0, p1, p2, p3⟩ := q _ fr
    refine callType_codes (Q₁ := fun obj s₁ => obj = .ref s2.heap.objs.size ∧ s₁ = { s2 with heap := s2.heap.push { cls := .type "list", data := .seq #[] } }) PySem.F.called_list (PySem.F.typeCall_list_1 _) PySem.F.entry_list_init
      (code_list_new _ ⟨rfl, rfl⟩) fun obj s₁ h₁ => ?_
    obtain ⟨rfl, rfl⟩ := h₁
    have hS : (s2.heap.push { cls := .type "list", data := .seq #[] }).get? s2.heap.objs.size = some { cls := .type "list", data := .seq #[] } := Heap.get?_push_size _ rfl
    refine ⟨⟨_, hS, rfl⟩, PySem.F.args_list_init_2 _ _, ?_⟩
    have I3 : Inv X pins σ (upd H1 s2.heap.objs.size (.lst [])) { s2 with heap := s2.heap.push { cls := .type "list", data := .seq #[] } } := I2.lnew (its := []) (t' := s2.toks) .nil (Nat.zero_le _)
    show wpAny _ _ (do let old ← Builtin.List.listItems (.ref s2.heap.objs.size); Builtin.List.listUpdate (.ref s2.heap.objs.size) (fun _ => #[]); letGo old.toList.reverse; Builtin.List.listExtendWith (.ref s2.heap.objs.size) (.ref z) .none) _ _ _
    refine wpAny_bind ?_
    unfold Builtin.List.listItems
    refine wpAny_bind (wpAny_seqItems hS rfl (wpAny_pure ?_))
    show wpAny _ _ (updateSeq s2.heap.objs.size (fun _ => #[]) >>= fun _ => letGo (#[] : Array Value).toList.reverse >>= fun _ => Builtin.List.listExtendWith (.ref s2.heap.objs.size) (.ref z) .none) _ _ _
    refine wpAny_bind (wpAny_updateSeq hS rfl ?_)
    have I4 := I3.lset (f := fun _ => #[]) (its := []) (its' := []) (ys := []) (t' := s2.toks) upd_same hS rfl .nil (Nat.zero_le _)
    rw [upd_upd] at I4
    refine wpAny_bind (wpAny_letGo ?_)
    have hzq : (s2.heap.objs.size : Addr) ≠ z := Nat.ne_of_gt (hf z (by simp)).2
    have oldq : ∀ c ∈ [z, TI, TO, i1, i2], c ≠ s2.heap.objs.size := fun c hc => Nat.ne_of_lt (hf c hc).2
    have up : ∀ c o, c ≠ s2.heap.objs.size → s2.heap.get? c = some o → ((s2.heap.push { cls := .type "list", data := .seq #[] }).update s2.heap.objs.size (Obj.mapSeq (fun _ => #[]))).get? c = some o := fun c o hc e => (Heap.get?_update_other _ _ (Ne.symm hc)).trans (Heap.get?_push_of_some _ e)
    have st2 : ZSt ((s2.heap.push { cls := .type "list", data := .seq #[] }).update s2.heap.objs.size (Obj.mapSeq (fun _ => #[]))) z TI TO i1 i2 a b 0 := by
      obtain ⟨a1, a2, a3, a4⟩ := st
      refine ⟨up _ _ (oldq TI (by simp)) a1, a2.at fun o e => up _ o (oldq i1 (by simp)) e, a3.at fun o e => up _ o (oldq i2 (by simp)) e, ?_⟩
      rcases a4 with ⟨b1, x', y', b2⟩ | ⟨T, f, b1, oT, b2⟩
      · exact .inl ⟨up _ _ (oldq z (by simp)) b1, x', y', up _ _ (oldq TO (by simp)) b2⟩
      · exact .inr ⟨T, f, up _ _ (oldq z (by simp)) b1, oT, up _ _ (Nat.ne_of_lt (Heap.lt_size b2)) b2⟩
    have hf2 : ∀ c ∈ [z, TI, TO, i1, i2], FpOk X pins (upd H1 s2.heap.objs.size (.lst [])) c ∧ c < ((s2.heap.push { cls := .type "list", data := .seq #[] }).update s2.heap.objs.size (Obj.mapSeq (fun _ => #[]))).objs.size := fun c hc => by
      obtain ⟨⟨f0, f1⟩, f2⟩ := hf c hc
      refine ⟨⟨by rw [upd_ne (oldq c hc)]; exact f0, f1⟩, ?_⟩
      rw [Heap.size_update, Heap.size_push]
      exact Nat.lt_succ_of_lt f2
    have loop : ∀ (s' : Shared) , Inv X pins σ (upd H1 s2.heap.objs.size (.lst [])) s' → ZSt s'.heap z TI TO i1 i2 a b 0 → (∀ c ∈ [z, TI, TO, i1, i2], FpOk X pins (upd H1 s2.heap.objs.size (.lst [])) c ∧ c < s'.heap.objs.size) →
        codeAny (model X.prog X.w) X.A.in1 (.builtin "list.extend.loop" ⟨[.ref s2.heap.objs.size, .ref z, .none], []⟩) (wants (fun r s₂ => r = .none ∧ EP X pins σ Q (.ref s2.heap.objs.size) s₂) X.xe) s' := fun s' I' st' hf' =>
      zl_loop (A1 := X.A.in1) (P := P) D (show X.A.in1.in1.in1.handled = none from hA) rfl hmin p1 p2 (fun acc H s I hp => ⟨rfl, .ref s2.heap.objs.size, H, I, rfl, p3 acc H hp⟩) _ 0 [] _ s' rfl (Nat.zero_le _) I' p0 st' hf'
    unfold Builtin.List.listExtendWith
    refine wpAny_bind (wpAny_typeOf st2.type ?_)
    have h1 : Builtin.List.listSameRef (.ref s2.heap.objs.size) (.ref z) = false := by simp [Builtin.List.listSameRef, hzq]
    have h2 : (Value.type "zip" == Value.type "list") = false := by decide
    have h3 : (Value.type "zip" == Value.type "tuple") = false := by decide
    simp only [h1, h2, h3, Bool.or_false, Bool.false_eq_true, if_false]
    have hT : ∀ h', IsZip h' z TI TO .none → ∀ g d tk os, (⟨h', g, d, tk, os⟩ : Shared).TypeIs (.ref z) "zip" := fun h' e g d tk os => ⟨_, e, rfl⟩
    have hz4 := up _ _ (oldq z (by simp)) hzp
    refine wpAny_bind (wpAny_pyIter_zip (TI := TI) (TO := TO) (f0 := .none) hz4 ?_)
    refine wpAny_bind (wpAny_holding ?_)
    unfold Builtin.List.listLengthHint
    refine wpAny_bind (wpAny_specialOf st2.type zip_no_len ?_)
    show wpAny _ _ (specialOf (Value.ref z) (Str.ofString "__length_hint__") >>= _) _ _ _
    refine wpAny_bind (wpAny_specialOf st2.type zip_no_hint ?_)
    refine wpAny_pure ?_
    show wpAny _ _ (rule "list.extend.makes-room" >>= fun _ => Builtin.List.listTouch (.ref s2.heap.objs.size) >>= fun _ =>
      again (.builtin "list.extend.loop" ⟨[.ref s2.heap.objs.size, .ref z, .none], []⟩)) _ _ _
    refine wpAny_bind (wpAny_rule ?_)
    refine wpAny_bind ?_
    show wpAny _ _ (updateSeq s2.heap.objs.size (·.push .none) >>= fun _ => updateSeq s2.heap.objs.size (·.pop)) _ _ _
    obtain ⟨z5, its5, k5, r5, hl5, e5⟩ := I4.lstM upd_same
    cases r5
    refine wpAny_bind (wpAny_updateSeq e5 rfl ?_)
    have I5 := I4.lset (f := (·.push Value.none)) (its' := [Value.none]) (ys := [.non]) (t' := s2.toks) upd_same e5 (by simp) (.cons rfl .nil) (by rw [List.length_singleton, sizeLine_eq]; decide)
    obtain ⟨z6, its6, k6, r6, hl6, e6⟩ := I5.lstM upd_same
    obtain ⟨u6, rfl, ru6⟩ := r6.one
    refine wpAny_updateSeq e6 rfl ?_ (by show 1 ≤ sizeLine; rw [sizeLine_eq]; decide) (by show 0 ≤ sizeLine + 1; exact Nat.zero_le _)
    have I6 := I5.lset (f := (·.pop)) (its := [u6]) (its' := []) (ys := []) (t' := s2.toks) upd_same e6 (by rfl) .nil (Nat.zero_le _)
    rw [upd_upd, upd_upd] at I6
    have up2 : ∀ c o, c ≠ s2.heap.objs.size → s2.heap.get? c = some o → ((((s2.heap.push { cls := .type "list", data := .seq #[] }).update s2.heap.objs.size (Obj.mapSeq (fun _ => #[]))).update s2.heap.objs.size (Obj.mapSeq (·.push Value.none))).update s2.heap.objs.size (Obj.mapSeq (·.pop))).get? c = some o := fun c o hc e =>
      (Heap.get?_update_other _ _ (Ne.symm hc)).trans ((Heap.get?_update_other _ _ (Ne.symm hc)).trans (up c o hc e))
    refine wpAny_pure ⟨plainId_quiet PySem.F.plain_extend_loop _, loop _ I6 ?_ ?_⟩
    · obtain ⟨a1, a2, a3, a4⟩ := st
      refine ⟨up2 _ _ (oldq TI (by simp)) a1, a2.at fun o e => up2 _ o (oldq i1 (by simp)) e, a3.at fun o e => up2 _ o (oldq i2 (by simp)) e, ?_⟩
      rcases a4 with ⟨b1, x', y', b2⟩ | ⟨T, f, b1, oT, b2⟩
      · exact .inl ⟨up2 _ _ (oldq z (by simp)) b1, x', y', up2 _ _ (oldq TO (by simp)) b2⟩
      · exact .inr ⟨T, f, up2 _ _ (oldq z (by simp)) b1, oT, up2 _ _ (Nat.ne_of_lt (Heap.lt_size b2)) b2⟩
    · intro c hc
      obtain ⟨f0, f2⟩ := hf2 c hc
      refine ⟨f0, ?_⟩
      show c < ((((s2.heap.push { cls := .type "list", data := .seq #[] }).update s2.heap.objs.size (Obj.mapSeq (fun _ => #[]))).update s2.heap.objs.size (Obj.mapSeq (·.push Value.none))).update s2.heap.objs.size (Obj.mapSeq (·.pop))).objs.size
      rw [Heap.size_update, Heap.size_update]
      exact f2
end Fc
set_option Elab.async false
set_option linter.all false
set_option maxHeartbeats 2000000
set_option maxRecDepth 10000
/-! More terms: {}, list(zip(..)), classmethods, two sources, f(b = .., a = ..). -/
namespace Fc
open PySem L2
section
variable {X : Cx} {P : Par} {Γ : Cx0} {a b e : Expr} {es : List Expr} {ta tb : Tm} {xs : Tms} {p p2 pos pos2 apos : Pos}
theorem dnew_ok : PE X (.Dict [] [] pos) (tEv Γ P .dnew) := PE.imp pe_dnewK fun σ H Q q => by
  obtain ⟨ψ, τ, ρ, O, l, ρ', O', r, e, k⟩ := q
  have e' : some (L.dp (.dic []), (ρ, O)) = some (l, (ρ', O')) := e
  cases e'
  intro q hq
  have x : Ext H (upd H q (.dK [])) := Ext.upd hq
  have a1 := r.ext x
  refine k ψ _ _ ⟨a1, .dic upd_same (fun w => ?_) rfl fun i p q e1 => by simp at e1⟩
  rcases r.wobj w with ⟨xs, h⟩ | ⟨C, dx, fs, h⟩ <;> rw [hq] at h <;> cases h
theorem lz_ok (hK : P.K = X.K) (hcalm : X.calm = true) (hg0 : Gl X "list") (hm0 : X.mg "list" = none) (hg : Gl X "zip") (hm : X.mg "zip" = none) (ha : PE X a (tEv Γ P ta)) (hb : PE X b (tEv Γ P tb))
    (hs : starEach [a, b] X.env = (false, eval a X.env) :: starEach [b] X.env) (hs2 : starEach [b] X.env = (false, eval b X.env) :: starEach [] X.env) (hpl : (backTo pos2 (starEach [b] X.env)).any (·.1) = false) :
    PE X (.Call (.Name "list" p) [.Call (.Name "zip" p2) [a, b] [] pos2] [] pos) (tEv Γ P (.lzip ta tb)) :=
  PE.imp (pe_lzip hcalm hg0 hm0 hg hm (pa_cons ha (pa_cons hb pa_nil hs2) hs) hs hpl) fun σ H Q q => by
    obtain ⟨ψ, τ, ρ, O, l, ρ', O', r, e, k⟩ := q
    have e' : (match ev Γ ta (ρ, O) with
      | none => none
      | some (l, s1) => match ev Γ tb s1 with
        | none => none
        | some (m, s2) => match l.deep, m.deep with
          | .tup xs, .tup ys => if min xs.length ys.length ≤ sizeLine then some (L.fr (.lst (zipD xs ys)), s2) else none
          | _, _ => none) = some (l, (ρ', O')) := e
    cases e1 : ev Γ ta (ρ, O) with
    | none => rw [e1] at e'; cases e'
    | some z1 =>
      obtain ⟨l1, ρ1, O1⟩ := z1
      rw [e1] at e'
      dsimp only at e'
      cases e2 : ev Γ tb (ρ1, O1) with
      | none => rw [e2] at e'; cases e'
      | some z2 =>
        obtain ⟨m, ρ2, O2⟩ := z2
        rw [e2] at e'
        dsimp only at e'
        split at e'
        · rename_i xs ys hx hy
          split at e'
          · rename_i hlen
            cases e'
            refine ⟨ψ, τ, ρ, O, l1, _, _, r, e1, fun ψ1 H1 v res => ?_⟩
            obtain ⟨a1, rv⟩ := res.deep
            refine ⟨ψ1, τ, ρ1, O1, m, _, _, a1.rep, e2, fun ψ2 H2 w res2 => ?_⟩
            obtain ⟨a2, rw2⟩ := res2.deep
            have rv1 := rv.mono a2.pre a2.pres
            rw [hx] at rv1
            rw [hy] at rw2
            have aa := a1.trans a2
            cases rv1 with
            | @tup A vs _ h1 h3 h4 =>
              cases rw2 with
              | @tup B us _ g1 g3 g4 =>
                refine ⟨A, B, vs, us, rfl, hK ▸ h1, hK ▸ g1, by rw [← h3, ← g3]; exact hlen, fun q hq => ?_⟩
                have hzl : (zipD xs ys).length = min xs.length ys.length := by unfold zipD; simp
                refine ⟨fun i acc Hh => Aft P ψ2 τ ρ' σ H2 ψ2 ((q, .lst ((zipD xs ys).take i)) :: τ) ρ' O' σ Hh ∧ Hh q = some (.lst acc) ∧ acc.length = i ∧ i ≤ (zipD xs ys).length, ?_, ?_, ?_, ?_⟩
                · refine ⟨?_, upd_same, rfl, Nat.zero_le _⟩
                  exact a2.rep.push (o := .lst []) (Ext.upd hq) hq fun _ => ⟨[], upd_same, .nil⟩
                · rintro i acc Hh ⟨af, hqa, hl, _⟩
                  exact ⟨hK ▸ af.pres.tups _ _ h1, hK ▸ af.pres.tups _ _ g1, hqa, hl⟩
                · rintro i acc Hh x y T ⟨af, hqa, hl, hle⟩ hx1 hy1 hT
                  have hix : i < xs.length := by rw [h3]; exact (List.getElem?_eq_some_iff.mp hx1).1
                  have hiy : i < ys.length := by rw [g3]; exact (List.getElem?_eq_some_iff.mp hy1).1
                  have hiz : i < (zipD xs ys).length := by rw [hzl]; omega
                  have hgz : (zipD xs ys)[i]? = some (.tup [xs[i], ys[i]]) := by
                    unfold zipD
                    rw [List.getElem?_map, List.getElem?_eq_getElem (by simp; omega)]
                    simp
                  have r1 : RV P.K P.ca ψ2 (Wr P.U ψ2 ((q, .lst ((zipD xs ys).take i)) :: τ) ρ' σ) Hh xs[i] x := (h4 i _ _ (by simp [hix]) hx1).mono (List.prefix_refl _) af.pres
                  have r2 : RV P.K P.ca ψ2 (Wr P.U ψ2 ((q, .lst ((zipD xs ys).take i)) :: τ) ρ' σ) Hh ys[i] y := (g4 i _ _ (by simp [hiy]) hy1).mono (List.prefix_refl _) af.pres
                  obtain ⟨x1, rp⟩ := rv_pair r1 r2 hT
                  have a3 := af.rep.ext x1
                  obtain ⟨us', hD6, rvs⟩ := (a3.rep.tmp (q, .lst ((zipD xs ys).take i)) List.mem_cons_self).1
                  have hus : us' = acc := by
                    have : upd Hh T (.tup [x, y]) q = some (.lst us') := hD6
                    rw [upd_ne (ne_of_none hqa hT), hqa] at this
                    cases this
                    rfl
                  subst hus
                  have a7 := a3.rep.wtmp (o' := .lst ((zipD xs ys).take (i + 1))) (u := .lst (us' ++ [.ref T])) fun W' H' hW pr hH => ⟨us' ++ [.ref T], hH, by
                    have ht : (zipD xs ys).take (i + 1) = (zipD xs ys).take i ++ [.tup [xs[i], ys[i]]] := by
                      rw [List.take_add_one, hgz]
                      rfl
                    rw [ht]
                    exact (rvs.mono (List.prefix_refl _) pr).append (.cons (rp.mono (List.prefix_refl _) pr) .nil)⟩
                  exact ⟨(af.trans a3).trans a7, upd_same, by simp [hl], hiz⟩
                · rintro acc Hh ⟨af, hqa, hl, _⟩
                  have hta : (zipD xs ys).take (min vs.length us.length) = zipD xs ys := by
                    rw [← h3, ← g3, ← hzl]
                    exact List.take_length
                  rw [hta] at af
                  exact k ψ2 Hh _ ⟨q, rfl, aa.trans af⟩
          · cases e'
        · cases e'
/-! ### classmethods -/
variable {CX : CXT} {k n F : Nat} {T : Tab} {f c : Nat} {fa pa : Addr} {fd : FuncData} {ps : List Str} {x m : Str} {mc : Value}
theorem cmeth_sp {σ : L2.St} {H : Hp} {Q : VK} {E : XK} (hc : Γ.cf = callN T F n) (hm : Γ.cm c m = some f) (q : tEv Γ P (.cmeth c m xs) σ H Q) : tAs Γ P [] xs σ H fun vs H1 => spEv P.K P.ca T F n f (.ref (P.ca c) :: vs) H1 Q E := by
  obtain ⟨ψ, τ, ρ, O, l, ρ', O', r, e, kk⟩ := q
  have e' : (match evA Γ [] xs (ρ, O) with
    | none => none
    | some (as, s1) => match Γ.cm c m with
      | none => none
      | some f => callAr Γ.cf f (.unk :: as) s1) = some (l, (ρ', O')) := e
  cases e1 : evA Γ [] xs (ρ, O) with
  | none => rw [e1] at e'; cases e'
  | some z =>
    obtain ⟨as, ρ1, O1⟩ := z
    rw [e1, hm] at e'
    have e2 : callAr Γ.cf f (.unk :: as) (ρ1, O1) = some (l, (ρ', O')) := e'
    rw [hc] at e2
    refine ⟨ψ, τ, ρ, O, as, ρ1, O1, r, e1, fun ψ1 H1 vs a1 ar => ?_⟩
    exact Args.sp (as := .unk :: as) (vs := .ref (P.ca c) :: vs) (τ0 := τ) a1 (ArRs.cons trivial ar) e2 kk
theorem cmeth_ok {E : XK} {pl : Sem Bool} (hc : Γ.cf = callN T F n) (hcm : Γ.cm c m = some f) (Fk : FnOk X.prog X.w X.K X.mg X.base CX k fa fd ps (spEv P.K P.ca T F n f)) (hb : Binds X.K fd ps []) (hr : Room k X.A) (hx : Passes CX X E)
    (hg : Gl X x) (hmx : X.mg x = some (.ref (P.ca c))) (hdb : (x == ("__debug__" : Str)) = false) (R : ClX.CRead X.K (P.ca c) mc) (M : ClX.CMet X.K (P.ca c) mc m pa fa) (ha : PA X (e :: es) (tAs Γ P [] xs))
    (hst : starEach (e :: es) X.env = (false, eval e X.env) :: starEach es X.env) (hpl : (backTo pos (starEach es X.env)).any (·.1) = false)
    (ht : eval (.Call (.Attribute (.Name x p) m apos) (e :: es) [] pos) X.env = (do
      let ov ← eval (.Name x p) X.env
      standAt apos.atName
      let (f, first) ← holding [ov] (getMethod ov m pl)
      callWith pos f first (backTo pos (starEach (e :: es) X.env)) (backToKw pos (keywordEach [] X.env)))) :
    PE X (.Call (.Attribute (.Name x p) m apos) (e :: es) [] pos) (tEv Γ P (.cmeth c m xs)) := by
  have FR : FnR X.prog X.w X.K X.mg X.base CX k fa (spEv P.K P.ca T F n f) := (Fk.raw hb .nil).imp fun vs H Q E h => by
    show spEv P.K P.ca T F n f (vs ++ []) H Q E
    rw [List.append_nil]
    exact h
  exact PE.imp (ClX.pe_cmeth (pe_glob (v := .ref (P.ca c)) hg hmx rfl hdb) R M FR hr hx ha hst hpl ht) fun σ H Q q => ⟨rfl, cmeth_sp hc hcm q⟩
/-! ### f(b = .., a = ..) -/
def sw2 {α : Type} : List α → List α
  | [a, b] => [b, a]
  | zs => zs
def swV (vs zs : List V) : List V := vs ++ sw2 zs
def swU (vs zs : List Value) : List Value := vs ++ sw2 zs
theorem pe_callW2 {sp : Sp} {E : XK} {kws : List Keyword} {tk : TA} {ks : List Str} (Fk : FnOk X.prog X.w X.K X.mg X.base CX k fa fd ps sp) (hr : Room k X.A) (hg : Gl X x) (hm : X.mg x = some (.ref fa)) (hk : PySem.W.keepIn X.K (.ref fa) = true)
    (hb : KBinds X.K fd ps ks swU swV) (hx : Passes CX X E) (hkw : PK X kws tk) (hall : (backToKw pos (keywordEach kws X.env)).all (·.1.isSome) = true) (hks : (backToKw pos (keywordEach kws X.env)).filterMap (·.1) = ks)
    (hdb : (x == ("__debug__" : Str)) = false) (hpl : ((backTo pos (starEach [] X.env)).any (·.1) || (backToKw pos (keywordEach kws X.env)).any (·.1.isNone)) = false) :
    PE X (.Call (.Name x p2) [] kws pos) (fun σ H Q => tk σ H fun zs H1 => sp (swV [] zs) H1 Q E) := by
  refine ⟨fun pins s σ H Q I h => ?_⟩
  refine wpAny_Call_Name_kw (ld_glob I hg hm ?_ hdb)
  refine PySem.W.callWith_KW0 (h₀ := X.base) I.ok.mod.kin hk hall ?_ hpl
  refine thn (hkw.run pos pins s σ H _ I h) fun ws s2 ⟨zs, H2, I2, rz, q2⟩ => ⟨I2.kIn, ?_⟩
  rw [hks]
  exact run_fnk (us := []) (vs := []) Fk hr hb hx I2 .nil rz q2
theorem call2_sp {σ : L2.St} {H : Hp} {Q : VK} {E : XK} (hc : Γ.cf = callN T F n) (q : tEv Γ P (.call f [] [1, 0] xs) σ H Q) : tAs Γ P [] xs σ H fun vs H1 => spEv P.K P.ca T F n f (swV [] vs) H1 Q E := by
  obtain ⟨ψ, τ, ρ, O, l, ρ', O', r, e, kk⟩ := q
  have e' : (match evA Γ [] xs (ρ, O) with
    | none => none
    | some (as, s1) => match permute [1, 0] as with
      | none => none
      | some as => callAr Γ.cf f as s1) = some (l, (ρ', O')) := e
  cases e1 : evA Γ [] xs (ρ, O) with
  | none => rw [e1] at e'; cases e'
  | some z =>
    obtain ⟨as, ρ1, O1⟩ := z
    rw [e1] at e'
    dsimp only at e'
    have hv := evA_vals e1
    cases e2 : permute [1, 0] as with
    | none => rw [e2] at e'; cases e'
    | some bs =>
      rw [e2] at e'
      obtain ⟨a, b, rfl, rfl⟩ : ∃ a b, as = [a, b] ∧ bs = [b, a] := by
        match as, e2 with
        | [a, b], e2 =>
          cases e2
          exact ⟨a, b, rfl, rfl⟩
        | [], e2 => cases e2
        | [_], e2 => cases e2
        | _ :: _ :: _ :: _, e2 => cases e2
      have e3 : callAr Γ.cf f [b, a] (ρ1, O1) = some (l, (ρ', O')) := e'
      rw [hc] at e3
      refine ⟨ψ, τ, ρ, O, [a, b], ρ1, O1, r, e1, fun ψ1 H1 vs a1 ar => ?_⟩
      obtain ⟨v, w, rfl⟩ : ∃ v w, vs = [v, w] := by
        have := ar.1
        match vs, this with
        | [v, w], _ => exact ⟨v, w, rfl⟩
      have hv2 : ∀ x ∈ [b, a], ∃ d, x = Ar.val d := fun x hx => hv x (by simp at hx ⊢; exact hx.symm)
      rw [tacc_vals hv] at a1 ar
      refine Args.sp (as := [b, a]) (vs := [w, v]) (τ0 := τ) (by rw [tacc_vals hv2]; exact a1) ?_ e3 kk
      rw [tacc_vals hv2]
      exact .cons (ar.2 1 _ _ rfl rfl) (.cons (ar.2 0 _ _ rfl rfl) ⟨rfl, fun j a v e => by simp at e⟩)
theorem callW2_ok {E : XK} {kws : List Keyword} {ks : List Str} (hc : Γ.cf = callN T F n) (Fk : FnOk X.prog X.w X.K X.mg X.base CX k fa fd ps (spEv P.K P.ca T F n f)) (hr : Room k X.A) (hg : Gl X x) (hm : X.mg x = some (.ref fa)) (hk : PySem.W.keepIn X.K (.ref fa) = true)
    (hb : KBinds X.K fd ps ks swU swV) (hx : Passes CX X E) (hkw : PK X kws (tAs Γ P [] xs)) (hall : (backToKw pos (keywordEach kws X.env)).all (·.1.isSome) = true) (hks : (backToKw pos (keywordEach kws X.env)).filterMap (·.1) = ks)
    (hdb : (x == ("__debug__" : Str)) = false) (hpl : ((backTo pos (starEach [] X.env)).any (·.1) || (backToKw pos (keywordEach kws X.env)).any (·.1.isNone)) = false) :
    PE X (.Call (.Name x p2) [] kws pos) (tEv Γ P (.call f [] [1, 0] xs)) := PE.imp (pe_callW2 Fk hr hg hm hk hb hx hkw hall hks hdb hpl) fun σ H Q q => call2_sp (E := E) hc q
/-! ### two sources -/
theorem lc2_tLc {P : Par} {Γ : Cx0} {vs vs1 : List Nat} {tg tg1 : Tg} {it it1 : Fc.It} {t : Tm} {σ : L2.St} {H : Hp} {Q : VK} (hpa : PaOk P Γ.np) (htg : ∀ j ∈ tgIx tg, j ∈ vs) (htg1 : ∀ j ∈ tgIx tg1, j ∈ vs1) (hsub : ∀ j ∈ vs1, j ∈ vs) (q : tEv Γ P (.lc2 vs vs1 tg it tg1 it1 t) σ H Q) :
    tLc2 (tIt Γ P it) (tPg P Γ.np tg) tYes (tIt Γ P it1) (tPg P Γ.np tg1) tYes (tEv Γ P t) vs vs1 σ H Q := by
  obtain ⟨ψ, τ, ρ, O, l, ρ', O', r, e, k⟩ := q
  have e' : (match evI Γ it (ρ, O) with
    | none => none
    | some (xs, s1) => if vs.all (fun v => Γ.np ≤ v && notOwn s1.1 v) then (match lcGo2 Γ.np vs vs1 tg tg1 (evI Γ it1) (fun s => match ev Γ t s with
        | none => none
        | some (l, s') => some (l.deep, s')) xs [] s1 with
      | none => none
      | some (ys, s2) => some (L.fr (.lst ys), (Fc.unwipe s1.1 s2.1 vs, s2.2))) else none) = some (l, (ρ', O')) := e
  generalize hel : (fun s => match ev Γ t s with
        | none => none
        | some (l, s') => some (l.deep, s')) = elt at e'
  cases e1 : evI Γ it (ρ, O) with
  | none => rw [e1] at e'; cases e'
  | some z1 =>
    obtain ⟨xs, ρ1, O1⟩ := z1
    rw [e1] at e'
    dsimp only at e'
    split at e'
    · rename_i hall
      have hnp : ∀ v ∈ vs, Γ.np ≤ v := fun v hv => by
        have := List.all_eq_true.mp hall v hv
        rw [Bool.and_eq_true, decide_eq_true_eq] at this
        exact this.1
      have hno : ∀ v ∈ vs, notOwn ρ1 v = true := fun v hv => by
        have := List.all_eq_true.mp hall v hv
        rw [Bool.and_eq_true] at this
        exact this.2
      have hNo : NoPa P vs := .of hpa hnp
      have hNo1 : NoPa P vs1 := .of hpa fun v hv => hnp v (hsub v hv)
      have lt_of : ∀ {ρ : List Sl} {v : Nat}, notOwn ρ v = true → v < ρ.length := fun {ρ v} h => by
        unfold notOwn at h
        cases hh : ρ[v]? with
        | none => rw [hh] at h; cases h
        | some _ => exact (List.getElem?_eq_some_iff.mp hh).1
      have hlt : ∀ v ∈ vs, v < ρ1.length := fun v hv => lt_of (hno v hv)
      split at e'
      · cases e'
      · rename_i ys s2 e2
        obtain ⟨ρ2, O2⟩ := s2
        cases e'
        refine ⟨ψ, τ, ρ, O, xs, ρ1, O1, r, e1, fun ψ1 H1 J a1 itok => ?_⟩
        intro D hD
        let W : Nat → Nat → Hp → Prop := fun i m Hh => m = xs.length - i ∧ i ≤ xs.length ∧ ∃ ψi ρi Oi acc, Aft P ψ1 τ ρ1 σ H1 ψi ((D, .lst acc) :: τ) (Fc.unwipe ρ1 ρi vs) Oi σ Hh ∧ ρi.length = ρ1.length ∧
          lcGo2 Γ.np vs vs1 tg tg1 (evI Γ it1) elt (xs.drop i) acc (ρi, Oi) = some (ys, (ρ2, O2))
        refine ⟨W, ⟨xs.length, by simp, Nat.zero_le _, ψ1, ρ1, O1, [], ?_, rfl, e2⟩, ?_⟩
        · rw [unwipe_self hno]
          exact a1.rep.push (o := .lst []) (Ext.upd hD) hD fun _ => ⟨[], upd_same, .nil⟩
        rintro i m Hh ⟨rfl, hi, ψi, ρi, Oi, acc, aft, hlen, go⟩
        by_cases hlt2 : i < xs.length
        · have hdr : xs.drop i = xs[i] :: xs.drop (i + 1) := List.drop_eq_getElem_cons hlt2
          rw [hdr] at go
          have go' : (match bindT Γ.np tg xs[i] (wipeS ρi vs) with
            | none => none
            | some ρ => match evI Γ it1 (ρ, Oi) with
              | none => none
              | some (ys, s1) => if vs1.all (fun v => notOwn s1.1 v) then (match lcGo Γ.np vs1 tg1 (fun s => some (true, s)) elt ys acc s1 with
                | none => none
                | some (acc', s2) => lcGo2 Γ.np vs vs1 tg tg1 (evI Γ it1) elt (xs.drop (i + 1)) acc' (Fc.unwipe s1.1 s2.1 vs1, s2.2)) else none) = some (ys, (ρ2, O2)) := go
          obtain ⟨gg, gy⟩ := (itok ψi _ Hh aft.pre aft.pres).2 i xs[i] (by simp [hlt2])
          refine .inr ⟨gg, fun H' => W (i + 1) (xs.length - (i + 1)) H', fun H' w => ⟨_, by omega, w⟩, fun x H' yl => ?_⟩
          obtain ⟨ext, rv⟩ := gy x H' yl
          have a2 := aft.rep.ext ext
          have a3 := a2.rep.wipe hNo (fun v hv => by rw [unwipe_length, hlen]; exact hlt v hv)
          rw [wipe_un] at a3
          cases e3 : bindT Γ.np tg xs[i] (wipeS ρi vs) with
          | none => rw [e3] at go'; cases go'
          | some ρb =>
            rw [e3] at go'
            dsimp only at go'
            refine ⟨ψi, (D, .lst acc) :: τ, wipeS ρi vs, Oi, xs[i], ρb, a3.rep, rv.mono a3.pre a3.pres, e3, fun σ2 a4 b4 => ?_⟩
            have hl2 : σ2.length = σ.length := by rw [b4.1, wipe_length]
            have hoff : ∀ j, j ∉ vs → σ2[j]? = σ[j]? := fun j hj => by
              rw [b4.2 j fun z => hj (htg j z), wipe_get]
              rw [if_neg fun z => hj z.1]
            refine ⟨?_, ?_⟩
            · apply List.ext_getElem?
              intro j
              rw [wipe_get, wipe_get, hl2]
              by_cases hj : j ∈ vs
              · by_cases l : j < σ.length
                · simp [hj, l]
                · rw [if_neg fun z => l z.2, if_neg fun z => l z.2, List.getElem?_eq_none (by omega), List.getElem?_eq_none (by omega)]
              · rw [if_neg fun z => hj z.1, if_neg fun z => hj z.1]
                exact hoff j hj
            unfold tYes
            dsimp only
            rw [if_pos rfl]
            cases e4 : evI Γ it1 (ρb, Oi) with
            | none => rw [e4] at go'; cases go'
            | some z4 =>
              obtain ⟨zs, ρ3, O3⟩ := z4
              rw [e4] at go'
              dsimp only at go'
              refine ⟨ψi, (D, .lst acc) :: τ, ρb, Oi, zs, ρ3, O3, a4.rep, e4, fun ψ5 H5 J1 a5 itok1 => ?_⟩
              have un : ∀ {ψ7 H7 ρ7 O7 acc7}, Aft P ψ5 ((D, .lst acc) :: τ) ρ3 σ2 H5 ψ7 ((D, .lst acc7) :: τ) ρ7 O7 σ2 H7 → ρ7.length = ρ1.length ∧ Aft P ψ1 τ ρ1 σ H1 ψ7 ((D, .lst acc7) :: τ) (Fc.unwipe ρ1 ρ7 vs) O7 σ H7 := fun {ψ7 H7 ρ7 O7 acc7} a7 => by
                have all := ((((aft.trans a2).trans a3).trans a4).trans a5).trans a7
                have hl7 : ρ7.length = ρ1.length := by rw [a7.rep.len, hl2, a1.rep.len]
                have a8 := Rep.unwipe a1.rep a7.rep all.pre all.pres hl7 hNo hno
                rw [unwipeT_id hl2 hoff] at a8
                exact ⟨hl7, all.trans a8⟩
              split at go'
              · rename_i hall1
                have hno1 : ∀ v ∈ vs1, notOwn ρ3 v = true := fun v hv => List.all_eq_true.mp hall1 v hv
                have hlt1 : ∀ v ∈ vs1, v < ρ3.length := fun v hv => lt_of (hno1 v hv)
                cases e6 : lcGo Γ.np vs1 tg1 (fun s => some (true, s)) elt zs acc (ρ3, O3) with
                | none => rw [e6] at go'; cases go'
                | some z6 =>
                  obtain ⟨acc', ρ6, O6⟩ := z6
                  rw [e6] at go'
                  dsimp only at go'
                  let W1 : Nat → Nat → Hp → Prop := fun j k Hh => k = zs.length - j ∧ j ≤ zs.length ∧ ∃ ψj ρj Oj accj, Aft P ψ5 ((D, .lst acc) :: τ) ρ3 σ2 H5 ψj ((D, .lst accj) :: τ) (Fc.unwipe ρ3 ρj vs1) Oj σ2 Hh ∧ ρj.length = ρ3.length ∧
                    lcGo Γ.np vs1 tg1 (fun s => some (true, s)) elt (zs.drop j) accj (ρj, Oj) = some (acc', (ρ6, O6))
                  refine ⟨W1, ⟨zs.length, by simp, Nat.zero_le _, ψ5, ρ3, O3, acc, ?_, rfl, e6⟩, ?_⟩
                  · rw [unwipe_self hno1]
                    exact .refl a5.rep
                  rintro j k Hj ⟨rfl, hj, ψj, ρj, Oj, accj, aftj, hlenj, goj⟩
                  by_cases hltj : j < zs.length
                  · have hdrj : zs.drop j = zs[j] :: zs.drop (j + 1) := List.drop_eq_getElem_cons hltj
                    rw [hdrj] at goj
                    have goj' : (match bindT Γ.np tg1 zs[j] (wipeS ρj vs1) with
                      | none => none
                      | some ρ => match elt (ρ, Oj) with
                        | none => none
                        | some (y, s2) => if accj.length < sizeLine then lcGo Γ.np vs1 tg1 (fun s => some (true, s)) elt (zs.drop (j + 1)) (accj ++ [y]) s2 else none) = some (acc', (ρ6, O6)) := goj
                    obtain ⟨ggj, gyj⟩ := (itok1 ψj _ Hj aftj.pre aftj.pres).2 j zs[j] (by simp [hltj])
                    refine .inr ⟨ggj, fun H' => W1 (j + 1) (zs.length - (j + 1)) H', fun H' w => ⟨_, by omega, w⟩, fun x H' yl => ?_⟩
                    obtain ⟨extj, rvj⟩ := gyj x H' yl
                    have b2 := aftj.rep.ext extj
                    have b3 := b2.rep.wipe hNo1 (fun v hv => by rw [unwipe_length, hlenj]; exact hlt1 v hv)
                    rw [wipe_un] at b3
                    cases e7 : bindT Γ.np tg1 zs[j] (wipeS ρj vs1) with
                    | none => rw [e7] at goj'; cases goj'
                    | some ρc =>
                      rw [e7] at goj'
                      dsimp only at goj'
                      refine ⟨ψj, (D, .lst accj) :: τ, wipeS ρj vs1, Oj, zs[j], ρc, b3.rep, rvj.mono b3.pre b3.pres, e7, fun σ3 b4 c4 => ?_⟩
                      have hl3 : σ3.length = σ2.length := by rw [c4.1, wipe_length]
                      have hoff3 : ∀ j, j ∉ vs1 → σ3[j]? = σ2[j]? := fun j hj => by
                        rw [c4.2 j fun z => hj (htg1 j z), wipe_get]
                        rw [if_neg fun z => hj z.1]
                      refine ⟨?_, ?_⟩
                      · apply List.ext_getElem?
                        intro j
                        rw [wipe_get, wipe_get, hl3]
                        by_cases hj : j ∈ vs1
                        · by_cases l : j < σ2.length
                          · simp [hj, l]
                          · rw [if_neg fun z => l z.2, if_neg fun z => l z.2, List.getElem?_eq_none (by omega), List.getElem?_eq_none (by omega)]
                        · rw [if_neg fun z => hj z.1, if_neg fun z => hj z.1]
                          exact hoff3 j hj
                      have un1 : ∀ {ψ7 H7 ρ7 O7 acc7}, Aft P ψj ((D, .lst accj) :: τ) ρc σ3 H' ψ7 ((D, .lst acc7) :: τ) ρ7 O7 σ3 H7 → ρ7.length = ρ3.length ∧ Aft P ψ5 ((D, .lst acc) :: τ) ρ3 σ2 H5 ψ7 ((D, .lst acc7) :: τ) (Fc.unwipe ρ3 ρ7 vs1) O7 σ2 H7 := fun {ψ7 H7 ρ7 O7 acc7} a7 => by
                        have all := (((aftj.trans b2).trans b3).trans b4).trans a7
                        have hl7 : ρ7.length = ρ3.length := by rw [a7.rep.len, hl3, a5.rep.len]
                        have a8 := Rep.unwipe a5.rep a7.rep all.pre all.pres hl7 hNo1 hno1
                        rw [unwipeT_id hl3 hoff3] at a8
                        exact ⟨hl7, all.trans a8⟩
                      show if true = true then (tEv Γ P t σ3 H' fun y H4 => ∃ acc, H4 D = some (HO.lst acc) ∧ acc.length < sizeLine ∧ W1 (j + 1) (zs.length - (j + 1)) (upd H4 D (HO.lst (acc ++ [y])))) else _
                      rw [if_pos rfl]
                      rw [← hel] at goj'
                      dsimp only at goj'
                      cases e5 : ev Γ t (ρc, Oj) with
                      | none => rw [e5] at goj'; cases goj'
                      | some z5 =>
                        obtain ⟨l5, ρ4, O4⟩ := z5
                        rw [e5] at goj'
                        dsimp only at goj'
                        split at goj'
                        · rename_i hz
                          refine ⟨ψj, (D, .lst accj) :: τ, ρc, Oj, l5, ρ4, O4, b4.rep, e5, fun ψ6 H6 y res => ?_⟩
                          obtain ⟨a6, rv6⟩ := res.deep
                          obtain ⟨us, hD6, rvs⟩ := (a6.rep.tmp (D, .lst accj) List.mem_cons_self).1
                          refine ⟨us, hD6, by rw [← rvs.1]; exact hz, ?_⟩
                          have a7 := a6.rep.wtmp (o' := .lst (accj ++ [l5.deep])) (u := .lst (us ++ [y])) fun W' H' hW pr hH => ⟨us ++ [y], hH, (rvs.mono (List.prefix_refl _) pr).append (.cons (rv6.mono (List.prefix_refl _) pr) .nil)⟩
                          obtain ⟨h1, h2⟩ := un1 (a6.trans a7)
                          rw [hel] at goj'
                          exact ⟨rfl, hltj, ψ6, ρ4, O4, accj ++ [l5.deep], h2, h1, goj'⟩
                        · cases goj'
                  · have hie : j = zs.length := by omega
                    subst hie
                    rw [List.drop_length] at goj
                    have goj' : some (accj, (ρj, Oj)) = some (acc', (ρ6, O6)) := goj
                    cases goj'
                    obtain ⟨h1, h2⟩ := un aftj
                    exact .inl ⟨(itok1 ψj _ Hj aftj.pre aftj.pres).1 _ rfl, rfl, hlt2, ψj, _, _, _, h2, h1, go'⟩
              · cases go'
        · have hie : i = xs.length := by omega
          subst hie
          rw [List.drop_length] at go
          have go' : some (acc, (ρi, Oi)) = some (ys, (ρ2, O2)) := go
          cases go'
          exact .inl ⟨(itok ψi _ Hh aft.pre aft.pres).1 _ rfl, k ψi Hh _ ⟨D, rfl, a1.trans aft⟩⟩
    · cases e'
theorem lc_both {X : Cx} {P : Par} {Γ : Cx0} {elt tg iter : Expr} {ifs : List Expr} {scope : Scope} {own : List (Str × Nat)} {pos : Pos} {tg' : Tg} {it : Fc.It} {c t : Tm} (hc : X.calm = true) (hN : X.N.Nodup) (hpa : PaOk P Γ.np) (htg : ∀ j ∈ tgIx tg', j ∈ own.map (·.2)) (hi : PI X tg iter (tIt Γ P it)) (ok : BlkOk X.N X.env.scope scope own)
    (hg : ∀ (s : Shared) (H : Hp) (C : Addr) (cl : List (Str × Addr)) (fp : List Addr), PG (X.blk s H scope (compEnvC scope cl C X.env) fp) tg (tPg P Γ.np tg')) (ht : ∀ (s : Shared) (H : Hp) (C : Addr) (cl : List (Str × Addr)) (fp : List Addr), PTs (X.blk s H scope (compEnvC scope cl C X.env) fp) ifs (tTst Γ P (tsv Γ c)))
    (he : ∀ (s : Shared) (H : Hp) (C : Addr) (cl : List (Str × Addr)) (fp : List Addr), PE (X.blk s H scope (compEnvC scope cl C X.env) fp) elt (tEv Γ P t)) (hs : ∀ x, foldedSetIterable iter X.env x = pure x) :
    PE X (.ListComp elt [⟨tg, iter, ifs, 0⟩] scope pos) (tEv Γ P (.lc (own.map (·.2)) tg' it c t)) ∧
    ∀ {i : Nat} {y : Str} {py spos : Pos}, X.N[i]? = some y → X.env.scope.names.lookup y = some .local → swapsWith (.ListComp elt [⟨tg, iter, ifs, 0⟩] scope pos) (some (.Name y py)) spos.line X.env = pure true →
      PS X (.Assign [.Name y py] (.ListComp elt [⟨tg, iter, ifs, 0⟩] scope pos) spos) (tAsg (tEv Γ P (.lc (own.map (·.2)) tg' it c t)) (gName i)) :=
  ⟨lc_ok hc hN hpa htg hi ok hg ht he hs, fun hy hyl hsw => PS.imp (ps_setLc hc hN hy hyl hsw hi ok hg ht he hs) fun σ H D q => lc_tLc hpa htg q⟩
theorem lc2_both {X : Cx} {P : Par} {Γ : Cx0} {elt tg iter tg1 iter1 : Expr} {scope : Scope} {own : List (Str × Nat)} {vs1 : List Nat} {pos : Pos} {tg' tg1' : Tg} {it it1 : Fc.It} {t : Tm} (hc : X.calm = true) (hN : X.N.Nodup) (hpa : PaOk P Γ.np) (htg : ∀ j ∈ tgIx tg', j ∈ own.map (·.2)) (htg1 : ∀ j ∈ tgIx tg1', j ∈ vs1) (hv : ∀ j ∈ vs1, j ∈ own.map (·.2)) (hi : PI X tg iter (tIt Γ P it)) (ok : BlkOk X.N X.env.scope scope own)
    (hg : ∀ (s : Shared) (H : Hp) (C : Addr) (cl : List (Str × Addr)) (fp : List Addr), PG (X.blk s H scope (compEnvC scope cl C X.env) fp) tg (tPg P Γ.np tg'))
    (hi1 : ∀ (s : Shared) (H : Hp) (C : Addr) (cl : List (Str × Addr)) (fp : List Addr), PI (X.blk s H scope (compEnvC scope cl C X.env) fp) tg1 iter1 (tIt Γ P it1))
    (hg1 : ∀ (s : Shared) (H : Hp) (C : Addr) (cl : List (Str × Addr)) (fp : List Addr), PG (X.blk s H scope (compEnvC scope cl C X.env) fp) tg1 (tPg P Γ.np tg1'))
    (he : ∀ (s : Shared) (H : Hp) (C : Addr) (cl : List (Str × Addr)) (fp : List Addr), PE (X.blk s H scope (compEnvC scope cl C X.env) fp) elt (tEv Γ P t)) (hs : ∀ x, foldedSetIterable iter X.env x = pure x) (hs1 : ∀ env x, foldedSetIterable iter1 env x = pure x) :
    PE X (.ListComp elt [⟨tg, iter, [], 0⟩, ⟨tg1, iter1, [], 0⟩] scope pos) (tEv Γ P (.lc2 (own.map (·.2)) vs1 tg' it tg1' it1 t)) ∧
    ∀ {i : Nat} {y : Str} {py spos : Pos}, X.N[i]? = some y → X.env.scope.names.lookup y = some .local → swapsWith (.ListComp elt [⟨tg, iter, [], 0⟩, ⟨tg1, iter1, [], 0⟩] scope pos) (some (.Name y py)) spos.line X.env = pure true →
      PS X (.Assign [.Name y py] (.ListComp elt [⟨tg, iter, [], 0⟩, ⟨tg1, iter1, [], 0⟩] scope pos) spos) (tAsg (tEv Γ P (.lc2 (own.map (·.2)) vs1 tg' it tg1' it1 t)) (gName i)) :=
  ⟨PE.imp (pe_lc2 hc hN hi ok hv hg (fun _ _ _ _ _ => pts_nil) hi1 hg1 (fun _ _ _ _ _ => pts_nil) he hs hs1) fun σ H Q q => lc2_tLc hpa htg htg1 hv q,
   fun hy hyl hsw => PS.imp (ps_setLc2 hc hN hy hyl hsw hi ok hv hg (fun _ _ _ _ _ => pts_nil) hi1 hg1 (fun _ _ _ _ _ => pts_nil) he hs hs1) fun σ H D q => lc2_tLc hpa htg htg1 hv q⟩
end
end Fc
set_option Elab.async false
set_option linter.all false
set_option maxHeartbeats 2000000
set_option maxRecDepth 10000
/-! Calls where it is known that nothing is being shown: repr. -/
namespace Fc
open PySem PySem.Spec PyProof.Rows L2
section
variable {X : Cx} {P : Par}
theorem call_repr_dp (hg : X.A.guards = some []) (hu : X.A.units + 65 < cLine) : CallR X (.builtin "repr") (fun xs H Q => ∃ (p : Addr) (d : PyData), xs = [.ref p] ∧ Dp X.K H (.ref p) d ∧ d.showable = true ∧ d.hasDict = false ∧ d.depth < 50 ∧ d.shown.length ≤ sizeLine ∧ Q (.str d.shown) H) := by
  intro pins s σ H xs us Q I r ⟨p, d, hx, h1, h2, h3, h4, h5, q⟩
  subst hx
  obtain ⟨u, rfl, ru⟩ := vals1 r
  obtain rfl : u = Value.ref p := ru
  obtain ⟨as, R⟩ := Dp.reads I d _ _ h1 rfl
  exact PySem.repr_of_reads' R h2 (fun z => by rw [h3] at z; cases z) hg (by omega) (fun _ _ z => z) (fun h' t tk k => ⟨.str d.shown, H, I.kept k, ⟨t, rfl⟩, q⟩) h5
theorem blt_repr (hK : P.K = X.K) : BltR X P .repr (fun xs H Q => ∃ (p : Addr) (d : PyData), xs = [.ref p] ∧ Dp X.K H (.ref p) d ∧ d.showable = true ∧ d.hasDict = false ∧ d.depth < 50 ∧ d.shown.length ≤ sizeLine ∧ Q (.str d.shown) H) := fun ψ τ ρ O σ H ds vs l Q rr rv e k => by
  unfold bltD at e
  split at e <;> first | cases e | skip
  all_goals (rename_i hd; cases hd)
  rename_i xs
  obtain ⟨v, rfl, h1⟩ := rv.one
  unfold reprD at e
  split at e
  · rename_i p hp
    split at e
    · rename_i hc
      cases e
      have hD := h1.dp hp
      rw [hK] at hD
      cases h1 with
      | lst g1 g2 g3 g4 => exact ⟨_, p, rfl, hD, hc.1, hc.2.1, hc.2.2.1, hc.2.2.2, k ψ H _ (res_dp rr (.str _))⟩
    · cases e
  · cases e
end
/-- a def's promise where nothing is being shown -/
structure FnG (P : Program) (w : World) (K : PySem.W.Frag) (mg : Str → Option Value) (base : Heap) (CX : CXT) (k : Nat) (f : Addr) (fd : FuncData) (ps : List Str) (sp : Sp) : Prop where
  len : ∀ zs G Q E, sp zs G Q E → zs.length = ps.length
  run : ∀ (B : Around) (out : List Env) (z : Shared) (G : Hp) (ar : PySem.Args) (us : List Value) (zs : List V) (Q : VK) (E : XK), Room k B → B.guards = some [] → Env0 P w K mg base B out z G → BindsTo z fd ar (ps.zip us) → Vals zs us → sp zs G Q E →
    codeAny (model P w) B (.call (.ref f) ar) (CR CX out P w G z Q E) z
section
variable {P : Program} {w : World} {K : PySem.W.Frag} {mg : Str → Option Value} {base : Heap} {CX : CXT} {k : Nat} {f : Addr} {fd : FuncData} {ps : List Str} {sp : Sp}
theorem FnG.of (F : FnOk P w K mg base CX k f fd ps sp) : FnG P w K mg base CX k f fd ps sp := ⟨F.len, fun B out z G ar us zs Q E h1 _ h2 h3 h4 h5 => F.run B out z G ar us zs Q E h1 h2 h3 h4 h5⟩
end
section
variable {X : Cx} {CX : CXT} {k : Nat} {f : Addr} {fd : FuncData} {ps : List Str} {sp : Sp} {E : XK} {x : Str} {p pos : Pos} {e : Expr} {es : List Expr} {t : TA}
theorem run_fnG {pins : List (Addr × Obj)} {σ : L2.St} {H : Hp} {s : Shared} {Q : VK} {us : List Value} {zs : List V} (F : FnG X.prog X.w X.K X.mg X.base CX k f fd ps sp) (hgd : X.A.guards = some []) (hr : Room k X.A) (hb : Binds X.K fd ps []) (hx : Passes CX X E)
    (I : Inv X pins σ H s) (r : Vals zs us) (h : sp zs H Q E) : wpAny (model X.prog X.w) X.A (call (.ref f) us) (EP X pins σ Q) X.xe s := by
  have hl : (us ++ []).length = ps.length := by rw [List.append_nil, ← r.length]; exact F.len _ _ _ _ h
  have hto := hb s us I.kIn hl
  rw [List.append_nil] at hto
  refine wpAny_call (codeAny_mono (F.run X.A X.stack s H ⟨us, []⟩ us zs Q E hr hgd I.env0 hto r h) fun o s' q => ?_)
  match o, q with
  | .error e, q => exact hx pins σ H s e s' I q
  | .ok (.ret u), q => exact I.after q
  | .ok .next, q => exact q.elim
  | .ok .brk, q => exact q.elim
  | .ok .cont, q => exact q.elim
theorem pe_callG (F : FnG X.prog X.w X.K X.mg X.base CX k f fd ps sp) (hgd : X.A.guards = some []) (hr : Room k X.A) (hg : Gl X x) (hm : X.mg x = some (.ref f)) (hk : PySem.W.keepIn X.K (.ref f) = true) (hb : Binds X.K fd ps []) (hx : Passes CX X E)
    (ha : PA X (e :: es) t) (hdb : (x == ("__debug__" : Str)) = false) (he : starEach (e :: es) X.env = (false, eval e X.env) :: starEach es X.env) (hpl : (backTo pos (starEach es X.env)).any (·.1) = false) :
    PE X (.Call (.Name x p) (e :: es) [] pos) (tCall sp [] E t) := ⟨fun pins s σ H Q I h => by
  refine wpAny_Call_Name_kw (ld_glob I hg hm ?_ hdb)
  have go := ha.run pos pins s σ H _ I h
  exact PySem.W.callWith_K (h₀ := X.base) I.ok.mod.kin hk (thn go fun us s1 ⟨zs, G, J, r, q⟩ => ⟨J.kIn, run_fnG F hgd hr hb hx J r (by have q' : sp (zs ++ []) G Q E := q; rw [List.append_nil] at q'; exact q')⟩) he hpl⟩
theorem pe_callG0 (F : FnG X.prog X.w X.K X.mg X.base CX k f fd ps sp) (hgd : X.A.guards = some []) (hr : Room k X.A) (hg : Gl X x) (hm : X.mg x = some (.ref f)) (hk : PySem.W.keepIn X.K (.ref f) = true) (hb : Binds X.K fd ps []) (hx : Passes CX X E)
    (hdb : (x == ("__debug__" : Str)) = false) : PE X (.Call (.Name x p) [] [] pos) (tCall sp [] E tNil) := ⟨fun pins s σ H Q I h => by
  refine wpAny_Call_Name_kw (ld_glob I hg hm ?_ hdb)
  exact PySem.W.callWith_K0 I.kIn hk (run_fnG (us := []) F hgd hr hb hx I .nil h)⟩
end
section
variable {X : Cx} {P : Par} {Γ : Cx0} {CX : CXT} {k n F f : Nat} {T : Tab} {fa : Addr} {fd : FuncData} {ps : List Str} {x : Str} {pos p2 : Pos} {e : Expr} {es : List Expr} {xs : Tms} {md : List Bool}
variable (hc : Γ.cf = callN T F n)
include hc in
theorem callG_ok (Fk : FnG X.prog X.w X.K X.mg X.base CX k fa fd ps (spEv P.K P.ca T F n f)) (hgd : X.A.guards = some []) (hr : Room k X.A) (hg : Gl X x) (hm : X.mg x = some (.ref fa)) (hk : PySem.W.keepIn X.K (.ref fa) = true) (hb : Binds X.K fd ps []) {E : XK} (hx : Passes CX X E)
    (ha : PA X (e :: es) (tAs Γ P md xs)) (hdb : (x == ("__debug__" : Str)) = false) (he : starEach (e :: es) X.env = (false, eval e X.env) :: starEach es X.env) (hpl : (backTo pos (starEach es X.env)).any (·.1) = false) :
    PE X (.Call (.Name x p2) (e :: es) [] pos) (tEv Γ P (.call f md [] xs)) := PE.imp (pe_callG Fk hgd hr hg hm hk hb hx ha hdb he hpl) fun σ H Q q => by
  obtain ⟨ψ, τ, ρ, O, as, ρ', O', r, e1, kk⟩ := call_sp (E := E) hc q
  refine ⟨ψ, τ, ρ, O, as, ρ', O', r, e1, fun ψ' H' vs a1 a2 => ?_⟩
  show spEv P.K P.ca T F n f (vs ++ []) H' Q E
  rw [List.append_nil]
  exact kk ψ' H' vs a1 a2
include hc in
theorem callG0_ok (Fk : FnG X.prog X.w X.K X.mg X.base CX k fa fd ps (spEv P.K P.ca T F n f)) (hgd : X.A.guards = some []) (hr : Room k X.A) (hg : Gl X x) (hm : X.mg x = some (.ref fa)) (hk : PySem.W.keepIn X.K (.ref fa) = true) (hb : Binds X.K fd ps []) {E : XK} (hx : Passes CX X E)
    (hdb : (x == ("__debug__" : Str)) = false) : PE X (.Call (.Name x p2) [] [] pos) (tEv Γ P (.call f md [] .nil)) := PE.imp (pe_callG0 Fk hgd hr hg hm hk hb hx hdb) fun σ H Q q => by
  obtain ⟨ψ, τ, ρ, O, as, ρ', O', r, e1, kk⟩ := call_sp (E := E) hc q
  have e' : some (([] : List Ar), (ρ, O)) = some (as, (ρ', O')) := e1
  cases e'
  exact kk ψ H [] (.refl r) ⟨rfl, fun j a v e => by simp at e⟩
end
/-- a def whose body is run where nothing is being shown -/
theorem fng_of {CX : CXT} {P : Program} {w : World} {K : PySem.W.Frag} {mg : Str → Option Value} {base : Heap} {k : Nat} {f : Addr} {name qual : Str} {params : Arguments} {body : List Stmt} {scope : Scope} {dV kV doc pm cdv ct oc : Value} {an od : Option Addr}
    {osl : Array (Option Value)} {N ps : List Str} {sp : Sp} (lk : K.lookup f = some ⟨oc, od, .func (PySem.W.fnOf name qual params body scope dV kV doc pm an cdv ct), osl⟩) (hcd : PySem.W.codeIn K cdv qual = true) (S : FnScope N ps scope)
    (len : ∀ vs H Q E, sp vs H Q E → vs.length = ps.length)
    (hbody : ∀ (B : Around) (out : List Env) (z : Shared) (G : Hp) (zs : List V) (Q : VK) (E : XK), Room k (B.deeper (envOfC qual scope z.heap.objs.size f cdv)) → B.guards = some [] → sp zs G Q E →
      ∃ t, PSs (cxOf CX P w K mg base N qual scope f cdv B out z G E) body t ∧ t { nx := fun _ G' => Q .non G', rt := Q } (L2.start N zs) G) :
    FnG P w K mg base CX (k + 1) f (PySem.W.fnOf name qual params body scope dV kV doc pm an cdv ct) ps sp := ⟨len, fun B out z G ar us zs Q E hr hgd e0 hb r hsp => by
  have keep : ∀ b o, base.get? b = some o → z.heap.get? b = some o := fun b o e => (e0.bs b o e).1
  have KX : K.In z.heap := e0.mod.kin.keeps keep
  have lim : z.heap.NoLimit := e0.mod.nolimit.keeps keep
  have hp : ∀ y ∈ ps.zip us, scope.names.lookup y.1 = some .local ∨ (scope.names.lookup y.1 = some .cell ∧ ((cellsFrom (z.heap.objs.size + 1) scope.names []).lookup y.1).isSome = true) := by
    rintro ⟨n, v⟩ hy
    exact (S.par n (List.of_mem_zip hy).1).imp (fun q => q) fun q => ⟨q, PySem.W.cellsFrom_some _ _ _ (.inl q)⟩
  apply codeAny_call_function hr.depth (KX _ _ lk) rfl S.co S.gen rfl (PySem.W.codeRec_of KX hcd) (hb _ _ _ _ ?_)
  apply wpAny_newFunctionEnv_cells S.kind hp
  rintro env rfl s1 x
  refine ⟨lim.keeps x.toInCall.keep, codeAny_func ?_⟩
  obtain ⟨t, ht, hq⟩ := hbody B out z G zs Q E (hr.deeper _) hgd hsp
  have J := inv_start (CX := CX) (E := E) S hr.hd e0 (len _ _ _ _ hsp) r x
  apply wpAny_mono (ht.run [] s1 (L2.start N zs) G _ J hq)
  · rintro fl s' hs
    match fl, hs with
    | .ret u, ⟨v, _, G', J', rv, q⟩ => exact ⟨v, G', J'.os, J'.bare, J'.base, J'.hok, rv, q⟩
    | .next, ⟨_, G', J', q⟩ => exact ⟨.non, G', J'.os, J'.bare, J'.base, J'.hok, rfl, q⟩
    | .brk, ⟨_, _, _, q⟩ => exact q.elim
    | .cont, ⟨_, _, _, q⟩ => exact q.elim
  · exact fun e s' hs => hs⟩
theorem fng_ok {CX : CXT} {P : Program} {w : World} {K : PySem.W.Frag} {mg : Str → Option Value} {base : Heap} {k : Nat} {fa : Addr} {name qual : Str} {params : Arguments} {body : List Stmt} {scope : Scope} {dV kV doc pm cdv ct oc : Value} {an od : Option Addr}
    {osl : Array (Option Value)} {N ps : List Str} {ca : Nat → Addr} {T : Tab} {F n f : Nat} {d : Fd} (hT : T.fn f = some d) (lk : K.lookup fa = some ⟨oc, od, .func (PySem.W.fnOf name qual params body scope dV kV doc pm an cdv ct), osl⟩) (hcd : PySem.W.codeIn K cdv qual = true) (S : FnScope N ps scope)
    (hN : N.length = d.nl) (hps : ps.length = d.np) (hle : d.np ≤ d.nl)
    (hb : ∀ (A : Around) (outer : List Env) (s : Shared) (H : Hp) (E : XK) (p : Par), Room k (A.deeper (PyProof.Rows.envOfC qual scope s.heap.objs.size fa cdv)) → A.guards = some [] → p.K = K → p.ca = ca → PaOk p d.np →
      PSs (cxOf CX P w K mg base N qual scope fa cdv A outer s H E) body (tSt p (exs ⟨callN T F n, d.np, T.kc, T.mth, T.prp, T.ini, T.cm⟩ F d.body))) :
    FnG P w K mg base CX (k + 1) fa (PySem.W.fnOf name qual params body scope dV kV doc pm an cdv ct) ps (spEv K ca T F (n + 1) f) := by
  have inv : ∀ {sls O l outs O'}, callN T F (n + 1) f sls O = some (l, outs, O') → sls.length = d.np ∧ ∃ fl ρ, exs ⟨callN T F n, d.np, T.kc, T.mth, T.prp, T.ini, T.cm⟩ F d.body (sls ++ List.replicate (d.nl - d.np) .no, O) = some (fl, (ρ, O')) ∧ outs = ρ.take d.np ∧ (fl = .ret l ∨ (fl = .next ∧ l = .dp .non)) := fun {sls O l outs O'} h => by
    have h' : (match T.fn f with
      | none => none
      | some d => if sls.length = d.np then (match exs ⟨callN T F n, d.np, T.kc, T.mth, T.prp, T.ini, T.cm⟩ F d.body (sls ++ List.replicate (d.nl - d.np) .no, O) with
        | some (.ret l, (ρ, O')) => some (l, ρ.take d.np, O')
        | some (.next, (ρ, O')) => some (.dp .non, ρ.take d.np, O')
        | _ => none) else none) = some (l, outs, O') := h
    rw [hT] at h'
    dsimp only at h'
    split at h'
    · rename_i hl
      refine ⟨hl, ?_⟩
      split at h'
      · rename_i l1 ρ O1 e
        cases h'
        exact ⟨_, _, e, rfl, .inl rfl⟩
      · rename_i ρ O1 e
        cases h'
        exact ⟨_, _, e, rfl, .inr ⟨rfl, rfl⟩⟩
      · cases h'
    · cases h'
  refine fng_of lk hcd S (fun vs H Q E h => ?_) fun A outer s H vs Q E hr hgd h => ?_
  · obtain ⟨U, ψ, O, sls, l, outs, O', r, e, _⟩ := h
    have := r.len
    rw [List.length_map] at this
    rw [← this, (inv e).1, hps]
  · obtain ⟨U, ψ, O, sls, l, outs, O', r, e, k0⟩ := h
    obtain ⟨hl, fl, ρ, e1, rfl, hf⟩ := inv e
    have hvl : vs.length = d.np := by
      have := r.len
      rw [List.length_map] at this
      omega
    refine ⟨_, hb A outer s H E (par0 K ca U H sls vs) hr hgd rfl rfl (hl ▸ par0_ok), ?_⟩
    have a0 := r.pad (d.nl - d.np)
    have hst : L2.start N vs = vs.map some ++ List.replicate (d.nl - d.np) none := by
      unfold L2.start
      rw [hN, hvl]
    rw [hst]
    refine ⟨ψ, _, O, fl, ρ, O', a0.rep, e1, ?_⟩
    have fin : ∀ {τc ψ' H' σ'}, Aft (par0 K ca U H sls vs) ψ [] (sls ++ List.replicate (d.nl - d.np) .no) (vs.map some ++ List.replicate (d.nl - d.np) none) H ψ' τc ρ O' σ' H' → Aft (par0 K ca U H sls vs) ψ [] sls (vs.map some) H ψ' τc (ρ.take d.np) O' (σ'.take d.np) H' ∧ Aft (par0 K ca U H sls vs) ψ' τc ρ σ' H' ψ' τc (ρ.take d.np) O' (σ'.take d.np) H' := fun {τc ψ' H' σ'} a => by
      have c := a.rep.cut d.np (fun j b hj => by rw [← hl]; exact par0_ok.2 j b hj)
      exact ⟨(a0.trans a).trans c, c⟩
    rcases hf with hf | ⟨hf, hl2⟩
    · subst hf
      intro ψ' H' σ' v res
      cases l with
      | dp dd =>
        obtain ⟨res, rv⟩ := res
        obtain ⟨f1, f2⟩ := fin res
        exact k0 ψ' H' v (σ'.take d.np) ⟨f1, rv.mono f2.pre f2.pres⟩
      | fr o =>
        obtain ⟨a, ea, res⟩ := res
        exact k0 ψ' H' v (σ'.take d.np) ⟨a, ea, (fin res).1⟩
    · subst hf hl2
      intro ψ' H' σ' a
      exact k0 ψ' H' .non (σ'.take d.np) ⟨(fin a).1, .non⟩
end Fc
set_option Elab.async false
set_option linter.all false
set_option maxHeartbeats 4000000
set_option maxRecDepth 10000
/-! The checker is sound: expressions. -/
namespace Fc
open PySem L2
structure Glob where
  ca : Nat → Addr
  T : Tab
  F : Nat
  fa : Nat → Addr
  fd : Nat → FuncData
  ps : Nat → List Str
/-- what stands in the written part, once for all -/
structure SOk (C : Ck) (G : Glob) (K : PySem.W.Frag) (w : World) (mg : Str → Option Value) : Prop where
  fn : ∀ x f, C.gl x = some (.fn f) → mg x = some (.ref (G.fa f)) ∧ PySem.W.keepIn K (.ref (G.fa f)) = true ∧ ∃ d, G.T.fn f = some d
  cst : ∀ x d, C.gl x = some (.cst d) → ∃ v u, mg x = some u ∧ RelV v u ∧ ∀ ψ W H, RV K G.ca ψ W H d v
  dic : ∀ x ps, C.gl x = some (.dic ps) → ∃ d en n, mg x = some (.ref d) ∧ KDict K w d en n ∧ ∀ s : Str, ∃ r, PySem.W.nsIn K d s = some r ∧ ((r = none ∧ valK ps (.inr s) = none) ∨ ∃ u v dd, r = some u ∧ RelV v u ∧ valK ps (.inr s) = some dd ∧ ∀ ψ W H, RV K G.ca ψ W H dd v)
  cls : ∀ x c, C.gl x = some (.cls c) → mg x = some (.ref (G.ca c)) ∧ ∀ d u, tyD G.ca d = some u → isK G.T.kc (.cls c) d = true → PySem.W.kitOne K u (.ref (G.ca c)) = some (isD (.cls c) d)
  blt : ∀ n ∈ bltNames, mg (Str.ofString n) = none
  kit : ∀ k n d u, tyN k = some n → tyD G.ca d = some u → isK G.T.kc k d = true → PySem.W.kitOne K u (.type n) = some (isD k d)
  bind : ∀ f d, G.T.fn f = some d → Binds K (G.fd f) (G.ps f) []
  mks : ∀ c dds, C.mks c dds = true → ∃ f dvs ds, G.T.ini c = some f ∧ (∃ d, G.T.fn f = some d) ∧ (∀ ψ W H, RVs K G.ca ψ W H dds dvs) ∧ Mk K (G.ca c) (G.fa f) ∧ Binds K (G.fd f) (G.ps f) ds ∧ Vals dvs ds
  mth : ∀ c m f md, G.T.mth c m = some (f, md) → Cls K (G.ca c) ∧ Meth K (G.ca c) m (G.fa f) ∧ ∃ d, G.T.fn f = some d
  prp : ∀ c p f, G.T.prp c p = some f → ∃ pa, Cls K (G.ca c) ∧ PropOf K (G.ca c) p pa (G.fa f) ∧ ∃ d, G.T.fn f = some d
  cl : ∀ c, G.T.kc c = true → ClsI K (G.ca c)
  cm : ∀ c m f, G.T.cm c m = some f → ∃ mc pa d, ClX.CRead K (G.ca c) mc ∧ ClX.CMet K (G.ca c) mc m pa (G.fa f) ∧ G.T.fn f = some d
  kw : ∀ f ks, C.kws f ks = true → KBinds K (G.fd f) (G.ps f) ks swU swV
  fl : ∀ c f, G.T.kc c = true → C.fl f = true → NoAttr K (G.ca c) f
  spm : ∀ c m f md, G.T.mth c m = some (f, md) → C.sp f = false
  spp : ∀ c m f, G.T.prp c m = some f → C.sp f = false
  spi : ∀ c f, G.T.ini c = some f → C.sp f = false
  spc : ∀ c m f, G.T.cm c m = some f → C.sp f = false
theorem SOk.gd {C : Ck} {G : Glob} {K : PySem.W.Frag} {w : World} {mg : Str → Option Value} (h : SOk C G K w mg) (b : Bool) : SOk { C with gd := b } G K w mg :=
  ⟨h.fn, h.cst, h.dic, h.cls, h.blt, h.kit, h.bind, h.mks, h.mth, h.prp, h.cl, h.cm, h.kw, h.fl, h.spm, h.spp, h.spi, h.spc⟩
/-- a context in which n calls may be nested -/
structure CxOk (C : Ck) (G : Glob) (n : Nat) (X : Cx) : Prop where
  st : SOk C G X.K X.w X.mg
  calm : X.calm = true
  room : Room (2 * n + 1) X.A
  nd : X.N.Nodup
  fns : ∀ f d, G.T.fn f = some d → C.sp f = false → FnOk X.prog X.w X.K X.mg X.base (L2.CX X.prog X.w) (2 * n) (G.fa f) (G.fd f) (G.ps f) (spEv X.K G.ca G.T G.F n f)
  fng : C.gd = true → ∀ f d, G.T.fn f = some d → FnG X.prog X.w X.K X.mg X.base (L2.CX X.prog X.w) (2 * n) (G.fa f) (G.fd f) (G.ps f) (spEv X.K G.ca G.T G.F n f)
  gdk : C.gd = true → X.A.guards = some []
abbrev gam (G : Glob) (n np : Nat) : Cx0 := ⟨callN G.T G.F n, np, G.T.kc, G.T.mth, G.T.prp, G.T.ini, G.T.cm⟩
theorem CxOk.blk {C : Ck} {G : Glob} {n : Nat} {X : Cx} (h : CxOk C G n X) (s : Shared) (H : Hp) (scope : Scope) (cenv : Env) (fp : List Addr) : CxOk C G n (X.blk s H scope cenv fp) := ⟨h.st, h.calm, h.room, h.nd, h.fns, h.fng, h.gdk⟩
section
variable {C : Ck} {G : Glob} {n np : Nat} {X : Cx} {N : List Str} {sc : Scope} {P : Par} {x : Str} {i : Nat} {pos : Pos} {e : Expr} {t : Tm}
theorem CxOk.un (h : CxOk C G n X) : X.A.units + 65 < cLine := by have := h.room.un; omega
theorem gl_of (hs : X.env.scope = sc) (h : glB sc x = true) : Gl X x ∧ (x == ("__debug__" : Str)) = false := by
  unfold glB at h
  split at h
  · rename_i h2
    refine ⟨?_, ?_⟩
    · show X.env.scope.names.lookup x = _
      rw [hs]
      exact h2
    · simpa using h
  · cases h
theorem vis_of (hs : X.env.scope = sc) (h : visB sc x = true) : Vis X.env.scope x := by
  rw [hs]
  unfold visB at h
  split at h
  · rename_i h2; exact .inl h2
  · rename_i h2; exact .inr (.inl h2)
  · rename_i h2; exact .inr (.inr h2)
  · cases h
theorem var_of (hs : X.env.scope = sc) (hN : X.N = N) (h : varB N sc i x = true) : PE X (.Name x pos) (tVar i) := by
  unfold varB at h
  rw [Bool.and_eq_true, Bool.and_eq_true, Bool.and_eq_true] at h
  obtain ⟨⟨⟨h1, h2⟩, h3⟩, h4⟩ := h
  exact pe_var (by rw [hN]; exact eq_of_beq h1) (vis_of hs h2) (by simpa using h3) (by simpa using h4)
theorem sto_of {fl : Str → Bool} (hs : X.env.scope = sc) (hN : X.N = N) (hfl : ∀ x, fl x = true → X.fn x = true) (h : stoB N sc fl i x = true) : X.N[i]? = some x ∧ Loc X.env.scope x ∧ (X.fn x = true ∨ X.env.scope.names.lookup x = some .local) := by
  unfold stoB at h
  rw [Bool.and_eq_true] at h
  obtain ⟨h1, h2⟩ := h
  refine ⟨by rw [hN]; exact eq_of_beq h1, ?_⟩
  rw [hs]
  split at h2
  · rename_i h3; exact ⟨.inl h3, .inr h3⟩
  · rename_i h3; exact ⟨.inr h3, .inl (hfl x h2)⟩
  · cases h2
theorem cst_any {d : D} {v : V} (h : PE X e (tC v)) (r : ∀ ψ W H, RV P.K P.ca ψ W H d v) : PE X e (tEv (gam G n np) P (.cst d)) := PE.imp h fun σ H Q q => by
  obtain ⟨ψ, τ, ρ, O, l, ρ', O', rr, e, k⟩ := q
  have e' : some (L.dp d, (ρ, O)) = some (l, (ρ', O')) := e
  cases e'
  exact k ψ H v ⟨.refl rr, r _ _ _⟩
theorem cstC_ok {c : Const} {d : D} {k0 : Nat} (h : cstC c d = true) : PE X (.Constant c k0 pos) (tEv (gam G n np) P (.cst d)) := by
  unfold cstC at h
  split at h
  · exact cst_any pe_non fun _ _ _ => .non
  · rw [eq_of_beq h]; exact cst_any pe_bl fun _ _ _ => .bl _
  · rw [eq_of_beq h]; exact cst_any pe_int fun _ _ _ => .int _
  · rw [eq_of_beq h]; exact cst_any pe_str fun _ _ _ => .str _
  · cases h
theorem bop_ok {op : BOp} {po : Operator} (hK : P.K = X.K) (h : bopOk op po = true) : OpR X (binaryOp po) (rB P (binD op)) := by
  unfold bopOk at h
  split at h
  · exact ob_add hK
  · exact ob_sub hK
  · exact ob_mul hK
  · exact ob_fdiv hK
  · exact ob_mod hK
  · exact ob_pow hK
  · exact ob_and hK
  · cases h
theorem cop_ok {op : COp} {po : CmpOp} (hK : P.K = X.K) (hu : X.A.units + 65 < cLine) (h : copOk op po = true) : OpR X (compareOp po) (rB P (cmpL op)) := by
  unfold copOk at h
  split at h
  · exact oc_eq hK hu
  · exact oc_ne hK hu
  · exact oc_lt
  · exact oc_le
  · exact oc_gt
  · exact oc_ge
  · exact oc_is
  · exact oc_isn
  · exact oc_in hK hu
  · exact oc_nin hK hu
  · cases h
/-- what is known of a checked term -/
structure ES (X : Cx) (Γ : Cx0) (P : Par) (t : Tm) (e : Expr) : Prop where
  ev : PE X e (tEv Γ P t)
  tst : noIf e = true → PT X e (tTst Γ P (tsv Γ t))
  pw : ∀ op vs pos, e = .BoolOp op vs pos → PW X e (tTst Γ P (tsv Γ t))
  ok : okH e = true
  vr : ∀ i, t = .var i → PE X e (tVar i)
  sw : isLC e = true → ∀ {i : Nat} {y : Str} {py spos : Pos}, X.N[i]? = some y → X.env.scope.names.lookup y = some .local → swapsWith e (some (.Name y py)) spos.line X.env = pure true → PS X (.Assign [.Name y py] e spos) (tAsg (tEv Γ P t) (gName i))
theorem ES.pl {Γ : Cx0} (h : ES X Γ P t e) : PE X e (tPl Γ P t) := place_ok h.ev h.vr
theorem ES.ar {Γ : Cx0} (h : ES X Γ P t e) (b : Bool) : PE X e (tAr Γ P b t) := by
  cases b with
  | false => exact arg_val h.ev
  | true => exact arg_mut h.pl
theorem ES.mk' {Γ : Cx0} (hK : P.K = X.K) (hE : PE X e (tEv Γ P t)) (ho : okH e = true) (hp : plainT e = true) (hv : ∀ i, t = .var i → PE X e (tVar i)) (ht : tsv Γ t = Fc.tst t (Fc.ev Γ t)) (hl : isLC e = false := by rfl) : ES X Γ P t e :=
  ⟨hE, fun _ => (by rw [ht]; exact plain_t hK (place_ok hE hv) (plainT_ok hp X.env)), fun op vs pos z => (by subst z; cases hp), ho, hv, fun z => by rw [hl] at z; cases z⟩
theorem chain_t {Γ : Cx0} {a b c : Expr} {ta tb tc : Tm} {o1 o2 : COp} {p1 p2' : CmpOp} (h1 : OpR X (compareOp p1) (rB P (cmpL o1))) (h2 : OpR X (compareOp p2') (rB P (cmpL o2))) (ha : PE X a (tEv Γ P ta)) (hb : PE X b (tEv Γ P tb)) (hc : PE X c (tEv Γ P tc)) (hm : lastMarks [p1, p2'] [b, c] = false) :
    PT X (.Compare a [p1, p2'] [b, c] pos) (tTst Γ P (Fc.tst (.chain o1 o2 ta tb tc) (ev Γ (.chain o1 o2 ta tb tc)))) := PT.imp (pt_chain h1 h2 ha hb hc hm) fun σ H Q q => by
  refine chain_imp ?_
  obtain ⟨ψ, τ, ρ, O, k, ρ', O', r, e, q⟩ := q
  have e' : (match (match ev Γ (.chain o1 o2 ta tb tc) (ρ, O) with
    | some (l, s') => some (Pl.vl l, s')
    | none => none) with
    | none => none
    | some (p, s1) => match view p s1 with
      | none => none
      | some (x, _) => match truthD x with
        | none => none
        | some k => some (k, s1)) = some (k, (ρ', O')) := e
  cases e1 : ev Γ (.chain o1 o2 ta tb tc) (ρ, O) with
  | none => rw [e1] at e'; cases e'
  | some z =>
    obtain ⟨l, ρ1, O1⟩ := z
    have hl : ∃ c, l = .dp (.bl c) := by
      have e2 : (match ev Γ ta (ρ, O) with
        | none => none
        | some (x, s1) => match ev Γ tb s1 with
          | none => none
          | some (y, s2) => match cmpD o1 x.deep y.deep with
            | none => none
            | some false => some (L.dp (.bl false), s2)
            | some true => match ev Γ tc s2 with
              | none => none
              | some (z, s3) => match cmpD o2 y.deep z.deep with
                | none => none
                | some k => some (L.dp (.bl k), s3)) = some (l, (ρ1, O1)) := e1
      split at e2
      · cases e2
      · split at e2
        · cases e2
        · split at e2
          · cases e2
          · cases e2; exact ⟨_, rfl⟩
          · split at e2
            · cases e2
            · split at e2
              · cases e2
              · cases e2; exact ⟨_, rfl⟩
    obtain ⟨c, rfl⟩ := hl
    rw [e1] at e'
    have e3 : some (c, (ρ1, O1)) = some (k, (ρ', O')) := e'
    cases e3
    exact ⟨ψ, τ, ρ, O, _, ρ', O', r, e1, fun ψ' H' v res => by
      obtain ⟨a, rv⟩ := res
      cases rv
      exact ⟨_, rfl, q ψ' H' a⟩⟩
end
end Fc
set_option Elab.async false
set_option linter.all false
set_option maxHeartbeats 8000000
set_option maxRecDepth 10000
/-! The checker is sound: targets of a walk, blocks. -/
namespace Fc
open PySem L2
section
variable {np : Nat} {N : List Str} {P : Par} {X : Cx} {sc : Scope} {fl : Str → Bool}
theorem gs_form : ∀ {ts : Tgs} {es : List Expr} (env : Env), chkGs N sc fl ts es = true → (assignEach es env).length = nTgs ts ∧ (assignEach es env).findIdx? (·.1) = none ∧ ∀ e r, es = e :: r → (assignEach (e :: r) env).map (·.2) = assign e env :: (assignEach r env).map (·.2)
  | .nil, es, env, h => by
    cases es with
    | nil => exact ⟨rfl, rfl, fun e r z => by cases z⟩
    | cons e es => cases h
  | .cons t ts, es, env, h => by
    cases es with
    | nil => cases h
    | cons e es =>
      have h' : (chkG N sc fl t e && chkGs N sc fl ts es) = true := h
      rw [Bool.and_eq_true] at h'
      obtain ⟨i1, i2, _⟩ := gs_form (ts := ts) (es := es) env h'.2
      have ha : assignEach (e :: es) env = (false, assign e env) :: assignEach es env := by
        cases t with
        | nm i =>
          cases e with
          | Name x p => rfl
          | _ => cases h'.1
        | tp us =>
          cases e with
          | Tuple as k p => rfl
          | _ => cases h'.1
      refine ⟨?_, ?_, fun e' r z => ?_⟩
      · rw [ha, List.length_cons, i1]
        rfl
      · rw [ha, List.findIdx?_cons, i2]
        rfl
      · cases z
        rw [ha]
        rfl
mutual
theorem chkG_ok (hc : X.calm = true) (hnd : X.N.Nodup) (hK : P.K = X.K) (hpa : PaOk P np) (hs : X.env.scope = sc) (hN : X.N = N) (hfl : ∀ x, fl x = true → X.fn x = true) : ∀ (t : Tg) {e : Expr}, chkG N sc fl t e = true → PG X e (tPg P np t)
  | .nm i, e, h => by
    cases e with
    | Name x p =>
      obtain ⟨h1, h2, h3⟩ := sto_of hs hN hfl (show stoB N sc fl i x = true from h)
      exact tg_nm (x := x) hpa (pg_name hnd h1 h2 h3)
    | _ => cases h
  | .tp ts, e, h => by
    cases e with
    | Tuple es k p =>
      have h' : chkGs N sc fl ts es = true := h
      obtain ⟨i1, i2, _⟩ := gs_form X.env h'
      exact tg_tp hK hc (chkGs_ok hc hnd hK hpa hs hN hfl ts h') i1 i2
    | _ => cases h
theorem chkGs_ok (hc : X.calm = true) (hnd : X.N.Nodup) (hK : P.K = X.K) (hpa : PaOk P np) (hs : X.env.scope = sc) (hN : X.N = N) (hfl : ∀ x, fl x = true → X.fn x = true) : ∀ (ts : Tgs) {es : List Expr}, chkGs N sc fl ts es = true → PGs X es (tPgs P np ts)
  | .nil, es, h => by
    cases es with
    | nil => exact tgs_nil
    | cons e es => cases h
  | .cons t ts, es, h => by
    cases es with
    | nil => cases h
    | cons e es =>
      have h' : (chkG N sc fl t e && chkGs N sc fl ts es) = true := h
      rw [Bool.and_eq_true] at h'
      obtain ⟨_, _, i3⟩ := gs_form X.env h
      exact tgs_cons (chkG_ok hc hnd hK hpa hs hN hfl t h'.1) (chkGs_ok hc hnd hK hpa hs hN hfl ts h'.2) (i3 e es rfl)
end
theorem blk_of {scope : Scope} {own : List (Str × Nat)} (h : blkB N sc scope own = true) : BlkOk N sc scope own := by
  unfold blkB at h
  rw [Bool.and_eq_true, Bool.and_eq_true, Bool.and_eq_true, Bool.and_eq_true] at h
  obtain ⟨⟨⟨⟨h1, h2⟩, h3⟩, h4⟩, h5⟩ := h
  refine ⟨?_, fun y hy => ?_, fun p hp => ?_, fun y hy z => ?_, fun y hy z => ?_⟩
  · split at h1
    · assumption
    · cases h1
  · exact eq_of_beq (List.all_eq_true.mp h2 y hy)
  · exact eq_of_beq (List.all_eq_true.mp h3 p hp)
  · have q := List.all_eq_true.mp h4 y hy
    rw [z] at q
    rw [Bool.or_eq_true] at q
    rcases q with q | q
    · exact .inl (eq_of_beq q)
    · exact .inr (eq_of_beq q)
  · have q := List.all_eq_true.mp h5 y hy
    have q' : ((own.map (·.1)).contains y.1 || !N.contains y.1) = true := by
      rcases z with z | z <;> rw [z] at q <;> exact q
    rw [Bool.or_eq_true] at q'
    rcases q' with q | q
    · exact .inl (List.contains_iff_mem.mp q)
    · refine .inr fun m => ?_
      have := List.contains_iff_mem.mpr m
      rw [this] at q
      cases q
theorem ownOf_snd (vs : List Nat) : (ownOf N vs).map (·.2) = vs := by
  unfold ownOf
  rw [List.map_map]
  exact List.map_id vs
end
end Fc
set_option Elab.async false
set_option linter.all false
set_option maxHeartbeats 8000000
set_option maxRecDepth 10000
/-! The checker is sound: expressions, all forms. -/
namespace Fc
open PySem L2
theorem pe_none {X : Cx} {e : Expr} : PE X e (fun _ _ _ => False) := ⟨fun _ _ _ _ _ _ h => h.elim⟩
theorem chkI_fold {C : Ck} {N : List Str} {sc : Scope} {it : It} {tg e : Expr} (h : chkI C N sc it tg e = true) : ∀ env x, foldedSetIterable e env x = pure x := fun env x => by
  cases it with
  | seq t =>
    have h' : (okH e && chkE C N sc t e) = true := h
    rw [Bool.and_eq_true] at h'
    exact okH_fold h'.1 env x
  | _ => cases e <;> first | rfl | cases h
section
variable {C : Ck} {G : Glob} {n np : Nat} {N : List Str} {P : Par} (hca : P.ca = G.ca) (hpa : PaOk P np)
theorem isNon_ok {t : Tm} (h : isNon t = true) : t = .cst .non := by
  unfold isNon at h
  split at h
  · rfl
  · cases h
theorem notNon_ok {t : Tm} (h : (!isNon t) = true) : t ≠ .cst .non := fun z => by
  subst z
  cases h
theorem sp_eq {X : Cx} (hK : P.K = X.K) (hca : P.ca = G.ca) (m f : Nat) : spEv X.K G.ca G.T G.F m f = spEv P.K P.ca G.T G.F m f := by rw [hK, hca]
theorem boot_ok {n : String} {b : Bool} (h : (n, b) ∈ [("abs", false), ("all", false), ("any", false), ("divmod", false), ("max", false), ("min", false), ("sum", false), ("isinstance", false), ("len", false)]) : bootBuiltins (Str.ofString n) = some (.builtin n) := by
  simp only [List.mem_cons, List.mem_nil_iff, or_false, Prod.mk.injEq] at h
  rcases h with h | h | h | h | h | h | h | h | h <;> (obtain ⟨rfl, _⟩ := h; rfl)
include hca hpa in
mutual
theorem chkE_ok : ∀ (t : Tm) {X : Cx} {sc : Scope} {e : Expr}, CxOk C G n X → X.env.scope = sc → X.N = N → P.K = X.K → chkE C N sc t e = true → ES X (gam G n np) P t e
  | .var i, X, sc, e, hX, hs, hN, hK, h => by
    cases e with
    | Name x pos =>
      have hv := var_of (pos := pos) hs hN (show varB N sc i x = true from h)
      exact .mk' hK (var_ok hv hpa.2) rfl rfl (fun j z => by cases z; exact hv) rfl
    | _ => cases h
  | .cst d, X, sc, e, hX, hs, hN, hK, h => by
    cases e with
    | Name x pos =>
      have h' : (glB sc x && (match C.gl x with
        | some (.cst d') => beqD d d'
        | _ => false)) = true := h
      rw [Bool.and_eq_true] at h'
      obtain ⟨h1, h2⟩ := h'
      obtain ⟨g1, g2⟩ := gl_of hs h1
      split at h2
      · rename_i d' hd
        have := beqD_ok h2
        subst this
        obtain ⟨v, u, m1, m2, m3⟩ := hX.st.cst x d hd
        exact .mk' hK (cst_any (pe_glob g1 m1 m2 g2) fun ψ W H => by rw [hK, hca]; exact m3 ψ W H) rfl rfl (fun j z => by cases z) rfl
      · cases h2
    | Constant c k pos => exact .mk' hK (cstC_ok (show cstC c d = true from h)) rfl rfl (fun j z => by cases z) rfl
    | _ => cases h
  | .bin op a b, X, sc, e, hX, hs, hN, hK, h => by
    cases e with
    | BinOp a' po b' pos =>
      have h' : (bopOk op po && chkE C N sc a a' && chkE C N sc b b') = true := h
      rw [Bool.and_eq_true, Bool.and_eq_true] at h'
      have ha := chkE_ok a hX hs hN hK h'.1.2
      have hb := chkE_ok b hX hs hN hK h'.2
      exact .mk' hK (bin_ok (bop_ok hK h'.1.1) ha.pl hb.pl) rfl rfl (fun j z => by cases z) rfl
    | _ => cases h
  | .neg a, X, sc, e, hX, hs, hN, hK, h => by
    cases e with
    | UnaryOp op a' pos =>
      cases op with
      | USub =>
        have ha := chkE_ok a hX hs hN hK (show chkE C N sc a a' = true from h)
        exact .mk' hK (neg_ok ha.ev) rfl rfl (fun j z => by cases z) rfl
      | _ => cases h
    | _ => cases h
  | .cmp op a b, X, sc, e, hX, hs, hN, hK, h => by
    cases e with
    | Compare a' ops bs pos =>
      match ops, bs, h with
      | [po], [b'], h =>
        have h' : (copOk op po && chkE C N sc a a' && chkE C N sc b b') = true := h
        rw [Bool.and_eq_true, Bool.and_eq_true] at h'
        have ha := chkE_ok a hX hs hN hK h'.1.2
        have hb := chkE_ok b hX hs hN hK h'.2
        have ho := cop_ok (P := P) hK hX.un h'.1.1
        exact ⟨cmp_ok ho ha.pl hb.pl (okH_behind hb.ok po), fun _ => cmp_t ho ha.pl hb.pl (okH_behind hb.ok po), fun op vs pos z => (by cases z), rfl, fun j z => (by cases z), fun z => by cases z⟩
    | _ => cases h
  | .chain o1 o2 a b c, X, sc, e, hX, hs, hN, hK, h => by
    cases e with
    | Compare a' ops bs pos =>
      match ops, bs, h with
      | [p1, p2], [b', c'], h =>
        have h' : (copOk o1 p1 && copOk o2 p2 && chkE C N sc a a' && chkE C N sc b b' && chkE C N sc c c') = true := h
        rw [Bool.and_eq_true, Bool.and_eq_true, Bool.and_eq_true, Bool.and_eq_true] at h'
        have ha := chkE_ok a hX hs hN hK h'.1.1.2
        have hb := chkE_ok b hX hs hN hK h'.1.2
        have hc := chkE_ok c hX hs hN hK h'.2
        have q1 := cop_ok (P := P) hK hX.un h'.1.1.1.1
        have q2 := cop_ok (P := P) hK hX.un h'.1.1.1.2
        have hm : lastMarks [p1, p2] [b', c'] = false := okH_behind hc.ok p2
        exact ⟨chain_ok q1 q2 ha.ev hb.ev hc.ev hm, fun _ => chain_t q1 q2 ha.ev hb.ev hc.ev hm, fun op vs pos z => (by cases z), rfl, fun j z => (by cases z), fun z => by cases z⟩
    | _ => cases h
  | .and a b, X, sc, e, hX, hs, hN, hK, h => by
    cases e with
    | BoolOp op vs pos =>
      match op, vs, h with
      | .And, x :: y :: rest, h =>
        have key : noIf x = true ∧ ES X (gam G n np) P a x ∧ PE X (.BoolOp .And (y :: rest) pos) (tEv (gam G n np) P b) ∧ PW X (.BoolOp .And (y :: rest) pos) (tTst (gam G n np) P (tsv (gam G n np) b)) := by
          cases rest with
          | nil =>
            have h' : (noIf x && chkE C N sc a x && (noIf y && chkE C N sc b y)) = true := h
            rw [Bool.and_eq_true, Bool.and_eq_true, Bool.and_eq_true] at h'
            have ha := chkE_ok a hX hs hN hK h'.1.2
            have hb := chkE_ok b hX hs hN hK h'.2.2
            exact ⟨h'.1.1, ha, pe_one hb.ev, pw_and1 (hb.tst h'.2.1)⟩
          | cons z zs =>
            have h' : (noIf x && chkE C N sc a x && chkE C N sc b (.BoolOp .And (y :: z :: zs) pos)) = true := h
            rw [Bool.and_eq_true, Bool.and_eq_true] at h'
            have ha := chkE_ok a hX hs hN hK h'.1.2
            have hb := chkE_ok b hX hs hN hK h'.2
            exact ⟨h'.1.1, ha, hb.ev, hb.pw _ _ _ rfl⟩
        obtain ⟨h1, ha, hb⟩ := key
        have w := and_t (ha.tst h1) hb.2
        exact ⟨and_ok hK ha.ev hb.1, fun _ => w.pt, fun op vs p z => (by cases z; exact w), rfl, fun j z => (by cases z), fun z => by cases z⟩
    | _ => cases h
  | .or a b, X, sc, e, hX, hs, hN, hK, h => by
    cases e with
    | BoolOp op vs pos =>
      match op, vs, h with
      | .Or, x :: y :: rest, h =>
        have key : noIf x = true ∧ ES X (gam G n np) P a x ∧ PE X (.BoolOp .Or (y :: rest) pos) (tEv (gam G n np) P b) ∧ PW X (.BoolOp .Or (y :: rest) pos) (tTst (gam G n np) P (tsv (gam G n np) b)) := by
          cases rest with
          | nil =>
            have h' : (noIf x && chkE C N sc a x && (noIf y && chkE C N sc b y)) = true := h
            rw [Bool.and_eq_true, Bool.and_eq_true, Bool.and_eq_true] at h'
            have ha := chkE_ok a hX hs hN hK h'.1.2
            have hb := chkE_ok b hX hs hN hK h'.2.2
            exact ⟨h'.1.1, ha, pe_one hb.ev, pw_or1 (hb.tst h'.2.1)⟩
          | cons z zs =>
            have h' : (noIf x && chkE C N sc a x && chkE C N sc b (.BoolOp .Or (y :: z :: zs) pos)) = true := h
            rw [Bool.and_eq_true, Bool.and_eq_true] at h'
            have ha := chkE_ok a hX hs hN hK h'.1.2
            have hb := chkE_ok b hX hs hN hK h'.2
            exact ⟨h'.1.1, ha, hb.ev, hb.pw _ _ _ rfl⟩
        obtain ⟨h1, ha, hb⟩ := key
        have w := or_t (ha.tst h1) hb.2
        exact ⟨or_ok hK ha.ev hb.1, fun _ => w.pt, fun op vs p z => (by cases z; exact w), rfl, fun j z => (by cases z), fun z => by cases z⟩
    | _ => cases h
  | .not a, X, sc, e, hX, hs, hN, hK, h => by
    cases e with
    | UnaryOp op a' pos =>
      cases op with
      | Not =>
        have h' : (noIf a' && chkE C N sc a a') = true := h
        rw [Bool.and_eq_true] at h'
        have ha := chkE_ok a hX hs hN hK h'.2
        exact ⟨not_ok hK ha.pl, fun _ => not_t (ha.tst h'.1), fun op vs pos z => (by cases z), rfl, fun j z => (by cases z), fun z => by cases z⟩
      | _ => cases h
    | _ => cases h
  | .ife c a b, X, sc, e, hX, hs, hN, hK, h => by
    cases e with
    | IfExp c' a' b' pos =>
      have h' : (noIf c' && chkE C N sc c c' && chkE C N sc a a' && chkE C N sc b b') = true := h
      rw [Bool.and_eq_true, Bool.and_eq_true, Bool.and_eq_true] at h'
      have hc := chkE_ok c hX hs hN hK h'.1.1.2
      have ha := chkE_ok a hX hs hN hK h'.1.2
      have hb := chkE_ok b hX hs hN hK h'.2
      exact ⟨ife_ok (hc.tst h'.1.1.1) ha.ev hb.ev, fun z => (by cases z), fun op vs pos z => (by cases z), rfl, fun j z => (by cases z), fun z => by cases z⟩
    | _ => cases h
  | .tup xs, X, sc, e, hX, hs, hN, hK, h => by
    cases e with
    | Tuple es k pos => exact .mk' hK (tup_ok (chks_ok xs hX hs hN hK (show chks C N sc xs es = true from h)).1) rfl rfl (fun j z => by cases z) rfl
    | _ => cases h
  | .lst xs, X, sc, e, hX, hs, hN, hK, h => by
    cases e with
    | List es pos => exact .mk' hK (lst_ok (chks_ok xs hX hs hN hK (show chks C N sc xs es = true from h)).1) rfl rfl (fun j z => by cases z) rfl
    | _ => cases h
  | .idx a i, X, sc, e, hX, hs, hN, hK, h => by
    cases e with
    | Subscript a' i' pos =>
      have h' : (chkE C N sc a a' && chkE C N sc i i') = true := h
      rw [Bool.and_eq_true] at h'
      have ha := chkE_ok a hX hs hN hK h'.1
      have hi := chkE_ok i hX hs hN hK h'.2
      exact .mk' hK (idx_ok hK ha.pl hi.ev (okH_plain hi.ok)) rfl rfl (fun j z => by cases z) rfl
    | _ => cases h
  | .slc a lo hi, X, sc, e, hX, hs, hN, hK, h => by
    cases e with
    | Subscript a' i' pos =>
      cases i' with
      | Slice lo' hi' st p =>
        cases st with
        | some _ => cases lo' <;> cases hi' <;> cases h
        | none =>
          have key : chkE C N sc a a' = true ∧ PO X lo' (tPo (gam G n np) P lo) ∧ PO X hi' (tPo (gam G n np) P hi) := by
            have l1 : ∀ {l : Expr}, (!isNon lo && chkE C N sc lo l) = true → PO X (some l) (tPo (gam G n np) P lo) := fun {l} q => by
              rw [Bool.and_eq_true] at q
              exact po_so (notNon_ok q.1) (chkE_ok lo hX hs hN hK q.2).ev
            have l2 : ∀ {l : Expr}, (!isNon hi && chkE C N sc hi l) = true → PO X (some l) (tPo (gam G n np) P hi) := fun {l} q => by
              rw [Bool.and_eq_true] at q
              exact po_so (notNon_ok q.1) (chkE_ok hi hX hs hN hK q.2).ev
            have n1 : isNon lo = true → PO X none (tPo (gam G n np) P lo) := fun q => by rw [isNon_ok q]; exact po_no
            have n2 : isNon hi = true → PO X none (tPo (gam G n np) P hi) := fun q => by rw [isNon_ok q]; exact po_no
            cases lo' with
            | none =>
              cases hi' with
              | none =>
                have h' : (chkE C N sc a a' && isNon lo && isNon hi) = true := h
                rw [Bool.and_eq_true, Bool.and_eq_true] at h'
                exact ⟨h'.1.1, n1 h'.1.2, n2 h'.2⟩
              | some q =>
                have h' : (chkE C N sc a a' && isNon lo && (!isNon hi && chkE C N sc hi q)) = true := h
                rw [Bool.and_eq_true, Bool.and_eq_true] at h'
                exact ⟨h'.1.1, n1 h'.1.2, l2 h'.2⟩
            | some p =>
              cases hi' with
              | none =>
                have h' : (chkE C N sc a a' && (!isNon lo && chkE C N sc lo p) && isNon hi) = true := h
                rw [Bool.and_eq_true, Bool.and_eq_true] at h'
                exact ⟨h'.1.1, l1 h'.1.2, n2 h'.2⟩
              | some q =>
                have h' : (chkE C N sc a a' && (!isNon lo && chkE C N sc lo p) && (!isNon hi && chkE C N sc hi q)) = true := h
                rw [Bool.and_eq_true, Bool.and_eq_true] at h'
                exact ⟨h'.1.1, l1 h'.1.2, l2 h'.2⟩
          obtain ⟨h1, h2, h3⟩ := key
          exact .mk' hK (slc_ok hK (chkE_ok a hX hs hN hK h1).pl h2 h3) rfl rfl (fun j z => (by cases z)) rfl
      | _ => cases h
    | _ => cases h
  | .rev a, X, sc, e, hX, hs, hN, hK, h => by
    cases e with
    | Subscript a' s pos =>
      cases s with
      | Slice lo hi st p =>
        cases lo with
        | some _ => cases h
        | none =>
        cases hi with
        | some _ => cases h
        | none =>
        cases st with
        | none => cases h
        | some u =>
          cases u with
          | UnaryOp op c p2 =>
            cases op with
            | USub =>
              cases c with
              | Constant c k p1 =>
                cases c with
                | int i =>
                  have h' : (i == 1 && chkE C N sc a a') = true := h
                  rw [Bool.and_eq_true] at h'
                  have hi : i = 1 := eq_of_beq h'.1
                  subst hi
                  exact .mk' hK (rev_ok hK (chkE_ok a hX hs hN hK h'.2).pl) rfl rfl (fun j z => (by cases z)) rfl
                | _ => cases h
              | _ => cases h
            | _ => cases h
          | _ => cases h
      | _ => cases h
    | _ => cases h
  | .call f md pm xs, X, sc, e, hX, hs, hN, hK, h => by
    cases e with
    | Call g es ks pos =>
      cases g with
      | Name x p =>
        cases ks with
        | cons k1 ks =>
          match es, k1, ks, h with
          | [], ⟨some a, e1, kp1⟩, [⟨some b, e2, kp2⟩], h =>
            have h' : (md.isEmpty && pm == [1, 0] && glB sc x && (match C.gl x with
              | some (.fn g) => g == f
              | _ => false) && C.kws f [a, b] && [e1, e2].all okH && chks C N sc xs [e1, e2] && !C.sp f) = true := h
            rw [Bool.and_eq_true, Bool.and_eq_true, Bool.and_eq_true, Bool.and_eq_true, Bool.and_eq_true, Bool.and_eq_true, Bool.and_eq_true] at h'
            obtain ⟨⟨⟨⟨⟨⟨⟨h1, h2⟩, h3⟩, h4⟩, h5⟩, h6⟩, h7⟩, h8⟩ := h'
            have hmd : md = [] := List.isEmpty_iff.mp h1
            have hpm : pm = [1, 0] := eq_of_beq h2
            subst hmd hpm
            obtain ⟨g1, g2⟩ := gl_of hs h3
            split at h4
            · rename_i g hg
              have hgf : g = f := eq_of_beq h4
              subst hgf
              obtain ⟨m1, m2, d, m3⟩ := hX.st.fn x g hg
              have Fk := hX.fns g d m3 (by simpa using h8)
              rw [sp_eq hK hca] at Fk
              have hr : Room (2 * n) X.A := hX.room.mono (by omega)
              obtain ⟨t1, t2, rfl, ht1, ht2⟩ : ∃ t1 t2, xs = .cons t1 (.cons t2 .nil) ∧ chkE C N sc t1 e1 = true ∧ chkE C N sc t2 e2 = true := by
                have o1 : okH e1 = true := by rw [List.all_cons, Bool.and_eq_true] at h6; exact h6.1
                have o2 : okH e2 = true := by rw [List.all_cons, List.all_cons, Bool.and_eq_true, Bool.and_eq_true] at h6; exact h6.2.1
                cases xs with
                | nil => cases h7
                | star t ts => cases e1 <;> first | cases h7 | cases o1
                | cons t ts =>
                  have q : (chkE C N sc t e1 && chks C N sc ts [e2]) = true := h7
                  rw [Bool.and_eq_true] at q
                  cases ts with
                  | nil => cases q.2
                  | star u us => have q2 := q.2; cases e2 <;> first | cases q2 | cases o2
                  | cons u us =>
                    have q2 : (chkE C N sc u e2 && chks C N sc us []) = true := q.2
                    rw [Bool.and_eq_true] at q2
                    cases us with
                    | nil => exact ⟨t, u, rfl, q.1, q2.1⟩
                    | cons _ _ => cases q2.2
                    | star _ _ => cases q2.2
              have a1 := chkE_ok t1 hX hs hN hK ht1
              have a2 := chkE_ok t2 hX hs hN hK ht2
              exact .mk' hK (callW2_ok (Γ := gam G n np) (ks := [a, b]) rfl Fk hr g1 m1 m2 (hX.st.kw g _ h5) passes_no (ak_cons (a1.ar _) (ak_cons (a2.ar _) ak_nil)) rfl rfl g2 rfl) rfl rfl (fun j z => (by cases z)) rfl
            · cases h4
          | [], ⟨none, _, _⟩, _, h => cases h
          | [], ⟨some _, _, _⟩, [], h => cases h
          | [], ⟨some _, _, _⟩, [⟨none, _, _⟩], h => cases h
          | [], ⟨some _, _, _⟩, ⟨none, _, _⟩ :: _ :: _, h => cases h
          | [], ⟨some _, _, _⟩, ⟨some _, _, _⟩ :: _ :: _, h => cases h
          | _ :: _, ⟨none, _, _⟩, _, h => cases h
          | _ :: _, ⟨some _, _, _⟩, [], h => cases h
          | _ :: _, ⟨some _, _, _⟩, [⟨none, _, _⟩], h => cases h
          | _ :: _, ⟨some _, _, _⟩, [⟨some _, _, _⟩], h => cases h
          | _ :: _, ⟨some _, _, _⟩, ⟨none, _, _⟩ :: _ :: _, h => cases h
          | _ :: _, ⟨some _, _, _⟩, ⟨some _, _, _⟩ :: _ :: _, h => cases h
        | nil =>
          have h' : (pm.isEmpty && glB sc x && (match C.gl x with
            | some (.fn g) => g == f
            | _ => false) && es.all okH && chks C N sc xs es && (C.gd || !C.sp f)) = true := h
          rw [Bool.and_eq_true, Bool.and_eq_true, Bool.and_eq_true, Bool.and_eq_true, Bool.and_eq_true] at h'
          obtain ⟨⟨⟨⟨⟨h1, h2⟩, h3⟩, h4⟩, h5⟩, h6⟩ := h'
          have hpm : pm = [] := List.isEmpty_iff.mp h1
          subst hpm
          obtain ⟨g1, g2⟩ := gl_of hs h2
          split at h3
          · rename_i g hg
            have hgf : g = f := eq_of_beq h3
            subst hgf
            obtain ⟨m1, m2, d, m3⟩ := hX.st.fn x g hg
            have hr : Room (2 * n) X.A := hX.room.mono (by omega)
            have hb := hX.st.bind g d m3
            have hxs := (chks_ok xs hX hs hN hK h5).2.1 h4 md
            cases hgd : C.gd with
            | true =>
              have Fk := hX.fng hgd g d m3
              rw [sp_eq hK hca] at Fk
              cases es with
              | nil =>
                have hnil : xs = .nil := by cases xs <;> first | rfl | cases h5
                subst hnil
                exact .mk' hK (callG0_ok (Γ := gam G n np) rfl Fk (hX.gdk hgd) hr g1 m1 m2 hb passes_no g2) rfl rfl (fun j z => (by cases z)) rfl
              | cons e0 es =>
                have h4' := h4
                rw [List.all_cons, Bool.and_eq_true] at h4'
                exact .mk' hK (callG_ok (Γ := gam G n np) rfl Fk (hX.gdk hgd) hr g1 m1 m2 hb passes_no hxs g2 (okH_star h4'.1 X.env) (star_all h4'.2 X.env)) rfl rfl (fun j z => (by cases z)) rfl
            | false =>
              rw [hgd] at h6
              have Fk := hX.fns g d m3 (by simpa using h6)
              rw [sp_eq hK hca] at Fk
              cases es with
              | nil =>
                have hnil : xs = .nil := by cases xs <;> first | rfl | cases h5
                subst hnil
                exact .mk' hK (call0_ok (Γ := gam G n np) rfl Fk hr g1 m1 m2 hb passes_no g2) rfl rfl (fun j z => (by cases z)) rfl
              | cons e0 es =>
                have h4' := h4
                rw [List.all_cons, Bool.and_eq_true] at h4'
                exact .mk' hK (call_ok (Γ := gam G n np) rfl Fk hr g1 m1 m2 hb passes_no hxs g2 (okH_star h4'.1 X.env) (star_all h4'.2 X.env)) rfl rfl (fun j z => (by cases z)) rfl
          · cases h3
      | _ => cases h
    | _ => cases h
  | .make c dds xs, X, sc, e, hX, hs, hN, hK, h => by
    cases e with
    | Call g es ks pos =>
      cases g with
      | Name x p =>
        cases es with
        | nil => cases ks <;> cases h
        | cons e0 es =>
        cases ks with
        | cons _ _ => cases h
        | nil =>
          have h' : (glB sc x && (match C.gl x with
            | some (.cls g) => g == c
            | _ => false) && C.mks c dds && (e0 :: es).all okH && chks C N sc xs (e0 :: es)) = true := h
          rw [Bool.and_eq_true, Bool.and_eq_true, Bool.and_eq_true, Bool.and_eq_true] at h'
          obtain ⟨⟨⟨⟨h1, h2⟩, h3⟩, h4⟩, h5⟩ := h'
          obtain ⟨g1, g2⟩ := gl_of hs h1
          split at h2
          · rename_i g hg
            have hgc : g = c := eq_of_beq h2
            subst hgc
            obtain ⟨m1, _⟩ := hX.st.cls x g hg
            obtain ⟨f, dvs, ds, q1, ⟨d, q2⟩, q3, q4, q5, q6⟩ := hX.st.mks g dds h3
            have Fk := hX.fns f d q2 (hX.st.spi _ _ q1)
            rw [sp_eq hK hca] at Fk
            have hxs := (chks_ok xs hX hs hN hK h5).2.1 h4 []
            have h4' := h4
            rw [List.all_cons, Bool.and_eq_true] at h4'
            exact .mk' hK (make_ok (Γ := gam G n np) rfl hK q1 (fun ψ W H => by rw [hK, hca]; exact q3 ψ W H) (by rw [hca]; exact q4) Fk hX.room g1 (by rw [hca]; exact m1) q5 q6 passes_no hxs g2 (okH_star h4'.1 X.env) (star_all h4'.2 X.env)) rfl rfl (fun j z => (by cases z)) rfl
          · cases h2
      | _ => cases h
    | _ => cases h
  | .meth m o xs, X, sc, e, hX, hs, hN, hK, h => by
    cases e with
    | Call g es ks pos =>
      cases g with
      | Attribute o' m' apos =>
        cases ks with
        | cons _ _ => cases h
        | nil =>
          have h' : (m == m' && noCall0 o' && apos.endLine == pos.line && es.all okH && decide (es.length < 29) && chkE C N sc o o' && chks C N sc xs es) = true := h
          rw [Bool.and_eq_true, Bool.and_eq_true, Bool.and_eq_true, Bool.and_eq_true, Bool.and_eq_true, Bool.and_eq_true, decide_eq_true_eq] at h'
          obtain ⟨⟨⟨⟨⟨⟨h1, h2⟩, h3⟩, h4⟩, h5⟩, h6⟩, h7⟩ := h'
          have hm : m = m' := eq_of_beq h1
          subst hm
          have ho := chkE_ok o hX hs hN hK h6
          have hM : ∀ c f md, (gam G n np).mth c m = some (f, md) → MthOk X m (P.ca c) (spEv P.K P.ca G.T G.F n f) := fun c f md q => by
            obtain ⟨q1, q2, d, q3⟩ := hX.st.mth c m f md q
            have Fk := hX.fns f d q3 (hX.st.spm _ _ _ _ q)
            rw [sp_eq hK hca] at Fk
            rw [hca]
            exact ⟨_, _, _, _, _, _, q1, q2, (by rw [hca] at Fk; exact Fk), hX.room.mono (by omega), hX.st.bind f d q3, passes_no, fun vs H Q E' z => z⟩
          have hxs := (chks_ok xs hX hs hN hK h7).2.1 h4
          have ht := meth_ht (m := m) (apos := apos) (pos := pos) h2 h4 h5 h3 X.env
          cases es with
          | nil =>
            have hnil : xs = .nil := by cases xs <;> first | rfl | cases h7
            subst hnil
            exact .mk' hK (meth0_ok (Γ := gam G n np) rfl hK hM ho.ev ho.pl ht) rfl rfl (fun j z => (by cases z)) rfl
          | cons e0 es =>
            have h4' := h4
            rw [List.all_cons, Bool.and_eq_true] at h4'
            exact .mk' hK (meth_ok (Γ := gam G n np) rfl hK hM ho.ev ho.pl hxs (okH_star h4'.1 X.env) (star_all h4'.2 X.env) ht) rfl rfl (fun j z => (by cases z)) rfl
      | _ => cases h
    | _ => cases h
  | .prp f o, X, sc, e, hX, hs, hN, hK, h => by
    cases e with
    | Attribute o' f' pos =>
      have h' : (f == f' && noCall0 o' && chkE C N sc o o') = true := h
      rw [Bool.and_eq_true, Bool.and_eq_true] at h'
      obtain ⟨⟨h1, h2⟩, h3⟩ := h'
      have hf : f = f' := eq_of_beq h1
      subst hf
      have ho := chkE_ok o hX hs hN hK h3
      refine .mk' hK (prp_ok (Γ := gam G n np) rfl hK (fun c g q => ?_) ho.ev (base_ok h2 f X.env _)) rfl rfl (fun j z => (by cases z)) rfl
      obtain ⟨pa, q1, q2, d, q3⟩ := hX.st.prp c f g q
      have Fk := hX.fns g d q3 (hX.st.spp _ _ _ q)
      rw [sp_eq hK hca] at Fk
      exact ⟨_, _, pa, _, _, _, _, (by rw [hca]; exact q1), (by rw [hca]; exact q2), Fk, hX.room, hX.st.bind g d q3, passes_no (X := X.nox)⟩
    | _ => cases h
  | .fld f o, X, sc, e, hX, hs, hN, hK, h => by
    cases e with
    | Attribute o' f' pos =>
      have h' : (f == f' && C.fl f && noCall0 o' && chkE C N sc o o') = true := h
      rw [Bool.and_eq_true, Bool.and_eq_true, Bool.and_eq_true] at h'
      obtain ⟨⟨⟨h1, h2⟩, h3⟩, h4⟩ := h'
      have hf : f = f' := eq_of_beq h1
      subst hf
      have ho := chkE_ok o hX hs hN hK h4
      exact .mk' hK (fld_ok (Γ := gam G n np) hK (fun c q => by rw [hca]; exact ⟨(hX.st.cl c q).cl, hX.st.fl c f q h2⟩) ho.pl (base_ok h3 f X.env _)) rfl rfl (fun j z => (by cases z)) rfl
    | _ => cases h
  | .isi k a, X, sc, e, hX, hs, hN, hK, h => by
    cases e with
    | Call g es ks pos =>
      cases g with
      | Name x p =>
        match es, ks, h with
        | [a', .Name y py], [], h =>
          have h' : (x == ("isinstance" : Str) && glB sc x && chkE C N sc a a' && glB sc y && (match k with
            | .cls c => (match C.gl y with
              | some (.cls g) => g == c
              | _ => false)
            | k => (match tyN k with
              | some n => y == Str.ofString n
              | none => false))) = true := by cases k <;> exact h
          rw [Bool.and_eq_true, Bool.and_eq_true, Bool.and_eq_true, Bool.and_eq_true] at h'
          obtain ⟨⟨⟨⟨h1, h2⟩, h3⟩, h4⟩, h5⟩ := h'
          have hx : x = ("isinstance" : Str) := eq_of_beq h1
          subst hx
          obtain ⟨g1, g2⟩ := gl_of hs h2
          obtain ⟨g3, g4⟩ := gl_of hs h4
          have ha := chkE_ok a hX hs hN hK h3
          have hcl : ∀ c, (gam G n np).kc c = true → ClsI X.K (P.ca c) := fun c q => by rw [hca]; exact hX.st.cl c q
          have go : ∀ {cv : V} {cu : Value}, ClsV cv cu → PE X (.Name y py) (tC cv) → (∀ d u, tyD P.ca d = some u → isK (gam G n np).kc k d = true → PySem.W.kitOne X.K u cu = some (isD k d)) → ES X (gam G n np) P (.isi k a) (.Call (.Name ("isinstance" : Str) p) [a', .Name y py] [] pos) := fun {cv cu} q1 q2 q3 =>
            .mk' hK (isi_ok hK hcl q3 q1 ha.ev q2 g1 (hX.st.blt "isinstance" (by decide)) (okH_star ha.ok X.env) rfl rfl) rfl rfl (fun j z => (by cases z)) rfl
          have bt : ∀ nn : String, tyN k = some nn → y = Str.ofString nn → nn ∈ ["int", "bool", "str", "tuple", "list"] → ES X (gam G n np) P (.isi k a) (.Call (.Name ("isinstance" : Str) p) [a', .Name y py] [] pos) := fun nn q1 q2 q3 => by
            subst q2
            refine go (.ty nn) (pe_bltn g3 (hX.st.blt nn ?_) (u := .type nn) ?_ rfl ?_ g4) (fun d u z1 z2 => by rw [hca] at z1; exact hX.st.kit k nn d u q1 z1 z2)
            · simp only [List.mem_cons, List.mem_nil_iff, or_false] at q3
              rcases q3 with rfl | rfl | rfl | rfl | rfl <;> decide
            · simp only [List.mem_cons, List.mem_nil_iff, or_false] at q3
              rcases q3 with rfl | rfl | rfl | rfl | rfl <;> rfl
            · simp only [List.mem_cons, List.mem_nil_iff, or_false] at q3
              rcases q3 with rfl | rfl | rfl | rfl | rfl <;> decide
          cases k with
          | cls c =>
            dsimp only at h5
            split at h5
            · rename_i g hg
              have hgc : g = c := eq_of_beq h5
              subst hgc
              obtain ⟨m1, m2⟩ := hX.st.cls y g hg
              exact go (.own (G.ca g)) (pe_glob g3 m1 rfl g4) (fun d u z1 z2 => by rw [hca] at z1; exact m2 d u z1 z2)
            · cases h5
          | int => exact bt "int" rfl (eq_of_beq h5) (by decide)
          | bool => exact bt "bool" rfl (eq_of_beq h5) (by decide)
          | str => exact bt "str" rfl (eq_of_beq h5) (by decide)
          | tup => exact bt "tuple" rfl (eq_of_beq h5) (by decide)
          | lst => exact bt "list" rfl (eq_of_beq h5) (by decide)
      | _ => cases h
    | _ => cases h
  | .len a, X, sc, e, hX, hs, hN, hK, h => by
    cases e with
    | Call g es ks pos =>
      cases g with
      | Name x p =>
        match es, ks, h with
        | [a'], [], h =>
          have h' : (x == ("len" : Str) && glB sc x && chkE C N sc a a') = true := h
          rw [Bool.and_eq_true, Bool.and_eq_true] at h'
          have hx : x = ("len" : Str) := eq_of_beq h'.1.1
          subst hx
          obtain ⟨g1, g2⟩ := gl_of hs h'.1.2
          have ha := chkE_ok a hX hs hN hK h'.2
          exact .mk' hK (len_ok hK ha.pl g1 (hX.st.blt "len" (by decide)) (okH_star ha.ok X.env) rfl) rfl rfl (fun j z => (by cases z)) rfl
      | _ => cases h
    | _ => cases h
  | .blt b xs, X, sc, e, hX, hs, hN, hK, h => by
    cases e with
    | Call g es ks pos =>
      cases g with
      | Name x p =>
        cases es with
        | nil => cases ks <;> cases h
        | cons e0 es =>
        cases ks with
        | cons _ _ => cases h
        | nil =>
          have h' : (glB sc x && (match bltB b with
            | some (n, _) => x == Str.ofString n
            | none => false) && (e0 :: es).all okH && chks C N sc xs (e0 :: es) && (C.gd || !isRepr b)) = true := h
          rw [Bool.and_eq_true, Bool.and_eq_true, Bool.and_eq_true, Bool.and_eq_true] at h'
          obtain ⟨⟨⟨⟨h1, h2⟩, h3⟩, h4⟩, h5⟩ := h'
          obtain ⟨g1, g2⟩ := gl_of hs h1
          have hxs := (chks_ok xs hX hs hN hK h4).1
          have h3' := h3
          rw [List.all_cons, Bool.and_eq_true] at h3'
          have hst := okH_star h3'.1 (es := es) X.env
          have hpl := star_all (pos := pos) h3'.2 X.env
          have hc := hX.calm
          have bl := hX.st.blt
          cases b with
          | abs => obtain rfl : x = Str.ofString "abs" := eq_of_beq h2; exact .mk' hK (bltB_ok (blt_abs (X := X)) call_abs g1 (bl _ (by decide)) rfl hxs (by decide) g2 hst hpl) rfl rfl (fun j z => (by cases z)) rfl
          | all => obtain rfl : x = Str.ofString "all" := eq_of_beq h2; exact .mk' hK (bltB_ok (blt_all hK) (cr_all hc) g1 (bl _ (by decide)) rfl hxs (by decide) g2 hst hpl) rfl rfl (fun j z => (by cases z)) rfl
          | any => obtain rfl : x = Str.ofString "any" := eq_of_beq h2; exact .mk' hK (bltB_ok (blt_any hK) (cr_any hc) g1 (bl _ (by decide)) rfl hxs (by decide) g2 hst hpl) rfl rfl (fun j z => (by cases z)) rfl
          | divmod => obtain rfl : x = Str.ofString "divmod" := eq_of_beq h2; exact .mk' hK (bltB_ok (blt_divmod (X := X)) call_divmod g1 (bl _ (by decide)) rfl hxs (by decide) g2 hst hpl) rfl rfl (fun j z => (by cases z)) rfl
          | max => obtain rfl : x = Str.ofString "max" := eq_of_beq h2; exact .mk' hK (bltB_ok (blt_max hc) (call_max2 hc) g1 (bl _ (by decide)) rfl hxs (by decide) g2 hst hpl) rfl rfl (fun j z => (by cases z)) rfl
          | min => obtain rfl : x = Str.ofString "min" := eq_of_beq h2; exact .mk' hK (bltB_ok (blt_min hc) (call_min2 hc) g1 (bl _ (by decide)) rfl hxs (by decide) g2 hst hpl) rfl rfl (fun j z => (by cases z)) rfl
          | sum => obtain rfl : x = Str.ofString "sum" := eq_of_beq h2; exact .mk' hK (bltB_ok (blt_sum hK) (cr_sum hc) g1 (bl _ (by decide)) rfl hxs (by decide) g2 hst hpl) rfl rfl (fun j z => (by cases z)) rfl
          | int => obtain rfl : x = Str.ofString "int" := eq_of_beq h2; exact .mk' hK (bltT_ok (blt_int (X := X)) (CallR.or call_int1 call_int_str) g1 (bl _ (by decide)) rfl hxs (by decide) g2 hst hpl) rfl rfl (fun j z => (by cases z)) rfl
          | str => obtain rfl : x = Str.ofString "str" := eq_of_beq h2; exact .mk' hK (bltT_ok (blt_str (X := X)) (CallR.or call_str_int SkE.call_str_str) g1 (bl _ (by decide)) rfl hxs (by decide) g2 hst hpl) rfl rfl (fun j z => (by cases z)) rfl
          | list => obtain rfl : x = Str.ofString "list" := eq_of_beq h2; exact .mk' hK (bltT_ok (blt_list hK) call_list_of g1 (bl _ (by decide)) rfl hxs (by decide) g2 hst hpl) rfl rfl (fun j z => (by cases z)) rfl
          | tuple => obtain rfl : x = Str.ofString "tuple" := eq_of_beq h2; exact .mk' hK (bltT_ok (blt_tuple hK) call_tuple_of g1 (bl _ (by decide)) rfl hxs (by decide) g2 hst hpl) rfl rfl (fun j z => (by cases z)) rfl
          | repr =>
            obtain rfl : x = Str.ofString "repr" := eq_of_beq h2
            have hgd : C.gd = true := by simpa [isRepr] using h5
            exact .mk' hK (bltB_ok (blt_repr hK) (call_repr_dp (hX.gdk hgd) hX.un) g1 (bl _ (by decide)) rfl hxs (by decide) g2 hst hpl) rfl rfl (fun j z => (by cases z)) rfl
          | sorted => cases h2
      | _ => cases h
    | _ => cases h
  | .sme m o xs, X, sc, e, hX, hs, hN, hK, h => by
    cases e with
    | Call g es ks pos =>
      cases g with
      | Attribute o' m' apos =>
        match es, ks, h with
        | [a'], [], h =>
          have h' : ((match smN m with
            | some n => m' == Str.ofString n
            | none => false) && noCall0 o' && apos.endLine == pos.line && okH a' && chkE C N sc o o' && chks C N sc xs [a']) = true := by
            cases o' <;> exact h
          rw [Bool.and_eq_true, Bool.and_eq_true, Bool.and_eq_true, Bool.and_eq_true, Bool.and_eq_true] at h'
          obtain ⟨⟨⟨⟨⟨h1, h2⟩, h3⟩, h0⟩, h4⟩, h5⟩ := h'
          have ho := chkE_ok o hX hs hN hK h4
          obtain ⟨t, hxt⟩ : ∃ t, xs = .cons t .nil := by
            cases xs with
            | cons t ts =>
              have h5' : (chkE C N sc t a' && chks C N sc ts []) = true := h5
              rw [Bool.and_eq_true] at h5'
              cases ts with
              | nil => exact ⟨t, rfl⟩
              | cons _ _ => cases h5'.2
              | star _ _ => cases h5'.2
            | nil => cases h5
            | star t ts =>
              cases a' with
              | Starred q p =>
                cases h0
              | _ => cases h5
          subst hxt
          have h5' : (chkE C N sc t a' && chks C N sc .nil []) = true := h5
          rw [Bool.and_eq_true] at h5'
          have ha : ES X (gam G n np) P t a' := chkE_ok t hX hs hN hK h5'.1
          have hst : starEach [a'] X.env = [(false, eval a' X.env)] := okH_star ha.ok X.env
          cases m with
          | split => obtain rfl : m' = Str.ofString "split" := eq_of_beq h1; exact .mk' hK (sme_ok (by simp) sm_split PySem.F.slot_str_split PySem.F.type_str_split mt_split ho.ev ha.ev hst (base_ok h2 _ X.env _) h3) rfl rfl (fun j z => (by cases z)) rfl
          | join => obtain rfl : m' = Str.ofString "join" := eq_of_beq h1; exact .mk' hK (sme_ok (by simp) (sm_join hK) PySem.F.slot_str_join PySem.F.type_str_join mt_join ho.ev ha.ev hst (base_ok h2 _ X.env _) h3) rfl rfl (fun j z => (by cases z)) rfl
          | partition => obtain rfl : m' = Str.ofString "partition" := eq_of_beq h1; exact .mk' hK (sme_ok (by simp) sm_partition PySem.F.slot_str_partition PySem.F.type_str_partition mt_partition ho.ev ha.ev hst (base_ok h2 _ X.env _) h3) rfl rfl (fun j z => (by cases z)) rfl
          | _ => cases h1
        | [a', b'], _ :: _, h => cases o' <;> cases h
        | [a', b'], [], h =>
          cases o' with
          | Name x px =>
            have h' : (isGetM m && m' == ("get" : Str) && dicOk C x o && glB sc x && apos.endLine == pos.line && okH a' && okH b' && chks C N sc xs [a', b']) = true := h
            rw [Bool.and_eq_true, Bool.and_eq_true, Bool.and_eq_true, Bool.and_eq_true, Bool.and_eq_true, Bool.and_eq_true, Bool.and_eq_true] at h'
            obtain ⟨⟨⟨⟨⟨⟨⟨h1, h2⟩, h3⟩, h4⟩, h5⟩, h6⟩, h7⟩, h8⟩ := h'
            obtain rfl : m = .get := by cases m <;> first | rfl | cases h1
            obtain rfl : m' = Str.ofString "get" := eq_of_beq h2
            obtain ⟨ps, rfl, hg⟩ : ∃ ps, o = .cst (.dic ps) ∧ C.gl x = some (.dic ps) := by
              unfold dicOk at h3
              split at h3
              · split at h3
                · rename_i ps' hq
                  exact ⟨_, rfl, by rw [beqDic_ok h3]; exact hq⟩
                · cases h3
              · cases h3
            obtain ⟨g1, g2⟩ := gl_of hs h4
            obtain ⟨d, en, nn, m1, m2, m3⟩ := hX.st.dic x ps hg
            obtain ⟨t, t2, rfl, ht, ht2⟩ : ∃ t t2, xs = .cons t (.cons t2 .nil) ∧ chkE C N sc t a' = true ∧ chkE C N sc t2 b' = true := by
              cases xs with
              | nil => cases h8
              | star t ts => cases a' <;> first | cases h8 | cases h6
              | cons t ts =>
                have q : (chkE C N sc t a' && chks C N sc ts [b']) = true := h8
                rw [Bool.and_eq_true] at q
                cases ts with
                | nil => cases q.2
                | star u us => have q2 := q.2; cases b' <;> first | cases q2 | cases h7
                | cons u us =>
                  have q2 : (chkE C N sc u b' && chks C N sc us []) = true := q.2
                  rw [Bool.and_eq_true] at q2
                  cases us with
                  | nil => exact ⟨t, u, rfl, q.1, q2.1⟩
                  | cons _ _ => cases q2.2
                  | star _ _ => cases q2.2
            have ha := chkE_ok t hX hs hN hK ht
            have hb := chkE_ok t2 hX hs hN hK ht2
            have hall : [a', b'].all okH = true := by rw [List.all_cons, List.all_cons, h6, h7]; rfl
            exact .mk' hK (kget_ok m2 (fun s => by rw [hK, hca]; exact m3 s) g1 m1 ha.ev hb.ev ⟨base_ok rfl _ X.env _, few_ok hall (by show 2 < 29; decide) X.env, h5, by rw [okH_star h6, okH_star h7]; rfl⟩ g2) rfl rfl (fun j z => (by cases z)) rfl
          | _ => cases h
      | _ => cases h
    | _ => cases h
  | .fst xs, X, sc, e, hX, hs, hN, hK, h => by
    cases e with
    | JoinedStr vs pos =>
      have h' : (fstB vs && chkF C N sc xs vs) = true := h
      rw [Bool.and_eq_true] at h'
      have hf := chkF_ok xs hX hs hN hK h'.2
      clear h
      match vs, h', hf with
      | v1 :: v2 :: rest, h', hf => exact .mk' hK (fst_ok hf) rfl rfl (fun j z => (by cases z)) rfl
      | [v], h', hf =>
        cases hf with
        | txt r => cases h'.1
        | val he r =>
          cases r
          exact .mk' hK (fst1_ok he) rfl rfl (fun j z => (by cases z)) rfl
      | [], h', hf => cases h'.1
    | _ => cases h
  | .lc vs tg it c t, X, sc, e, hX, hs, hN, hK, h => by
    cases e with
    | ListComp elt gs scope pos =>
      match gs, h with
      | [⟨tg', iter, ifs, 0⟩], h =>
        have h' : blkB N sc scope (ownOf N vs) = true ∧ (tgIx tg).all vs.contains = true ∧ chkI C N sc it tg' iter = true ∧ chkG N (relS scope sc) (fun x => scope.names.lookup x == some .cell) tg tg' = true ∧ ((ifs = [] ∧ isYes c = true) ∨ ∃ c', ifs = [c'] ∧ noIf c' = true ∧ chkE C N (relS scope sc) c c' = true) ∧ chkE C N (relS scope sc) t elt = true := by
          match ifs, h with
          | [], h =>
            have q : (blkB N sc scope (ownOf N vs) && (tgIx tg).all vs.contains && chkI C N sc it tg' iter && chkG N (relS scope sc) (fun x => scope.names.lookup x == some .cell) tg tg' && isYes c && chkE C N (relS scope sc) t elt) = true := h
            rw [Bool.and_eq_true, Bool.and_eq_true, Bool.and_eq_true, Bool.and_eq_true, Bool.and_eq_true] at q
            exact ⟨q.1.1.1.1.1, q.1.1.1.1.2, q.1.1.1.2, q.1.1.2, .inl ⟨rfl, q.1.2⟩, q.2⟩
          | [c'], h =>
            have q : (blkB N sc scope (ownOf N vs) && (tgIx tg).all vs.contains && chkI C N sc it tg' iter && chkG N (relS scope sc) (fun x => scope.names.lookup x == some .cell) tg tg' && (noIf c' && chkE C N (relS scope sc) c c') && chkE C N (relS scope sc) t elt) = true := h
            rw [Bool.and_eq_true, Bool.and_eq_true, Bool.and_eq_true, Bool.and_eq_true, Bool.and_eq_true, Bool.and_eq_true] at q
            exact ⟨q.1.1.1.1.1, q.1.1.1.1.2, q.1.1.1.2, q.1.1.2, .inr ⟨c', rfl, q.1.2.1, q.1.2.2⟩, q.2⟩
          | _ :: _ :: _, h =>
            have q : (blkB N sc scope (ownOf N vs) && (tgIx tg).all vs.contains && chkI C N sc it tg' iter && chkG N (relS scope sc) (fun x => scope.names.lookup x == some .cell) tg tg' && false && chkE C N (relS scope sc) t elt) = true := h
            rw [Bool.and_eq_true, Bool.and_eq_true] at q
            cases q.1.2
        obtain ⟨h1, h2, h3, h4, h5, h6⟩ := h'
        have hb : BlkOk X.N X.env.scope scope (ownOf N vs) := by rw [hs, hN]; exact blk_of h1
        obtain ⟨hi, hif⟩ := chkI_ok it hX hs hN hK h3
        have key := lc_both (Γ := gam G n np) (own := ownOf N vs) (tg' := tg) (it := it) (c := c) (t := t) (ifs := ifs) (pos := pos) (elt := elt) hX.calm hX.nd hpa (fun j hj => by
            rw [ownOf_snd]
            exact List.contains_iff_mem.mp (List.all_eq_true.mp h2 j hj)) hi hb
          (fun s H Ca cl fp => chkG_ok (X := X.blk s H scope (compEnvC scope cl Ca X.env) fp) (sc := relS scope sc) (fl := fun x => scope.names.lookup x == some .cell) hX.calm hX.nd hK hpa (by show relabel scope X.env = _; rw [relS_ok, hs]) hN (fun x q => q) tg h4)
          (fun s H Ca cl fp => by
            have hX2 := hX.blk s H scope (compEnvC scope cl Ca X.env) fp
            have hs2 : (X.blk s H scope (compEnvC scope cl Ca X.env) fp).env.scope = relS scope sc := by show relabel scope X.env = _; rw [relS_ok, hs]
            rcases h5 with ⟨e1, e2⟩ | ⟨c', e1, e2, e3⟩
            · subst e1
              have hcy : c = .cst (.bl true) := by
                unfold isYes at e2
                split at e2
                · rfl
                · cases e2
              subst hcy
              exact lc_yes
            · subst e1
              exact pts_one ((chkE_ok c hX2 hs2 hN hK e3).tst e2))
          (fun s H Ca cl fp => (chkE_ok t (sc := relS scope sc) (hX.blk s H scope (compEnvC scope cl Ca X.env) fp) (by show relabel scope X.env = _; rw [relS_ok, hs]) hN hK h6).ev) (hif X.env)
        rw [ownOf_snd] at key
        have k1 : ES X (gam G n np) P (.lc vs tg it c t) (.ListComp elt [⟨tg', iter, ifs, 0⟩] scope pos) := ⟨key.1, fun _ => plain_t hK (place_ok key.1 (fun i z => by cases z)) (plainT_ok rfl X.env), fun op vs pos z => (by cases z), rfl, fun i z => (by cases z), fun _ => key.2⟩
        exact k1
    | _ => cases h
  | .lc2 vs vs1 tg it tg1 it1 t, X, sc, e, hX, hs, hN, hK, h => by
    cases e with
    | ListComp elt gs scope pos =>
      match gs, h with
      | [⟨tg', iter, [], 0⟩, ⟨tg1', iter1, [], 0⟩], h =>
        have h' : (blkB N sc scope (ownOf N vs) && (tgIx tg).all vs.contains && (tgIx tg1).all vs1.contains && vs1.all vs.contains && chkI C N sc it tg' iter && chkG N (relS scope sc) (fun x => scope.names.lookup x == some .cell) tg tg' &&
          chkI C N (relS scope sc) it1 tg1' iter1 && chkG N (relS scope sc) (fun x => scope.names.lookup x == some .cell) tg1 tg1' && chkE C N (relS scope sc) t elt) = true := h
        rw [Bool.and_eq_true, Bool.and_eq_true, Bool.and_eq_true, Bool.and_eq_true, Bool.and_eq_true, Bool.and_eq_true, Bool.and_eq_true, Bool.and_eq_true] at h'
        obtain ⟨⟨⟨⟨⟨⟨⟨⟨h1, h2⟩, h3⟩, h4⟩, h5⟩, h6⟩, h7⟩, h8⟩, h9⟩ := h'
        have hb : BlkOk X.N X.env.scope scope (ownOf N vs) := by rw [hs, hN]; exact blk_of h1
        obtain ⟨hi, hif⟩ := chkI_ok it hX hs hN hK h5
        have hrel : ∀ (s : Shared) (H : Hp) (Ca : Addr) (cl : List (Str × Addr)) (fp : List Addr), (X.blk s H scope (compEnvC scope cl Ca X.env) fp).env.scope = relS scope sc := fun s H Ca cl fp => by
          show relabel scope X.env = _
          rw [relS_ok, hs]
        have hif1 := chkI_fold h7
        have key := lc2_both (Γ := gam G n np) (own := ownOf N vs) (vs1 := vs1) (tg' := tg) (tg1' := tg1) (it := it) (it1 := it1) (t := t) (pos := pos) (elt := elt) hX.calm hX.nd hpa
          (fun j hj => by rw [ownOf_snd]; exact List.contains_iff_mem.mp (List.all_eq_true.mp h2 j hj)) (fun j hj => List.contains_iff_mem.mp (List.all_eq_true.mp h3 j hj))
          (fun j hj => by rw [ownOf_snd]; exact List.contains_iff_mem.mp (List.all_eq_true.mp h4 j hj)) hi hb
          (fun s H Ca cl fp => chkG_ok (X := X.blk s H scope (compEnvC scope cl Ca X.env) fp) (sc := relS scope sc) (fl := fun x => scope.names.lookup x == some .cell) hX.calm hX.nd hK hpa (hrel s H Ca cl fp) hN (fun x q => q) tg h6)
          (fun s H Ca cl fp => (chkI_ok it1 (hX.blk s H scope (compEnvC scope cl Ca X.env) fp) (hrel s H Ca cl fp) hN hK h7).1)
          (fun s H Ca cl fp => chkG_ok (X := X.blk s H scope (compEnvC scope cl Ca X.env) fp) (sc := relS scope sc) (fl := fun x => scope.names.lookup x == some .cell) hX.calm hX.nd hK hpa (hrel s H Ca cl fp) hN (fun x q => q) tg1 h8)
          (fun s H Ca cl fp => (chkE_ok t (hX.blk s H scope (compEnvC scope cl Ca X.env) fp) (hrel s H Ca cl fp) hN hK h9).ev) (hif X.env) hif1
        rw [ownOf_snd] at key
        exact ⟨key.1, fun _ => plain_t hK (place_ok key.1 (fun i z => by cases z)) (plainT_ok rfl X.env), fun op vs pos z => (by cases z), rfl, fun i z => (by cases z), fun _ => key.2⟩
    | _ => cases h
  | .cmeth c m xs, X, sc, e, hX, hs, hN, hK, h => by
    cases e with
    | Call g es ks pos =>
      cases g with
      | Attribute o' m' apos =>
        match o', es, ks, h with
        | .Name x p, e0 :: es, [], h =>
          have h' : (m == m' && glB sc x && (match C.gl x with
            | some (.cls g) => g == c
            | _ => false) && apos.endLine == pos.line && (e0 :: es).all okH && decide ((e0 :: es).length < 29) && chks C N sc xs (e0 :: es)) = true := h
          rw [Bool.and_eq_true, Bool.and_eq_true, Bool.and_eq_true, Bool.and_eq_true, Bool.and_eq_true, Bool.and_eq_true, decide_eq_true_eq] at h'
          obtain ⟨⟨⟨⟨⟨⟨h1, h2⟩, h3⟩, h4⟩, h5⟩, h6⟩, h7⟩ := h'
          have hm : m = m' := eq_of_beq h1
          subst hm
          obtain ⟨g1, g2⟩ := gl_of hs h2
          split at h3
          · rename_i g hg
            have hgc : g = c := eq_of_beq h3
            subst hgc
            obtain ⟨m1, _⟩ := hX.st.cls x g hg
            have hxs := (chks_ok xs hX hs hN hK h7).2.1 h5 []
            have ht := meth_ht (o := .Name x p) (m := m) (apos := apos) (pos := pos) rfl h5 h6 h4 X.env
            have h5' := h5
            rw [List.all_cons, Bool.and_eq_true] at h5'
            cases hcm : G.T.cm g m with
            | none =>
              have hE : PE X (.Call (.Attribute (.Name x p) m apos) (e0 :: es) [] pos) (tEv (gam G n np) P (.cmeth g m xs)) := PE.imp pe_none fun σ H Q q => by
                obtain ⟨ψ, τ, ρ, O, l, ρ', O', r, e, kk⟩ := q
                have e' : (match evA (gam G n np) [] xs (ρ, O) with
                  | none => none
                  | some (as, s1) => match G.T.cm g m with
                    | none => none
                    | some f => callAr (gam G n np).cf f (.unk :: as) s1) = some (l, (ρ', O')) := e
                rw [hcm] at e'
                split at e' <;> cases e'
              exact .mk' hK hE rfl rfl (fun j z => (by cases z)) rfl
            | some f =>
              obtain ⟨mc, pa, d, q1, q2, q3⟩ := hX.st.cm g m f hcm
              have Fk := hX.fns f d q3 (hX.st.spc _ _ _ hcm)
              rw [sp_eq hK hca] at Fk
              have hr : Room (2 * n) X.A := hX.room.mono (by omega)
              exact .mk' hK (cmeth_ok (Γ := gam G n np) rfl hcm Fk (hX.st.bind f d q3) hr passes_no g1 (by rw [hca]; exact m1) g2 (by rw [hca]; exact q1) (by rw [hca]; exact q2) hxs (okH_star h5'.1 X.env) (star_all h5'.2 X.env) ht) rfl rfl (fun j z => (by cases z)) rfl
          · cases h3
        | .Name x p, e0 :: es, _ :: _, h => cases h
        | .Name x p, [], _, h => cases h
        | .BoolOp .., _, _, h | .NamedExpr .., _, _, h | .BinOp .., _, _, h | .UnaryOp .., _, _, h | .IfExp .., _, _, h | .Dict .., _, _, h | .ListComp .., _, _, h | .Compare .., _, _, h | .Call .., _, _, h | .JoinedStr .., _, _, h | .Constant .., _, _, h | .Attribute .., _, _, h | .Subscript .., _, _, h | .List .., _, _, h | .Tuple .., _, _, h => cases h
      | _ => cases h
    | _ => cases h
  | .dnew, X, sc, e, hX, hs, hN, hK, h => by
    cases e with
    | Dict ks vs pos =>
      match ks, vs, h with
      | [], [], _ => exact .mk' hK dnew_ok rfl rfl (fun j z => (by cases z)) rfl
    | _ => cases h
  | .lzip a b, X, sc, e, hX, hs, hN, hK, h => by
    cases e with
    | Call g es ks pos =>
      cases g with
      | Name x p =>
        match es, ks, h with
        | [.Call (.Name y p2) [a', b'] [] pos2], [], h =>
          have h' : (x == ("list" : Str) && glB sc x && y == ("zip" : Str) && glB sc y && chkE C N sc a a' && chkE C N sc b b') = true := h
          rw [Bool.and_eq_true, Bool.and_eq_true, Bool.and_eq_true, Bool.and_eq_true, Bool.and_eq_true] at h'
          obtain ⟨⟨⟨⟨⟨h1, h2⟩, h3⟩, h4⟩, h5⟩, h6⟩ := h'
          obtain rfl : x = Str.ofString "list" := eq_of_beq h1
          obtain rfl : y = Str.ofString "zip" := eq_of_beq h3
          obtain ⟨g1, g2⟩ := gl_of hs h2
          obtain ⟨g3, g4⟩ := gl_of hs h4
          have ha := chkE_ok a hX hs hN hK h5
          have hb := chkE_ok b hX hs hN hK h6
          exact .mk' hK (lz_ok hK hX.calm g1 (hX.st.blt "list" (by decide)) g3 (hX.st.blt "zip" (by decide)) ha.ev hb.ev (okH_star ha.ok X.env) (okH_star hb.ok X.env) (star_all (by rw [List.all_cons, hb.ok]; rfl) X.env)) rfl rfl (fun j z => (by cases z)) rfl
      | _ => cases h
    | _ => cases h
  | .nil, X, sc, e, hX, hs, hN, hK, h => by
    have hno : ∀ s, Fc.ev (gam G n np) .nil s = none := fun s => rfl
    have hE : ∀ {e : Expr}, PE X e (tEv (gam G n np) P .nil) := fun {e} => PE.imp pe_none fun σ H Q q => by
      obtain ⟨ψ, τ, ρ, O, l, ρ', O', r, e, kk⟩ := q
      cases e
    refine ⟨hE, fun _ => ?_, fun op vs pos z => ?_, h, fun j z => (by cases z), fun _ {i y py spos} _ _ _ => ?_⟩
    · refine ⟨fun pins s σ H Q I q => ?_⟩
      obtain ⟨ψ, τ, ρ, O, l, ρ', O', r, e, kk⟩ := q
      cases e
    · refine ⟨fun w pins s σ H Q I q => ?_⟩
      obtain ⟨ψ, τ, ρ, O, l, ρ', O', r, e, kk⟩ := q
      cases e
    · refine ⟨fun pins s σ H D I q => ?_⟩
      obtain ⟨ψ, τ, ρ, O, l, ρ', O', r, e, kk⟩ := q
      cases e
theorem chks_ok : ∀ (xs : Tms) {X : Cx} {sc : Scope} {es : List Expr}, CxOk C G n X → X.env.scope = sc → X.N = N → P.K = X.K → chks C N sc xs es = true →
    PA X es (tEs (gam G n np) P xs) ∧ (es.all okH = true → ∀ md, PA X es (tAs (gam G n np) P md xs)) ∧ (es.all okH = true → PA X es (tLs (gam G n np) P xs))
  | .nil, X, sc, es, hX, hs, hN, hK, h => by
    cases es with
    | nil => exact ⟨es_nil, fun _ md => as_nil, fun _ => lv_nil⟩
    | cons e es => cases h
  | .cons t ts, X, sc, es, hX, hs, hN, hK, h => by
    cases es with
    | nil => cases h
    | cons e es =>
      have h' : (chkE C N sc t e && chks C N sc ts es) = true := h
      rw [Bool.and_eq_true] at h'
      have ht := chkE_ok t hX hs hN hK h'.1
      have hts := chks_ok ts hX hs hN hK h'.2
      have hst := okH_star ht.ok (es := es) X.env
      refine ⟨es_cons ht.ev hts.1 hst, fun ho md => ?_, fun ho => ?_⟩
      · rw [List.all_cons, Bool.and_eq_true] at ho
        exact as_cons (ht.ar _) (hts.2.1 ho.2 _) hst
      · rw [List.all_cons, Bool.and_eq_true] at ho
        exact lv_cons ht.ev (hts.2.2 ho.2) hst
  | .star t ts, X, sc, es, hX, hs, hN, hK, h => by
    cases es with
    | nil => cases h
    | cons e es =>
      cases e with
      | Starred e' pos =>
        have h' : (chkE C N sc t e' && chks C N sc ts es) = true := h
        rw [Bool.and_eq_true] at h'
        have ht := chkE_ok t hX hs hN hK h'.1
        have hts := chks_ok ts hX hs hN hK h'.2
        exact ⟨es_star hK ht.ev hts.1 rfl, fun ho => (by cases ho), fun ho => by cases ho⟩
      | _ => cases h
theorem chkF_ok : ∀ (xs : Tms) {X : Cx} {sc : Scope} {es : List Expr}, CxOk C G n X → X.env.scope = sc → X.N = N → P.K = X.K → chkF C N sc xs es = true → FJ X (gam G n np) P es xs
  | .nil, X, sc, es, hX, hs, hN, hK, h => by
    cases es with
    | nil => exact .nil
    | cons e es => cases h
  | .cons t ts, X, sc, es, hX, hs, hN, hK, h => by
    cases es with
    | nil => cases h
    | cons e es =>
      cases e with
      | Constant c k p =>
        cases c with
        | str s =>
          have h' : (isTxt t s && chkF C N sc ts es) = true := h
          rw [Bool.and_eq_true] at h'
          have h1 := h'.1
          unfold isTxt at h1
          split at h1
          · rw [← eq_of_beq h1]
            exact .txt (chkF_ok ts hX hs hN hK h'.2)
          · cases h1
        | _ => cases h
      | FormattedValue e1 cv sp p =>
        cases sp with
        | some _ => cases h
        | none =>
          have h' : (cv == -1 && chkE C N sc t e1 && chkF C N sc ts es) = true := h
          rw [Bool.and_eq_true, Bool.and_eq_true] at h'
          have hcv : cv = -1 := eq_of_beq h'.1.1
          subst hcv
          exact .val (chkE_ok t hX hs hN hK h'.1.2).ev (chkF_ok ts hX hs hN hK h'.2)
      | _ => cases h
  | .star _ _, X, sc, es, hX, hs, hN, hK, h => by cases h
theorem chkI_ok : ∀ (it : It) {X : Cx} {sc : Scope} {tg e : Expr}, CxOk C G n X → X.env.scope = sc → X.N = N → P.K = X.K → chkI C N sc it tg e = true → PI X tg e (tIt (gam G n np) P it) ∧ ∀ env x, foldedSetIterable e env x = pure x
  | .seq t, X, sc, tg, e, hX, hs, hN, hK, h => by
    have h' : (okH e && chkE C N sc t e) = true := h
    rw [Bool.and_eq_true] at h'
    have ht := chkE_ok t hX hs hN hK h'.2
    exact ⟨it_seq hK ht.ev, fun env => okH_fold ht.ok env⟩
  | .range1 a, X, sc, tg, e, hX, hs, hN, hK, h => by
    cases e with
    | Call g es ks pos =>
      cases g with
      | Name x p =>
        match es, ks, h with
        | [a'], [], h =>
          have h' : (x == ("range" : Str) && glB sc x && chkE C N sc a a') = true := h
          rw [Bool.and_eq_true, Bool.and_eq_true] at h'
          obtain ⟨⟨h1, h2⟩, h3⟩ := h'
          obtain rfl : x = Str.ofString "range" := eq_of_beq h1
          obtain ⟨g1, g2⟩ := gl_of hs h2
          have hm := hX.st.blt "range" (by decide)
          have ha := chkE_ok a hX hs hN hK h3
          exact ⟨it_range1 g1 hm ha.ev (okH_star ha.ok X.env), fun _ x => rfl⟩
      | _ => cases h
    | _ => cases h
  | .range2 a b, X, sc, tg, e, hX, hs, hN, hK, h => by
    cases e with
    | Call g es ks pos =>
      cases g with
      | Name x p =>
        match es, ks, h with
        | [a', b'], [], h =>
          have h' : (x == ("range" : Str) && glB sc x && chkE C N sc a a' && chkE C N sc b b') = true := h
          rw [Bool.and_eq_true, Bool.and_eq_true, Bool.and_eq_true] at h'
          obtain ⟨⟨⟨h1, h2⟩, h3⟩, h4⟩ := h'
          obtain rfl : x = Str.ofString "range" := eq_of_beq h1
          obtain ⟨g1, g2⟩ := gl_of hs h2
          have hm := hX.st.blt "range" (by decide)
          have ha := chkE_ok a hX hs hN hK h3
          have hb := chkE_ok b hX hs hN hK h4
          exact ⟨it_range2 g1 hm ha.ev hb.ev (by rw [okH_star ha.ok, okH_star hb.ok]; rfl) (okH_star hb.ok X.env), fun _ x => rfl⟩
      | _ => cases h
    | _ => cases h
  | .range3 a b c, X, sc, tg, e, hX, hs, hN, hK, h => by
    cases e with
    | Call g es ks pos =>
      cases g with
      | Name x p =>
        match es, ks, h with
        | [a', b', c'], [], h =>
          have h' : (x == ("range" : Str) && glB sc x && chkE C N sc a a' && chkE C N sc b b' && chkE C N sc c c') = true := h
          rw [Bool.and_eq_true, Bool.and_eq_true, Bool.and_eq_true, Bool.and_eq_true] at h'
          obtain ⟨⟨⟨⟨h1, h2⟩, h3⟩, h4⟩, h5⟩ := h'
          obtain rfl : x = Str.ofString "range" := eq_of_beq h1
          obtain ⟨g1, g2⟩ := gl_of hs h2
          have hm := hX.st.blt "range" (by decide)
          have ha := chkE_ok a hX hs hN hK h3
          have hb := chkE_ok b hX hs hN hK h4
          have hc := chkE_ok c hX hs hN hK h5
          exact ⟨it_range3 g1 hm ha.ev hb.ev hc.ev (okH_star ha.ok X.env) (okH_star hb.ok X.env) (okH_star hc.ok X.env) (star_all (by rw [List.all_cons, List.all_cons, hb.ok, hc.ok]; rfl) X.env), fun _ x => rfl⟩
      | _ => cases h
    | _ => cases h
  | .enum a, X, sc, tg, e, hX, hs, hN, hK, h => by
    cases e with
    | Call g es ks pos =>
      cases g with
      | Name x p =>
        match es, ks, h with
        | [a'], [], h =>
          have h' : (x == ("enumerate" : Str) && glB sc x && chkE C N sc a a' && isTupE tg) = true := h
          rw [Bool.and_eq_true, Bool.and_eq_true, Bool.and_eq_true] at h'
          obtain ⟨⟨⟨h1, h2⟩, h3⟩, ht⟩ := h'
          obtain rfl : x = Str.ofString "enumerate" := eq_of_beq h1
          obtain ⟨g1, g2⟩ := gl_of hs h2
          have hm := hX.st.blt "enumerate" (by decide)
          obtain ⟨elts, kk, tpos, rfl⟩ : ∃ elts kk tpos, tg = .Tuple elts kk tpos := by
            cases tg <;> first | exact ⟨_, _, _, rfl⟩ | cases ht
          have ha := chkE_ok a hX hs hN hK h3
          exact ⟨it_enumerate hK g1 hm ha.ev (okH_star ha.ok X.env), fun _ x => rfl⟩
      | _ => cases h
    | _ => cases h
  | .zip a b, X, sc, tg, e, hX, hs, hN, hK, h => by
    cases e with
    | Call g es ks pos =>
      cases g with
      | Name x p =>
        match es, ks, h with
        | [a', b'], [], h =>
          have h' : (x == ("zip" : Str) && glB sc x && chkE C N sc a a' && chkE C N sc b b' && isTupE tg) = true := h
          rw [Bool.and_eq_true, Bool.and_eq_true, Bool.and_eq_true, Bool.and_eq_true] at h'
          obtain ⟨⟨⟨⟨h1, h2⟩, h3⟩, h4⟩, ht⟩ := h'
          obtain rfl : x = Str.ofString "zip" := eq_of_beq h1
          obtain ⟨g1, g2⟩ := gl_of hs h2
          have hm := hX.st.blt "zip" (by decide)
          obtain ⟨elts, kk, tpos, rfl⟩ : ∃ elts kk tpos, tg = .Tuple elts kk tpos := by
            cases tg <;> first | exact ⟨_, _, _, rfl⟩ | cases ht
          have ha := chkE_ok a hX hs hN hK h3
          have hb := chkE_ok b hX hs hN hK h4
          exact ⟨it_zipped hK g1 hm ha.ev hb.ev (okH_star ha.ok X.env) (okH_star hb.ok X.env) (star_all (by rw [List.all_cons, hb.ok]; rfl) X.env), fun _ x => rfl⟩
      | _ => cases h
    | _ => cases h
end
end
end Fc
set_option Elab.async false
set_option linter.all false
set_option maxHeartbeats 8000000
set_option maxRecDepth 10000
/-! The checker of statements. -/
namespace Fc
open PySem L2
/-- the names of plain locals on the first one's line -/
def locsOf (sc : Scope) (ts : List Expr) : List Str := ts.filterMap fun
  | .Name id pos => if sc.names.lookup id == some .local && pos.line == (ts.head?.map (·.pos.line)).getD 0 then some id else none
  | _ => none
def swNone (sc : Scope) (ts vs : List Expr) : Bool := !(ts.length == 2 || ts.length == 3) || (locsOf sc ts).length != ts.length || vs.all (foldedForSure 8)
def isStar : Expr → Bool
  | .Starred .. => true
  | _ => false
theorem fmap_cg {α β : Type} {f g : α → Option β} (h : ∀ x, f x = g x) (l : List α) : l.filterMap f = l.filterMap g := by rw [funext h]
theorem any_no {f : Expr → Bool} {a b : Expr} (h : ∀ e, f e = isStar e) (ha : isStar a = false) (hb : isStar b = false) : ¬ ([a, b].any f = true) := by
  rw [List.any_cons, List.any_cons, List.any_nil, h, h, ha, hb]
  simp
theorem swNone_ok {sc : Scope} {ts vs : List Expr} {env : Env} {k k2 : Nat} {p p2 : Pos} (hs : env.scope = sc) (h : swNone sc ts vs = true) : swappedStores [.Tuple ts k p] (.Tuple vs k2 p2) env = pure none := by
  subst hs
  unfold swNone at h
  unfold swappedStores
  dsimp only
  split
  · rfl
  · rename_i h1
    simp only [Bool.not_eq_true, Bool.or_eq_false_iff, Bool.not_eq_false'] at h1
    rw [h1.1.1] at h
    split
    · rfl
    · generalize hL : (List.filterMap _ ts : List Str) = L
      have hl : L = locsOf env.scope ts := by
        rw [← hL]
        unfold locsOf
        exact fmap_cg (fun x => by cases x <;> rfl) _
      subst hl
      split
      · rfl
      · rename_i h3
        simp only [Bool.not_eq_true, Bool.or_eq_false_iff] at h3
        rw [h3.1] at h
        have h4 : vs.all (foldedForSure 8) = true := h
        rw [if_pos h4]
theorem swTwo_ok {x y : Str} {px py pt pt2 : Pos} {kt k2 : Nat} {a b : Expr} {env : Env} (hk : env.scope.kind = .function) (hx : env.scope.names.lookup x = some .local) (hy : env.scope.names.lookup y = some .local) (hl : (py.line == px.line) = true) (hxy : (x == y) = false)
    (ha : isStar a = false) (hb' : isStar b = false) (h1 : [a, b].all (foldedForSure 8) = false) (h2 : [a, b].all (constantsAlone 8) = false) :
    swappedStores [.Tuple [.Name x px, .Name y py] kt pt] (.Tuple [a, b] k2 pt2) env = pure (some [x, y]) := by
  have hb : env.blockKind = .function := by unfold Env.blockKind; rw [hk]; rfl
  have kx : env.kindOf x = some .local := hx
  have ky : env.kindOf y = some .local := hy
  unfold swappedStores
  dsimp only
  rw [hb]
  rw [if_neg (by simp)]
  rw [if_neg]
  · generalize hL : (List.filterMap _ _ : List Str) = L
    have hl' : L = [x, y] := by
      rw [← hL]
      have l1 : (Expr.Name x px).pos.line = px.line := rfl
      have l2 : (Expr.Name y py).pos.line = py.line := rfl
      simp [kx, ky, l1, l2, eq_of_beq hl]
    subst hl'
    have hxy' : (y == x) = false := by
      cases q : (y == x) with
      | false => rfl
      | true => rw [eq_of_beq q] at hxy; simp at hxy
    have he : ([x, y] : List Str).eraseDups.length = 2 := by
      rw [List.eraseDups_cons]
      simp [hxy', List.eraseDups_cons]
    rw [he]
    rw [if_neg (by simp)]
    rw [if_neg (by rw [h1]; simp), if_neg (by rw [h2]; simp)]
  · exact any_no (fun e => by cases e <;> rfl) ha hb'
/-- the value is bound inside the comprehension -/
def swB (sc : Scope) (e : Expr) (y : Str) (py : Pos) : Bool := match e with
  | .ListComp _ _ scope pos => sc.names.lookup y == some .local && py.line == pos.line && !(scope.names.any fun (n, k) => n == y && (k == .local || k == .cell))
  | _ => false
theorem swB_ok {sc : Scope} {e : Expr} {y : Str} {py : Pos} {line : Nat} {env : Env} (hs : env.scope = sc) (hk : env.scope.kind = .function) (ho : okH e = true) : swapsWith e (some (.Name y py)) line env = pure (swB sc e y py) := by
  subst hs
  cases e with
  | ListComp elt gs scope pos =>
    have hb : env.blockKind = .function := by unfold Env.blockKind; rw [hk]; rfl
    show (pure (env.blockKind == .function && env.kindOf y == some .local && py.line == pos.line && !(scope.names.any fun (n, k) => n == y && (k == .local || k == .cell))) : Sem Bool) = _
    rw [hb]
    rfl
  | _ => first | rfl | cases ho
theorem swOther_ok {e t : Expr} {line : Nat} {env : Env} (ho : okH e = true) (ht : ∀ y p, t ≠ .Name y p) : swapsWith e (some t) line env = pure false := by
  cases e with
  | ListComp elt gs scope pos => cases t <;> first | rfl | exact absurd rfl (ht _ _)
  | _ => first | rfl | cases ho
theorem swDrop_ok {e : Expr} {line : Nat} {env : Env} (ho : okH e = true) (hl : isLC e = false) : swapsWith e none line env = pure false := by
  cases e with
  | ListComp elt gs scope pos => cases hl
  | _ => first | rfl | cases ho
theorem swNo_ok {e t : Expr} {env : Env} (h : isTupE e = false) : swappedStores [t] e env = pure none := by
  cases t <;> first | rfl | (cases e <;> first | rfl | cases h)
def oneNil : Tm → Bool
  | .nil => true
  | _ => false
section
variable (C : Ck) (N : List Str)
def chkT (sc : Scope) : Tgt → Expr → Bool
  | .nm i, e => match e with
    | .Name x _ => stoB N sc (fun _ => true) i x
    | _ => false
  | .sub i k, e => match e with
    | .Subscript (.Name x _) ie _ => varB N sc i x && chkE C N sc k ie
    | _ => false
  | _, _ => false
def chkTs (sc : Scope) : Tgts → List Expr → Bool
  | .nil, es => es.isEmpty
  | .cons t ts, es => match es with
    | e :: es => chkT C N sc t e && chkTs sc ts es
    | [] => false
/-- two plain locals of one line -/
def twoB (sc : Scope) (ts : Tgts) (ts' vs : List Expr) (xs : Tms) : Bool := match ts, xs, ts', vs with
  | .cons (.nm i) (.cons (.nm j) .nil), .cons _ (.cons _ .nil), [.Name x px, .Name y py], [a, b] =>
    N[i]? == some x && N[j]? == some y && i != j && sc.names.lookup x == some .local && sc.names.lookup y == some .local && py.line == px.line && !(x == y) && ![a, b].all (foldedForSure 8) && ![a, b].all (constantsAlone 8)
  | _, _, _, _ => false
def exprB (sc : Scope) (v : Tm) : Stmt → Bool
  | .Expr e _ => chkE C N sc v e && !isLC e
  | _ => false
mutual
def chkS (sc : Scope) : Sm → Stmt → Bool
  | .asg t v, st => match st with
    | .Assign [tg] e _ => chkE C N sc v e && (match t with
      | .nm i => (match tg with
        | .Name x _ => stoB N sc (fun _ => true) i x
        | _ => false)
      | .sub i k => chkT C N sc (.sub i k) tg && !isTupE e
      | .att i f => (match tg with
        | .Attribute (.Name x _) f' _ => f == f' && C.fl f && varB N sc i x
        | _ => false)
      | .tp ts => (match tg with
        | .Tuple es _ _ => chkTs C N sc ts es && !isTupE e
        | _ => false))
    | _ => false
  | .par ts xs, st => match st with
    | .Assign [.Tuple ts' _ _] (.Tuple vs _ _) _ => vs.all okH && chks C N sc xs vs && (twoB N sc ts ts' vs xs || (swNone sc ts' vs && chkTs C N sc ts ts' && decide (nTgts ts ≤ 1000)))
    | _ => false
  | .aug _ _, _ => false
  | .expr v, st => oneNil v || exprB C N sc v st
  | .app i v, st => match st with
    | .Expr (.Call (.Attribute (.Name x _) m apos) [e] [] cpos) _ => m == ("append" : Str) && varB N sc i x && chkE C N sc v e && apos.endLine == cpos.line
    | _ => false
  | .ife c a b, st => match st with
    | .If c' a' b' _ => noIf c' && chkE C N sc c c' && chkSs sc a a' && chkSs sc b b'
    | _ => false
  | .forr tg it b, st => match st with
    | .For tg' iter body [] _ => chkI C N sc it tg' iter && chkG N sc (fun _ => true) tg tg' && chkSs sc b body
    | _ => false
  | .whil c b, st => match st with
    | .While c' body [] _ => noIf c' && chkE C N sc c c' && chkSs sc b body
    | _ => false
  | .ret v, st => match st with
    | .Return (some e) _ => chkE C N sc v e
    | _ => false
  | .retN, st => match st with
    | .Return none _ => true
    | _ => false
  | .pass, st => match st with
    | .Pass _ => true
    | _ => false
  | .brk, st => match st with
    | .Break _ => true
    | _ => false
  | .cont, st => match st with
    | .Continue _ => true
    | _ => false
def chkSs (sc : Scope) : Sms → List Stmt → Bool
  | .nil, ss => ss.isEmpty
  | .cons s r, ss => match ss with
    | st :: ss => chkS sc s st && chkSs sc r ss
    | [] => false
end
end
section
variable {C : Ck} {G : Glob} {n np : Nat} {N : List Str} {P : Par} {X : Cx} {sc : Scope} (hca : P.ca = G.ca) (hpa : PaOk P np)
/-- a def's own context -/
structure SxOk (X : Cx) : Prop where
  own : PassesOwn (model X.prog X.w) X.A X.env X.xe
  fn : ∀ x, X.fn x = true
  kind : X.env.scope.kind = .function
include hca hpa in
theorem chkT_ok (hX : CxOk C G n X) (hY : SxOk X) (hs : X.env.scope = sc) (hN : X.N = N) (hK : P.K = X.K) {t : Tgt} {e : Expr} (h : chkT C N sc t e = true) : PG X e (tGt (gam G n np) P t) := by
  cases t with
  | nm i =>
    cases e with
    | Name x p =>
      obtain ⟨h1, h2, h3⟩ := sto_of (fl := fun _ => true) hs hN (fun x _ => hY.fn x) (show stoB N sc (fun _ => true) i x = true from h)
      exact gt_nm (Γ := gam G n np) hpa (pg_name hX.nd h1 h2 h3)
    | _ => cases h
  | sub i k =>
    cases e with
    | Subscript o ie p =>
      cases o with
      | Name x px =>
        have h' : (varB N sc i x && chkE C N sc k ie) = true := h
        rw [Bool.and_eq_true] at h'
        have hk := chkE_ok hca hpa k hX hs hN hK h'.2
        exact gt_sub (Γ := gam G n np) (var_of hs hN h'.1) hk.ev (fun v => by
          have ho := hk.ok
          cases ie <;> first | rfl | cases ho)
      | _ => cases h
    | _ => cases h
  | _ => cases h
theorem chkTs_form : ∀ {ts : Tgts} {es : List Expr} (env : Env), chkTs C N sc ts es = true → (assignEach es env).length = nTgts ts ∧ (assignEach es env).findIdx? (·.1) = none ∧ ∀ e r, es = e :: r → (assignEach (e :: r) env).map (·.2) = assign e env :: (assignEach r env).map (·.2)
  | .nil, es, env, h => by
    cases es with
    | nil => exact ⟨rfl, rfl, fun e r z => by cases z⟩
    | cons e es => cases h
  | .cons t ts, es, env, h => by
    cases es with
    | nil => cases h
    | cons e es =>
      have h' : (chkT C N sc t e && chkTs C N sc ts es) = true := h
      rw [Bool.and_eq_true] at h'
      obtain ⟨i1, i2, _⟩ := chkTs_form (ts := ts) (es := es) env h'.2
      have ha : assignEach (e :: es) env = (false, assign e env) :: assignEach es env := by
        cases t with
        | nm i =>
          cases e with
          | Name x p => rfl
          | _ => cases h'.1
        | sub i k =>
          cases e with
          | Subscript o ie p => rfl
          | _ => cases h'.1
        | _ => cases h'.1
      refine ⟨?_, ?_, fun e' r z => ?_⟩
      · rw [ha, List.length_cons, i1]
        rfl
      · rw [ha, List.findIdx?_cons, i2]
        rfl
      · cases z
        rw [ha]
        rfl
include hca hpa in
theorem chkTs_ok (hX : CxOk C G n X) (hY : SxOk X) (hs : X.env.scope = sc) (hN : X.N = N) (hK : P.K = X.K) : ∀ {ts : Tgts} {es : List Expr}, chkTs C N sc ts es = true → PGs X es (tGts (gam G n np) P ts)
  | .nil, es, h => by
    cases es with
    | nil => exact gts_nil
    | cons e es => cases h
  | .cons t ts, es, h => by
    cases es with
    | nil => cases h
    | cons e es =>
      have h' : (chkT C N sc t e && chkTs C N sc ts es) = true := h
      rw [Bool.and_eq_true] at h'
      exact gts_cons (chkT_ok hca hpa hX hY hs hN hK h'.1) (chkTs_ok hX hY hs hN hK h'.2) ((chkTs_form X.env h).2.2 _ _ rfl)
theorem oneNil_ok {v : Tm} (h : oneNil v = true) : v = .nil := by
  cases v <;> first | rfl | cases h
include hca hpa in
mutual
theorem chkS_ok (hX : CxOk C G n X) (hY : SxOk X) (hs : X.env.scope = sc) (hN : X.N = N) (hK : P.K = X.K) : ∀ (s : Sm) {st : Stmt}, chkS C N sc s st = true → PS X st (tSt P (ex (gam G n np) G.F s))
  | .asg t v, st, h => by
    cases st with
    | Assign tgs e pos =>
      match tgs, h with
      | [tg], h =>
        have h0 : chkE C N sc v e = true := by
          have h' := h
          unfold chkS at h'
          rw [Bool.and_eq_true] at h'
          exact h'.1
        have hv := chkE_ok hca hpa v hX hs hN hK h0
        cases t with
        | nm i =>
          cases tg with
          | Name x px =>
            have h' : (chkE C N sc v e && stoB N sc (fun _ => true) i x) = true := h
            rw [Bool.and_eq_true] at h'
            obtain ⟨h1, h2, h3⟩ := sto_of (fl := fun _ => true) hs hN (fun x _ => hY.fn x) h'.2
            have hsw := swB_ok (y := x) (py := px) (line := pos.line) (env := X.env) (sc := sc) hs hY.kind hv.ok
            cases hb : swB sc e x px with
            | false => exact st_nm (x := x) (Γ := gam G n np) hpa (ps_set hX.nd h1 h2 hv.ev (by rw [hsw, hb]) h3)
            | true =>
              have hlc : isLC e = true := by
                unfold swB at hb
                split at hb
                · rfl
                · cases hb
              have hloc : X.env.scope.names.lookup x = some .local := by
                rw [hs]
                unfold swB at hb
                split at hb
                · rw [Bool.and_eq_true, Bool.and_eq_true] at hb
                  exact eq_of_beq hb.1.1
                · cases hb
              exact st_nm (x := x) (Γ := gam G n np) hpa (hv.sw hlc h1 hloc (by rw [hsw, hb]))
          | _ => exact absurd h (by unfold chkS; simp)
        | sub i k =>
          have h' : (chkE C N sc v e && (chkT C N sc (.sub i k) tg && !isTupE e)) = true := h
          rw [Bool.and_eq_true, Bool.and_eq_true] at h'
          have hg := chkT_ok hca hpa hX hY hs hN hK h'.2.1
          have ht : isTupE e = false := by simpa using h'.2.2
          refine st_asg (Γ := gam G n np) (fun ts z => by cases z) (ps_asg hv.ev hg ?_ (swNo_ok ht) ?_)
          · exact swOther_ok hv.ok fun y p z => by subst z; cases h'.2.1
          · cases tg with
            | Subscript o ie p => rfl
            | _ => cases h'.2.1
        | att i f =>
          cases tg with
          | Attribute o f' p2 =>
            cases o with
            | Name x px =>
              have h' : (chkE C N sc v e && (f == f' && C.fl f && varB N sc i x)) = true := h
              rw [Bool.and_eq_true, Bool.and_eq_true, Bool.and_eq_true] at h'
              obtain ⟨_, ⟨h1, h2⟩, h3⟩ := h'
              have hf : f = f' := eq_of_beq h1
              subst hf
              exact st_att (Γ := gam G n np) hK (fun c hc => ⟨by rw [hca]; exact (hX.st.cl c hc).cl, by rw [hca]; exact hX.st.fl c f hc h2⟩) (var_of hs hN h3) hv.ev (swOther_ok hv.ok fun y p z => by cases z)
            | _ => exact absurd h (by unfold chkS; simp)
          | _ => exact absurd h (by unfold chkS; simp)
        | tp ts =>
          cases tg with
          | Tuple es k p =>
            have h' : (chkE C N sc v e && (chkTs C N sc ts es && !isTupE e)) = true := h
            rw [Bool.and_eq_true, Bool.and_eq_true] at h'
            have hgs := chkTs_ok hca hpa hX hY hs hN hK h'.2.1
            obtain ⟨i1, i2, _⟩ := chkTs_form X.env h'.2.1
            have ht : isTupE e = false := by simpa using h'.2.2
            exact st_tup (Γ := gam G n np) (k := 0) hK (ps_asg hv.ev (pg_tup hX.calm hgs i1 i2) (show swapsWith e (some (.Tuple es k p)) pos.line X.env = pure false from swOther_ok hv.ok fun y p z => by cases z) (swNo_ok ht) rfl)
          | _ => exact absurd h (by unfold chkS; simp)
      | [], h => cases h
      | _ :: _ :: _, h => cases h
    | _ => cases h
  | .par ts xs, st, h => by
    cases st with
    | Assign tgs e pos =>
      match tgs, e, h with
      | [.Tuple ts' k p], .Tuple vs k2 p2, h =>
        have h' : (vs.all okH && chks C N sc xs vs && (twoB N sc ts ts' vs xs || (swNone sc ts' vs && chkTs C N sc ts ts' && decide (nTgts ts ≤ 1000)))) = true := h
        rw [Bool.and_eq_true, Bool.and_eq_true, Bool.or_eq_true] at h'
        obtain ⟨⟨h1, h2⟩, h3⟩ := h'
        have hls := (chks_ok hca hpa xs hX hs hN hK h2).2.2 h1
        rcases h3 with h3 | h3
        · match ts, xs, ts', vs, h3, hls with
          | .cons (.nm i) (.cons (.nm j) .nil), .cons ta (.cons tb .nil), [.Name x px, .Name y py], [a, b], h3, hls =>
            have h4 : (N[i]? == some x && N[j]? == some y && i != j && sc.names.lookup x == some .local && sc.names.lookup y == some .local && py.line == px.line && !(x == y) && ![a, b].all (foldedForSure 8) && ![a, b].all (constantsAlone 8)) = true := h3
            simp only [Bool.and_eq_true] at h4
            obtain ⟨⟨⟨⟨⟨⟨⟨⟨a1, a2⟩, a3⟩, a4⟩, a5⟩, a6⟩, a7⟩, a8⟩, a9⟩ := h4
            have o1 : okH a = true ∧ okH b = true := by
              rw [List.all_cons, List.all_cons, Bool.and_eq_true, Bool.and_eq_true] at h1
              exact ⟨h1.1, h1.2.1⟩
            have ns : ∀ {e : Expr}, okH e = true → isStar e = false := fun {e} z => by cases e <;> first | rfl | cases z
            refine st_par (Γ := gam G n np) hpa (ps_par (x := x) (y := y) hX.calm hX.nd (by rw [hN]; exact eq_of_beq a1) (by rw [hN]; exact eq_of_beq a2) (by simpa using a3) (by rw [hs]; exact eq_of_beq a4) (by rw [hs]; exact eq_of_beq a5) hls
              (swTwo_ok hY.kind (by rw [hs]; exact eq_of_beq a4) (by rw [hs]; exact eq_of_beq a5) a6 (by simpa using a7) (ns o1.1) (ns o1.2) (by rw [Bool.not_eq_true'] at a8; exact a8) (by rw [Bool.not_eq_true'] at a9; exact a9)) rfl)
        · rw [Bool.and_eq_true, Bool.and_eq_true, decide_eq_true_eq] at h3
          obtain ⟨⟨h3, h4⟩, h5⟩ := h3
          have hgs := chkTs_ok hca hpa hX hY hs hN hK h4
          obtain ⟨i1, i2, _⟩ := chkTs_form X.env h4
          exact st_part (Γ := gam G n np) (k0 := k2) (tp2 := p2) hK hls (fun te hte => ps_asg hte (pg_tup hX.calm hgs i1 i2) rfl (swNone_ok hs h3) rfl) (by rw [sizeLine_eq]; omega)
    | _ => cases h
  | .aug _ _, st, h => by cases h
  | .expr v, st, h => by
    by_cases hn : oneNil v = true
    · have := oneNil_ok hn
      subst this
      refine ⟨fun pins s σ H D I q => ?_⟩
      obtain ⟨ψ, ρ, O, fl, ρ', O', r, e, kk⟩ := q
      cases e
    · have h0 : (oneNil v || exprB C N sc v st) = true := h
      rw [show oneNil v = false by simpa using hn] at h0
      cases st with
      | Expr e pos =>
        have h' : (chkE C N sc v e && !isLC e) = true := h0
        rw [Bool.and_eq_true] at h'
        have hv := chkE_ok hca hpa v hX hs hN hK h'.1
        exact st_expr hv.ev (swDrop_ok hv.ok (by simpa using h'.2))
      | _ => cases h0
  | .app i v, st, h => by
    cases st with
    | Expr e pos =>
      match e, h with
      | .Call (.Attribute (.Name x px) m apos) [e] [] cpos, h =>
        have h' : (m == ("append" : Str) && varB N sc i x && chkE C N sc v e && apos.endLine == cpos.line) = true := h
        rw [Bool.and_eq_true, Bool.and_eq_true, Bool.and_eq_true] at h'
        obtain ⟨⟨⟨h1, h2⟩, h3⟩, h4⟩ := h'
        obtain rfl : m = Str.ofString "append" := eq_of_beq h1
        have hv := chkE_ok hca hpa v hX hs hN hK h3
        have hall : [e].all okH = true := by rw [List.all_cons, hv.ok]; rfl
        exact st_app (Γ := gam G n np) (var_of hs hN h2) hv.ev (base_ok rfl _ X.env _) (few_ok hall (by show 1 < 29; decide) X.env) h4 (okH_star hv.ok X.env) rfl rfl
    | _ => cases h
  | .ife c a b, st, h => by
    cases st with
    | If c' a' b' pos =>
      have h' : (noIf c' && chkE C N sc c c' && chkSs C N sc a a' && chkSs C N sc b b') = true := h
      rw [Bool.and_eq_true, Bool.and_eq_true, Bool.and_eq_true] at h'
      have hc := chkE_ok hca hpa c hX hs hN hK h'.1.1.2
      exact st_if (hc.tst h'.1.1.1) (chkSs_ok hX hY hs hN hK a h'.1.2) (chkSs_ok hX hY hs hN hK b h'.2)
    | _ => cases h
  | .forr tg it b, st, h => by
    cases st with
    | For tg' iter body orelse pos =>
      match orelse, h with
      | [], h =>
        have h' : (chkI C N sc it tg' iter && chkG N sc (fun _ => true) tg tg' && chkSs C N sc b body) = true := h
        rw [Bool.and_eq_true, Bool.and_eq_true] at h'
        exact st_for (Γ := gam G n np) hY.own hX.calm (chkI_ok hca hpa it hX hs hN hK h'.1.1).1 (chkG_ok hX.calm hX.nd hK hpa hs hN (fun x _ => hY.fn x) tg h'.1.2) (chkSs_ok hX hY hs hN hK b h'.2) (chkI_fold h'.1.1 X.env)
    | _ => cases h
  | .whil c b, st, h => by
    cases st with
    | While c' body orelse pos =>
      match orelse, h with
      | [], h =>
        have h' : (noIf c' && chkE C N sc c c' && chkSs C N sc b body) = true := h
        rw [Bool.and_eq_true, Bool.and_eq_true] at h'
        have hc := chkE_ok hca hpa c hX hs hN hK h'.1.2
        exact st_while (Γ := gam G n np) hY.own (hc.tst h'.1.1) (chkSs_ok hX hY hs hN hK b h'.2)
    | _ => cases h
  | .ret v, st, h => by
    cases st with
    | Return e pos =>
      match e, h with
      | some e, h =>
        have hv := chkE_ok hca hpa v hX hs hN hK (show chkE C N sc v e = true from h)
        exact st_ret (Γ := gam G n np) hv.ev hv.vr hpa
    | _ => cases h
  | .retN, st, h => by
    cases st with
    | Return e pos =>
      match e, h with
      | none, _ => exact st_retN
    | _ => cases h
  | .pass, st, h => by
    cases st with
    | Pass pos => exact st_pass
    | _ => cases h
  | .brk, st, h => by
    cases st with
    | Break pos => exact st_brk
    | _ => cases h
  | .cont, st, h => by
    cases st with
    | Continue pos => exact st_cont
    | _ => cases h
theorem chkSs_ok (hX : CxOk C G n X) (hY : SxOk X) (hs : X.env.scope = sc) (hN : X.N = N) (hK : P.K = X.K) : ∀ (r : Sms) {ss : List Stmt}, chkSs C N sc r ss = true → PSs X ss (tSt P (exs (gam G n np) G.F r))
  | .nil, ss, h => by
    cases ss with
    | nil => exact ss_nil
    | cons st ss => cases h
  | .cons s r, ss, h => by
    cases ss with
    | nil => cases h
    | cons st ss =>
      have h' : (chkS C N sc s st && chkSs C N sc r ss) = true := h
      rw [Bool.and_eq_true] at h'
      exact ss_cons (chkS_ok hX hY hs hN hK s h'.1) (chkSs_ok hX hY hs hN hK r h'.2)
end
end
end Fc
set_option Elab.async false
set_option linter.all false
set_option maxHeartbeats 2000000
set_option maxRecDepth 10000
/-! Every def keeps its promise, at every depth of calls. -/
namespace Fc
open PySem L2
/-- what stands of a def -/
structure DefOk (C : Ck) (G : Glob) (K : PySem.W.Frag) (f : Nat) (d : Fd) : Prop where
  ex : ∃ name qual params body scope dV kV doc pm an cdv ct oc od osl N, K.lookup (G.fa f) = some ⟨oc, od, .func (PySem.W.fnOf name qual params body scope dV kV doc pm an cdv ct), osl⟩ ∧ G.fd f = PySem.W.fnOf name qual params body scope dV kV doc pm an cdv ct ∧
    PySem.W.codeIn K cdv qual = true ∧ FnScope N (G.ps f) scope ∧ N.length = d.nl ∧ (G.ps f).length = d.np ∧ d.np ≤ d.nl ∧ N.Nodup ∧ chkSs { C with gd := C.sp f } N scope d.body body = true
theorem all_ok {C : Ck} {G : Glob} {P : Program} {w : World} {K : PySem.W.Frag} {mg : Str → Option Value} {base : Heap} (S : SOk C G K w mg) (D : ∀ f d, G.T.fn f = some d → DefOk C G K f d) :
    ∀ n f d, G.T.fn f = some d → (C.sp f = false → FnOk P w K mg base (L2.CX P w) (2 * n) (G.fa f) (G.fd f) (G.ps f) (spEv K G.ca G.T G.F n f)) ∧ FnG P w K mg base (L2.CX P w) (2 * n) (G.fa f) (G.fd f) (G.ps f) (spEv K G.ca G.T G.F n f)
  | 0, f, d, h => ⟨fun _ => fn_zero, .of fn_zero⟩
  | n + 1, f, d, h => by
    obtain ⟨name, qual, params, body, scope, dV, kV, doc, pm, an, cdv, ct, oc, od, osl, N, lk, hfd, hcd, hS, hN, hps, hle, hnd, hb⟩ := (D f d h).ex
    have ih := all_ok (P := P) (w := w) (base := base) S D n
    rw [hfd]
    cases hsp : C.sp f with
    | false =>
      rw [hsp] at hb
      have plain : FnOk P w K mg base (L2.CX P w) (2 * n + 1 + 1) (G.fa f) (PySem.W.fnOf name qual params body scope dV kV doc pm an cdv ct) (G.ps f) (spEv K G.ca G.T G.F (n + 1) f) := by
        refine fn_ok h lk hcd hS hN hps hle fun A outer s H E p hr hpK hpca hpa => ?_
        have hX : CxOk { C with gd := false } G n (cxOf (L2.CX P w) P w K mg base N qual scope (G.fa f) cdv A outer s H E) := ⟨S.gd false, rfl, hr, hnd, fun f d h1 h2 => (ih f d h1).1 h2, fun z => (by cases z), fun z => (by cases z)⟩
        have hY : SxOk (cxOf (L2.CX P w) P w K mg base N qual scope (G.fa f) cdv A outer s H E) := ⟨PassesOwn.leaving, fun _ => rfl, hS.kind⟩
        exact chkSs_ok (np := d.np) hpca hpa hX hY rfl rfl hpK d.body hb
      exact ⟨fun _ => plain, .of plain⟩
    | true =>
      rw [hsp] at hb
      refine ⟨fun z => (by cases z), ?_⟩
      show FnG P w K mg base (L2.CX P w) (2 * n + 1 + 1) _ _ _ _
      refine fng_ok h lk hcd hS hN hps hle fun A outer s H E p hr hgd hpK hpca hpa => ?_
      have hX : CxOk { C with gd := true } G n (cxOf (L2.CX P w) P w K mg base N qual scope (G.fa f) cdv A outer s H E) := ⟨S.gd true, rfl, hr, hnd, fun f d h1 h2 => (ih f d h1).1 h2, fun _ f d h1 => (ih f d h1).2, fun _ => hgd⟩
      have hY : SxOk (cxOf (L2.CX P w) P w K mg base N qual scope (G.fa f) cdv A outer s H E) := ⟨PassesOwn.leaving, fun _ => rfl, hS.kind⟩
      exact chkSs_ok (np := d.np) hpca hpa hX hY rfl rfl hpK d.body hb
end Fc
set_option Elab.async false
set_option linter.all false
set_option maxHeartbeats 4000000
set_option maxRecDepth 100000
/-! What stands behind the top: the written part of a law's program. -/
namespace Fc
open PySem PySem.Spec PyProof.Rows L2
mutual
theorem rvB_ok {K : PySem.W.Frag} : ∀ {d : D} {u : Value}, rvB K d u = true → ∃ v, RelV v u ∧ ∀ ca ψ W H, RV K ca ψ W H d v
  | .non, u, h => by
    cases u with
    | none => exact ⟨.non, rfl, fun _ _ _ _ => .non⟩
    | _ => cases h
  | .bl b, u, h => by
    cases u with
    | bool c =>
      have : b = c := eq_of_beq (show (b == c) = true from h)
      subst this
      exact ⟨.bl b, rfl, fun _ _ _ _ => .bl b⟩
    | _ => cases h
  | .int i, u, h => by
    cases u with
    | int j t =>
      have : i = j := of_decide_eq_true h
      subst this
      exact ⟨.int i, ⟨t, rfl⟩, fun _ _ _ _ => .int i⟩
    | _ => cases h
  | .str s, u, h => by
    cases u with
    | str j t =>
      have : s = j := of_decide_eq_true h
      subst this
      exact ⟨.str s, ⟨t, rfl⟩, fun _ _ _ _ => .str s⟩
    | _ => cases h
  | .tup ds, u, h => by
    cases u with
    | ref a =>
      have h' : (match K.lookup a with
        | some ⟨.type c, _, .seq its _, _⟩ => decide (c = "tuple") && (decide (its.size ≤ sizeLine) && rvBs K ds its.toList)
        | _ => false) = true := h
      cases q : K.lookup a with
      | none => rw [q] at h'; cases h'
      | some o =>
        obtain ⟨oc, od, dt, osl⟩ := o
        rw [q] at h'
        cases oc with
        | type c =>
          cases dt with
          | seq its n =>
            have h2 : (decide (c = "tuple") && (decide (its.size ≤ sizeLine) && rvBs K ds its.toList)) = true := h'
            rw [Bool.and_eq_true, Bool.and_eq_true] at h2
            obtain ⟨vs, r1, r2⟩ := rvBs_ok h2.2.2
            exact ⟨.ref a, rfl, fun ca ψ W H => .tup (.inr ⟨_, its, n, q, congrArg Value.type (of_decide_eq_true h2.1), rfl, of_decide_eq_true h2.2.1, r1⟩) (r2 ca ψ W H).1 (r2 ca ψ W H).2⟩
          | _ => cases h'
        | _ => cases dt <;> cases h'
    | _ => cases h
  | .lst _, u, h => by cases u <;> cases h
  | .ins _ _, u, h => by cases u <;> cases h
  | .dic _, u, h => by cases u <;> cases h
  | .oid _, u, h => by cases u <;> cases h
  | .fls _, u, h => by cases u <;> cases h
theorem rvBs_ok {K : PySem.W.Frag} : ∀ {ds : List D} {us : List Value}, rvBs K ds us = true → ∃ vs, Vals vs us ∧ ∀ ca ψ W H, RVs K ca ψ W H ds vs
  | [], us, h => by
    cases us with
    | nil => exact ⟨[], .nil, fun _ _ _ _ => .nil⟩
    | cons _ _ => cases h
  | d :: ds, us, h => by
    cases us with
    | nil => cases h
    | cons u us =>
      have h' : (rvB K d u && rvBs K ds us) = true := h
      rw [Bool.and_eq_true] at h'
      obtain ⟨v, r1, r2⟩ := rvB_ok h'.1
      obtain ⟨vs, s1, s2⟩ := rvBs_ok h'.2
      exact ⟨v :: vs, .cons r1 s1, fun ca ψ W H => .cons (r2 ca ψ W H) (s2 ca ψ W H)⟩
end
def scB (N ps : List Str) (sc : Scope) : Bool := (match sc.kind with | .function => true | _ => false) && !sc.isCoroutine && !sc.isGenerator && decide N.Nodup && ps.all (fun x => match sc.names.lookup x with | some .local => true | some .cell => true | _ => false) && sc.names.all (fun y => match y.2 with | .free => false | _ => true)
theorem scB_ok {N : List Str} {k : Nat} {sc : Scope} (hk : k ≤ N.length) (h : scB N (N.take k) sc = true) : FnScope N (N.take k) sc := by
  unfold scB at h
  rw [Bool.and_eq_true, Bool.and_eq_true, Bool.and_eq_true, Bool.and_eq_true, Bool.and_eq_true, decide_eq_true_eq] at h
  obtain ⟨⟨⟨⟨⟨h1, h2⟩, h3⟩, h4⟩, h5⟩, h6⟩ := h
  refine ⟨?_, by simpa using h2, by simpa using h3, h4, ?_, fun x hx => ?_, fun y hy z => ?_⟩
  · split at h1
    · assumption
    · cases h1
  · rw [List.length_take, Nat.min_eq_left hk]
  · have q := List.all_eq_true.mp h5 x hx
    split at q
    · rename_i e; exact .inl e
    · rename_i e; exact .inr e
    · cases q
  · have q := List.all_eq_true.mp h6 y hy
    rw [z] at q
    cases q
/-- the text of a def is told by its core -/
def defB (C : Ck) (g : Bool) (i : FnI) : Bool := decide (i.d.np ≤ i.N.length) && decide (i.N.length = i.d.nl) && scB i.N i.ps (defScope i.st) && chkSs { C with gd := g } i.N (defScope i.st) i.d.body (defBody i.st)
variable (I : Inf)
def Inf.T : Tab where
  kc := fun c => (find1 c I.cs).isSome
  fn := fun f => (I.fns.map (·.d)).get f
  mth := fun c m => find2 c m I.mth
  prp := fun c m => (find2 c m I.prp).map (·.1)
  ini := fun c => find1 c I.ini
  cm := fun c m => find2 c m I.cm
def Inf.C : Ck where
  gl := fun x => match find1 x.cps.size I.gt with
    | some l => gLook x l
    | none => none
  mks := fun c dds => I.mks.any fun m => m.1 == c && beqDs m.2.2 dds
  fl := fun f => I.fl.any (· == f)
  kws := fun f ks => I.kw.any fun q => q.1 == f && q.2 == ks
  sp := fun f => match I.fns.get f with
    | some i => I.sp.elem i.ix
    | none => false
  gd := false
/-- methods, properties, .. show nothing -/
def Inf.spB : Bool := (I.mth.all fun q => !I.C.sp q.2.2.1) && (I.prp.all fun q => !I.C.sp q.2.2.1) && (I.ini.all fun q => !I.C.sp q.2) && (I.cm.all fun q => !I.C.sp q.2.2)
def Inf.chkB : Bool := I.fns.all fun i => defB I.C (I.sp.elem i.ix) i
instance : Inhabited FuncData := ⟨PySem.W.fnOf default default default default default .none .none .none .none none .none .none⟩
def Inf.G (K : PySem.W.Frag) : Glob where
  ca := I.ca
  T := I.T
  F := I.F
  fa := I.fa
  fd := fun f => match K.lookup (I.fa f) with
    | some ⟨_, _, .func fd, _⟩ => fd
    | _ => default
  ps := fun f => match I.fns.get f with
    | some i => i.ps
    | none => []
end Fc
set_option Elab.async false
set_option linter.all false
set_option maxHeartbeats 4000000
set_option maxRecDepth 100000
/-! .. and what it gives. -/
namespace Fc
open PySem PySem.Spec PyProof.Rows L2
theorem rvB_ref {K : PySem.W.Frag} {d : D} {a : Addr} (h : rvB K d (.ref a) = true) : ∀ ca ψ W H, RV K ca ψ W H d (.ref a) := by
  obtain ⟨v, r1, r2⟩ := rvB_ok h
  have : v = .ref a := by
    cases v with
    | ref b =>
      have : Value.ref a = Value.ref b := r1
      cases this
      rfl
    | int i => obtain ⟨t, z⟩ := r1; cases z
    | str i => obtain ⟨t, z⟩ := r1; cases z
    | byt i => obtain ⟨t, z⟩ := r1; cases z
    | flt i => obtain ⟨t, z⟩ := r1; cases z
    | _ => cases r1
  subst this
  exact r2
/-- defaults that fill up -/
def MkP (i : FnI) (dds : List D) : Prop := (dds = [] ∧ i.dfl = []) ∨ ∃ n j, i.dfl ≠ [] ∧ n + (i.dfl.length - j) = i.ps.length ∧ dds.length = (i.dfl.drop j).length ∧
  (∀ (T : Addr) (kV doc pm : Value) (an : Option Addr) (cdv ct : Value) (us its : List Value), us.length = n → its.length = i.dfl.length →
    ∃ k, bindArgs (PySem.W.fnOf i.name i.qual (defArgs i.st) (defBody i.st) (defScope i.st) (.ref T) kV doc pm an cdv ct) ⟨us, []⟩ = seqItems? (.ref T) >>= k ∧ k (some its.toArray) = pure (i.ps.zip (us ++ its.drop j))) ∧
  ∀ K, (dds.zip (i.dfl.drop j)).all (dfB K) = (dds.zip (i.dfl.drop (i.dfl.length - dds.length))).all (dfB K)
def KwP (i : FnI) (ks : List Str) : Prop := i.dfl = [] ∧ ∀ (kV doc pm : Value) (an : Option Addr) (cdv ct : Value) (us ws : List Value), (us ++ sw2 ws).length = i.ps.length →
  bindArgs (PySem.W.fnOf i.name i.qual (defArgs i.st) (defBody i.st) (defScope i.st) .none kV doc pm an cdv ct) ⟨us, ks.zip ws⟩ = pure (i.ps.zip (us ++ sw2 ws))
theorem sw2_vals {zs : List V} {ws : List Value} (h : Vals zs ws) : Vals (sw2 zs) (sw2 ws) := by
  cases h with
  | nil => exact .nil
  | cons h1 r =>
    cases r with
    | nil => exact .cons h1 .nil
    | cons h2 r =>
      cases r with
      | nil => exact .cons h2 (.cons h1 .nil)
      | cons h3 r => exact .cons h1 (.cons h2 (.cons h3 r))
section
variable {I : Inf} {K : PySem.W.Frag} {w : World} {h : Heap} {mg : Str → Option Value}
theorem Inf.funD (c : I.obs K = I.valF w) {f : Nat} {i : FnI} (e : I.fns.get f = some i) : ∃ fd, FunD K i.name i.qual (defArgs i.st) (defBody i.st) (defScope i.st) (i.dfl.map (He.Dv.v K)) [] i.ad fd ∧ (I.G K).fd f = fd ∧ (I.G K).fa f = i.ad ∧ (I.G K).ps f = i.ps ∧ I.T.fn f = some i.d := by
  have c1 : I.okB K = true := congrArg (·.1) c
  have c2 : I.fnv K = I.val := congrArg (·.2.1) c
  have a1 : i.A.ok K = true := by
    unfold Inf.okB at c1
    simp only [Bool.and_eq_true] at c1
    exact Tr.all_ok (p := fun i => i.A.ok K) c1.1.1.2 e
  have a2 : He5.fnA K i.ad = i.A.val := by
    have h1 : (I.fnv K).get f = some (He5.fnA K i.ad) := by
      unfold Inf.fnv
      rw [Tr.map_get, e]
      rfl
    rw [c2] at h1
    unfold Inf.val at h1
    rw [Tr.map_get, e] at h1
    exact (Option.some.inj h1).symm
  obtain ⟨fd, F⟩ := He5.DefA.funD (d := i.A) a2 a1
  have hfa : I.fa f = i.ad := by unfold Inf.fa; rw [e]
  refine ⟨fd, F, ?_, hfa, ?_, ?_⟩
  · obtain ⟨oc, od, dV, kV, doc, pm, an, cdv, ct, osl, hfd, lk, _⟩ := F.ex
    show (match K.lookup (I.fa f) with
      | some ⟨_, _, .func fd, _⟩ => fd
      | _ => default) = fd
    rw [hfa]
    have lk' : K.lookup i.ad = some ⟨oc, od, .func fd, osl⟩ := lk
    rw [lk']
  · show (match I.fns.get f with
      | some i => i.ps
      | none => []) = i.ps
    rw [e]
  · show (I.fns.map (·.d)).get f = _
    rw [Tr.map_get, e]
    rfl
theorem fn_inv {f : Nat} {d : Fd} (e : I.T.fn f = some d) : ∃ i, I.fns.get f = some i ∧ i.d = d := by
  have e' : (I.fns.map (·.d)).get f = some d := e
  rw [Tr.map_get] at e'
  cases q : I.fns.get f with
  | none => rw [q] at e'; cases e'
  | some i =>
    rw [q] at e'
    exact ⟨i, rfl, Option.some.inj e'⟩
theorem isSome_ex {α : Type} {o : Option α} (h : o.isSome = true) : ∃ x, o = some x := Option.isSome_iff_exists.mp h
theorem Inf.bind (c : I.obs K = I.valF w) {f : Nat} {i : FnI} (e : I.fns.get f = some i) : Binds K ((I.G K).fd f) ((I.G K).ps f) [] := by
  obtain ⟨fd, F, q1, _, q3, _⟩ := Inf.funD c e
  rw [q1, q3]
  have hb := i.hb
  cases hd : i.dfl with
  | nil =>
    rw [hd] at F hb
    exact F.bindsN fun kV doc pm an cdv ct us hl => hb kV doc pm an cdv ct us hl
  | cons d ds =>
    rw [hd] at F hb
    obtain ⟨us, v1, v2⟩ := F.binds1 (ps := i.ps) i.ps.length (d :: ds).length (by simp) (by simp) fun T kV doc pm an cdv ct us its h1 h2 => by
      have h2' : its.length = (d :: ds).length := by rw [h2, List.length_map]
      obtain ⟨k, k1, k2⟩ := hb T kV doc pm an cdv ct us its h1 h2'
      refine ⟨k, k1, ?_⟩
      rw [k2, ← h2', List.drop_length, List.append_nil]
      rfl
    rw [show (List.drop (d :: ds).length ((d :: ds).map (He.Dv.v K))) = [] by rw [← List.length_map (f := He.Dv.v K), List.drop_length]] at v1
    cases v1
    exact v2
/-- where the classes stand -/
theorem gl_inv {x : Str} {g : GN} (e : I.C.gl x = some g) : ∃ l ∈ I.gt, (x, g) ∈ l.2 := by
  have e' : (match find1 x.cps.size I.gt with
    | some l => gLook x l
    | none => none) = some g := e
  cases q : find1 x.cps.size I.gt with
  | none => rw [q] at e'; cases e'
  | some l =>
    rw [q] at e'
    exact ⟨_, find1_mem q, gLook_mem e'⟩
theorem find_lit {P : Params} {s : Str} : ∀ {l : List DictEntry} {ks : List Str}, l.map He.keyOf = He.keysIn P ks → s ∉ ks → l.find? (·.key.isStr s) = none ∧ l.any (·.refKey) = false
  | [], _, _, _ => ⟨rfl, rfl⟩
  | e :: r, [], h, _ => by cases h
  | e :: r, k :: ks, h, hs => by
    have h1 : He.keyOf e :: r.map He.keyOf = some (k, PyData.keyHash P k) :: He.keysIn P ks := h
    injection h1 with h2 h3
    obtain ⟨i1, i2⟩ := find_lit h3 fun z => hs (List.mem_cons_of_mem _ z)
    unfold He.keyOf at h2
    split at h2
    · rename_i x t q
      have h4 := Option.some.inj h2
      obtain ⟨h5, h6⟩ := Prod.mk.inj h4
      subst h5
      have hne : e.key.isStr s = false := by
        rw [q]
        show (x == s) = false
        cases z : (x == s) with
        | false => rfl
        | true => exact absurd (by rw [eq_of_beq z]; exact List.mem_cons_self) hs
      refine ⟨?_, ?_⟩
      · rw [List.find?_cons, hne]
        exact i1
      · rw [List.any_cons, i2]
        unfold DictEntry.refKey
        rw [q]
        rfl
    · cases h2
theorem find_in {P : Params} {s : Str} : ∀ {l : List DictEntry} {ks : List Str}, l.map He.keyOf = He.keysIn P ks → s ∈ ks → ∃ e, l.find? (·.key.isStr s) = some e
  | [], [], _, hs => by cases hs
  | [], _ :: _, h, _ => by cases h
  | e :: r, [], h, _ => by cases h
  | e :: r, k :: ks, h, hs => by
    have h1 : He.keyOf e :: r.map He.keyOf = some (k, PyData.keyHash P k) :: He.keysIn P ks := h
    injection h1 with h2 h3
    rw [List.find?_cons]
    cases z : e.key.isStr s with
    | true => exact ⟨e, rfl⟩
    | false =>
      refine find_in h3 ?_
      rcases List.mem_cons.mp hs with q | q
      · exfalso
        unfold He.keyOf at h2
        split at h2
        · rename_i x t q2
          have h4 := Option.some.inj h2
          obtain ⟨h5, _⟩ := Prod.mk.inj h4
          rw [q2] at z
          have z' : (x == s) = false := z
          rw [h5, q] at z'
          simp at z'
        · cases h2
      · exact q
theorem valK_none {s : Str} : ∀ {ps : List (Key × D)}, s ∉ (ps.filterMap fun p => strKey p.1) → valK ps (.inr s) = none
  | [], _ => rfl
  | (k, d) :: r, h => by
    unfold valK
    cases k with
    | inl i =>
      rw [if_neg (by simp)]
      exact valK_none fun z => h (by rw [List.filterMap_cons]; exact z)
    | inr t =>
      have h' : s ∉ t :: (r.filterMap fun p => strKey p.1) := h
      rw [List.mem_cons, not_or] at h'
      rw [if_neg (fun z => h'.1 (Sum.inr.inj z).symm)]
      exact valK_none h'.2
theorem valK_some {s : Str} : ∀ {ps : List (Key × D)}, s ∈ (ps.filterMap fun p => strKey p.1) → ∃ d, valK ps (.inr s) = some d ∧ (Sum.inr s, d) ∈ ps
  | [], h => by cases h
  | (k, d) :: r, h => by
    unfold valK
    cases k with
    | inl i =>
      rw [if_neg (by simp)]
      obtain ⟨d', h1, h2⟩ := valK_some (ps := r) (by rw [List.filterMap_cons] at h; exact h)
      exact ⟨d', h1, List.mem_cons_of_mem _ h2⟩
    | inr t =>
      have h' : s ∈ t :: (r.filterMap fun p => strKey p.1) := h
      by_cases z : t = s
      · subst z
        rw [if_pos rfl]
        exact ⟨d, rfl, List.mem_cons_self⟩
      · rw [if_neg (fun q => z (Sum.inr.inj q))]
        rcases List.mem_cons.mp h' with q | q
        · exact absurd q.symm z
        · obtain ⟨d', h1, h2⟩ := valK_some q
          exact ⟨d', h1, List.mem_cons_of_mem _ h2⟩
theorem Inf.dic (X : K.In h) (G : h.Ns mainGlobals mg) (c : I.obs K = I.valF w) {x : Str} {ps : List (Key × D)} (e : I.C.gl x = some (.dic ps)) :
    ∃ d en n, mg x = some (.ref d) ∧ KDict K w d en n ∧ ∀ s : Str, ∃ r, PySem.W.nsIn K d s = some r ∧ ((r = none ∧ valK ps (.inr s) = none) ∨ ∃ u v dd, r = some u ∧ RelV v u ∧ valK ps (.inr s) = some dd ∧ ∀ ψ W H, RV K (I.G K).ca ψ W H dd v) := by
  have c1 : I.okB K = true := congrArg (·.1) c
  have c3 : (I.dics.map fun q => He.dicW K (I.da q.1)) = I.dics.map fun q => some (He.keysIn w.params (q.2.filterMap fun p => strKey p.1)) := congrArg (·.2.2) c
  unfold Inf.okB at c1
  simp only [Bool.and_eq_true] at c1
  obtain ⟨⟨⟨⟨⟨⟨⟨⟨⟨⟨c01, c02⟩, c03⟩, c04⟩, c05⟩, c06⟩, c07⟩, c08⟩, c09⟩, c10⟩, hdf⟩ := c1
  obtain ⟨l, hl, hm⟩ := gl_inv e
  have hin : (x, ps) ∈ I.dics := List.mem_flatMap.mpr ⟨l, hl, List.mem_filterMap.mpr ⟨(x, .dic ps), hm, rfl⟩⟩
  have g1 : gnB I K (x, .dic ps) = true := List.all_eq_true.mp (List.all_eq_true.mp c01 l hl) _ hm
  have g2 : PySem.W.nsIn K mainGlobals x = some (some (.ref (I.da x))) := He.eqO_ok g1
  have g3 : He.dicW K (I.da x) = some (He.keysIn w.params (ps.filterMap fun p => strKey p.1)) := by
    have := List.map_eq_map_iff.mp c3 (x, ps) hin
    exact this
  have g4 : dicB I K (x, ps) = true := List.all_eq_true.mp c10 _ hin
  obtain ⟨en, n, KD⟩ := He.dicW_ok g3
  refine ⟨I.da x, en, n, PySem.W.mg_of X G g2, KD, fun s => ?_⟩
  have hk : en.toList.map He.keyOf = He.keysIn w.params (ps.filterMap fun p => strKey p.1) := by
    unfold He.dicW at g3
    rw [KD.at_] at g3
    dsimp only at g3
    split at g3
    · exact Option.some.inj g3
    · cases g3
  have hns : PySem.W.nsIn K (I.da x) s = (match en.toList.find? (·.key.isStr s) with
      | some e => some (some e.val)
      | none => if en.toList.any (·.refKey) then none else some none) := by
    unfold PySem.W.nsIn
    rw [KD.at_]
    rfl
  by_cases hs : s ∈ (ps.filterMap fun p => strKey p.1)
  · obtain ⟨en1, f1⟩ := find_in hk hs
    obtain ⟨d, v1, v2⟩ := valK_some hs
    have g5 := List.all_eq_true.mp g4 _ v2
    rw [f1] at hns
    have hns' : PySem.W.nsIn K (I.da x) s = some (some en1.val) := hns
    have g6 : (match PySem.W.nsIn K (I.da x) s with
      | some (some u) => rvB K d u
      | _ => false) = true := g5
    rw [hns'] at g6
    obtain ⟨v, r1, r2⟩ := rvB_ok (show rvB K d en1.val = true from g6)
    exact ⟨_, hns', .inr ⟨_, v, d, rfl, r1, v1, fun ψ W H => r2 _ ψ W H⟩⟩
  · obtain ⟨f1, f2⟩ := find_lit hk hs
    rw [f1, f2] at hns
    exact ⟨_, hns, .inl ⟨rfl, valK_none hs⟩⟩
theorem kit_ty {k : Ty} {d : D} {t n : String} (ht : tyD I.ca d = some (.type t)) (hn : tyN k = some n) : (t == n || (t == "bool" && n == "int")) = isD k d ∧ t ∈ tyNames ∧ n ∈ (["int", "bool", "str", "tuple", "list"] : List String) := by
  cases k with
  | cls c => cases hn
  | _ =>
    cases hn
    cases d <;> first | cases ht <;> exact ⟨by first | rfl | simp [isD], by decide, by decide⟩
/-- the written part of a law's program -/
theorem Inf.sok (X : K.In h) (G : h.Ns mainGlobals mg) (c : I.obs K = I.valF w)
    (hmk : ∀ q ∈ I.mks, ∀ i, I.fns.get q.2.1 = some i → MkP i q.2.2) (hkw : ∀ q ∈ I.kw, ∃ i, I.fns.get q.1 = some i ∧ KwP i q.2) (hsp : I.spB = true) : SOk I.C (I.G K) K w mg := by
  have c1 : I.okB K = true := congrArg (·.1) c
  unfold Inf.okB at c1
  simp only [Bool.and_eq_true] at c1
  obtain ⟨⟨⟨⟨⟨⟨⟨⟨⟨⟨c01, c02⟩, c03⟩, c04⟩, c05⟩, c06⟩, c07⟩, c08⟩, c09⟩, c10⟩, hdf⟩ := c1
  have gn : ∀ {x g}, I.C.gl x = some g → gnB I K (x, g) = true := fun {x g} e => by
    obtain ⟨l, hl, hm⟩ := gl_inv e
    exact List.all_eq_true.mp (List.all_eq_true.mp c01 l hl) _ hm
  have keep : ∀ {f i}, I.fns.get f = some i → PySem.W.keepIn K (.ref (I.fa f)) = true := fun {f i} e => by
    obtain ⟨fd, F, _, q2, _⟩ := Inf.funD c e
    have q2' : I.fa f = i.ad := q2
    rw [q2']
    exact F.kp
  have fnx : ∀ {f}, (I.fns.get f).isSome = true → ∃ d, (I.G K).T.fn f = some d := fun {f} e => by
    obtain ⟨i, hi⟩ := isSome_ex e
    obtain ⟨_, _, _, _, _, q⟩ := Inf.funD c hi
    exact ⟨_, q⟩
  have cls : ∀ {cc}, (find1 cc I.cs).isSome = true → clsB I K (cc, I.ca cc) = true := fun {cc} e => by
    obtain ⟨a, ha⟩ := isSome_ex e
    have := List.all_eq_true.mp c04 _ (find1_mem ha)
    have hca : I.ca cc = a := by unfold Inf.ca; rw [ha]; rfl
    rw [hca]
    exact this
  have clx : ∀ {cc}, (find1 cc I.cs).isSome = true → ClsI K (I.ca cc) ∧ (∀ f ∈ I.fl, NoAttr K (I.ca cc) f) ∧ (∀ t ∈ tyNames, PySem.W.kitOne K (.type t) (.ref (I.ca cc)) = some false) ∧ ∀ b ∈ I.cs, PySem.W.kitOne K (.ref b.2) (.ref (I.ca cc)) = some (b.1 == cc) := fun {cc} e => by
    have h := cls e
    unfold clsB at h
    simp only [Bool.and_eq_true, decide_eq_true_eq] at h
    obtain ⟨⟨⟨⟨⟨⟨⟨⟨⟨⟨⟨h1, h2⟩, h3⟩, h4⟩, h5⟩, h6⟩, h7⟩, h8⟩, h9⟩, h10⟩, h11⟩, h12⟩ := h
    exact ⟨⟨⟨h1, h2, h3, He.eqO_ok h4⟩, He.eqO_ok h5, He.eqO_ok h6, h7, h8⟩, fun f hf => He.eqO_ok (List.all_eq_true.mp h9 f hf), fun t ht => of_decide_eq_true (List.all_eq_true.mp h10 t ht), fun b hb => of_decide_eq_true (List.all_eq_true.mp h11 b hb)⟩
  have fnv : ∀ {g f}, decide (g = I.fa f) = true → g = I.fa f := fun h => of_decide_eq_true h
  refine {
    fn := fun x f e => ?_
    cst := fun x d e => ?_
    dic := fun x ps e => Inf.dic X G c e
    cls := fun x cc e => ?_
    blt := fun n hn => ?_
    kit := fun k n d u hn hu hk => ?_
    bind := fun f d e => ?_
    mks := fun cc dds e => ?_
    mth := fun cc m f md e => ?_
    prp := fun cc p f e => ?_
    cl := fun cc e => (clx e).1
    cm := fun cc m f e => ?_
    kw := fun f ks e => ?_
    fl := fun cc f e hf => ?_
    spm := fun cc m f md e => ?_
    spp := fun cc m f e => ?_
    spi := fun cc f e => ?_
    spc := fun cc m f e => ?_ }
  · have h1 := gn e
    have h2 : (He.eqO (PySem.W.nsIn K mainGlobals x) (some (some (.ref (I.fa f)))) && (I.fns.get f).isSome) = true := h1
    rw [Bool.and_eq_true] at h2
    obtain ⟨i, hi⟩ := isSome_ex h2.2
    exact ⟨PySem.W.mg_of X G (He.eqO_ok h2.1), keep hi, fnx h2.2⟩
  · have h1 : (match PySem.W.nsIn K mainGlobals x with
      | some (some u) => rvB K d u
      | _ => false) = true := gn e
    cases q : PySem.W.nsIn K mainGlobals x with
    | none => rw [q] at h1; cases h1
    | some r =>
      rw [q] at h1
      cases r with
      | none => cases h1
      | some u =>
        obtain ⟨v, r1, r2⟩ := rvB_ok (show rvB K d u = true from h1)
        exact ⟨v, u, PySem.W.mg_of X G q, r1, fun ψ W H => r2 _ ψ W H⟩
  · have h1 : (He.eqO (PySem.W.nsIn K mainGlobals x) (some (some (.ref (I.ca cc)))) && (find1 cc I.cs).isSome) = true := gn e
    rw [Bool.and_eq_true] at h1
    obtain ⟨_, _, k3, k4⟩ := clx h1.2
    refine ⟨PySem.W.mg_of X G (He.eqO_ok h1.1), fun d u hu hk => ?_⟩
    have hu' : tyD I.ca d = some u := hu
    cases d with
    | ins c2 fs =>
      cases hu'
      have hk' : (true && true && (find1 c2 I.cs).isSome) = true ∨ True := .inr trivial
      have hkc : (find1 c2 I.cs).isSome = true := by
        have : ((find1 cc I.cs).isSome && (find1 c2 I.cs).isSome) = true := hk
        rw [Bool.and_eq_true] at this
        exact this.2
      obtain ⟨a, ha⟩ := isSome_ex hkc
      have hca : I.ca c2 = a := by unfold Inf.ca; rw [ha]; rfl
      have := k4 _ (find1_mem ha)
      rw [hca]
      show PySem.W.kitOne K (.ref a) (.ref (I.ca cc)) = some (cc == c2)
      rw [this]
      show some (c2 == cc) = some (cc == c2)
      congr 1
      exact Bool.eq_iff_iff.mpr ⟨fun z => by rw [eq_of_beq (show (c2 == cc) = true from z)]; simp, fun z => by rw [eq_of_beq z]; simp⟩
    | oid n => cases hu'
    | fls n => cases hu'
    | _ =>
      cases hu'
      exact k3 _ (by decide)
  · exact PySem.W.mg_none_of X G (He.eqO_ok (List.all_eq_true.mp c02 n hn))
  · have hu' : tyD I.ca d = some u := hu
    cases u with
    | type t =>
      obtain ⟨k1, k2, k3⟩ := kit_ty (I := I) hu' hn
      have h1 := List.all_eq_true.mp c03 n k3
      rw [Bool.and_eq_true] at h1
      have h2 := of_decide_eq_true (List.all_eq_true.mp h1.1 t k2)
      rw [h2, k1]
    | ref a =>
      cases d with
      | ins c2 fs =>
        cases hu'
        have hkc : (find1 c2 I.cs).isSome = true := by
          have : (_ && (find1 c2 I.cs).isSome) = true := hk
          rw [Bool.and_eq_true] at this
          exact this.2
        obtain ⟨a, ha⟩ := isSome_ex hkc
        have hca : I.ca c2 = a := by unfold Inf.ca; rw [ha]; rfl
        have k3 : n ∈ (["int", "bool", "str", "tuple", "list"] : List String) := by
          cases k <;> first | (cases hn; decide) | cases hn
        have h1 := List.all_eq_true.mp c03 n k3
        rw [Bool.and_eq_true] at h1
        have h2 := of_decide_eq_true (List.all_eq_true.mp h1.2 _ (find1_mem ha))
        rw [hca, h2]
        cases k <;> first | rfl | cases hn
      | _ => cases hu'
    | _ => cases d <;> cases hu'
  · obtain ⟨i, hi, _⟩ := fn_inv (I := I) e
    exact Inf.bind c hi
  · have e' : (I.mks.any fun m => m.1 == cc && beqDs m.2.2 dds) = true := e
    obtain ⟨m, hm, h1⟩ := List.any_eq_true.mp e'
    rw [Bool.and_eq_true] at h1
    have hmc : m.1 = cc := eq_of_beq h1.1
    have hmd : m.2.2 = dds := beqDs_ok h1.2
    have h2 : mkB I K m = true := List.all_eq_true.mp c08 m hm
    unfold mkB at h2
    simp only [Bool.and_eq_true] at h2
    obtain ⟨⟨⟨⟨⟨k1, k2⟩, k3⟩, k4⟩, k5⟩, k6⟩ := h2
    obtain ⟨i, hi⟩ := isSome_ex k6
    obtain ⟨fd, F, q1, q2, q3, q4⟩ := Inf.funD c hi
    have hini : find1 m.1 I.ini = some m.2.1 := by
      split at k5
      · rename_i f hf
        rw [hf, eq_of_beq k5]
      · cases k5
    rw [hmc] at hini k1 k2 k4
    have hMk : Mk K ((I.G K).ca cc) ((I.G K).fa m.2.1) := ⟨k1, He.eqO_ok k2, k3, k4⟩
    have hd1 := List.all_eq_true.mp hdf m hm
    rw [hi] at hd1
    dsimp only at hd1
    rcases hmk m hm i hi with ⟨z1, z2⟩ | ⟨n, j, z1, z2, z3, z4, z5⟩
    · refine ⟨m.2.1, [], [], hini, ⟨_, q4⟩, fun ψ W H => ?_, hMk, Inf.bind c hi, .nil⟩
      rw [← hmd, z1]
      exact .nil
    · rw [← z5 K] at hd1
      obtain ⟨ds, v1, v2⟩ := F.binds1 (ps := i.ps) n j (by simpa using z1) (by rw [List.length_map]; exact z2) fun T kV doc pm an cdv ct us its h1 h2 => z4 T kV doc pm an cdv ct us its h1 (by rw [h2, List.length_map])
      refine ⟨m.2.1, (i.dfl.map (He.Dv.v K)).drop j, ds, hini, ⟨_, q4⟩, fun ψ W H => ?_, hMk, by rw [q1, q3]; exact v2, v1⟩
      rw [← hmd, ← List.map_drop]
      have gen : ∀ (as : List D) (bs : List He.Dv), as.length = bs.length → (as.zip bs).all (dfB K) = true → RVs K (I.G K).ca ψ W H as (bs.map (He.Dv.v K)) := fun as => by
        induction as with
        | nil =>
          intro bs hl _
          cases bs with
          | nil => exact .nil
          | cons _ _ => cases hl
        | cons a as ih =>
          intro bs hl hh
          cases bs with
          | nil => cases hl
          | cons b bs =>
            rw [List.zip_cons_cons, List.all_cons, Bool.and_eq_true] at hh
            have ih' := ih bs (by simpa using hl) hh.2
            cases b with
            | adr q => exact .cons (rvB_ref (show rvB K a (.ref (q K)) = true from hh.1) _ ψ W H) ih'
            | _ => cases hh.1
      exact gen _ _ z3 hd1
  · have e' : find2 cc m I.mth = some (f, md) := e
    have h1 : mthB I K (cc, m, f, md) = true := List.all_eq_true.mp c06 _ (find2_mem e')
    unfold mthB at h1
    simp only [Bool.and_eq_true] at h1
    obtain ⟨⟨⟨k1, k2⟩, k3⟩, k4⟩ := h1
    obtain ⟨i, hi⟩ := isSome_ex k4
    exact ⟨(clx k1).1.cl, ⟨He.eqO_ok k2, k3, keep hi⟩, fnx k4⟩
  · have e' : (find2 cc p I.prp).map (·.1) = some f := e
    obtain ⟨⟨f', pa⟩, h0, rfl⟩ := Option.map_eq_some_iff.mp e'
    have h1 : prpB I K (cc, p, f', pa) = true := List.all_eq_true.mp c05 _ (find2_mem h0)
    unfold prpB at h1
    simp only [Bool.and_eq_true, decide_eq_true_eq] at h1
    obtain ⟨⟨⟨⟨⟨k1, k2⟩, k3⟩, k4⟩, k5⟩, k6⟩ := h1
    have k5' : ∃ rest, PySem.W.recIn K pa "property" = some (.ref (I.fa f') :: rest) := by
      split at k5
      · rename_i g rest hr
        have : g = I.fa f' := of_decide_eq_true k5
        subst this
        exact ⟨rest, hr⟩
      · cases k5
    exact ⟨pa, (clx k1).1.cl, ⟨He.eqO_ok k2, He.eqO_ok k3, k4, k5'⟩, fnx k6⟩
  · have e' : find2 cc m I.cm = some f := e
    have h1 : cmB I K (cc, m, f) = true := List.all_eq_true.mp c07 _ (find2_mem e')
    unfold cmB at h1
    simp only [Bool.and_eq_true, decide_eq_true_eq] at h1
    obtain ⟨⟨⟨⟨⟨k1, k2⟩, k3⟩, k4⟩, k5⟩, k6⟩ := h1
    obtain ⟨d, hd⟩ := fnx k6
    have M := He5.cmet_of (m := m) k3 (by rw [k4]; exact k5)
    rw [k4] at M
    exact ⟨_, _, d, ⟨k1, He.eqO_ok k2⟩, M, hd⟩
  · have e' : (I.kw.any fun q => q.1 == f && q.2 == ks) = true := e
    obtain ⟨q, hq, h1⟩ := List.any_eq_true.mp e'
    rw [Bool.and_eq_true] at h1
    obtain ⟨i, hi, hd, hk⟩ := hkw q hq
    have e1 : q.1 = f := eq_of_beq h1.1
    have e2 : q.2 = ks := eq_of_beq h1.2
    rw [e1] at hi
    rw [e2] at hk
    obtain ⟨fd, F, q1, q2, q3, q4⟩ := Inf.funD c hi
    rw [q1, q3]
    rw [hd] at F
    obtain ⟨oc, od, dV, kV, doc, pm, an, cdv, ct, osl, hfd, lk, hcd, hD, hK⟩ := F.ex
    rcases hD with ⟨_, hdV⟩ | ⟨z, _⟩
    · subst hdV
      refine ⟨fun s us ws _ hl => .of_eq ?_, fun r1 r2 => r1.append (sw2_vals r2)⟩
      rw [hfd]
      exact hk kV doc pm an cdv ct us ws hl
    · exact absurd rfl z
  · have hf' : (I.fl.any (· == f)) = true := hf
    obtain ⟨g, hg, h1⟩ := List.any_eq_true.mp hf'
    have : g = f := eq_of_beq h1
    subst this
    exact (clx e).2.1 g hg
  all_goals
    unfold Inf.spB at hsp
    simp only [Bool.and_eq_true] at hsp
  · have e' : find2 cc m I.mth = some (f, md) := e
    simpa using List.all_eq_true.mp hsp.1.1.1 _ (find2_mem e')
  · have e' : (find2 cc m I.prp).map (·.1) = some f := e
    obtain ⟨⟨f', pa⟩, h0, rfl⟩ := Option.map_eq_some_iff.mp e'
    simpa using List.all_eq_true.mp hsp.1.1.2 _ (find2_mem h0)
  · have e' : find1 cc I.ini = some f := e
    simpa using List.all_eq_true.mp hsp.1.2 _ (find1_mem e')
  · have e' : find2 cc m I.cm = some f := e
    simpa using List.all_eq_true.mp hsp.2 _ (find2_mem e')
theorem Inf.defOk (c : I.obs K = I.valF w) (hd : I.chkB = true) : ∀ f d, I.T.fn f = some d → DefOk I.C (I.G K) K f d := fun f d e => by
  obtain ⟨i, hi, hid⟩ := fn_inv e
  subst hid
  obtain ⟨fd, F, q1, q2, q3, q4⟩ := Inf.funD c hi
  have hd' : (I.fns.all fun i => defB I.C (I.sp.elem i.ix) i) = true := hd
  have h1 := Tr.all_ok (p := fun i => defB I.C (I.sp.elem i.ix) i) hd' hi
  have hsp : I.C.sp f = I.sp.elem i.ix := by
    show (match I.fns.get f with
      | some i => I.sp.elem i.ix
      | none => false) = _
    rw [hi]
  unfold defB at h1
  simp only [Bool.and_eq_true, decide_eq_true_eq] at h1
  obtain ⟨⟨⟨h2, h3⟩, h4⟩, h5⟩ := h1
  obtain ⟨oc, od, dV, kV, doc, pm, an, cdv, ct, osl, hfd, lk, hcd, _, _⟩ := F.ex
  have hS := scB_ok (k := i.d.np) h2 h4
  refine ⟨⟨i.name, i.qual, defArgs i.st, defBody i.st, defScope i.st, dV, kV, doc, pm, an, cdv, ct, oc, od, osl, i.N, ?_, ?_, hcd, ?_, h3, ?_, ?_, hS.nd, ?_⟩⟩
  · rw [q2, lk, hfd]
  · rw [q1, hfd]
  · rw [q3]
    exact hS
  · rw [q3]
    show (i.N.take i.d.np).length = _
    rw [List.length_take, Nat.min_eq_left h2]
  · omega
  · rw [hsp]
    exact h5
end
end Fc
set_option Elab.async false
set_option linter.all false
set_option maxRecDepth 100000
set_option maxHeartbeats 4000000
namespace Fc
namespace K77
open PySem L2
theorem draw1 (cf : Cf) (kc mth prp ini cm) (F : Nat) (m g a : Int) (ha : 0 < a) (ha2 : a < 1073741824) (hg : 0 < g) :
    exs ⟨cf, 2, kc, mth, prp, ini, cm⟩ F f__law_draw.body ([.own (.lst [.int m, .int g]), .dp (.int a), .no, .no], []) = some (.ret (.dp (.int (g % a))), ([.own (.lst [.int m, .int (g / a)]), .dp (.int a), .dp (.int (g % a)), .no], [])) := by
  unfold f__law_draw
  simp [exs, ex, ev, tsv, evB, evP, evs, tst, plOf, view, cmpD, idxD, truthD, L.deep, Ob.deep, atI, L2.ixN, bltD, ha, ha2, hg, asgT, asgs, asgL, setSl, slL, retV, getVar, pure, M.pure]

theorem mulOk_of {i j : Int} {a b : Nat} (h1 : i.natAbs < 2 ^ a) (h2 : j.natAbs < 2 ^ b) (h : a + b ≤ 100000000) : mulOk i j = true := by
  unfold mulOk
  rw [decide_eq_true_eq]
  have e : ∀ {n k : Nat}, n < 2 ^ k → n.log2 ≤ k - 1 := fun {n k} h => by
    by_cases z : n = 0
    · subst z; simp
    · have := (Nat.log2_lt z).mpr h
      omega
  have p1 := e h1
  have p2 := e h2
  by_cases za : a = 0
  · subst za
    have : i.natAbs = 0 := by simpa using h1
    rw [this]
    simp only [Nat.log2_zero]
    omega
  · omega
theorem draw2 (cf : Cf) (kc mth prp ini cm) (F : Nat) (m g a : Int) (ha : 0 < a) (ha2 : a < 1073741824) (hg : ¬ 0 < g) (hm : 0 ≤ m) (hm2 : m < 2147480057) :
    ∃ m' r x : Int, 0 ≤ m' ∧ m' < 2147480057 ∧ 0 ≤ r ∧ r < a ∧ exs ⟨cf, 2, kc, mth, prp, ini, cm⟩ F f__law_draw.body ([.own (.lst [.int m, .int g]), .dp (.int a), .no, .no], []) = some (.ret (.dp (.int r)), ([.own (.lst [.int m', .int g]), .dp (.int a), .no, .dp (.int x)], [])) := by
  unfold f__law_draw
  refine ⟨(m * 40151 + 9103) % 2147480057, ((m * 40151 + 9103) % 2147480057 / 512) % a, (m * 40151 + 9103) % 2147480057, ?_, ?_, ?_, ?_, ?_⟩
  · omega
  · omega
  · exact Int.emod_nonneg _ (by omega)
  · exact Int.emod_lt_of_pos _ ha
  have h1 : mulOk m 40151 = true := mulOk_of (a := 31) (b := 16) (by omega) (by decide) (by decide)
  have h2 : Nat.log2 512 < 9000 := by decide
  have h3 : ¬ a = 0 := by omega
  simp [exs, ex, ev, tsv, evB, evP, evs, tst, plOf, view, cmpD, idxD, truthD, L.deep, Ob.deep, atI, L2.ixN, bltD, ha, ha2, hg, asgT, asgs, asgL, setSl, slL, retV, getVar, pure, M.pure, binD, binI, h1, h2, h3, Int.fmod_eq_emod_of_nonneg _ (show (0 : Int) ≤ 2147480057 by decide), Int.fdiv_eq_ediv_of_nonneg _ (show (0 : Int) ≤ 512 by decide), Int.fmod_eq_emod_of_nonneg _ (Int.le_of_lt ha)]

def sp_body : Sms := (.cons (.asg (.nm 2) (.bin .mod (.blt .int (.cons (.bin .add (.bin .add (.bin .mul (.var 2) (.cst (.int (35393)))) (.var 3)) (.cst (.int (607)))) .nil)) (.cst (.int (2147480057))))) .nil)
theorem sp_eq : f__law_spring = ⟨2, 5, (.cons (.asg (.nm 2) (.bin .add (.cst (.int (60013))) (.bin .mul (.cst (.int (7411))) (.var 1)))) (.cons (.forr (.nm 3) (.seq (.slc (.var 0) (.cst .non) (.cst (.int (4))))) sp_body) (.cons (.asg (.nm 4) (.ife (.cmp .lt (.var 1) (.len (.var 0))) (.idx (.var 0) (.var 1)) (.cst (.int (0))))) (.cons (.ret (.lst (.cons (.bin .mod (.blt .int (.cons (.bin .add (.bin .mul (.var 2) (.cst (.int (83)))) (.var 4)) .nil)) (.cst (.int (2147480057)))) (.cons (.ife (.cmp .ge (.blt .abs (.cons (.var 4) .nil)) (.bin .pow (.cst (.int (10))) (.cst (.int (18))))) (.blt .abs (.cons (.var 4) .nil)) (.cst (.int (0)))) .nil)))) .nil))))⟩ := rfl
def sAny : Sl → Prop
  | .own _ => False
  | _ => True
theorem spring_loop (cf : Cf) (kc mth prp ini cm) (F : Nat) (a b : Sl) : ∀ (xs : List Int) (mx : Int) (s3 : Sl), sAny s3 → 0 ≤ mx → mx < 2147480057 → ∃ mx' s3', sAny s3' ∧ 0 ≤ mx' ∧ mx' < 2147480057 ∧
    forGo 2 (.nm 3) (exs ⟨cf, 2, kc, mth, prp, ini, cm⟩ F sp_body) (xs.map .int) ([a, b, .dp (.int mx), s3, .no], []) = some (.next, ([a, b, .dp (.int mx'), s3', .no], []))
  | [], mx, s3, h, h1, h2 => ⟨mx, s3, h, h1, h2, rfl⟩
  | x :: xs, mx, s3, h, h1, h2 => by
    obtain ⟨mx', s3', q1, q2, q3, q4⟩ := spring_loop cf kc mth prp ini cm F a b xs ((mx * 35393 + x + 607) % 2147480057) (.dp (.int x)) trivial (by omega) (by omega)
    refine ⟨mx', s3', q1, q2, q3, ?_⟩
    have hm : mulOk mx 35393 = true := mulOk_of (a := 31) (b := 16) (by omega) (by decide) (by decide)
    rw [← q4]
    rw [List.map_cons]
    unfold sp_body
    cases s3 with
    | own o => cases h
    | no => simp [forGo, bindT, setSl, exs, ex, ev, tsv, evB, evP, evs, tst, plOf, view, L.deep, Ob.deep, bltD, asgT, asgs, asgL, slL, getVar, pure, M.pure, binD, binI, hm, Int.fmod_eq_emod_of_nonneg _ (show (0 : Int) ≤ 2147480057 by decide)]
    | dp d => simp [forGo, bindT, setSl, exs, ex, ev, tsv, evB, evP, evs, tst, plOf, view, L.deep, Ob.deep, bltD, asgT, asgs, asgL, slL, getVar, pure, M.pure, binD, binI, hm, Int.fmod_eq_emod_of_nonneg _ (show (0 : Int) ≤ 2147480057 by decide)]

theorem cut_map (ns : List Int) (lo hi : Option Int) : cutL (ns.map D.int) lo hi = (cutL ns lo hi).map D.int := by
  unfold cutL
  rw [List.length_map, ← List.map_drop, ← List.map_take]
theorem at_map {ns : List Int} {k : Nat} (h : k < ns.length) : atI (ns.map D.int) (k : Int) = some (.int ns[k]) := by
  unfold atI L2.ixN
  rw [List.length_map, if_pos (by omega), if_pos (by omega)]
  simp [h]
theorem spring (cf : Cf) (kc mth prp ini cm) (F : Nat) (ns : List Int) (k : Nat) (hk : k < 3) (hl : ns.length ≤ 63) :
    ∃ m g x y z : _, 0 ≤ m ∧ m < 2147480057 ∧ 0 ≤ g ∧ exs ⟨cf, 2, kc, mth, prp, ini, cm⟩ F f__law_spring.body ([.dp (.fls (ns.map .int)), .dp (.int (k : Int)), .no, .no, .no], []) = some (.ret (.fr (.lst [.int m, .int g])), ([.dp (.fls (ns.map .int)), .dp (.int (k : Int)), x, y, z], [])) := by
  obtain ⟨mx, s3, h1, h2, h3, h4⟩ := spring_loop cf kc mth prp ini cm F (.dp (.fls (ns.map .int))) (.dp (.int (k : Int))) (cutL ns none (some 4)) (60013 + 7411 * (k : Int)) .no trivial (by omega) (by omega)
  have hm1 : mulOk 7411 (k : Int) = true := mulOk_of (a := 13) (b := 2) (by decide) (by omega) (by decide)
  have hm2 : mulOk mx 83 = true := mulOk_of (a := 31) (b := 7) (by omega) (by decide) (by decide)
  have hp : (10 : Int).natAbs < 2 ^ 64 := by decide
  by_cases hlt : k < ns.length
  · have hat := at_map hlt
    generalize ns[k] = own at hat
    refine ⟨(mx * 83 + own) % 2147480057, if (if own < 0 then -own else own) ≥ 1000000000000000000 then (if own < 0 then -own else own) else 0, .dp (.int mx), s3, .dp (.int own), by omega, by omega, by split <;> (try split) <;> omega, ?_⟩
    rw [sp_eq]
    by_cases hb : (1000000000000000000 : Int) ≤ (if own < 0 then -own else own)
    · simp [exs, ex, ev, tsv, evB, evP, evs, evI, tst, plOf, view, L.deep, Ob.deep, bltD, asgT, asgs, asgL, slL, getVar, pure, M.pure, binD, binI, hm1, hm2, slcD, cutT, cut_map, h4, setSl, itemsD, lenD, cmpD, hlt, idxD, truthD, retV, Int.fmod_eq_emod_of_nonneg _ (show (0 : Int) ≤ 2147480057 by decide), sizeLine_eq, hb, hat]
    · simp [exs, ex, ev, tsv, evB, evP, evs, evI, tst, plOf, view, L.deep, Ob.deep, bltD, asgT, asgs, asgL, slL, getVar, pure, M.pure, binD, binI, hm1, hm2, slcD, cutT, cut_map, h4, setSl, itemsD, lenD, cmpD, hlt, idxD, truthD, retV, Int.fmod_eq_emod_of_nonneg _ (show (0 : Int) ≤ 2147480057 by decide), sizeLine_eq, hb, hat]
  · refine ⟨(mx * 83 + 0) % 2147480057, 0, .dp (.int mx), s3, .dp (.int 0), by omega, by omega, by omega, ?_⟩
    rw [sp_eq]
    simp [exs, ex, ev, tsv, evB, evP, evs, evI, tst, plOf, view, L.deep, Ob.deep, bltD, asgT, asgs, asgL, slL, getVar, pure, M.pure, binD, binI, hm1, hm2, slcD, cutT, cut_map, h4, setSl, itemsD, lenD, cmpD, hlt, idxD, truthD, retV, Int.fmod_eq_emod_of_nonneg _ (show (0 : Int) ≤ 2147480057 by decide), sizeLine_eq]

/-! ### calls -/
theorem call_of {T : Tab} {F n f : Nat} {d : Fd} {sls ρ outs : List Sl} {O O' : List Ob} {l : L} (hT : T.fn f = some d) (hl : sls.length = d.np)
    (h : exs ⟨callN T F n, d.np, T.kc, T.mth, T.prp, T.ini, T.cm⟩ F d.body (sls ++ List.replicate (d.nl - d.np) Sl.no, O) = some (Fl.ret l, (ρ, O'))) (ho : ρ.take d.np = outs) : callN T F (n + 1) f sls O = some (l, outs, O') := by
  subst ho
  show (match T.fn f with
    | none => none
    | some d => if sls.length = d.np then (match exs ⟨callN T F n, d.np, T.kc, T.mth, T.prp, T.ini, T.cm⟩ F d.body (sls ++ List.replicate (d.nl - d.np) Sl.no, O) with
      | some (.ret l, (ρ, O')) => some (l, ρ.take d.np, O')
      | some (.next, (ρ, O')) => some (.dp .non, ρ.take d.np, O')
      | _ => none) else none) = _
  rw [hT]
  dsimp only
  rw [if_pos hl, h]
/-- the spring -/
def Spr (m g : Int) : Prop := 0 ≤ m ∧ m < 2147480057 ∧ 0 ≤ g
def spS (m g : Int) : Sl := .own (.lst [.int m, .int g])
theorem draw (n : Nat) {m g a : Int} (h : Spr m g) (ha : 0 < a) (ha2 : a < 1073741824) : ∃ r m' g', 0 ≤ r ∧ r < a ∧ Spr m' g' ∧ callN inf.T 60 (n + 1) 135 [spS m g, .dp (.int a)] [] = some (.dp (.int r), [spS m' g', .dp (.int a)], []) := by
  have hT : inf.T.fn 135 = some f__law_draw := rfl
  by_cases hg : 0 < g
  · refine ⟨g % a, m, g / a, Int.emod_nonneg _ (by omega), Int.emod_lt_of_pos _ ha, ⟨h.1, h.2.1, Int.ediv_nonneg (by omega) (by omega)⟩, ?_⟩
    exact call_of (d := f__law_draw) (ρ := [.own (.lst [.int m, .int (g / a)]), .dp (.int a), .dp (.int (g % a)), .no]) hT rfl (draw1 (callN inf.T 60 n) inf.T.kc inf.T.mth inf.T.prp inf.T.ini inf.T.cm 60 m g a ha ha2 hg) rfl
  · obtain ⟨m', r, x, h1, h2, h3, h4, h5⟩ := draw2 (callN inf.T 60 n) inf.T.kc inf.T.mth inf.T.prp inf.T.ini inf.T.cm 60 m g a ha ha2 hg h.1 h.2.1
    exact ⟨r, m', g, h3, h4, ⟨h1, h2, h.2.2⟩, call_of (d := f__law_draw) hT rfl h5 rfl⟩
theorem springC (n : Nat) (ns : List Int) (k : Nat) (hk : k < 3) (hl : ns.length ≤ 63) : ∃ m g, Spr m g ∧ callN inf.T 60 (n + 1) 134 [.dp (.fls (ns.map .int)), .dp (.int (k : Int))] [] = some (.fr (.lst [.int m, .int g]), [.dp (.fls (ns.map .int)), .dp (.int (k : Int))], []) := by
  have hT : inf.T.fn 134 = some f__law_spring := rfl
  obtain ⟨m, g, x, y, z, h1, h2, h3, h4⟩ := spring (callN inf.T 60 n) inf.T.kc inf.T.mth inf.T.prp inf.T.ini inf.T.cm 60 ns k hk hl
  exact ⟨m, g, ⟨h1, h2, h3⟩, call_of (d := f__law_spring) hT rfl h4 rfl⟩
/-! ### bad parts, values that are no claims -/
def sN : Str := Str.ofString "\n"
def bp : D → List D
  | .str s => [.str (s ++ Str.ofString "\n"), .str (s ++ Str.ofString " q"), .str (s ++ Str.ofString " "), .str (Str.ofString " " ++ s), .non, .int 7, .lst [.str s], .str (s ++ Str.ofString "/0")]
  | .tup xs => [.lst xs, .non, .str (Str.ofString "1/4"), .tup (xs ++ [.int 1]), .tup [.tup xs], .dic [], .tup [.int 2, .int 8], .tup [.int (-1), .int 4]]
  | _ => []
def okPart : D → Prop
  | .str s => s.length ≤ 1000
  | .tup xs => xs.length ≤ 1000
  | _ => False
theorem eight {r : Int} (h1 : 0 ≤ r) (h2 : r < 8) : r = 0 ∨ r = 1 ∨ r = 2 ∨ r = 3 ∨ r = 4 ∨ r = 5 ∨ r = 6 ∨ r = 7 := by omega
theorem bad_part (n : Nat) {m g : Int} (h : Spr m g) {p : D} (hp : okPart p) : ∃ b m' g', b ∈ bp p ∧ Spr m' g' ∧ callN inf.T 60 (n + 2) 137 [spS m g, .dp p] [] = some (.dp b, [spS m' g', .dp p], []) := by
  have hT : inf.T.fn 137 = some f__law_bad_part := rfl
  obtain ⟨r, m', g', h1, h2, h3, h4⟩ := draw n h (a := 8) (by decide) (by decide)
  generalize hcf : callN inf.T 60 (n + 1) = cf at h4
  have e1 : (Str.ofString "\n").length = 1 := by decide +kernel
  have e2 : (Str.ofString " q").length = 2 := by decide +kernel
  have e3 : (Str.ofString " ").length = 1 := by decide +kernel
  have e4 : (Str.ofString "/0").length = 2 := by decide +kernel
  unfold spS at h4
  cases p with
  | str s =>
    have hs : s.length ≤ 1000 := hp
    have a1 : s.length ≤ 16777215 := by omega
    have a2 : s.length ≤ 16777214 := by omega
    have a3 : 1 + s.length ≤ 16777216 := by omega
    refine ⟨(bp (.str s)).getD r.toNat .non, m', g', ?_, h3, ?_⟩
    · rcases eight h1 h2 with q | q | q | q | q | q | q | q <;> subst q <;> simp [bp]
    refine call_of (d := f__law_bad_part) (ρ := [spS m' g', .dp (.str s), .dp (.int r)]) hT rfl ?_ rfl
    rw [hcf]
    rcases eight h1 h2 with q | q | q | q | q | q | q | q <;> subst q
    all_goals
      unfold f__law_bad_part spS
      simp [exs, ex, ev, tsv, evB, evP, evs, evA, evLs, evI, tst, plOf, view, argOf, L.deep, Ob.deep, bltD, asgT, asgs, asgL, slL, getVar, pure, M.pure, binD, binI, callAr, permute, slsOf, slOf, backS, sltsOf, setSl, isK, isD, truthD, retV, idxD, atI, L2.ixN, e1, e2, e3, e4, sizeLine_eq, h4, a1, a2, a3, bp]
  | tup xs =>
    have hs : xs.length ≤ 1000 := hp
    have a1 : xs.length ≤ 16777215 := by omega
    refine ⟨(bp (.tup xs)).getD r.toNat .non, m', g', ?_, h3, ?_⟩
    · rcases eight h1 h2 with q | q | q | q | q | q | q | q <;> subst q <;> simp [bp]
    refine call_of (d := f__law_bad_part) (ρ := [spS m' g', .dp (.tup xs), .dp (.int r)]) hT rfl ?_ rfl
    rw [hcf]
    rcases eight h1 h2 with q | q | q | q | q | q | q | q <;> subst q
    all_goals
      unfold f__law_bad_part spS
      simp [exs, ex, ev, tsv, evB, evP, evs, evA, evLs, evI, tst, plOf, view, argOf, L.deep, Ob.deep, bltD, asgT, asgs, asgL, slL, getVar, pure, M.pure, binD, binI, callAr, permute, slsOf, slOf, backS, sltsOf, setSl, isK, isD, truthD, retV, idxD, atI, L2.ixN, e1, e2, e3, e4, sizeLine_eq, h4, a1, bp]
  | _ => cases hp
/-- values in the place of a claim -/
def bads (ps : List D) : List D :=
  ((List.range ps.length).map fun i => .tup (ps.take i ++ ps.drop (i + 1))) ++ ((List.range ps.length).map fun i => .tup (ps.take (i + 1) ++ [.int 5] ++ ps.drop (i + 1))) ++
  [.lst ps, .non, .tup [], ps.getD 0 .non, .dic [], .tup [.tup ps], .int 7, .str (Str.ofString "all")] ++
  ((List.range ps.length).flatMap fun i => (bp (ps.getD i .non)).map fun b => .tup (ps.take i ++ [b] ++ ps.drop (i + 1)))
theorem no_claim2 (n : Nat) {m g : Int} (h : Spr m g) {p q : D} (okp : okPart p) (okq : okPart q) : ∃ b m' g', b ∈ bads [p, q] ∧ Spr m' g' ∧ callN inf.T 60 (n + 3) 138 [spS m g, .dp (.tup [p, q])] [] = some (.dp b, [spS m' g', .dp (.tup [p, q])], []) := by
  have hT : inf.T.fn 138 = some f__law_no_claim := rfl
  obtain ⟨r, m1, g1, h1, h2, h3, h4⟩ := draw (n + 1) h (a := 8) (by decide) (by decide)
  obtain ⟨k, m2, g2, h5, h6, h7, h8⟩ := draw (n + 1) h3 (a := 2) (by decide) (by decide)
  obtain ⟨j, m3, g3, h9, h10, h11, h12⟩ := draw (n + 1) h7 (a := 8) (by decide) (by decide)
  obtain ⟨b0, ms0, gs0, hb0, hs0, hc0⟩ := bad_part n h7 okp
  obtain ⟨b1, ms1, gs1, hb1, hs1, hc1⟩ := bad_part n h7 okq
  generalize hcf : callN inf.T 60 (n + 1 + 1) = cf at h4 h8 h12 hc0 hc1
  unfold spS at h4 h8 h12 hc0 hc1
  have hk : k = 0 ∨ k = 1 := by omega
  have hr : r = 0 ∨ r = 1 ∨ r = 2 ∨ (r ≠ 0 ∧ r ≠ 1 ∧ r ≠ 2) := by omega
  rcases hr with z | z | z | ⟨r0, r1, r2⟩
  rotate_right
  have r0 : (r == 0) = false := by simpa using r0
  have r1 : (r == 1) = false := by simpa using r1
  have r2 : (r == 2) = false := by simpa using r2
  rotate_left
  · subst z
    rcases hk with z | z <;> subst z
    · refine ⟨.tup [q], m2, g2, by simp [bads, List.range_succ], h7, call_of (d := f__law_no_claim) (ρ := [spS m2 g2, .dp (.tup [p, q]), .dp (.int 0), .dp (.int 0)]) hT rfl ?_ rfl⟩
      rw [hcf]
      unfold f__law_no_claim spS
      simp [exs, ex, ev, tsv, evB, evP, evs, evA, evLs, evI, tst, plOf, view, argOf, L.deep, Ob.deep, bltD, asgT, asgs, asgL, slL, getVar, pure, M.pure, binD, binI, callAr, permute, slsOf, slOf, backS, sltsOf, setSl, isK, isD, truthD, retV, idxD, atI, L2.ixN, sizeLine_eq, lenD, cmpD, eqD, eqF, flatD, slcD, cutT, cutL, HT.sIx, h4, h8]
    · refine ⟨.tup [p], m2, g2, by simp [bads, List.range_succ], h7, call_of (d := f__law_no_claim) (ρ := [spS m2 g2, .dp (.tup [p, q]), .dp (.int 0), .dp (.int 1)]) hT rfl ?_ rfl⟩
      rw [hcf]
      unfold f__law_no_claim spS
      simp [exs, ex, ev, tsv, evB, evP, evs, evA, evLs, evI, tst, plOf, view, argOf, L.deep, Ob.deep, bltD, asgT, asgs, asgL, slL, getVar, pure, M.pure, binD, binI, callAr, permute, slsOf, slOf, backS, sltsOf, setSl, isK, isD, truthD, retV, idxD, atI, L2.ixN, sizeLine_eq, lenD, cmpD, eqD, eqF, flatD, slcD, cutT, cutL, HT.sIx, h4, h8]
  · subst z
    rcases hk with z | z <;> subst z
    · refine ⟨.tup [p, .int 5, q], m2, g2, by simp [bads, List.range_succ], h7, call_of (d := f__law_no_claim) (ρ := [spS m2 g2, .dp (.tup [p, q]), .dp (.int 1), .dp (.int 0)]) hT rfl ?_ rfl⟩
      rw [hcf]
      unfold f__law_no_claim spS
      simp [exs, ex, ev, tsv, evB, evP, evs, evA, evLs, evI, tst, plOf, view, argOf, L.deep, Ob.deep, bltD, asgT, asgs, asgL, slL, getVar, pure, M.pure, binD, binI, callAr, permute, slsOf, slOf, backS, sltsOf, setSl, isK, isD, truthD, retV, idxD, atI, L2.ixN, sizeLine_eq, lenD, cmpD, eqD, eqF, flatD, slcD, cutT, cutL, HT.sIx, h4, h8]
    · refine ⟨.tup [p, q, .int 5], m2, g2, by simp [bads, List.range_succ], h7, call_of (d := f__law_no_claim) (ρ := [spS m2 g2, .dp (.tup [p, q]), .dp (.int 1), .dp (.int 1)]) hT rfl ?_ rfl⟩
      rw [hcf]
      unfold f__law_no_claim spS
      simp [exs, ex, ev, tsv, evB, evP, evs, evA, evLs, evI, tst, plOf, view, argOf, L.deep, Ob.deep, bltD, asgT, asgs, asgL, slL, getVar, pure, M.pure, binD, binI, callAr, permute, slsOf, slOf, backS, sltsOf, setSl, isK, isD, truthD, retV, idxD, atI, L2.ixN, sizeLine_eq, lenD, cmpD, eqD, eqF, flatD, slcD, cutT, cutL, HT.sIx, h4, h8]
  · subst z
    refine ⟨([.lst [p, q], .non, .tup [], p, .dic [], .tup [.tup [p, q]], .int 7, .str (Str.ofString "all")] : List D).getD j.toNat .non, m3, g3, ?_, h11, call_of (d := f__law_no_claim) (ρ := [spS m3 g3, .dp (.tup [p, q]), .dp (.int 2), .dp (.int k)]) hT rfl ?_ rfl⟩
    · rcases eight h9 h10 with z | z | z | z | z | z | z | z <;> subst z <;> simp [bads]
    rw [hcf]
    unfold f__law_no_claim spS
    rcases eight h9 h10 with z | z | z | z | z | z | z | z <;> subst z
    all_goals simp [exs, ex, ev, tsv, evB, evP, evs, evA, evLs, evI, tst, plOf, view, argOf, L.deep, Ob.deep, bltD, asgT, asgs, asgL, slL, getVar, pure, M.pure, binD, binI, callAr, permute, slsOf, slOf, backS, sltsOf, setSl, isK, isD, truthD, retV, idxD, atI, L2.ixN, sizeLine_eq, lenD, cmpD, eqD, eqF, flatD, slcD, cutT, cutL, HT.sIx, h4, h8, h12]
  · rcases hk with z | z <;> subst z
    · refine ⟨.tup [b0, q], ms0, gs0, by simp [bads, List.range_succ, hb0], hs0, call_of (d := f__law_no_claim) (ρ := [spS ms0 gs0, .dp (.tup [p, q]), .dp (.int r), .dp (.int 0)]) hT rfl ?_ rfl⟩
      rw [hcf]
      unfold f__law_no_claim spS
      simp [exs, ex, ev, tsv, evB, evP, evs, evA, evLs, evI, tst, plOf, view, argOf, L.deep, Ob.deep, bltD, asgT, asgs, asgL, slL, getVar, pure, M.pure, binD, binI, callAr, permute, slsOf, slOf, backS, sltsOf, setSl, isK, isD, truthD, retV, idxD, atI, L2.ixN, sizeLine_eq, lenD, cmpD, eqD, eqF, flatD, slcD, cutT, cutL, HT.sIx, h4, h8, r0, r1, r2, hc0]
    · refine ⟨.tup [p, b1], ms1, gs1, by simp [bads, List.range_succ, hb1], hs1, call_of (d := f__law_no_claim) (ρ := [spS ms1 gs1, .dp (.tup [p, q]), .dp (.int r), .dp (.int 1)]) hT rfl ?_ rfl⟩
      rw [hcf]
      unfold f__law_no_claim spS
      simp [exs, ex, ev, tsv, evB, evP, evs, evA, evLs, evI, tst, plOf, view, argOf, L.deep, Ob.deep, bltD, asgT, asgs, asgL, slL, getVar, pure, M.pure, binD, binI, callAr, permute, slsOf, slOf, backS, sltsOf, setSl, isK, isD, truthD, retV, idxD, atI, L2.ixN, sizeLine_eq, lenD, cmpD, eqD, eqF, flatD, slcD, cutT, cutL, HT.sIx, h4, h8, r0, r1, r2, hc1]
theorem no_claim3 (n : Nat) {m g : Int} (h : Spr m g) {p q t : D} (okp : okPart p) (okq : okPart q) (okt : okPart t) : ∃ b m' g', b ∈ bads [p, q, t] ∧ Spr m' g' ∧ callN inf.T 60 (n + 3) 138 [spS m g, .dp (.tup [p, q, t])] [] = some (.dp b, [spS m' g', .dp (.tup [p, q, t])], []) := by
  have hT : inf.T.fn 138 = some f__law_no_claim := rfl
  obtain ⟨r, m1, g1, h1, h2, h3, h4⟩ := draw (n + 1) h (a := 8) (by decide) (by decide)
  obtain ⟨k, m2, g2, h5, h6, h7, h8⟩ := draw (n + 1) h3 (a := 3) (by decide) (by decide)
  obtain ⟨j, m3, g3, h9, h10, h11, h12⟩ := draw (n + 1) h7 (a := 8) (by decide) (by decide)
  obtain ⟨b0, ms0, gs0, hb0, hs0, hc0⟩ := bad_part n h7 okp
  obtain ⟨b1, ms1, gs1, hb1, hs1, hc1⟩ := bad_part n h7 okq
  obtain ⟨b2, ms2, gs2, hb2, hs2, hc2⟩ := bad_part n h7 okt
  generalize hcf : callN inf.T 60 (n + 1 + 1) = cf at h4 h8 h12 hc0 hc1 hc2
  unfold spS at h4 h8 h12 hc0 hc1 hc2
  have hk : k = 0 ∨ k = 1 ∨ k = 2 := by omega
  have hr : r = 0 ∨ r = 1 ∨ r = 2 ∨ (r ≠ 0 ∧ r ≠ 1 ∧ r ≠ 2) := by omega
  rcases hr with z | z | z | ⟨r0, r1, r2⟩
  rotate_right
  have r0 : (r == 0) = false := by simpa using r0
  have r1 : (r == 1) = false := by simpa using r1
  have r2 : (r == 2) = false := by simpa using r2
  rotate_left
  · subst z
    rcases hk with z | z | z <;> subst z
    · refine ⟨.tup [q, t], m2, g2, by simp [bads, List.range_succ], h7, call_of (d := f__law_no_claim) (ρ := [spS m2 g2, .dp (.tup [p, q, t]), .dp (.int 0), .dp (.int 0)]) hT rfl ?_ rfl⟩
      rw [hcf]
      unfold f__law_no_claim spS
      simp [exs, ex, ev, tsv, evB, evP, evs, evA, evLs, evI, tst, plOf, view, argOf, L.deep, Ob.deep, bltD, asgT, asgs, asgL, slL, getVar, pure, M.pure, binD, binI, callAr, permute, slsOf, slOf, backS, sltsOf, setSl, isK, isD, truthD, retV, idxD, atI, L2.ixN, sizeLine_eq, lenD, cmpD, eqD, eqF, flatD, slcD, cutT, cutL, HT.sIx, h4, h8]
    · refine ⟨.tup [p, t], m2, g2, by simp [bads, List.range_succ], h7, call_of (d := f__law_no_claim) (ρ := [spS m2 g2, .dp (.tup [p, q, t]), .dp (.int 0), .dp (.int 1)]) hT rfl ?_ rfl⟩
      rw [hcf]
      unfold f__law_no_claim spS
      simp [exs, ex, ev, tsv, evB, evP, evs, evA, evLs, evI, tst, plOf, view, argOf, L.deep, Ob.deep, bltD, asgT, asgs, asgL, slL, getVar, pure, M.pure, binD, binI, callAr, permute, slsOf, slOf, backS, sltsOf, setSl, isK, isD, truthD, retV, idxD, atI, L2.ixN, sizeLine_eq, lenD, cmpD, eqD, eqF, flatD, slcD, cutT, cutL, HT.sIx, h4, h8]
    · refine ⟨.tup [p, q], m2, g2, by simp [bads, List.range_succ], h7, call_of (d := f__law_no_claim) (ρ := [spS m2 g2, .dp (.tup [p, q, t]), .dp (.int 0), .dp (.int 2)]) hT rfl ?_ rfl⟩
      rw [hcf]
      unfold f__law_no_claim spS
      simp [exs, ex, ev, tsv, evB, evP, evs, evA, evLs, evI, tst, plOf, view, argOf, L.deep, Ob.deep, bltD, asgT, asgs, asgL, slL, getVar, pure, M.pure, binD, binI, callAr, permute, slsOf, slOf, backS, sltsOf, setSl, isK, isD, truthD, retV, idxD, atI, L2.ixN, sizeLine_eq, lenD, cmpD, eqD, eqF, flatD, slcD, cutT, cutL, HT.sIx, h4, h8]
  · subst z
    rcases hk with z | z | z <;> subst z
    · refine ⟨.tup [p, .int 5, q, t], m2, g2, by simp [bads, List.range_succ], h7, call_of (d := f__law_no_claim) (ρ := [spS m2 g2, .dp (.tup [p, q, t]), .dp (.int 1), .dp (.int 0)]) hT rfl ?_ rfl⟩
      rw [hcf]
      unfold f__law_no_claim spS
      simp [exs, ex, ev, tsv, evB, evP, evs, evA, evLs, evI, tst, plOf, view, argOf, L.deep, Ob.deep, bltD, asgT, asgs, asgL, slL, getVar, pure, M.pure, binD, binI, callAr, permute, slsOf, slOf, backS, sltsOf, setSl, isK, isD, truthD, retV, idxD, atI, L2.ixN, sizeLine_eq, lenD, cmpD, eqD, eqF, flatD, slcD, cutT, cutL, HT.sIx, h4, h8]
    · refine ⟨.tup [p, q, .int 5, t], m2, g2, by simp [bads, List.range_succ], h7, call_of (d := f__law_no_claim) (ρ := [spS m2 g2, .dp (.tup [p, q, t]), .dp (.int 1), .dp (.int 1)]) hT rfl ?_ rfl⟩
      rw [hcf]
      unfold f__law_no_claim spS
      simp [exs, ex, ev, tsv, evB, evP, evs, evA, evLs, evI, tst, plOf, view, argOf, L.deep, Ob.deep, bltD, asgT, asgs, asgL, slL, getVar, pure, M.pure, binD, binI, callAr, permute, slsOf, slOf, backS, sltsOf, setSl, isK, isD, truthD, retV, idxD, atI, L2.ixN, sizeLine_eq, lenD, cmpD, eqD, eqF, flatD, slcD, cutT, cutL, HT.sIx, h4, h8]
    · refine ⟨.tup [p, q, t, .int 5], m2, g2, by simp [bads, List.range_succ], h7, call_of (d := f__law_no_claim) (ρ := [spS m2 g2, .dp (.tup [p, q, t]), .dp (.int 1), .dp (.int 2)]) hT rfl ?_ rfl⟩
      rw [hcf]
      unfold f__law_no_claim spS
      simp [exs, ex, ev, tsv, evB, evP, evs, evA, evLs, evI, tst, plOf, view, argOf, L.deep, Ob.deep, bltD, asgT, asgs, asgL, slL, getVar, pure, M.pure, binD, binI, callAr, permute, slsOf, slOf, backS, sltsOf, setSl, isK, isD, truthD, retV, idxD, atI, L2.ixN, sizeLine_eq, lenD, cmpD, eqD, eqF, flatD, slcD, cutT, cutL, HT.sIx, h4, h8]
  · subst z
    refine ⟨([.lst [p, q, t], .non, .tup [], p, .dic [], .tup [.tup [p, q, t]], .int 7, .str (Str.ofString "all")] : List D).getD j.toNat .non, m3, g3, ?_, h11, call_of (d := f__law_no_claim) (ρ := [spS m3 g3, .dp (.tup [p, q, t]), .dp (.int 2), .dp (.int k)]) hT rfl ?_ rfl⟩
    · rcases eight h9 h10 with z | z | z | z | z | z | z | z <;> subst z <;> simp [bads]
    rw [hcf]
    unfold f__law_no_claim spS
    rcases eight h9 h10 with z | z | z | z | z | z | z | z <;> subst z
    all_goals simp [exs, ex, ev, tsv, evB, evP, evs, evA, evLs, evI, tst, plOf, view, argOf, L.deep, Ob.deep, bltD, asgT, asgs, asgL, slL, getVar, pure, M.pure, binD, binI, callAr, permute, slsOf, slOf, backS, sltsOf, setSl, isK, isD, truthD, retV, idxD, atI, L2.ixN, sizeLine_eq, lenD, cmpD, eqD, eqF, flatD, slcD, cutT, cutL, HT.sIx, h4, h8, h12]
  · rcases hk with z | z | z <;> subst z
    · refine ⟨.tup [b0, q, t], ms0, gs0, by simp [bads, List.range_succ, hb0], hs0, call_of (d := f__law_no_claim) (ρ := [spS ms0 gs0, .dp (.tup [p, q, t]), .dp (.int r), .dp (.int 0)]) hT rfl ?_ rfl⟩
      rw [hcf]
      unfold f__law_no_claim spS
      simp [exs, ex, ev, tsv, evB, evP, evs, evA, evLs, evI, tst, plOf, view, argOf, L.deep, Ob.deep, bltD, asgT, asgs, asgL, slL, getVar, pure, M.pure, binD, binI, callAr, permute, slsOf, slOf, backS, sltsOf, setSl, isK, isD, truthD, retV, idxD, atI, L2.ixN, sizeLine_eq, lenD, cmpD, eqD, eqF, flatD, slcD, cutT, cutL, HT.sIx, h4, h8, r0, r1, r2, hc0]
    · refine ⟨.tup [p, b1, t], ms1, gs1, by simp [bads, List.range_succ, hb1], hs1, call_of (d := f__law_no_claim) (ρ := [spS ms1 gs1, .dp (.tup [p, q, t]), .dp (.int r), .dp (.int 1)]) hT rfl ?_ rfl⟩
      rw [hcf]
      unfold f__law_no_claim spS
      simp [exs, ex, ev, tsv, evB, evP, evs, evA, evLs, evI, tst, plOf, view, argOf, L.deep, Ob.deep, bltD, asgT, asgs, asgL, slL, getVar, pure, M.pure, binD, binI, callAr, permute, slsOf, slOf, backS, sltsOf, setSl, isK, isD, truthD, retV, idxD, atI, L2.ixN, sizeLine_eq, lenD, cmpD, eqD, eqF, flatD, slcD, cutT, cutL, HT.sIx, h4, h8, r0, r1, r2, hc1]
    · refine ⟨.tup [p, q, b2], ms2, gs2, by simp [bads, List.range_succ, hb2], hs2, call_of (d := f__law_no_claim) (ρ := [spS ms2 gs2, .dp (.tup [p, q, t]), .dp (.int r), .dp (.int 2)]) hT rfl ?_ rfl⟩
      rw [hcf]
      unfold f__law_no_claim spS
      simp [exs, ex, ev, tsv, evB, evP, evs, evA, evLs, evI, tst, plOf, view, argOf, L.deep, Ob.deep, bltD, asgT, asgs, asgL, slL, getVar, pure, M.pure, binD, binI, callAr, permute, slsOf, slOf, backS, sltsOf, setSl, isK, isD, truthD, retV, idxD, atI, L2.ixN, sizeLine_eq, lenD, cmpD, eqD, eqF, flatD, slcD, cutT, cutL, HT.sIx, h4, h8, r0, r1, r2, hc2]
end K77
end Fc
set_option Elab.async false
set_option linter.all false
set_option maxRecDepth 100000
set_option maxHeartbeats 4000000
namespace Fc
namespace K77
open PySem L2
def odds (ps : List D) (p : D) : List D := [.bl true, .int 77, .str (Str.ofString "Q"), .lst [], .dic [], .lst [p], .tup [p], .tup ps, .tup [p, p, p], .str (Str.ofString "calm"), .int (-1), .tup [.int 1, .int 7], .tup [.non]]
theorem setS {np i : Nat} (h : np ≤ i) {x : Sl} {ρ : List Sl} (hl : i < ρ.length) : setSl np i x ρ = some (ρ.set i x) := by
  unfold setSl
  rw [List.getElem?_eq_getElem hl]
  cases ρ[i] with
  | own o => exact if_neg (by omega)
  | no => rfl
  | dp d => rfl
theorem back2 (ρ : List Sl) (a b : D) (outs : List Sl) : backS ρ [.val a, .val b] outs = ρ := by
  match outs with
  | [] => rfl
  | [_] => rfl
  | _ :: _ :: t => cases t <;> rfl
def inner : Sms := (.cons (.asg (.nm 4) (.call 138 [true, false] [] (.cons (.var 0) (.cons (.var 1) .nil)))) (.cons (.asg (.nm 5) (.ife (.cmp .lt (.var 3) (.cst (.int (5)))) (.call 129 [] [] (.cons (.var 4) (.cons (.var 2) .nil))) (.call 129 [] [1, 0] (.cons (.var 2) (.cons (.var 4) .nil))))) (.cons (.ife (.cmp .isn (.var 5) (.cst (.bl false))) (.cons (.ret (.cst (.bl false))) .nil) .nil) .nil)))
section
variable (cf : Cf) (kc : Nat → Bool) (mth : Nat → Str → Option (Nat × List Bool)) (prp : Nat → Str → Option Nat) (ini : Nat → Option Nat) (cm : Nat → Str → Option Nat) (F : Nat)
theorem inner_ok {c p : D} {B : List D} (hN : ∀ m g, Spr m g → ∃ b m' g', b ∈ B ∧ Spr m' g' ∧ cf 138 [spS m g, .dp c] [] = some (.dp b, [spS m' g', .dp c], [])) (hF : ∀ b ∈ B, ∃ o, cf 129 [.dp b, .dp p] [] = some (.dp (.bl false), o, [])) :
    ∀ (xs : List Int) (m g : Int) (s3 s4 s5 s6 : Sl), Spr m g → ∃ m' g' s3' s4' s5', Spr m' g' ∧
      forGo 1 (.nm 3) (exs ⟨cf, 1, kc, mth, prp, ini, cm⟩ F inner) (xs.map .int) ([spS m g, .dp c, .dp p, s3, s4, s5, s6], []) = some (.next, ([spS m' g', .dp c, .dp p, s3', s4', s5', s6], []))
  | [], m, g, s3, s4, s5, s6, h => ⟨m, g, s3, s4, s5, h, rfl⟩
  | x :: xs, m, g, s3, s4, s5, s6, h => by
    obtain ⟨b, m1, g1, hb, h1, h2⟩ := hN m g h
    obtain ⟨o, h3⟩ := hF b hb
    obtain ⟨m', g', s3', s4', s5', q1, q2⟩ := inner_ok hN hF xs m1 g1 (.dp (.int x)) (.dp b) (.dp (.bl false)) s6 h1
    refine ⟨m', g', s3', s4', s5', q1, ?_⟩
    rw [← q2, List.map_cons]
    unfold spS at h2 ⊢
    by_cases hx : x < 5
    all_goals
      conv => lhs; unfold forGo
      unfold inner
      simp [bindT, setS, exs, ex, ev, tsv, evB, evP, evs, evA, tst, plOf, view, argOf, L.deep, Ob.deep, asgT, asgs, asgL, slL, getVar, pure, M.pure, callAr, permute, slsOf, slOf, backS, back2, sltsOf, truthD, cmpD, hx, h2, h3]
def outer : Sms := (.cons (.ife (.cmp .ne (.lst (.cons (.cmp .is (.call 129 [] [] (.cons (.var 1) (.cons (.var 2) .nil))) (.cst (.bl true))) (.cons (.cmp .is (.call 129 [] [1, 0] (.cons (.var 2) (.cons (.var 1) .nil))) (.cst (.bl true))) .nil))) (.lst (.cons (.cst (.bl true)) (.cons (.cst (.bl true)) .nil)))) (.cons (.ret (.cst (.bl false))) .nil) .nil) (.cons (.forr (.nm 3) (.range1 (.cst (.int (10)))) inner) (.cons (.asg (.nm 6) (.lst (.cons (.cst (.bl true)) (.cons (.cst (.int (77))) (.cons (.cst (.str (Str.ofString "Q"))) (.cons (.lst .nil) (.cons .dnew (.cons (.lst (.cons (.var 2) .nil)) (.cons (.tup (.cons (.var 2) .nil)) (.cons (.var 1) (.cons (.tup (.cons (.var 2) (.cons (.var 2) (.cons (.var 2) .nil)))) (.cons (.cst (.str (Str.ofString "calm"))) (.cons (.neg (.cst (.int (1)))) (.cons (.tup (.cons (.cst (.int (1))) (.cons (.cst (.int (7))) .nil))) .nil)))))))))))))) (.cons (.app 6 (.tup (.cons (.cst .non) .nil))) (.cons (.ife (.cmp .isn (.call 129 [] [] (.cons (.var 1) (.cons (.idx (.var 6) (.call 135 [true, false] [] (.cons (.var 0) (.cons (.cst (.int (13))) .nil)))) .nil))) (.cst (.bl false))) (.cons (.ret (.cst (.bl false))) .nil) .nil) .nil)))))
theorem right_eq : f__law_right = ⟨1, 7, (.cons (.forr (.tp (.cons (.nm 1) (.cons (.nm 2) .nil))) (.seq (.call 136 [true] [] (.cons (.var 0) .nil))) outer) (.cons (.ret (.cst (.bl true))) .nil))⟩ := rfl
/-- what is known of a claim with its paper -/
structure Good (q : List D × D) : Prop where
  tr : ∃ o, cf 129 [.dp (.tup q.1), .dp q.2] [] = some (.dp (.bl true), o, [])
  bad : ∃ B : List D, (∀ m g, Spr m g → ∃ b m' g', b ∈ B ∧ Spr m' g' ∧ cf 138 [spS m g, .dp (.tup q.1)] [] = some (.dp b, [spS m' g', .dp (.tup q.1)], [])) ∧ ∀ b ∈ B, ∃ o, cf 129 [.dp b, .dp q.2] [] = some (.dp (.bl false), o, [])
  odd : ∀ x ∈ odds q.1 q.2, ∃ o, cf 129 [.dp (.tup q.1), .dp x] [] = some (.dp (.bl false), o, [])
theorem odd_at (ps : List D) (p : D) {r : Int} (h1 : 0 ≤ r) (h2 : r < 13) : ∃ x ∈ odds ps p, atI (odds ps p) r = some x := by
  have hl : (odds ps p).length = 13 := rfl
  refine ⟨(odds ps p)[r.toNat]'(by omega), List.getElem_mem _, ?_⟩
  unfold atI L2.ixN
  rw [if_pos h1, if_pos (by omega)]
  simp
theorem ten : rangeD 0 10 = some [D.int 0, D.int 1, D.int 2, D.int 3, D.int 4, D.int 5, D.int 6, D.int 7, D.int 8, D.int 9] := by
  unfold rangeD
  rw [if_pos (by decide)]
  rfl
theorem eqTT : eqD (.lst [.bl true, .bl true]) (.lst [.bl true, .bl true]) = some true := by rfl
variable {cf F} in
theorem outer_ok (hD : ∀ m g, Spr m g → ∃ r m' g', 0 ≤ r ∧ r < (13 : Int) ∧ Spr m' g' ∧ cf 135 [spS m g, .dp (.int 13)] [] = some (.dp (.int r), [spS m' g', .dp (.int 13)], [])) :
    ∀ (qs : List (List D × D)), (∀ q ∈ qs, Good cf q) → ∀ (m g : Int) (s1 s2 s3 s4 s5 s6 : Sl), Spr m g → ∃ m' g' s1' s2' s3' s4' s5' s6', Spr m' g' ∧
      forGo 1 (.tp (.cons (.nm 1) (.cons (.nm 2) .nil))) (exs ⟨cf, 1, kc, mth, prp, ini, cm⟩ F outer) (qs.map fun q => .tup [.tup q.1, q.2]) ([spS m g, s1, s2, s3, s4, s5, s6], []) = some (.next, ([spS m' g', s1', s2', s3', s4', s5', s6'], []))
  | [], _, m, g, s1, s2, s3, s4, s5, s6, h => ⟨m, g, s1, s2, s3, s4, s5, s6, h, rfl⟩
  | q :: qs, hq, m, g, s1, s2, s3, s4, s5, s6, h => by
    have G := hq q List.mem_cons_self
    obtain ⟨o1, t1⟩ := G.tr
    obtain ⟨B, n1, n2⟩ := G.bad
    obtain ⟨ma, ga, a3, a4, a5, i1, i2⟩ := inner_ok cf kc mth prp ini cm F n1 n2 [0, 1, 2, 3, 4, 5, 6, 7, 8, 9] m g s3 s4 s5 s6 h
    obtain ⟨r, mb, gb, d1, d2, d3, d4⟩ := hD ma ga i1
    obtain ⟨x, x1, x2⟩ := odd_at q.1 q.2 d1 d2
    obtain ⟨o2, t2⟩ := G.odd x x1
    obtain ⟨m', g', b1, b2, b3, b4, b5, b6, r1, r2⟩ := outer_ok hD qs (fun z hz => hq z (List.mem_cons_of_mem _ hz)) mb gb (.dp (.tup q.1)) (.dp q.2) a3 a4 a5 (.own (.lst (odds q.1 q.2))) d3
    refine ⟨m', g', b1, b2, b3, b4, b5, b6, r1, ?_⟩
    rw [← r2, List.map_cons]
    conv => lhs; unfold forGo
    unfold outer
    unfold odds at x2 ⊢
    unfold spS at d4 i2 ⊢
    have i3 : forGo 1 (.nm 3) (exs ⟨cf, 1, kc, mth, prp, ini, cm⟩ F inner) [D.int 0, D.int 1, D.int 2, D.int 3, D.int 4, D.int 5, D.int 6, D.int 7, D.int 8, D.int 9] ([.own (.lst [.int m, .int g]), .dp (.tup q.1), .dp q.2, s3, s4, s5, s6], []) = _ := i2
    simp [bindT, bindTs, setS, exs, ex, ev, tsv, evB, evP, evs, evA, evI, ten, i3, tst, plOf, view, argOf, L.deep, Ob.deep, asgT, asgs, asgL, slL, getVar, pure, M.pure, callAr, permute, slsOf, slOf, backS, back2, sltsOf, truthD, cmpD, t1, t2, eqTT, d4, x2, idxD, sizeLine_eq]
variable {cf F} in
theorem right_body (hD : ∀ m g, Spr m g → ∃ r m' g', 0 ≤ r ∧ r < (13 : Int) ∧ Spr m' g' ∧ cf 135 [spS m g, .dp (.int 13)] [] = some (.dp (.int r), [spS m' g', .dp (.int 13)], [])) {qs : List (List D × D)} (hq : ∀ q ∈ qs, Good cf q)
    (hG : ∀ m g, cf 136 [spS m g] [] = some (.fr (.lst (qs.map fun q => .tup [.tup q.1, q.2])), [spS m g], [])) {m g : Int} (h : Spr m g) :
    ∃ m' g' s1 s2 s3 s4 s5 s6, Spr m' g' ∧ exs ⟨cf, 1, kc, mth, prp, ini, cm⟩ F f__law_right.body ([spS m g, .no, .no, .no, .no, .no, .no], []) = some (.ret (.dp (.bl true)), ([spS m' g', s1, s2, s3, s4, s5, s6], [])) := by
  obtain ⟨m', g', s1, s2, s3, s4, s5, s6, h1, h2⟩ := outer_ok kc mth prp ini cm (cf := cf) (F := F) hD qs hq m g .no .no .no .no .no .no h
  refine ⟨m', g', s1, s2, s3, s4, s5, s6, h1, ?_⟩
  rw [right_eq]
  have hg := hG m g
  unfold spS at hg h2 ⊢
  simp [exs, ex, ev, evB, evP, evA, evI, plOf, argOf, L.deep, Ob.deep, retV, pure, M.pure, callAr, permute, slsOf, slOf, backS, sltsOf, hg, itemsD, h2]
theorem law_body (hS : ∀ (ns : List Int) (k : Nat), k < 3 → ns.length ≤ 63 → ∃ m g, Spr m g ∧ cf 134 [.dp (.fls (ns.map .int)), .dp (.int (k : Int))] [] = some (.fr (.lst [.int m, .int g]), [.dp (.fls (ns.map .int)), .dp (.int (k : Int))], []))
    (hR : ∀ m g, Spr m g → ∃ o, cf 139 [spS m g] [] = some (.dp (.bl true), o, [])) (ns : List Int) (hl : ns.length ≤ 63) :
    ∃ s, exs ⟨cf, 1, kc, mth, prp, ini, cm⟩ F f_law.body ([.dp (.fls (ns.map .int)), .no], []) = some (.ret (.dp (.bl true)), ([.dp (.fls (ns.map .int)), s], [])) := by
  obtain ⟨m0, g0, a0, b0⟩ := hS ns 0 (by decide) hl
  obtain ⟨m1, g1, a1, b1⟩ := hS ns 1 (by decide) hl
  obtain ⟨m2, g2, a2, b2⟩ := hS ns 2 (by decide) hl
  obtain ⟨o0, c0⟩ := hR m0 g0 a0
  obtain ⟨o1, c1⟩ := hR m1 g1 a1
  obtain ⟨o2, c2⟩ := hR m2 g2 a2
  have h3 : rangeD 0 3 = some [.int 0, .int 1, .int 2] := by
    unfold rangeD
    rw [if_pos (by decide)]
    rfl
  have bk : ∀ (ρ : List Sl) (x : Ob) (o : List Sl), backS ρ [.tmp x] o = ρ := fun ρ x o => by
    match o with
    | [] => rfl
    | [_] => rfl
    | _ :: _ :: _ => rfl
  unfold spS at c0 c1 c2
  have b0' : cf 134 [.dp (.fls (ns.map .int)), .dp (.int 0)] [] = _ := b0
  have b1' : cf 134 [.dp (.fls (ns.map .int)), .dp (.int 1)] [] = _ := b1
  have b2' : cf 134 [.dp (.fls (ns.map .int)), .dp (.int 2)] [] = _ := b2
  refine ⟨.no, ?_⟩
  unfold f_law
  simp [exs, ex, ev, tsv, evB, evP, evs, evA, evI, tst, view, truthD, plOf, argOf, L.deep, Ob.deep, retV, getVar, pure, M.pure, callAr, permute, slsOf, slOf, backS, back2, bk, sltsOf, h3, lcGo, notOwn, wipeS, unwipe, bindT, setS, b0', b1', b2', c0, c1, c2, bltD, boolsL, sizeLine_eq]
end
end K77
end Fc
set_option Elab.async false
set_option maxRecDepth 100000
set_option maxHeartbeats 0
namespace Fc
namespace K77
open PySem
theorem chk : inf.chkB = true := by decide +kernel
theorem spB : inf.spB = true := by decide +kernel
end K77
end Fc
set_option Elab.async false
set_option linter.all false
set_option maxRecDepth 100000
set_option maxHeartbeats 4000000
namespace Fc
namespace K77
open PySem L2
def S (x : String) : D := .str (Str.ofString x)
def fr (a b : Int) : D := .tup [.int a, .int b]
def given : List (List D × D) :=
  [([S "calm", S "2 3 1"], .tup [fr 3 1, fr 6 1]),
   ([S "restless", S "1 0 1"], .int 0),
   ([S "all within", S "from 1 to 2\nfrom 3 to 4\nfrom 2 to 3\nfrom 1 to 1"], .tup [.tup [fr 3 1, fr 8 1, fr 8 1], .tup [fr 2 1, fr 6 1, fr 12 1], .tup [fr 3 1, fr 11 1, fr 11 1], .tup [fr 2 1, fr 4 1, fr 8 1]]),
   ([S "not within", S "from 1 to 9\nfrom 3 to 4\nfrom 2 to 3\nfrom 1 to 1"], S "9 4 2 1"),
   ([S "all", S "base 1 3 3 1\npart 0 1 0 0 from -1 to 1/2"], .tup [.tup [fr 5 1, fr 9 2]]),
   ([S "not all", S "base 1 1 1\npart 0 1 0 from -2 to 2"], .tup [fr (-2) 1]),
   ([S "fast", S "base 1 3 3 1\npart 0 1 0 0 from -1 to 1/2", fr 1 4], .non)]
def givenD : D := .lst (given.map fun q => .tup [.tup q.1, q.2])
def isT : Option (L × List Sl × List Ob) → Bool
  | some (.dp (.bl true), _, []) => true
  | _ => false
def isF : Option (L × List Sl × List Ob) → Bool
  | some (.dp (.bl false), _, []) => true
  | _ => false
def okG (q : List D × D) : Bool := isT (callN inf.T 60 18 129 [.dp (.tup q.1), .dp q.2] []) && (bads q.1).all (fun b => isF (callN inf.T 60 18 129 [.dp b, .dp q.2] [])) && (odds q.1 q.2).all (fun x => isF (callN inf.T 60 18 129 [.dp (.tup q.1), .dp x] []))
end K77
end Fc
set_option Elab.async false
set_option linter.all false
set_option maxRecDepth 100000
set_option maxHeartbeats 4000000
namespace Fc
namespace K77
open PySem L2
theorem acc0 : ((given.drop 0).take 1).all okG = true := by decide +kernel
end K77
end Fc
set_option Elab.async false
set_option linter.all false
set_option maxRecDepth 100000
set_option maxHeartbeats 4000000
namespace Fc
namespace K77
open PySem L2
theorem acc1 : ((given.drop 1).take 1).all okG = true := by decide +kernel
end K77
end Fc
set_option Elab.async false
set_option linter.all false
set_option maxRecDepth 100000
set_option maxHeartbeats 4000000
namespace Fc
namespace K77
open PySem L2
theorem acc2 : ((given.drop 2).take 1).all okG = true := by decide +kernel
end K77
end Fc
set_option Elab.async false
set_option linter.all false
set_option maxRecDepth 100000
set_option maxHeartbeats 4000000
namespace Fc
namespace K77
open PySem L2
theorem acc3 : ((given.drop 3).take 1).all okG = true := by decide +kernel
end K77
end Fc
set_option Elab.async false
set_option linter.all false
set_option maxRecDepth 100000
set_option maxHeartbeats 4000000
namespace Fc
namespace K77
open PySem L2
theorem acc4 : ((given.drop 4).take 1).all okG = true := by decide +kernel
end K77
end Fc
set_option Elab.async false
set_option linter.all false
set_option maxRecDepth 100000
set_option maxHeartbeats 4000000
namespace Fc
namespace K77
open PySem L2
theorem acc5 : ((given.drop 5).take 1).all okG = true := by decide +kernel
end K77
end Fc
set_option Elab.async false
set_option linter.all false
set_option maxRecDepth 100000
set_option maxHeartbeats 4000000
namespace Fc
namespace K77
open PySem L2
theorem acc6 : ((given.drop 6).take 1).all okG = true := by decide +kernel
end K77
end Fc
set_option Elab.async false
set_option linter.all false
set_option maxRecDepth 100000
set_option maxHeartbeats 4000000
namespace Fc
namespace K77
open PySem L2
theorem given_ok (m g : Int) : callN inf.T 60 18 136 [spS m g] [] = some (.fr (.lst (given.map fun q => .tup [.tup q.1, q.2])), [spS m g], []) := by
  kernel_rfl
end K77
end Fc
set_option Elab.async false
set_option linter.all false
set_option maxRecDepth 100000
set_option maxHeartbeats 4000000
namespace Fc
namespace K77
open PySem PySem.Spec PyProof.Rows L2
theorem isT_ex {o : Option (L × List Sl × List Ob)} (h : isT o = true) : ∃ x, o = some (.dp (.bl true), x, []) := by
  unfold isT at h
  split at h
  · exact ⟨_, rfl⟩
  · cases h
theorem isF_ex {o : Option (L × List Sl × List Ob)} (h : isF o = true) : ∃ x, o = some (.dp (.bl false), x, []) := by
  unfold isF at h
  split at h
  · exact ⟨_, rfl⟩
  · cases h
theorem acc : ∀ q ∈ given, okG q = true := by
  have h : ∀ n q, q ∈ ((given.drop n).take 1) → ((given.drop n).take 1).all okG = true → okG q = true := fun n q hq h => List.all_eq_true.mp h q hq
  intro q hq
  have hs : given = (given.drop 0).take 1 ++ ((given.drop 1).take 1 ++ ((given.drop 2).take 1 ++ ((given.drop 3).take 1 ++ ((given.drop 4).take 1 ++ ((given.drop 5).take 1 ++ (given.drop 6).take 1))))) := rfl
  rw [hs] at hq
  simp only [List.mem_append] at hq
  rcases hq with q0 | q0 | q0 | q0 | q0 | q0 | q0
  · exact h 0 q q0 acc0
  · exact h 1 q q0 acc1
  · exact h 2 q q0 acc2
  · exact h 3 q q0 acc3
  · exact h 4 q q0 acc4
  · exact h 5 q q0 acc5
  · exact h 6 q q0 acc6
/-- two or three parts, each a text or a tuple -/
def partB : D → Bool
  | .str s => decide (s.length ≤ 1000)
  | .tup xs => decide (xs.length ≤ 1000)
  | _ => false
theorem part_ok {d : D} (h : partB d = true) : okPart d := by
  cases d with
  | str s =>
    have h' : s.length ≤ 1000 := of_decide_eq_true h
    exact h'
  | tup xs =>
    have h' : xs.length ≤ 1000 := of_decide_eq_true h
    exact h'
  | _ => cases h
def shapeB (q : List D × D) : Bool := (match q.1 with
  | [a, b] => partB a && partB b
  | [a, b, c] => partB a && (partB b && partB c)
  | _ => false)
theorem shapes : given.all shapeB = true := by decide +kernel
theorem good : ∀ q ∈ given, Good (callN inf.T 60 18) q := fun q hq => by
  have h := acc q hq
  unfold okG at h
  rw [Bool.and_eq_true, Bool.and_eq_true] at h
  obtain ⟨⟨h1, h2⟩, h3⟩ := h
  refine ⟨isT_ex h1, ⟨bads q.1, fun m g hs => ?_, fun b hb => isF_ex (List.all_eq_true.mp h2 b hb)⟩, fun x hx => isF_ex (List.all_eq_true.mp h3 x hx)⟩
  have sh := List.all_eq_true.mp shapes q hq
  obtain ⟨ps, p⟩ := q
  unfold shapeB at sh
  dsimp only at sh ⊢
  match ps, sh with
  | [a, b], sh =>
    have sh' : (partB a && partB b) = true := sh
    rw [Bool.and_eq_true] at sh'
    obtain ⟨x, m', g', y1, y2, y3⟩ := no_claim2 15 hs (part_ok sh'.1) (part_ok sh'.2)
    exact ⟨x, m', g', y1, y2, y3⟩
  | [a, b, c], sh =>
    have sh' : (partB a && (partB b && partB c)) = true := sh
    rw [Bool.and_eq_true, Bool.and_eq_true] at sh'
    obtain ⟨x, m', g', y1, y2, y3⟩ := no_claim3 15 hs (part_ok sh'.1) (part_ok sh'.2.1) (part_ok sh'.2.2)
    exact ⟨x, m', g', y1, y2, y3⟩
  | [], sh => cases sh
  | [_], sh => cases sh
  | _ :: _ :: _ :: _ :: _, sh => cases sh
theorem right_ok {m g : Int} (h : Spr m g) : ∃ o, callN inf.T 60 19 139 [spS m g] [] = some (.dp (.bl true), o, []) := by
  have hT : inf.T.fn 139 = some f__law_right := rfl
  obtain ⟨m', g', s1, s2, s3, s4, s5, s6, _, h2⟩ := right_body inf.T.kc inf.T.mth inf.T.prp inf.T.ini inf.T.cm (cf := callN inf.T 60 18) (F := 60) (fun m g hs => by
    obtain ⟨r, m', g', r1, r2, r3, r4⟩ := draw 17 hs (a := 13) (by decide) (by decide)
    exact ⟨r, m', g', r1, r2, r3, r4⟩) good given_ok h
  exact ⟨_, call_of (d := f__law_right) hT rfl h2 rfl⟩
theorem law_ok (ns : List Int) (hl : ns.length ≤ 63) : ∃ o, callN inf.T 60 20 140 [.dp (.fls (ns.map .int))] [] = some (.dp (.bl true), o, []) := by
  have hT : inf.T.fn 140 = some f_law := rfl
  obtain ⟨s, h⟩ := law_body (callN inf.T 60 19) inf.T.kc inf.T.mth inf.T.prp inf.T.ini inf.T.cm 60 (fun ns k hk hl => springC 18 ns k hk hl) (fun m g h => right_ok h) ns hl
  exact ⟨_, call_of (d := f_law) hT rfl h rfl⟩
/-! ### the head -/
theorem mk_ok : ∀ q ∈ inf.mks, ∀ i, inf.fns.get q.2.1 = some i → MkP i q.2.2 := by
  intro q hq i hi
  have hm : q = (12, 35, []) ∨ q = (14, 88, [.tup [], .tup []]) ∨ q = (13, 65, []) := by
    have : q ∈ [(12, 35, ([] : List D)), (14, 88, [.tup [], .tup []]), (13, 65, [])] := hq
    simpa using this
  rcases hm with rfl | rfl | rfl
  · have : i = i_35 := (Option.some.inj (show some i_35 = some i from hi)).symm
    subst this
    exact .inl ⟨rfl, rfl⟩
  · have : i = i_88 := (Option.some.inj (show some i_88 = some i from hi)).symm
    subst this
    refine .inr ⟨2, 0, (by intro z; cases z), rfl, rfl, fun T kV doc pm an cdv ct us its hl hl2 => ?_, fun K => rfl⟩
    have hl2' : its.length = 2 := hl2
    match us, its, hl, hl2' with
    | [_, _], [_, _], _, _ => exact ⟨_, rfl, rfl⟩
  · have : i = i_65 := (Option.some.inj (show some i_65 = some i from hi)).symm
    subst this
    exact .inl ⟨rfl, rfl⟩
theorem kw_ok : ∀ q ∈ inf.kw, ∃ i, inf.fns.get q.1 = some i ∧ KwP i q.2 := by
  intro q hq
  have hm : q = (129, (["paper", "claim"] : List Str)) := by
    have : q ∈ [(129, (["paper", "claim"] : List Str))] := hq
    simpa using this
  subst hm
  refine ⟨i_129, rfl, rfl, fun kV doc pm an cdv ct us ws hl => ?_⟩
  have hl' : (us ++ sw2 ws).length = 2 := hl
  match us, ws, hl' with
  | [], [_, _], _ => rfl
  | [_], [_], _ => rfl
  | [_, _], [], _ => rfl
  | [], [], hl => cases hl
  | [], [_], hl => cases hl
  | [], _ :: _ :: _ :: _, hl => simp [sw2] at hl
  | [_], [], hl => cases hl
  | [_], [_, _], hl => cases hl
  | [_], _ :: _ :: _ :: _, hl => simp [sw2] at hl
  | [_, _], [_], hl => cases hl
  | [_, _], [_, _], hl => cases hl
  | [_, _], _ :: _ :: _ :: _, hl => simp [sw2] at hl
  | _ :: _ :: _ :: _, ws, hl => exfalso; simp at hl
/-! ### the end -/
theorem rep0 {K : PySem.W.Frag} {ca : Nat → Addr} {H : Hp} {a : Addr} {ds : List D} (rv : RV K ca [] (Wr (fun _ => False) [] [] [Sl.dp (.fls ds)] [some (V.ref a)]) H (.fls ds) (.ref a)) :
    Rep (par0 K ca (fun _ => False) H [.dp (.fls ds)] [.ref a]) [] [] [.dp (.fls ds)] [] (([V.ref a] : List V).map some) H := by
  have noOwn : ∀ (i : Nat) (o : Ob), ([Sl.dp (.fls ds)] : List Sl)[i]? = some (.own o) → False := fun i o e => by
    cases i with
    | zero => cases e
    | succ i => simp at e
  refine ⟨rfl, fun i d e => ?_, fun i o e => (noOwn i o e).elim, fun i j oi oj b e _ _ _ => (noOwn i oi e).elim, fun p hp => (by cases hp), List.nodup_nil, fun i o b e _ => (noOwn i o e).elim, rfl, fun n b o e => by simp at e, List.nodup_nil, fun i o b e _ => (noOwn i o e).elim, fun b hb => (by cases hb), fun j b e => ?_, fun b h => h, fun b h => h.elim, fun b h => h.elim⟩
  · cases i with
    | zero =>
      have : d = .fls ds := by
        have e' : some (Sl.dp (.fls ds)) = some (Sl.dp d) := e
        cases e'
        rfl
      subst this
      exact ⟨.ref a, rfl, rv⟩
    | succ i => simp at e
  · exfalso
    obtain ⟨⟨o, h⟩, _⟩ := paOf_get e
    exact noOwn j o h
theorem sp_law {K : PySem.W.Frag} {ca : Nat → Addr} (H : Hp) (a : Addr) (ns : List Int) (hl : ns.length ≤ 63) (hO : Only H) (hS : SqL K H a (ns.map V.int)) : spEv K ca inf.T 60 20 140 [.ref a] H (fun v _ => v = .bl true) fun _ _ _ => False := by
  obtain ⟨o, ho⟩ := law_ok ns hl
  have hfl : ∀ W : Addr → Prop, ¬ W a → FL K W H a (ns.map V.int) := fun W hW => by
    rcases hS with (h | ⟨o, h⟩) | h
    · rcases hO a with z | ⟨o, xs, z⟩ <;> rw [z] at h <;> cases h
    · exact .inl ⟨o, h, hW⟩
    · exact .inr h
  have hW : ¬ Wr (fun _ => False) [] [] [Sl.dp (.fls (ns.map .int))] [some (V.ref a)] a := by
    rintro ((h | h | ⟨i, o, h, _⟩) | h)
    · cases h
    · cases h
    · cases i with
      | zero => cases h
      | succ i => simp at h
    · exact h
  have rv : RV K ca [] (Wr (fun _ => False) [] [] [Sl.dp (.fls (ns.map .int))] [some (V.ref a)]) H (.fls (ns.map .int)) (.ref a) := .fls (hfl _ hW) (by simp) fun i d v e1 e2 => by
    rw [List.getElem?_map] at e1 e2
    cases q : ns[i]? with
    | none => rw [q] at e1; cases e1
    | some z =>
      rw [q] at e1 e2
      cases e1
      cases e2
      exact .int z
  refine ⟨fun _ => False, [], [], [.dp (.fls (ns.map .int))], .dp (.bl true), o, [], rep0 rv, ho, fun ψ' H' v σ' x => ?_⟩
  obtain ⟨_, r⟩ := x
  cases r
  rfl
theorem walkW {l : PySem.W.OpenLaw} {n k : Nat} {q : Program} {loose : List Str} {XP : (Str → Option Value) → Heap → Prop} {YP : World → Heap → Prop} {d : DefRec} {CX : World → CXT} {x : Str} (hn : l.most = some n) (hn2 : n ≤ sizeLine) (hdf : d.params.defaults = []) (hr : Room k callerA)
    (hF : ∀ w mg fa h, YP w h → h.Ns mainGlobals mg → mg d.name = some (.ref fa) → ∃ (K : PySem.W.Frag) (fd : FuncData) (sp : Sp), K.In h ∧ (∀ s u, BindsTo s fd ⟨[u], []⟩ [(x, u)]) ∧
      (∀ (H : Hp) (a : Addr) (ns : List Int), ns.length ≤ n → Only H → SqL K H a (ns.map V.int) → sp [.ref a] H (fun v _ => v = .bl true) fun _ _ _ => False) ∧ ∀ base : Heap, K.In base → base.Ns mainGlobals mg → FnOk l.prog w K mg base (CX w) k fa fd [x] sp)
    (hC : ∀ w H s e s', CX w [] H s (fun _ _ _ => False) e s' → False) : PySem.W.WalkO q loose XP YP l.row.toRowW d [] (fun f vs => PySem.call f vs) :=
  Att.attach_call hn hdf fun w _ s₁ mg _ fa _ _ _ _ _ _ ns G Y _ _ _ hmg hobj hi hlen hg => by
    obtain ⟨K, fd, sp, z1, z2, z3, z4⟩ := hF w mg fa _ Y G.T.g hmg
    exact law_call z1 G.T.g G.T.b G.T.builtins G.T.nolimit hg hobj hi (Nat.le_trans hlen hn2) hr z4 z2 (fun H hO hS => z3 H _ ns hlen hO hS) fun H e s' => hC w H s₁ e s'
end K77
end Fc
open PySem PySem.W PySem.Calls PyProof.Rows
theorem PySem.Challenge.cw_fourcorners_k77_values_that_are_no_claim_holds : PySem.Challenge.rw_fourcorners_k77_values_that_are_no_claim.Holds := by
  w_on; o_law
  refine HandSHeadRun.head_any (r := OpenLaw.row PySem.Challenge.rw_fourcorners_k77_values_that_are_no_claim) (q := Fc.K77.qv) (H := Fc.K77.inf.hook Fc.K77.adrs) (ob := Fc.K77.inf.obsT Fc.K77.adrs) (M := 20000) (loose := Fc.K77.loose) (d := HandSHeadRun.topDef Fc.K77.R.prog 132) (kwd := []) (Fc.K77.inf.obs_eq Fc.K77.adrs)
    (by kernel_rfl) (fun s => by kernel_rfl) Fc.K77.run (by kernel_rfl) (by kernel_rfl) (by kernel_rfl) (by rfl) (by first | assumption | decide +kernel) (by decide +kernel) ⟨rfl, rfl, rfl, rfl, rfl, by decide +kernel⟩ ?hw ?hc
  case hw => w_witness2
  case hc =>
    refine Fc.K77.walkW (l := PySem.Challenge.rw_fourcorners_k77_values_that_are_no_claim) (n := 63) (k := 40) (x := "_law_cells") (CX := fun w => L2.CX (PySem.Challenge.rw_fourcorners_k77_values_that_are_no_claim).prog w) rfl (by decide) (by kernel_rfl) ⟨rfl, by decide, by decide⟩ ?F ?C
    case C =>
      rintro w H s e s' ⟨_, _, _, _, _, _, _, _, _, _, _, _, h⟩
      exact h
    case F =>
      intro w mg fa h Y G hmg0
      obtain ⟨K, KX, c⟩ := Y
      have hmg : mg ("law" : PySem.Str) = some (.ref fa) := by
        have e : (HandSHeadRun.topDef Fc.K77.R.prog 132).name = ("law" : PySem.Str) := by kernel_rfl
        rw [← e]
        exact hmg0
      have S := Fc.Inf.sok KX G c Fc.K77.mk_ok Fc.K77.kw_ok Fc.K77.spB
      have hgl : Fc.K77.inf.C.gl ("law" : PySem.Str) = some (.fn 140) := by kernel_rfl
      obtain ⟨m1, _, _⟩ := S.fn _ _ hgl
      have hi : Fc.K77.inf.fns.get 140 = some Fc.K77.i_140 := rfl
      obtain ⟨fd, F, q1, q2, q3, q4⟩ := Fc.Inf.funD c hi
      rw [hmg] at m1
      have hfa : (Fc.K77.inf.G K).fa 140 = fa := by
        cases m1
        rfl
      refine ⟨K, fd, Fc.spEv K Fc.K77.inf.ca Fc.K77.inf.T 60 20 140, KX, fun s u => ?_, fun H a ns hl hO hS => Fc.K77.sp_law H a ns hl hO hS, fun base hb1 hb2 => ?_⟩
      · exact L2.FunD.bindsA (ps := ["_law_cells"]) F (fun kV doc pm an cdv ct us hl => Fc.K77.i_140.hb kV doc pm an cdv ct us hl) s [u] rfl
      · have B := (Fc.all_ok (base := base) (P := (PySem.Challenge.rw_fourcorners_k77_values_that_are_no_claim).prog) (w := w) S (Fc.Inf.defOk c Fc.K77.chk) 20 140 Fc.K77.f_law rfl).1 rfl
        rw [hfa, q1, q3] at B
        exact B

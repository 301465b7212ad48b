import PyProof.Rows.All
import Wide.All
import OpenK.AllK
import Wide.FinOn
import HandS.ForMost
import HandS.ForExc
import HandS.CallSlots
import HandS.TryOnly
import HandS.Flow
import HandS.Style
import HandS.Wide
import HandS.IsInst
import HandS.Rev
import HandS.TupAny
import HandS.Text
import HandS.Replace
import HandS.More
import HandS.Zip
import KE.SortData
import PyProof.ListNew
import KE.LtSeq
import HandS.TupLe
import HandS.RaiseMore
import HandS.TupMul
import KE.GoesMore
import KE.GoesEnum
import HandS.Comp
import HandS.Exc
import HandS.ExcOwn
import HandS.ExcInit
import HandS.ClsMeth
import HandS.WordsExc
import HandS.Iter
import KE.KExcIs
import HandS.ExcIs
import HandS.Ends
import KE.KxText
import KE.BitLaws
import PySem.Challenge.RW_everywidth_k07_worths
set_option Elab.async false
set_option maxRecDepth 100000
set_option linter.all false
set_option autoImplicit false
set_option maxHeartbeats 4000000
/-! EnA: a small value-semantics reading of Python (terms, values, what they come to); no heap here. -/
namespace EN
open PySem L2

/-! ### values -/
inductive Val where
  | non | bl (b : Bool) | int (i : Int) | str (x : Str)
  | tup (xs : List Val) | lst (xs : List Val) | dct (ks vs : List Val)
  | scr (xs : List Val)
  /-- a caught error: its class's number, its word -/
  | er (c : Nat) (w : Option Str)
/-- what a name holds: a value that nobody changes any more, or an object of the name's own -/
inductive OV where
  | p (v : Val) | l (xs : List Val) | d (ks vs : List Val) | nd (xs : List OV)
abbrev Env := List (Option OV)
def gs : Env → Nat → Option OV
  | [], _ => none
  | a :: _, 0 => a
  | _ :: as, n + 1 => gs as n
def ss : Env → Nat → Option OV → Env
  | [], _, _ => []
  | _ :: as, 0, v => v :: as
  | a :: as, n + 1, v => a :: ss as n v
mutual
def fz : OV → Val
  | .p v => v
  | .l xs => .lst xs
  | .d ks vs => .dct ks vs
  | .nd xs => .lst (fzs xs)
def fzs : List OV → List Val
  | [] => []
  | x :: xs => fz x :: fzs xs
end
/-- what may be read of it: its items are nobody's own -/
def fl : OV → Option Val
  | .p v => some v
  | .l xs => some (.lst xs)
  | .d ks vs => some (.dct ks vs)
  | .nd _ => none
def isP : OV → Bool
  | .p _ => true
  | _ => false
structure Xc where
  cls : Nat
  word : Option Str
inductive R (α : Type) where
  | ok (a : α) (env : Env) | exc (x : Xc) (env : Env) | no
def R.bd {α β : Type} (x : R α) (f : α → Env → R β) : R β := match x with
  | .ok a env => f a env
  | .exc x env => .exc x env
  | .no => .no
def R.of {α : Type} (o : Option α) (env : Env) : R α := match o with
  | some a => .ok a env
  | none => .no
inductive CR where
  | ok (r : OV) (env : Env) | exc (x : Xc) (env : Env) | no

/-! ### terms -/
inductive Bop where
  | add | sub | mul | fdiv | mod | pow | and | or | xor | shl | shr
inductive Cop where
  | eq | ne | lt | le | gt | ge | inn | notin | is | isnot
inductive Bi where
  | len | sum | int | tuple | list | sorted | abs | min | max | str | dict | all
inductive Ty where
  | int | bool | str | tuple | list | dict
inductive Am where
  | P | M | O
inductive Tg where
  | nm (i : Nat) | tp (is : List Nat)
structure Sc where
  names : List (Str × NameKind)
  more : List (Str × Const)
mutual
inductive Ex where
  | var (i : Nat) | int (n : Nat) | str (x : Str) | bl (b : Bool) | non | gl (g : Nat)
  | neg (a : Ex) | bin (o : Bop) (a b : Ex) | cmp (o : Cop) (a b : Ex)
  | bop (isAnd : Bool) (es : List Ex) | nt (a : Ex) | ife (t a b : Ex)
  | ix (a i : Ex) | slc (a : Ex) (lo hi : Option Ex) | rev (a : Ex)
  | tup (es : List Ex) | lst (es : List Ex)
  | lc (elt : Ex) (tg : Tg) (it : It) (ifs : Option Ex) (sc : Sc)
  | call (f : Nat) (ms : List Am) (es : List Ex)
  | bi (b : Bi) (es : List Ex)
  | app (i : Nat) (e : Ex) | pop (i : Nat)
  | nix (i k j : Nat) | nlen (i k : Nat)
  | isi (e : Ex) (t : Ty)
  | jn (s : Str) (e : Ex)
  | dd
  | gin (neg : Bool) (g : Nat) (e : Ex) | gix (g : Nat) (e : Ex) | gget (g : Nat) (e : Ex) | sidx (i : Nat) (b : Ex)
  | dl (ks : List Str) (es : List Ex) | is2 (e : Ex) (t1 t2 : Ty) | spl (i : Nat) (x : Str) | exr (i : Nat) (e : Ex) | chn (a b c : Ex)
  | lix (es : List Ex) (b : Ex)
  | isx (i : Nat) (cs : List Nat) | isc (i c : Nat) | isv (i : Nat) | wrd (i : Nat)
inductive It where
  | e (e : Ex) | rng (es : List Ex) | rvs (e : Ex) | zp (es : List Ex)
end
inductive St where
  | asg (i : Nat) (e : Ex) | setix (i : Nat) (k e : Ex) | nset (i k j : Nat) (e : Ex)
  | ifs (t : Ex) (a b : List St) | whl (t : Ex) (b : List St) | fors (tg : Tg) (it : It) (b : List St)
  | ret (e : Ex) | expr (e : Ex) | brk | cont | pass
  | rsC (c : Nat) (m : Str) | rsW (e : Ex) | tryS (b : List St) (i j : Nat)
  | raw

/-! ### operations on values -/
def pdiv (i j : Int) : Option Int := if 0 < j ∧ j.natAbs.log2 < 9000 then some (i / j) else none
def pmod (i j : Int) : Option Int := if 0 < j then some (i % j) else if j ≠ 0 then some (i.fmod j) else none
def mulOk (i j : Int) : Prop := ((-(2 ^ 64) < i ∧ i < 2 ^ 64) ∨ (-(2 ^ 64) < j ∧ j < 2 ^ 64)) ∨ i.natAbs.log2 + j.natAbs.log2 < 1000000
instance (i j : Int) : Decidable (mulOk i j) := by unfold mulOk; exact inferInstance
def pmul (i j : Int) : Option Int := if mulOk i j then some (i * j) else none
def powOk (i j : Int) : Prop := 0 ≤ j ∧ j ≤ 1000000 ∧ i.natAbs < 2 ^ 64
instance (i j : Int) : Decidable (powOk i j) := by unfold powOk; exact inferInstance
def iop : Bop → Int → Int → Option Int
  | .add, i, j => some (i + j)
  | .sub, i, j => some (i - j)
  | .mul, i, j => pmul i j
  | .fdiv, i, j => pdiv i j
  | .mod, i, j => pmod i j
  | .pow, i, j => if powOk i j then some (i ^ j.toNat) else none
  | .and, i, j => some (Builtin.bitAnd i j)
  | .or, i, j => some (Builtin.bitOr i j)
  | .xor, i, j => some (Builtin.bitXor i j)
  | .shl, i, j => if powOk i j then some (i * 2 ^ j.toNat) else none
  | .shr, i, j => if 0 ≤ j then some (i / 2 ^ j.toNat) else none
/-- a list that is repeated -/
def reps (xs : List Val) (k : Nat) : List Val := (List.replicate k xs).flatten
def repOk (n : Nat) (k : Int) : Prop := -(2 ^ 63) ≤ k ∧ k < 2 ^ 63 ∧ n * k.toNat ≤ sizeLine
instance (n : Nat) (k : Int) : Decidable (repOk n k) := by unfold repOk; exact inferInstance
def bin : Bop → Val → Val → Option OV
  | o, .int i, .int j => (iop o i j).map fun k => .p (.int k)
  | .add, .str x, .str y => if x.length + y.length ≤ sizeLine then some (.p (.str (x ++ y))) else none
  | .add, .tup xs, .tup ys => if xs.length + ys.length ≤ sizeLine then some (.p (.tup (xs ++ ys))) else none
  | .add, .lst xs, .lst ys => if xs.length + ys.length ≤ sizeLine then some (.l (xs ++ ys)) else none
  | .mul, .lst xs, .int k => if repOk xs.length k then some (.l (reps xs k.toNat)) else none
  | .mul, .tup xs, .int k => if xs ≠ [] ∧ 2 ≤ k ∧ k ≤ 1000 ∧ xs.length ≤ 1000 then some (.p (.tup (reps xs k.toNat))) else none
  | _, _, _ => none
mutual
def pd : Val → Option PyData
  | .non => some .none
  | .bl b => some (.bool b)
  | .int i => some (.int i)
  | .str x => some (.str x)
  | .tup xs => (pds xs).map .tuple
  | .lst xs => (pds xs).map .list
  | .dct _ _ => none
  | .scr xs => (pds xs).map .list
  | .er _ _ => none
def pds : List Val → Option (List PyData)
  | [] => some []
  | x :: xs => match pd x, pds xs with
    | some d, some ds => some (d :: ds)
    | _, _ => none
end
/-! dicts: keys are whole numbers and texts -/
def isKey : Val → Bool
  | .int _ => true
  | .str _ => true
  | _ => false
def keq : Val → Val → Bool
  | .int i, .int j => decide (i = j)
  | .str x, .str y => decide (x = y)
  | _, _ => false
def dget : List Val → List Val → Val → Option Val
  | k :: ks, v :: vs, x => if keq k x then some v else dget ks vs x
  | _, _, _ => none
def dhas (ks : List Val) (x : Val) : Bool := ks.any fun k => keq k x
def dsub : List Val → List Val → Val → Val → List Val
  | k :: ks, v :: vs, x, w => (if keq k x then w else v) :: dsub ks vs x w
  | _, _, _, _ => []
def dputK (ks : List Val) (x : Val) : List Val := if dhas ks x then ks else ks ++ [x]
def dputV (ks vs : List Val) (x w : Val) : List Val := if dhas ks x then dsub ks vs x w else vs ++ [w]
/-- the same thing, of those that are told by value -/
def same1 : Val → Val → Bool
  | .non, .non => true
  | .bl a, .bl b => decide (a = b)
  | .int i, .int j => decide (i = j)
  | .str x, .str y => decide (x = y)
  | _, _ => false
def dsame : List Val → List Val → List Val → List Val → Bool
  | k :: ks, v :: vs, ls, ws => (match dget ls ws k with
    | some w => same1 v w
    | none => false) && dsame ks vs ls ws
  | [], [], _, _ => true
  | _, _, _, _ => false
/-- a == b -/
def veq : Val → Val → Option Bool
  | .int i, .int j => some (decide (i = j))
  | .str x, .str y => some (decide (x = y))
  | .bl x, .bl y => some (decide (x = y))
  | .dct ks vs, .dct ls ws => if ks.length = ls.length ∧ dsame ks vs ls ws = true then some true else none
  | a, b => match pd a, pd b with
    | some d, some e => if SeqAt.shaped d && SeqAt.shaped e then some (PyData.eqv d e) else none
    | _, _ => none
/-- a flat thing is among others -/
def flat : Val → Bool
  | .non => true
  | .bl _ => true
  | .int _ => true
  | .str _ => true
  | _ => false
def b2z (b : Bool) : Int := if b then 1 else 0
def feq : Val → Val → Bool
  | .non, .non => true
  | .str x, .str y => decide (x = y)
  | .int i, .int j => decide (i = j)
  | .int i, .bl b => decide (i = b2z b)
  | .bl b, .int i => decide (b2z b = i)
  | .bl a, .bl b => decide (a = b)
  | _, _ => false
def vmem (x : Val) (ys : List Val) : Option Bool := if flat x && ys.all flat then some (ys.any fun y => feq y x) else none
def vin : Val → Val → Option Bool
  | x, .tup ys => vmem x ys
  | x, .lst ys => vmem x ys
  | x, .dct ks vs => if isKey x then some (dget ks vs x).isSome else none
  | .str x, .str y => some (!(Builtin.Str.occurrences y x 0 y.length 1).isEmpty)
  | _, _ => none
def asInts : List Val → Option (List Int)
  | [] => some []
  | .int i :: xs => (asInts xs).map (i :: ·)
  | _ :: _ => none
/-- one list of whole numbers ahead of another -/
def vlt (xs ys : List Val) : Option Bool := match asInts xs, asInts ys with
  | some a, some b => some (HT.lexLt a b)
  | _, _ => none
/-- where a flat thing is first -/
def fidx (x : Val) : List Val → Option Nat
  | [] => none
  | y :: ys => if feq y x then some 0 else (fidx x ys).map (· + 1)
def vlidx (ys : List Val) (x : Val) : Option OV := if flat x && ys.all flat then (fidx x ys).map fun (k : Nat) => OV.p (.int (k : Int)) else none
def cmp : Cop → Val → Val → Option Bool
  | .eq, a, b => veq a b
  | .ne, a, b => (veq a b).map (!·)
  | .lt, .int i, .int j => some (decide (i < j))
  | .lt, .lst xs, .lst ys => vlt xs ys
  | .le, .int i, .int j => some (decide (i ≤ j))
  | .gt, .int i, .int j => some (decide (j < i))
  | .ge, .int i, .int j => some (decide (j ≤ i))
  | .inn, a, b => vin a b
  | .notin, a, b => (vin a b).map (!·)
  | .is, .non, .non => some true
  | .is, .bl a, .bl b => some (decide (a = b))
  | .isnot, .bl a, .bl b => some (!decide (a = b))
  | .is, .bl _, .non => some false
  | .is, .int _, .non => some false
  | .is, .str _, .non => some false
  | .is, .tup _, .non => some false
  | .is, .lst _, .non => some false
  | .is, .er _ _, .non => some false
  | .isnot, .non, .non => some false
  | .isnot, .bl _, .non => some true
  | .isnot, .int _, .non => some true
  | .isnot, .str _, .non => some true
  | .isnot, .tup _, .non => some true
  | .isnot, .lst _, .non => some true
  | .isnot, .er _ _, .non => some true
  | _, _, _ => none
def truthy : Val → Option Bool
  | .non => some false
  | .bl b => some b
  | .int i => some (i != 0)
  | .str x => if x.length ≤ sizeLine then some (x.length != 0) else none
  | .tup xs => some (!xs.isEmpty)
  | .lst xs => some (!xs.isEmpty)
  | .dct _ _ => none
  | .scr _ => none
  | .er _ _ => none
/-- xs[i] -/
def vix : Val → Val → Option Val
  | .tup xs, .int i => atI xs i
  | .lst xs, .int i => atI xs i
  | .scr xs, .int i => atI xs i
  | .dct ks vs, k => if isKey k then dget ks vs k else none
  | .str x, .int i => if x.length ≤ sizeLine then (atI x.cps.toList i).map fun c => .str ⟨#[c]⟩ else none
  | _, _ => none
def cutL (xs : List Val) (lo hi : Option Int) : List Val := (xs.drop (HT.sIx xs.length 0 lo)).take (HT.sIx xs.length xs.length hi - HT.sIx xs.length 0 lo)
def vslc : Val → Option Int → Option Int → Option OV
  | .tup xs, lo, hi => some (.p (.tup (cutL xs lo hi)))
  | .lst xs, lo, hi => some (.l (cutL xs lo hi))
  | .scr xs, lo, hi => some (.l (cutL xs lo hi))
  | .str x, lo, hi => if x.length ≤ sizeLine then some (.p (.str (cutS x lo hi))) else none
  | _, _, _ => none
def vrev : Val → Option OV
  | .tup xs => some (.p (.tup xs.reverse))
  | .lst xs => some (.l xs.reverse)
  | _ => none
def items : Val → Option (List Val)
  | .tup xs => some xs
  | .lst xs => some xs
  | .scr xs => some xs
  | _ => none
/-- what is walked: the signs of a text, too -/
def itemsE : Val → Option (List Val)
  | .str x => some (x.cps.toList.map fun c => .str ⟨#[c]⟩)
  | v => items v
/-- x.split(sep) -/
def vspl (x s : Str) : Option OV := if (s.length == 0) = false ∧ x.length + 2 ≤ sizeLine then some (.l ((Txt.split x s).map .str)) else none
def asInt : Val → Option Int
  | .int i => some i
  | _ => none
def ins (i : Int) : List Int → List Int
  | [] => [i]
  | j :: js => if i ≤ j then i :: j :: js else j :: ins i js
def isort : List Int → List Int
  | [] => []
  | i :: is => ins i (isort is)
def asStrs : List Val → Option (List Str)
  | [] => some []
  | .str i :: xs => (asStrs xs).map (i :: ·)
  | _ :: _ => none
def ltS (x y : Str) : Bool := decide (x.cps.toList < y.cps.toList)
def insS (x : Str) : List Str → List Str
  | [] => [x]
  | y :: ys => if ltS y x then y :: insS x ys else x :: y :: ys
def ssort : List Str → List Str
  | [] => []
  | x :: xs => insS x (ssort xs)
def asBls : List Val → Option (List Bool)
  | [] => some []
  | .bl i :: xs => (asBls xs).map (i :: ·)
  | _ :: _ => none
def insB (x : Bool) : List Bool → List Bool
  | [] => [x]
  | y :: ys => if x && !y then y :: insB x ys else x :: y :: ys
def bsort : List Bool → List Bool
  | [] => []
  | x :: xs => insB x (bsort xs)
def vsort (xs : List Val) : Option OV := match asInts xs with
  | some ns => some (.l ((isort ns).map .int))
  | none => (match asStrs xs with
    | some ss => some (.l ((ssort ss).map .str))
    | none => (asBls xs).map fun bs => .l ((bsort bs).map .bl))
def vsidx : Val → Val → Option OV
  | .str x, .str y => (Builtin.Str.occurrences x y 0 x.length 1).head?.map fun (k : Nat) => OV.p (.int (k : Int))
  | _, _ => none
def joinOk (s : Str) (ys : List Str) : Prop := (ys.map (·.length)).sum + ys.length * s.length ≤ 16777216
instance (s : Str) (ys : List Str) : Decidable (joinOk s ys) := by unfold joinOk; exact inferInstance
def vjn (s : Str) (v : Val) : Option OV := match items v with
  | some xs => (match asStrs xs with
    | some ys => if joinOk s ys then some (.p (.str (Txt.join s ys))) else none
    | none => none)
  | none => none
/-- pairs of a text and a value -/
def asPs : List Val → Option (List Str × List Val)
  | [] => some ([], [])
  | .tup [.str k, v] :: xs => (asPs xs).map fun p => (k :: p.1, v :: p.2)
  | _ :: _ => none
def bi : Bi → List Val → Option OV
  | .len, [.tup xs] => some (.p (.int xs.length))
  | .len, [.lst xs] => some (.p (.int xs.length))
  | .len, [.scr xs] => some (.p (.int xs.length))
  | .len, [.dct ks _] => some (.p (.int ks.length))
  | .dict, [.dct ks vs] => some (.d ks vs)
  | .len, [.str x] => if x.length ≤ sizeLine then some (.p (.int x.length)) else none
  | .sum, [.lst xs] => (asInts xs).map fun ns => .p (.int ns.sum)
  | .int, [.int i] => some (.p (.int i))
  | .int, [.bl b] => some (.p (.int (b2z b)))
  | .tuple, [.tup xs] => some (.p (.tup xs))
  | .tuple, [.lst xs] => some (.p (.tup xs))
  | .list, [.tup xs] => some (.l xs)
  | .list, [.lst xs] => some (.l xs)
  | .list, [.scr xs] => some (.l xs)
  | .sorted, [.lst xs] => if xs.length < 64 then vsort xs else none
  | .sorted, [.dct ks _] => if ks.length < 64 then (match asInts ks with
    | some ns => some (.l ((isort ns).map .int))
    | none => (asStrs ks).map fun ss => .l ((ssort ss).map .str)) else none
  | .abs, [.int i] => some (.p (.int (if i < 0 then -i else i)))
  | .min, [.int i, .int j] => some (.p (.int (if j < i then j else i)))
  | .max, [.int i, .int j] => some (.p (.int (if j > i then j else i)))
  | .dict, [.lst xs] => (match asPs xs with
    | some (ks, vs) => if ks.Nodup then some (.d (ks.map .str) vs) else none
    | none => none)
  | .str, [.int i] => if i.natAbs.log2 < 1920 then some (.p (.str (toString i))) else none
  | .str, [.str x] => some (.p (.str x))
  | .int, [.str x] => if x.length ≤ 640 then (PySem.intText? x).map fun n => .p (.int n) else none
  | .all, [.lst xs] => (asBls xs).map fun bs => .p (.bl (bs.all id))
  | _, _ => none
def isi : Ty → Val → Option Bool
  | .int, .int _ => some true
  | .int, .bl _ => some true
  | .int, .str _ => some false
  | .int, .non => some false
  | .int, .tup _ => some false
  | .int, .lst _ => some false
  | .bool, .bl _ => some true
  | .bool, .int _ => some false
  | .bool, .str _ => some false
  | .bool, .non => some false
  | .bool, .tup _ => some false
  | .bool, .lst _ => some false
  | .str, .str _ => some true
  | .str, .int _ => some false
  | .str, .bl _ => some false
  | .str, .non => some false
  | .str, .tup _ => some false
  | .str, .lst _ => some false
  | .tuple, .tup _ => some true
  | .tuple, .lst _ => some false
  | .tuple, .int _ => some false
  | .tuple, .bl _ => some false
  | .tuple, .str _ => some false
  | .tuple, .non => some false
  | .dict, .dct _ _ => some true
  | .dict, .int _ => some false
  | .dict, .bl _ => some false
  | .dict, .str _ => some false
  | .dict, .non => some false
  | .dict, .tup _ => some false
  | .dict, .lst _ => some false
  | .list, .lst _ => some true
  | .list, .tup _ => some false
  | .list, .int _ => some false
  | .list, .bl _ => some false
  | .list, .str _ => some false
  | .list, .non => some false
  | _, _ => none
def dOk (ks : List Str) (n : Nat) : Prop := ks ≠ [] ∧ ks.length = n ∧ ks.length ≤ 15 ∧ ks.Nodup
instance (ks : List Str) (n : Nat) : Decidable (dOk ks n) := by unfold dOk; exact inferInstance
def isi2 (t1 t2 : Ty) (v : Val) : Option Bool := match isi t1 v, isi t2 v with
  | some a, some b => some (a || b)
  | _, _ => none
def range (lo : Int) : Nat → List Val
  | 0 => []
  | n + 1 => .int lo :: range (lo + 1) n
def rngOk (i : Int) : Prop := -(2 ^ 62) ≤ i ∧ i < 2 ^ 62
instance (i : Int) : Decidable (rngOk i) := by unfold rngOk; exact inferInstance
def rngs : List Val → Option (List Val)
  | [.int j] => if rngOk j then some (range 0 j.toNat) else none
  | [.int i, .int j] => if rngOk i ∧ rngOk j then some (range i (j - i).toNat) else none
  | _ => none
/-- zip -/
def zip2 : List Val → List Val → List Val
  | x :: xs, y :: ys => .tup [x, y] :: zip2 xs ys
  | _, _ => []
def zip3 : List Val → List Val → List Val → List Val
  | x :: xs, y :: ys, z :: zs => .tup [x, y, z] :: zip3 xs ys zs
  | _, _, _ => []
def zips : List Val → Option (List Val)
  | [.lst xs, .lst ys] => some (zip2 xs ys)
  | [.tup xs, .tup ys] => some (zip2 xs ys)
  | [.lst xs, .lst ys, .lst zs] => some (zip3 xs ys zs)
  | _ => none

/-! ### what terms come to -/
/-- an operand: a value of the moment, or a name that is read at the end -/
inductive Od where
  | v (r : OV) | nm (i : Nat)
def rd (env : Env) : Od → Option Val
  | .v r => fl r
  | .nm i => match gs env i with
    | some ov => fl ov
    | none => none
def rds (env : Env) : List Od → Option (List Val)
  | [] => some []
  | o :: os => match rd env o, rds env os with
    | some v, some vs => some (v :: vs)
    | _, _ => none
/-- an argument -/
inductive Arg where
  | v (r : OV) | mv (i : Nat)
def take : List Arg → Env → Option (List OV × Env)
  | [], env => some ([], env)
  | .v r :: as, env => match take as env with
    | some (os, env') => some (r :: os, env')
    | none => none
  | .mv i :: as, env => match gs env i with
    | some (.p v) => (match take as env with
      | some (os, env') => some (.p v :: os, env')
      | none => none)
    | some ov => (match take as (ss env i none) with
      | some (os, env') => some (ov :: os, env')
      | none => none)
    | none => none
/-- behind a call: what was lent comes back -/
def back : List Arg → List OV → Env → Env → Env
  | .mv i :: as, o :: os, r :: rs, env => back as os rs (if isP o then env else ss env i r)
  | _ :: as, _ :: os, _ :: rs, env => back as os rs env
  | _, _, _, env => env
def puts : List Nat → List Val → Env → Option Env
  | [], [], env => some env
  | i :: is, x :: xs, env => puts is xs (ss env i (some (.p x)))
  | _, _, _ => none
def putT (pr : List Bool) : Tg → Val → Env → Option Env
  | .nm i, x, env => if pr.getD i false then none else some (ss env i (some (.p x)))
  | .tp is, .tup xs, env => if is.any fun i => pr.getD i false then none else puts is xs env
  | .tp _, _, _ => none
def wipeT : Tg → Env → Env
  | .nm i, env => ss env i none
  | .tp is, env => is.foldl (fun e i => ss e i none) env
/-- what a target's name held before, if it was nobody's -/
def kP : Option OV → Option OV
  | some (.p v) => some (.p v)
  | _ => none
def restT : Tg → Env → Env → Env
  | .nm i, old, env => ss env i (kP (gs old i))
  | .tp is, old, env => is.foldl (fun e i => ss e i (kP (gs old i))) env
def R.nx {α : Type} : R α → R α
  | .ok a env => .ok a env
  | _ => .no
def allP : List OV → Option (List Val)
  | [] => some []
  | .p v :: xs => (allP xs).map (v :: ·)
  | _ :: _ => none
def lstO (xs : List OV) : OV := match allP xs with
  | some vs => .l vs
  | none => .nd xs
def lcLoop (put : Val → Env → Option Env) (test : Env → R Bool) (elt : Env → R Val) : List Val → List Val → Env → R (List Val)
  | [], acc, env => .ok acc env
  | x :: xs, acc, env => match put x env with
    | none => .no
    | some env1 => (test env1).nx.bd fun b env2 => if b then (elt env2).nx.bd fun y env3 => if acc.length < sizeLine then lcLoop put test elt xs (acc ++ [y]) env3 else .no else lcLoop put test elt xs acc env2
/-- an operand, f what its term comes to -/
def od (e : Ex) (f : Env → R OV) (env : Env) : R Od := match e with
  | .var i => (match gs env i with
    | some (.nd _) => .no
    | some _ => .ok (.nm i) env
    | none => .no)
  | .ix (.var i) (.int k) => (match gs env i with
    | some (.nd xs) => (match xs[k]? with
      | some (.p v) => .ok (.v (.p v)) env
      | _ => .no)
    | _ => (f env).bd fun r env => .ok (.v r) env)
  | _ => (f env).bd fun r env => .ok (.v r) env
def od1 (e : Ex) (f : Env → R OV) (env : Env) (k : Val → Env → R OV) : R OV :=
  (od e f env).bd fun x env => match rd env x with
    | some v => k v env
    | none => .no
def od2 (a : Ex) (f : Env → R OV) (b : Ex) (g : Env → R OV) (env : Env) (k : Val → Val → Option OV) : R OV :=
  (od a f env).bd fun x env => (od b g env).bd fun y env => match rd env x, rd env y with
    | some v, some w => R.of (k v w) env
    | _, _ => .no
def pv (f : Env → R OV) (env : Env) : R Val := (f env).bd fun r env => .ok (fz r) env
def tst (e : Ex) (f : Env → R OV) (env : Env) : R Bool :=
  (od e f env).bd fun x env => match rd env x with
    | some v => R.of (truthy v) env
    | none => .no
def arg (m : Am) (e : Ex) (f : Env → R OV) (env : Env) : R Arg := match m with
  | .P => (pv f env).bd fun v env => .ok (.v (.p v)) env
  | .O => (f env).bd fun r env => .ok (.v r) env
  | .M => (match e with
    | .var i => (match gs env i with
      | some _ => .ok (.mv i) env
      | none => .no)
    | _ => .no)
/-- own classes of errors, by number: 0 is the base of all -/
def iss (c d : Nat) : Bool := d == 0 || c == d
/-- a <= b <= c, whole numbers -/
def chR (f g h : Env → R OV) (env : Env) : R Bool := (f env).bd fun x env => (g env).bd fun y env => match x, y with
  | .p (.int i), .p (.int j) => if i ≤ j then (h env).bd fun z env => (match z with
    | .p (.int k) => .ok (decide (j ≤ k)) env
    | _ => .no) else .ok false env
  | _, _ => .no
section
variable (cl : Nat → List OV → CR) (gl : Nat → Option Val)
mutual
def ev : Ex → Env → R OV
  | .var i, env => match gs env i with
    | some (.p v) => .ok (.p v) env
    | some ov => .ok (.p (fz ov)) (ss env i (some (.p (fz ov))))
    | none => .no
  | .int n, env => .ok (.p (.int n)) env
  | .str x, env => .ok (.p (.str x)) env
  | .bl b, env => .ok (.p (.bl b)) env
  | .non, env => .ok (.p .non) env
  | .gl g, env => (match gl g with
    | some (.dct _ _) => .no
    | some v => .ok (.p v) env
    | none => .no)
  | .neg a, env => od1 a (ev a) env fun v env => match v with
    | .int i => .ok (.p (.int (-i))) env
    | _ => .no
  | .bin o a b, env => od2 a (ev a) b (ev b) env (bin o)
  | .cmp o a b, env => od2 a (ev a) b (ev b) env fun x y => (cmp o x y).map fun k => .p (.bl k)
  | .bop isAnd es, env => evb isAnd es env
  | .nt a, env => (tst a (ev a) env).bd fun b env => .ok (.p (.bl (!b))) env
  | .ife t a b, env => (tst t (ev t) env).bd fun c env => if c then ev a env else ev b env
  | .ix a i, env => od2 a (ev a) i (ev i) env fun x y => (vix x y).map .p
  | .slc a lo hi, env => (od a (ev a) env).bd fun o env => (evo? lo env).bd fun l env => (evo? hi env).bd fun h env => match rd env o with
    | some x => R.of (vslc x l h) env
    | none => .no
  | .rev a, env => od1 a (ev a) env fun v env => R.of (vrev v) env
  | .tup es, env => (evs es env).bd fun vs env => if vs.length ≤ sizeLine then .ok (.p (.tup vs)) env else .no
  | .lst es, env => (evs es env).bd fun vs env => if vs.length ≤ sizeLine then .ok (.l vs) env else .no
  | .lc elt tg it ifs _, env => (evi it env).bd fun xs env0 => (lcLoop (fun x env => putT [] tg x (wipeT tg env)) (evt? ifs) (pv (ev elt)) xs [] env0).bd fun ys env => .ok (.l ys) (restT tg env0 env)
  | .call f ms es, env => (eva es ms env).bd fun as env => match take as env with
    | none => .no
    | some (os, env1) => match cl f os with
      | .ok r rs => .ok r (back as os rs env1)
      | .exc x rs => .exc x (back as os rs env1)
      | .no => .no
  | .bi b es, env => (odl es env).bd fun os env => match rds env os with
    | some vs => R.of (bi b vs) env
    | none => .no
  | .app i e, env => match gs env i with
    | some (.l _) => (pv (ev e) env).bd fun v env => (match gs env i with
      | some (.l xs) => if xs.length < sizeLine then .ok (.p .non) (ss env i (some (.l (xs ++ [v])))) else .no
      | _ => .no)
    | _ => .no
  | .pop i, env => match gs env i with
    | some (.l xs) => (match xs[xs.length - 1]? with
      | some v => .ok (.p v) (ss env i (some (.l xs.dropLast)))
      | none => .no)
    | _ => .no
  | .nix i k j, env => match gs env i, gs env j with
    | some (.nd xs), some (.p (.int n)) => (match xs[k]? with
      | some (.l ys) => R.of ((atI ys n).map .p) env
      | _ => .no)
    | _, _ => .no
  | .nlen i k, env => match gs env i with
    | some (.nd xs) => (match xs[k]? with
      | some (.l ys) => .ok (.p (.int ys.length)) env
      | _ => .no)
    | _ => .no
  | .isi e t, env => od1 e (ev e) env fun v env => R.of ((isi t v).map fun k => .p (.bl k)) env
  | .dd, env => .ok (.d [] []) env
  | .jn s e, env => od1 e (ev e) env fun v env => R.of (vjn s v) env
  | .gin neg g e, env => (match gl g with
    | some (.dct ks vs) => od1 e (ev e) env fun v env => (match v with
      | .str x => .ok (.p (.bl (neg != (dget ks vs (.str x)).isSome))) env
      | _ => .no)
    | _ => .no)
  | .gix g e, env => (match gl g with
    | some (.dct ks vs) => od1 e (ev e) env fun v env => (match v with
      | .str x => R.of ((dget ks vs (.str x)).map .p) env
      | _ => .no)
    | _ => .no)
  | .gget g e, env => (match gl g with
    | some (.dct ks vs) => od1 e (ev e) env fun v env => (match v with
      | .str x => .ok (.p ((dget ks vs (.str x)).getD .non)) env
      | _ => .no)
    | _ => .no)
  | .sidx i b, env => (match gs env i with
    | some (.p (.str x)) => od1 b (ev b) env fun w env => R.of (vsidx (.str x) w) env
    | some (.p (.lst ys)) => od1 b (ev b) env fun w env => R.of (vlidx ys w) env
    | _ => .no)
  | .dl ks es, env => (evs es env).bd fun vs env => if dOk ks vs.length then .ok (.d (ks.map .str) vs) env else .no
  | .is2 e t1 t2, env => od1 e (ev e) env fun v env => R.of ((isi2 t1 t2 v).map fun k => .p (.bl k)) env
  | .spl i x, env => (match gs env i with
    | some (.p (.str y)) => R.of (vspl y x) env
    | _ => .no)
  | .exr i e, env => (match gs env i with
    | some (.l _) => (pv (ev e) env).bd fun v env => (match gs env i, v with
      | some (.l ys), .tup xs => if ys.length + xs.length ≤ sizeLine then .ok (.p .non) (ss env i (some (.l (ys ++ xs.reverse)))) else .no
      | _, _ => .no)
    | _ => .no)
  | .chn a b c, env => (chR (ev a) (ev b) (ev c) env).bd fun k env => .ok (.p (.bl k)) env
  | .lix es b, env => (evs es env).bd fun vs env => if vs.length ≤ sizeLine then od1 b (ev b) env fun w env => R.of (vlidx vs w) env else .no
  | .isx i cs, env => (match gs env i with
    | some (.p (.er c _)) => if c < 8 then .ok (.p (.bl (cs.any (iss c)))) env else .no
    | _ => .no)
  | .isc i d, env => (match gs env i with
    | some (.p (.er c _)) => if c < 8 then .ok (.p (.bl (iss c d))) env else .no
    | _ => .no)
  | .isv i, env => (match gs env i with
    | some (.p (.er c _)) => if c < 8 then .ok (.p (.bl true)) env else .no
    | _ => .no)
  | .wrd i, env => (match gs env i with
    | some (.p (.er c (some x))) => if c = 3 then .ok (.p (.str x)) env else .no
    | _ => .no)
def evs : List Ex → Env → R (List Val)
  | [], env => .ok [] env
  | e :: es, env => (pv (ev e) env).bd fun v env => (evs es env).bd fun vs env => .ok (v :: vs) env
def odl : List Ex → Env → R (List Od)
  | [], env => .ok [] env
  | e :: es, env => (od e (ev e) env).bd fun o env => (odl es env).bd fun os env => .ok (o :: os) env
def evo? : Option Ex → Env → R (Option Int)
  | none, env => .ok none env
  | some e, env => (pv (ev e) env).bd fun v env => match v with
    | .int i => .ok (some i) env
    | _ => .no
def evt? : Option Ex → Env → R Bool
  | none, env => .ok true env
  | some e, env => tst e (ev e) env
/-- a and b and ..; a or b or .. -/
def evb (isAnd : Bool) : List Ex → Env → R OV
  | [], _ => .no
  | [e], env => (pv (ev e) env).bd fun v env => match v with
    | .bl b => .ok (.p (.bl b)) env
    | _ => .no
  | e :: es, env => (pv (ev e) env).bd fun v env => match v with
    | .bl b => if b = isAnd then evb isAnd es env else .ok (.p (.bl b)) env
    | _ => .no
/-- what is walked -/
def evi : It → Env → R (List Val)
  | .rng es, env => (evs es env).bd fun vs env => R.of (rngs vs) env
  | .zp es, env => (evs es env).bd fun vs env => R.of (zips vs) env
  | .rvs e, env => (pv (ev e) env).bd fun v env => R.of ((items v).map List.reverse) env
  | .e e, env => (pv (ev e) env).bd fun v env => R.of (itemsE v) env
def eva : List Ex → List Am → Env → R (List Arg)
  | [], [], env => .ok [] env
  | e :: es, m :: ms, env => (arg m e (ev e) env).bd fun a env => (eva es ms env).bd fun as env => .ok (a :: as) env
  | _, _, _ => .no
end
end
/-! ### statements -/
inductive Fl where
  | nx | rt (r : OV) | bk | ct
/-- the keys, if what is walked is a name's dict -/
def dvar : It → Env → Option (List Val)
  | .e (.var i), env => (match gs env i with
    | some (.p (.dct ks _)) => some ks
    | _ => none)
  | _, _ => none
def forLoop (put : Val → Env → Option Env) (body : Env → R Fl) : List Val → Env → R Fl
  | [], env => .ok .nx env
  | x :: xs, env => match put x env with
    | none => .no
    | some env1 => (body env1).bd fun f env2 => match f with
      | .nx => forLoop put body xs env2
      | .ct => forLoop put body xs env2
      | .bk => .ok .nx env2
      | .rt r => .ok (.rt r) env2
def whLoop (test : Env → R Bool) (body : Env → R Fl) : Nat → Env → R Fl
  | 0, _ => .no
  | n + 1, env => (test env).bd fun b env1 => if b then (body env1).bd fun f env2 => (match f with
      | .nx => whLoop test body n env2
      | .ct => whLoop test body n env2
      | .bk => .ok .nx env2
      | .rt r => .ok (.rt r) env2)
    else .ok .nx env1
/-- more turns than any loop makes -/
def most : Nat := 1000000000
def setL (xs : List Val) (k : Val) (v : Val) : Option (List Val) := match k with
  | .int i => (ixN xs.length i).map fun j => xs.set j v
  | _ => none
def setN (xs : List OV) (k : Val) (v : Val) : Option (List OV) := match k with
  | .int i => (match ixN xs.length i with
    | some j => (match xs[j]? with
      | some (.p _) => some (xs.set j (.p v))
      | _ => none)
    | none => none)
  | _ => none
/-- handed back: a name gives away what it holds -/
def mvE (e : Ex) (f : Env → R OV) (env : Env) : R OV := match e with
  | .var i => (match gs env i with
    | some (.p v) => .ok (.p v) env
    | some ov => .ok ov (ss env i none)
    | none => .no)
  | _ => f env
section
variable (cl : Nat → List OV → CR) (gl : Nat → Option Val)
def mvEs : List Ex → Env → R (List OV)
  | [], env => .ok [] env
  | e :: es, env => (mvE e (ev cl gl e) env).bd fun v env => (mvEs es env).bd fun vs env => .ok (v :: vs) env
def retE (e : Ex) (env : Env) : R OV := match e with
  | .lst es => (mvEs cl gl es env).bd fun vs env => if vs.length ≤ sizeLine then .ok (lstO vs) env else .no
  | e => mvE e (ev cl gl e) env
variable (pr : List Bool)
mutual
def ex : St → Env → R Fl
  | .asg i e, env => (ev cl gl e env).bd fun r env => if pr.getD i false then .no else .ok .nx (ss env i (some r))
  | .setix i k e, env => (pv (ev cl gl e) env).bd fun v env => match gs env i with
    | none => .no
    | some _ => (pv (ev cl gl k) env).bd fun n env => match gs env i with
      | some (.l xs) => (match setL xs n v with
        | some zs => .ok .nx (ss env i (some (.l zs)))
        | none => .no)
      | some (.nd xs) => (match setN xs n v with
        | some zs => .ok .nx (ss env i (some (.nd zs)))
        | none => .no)
      | some (.d ks vs) => if isKey n && decide (ks.length < sizeLine) then .ok .nx (ss env i (some (.d (dputK ks n) (dputV ks vs n v)))) else .no
      | _ => .no
  | .nset i k j e, env => (pv (ev cl gl e) env).bd fun v env => match gs env i, gs env j with
    | some (.nd xs), some (.p n) => (match xs[k]? with
      | some (.l ys) => (match setL ys n v with
        | some zs => .ok .nx (ss env i (some (.nd (xs.set k (.l zs)))))
        | none => .no)
      | _ => .no)
    | _, _ => .no
  | .ifs t a b, env => (tst t (ev cl gl t) env).bd fun c env => if c then exs a env else exs b env
  | .whl t b, env => whLoop (tst t (ev cl gl t)) (exs b) most env
  | .fors tg it b, env => (match dvar it env with
    | some ks => (forLoop (putT pr tg) (exs b) ks env).nx
    | none => (evi cl gl it env).bd fun xs env => forLoop (putT pr tg) (exs b) xs env)
  | .ret e, env => (retE cl gl e env).bd fun r env => .ok (.rt r) env
  | .expr e, env => (ev cl gl e env).bd fun _ env => .ok .nx env
  | .brk, env => .ok .bk env
  | .cont, env => .ok .ct env
  | .pass, env => .ok .nx env
  | .rsC c _, env => .exc ⟨c, none⟩ env
  | .rsW e, env => (pv (ev cl gl e) env).bd fun v env => (match v with
    | .str x => if x.length ≤ 1000000 then .exc ⟨3, some x⟩ env else .no
    | _ => .no)
  | .tryS b i j, env => (match exs b env with
    | .ok f env => .ok f env
    | .exc x env => if decide (x.cls < 8) && !(pr.getD i false) && !(pr.getD j false) then .ok .nx (ss (ss env j (some (.p (.er x.cls x.word)))) i none) else .no
    | .no => .no)
  | .raw, _ => .no
def exs : List St → Env → R Fl
  | [], env => .ok .nx env
  | s :: ss, env => (ex s env).bd fun f env => match f with
    | .nx => exs ss env
    | f => .ok f env
end
end
structure Fn where
  np : Nat
  ns : Nat
  body : List St
def mask : List OV → Env → Env
  | o :: os, r :: rs => (if isP o then none else r) :: mask os rs
  | _, _ => []
def fin (args : List OV) : R Fl → CR
  | .ok (.rt r) env => .ok r (mask args env)
  | .ok .nx env => .ok (.p .non) (mask args env)
  | .ok _ _ => .no
  | .exc x env => .exc x (mask args env)
  | .no => .no
def run (D : Nat → Option Fn) (gl : Nat → Option Val) : Nat → Nat → List OV → CR
  | 0, _, _ => .no
  | k + 1, f, args => match D f with
    | none => .no
    | some fd => if args.length = fd.np then fin args (exs (run D gl k) gl (args.map fun o => !isP o) fd.body (args.map some ++ List.replicate (fd.ns - fd.np) none)) else .no
end EN

/-! EnB: values and names over the heap; what a reading promises. -/
namespace EN
open PySem L2 PyProof.Rows
abbrev Sg := L2.St

/-- the own classes of errors, by number -/
def cN (c : Nat) : Str := (["WidthError", "NoSum", "NoClaim", "NoName", "NoWords", "NoTurning", "NoShorter", "NoAsk"] : List Str).getD c ""
/-- where such a class stands -/
def CofK (K : PySem.W.Frag) (c : Nat) : Addr := match PySem.W.nsIn K mainGlobals (cN c) with
  | some (some (.ref a)) => a
  | _ => 0
/-- at a: an error of the class at C, its dict at d -/
def erO (a C : Addr) (d : Option Addr) : HO := .ext fun h => ∃ oe : Obj, h.get? a = some oe ∧ oe.cls = .ref C ∧ oe.dict = d ∧ ∃ vs, oe.data = .fields vs
def ErW (F : Hp) (d : Option Addr) : Option Str → Prop
  | none => d = none
  | some x => ∃ dd, d = some dd ∧ F dd = some (.xd [("word", .str x)])
theorem ErW.mono {F F' : Hp} (e : ∀ a o, F a = some o → F' a = some o) {d : Option Addr} : ∀ {w : Option Str}, ErW F d w → ErW F' d w
  | none, h => h
  | some x, h => by
    obtain ⟨dd, h1, h2⟩ := h
    exact ⟨dd, h1, e _ _ h2⟩
def kVal : Key → Val
  | .inl i => .int i
  | .inr x => .str x
section
variable (K : PySem.W.Frag)
mutual
def Rp (F : Hp) : Val → V → Prop
  | .non, u => u = .non
  | .bl b, u => u = .bl b
  | .int i, u => u = .int i
  | .str x, u => u = .str x
  | .tup xs, u => ∃ a vs, u = .ref a ∧ SqT K F a vs ∧ Rps F xs vs
  | .lst xs, u => ∃ a vs, u = .ref a ∧ Rd F a (.lst vs) ∧ Rps F xs vs
  | .dct ks xs, u => ∃ a kvs, u = .ref a ∧ Rd F a (.dK kvs) ∧ ks = kvs.map (fun p => kVal p.1) ∧ Rps F xs (kvs.map (·.2))
  | .scr xs, u => ∃ a vs, u = .ref a ∧ SqL K F a vs ∧ Rps F xs vs
  | .er c w, u => ∃ a d, u = .ref a ∧ F a = some (erO a (CofK K c) d) ∧ ErW F d w
def Rps (F : Hp) : List Val → List V → Prop
  | [], us => us = []
  | x :: xs, us => ∃ u ws, us = u :: ws ∧ Rp F x u ∧ Rps F xs ws
end
mutual
def Ro (F H : Hp) : OV → V → List Addr → Prop
  | .p v, u, q => q = [] ∧ Rp K F v u
  | .l xs, u, q => ∃ a vs, u = .ref a ∧ q = [a] ∧ F a = none ∧ H a = some (.lst vs) ∧ Rps K F xs vs
  | .d ks xs, u, q => ∃ a kvs, u = .ref a ∧ q = [a] ∧ F a = none ∧ H a = some (.dK kvs) ∧ ks = kvs.map (fun p => kVal p.1) ∧ Rps K F xs (kvs.map (·.2))
  | .nd xs, u, q => ∃ a vs r, u = .ref a ∧ q = a :: r ∧ F a = none ∧ H a = some (.lst vs) ∧ Ros F H xs vs r
def Ros (F H : Hp) : List OV → List V → List Addr → Prop
  | [], us, q => us = [] ∧ q = []
  | x :: xs, us, q => ∃ u ws q1 q2, us = u :: ws ∧ q = q1 ++ q2 ∧ Ro F H x u q1 ∧ Ros F H xs ws q2
end
/-- what may be read of it now -/
def Vw (F H : Hp) : Val → V → Prop
  | .lst xs, u => ∃ a vs, u = .ref a ∧ Rd H a (.lst vs) ∧ Rps K F xs vs
  | .dct ks xs, u => ∃ a kvs, u = .ref a ∧ Rd H a (.dK kvs) ∧ ks = kvs.map (fun p => kVal p.1) ∧ Rps K F xs (kvs.map (·.2))
  | .scr xs, u => ∃ a vs, u = .ref a ∧ SqL K H a vs ∧ Rps K F xs vs
  | v, u => Rp K F v u
end
section
variable {K : PySem.W.Frag} {F F' H H' : Hp}
theorem Same.rd {a : Addr} {o : HO} (e : Same H H') (h : Rd H a o) : Rd H' a o := by
  rcases h with h | ⟨x, h⟩
  · exact .inl (e _ _ h)
  · exact .inr ⟨x, e _ _ h⟩
theorem Same.sqT {a : Addr} {xs : List V} (e : Same H H') (h : SqT K H a xs) : SqT K H' a xs := by
  rcases h with h | h
  · exact .inl (Same.rd e h)
  · exact .inr h
theorem Same.sqL {a : Addr} {xs : List V} (e : Same H H') (h : SqL K H a xs) : SqL K H' a xs := by
  rcases h with h | h
  · exact .inl (Same.rd e h)
  · exact .inr h
mutual
theorem Rp.mono (e : Same F F') : ∀ {v : Val} {u : V}, Rp K F v u → Rp K F' v u
  | .non, _, h => by unfold Rp at *; exact h
  | .bl _, _, h => by unfold Rp at *; exact h
  | .int _, _, h => by unfold Rp at *; exact h
  | .str _, _, h => by unfold Rp at *; exact h
  | .tup xs, u, h => by
    unfold Rp at *
    obtain ⟨a, vs, h1, h2, h3⟩ := h
    exact ⟨a, vs, h1, Same.sqT e h2, Rps.mono e h3⟩
  | .lst xs, u, h => by
    unfold Rp at *
    obtain ⟨a, vs, h1, h2, h3⟩ := h
    exact ⟨a, vs, h1, Same.rd e h2, Rps.mono e h3⟩
  | .dct ks xs, u, h => by
    unfold Rp at *
    obtain ⟨a, vs, h1, h2, h3, h4⟩ := h
    exact ⟨a, vs, h1, Same.rd e h2, h3, Rps.mono e h4⟩
  | .scr xs, u, h => by
    unfold Rp at *
    obtain ⟨a, vs, h1, h2, h3⟩ := h
    exact ⟨a, vs, h1, Same.sqL e h2, Rps.mono e h3⟩
  | .er c w, u, h => by
    unfold Rp at *
    obtain ⟨a, d, h1, h2, h3⟩ := h
    exact ⟨a, d, h1, e _ _ h2, ErW.mono e h3⟩
theorem Rps.mono (e : Same F F') : ∀ {vs : List Val} {us : List V}, Rps K F vs us → Rps K F' vs us
  | [], _, h => by unfold Rps at *; exact h
  | x :: xs, us, h => by
    unfold Rps at *
    obtain ⟨u, ws, h1, h2, h3⟩ := h
    exact ⟨u, ws, h1, Rp.mono e h2, Rps.mono e h3⟩
end
theorem Vw.of (s : Same F H) {v : Val} {u : V} (h : Rp K F v u) : Vw K F H v u := by
  cases v with
  | lst xs =>
    unfold Rp at h; unfold Vw
    obtain ⟨a, vs, h1, h2, h3⟩ := h
    exact ⟨a, vs, h1, Same.rd s h2, h3⟩
  | dct ks xs =>
    unfold Rp at h; unfold Vw
    obtain ⟨a, vs, h1, h2, h3⟩ := h
    exact ⟨a, vs, h1, Same.rd s h2, h3⟩
  | scr xs =>
    unfold Rp at h; unfold Vw
    obtain ⟨a, vs, h1, h2, h3⟩ := h
    exact ⟨a, vs, h1, Same.sqL s h2, h3⟩
  | _ => unfold Vw; exact h
theorem Ro.vw (s : Same F H) {ov : OV} {v : Val} {u : V} {q : List Addr} (h : Ro K F H ov u q) (e : fl ov = some v) : Vw K F H v u := by
  cases ov with
  | p w =>
    unfold fl at e; cases e
    unfold Ro at h
    exact Vw.of s h.2
  | l xs =>
    unfold fl at e; cases e
    unfold Ro at h; unfold Vw
    obtain ⟨a, vs, h1, h2, h3, h4, h5⟩ := h
    exact ⟨a, vs, h1, .inl h4, h5⟩
  | d ks xs =>
    unfold fl at e; cases e
    unfold Ro at h; unfold Vw
    obtain ⟨a, vs, h1, h2, h3, h4, h5⟩ := h
    exact ⟨a, vs, h1, .inl h4, h5⟩
  | nd xs => cases e
mutual
theorem Ro.at_ : ∀ {ov : OV} {u : V} {q : List Addr}, Ro K F H ov u q → ∀ a ∈ q, F a = none ∧ ∃ o, H a = some o
  | .p v, u, q, h => by
    unfold Ro at h; obtain ⟨rfl, _⟩ := h; intro a z; cases z
  | .l xs, u, q, h => by
    unfold Ro at h; obtain ⟨a, vs, _, rfl, h3, h4, _⟩ := h
    intro b z; simp at z; subst z; exact ⟨h3, _, h4⟩
  | .d ks xs, u, q, h => by
    unfold Ro at h; obtain ⟨a, vs, _, rfl, h3, h4, _⟩ := h
    intro b z; simp at z; subst z; exact ⟨h3, _, h4⟩
  | .nd xs, u, q, h => by
    unfold Ro at h; obtain ⟨a, vs, r, _, rfl, h3, h4, h5⟩ := h
    intro b z
    rcases List.mem_cons.mp z with z | z
    · subst z; exact ⟨h3, _, h4⟩
    · exact Ros.at_ h5 b z
theorem Ros.at_ : ∀ {ovs : List OV} {us : List V} {q : List Addr}, Ros K F H ovs us q → ∀ a ∈ q, F a = none ∧ ∃ o, H a = some o
  | [], us, q, h => by
    unfold Ros at h; obtain ⟨_, rfl⟩ := h; intro a z; cases z
  | x :: xs, us, q, h => by
    unfold Ros at h; obtain ⟨u, ws, q1, q2, _, rfl, h1, h2⟩ := h
    intro a z
    rcases List.mem_append.mp z with z | z
    · exact Ro.at_ h1 a z
    · exact Ros.at_ h2 a z
end
mutual
/-- it stands, if its own objects stand -/
theorem Ro.step (s : Same F F') : ∀ {ov : OV} {u : V} {q : List Addr}, Ro K F H ov u q → (∀ a ∈ q, F' a = none ∧ ∀ o, H a = some o → H' a = some o) → Ro K F' H' ov u q
  | .p v, u, q, h, k => by
    unfold Ro at *; exact ⟨h.1, Rp.mono s h.2⟩
  | .l xs, u, q, h, k => by
    unfold Ro at *; obtain ⟨a, vs, h1, rfl, h3, h4, h5⟩ := h
    have z := k a (by simp)
    exact ⟨a, vs, h1, rfl, z.1, z.2 _ h4, Rps.mono s h5⟩
  | .d ks xs, u, q, h, k => by
    unfold Ro at *; obtain ⟨a, vs, h1, rfl, h3, h4, h5, h6⟩ := h
    have z := k a (by simp)
    exact ⟨a, vs, h1, rfl, z.1, z.2 _ h4, h5, Rps.mono s h6⟩
  | .nd xs, u, q, h, k => by
    unfold Ro at *; obtain ⟨a, vs, r, h1, rfl, h3, h4, h5⟩ := h
    have z := k a (by simp)
    exact ⟨a, vs, r, h1, rfl, z.1, z.2 _ h4, Ros.step s h5 fun b hb => k b (List.mem_cons_of_mem _ hb)⟩
theorem Ros.step (s : Same F F') : ∀ {ovs : List OV} {us : List V} {q : List Addr}, Ros K F H ovs us q → (∀ a ∈ q, F' a = none ∧ ∀ o, H a = some o → H' a = some o) → Ros K F' H' ovs us q
  | [], us, q, h, k => by
    unfold Ros at *; exact h
  | x :: xs, us, q, h, k => by
    unfold Ros at *; obtain ⟨u, ws, q1, q2, h1, rfl, h2, h3⟩ := h
    exact ⟨u, ws, q1, q2, h1, rfl, Ro.step s h2 (fun a z => k a (List.mem_append_left _ z)), Ros.step s h3 fun a z => k a (List.mem_append_right _ z)⟩
end
mutual
/-- its own objects are nobody's from now on -/
theorem Ro.fz (s : Same F F') : ∀ {ov : OV} {u : V} {q : List Addr}, Ro K F H ov u q → (∀ a ∈ q, ∀ o, H a = some o → F' a = some o) → Rp K F' (EN.fz ov) u
  | .p v, u, q, h, k => by
    unfold Ro at h; unfold EN.fz; exact Rp.mono s h.2
  | .l xs, u, q, h, k => by
    unfold Ro at h; unfold EN.fz Rp; obtain ⟨a, vs, h1, rfl, h3, h4, h5⟩ := h
    exact ⟨a, vs, h1, Or.inl (k a (by simp) _ h4), Rps.mono s h5⟩
  | .d ks xs, u, q, h, k => by
    unfold Ro at h; unfold EN.fz Rp; obtain ⟨a, vs, h1, rfl, h3, h4, h5, h6⟩ := h
    exact ⟨a, vs, h1, .inl (k a (by simp) _ h4), h5, Rps.mono s h6⟩
  | .nd xs, u, q, h, k => by
    unfold Ro at h; unfold EN.fz Rp; obtain ⟨a, vs, r, h1, rfl, h3, h4, h5⟩ := h
    exact ⟨a, vs, h1, Or.inl (k a (by simp) _ h4), Ros.fz s h5 fun b z => k b (List.mem_cons_of_mem _ z)⟩
theorem Ros.fz (s : Same F F') : ∀ {ovs : List OV} {us : List V} {q : List Addr}, Ros K F H ovs us q → (∀ a ∈ q, ∀ o, H a = some o → F' a = some o) → Rps K F' (EN.fzs ovs) us
  | [], us, q, h, k => by
    unfold Ros at h; unfold EN.fzs Rps; exact h.1
  | x :: xs, us, q, h, k => by
    unfold Ros at h; unfold EN.fzs Rps; obtain ⟨u, ws, q1, q2, h1, rfl, h2, h3⟩ := h
    exact ⟨u, ws, h1, Ro.fz s h2 (fun a z => k a (List.mem_append_left _ z)), Ros.fz s h3 fun a z => k a (List.mem_append_right _ z)⟩
end
/-- freezing -/
theorem Ro.freeze (s : Same F H) {ov : OV} {u : V} {q : List Addr} (h : Ro K F H ov u q) : ∃ F', Same F F' ∧ Same F' H ∧ Rp K F' (EN.fz ov) u ∧ (∀ a o, F' a = some o → F a = none → a ∈ q) := by
  have na : ∀ a o, F a = some o → a ∉ q := fun a o e z => by
    have := (Ro.at_ h a z).1; rw [e] at this; cases this
  refine ⟨fun a => if a ∈ q then H a else F a, fun a o e => ?_, fun a o e => ?_, ?_, fun a o e n => ?_⟩
  · show (if a ∈ q then H a else F a) = some o
    rw [if_neg (na a o e)]; exact e
  · have e : (if a ∈ q then H a else F a) = some o := e
    by_cases z : a ∈ q
    · rw [if_pos z] at e; exact e
    · rw [if_neg z] at e; exact s a o e
  · refine Ro.fz (H := H) (fun a o e => ?_) h fun a z o e => ?_
    · show (if a ∈ q then H a else F a) = some o
      rw [if_neg (na a o e)]; exact e
    · show (if a ∈ q then H a else F a) = some o
      rw [if_pos z]; exact e
  · by_cases z : a ∈ q
    · exact z
    · have e : (if a ∈ q then H a else F a) = some o := e
      rw [if_neg z, n] at e; cases e
end

/-! ### what changed -/
structure Step (F H : Hp) (A : Addr → Prop) (F' H' : Hp) (A' : Addr → Prop) : Prop where
  sF : Same F F'
  keep : ∀ a o, ¬ A a → H a = some o → H' a = some o
  own : ∀ a, A' a → A a ∨ H a = none
  frz : ∀ a o, F' a = some o → F a = none → A a ∨ H a = none
theorem Step.refl {F H : Hp} {A A' : Addr → Prop} (h : ∀ a, A' a → A a) : Step F H A F H A' :=
  ⟨Same.refl F, fun _ _ _ e => e, fun a z => .inl (h a z), fun a o e n => by rw [e] at n; cases n⟩
theorem Step.trans {F H F1 H1 F2 H2 : Hp} {A A1 B1 A2 : Addr → Prop} (x : Step F H A F1 H1 A1) (y : Step F1 H1 B1 F2 H2 A2) (hb : ∀ a, B1 a → A1 a) : Step F H A F2 H2 A2 := by
  have back : ∀ a, H1 a = none → A a ∨ H a = none := fun a n => by
    by_cases z : A a
    · exact .inl z
    · cases e : H a with
      | none => exact .inr rfl
      | some o => rw [x.keep a o z e] at n; cases n
  refine ⟨Same.trans x.sF y.sF, fun a o n e => y.keep a o (fun z => ?_) (x.keep a o n e), fun a z => ?_, fun a o e n => ?_⟩
  · rcases x.own a (hb a z) with w | w
    · exact n w
    · rw [e] at w; cases w
  · rcases y.own a z with w | w
    · exact x.own a (hb a w)
    · exact back a w
  · cases e1 : F1 a with
    | none =>
      rcases y.frz a o e e1 with w | w
      · exact x.own a (hb a w)
      · exact back a w
    | some o1 => exact x.frz a o1 e1 n
theorem Step.less {F H F1 H1 : Hp} {A A1 B1 : Addr → Prop} (x : Step F H A F1 H1 A1) (hb : ∀ a, B1 a → A1 a) : Step F H A F1 H1 B1 :=
  ⟨x.sF, x.keep, fun a z => x.own a (hb a z), x.frz⟩

def Ow (fp : Nat → List Addr) (q : List Addr) : Addr → Prop := fun a => a ∈ q ∨ ∃ i, a ∈ fp i
structure SR (K : PySem.W.Frag) (F H : Hp) (env : Env) (σ : Sg) (fp : Nat → List Addr) : Prop where
  sF : Same F H
  len : env.length = σ.length
  rel : ∀ i ov, gs env i = some ov → ∃ u, σ[i]? = some (some u) ∧ Ro K F H ov u (fp i)
  nil : ∀ i, gs env i = none → fp i = []
  nd : ∀ i, (fp i).Nodup
  dj : ∀ i j, i ≠ j → ∀ a, a ∈ fp i → a ∉ fp j
section
variable {K : PySem.W.Frag} {F F' H H' : Hp} {env : Env} {σ : Sg} {fp : Nat → List Addr}
theorem SR.at_ (s : SR K F H env σ fp) {i : Nat} {a : Addr} (z : a ∈ fp i) : F a = none ∧ ∃ o, H a = some o := by
  cases e : gs env i with
  | none => rw [s.nil i e] at z; cases z
  | some ov =>
    obtain ⟨u, _, r⟩ := s.rel i ov e
    exact Ro.at_ r a z
theorem SR.ow (s : SR K F H env σ fp) {a : Addr} (z : Ow fp [] a) : F a = none ∧ ∃ o, H a = some o := by
  rcases z with z | ⟨i, z⟩
  · cases z
  · exact s.at_ z
/-- what is apart from the names' own stands -/
theorem Ro.along {F1 H1 F2 H2 : Hp} {fp1 : Nat → List Addr} {A2 : Addr → Prop} {ov : OV} {u : V} {q : List Addr} (r : Ro K F1 H1 ov u q) (st : Step F1 H1 (Ow fp1 []) F2 H2 A2) (dj : ∀ a ∈ q, ∀ i, a ∉ fp1 i) : Ro K F2 H2 ov u q := by
  refine Ro.step st.sF r fun a z => ?_
  obtain ⟨n, o, e⟩ := Ro.at_ r a z
  have na : ¬ Ow fp1 [] a := fun w => by
    rcases w with w | ⟨i, w⟩
    · cases w
    · exact dj a z i w
  refine ⟨?_, fun o e => st.keep a o na e⟩
  cases w : F2 a with
  | none => rfl
  | some o2 =>
    rcases st.frz a o2 w n with w | w
    · exact (na w).elim
    · rw [e] at w; cases w
/-- only what was not there is new -/
structure Al (F H F' H' : Hp) (q : List Addr) : Prop where
  sF : Same F F'
  sH : Same H H'
  new : ∀ a ∈ q, H a = none
  frz : ∀ a o, F' a = some o → F a = none → H a = none
theorem Al.step {q : List Addr} (l : Al F H F' H' q) (fp : Nat → List Addr) : Step F H (Ow fp []) F' H' (Ow fp q) :=
  ⟨l.sF, fun a o _ e => l.sH a o e, fun a z => z.elim (fun w => .inr (l.new a w)) (fun w => .inl (.inr w)), fun a o e n => .inr (l.frz a o e n)⟩
theorem SR.al {q : List Addr} (s : SR K F H env σ fp) (l : Al F H F' H' q) (sF' : Same F' H') : SR K F' H' env σ fp where
  sF := sF'
  len := s.len
  rel := fun i ov e => by
    obtain ⟨u, h1, h2⟩ := s.rel i ov e
    refine ⟨u, h1, Ro.step l.sF h2 fun a z => ?_⟩
    obtain ⟨n, o, eo⟩ := Ro.at_ h2 a z
    refine ⟨?_, fun o e => l.sH a o e⟩
    cases w : F' a with
    | none => rfl
    | some o2 => have := l.frz a o2 w n; rw [eo] at this; cases this
  nil := s.nil
  nd := s.nd
  dj := s.dj
theorem SR.ndj (s : SR K F H env σ fp) {q : List Addr} (h : ∀ a ∈ q, H a = none) : ∀ a ∈ q, ∀ i, a ∉ fp i := fun a z i w => by
  obtain ⟨_, o, e⟩ := s.at_ w
  rw [h a z] at e; cases e
theorem Al.refl (F H : Hp) : Al F H F H [] := ⟨Same.refl F, Same.refl H, fun _ z => (nomatch z), fun a o e n => by rw [e] at n; cases n⟩
theorem Same.upd {p : Addr} {o : HO} (n : H p = none) : Same H (upd H p o) := fun b o' e => by
  rw [upd_ne (ne_of_none e n)]; exact e
/-- a new object that is the name's own -/
theorem Al.own (s : Same F H) {p : Addr} {o : HO} (n : H p = none) : Al F H F (upd H p o) [p] ∧ Same F (upd H p o) ∧ F p = none := by
  refine ⟨⟨Same.refl F, Same.upd n, fun a z => ?_, fun a o e n => by rw [e] at n; cases n⟩, Same.trans s (Same.upd n), Same.free s n⟩
  simp at z; subst z; exact n
/-- a new object that is nobody's -/
theorem Al.frozen (s : Same F H) {p : Addr} {o : HO} (n : H p = none) : Al F H (L2.upd F p o) (L2.upd H p o) [] ∧ Same (L2.upd F p o) (L2.upd H p o) := by
  refine ⟨⟨Same.upd (Same.free s n), Same.upd n, fun _ z => (nomatch z), fun a o' e m => ?_⟩, fun a o' e => ?_⟩
  · by_cases z : a = p
    · subst z; exact n
    · rw [upd_ne z, m] at e; cases e
  · by_cases z : a = p
    · subst z; rw [upd_same] at e ⊢; exact e
    · rw [upd_ne z] at e ⊢; exact s a o' e
end

/-! ### promises -/
def XR (C : Nat → Addr) (x : Xc) (cls : Value) (d : Option Addr) (H : Hp) : Prop :=
  cls = .ref (C x.cls) ∧ ErW H d x.word
abbrev Rel (α β : Type) := Hp → Hp → Env → Sg → α → β → List Addr → Prop
section
variable (K : PySem.W.Frag) (C : Nat → Addr) (W : WX)
def AX {α β : Type} (rl : Rel α β) (σ : Sg) (F H : Hp) (A : Addr → Prop) (res : R α) (Q : β → Hp → Prop) : Prop :=
  match res with
  | .ok a env' => ∀ F' H' b fp' q, Step F H A F' H' (Ow fp' q) → SR K F' H' env' σ fp' → rl F' H' env' σ a b q → q.Nodup → (∀ a ∈ q, ∀ i, a ∉ fp' i) → Q b H'
  | .exc x env' => ∀ F' H' fp' cls d, Step F H A F' H' (Ow fp' []) → SR K F' H' env' σ fp' → XR C x cls d F' → W cls d σ H'
  | .no => False
def TX {α β : Type} (rl : Rel α β) (f : Env → R α) : Sg → Hp → (β → Hp → Prop) → Prop := fun σ H Q => ∃ F env fp, SR K F H env σ fp ∧ AX K C W rl σ F H (Ow fp []) (f env) Q
end
section
variable (K : PySem.W.Frag)
def rO : Rel OV V := fun F H _ _ r u q => Ro K F H r u q
def rV : Rel Val V := fun F _ _ _ v u q => q = [] ∧ Rp K F v u
def rVs : Rel (List Val) (List V) := fun F _ _ _ v u q => q = [] ∧ Rps K F v u
def rB : Rel Bool Bool := fun _ _ _ _ a b q => a = b ∧ q = []
def RoD (F H : Hp) (env : Env) (σ : Sg) : Od → V → List Addr → Prop
  | .v r, u, q => Ro K F H r u q
  | .nm i, u, q => q = [] ∧ σ[i]? = some (some u)
def rD : Rel Od V := fun F H env σ o u q => RoD K F H env σ o u q
end
section
variable {K : PySem.W.Frag} {C : Nat → Addr} {W : WX} {α β γ δ : Type} {rl : Rel α β} {rm : Rel γ δ} {σ : Sg} {F H F1 H1 : Hp} {fp fp1 : Nat → List Addr} {A A1 : Addr → Prop}
theorem Step.grow {B A' : Addr → Prop} (x : Step F H A F1 H1 A') (h : ∀ a, A a → B a) : Step F H B F1 H1 A' :=
  ⟨x.sF, fun a o n e => x.keep a o (fun z => n (h a z)) e, fun a z => (x.own a z).imp (h a) id, fun a o e n => (x.frz a o e n).imp (h a) id⟩
/-- from a later state on -/
theorem AX.shift {res : R α} {Q : β → Hp → Prop} (st : Step F H A F1 H1 A1) (h : AX K C W rl σ F H A res Q) : AX K C W rl σ F1 H1 A1 res Q := by
  cases res with
  | ok a env' => exact fun F' H' b fp' q' s2 sr r nd dj => h F' H' b fp' q' (st.trans s2 fun _ z => z) sr r nd dj
  | exc x env' => exact fun F' H' fp' cls d s2 sr xr => h F' H' fp' cls d (st.trans s2 fun _ z => z) sr xr
  | no => exact h
theorem AX.sub {B : Addr → Prop} {res : R α} {Q : β → Hp → Prop} (st : ∀ a, B a → A a) (h : AX K C W rl σ F H A res Q) : AX K C W rl σ F H B res Q := by
  cases res with
  | ok a env' => exact fun F' H' b fp' q' s2 sr r nd dj => h F' H' b fp' q' (s2.grow st) sr r nd dj
  | exc x env' => exact fun F' H' fp' cls d s2 sr xr => h F' H' fp' cls d (s2.grow st) sr xr
  | no => exact h
theorem AX.base {q : List Addr} {res : R α} {Q : β → Hp → Prop} (h : AX K C W rl σ F H (Ow fp q) res Q) : AX K C W rl σ F H (Ow fp []) res Q := h.sub fun a z => z.elim (fun w => nomatch w) .inr
theorem AX.mono {res : R α} {Q Q' : β → Hp → Prop} (h : AX K C W rl σ F H A res Q) (k : ∀ b H', Q b H' → Q' b H') : AX K C W rl σ F H A res Q' := by
  cases res with
  | ok a env' => exact fun F' H' b fp' q' s2 sr r nd dj => k _ _ (h F' H' b fp' q' s2 sr r nd dj)
  | exc x env' => exact h
  | no => exact h
/-- one behind another -/
theorem AX.bd {x : R α} {f : α → Env → R γ} {Q : δ → Hp → Prop} {Q1 : β → Hp → Prop} (h : AX K C W rm σ F H A (x.bd f) Q)
    (k : ∀ a env' F' H' b fp' q, x = .ok a env' → Step F H A F' H' (Ow fp' q) → SR K F' H' env' σ fp' → rl F' H' env' σ a b q → q.Nodup → (∀ a ∈ q, ∀ i, a ∉ fp' i) → AX K C W rm σ F' H' (Ow fp' q) (f a env') Q → Q1 b H') :
    AX K C W rl σ F H A x Q1 := by
  cases x with
  | ok a env' => exact fun F' H' b fp' q st sr r nd dj => k a env' F' H' b fp' q rfl st sr r nd dj (AX.shift st h)
  | exc x env' => exact h
  | no => exact h
/-- the end: only what is new has come -/
theorem AX.al {env : Env} {r : α} {b : β} {Q : β → Hp → Prop} {q : List Addr} (sr : SR K F H env σ fp) (h : AX K C W rl σ F H (Ow fp []) (.ok r env) Q) {F' H' : Hp} (l : Al F H F' H' q) (s' : Same F' H') (nd : q.Nodup) (rr : rl F' H' env σ r b q) : Q b H' :=
  h F' H' b fp q (l.step fp) (sr.al l s') rr nd (sr.ndj l.new)
end
end EN

/-! EnX: a list of truths sorted. -/
namespace EN
open PySem L2 PyProof.Rows
theorem insB_perm (i : Bool) : ∀ l : List Bool, (insB i l).Perm (i :: l)
  | [] => .refl _
  | j :: js => by
    unfold insB
    split
    · exact ((insB_perm i js).cons j).trans (.swap i j js)
    · exact .refl _
theorem bsort_perm : ∀ l : List Bool, (bsort l).Perm l
  | [] => .refl _
  | i :: is => (insB_perm i (bsort is)).trans ((bsort_perm is).cons i)
def leB (a b : Bool) : Bool := !a || b
theorem insB_sorted (i : Bool) : ∀ l : List Bool, l.Pairwise (fun a b => leB a b = true) → (insB i l).Pairwise (fun a b => leB a b = true)
  | [], _ => by simp [insB]
  | j :: js, h => by
    unfold insB
    rw [List.pairwise_cons] at h
    split
    · rename_i hij
      rw [List.pairwise_cons]
      refine ⟨fun a ha => ?_, insB_sorted i js h.2⟩
      rcases List.mem_cons.mp ((insB_perm i js).mem_iff.mp ha) with rfl | ha
      · cases j <;> cases a <;> first | rfl | (simp at hij)
      · exact h.1 a ha
    · rename_i hij
      rw [List.pairwise_cons, List.pairwise_cons]
      refine ⟨fun a ha => ?_, h⟩
      rcases List.mem_cons.mp ha with rfl | ha
      · cases i <;> cases a <;> first | rfl | (simp at hij)
      · have := h.1 a ha
        cases i <;> cases j <;> cases a <;> first | rfl | (exact absurd this (by decide)) | (simp at hij)
theorem bsort_sorted : ∀ l : List Bool, (bsort l).Pairwise (fun a b => leB a b = true)
  | [] => .nil
  | i :: is => insB_sorted i _ (bsort_sorted is)
theorem sorted_oneB : ∀ {a b : List Bool}, a.Perm b → a.Pairwise (fun a b => leB a b = true) → b.Pairwise (fun a b => leB a b = true) → a = b
  | [], b, p, _, _ => by simpa using p.symm
  | x :: xs, [], p, _, _ => by simp at p
  | x :: xs, y :: ys, p, h1, h2 => by
    rw [List.pairwise_cons] at h1 h2
    have e : x = y := by
      have m1 := p.mem_iff.mp (List.mem_cons_self (a := x) (l := xs))
      have m2 := p.mem_iff.mpr (List.mem_cons_self (a := y) (l := ys))
      rcases List.mem_cons.mp m1 with e | m1
      · exact e
      · rcases List.mem_cons.mp m2 with e | m2
        · exact e.symm
        · have k1 := h1.1 y m2
          have k2 := h2.1 x m1
          revert k1 k2
          cases x <;> cases y <;> simp [leB]
    subst e
    rw [sorted_oneB (List.perm_cons x |>.mp p) h1.2 h2.2]
theorem le_bool : PySem.W.dataLe false PyData.bool = leB := by
  funext a b
  cases a <;> cases b <;> rfl
theorem msort_b (bs : List Bool) : bs.mergeSort (PySem.W.dataLe false PyData.bool) = bsort bs := by
  rw [le_bool]
  refine sorted_oneB ((List.mergeSort_perm bs leB).trans (bsort_perm bs).symm) (List.pairwise_mergeSort (le := leB) ?_ ?_ bs) (bsort_sorted bs)
  · intro a b c; cases a <;> cases b <;> cases c <;> simp [leB]
  · intro a b; cases a <;> cases b <;> simp [leB]
theorem each_vals : ∀ {us : List Value} {bs : List Bool}, Vals (bs.map V.bl) us → PySem.W.EachIs (fun v b => v = Value.bool b) us bs
  | _, [], r => by cases r; exact .nil
  | _, b :: bs, r => by
    cases r with
    | cons h t => exact .cons h (each_vals t)
theorem vals_each : ∀ {us : List Value} {bs : List Bool}, PySem.W.EachIs (fun v b => v = Value.bool b) us bs → Vals (bs.map V.bl) us
  | _, _, .nil => .nil
  | _, _, .cons h t => .cons h (vals_each t)
section
variable {X : Cx}
theorem cr_sortedB (hu : X.A.units + 64 < cLine) : CallR X (.builtin "sorted") (fun vs H Q => ∃ (a : Addr) (bs : List Bool), vs = [V.ref a] ∧ SqL X.K H a (bs.map V.bl) ∧ bs.length < 64 ∧ ∀ p : Addr, H p = none → Q (.ref p) (upd H p (.lst ((bsort bs).map V.bl)))) := by
  intro pins s σ H vs us Q I r h
  obtain ⟨a, bs, rfl, hs, h64, q⟩ := h
  obtain ⟨its, rv, hl, _⟩ := I.list hs
  rw [Vals.ref1 r]
  have hi := each_vals rv
  have al : ∀ d ∈ bs.map PyData.bool, ∃ b, d = PyData.bool b := fun d hd => by
    obtain ⟨b, _, rfl⟩ := List.mem_map.mp hd
    exact ⟨b, rfl⟩
  refine PySem.W.sorted_data (enc := PyData.bool) hl.isList hi (hi.mono fun v b e => by subst e; exact ⟨[], .bool b⟩) (fun d hd d' hd' => ?_) (.inr fun d hd => ?_) (small64 h64) (fun b _ => ?_) fun out h1 h2 => ?_
  · obtain ⟨b, rfl⟩ := al d hd
    obtain ⟨b', rfl⟩ := al d' hd'
    rfl
  · obtain ⟨b, rfl⟩ := al d hd
    exact ⟨fun z => (nomatch z), fun _ z => (nomatch z)⟩
  · show X.A.units + 2 + (PyData.bool b).depth < cLine
    have : (PyData.bool b).depth ≤ 2 := by cases b <;> decide
    omega
  · rw [msort_b] at h2
    obtain ⟨ep, he'⟩ := PyProof.Rows.sortedAll_at s.heap its out.toArray
    have hlen : ((bsort bs).map V.bl).length ≤ sizeLine := by rw [List.length_map, (bsort_perm bs).length_eq]; exact small64 h64
    exact ⟨.ref _, upd H (s.heap.objs.size + 1) (.lst ((bsort bs).map V.bl)), I.laid (t' := s.toks) (fun _ _ => PyProof.Rows.sortedAll_old) (Nat.le_succ _) ⟨hlen, out, ep, vals_each h2, by simpa using he'⟩, rfl, q _ (I.hok.fresh (Nat.le_succ _))⟩
end
end EN

/-! EnXR: list(reversed(t)), t a tuple. -/
namespace EN
open PySem PySem.Spec PyProof.Rows L2 RT

theorem nolen_rt : typeLookup (.type "reversed") "__len__" = pure none := by rw [typeLookup_type, builtinLookup_eq_fast]; kernel_rfl
theorem slot_rt_hint : Slot "reversed" "__length_hint__" "reversed.__length_hint__" :=
  .of (owner := "reversed") (n := "__length_hint__") (by rw [typeLookup_type, builtinLookup_eq_fast]; kernel_rfl) (by decide +kernel) (by decide +kernel) (by decide +kernel)
    (by first | exact .inl (by decide +kernel) | exact .inr (by decide +kernel)) (by rw [isSubtype_type]; kernel_rfl)
theorem entry_rt_hint : entryFor table "reversed.__length_hint__" = some Builtin.«reversed.__length_hint__» := entryFor_of_tree (by kernel_rfl)
theorem args_rt_hint (a : Value) : argsOk "reversed.__length_hint__" ⟨[a], []⟩ := by
  unfold argsOk; rw [signature?_of (id := "reversed.__length_hint__") (n := ['_', '_', 't', 'n', 'i', 'h', '_', 'h', 't', 'g', 'n', 'e', 'l', '_', '_']) (o := ['d', 'e', 's', 'r', 'e', 'v', 'e', 'r']) (by kernel_rfl) owner_rt]; kernel_rfl

section
variable {prog : Program} {w : World} {A : Around} {E : Value → Shared → Prop} {s : Shared}
theorem tup_at {h h' : Heap} {t : Addr} {items : Array Value} (x : IsTup h t items) (e : ∀ o, h.get? t = some o → h'.get? t = some o) : IsTup h' t items := let ⟨o, ho, r⟩ := x; ⟨o, e _ ho, r⟩
theorem walks_rt (hh : A.handled = none) (I t : Addr) (hne : t ≠ I) (items : Array Value) (hsz : items.size ≤ sizeLine) :
    WalksS prog w A I [I, t] [I] (fun a b => b = a) items.size (fun i v => items[items.size - 1 - i]? = some v) (fun i s => i ≤ items.size ∧ IsRt s.heap I t ((items.size : Int) - 1 - (i : Int)) ∧ IsTup s.heap t items) where
  sub := fun b hb => by simp at hb; simp [hb]
  grefl := fun _ => rfl
  gtrans := fun _ _ _ h1 h2 => h2.trans h1
  frame := fun _ _ _ _ x _ hk => ⟨x.1, x.2.1.at fun o e => hk I (by simp) o e, tup_at x.2.2 fun o e => hk t (by simp) o e⟩
  item := fun i s Q E hi x hQ => by
    have e : (items.size : Int) - 1 - (i : Int) = ((items.size - 1 - i : Nat) : Int) := by omega
    have hit := x.2.1
    rw [e] at hit
    have hx : items[items.size - 1 - i]? = some (items[items.size - 1 - i]'(by omega)) := Array.getElem?_eq_getElem (by omega)
    refine next_rt_item hit x.2.2 hx hsz fun h' hit' hs' => ?_
    have e2 : ((items.size - 1 - i : Nat) : Int) - 1 = (items.size : Int) - 1 - ((i + 1 : Nat) : Int) := by omega
    rw [e2] at hit'
    exact hQ _ { s with heap := h', toks := s.toks + 1 } hx ⟨hi, hit', tup_at x.2.2 fun o eo => (hs'.2 t hne).trans eo⟩ ⟨fun b o hb eo => (hs'.2 b (fun h => hb (by simp [h]))).trans eo, rfl, rfl, rfl, Nat.le_succ _⟩
  done := fun s Q E x hQ => by
    have e : (items.size : Int) - 1 - (items.size : Int) = -1 := by omega
    have hit := x.2.1
    rw [e] at hit
    exact next_rt_end hh hit fun h' he' => hQ { s with heap := h' } ⟨fun b o hb eo => he' b o (fun h => hb (by simp [h])) eo, rfl, rfl, rfl, Nat.le_refl _⟩
  self := fun _ _ _ _ x hQ => iter_rt x.2.1 hQ
theorem sz_one : ((#[] : Array Value).push .none).size ≤ sizeLine := by rw [sizeLine_eq]; decide
theorem fits_nat {n : Nat} (h : n ≤ sizeLine) : Builtin.List.listFitsIndex (n : Int) = true := by
  have := line63
  unfold Builtin.List.listFitsIndex
  rw [decide_eq_true (by omega), decide_eq_true (by omega)]; rfl
theorem asInt_int {i : Int} {t : Tok} : asInt? (Value.int i t) = pure (some i) := rfl
theorem hint_call {it t : Addr} {items : Array Value} {Q : Value → Shared → Prop} (hit : IsRt s.heap it t ((items.size : Int) - 1)) (ht : IsTup s.heap t items) (hsz : items.size ≤ sizeLine)
    (h : ∀ tk tk2, s.toks ≤ tk2 → Q (.int (items.size : Int) tk) { s with toks := tk2 }) : wpAny (model prog w) A (call (.builtin "reversed.__length_hint__") [.ref it]) Q E s := by
  obtain ⟨o, ho, hc, hd⟩ := id hit
  have hn := line63
  refine wpAny_call_entry slot_rt_hint hit.typeIs entry_rt_hint ?_ (args_rt_hint _)
  unfold Builtin.«reversed.__length_hint__»
  refine wpAny_bind (wpAny_of_eq (a := Value.ref it) rfl ?_)
  refine wpAny_bind (wpAny_field ho hd (x := .ref t) rfl ?_)
  try dsimp only
  rw [if_neg (by intro h; cases h)]
  refine wpAny_bind (len_tuple ht (by omega) ?_)
  refine wpAny_bind (wpAny_of_eq (a := some ((items.size : Nat) : Int)) rfl ?_)
  try dsimp only
  refine wpAny_bind (wpAny_field (s := { s with toks := s.toks + 1 + 1 }) ho hd (x := rawInt ((items.size : Int) - 1)) rfl ?_)
  show wpAny _ _ (if (items.size : Int) < (items.size : Int) - 1 + 1 then _ else _) _ _ _
  rw [if_neg (by omega)]
  have e : (items.size : Int) - 1 + 1 = (items.size : Int) := by omega
  rw [e]
  unfold retInt
  refine wpAny_bind (wpAny_mkInt ?_)
  exact wpAny_pure ⟨_, rfl, h _ _ (by show s.toks ≤ s.toks + 1 + 1 + 1; omega)⟩
end
section
variable {prog : Program} {w : World} {A : Around} {s : Shared} {R : Result → Shared → Prop}
theorem extend_rt {it t : Addr} {items : Array Value} (hh : A.in1.handled = none) (hne : t ≠ it) (hn : items.size ≤ sizeLine) (S : Addr) (res : Value) (c₀ : Nat) (hit : IsRt s.heap it t ((items.size : Int) - 1)) (ht : IsTup s.heap t items) (hSf : S ∉ [it, t])
    (hS : s.heap.get? S = some { cls := .type "list", data := .seq #[] c₀ })
    (hR : ∀ s' acc' c', Moved (S :: [it]) (fun a b => b = a) s s' → s'.heap.get? S = some { cls := .type "list", dict := none, data := .seq acc' c', slots := #[] } → ItemsOf (fun i v => items[items.size - 1 - i]? = some v) acc' items.size → R (.ok (.ret res)) s') :
    wpAny (model prog w) A.in1 (Builtin.List.listExtendWith (.ref S) (.ref it) res)
      (fun fin s' => match fin with | .done f => R (.ok f) s' | .again c' => c'.quiet = true ∧ codeAny (model prog w) A c' R s') (fun e s' => R (.error e) s') s := by
  have W := walks_rt (prog := prog) (w := w) (A := A.in1) hh it t hne items hn
  have hSI : S ≠ it := fun e => hSf (e ▸ by simp)
  have e0 : ((items.size : Nat) : Int) - 1 - ((0 : Nat) : Int) = (items.size : Int) - 1 := by omega
  have st0 : ∀ (s' : Shared), (∀ b ∈ [it, t], ∀ o, s.heap.get? b = some o → s'.heap.get? b = some o) → (0 ≤ items.size ∧ IsRt s'.heap it t ((items.size : Int) - 1 - ((0 : Nat) : Int)) ∧ IsTup s'.heap t items) := fun s' hk =>
    ⟨Nat.zero_le _, by rw [e0]; exact hit.at fun o e => hk it (by simp) o e, tup_at ht fun o e => hk t (by simp) o e⟩
  unfold Builtin.List.listExtendWith
  refine wpAny_bind (wpAny_typeOf hit.typeIs ?_)
  have h1 : Builtin.List.listSameRef (.ref S) (.ref it) = false := by simp [Builtin.List.listSameRef, hSI]
  have h2 : (Value.type "reversed" == Value.type "list") = false := by decide
  have h3 : (Value.type "reversed" == Value.type "tuple") = false := by decide
  simp only [h1, h2, h3, Bool.or_false, Bool.false_eq_true, if_false]
  refine wpAny_bind (iter_rt hit ?_)
  refine wpAny_bind (wpAny_holding ?_)
  unfold Builtin.List.listLengthHint
  refine wpAny_bind (wpAny_specialOf hit.typeIs nolen_rt ?_)
  show wpAny _ A.in1 (specialOf (Value.ref it) (Str.ofString "__length_hint__") >>= _) _ _ _
  refine wpAny_bind (wpAny_specialOf hit.typeIs slot_rt_hint.lookup ?_)
  generalize hid : ("reversed.__length_hint__" : String) = id0
  wp_delta
  rw [show splitId id0 = some ("reversed", "__length_hint__") from by subst hid; decide +kernel]
  subst hid
  refine wpAny_bind (wpAny_isInstance (b := true) hit.typeIs (by rw [isSubtype_type]; kernel_rfl) ?_)
  rw [if_neg (by decide)]
  try dsimp only
  rw [if_neg (by decide +kernel)]
  refine wpAny_bind (wpAny_rule ?_)
  refine wpAny_bind (wpAny_of_eq (slot_rt_hint.bind _) ?_)
  try dsimp only
  refine wpAny_bind (wpAny_attempt (hint_call hit ht hn fun tk tk2 htk => ?_))
  try dsimp only
  show wpAny _ A.in1 (asInt? (Value.int ((items.size : Nat) : Int) tk) >>= _) _ _ _
  rw [asInt_int]
  refine wpAny_bind ?_
  refine wpAny_pure ?_
  try dsimp only
  have f1 : Builtin.List.listFitsIndex ((items.size : Nat) : Int) = true := fits_nat hn
  rw [if_neg (by rw [f1]; decide), if_neg (by omega), if_neg (by rw [Int.toNat_natCast, notLongL hn]; decide)]
  refine wpAny_pure ?_
  split
  · refine wpAny_bind (wpAny_rule ?_)
    refine wpAny_bind ?_
    show wpAny _ A.in1 (updateSeq S (·.push .none) >>= fun _ => updateSeq S (·.pop)) _ _ _
    refine wpAny_bind (wpAny_updateSeq (s := { s with toks := tk2 }) (hz := Nat.zero_le _) (_hz' := Nat.succ_le_succ (Nat.zero_le _)) hS rfl ?_)
    have hS₂ := Heap.get?_update_self (Obj.mapSeq (·.push Value.none)) hS rfl
    refine wpAny_updateSeq (s := { s with toks := tk2, heap := s.heap.update S (Obj.mapSeq (·.push Value.none)) }) (hz := sz_one) (_hz' := Nat.zero_le _) hS₂ rfl ?_
    have hS₃ := Heap.get?_update_self (Obj.mapSeq (·.pop)) hS₂ rfl
    have oth : ∀ b o, b ≠ S → s.heap.get? b = some o → ((s.heap.update S (Obj.mapSeq (·.push Value.none))).update S (Obj.mapSeq (·.pop))).get? b = some o :=
      fun b o hb e => (Heap.get?_update_other _ _ (Ne.symm hb)).trans ((Heap.get?_update_other _ _ (Ne.symm hb)).trans e)
    refine wpAny_pure ⟨plainId_quiet F.plain_extend_loop _, codeAny_extend_loopS W hn _ hSf _ items.size 0 _ _ _ rfl (Nat.zero_le _)
      (st0 _ fun b hb o e => oth b o (fun h => hSf (h ▸ hb)) e) hS₃ (ItemsOf.nil _) fun s' acc' c' hm hS' hacc => ?_⟩
    exact hR s' acc' c' (Moved.trans W.gtrans ((Moved.refl (wr := S :: [it]) (G := fun a b => b = a) W.grefl).then_heap htk fun b o hb e => oth b o (fun h => hb (h ▸ List.mem_cons_self)) e) hm) hS' hacc
  · refine wpAny_pure ⟨plainId_quiet F.plain_extend_loop _, codeAny_extend_loopS W hn _ hSf _ items.size 0 _ _ _ rfl (Nat.zero_le _)
      (st0 _ fun b hb o e => e) hS (ItemsOf.nil _) fun s' acc' c' hm hS' hacc => ?_⟩
    exact hR s' acc' c' (Moved.trans W.gtrans ((Moved.refl (wr := S :: [it]) (G := fun a b => b = a) W.grefl).then_heap htk fun b o hb e => e) hm) hS' hacc
theorem init_rt {it t : Addr} {items : Array Value} (hh : A.in1.handled = none) (hne : t ≠ it) (hn : items.size ≤ sizeLine) (S : Addr) (hit : IsRt s.heap it t ((items.size : Int) - 1)) (ht : IsTup s.heap t items) (hSf : S ∉ [it, t])
    (hS : s.heap.get? S = some { cls := .type "list", data := .seq #[] })
    (hR : ∀ s' acc' c', Moved (S :: [it]) (fun a b => b = a) s s' → s'.heap.get? S = some { cls := .type "list", dict := none, data := .seq acc' c', slots := #[] } → ItemsOf (fun i v => items[items.size - 1 - i]? = some v) acc' items.size → R (.ok (.ret .none)) s') :
    wpAny (model prog w) A.in1 (Builtin.«list.__init__» ⟨[.ref S, .ref it], []⟩)
      (fun fin s' => match fin with | .done f => R (.ok f) s' | .again c' => c'.quiet = true ∧ codeAny (model prog w) A c' R s') (fun e s' => R (.error e) s') s := by
  show wpAny _ A.in1 (do let old ← Builtin.List.listItems (.ref S); Builtin.List.listUpdate (.ref S) (fun _ => #[]); letGo old.toList.reverse; Builtin.List.listExtendWith (.ref S) (.ref it) .none) _ _ s
  refine wpAny_bind ?_
  unfold Builtin.List.listItems
  refine wpAny_bind (wpAny_seqItems hS rfl (wpAny_pure ?_))
  show wpAny _ A.in1 (updateSeq S (fun _ => #[]) >>= fun _ => letGo (#[] : Array Value).toList.reverse >>= fun _ => Builtin.List.listExtendWith (.ref S) (.ref it) .none) _ _ s
  refine wpAny_bind (wpAny_updateSeq hS rfl ?_)
  have hS₂ := Heap.get?_update_self (Obj.mapSeq (fun _ => (#[] : Array Value))) hS rfl
  have oth : ∀ b o, b ≠ S → s.heap.get? b = some o → (s.heap.update S (Obj.mapSeq (fun _ => (#[] : Array Value)))).get? b = some o :=
    fun b o hb e => (Heap.get?_update_other _ _ (Ne.symm hb)).trans e
  refine wpAny_bind (wpAny_letGo ?_)
  refine extend_rt hh hne hn S .none _ (hit.at fun o e => oth it o (fun h => hSf (by simp [h])) e) (tup_at ht fun o e => oth t o (fun h => hSf (by simp [h])) e) hSf hS₂ fun s' acc' c' hm hS' hacc => ?_
  exact hR s' acc' c' (Moved.trans (fun _ _ _ h1 h2 => h2.trans h1) ((Moved.refl (wr := S :: [it]) (G := fun a b => b = a) (fun _ => rfl)).then_heap (Nat.le_refl _) fun b o hb e => oth b o (fun h => hb (h ▸ List.mem_cons_self)) e) hm) hS' hacc
end
section
variable {prog : Program} {w : World} {A : Around} {E : Value → Shared → Prop} {s : Shared}
theorem call_list_rt {it t : Addr} {items : Array Value} {Q : Value → Shared → Prop} (hh : A.handled = none) (hne : t ≠ it) (hn : items.size ≤ sizeLine) (hit : IsRt s.heap it t ((items.size : Int) - 1)) (ht : IsTup s.heap t items)
    (hQ : ∀ s' acc' c', Moved (s.heap.objs.size :: [it]) (fun a b => b = a) { s with heap := s.heap.push { cls := .type "list", data := .seq #[] } } s' →
      s'.heap.get? s.heap.objs.size = some { cls := .type "list", dict := none, data := .seq acc' c', slots := #[] } → ItemsOf (fun i v => items[items.size - 1 - i]? = some v) acc' items.size → Q (.ref s.heap.objs.size) s') :
    wpAny (model prog w) A (call (.type "list") [.ref it]) Q E s := by
  obtain ⟨oi, hoi, _⟩ := id hit
  obtain ⟨ot, hot, _⟩ := id ht
  have hSf : s.heap.objs.size ∉ [it, t] := by
    simp only [List.mem_cons, List.not_mem_nil, or_false, not_or]
    exact ⟨Nat.ne_of_gt (Heap.lt_size hoi), Nat.ne_of_gt (Heap.lt_size hot)⟩
  refine callType_codes (Q₁ := fun obj s₁ => obj = .ref s.heap.objs.size ∧ s₁ = { s with heap := s.heap.push { cls := .type "list", data := .seq #[] } }) F.called_list (F.typeCall_list_1 _) F.entry_list_init
    (code_list_new _ ⟨rfl, rfl⟩) fun obj s₁ h₁ => ?_
  obtain ⟨rfl, rfl⟩ := h₁
  have hS : (s.heap.push { cls := .type "list", data := .seq #[] }).get? s.heap.objs.size = some { cls := .type "list", data := .seq #[] } := Heap.get?_push_size _ rfl
  refine ⟨⟨_, hS, rfl⟩, F.args_list_init_2 _ _, init_rt (A := A.in1) (s := { s with heap := s.heap.push { cls := .type "list", data := .seq #[] } }) (show A.in1.in1.handled = none from hh) hne hn _ (hit.at fun o e => Heap.get?_push_of_some _ e) (tup_at ht fun o e => Heap.get?_push_of_some _ e) hSf hS fun s' acc' c' hm hS' hacc => ?_⟩
  exact ⟨rfl, hQ s' acc' c' hm hS' hacc⟩
end
/-- list(reversed(x)), x a tuple -/
def tListRev (K : PySem.W.Frag) (te : TE) : TE := fun σ H Q => te σ H fun v H1 => ∃ (a : Addr) (xs : List V), v = .ref a ∧ SqT K H1 a xs ∧ ∀ q, H1 q = none → Q (.ref q) (upd H1 q (.lst xs.reverse))
section
variable {X : Cx}
theorem pe_listRev {e : Expr} {te : TE} {p p2 pos pos2 : Pos} (hc : X.calm = true) (hg : Gl X "list") (hm : X.mg "list" = none) (hg2 : Gl X "reversed") (hm2 : X.mg "reversed" = none) (he : PE X e te)
    (hs : starEach [e] X.env = (false, eval e X.env) :: starEach [] X.env := by rfl)
    (hs2 : starEach [.Call (.Name "reversed" p2) [e] [] pos2] X.env = (false, eval (.Call (.Name "reversed" p2) [e] [] pos2) X.env) :: starEach [] X.env := by rfl) :
    PE X (.Call (.Name "list" p) [.Call (.Name "reversed" p2) [e] [] pos2] [] pos) (tListRev X.K te) := by
  refine ⟨fun pins s σ H Q I h => ?_⟩
  refine Call_ (ld_blt I hg hm PyProof.Rows.boot_list (PyProof.Rows.callWith_type1 (args_cons (Call_ (ld_blt I hg2 hm2 PyProof.Rows.boot_reversed (PyProof.Rows.callWith_type1 (args_cons (thn (he.run pins s σ H _ I h) fun u s1 ⟨v, H1, I1, r1, q1⟩ => args_nil ?_) hs) hs rfl))) hs2) hs2 rfl))
  obtain ⟨a, xs, ev, hq, q⟩ := q1
  subst ev
  obtain rfl : u = Value.ref a := r1
  obtain ⟨its, rv, p', hz⟩ := I1.tuple hq
  have hn63 := line63
  have hl := rv.length
  have hn : its.toArray.size ≤ sizeLine := by rw [List.size_toArray, ← hl]; exact hz
  refine call_reversed_tup p' (fun A E Q k => len_tuple p' (by simp only [List.size_toArray] <;> omega) k) (args_nil ?_)
  have k0 : ∀ b o, s1.heap.get? b = some o → (s1.heap.push (rtObj a ((its.toArray.size : Int) - 1))).get? b = some o := fun b o e => Heap.get?_push_of_some _ e
  have I2 : Inv X pins σ H1 { s1 with heap := s1.heap.push (rtObj a ((its.toArray.size : Int) - 1)), toks := s1.toks + 1 + 1 } := I1.kept (t' := s1.toks + 1 + 1) k0
  obtain ⟨f0, f1, f2, f3, f4, f5⟩ := I1.fpOk (H' := H1) (b := s1.heap.objs.size) (Nat.le_refl _) (I1.hok.fresh (Nat.le_refl _))
  obtain ⟨ol, hol, _⟩ := id p'
  have hne : a ≠ s1.heap.objs.size := Nat.ne_of_lt (Heap.lt_size hol)
  refine call_list_rt (s := { s1 with heap := s1.heap.push (rtObj a ((its.toArray.size : Int) - 1)), toks := s1.toks + 1 + 1 }) (I1.ok.hd hc) hne hn ⟨_, Heap.get?_push_size _ rfl, rfl, rfl⟩ (tup_at p' fun o e => Heap.get?_push_of_some _ e) fun s' acc c' hm hS' hacc => ?_
  have hw := Moved.eq_with hm
  have low : ∀ b o, s1.heap.get? b = some o → s'.heap.get? b = some o := fun b o e => by
    have lt := Heap.lt_size e
    have sz : (s1.heap.push (rtObj a ((its.toArray.size : Int) - 1))).objs.size = s1.heap.objs.size + 1 := Array.size_push ..
    refine hm.heap b o (fun hmem => ?_) (Heap.get?_push_of_some _ (Heap.get?_push_of_some _ e))
    rcases List.mem_cons.mp hmem with e' | hmem
    · rw [e'] at lt
      have lt : (s1.heap.push (rtObj a ((its.toArray.size : Int) - 1))).objs.size < s1.heap.objs.size := lt
      exact absurd lt (by rw [sz]; omega)
    · rw [List.mem_singleton.mp hmem] at lt
      exact absurd lt (Nat.lt_irrefl _)
  have hp : s1.heap.objs.size ≤ (s1.heap.push (rtObj a ((its.toArray.size : Int) - 1))).objs.size := by
    have sz : (s1.heap.push (rtObj a ((its.toArray.size : Int) - 1))).objs.size = s1.heap.objs.size + 1 := Array.size_push ..
    omega
  rw [hw]
  refine ⟨.ref _, _, I1.laid (t' := s'.toks) low hp (show ObjOk X.prog X.w _ s'.heap _ (.lst xs.reverse) from ⟨by rw [List.length_reverse]; exact hz, acc.toList, c', vals_rev rv hacc, ?_⟩), rfl, q _ (I1.hok.fresh hp)⟩
  rw [Array.toArray_toList]
  exact hS'
end
end EN

/-! EnC: the operations on values, over the heap. -/
namespace EN
open PySem L2 PyProof.Rows
section
variable {K : PySem.W.Frag} {F F' H H' : Hp}
theorem Rps.len : ∀ {xs : List Val} {us : List V}, Rps K F xs us → us.length = xs.length
  | [], us, h => by unfold Rps at h; subst h; rfl
  | x :: xs, us, h => by
    unfold Rps at h; obtain ⟨u, ws, rfl, _, h3⟩ := h
    simp [Rps.len h3]
theorem Rps.nil : Rps K F [] [] := by unfold Rps; rfl
theorem Rps.cons {x : Val} {u : V} {xs : List Val} {us : List V} (a : Rp K F x u) (b : Rps K F xs us) : Rps K F (x :: xs) (u :: us) := by
  unfold Rps; exact ⟨u, us, rfl, a, b⟩
theorem Rps.get : ∀ {xs : List Val} {us : List V} {i : Nat} {x : Val}, Rps K F xs us → xs[i]? = some x → ∃ u, us[i]? = some u ∧ Rp K F x u
  | [], us, i, x, h, e => by simp at e
  | y :: xs, us, 0, x, h, e => by
    unfold Rps at h; obtain ⟨u, ws, rfl, h2, h3⟩ := h
    simp at e; subst e; exact ⟨u, rfl, h2⟩
  | y :: xs, us, i + 1, x, h, e => by
    unfold Rps at h; obtain ⟨u, ws, rfl, h2, h3⟩ := h
    simpa using Rps.get h3 (by simpa using e)
theorem Rps.app : ∀ {xs : List Val} {us : List V} {ys : List Val} {ws : List V}, Rps K F xs us → Rps K F ys ws → Rps K F (xs ++ ys) (us ++ ws)
  | [], us, ys, ws, h, k => by unfold Rps at h; subst h; exact k
  | x :: xs, us, ys, ws, h, k => by
    unfold Rps at h; obtain ⟨u, vs, rfl, h2, h3⟩ := h
    exact Rps.cons h2 (Rps.app h3 k)
theorem Rps.one {x : Val} {u : V} (a : Rp K F x u) : Rps K F [x] [u] := Rps.cons a Rps.nil
theorem Rps.drop : ∀ {xs : List Val} {us : List V} (n : Nat), Rps K F xs us → Rps K F (xs.drop n) (us.drop n)
  | xs, us, 0, h => by simpa using h
  | [], us, n + 1, h => by unfold Rps at h; subst h; simpa using Rps.nil
  | x :: xs, us, n + 1, h => by
    unfold Rps at h; obtain ⟨u, vs, rfl, h2, h3⟩ := h
    simpa using Rps.drop n h3
theorem Rps.take : ∀ {xs : List Val} {us : List V} (n : Nat), Rps K F xs us → Rps K F (xs.take n) (us.take n)
  | xs, us, 0, h => by simpa using Rps.nil
  | [], us, n + 1, h => by unfold Rps at h; subst h; simpa using Rps.nil
  | x :: xs, us, n + 1, h => by
    unfold Rps at h; obtain ⟨u, vs, rfl, h2, h3⟩ := h
    simpa using Rps.cons h2 (Rps.take n h3)
theorem Rps.rev : ∀ {xs : List Val} {us : List V}, Rps K F xs us → Rps K F xs.reverse us.reverse
  | [], us, h => by unfold Rps at h; subst h; exact Rps.nil
  | x :: xs, us, h => by
    unfold Rps at h; obtain ⟨u, vs, rfl, h2, h3⟩ := h
    simpa using Rps.app (Rps.rev h3) (Rps.one h2)
theorem Rps.set : ∀ {xs : List Val} {us : List V} {x : Val} {u : V} (n : Nat), Rps K F xs us → Rp K F x u → Rps K F (xs.set n x) (us.set n u)
  | [], us, x, u, n, h, k => by unfold Rps at h; subst h; simpa using Rps.nil
  | y :: xs, us, x, u, 0, h, k => by
    unfold Rps at h; obtain ⟨w, vs, rfl, h2, h3⟩ := h
    simpa using Rps.cons k h3
  | y :: xs, us, x, u, n + 1, h, k => by
    unfold Rps at h; obtain ⟨w, vs, rfl, h2, h3⟩ := h
    simpa using Rps.cons h2 (Rps.set n h3 k)
theorem Rps.dropLast {xs : List Val} {us : List V} (h : Rps K F xs us) : Rps K F xs.dropLast us.dropLast := by
  rw [List.dropLast_eq_take, List.dropLast_eq_take, h.len]
  exact h.take _
theorem Rps.reps {xs : List Val} {us : List V} (h : Rps K F xs us) : ∀ k : Nat, Rps K F (EN.reps xs k) (List.replicate k us).flatten
  | 0 => by simpa [EN.reps] using Rps.nil
  | k + 1 => by
    have := Rps.app h (Rps.reps h k)
    simpa [EN.reps, List.replicate_succ] using this
theorem Rps.cut {xs : List Val} {us : List V} (h : Rps K F xs us) (lo hi : Option Int) : Rps K F (cutL xs lo hi) (cutV us lo hi) := by
  unfold cutL cutV
  rw [h.len]
  exact (h.drop _).take _
theorem Rps.ints : ∀ {xs : List Val} {us : List V} {ns : List Int}, Rps K F xs us → asInts xs = some ns → us = ns.map V.int ∧ xs = ns.map Val.int
  | [], us, ns, h, e => by unfold Rps at h; subst h; unfold asInts at e; cases e; exact ⟨rfl, rfl⟩
  | x :: xs, us, ns, h, e => by
    unfold Rps at h; obtain ⟨w, vs, rfl, h2, h3⟩ := h
    cases x with
    | int i =>
      unfold asInts at e
      cases q : asInts xs with
      | none => rw [q] at e; cases e
      | some ms =>
        rw [q] at e; cases e
        obtain ⟨e1, e2⟩ := Rps.ints h3 q
        unfold Rp at h2; subst h2 e1 e2
        exact ⟨rfl, rfl⟩
    | _ => cases e
theorem Rps.of_ints : ∀ ns : List Int, Rps K F (ns.map Val.int) (ns.map V.int)
  | [] => Rps.nil
  | n :: ns => Rps.cons (by unfold Rp; rfl) (Rps.of_ints ns)
theorem Rps.atI {xs : List Val} {us : List V} (h : Rps K F xs us) {i : Int} {x : Val} (e : L2.atI xs i = some x) : ∃ u, L2.atI us i = some u ∧ Rp K F x u := by
  unfold L2.atI at *
  rw [h.len]
  cases q : ixN xs.length i with
  | none => rw [q] at e; cases e
  | some j => rw [q] at e; exact h.get e

/-! ### reading values -/
theorem Vw.int {i : Int} {x : V} (h : Vw K F H (.int i) x) : x = .int i := by unfold Vw Rp at h; exact h
theorem Vw.bl {b : Bool} {x : V} (h : Vw K F H (.bl b) x) : x = .bl b := by unfold Vw Rp at h; exact h
theorem Vw.str {s : Str} {x : V} (h : Vw K F H (.str s) x) : x = .str s := by unfold Vw Rp at h; exact h
theorem Vw.non {x : V} (h : Vw K F H .non x) : x = .non := by unfold Vw Rp at h; exact h
theorem Vw.tup (s : Same F H) {xs : List Val} {x : V} (h : Vw K F H (.tup xs) x) : ∃ a vs, x = .ref a ∧ SqT K H a vs ∧ Rps K F xs vs := by
  unfold Vw Rp at h
  obtain ⟨a, vs, h1, h2, h3⟩ := h
  exact ⟨a, vs, h1, Same.sqT s h2, h3⟩
theorem Vw.tup' {xs : List Val} {x : V} (h : Vw K F H (.tup xs) x) : Rp K F (.tup xs) x := by unfold Vw at h; exact h
theorem Vw.lst {xs : List Val} {x : V} (h : Vw K F H (.lst xs) x) : ∃ a vs, x = .ref a ∧ Rd H a (.lst vs) ∧ Rps K F xs vs := by
  unfold Vw at h; exact h
theorem Vw.scr {xs : List Val} {x : V} (h : Vw K F H (.scr xs) x) : ∃ a vs, x = .ref a ∧ SqL K H a vs ∧ Rps K F xs vs := by
  unfold Vw at h; exact h
theorem Vw.rp (s : Same F H) {v : Val} {x : V} (h : Vw K F H v x) : Rp K H v x := by
  cases v with
  | lst xs =>
    unfold Vw at h; unfold Rp
    obtain ⟨a, vs, h1, h2, h3⟩ := h
    exact ⟨a, vs, h1, h2, Rps.mono s h3⟩
  | dct ks xs =>
    unfold Vw at h; unfold Rp
    obtain ⟨a, vs, h1, h2, h3, h4⟩ := h
    exact ⟨a, vs, h1, h2, h3, Rps.mono s h4⟩
  | scr xs =>
    unfold Vw at h; unfold Rp
    obtain ⟨a, vs, h1, h2, h3⟩ := h
    exact ⟨a, vs, h1, h2, Rps.mono s h3⟩
  | _ => unfold Vw at h; exact Rp.mono s h

/-! ### how an operation ends -/
def EndO (K : PySem.W.Frag) (F H : Hp) (r : OV) (Q : VK) : Prop := ∀ F' H' u q, Al F H F' H' q → Same F' H' → q.Nodup → Ro K F' H' r u q → Q u H'
theorem EndO.val {v : Val} {u : V} {Q : VK} (e : EndO K F H (.p v) Q) (s : Same F H) (r : Rp K F v u) : Q u H :=
  e F H u [] (Al.refl F H) s .nil (by unfold Ro; exact ⟨rfl, r⟩)
theorem EndO.int {i : Int} {Q : VK} (e : EndO K F H (.p (.int i)) Q) (s : Same F H) : Q (.int i) H := e.val s (by unfold Rp; rfl)
theorem EndO.bl {i : Bool} {Q : VK} (e : EndO K F H (.p (.bl i)) Q) (s : Same F H) : Q (.bl i) H := e.val s (by unfold Rp; rfl)
theorem EndO.str {i : Str} {Q : VK} (e : EndO K F H (.p (.str i)) Q) (s : Same F H) : Q (.str i) H := e.val s (by unfold Rp; rfl)
theorem EndO.newL {xs : List Val} {vs : List V} {Q : VK} (e : EndO K F H (.l xs) Q) (s : Same F H) (r : Rps K F xs vs) (p : Addr) (n : H p = none) : Q (.ref p) (upd H p (.lst vs)) := by
  obtain ⟨l, s', n'⟩ := Al.own (o := .lst vs) s n
  exact e F _ _ [p] l s' (by simp) (by unfold Ro; exact ⟨p, vs, rfl, rfl, n', upd_same, r⟩)
theorem EndO.newT {xs : List Val} {vs : List V} {Q : VK} (e : EndO K F H (.p (.tup xs)) Q) (s : Same F H) (r : Rps K F xs vs) (p : Addr) (n : H p = none) : Q (.ref p) (upd H p (.tup vs)) := by
  obtain ⟨l, s'⟩ := Al.frozen (o := .tup vs) s n
  exact e _ _ _ [] l s' .nil (by unfold Ro Rp; exact ⟨rfl, p, vs, rfl, SqT.of upd_same, Rps.mono l.sF r⟩)
end

section
variable {X : Cx}
/-- two lists, wherever they stand -/
theorem op_catR : OpR X (binaryOp .Add) (fun x y H Q => ∃ l b xs zs, x = .ref l ∧ y = .ref b ∧ Rd H l (.lst xs) ∧ Rd H b (.lst zs) ∧ xs.length + zs.length ≤ sizeLine ∧ ∀ p, H p = none → Q (.ref p) (upd H p (.lst (xs ++ zs)))) := by
  intro pins s σ H x y v u Q I rx ry h
  obtain ⟨l, b, xs, zs, rfl, rfl, hH, hB, hz, q⟩ := h
  cases rx
  cases ry
  obtain ⟨z, its, n, r, e⟩ := hH.ok I.hok
  obtain ⟨z2, its2, n2, r2, e2⟩ := hB.ok I.hok
  have hl := r.length
  have hl2 := r2.length
  refine PySem.P.add_list e e2 ?_ (by rw [List.size_toArray, List.size_toArray]; omega)
  have ea : its.toArray ++ its2.toArray = (its ++ its2).toArray := by simp
  rw [ea]
  exact ⟨.ref _, _, I.lnew (t' := s.toks) (r.append r2) (by rw [List.length_append]; omega), rfl, q _ I.fresh⟩
theorem op_repR : OpR X (binaryOp .Mult) (fun x y H Q => ∃ l k xs, x = .ref l ∧ y = .int k ∧ Rd H l (.lst xs) ∧ -(2 ^ 63) ≤ k ∧ k < 2 ^ 63 ∧ xs.length * k.toNat ≤ sizeLine ∧
    ∀ p, H p = none → Q (.ref p) (upd H p (.lst (List.replicate k.toNat xs).flatten))) := by
  intro pins s σ H x y v u Q I rx ry h
  obtain ⟨l, k, xs, rfl, rfl, hH, h1, h2, hz, q⟩ := h
  cases rx
  obtain ⟨t, rfl⟩ := ry
  obtain ⟨z, its, n, r, e⟩ := hH.ok I.hok
  have hl := r.length
  have hlen : its.toArray.size * k.toNat ≤ sizeLine := by rw [List.size_toArray, ← hl]; exact hz
  have hcap : ¬ its.toArray.size * k.toNat > (2 ^ 63 - 1) / 8 := by
    have : (sizeLine : Nat) ≤ (2 ^ 63 - 1) / 8 := by decide
    omega
  have hfit : ¬ (!Builtin.List.listFitsIndex k) = true := by
    rw [fitsIndex_both h1 h2]
    exact Bool.false_ne_true
  have hlong : ¬ Builtin.List.listTooLong (its.toArray.size * k.toNat) = true := by
    rw [notLongL hlen]
    exact Bool.false_ne_true
  have hnew : List.foldl (fun x1 x2 => x1 ++ x2) #[] (List.replicate (if its.toArray.isEmpty = true then 0 else k.toNat) its.toArray) = (List.replicate k.toNat its).flatten.toArray := by
    have f0 : ∀ m : Nat, List.foldl (fun x1 x2 => x1 ++ x2) #[] (List.replicate m its.toArray) = (List.replicate m its).flatten.toArray := fun m => by
      have := foldl_rep its m []
      rw [List.nil_append] at this
      exact this
    rw [f0]
    cases its with
    | nil => simp
    | cons a r' => rw [if_neg (by simp)]
  refine wpAny_binaryOp_repeat_ref (T := "list") (U := "int") (by decide) ⟨_, e, rfl⟩ (fun s' => typeIs_int s' k t) noFill_list_mul F.fills_int_mul F.slot_int_rmul repeat_list F.slot_int_index.lookup
    (call_meets F.slot_int_rmul (typeIs_int s k t) F.entry_int_rmul (F.args_int_rmul_2 _ _) (int___rmul___int_list k t l its.toArray n)
      ⟨e, rfl, ⟨_, e, rfl⟩, call_meets F.slot_list_mul ⟨_, e, rfl⟩ F.entry_list_mul (F.args_list_mul_2 _ _) (AutoListH.list___mul___list_int_3 l its.toArray n k t hfit hcap hlong) ⟨e, ?_⟩⟩)
  rw [hnew]
  exact ⟨.ref _, _, I.lnew (t' := s.toks) (r.rep k.toNat) (by rw [PyProof.Rows.lm_len_rep_flat, Nat.mul_comm]; exact hz), rfl, q _ I.fresh⟩
end

def bopS : Bop → Operator
  | .add => .Add | .sub => .Sub | .mul => .Mult | .fdiv => .FloorDiv | .mod => .Mod | .pow => .Pow
  | .and => .BitAnd | .or => .BitOr | .xor => .BitXor | .shl => .LShift | .shr => .RShift
/-- an operation by values keeps what is asked of it -/
def Two (X : Cx) (f : Value → Value → Sem Value) (v w : Val) (r : OV) : Prop :=
  ∃ rr : R2, OpR X f rr ∧ ∀ F H x y Q, Same F H → Vw X.K F H v x → Vw X.K F H w y → EndO X.K F H r Q → rr x y H Q
section
variable {X : Cx}
theorem iop_ok {o : Bop} {i j k : Int} (e : iop o i j = some k) : Two X (binaryOp (bopS o)) (.int i) (.int j) (.p (.int k)) := by
  have two : ∀ {f : Value → Value → Sem Value} {C : Int → Int → Prop} {g : Int → Int → Int}, OpR X f (rI C fun i j => .int (g i j)) → C i j → g i j = k → Two X f (.int i) (.int j) (.p (.int k)) := fun h c e =>
    ⟨_, h, fun F H x y Q s a b q => ⟨i, j, a.int, b.int, c, by subst e; exact q.int s⟩⟩
  have two0 : ∀ {f : Value → Value → Sem Value} {g : Int → Int → Int}, OpR X f (rI0 fun i j => .int (g i j)) → g i j = k → Two X f (.int i) (.int j) (.p (.int k)) := fun h e =>
    ⟨_, h, fun F H x y Q s a b q => ⟨i, j, a.int, b.int, by subst e; exact q.int s⟩⟩
  cases o <;> simp only [iop] at e
  · cases e; exact two0 op_add rfl
  · cases e; exact two0 op_sub rfl
  · unfold pmul at e
    split at e
    · rename_i h
      cases e
      rcases h with h | h
      · exact two op_mul h rfl
      · exact two op_mulW h rfl
    · cases e
  · unfold pdiv at e
    split at e
    · rename_i h; cases e; exact two op_fdivW h rfl
    · cases e
  · unfold pmod at e
    split at e
    · rename_i h; cases e; exact two op_mod h rfl
    · split at e
      · rename_i h; cases e; exact two op_modN h rfl
      · cases e
  · split at e
    · rename_i h; cases e; exact two op_pow h rfl
    · cases e
  · cases e; exact two0 op_and rfl
  · cases e; exact two0 op_or rfl
  · cases e; exact two0 op_xor rfl
  · split at e
    · rename_i h; cases e; exact two op_shl h rfl
    · cases e
  · split at e
    · rename_i h; cases e; exact two op_shr h rfl
    · cases e
theorem bin_ok {o : Bop} {v w : Val} {r : OV} (e : EN.bin o v w = some r) : Two X (binaryOp (bopS o)) v w r := by
  unfold EN.bin at e
  split at e
  · rename_i i j
    cases q : iop o i j with
    | none => rw [q] at e; cases e
    | some k => rw [q] at e; cases e; exact iop_ok q
  · split at e
    · rename_i x y h
      cases e
      exact ⟨_, op_add_str, fun F H a b Q s va vb q => ⟨x, y, va.str, vb.str, h, q.str s⟩⟩
    · cases e
  · split at e
    · rename_i xs ys h
      cases e
      refine ⟨_, op_catA, fun F H a b Q s va vb q => ?_⟩
      have ra := va.tup'
      have rb := vb.tup'
      obtain ⟨p1, vs, rfl, h1, r1⟩ := va.tup s
      obtain ⟨p2, ws, rfl, h2, r2⟩ := vb.tup s
      refine ⟨p1, p2, vs, ws, rfl, rfl, h1, h2, by rw [r1.len, r2.len]; exact h, fun e1 => ?_, fun _ e2 => ?_, fun _ _ p n => q.newT s (r1.app r2) p n⟩
      · have : xs = [] := by
          have := r1.len; rw [e1] at this; exact List.length_eq_zero_iff.mp this.symm
        subst this
        exact q.val s (by simpa using rb)
      · have : ys = [] := by
          have := r2.len; rw [e2] at this; exact List.length_eq_zero_iff.mp this.symm
        subst this
        exact q.val s (by simpa using ra)
    · cases e
  · split at e
    · rename_i xs ys h
      cases e
      refine ⟨_, op_catR, fun F H a b Q s va vb q => ?_⟩
      obtain ⟨p1, vs, rfl, h1, r1⟩ := va.lst
      obtain ⟨p2, ws, rfl, h2, r2⟩ := vb.lst
      exact ⟨p1, p2, vs, ws, rfl, rfl, h1, h2, by rw [r1.len, r2.len]; exact h, fun p n => q.newL s (r1.app r2) p n⟩
    · cases e
  · split at e
    · rename_i xs k h
      cases e
      refine ⟨_, op_repR, fun F H a b Q s va vb q => ?_⟩
      obtain ⟨p1, vs, rfl, h1, r1⟩ := va.lst
      exact ⟨p1, k, vs, rfl, vb.int, h1, h.1, h.2.1, by rw [r1.len]; exact h.2.2, fun p n => q.newL s (r1.reps _) p n⟩
    · cases e
  · split at e
    · rename_i xs k h
      cases e
      refine ⟨_, op_repT, fun F H a b Q s va vb q => ?_⟩
      obtain ⟨p1, vs, rfl, h1, r1⟩ := va.tup s
      refine ⟨p1, k, vs, rfl, vb.int, h1, fun e1 => h.1 ?_, h.2.1, h.2.2.1, by rw [r1.len]; exact h.2.2.2, fun p n => q.newT s (r1.reps _) p n⟩
      have := r1.len
      rw [e1] at this
      exact List.length_eq_zero_iff.mp this.symm
    · cases e
  · cases e

/-! ### comparisons -/
mutual
theorem dp_of {K : PySem.W.Frag} {H : Hp} : ∀ {v : Val} {x : V} {d : PyData}, Rp K H v x → pd v = some d → Dp K H x d
  | .non, x, d, h, e => by unfold Rp at h; unfold pd at e; cases e; subst h; exact .non
  | .bl b, x, d, h, e => by unfold Rp at h; unfold pd at e; cases e; subst h; exact .bl _
  | .int i, x, d, h, e => by unfold Rp at h; unfold pd at e; cases e; subst h; exact .int _
  | .str s, x, d, h, e => by unfold Rp at h; unfold pd at e; cases e; subst h; exact .str _
  | .tup xs, x, d, h, e => by
    unfold Rp at h; unfold pd at e
    obtain ⟨a, vs, rfl, h2, h3⟩ := h
    cases q : pds xs with
    | none => rw [q] at e; cases e
    | some ds => rw [q] at e; cases e; exact .tup h2 (dps_of h3 q)
  | .lst xs, x, d, h, e => by
    unfold Rp at h; unfold pd at e
    obtain ⟨a, vs, rfl, h2, h3⟩ := h
    cases q : pds xs with
    | none => rw [q] at e; cases e
    | some ds => rw [q] at e; cases e; exact .lst (.inl h2) (dps_of h3 q)
  | .dct _ _, x, d, h, e => by unfold pd at e; cases e
  | .scr xs, x, d, h, e => by
    unfold Rp at h; unfold pd at e
    obtain ⟨a, vs, rfl, h2, h3⟩ := h
    cases q : pds xs with
    | none => rw [q] at e; cases e
    | some ds => rw [q] at e; cases e; exact .lst h2 (dps_of h3 q)
theorem dps_of {K : PySem.W.Frag} {H : Hp} : ∀ {vs : List Val} {xs : List V} {ds : List PyData}, Rps K H vs xs → pds vs = some ds → DpAll K H xs ds
  | [], xs, ds, h, e => by unfold Rps at h; unfold pds at e; cases e; subst h; exact .nil
  | v :: vs, xs, ds, h, e => by
    unfold Rps at h; unfold pds at e
    obtain ⟨u, ws, rfl, h2, h3⟩ := h
    cases q1 : pd v with
    | none => rw [q1] at e; cases e
    | some d =>
      cases q2 : pds vs with
      | none => rw [q1, q2] at e; cases e
      | some ds' => rw [q1, q2] at e; cases e; exact .cons (dp_of h2 q1) (dps_of h3 q2)
end
/-! ### dicts -/
theorem Vw.dct {K : PySem.W.Frag} {F H : Hp} {ks vs : List Val} {x : V} (h : Vw K F H (.dct ks vs) x) : ∃ a kvs, x = .ref a ∧ Rd H a (.dK kvs) ∧ ks = kvs.map (fun p => kVal p.1) ∧ Rps K F vs (kvs.map (·.2)) := by
  unfold Vw at h; exact h
theorem key_of_val {k : Val} (h : isKey k = true) : ∃ key : Key, k = kVal key := by
  cases k with
  | int i => exact ⟨.inl i, rfl⟩
  | str x => exact ⟨.inr x, rfl⟩
  | _ => cases h
theorem keq_key (a b : Key) : keq (kVal a) (kVal b) = decide (a = b) := by
  cases a <;> cases b <;> simp [kVal, keq]
theorem vw_key {K : PySem.W.Frag} {F H : Hp} {k : Key} {y : V} (h : Vw K F H (kVal k) y) : y = kV k := by
  cases k with
  | inl i => exact h.int
  | inr x => exact h.str
theorem rp_key {K : PySem.W.Frag} {F : Hp} {k : Key} {y : V} (h : Rp K F (kVal k) y) : y = kV k := by
  cases k with
  | inl i => unfold kVal Rp at h; exact h
  | inr x => unfold kVal Rp at h; exact h
theorem dget_ok {K : PySem.W.Frag} {F : Hp} : ∀ {kvs : List (Key × V)} {vs : List Val} {k : Key}, Rps K F vs (kvs.map (·.2)) → match dget (kvs.map fun p => kVal p.1) vs (kVal k) with
    | some v => ∃ u, valV kvs k = some u ∧ Rp K F v u
    | none => valV kvs k = none
  | [], vs, k, r => by
    simp [dget, valV_nil]
  | p :: kvs, [], k, r => by unfold Rps at r; cases r
  | p :: kvs, v :: vs, k, r => by
    unfold Rps at r
    obtain ⟨u, ws, e, r1, r2⟩ := r
    simp only [List.map_cons, List.cons.injEq] at e
    obtain ⟨e1, e2⟩ := e
    subst e1 e2
    show match (if keq (kVal p.1) (kVal k) then some v else dget (kvs.map fun p => kVal p.1) vs (kVal k)) with
      | some v => ∃ u, valV (p :: kvs) k = some u ∧ Rp K F v u
      | none => valV (p :: kvs) k = none
    rw [keq_key]
    by_cases h : p.1 = k
    · rw [if_pos (decide_eq_true h), valV_pos h]
      exact ⟨_, rfl, r1⟩
    · rw [if_neg (by simpa using h), valV_neg h]
      exact dget_ok r2
theorem dget_some {K : PySem.W.Frag} {F : Hp} {kvs : List (Key × V)} {vs : List Val} {k : Key} {v : Val} (r : Rps K F vs (kvs.map (·.2))) (e : dget (kvs.map fun p => kVal p.1) vs (kVal k) = some v) : ∃ u, valV kvs k = some u ∧ Rp K F v u := by
  have := dget_ok (k := k) r
  rw [e] at this; exact this
theorem dget_none {K : PySem.W.Frag} {F : Hp} {kvs : List (Key × V)} {vs : List Val} {k : Key} (r : Rps K F vs (kvs.map (·.2))) (e : dget (kvs.map fun p => kVal p.1) vs (kVal k) = none) : valV kvs k = none := by
  have := dget_ok (k := k) r
  rw [e] at this; exact this
theorem dhas_ok {kvs : List (Key × V)} {k : Key} : dhas (kvs.map fun p => kVal p.1) (kVal k) = kvs.any fun kv => decide (kv.1 = k) := by
  unfold dhas
  rw [List.any_map]
  congr 1
  funext p
  exact keq_key p.1 k
theorem dsub_ok {K : PySem.W.Frag} {F : Hp} {w : Val} {u : V} {k : Key} (rw_ : Rp K F w u) : ∀ {kvs : List (Key × V)} {vs : List Val}, Rps K F vs (kvs.map (·.2)) → Rps K F (dsub (kvs.map fun p => kVal p.1) vs (kVal k) w) ((kvs.map fun kv => if kv.1 = k then (kv.1, u) else kv).map (·.2))
  | [], vs, r => by
    unfold Rps at r
    cases vs with
    | nil => exact Rps.nil
    | cons v vs => obtain ⟨u, ws, e, _⟩ := r; cases e
  | p :: kvs, [], r => by unfold Rps at r; cases r
  | p :: kvs, v :: vs, r => by
    unfold Rps at r
    obtain ⟨u', ws, e, r1, r2⟩ := r
    simp only [List.map_cons, List.cons.injEq] at e
    obtain ⟨e1, e2⟩ := e
    subst e1 e2
    show Rps K F ((if keq (kVal p.1) (kVal k) then w else v) :: dsub (kvs.map fun p => kVal p.1) vs (kVal k) w) _
    rw [keq_key]
    by_cases h : p.1 = k
    · rw [if_pos (decide_eq_true h), List.map_cons, if_pos h, List.map_cons]
      exact Rps.cons rw_ (dsub_ok rw_ r2)
    · rw [if_neg (by simpa using h), List.map_cons, if_neg h, List.map_cons]
      exact Rps.cons r1 (dsub_ok rw_ r2)
theorem dput_ok {K : PySem.W.Frag} {F : Hp} {w : Val} {u : V} {k : Key} {kvs : List (Key × V)} {vs : List Val} (rw_ : Rp K F w u) (r : Rps K F vs (kvs.map (·.2))) :
    dputK (kvs.map fun p => kVal p.1) (kVal k) = (putK kvs k u).map (fun p => kVal p.1) ∧ Rps K F (dputV (kvs.map fun p => kVal p.1) vs (kVal k) w) ((putK kvs k u).map (·.2)) := by
  unfold dputK dputV putK
  rw [dhas_ok]
  by_cases h : (kvs.any fun kv => decide (kv.1 = k)) = true
  · simp only [if_pos h]
    refine ⟨?_, dsub_ok rw_ r⟩
    rw [List.map_map]
    apply List.map_congr_left
    intro p _
    show kVal p.1 = kVal (if p.1 = k then (p.1, u) else p).1
    by_cases z : p.1 = k
    · rw [if_pos z]
    · rw [if_neg z]
  · simp only [if_neg h]
    refine ⟨by rw [List.map_append]; rfl, ?_⟩
    rw [List.map_append]
    exact r.app (Rps.one rw_)
theorem same1_ok {K : PySem.W.Frag} {F F' : Hp} {v w : Val} {u u' : V} (h : same1 v w = true) (r : Rp K F v u) (r' : Rp K F' w u') : u' = u ∧ flatB u = true := by
  cases v <;> cases w <;> first
    | (exfalso; exact Bool.noConfusion h)
    | (unfold Rp at r r'; subst r r'; simp only [same1, decide_eq_true_eq] at h; first | (subst h; exact ⟨rfl, rfl⟩) | exact ⟨rfl, rfl⟩)
theorem dsame_ok {K : PySem.W.Frag} {F : Hp} {ls : List (Key × V)} {ws : List Val} (rl : Rps K F ws (ls.map (·.2))) : ∀ {kvs : List (Key × V)} {vs : List Val}, Rps K F vs (kvs.map (·.2)) → dsame (kvs.map fun p => kVal p.1) vs (ls.map fun p => kVal p.1) ws = true → ∀ p ∈ kvs, valV ls p.1 = some p.2 ∧ flatB p.2 = true
  | [], vs, r, h, p, hp => by cases hp
  | q :: kvs, [], r, h, p, hp => by unfold Rps at r; cases r
  | q :: kvs, v :: vs, r, h, p, hp => by
    unfold Rps at r
    obtain ⟨u', us, e, r1, r2⟩ := r
    simp only [List.map_cons, List.cons.injEq] at e
    obtain ⟨e1, e2⟩ := e
    subst e1 e2
    have h : ((match dget (ls.map fun p => kVal p.1) ws (kVal q.1) with
      | some w => same1 v w
      | none => false) && dsame (kvs.map fun p => kVal p.1) vs (ls.map fun p => kVal p.1) ws) = true := h
    rw [Bool.and_eq_true] at h
    obtain ⟨h1, h2⟩ := h
    rcases List.mem_cons.mp hp with rfl | hp
    · cases z : dget (ls.map fun p => kVal p.1) ws (kVal p.1) with
      | none => rw [z] at h1; cases h1
      | some w =>
        rw [z] at h1
        obtain ⟨u, hu, ru⟩ := dget_some rl z
        obtain ⟨e, f⟩ := same1_ok h1 r1 ru
        subst e
        exact ⟨hu, f⟩
    · exact dsame_ok rl r2 h2 p hp
theorem op_eq_dictR {X : Cx} (hu : X.A.units < cLine) : OpR X (compareOp .Eq) (fun x y H Q => ∃ a b ks ls, x = .ref a ∧ y = .ref b ∧ Rd H a (.dK ks) ∧ Rd H b (.dK ls) ∧ ks.length = ls.length ∧ (∀ p ∈ ks, valV ls p.1 = some p.2 ∧ flatB p.2 = true) ∧ Q (.bl true) H) := by
  intro pins s σ H x y v u Q I rx ry h
  obtain ⟨a, b, ks, ls, rfl, rfl, ea, eb, hlen, hp, q⟩ := h
  obtain rfl : v = Value.ref a := rx
  obtain rfl : u = Value.ref b := ry
  obtain ⟨_, ya, va, ra, da⟩ := dk_rd I.hok ea
  obtain ⟨_, yb, vb, rb, db⟩ := dk_rd I.hok eb
  have hl : va.length = vb.length := by rw [← ra.length, ← rb.length]; exact hlen
  exact PySem.W.keq_eq (knd := mixKind X.prog X.w) (r := true) ya yb da db hu (fun _ => hits_all rb ra hp) (fin_bl I q (by simp [hl]))
theorem op_ne_dictR {X : Cx} (hu : X.A.units < cLine) : OpR X (compareOp .NotEq) (fun x y H Q => ∃ a b ks ls, x = .ref a ∧ y = .ref b ∧ Rd H a (.dK ks) ∧ Rd H b (.dK ls) ∧ ks.length = ls.length ∧ (∀ p ∈ ks, valV ls p.1 = some p.2 ∧ flatB p.2 = true) ∧ Q (.bl false) H) := by
  intro pins s σ H x y v u Q I rx ry h
  obtain ⟨a, b, ks, ls, rfl, rfl, ea, eb, hlen, hp, q⟩ := h
  obtain rfl : v = Value.ref a := rx
  obtain rfl : u = Value.ref b := ry
  obtain ⟨_, ya, va, ra, da⟩ := dk_rd I.hok ea
  obtain ⟨_, yb, vb, rb, db⟩ := dk_rd I.hok eb
  have hl : va.length = vb.length := by rw [← ra.length, ← rb.length]; exact hlen
  exact PySem.W.keq_ne (knd := mixKind X.prog X.w) (r := true) ya yb da db hu (fun _ => hits_all rb ra hp) (fin_bl I q (by simp [hl]))
theorem op_in_dictR {X : Cx} (hu : X.A.units + 1 < cLine) : OpR X (compareOp .In) (fun x y H Q => ∃ a o, y = .ref a ∧ DGet H a x o ∧ Q (.bl o.isSome) H) := by
  intro pins s σ H x y v u Q I rx ry h
  obtain ⟨a, o, rfl, g, q⟩ := h
  obtain rfl : u = Value.ref a := ry
  exact d_in hu I g rx fun s3 I3 => ⟨.bl o.isSome, H, I3, rfl, q⟩
theorem op_notin_dictR {X : Cx} (hu : X.A.units + 1 < cLine) : OpR X (compareOp .NotIn) (fun x y H Q => ∃ a o, y = .ref a ∧ DGet H a x o ∧ Q (.bl (!o.isSome)) H) := by
  intro pins s σ H x y v u Q I rx ry h
  obtain ⟨a, o, rfl, g, q⟩ := h
  obtain rfl : u = Value.ref a := ry
  exact d_notIn hu I g rx fun s3 I3 => ⟨.bl (!o.isSome), H, I3, rfl, q⟩
theorem ix_dictR {X : Cx} (hu : X.A.units + 1 < cLine) : IxR X (fun x y H Q => ∃ a v, x = .ref a ∧ DGet H a y (some v) ∧ Q v H) := by
  intro value slice pins s σ H x y v u Q I rx ry h hs
  obtain ⟨a, r, rfl, g, q⟩ := h
  obtain rfl : v = Value.ref a := rx
  exact tail_any (dict_typeIs I g) PySem.F.slot_dict_getitem.lookup (d_getItem hu I g ry fun w' s3 I3 rw' => ⟨r, H, I3, rw', q⟩) hs
theorem call_lenDR {X : Cx} : CallR X (.builtin "len") (fun xs H Q => ∃ a kvs, xs = [V.ref a] ∧ Rd H a (.dK kvs) ∧ Q (.int kvs.length) H) := by
  intro pins s σ H xs us Q I r q
  obtain ⟨a, kvs, rfl, hd, q⟩ := q
  rw [Vals.ref1 r]
  exact d_len I hd fun t s' I' => ⟨.int _, H, I', ⟨_, rfl⟩, q⟩
theorem dGet_val {K : PySem.W.Frag} {F H : Hp} {a : Addr} {kvs : List (Key × V)} {k : Key} {y : V} (hd : Rd H a (.dK kvs)) (hy : y = kV k) : DGet H a y (valV kvs k) := .inl ⟨kvs, k, hd, hy, rfl⟩
def copS : Cop → CmpOp
  | .eq => .Eq | .ne => .NotEq | .lt => .Lt | .le => .LtE | .gt => .Gt | .ge => .GtE | .inn => .In | .notin => .NotIn | .is => .Is | .isnot => .IsNot
theorem veq_data {v w : Val} {k : Bool} {X : Cx} (hu : X.A.units + 64 < cLine) (neg : Bool) (e : (match pd v, pd w with
    | some d, some e => if SeqAt.shaped d && SeqAt.shaped e then some (PyData.eqv d e) else none
    | _, _ => none) = some k) : Two X (compareOp (if neg then .NotEq else .Eq)) v w (.p (.bl (if neg then !k else k))) := by
  cases q1 : pd v with
  | none => rw [q1] at e; cases e
  | some d1 =>
    cases q2 : pd w with
    | none => rw [q1, q2] at e; cases e
    | some d2 =>
      rw [q1, q2] at e
      simp only at e
      split at e
      · rename_i h
        cases e
        rw [Bool.and_eq_true] at h
        cases neg with
        | false => exact ⟨_, op_eqD hu, fun F H x y Q s a b q => ⟨d1, d2, dp_of (a.rp s) q1, dp_of (b.rp s) q2, h.1, h.2, q.bl s⟩⟩
        | true => exact ⟨_, op_neD hu, fun F H x y Q s a b q => ⟨d1, d2, dp_of (a.rp s) q1, dp_of (b.rp s) q2, h.1, h.2, q.bl s⟩⟩
      · cases e
theorem veq_ok {v w : Val} {k : Bool} {X : Cx} (hu : X.A.units + 64 < cLine) (e : veq v w = some k) : Two X (compareOp .Eq) v w (.p (.bl k)) ∧ Two X (compareOp .NotEq) v w (.p (.bl (!k))) := by
  have sc : ∀ {x y : V}, scal x y = true → (∀ F H a, Vw X.K F H v a → a = x) → (∀ F H b, Vw X.K F H w b → b = y) → decide (x = y) = k → Two X (compareOp .Eq) v w (.p (.bl k)) ∧ Two X (compareOp .NotEq) v w (.p (.bl (!k))) := fun {x y} h1 h2 h3 h4 =>
    ⟨⟨_, op_eq, fun F H a b Q s va vb q => by rw [h2 _ _ _ va, h3 _ _ _ vb]; exact ⟨h1, by rw [h4]; exact q.bl s⟩⟩,
     ⟨_, op_ne, fun F H a b Q s va vb q => by rw [h2 _ _ _ va, h3 _ _ _ vb]; exact ⟨h1, by rw [h4]; exact q.bl s⟩⟩⟩
  unfold veq at e
  split at e
  · cases e; exact sc (x := .int _) (y := .int _) rfl (fun _ _ _ h => h.int) (fun _ _ _ h => h.int) (by simp)
  · cases e; exact sc (x := .str _) (y := .str _) rfl (fun _ _ _ h => h.str) (fun _ _ _ h => h.str) (by simp)
  · cases e; exact sc (x := .bl _) (y := .bl _) rfl (fun _ _ _ h => h.bl) (fun _ _ _ h => h.bl) (by simp)
  · split at e
    · rename_i h
      cases e
      have hu1 : X.A.units < cLine := by omega
      refine ⟨⟨_, op_eq_dictR hu1, fun F H x y Q s a b q => ?_⟩, ⟨_, op_ne_dictR hu1, fun F H x y Q s a b q => ?_⟩⟩ <;>
      · obtain ⟨p1, kv1, e1, d1, k1, r1⟩ := a.dct
        obtain ⟨p2, kv2, e2, d2, k2, r2⟩ := b.dct
        subst k1 k2
        exact ⟨p1, p2, kv1, kv2, e1, e2, d1, d2, by simpa using h.1, dsame_ok r2 r1 h.2, q.bl s⟩
    · cases e
  · exact ⟨veq_data hu false e, veq_data hu true e⟩

/-! ### flat things among others -/
theorem feq_ok {K : PySem.W.Frag} {F : Hp} {a b : Val} {x y : V} (ha : Rp K F a x) (hb : Rp K F b y) (fa : flat a = true) (fb : flat b = true) : eqV x y = feq a b ∧ flatV x = true ∧ flatV y = true := by
  cases a <;> first | (exfalso; exact Bool.noConfusion fa) | skip
  all_goals (cases b <;> first | (exfalso; exact Bool.noConfusion fb) | skip)
  all_goals (unfold Rp at ha hb; subst ha hb)
  all_goals refine ⟨?_, rfl, rfl⟩
  all_goals (unfold eqV feq)
  all_goals (try rfl)
  all_goals (try unfold b2z)
  all_goals (try (rw [Bool.beq_eq_decide_eq]))
theorem flat_all {K : PySem.W.Frag} {F : Hp} : ∀ {xs : List Val} {us : List V}, Rps K F xs us → xs.all flat = true → us.all flatV = true
  | [], us, h, e => by unfold Rps at h; subst h; rfl
  | x :: xs, us, h, e => by
    unfold Rps at h; obtain ⟨u, ws, rfl, h2, h3⟩ := h
    rw [List.all_cons, Bool.and_eq_true] at e
    rw [List.all_cons, Bool.and_eq_true]
    exact ⟨(feq_ok h2 h2 e.1 e.1).2.1, flat_all h3 e.2⟩
theorem any_ok {K : PySem.W.Frag} {F : Hp} {a : Val} {x : V} (ha : Rp K F a x) (fa : flat a = true) : ∀ {xs : List Val} {us : List V}, Rps K F xs us → xs.all flat = true → (us.any fun y => eqV y x) = xs.any fun y => feq y a
  | [], us, h, e => by unfold Rps at h; subst h; rfl
  | y :: xs, us, h, e => by
    unfold Rps at h; obtain ⟨u, ws, rfl, h2, h3⟩ := h
    rw [List.all_cons, Bool.and_eq_true] at e
    rw [List.any_cons, List.any_cons, any_ok ha fa h3 e.2, (feq_ok h2 ha e.1 fa).1]
theorem Vw.flat {K : PySem.W.Frag} {F H : Hp} {a : Val} {x : V} (h : Vw K F H a x) (fa : EN.flat a = true) : Rp K F a x := by
  cases a <;> first | (exfalso; exact Bool.noConfusion fa) | (unfold Vw at h; exact h)
theorem vin_ok {v w : Val} {k : Bool} {X : Cx} (hu : X.A.units + 64 < cLine) (e : vin v w = some k) : Two X (compareOp .In) v w (.p (.bl k)) ∧ Two X (compareOp .NotIn) v w (.p (.bl (!k))) := by
  have main : ∀ {ys : List Val}, vmem v ys = some k → (∀ F H x, Same F H → Vw X.K F H w x → ∃ p us, x = .ref p ∧ (SqL X.K H p us ∨ SqT X.K H p us) ∧ Rps X.K F ys us) →
      Two X (compareOp .In) v w (.p (.bl k)) ∧ Two X (compareOp .NotIn) v w (.p (.bl (!k))) := fun {ys} e hw => by
    unfold vmem at e
    split at e
    · rename_i h
      cases e
      rw [Bool.and_eq_true] at h
      have one : ∀ F H x y, Same F H → Vw X.K F H v x → Vw X.K F H w y → ∃ p us, y = .ref p ∧ (SqL X.K H p us ∨ SqT X.K H p us) ∧ flatV x = true ∧ us.all flatV = true ∧ inV x us = ys.any fun y => feq y v := fun F H x y s a b => by
        obtain ⟨p, us, e1, e2, r⟩ := hw F H y s b
        have ra := a.flat h.1
        exact ⟨p, us, e1, e2, (feq_ok ra ra h.1 h.1).2.1, flat_all r h.2, any_ok ra h.1 r h.2⟩
      refine ⟨⟨_, op_in_seq, fun F H x y Q s a b q => ?_⟩, ⟨_, op_notIn_seq, fun F H x y Q s a b q => ?_⟩⟩
      · obtain ⟨p, us, e1, e2, e3, e4, e5⟩ := one F H x y s a b
        refine ⟨p, us, e1, e2, e3, e4, ?_⟩
        rw [if_neg Bool.false_ne_true, e5]
        exact q.bl s
      · obtain ⟨p, us, e1, e2, e3, e4, e5⟩ := one F H x y s a b
        refine ⟨p, us, e1, e2, e3, e4, ?_⟩
        rw [if_pos rfl, e5]
        exact q.bl s
    · cases e
  unfold vin at e
  split at e
  · exact main e fun F H x s h => by
      obtain ⟨a, vs, h1, h2, h3⟩ := h.tup s
      exact ⟨a, vs, h1, .inr h2, h3⟩
  · exact main e fun F H x s h => by
      obtain ⟨a, vs, h1, h2, h3⟩ := h.lst
      exact ⟨a, vs, h1, .inl (.inl h2), h3⟩
  · rename_i ks vs
    split at e
    · rename_i hk
      obtain ⟨key, rfl⟩ := key_of_val hk
      cases e
      have hu1 : X.A.units + 1 < cLine := by omega
      have main : ∀ F H x y, Same F H → Vw X.K F H (kVal key) x → Vw X.K F H (.dct ks vs) y → ∃ a o, y = .ref a ∧ DGet H a x o ∧ o.isSome = (dget ks vs (kVal key)).isSome := fun F H x y s a b => by
        obtain ⟨p2, kv2, e2, d2, k2, r2⟩ := b.dct
        subst k2
        refine ⟨p2, valV kv2 key, e2, dGet_val (K := X.K) (F := F) d2 (vw_key a), ?_⟩
        cases z : dget (kv2.map fun p => kVal p.1) vs (kVal key) with
        | none => rw [dget_none r2 z]; rfl
        | some v => obtain ⟨u, hu, _⟩ := dget_some r2 z; rw [hu]; rfl
      refine ⟨⟨_, op_in_dictR hu1, fun F H x y Q s a b q => ?_⟩, ⟨_, op_notin_dictR hu1, fun F H x y Q s a b q => ?_⟩⟩
      · obtain ⟨p, o, e1, e2, e3⟩ := main F H x y s a b
        exact ⟨p, o, e1, e2, by rw [e3]; exact q.bl s⟩
      · obtain ⟨p, o, e1, e2, e3⟩ := main F H x y s a b
        exact ⟨p, o, e1, e2, by rw [e3]; exact q.bl s⟩
    · cases e
  · cases e
    exact ⟨⟨_, op_in_str, fun F H x y Q s a b q => ⟨_, _, a.str, b.str, q.bl s⟩⟩, ⟨_, op_notin_str, fun F H x y Q s a b q => ⟨_, _, a.str, b.str, q.bl s⟩⟩⟩
  · cases e
/-! ### one list of whole numbers ahead of another -/
theorem fl_lex {e r : Nat → Bool} {fin : Bool} : ∀ (ns ms : List Int) (k : Nat), (∀ j x y, ns[j]? = some x → ms[j]? = some y → e (k + j) = (x == y) ∧ r (k + j) = decide (x < y)) → fin = decide (ns.length < ms.length) → PySem.SeqAt.firstLt e r fin (List.range' k (min ns.length ms.length)) = HT.lexLt ns ms
  | [], [], k, h, hf => by subst hf; rfl
  | [], m :: ms, k, h, hf => by subst hf; simp [PySem.SeqAt.firstLt, HT.lexLt_nil_cons]
  | n :: ns, [], k, h, hf => by subst hf; simp [PySem.SeqAt.firstLt, HT.lexLt_cons_nil]
  | n :: ns, m :: ms, k, h, hf => by
    have h0 := h 0 n m rfl rfl
    have e1 : min (n :: ns).length (m :: ms).length = min ns.length ms.length + 1 := by simp only [List.length_cons]; omega
    rw [e1, List.range'_succ, HT.lexLt_cons]
    by_cases q : n = m
    · rw [PySem.SeqAt.firstLt_yes (by rw [show k = k + 0 from rfl, h0.1]; simpa using q), if_pos q]
      exact fl_lex ns ms (k + 1) (fun j x y a b => by have := h (j + 1) x y a b; rwa [show k + (j + 1) = k + 1 + j by omega] at this) (by rw [hf]; simp)
    · rw [PySem.SeqAt.firstLt_no (by rw [show k = k + 0 from rfl, h0.1]; simpa using q), if_neg q]
      exact h0.2
theorem intsAre_get : ∀ {vs : List Value} {ns : List Int}, IntsAre vs ns → ∀ {j : Nat} {x : Value}, vs[j]? = some x → ∃ (n : Int) (t : Tok), ns[j]? = some n ∧ x = .int n t := by
  intro vs ns h
  induction h with
  | nil => intro j x e; simp at e
  | cons a t h ih =>
    intro j x e
    cases j with
    | zero => simp at e; exact ⟨a, t, rfl, e.symm⟩
    | succ j => exact ih (by simpa using e)
def rLtL (K : PySem.W.Frag) : R2 := fun x y H Q => ∃ a b ns ms, x = .ref a ∧ y = .ref b ∧ SqL K H a (ns.map V.int) ∧ SqL K H b (ms.map V.int) ∧ Q (.bl (HT.lexLt ns ms)) H
theorem op_ltL {X : Cx} (hu : X.A.units < cLine) : OpR X (compareOp .Lt) (rLtL X.K) := by
  intro pins s σ H x y v u Q I rx ry h
  obtain ⟨a, b, ns, ms, rfl, rfl, ha, hb, q⟩ := h
  cases rx
  cases ry
  obtain ⟨its, r1, p1, _⟩ := I.list ha
  obtain ⟨its2, r2, p2, _⟩ := I.list hb
  have i1 : IntsAre its ns := intsAre_of r1
  have i2 : IntsAre its2 ms := intsAre_of r2
  have l1 := i1.length
  have l2 := i2.length
  have key : ∀ j (h1 : j < its.toArray.size) (h2 : j < its2.toArray.size), ∃ n m t t', its.toArray[j] = .int n t ∧ its2.toArray[j] = .int m t' ∧ ns.getD j 0 = n ∧ ms.getD j 0 = m := fun j h1 h2 => by
    have h1' : j < its.length := by simpa using h1
    have h2' : j < its2.length := by simpa using h2
    obtain ⟨n, t, e1, e2⟩ := intsAre_get i1 (List.getElem?_eq_getElem h1')
    obtain ⟨m, t', e3, e4⟩ := intsAre_get i2 (List.getElem?_eq_getElem h2')
    refine ⟨n, m, t, t', by simpa using e2, by simpa using e4, ?_, ?_⟩
    · rw [List.getD_eq_getElem?_getD, e1]; rfl
    · rw [List.getD_eq_getElem?_getD, e3]; rfl
  have R := PySem.SeqAt.RcLt.lists (A := X.A) (s := s) (e := fun j => ns.getD j 0 == ms.getD j 0) (r := fun j => decide (ns.getD j 0 < ms.getD j 0)) p1.isList p2.isList hu
    (fun j h1 h2 => by
      obtain ⟨n, m, t, t', e1, e2, e3, e4⟩ := key j h1 h2
      rw [e1, e2, e3, e4]
      exact PySem.SeqAt.EqAt.int_int n t m t')
    (fun j h1 h2 _ => by
      obtain ⟨n, m, t, t', e1, e2, e3, e4⟩ := key j h1 h2
      rw [e1, e2, e3, e4]
      exact fun prog w E Q h => HT.rcLt_int _ _ n t m t' prog w E Q h)
  refine R _ _ _ _ ?_
  have e : PySem.SeqAt.firstLt (fun j => ns.getD j 0 == ms.getD j 0) (fun j => decide (ns.getD j 0 < ms.getD j 0)) (decide (its.toArray.size < its2.toArray.size)) (List.range (min its.toArray.size its2.toArray.size)) = HT.lexLt ns ms := by
    rw [List.range_eq_range']
    have z1 : its.toArray.size = ns.length := by simpa using l1
    have z2 : its2.toArray.size = ms.length := by simpa using l2
    rw [z1, z2]
    refine fl_lex ns ms 0 (fun j x y a b => ?_) rfl
    simp only [Nat.zero_add, List.getD_eq_getElem?_getD, a, b, Option.getD_some]
    exact ⟨trivial, trivial⟩
  rw [e]
  exact ⟨.bl (HT.lexLt ns ms), H, I, rfl, q⟩
theorem asInts_rps {K : PySem.W.Frag} {F : Hp} : ∀ {xs : List Val} {us : List V} {ns : List Int}, asInts xs = some ns → Rps K F xs us → us = ns.map V.int
  | [], us, ns, e, r => by unfold asInts at e; cases e; unfold Rps at r; exact r
  | x :: xs, us, ns, e, r => by
    cases x with
    | int i =>
      have e : (asInts xs).map (i :: ·) = some ns := e
      cases z : asInts xs with
      | none => rw [z] at e; cases e
      | some ms =>
        rw [z] at e; cases e
        unfold Rps at r
        obtain ⟨u, ws, rfl, r1, r2⟩ := r
        unfold Rp at r1
        rw [r1, asInts_rps z r2]; rfl
    | _ => cases e
theorem vlt_ok {xs ys : List Val} {k : Bool} {X : Cx} (hu : X.A.units < cLine) (e : vlt xs ys = some k) : Two X (compareOp .Lt) (.lst xs) (.lst ys) (.p (.bl k)) := by
  unfold vlt at e
  split at e
  · rename_i ns ms e1 e2
    cases e
    refine ⟨_, op_ltL hu, fun F H x y Q s a b q => ?_⟩
    obtain ⟨a1, vs, rfl, k1, k2⟩ := a.lst
    obtain ⟨a2, ws, rfl, k3, k4⟩ := b.lst
    have z1 := asInts_rps e1 k2
    have z2 := asInts_rps e2 k4
    subst z1 z2
    exact ⟨a1, a2, ns, ms, rfl, rfl, .inl k1, .inl k3, q.bl s⟩
  · cases e
theorem cmp_ok {o : Cop} {v w : Val} {k : Bool} {X : Cx} (hu : X.A.units + 64 < cLine) (e : EN.cmp o v w = some k) : Two X (compareOp (copS o)) v w (.p (.bl k)) := by
  have isn : ∀ {v : Val}, (∀ F H x, Vw X.K F H v x → decide (x = V.non) = false) → Two X (compareOp .Is) v .non (.p (.bl false)) ∧ Two X (compareOp .IsNot) v .non (.p (.bl true)) := fun h =>
    ⟨⟨_, op_isN, fun F H x y Q s a b q => ⟨b.non, by rw [h F H x a]; exact q.bl s⟩⟩, ⟨_, op_notN, fun F H x y Q s a b q => ⟨b.non, by rw [h F H x a]; exact q.bl s⟩⟩⟩
  have nref : ∀ {p : Addr}, decide (V.ref p = V.non) = false := fun {p} => decide_eq_false fun z => nomatch z
  have itup : ∀ {xs : List Val}, ∀ F H x, Vw X.K F H (.tup xs) x → decide (x = V.non) = false := fun {xs} F H x h => by
    have h' := h.tup'
    unfold Rp at h'
    obtain ⟨a, vs, rfl, _⟩ := h'
    exact nref
  have ilst : ∀ {xs : List Val}, ∀ F H x, Vw X.K F H (.lst xs) x → decide (x = V.non) = false := fun {xs} F H x h => by
    obtain ⟨a, vs, rfl, _⟩ := h.lst
    exact nref
  have ier : ∀ {c : Nat} {w : Option Str}, ∀ F H x, Vw X.K F H (.er c w) x → decide (x = V.non) = false := fun {c w} F H x h => by
    unfold Vw Rp at h
    obtain ⟨a, d, rfl, _⟩ := h
    exact nref
  unfold EN.cmp at e
  split at e
  · exact (veq_ok hu e).1
  · cases q : veq v w with
    | none => rw [q] at e; cases e
    | some b => rw [q] at e; cases e; exact (veq_ok hu q).2
  · cases e; exact ⟨_, op_lt, fun F H x y Q s a b q => ⟨_, _, a.int, b.int, q.bl s⟩⟩
  · exact vlt_ok (by omega) e
  · cases e; exact ⟨_, op_le, fun F H x y Q s a b q => ⟨_, _, a.int, b.int, q.bl s⟩⟩
  · cases e; exact ⟨_, op_gt, fun F H x y Q s a b q => ⟨_, _, a.int, b.int, q.bl s⟩⟩
  · cases e; exact ⟨_, op_ge, fun F H x y Q s a b q => ⟨_, _, a.int, b.int, q.bl s⟩⟩
  · exact (vin_ok hu e).1
  · cases q : vin v w with
    | none => rw [q] at e; cases e
    | some b => rw [q] at e; cases e; exact (vin_ok hu q).2
  · cases e; exact ⟨_, op_isN, fun F H x y Q s a b q => ⟨b.non, by rw [a.non]; exact q.bl s⟩⟩
  · cases e; exact ⟨_, op_is_bl, fun F H x y Q s a b q => ⟨_, _, a.bl, b.bl, q.bl s⟩⟩
  · cases e; exact ⟨_, op_isnot_bl, fun F H x y Q s a b q => ⟨_, _, a.bl, b.bl, q.bl s⟩⟩
  · cases e; exact (isn fun F H x h => by rw [h.bl]; rfl).1
  · cases e; exact (isn fun F H x h => by rw [h.int]; rfl).1
  · cases e; exact (isn fun F H x h => by rw [h.str]; rfl).1
  · cases e; exact (isn itup).1
  · cases e; exact (isn ilst).1
  · cases e; exact (isn ier).1
  · cases e; exact ⟨_, op_notN, fun F H x y Q s a b q => ⟨b.non, by rw [a.non]; exact q.bl s⟩⟩
  · cases e; exact (isn fun F H x h => by rw [h.bl]; rfl).2
  · cases e; exact (isn fun F H x h => by rw [h.int]; rfl).2
  · cases e; exact (isn fun F H x h => by rw [h.str]; rfl).2
  · cases e; exact (isn itup).2
  · cases e; exact (isn ilst).2
  · cases e; exact (isn ier).2
  · cases e
/-! ### subscripts -/
theorem vix_ok {v w r : Val} {X : Cx} (hu : X.A.units + 64 < cLine) (e : vix v w = some r) : ∃ rr : R2, IxR X rr ∧ ∀ F H x y Q, Same F H → Vw X.K F H v x → Vw X.K F H w y → EndO X.K F H (.p r) Q → rr x y H Q := by
  unfold vix at e
  split at e
  · refine ⟨_, ix_tup, fun F H x y Q s a b q => ?_⟩
    obtain ⟨p, vs, h1, h2, h3⟩ := a.tup s
    obtain ⟨u, h4, h5⟩ := h3.atI e
    exact ⟨p, vs, _, u, h1, b.int, h2, h4, q.val s h5⟩
  · refine ⟨_, ix_list, fun F H x y Q s a b q => ?_⟩
    obtain ⟨p, vs, h1, h2, h3⟩ := a.lst
    obtain ⟨u, h4, h5⟩ := h3.atI e
    exact ⟨p, vs, _, u, h1, b.int, .inl h2, h4, q.val s h5⟩
  · refine ⟨_, ix_list, fun F H x y Q s a b q => ?_⟩
    obtain ⟨p, vs, h1, h2, h3⟩ := a.scr
    obtain ⟨u, h4, h5⟩ := h3.atI e
    exact ⟨p, vs, _, u, h1, b.int, h2, h4, q.val s h5⟩
  · rename_i ks vs
    split at e
    · rename_i hk
      obtain ⟨key, rfl⟩ := key_of_val hk
      refine ⟨_, ix_dictR (by omega), fun F H x y Q s a b q => ?_⟩
      obtain ⟨p2, kv2, e2, d2, k2, r2⟩ := a.dct
      subst k2
      obtain ⟨u, hu, ru⟩ := dget_some r2 e
      have g := dGet_val (K := X.K) (F := F) d2 (vw_key b)
      rw [hu] at g
      exact ⟨p2, u, e2, g, q.val s ru⟩
    · cases e
  · split at e
    · rename_i s i h
      cases z : L2.atI s.cps.toList i with
      | none => rw [z] at e; cases e
      | some c =>
        rw [z] at e; cases e
        exact ⟨_, ix_str, fun F H x y Q sm a b q => ⟨s, i, c, a.str, b.int, h, z, q.str sm⟩⟩
    · cases e
  · cases e
theorem vslc_ok {v : Val} {lo hi : Option Int} {r : OV} {X : Cx} (e : vslc v lo hi = some r) : ∃ rr : V → Option Int → Option Int → Hp → VK → Prop, SlR X rr ∧ ∀ F H x Q, Same F H → Vw X.K F H v x → EndO X.K F H r Q → rr x lo hi H Q := by
  unfold vslc at e
  split at e
  · rename_i xs
    cases e
    refine ⟨_, sl_tupA, fun F H x Q s a q => ?_⟩
    have ra := a.tup'
    obtain ⟨p, vs, rfl, h2, h3⟩ := a.tup s
    refine ⟨p, vs, rfl, h2, fun w => ?_, fun _ p n => q.newT s (h3.cut lo hi) p n⟩
    have : cutL xs lo hi = xs := by
      unfold cutL
      rw [h3.len] at w
      rw [w.1, w.2]
      simp
    rw [this] at q
    exact q.val s ra
  · cases e
    refine ⟨_, sl_list, fun F H x Q s a q => ?_⟩
    obtain ⟨p, vs, h1, h2, h3⟩ := a.lst
    exact ⟨p, vs, h1, .inl h2, fun p n => q.newL s (h3.cut lo hi) p n⟩
  · cases e
    refine ⟨_, sl_list, fun F H x Q s a q => ?_⟩
    obtain ⟨p, vs, h1, h2, h3⟩ := a.scr
    exact ⟨p, vs, h1, h2, fun p n => q.newL s (h3.cut lo hi) p n⟩
  · split at e
    · rename_i z h
      cases e
      exact ⟨_, sl_str, fun F H x Q s a q => ⟨z, a.str, h, q.str s⟩⟩
    · cases e
  · cases e

/-! ### truth -/
theorem truthy_ok {v : Val} {b : Bool} {K : PySem.W.Frag} {F H : Hp} {x : V} (e : truthy v = some b) (s : Same F H) (h : Vw K F H v x) : TruV K x H b := by
  cases v with
  | non => rw [h.non]; unfold truthy at e; cases e; rfl
  | bl k => rw [h.bl]; unfold truthy at e; cases e; rfl
  | int i => rw [h.int]; unfold truthy at e; cases e; rfl
  | str z =>
    rw [h.str]; simp only [truthy] at e
    split at e
    · rename_i hz
      cases e
      refine ⟨hz, ?_⟩
      cases z.length <;> rfl
    · cases e
  | tup xs =>
    obtain ⟨p, vs, rfl, h2, h3⟩ := h.tup s
    unfold truthy at e; cases e
    refine .inr (.inl ⟨vs, h2, ?_⟩)
    have := h3.len
    cases vs <;> cases xs <;> first | rfl | (simp at this)
  | lst xs =>
    obtain ⟨p, vs, rfl, h2, h3⟩ := h.lst
    unfold truthy at e; cases e
    refine .inl ⟨vs, .inl h2, ?_⟩
    have := h3.len
    cases vs <;> cases xs <;> first | rfl | (simp at this)
  | dct ks xs => unfold truthy at e; cases e
  | scr xs => unfold truthy at e; cases e
  | er c w => unfold truthy at e; cases e

/-! ### built-ins -/
def Vws (K : PySem.W.Frag) (F H : Hp) : List Val → List V → Prop
  | [], xs => xs = []
  | v :: vs, xs => ∃ x ys, xs = x :: ys ∧ Vw K F H v x ∧ Vws K F H vs ys
def biV : Bi → Value
  | .len => .builtin "len" | .sum => .builtin "sum" | .sorted => .builtin "sorted" | .abs => .builtin "abs" | .min => .builtin "min" | .max => .builtin "max" | .all => .builtin "all"
  | .int => .type "int" | .tuple => .type "tuple" | .list => .type "list" | .str => .type "str" | .dict => .type "dict"
def Many (X : Cx) (f : Value) (vs : List Val) (r : OV) : Prop :=
  ∃ rr : List V → Hp → VK → Prop, CallR X f rr ∧ ∀ F H xs Q, Same F H → Vws X.K F H vs xs → EndO X.K F H r Q → rr xs H Q
theorem Vws.one {K : PySem.W.Frag} {F H : Hp} {v : Val} {xs : List V} (h : Vws K F H [v] xs) : ∃ x, xs = [x] ∧ Vw K F H v x := by
  unfold Vws at h
  obtain ⟨x, ys, rfl, h2, h3⟩ := h
  unfold Vws at h3
  subst h3
  exact ⟨x, rfl, h2⟩
theorem Vws.two {K : PySem.W.Frag} {F H : Hp} {v w : Val} {xs : List V} (h : Vws K F H [v, w] xs) : ∃ x y, xs = [x, y] ∧ Vw K F H v x ∧ Vw K F H w y := by
  unfold Vws at h
  obtain ⟨x, ys, rfl, h2, h3⟩ := h
  obtain ⟨y, rfl, h4⟩ := h3.one
  exact ⟨x, y, rfl, h2, h4⟩
theorem ins_perm (i : Int) : ∀ l : List Int, (EN.ins i l).Perm (i :: l)
  | [] => .refl _
  | j :: js => by
    unfold EN.ins
    split
    · exact .refl _
    · exact ((ins_perm i js).cons j).trans (.swap i j js)
theorem isort_perm : ∀ l : List Int, (isort l).Perm l
  | [] => .refl _
  | i :: is => (ins_perm i (isort is)).trans ((isort_perm is).cons i)
theorem ins_sorted (i : Int) : ∀ l : List Int, l.Pairwise (· ≤ ·) → (EN.ins i l).Pairwise (· ≤ ·)
  | [], _ => by simp [EN.ins]
  | j :: js, h => by
    unfold EN.ins
    rw [List.pairwise_cons] at h
    split
    · rename_i hij
      rw [List.pairwise_cons, List.pairwise_cons]
      refine ⟨fun a ha => ?_, h⟩
      rcases List.mem_cons.mp ha with rfl | ha
      · exact hij
      · exact Int.le_trans hij (h.1 a ha)
    · rename_i hij
      rw [List.pairwise_cons]
      refine ⟨fun a ha => ?_, ins_sorted i js h.2⟩
      rcases List.mem_cons.mp ((ins_perm i js).mem_iff.mp ha) with rfl | ha
      · omega
      · exact h.1 a ha
theorem isort_sorted : ∀ l : List Int, (isort l).Pairwise (· ≤ ·)
  | [] => .nil
  | i :: is => ins_sorted i _ (isort_sorted is)
theorem sorted_one : ∀ {a b : List Int}, a.Perm b → a.Pairwise (· ≤ ·) → b.Pairwise (· ≤ ·) → a = b
  | [], b, p, _, _ => by simpa using p.symm
  | x :: xs, [], p, _, _ => by simp at p
  | x :: xs, y :: ys, p, h1, h2 => by
    rw [List.pairwise_cons] at h1 h2
    have e : x = y := by
      have m1 := p.mem_iff.mp (List.mem_cons_self (a := x) (l := xs))
      have m2 := p.mem_iff.mpr (List.mem_cons_self (a := y) (l := ys))
      rcases List.mem_cons.mp m1 with e | m1
      · exact e
      · rcases List.mem_cons.mp m2 with e | m2
        · exact e.symm
        · exact Int.le_antisymm (h1.1 y m2) (h2.1 x m1)
    subst e
    rw [sorted_one (List.perm_cons x |>.mp p) h1.2 h2.2]
theorem Rps.strs {K : PySem.W.Frag} {F : Hp} : ∀ {xs : List Val} {us : List V} {ns : List Str}, Rps K F xs us → asStrs xs = some ns → us = ns.map V.str ∧ xs = ns.map Val.str
  | [], us, ns, r, e => by
    unfold asStrs at e; cases e
    unfold Rps at r; subst r
    exact ⟨rfl, rfl⟩
  | .str i :: xs, us, ns, r, e => by
    unfold asStrs at e
    unfold Rps at r
    obtain ⟨u, ws, rfl, r1, r2⟩ := r
    cases z : asStrs xs with
    | none => rw [z] at e; cases e
    | some ms =>
      rw [z] at e; cases e
      obtain ⟨rfl, rfl⟩ := Rps.strs r2 z
      unfold Rp at r1; subst r1
      exact ⟨rfl, rfl⟩
  | .non :: _, _, _, _, e => by cases e
  | .bl _ :: _, _, _, _, e => by cases e
  | .int _ :: _, _, _, _, e => by cases e
  | .tup _ :: _, _, _, _, e => by cases e
  | .lst _ :: _, _, _, _, e => by cases e
  | .dct _ _ :: _, _, _, _, e => by cases e
  | .scr _ :: _, _, _, _, e => by cases e
theorem Rps.of_strs {K : PySem.W.Frag} {F : Hp} : ∀ ns : List Str, Rps K F (ns.map Val.str) (ns.map V.str)
  | [] => Rps.nil
  | n :: ns => Rps.cons (by unfold Rp; rfl) (Rps.of_strs ns)
theorem Rps.of_bls {K : PySem.W.Frag} {F : Hp} : ∀ ns : List Bool, Rps K F (ns.map Val.bl) (ns.map V.bl)
  | [] => Rps.nil
  | n :: ns => Rps.cons (by unfold Rp; rfl) (Rps.of_bls ns)
theorem Rps.bls {K : PySem.W.Frag} {F : Hp} : ∀ {xs : List Val} {us : List V} {ns : List Bool}, Rps K F xs us → asBls xs = some ns → us = ns.map V.bl ∧ xs = ns.map Val.bl
  | [], us, ns, r, e => by
    unfold asBls at e; cases e
    unfold Rps at r; subst r
    exact ⟨rfl, rfl⟩
  | .bl i :: xs, us, ns, r, e => by
    unfold asBls at e
    unfold Rps at r
    obtain ⟨u, ws, rfl, r1, r2⟩ := r
    cases z : asBls xs with
    | none => rw [z] at e; cases e
    | some ms =>
      rw [z] at e; cases e
      obtain ⟨rfl, rfl⟩ := Rps.bls r2 z
      unfold Rp at r1; subst r1
      exact ⟨rfl, rfl⟩
  | .non :: _, _, _, _, e => by cases e
  | .str _ :: _, _, _, _, e => by cases e
  | .int _ :: _, _, _, _, e => by cases e
  | .tup _ :: _, _, _, _, e => by cases e
  | .lst _ :: _, _, _, _, e => by cases e
  | .dct _ _ :: _, _, _, _, e => by cases e
  | .scr _ :: _, _, _, _, e => by cases e
theorem keys_ints : ∀ {kvs : List (Key × V)} {ns : List Int}, asInts (kvs.map fun p => kVal p.1) = some ns → kvs.map (·.1) = ns.map Sum.inl
  | [], ns, e => by unfold asInts at e; cases e; rfl
  | (.inl i, v) :: kvs, ns, e => by
    have e : (asInts (kvs.map fun p => kVal p.1)).map (i :: ·) = some ns := e
    cases z : asInts (kvs.map fun p => kVal p.1) with
    | none => rw [z] at e; cases e
    | some ms =>
      rw [z] at e; cases e
      simp [keys_ints z]
  | (.inr x, v) :: kvs, ns, e => by
    have e : (none : Option (List Int)) = some ns := e
    cases e
theorem keys_strs : ∀ {kvs : List (Key × V)} {ns : List Str}, asStrs (kvs.map fun p => kVal p.1) = some ns → kvs.map (·.1) = ns.map Sum.inr
  | [], ns, e => by unfold asStrs at e; cases e; rfl
  | (.inr i, v) :: kvs, ns, e => by
    have e : (asStrs (kvs.map fun p => kVal p.1)).map (i :: ·) = some ns := e
    cases z : asStrs (kvs.map fun p => kVal p.1) with
    | none => rw [z] at e; cases e
    | some ms =>
      rw [z] at e; cases e
      simp [keys_strs z]
  | (.inl x, v) :: kvs, ns, e => by
    have e : (none : Option (List Str)) = some ns := e
    cases e
theorem keys_len {α : Type} {kvs : List (Key × V)} {ns : List α} {f : α → Key} (h : kvs.map (·.1) = ns.map f) : ns.length = kvs.length := by
  have := congrArg List.length h
  simpa using this.symm
def leS (a b : Str) : Prop := ¬ b.cps.toList < a.cps.toList
theorem leS_trans {a b c : Str} (h1 : leS a b) (h2 : leS b c) : leS a c := by
  have h1 : a.cps.toList ≤ b.cps.toList := List.not_lt.mp h1
  have h2 : b.cps.toList ≤ c.cps.toList := List.not_lt.mp h2
  exact List.not_lt.mpr (List.le_trans h1 h2)
theorem leS_anti {a b : Str} (h1 : leS a b) (h2 : leS b a) : a = b := by
  have h1 : a.cps.toList ≤ b.cps.toList := List.not_lt.mp h1
  have h2 : b.cps.toList ≤ a.cps.toList := List.not_lt.mp h2
  have := List.le_antisymm h1 h2
  obtain ⟨x⟩ := a
  obtain ⟨y⟩ := b
  congr 1
  exact Array.toList_inj.mp this
theorem leS_of_not {a b : Str} (h : ltS a b = false) : leS b a := by
  unfold ltS at h; simpa [leS] using h
theorem leS_of {a b : Str} (h : ltS a b = true) : leS a b := by
  unfold ltS at h
  have h : a.cps.toList < b.cps.toList := by simpa using h
  exact fun w => List.lt_irrefl _ (List.lt_trans h w)
theorem insS_perm (i : Str) : ∀ l : List Str, (EN.insS i l).Perm (i :: l)
  | [] => .refl _
  | j :: js => by
    unfold EN.insS
    split
    · exact ((insS_perm i js).cons j).trans (.swap i j js)
    · exact .refl _
theorem ssort_perm : ∀ l : List Str, (ssort l).Perm l
  | [] => .refl _
  | i :: is => (insS_perm i (ssort is)).trans ((ssort_perm is).cons i)
theorem insS_sorted (i : Str) : ∀ l : List Str, l.Pairwise leS → (EN.insS i l).Pairwise leS
  | [], _ => by simp [EN.insS]
  | j :: js, h => by
    unfold EN.insS
    rw [List.pairwise_cons] at h
    split
    · rename_i hij
      rw [List.pairwise_cons]
      refine ⟨fun a ha => ?_, insS_sorted i js h.2⟩
      rcases List.mem_cons.mp ((insS_perm i js).mem_iff.mp ha) with rfl | ha
      · exact leS_of hij
      · exact h.1 a ha
    · rename_i hij
      have hij := leS_of_not (by simpa using hij : ltS j i = false)
      rw [List.pairwise_cons, List.pairwise_cons]
      refine ⟨fun a ha => ?_, h⟩
      rcases List.mem_cons.mp ha with rfl | ha
      · exact hij
      · exact leS_trans hij (h.1 a ha)
theorem ssort_sorted : ∀ l : List Str, (ssort l).Pairwise leS
  | [] => .nil
  | i :: is => insS_sorted i _ (ssort_sorted is)
theorem sorted_oneS : ∀ {a b : List Str}, a.Perm b → a.Pairwise leS → b.Pairwise leS → a = b
  | [], b, p, _, _ => by simpa using p.symm
  | x :: xs, [], p, _, _ => by simp at p
  | x :: xs, y :: ys, p, h1, h2 => by
    rw [List.pairwise_cons] at h1 h2
    have e : x = y := by
      have m1 := p.mem_iff.mp (List.mem_cons_self (a := x) (l := xs))
      have m2 := p.mem_iff.mpr (List.mem_cons_self (a := y) (l := ys))
      rcases List.mem_cons.mp m1 with e | m1
      · exact e
      · rcases List.mem_cons.mp m2 with e | m2
        · exact e.symm
        · exact leS_anti (h1.1 y m2) (h2.1 x m1)
    subst e
    rw [sorted_oneS (List.perm_cons x |>.mp p) h1.2 h2.2]
theorem rising_leS : ∀ (l : List Str) (p : Str), PyProof.Rows.risingS p l = true → (∀ x ∈ l, leS p x) ∧ l.Pairwise leS
  | [], p, _ => ⟨fun _ z => (nomatch z), .nil⟩
  | x :: r, p, h => by
    unfold PyProof.Rows.risingS at h
    rw [Bool.and_eq_true] at h
    obtain ⟨h1, h2⟩ := h
    have h1 : leS p x := by
      rw [PyProof.Rows.ltCps_eq] at h1
      simpa [leS] using h1
    obtain ⟨h3, h4⟩ := rising_leS r x h2
    refine ⟨fun y hy => ?_, List.pairwise_cons.mpr ⟨h3, h4⟩⟩
    rcases List.mem_cons.mp hy with rfl | hy
    · exact h1
    · exact leS_trans h1 (h3 y hy)
theorem sortedS_leS {l : List Str} (h : PyProof.Rows.sortedS l = true) : l.Pairwise leS := by
  cases l with
  | nil => exact .nil
  | cons x r => exact List.pairwise_cons.mpr (rising_leS r x h)
theorem putK_new {kvs : List (Key × V)} {k : Key} {v : V} (h : k ∉ kvs.map (·.1)) : putK kvs k v = kvs ++ [(k, v)] := by
  unfold putK
  rw [if_neg]
  intro e
  rw [List.any_eq_true] at e
  obtain ⟨p, hp, e⟩ := e
  have e := of_decide_eq_true e
  exact h (List.mem_map.mpr ⟨p, hp, e⟩)
theorem mergeK_nd : ∀ {more kvs : List (Key × V)}, (kvs.map (·.1) ++ more.map (·.1)).Nodup → mergeK kvs more = kvs ++ more
  | [], kvs, _ => by simp [mergeK]
  | p :: r, kvs, h => by
    have hp : p.1 ∉ kvs.map (·.1) := fun hm => by
      rw [List.nodup_append] at h
      exact h.2.2 _ hm _ (by simp) rfl
    show mergeK (putK kvs p.1 p.2) r = _
    rw [putK_new hp, mergeK_nd (by simpa [List.append_assoc] using h)]
    simp
theorem nodup_inr {ks : List Str} (h : ks.Nodup) : (ks.map (Sum.inr : Str → Key)).Nodup := by
  induction ks with
  | nil => simp
  | cons k ks ih =>
    rw [List.nodup_cons] at h
    rw [List.map_cons, List.nodup_cons]
    refine ⟨fun hm => ?_, ih h.2⟩
    obtain ⟨t, ht, e⟩ := List.mem_map.mp hm
    cases e
    exact h.1 ht
theorem ps_of {K : PySem.W.Frag} {F H : Hp} (s : Same F H) : ∀ {xs : List Val} {us : List V} {ks : List Str} {vs : List Val}, Rps K F xs us → asPs xs = some (ks, vs) → ∃ (ps : List Addr) (kvs : List (Key × V)), us = ps.map V.ref ∧ Paired (fun p kv => SqT K H p [kV kv.1, kv.2]) ps kvs ∧ kvs.map (·.1) = ks.map Sum.inr ∧ Rps K F vs (kvs.map (·.2))
  | [], us, ks, vs, r, e => by
    unfold asPs at e; cases e
    unfold Rps at r; subst r
    exact ⟨[], [], rfl, .nil, rfl, Rps.nil⟩
  | x :: xs, us, ks, vs, r, e => by
    unfold Rps at r
    obtain ⟨u, ws, rfl, r1, r2⟩ := r
    unfold asPs at e
    split at e
    · cases e
      contradiction
    · rename_i k v ys h
      cases h
      cases z : asPs xs with
      | none => rw [z] at e; cases e
      | some p =>
        rw [z] at e
        obtain ⟨ks', vs'⟩ := p
        cases e
        obtain ⟨ps, kvs, rfl, h1, h2, h3⟩ := ps_of s r2 z
        unfold Rp at r1
        obtain ⟨a, ws, rfl, q1, q2⟩ := r1
        unfold Rps at q2
        obtain ⟨u1, w1, rfl, q3, q4⟩ := q2
        unfold Rps at q4
        obtain ⟨u2, w2, rfl, q5, q6⟩ := q4
        unfold Rps at q6
        subst q6
        unfold Rp at q3
        subst q3
        exact ⟨a :: ps, (.inr k, u2) :: kvs, rfl, .cons (Same.sqT s q1) h1, by rw [List.map_cons, List.map_cons, h2], by unfold Rps; exact ⟨u2, _, rfl, q5, h3⟩⟩
    · cases e
theorem bi_ok {b : Bi} {vs : List Val} {r : OV} {X : Cx} (hu : X.A.units + 64 < cLine) (hc : X.calm = true) (e : EN.bi b vs = some r) : Many X (biV b) vs r := by
  unfold EN.bi at e
  split at e
  · cases e
    refine ⟨_, call_len_seq, fun F H xs Q s hh q => ?_⟩
    obtain ⟨x, ex, h⟩ := hh.one
    subst ex
    obtain ⟨p, us, rfl, h2, h3⟩ := h.tup s
    exact ⟨p, us, rfl, .inr h2, by rw [h3.len]; exact q.int s⟩
  · cases e
    refine ⟨_, call_len_seq, fun F H xs Q s hh q => ?_⟩
    obtain ⟨x, ex, h⟩ := hh.one
    subst ex
    obtain ⟨p, us, rfl, h2, h3⟩ := h.lst
    exact ⟨p, us, rfl, .inl (.inl h2), by rw [h3.len]; exact q.int s⟩
  · cases e
    refine ⟨_, call_len_seq, fun F H xs Q s hh q => ?_⟩
    obtain ⟨x, ex, h⟩ := hh.one
    subst ex
    obtain ⟨p, us, rfl, h2, h3⟩ := h.scr
    exact ⟨p, us, rfl, .inl h2, by rw [h3.len]; exact q.int s⟩
  · cases e
    refine ⟨_, call_lenDR, fun F H xs Q s hh q => ?_⟩
    obtain ⟨x, ex, h⟩ := hh.one
    subst ex
    obtain ⟨p, kvs, rfl, h2, h3, h4⟩ := h.dct
    subst h3
    refine ⟨p, kvs, rfl, h2, ?_⟩
    have := q.int s
    rwa [List.length_map] at this
  · cases e
    refine ⟨_, call_dictD, fun F H xs Q s hh q => ?_⟩
    obtain ⟨x, ex, h⟩ := hh.one
    subst ex
    obtain ⟨p, kvs, rfl, h2, h3, h4⟩ := h.dct
    refine ⟨p, kvs, rfl, h2, fun p n => ?_⟩
    obtain ⟨l, s', n'⟩ := Al.own (o := .dK kvs) s n
    exact q _ _ _ [p] l s' (by simp) (by unfold Ro; exact ⟨p, kvs, rfl, rfl, n', upd_same, h3, h4⟩)
  · split at e
    · rename_i z hz
      cases e
      refine ⟨_, call_len_str, fun F H xs Q s hh q => ?_⟩
      obtain ⟨x, ex, h⟩ := hh.one
      subst ex
      exact ⟨z, by rw [h.str], hz, q.int s⟩
    · cases e
  · rename_i xs
    cases z : asInts xs with
    | none => rw [z] at e; cases e
    | some ns =>
      rw [z] at e; cases e
      refine ⟨_, cr_sum hc, fun F H xs Q s hh q => ?_⟩
      obtain ⟨x, ex, h⟩ := hh.one
      subst ex
      obtain ⟨p, us, rfl, h2, h3⟩ := h.lst
      obtain ⟨e1, e2⟩ := h3.ints z
      subst e1
      exact ⟨p, ns, rfl, .inl h2, q.int s⟩
  · cases e
    refine ⟨_, call_int1, fun F H xs Q s hh q => ?_⟩
    obtain ⟨x, ex, h⟩ := hh.one
    subst ex
    exact .inl ⟨_, by rw [h.int], q.int s⟩
  · cases e
    refine ⟨_, call_int1, fun F H xs Q s hh q => ?_⟩
    obtain ⟨x, ex, h⟩ := hh.one
    subst ex
    exact .inr ⟨_, by rw [h.bl], q.int s⟩
  · cases e
    refine ⟨_, call_tuple_of, fun F H xs Q s hh q => ?_⟩
    obtain ⟨x, ex, h⟩ := hh.one
    subst ex
    have ra := h.tup'
    obtain ⟨p, us, rfl, h2, h3⟩ := h.tup s
    exact ⟨p, us, rfl, .inr ⟨h2, q.val s ra⟩⟩
  · cases e
    refine ⟨_, call_tuple_of, fun F H xs Q s hh q => ?_⟩
    obtain ⟨x, ex, h⟩ := hh.one
    subst ex
    obtain ⟨p, us, rfl, h2, h3⟩ := h.lst
    exact ⟨p, us, rfl, .inl ⟨.inl h2, fun p n => q.newT s h3 p n⟩⟩
  · cases e
    refine ⟨_, call_list_of, fun F H xs Q s hh q => ?_⟩
    obtain ⟨x, ex, h⟩ := hh.one
    subst ex
    obtain ⟨p, us, rfl, h2, h3⟩ := h.tup s
    exact ⟨p, us, rfl, .inr h2, fun p n => q.newL s h3 p n⟩
  · cases e
    refine ⟨_, call_list_of, fun F H xs Q s hh q => ?_⟩
    obtain ⟨x, ex, h⟩ := hh.one
    subst ex
    obtain ⟨p, us, rfl, h2, h3⟩ := h.lst
    exact ⟨p, us, rfl, .inl (.inl h2), fun p n => q.newL s h3 p n⟩
  · cases e
    refine ⟨_, call_list_of, fun F H xs Q s hh q => ?_⟩
    obtain ⟨x, ex, h⟩ := hh.one
    subst ex
    obtain ⟨p, us, rfl, h2, h3⟩ := h.scr
    exact ⟨p, us, rfl, .inl h2, fun p n => q.newL s h3 p n⟩
  · rename_i ys
    split at e
    · rename_i hl
      unfold vsort at e
      cases z : asInts ys with
      | none =>
        rw [z] at e
        cases z2 : asStrs ys with
        | none =>
          rw [z2] at e
          cases z3 : asBls ys with
          | none => rw [z3] at e; cases e
          | some bs =>
            rw [z3] at e; cases e
            refine ⟨_, cr_sortedB hu, fun F H xs Q s hh q => ?_⟩
            obtain ⟨x, ex, h⟩ := hh.one
            subst ex
            obtain ⟨p, us, rfl, h2, h3⟩ := h.lst
            obtain ⟨e1, e2⟩ := h3.bls z3
            subst e1 e2
            exact ⟨p, bs, rfl, .inl h2, by simpa using hl, fun p n => q.newL s (Rps.of_bls _) p n⟩
        | some ss =>
          rw [z2] at e; cases e
          refine ⟨_, cr_sortedS, fun F H xs Q s hh q => ?_⟩
          obtain ⟨x, ex, h⟩ := hh.one
          subst ex
          obtain ⟨p, us, rfl, h2, h3⟩ := h.lst
          obtain ⟨e1, e2⟩ := h3.strs z2
          subst e1 e2
          refine ⟨p, ss, rfl, .inl h2, by simpa using hl, fun ns' p hp hs n => ?_⟩
          have : ns' = ssort ss := sorted_oneS (hp.trans (ssort_perm ss).symm) (sortedS_leS hs) (ssort_sorted ss)
          subst this
          exact q.newL s (Rps.of_strs _) p n
      | some ns =>
        rw [z] at e; cases e
        refine ⟨_, cr_sorted, fun F H xs Q s hh q => ?_⟩
        obtain ⟨x, ex, h⟩ := hh.one
        subst ex
        obtain ⟨p, us, rfl, h2, h3⟩ := h.lst
        obtain ⟨e1, e2⟩ := h3.ints z
        subst e1 e2
        refine ⟨p, ns, rfl, .inl h2, by simpa using hl, fun ns' p hp hs n => ?_⟩
        have : ns' = isort ns := sorted_one (hp.trans (isort_perm ns).symm) hs (isort_sorted ns)
        subst this
        exact q.newL s (Rps.of_ints _) p n
    · cases e
  · rename_i ks vs
    split at e
    · rename_i hl
      cases z : asInts ks with
      | none =>
        rw [z] at e
        cases z2 : asStrs ks with
        | none => rw [z2] at e; cases e
        | some ss =>
          rw [z2] at e; cases e
          refine ⟨_, call_sortedD hc, fun F H xs Q s hh q => ?_⟩
          obtain ⟨x, ex, h⟩ := hh.one
          subst ex
          obtain ⟨p, kvs, rfl, h2, h3, h4⟩ := h.dct
          subst h3
          have hk := keys_strs z2
          refine ⟨p, kvs, ss, rfl, h2, hk, by rw [keys_len hk]; simpa using hl, fun ns' p hp hs n => ?_⟩
          have : ns' = ssort ss := sorted_oneS (hp.trans (ssort_perm ss).symm) (sortedS_leS hs) (ssort_sorted ss)
          subst this
          exact q.newL s (Rps.of_strs _) p n
      | some ns =>
        rw [z] at e; cases e
        refine ⟨_, call_sortedDI hc, fun F H xs Q s hh q => ?_⟩
        obtain ⟨x, ex, h⟩ := hh.one
        subst ex
        obtain ⟨p, kvs, rfl, h2, h3, h4⟩ := h.dct
        subst h3
        have hk := keys_ints z
        refine ⟨p, kvs, ns, rfl, h2, hk, by rw [keys_len hk]; simpa using hl, fun ns' p hp hs n => ?_⟩
        have : ns' = isort ns := sorted_one (hp.trans (isort_perm ns).symm) hs (isort_sorted ns)
        subst this
        exact q.newL s (Rps.of_ints _) p n
    · cases e
  · cases e
    refine ⟨_, call_abs, fun F H xs Q s hh q => ?_⟩
    obtain ⟨x, ex, h⟩ := hh.one
    subst ex
    exact ⟨_, by rw [h.int], q.int s⟩
  · cases e
    refine ⟨_, call_min2 hc, fun F H xs Q s hh q => ?_⟩
    obtain ⟨x, y, rfl, h1, h2⟩ := hh.two
    exact ⟨_, _, by rw [h1.int, h2.int], q.int s⟩
  · cases e
    refine ⟨_, call_max2 hc, fun F H xs Q s hh q => ?_⟩
    obtain ⟨x, y, rfl, h1, h2⟩ := hh.two
    exact ⟨_, _, by rw [h1.int, h2.int], q.int s⟩
  · rename_i xs
    cases z : asPs xs with
    | none => rw [z] at e; cases e
    | some p =>
      rw [z] at e
      obtain ⟨ks, ws⟩ := p
      dsimp only at e
      by_cases hn : ks.Nodup
      · rw [if_pos hn] at e
        cases e
        refine ⟨_, call_dictP hc, fun F H xs Q s hh q => ?_⟩
        obtain ⟨x, ex, h⟩ := hh.one
        subst ex
        obtain ⟨p, us, rfl, h2, h3⟩ := h.lst
        obtain ⟨ps, kvs, rfl, k1, k2, k3⟩ := ps_of s h3 z
        refine ⟨p, ps, kvs, rfl, .inl h2, k1, fun p n => ?_⟩
        rw [mergeK_nd (by rw [k2]; simpa using nodup_inr hn), List.nil_append]
        obtain ⟨l, s', n'⟩ := Al.own (o := .dK kvs) s n
        exact q _ _ _ [p] l s' (by simp) (by unfold Ro; exact ⟨p, kvs, rfl, rfl, n', upd_same, by
          have : kvs.map (fun p => kVal p.1) = (kvs.map (·.1)).map kVal := by rw [List.map_map]; rfl
          rw [this, k2, List.map_map]; rfl, k3⟩)
      · rw [if_neg hn] at e; cases e
  · split at e
    · rename_i hi
      cases e
      refine ⟨_, call_str_int, fun F H xs Q s hh q => ?_⟩
      obtain ⟨x, ex, h⟩ := hh.one
      subst ex
      exact ⟨_, by rw [h.int], hi, q.str s⟩
    · cases e
  · cases e
    refine ⟨_, SkE.call_str_str, fun F H xs Q s hh q => ?_⟩
    obtain ⟨x, ex, h⟩ := hh.one
    subst ex
    exact ⟨_, by rw [h.str], q.str s⟩
  · split at e
    · rename_i z hi
      cases y : PySem.intText? z with
      | none => rw [y] at e; cases e
      | some n =>
        rw [y] at e; cases e
        refine ⟨_, call_int_str, fun F H xs Q s hh q => ?_⟩
        obtain ⟨x, ex, h⟩ := hh.one
        subst ex
        exact ⟨_, _, by rw [h.str], y, hi, q.int s⟩
    · cases e
  · rename_i xs
    cases z : asBls xs with
    | none => rw [z] at e; cases e
    | some bs =>
      rw [z] at e; cases e
      refine ⟨_, cr_all hc, fun F H xs Q s hh q => ?_⟩
      obtain ⟨x, ex, h⟩ := hh.one
      subst ex
      obtain ⟨p, us, rfl, h2, h3⟩ := h.lst
      obtain ⟨e1, e2⟩ := h3.bls z
      subst e1
      exact ⟨p, bs, rfl, .inl h2, q.bl s⟩
  · cases e
/-! ### isinstance -/
def tyN : Val → String
  | .non => "NoneType" | .bl _ => "bool" | .int _ => "int" | .str _ => "str" | .tup _ => "tuple" | .lst _ => "list" | .dct _ _ => "dict" | .scr _ => "list" | .er _ _ => ""
def tyS : Ty → String
  | .int => "int" | .bool => "bool" | .str => "str" | .tuple => "tuple" | .list => "list" | .dict => "dict"
theorem tyX_of {K : PySem.W.Frag} {F H : Hp} {v : Val} {x : V} (hn : tyN v ≠ "") (s : Same F H) (h : Vw K F H v x) : TyX K H x (.type (tyN v)) := by
  cases v with
  | non => rw [h.non]; exact .base .non
  | bl b => rw [h.bl]; exact .base (.bl b)
  | int i => rw [h.int]; exact .base (.int i)
  | str z => rw [h.str]; exact .base (.str z)
  | tup xs =>
    obtain ⟨p, vs, rfl, h2, _⟩ := h.tup s
    rcases h2 with (h2 | ⟨o, h2⟩) | ⟨o, its, n, h2, h3, _⟩
    · exact .base (.tup h2)
    · exact .fTuple h2
    · exact .kTuple h2 h3
  | lst xs =>
    obtain ⟨p, vs, rfl, h2, _⟩ := h.lst
    rcases h2 with h2 | ⟨o, h2⟩
    · exact .base (.lst h2)
    · exact .base (.frz h2)
  | dct ks xs =>
    unfold Vw at h
    obtain ⟨p, vs, rfl, h2, _⟩ := h
    rcases h2 with h2 | ⟨o, h2⟩
    · exact .base (.dK h2)
    · exact .fDict h2
  | scr xs =>
    obtain ⟨p, vs, rfl, h2, _⟩ := h.scr
    rcases h2 with (h2 | ⟨o, h2⟩) | ⟨o, its, n, h2, h3, _⟩
    · exact .base (.lst h2)
    · exact .base (.frz h2)
    · exact .kList h2 h3
  | er c w => exact (hn rfl).elim
theorem isi_ne {t : Ty} {v : Val} {k : Bool} (e : EN.isi t v = some k) : tyN v ≠ "" := by
  cases v <;> first | (exfalso; cases t <;> cases e; done) | (intro z; simp only [tyN] at z; exact absurd z (by decide))
theorem isi_kit {t : Ty} {v : Val} {k : Bool} (e : EN.isi t v = some k) : kitB (tyN v) (tyS t) = some k := by
  cases t <;> cases v <;> first
    | (exfalso; cases (show (none : Option Bool) = some k from e))
    | (obtain rfl := Option.some.inj (show some true = some k from e); simp only [tyN, tyS]; decide +kernel)
    | (obtain rfl := Option.some.inj (show some false = some k from e); simp only [tyN, tyS]; decide +kernel)
theorem isi_ok {t : Ty} {v : Val} {k : Bool} {X : Cx} (e : EN.isi t v = some k) : ∀ F H x Q, Same F H → Vw X.K F H v x → EndO X.K F H (.p (.bl k)) Q → rIsi X.K [x, .ty (tyS t)] H Q := fun F H x Q s h q =>
  ⟨x, _, _, _, k, rfl, .ty _, tyX_of (isi_ne e) s h, kit_ty (isi_kit e), q.bl s⟩
end
end EN

/-! EnD: terms as Python's; the rules for expressions. -/
namespace EN
open PySem L2 PyProof.Rows
abbrev Sup := List (Nat × Nat)
def ps (L : Nat) (s : Sup) : Pos := ⟨L, (s.headD (0, 0)).1, L, (s.headD (0, 0)).2⟩
structure Nm where
  fn : Nat → Str
  gl : Nat → Str
def biN : Bi → Str
  | .len => "len" | .sum => "sum" | .sorted => "sorted" | .abs => "abs" | .min => "min" | .max => "max" | .all => "all"
  | .int => "int" | .tuple => "tuple" | .list => "list" | .str => "str" | .dict => "dict"
def tyP : Ty → Str
  | .int => "int" | .bool => "bool" | .str => "str" | .tuple => "tuple" | .list => "list" | .dict => "dict"
def Sc.scope (s : Sc) : Scope := { kind := .function, names := s.names, isGenerator := false, isCoroutine := false, more := s.more }
section
variable (G : Nm) (N : List Str) (L : Nat)
def nm (i : Nat) : Str := N.getD i ""
def toNs : List Nat → Sup → List Expr × Sup
  | [], s => ([], s)
  | i :: is, s => (.Name (nm N i) (ps L s) :: (toNs is s.tail).1, (toNs is s.tail).2)
def toKs : List Str → Sup → List (Option Expr) × Sup
  | [], s => ([], s)
  | k :: ks, s => (some (.Constant (.str k) 0 (ps L s)) :: (toKs ks s.tail).1, (toKs ks s.tail).2)
def toCs : List Nat → Sup → List Expr × Sup
  | [], s => ([], s)
  | c :: cs, s => (.Name (cN c) (ps L s) :: (toCs cs s.tail).1, (toCs cs s.tail).2)
def toG : Tg → Sup → Expr × Sup
  | .nm i, s => (.Name (nm N i) (ps L s), s.tail)
  | .tp is, s => (.Tuple (toNs N L is s.tail).1 0 (ps L s), (toNs N L is s.tail).2)
mutual
def toE : Ex → Sup → Expr × Sup
  | .var i, s => (.Name (nm N i) (ps L s), s.tail)
  | .int n, s => (.Constant (.int n) 0 (ps L s), s.tail)
  | .str x, s => (.Constant (.str x) 0 (ps L s), s.tail)
  | .bl b, s => (.Constant (.bool b) 0 (ps L s), s.tail)
  | .non, s => (.Constant .none 0 (ps L s), s.tail)
  | .gl g, s => (.Name (G.gl g) (ps L s), s.tail)
  | .neg a, s => (.UnaryOp .USub (toE a s.tail).1 (ps L s), (toE a s.tail).2)
  | .bin o a b, s => (.BinOp (toE a s.tail).1 (bopS o) (toE b (toE a s.tail).2).1 (ps L s), (toE b (toE a s.tail).2).2)
  | .cmp o a b, s => (.Compare (toE a s.tail).1 [copS o] [(toE b (toE a s.tail).2).1] (ps L s), (toE b (toE a s.tail).2).2)
  | .bop k es, s => (.BoolOp (if k then .And else .Or) (toEs es s.tail).1 (ps L s), (toEs es s.tail).2)
  | .nt a, s => (.UnaryOp .Not (toE a s.tail).1 (ps L s), (toE a s.tail).2)
  | .ife t a b, s => (.IfExp (toE t s.tail).1 (toE a (toE t s.tail).2).1 (toE b (toE a (toE t s.tail).2).2).1 (ps L s), (toE b (toE a (toE t s.tail).2).2).2)
  | .ix a i, s => (.Subscript (toE a s.tail).1 (toE i (toE a s.tail).2).1 (ps L s), (toE i (toE a s.tail).2).2)
  | .slc a lo hi, s => (.Subscript (toE a s.tail.tail).1 (.Slice (toO lo (toE a s.tail.tail).2).1 (toO hi (toO lo (toE a s.tail.tail).2).2).1 none (ps L s.tail)) (ps L s), (toO hi (toO lo (toE a s.tail.tail).2).2).2)
  | .rev a, s => (.Subscript (toE a s.tail.tail.tail.tail).1 (.Slice none none (some (.UnaryOp .USub (.Constant (.int 1) 0 (ps L s.tail.tail.tail)) (ps L s.tail.tail))) (ps L s.tail)) (ps L s), (toE a s.tail.tail.tail.tail).2)
  | .tup es, s => (.Tuple (toEs es s.tail).1 0 (ps L s), (toEs es s.tail).2)
  | .lst es, s => (.List (toEs es s.tail).1 (ps L s), (toEs es s.tail).2)
  | .lc elt tg it ifs sc, s =>
    (.ListComp (toE elt s.tail).1 [⟨(toG N L tg (toE elt s.tail).2).1, (toI it (toG N L tg (toE elt s.tail).2).2).1, (toF ifs (toI it (toG N L tg (toE elt s.tail).2).2).2).1, 0⟩] sc.scope (ps L s),
      (toF ifs (toI it (toG N L tg (toE elt s.tail).2).2).2).2)
  | .call f _ es, s => (.Call (.Name (G.fn f) (ps L s.tail)) (toEs es s.tail.tail).1 [] (ps L s), (toEs es s.tail.tail).2)
  | .bi b es, s => (.Call (.Name (biN b) (ps L s.tail)) (toEs es s.tail.tail).1 [] (ps L s), (toEs es s.tail.tail).2)
  | .app i e, s => (.Call (.Attribute (.Name (nm N i) (ps L s.tail.tail)) "append" (ps L s.tail)) [(toE e s.tail.tail.tail).1] [] (ps L s), (toE e s.tail.tail.tail).2)
  | .pop i, s => (.Call (.Attribute (.Name (nm N i) (ps L s.tail.tail)) "pop" (ps L s.tail)) [] [] (ps L s), s.tail.tail.tail)
  | .nix i k j, s => (.Subscript (.Subscript (.Name (nm N i) (ps L s.tail.tail)) (.Constant (.int k) 0 (ps L s.tail.tail.tail)) (ps L s.tail)) (.Name (nm N j) (ps L s.tail.tail.tail.tail)) (ps L s), s.tail.tail.tail.tail.tail)
  | .nlen i k, s => (.Call (.Name "len" (ps L s.tail)) [.Subscript (.Name (nm N i) (ps L s.tail.tail.tail)) (.Constant (.int k) 0 (ps L s.tail.tail.tail.tail)) (ps L s.tail.tail)] [] (ps L s), s.tail.tail.tail.tail.tail)
  | .isi e t, s => (.Call (.Name "isinstance" (ps L s.tail)) [(toE e s.tail.tail).1, .Name (tyP t) (ps L (toE e s.tail.tail).2)] [] (ps L s), (toE e s.tail.tail).2.tail)
  | .dd, s => (.Dict [] [] (ps L s), s.tail)
  | .jn x e, s => (.Call (.Attribute (.Constant (.str x) 0 (ps L s.tail.tail)) "join" (ps L s.tail)) [(toE e s.tail.tail.tail).1] [] (ps L s), (toE e s.tail.tail.tail).2)
  | .gin neg g e, s => (.Compare (toE e s.tail).1 [if neg then .NotIn else .In] [.Name (G.gl g) (ps L (toE e s.tail).2)] (ps L s), (toE e s.tail).2.tail)
  | .gix g e, s => (.Subscript (.Name (G.gl g) (ps L s.tail)) (toE e s.tail.tail).1 (ps L s), (toE e s.tail.tail).2)
  | .gget g e, s => (.Call (.Attribute (.Name (G.gl g) (ps L s.tail.tail)) "get" (ps L s.tail)) [(toE e s.tail.tail.tail).1] [] (ps L s), (toE e s.tail.tail.tail).2)
  | .sidx i b, s => (.Call (.Attribute (.Name (nm N i) (ps L s.tail.tail)) "index" (ps L s.tail)) [(toE b s.tail.tail.tail).1] [] (ps L s), (toE b s.tail.tail.tail).2)
  | .dl ks es, s => (.Dict (toKs L ks s.tail).1 (toEs es (toKs L ks s.tail).2).1 (ps L s), (toEs es (toKs L ks s.tail).2).2)
  | .is2 e t1 t2, s => (.Call (.Name "isinstance" (ps L s.tail)) [(toE e s.tail.tail).1, .Tuple [.Name (tyP t1) (ps L (toE e s.tail.tail).2.tail), .Name (tyP t2) (ps L (toE e s.tail.tail).2.tail.tail)] 0 (ps L (toE e s.tail.tail).2)] [] (ps L s), (toE e s.tail.tail).2.tail.tail.tail)
  | .spl i x, s => (.Call (.Attribute (.Name (nm N i) (ps L s.tail.tail)) "split" (ps L s.tail)) [.Constant (.str x) 0 (ps L s.tail.tail.tail)] [] (ps L s), s.tail.tail.tail.tail)
  | .exr i e, s => (.Call (.Attribute (.Name (nm N i) (ps L s.tail.tail)) "extend" (ps L s.tail)) [.Call (.Name "list" (ps L s.tail.tail.tail.tail)) [.Call (.Name "reversed" (ps L s.tail.tail.tail.tail.tail.tail)) [(toE e s.tail.tail.tail.tail.tail.tail.tail).1] [] (ps L s.tail.tail.tail.tail.tail)] [] (ps L s.tail.tail.tail)] [] (ps L s), (toE e s.tail.tail.tail.tail.tail.tail.tail).2)
  | .chn a b c, s => (.Compare (toE a s.tail).1 [.LtE, .LtE] [(toE b (toE a s.tail).2).1, (toE c (toE b (toE a s.tail).2).2).1] (ps L s), (toE c (toE b (toE a s.tail).2).2).2)
  | .lix es b, s => (.Call (.Attribute (.List (toEs es s.tail.tail.tail).1 (ps L s.tail.tail)) "index" (ps L s.tail)) [(toE b (toEs es s.tail.tail.tail).2).1] [] (ps L s), (toE b (toEs es s.tail.tail.tail).2).2)
  | .isx i cs, s => (.Call (.Name "isinstance" (ps L s.tail)) [.Name (nm N i) (ps L s.tail.tail), .Tuple (toCs L cs s.tail.tail.tail.tail).1 0 (ps L s.tail.tail.tail)] [] (ps L s), (toCs L cs s.tail.tail.tail.tail).2)
  | .isc i c, s => (.Call (.Name "isinstance" (ps L s.tail)) [.Name (nm N i) (ps L s.tail.tail), .Name (cN c) (ps L s.tail.tail.tail)] [] (ps L s), s.tail.tail.tail.tail)
  | .isv i, s => (.Call (.Name "isinstance" (ps L s.tail)) [.Name (nm N i) (ps L s.tail.tail), .Name "ValueError" (ps L s.tail.tail.tail)] [] (ps L s), s.tail.tail.tail.tail)
  | .wrd i, s => (.Attribute (.Name (nm N i) (ps L s.tail)) "word" (ps L s), s.tail.tail)
def toEs : List Ex → Sup → List Expr × Sup
  | [], s => ([], s)
  | e :: es, s => ((toE e s).1 :: (toEs es (toE e s).2).1, (toEs es (toE e s).2).2)
def toO : Option Ex → Sup → Option Expr × Sup
  | none, s => (none, s)
  | some e, s => (some (toE e s).1, (toE e s).2)
def toF : Option Ex → Sup → List Expr × Sup
  | none, s => ([], s)
  | some e, s => ([(toE e s).1], (toE e s).2)
def toI : It → Sup → Expr × Sup
  | .e e, s => toE e s
  | .rng es, s => (.Call (.Name "range" (ps L s.tail)) (toEs es s.tail.tail).1 [] (ps L s), (toEs es s.tail.tail).2)
  | .zp es, s => (.Call (.Name "zip" (ps L s.tail)) (toEs es s.tail.tail).1 [] (ps L s), (toEs es s.tail.tail).2)
  | .rvs e, s => (.Call (.Name "reversed" (ps L s.tail)) [(toE e s.tail.tail).1] [] (ps L s), (toE e s.tail.tail).2)
end
/-! ### what the model asks of a term's outer form -/
theorem star1 (c : Ex) (s : Sup) (es : List Expr) (env : PySem.Env) : starEach ((toE G N L c s).1 :: es) env = (false, eval (toE G N L c s).1 env) :: starEach es env := by
  cases c <;> (unfold toE; rfl)
theorem starAll (cs : List Ex) (env : PySem.Env) (pos : Pos) : ∀ s, (backTo pos (starEach (toEs G N L cs s).1 env)).any (·.1) = false := by
  induction cs with
  | nil => intro s; unfold toEs; rfl
  | cons c cs ih =>
    intro s
    unfold toEs
    rw [star1]
    have := ih (toE G N L c s).2
    unfold backTo at *
    simpa using this
theorem plainIx (c : Ex) (s : Sup) : PlainIx (toE G N L c s).1 := by
  cases c <;> (unfold toE; intro _ _; rfl)
theorem noMark (c : Ex) (s : Sup) (o : CmpOp) : behindInMarks o (toE G N L c s).1 = false := by
  cases c <;> (unfold toE; rfl)
theorem noFold (c : Ex) (s : Sup) (env : PySem.Env) (x : Value) : foldedSetIterable (toE G N L c s).1 env x = pure x := by
  cases c <;> (unfold toE; rfl)
theorem noFoldI (c : It) (s : Sup) (env : PySem.Env) (x : Value) : foldedSetIterable (toI G N L c s).1 env x = pure x := by
  cases c with
  | e e => unfold toI; exact noFold G N L e s env x
  | rng es => unfold toI; rfl
  | zp es => unfold toI; rfl
  | rvs e => unfold toI; rfl
/-- a term whose truth is its value's -/
def plainT : Ex → Bool
  | .gin _ _ _ => false | .chn _ _ _ => false | .cmp _ _ _ => false | .bop _ _ => false | .nt _ => false | .ife _ _ _ => false
  | _ => true
theorem plainTrue (c : Ex) (s : Sup) (env : PySem.Env) (h : plainT c = true) (whole : Sem Value) : isTrue (toE G N L c s).1 env whole = (do let v ← whole; standAt (toE G N L c s).1.pos; holding [v] (PySem.truthy v)) := by
  cases c <;> first | (exfalso; exact Bool.noConfusion h) | (unfold toE; rfl)
def notLc : Ex → Bool
  | .lc _ _ _ _ _ => false
  | _ => true
theorem noSwap (c : Ex) (s : Sup) (t : Option Expr) (l : Nat) (env : PySem.Env) (h : notLc c = true) : swapsWith (toE G N L c s).1 t l env = pure false := by
  cases c <;> first | (exfalso; exact Bool.noConfusion h) | (unfold toE; rfl)
end
end EN

/-! EnE: the rules for expressions. -/
namespace EN
open PySem L2 PyProof.Rows
abbrev DE (X : Cx) (C : Nat → Addr) (W : WX) (e : Expr) (f : Env → R OV) : Prop := PE X e (TX X.K C W (rO X.K) f)
abbrev DP (X : Cx) (C : Nat → Addr) (W : WX) (e : Expr) (f : Env → R Val) : Prop := PE X e (TX X.K C W (rV X.K) f)
abbrev DD (X : Cx) (C : Nat → Addr) (W : WX) (e : Expr) (f : Env → R Od) : Prop := PE X e (TX X.K C W (rD X.K) f)
abbrev DT (X : Cx) (C : Nat → Addr) (W : WX) (e : Expr) (f : Env → R Bool) : Prop := PT X e (TX X.K C W rB f)
section
variable {K : PySem.W.Frag} {C : Nat → Addr} {W : WX} {F H : Hp} {env : Env} {σ : Sg} {fp : Nat → List Addr}
theorem fpn : (∀ a ∈ ([] : List Addr), ∀ i, a ∉ fp i) := fun _ z => (nomatch z)
/-- a name's object becomes nobody's -/
theorem gs_ss_self : ∀ {env : Env} {i : Nat} {v : Option OV}, i < env.length → gs (ss env i v) i = v
  | [], _, _, h => by simp at h
  | _ :: _, 0, _, _ => rfl
  | _ :: as, n + 1, v, h => by unfold ss gs; exact gs_ss_self (by simpa using h)
theorem gs_ss_ne : ∀ {env : Env} {i j : Nat} {v : Option OV}, j ≠ i → gs (ss env i v) j = gs env j
  | [], _, _, _, _ => rfl
  | _ :: _, 0, 0, _, h => absurd rfl h
  | _ :: _, 0, _ + 1, _, _ => rfl
  | _ :: _, _ + 1, 0, _, _ => rfl
  | _ :: as, n + 1, m + 1, v, h => by unfold ss gs; exact gs_ss_ne (by omega)
theorem ss_len : ∀ {env : Env} {i : Nat} {v : Option OV}, (ss env i v).length = env.length
  | [], _, _ => rfl
  | _ :: _, 0, _ => rfl
  | _ :: as, n + 1, v => by unfold ss; simp [ss_len (env := as)]
theorem gs_lt : ∀ {env : Env} {i : Nat} {v : OV}, gs env i = some v → i < env.length
  | [], _, _, h => by unfold gs at h; cases h
  | _ :: _, 0, _, _ => by simp
  | _ :: as, n + 1, v, h => by unfold gs at h; have := gs_lt h; simpa using this
/-- a slot's new thing: others stand as they are -/
theorem SR.put {F' H' : Hp} (s : SR K F H env σ fp) (sF : Same F F') (s' : Same F' H') {i : Nat} {o : Option OV} {q : List Addr}
    (kp : ∀ j, j ≠ i → ∀ a ∈ fp j, F' a = none ∧ ∀ o, H a = some o → H' a = some o) (hi : o = none → q = [])
    (new : ∀ ov, o = some ov → i < env.length → ∃ u, σ[i]? = some (some u) ∧ Ro K F' H' ov u q) (nd : q.Nodup) (dj : ∀ a ∈ q, ∀ j, j ≠ i → a ∉ fp j) (hlt : i < env.length) :
    SR K F' H' (ss env i o) σ (fun j => if j = i then q else fp j) where
  sF := s'
  len := by rw [ss_len]; exact s.len
  rel := fun j ov e => by
    by_cases z : j = i
    · subst z
      rw [gs_ss_self hlt] at e
      simp only [if_pos]
      exact new ov e hlt
    · rw [gs_ss_ne z] at e
      simp only [if_neg z]
      obtain ⟨u, h1, h2⟩ := s.rel j ov e
      exact ⟨u, h1, Ro.step sF h2 (kp j z)⟩
  nil := fun j e => by
    by_cases z : j = i
    · subst z
      rw [gs_ss_self hlt] at e
      simp only [if_pos]
      exact hi e
    · rw [gs_ss_ne z] at e
      simp only [if_neg z]
      exact s.nil j e
  nd := fun j => by
    by_cases z : j = i
    · simp only [if_pos z]; exact nd
    · simp only [if_neg z]; exact s.nd j
  dj := fun j k h a ha hb => by
    by_cases z : j = i
    · subst z
      by_cases w : k = j
      · exact h w.symm
      · simp only [if_pos, if_neg w] at ha hb
        exact dj a ha k w hb
    · by_cases w : k = i
      · subst w
        simp only [if_pos, if_neg z] at ha hb
        exact dj a hb j z ha
      · simp only [if_neg z, if_neg w] at ha hb
        exact s.dj j k h a ha hb
theorem ow_put {i : Nat} {q r : List Addr} : ∀ a, Ow (fun j => if j = i then q else fp j) r a → a ∈ q ∨ Ow fp r a := fun a z => by
  rcases z with z | ⟨j, z⟩
  · exact .inr (.inl z)
  · by_cases w : j = i
    · simp only [if_pos w] at z; exact .inl z
    · simp only [if_neg w] at z; exact .inr (.inr ⟨j, z⟩)
/-- freezing what a slot holds -/
theorem SR.freeze (s : SR K F H env σ fp) {i : Nat} {ov : OV} (e : gs env i = some ov) : ∃ F' u, Step F H (Ow fp []) F' H (Ow (fun j => if j = i then [] else fp j) []) ∧
    SR K F' H (ss env i (some (.p (EN.fz ov)))) σ (fun j => if j = i then [] else fp j) ∧ σ[i]? = some (some u) ∧ Rp K F' (EN.fz ov) u := by
  obtain ⟨u, h1, h2⟩ := s.rel i ov e
  obtain ⟨F', s1, s2, r, own⟩ := Ro.freeze s.sF h2
  refine ⟨F', u, ⟨s1, fun _ _ _ e => e, fun a z => ?_, fun a o e n => .inl (.inr ⟨i, own a o e n⟩)⟩, s.put s1 s2 (fun j hj a ha => ⟨?_, fun _ e => e⟩) (fun z => nomatch z) (fun ov' eo _ => ?_) .nil (fun _ z => (nomatch z)) (gs_lt e), h1, r⟩
  · rcases ow_put a z with z | z
    · cases z
    · exact .inl z
  · cases w : F' a with
    | none => rfl
    | some o =>
      have := own a o w (s.at_ ha).1
      exact (s.dj j i hj a ha this).elim
  · cases eo
    exact ⟨u, h1, by unfold Ro; exact ⟨rfl, r⟩⟩
/-- a result that becomes nobody's -/
theorem freezeR (s : SR K F H env σ fp) {ov : OV} {u : V} {q : List Addr} (r : Ro K F H ov u q) (dj : ∀ a ∈ q, ∀ i, a ∉ fp i) : ∃ F', Step F H (Ow fp q) F' H (Ow fp []) ∧ SR K F' H env σ fp ∧ Rp K F' (EN.fz ov) u := by
  obtain ⟨F', s1, s2, r', own⟩ := Ro.freeze s.sF r
  refine ⟨F', ⟨s1, fun _ _ _ e => e, fun a z => .inl (z.elim (fun w => nomatch w) .inr), fun a o e n => .inl (.inl (own a o e n))⟩, ⟨s2, s.len, fun i ov' e => ?_, s.nil, s.nd, s.dj⟩, r'⟩
  obtain ⟨w, h1, h2⟩ := s.rel i ov' e
  refine ⟨w, h1, Ro.step s1 h2 fun a z => ⟨?_, fun _ e => e⟩⟩
  cases q' : F' a with
  | none => rfl
  | some o => exact (dj a (own a o q' (Ro.at_ h2 a z).1) i z).elim
theorem RoD.vw {o : Od} {x : V} {q : List Addr} {v : Val} (r : RoD K F H env σ o x q) (s : SR K F H env σ fp) (e : rd env o = some v) : Vw K F H v x := by
  cases o with
  | v w => exact Ro.vw s.sF r e
  | nm i =>
    simp only [rd] at e
    cases z : gs env i with
    | none => simp only [z] at e; cases e
    | some ov =>
      simp only [z] at e
      obtain ⟨u, h1, h2⟩ := s.rel i ov z
      have : u = x := by
        have h3 := r.2
        rw [h1] at h3
        exact Option.some.inj (Option.some.inj h3)
      subst this
      exact Ro.vw s.sF h2 e
theorem RoD.along {F2 H2 : Hp} {A2 : Addr → Prop} {env2 : Env} {o : Od} {x : V} {q : List Addr} (r : RoD K F H env σ o x q) (st : Step F H (Ow fp []) F2 H2 A2) (dj : ∀ a ∈ q, ∀ i, a ∉ fp i) : RoD K F2 H2 env2 σ o x q := by
  cases o with
  | v w => exact Ro.along r st dj
  | nm i => exact r
end
section
variable {X : Cx} {C : Nat → Addr} {W : WX} {e a b : Expr} {f : Env → R OV} {pos : Pos}
/-- names and constants -/
theorem de_c {v : Val} {u : V} (h : PE X e (tC u)) (r : ∀ F, Rp X.K F v u) : DE X C W e (fun env => .ok (.p v) env) :=
  ⟨fun pins s σ H Q I ⟨F, env, fp, sr, h1⟩ => h.run pins s σ H Q I (AX.al sr h1 (Al.refl F H) sr.sF .nil (by unfold rO Ro; exact ⟨rfl, r F⟩))⟩
theorem dp_of_de (h : DE X C W e f) : DP X C W e (pv f) :=
  ⟨fun pins s σ H Q I ⟨F, env, fp, sr, h1⟩ => h.run pins s σ H Q I ⟨F, env, fp, sr, AX.bd h1 fun r env' F' H' u fp' q e1 st sr1 ro nd dj h2 => by
    obtain ⟨F2, st2, sr2, r2⟩ := freezeR sr1 ro dj
    exact h2 F2 H' u fp' [] st2 sr2 ⟨rfl, r2⟩ .nil fpn⟩⟩
/-- an operand of any form -/
theorem dd_of_de (h : DE X C W e f) : DD X C W e (fun env => (f env).bd fun r env => .ok (.v r) env) :=
  ⟨fun pins s σ H Q I ⟨F, env, fp, sr, h1⟩ => h.run pins s σ H Q I ⟨F, env, fp, sr, AX.bd h1 fun r env' F' H' u fp' q e1 st sr1 ro nd dj h2 => h2 F' H' u fp' q (Step.refl fun a z => z) sr1 ro nd dj⟩⟩
/-- a name's value, frozen -/
theorem de_var {i : Nat} (h : PE X e (tVar i)) : DE X C W e (fun env => match gs env i with
    | some (.p v) => .ok (.p v) env
    | some ov => .ok (.p (fz ov)) (ss env i (some (.p (fz ov))))
    | none => .no) :=
  ⟨fun pins s σ H Q I ⟨F, env, fp, sr, h1⟩ => h.run pins s σ H Q I (by
    cases z : gs env i with
    | none => simp only [z] at h1; exact h1.elim
    | some ov =>
      have fr : AX X.K C W (rO X.K) σ F H (Ow fp []) (.ok (.p (fz ov)) (ss env i (some (.p (fz ov))))) Q → tVar i σ H Q := fun h1 => by
        obtain ⟨F', u, st, sr', e1, r⟩ := sr.freeze z
        exact ⟨u, e1, h1 F' H u _ [] st sr' (by unfold rO Ro; exact ⟨rfl, r⟩) .nil fpn⟩
      cases ov with
      | p v =>
        simp only [z] at h1
        obtain ⟨u, e1, r⟩ := sr.rel i _ z
        refine ⟨u, e1, AX.al sr h1 (Al.refl F H) sr.sF .nil ?_⟩
        unfold rO Ro at *
        exact ⟨rfl, r.2⟩
      | l xs => simp only [z] at h1; exact fr h1
      | d ks xs => simp only [z] at h1; exact fr h1
      | nd xs => simp only [z] at h1; exact fr h1)⟩
/-- a name as an operand -/
theorem dd_var {i : Nat} (h : PE X e (tVar i)) : DD X C W e (fun env => match gs env i with
    | some (.nd _) => .no
    | some _ => .ok (.nm i) env
    | none => .no) :=
  ⟨fun pins s σ H Q I ⟨F, env, fp, sr, h1⟩ => h.run pins s σ H Q I (by
    have go : ∀ ov, gs env i = some ov → AX X.K C W (rD X.K) σ F H (Ow fp []) (.ok (.nm i) env) Q → tVar i σ H Q := fun ov z h1 => by
      obtain ⟨u, e1, r⟩ := sr.rel i _ z
      exact ⟨u, e1, AX.al sr h1 (Al.refl F H) sr.sF .nil (by unfold rD RoD; exact ⟨rfl, e1⟩)⟩
    cases z : gs env i with
    | none => simp only [z] at h1; exact h1.elim
    | some ov =>
      cases ov with
      | nd xs => simp only [z] at h1; exact h1.elim
      | p v => simp only [z] at h1; exact go _ z h1
      | l xs => simp only [z] at h1; exact go _ z h1
      | d ks xs => simp only [z] at h1; exact go _ z h1)⟩
/-- an own list's own item -/
theorem Ros.get {K : PySem.W.Frag} {F H : Hp} : ∀ {xs : List OV} {us : List V} {q : List Addr} {k : Nat} {v : OV}, Ros K F H xs us q → xs[k]? = some v → ∃ u r, us[k]? = some u ∧ Ro K F H v u r ∧ (∀ a ∈ r, a ∈ q)
  | [], us, q, k, v, h, e => by simp at e
  | x :: xs, us, q, 0, v, h, e => by
    unfold Ros at h; obtain ⟨u, ws, q1, q2, rfl, rfl, h1, h2⟩ := h
    simp at e; subst e
    exact ⟨u, q1, rfl, h1, fun a z => List.mem_append_left _ z⟩
  | x :: xs, us, q, k + 1, v, h, e => by
    unfold Ros at h; obtain ⟨u, ws, q1, q2, rfl, rfl, h1, h2⟩ := h
    obtain ⟨w, r, h3, h4, h5⟩ := Ros.get h2 (by simpa using e)
    exact ⟨w, r, by simpa using h3, h4, fun a z => List.mem_append_right _ (h5 a z)⟩
theorem dd_ix {i k : Nat} (h : PE X a (tVar i)) (hb : PE X b (tC (.int (k : Int)))) (hp : PlainIx b) (hf : DE X C W (.Subscript a b pos) f) : DD X C W (.Subscript a b pos) (fun env => match gs env i with
    | some (.nd xs) => (match xs[k]? with
      | some (.p v) => .ok (.v (.p v)) env
      | _ => .no)
    | _ => (f env).bd fun r env => .ok (.v r) env) :=
  ⟨fun pins s σ H Q I ⟨F, env, fp, sr, h1⟩ => by
    have go : AX X.K C W (rD X.K) σ F H (Ow fp []) ((f env).bd fun r env => .ok (.v r) env) Q → wpAny (model X.prog X.w) X.A (eval (.Subscript a b pos) X.env) (EP X pins σ Q) X.xe s := fun h1 =>
      (dd_of_de hf).run pins s σ H Q I ⟨F, env, fp, sr, h1⟩
    cases z : gs env i with
    | none => simp only [z] at h1; exact go h1
    | some ov =>
      cases ov with
      | p v => simp only [z] at h1; exact go h1
      | l xs => simp only [z] at h1; exact go h1
      | d ks xs => simp only [z] at h1; exact go h1
      | nd xs =>
        simp only [z] at h1
        cases y : xs[k]? with
        | none => simp only [y] at h1; exact h1.elim
        | some w =>
          cases w with
          | p v =>
            simp only [y] at h1
            refine (pe_ix ix_list h hb hp).run pins s σ H Q I ?_
            obtain ⟨u, e1, r⟩ := sr.rel i _ z
            unfold Ro at r
            obtain ⟨p, vs, q, rfl, hq, hF, hH, hr⟩ := r
            obtain ⟨w, q2, e2, r2, _⟩ := hr.get y
            refine ⟨_, e1, p, vs, k, w, rfl, rfl, SqL.of hH, atI_nat e2, AX.al sr h1 (Al.refl F H) sr.sF .nil ?_⟩
            unfold rD RoD
            unfold Ro at r2 ⊢
            exact ⟨rfl, r2.2⟩
          | l ys => simp only [y] at h1; exact h1.elim
          | d ks ys => simp only [y] at h1; exact h1.elim
          | nd ys => simp only [y] at h1; exact h1.elim⟩
/-- two operands, then an operation that makes something new at most -/
theorem pair_read {K : PySem.W.Frag} {ga gb : Env → R Od} {k : Val → Val → Option OV} {Ok : R2 → Prop} {F H : Hp} {env : Env} {fp : Nat → List Addr} {σ : Sg} {Q : VK} (h0 : Ok fun _ _ _ _ => False)
    (hk : ∀ v w r, k v w = some r → ∃ rr : R2, Ok rr ∧ ∀ F H x y Q, Same F H → Vw K F H v x → Vw K F H w y → EndO K F H r Q → rr x y H Q)
    (sr : SR K F H env σ fp) (h : AX K C W (rO K) σ F H (Ow fp []) ((ga env).bd fun x env => (gb env).bd fun y env => match rd env x, rd env y with
      | some v, some w => R.of (k v w) env
      | _, _ => .no) Q) : ∃ rr : R2, Ok rr ∧ tOp rr (TX K C W (rD K) ga) (TX K C W (rD K) gb) σ H Q := by
  have stop : (∀ o1 env1 o2 env2 v w r, ga env = .ok o1 env1 → gb env1 = .ok o2 env2 → rd env2 o1 = some v → rd env2 o2 = some w → k v w = some r → False) → ∃ rr : R2, Ok rr ∧ tOp rr (TX K C W (rD K) ga) (TX K C W (rD K) gb) σ H Q := fun hn => by
    refine ⟨_, h0, F, env, fp, sr, AX.bd h fun o1 env1 F1 H1 x fp1 q1 e1 st1 sr1 ro1 nd1 dj1 h1 => ⟨F1, env1, fp1, sr1, AX.bd h1.base fun o2 env2 F2 H2 y fp2 q2 e2 st2 sr2 ro2 nd2 dj2 h2 => ?_⟩⟩
    cases z1 : rd env2 o1 with
    | none => simp only [z1] at h2; exact h2
    | some v =>
      cases z2 : rd env2 o2 with
      | none => simp only [z1, z2] at h2; exact h2
      | some w =>
        simp only [z1, z2] at h2
        cases z3 : k v w with
        | none => rw [z3] at h2; exact h2
        | some r => exact hn o1 env1 o2 env2 v w r e1 e2 z1 z2 z3
  by_cases hy : ∃ o1 env1 o2 env2 v w r, ga env = .ok o1 env1 ∧ gb env1 = .ok o2 env2 ∧ rd env2 o1 = some v ∧ rd env2 o2 = some w ∧ k v w = some r
  · obtain ⟨o1, env1, o2, env2, v, w, r, e1, e2, z1, z2, z3⟩ := hy
    obtain ⟨rr, ok, hrr⟩ := hk v w r z3
    refine ⟨rr, ok, F, env, fp, sr, AX.bd h fun o1' env1' F1 H1 x fp1 q1 e1' st1 sr1 ro1 nd1 dj1 h1 => ⟨F1, env1', fp1, sr1, AX.bd h1.base fun o2' env2' F2 H2 y fp2 q2 e2' st2 sr2 ro2 nd2 dj2 h2 => ?_⟩⟩
    rw [e1] at e1'
    cases e1'
    rw [e2] at e2'
    cases e2'
    simp only [z1, z2, z3, R.of] at h2
    refine hrr F2 H2 x y Q sr2.sF (RoD.vw (RoD.along ro1 st2 dj1) sr2 z1) (RoD.vw ro2 sr2 z2) fun F' H' u q al s' nd ro => AX.al sr2 h2.base al s' nd ro
  · exact stop fun o1 env1 o2 env2 v w r e1 e2 z1 z2 z3 => hy ⟨o1, env1, o2, env2, v, w, r, e1, e2, z1, z2, z3⟩
theorem opF {f : Value → Value → Sem Value} : OpR X f fun _ _ _ _ => False := by
  intro pins s σ H x y v u Q I rx ry h
  exact False.elim h
theorem ixF : IxR X fun _ _ _ _ => False := by
  intro a b pins s σ H x y v u Q I rx ry h
  exact False.elim h
theorem de_bin {ga gb : Env → R Od} {o : Bop} (ha : DD X C W a ga) (hb : DD X C W b gb) : DE X C W (.BinOp a (bopS o) b pos) (fun env => (ga env).bd fun x env => (gb env).bd fun y env => match rd env x, rd env y with
      | some v, some w => R.of (EN.bin o v w) env
      | _, _ => .no) :=
  ⟨fun pins s σ H Q I ⟨F, env, fp, sr, h1⟩ => by
    obtain ⟨rr, ok, t⟩ := pair_read (Ok := fun rr => OpR X (binaryOp (bopS o)) rr) opF (fun v w r e => bin_ok e) sr h1
    exact (pe_op ok ha hb).run pins s σ H Q I t⟩
theorem de_ix {ga gb : Env → R Od} (hu : X.A.units + 64 < cLine) (ha : DD X C W a ga) (hb : DD X C W b gb) (hp : PlainIx b) : DE X C W (.Subscript a b pos) (fun env => (ga env).bd fun x env => (gb env).bd fun y env => match rd env x, rd env y with
      | some v, some w => R.of ((vix v w).map .p) env
      | _, _ => .no) :=
  ⟨fun pins s σ H Q I ⟨F, env, fp, sr, h1⟩ => by
    obtain ⟨rr, ok, t⟩ := pair_read (k := fun v w => (vix v w).map .p) (Ok := fun rr => IxR X rr) ixF (fun v w r e => by
      cases z : vix v w with
      | none => rw [z] at e; cases e
      | some u => rw [z] at e; cases e; exact vix_ok hu z) sr h1
    exact (pe_ix ok ha hb hp).run pins s σ H Q I t⟩
theorem de_cmp {ga gb : Env → R Od} {o : Cop} (hu : X.A.units + 64 < cLine) (ha : DD X C W a ga) (hb : DD X C W b gb) (hm : behindInMarks (copS o) b = false) : DE X C W (.Compare a [copS o] [b] pos) (fun env => (ga env).bd fun x env => (gb env).bd fun y env => match rd env x, rd env y with
      | some v, some w => R.of ((EN.cmp o v w).map fun k => .p (.bl k)) env
      | _, _ => .no) :=
  ⟨fun pins s σ H Q I ⟨F, env, fp, sr, h1⟩ => by
    obtain ⟨rr, ok, t⟩ := pair_read (k := fun v w => (EN.cmp o v w).map fun k => .p (.bl k)) (Ok := fun rr => OpR X (compareOp (copS o)) rr) opF (fun v w r e => by
      cases z : EN.cmp o v w with
      | none => rw [z] at e; cases e
      | some u => rw [z] at e; cases e; exact cmp_ok hu z) sr h1
    exact (pe_cmpR ok ha hb hm).run pins s σ H Q I t⟩
end
end EN

/-! EnT: t[::-1] of a tuple. -/
namespace EN
open PySem PySem.Spec L2 PyProof.Rows HT
section
variable {prog : Program} {w : World} {A : Around} {E : Value → Shared → Prop} {s : Shared}
theorem pick_rev_aux (its : List Value) : ∀ k, k ≤ its.length → ((List.range k).filterMap fun (m : Nat) => its[its.length - 1 - m]?) = its.reverse.take k
  | 0, _ => by simp
  | k + 1, h => by
    rw [List.range_succ, List.filterMap_append, pick_rev_aux its k (by omega)]
    have h1 : its.length - 1 - k < its.length := by omega
    have h2 : k < its.reverse.length := by rw [List.length_reverse]; omega
    rw [List.take_succ_eq_append_getElem h2]
    congr 1
    simp [List.getElem?_eq_getElem h1]
theorem fm_congr {α β : Type} {f g : α → Option β} : ∀ {l : List α}, (∀ x ∈ l, f x = g x) → l.filterMap f = l.filterMap g
  | [], _ => rfl
  | x :: xs, h => by
    rw [List.filterMap_cons, List.filterMap_cons, h x (List.mem_cons_self), fm_congr fun y hy => h y (List.mem_cons_of_mem _ hy)]
theorem pick_rev (its : List Value) : ((List.range its.length).filterMap fun (m : Nat) => its.toArray[(((its.length : Nat) : Int) - 1 + (m : Int) * (-1)).toNat]?) = its.reverse := by
  have h := pick_rev_aux its its.length (Nat.le_refl _)
  rw [List.take_of_length_le (by simp)] at h
  rw [← h]
  refine fm_congr fun m hm => ?_
  have hm' : m < its.length := List.mem_range.mp hm
  have e : (((its.length : Nat) : Int) - 1 + (m : Int) * (-1)).toNat = its.length - 1 - m := by omega
  rw [e]
  simp
theorem sliceApplied_rev {sl : Addr} {vl vu vk : Value} {n : Nat} {Q : Int × Int × Nat → Shared → Prop} (hs : s.heap.IsSliceOf sl vl vu vk) (pl : IsPart vl none) (pu : IsPart vu none) (pk : IsPart vk (some (-1)))
    (h : Q ((n : Int) - 1, -1, n) s) : wpAny (model prog w) A (Builtin.Slice.sliceApplied (.ref sl) (pure (n : Int))) Q E s := by
  obtain ⟨os, hos, hcs, hds⟩ := id hs
  unfold Builtin.Slice.sliceApplied Builtin.Slice.sliceFields
  refine wpAny_bind (wpAny_bind (wpAny_field hos hds (x := vl) rfl (wpAny_bind (wpAny_field hos hds (x := vu) rfl (wpAny_bind (wpAny_field hos hds (x := vk) rfl (wpAny_pure ?_)))))))
  refine wpAny_bind (slicePart_ pk ?_)
  show wpAny _ _ (if ((-1 : Int) == 0) = true then _ else _) _ _ s
  rw [if_neg (by decide)]
  refine wpAny_bind (slicePart_ pl (wpAny_bind (slicePart_ pu (wpAny_bind (wpAny_pure ?_)))))
  have e1 : Builtin.Slice.sliceAdjust none none (-1) (n : Int) = ((n : Int) - 1, -1) := by
    simp [Builtin.Slice.sliceAdjust]
  show wpAny _ _ (match Builtin.Slice.sliceAdjust none none (-1) (n : Int) with | (lo, hi) => pure (lo, (-1 : Int), Builtin.Slice.slicePlaces lo hi (-1))) _ _ s
  rw [e1]
  show wpAny _ _ (pure ((n : Int) - 1, (-1 : Int), Builtin.Slice.slicePlaces ((n : Int) - 1) (-1) (-1))) _ _ s
  have e2 : Builtin.Slice.slicePlaces ((n : Int) - 1) (-1) (-1) = n := by
    unfold Builtin.Slice.slicePlaces
    simp
    try omega
  rw [e2]
  exact wpAny_pure h
theorem getItem_tuple_rev {t sl : Addr} {its : List Value} {vl vu vk : Value} {Q : Value → Shared → Prop} (ht : IsTup s.heap t its.toArray) (hs : s.heap.IsSliceOf sl vl vu vk) (pl : IsPart vl none) (pu : IsPart vu none) (pk : IsPart vk (some (-1)))
    (h : Q (.ref s.heap.objs.size) { s with heap := s.heap.push { cls := .type "tuple", data := .seq its.reverse.toArray } }) (hsz : its.length ≤ sizeLine) : wpAny (model prog w) A (getItem (.ref t) (.ref sl)) Q E s := by
  obtain ⟨os, hos, hcs, hds⟩ := id hs
  have hTs : s.TypeIs (.ref sl) "slice" := ⟨os, hos, hcs⟩
  unfold getItem
  try with_reducible refine wpAny_holding ?_
  first | refine wpAny_bind (wpAny_pure ?_) | skip
  refine wpAny_bind (wpAny_sequenceKey ht.typeIs (by decide) ?_)
  refine wpAny_bind (wpAny_callSpecial?_slot (name := Str.ofString "__getitem__") ht.typeIs PyProof.Rows.slot_tuple_getitem
    (wpAny_call_entry PyProof.Rows.slot_tuple_getitem ht.typeIs entry_tuple_getitem ?_ (args_tuple_getitem _ _)))
  show wpAny _ _ (Builtin.Tuple.tupleItemsOf (.ref t) >>= _) _ _ s
  refine wpAny_bind (tupleItemsOf_ ht ?_)
  refine wpAny_bind (wpAny_typeOf hTs ?_)
  rw [if_pos (by decide)]
  have hn : ((its.toArray.size : Nat) : Int) = ((its.length : Nat) : Int) := by simp
  refine wpAny_bind (sliceApplied_rev (n := its.toArray.size) hs pl pu pk ?_)
  show wpAny _ _ (if (((its.toArray.size : Nat) : Int) - 1 == 0 && (-1 : Int) == 1 && its.toArray.size == its.toArray.size) = true then _ else _) _ _ s
  rw [if_neg (by
    intro q
    rw [Bool.and_eq_true, Bool.and_eq_true] at q
    exact absurd q.1.2 (by decide))]
  have e : ((List.range its.toArray.size).filterMap fun (m : Nat) => its.toArray[(((its.toArray.size : Nat) : Int) - 1 + (m : Int) * (-1)).toNat]?).toArray = its.reverse.toArray := by
    have := pick_rev its
    simp only [List.size_toArray] at this ⊢
    rw [this]
  rw [e]
  have hz : sizeOk (.seq its.reverse.toArray) := by
    show its.reverse.toArray.size ≤ sizeLine
    simpa using hsz
  first
    | exact wpAny_bind (m := Builtin.Tuple.tupleExact _) (wpAny_newObj_type (wpAny_pure ⟨_, rfl, wpAny_pure h⟩) hz)
    | exact wpAny_bind (m := Builtin.Tuple.tupleExact _) (wpAny_newObj_type (wpAny_bind (wpAny_pure (wpAny_pure ⟨_, rfl, wpAny_pure h⟩))) hz)
    | exact wpAny_bind (wpAny_bind (m := Builtin.Tuple.tupleExact _) (wpAny_newObj_type (wpAny_pure (wpAny_pure ⟨_, rfl, wpAny_pure h⟩)) hz))
    | exact wpAny_bind (wpAny_bind (m := Builtin.Tuple.tupleExact _) (wpAny_newObj_type (wpAny_pure ⟨_, rfl, wpAny_pure h⟩) hz))
end
section
variable {X : Cx}
def tRevT (K : PySem.W.Frag) (te : TE) : TE := fun σ H Q => te σ H fun x H1 => ∃ a xs, x = .ref a ∧ SqT K H1 a xs ∧ ∀ p, H1 p = none → Q (.ref p) (upd H1 p (.tup xs.reverse))
theorem pe_revT {e : Expr} {te : TE} {k : Nat} {p1 p2 p3 pos : Pos} (he : PE X e te) : PE X (.Subscript e (.Slice none none (some (.UnaryOp .USub (.Constant (.int 1) k p1) p2)) p3) pos) (tRevT X.K te) := by
  refine ⟨fun pins s σ H Q I h => ?_⟩
  refine Subscript_ (thn (he.run pins s σ H _ I h) fun v s1 ⟨x, H1, I1, r1, q1⟩ => ?_)
  obtain ⟨a, xs, ex, hx, q⟩ := q1
  subst ex
  cases r1
  have hst : PO X (some (.UnaryOp .USub (.Constant (.int 1) k p1) p2)) (tPart (tUn (rU fun i => .int (-i)) (tC (.int 1)))) := po_some (pe_un un_neg pe_int)
  refine wpAny_Slice (thn (po_none.run pins s1 σ H1 (fun o H2 => o = none ∧ H2 = H1) I1 ⟨rfl, rfl⟩) fun vl s2 ⟨l, H2, I2, pl, el, e2⟩ => ?_)
  subst el e2
  refine thn (po_none.run pins s2 σ H2 (fun o H3 => o = none ∧ H3 = H2) I2 ⟨rfl, rfl⟩) fun vu s3 ⟨u, H3, I3, pu, eu, e3⟩ => ?_
  subst eu e3
  refine thn (hst.run pins s3 σ H3 (fun o H4 => o = some (-1) ∧ H4 = H3) I3 ⟨1, rfl, -1, rfl, rfl, rfl⟩) fun vs s4 ⟨o, H4, I4, ps, eo, e4⟩ => ?_
  subst eo e4
  have I5 : Inv X pins σ H4 { s4 with heap := s4.heap.push { cls := .type "slice", data := .fields #[vl, vu, vs] } } := I4.kept (t' := s4.toks) fun b ob q => Heap.get?_push_of_some _ q
  obtain ⟨its, r, ht, hz⟩ := I5.tuple hx
  have hlen := r.length
  show wpAny (model X.prog X.w) X.A (subscriptTail e (.Slice none none (some (.UnaryOp .USub (.Constant (.int 1) k p1) p2)) p3) (.ref a) (.ref s4.heap.objs.size)) (EP X pins σ Q) X.xe { s4 with heap := s4.heap.push { cls := .type "slice", data := .fields #[vl, vu, vs] } }
  refine tail_any (ops := [.ref a, .ref s4.heap.objs.size]) ht.typeIs (PyProof.Rows.slot_tuple_getitem.lookup) ?_ (by with_unfolding_all rfl)
  refine getItem_tuple_rev ht (Heap.IsSliceOf.new _ vl vu vs) pl pu ps ?_ (by omega)
  refine ⟨.ref _, _, I5.laid (t' := s4.toks) (o := .tup xs.reverse) (fun b ob q => Heap.get?_push_of_some _ q) (Nat.le_refl _) ?_, rfl, q _ (I5.hok.fresh (Nat.le_refl _))⟩
  exact ⟨by rw [List.length_reverse]; exact hz, _, r.reverse, IsTup.new _ _⟩
end
end EN

/-! EnF: more rules for expressions. -/
namespace EN
open PySem L2 PyProof.Rows
section
variable {K : PySem.W.Frag}
def RoDs (F H : Hp) (env : Env) (σ : Sg) : List Od → List V → List Addr → Prop
  | [], us, q => us = [] ∧ q = []
  | o :: os, us, q => ∃ u ws q1 q2, us = u :: ws ∧ q = q1 ++ q2 ∧ RoD K F H env σ o u q1 ∧ RoDs F H env σ os ws q2
end
def rDs (K : PySem.W.Frag) : Rel (List Od) (List V) := fun F H env σ o u q => RoDs (K := K) F H env σ o u q
def rOp (K : PySem.W.Frag) : Rel (Option Int) (Option Int) := fun _ _ _ _ a b q => a = b ∧ q = []
abbrev DPs (X : Cx) (C : Nat → Addr) (W : WX) (es : List Expr) (f : Env → R (List Val)) : Prop := PA X es (TX X.K C W (rVs X.K) f)
abbrev DDs (X : Cx) (C : Nat → Addr) (W : WX) (es : List Expr) (f : Env → R (List Od)) : Prop := PA X es (TX X.K C W (rDs X.K) f)
section
variable {K : PySem.W.Frag} {C : Nat → Addr} {W : WX} {F H : Hp} {env : Env} {σ : Sg} {fp : Nat → List Addr}
theorem RoD.at_ {o : Od} {x : V} {q : List Addr} (r : RoD K F H env σ o x q) : ∀ a ∈ q, F a = none ∧ ∃ o, H a = some o := by
  cases o with
  | v w => exact Ro.at_ r
  | nm i => obtain ⟨rfl, _⟩ := r; exact fun _ z => (nomatch z)
theorem RoDs.at_ : ∀ {os : List Od} {us : List V} {q : List Addr}, RoDs (K := K) F H env σ os us q → ∀ a ∈ q, F a = none ∧ ∃ o, H a = some o
  | [], us, q, r, a, z => by obtain ⟨_, rfl⟩ := r; cases z
  | o :: os, us, q, r, a, z => by
    obtain ⟨u, ws, q1, q2, rfl, rfl, r1, r2⟩ := r
    rcases List.mem_append.mp z with z | z
    · exact r1.at_ a z
    · exact RoDs.at_ r2 a z
/-- what came later is apart from what came before -/
theorem Step.apart {F1 H1 F2 H2 : Hp} {fp1 : Nat → List Addr} {A2 : Addr → Prop} {q1 : List Addr} (st : Step F1 H1 (Ow fp1 []) F2 H2 A2) (h1 : ∀ a ∈ q1, ∃ o, H1 a = some o) (dj : ∀ a ∈ q1, ∀ i, a ∉ fp1 i) : ∀ a ∈ q1, ¬ A2 a := fun a z w => by
  rcases st.own a w with w | w
  · rcases w with w | ⟨i, w⟩
    · cases w
    · exact dj a z i w
  · obtain ⟨o, e⟩ := h1 a z
    rw [e] at w; cases w
theorem RoDs.vws : ∀ {os : List Od} {us : List V} {q : List Addr} {vs : List Val}, RoDs (K := K) F H env σ os us q → SR K F H env σ fp → rds env os = some vs → Vws K F H vs us
  | [], us, q, vs, r, s, e => by
    unfold rds at e; cases e
    obtain ⟨rfl, _⟩ := r
    unfold Vws; rfl
  | o :: os, us, q, vs, r, s, e => by
    unfold rds at e
    obtain ⟨u, ws, q1, q2, rfl, rfl, r1, r2⟩ := r
    cases z1 : rd env o with
    | none => simp only [z1] at e; cases e
    | some v =>
      cases z2 : rds env os with
      | none => simp only [z1, z2] at e; cases e
      | some vs' =>
        simp only [z1, z2] at e; cases e
        unfold Vws
        exact ⟨u, ws, rfl, r1.vw s z1, RoDs.vws r2 s z2⟩
theorem RoDs.along {F2 H2 : Hp} {A2 : Addr → Prop} {env2 : Env} : ∀ {os : List Od} {us : List V} {q : List Addr}, RoDs (K := K) F H env σ os us q → Step F H (Ow fp []) F2 H2 A2 → (∀ a ∈ q, ∀ i, a ∉ fp i) → RoDs (K := K) F2 H2 env2 σ os us q
  | [], us, q, r, st, dj => r
  | o :: os, us, q, r, st, dj => by
    obtain ⟨u, ws, q1, q2, rfl, rfl, r1, r2⟩ := r
    exact ⟨u, ws, q1, q2, rfl, rfl, r1.along st (fun a z => dj a (List.mem_append_left _ z)), RoDs.along r2 st fun a z => dj a (List.mem_append_right _ z)⟩
/-- one behind another, what is in hand kept -/
theorem AX.bdF {α β γ δ : Type} {rl : Rel α β} {rm : Rel γ δ} {x : R α} {f : α → Env → R γ} {Q : δ → Hp → Prop} {Q1 : β → Hp → Prop} {A B : Addr → Prop} (hB : ∀ a, B a → A a) (h : AX K C W rm σ F H A (x.bd f) Q)
    (k : ∀ a env' F' H' b fp' q, x = .ok a env' → Step F H B F' H' (Ow fp' q) → SR K F' H' env' σ fp' → rl F' H' env' σ a b q → q.Nodup → (∀ a ∈ q, ∀ i, a ∉ fp' i) → (∀ A', Step F H A F' H' A' → AX K C W rm σ F' H' A' (f a env') Q) → Q1 b H') :
    AX K C W rl σ F H B x Q1 := by
  cases x with
  | ok a env' => exact fun F' H' b fp' q st sr r nd dj => k a env' F' H' b fp' q rfl st sr r nd dj fun A' s => AX.shift s h
  | exc x env' => exact AX.sub hB h
  | no => exact h
theorem ow0 {q : List Addr} : ∀ a, Ow fp [] a → Ow fp q a := fun a z => z.elim (fun w => nomatch w) .inr
theorem Step.plus {F2 H2 : Hp} {fp2 : Nat → List Addr} {q1 q2 : List Addr} (st : Step F H (Ow fp []) F2 H2 (Ow fp2 q2)) : Step F H (Ow fp q1) F2 H2 (Ow fp2 (q1 ++ q2)) :=
  ⟨st.sF, fun a o n e => st.keep a o (fun z => n (ow0 a z)) e, fun a z => by
    rcases z with z | z
    · rcases List.mem_append.mp z with z | z
      · exact .inl (.inl z)
      · exact (st.own a (.inl z)).imp (ow0 a) id
    · exact (st.own a (.inr z)).imp (ow0 a) id, fun a o e n => (st.frz a o e n).imp (ow0 a) id⟩
/-- an operation's end from a promise -/
theorem AX.endO {r : OV} {Q : VK} {q : List Addr} (sr : SR K F H env σ fp) (h : AX K C W (rO K) σ F H (Ow fp q) (.ok r env) Q) : EndO K F H r Q := fun F' H' u q al s' nd ro => AX.al sr h.base al s' nd ro
end
section
variable {X : Cx} {C : Nat → Addr} {W : WX} {e a b : Expr} {es : List Expr} {f : Env → R OV} {pos : Pos}
theorem dps_nil : DPs X C W [] (fun env => .ok [] env) :=
  ⟨fun ps pins s σ H Q I ⟨F, env, fp, sr, h1⟩ => pa_nil.run ps pins s σ H Q I (AX.al sr h1 (Al.refl F H) sr.sF .nil (by unfold rVs; exact ⟨rfl, Rps.nil⟩))⟩
theorem dps_cons {fs : Env → R (List Val)} (h : DE X C W e f) (hs : DPs X C W es fs) (he : starEach (e :: es) X.env = (false, eval e X.env) :: starEach es X.env) :
    DPs X C W (e :: es) (fun env => (pv f env).bd fun v env => (fs env).bd fun vs env => .ok (v :: vs) env) :=
  ⟨fun ps pins s σ H Q I ⟨F, env, fp, sr, h1⟩ => (pa_cons (dp_of_de h) hs he).run ps pins s σ H Q I
    ⟨F, env, fp, sr, AX.bd h1 fun v env1 F1 H1 u fp1 q1 e1 st1 sr1 ro1 nd1 dj1 h1 => ⟨F1, env1, fp1, sr1, AX.bd h1.base fun vs env2 F2 H2 us fp2 q2 e2 st2 sr2 ro2 nd2 dj2 h2 => by
      obtain ⟨rfl, r1⟩ := ro1
      obtain ⟨rfl, r2⟩ := ro2
      exact h2 F2 H2 (u :: us) fp2 [] (Step.refl fun a z => z) sr2 ⟨rfl, Rps.cons (Rp.mono st2.sF r1) r2⟩ .nil fpn⟩⟩⟩
theorem dds_nil : DDs X C W [] (fun env => .ok [] env) :=
  ⟨fun ps pins s σ H Q I ⟨F, env, fp, sr, h1⟩ => pa_nil.run ps pins s σ H Q I (AX.al sr h1 (Al.refl F H) sr.sF .nil ⟨rfl, rfl⟩)⟩
theorem dds_cons {g : Env → R Od} {gs : Env → R (List Od)} (h : DD X C W e g) (hs : DDs X C W es gs) (he : starEach (e :: es) X.env = (false, eval e X.env) :: starEach es X.env) :
    DDs X C W (e :: es) (fun env => (g env).bd fun v env => (gs env).bd fun vs env => .ok (v :: vs) env) :=
  ⟨fun ps pins s σ H Q I ⟨F, env, fp, sr, h1⟩ => (pa_cons h hs he).run ps pins s σ H Q I
    ⟨F, env, fp, sr, AX.bd h1 fun v env1 F1 H1 u fp1 q1 e1 st1 sr1 ro1 nd1 dj1 h1 => ⟨F1, env1, fp1, sr1, AX.bdF ow0 h1 fun vs env2 F2 H2 us fp2 q2 e2 st2 sr2 ro2 nd2 dj2 h2 => by
      have ap := Step.apart st2 (fun a z => (RoD.at_ ro1 a z).2) dj1
      refine h2 _ st2.plus F2 H2 (u :: us) fp2 (q1 ++ q2) (Step.refl fun a z => z) sr2 ⟨u, us, q1, q2, rfl, rfl, RoD.along ro1 st2 dj1, ro2⟩ ?_ ?_
      · exact List.nodup_append.mpr ⟨nd1, nd2, fun x hx y hy e => ap x hx (.inl (e ▸ hy))⟩
      · intro a z i w
        rcases List.mem_append.mp z with z | z
        · exact ap a z (.inr ⟨i, w⟩)
        · exact dj2 a z i w⟩⟩⟩
/-- -a -/
theorem de_neg {g : Env → R Od} (h : DD X C W a g) : DE X C W (.UnaryOp .USub a pos) (fun env => (g env).bd fun x env => match rd env x with
    | some v => (match v with
      | .int i => .ok (.p (.int (-i))) env
      | _ => .no)
    | none => .no) :=
  ⟨fun pins s σ H Q I ⟨F, env, fp, sr, h1⟩ => (pe_un un_neg h).run pins s σ H Q I ⟨F, env, fp, sr, AX.bd h1 fun o env1 F1 H1 u fp1 q1 e1 st1 sr1 ro1 nd1 dj1 h1 => by
    cases z : rd env1 o with
    | none => simp only [z] at h1; exact h1.elim
    | some v =>
      simp only [z] at h1
      cases v with
      | int i => exact ⟨i, (RoD.vw ro1 sr1 z).int, (AX.endO sr1 h1).int sr1.sF⟩
      | _ => exact h1.elim⟩⟩
/-- a truth from an operand -/
theorem AX.tru {g : Env → R Od} {K : PySem.W.Frag} {σ : Sg} {F H : Hp} {env : Env} {fp : Nat → List Addr} {α β : Type} {rl : Rel α β} {k : Bool → Env → R α} {Q : β → Hp → Prop} {Q1 : Bool → Hp → Prop}
    (h : AX K C W rl σ F H (Ow fp []) (((g env).bd fun x env => match rd env x with
      | some v => R.of (truthy v) env
      | none => .no).bd k) Q) (hk : ∀ b env1 F1 H1 fp1 q1, SR K F1 H1 env1 σ fp1 → AX K C W rl σ F1 H1 (Ow fp1 q1) (k b env1) Q → Q1 b H1) :
    AX K C W (rD K) σ F H (Ow fp []) (g env) (fun x H' => ∃ b, TruV K x H' b ∧ Q1 b H') := by
  have e : (((g env).bd fun x env => match rd env x with
      | some v => R.of (truthy v) env
      | none => .no).bd k) = (g env).bd fun x env => (match rd env x with
      | some v => R.of (truthy v) env
      | none => .no).bd k := by cases g env <;> rfl
  rw [e] at h
  refine AX.bd h fun o env1 F1 H1 u fp1 q1 e1 st1 sr1 ro1 nd1 dj1 h1 => ?_
  cases z : rd env1 o with
  | none => simp only [z, R.bd] at h1; exact h1.elim
  | some v =>
    simp only [z] at h1
    cases t : truthy v with
    | none => rw [t] at h1; exact h1.elim
    | some b =>
      rw [t] at h1
      exact ⟨b, truthy_ok t sr1.sF (RoD.vw ro1 sr1 z), hk b env1 F1 H1 fp1 q1 sr1 h1⟩
/-- a plain term's truth -/
theorem dt_plain {g : Env → R Od} (h : DD X C W a g) (ht : ∀ whole, isTrue a X.env whole = (do let v ← whole; standAt a.pos; holding [v] (PySem.truthy v))) : DT X C W a (fun env => (g env).bd fun x env => match rd env x with
    | some v => R.of (truthy v) env
    | none => .no) :=
  ⟨fun pins s σ H Q I ⟨F, env, fp, sr, h1⟩ => (pt_truth h ht).run pins s σ H Q I ⟨F, env, fp, sr, by
    have e : ((g env).bd fun x env => match rd env x with
      | some v => R.of (truthy v) env
      | none => .no) = ((g env).bd fun x env => match rd env x with
      | some v => R.of (truthy v) env
      | none => .no).bd fun b env => .ok b env := by
      cases ((g env).bd fun x env => match rd env x with
        | some v => R.of (truthy v) env
        | none => .no) <;> rfl
    dsimp only at h1
    rw [e] at h1
    exact AX.tru h1 fun b env1 F1 H1 fp1 q1 sr1 h1 => AX.al sr1 h1.base (Al.refl F1 H1) sr1.sF .nil ⟨rfl, rfl⟩⟩⟩
/-- not a, as a value -/
theorem de_nt {g : Env → R Od} (h : DD X C W a g) : DE X C W (.UnaryOp .Not a pos) (fun env => ((g env).bd fun x env => match rd env x with
    | some v => R.of (truthy v) env
    | none => .no).bd fun b env => .ok (.p (.bl (!b))) env) :=
  ⟨fun pins s σ H Q I ⟨F, env, fp, sr, h1⟩ => (pe_notT h).run pins s σ H Q I ⟨F, env, fp, sr, AX.tru h1 fun b env1 F1 H1 fp1 q1 sr1 h1 => (AX.endO sr1 h1).bl sr1.sF⟩⟩
/-- a if t else b -/
theorem de_ife {t : Expr} {g : Env → R Bool} {f2 : Env → R OV} (ht : DT X C W t g) (ha : DE X C W a f) (hb : DE X C W b f2) : DE X C W (.IfExp t a b pos) (fun env => (g env).bd fun c env => if c then f env else f2 env) :=
  ⟨fun pins s σ H Q I ⟨F, env, fp, sr, h1⟩ => (pe_ifExp ht ha hb).run pins s σ H Q I ⟨F, env, fp, sr, AX.bd h1 fun c env1 F1 H1 k fp1 q1 e1 st1 sr1 ro1 nd1 dj1 h1 => by
    obtain ⟨rfl, rfl⟩ := ro1
    cases c with
    | true => exact ⟨F1, env1, fp1, sr1, h1⟩
    | false => exact ⟨F1, env1, fp1, sr1, h1⟩⟩⟩
/-- not a, as a test -/
theorem dt_nt {g : Env → R Bool} (h : DT X C W a g) : DT X C W (.UnaryOp .Not a pos) (fun env => (g env).bd fun b env => .ok (!b) env) :=
  ⟨fun pins s σ H Q I ⟨F, env, fp, sr, h1⟩ => (pt_not h).run pins s σ H Q I ⟨F, env, fp, sr, AX.bd h1 fun c env1 F1 H1 k fp1 q1 e1 st1 sr1 ro1 nd1 dj1 h1 => by
    obtain ⟨rfl, rfl⟩ := ro1
    exact AX.al sr1 h1.base (Al.refl F1 H1) sr1.sF .nil ⟨rfl, rfl⟩⟩⟩
/-- a comparison, as a test -/
theorem dt_cmp {ga gb : Env → R Od} {o : Cop} (hu : X.A.units + 64 < cLine) (ha : DD X C W a ga) (hb : DD X C W b gb) (hm : behindInMarks (copS o) b = false) : DT X C W (.Compare a [copS o] [b] pos) (fun env => (ga env).bd fun x env => (gb env).bd fun y env => match rd env x, rd env y with
      | some v, some w => R.of (EN.cmp o v w) env
      | _, _ => .no) :=
  ⟨fun pins s σ H Q I ⟨F, env, fp, sr, h1⟩ => by
    have h2 : AX X.K C W (rO X.K) σ F H (Ow fp []) ((ga env).bd fun x env => (gb env).bd fun y env => match rd env x, rd env y with
      | some v, some w => R.of ((EN.cmp o v w).map fun k => .p (.bl k)) env
      | _, _ => .no) (fun x H' => ∃ k, x = .bl k ∧ Q k H') := by
      refine AX.bd (rl := rO X.K) (Q := Q) (rm := rB) (x := (ga env).bd fun x env => (gb env).bd fun y env => match rd env x, rd env y with
        | some v, some w => R.of ((EN.cmp o v w).map fun k => OV.p (.bl k)) env
        | _, _ => .no) (f := fun r env => match r with | .p (.bl k) => .ok k env | _ => .no) ?_ ?_
      · have e : (((ga env).bd fun x env => (gb env).bd fun y env => match rd env x, rd env y with
          | some v, some w => R.of ((EN.cmp o v w).map fun k => OV.p (.bl k)) env
          | _, _ => .no).bd fun r env => match r with | .p (.bl k) => .ok k env | _ => .no) = ((ga env).bd fun x env => (gb env).bd fun y env => match rd env x, rd env y with
          | some v, some w => R.of (EN.cmp o v w) env
          | _, _ => .no) := by
          cases ga env with
          | exc x e => rfl
          | no => rfl
          | ok o1 e1 =>
            simp only [R.bd]
            cases gb e1 with
            | exc x e => rfl
            | no => rfl
            | ok o2 e2 =>
              simp only [R.bd]
              cases rd e2 o1 with
              | none => rfl
              | some v =>
                cases rd e2 o2 with
                | none => rfl
                | some w =>
                  simp only
                  cases EN.cmp o v w <;> rfl
        rw [e]
        exact h1
      · intro r env' F' H' u fp' q e1 st sr1 ro nd dj h2
        cases r with
        | p v =>
          cases v with
          | bl k =>
            unfold rO Ro Rp at ro
            exact ⟨k, ro.2, AX.al sr1 h2.base (Al.refl F' H') sr1.sF .nil ⟨rfl, rfl⟩⟩
          | _ => exact h2.elim
        | _ => exact h2.elim
    obtain ⟨rr, ok, t⟩ := pair_read (k := fun v w => (EN.cmp o v w).map fun k => .p (.bl k)) (Ok := fun rr => OpR X (compareOp (copS o)) rr) opF (fun v w r e => by
      cases z : EN.cmp o v w with
      | none => rw [z] at e; cases e
      | some u => rw [z] at e; cases e; exact cmp_ok hu z) sr h2
    exact (pt_cmpR ok ha hb hm).run pins s σ H Q I t⟩
/-- displays -/
theorem de_tup {fs : Env → R (List Val)} {k : Nat} (h : DPs X C W es fs) : DE X C W (.Tuple es k pos) (fun env => (fs env).bd fun vs env => if vs.length ≤ sizeLine then .ok (.p (.tup vs)) env else .no) :=
  ⟨fun pins s σ H Q I ⟨F, env, fp, sr, h1⟩ => (pe_tup h).run pins s σ H Q I ⟨F, env, fp, sr, AX.bd h1 fun vs env1 F1 H1 us fp1 q1 e1 st1 sr1 ro1 nd1 dj1 h1 => by
    obtain ⟨rfl, r⟩ := ro1
    by_cases hz : vs.length ≤ sizeLine
    · rw [if_pos hz] at h1
      exact ⟨by rw [r.len]; exact hz, fun p n => (AX.endO sr1 h1).newT sr1.sF r p n⟩
    · rw [if_neg hz] at h1; exact h1.elim⟩⟩
theorem de_lst {fs : Env → R (List Val)} (h : DPs X C W es fs) : DE X C W (.List es pos) (fun env => (fs env).bd fun vs env => if vs.length ≤ sizeLine then .ok (.l vs) env else .no) :=
  ⟨fun pins s σ H Q I ⟨F, env, fp, sr, h1⟩ => (pe_lst h).run pins s σ H Q I ⟨F, env, fp, sr, AX.bd h1 fun vs env1 F1 H1 us fp1 q1 e1 st1 sr1 ro1 nd1 dj1 h1 => by
    obtain ⟨rfl, r⟩ := ro1
    by_cases hz : vs.length ≤ sizeLine
    · rw [if_pos hz] at h1
      exact ⟨by rw [r.len]; exact hz, fun p n => (AX.endO sr1 h1).newL sr1.sF r p n⟩
    · rw [if_neg hz] at h1; exact h1.elim⟩⟩
/-- a[::-1] -/
theorem de_rev {g : Env → R Od} {k : Nat} {p1 p2 p3 : Pos} (h : DD X C W a g) : DE X C W (.Subscript a (.Slice none none (some (.UnaryOp .USub (.Constant (.int 1) k p1) p2)) p3) pos) (fun env => (g env).bd fun x env => match rd env x with
    | some v => R.of (vrev v) env
    | none => .no) :=
  ⟨fun pins s σ H Q I ⟨F, env, fp, sr, h1⟩ => by
    by_cases hy : ∃ o env1 xs, g env = .ok o env1 ∧ rd env1 o = some (.tup xs)
    · obtain ⟨o, env1, xs, e1, z⟩ := hy
      refine (pe_revT h).run pins s σ H Q I ⟨F, env, fp, sr, AX.bd h1 fun o' env1' F1 H1 u fp1 q1 e1' st1 sr1 ro1 nd1 dj1 h1 => ?_⟩
      rw [e1] at e1'
      cases e1'
      simp only [z, vrev, R.of] at h1
      obtain ⟨p, vs, rfl, h2, h3⟩ := (RoD.vw ro1 sr1 z).tup sr1.sF
      exact ⟨p, vs, rfl, h2, fun p n => (AX.endO sr1 h1).newT sr1.sF h3.rev p n⟩
    · refine (pe_revL h).run pins s σ H Q I ⟨F, env, fp, sr, AX.bd h1 fun o' env1' F1 H1 u fp1 q1 e1' st1 sr1 ro1 nd1 dj1 h1 => ?_⟩
      cases z : rd env1' o' with
      | none => simp only [z] at h1; exact h1.elim
      | some v =>
        simp only [z] at h1
        cases v with
        | tup xs => exact (hy ⟨o', env1', xs, e1', z⟩).elim
        | lst xs =>
          simp only [vrev, R.of] at h1
          obtain ⟨p, vs, rfl, h2, h3⟩ := (RoD.vw ro1 sr1 z).lst
          exact ⟨p, vs, rfl, .inl h2, fun p n => (AX.endO sr1 h1).newL sr1.sF h3.rev p n⟩
        | _ => exact h1.elim⟩
/-- the parts of a slice -/
theorem do_none : PO X none (TX X.K C W (rOp X.K) fun env => .ok none env) :=
  ⟨fun pins s σ H Q I ⟨F, env, fp, sr, h1⟩ => po_none.run pins s σ H Q I (AX.al sr h1 (Al.refl F H) sr.sF .nil ⟨rfl, rfl⟩)⟩
theorem do_some (h : DE X C W e f) : PO X (some e) (TX X.K C W (rOp X.K) fun env => (pv f env).bd fun v env => match v with
    | .int i => .ok (some i) env
    | _ => .no) :=
  ⟨fun pins s σ H Q I ⟨F, env, fp, sr, h1⟩ => (po_some (dp_of_de h)).run pins s σ H Q I ⟨F, env, fp, sr, AX.bd h1 fun v env1 F1 H1 u fp1 q1 e1 st1 sr1 ro1 nd1 dj1 h1 => by
    obtain ⟨rfl, r⟩ := ro1
    cases v with
    | int i =>
      unfold Rp at r
      exact ⟨i, r, AX.al sr1 h1 (Al.refl F1 H1) sr1.sF .nil ⟨rfl, rfl⟩⟩
    | _ => exact h1.elim⟩⟩
theorem slF : SlR X fun _ _ _ _ _ => False := by
  intro pins s σ H x v vl vu lo hi sl Q I rx hs pl pu h
  exact False.elim h
theorem de_slc {g : Env → R Od} {lo hi : Option Expr} {fl fh : Env → R (Option Int)} {p2 : Pos} (h : DD X C W a g) (hl : PO X lo (TX X.K C W (rOp X.K) fl)) (hh : PO X hi (TX X.K C W (rOp X.K) fh)) :
    DE X C W (.Subscript a (.Slice lo hi none p2) pos) (fun env => (g env).bd fun o env => (fl env).bd fun l env => (fh env).bd fun h env => match rd env o with
    | some x => R.of (vslc x l h) env
    | none => .no) :=
  ⟨fun pins s σ H Q I ⟨F, env, fp, sr, h1⟩ => by
    have go : ∀ rr, SlR X rr → (∀ o env1 l env2 h env3 v r, g env = .ok o env1 → fl env1 = .ok l env2 → fh env2 = .ok h env3 → rd env3 o = some v → vslc v l h = some r → ∀ F H x Q, Same F H → Vw X.K F H v x → EndO X.K F H r Q → rr x l h H Q) →
        wpAny (model X.prog X.w) X.A (eval (.Subscript a (.Slice lo hi none p2) pos) X.env) (EP X pins σ Q) X.xe s := fun rr ok hrr =>
      (pe_slice ok h hl hh).run pins s σ H Q I ⟨F, env, fp, sr, AX.bd h1 fun o env1 F1 H1 x fp1 q1 e1 st1 sr1 ro1 nd1 dj1 h1 => ⟨F1, env1, fp1, sr1, AX.bd h1.base fun l env2 F2 H2 l' fp2 q2 e2 st2 sr2 ro2 nd2 dj2 h2 =>
        ⟨F2, env2, fp2, sr2, AX.bd h2.base fun u env3 F3 H3 u' fp3 q3 e3 st3 sr3 ro3 nd3 dj3 h3 => by
          obtain ⟨rfl, rfl⟩ := ro2
          obtain ⟨rfl, rfl⟩ := ro3
          have ro' := RoD.along (env2 := env2) ro1 st2 dj1
          have dj' : ∀ a ∈ q1, ∀ i, a ∉ fp2 i := fun a z i w => Step.apart st2 (fun a z => (RoD.at_ ro1 a z).2) dj1 a z (.inr ⟨i, w⟩)
          have ro'' := RoD.along (env2 := env3) ro' st3 dj'
          cases z : rd env3 o with
          | none => simp only [z] at h3; exact h3.elim
          | some v =>
            simp only [z] at h3
            cases y : vslc v l u with
            | none => rw [y] at h3; exact h3.elim
            | some r =>
              rw [y] at h3
              exact hrr o env1 l env2 u env3 v r e1 e2 e3 z y F3 H3 x Q sr3.sF (RoD.vw ro'' sr3 z) (AX.endO sr3 h3)⟩⟩⟩
    by_cases hy : ∃ o env1 l env2 h env3 v r, g env = .ok o env1 ∧ fl env1 = .ok l env2 ∧ fh env2 = .ok h env3 ∧ rd env3 o = some v ∧ vslc v l h = some r
    · obtain ⟨o, env1, l, env2, u, env3, v, r, e1, e2, e3, z, y⟩ := hy
      obtain ⟨rr, ok, hrr⟩ := vslc_ok (X := X) y
      refine go rr ok fun o' env1' l' env2' u' env3' v' r' e1' e2' e3' z' y' => ?_
      rw [e1] at e1'; cases e1'
      rw [e2] at e2'; cases e2'
      rw [e3] at e3'; cases e3'
      rw [z] at z'; cases z'
      rw [y] at y'; cases y'
      exact hrr
    · exact go _ slF fun o env1 l env2 u env3 v r e1 e2 e3 z y => (hy ⟨o, env1, l, env2, u, env3, v, r, e1, e2, e3, z, y⟩).elim⟩
/-- built-ins -/
theorem crF {v : Value} : CallR X v fun _ _ _ => False := by
  intro pins s σ H xs us Q I r h
  exact False.elim h
theorem bi_read {gs : Env → R (List Od)} {b : Bi} (hu : X.A.units + 64 < cLine) (hc : X.calm = true) {F H : Hp} {env : Env} {fp : Nat → List Addr} {σ : Sg} {Q : VK} (sr : SR X.K F H env σ fp)
    (h : AX X.K C W (rO X.K) σ F H (Ow fp []) ((gs env).bd fun os env => match rds env os with
      | some vs => R.of (EN.bi b vs) env
      | none => .no) Q) : ∃ rr, CallR X (biV b) rr ∧ tCB rr (TX X.K C W (rDs X.K) gs) σ H Q := by
  have go : ∀ rr, (∀ os env1 vs r, gs env = .ok os env1 → rds env1 os = some vs → EN.bi b vs = some r → ∀ F H xs Q, Same F H → Vws X.K F H vs xs → EndO X.K F H r Q → rr xs H Q) → tCB rr (TX X.K C W (rDs X.K) gs) σ H Q := fun rr hrr =>
    ⟨F, env, fp, sr, AX.bd h fun os env1 F1 H1 us fp1 q1 e1 st1 sr1 ro1 nd1 dj1 h1 => by
      cases z : rds env1 os with
      | none => simp only [z] at h1; exact h1.elim
      | some vs =>
        simp only [z] at h1
        cases y : EN.bi b vs with
        | none => rw [y] at h1; exact h1.elim
        | some r =>
          rw [y] at h1
          exact hrr os env1 vs r e1 z y F1 H1 us Q sr1.sF (RoDs.vws ro1 sr1 z) (AX.endO sr1 h1)⟩
  by_cases hy : ∃ os env1 vs r, gs env = .ok os env1 ∧ rds env1 os = some vs ∧ EN.bi b vs = some r
  · obtain ⟨os, env1, vs, r, e1, z, y⟩ := hy
    obtain ⟨rr, ok, hrr⟩ := bi_ok hu hc y
    refine ⟨rr, ok, go rr fun os' env1' vs' r' e1' z' y' => ?_⟩
    rw [e1] at e1'; cases e1'
    rw [z] at z'; cases z'
    rw [y] at y'; cases y'
    exact hrr
  · exact ⟨_, crF, go _ fun os env1 vs r e1 z y => (hy ⟨os, env1, vs, r, e1, z, y⟩).elim⟩
theorem de_bi {gs : Env → R (List Od)} {b : Bi} {p : Pos} (hu : X.A.units + 64 < cLine) (hc : X.calm = true) (hg : Gl X (biN b)) (hm : X.mg (biN b) = none) (h : DDs X C W (e :: es) gs) (he : starEach (e :: es) X.env = (false, eval e X.env) :: starEach es X.env)
    (hpl : (backTo pos (starEach es X.env)).any (·.1) = false) : DE X C W (.Call (.Name (biN b) p) (e :: es) [] pos) (fun env => (gs env).bd fun os env => match rds env os with
      | some vs => R.of (EN.bi b vs) env
      | none => .no) :=
  ⟨fun pins s σ H Q I ⟨F, env, fp, sr, h1⟩ => by
    obtain ⟨rr, ok, t⟩ := bi_read hu hc sr h1
    have hn : biN b ≠ "__name__" := by cases b <;> decide
    have hd : (biN b == ("__debug__" : Str)) = false := by cases b <;> decide
    have bt : bootBuiltins (biN b) = some (biV b) := by cases b <;> decide +kernel
    cases b with
    | len => exact (pe_callB ok hg hm bt h hn hd he hpl).run pins s σ H Q I t
    | sum => exact (pe_callB ok hg hm bt h hn hd he hpl).run pins s σ H Q I t
    | sorted => exact (pe_callB ok hg hm bt h hn hd he hpl).run pins s σ H Q I t
    | abs => exact (pe_callB ok hg hm bt h hn hd he hpl).run pins s σ H Q I t
    | min => exact (pe_callB ok hg hm bt h hn hd he hpl).run pins s σ H Q I t
    | max => exact (pe_callB ok hg hm bt h hn hd he hpl).run pins s σ H Q I t
    | all => exact (pe_callB ok hg hm bt h hn hd he hpl).run pins s σ H Q I t
    | int => exact (pe_callTy ok hg hm bt h hn hd he hpl).run pins s σ H Q I t
    | tuple => exact (pe_callTy ok hg hm bt h hn hd he hpl).run pins s σ H Q I t
    | list => exact (pe_callTy ok hg hm bt h hn hd he hpl).run pins s σ H Q I t
    | str => exact (pe_callTy ok hg hm bt h hn hd he hpl).run pins s σ H Q I t
    | dict => exact (pe_callTy ok hg hm bt h hn hd he hpl).run pins s σ H Q I t⟩
end
end EN

/-! EnG: rules for methods, own lists within a name's list, isinstance, and, or. -/
namespace EN
open PySem L2 PyProof.Rows
section
variable {K : PySem.W.Frag} {F H : Hp} {env : Env} {σ : Sg} {fp : Nat → List Addr}
/-- a name's own list is written -/
theorem SR.write (s : SR K F H env σ fp) {i : Nat} {xs ys : List Val} (e : gs env i = some (.l xs)) : ∃ a vs, σ[i]? = some (some (.ref a)) ∧ H a = some (.lst vs) ∧ Rps K F xs vs ∧
    ∀ ws, Rps K F ys ws → SR K F (upd H a (.lst ws)) (ss env i (some (.l ys))) σ fp ∧ Step F H (Ow fp []) F (upd H a (.lst ws)) (Ow fp []) := by
  obtain ⟨u, h1, r⟩ := s.rel i _ e
  unfold Ro at r
  obtain ⟨a, vs, rfl, hq, hF, hH, hr⟩ := r
  have ia : a ∈ fp i := by rw [hq]; simp
  refine ⟨a, vs, h1, hH, hr, fun ws hw => ?_⟩
  have s' : Same F (upd H a (.lst ws)) := fun b o eb => by
    by_cases z : b = a
    · subst z; rw [hF] at eb; cases eb
    · rw [upd_ne z]; exact s.sF b o eb
  have p := s.put (Same.refl F) s' (i := i) (o := some (.l ys)) (q := [a]) (fun j hj b hb => by
      obtain ⟨n, o, eo⟩ := s.at_ hb
      refine ⟨n, fun o' eo' => ?_⟩
      have : b ≠ a := fun z => by subst z; exact s.dj j i hj b hb ia
      rw [upd_ne this]; exact eo') (fun z => nomatch z)
    (fun ov eo _ => by cases eo; exact ⟨_, h1, by unfold Ro; exact ⟨a, ws, rfl, rfl, hF, upd_same, hw⟩⟩) (by simp) (fun b hb j hj w => by
      simp at hb; subst hb
      exact s.dj j i hj b w ia) (gs_lt e)
  have ef : (fun j => if j = i then [a] else fp j) = fp := by
    funext j
    by_cases z : j = i
    · subst z; rw [if_pos rfl, hq]
    · rw [if_neg z]
  rw [ef] at p
  refine ⟨p, Same.refl F, fun b o nb eb => ?_, fun b z => .inl z, fun b o eb nb => by rw [eb] at nb; cases nb⟩
  have : b ≠ a := fun z => by subst z; exact nb (.inr ⟨i, ia⟩)
  rw [upd_ne this]; exact eb
end
section
variable {X : Cx} {C : Nat → Addr} {W : WX} {e a b : Expr} {es : List Expr} {f : Env → R OV} {pos p1 : Pos}
/-- x.append(e) -/
theorem de_app {i : Nat} (hv : PE X a (tVar i)) (h : DE X C W e f) (hs : starEach [e] X.env = (false, eval e X.env) :: starEach [] X.env)
    (hbase : attributeBase a "append" X.env (eval a X.env) = eval a X.env) (hline : (p1.endLine == pos.line) = true) : DE X C W (.Call (.Attribute a "append" p1) [e] [] pos) (fun env => match gs env i with
    | some (.l _) => (pv f env).bd fun v env => (match gs env i with
      | some (.l xs) => if xs.length < sizeLine then .ok (.p .non) (ss env i (some (.l (xs ++ [v])))) else .no
      | _ => .no)
    | _ => .no) :=
  ⟨fun pins s σ H Q I ⟨F, env, fp, sr, h1⟩ => by
    cases z : gs env i with
    | none => simp only [z] at h1; exact h1.elim
    | some ov =>
      cases ov with
      | p v => simp only [z] at h1; exact h1.elim
      | d ks v => simp only [z] at h1; exact h1.elim
      | nd v => simp only [z] at h1; exact h1.elim
      | l x0 =>
        simp only [z] at h1
        refine (pe_bm PySem.F.plainAttrs_list PySem.F.slot_list_append PySem.F.type_list_append mt_append hv (pa_cons (dp_of_de h) pa_nil hs) hbase (by rw [hs]; rfl) hline hs rfl).run pins s σ H Q I ?_
        obtain ⟨a0, vs0, e0, hH0, _, _⟩ := sr.write (ys := []) z
        refine ⟨_, e0, .inl ⟨rfl, _, SqL.of hH0⟩, F, env, fp, sr, AX.bd h1 fun v env1 F1 H1 u fp1 q1 e1 st1 sr1 ro1 nd1 dj1 h1 => ?_⟩
        obtain ⟨rfl, rv⟩ := ro1
        cases y : gs env1 i with
        | none => simp only [y] at h1; exact h1.elim
        | some ov1 =>
          cases ov1 with
          | p v => simp only [y] at h1; exact h1.elim
          | d ks v => simp only [y] at h1; exact h1.elim
          | nd v => simp only [y] at h1; exact h1.elim
          | l xs =>
            simp only [y] at h1
            obtain ⟨a1, vs, ea, hH, hr, wr⟩ := sr1.write (ys := xs ++ [v]) y
            rw [e0] at ea
            have : a0 = a1 := by injection ea with ea; injection ea with ea; injection ea
            subst this
            by_cases hz : xs.length < sizeLine
            · rw [if_pos hz] at h1
              obtain ⟨sr2, st2⟩ := wr (vs ++ [u]) (hr.app (Rps.one rv))
              exact ⟨a0, vs, u, rfl, rfl, hH, by rw [hr.len]; exact hz, h1 F1 _ .non fp1 [] st2 sr2 (by unfold rO Ro Rp; exact ⟨rfl, rfl⟩) .nil fpn⟩
            · rw [if_neg hz] at h1; exact h1.elim⟩
/-- x.pop() -/
theorem de_pop {i : Nat} (hv : PE X a (tVar i)) (hbase : attributeBase a "pop" X.env (eval a X.env) = eval a X.env) (hline : (p1.endLine == pos.line) = true) : DE X C W (.Call (.Attribute a "pop" p1) [] [] pos) (fun env => match gs env i with
    | some (.l xs) => (match xs[xs.length - 1]? with
      | some v => .ok (.p v) (ss env i (some (.l xs.dropLast)))
      | none => .no)
    | _ => .no) :=
  ⟨fun pins s σ H Q I ⟨F, env, fp, sr, h1⟩ => by
    cases z : gs env i with
    | none => simp only [z] at h1; exact h1.elim
    | some ov =>
      cases ov with
      | p v => simp only [z] at h1; exact h1.elim
      | d ks v => simp only [z] at h1; exact h1.elim
      | nd v => simp only [z] at h1; exact h1.elim
      | l xs =>
        simp only [z] at h1
        obtain ⟨a0, vs, e0, hH, hr, wr⟩ := sr.write (ys := xs.dropLast) z
        cases y : xs[xs.length - 1]? with
        | none => simp only [y] at h1; exact h1.elim
        | some v =>
          simp only [y] at h1
          obtain ⟨u, e1, rv⟩ := hr.get y
          obtain ⟨sr2, st2⟩ := wr vs.dropLast hr.dropLast
          refine (pe_bm0 PySem.F.plainAttrs_list PySem.F.slot_list_pop PySem.F.type_list_pop mt_pop hv hbase hline).run pins s σ H Q I ⟨_, e0, .inl ⟨rfl, _, SqL.of hH⟩, a0, vs, u, rfl, rfl, hH, by rw [hr.len]; exact e1, ?_⟩
          exact h1 F _ u fp [] st2 sr2 (by unfold rO Ro; exact ⟨rfl, rv⟩) .nil fpn⟩
/-- x[k][y] -/
theorem de_nix {i k j : Nat} {kk : Expr} {p2 : Pos} (hi : PE X a (tVar i)) (hk : PE X kk (tC (.int (k : Int)))) (hj : PE X b (tVar j)) (pk : PlainIx kk) (pj : PlainIx b) : DE X C W (.Subscript (.Subscript a kk p2) b pos) (fun env => match gs env i, gs env j with
    | some (.nd xs), some (.p (.int n)) => (match xs[k]? with
      | some (.l ys) => R.of ((atI ys n).map .p) env
      | _ => .no)
    | _, _ => .no) :=
  ⟨fun pins s σ H Q I ⟨F, env, fp, sr, h1⟩ => by
    cases z : gs env i with
    | none => simp only [z] at h1; exact h1.elim
    | some ov =>
      cases ov with
      | nd xs =>
        cases z2 : gs env j with
        | none => simp only [z, z2] at h1; exact h1.elim
        | some oj =>
          cases oj with
          | p v =>
            cases v with
            | int n =>
              simp only [z, z2] at h1
              cases y : xs[k]? with
              | none => simp only [y] at h1; exact h1.elim
              | some w =>
                cases w with
                | l ys =>
                  simp only [y] at h1
                  cases y2 : atI ys n with
                  | none => rw [y2] at h1; exact h1.elim
                  | some v =>
                    rw [y2] at h1
                    obtain ⟨u, e1, r⟩ := sr.rel i _ z
                    obtain ⟨u2, e2, r2⟩ := sr.rel j _ z2
                    unfold Ro at r r2
                    obtain ⟨p, vs, q, rfl, hq, hF, hH, hr⟩ := r
                    obtain ⟨w, q2, e3, r3, _⟩ := hr.get y
                    unfold Ro at r3
                    obtain ⟨p3, vs3, rfl, hq3, hF3, hH3, hr3⟩ := r3
                    obtain ⟨u4, e4, r4⟩ := hr3.atI y2
                    have r2' := r2.2
                    unfold Rp at r2'
                    subst r2'
                    exact (pe_ix ix_list (pe_ix ix_list hi hk pk) hj pj).run pins s σ H Q I
                      ⟨_, e1, p, vs, k, _, rfl, rfl, SqL.of hH, atI_nat e3, _, e2, p3, vs3, n, u4, rfl, rfl, SqL.of hH3, e4, (AX.endO sr h1).val sr.sF r4⟩
                | _ => simp only [y] at h1; exact h1.elim
            | _ => simp only [z, z2] at h1; exact h1.elim
          | _ => simp only [z, z2] at h1; exact h1.elim
      | _ => simp only [z] at h1; exact h1.elim⟩
/-- len(x[k]) -/
theorem de_nlen {i k : Nat} {kk : Expr} {p2 p : Pos} (hg : Gl X "len") (hm : X.mg "len" = none) (hi : PE X a (tVar i)) (hk : PE X kk (tC (.int (k : Int)))) (pk : PlainIx kk) : DE X C W (.Call (.Name "len" p) [.Subscript a kk p2] [] pos) (fun env => match gs env i with
    | some (.nd xs) => (match xs[k]? with
      | some (.l ys) => .ok (.p (.int ys.length)) env
      | _ => .no)
    | _ => .no) :=
  ⟨fun pins s σ H Q I ⟨F, env, fp, sr, h1⟩ => by
    cases z : gs env i with
    | none => simp only [z] at h1; exact h1.elim
    | some ov =>
      cases ov with
      | nd xs =>
        simp only [z] at h1
        cases y : xs[k]? with
        | none => simp only [y] at h1; exact h1.elim
        | some w =>
          cases w with
          | l ys =>
            simp only [y] at h1
            obtain ⟨u, e1, r⟩ := sr.rel i _ z
            unfold Ro at r
            obtain ⟨p, vs, q, rfl, hq, hF, hH, hr⟩ := r
            obtain ⟨w, q2, e3, r3, _⟩ := hr.get y
            unfold Ro at r3
            obtain ⟨p3, vs3, rfl, hq3, hF3, hH3, hr3⟩ := r3
            exact (pe_callB call_len_seq hg hm PySem.boot_len (pa_cons (pe_ix ix_list hi hk pk) pa_nil)).run pins s σ H Q I
              ⟨_, e1, p, vs, k, _, rfl, rfl, SqL.of hH, atI_nat e3, p3, vs3, rfl, .inl (SqL.of hH3), by rw [hr3.len]; exact (AX.endO sr h1).int sr.sF⟩
          | _ => simp only [y] at h1; exact h1.elim
      | _ => simp only [z] at h1; exact h1.elim⟩
/-- isinstance(e, T) -/
theorem de_isi {t : Ty} {g : Env → R Od} {p p2 : Pos} (hg : Gl X "isinstance") (hm : X.mg "isinstance" = none) (hg2 : Gl X (tyP t)) (hm2 : X.mg (tyP t) = none) (h : DD X C W e g) (hs : starEach [e, .Name (tyP t) p2] X.env = (false, eval e X.env) :: starEach [.Name (tyP t) p2] X.env) :
    DE X C W (.Call (.Name "isinstance" p) [e, .Name (tyP t) p2] [] pos) (fun env => (g env).bd fun x env => match rd env x with
    | some v => R.of ((EN.isi t v).map fun k => .p (.bl k)) env
    | none => .no) :=
  ⟨fun pins s σ H Q I ⟨F, env, fp, sr, h1⟩ => by
    have hn : tyP t ≠ "__name__" := by cases t <;> decide
    have hd : (tyP t == ("__debug__" : Str)) = false := by cases t <;> decide
    have bt : bootBuiltins (tyP t) = some (.type (tyS t)) := by cases t <;> decide +kernel
    refine (pe_callB call_isi hg hm (by decide +kernel) (pa_cons h (pa_cons (pe_bltn (v := .ty (tyS t)) hg2 hm2 bt rfl hn hd) pa_nil) hs) (by decide) (by decide) hs rfl).run pins s σ H Q I
      ⟨F, env, fp, sr, AX.bd h1 fun o env1 F1 H1 u fp1 q1 e1 st1 sr1 ro1 nd1 dj1 h1 => ?_⟩
    cases z : rd env1 o with
    | none => simp only [z] at h1; exact h1.elim
    | some v =>
      simp only [z] at h1
      cases y : EN.isi t v with
      | none => rw [y] at h1; exact h1.elim
      | some k => rw [y] at h1; exact isi_ok y F1 H1 u Q sr1.sF (RoD.vw ro1 sr1 z) (AX.endO sr1 h1)⟩
/-- {} -/
theorem de_dd : DE X C W (.Dict [] [] pos) (fun env => .ok (.d [] []) env) :=
  ⟨fun pins s σ H Q I ⟨F, env, fp, sr, h1⟩ => pe_dnewK.run pins s σ H Q I fun p n => by
    obtain ⟨al, sN, nF⟩ := Al.own (o := .dK []) sr.sF n
    exact AX.al sr h1 al sN (by simp) (by unfold rO Ro; exact ⟨p, [], rfl, rfl, nF, upd_same, rfl, Rps.nil⟩)⟩
/-- x.join(e) -/
theorem de_jn {x : Str} {g : Env → R Od} (ho : PE X a (tC (.str x))) (h : DD X C W e g) (hs : starEach [e] X.env = (false, eval e X.env) :: starEach [] X.env) (hbase : attributeBase a "join" X.env (eval a X.env) = eval a X.env) (hline : (p1.endLine == pos.line) = true) :
    DE X C W (.Call (.Attribute a "join" p1) [e] [] pos) (fun env => (g env).bd fun y env => match rd env y with
      | some v => R.of (vjn x v) env
      | none => .no) :=
  ⟨fun pins s σ H Q I ⟨F, env, fp, sr, h1⟩ => (pe_join ho h hs hbase hline).run pins s σ H Q I ⟨⟨_, rfl⟩, F, env, fp, sr, AX.bd h1 fun y env1 F1 H1 u fp1 q1 e1 st1 sr1 ro1 nd1 dj1 h1 => by
    cases z : rd env1 y with
    | none => simp only [z] at h1; exact h1.elim
    | some v =>
      simp only [z] at h1
      have vw := RoD.vw ro1 sr1 z
      unfold vjn at h1
      cases z1 : items v with
      | none => simp only [z1, R.of] at h1; exact h1.elim
      | some xs =>
        simp only [z1] at h1
        cases z2 : asStrs xs with
        | none => simp only [z2, R.of] at h1; exact h1.elim
        | some ys =>
          simp only [z2] at h1
          by_cases hz : joinOk x ys
          · rw [if_pos hz] at h1
            have h2 := (AX.endO sr1 h1).str sr1.sF
            cases v with
            | tup vs =>
              cases z1
              obtain ⟨p, us, rfl, k1, k2⟩ := vw.tup sr1.sF
              obtain ⟨rfl, rfl⟩ := k2.strs z2
              exact ⟨x, p, ys, rfl, rfl, .inr k1, hz, h2⟩
            | lst vs =>
              cases z1
              obtain ⟨p, us, rfl, k1, k2⟩ := vw.lst
              obtain ⟨rfl, rfl⟩ := k2.strs z2
              exact ⟨x, p, ys, rfl, rfl, .inl (.inl k1), hz, h2⟩
            | scr vs =>
              cases z1
              obtain ⟨p, us, rfl, k1, k2⟩ := vw.scr
              obtain ⟨rfl, rfl⟩ := k2.strs z2
              exact ⟨x, p, ys, rfl, rfl, .inl k1, hz, h2⟩
            | _ => cases z1
          · rw [if_neg hz] at h1; exact h1.elim⟩⟩
/-! ### and, or -/
theorem deb_one {op : BoolOp} (h : DE X C W e f) : DE X C W (.BoolOp op [e] pos) (fun env => (pv f env).bd fun v env => match v with
    | .bl b => .ok (.p (.bl b)) env
    | _ => .no) :=
  ⟨fun pins s σ H Q I ⟨F, env, fp, sr, h1⟩ => (pe_one (dp_of_de h)).run pins s σ H Q I ⟨F, env, fp, sr, AX.bd h1 fun v env1 F1 H1 u fp1 q1 e1 st1 sr1 ro1 nd1 dj1 h1 => by
    obtain ⟨rfl, r⟩ := ro1
    cases v with
    | bl c => unfold Rp at r; subst r; exact (AX.endO sr1 h1).bl sr1.sF
    | _ => exact h1.elim⟩⟩
theorem deb_cons {isAnd : Bool} {fs : Env → R OV} (h : DE X C W e f) (hr : DE X C W (.BoolOp (if isAnd then .And else .Or) (b :: es) pos) fs) : DE X C W (.BoolOp (if isAnd then .And else .Or) (e :: b :: es) pos) (fun env => (pv f env).bd fun v env => match v with
    | .bl c => if c = isAnd then fs env else .ok (.p (.bl c)) env
    | _ => .no) :=
  ⟨fun pins s σ H Q I ⟨F, env, fp, sr, h1⟩ => by
    cases isAnd with
    | true =>
      refine (pe_and (dp_of_de h) hr).run pins s σ H Q I ⟨F, env, fp, sr, AX.bd h1 fun v env1 F1 H1 u fp1 q1 e1 st1 sr1 ro1 nd1 dj1 h1 => ?_⟩
      obtain ⟨rfl, r⟩ := ro1
      cases v with
      | bl c =>
        unfold Rp at r
        refine ⟨c, r, ?_⟩
        cases c with
        | true => exact ⟨F1, env1, fp1, sr1, h1⟩
        | false => exact (AX.endO sr1 h1).bl sr1.sF
      | _ => exact h1.elim
    | false =>
      refine (pe_or (dp_of_de h) hr).run pins s σ H Q I ⟨F, env, fp, sr, AX.bd h1 fun v env1 F1 H1 u fp1 q1 e1 st1 sr1 ro1 nd1 dj1 h1 => ?_⟩
      obtain ⟨rfl, r⟩ := ro1
      cases v with
      | bl c =>
        unfold Rp at r
        refine ⟨c, r, ?_⟩
        cases c with
        | true => exact (AX.endO sr1 h1).bl sr1.sF
        | false => exact ⟨F1, env1, fp1, sr1, h1⟩
      | _ => exact h1.elim⟩
abbrev DW (X : Cx) (C : Nat → Addr) (W : WX) (e : Expr) (f : Env → R Bool) : Prop := PW X e (TX X.K C W rB f)
theorem dwb_one {isAnd : Bool} {g : Env → R Bool} (h : DT X C W e g) : DW X C W (.BoolOp (if isAnd then .And else .Or) [e] pos) g := by
  cases isAnd with
  | true => exact pw_and1 h
  | false => exact pw_or1 h
theorem dwb_cons {isAnd : Bool} {g gs : Env → R Bool} (h : DT X C W e g) (hr : DW X C W (.BoolOp (if isAnd then .And else .Or) (b :: es) pos) gs) : DW X C W (.BoolOp (if isAnd then .And else .Or) (e :: b :: es) pos) (fun env => (g env).bd fun c env => if c = isAnd then gs env else .ok c env) :=
  ⟨fun wh pins s σ H Q I ⟨F, env, fp, sr, h1⟩ => by
    cases isAnd with
    | true =>
      refine (pw_and h hr).run wh pins s σ H Q I ⟨F, env, fp, sr, AX.bd h1 fun v env1 F1 H1 u fp1 q1 e1 st1 sr1 ro1 nd1 dj1 h1 => ?_⟩
      obtain ⟨rfl, rfl⟩ := ro1
      cases v with
      | true => exact ⟨F1, env1, fp1, sr1, h1⟩
      | false => exact AX.al sr1 h1.base (Al.refl F1 H1) sr1.sF .nil ⟨rfl, rfl⟩
    | false =>
      refine (pw_or h hr).run wh pins s σ H Q I ⟨F, env, fp, sr, AX.bd h1 fun v env1 F1 H1 u fp1 q1 e1 st1 sr1 ro1 nd1 dj1 h1 => ?_⟩
      obtain ⟨rfl, rfl⟩ := ro1
      cases v with
      | false => exact ⟨F1, env1, fp1, sr1, h1⟩
      | true => exact AX.al sr1 h1.base (Al.refl F1 H1) sr1.sF .nil ⟨rfl, rfl⟩⟩
end
end EN

/-! EnH: calls of the text's own defs. -/
namespace EN
open PySem L2 PyProof.Rows
section
variable {K : PySem.W.Frag}
/-- an argument over the heap -/
def RoA (F H : Hp) (σ : Sg) : Arg → V → List Addr → Prop
  | .v r, u, q => Ro K F H r u q
  | .mv i, u, q => q = [] ∧ σ[i]? = some (some u)
def RoAs (F H : Hp) (σ : Sg) : List Arg → List V → List Addr → Prop
  | [], us, q => us = [] ∧ q = []
  | o :: os, us, q => ∃ u ws q1 q2, us = u :: ws ∧ q = q1 ++ q2 ∧ RoA (K := K) F H σ o u q1 ∧ RoAs F H σ os ws q2
end
def rA (K : PySem.W.Frag) : Rel Arg V := fun F H _ σ o u q => RoA (K := K) F H σ o u q
def rAs (K : PySem.W.Frag) : Rel (List Arg) (List V) := fun F H _ σ o u q => RoAs (K := K) F H σ o u q
/-- what a def promises: what its reading comes to -/
def spF (K : PySem.W.Frag) (C : Nat → Addr) (cl : Nat → List OV → CR) (f np : Nat) : Sp := fun vs H Q E => vs.length = np ∧ ∃ F os fp, SR K F H (os.map some) (vs.map some) fp ∧
  match cl f os with
  | .ok r rs => ∀ F' H' u fp' q, Step F H (Ow fp []) F' H' (Ow fp' q) → SR K F' H' rs (vs.map some) fp' → Ro K F' H' r u q → q.Nodup → (∀ a ∈ q, ∀ i, a ∉ fp' i) → Q u H'
  | .exc x rs => ∀ F' H' fp' cls d, Step F H (Ow fp []) F' H' (Ow fp' []) → SR K F' H' rs (vs.map some) fp' → XR C x cls d F' → E cls d H'
  | .no => False
section
variable {K : PySem.W.Frag} {F H : Hp} {env : Env} {σ : Sg} {fp : Nat → List Addr}
theorem RoA.at_ {o : Arg} {x : V} {q : List Addr} (r : RoA (K := K) F H σ o x q) : ∀ a ∈ q, F a = none ∧ ∃ o, H a = some o := by
  cases o with
  | v w => exact Ro.at_ r
  | mv i => obtain ⟨rfl, _⟩ := r; exact fun _ z => (nomatch z)
theorem RoA.along {F2 H2 : Hp} {A2 : Addr → Prop} {o : Arg} {x : V} {q : List Addr} (r : RoA (K := K) F H σ o x q) (st : Step F H (Ow fp []) F2 H2 A2) (dj : ∀ a ∈ q, ∀ i, a ∉ fp i) : RoA (K := K) F2 H2 σ o x q := by
  cases o with
  | v w => exact Ro.along r st dj
  | mv i => exact r
/-- slots lent by an argument list -/
def lent : List Arg → List OV → List Nat
  | .mv i :: as, o :: os => if isP o then lent as os else i :: lent as os
  | .v _ :: as, _ :: os => lent as os
  | _, _ => []
/-- every slot but some -/
def offS (env : Env) : List Nat → Env
  | [] => env
  | i :: is => offS (ss env i none) is
theorem gs_map : ∀ {os : List OV} {i : Nat}, gs (os.map some) i = os[i]?
  | [], i => by simp [gs]
  | o :: os, 0 => by simp [gs]
  | o :: os, i + 1 => by simp [gs, gs_map]
/-- the frame of a call: the arguments with their own objects -/
theorem SR.cons {o : OV} {u : V} {q : List Addr} {os : List OV} {us : List V} (r : Ro K F H o u q) (nd : q.Nodup) (s : SR K F H (os.map some) (us.map some) fp) (dj : ∀ a ∈ q, ∀ i, a ∉ fp i) :
    SR K F H ((o :: os).map some) ((u :: us).map some) (fun i => match i with | 0 => q | i + 1 => fp i) where
  sF := s.sF
  len := by have := s.len; simpa using this
  rel := fun i ov e => by
    cases i with
    | zero =>
      have : o = ov := by simpa [gs] using e
      subst this
      exact ⟨u, by simp, r⟩
    | succ i =>
      obtain ⟨w, h1, h2⟩ := s.rel i ov (by simpa [gs] using e)
      exact ⟨w, by simpa using h1, h2⟩
  nil := fun i e => by
    cases i with
    | zero => simp [gs] at e
    | succ i => exact s.nil i (by simpa [gs] using e)
  nd := fun i => by
    cases i with
    | zero => exact nd
    | succ i => exact s.nd i
  dj := fun i j h a ha hb => by
    cases i with
    | zero =>
      cases j with
      | zero => exact h rfl
      | succ j => exact dj a ha j hb
    | succ i =>
      cases j with
      | zero => exact dj a hb i ha
      | succ j => exact s.dj i j (by omega) a ha hb
theorem SR.nil0 (s : SR K F H env σ fp) : SR K F H (([] : List OV).map some) (([] : List V).map some) (fun _ => []) where
  sF := s.sF
  len := rfl
  rel := fun i ov e => by simp [gs] at e
  nil := fun _ _ => rfl
  nd := fun _ => .nil
  dj := fun _ _ _ _ h => by cases h
/-- a slot gives its object away -/
theorem SR.off (s : SR K F H env σ fp) {i : Nat} {ov : OV} (e : gs env i = some ov) : SR K F H (ss env i none) σ (fun j => if j = i then [] else fp j) :=
  s.put (Same.refl F) s.sF (fun j _ a ha => ⟨(s.at_ ha).1, fun _ e => e⟩) (fun _ => rfl) (fun _ z => nomatch z) .nil (fun _ z => (nomatch z)) (gs_lt e)
/-- what a call takes along -/
theorem take_ok : ∀ {as : List Arg} {us : List V} {q : List Addr} {env : Env} {fp : Nat → List Addr} {os : List OV} {env' : Env}, RoAs (K := K) F H σ as us q → take as env = some (os, env') → SR K F H env σ fp → q.Nodup → (∀ a ∈ q, ∀ i, a ∉ fp i) →
    ∃ fpA fp', SR K F H (os.map some) (us.map some) fpA ∧ SR K F H env' σ fp' ∧ (∀ i a, a ∈ fp' i → a ∈ fp i) ∧ (∀ j a, a ∈ fpA j → (a ∈ q ∨ ∃ i, a ∈ fp i) ∧ ∀ i, a ∉ fp' i) ∧
      (∀ i ∈ lent as os, gs env' i = none ∧ i < env.length) ∧ (lent as os).Nodup ∧ (∀ i, gs env i = none → gs env' i = none) ∧ (∀ i ∈ lent as os, gs env i ≠ none)
  | [], us, q, env, fp, os, env', r, e, s, nd, dj => by
    unfold take at e; cases e
    obtain ⟨rfl, rfl⟩ := r
    exact ⟨fun _ => [], fp, s.nil0, s, fun _ _ z => z, fun _ _ z => (nomatch z), fun _ z => (nomatch z), .nil, fun _ z => z, fun _ z => (nomatch z)⟩
  | .v o :: as, us, q, env, fp, os, env', r, e, s, nd, dj => by
    unfold take at e
    obtain ⟨u, ws, q1, q2, rfl, rfl, r1, r2⟩ := r
    cases t : take as env with
    | none => rw [t] at e; cases e
    | some p =>
      obtain ⟨os', env1⟩ := p
      rw [t] at e; cases e
      have nd' := List.nodup_append.mp nd
      obtain ⟨fpA, fp', s1, s2, sub, fa, ln, lnd, nn, lx⟩ := take_ok r2 t s nd'.2.1 fun a z => dj a (List.mem_append_right _ z)
      refine ⟨_, fp', SR.cons r1 nd'.1 s1 (fun a ha j hj => ?_), s2, sub, fun j a ha => ?_, ln, lnd, nn, lx⟩
      · rcases (fa j a hj).1 with w | ⟨i, w⟩
        · exact nd'.2.2 a ha a w rfl
        · exact dj a (List.mem_append_left _ ha) i w
      · cases j with
        | zero => exact ⟨.inl (List.mem_append_left _ ha), fun i w => dj a (List.mem_append_left _ ha) i (sub i a w)⟩
        | succ j => exact ⟨(fa j a ha).1.imp (List.mem_append_right _) id, (fa j a ha).2⟩
  | .mv i :: as, us, q, env, fp, os, env', r, e, s, nd, dj => by
    unfold take at e
    obtain ⟨u, ws, q1, q2, rfl, rfl, ⟨rfl, e0⟩, r2⟩ := r
    cases z : gs env i with
    | none => simp only [z] at e; cases e
    | some ov =>
      obtain ⟨u', e1, ro⟩ := s.rel i ov z
      rw [e0] at e1
      have : u = u' := by injection e1 with e1; injection e1
      subst this
      by_cases hp : isP ov = true
      · cases ov with
        | p v =>
          simp only [z] at e
          cases t : take as env with
          | none => rw [t] at e; cases e
          | some p =>
            obtain ⟨os', env1⟩ := p
            rw [t] at e; cases e
            obtain ⟨fpA, fp', s1, s2, sub, fa, ln, lnd, nn, lx⟩ := take_ok r2 t s nd dj
            have ro' : Ro K F H (.p v) u [] := by
              unfold Ro at ro ⊢; exact ⟨rfl, ro.2⟩
            refine ⟨_, fp', SR.cons ro' .nil s1 (fun _ z => (nomatch z)), s2, sub, fun j a ha => ?_, ln, lnd, nn, lx⟩
            cases j with
            | zero => cases ha
            | succ j => exact fa j a ha
        | _ => cases hp
      · have e' : (match take as (ss env i none) with
          | some (os, env') => some (ov :: os, env')
          | none => none) = some (os, env') := by
          cases ov with
          | p v => exact (hp rfl).elim
          | _ => simp only [z] at e; exact e
        cases t : take as (ss env i none) with
        | none => rw [t] at e'; cases e'
        | some p =>
          obtain ⟨os', env1⟩ := p
          rw [t] at e'; cases e'
          have s0 := s.off z
          obtain ⟨fpA, fp', s1, s2, sub, fa, ln, lnd, nn, lx⟩ := take_ok r2 t s0 nd (fun a ha j hj => by
            by_cases w : j = i
            · subst w; simp at hj
            · rw [if_neg w] at hj; exact dj a ha j hj)
          have sub' : ∀ j a, a ∈ fp' j → a ∈ fp j ∧ a ∉ fp i := fun j a ha => by
            have := sub j a ha
            by_cases w : j = i
            · subst w; simp at this
            · rw [if_neg w] at this; exact ⟨this, s.dj j i w a this⟩
          have li : gs (ss env i none) i = none := gs_ss_self (gs_lt z)
          have lt : lent (.mv i :: as) (ov :: os') = i :: lent as os' := by
            show (if isP ov = true then _ else _) = _
            rw [if_neg hp]
          refine ⟨_, fp', SR.cons ro (s.nd i) s1 (fun a ha j hj => ?_), s2, fun j a ha => (sub' j a ha).1, fun j a ha => ?_, ?_, ?_, fun j hj => ?_, ?_⟩
          · rcases (fa j a hj).1 with w | ⟨k, w⟩
            · exact dj a w i ha
            · by_cases y : k = i
              · subst y; simp at w
              · rw [if_neg y] at w; exact s.dj k i y a w ha
          · cases j with
            | zero => exact ⟨.inr ⟨i, ha⟩, fun j w => (sub' j a w).2 ha⟩
            | succ j =>
              refine ⟨(fa j a ha).1.imp id fun ⟨k, w⟩ => ?_, (fa j a ha).2⟩
              by_cases y : k = i
              · subst y; simp at w
              · rw [if_neg y] at w; exact ⟨k, w⟩
          · intro j hj
            rw [lt] at hj
            rcases List.mem_cons.mp hj with rfl | hj
            · exact ⟨nn _ li, gs_lt z⟩
            · have := ln j hj
              rw [ss_len] at this; exact this
          · rw [lt]
            refine List.nodup_cons.mpr ⟨fun w => lx i w li, lnd⟩
          · refine nn j ?_
            by_cases y : j = i
            · subst y; exact li
            · rw [gs_ss_ne y]; exact hj
          · intro j hj
            rw [lt] at hj
            rcases List.mem_cons.mp hj with rfl | hj
            · rw [z]; exact fun w => nomatch w
            · have := lx j hj
              intro w
              refine this ?_
              by_cases y : j = i
              · subst y; exact li
              · rw [gs_ss_ne y]; exact w
/-- what was lent comes back -/
theorem back_ok {F' H' : Hp} : ∀ {as : List Arg} {us : List V} {q : List Addr} {os : List OV} {rs : Env} {envZ : Env} {fpZ fpB : Nat → List Addr}, RoAs (K := K) F H σ as us q → SR K F' H' envZ σ fpZ → SR K F' H' rs (us.map some) fpB →
    (∀ i ∈ lent as os, gs envZ i = none ∧ i < envZ.length) → (lent as os).Nodup → (∀ j a, a ∈ fpB j → ∀ i, a ∉ fpZ i) → ∃ fpY, SR K F' H' (back as os rs envZ) σ fpY ∧ ∀ a, Ow fpY [] a → Ow fpZ [] a ∨ Ow fpB [] a
  | [], us, q, os, rs, envZ, fpZ, fpB, r, sZ, sB, ln, lnd, dj => ⟨fpZ, by unfold back; exact sZ, fun a z => .inl z⟩
  | a :: as, us, q, [], rs, envZ, fpZ, fpB, r, sZ, sB, ln, lnd, dj => ⟨fpZ, by cases a <;> (unfold back; exact sZ), fun a z => .inl z⟩
  | a :: as, us, q, o :: os, [], envZ, fpZ, fpB, r, sZ, sB, ln, lnd, dj => ⟨fpZ, by cases a <;> (unfold back; exact sZ), fun a z => .inl z⟩
  | a :: as, us, q, o :: os, r0 :: rs, envZ, fpZ, fpB, r, sZ, sB, ln, lnd, dj => by
    obtain ⟨u, ws, q1, q2, rfl, rfl, r1, r2⟩ := r
    have tl : SR K F' H' rs (ws.map some) (fun j => fpB (j + 1)) := by
      refine ⟨sB.sF, by have := sB.len; simpa using this, fun i ov e => ?_, fun i e => sB.nil (i + 1) e, fun i => sB.nd (i + 1), fun i j h a => sB.dj (i + 1) (j + 1) (by omega) a⟩
      obtain ⟨w, h1, h2⟩ := sB.rel (i + 1) ov e
      exact ⟨w, by simpa using h1, h2⟩
    have up : ∀ a, Ow (fun j => fpB (j + 1)) [] a → Ow fpB [] a := fun a z => z.imp id fun ⟨i, w⟩ => ⟨i + 1, w⟩
    cases a with
    | v w =>
      obtain ⟨fpY, h1, h2⟩ := back_ok (os := os) r2 sZ tl (by simpa [lent] using ln) (by simpa [lent] using lnd) fun j a ha => dj (j + 1) a ha
      exact ⟨fpY, by unfold back; exact h1, fun a z => (h2 a z).imp id (up a)⟩
    | mv i =>
      by_cases hp : isP o = true
      · have lt : lent (.mv i :: as) (o :: os) = lent as os := by
          show (if isP o = true then _ else _) = _
          rw [if_pos hp]
        rw [lt] at ln lnd
        obtain ⟨fpY, h1, h2⟩ := back_ok (os := os) r2 sZ tl ln lnd fun j a ha => dj (j + 1) a ha
        refine ⟨fpY, ?_, fun a z => (h2 a z).imp id (up a)⟩
        unfold back
        rw [if_pos hp]
        exact h1
      · have lt : lent (.mv i :: as) (o :: os) = i :: lent as os := by
          show (if isP o = true then _ else _) = _
          rw [if_neg hp]
        rw [lt] at ln lnd
        have li := ln i List.mem_cons_self
        obtain ⟨ni, lnd'⟩ := List.nodup_cons.mp lnd
        have sP : SR K F' H' (ss envZ i r0) σ (fun j => if j = i then fpB 0 else fpZ j) := by
          refine sZ.put (Same.refl F') sZ.sF (fun j hj a ha => ⟨(sZ.at_ ha).1, fun _ e => e⟩) (fun e => sB.nil 0 (by rw [e]; rfl)) (fun ov e _ => ?_) (sB.nd 0) (fun a ha j hj => dj 0 a ha j) li.2
          obtain ⟨w, h1, h2⟩ := sB.rel 0 ov (by rw [e]; rfl)
          have : w = u := by simpa using h1.symm
          subst this
          exact ⟨w, r1.2, h2⟩
        obtain ⟨fpY, h1, h2⟩ := back_ok (os := os) r2 sP tl (fun j hj => by
            have := ln j (List.mem_cons_of_mem _ hj)
            have nj : j ≠ i := fun z => by subst z; exact ni hj
            rw [gs_ss_ne nj, ss_len]; exact this) lnd' (fun j a ha k hk => by
            by_cases y : k = i
            · rw [if_pos y] at hk; exact sB.dj (j + 1) 0 (by omega) a ha hk
            · rw [if_neg y] at hk; exact dj (j + 1) a ha k hk)
        refine ⟨fpY, ?_, fun a z => ?_⟩
        · unfold back
          rw [if_neg hp]
          exact h1
        · rcases h2 a z with w | w
          · rcases w with w | ⟨j, w⟩
            · cases w
            · by_cases y : j = i
              · simp only [if_pos y] at w; exact .inr (.inr ⟨0, w⟩)
              · simp only [if_neg y] at w; exact .inl (.inr ⟨j, w⟩)
          · exact .inr (up a w)
/-- what is apart from the change stands -/
theorem SR.along {F' H' : Hp} {A A' : Addr → Prop} (s : SR K F H env σ fp) (st : Step F H A F' H' A') (ap : ∀ i a, a ∈ fp i → ¬ A a) (s' : Same F' H') : SR K F' H' env σ fp where
  sF := s'
  len := s.len
  rel := fun i ov e => by
    obtain ⟨u, h1, h2⟩ := s.rel i ov e
    refine ⟨u, h1, Ro.step st.sF h2 fun a z => ?_⟩
    obtain ⟨n, o, eo⟩ := Ro.at_ h2 a z
    refine ⟨?_, fun o e => st.keep a o (ap i a z) e⟩
    cases w : F' a with
    | none => rfl
    | some o2 =>
      rcases st.frz a o2 w n with w | w
      · exact (ap i a z w).elim
      · rw [eo] at w; cases w
  nil := s.nil
  nd := s.nd
  dj := s.dj
theorem RoAs.len : ∀ {as : List Arg} {us : List V} {q : List Addr}, RoAs (K := K) F H σ as us q → us.length = as.length
  | [], us, q, r => by obtain ⟨rfl, _⟩ := r; rfl
  | a :: as, us, q, r => by
    obtain ⟨u, ws, q1, q2, rfl, rfl, r1, r2⟩ := r
    simp [RoAs.len r2]
end
section
variable {X : Cx} {C : Nat → Addr} {W : WX} {e a b : Expr} {es : List Expr} {f : Env → R OV} {pos p1 : Pos}
theorem da_P (h : DE X C W e f) : PE X e (TX X.K C W (rA X.K) (fun env => (pv f env).bd fun v env => .ok (.v (.p v)) env)) :=
  ⟨fun pins s σ H Q I ⟨F, env, fp, sr, h1⟩ => (dp_of_de h).run pins s σ H Q I ⟨F, env, fp, sr, AX.bd h1 fun v env1 F1 H1 u fp1 q1 e1 st1 sr1 ro1 nd1 dj1 h1 => by
    obtain ⟨rfl, r⟩ := ro1
    exact AX.al sr1 h1 (Al.refl F1 H1) sr1.sF .nil (by unfold rA RoA Ro; exact ⟨rfl, r⟩)⟩⟩
theorem da_O (h : DE X C W e f) : PE X e (TX X.K C W (rA X.K) (fun env => (f env).bd fun r env => .ok (.v r) env)) :=
  ⟨fun pins s σ H Q I ⟨F, env, fp, sr, h1⟩ => h.run pins s σ H Q I ⟨F, env, fp, sr, AX.bd h1 fun v env1 F1 H1 u fp1 q1 e1 st1 sr1 ro1 nd1 dj1 h1 =>
    h1 F1 H1 u fp1 q1 (Step.refl fun a z => z) sr1 ro1 nd1 dj1⟩⟩
theorem da_M {i : Nat} (h : PE X e (tVar i)) : PE X e (TX X.K C W (rA X.K) (fun env => match gs env i with
    | some _ => .ok (.mv i) env
    | none => .no)) :=
  ⟨fun pins s σ H Q I ⟨F, env, fp, sr, h1⟩ => h.run pins s σ H Q I (by
    cases z : gs env i with
    | none => simp only [z] at h1; exact h1.elim
    | some ov =>
      simp only [z] at h1
      obtain ⟨u, e1, r⟩ := sr.rel i _ z
      exact ⟨u, e1, AX.al sr h1 (Al.refl F H) sr.sF .nil ⟨rfl, e1⟩⟩)⟩
abbrev DAs (X : Cx) (C : Nat → Addr) (W : WX) (es : List Expr) (f : Env → R (List Arg)) : Prop := PA X es (TX X.K C W (rAs X.K) f)
theorem das_nil : DAs X C W [] (fun env => .ok [] env) :=
  ⟨fun ps pins s σ H Q I ⟨F, env, fp, sr, h1⟩ => pa_nil.run ps pins s σ H Q I (AX.al sr h1 (Al.refl F H) sr.sF .nil ⟨rfl, rfl⟩)⟩
theorem das_cons {g : Env → R Arg} {gs : Env → R (List Arg)} (h : PE X e (TX X.K C W (rA X.K) g)) (hs : DAs X C W es gs) (he : starEach (e :: es) X.env = (false, eval e X.env) :: starEach es X.env) :
    DAs X C W (e :: es) (fun env => (g env).bd fun v env => (gs env).bd fun vs env => .ok (v :: vs) env) :=
  ⟨fun ps pins s σ H Q I ⟨F, env, fp, sr, h1⟩ => (pa_cons h hs he).run ps pins s σ H Q I
    ⟨F, env, fp, sr, AX.bd h1 fun v env1 F1 H1 u fp1 q1 e1 st1 sr1 ro1 nd1 dj1 h1 => ⟨F1, env1, fp1, sr1, AX.bdF ow0 h1 fun vs env2 F2 H2 us fp2 q2 e2 st2 sr2 ro2 nd2 dj2 h2 => by
      have ap := Step.apart st2 (fun a z => (RoA.at_ ro1 a z).2) dj1
      refine h2 _ st2.plus F2 H2 (u :: us) fp2 (q1 ++ q2) (Step.refl fun a z => z) sr2 ⟨u, us, q1, q2, rfl, rfl, RoA.along ro1 st2 dj1, ro2⟩ ?_ ?_
      · exact List.nodup_append.mpr ⟨nd1, nd2, fun x hx y hy e => ap x hx (.inl (e ▸ hy))⟩
      · intro a z i w
        rcases List.mem_append.mp z with z | z
        · exact ap a z (.inr ⟨i, w⟩)
        · exact dj2 a z i w⟩⟩⟩
theorem pe_call0SD {CX : CXT} {k : Nat} {f : Addr} {fd : FuncData} {ps : List Str} {sp : Sp} {dvs : List V} {ds : List Value} {E : L2.St → XK} {x : Str} {p : Pos} (F : FnOk X.prog X.w X.K X.mg X.base CX k f fd ps sp) (hr : Room k X.A) (hg : Gl X x) (hm : X.mg x = some (.ref f))
    (hk : PySem.W.keepIn X.K (.ref f) = true) (hb : Binds X.K fd ps ds) (hd : Vals dvs ds) (hx : ∀ σ, PassesAt CX X σ (E σ)) (hdb : (x == ("__debug__" : Str)) = false) : PE X (.Call (.Name x p) [] [] pos) (tCallSD sp dvs E tNil) := by
  refine ⟨fun pins s σ H Q I h => ?_⟩
  refine wpAny_Call_Name_kw (ld_glob I hg hm ?_ hdb)
  exact PySem.W.callWith_K0 I.kIn hk (run_fnSD (us := []) F hr hb hd (hx σ) I .nil h)
/-- f(..) -/
theorem call_read {as : List Arg} {us : List V} {q : List Addr} {cl : Nat → List OV → CR} {f np : Nat} {F1 H1 : Hp} {env1 : Env} {fp1 : Nat → List Addr} {σ : Sg} {Q : VK} (sr1 : SR X.K F1 H1 env1 σ fp1) (ro : RoAs (K := X.K) F1 H1 σ as us q) (nd : q.Nodup)
    (dj : ∀ a ∈ q, ∀ i, a ∉ fp1 i) (hn : as.length = np) (h : AX X.K C W (rO X.K) σ F1 H1 (Ow fp1 q) (match take as env1 with
      | none => .no
      | some (os, env2) => match cl f os with
        | .ok r rs => .ok r (back as os rs env2)
        | .exc x rs => .exc x (back as os rs env2)
        | .no => .no) Q) : spF X.K C cl f np us H1 Q (fun cls d H' => W cls d σ H') := by
  cases t : take as env1 with
  | none => rw [t] at h; exact h.elim
  | some p =>
    obtain ⟨os, env2⟩ := p
    rw [t] at h
    simp only at h
    obtain ⟨fpA, fp', s1, s2, sub, fa, ln, lnd, nn, lx⟩ := take_ok ro t sr1 nd dj
    refine ⟨by rw [ro.len, hn], F1, os, fpA, s1, ?_⟩
    have grow : ∀ a, Ow fpA [] a → Ow fp1 q a := fun a z => by
      rcases z with z | ⟨j, z⟩
      · cases z
      · exact (fa j a z).1
    have nA : ∀ i a, a ∈ fp' i → ¬ Ow fpA [] a := fun i a z w => by
      rcases w with w | ⟨j, w⟩
      · cases w
      · exact (fa j a w).2 i z
    have elen : ∀ i ∈ lent as os, i < env2.length := fun i hi => by
      have h1 := (ln i hi).2
      rw [s2.len, ← sr1.len]; exact h1
    have fin : ∀ {F' H' : Hp} {rs : Env} {fpB : Nat → List Addr} {q' : List Addr}, Step F1 H1 (Ow fpA []) F' H' (Ow fpB q') → SR X.K F' H' rs (us.map some) fpB → (∀ a ∈ q', ∀ i, a ∉ fpB i) →
        ∃ fpY, SR X.K F' H' (back as os rs env2) σ fpY ∧ Step F1 H1 (Ow fp1 q) F' H' (Ow fpY q') ∧ ∀ a ∈ q', ∀ i, a ∉ fpY i := fun {F' H' rs fpB q'} st sB dq => by
      have sZ := s2.along st nA sB.sF
      have low : ∀ a, Ow fpB q' a → ∀ i, a ∉ fp' i := fun a z i w => by
        rcases st.own a z with y | y
        · exact nA i a w y
        · obtain ⟨_, o, eo⟩ := s2.at_ w
          rw [y] at eo; cases eo
      obtain ⟨fpY, sY, oY⟩ := back_ok ro sZ sB (fun i hi => ⟨(ln i hi).1, elen i hi⟩) lnd (fun j a ha => low a (.inr ⟨j, ha⟩))
      refine ⟨fpY, sY, ⟨st.sF, fun a o n e => st.keep a o (fun z => n (grow a z)) e, fun a z => ?_, fun a o e n => (st.frz a o e n).imp (grow a) id⟩, fun a z i w => ?_⟩
      · rcases z with z | z
        · exact (st.own a (.inl z)).imp (grow a) id
        · rcases oY a (.inr z) with w | w
          · rcases w with w | ⟨i, w⟩
            · cases w
            · exact .inl (.inr ⟨i, sub i a w⟩)
          · exact (st.own a (ow0 a w)).imp (grow a) id
      · rcases oY a (.inr ⟨i, w⟩) with y | y
        · rcases y with y | ⟨j, y⟩
          · cases y
          · exact low a (.inl z) j y
        · rcases y with y | ⟨j, y⟩
          · cases y
          · exact dq a z j y
    cases c : cl f os with
    | no => rw [c] at h; exact h
    | ok r rs =>
      rw [c] at h
      intro F' H' u fpB q' st sB ro' nd' dq
      obtain ⟨fpY, sY, stY, dY⟩ := fin st sB dq
      exact h F' H' u fpY q' stY sY ro' nd' dY
    | exc x rs =>
      rw [c] at h
      intro F' H' fpB cls d st sB xr
      obtain ⟨fpY, sY, stY, dY⟩ := fin st sB (fun _ z => (nomatch z))
      exact h F' H' fpY cls d stY sY xr
theorem passAt0 (tk : Takes X W) (σ : L2.St) : PassesAt (L2.CX X.prog X.w) X σ (fun cls d H' => W cls d σ H') := fun _ _ _ e s' I c => tk e s' (XE.of_call I (fun _ _ _ h => h) c)
theorem de_call {ga : Env → R (List Arg)} {cl : Nat → List OV → CR} {k f np : Nat} {fa : Addr} {fd : FuncData} {ps : List Str} {x : Str} {p : Pos} (tk : Takes X W) (Fn : FnOk X.prog X.w X.K X.mg X.base (L2.CX X.prog X.w) k fa fd ps (spF X.K C cl f np)) (hr : Room k X.A) (hg : Gl X x)
    (hm : X.mg x = some (.ref fa)) (hk : PySem.W.keepIn X.K (.ref fa) = true) (hb : Binds X.K fd ps []) (hd : (x == ("__debug__" : Str)) = false) (h : DAs X C W (e :: es) ga) (hn : ∀ env as env', ga env = .ok as env' → as.length = np)
    (he : starEach (e :: es) X.env = (false, eval e X.env) :: starEach es X.env) (hpl : (backTo pos (starEach es X.env)).any (·.1) = false) : DE X C W (.Call (.Name x p) (e :: es) [] pos) (fun env => (ga env).bd fun as env => match take as env with
      | none => .no
      | some (os, env2) => match cl f os with
        | .ok r rs => .ok r (back as os rs env2)
        | .exc x rs => .exc x (back as os rs env2)
        | .no => .no) :=
  ⟨fun pins s σ H Q I ⟨F, env, fp, sr, h1⟩ => (pe_callSD (dvs := []) (ds := []) (E := fun σ cls d H' => W cls d σ H') Fn hr hg hm hk hb .nil (passAt0 tk) h hd he hpl).run pins s σ H Q I
    ⟨F, env, fp, sr, AX.bd h1 fun as env1 F1 H1 us fp1 q1 e1 st1 sr1 ro1 nd1 dj1 h1 => by
      show spF X.K C cl f np (us ++ []) H1 Q _
      rw [List.append_nil]
      exact call_read sr1 ro1 nd1 dj1 (hn _ _ _ e1) h1⟩⟩
theorem de_call0 {cl : Nat → List OV → CR} {k f : Nat} {fa : Addr} {fd : FuncData} {ps : List Str} {x : Str} {p : Pos} (tk : Takes X W) (Fn : FnOk X.prog X.w X.K X.mg X.base (L2.CX X.prog X.w) k fa fd ps (spF X.K C cl f 0)) (hr : Room k X.A) (hg : Gl X x)
    (hm : X.mg x = some (.ref fa)) (hk : PySem.W.keepIn X.K (.ref fa) = true) (hb : Binds X.K fd ps []) (hd : (x == ("__debug__" : Str)) = false) : DE X C W (.Call (.Name x p) [] [] pos) (fun env => (R.ok ([] : List Arg) env).bd fun as env => match take as env with
      | none => .no
      | some (os, env2) => match cl f os with
        | .ok r rs => .ok r (back as os rs env2)
        | .exc x rs => .exc x (back as os rs env2)
        | .no => .no) :=
  ⟨fun pins s σ H Q I ⟨F, env, fp, sr, h1⟩ => (pe_call0SD (dvs := []) (ds := []) (E := fun σ cls d H' => W cls d σ H') Fn hr hg hm hk hb .nil (passAt0 tk) hd).run pins s σ H Q I
    (call_read (as := []) (us := []) (q := []) sr ⟨rfl, rfl⟩ .nil fpn rfl h1)⟩
end
end EN

/-! EnI: what is walked, targets, statements. -/
namespace EN
open PySem L2 PyProof.Rows
/-- an iterator that yields these, the heap growing at most -/
def Walk (K : PySem.W.Frag) (F : Hp) (xs : List Val) (J : L2.It) : Prop := ∀ F2 H2 i, Same F F2 → Same F2 H2 →
  (i < xs.length → J.go i H2 ∧ ∀ x H', J.yld i H2 x H' → ∃ F' v, Al F2 H2 F' H' [] ∧ Same F' H' ∧ xs[i]? = some v ∧ Rp K F' v x) ∧ (i = xs.length → J.stop i H2)
def TXI (K : PySem.W.Frag) (C : Nat → Addr) (W : WX) (g : Env → R (List Val)) : TI := fun σ H R => ∃ F env fp, SR K F H env σ fp ∧ match g env with
  | .ok xs env' => ∀ F' H' fp' J, Step F H (Ow fp []) F' H' (Ow fp' []) → SR K F' H' env' σ fp' → Walk K F' xs J → R J H'
  | .exc x env' => ∀ F' H' fp' cls d, Step F H (Ow fp []) F' H' (Ow fp' []) → SR K F' H' env' σ fp' → XR C x cls d F' → W cls d σ H'
  | .no => False
abbrev DI (X : Cx) (C : Nat → Addr) (W : WX) (tg e : Expr) (g : Env → R (List Val)) : Prop := PI X tg e (TXI X.K C W g)
section
variable {K : PySem.W.Frag} {F H : Hp}
theorem walk_same {xs : List Val} {J : L2.It} (h : ∀ F2 H2 i, Same F F2 → Same F2 H2 → (∀ v, xs[i]? = some v → J.go i H2 ∧ ∀ x H', J.yld i H2 x H' → H' = H2 ∧ Rp K F2 v x) ∧ (xs.length ≤ i → J.stop i H2)) : Walk K F xs J := fun F2 H2 i s1 s2 => by
  obtain ⟨h1, h2⟩ := h F2 H2 i s1 s2
  refine ⟨fun lt => ?_, fun e => h2 (Nat.le_of_eq e.symm)⟩
  obtain ⟨g, y⟩ := h1 xs[i] (List.getElem?_eq_getElem lt)
  refine ⟨g, fun x H' hy => ?_⟩
  obtain ⟨rfl, r⟩ := y x H' hy
  exact ⟨F2, xs[i], Al.refl F2 _, s2, List.getElem?_eq_getElem lt, r⟩
theorem walk_str (x : Str) : Walk K F (x.cps.toList.map fun c => Val.str ⟨#[c]⟩) (Its x) := walk_same fun F2 H2 i s1 s2 => by
  refine ⟨fun v e => ?_, fun lt => ?_⟩
  · rw [List.getElem?_map] at e
    cases z : x.cps.toList[i]? with
    | none => rw [z] at e; cases e
    | some c =>
      rw [z] at e; cases e
      have lt := (List.getElem?_eq_some_iff.mp z).1
      refine ⟨(show i < x.cps.size by simpa using lt), fun y H' hy => ?_⟩
      obtain ⟨e1, c', e2, e3⟩ := hy
      refine ⟨e1, ?_⟩
      have : c' = c := by
        rw [← Array.getElem?_toList, z] at e2
        exact (Option.some.inj e2).symm
      subst this
      unfold Rp; exact e3
  · rw [List.length_map] at lt
    show x.cps.size ≤ i
    simpa using lt
theorem walk_tup {a : Addr} {vs : List V} {xs : List Val} (h : SqT K F a vs) (r : Rps K F xs vs) : Walk K F xs (Itt K a) := walk_same fun F2 H2 i s1 s2 => by
  have hq : SqT K H2 a vs := Same.sqT (Same.trans s1 s2) h
  refine ⟨fun v e => ?_, fun lt => ⟨vs, hq, by rw [r.len]; exact lt⟩⟩
  obtain ⟨u, e1, r1⟩ := r.get e
  refine ⟨⟨vs, u, hq, e1⟩, fun x H' y => ⟨y.1, ?_⟩⟩
  have := y.2 vs hq
  rw [e1] at this; cases this
  exact Rp.mono s1 r1
theorem walk_lst {a : Addr} {vs : List V} {xs : List Val} (h : SqL K F a vs) (r : Rps K F xs vs) : Walk K F xs (Itl K a) := walk_same fun F2 H2 i s1 s2 => by
  have hq : SqL K H2 a vs := Same.sqL (Same.trans s1 s2) h
  refine ⟨fun v e => ?_, fun lt => ⟨vs, hq, by rw [r.len]; exact lt⟩⟩
  obtain ⟨u, e1, r1⟩ := r.get e
  refine ⟨⟨vs, u, hq, e1⟩, fun x H' y => ⟨y.1, ?_⟩⟩
  have := y.2 vs hq
  rw [e1] at this; cases this
  exact Rp.mono s1 r1
theorem rev_get {α : Type} {xs : List α} {i : Nat} (h : i < xs.length) : xs.reverse[i]? = xs[xs.length - 1 - i]? := List.getElem?_reverse h
theorem walk_rev {a : Addr} {vs : List V} {xs : List Val} (h : SqL K F a vs) (r : Rps K F xs vs) : Walk K F xs.reverse (Itv K a vs.length) := walk_same fun F2 H2 i s1 s2 => by
  have hq : SqL K H2 a vs := Same.sqL (Same.trans s1 s2) h
  refine ⟨fun v e => ?_, fun lt => by rw [List.length_reverse] at lt; show vs.length ≤ i; rw [r.len]; exact lt⟩
  have hi : i < xs.length := by
    have := (List.getElem?_eq_some_iff.mp e).1
    rwa [List.length_reverse] at this
  rw [rev_get hi] at e
  obtain ⟨u, e1, r1⟩ := r.get e
  rw [← r.len] at e1 hi
  refine ⟨⟨hi, vs, u, hq, e1⟩, fun x H' y => ⟨y.1, ?_⟩⟩
  have := y.2 vs hq
  rw [e1] at this; cases this
  exact Rp.mono s1 r1
theorem walk_revT {a : Addr} {vs : List V} {xs : List Val} (h : SqT K F a vs) (r : Rps K F xs vs) : Walk K F xs.reverse (RT.ItvT K a vs.length) := walk_same fun F2 H2 i s1 s2 => by
  have hq : SqT K H2 a vs := Same.sqT (Same.trans s1 s2) h
  refine ⟨fun v e => ?_, fun lt => by rw [List.length_reverse] at lt; show vs.length ≤ i; rw [r.len]; exact lt⟩
  have hi : i < xs.length := by
    have := (List.getElem?_eq_some_iff.mp e).1
    rwa [List.length_reverse] at this
  rw [rev_get hi] at e
  obtain ⟨u, e1, r1⟩ := r.get e
  rw [← r.len] at e1 hi
  refine ⟨⟨hi, vs, u, hq, e1⟩, fun x H' y => ⟨y.1, ?_⟩⟩
  have := y.2 vs hq
  rw [e1] at this; cases this
  exact Rp.mono s1 r1
theorem range_len : ∀ (n : Nat) (lo : Int), (EN.range lo n).length = n
  | 0, _ => rfl
  | n + 1, lo => by simp [EN.range, range_len n]
theorem range_get : ∀ (n : Nat) (lo : Int) (i : Nat), i < n → (EN.range lo n)[i]? = some (.int (lo + i))
  | 0, _, _, h => by omega
  | n + 1, lo, 0, h => by simp [EN.range]
  | n + 1, lo, i + 1, h => by
    have := range_get n (lo + 1) i (by omega)
    simp only [EN.range, List.getElem?_cons_succ, this]
    congr 2
    omega
theorem walk_rng (lo : Int) (n : Nat) : Walk K F (EN.range lo n) (Itr lo n) := walk_same fun F2 H2 i s1 s2 => by
  refine ⟨fun v e => ?_, fun lt => by rw [range_len] at lt; exact lt⟩
  have hi : i < n := by
    have := (List.getElem?_eq_some_iff.mp e).1
    rwa [range_len] at this
  rw [range_get n lo i hi] at e
  cases e
  exact ⟨hi, fun x H' y => ⟨y.1, by unfold Rp; exact y.2⟩⟩
end
section
variable {X : Cx} {C : Nat → Addr} {W : WX} {tg e a b : Expr} {es : List Expr} {f : Env → R OV} {pos p1 : Pos}
/-- an iterable that is a list or a tuple -/
theorem di_e (h : DE X C W e f) : DI X C W tg e (fun env => (pv f env).bd fun v env => R.of (itemsE v) env) :=
  ⟨fun pins s σ H Rr I ⟨F, env, fp, sr, h1⟩ => by
    dsimp only at h1
    have h2 : ∀ Q1 : VK, (∀ v env1 F1 H1 u fp1, pv f env = .ok v env1 → Step F H (Ow fp []) F1 H1 (Ow fp1 []) → SR X.K F1 H1 env1 σ fp1 → Rp X.K F1 v u → Q1 u H1) → TX X.K C W (rV X.K) (pv f) σ H Q1 := fun Q1 k => by
      refine ⟨F, env, fp, sr, ?_⟩
      cases z : pv f env with
      | no => simp only [z, R.bd] at h1
      | exc x env1 => simp only [z, R.bd] at h1; exact h1
      | ok v env1 =>
        intro F1 H1 u fp1 q st sr1 ro nd dj
        obtain ⟨rfl, r⟩ := ro
        exact k v env1 F1 H1 u fp1 z st sr1 r
    by_cases hx : ∃ x env1, pv f env = .ok (.str x) env1
    · obtain ⟨x, env1, z⟩ := hx
      refine (pi_str (dp_of_de h)).run pins s σ H Rr I (h2 _ fun v env1' F1 H1 u fp1 z' st sr1 r => ?_)
      rw [z] at z'
      cases z'
      simp only [z, R.bd, itemsE, R.of] at h1
      unfold Rp at r
      exact ⟨x, r, h1 F1 H1 fp1 _ st sr1 (walk_str x)⟩
    by_cases hy : ∃ xs env1, pv f env = .ok (.tup xs) env1
    · obtain ⟨xs, env1, z⟩ := hy
      refine (pi_tup (dp_of_de h)).run pins s σ H Rr I (h2 _ fun v env1' F1 H1 u fp1 z' st sr1 r => ?_)
      rw [z] at z'
      cases z'
      simp only [z, R.bd, itemsE, items, R.of] at h1
      unfold Rp at r
      obtain ⟨a, vs, rfl, h3, h4⟩ := r
      exact ⟨a, rfl, ⟨vs, Same.sqT sr1.sF h3⟩, h1 F1 H1 fp1 _ st sr1 (walk_tup h3 h4)⟩
    · refine (pi_list (dp_of_de h)).run pins s σ H Rr I (h2 _ fun v env1 F1 H1 u fp1 z st sr1 r => ?_)
      simp only [z, R.bd] at h1
      cases v with
      | lst xs =>
        simp only [itemsE, items, R.of] at h1
        unfold Rp at r
        obtain ⟨a, vs, rfl, h3, h4⟩ := r
        exact ⟨a, rfl, ⟨vs, .inl (Same.rd sr1.sF h3)⟩, h1 F1 H1 fp1 _ st sr1 (walk_lst (.inl h3) h4)⟩
      | scr xs =>
        simp only [itemsE, items, R.of] at h1
        unfold Rp at r
        obtain ⟨a, vs, rfl, h3, h4⟩ := r
        exact ⟨a, rfl, ⟨vs, Same.sqL sr1.sF h3⟩, h1 F1 H1 fp1 _ st sr1 (walk_lst h3 h4)⟩
      | tup xs => exact (hy ⟨xs, env1, z⟩).elim
      | str x => exact (hx ⟨x, env1, z⟩).elim
      | _ => exact h1.elim⟩
/-- range(a), range(a, b) -/
theorem di_rng1 {fs : Env → R (List Val)} {p : Pos} (hg : Gl X "range") (hm : X.mg "range" = none) (h : DPs X C W [a] fs) (hs : starEach [a] X.env = [(false, eval a X.env)]) (hl : ∀ env vs env', fs env = .ok vs env' → vs.length = 1) : DI X C W tg (.Call (.Name "range" p) [a] [] pos) (fun env => (fs env).bd fun vs env => R.of (rngs vs) env) :=
  ⟨fun pins s σ H Rr I ⟨F, env, fp, sr, h1⟩ => (pi_range1 hg hm h hs).run pins s σ H Rr I ⟨F, env, fp, sr, by
    cases z : fs env with
    | no => simp only [z, R.bd] at h1
    | exc x env1 => simp only [z, R.bd] at h1; exact h1
    | ok vs env1 =>
      simp only [z, R.bd] at h1
      intro F1 H1 us fp1 q st sr1 ro nd dj
      obtain ⟨rfl, r⟩ := ro
      have l1 : vs.length = 1 := hl env vs env1 z
      match vs, l1 with
      | [v], _ =>
        cases v with
        | int j =>
          by_cases hj : rngOk j
          · simp only [rngs, if_pos hj, R.of] at h1
            obtain ⟨e1, _⟩ := r.ints (ns := [j]) rfl
            exact ⟨j, e1, hj.1, hj.2, h1 F1 H1 fp1 _ st sr1 (walk_rng 0 j.toNat)⟩
          · simp only [rngs, if_neg hj, R.of] at h1
        | _ => exact h1.elim⟩⟩
theorem di_rng2 {fs : Env → R (List Val)} {p : Pos} (hg : Gl X "range") (hm : X.mg "range" = none) (h : DPs X C W [a, b] fs) (hs : starEach [a, b] X.env = [(false, eval a X.env), (false, eval b X.env)]) (hs2 : starEach [b] X.env = [(false, eval b X.env)]) (hl : ∀ env vs env', fs env = .ok vs env' → vs.length = 2) : DI X C W tg (.Call (.Name "range" p) [a, b] [] pos) (fun env => (fs env).bd fun vs env => R.of (rngs vs) env) :=
  ⟨fun pins s σ H Rr I ⟨F, env, fp, sr, h1⟩ => (pi_range2 hg hm h hs hs2).run pins s σ H Rr I ⟨F, env, fp, sr, by
    cases z : fs env with
    | no => simp only [z, R.bd] at h1
    | exc x env1 => simp only [z, R.bd] at h1; exact h1
    | ok vs env1 =>
      simp only [z, R.bd] at h1
      intro F1 H1 us fp1 q st sr1 ro nd dj
      obtain ⟨rfl, r⟩ := ro
      have l2 : vs.length = 2 := hl env vs env1 z
      match vs, l2 with
      | [v, w], _ =>
        cases v with
        | int i =>
          cases w with
          | int j =>
            by_cases hj : rngOk i ∧ rngOk j
            · simp only [rngs, if_pos hj, R.of] at h1
              obtain ⟨e1, _⟩ := r.ints (ns := [i, j]) rfl
              exact ⟨i, j, e1, ⟨hj.1.1, hj.1.2, hj.2.1, hj.2.2⟩, h1 F1 H1 fp1 _ st sr1 (walk_rng i _)⟩
            · simp only [rngs, if_neg hj, R.of] at h1
          | _ => exact h1.elim
        | _ => exact h1.elim⟩⟩
/-- reversed(e) -/
theorem di_rvs {p : Pos} (hg : Gl X "reversed") (hm : X.mg "reversed" = none) (h : DE X C W e f) (hs : starEach [e] X.env = (false, eval e X.env) :: starEach [] X.env) : DI X C W tg (.Call (.Name "reversed" p) [e] [] pos) (fun env => (pv f env).bd fun v env => R.of ((items v).map List.reverse) env) :=
  ⟨fun pins s σ H Rr I ⟨F, env, fp, sr, h1⟩ => (RT.pi_revA hg hm (dp_of_de h) hs).run pins s σ H Rr I ⟨F, env, fp, sr, by
    dsimp only at h1
    cases z : pv f env with
    | no => simp only [z, R.bd] at h1
    | exc x env1 => simp only [z, R.bd] at h1; exact h1
    | ok v env1 =>
      simp only [z, R.bd] at h1
      intro F1 H1 u fp1 q st sr1 ro nd dj
      obtain ⟨rfl, r⟩ := ro
      cases v with
      | tup xs =>
        simp only [items, R.of, Option.map_some] at h1
        unfold Rp at r
        obtain ⟨a, vs, rfl, h3, h4⟩ := r
        exact ⟨a, vs, rfl, .inr ⟨Same.sqT sr1.sF h3, h1 F1 H1 fp1 _ st sr1 (walk_revT h3 h4)⟩⟩
      | lst xs =>
        simp only [items, R.of, Option.map_some] at h1
        unfold Rp at r
        obtain ⟨a, vs, rfl, h3, h4⟩ := r
        exact ⟨a, vs, rfl, .inl ⟨.inl (Same.rd sr1.sF h3), h1 F1 H1 fp1 _ st sr1 (walk_rev (.inl h3) h4)⟩⟩
      | scr xs =>
        simp only [items, R.of, Option.map_some] at h1
        unfold Rp at r
        obtain ⟨a, vs, rfl, h3, h4⟩ := r
        exact ⟨a, vs, rfl, .inl ⟨Same.sqL sr1.sF h3, h1 F1 H1 fp1 _ st sr1 (walk_rev h3 h4)⟩⟩
      | _ => exact h1.elim⟩⟩

end
end EN

/-! EnIZ: zip of two and of three. -/
namespace EN
open PySem PySem.Spec L2 PyProof.Rows
/-- three lists as they stand at each turn, the items in new triples -/
def Itz3 (K : PySem.W.Frag) (a b c : Addr) : L2.It :=
  ⟨fun i H => ∃ (xs ys zs : List V) (x y z : V), SqL K H a xs ∧ SqL K H b ys ∧ SqL K H c zs ∧ xs[i]? = some x ∧ ys[i]? = some y ∧ zs[i]? = some z,
    fun i H v H' => ∃ T x y z, v = .ref T ∧ H T = none ∧ H' = upd H T (.tup [x, y, z]) ∧ (∀ xs, SqL K H a xs → xs[i]? = some x) ∧ (∀ ys, SqL K H b ys → ys[i]? = some y) ∧ ∀ zs, SqL K H c zs → zs[i]? = some z,
    fun i H => ∃ xs ys zs : List V, SqL K H a xs ∧ SqL K H b ys ∧ SqL K H c zs ∧ (i ≤ xs.length ∧ i ≤ ys.length ∧ i ≤ zs.length) ∧ (i = xs.length ∨ i = ys.length ∨ i = zs.length)⟩
theorem turn_zip3 {P : Program} {w : World} {K : PySem.W.Frag} {elts : List Expr} {kk : Nat} {tpos : Pos} {a b c z TI TO i1 i2 i3 : Addr} (D : ZipSep3 z TI TO i1 i2 i3 [i1, a] [i2, b] [i3, c]) (n1 : a ≠ i1) (n2 : b ≠ i2) (n3 : c ≠ i3) :
    Turn P w K (.Tuple elts kk tpos) (Itz3 K a b c) [z, TI, TO, i1, i2, i3] z (fun i h => IsZip h z TI TO .none ∧ IsTupOf3 h TI (.ref i1) (.ref i2) (.ref i3) ∧ (∃ x y u, IsTupOf3 h TO x y u) ∧ h.IsListIter i1 a i ∧ h.IsListIter i2 b i ∧ h.IsListIter i3 c i) where
  mem := by simp
  obj := fun i h st e he => by
    obtain ⟨hz, hTI, ⟨x, y, u, hTO⟩, ⟨o1, e1, _, d1⟩, ⟨o2, e2, _, d2⟩, ⟨o3, e3, _, d3⟩⟩ := st
    have e' : e = z ∨ e = TI ∨ e = TO ∨ e = i1 ∨ e = i2 ∨ e = i3 := by simpa using he
    rcases e' with q | q | q | q | q | q
    · rw [q]; exact ⟨_, hz, fun v q => nomatch q⟩
    · rw [q]; exact ⟨_, hTI, fun v q => nomatch q⟩
    · rw [q]; exact ⟨_, hTO, fun v q => nomatch q⟩
    · rw [q]; exact ⟨o1, e1, fun v q => by rw [d1] at q; cases q⟩
    · rw [q]; exact ⟨o2, e2, fun v q => by rw [d2] at q; cases q⟩
    · rw [q]; exact ⟨o3, e3, fun v q => by rw [d3] at q; cases q⟩
  keep := fun i h h' st k => by
    obtain ⟨hz, hTI, ⟨x, y, u, hTO⟩, h1, h2, h3⟩ := st
    exact ⟨k z (by simp) _ hz, k TI (by simp) _ hTI, ⟨x, y, u, k TO (by simp) _ hTO⟩, h1.at fun o q => k i1 (by simp) o q, h2.at fun o q => k i2 (by simp) o q, h3.at fun o q => k i3 (by simp) o q⟩
  item := by
    intro X hP hw hK hc i pins s σ H E I hf st hg
    subst hP hw hK
    obtain ⟨hz, hTI, ⟨x0, y0, u0, hTO⟩, h1, h2, h3⟩ := st
    obtain ⟨xs, ys, zs, x, y, u, hqx, hqy, hqz, hx, hy, hu⟩ := hg
    obtain ⟨its, rv, p, _⟩ := I.list hqx
    obtain ⟨its2, rv2, p2, _⟩ := I.list hqy
    obtain ⟨its3, rv3, p3, _⟩ := I.list hqz
    obtain ⟨v1, hv1, rv1⟩ := rv.get hx
    obtain ⟨v2, hv2, rv2'⟩ := rv2.get hy
    obtain ⟨v3, hv3, rv3'⟩ := rv3.get hu
    have hzl : z < s.heap.objs.size := Heap.lt_size hz
    have hh : X.A.handled = none := I.ok.hd hc
    have hi1 : i < its.toArray.size := by have := (List.getElem?_eq_some_iff.mp hv1).1; simpa using this
    have hi2 : i < its2.toArray.size := by have := (List.getElem?_eq_some_iff.mp hv2).1; simpa using this
    have hi3 : i < its3.toArray.size := by have := (List.getElem?_eq_some_iff.mp hv3).1; simpa using this
    refine wpAny_pyNext_zipD3_item D (Draws.list (show X.A.in1.handled = none from hh) i1 a n1 its.toArray) (Draws.list (show X.A.in1.handled = none from hh) i2 b n2 its2.toArray) (Draws.list (show X.A.in1.handled = none from hh) i3 c n3 its3.toArray) hz hTI hTO ⟨h1, p.isList⟩ ⟨h2, p2.isList⟩ ⟨h3, p3.isList⟩ hi1 hi2 hi3
      fun x1 x2 x3 h' tk e1 e2 e3 z' TO' h1' h2' h3' hT hsz hk => ?_
    have ex1 : x1 = v1 := by
      have e1 : its.toArray[i]? = some x1 := e1
      rw [List.getElem?_toArray, hv1] at e1; exact (Option.some.inj e1).symm
    have ex2 : x2 = v2 := by
      have e2 : its2.toArray[i]? = some x2 := e2
      rw [List.getElem?_toArray, hv2] at e2; exact (Option.some.inj e2).symm
    have ex3 : x3 = v3 := by
      have e3 : its3.toArray[i]? = some x3 := e3
      rw [List.getElem?_toArray, hv3] at e3; exact (Option.some.inj e3).symm
    subst ex1 ex2 ex3
    refine ⟨_, rfl, wpAny_letOwnedTupleGo_zip (s := { s with heap := h', toks := tk }) z' fun h'' z'' sb => ?_⟩
    have hT2 : h''.get? s.heap.objs.size = some { cls := .type "tuple", data := .seq #[x1, x2, x3] } := (sb.2 _ (Nat.ne_of_gt hzl)).trans hT
    have new : ObjOk X.prog X.w (upd H s.heap.objs.size (.tup [x, y, u])) h'' s.heap.objs.size (.tup [x, y, u]) :=
      ⟨by show 3 ≤ sizeLine; decide, [x1, x2, x3], .cons rv1 (.cons rv2' (.cons rv3' .nil)), ⟨_, hT2, rfl, _, rfl⟩⟩
    have I1 : Inv X pins σ (upd H s.heap.objs.size (.tup [x, y, u])) { s with heap := h'', toks := tk } :=
      I.turnedNew (t' := tk) (ch := [z, TI, TO, i1, i2, i3]) (fun c o hb q => (sb.2 c (fun q' => hb (by simp [q']))).trans (hk c o (fun q' => hb (by simp [q'])) (fun q' => hb (by simp [q'])) (fun q' => hb (by simp [q'])) (fun q' => hb (by simp [q'])) (fun q' => hb (by simp [q'])) q)) hf (Nat.le_refl _) new
    refine ⟨.ref s.heap.objs.size, _, I1, rfl, ⟨_, x, y, u, rfl, I.hok.fresh (Nat.le_refl _), rfl, fun l hl => by rw [I.list_inj hl hqx]; exact hx, fun l hl => by rw [I.list_inj hl hqy]; exact hy, fun l hl => by rw [I.list_inj hl hqz]; exact hu⟩, ⟨z'', ?_, ⟨x1, x2, x3, ?_⟩, ?_, ?_, ?_⟩, fun e hem => ?_⟩
    · exact (sb.2 _ D.TIz).trans (hk _ _ D.TIz D.TITO D.TIi1 D.TIi2 D.TIi3 hTI)
    · exact (sb.2 _ D.TOz).trans TO'
    · exact h1'.1.at fun o q => (sb.2 _ D.zi1.symm).trans q
    · exact h2'.1.at fun o q => (sb.2 _ D.zi2.symm).trans q
    · exact h3'.1.at fun o q => (sb.2 _ D.zi3.symm).trans q
    · have hlt : e < s.heap.objs.size := by
        have e' : e = z ∨ e = TI ∨ e = TO ∨ e = i1 ∨ e = i2 ∨ e = i3 := by simpa using hem
        rcases e' with q | q | q | q | q | q
        · rw [q]; exact hzl
        · rw [q]; exact Heap.lt_size hTI
        · rw [q]; exact Heap.lt_size hTO
        · rw [q]; obtain ⟨_, e1, _⟩ := h1; exact Heap.lt_size e1
        · rw [q]; obtain ⟨_, e1, _⟩ := h2; exact Heap.lt_size e1
        · rw [q]; obtain ⟨_, e1, _⟩ := h3; exact Heap.lt_size e1
      rw [upd_ne (Nat.ne_of_lt hlt)]
      exact (hf e hem).1
  done := by
    intro X hP hw hK hc i pins s σ H E I hf st hg
    subst hP hw hK
    obtain ⟨hz, hTI, ⟨x0, y0, u0, hTO⟩, h1, h2, h3⟩ := st
    obtain ⟨xs, ys, zs, hqx, hqy, hqz, ⟨le1, le2, le3⟩, hend⟩ := hg
    obtain ⟨its, rv, p, _⟩ := I.list hqx
    obtain ⟨its2, rv2, p2, _⟩ := I.list hqy
    obtain ⟨its3, rv3, p3, _⟩ := I.list hqz
    have l1 := rv.length
    have l2 := rv2.length
    have l3 := rv3.length
    have hh : X.A.handled = none := I.ok.hd hc
    refine wpAny_pyNext_zipD3_end D (Draws.list (show X.A.in1.handled = none from hh) i1 a n1 its.toArray) (Draws.list (show X.A.in1.handled = none from hh) i2 b n2 its2.toArray) (Draws.list (show X.A.in1.handled = none from hh) i3 c n3 its3.toArray) hz hTI hTO ⟨h1, p.isList⟩ ⟨h2, p2.isList⟩ ⟨h3, p3.isList⟩
      (by simp; omega) (by simp; omega) (by simp; omega) (by simp; omega) fun h' tk hk => ⟨rfl, I.turnedL (t' := tk) (ch := [z, TI, TO, i1, i2, i3]) (fun c o hb q =>
      hk c o (fun q' => hb (by simp [q'])) (fun q' => hb (by simp [q'])) (fun q' => hb (by simp [q'])) (fun q' => hb (by simp [q'])) (fun q' => hb (by simp [q'])) q) hf⟩
  self := fun A i s Q E st h => wpAny_pyIter_zip st.1 h
def iZip3 (K : PySem.W.Frag) (ta : TA) : TI := fun σ H R => ta σ H fun vs H1 => ∃ a b c xs ys zs, vs = [.ref a, .ref b, .ref c] ∧ SqL K H1 a xs ∧ SqL K H1 b ys ∧ SqL K H1 c zs ∧ R (Itz3 K a b c) H1
theorem pi_zip3 {X : Cx} {e e2 e3 : Expr} {ta : TA} {p pos tpos : Pos} {elts : List Expr} {kk : Nat} (hg : Gl X "zip") (hm : X.mg "zip" = none) (ha : PA X [e, e2, e3] ta)
    (hs : starEach [e, e2, e3] X.env = (false, eval e X.env) :: starEach [e2, e3] X.env) (hpl : (backTo pos (starEach [e2, e3] X.env)).any (·.1) = false) :
    PI X (.Tuple elts kk tpos) (.Call (.Name "zip" p) [e, e2, e3] [] pos) (iZip3 X.K ta) := by
  refine ⟨fun pins s σ H R I h => ?_⟩
  refine Call_ (ld_blt I hg hm PyProof.Rows.boot_zip (PyProof.Rows.callWith_type1 (thn (ha.run pos pins s σ H _ I h) fun us s1 ⟨vs, H1, I1, r1, q1⟩ => ?_) hs hpl))
  obtain ⟨a, b, c, xs, ys, zs, ex, hqx, hqy, hqz, q⟩ := q1
  subst ex
  cases r1 with
  | cons r rr =>
    cases rr with
    | cons r' rr =>
      cases rr with
      | cons r'' rr =>
        cases rr
        cases r
        cases r'
        cases r''
        obtain ⟨its, rv, p1, _⟩ := I1.list hqx
        obtain ⟨its2, rv2, p2, _⟩ := I1.list hqy
        obtain ⟨its3, rv3, p3, _⟩ := I1.list hqz
        have la : a < s1.heap.objs.size := p1.lt
        have lb : b < s1.heap.objs.size := p2.lt
        have lc : c < s1.heap.objs.size := p3.lt
        refine zip_begins3 (begins_list a its.toArray) (begins_list b its2.toArray) (begins_list c its3.toArray) p1.isList p2.isList p3.isList fun h' hz hTI hTO h1 h2 h3 hsz hk => wpAny_pyIter_zip hz ?_
        have I2 : Inv X pins σ H1 { s1 with heap := h' } := I1.kept (t' := s1.toks) hk
        have D : ZipSep3 (s1.heap.objs.size + 5) (s1.heap.objs.size + 3) (s1.heap.objs.size + 4) s1.heap.objs.size (s1.heap.objs.size + 1) (s1.heap.objs.size + 2) [s1.heap.objs.size, a] [s1.heap.objs.size + 1, b] [s1.heap.objs.size + 2, c] :=
          zip_sep3 (fp1 := [a]) (fp2 := [b]) (fp3 := [c]) (fun x hx => by simp at hx; subst hx; exact la) (fun x hx => by simp at hx; subst hx; exact lb) (fun x hx => by simp at hx; subst hx; exact lc)
        refine ⟨s1.heap.objs.size + 5, [s1.heap.objs.size + 5, s1.heap.objs.size + 3, s1.heap.objs.size + 4, s1.heap.objs.size, s1.heap.objs.size + 1, s1.heap.objs.size + 2], _, _, H1, rfl, I2,
          turn_zip3 D (Nat.ne_of_lt la) (Nat.ne_of_lt (Nat.lt_of_lt_of_le lb (Nat.le_add_right _ _))) (Nat.ne_of_lt (Nat.lt_of_lt_of_le lc (Nat.le_add_right _ _))), ⟨hz, hTI, ⟨_, _, _, hTO⟩, ⟨_, h1, rfl, rfl⟩, ⟨_, h2, rfl, rfl⟩, ⟨_, h3, rfl, rfl⟩⟩, fun e hem => ?_, q⟩
        have e' : e = s1.heap.objs.size + 5 ∨ e = s1.heap.objs.size + 3 ∨ e = s1.heap.objs.size + 4 ∨ e = s1.heap.objs.size ∨ e = s1.heap.objs.size + 1 ∨ e = s1.heap.objs.size + 2 := by simpa using hem
        have hle : s1.heap.objs.size ≤ e := by
          rcases e' with z | z | z | z | z | z
          · rw [z]; exact Nat.le_add_right _ _
          · rw [z]; exact Nat.le_add_right _ _
          · rw [z]; exact Nat.le_add_right _ _
          · rw [z]; exact Nat.le_refl _
          · rw [z]; exact Nat.le_add_right _ _
          · rw [z]; exact Nat.le_add_right _ _
        exact I1.fpOk hle (I1.hok.fresh hle)
/-! ### what is yielded -/
theorem zip2_len : ∀ {xs ys : List Val}, (zip2 xs ys).length = min xs.length ys.length
  | [], ys => by simp [zip2]
  | x :: xs, [] => by simp [zip2]
  | x :: xs, y :: ys => by simp only [zip2, List.length_cons, zip2_len]; omega
theorem zip2_get : ∀ {xs ys : List Val} {i : Nat}, i < (zip2 xs ys).length → ∃ x y, xs[i]? = some x ∧ ys[i]? = some y ∧ (zip2 xs ys)[i]? = some (.tup [x, y])
  | [], ys, i, h => by simp [zip2] at h
  | x :: xs, [], i, h => by simp [zip2] at h
  | x :: xs, y :: ys, 0, h => ⟨x, y, rfl, rfl, rfl⟩
  | x :: xs, y :: ys, i + 1, h => by
    obtain ⟨p, q, e1, e2, e3⟩ := zip2_get (xs := xs) (ys := ys) (i := i) (by simpa [zip2] using h)
    exact ⟨p, q, by simpa using e1, by simpa using e2, by simpa [zip2] using e3⟩
theorem zip3_len : ∀ {xs ys zs : List Val}, (zip3 xs ys zs).length = min (min xs.length ys.length) zs.length
  | [], ys, zs => by simp [zip3]
  | x :: xs, [], zs => by simp [zip3]
  | x :: xs, y :: ys, [] => by simp [zip3]
  | x :: xs, y :: ys, z :: zs => by simp only [zip3, List.length_cons, zip3_len]; omega
theorem zip3_get : ∀ {xs ys zs : List Val} {i : Nat}, i < (zip3 xs ys zs).length → ∃ x y z, xs[i]? = some x ∧ ys[i]? = some y ∧ zs[i]? = some z ∧ (zip3 xs ys zs)[i]? = some (.tup [x, y, z])
  | [], ys, zs, i, h => by simp [zip3] at h
  | x :: xs, [], zs, i, h => by simp [zip3] at h
  | x :: xs, y :: ys, [], i, h => by simp [zip3] at h
  | x :: xs, y :: ys, z :: zs, 0, h => ⟨x, y, z, rfl, rfl, rfl, rfl⟩
  | x :: xs, y :: ys, z :: zs, i + 1, h => by
    obtain ⟨p, q, r, e1, e2, e3, e4⟩ := zip3_get (xs := xs) (ys := ys) (zs := zs) (i := i) (by simpa [zip3] using h)
    exact ⟨p, q, r, by simpa using e1, by simpa using e2, by simpa using e3, by simpa [zip3] using e4⟩
section
variable {K : PySem.W.Frag} {F H : Hp}
theorem zip_yield {F2 H2 : Hp} {T : Addr} {us : List V} {vs : List Val} (s : Same F2 H2) (n : H2 T = none) (r : Rps K F2 vs us) : ∃ F', Al F2 H2 F' (upd H2 T (.tup us)) [] ∧ Same F' (upd H2 T (.tup us)) ∧ Rp K F' (.tup vs) (.ref T) := by
  obtain ⟨al, sN⟩ := Al.frozen (o := .tup us) s n
  refine ⟨_, al, sN, ?_⟩
  unfold Rp
  exact ⟨T, us, rfl, .inl (.inl upd_same), r.mono al.sF⟩
theorem walk_zipL {a b : Addr} {us vs : List V} {xs ys : List Val} (h1 : SqL K F a us) (r1 : Rps K F xs us) (h2 : SqL K F b vs) (r2 : Rps K F ys vs) : Walk K F (zip2 xs ys) (Itz K a b) := fun F2 H2 i s1 s2 => by
  have q1 : SqL K H2 a us := Same.sqL (Same.trans s1 s2) h1
  have q2 : SqL K H2 b vs := Same.sqL (Same.trans s1 s2) h2
  refine ⟨fun lt => ?_, fun e => ?_⟩
  · obtain ⟨x, y, e1, e2, e3⟩ := zip2_get lt
    obtain ⟨u, f1, g1⟩ := r1.get e1
    obtain ⟨v, f2, g2⟩ := r2.get e2
    refine ⟨⟨us, vs, u, v, q1, q2, f1, f2⟩, fun w H' yl => ?_⟩
    obtain ⟨T, u', v', rfl, n, rfl, k1, k2⟩ := yl
    have e4 := k1 us q1
    have e5 := k2 vs q2
    rw [f1] at e4; rw [f2] at e5
    cases e4; cases e5
    obtain ⟨F', al, sN, rr⟩ := zip_yield (vs := [x, y]) s2 n (by unfold Rps; exact ⟨_, _, rfl, Rp.mono s1 g1, by unfold Rps; exact ⟨_, _, rfl, Rp.mono s1 g2, by unfold Rps; rfl⟩⟩)
    exact ⟨F', _, al, sN, e3, rr⟩
  · rw [zip2_len] at e
    refine ⟨us, vs, q1, q2, ?_⟩
    rw [r1.len, r2.len]
    omega
theorem walk_zipT {a b : Addr} {us vs : List V} {xs ys : List Val} (h1 : SqT K F a us) (r1 : Rps K F xs us) (h2 : SqT K F b vs) (r2 : Rps K F ys vs) : Walk K F (zip2 xs ys) (RZ.ItzT K a b) := fun F2 H2 i s1 s2 => by
  have q1 : SqT K H2 a us := Same.sqT (Same.trans s1 s2) h1
  have q2 : SqT K H2 b vs := Same.sqT (Same.trans s1 s2) h2
  refine ⟨fun lt => ?_, fun e => ?_⟩
  · obtain ⟨x, y, e1, e2, e3⟩ := zip2_get lt
    obtain ⟨u, f1, g1⟩ := r1.get e1
    obtain ⟨v, f2, g2⟩ := r2.get e2
    refine ⟨⟨us, vs, u, v, q1, q2, f1, f2⟩, fun w H' yl => ?_⟩
    obtain ⟨T, u', v', rfl, n, rfl, k1, k2⟩ := yl
    have e4 := k1 us q1
    have e5 := k2 vs q2
    rw [f1] at e4; rw [f2] at e5
    cases e4; cases e5
    obtain ⟨F', al, sN, rr⟩ := zip_yield (vs := [x, y]) s2 n (by unfold Rps; exact ⟨_, _, rfl, Rp.mono s1 g1, by unfold Rps; exact ⟨_, _, rfl, Rp.mono s1 g2, by unfold Rps; rfl⟩⟩)
    exact ⟨F', _, al, sN, e3, rr⟩
  · rw [zip2_len] at e
    refine ⟨us, vs, q1, q2, ?_⟩
    rw [r1.len, r2.len]
    omega
theorem walk_zip3 {a b c : Addr} {us vs ws : List V} {xs ys zs : List Val} (h1 : SqL K F a us) (r1 : Rps K F xs us) (h2 : SqL K F b vs) (r2 : Rps K F ys vs) (h3 : SqL K F c ws) (r3 : Rps K F zs ws) : Walk K F (zip3 xs ys zs) (Itz3 K a b c) := fun F2 H2 i s1 s2 => by
  have q1 : SqL K H2 a us := Same.sqL (Same.trans s1 s2) h1
  have q2 : SqL K H2 b vs := Same.sqL (Same.trans s1 s2) h2
  have q3 : SqL K H2 c ws := Same.sqL (Same.trans s1 s2) h3
  refine ⟨fun lt => ?_, fun e => ?_⟩
  · obtain ⟨x, y, z, e1, e2, e3, e4⟩ := zip3_get lt
    obtain ⟨u, f1, g1⟩ := r1.get e1
    obtain ⟨v, f2, g2⟩ := r2.get e2
    obtain ⟨w, f3, g3⟩ := r3.get e3
    refine ⟨⟨us, vs, ws, u, v, w, q1, q2, q3, f1, f2, f3⟩, fun t H' yl => ?_⟩
    obtain ⟨T, u', v', w', rfl, n, rfl, k1, k2, k3⟩ := yl
    have e5 := k1 us q1
    have e6 := k2 vs q2
    have e7 := k3 ws q3
    rw [f1] at e5; rw [f2] at e6; rw [f3] at e7
    cases e5; cases e6; cases e7
    obtain ⟨F', al, sN, rr⟩ := zip_yield (vs := [x, y, z]) s2 n (by unfold Rps; exact ⟨_, _, rfl, Rp.mono s1 g1, by unfold Rps; exact ⟨_, _, rfl, Rp.mono s1 g2, by unfold Rps; exact ⟨_, _, rfl, Rp.mono s1 g3, by unfold Rps; rfl⟩⟩⟩)
    exact ⟨F', _, al, sN, e4, rr⟩
  · rw [zip3_len] at e
    refine ⟨us, vs, ws, q1, q2, q3, ?_⟩
    rw [r1.len, r2.len, r3.len]
    omega
end
section
variable {X : Cx} {C : Nat → Addr} {W : WX} {a b c : Expr} {pos p tpos : Pos} {elts : List Expr} {kk : Nat} {fs : Env → R (List Val)}
theorem Rps.lst1 {K : PySem.W.Frag} {F : Hp} {x : Val} {xs : List Val} {us : List V} (h : Rps K F (x :: xs) us) : ∃ u ws, us = u :: ws ∧ Rp K F x u ∧ Rps K F xs ws := by
  unfold Rps at h; exact h
/-- zip(a, b) -/
theorem di_zp2 (hg : Gl X "zip") (hm : X.mg "zip" = none) (h : DPs X C W [a, b] fs) (hs : starEach [a, b] X.env = (false, eval a X.env) :: starEach [b] X.env) (hpl : (backTo pos (starEach [b] X.env)).any (·.1) = false) (hl : ∀ env vs env', fs env = .ok vs env' → vs.length = 2) :
    DI X C W (.Tuple elts kk tpos) (.Call (.Name "zip" p) [a, b] [] pos) (fun env => (fs env).bd fun vs env => R.of (zips vs) env) :=
  ⟨fun pins s σ H Rr I ⟨F, env, fp, sr, h1⟩ => (RZ.pi_zipA hg hm h hs hpl).run pins s σ H Rr I ⟨F, env, fp, sr, by
    cases z : fs env with
    | no => simp only [z, R.bd] at h1
    | exc x env1 => simp only [z, R.bd] at h1; exact h1
    | ok vs env1 =>
      simp only [z, R.bd] at h1
      intro F1 H1 us fp1 q st sr1 ro nd dj
      obtain ⟨rfl, r⟩ := ro
      have l2 : vs.length = 2 := hl env vs env1 z
      match vs, l2 with
      | [v, w], _ =>
        obtain ⟨u1, us1, rfl, r1, r⟩ := r.lst1
        obtain ⟨u2, us2, rfl, r2, r⟩ := r.lst1
        have r : us2 = [] := by unfold Rps at r; exact r
        subst r
        cases v with
        | lst xs =>
          cases w with
          | lst ys =>
            simp only [zips, R.of] at h1
            unfold Rp at r1 r2
            obtain ⟨a1, vs1, rfl, k1, k2⟩ := r1
            obtain ⟨a2, vs2, rfl, k3, k4⟩ := r2
            exact ⟨a1, a2, vs1, vs2, rfl, .inl ⟨.inl (Same.rd sr1.sF k1), .inl (Same.rd sr1.sF k3), h1 F1 H1 fp1 _ st sr1 (walk_zipL (.inl k1) k2 (.inl k3) k4)⟩⟩
          | _ => exact h1.elim
        | tup xs =>
          cases w with
          | tup ys =>
            simp only [zips, R.of] at h1
            unfold Rp at r1 r2
            obtain ⟨a1, vs1, rfl, k1, k2⟩ := r1
            obtain ⟨a2, vs2, rfl, k3, k4⟩ := r2
            exact ⟨a1, a2, vs1, vs2, rfl, .inr ⟨Same.sqT sr1.sF k1, Same.sqT sr1.sF k3, h1 F1 H1 fp1 _ st sr1 (walk_zipT k1 k2 k3 k4)⟩⟩
          | _ => exact h1.elim
        | _ => exact h1.elim⟩⟩
/-- zip(a, b, c) -/
theorem di_zp3 (hg : Gl X "zip") (hm : X.mg "zip" = none) (h : DPs X C W [a, b, c] fs) (hs : starEach [a, b, c] X.env = (false, eval a X.env) :: starEach [b, c] X.env) (hpl : (backTo pos (starEach [b, c] X.env)).any (·.1) = false) (hl : ∀ env vs env', fs env = .ok vs env' → vs.length = 3) :
    DI X C W (.Tuple elts kk tpos) (.Call (.Name "zip" p) [a, b, c] [] pos) (fun env => (fs env).bd fun vs env => R.of (zips vs) env) :=
  ⟨fun pins s σ H Rr I ⟨F, env, fp, sr, h1⟩ => (pi_zip3 hg hm h hs hpl).run pins s σ H Rr I ⟨F, env, fp, sr, by
    cases z : fs env with
    | no => simp only [z, R.bd] at h1
    | exc x env1 => simp only [z, R.bd] at h1; exact h1
    | ok vs env1 =>
      simp only [z, R.bd] at h1
      intro F1 H1 us fp1 q st sr1 ro nd dj
      obtain ⟨rfl, r⟩ := ro
      have l2 : vs.length = 3 := hl env vs env1 z
      match vs, l2 with
      | [v, w, t], _ =>
        obtain ⟨u1, us1, rfl, r1, r⟩ := r.lst1
        obtain ⟨u2, us2, rfl, r2, r⟩ := r.lst1
        obtain ⟨u3, us3, rfl, r3, r⟩ := r.lst1
        have r : us3 = [] := by unfold Rps at r; exact r
        subst r
        cases v with
        | lst xs =>
          cases w with
          | lst ys =>
            cases t with
            | lst zs =>
              simp only [zips, R.of] at h1
              unfold Rp at r1 r2 r3
              obtain ⟨a1, vs1, rfl, k1, k2⟩ := r1
              obtain ⟨a2, vs2, rfl, k3, k4⟩ := r2
              obtain ⟨a3, vs3, rfl, k5, k6⟩ := r3
              exact ⟨a1, a2, a3, vs1, vs2, vs3, rfl, .inl (Same.rd sr1.sF k1), .inl (Same.rd sr1.sF k3), .inl (Same.rd sr1.sF k5), h1 F1 H1 fp1 _ st sr1 (walk_zip3 (.inl k1) k2 (.inl k3) k4 (.inl k5) k6)⟩
            | _ => exact h1.elim
          | _ => exact h1.elim
        | tup xs => cases w <;> exact h1.elim
        | _ => exact h1.elim⟩⟩
end
end EN

/-! EnJ: statements. -/
namespace EN
open PySem L2 PyProof.Rows
/-- names that keep what they were handed -/
def Kept (pr : List Bool) (σ σ' : Sg) : Prop := σ'.length = σ.length ∧ ∀ i, pr.getD i false = true → σ'[i]? = σ[i]?
section
variable (K : PySem.W.Frag) (C : Nat → Addr) (W : WX) (pr : List Bool)
def ASx (D : Ends) (σ : Sg) (F H : Hp) (A : Addr → Prop) (res : R Fl) : Prop := match res with
  | .ok .nx env' => ∀ F' H' σ' fp', Step F H A F' H' (Ow fp' []) → SR K F' H' env' σ' fp' → Kept pr σ σ' → D.nx σ' H'
  | .ok .bk env' => ∀ F' H' σ' fp', Step F H A F' H' (Ow fp' []) → SR K F' H' env' σ' fp' → Kept pr σ σ' → D.bk σ' H'
  | .ok .ct env' => ∀ F' H' σ' fp', Step F H A F' H' (Ow fp' []) → SR K F' H' env' σ' fp' → Kept pr σ σ' → D.ct σ' H'
  | .ok (.rt r) env' => ∀ F' H' σ' fp' u q, Step F H A F' H' (Ow fp' q) → SR K F' H' env' σ' fp' → Kept pr σ σ' → Ro K F' H' r u q → q.Nodup → (∀ a ∈ q, ∀ i, a ∉ fp' i) → D.rt u H'
  | .exc x env' => ∀ F' H' σ' fp' cls d, Step F H A F' H' (Ow fp' []) → SR K F' H' env' σ' fp' → Kept pr σ σ' → XR C x cls d F' → W cls d σ' H'
  | .no => False
def TSx (f : Env → R Fl) : TS := fun D σ H => ∃ F env fp, SR K F H env σ fp ∧ ASx K C W pr D σ F H (Ow fp []) (f env)
end
abbrev DS (X : Cx) (C : Nat → Addr) (W : WX) (pr : List Bool) (st : Stmt) (f : Env → R Fl) : Prop := PS X st (TSx X.K C W pr f)
abbrev DSs (X : Cx) (C : Nat → Addr) (W : WX) (pr : List Bool) (st : List Stmt) (f : Env → R Fl) : Prop := PSs X st (TSx X.K C W pr f)
section
variable {K : PySem.W.Frag} {C : Nat → Addr} {W : WX} {pr : List Bool} {D : Ends} {σ σ1 : Sg} {F H F1 H1 : Hp} {A A1 : Addr → Prop}
theorem Kept.refl : Kept pr σ σ := ⟨rfl, fun _ _ => rfl⟩
theorem Kept.trans {σ2 : Sg} (a : Kept pr σ σ1) (b : Kept pr σ1 σ2) : Kept pr σ σ2 := ⟨b.1.trans a.1, fun i h => (b.2 i h).trans (a.2 i h)⟩
theorem ASx.shift {res : R Fl} (st : Step F H A F1 H1 A1) (k : Kept pr σ σ1) (h : ASx K C W pr D σ F H A res) : ASx K C W pr D σ1 F1 H1 A1 res := by
  cases res with
  | ok f env' =>
    cases f with
    | nx => exact fun F' H' σ' fp' s2 sr kp => h F' H' σ' fp' (st.trans s2 fun _ z => z) sr (k.trans kp)
    | bk => exact fun F' H' σ' fp' s2 sr kp => h F' H' σ' fp' (st.trans s2 fun _ z => z) sr (k.trans kp)
    | ct => exact fun F' H' σ' fp' s2 sr kp => h F' H' σ' fp' (st.trans s2 fun _ z => z) sr (k.trans kp)
    | rt r => exact fun F' H' σ' fp' u q s2 sr kp => h F' H' σ' fp' u q (st.trans s2 fun _ z => z) sr (k.trans kp)
  | exc x env' => exact fun F' H' σ' fp' cls d s2 sr kp => h F' H' σ' fp' cls d (st.trans s2 fun _ z => z) sr (k.trans kp)
  | no => exact h
theorem ASx.sub {B : Addr → Prop} {res : R Fl} (st : ∀ a, B a → A a) (h : ASx K C W pr D σ F H A res) : ASx K C W pr D σ F H B res := by
  cases res with
  | ok f env' =>
    cases f with
    | nx => exact fun F' H' σ' fp' s2 sr kp => h F' H' σ' fp' (s2.grow st) sr kp
    | bk => exact fun F' H' σ' fp' s2 sr kp => h F' H' σ' fp' (s2.grow st) sr kp
    | ct => exact fun F' H' σ' fp' s2 sr kp => h F' H' σ' fp' (s2.grow st) sr kp
    | rt r => exact fun F' H' σ' fp' u q s2 sr kp => h F' H' σ' fp' u q (s2.grow st) sr kp
  | exc x env' => exact fun F' H' σ' fp' cls d s2 sr kp => h F' H' σ' fp' cls d (s2.grow st) sr kp
  | no => exact h
theorem ASx.base {fp : Nat → List Addr} {q : List Addr} {res : R Fl} (h : ASx K C W pr D σ F H (Ow fp q) res) : ASx K C W pr D σ F H (Ow fp []) res := h.sub ow0
/-- behind an expression -/
theorem ASx.bd {α β : Type} {rl : Rel α β} {x : R α} {f : α → Env → R Fl} {Q1 : β → Hp → Prop} (h : ASx K C W pr D σ F H A (x.bd f))
    (k : ∀ a env' F' H' b fp' q, x = .ok a env' → Step F H A F' H' (Ow fp' q) → SR K F' H' env' σ fp' → rl F' H' env' σ a b q → q.Nodup → (∀ a ∈ q, ∀ i, a ∉ fp' i) → ASx K C W pr D σ F' H' (Ow fp' q) (f a env') → Q1 b H') :
    AX K C W rl σ F H A x Q1 := by
  cases x with
  | ok a env' => exact fun F' H' b fp' q st sr r nd dj => k a env' F' H' b fp' q rfl st sr r nd dj (ASx.shift st Kept.refl h)
  | exc x env' => exact fun F' H' fp' cls d st sr xr => h F' H' σ fp' cls d st sr Kept.refl xr
  | no => exact h
/-- behind a statement -/
theorem ASx.then_ {x : R Fl} {f : Env → R Fl} {N : L2.St → Hp → Prop} (h : ASx K C W pr D σ F H A (x.bd fun fl env => match fl with | .nx => f env | fl => .ok fl env))
    (k : ∀ env' F' H' σ' fp', x = .ok .nx env' → Step F H A F' H' (Ow fp' []) → SR K F' H' env' σ' fp' → Kept pr σ σ' → ASx K C W pr D σ' F' H' (Ow fp' []) (f env') → N σ' H') :
    ASx K C W pr { D with nx := N } σ F H A x := by
  cases x with
  | ok fl env' =>
    cases fl with
    | nx => exact fun F' H' σ' fp' st sr kp => k env' F' H' σ' fp' rfl st sr kp (ASx.shift st kp h)
    | bk => exact h
    | ct => exact h
    | rt r => exact h
  | exc x env' => exact h
  | no => exact h
end
section
variable {X : Cx} {C : Nat → Addr} {W : WX} {pr : List Bool} {e a b : Expr} {es : List Expr} {f : Env → R OV} {pos p1 : Pos}
theorem dss_nil : DSs X C W pr [] (fun env => .ok .nx env) :=
  ⟨fun pins s σ H D I ⟨F, env, fp, sr, h1⟩ => pss_nil.run pins s σ H D I (h1 F H σ fp (Step.refl fun _ z => z) sr Kept.refl)⟩
theorem dss_cons {st : Stmt} {rest : List Stmt} {g gs : Env → R Fl} (h : DS X C W pr st g) (hs : DSs X C W pr rest gs) : DSs X C W pr (st :: rest) (fun env => (g env).bd fun fl env => match fl with | .nx => gs env | fl => .ok fl env) :=
  ⟨fun pins s σ H D I ⟨F, env, fp, sr, h1⟩ => (pss_cons h hs).run pins s σ H D I ⟨F, env, fp, sr, ASx.then_ h1 fun env' F' H' σ' fp' _ st sr' kp h2 => ⟨F', env', fp', sr', h2⟩⟩⟩
theorem ds_brk : DS X C W pr (.Break pos) (fun env => .ok .bk env) :=
  ⟨fun pins s σ H D I ⟨F, env, fp, sr, h1⟩ => ps_break.run pins s σ H D I (h1 F H σ fp (Step.refl fun _ z => z) sr Kept.refl)⟩
theorem ds_cont : DS X C W pr (.Continue pos) (fun env => .ok .ct env) :=
  ⟨fun pins s σ H D I ⟨F, env, fp, sr, h1⟩ => ps_continue.run pins s σ H D I (h1 F H σ fp (Step.refl fun _ z => z) sr Kept.refl)⟩
theorem ds_pass : DS X C W pr (.Pass pos) (fun env => .ok .nx env) :=
  ⟨fun pins s σ H D I ⟨F, env, fp, sr, h1⟩ => ps_pass.run pins s σ H D I (h1 F H σ fp (Step.refl fun _ z => z) sr Kept.refl)⟩
/-- an expression whose value is dropped -/
theorem ds_expr (h : DE X C W e f) (hs : swapsWith e none pos.line X.env = pure false) : DS X C W pr (.Expr e pos) (fun env => (f env).bd fun _ env => .ok .nx env) :=
  ⟨fun pins s σ H D I ⟨F, env, fp, sr, h1⟩ => (ps_expr h hs).run pins s σ H D I ⟨F, env, fp, sr, ASx.bd h1 fun r env1 F1 H1 u fp1 q1 e1 st1 sr1 ro1 nd1 dj1 h1 => h1.base F1 H1 σ fp1 (Step.refl fun _ z => z) sr1 Kept.refl⟩⟩
/-- return e, e a value of its own -/
theorem ds_ret {g : Env → R OV} (h : DE X C W e g) : DS X C W pr (.Return (some e) pos) (fun env => (g env).bd fun r env => .ok (.rt r) env) :=
  ⟨fun pins s σ H D I ⟨F, env, fp, sr, h1⟩ => (ps_ret h).run pins s σ H D I ⟨F, env, fp, sr, ASx.bd h1 fun r env1 F1 H1 u fp1 q1 e1 st1 sr1 ro1 nd1 dj1 h1 => h1 F1 H1 σ fp1 u q1 (Step.refl fun _ z => z) sr1 Kept.refl ro1 nd1 dj1⟩⟩
/-- if -/
theorem ds_if {g : Env → R Bool} {ga gb : Env → R Fl} {sa sb : List Stmt} (h : DT X C W e g) (ha : DSs X C W pr sa ga) (hb : DSs X C W pr sb gb) : DS X C W pr (.If e sa sb pos) (fun env => (g env).bd fun c env => if c then ga env else gb env) :=
  ⟨fun pins s σ H D I ⟨F, env, fp, sr, h1⟩ => (ps_if h ha hb).run pins s σ H D I ⟨F, env, fp, sr, ASx.bd h1 fun c env1 F1 H1 k fp1 q1 e1 st1 sr1 ro1 nd1 dj1 h1 => by
    obtain ⟨rfl, rfl⟩ := ro1
    cases c with
    | true => exact ⟨F1, env1, fp1, sr1, h1⟩
    | false => exact ⟨F1, env1, fp1, sr1, h1⟩⟩⟩
end
section
variable {K : PySem.W.Frag} {F H : Hp} {env : Env} {σ : Sg} {fp : Nat → List Addr}
theorem set_get {σ : Sg} {i j : Nat} {v : Option V} (h : j ≠ i) : (σ.set i v)[j]? = σ[j]? := List.getElem?_set_ne (Ne.symm h)
/-- a slot is given a value -/
theorem SR.store (s : SR K F H env σ fp) {i : Nat} {ov : OV} {u : V} {q : List Addr} (r : Ro K F H ov u q) (nd : q.Nodup) (dj : ∀ a ∈ q, ∀ j, a ∉ fp j) (hi : i < σ.length) :
    SR K F H (ss env i (some ov)) (σ.set i (some u)) (fun j => if j = i then q else fp j) where
  sF := s.sF
  len := by rw [ss_len, List.length_set]; exact s.len
  rel := fun j ov' e => by
    by_cases z : j = i
    · subst z
      rw [gs_ss_self (by rw [s.len]; exact hi)] at e
      cases e
      refine ⟨u, by rw [List.getElem?_set_self hi], by simpa using r⟩
    · rw [gs_ss_ne z] at e
      obtain ⟨w, h1, h2⟩ := s.rel j ov' e
      refine ⟨w, by rw [set_get z]; exact h1, ?_⟩
      simp only [if_neg z]; exact h2
  nil := fun j e => by
    by_cases z : j = i
    · subst z
      rw [gs_ss_self (by rw [s.len]; exact hi)] at e
      cases e
    · rw [gs_ss_ne z] at e
      simp only [if_neg z]; exact s.nil j e
  nd := fun j => by
    by_cases z : j = i
    · simp only [if_pos z]; exact nd
    · simp only [if_neg z]; exact s.nd j
  dj := fun j k h a ha hb => by
    by_cases z : j = i
    · by_cases w : k = i
      · exact h (z.trans w.symm)
      · simp only [if_pos z, if_neg w] at ha hb
        exact dj a ha k hb
    · by_cases w : k = i
      · simp only [if_pos w, if_neg z] at ha hb
        exact dj a hb j ha
      · simp only [if_neg z, if_neg w] at ha hb
        exact s.dj j k h a ha hb
theorem ow_store {i : Nat} {q r : List Addr} : ∀ a, Ow (fun j => if j = i then q else fp j) r a → a ∈ q ∨ Ow fp r a := ow_put
theorem Step.storeS {i : Nat} {q : List Addr} : Step F H (Ow fp q) F H (Ow (fun j => if j = i then q else fp j) []) := Step.refl fun a z => by
  rcases ow_put a z with w | w
  · exact .inl w
  · exact ow0 a w
theorem kept_set {pr : List Bool} {i : Nat} {v : Option V} (h : pr.getD i false = false) : Kept pr σ (σ.set i v) := ⟨List.length_set, fun j hj => by
  by_cases z : j = i
  · subst z; rw [h] at hj; cases hj
  · exact set_get z⟩
end
section
variable {X : Cx} {C : Nat → Addr} {W : WX} {pr : List Bool} {e a b : Expr} {es : List Expr} {f : Env → R OV} {pos p1 : Pos}
/-- x = e -/
theorem asg_read {i : Nat} {te : TE} {D : Ends} {σ : Sg} {H : Hp} (hte : ∀ H Q, TX X.K C W (rO X.K) f σ H Q → te σ H Q) (hi : i < σ.length) (h : TSx X.K C W pr (fun env => (f env).bd fun r env => if pr.getD i false then .no else .ok .nx (ss env i (some r))) D σ H) : tAsg te (gName i) D σ H := by
  obtain ⟨F, env, fp, sr, h1⟩ := h
  refine hte H _ ⟨F, env, fp, sr, ASx.bd h1 fun r env1 F1 H1 u fp1 q1 e1 st1 sr1 ro1 nd1 dj1 h1 => ?_⟩
  cases hp : pr.getD i false with
  | true => rw [hp] at h1; exact h1.elim
  | false =>
    rw [hp] at h1
    exact h1 F1 H1 _ _ Step.storeS (sr1.store ro1 nd1 dj1 hi) (kept_set hp)
theorem ds_asg {i : Nat} {x : Str} {px : Pos} (hN : X.N.Nodup) (hi : X.N[i]? = some x) (hx : Loc X.env.scope x) (hf : X.fn x = true ∨ X.env.scope.names.lookup x = some .local) (h : DE X C W e f) (hs : swapsWith e (some (.Name x px)) pos.line X.env = pure false) :
    DS X C W pr (.Assign [.Name x px] e pos) (fun env => (f env).bd fun r env => if pr.getD i false then .no else .ok .nx (ss env i (some r))) :=
  ⟨fun pins s σ H D I t => (ps_set hN hi hx h hs hf).run pins s σ H D I (asg_read (fun _ _ z => z) (by rw [I.len]; exact (List.getElem?_eq_some_iff.mp hi).1) t)⟩
end
end EN

/-! EnM: stores, loops, what is handed back. -/
namespace EN
open PySem L2 PyProof.Rows
section
variable {K : PySem.W.Frag} {F H : Hp} {env : Env} {σ : Sg} {fp : Nat → List Addr}
theorem Ros.len : ∀ {xs : List OV} {us : List V} {q : List Addr}, Ros K F H xs us q → us.length = xs.length
  | [], us, q, h => by unfold Ros at h; rw [h.1]; rfl
  | x :: xs, us, q, h => by
    unfold Ros at h; obtain ⟨u, ws, q1, q2, rfl, rfl, h1, h2⟩ := h
    simp [Ros.len h2]
theorem Ros.setP : ∀ {xs : List OV} {us : List V} {q : List Addr} {k : Nat} {w v : Val} {u : V}, Ros K F H xs us q → xs[k]? = some (.p w) → Rp K F v u → Ros K F H (xs.set k (.p v)) (us.set k u) q
  | [], us, q, k, w, v, u, h, e, r => by simp at e
  | x :: xs, us, q, 0, w, v, u, h, e, r => by
    unfold Ros at h; obtain ⟨u0, ws, q1, q2, rfl, rfl, h1, h2⟩ := h
    simp at e; subst e
    unfold Ro at h1
    obtain ⟨rfl, _⟩ := h1
    simp only [List.set_cons_zero]
    unfold Ros
    exact ⟨u, ws, [], q2, rfl, rfl, by unfold Ro; exact ⟨rfl, r⟩, h2⟩
  | x :: xs, us, q, k + 1, w, v, u, h, e, r => by
    unfold Ros at h; obtain ⟨u0, ws, q1, q2, rfl, rfl, h1, h2⟩ := h
    simp only [List.set_cons_succ]
    unfold Ros
    exact ⟨u0, ws.set k u, q1, q2, rfl, rfl, h1, Ros.setP h2 (by simpa using e) r⟩
theorem Ros.setL : ∀ {xs : List OV} {us : List V} {q : List Addr} {k : Nat} {ys : List Val}, Ros K F H xs us q → xs[k]? = some (.l ys) → q.Nodup → ∃ a vs, us[k]? = some (.ref a) ∧ F a = none ∧ H a = some (.lst vs) ∧ Rps K F ys vs ∧ a ∈ q ∧
    ∀ zs ws, Rps K F zs ws → Ros K F (upd H a (.lst ws)) (xs.set k (.l zs)) us q
  | [], us, q, k, ys, h, e, nd => by simp at e
  | x :: xs, us, q, 0, ys, h, e, nd => by
    unfold Ros at h; obtain ⟨u0, vs0, q1, q2, rfl, rfl, h1, h2⟩ := h
    simp at e; subst e
    unfold Ro at h1
    obtain ⟨a, vs, rfl, rfl, hF, hH, hr⟩ := h1
    refine ⟨a, vs, rfl, hF, hH, hr, by simp, fun zs ws hw => ?_⟩
    simp only [List.set_cons_zero]
    unfold Ros
    refine ⟨_, vs0, [a], q2, rfl, rfl, by unfold Ro; exact ⟨a, ws, rfl, rfl, hF, upd_same, hw⟩, Ros.step (Same.refl F) h2 fun b z => ⟨(Ros.at_ h2 b z).1, fun o eo => ?_⟩⟩
    have : b ≠ a := fun w => by subst w; simp at nd; exact nd.1 z
    rw [upd_ne this]; exact eo
  | x :: xs, us, q, k + 1, ys, h, e, nd => by
    unfold Ros at h; obtain ⟨u0, vs0, q1, q2, rfl, rfl, h1, h2⟩ := h
    have nd' := List.nodup_append.mp nd
    obtain ⟨a, vs, e1, hF, hH, hr, ia, k2⟩ := Ros.setL h2 (by simpa using e) nd'.2.1
    refine ⟨a, vs, by simpa using e1, hF, hH, hr, List.mem_append_right _ ia, fun zs ws hw => ?_⟩
    simp only [List.set_cons_succ]
    unfold Ros
    refine ⟨u0, vs0, q1, q2, rfl, rfl, Ro.step (Same.refl F) h1 fun b z => ⟨(Ro.at_ h1 b z).1, fun o eo => ?_⟩, k2 zs ws hw⟩
    have : b ≠ a := fun w => by subst w; exact nd'.2.2 b z b ia rfl
    rw [upd_ne this]; exact eo
/-- one of a slot's own objects is written -/
theorem SR.writeAt (s : SR K F H env σ fp) {i : Nat} {ov : OV} {u : V} {a : Addr} {o : HO} (hi : i < env.length) (hu : σ[i]? = some (some u)) (ia : a ∈ fp i) (new : Ro K F (upd H a o) ov u (fp i)) :
    SR K F (upd H a o) (ss env i (some ov)) σ fp ∧ Step F H (Ow fp []) F (upd H a o) (Ow fp []) := by
  have hF := (s.at_ ia).1
  have s' : Same F (upd H a o) := fun b o' eb => by
    by_cases z : b = a
    · subst z; rw [hF] at eb; cases eb
    · rw [upd_ne z]; exact s.sF b o' eb
  have p := s.put (Same.refl F) s' (i := i) (o := some ov) (q := fp i) (fun j hj b hb => by
      obtain ⟨n, o, eo⟩ := s.at_ hb
      refine ⟨n, fun o' eo' => ?_⟩
      have : b ≠ a := fun z => by subst z; exact s.dj j i hj b hb ia
      rw [upd_ne this]; exact eo') (fun z => nomatch z)
    (fun ov' eo _ => by cases eo; exact ⟨_, hu, new⟩) (s.nd i) (fun b hb j hj w => s.dj j i hj b w hb) hi
  have ef : (fun j => if j = i then fp i else fp j) = fp := by
    funext j
    by_cases z : j = i
    · subst z; rw [if_pos rfl]
    · rw [if_neg z]
  rw [ef] at p
  refine ⟨p, Same.refl F, fun b o nb eb => ?_, fun b z => .inl z, fun b o eb nb => by rw [eb] at nb; cases nb⟩
  have : b ≠ a := fun z => by subst z; exact nb (.inr ⟨i, ia⟩)
  rw [upd_ne this]; exact eb
end
section
variable {X : Cx} {C : Nat → Addr} {W : WX} {pr : List Bool} {e a b kk : Expr} {es : List Expr} {f fk : Env → R OV} {pos p1 p2 : Pos}
/-- d[k] = e -/
theorem ds_setixD {i : Nat} (hu : X.A.units + 64 < cLine) (hv : PE X a (tVar i)) (hk : DE X C W kk fk) (h : DE X C W e f) (hs : swapsWith e (some (.Subscript a kk p1)) pos.line X.env = pure false) {pins : List (Addr × Obj)} {s : Shared} {σ : Sg} {H : Hp} {D : Ends} {I : Inv X pins σ H s}
    (F : Hp) (env : Env) (fp : Nat → List Addr) (sr : SR X.K F H env σ fp) (h1 : ASx X.K C W pr D σ F H (Ow fp []) ((pv f env).bd fun v env => match gs env i with
    | none => .no
    | some _ => (pv fk env).bd fun n env => match gs env i with
      | some (.l xs) => (match setL xs n v with
        | some zs => .ok .nx (ss env i (some (.l zs)))
        | none => .no)
      | some (.nd xs) => (match setN xs n v with
        | some zs => .ok .nx (ss env i (some (.nd zs)))
        | none => .no)
      | some (.d ks vs) => if isKey n && decide (ks.length < sizeLine) then .ok .nx (ss env i (some (.d (dputK ks n) (dputV ks vs n v)))) else .no
      | _ => .no)) (hd : ∃ v env1 n env2 ks vs, pv f env = .ok v env1 ∧ pv fk env1 = .ok n env2 ∧ gs env2 i = some (.d ks vs)) :
    wpAny (model X.prog X.w) X.A (exec (.Assign [.Subscript a kk p1] e pos) X.env) (SP X pins D) X.xe s := by
  refine (ps_dput (by omega) hv (dp_of_de hk) (dp_of_de h) hs).run pins s σ H D I ⟨F, env, fp, sr, ASx.bd h1 fun v env1 F1 H1 u fp1 q1 e1 st1 sr1 ro1 nd1 dj1 h1 => ?_⟩
  obtain ⟨rfl, rv⟩ := ro1
  cases z : gs env1 i with
  | none => simp only [z] at h1; exact h1.elim
  | some ov =>
    simp only [z] at h1
    obtain ⟨w0, e0, _⟩ := sr1.rel i _ z
    refine ⟨w0, e0, F1, env1, fp1, sr1, ASx.bd h1 fun n env2 F2 H2 un fp2 q2 e2 st2 sr2 ro2 nd2 dj2 h2 => ?_⟩
    obtain ⟨rfl, rn⟩ := ro2
    have rv2 := Rp.mono st2.sF rv
    obtain ⟨v', env1', n', env2', ks, vs, g1, g2, y⟩ := hd
    rw [e1] at g1
    cases g1
    rw [e2] at g2
    cases g2
    simp only [y] at h2
    cases hkk : isKey n && decide (ks.length < sizeLine) with
    | false => rw [hkk] at h2; exact h2.elim
    | true =>
      rw [hkk] at h2
      simp only [Bool.and_eq_true, decide_eq_true_eq] at hkk
      obtain ⟨hkk, hlt⟩ := hkk
      obtain ⟨key, rfl⟩ := key_of_val hkk
      obtain ⟨u0, ep, ro⟩ := sr2.rel i _ y
      unfold Ro at ro
      obtain ⟨p, kvs, rfl, hq, hF, hH, hks, hr⟩ := ro
      rw [e0] at ep
      have : w0 = .ref p := by injection ep with ep; injection ep
      subst this hks
      obtain ⟨k1, k2⟩ := dput_ok (k := key) rv2 hr
      have new : Ro X.K F2 (upd H2 p (.dK (putK kvs key u))) (.d (dputK (kvs.map fun p => kVal p.1) (kVal key)) (dputV (kvs.map fun p => kVal p.1) vs (kVal key) v)) (.ref p) (fp2 i) := by
        rw [hq]
        unfold Ro
        exact ⟨p, _, rfl, rfl, hF, upd_same, k1, k2⟩
      obtain ⟨sr3, st3⟩ := sr2.writeAt (gs_lt y) e0 (by rw [hq]; exact List.mem_cons_self) new
      exact ⟨p, _, rfl, .inl ⟨kvs, key, hH, rp_key rn, by simpa using hlt, rfl⟩, h2 F2 _ σ fp2 st3 sr3 Kept.refl⟩
/-- x[k] = e -/
theorem ds_setix {i : Nat} (hu : X.A.units + 64 < cLine) (hv : PE X a (tVar i)) (hk : DE X C W kk fk) (h : DE X C W e f) (hs : swapsWith e (some (.Subscript a kk p1)) pos.line X.env = pure false)
    (ha : ∀ v, assign (.Subscript a kk p1) X.env v = (do
      let ov ← holding [v] (eval a X.env)
      let iv ← holding [v, ov] (eval kk X.env)
      standAt p1
      holding [v, ov, iv] (setItem ov iv v)
      release [v, ov, iv] [])) : DS X C W pr (.Assign [.Subscript a kk p1] e pos) (fun env => (pv f env).bd fun v env => match gs env i with
    | none => .no
    | some _ => (pv fk env).bd fun n env => match gs env i with
      | some (.l xs) => (match setL xs n v with
        | some zs => .ok .nx (ss env i (some (.l zs)))
        | none => .no)
      | some (.nd xs) => (match setN xs n v with
        | some zs => .ok .nx (ss env i (some (.nd zs)))
        | none => .no)
      | some (.d ks vs) => if isKey n && decide (ks.length < sizeLine) then .ok .nx (ss env i (some (.d (dputK ks n) (dputV ks vs n v)))) else .no
      | _ => .no) :=
  ⟨fun pins s σ H D I ⟨F, env, fp, sr, h1⟩ => by
    by_cases hd : ∃ v env1 n env2 ks vs, pv f env = .ok v env1 ∧ pv fk env1 = .ok n env2 ∧ gs env2 i = some (.d ks vs)
    · exact ds_setixD (I := I) hu hv hk h hs F env fp sr h1 hd
    refine (ps_asg (dp_of_de h) (pg_sub hv (dp_of_de hk) set_list ha) hs (by rfl) (by rfl)).run pins s σ H D I ⟨F, env, fp, sr, ASx.bd h1 fun v env1 F1 H1 u fp1 q1 e1 st1 sr1 ro1 nd1 dj1 h1 => ?_⟩
    obtain ⟨rfl, rv⟩ := ro1
    cases z : gs env1 i with
    | none => simp only [z] at h1; exact h1.elim
    | some ov =>
      simp only [z] at h1
      obtain ⟨w0, e0, _⟩ := sr1.rel i _ z
      refine ⟨w0, e0, F1, env1, fp1, sr1, ASx.bd h1 fun n env2 F2 H2 un fp2 q2 e2 st2 sr2 ro2 nd2 dj2 h2 => ?_⟩
      obtain ⟨rfl, rn⟩ := ro2
      have rv2 := Rp.mono st2.sF rv
      cases y : gs env2 i with
      | none => simp only [y] at h2; exact h2.elim
      | some ov2 =>
        cases ov2 with
        | p v => simp only [y] at h2; exact h2.elim
        | d ks vs => exact (hd ⟨_, _, _, _, _, _, e1, e2, y⟩).elim
        | l xs =>
          simp only [y] at h2
          cases t : setL xs n v with
          | none => rw [t] at h2; exact h2.elim
          | some zs =>
            rw [t] at h2
            cases n with
            | int k =>
              unfold setL at t
              simp only at t
              cases t2 : ixN xs.length k with
              | none => rw [t2] at t; cases t
              | some j =>
                rw [t2] at t; cases t
                obtain ⟨p, vs, ep, hH, hr, wr⟩ := sr2.write (ys := xs.set j v) y
                rw [e0] at ep
                have : w0 = .ref p := by injection ep with ep; injection ep
                subst this
                obtain ⟨sr3, st3⟩ := wr (vs.set j u) (hr.set j rv2)
                unfold Rp at rn
                exact ⟨p, vs, k, j, rfl, rn, hH, by rw [hr.len]; exact t2, h2 F2 _ σ fp2 st3 sr3 Kept.refl⟩
            | _ => cases t
        | nd xs =>
          simp only [y] at h2
          cases t : setN xs n v with
          | none => rw [t] at h2; exact h2.elim
          | some zs =>
            rw [t] at h2
            cases n with
            | int k =>
              unfold setN at t
              simp only at t
              cases t2 : ixN xs.length k with
              | none => simp only [t2] at t; cases t
              | some j =>
                simp only [t2] at t
                cases t3 : xs[j]? with
                | none => simp only [t3] at t; cases t
                | some w =>
                  cases w with
                  | p w =>
                    simp only [t3] at t
                    cases t
                    obtain ⟨u0, ep, ro⟩ := sr2.rel i _ y
                    unfold Ro at ro
                    obtain ⟨p, vs, r, rfl, hq, hF, hH, hr⟩ := ro
                    rw [e0] at ep
                    have : w0 = .ref p := by injection ep with ep; injection ep
                    subst this
                    have hnd := sr2.nd i
                    rw [hq] at hnd
                    have new : Ro X.K F2 (upd H2 p (.lst (vs.set j u))) (.nd (xs.set j (.p v))) (.ref p) (fp2 i) := by
                      rw [hq]
                      unfold Ro
                      refine ⟨p, _, r, rfl, rfl, hF, upd_same, Ros.setP (Ros.step (Same.refl F2) hr fun b hb => ⟨(Ros.at_ hr b hb).1, fun o eo => ?_⟩) t3 rv2⟩
                      have : b ≠ p := fun w => by subst w; exact (List.nodup_cons.mp hnd).1 hb
                      rw [upd_ne this]; exact eo
                    obtain ⟨sr3, st3⟩ := sr2.writeAt (gs_lt y) e0 (by rw [hq]; exact List.mem_cons_self) new
                    unfold Rp at rn
                    exact ⟨p, vs, k, j, rfl, rn, hH, by rw [hr.len]; exact t2, h2 F2 _ σ fp2 st3 sr3 Kept.refl⟩
                  | _ => simp only [t3] at t; cases t
            | _ => cases t⟩
/-- x[k][y] = e -/
theorem ds_nset {i k j : Nat} (hv : PE X a (tVar i)) (hk : PE X kk (tC (.int (k : Int)))) (pk : PlainIx kk) (hj : PE X b (tVar j)) (h : DE X C W e f) (hs : swapsWith e (some (.Subscript (.Subscript a kk p2) b p1)) pos.line X.env = pure false)
    (ha : ∀ v, assign (.Subscript (.Subscript a kk p2) b p1) X.env v = (do
      let ov ← holding [v] (eval (.Subscript a kk p2) X.env)
      let iv ← holding [v, ov] (eval b X.env)
      standAt p1
      holding [v, ov, iv] (setItem ov iv v)
      release [v, ov, iv] [])) : DS X C W pr (.Assign [.Subscript (.Subscript a kk p2) b p1] e pos) (fun env => (pv f env).bd fun v env => match gs env i, gs env j with
    | some (.nd xs), some (.p n) => (match xs[k]? with
      | some (.l ys) => (match setL ys n v with
        | some zs => .ok .nx (ss env i (some (.nd (xs.set k (.l zs)))))
        | none => .no)
      | _ => .no)
    | _, _ => .no) :=
  ⟨fun pins s σ H D I ⟨F, env, fp, sr, h1⟩ => (ps_asg (dp_of_de h) (pg_sub (pe_ix ix_list hv hk pk) hj set_list ha) hs (by rfl) (by rfl)).run pins s σ H D I ⟨F, env, fp, sr, ASx.bd h1 fun v env1 F1 H1 u fp1 q1 e1 st1 sr1 ro1 nd1 dj1 h1 => by
    obtain ⟨rfl, rv⟩ := ro1
    cases z : gs env1 i with
    | none => simp only [z] at h1; exact h1.elim
    | some ov =>
      cases ov with
      | nd xs =>
        cases z2 : gs env1 j with
        | none => simp only [z, z2] at h1; exact h1.elim
        | some oj =>
          cases oj with
          | p n =>
            simp only [z, z2] at h1
            cases y : xs[k]? with
            | none => simp only [y] at h1; exact h1.elim
            | some w =>
              cases w with
              | l ys =>
                simp only [y] at h1
                cases t : setL ys n v with
                | none => rw [t] at h1; exact h1.elim
                | some zs =>
                  rw [t] at h1
                  cases n with
                  | int m =>
                    unfold setL at t
                    simp only at t
                    cases t2 : ixN ys.length m with
                    | none => rw [t2] at t; cases t
                    | some jj =>
                      rw [t2] at t; cases t
                      obtain ⟨u0, ep, ro⟩ := sr1.rel i _ z
                      obtain ⟨u2, e2, r2⟩ := sr1.rel j _ z2
                      unfold Ro at ro r2
                      obtain ⟨p, vs, r, rfl, hq, hF, hH, hr⟩ := ro
                      have hnd := sr1.nd i
                      rw [hq] at hnd
                      obtain ⟨hnp, hndr⟩ := List.nodup_cons.mp hnd
                      obtain ⟨a', vs', e3, hF', hH', hr', ia, wr⟩ := hr.setL y hndr
                      have r2' := r2.2
                      unfold Rp at r2'
                      subst r2'
                      have np : p ≠ a' := fun w => by subst w; exact hnp ia
                      have new : Ro X.K F1 (upd H1 a' (.lst (vs'.set jj u))) (.nd (xs.set k (.l (ys.set jj v)))) (.ref p) (fp1 i) := by
                        rw [hq]
                        unfold Ro
                        exact ⟨p, vs, r, rfl, rfl, hF, by rw [upd_ne np]; exact hH, wr _ _ (hr'.set jj rv)⟩
                      obtain ⟨sr3, st3⟩ := sr1.writeAt (gs_lt z) ep (by rw [hq]; exact List.mem_cons_of_mem _ ia) new
                      exact ⟨_, ep, p, vs, k, _, rfl, rfl, SqL.of hH, atI_nat e3, _, e2, a', vs', m, jj, rfl, rfl, hH', by rw [hr'.len]; exact t2, h1 F1 _ σ fp1 st3 sr3 Kept.refl⟩
                  | _ => cases t
              | _ => simp only [y] at h1; exact h1.elim
          | _ => simp only [z, z2] at h1; exact h1.elim
      | _ => simp only [z] at h1; exact h1.elim⟩⟩
end
end EN

/-! EnN: loops, targets, comprehensions, return. -/
namespace EN
open PySem L2 PyProof.Rows
def slots : Tg → List Nat
  | .nm i => [i]
  | .tp is => is
def gL : List Nat → TGs
  | [] => gNil
  | i :: is => gCons (gName i) (gL is)
def gT (K : PySem.W.Frag) : Tg → TG
  | .nm i => gName i
  | .tp is => gTup K is.length (gL is)
section
variable {K : PySem.W.Frag} {F H : Hp} {env : Env} {σ : Sg} {fp : Nat → List Addr}
theorem ro_p {v : Val} {u : V} (h : Rp K F v u) : Ro K F H (.p v) u [] := by
  unfold Ro; exact ⟨rfl, h⟩
/-- a slot is given a thing that is nobody's -/
theorem SR.storeP (s : SR K F H env σ fp) {i : Nat} {v : Val} {u : V} (r : Rp K F v u) (hi : i < σ.length) : SR K F H (ss env i (some (.p v))) (σ.set i (some u)) (fun j => if j = i then [] else fp j) :=
  s.store (ro_p r) .nil (fun _ z => (nomatch z)) hi
theorem puts_ok : ∀ {is : List Nat} {xs : List Val} {us : List V} {env env1 : Env} {σ : Sg} {fp : Nat → List Addr} {Q : L2.St → Hp → Prop}, SR K F H env σ fp → Rps K F xs us → puts is xs env = some env1 → (∀ i ∈ is, i < σ.length) →
    (∀ σ' fp', SR K F H env1 σ' fp' → σ'.length = σ.length → (∀ j, j ∉ is → σ'[j]? = σ[j]?) → (∀ i a, a ∈ fp' i → a ∈ fp i) → Q σ' H) → gL is us σ H Q
  | [], xs, us, env, env1, σ, fp, Q, s, r, e, hi, k => by
    cases xs with
    | cons x xs => cases e
    | nil =>
      unfold puts at e; cases e
      unfold Rps at r; subst r
      exact ⟨rfl, k σ fp s rfl (fun _ _ => rfl) fun _ _ z => z⟩
  | i :: is, xs, us, env, env1, σ, fp, Q, s, r, e, hi, k => by
    cases xs with
    | nil => cases e
    | cons x xs =>
      unfold puts at e
      unfold Rps at r
      obtain ⟨u, ws, rfl, r1, r2⟩ := r
      refine ⟨u, ws, rfl, ?_⟩
      refine puts_ok (s.storeP r1 (hi i List.mem_cons_self)) r2 e (fun j hj => by rw [List.length_set]; exact hi j (List.mem_cons_of_mem _ hj)) fun σ' fp' s' hl hg hf => k σ' fp' s' (by rw [hl, List.length_set]) (fun j hj => ?_) fun j a ha => ?_
      · rw [hg j (fun w => hj (List.mem_cons_of_mem _ w)), List.getElem?_set_ne (fun w => hj (by subst w; exact List.mem_cons_self))]
      · have := hf j a ha
        by_cases w : j = i
        · simp only [if_pos w] at this; cases this
        · simp only [if_neg w] at this; exact this
theorem puts_len : ∀ {is : List Nat} {xs : List Val} {env env1 : Env}, puts is xs env = some env1 → xs.length = is.length
  | [], [], _, _, _ => rfl
  | [], _ :: _, _, _, e => by cases e
  | _ :: _, [], _, _, e => by cases e
  | i :: is, x :: xs, env, env1, e => by unfold puts at e; simp [puts_len e]
theorem put_ok {pr : List Bool} {tg : Tg} {v : Val} {u : V} {env1 : Env} {Q : L2.St → Hp → Prop} (s : SR K F H env σ fp) (r : Rp K F v u) (e : putT pr tg v env = some env1) (hi : ∀ i ∈ slots tg, i < σ.length)
    (k : ∀ σ' fp', SR K F H env1 σ' fp' → σ'.length = σ.length → (∀ j, j ∉ slots tg → σ'[j]? = σ[j]?) → Kept pr σ σ' → (∀ i a, a ∈ fp' i → a ∈ fp i) → Q σ' H) : gT K tg u σ H Q := by
  cases tg with
  | nm i =>
    have e : (if pr.getD i false then none else some (ss env i (some (OV.p v)))) = some env1 := e
    cases hp : pr.getD i false with
    | true => rw [hp] at e; cases e
    | false =>
      rw [hp] at e; cases e
      refine k _ _ (s.storeP r (hi i (by simp [slots]))) (by rw [List.length_set]) (fun j hj => ?_) (kept_set hp) fun j a ha => ?_
      · rw [List.getElem?_set_ne (fun w => hj (by subst w; simp [slots]))]
      · by_cases w : j = i
        · simp only [if_pos w] at ha; cases ha
        · simp only [if_neg w] at ha; exact ha
  | tp is =>
    cases v with
    | tup xs =>
      have e : (if is.any fun i => pr.getD i false then none else puts is xs env) = some env1 := e
      split at e
      · cases e
      · rename_i hp
        unfold Rp at r
        obtain ⟨a, vs, rfl, h1, h2⟩ := r
        have hl : vs.length = is.length := by
          rw [h2.len]; exact puts_len e
        refine ⟨a, vs, rfl, Same.sqT s.sF h1, hl, puts_ok s h2 e hi fun σ' fp' s' hl hg hf => k σ' fp' s' hl hg ⟨hl, fun j hj => hg j fun w => hp ?_⟩ hf⟩
        exact List.any_eq_true.mpr ⟨j, w, hj⟩
    | _ => cases e
end
section
variable {X : Cx} {C : Nat → Addr} {W : WX} {pr : List Bool} {e a b : Expr} {es : List Expr} {f : Env → R OV} {pos p1 : Pos}
theorem inv_len {pins : List (Addr × Obj)} {s : Shared} {σ : L2.St} {H : Hp} (I : Inv X pins σ H s) {i : Nat} {x : Str} (h : X.N[i]? = some x) : i < σ.length := by
  rw [I.len]; exact (List.getElem?_eq_some_iff.mp h).1
theorem ds_whl {t : Expr} {g : Env → R Bool} {gb : Env → R Fl} {sb : List Stmt} (hp : PassesOwn (model X.prog X.w) X.A X.env X.xe) (h : DT X C W t g) (hb : DSs X C W pr sb gb) : DS X C W pr (.While t sb [] pos) (fun env => whLoop g gb most env) :=
  ⟨fun pins s σ H D I ⟨F, env, fp, sr, h1⟩ => (ps_while hp h hb).run pins s σ H D I ⟨fun m σ' H' => ∃ F' env' fp', SR X.K F' H' env' σ' fp' ∧ ASx X.K C W pr D σ' F' H' (Ow fp' []) (whLoop g gb m env'),
    ⟨most, F, env, fp, sr, h1⟩, fun m σ0 H0 ⟨F0, env0, fp0, sr0, h0⟩ => by
      cases m with
      | zero => exact h0.elim
      | succ n =>
        unfold whLoop at h0
        refine ⟨F0, env0, fp0, sr0, ASx.bd h0 fun c env1 F1 H1 k fp1 q1 e1 st1 sr1 ro1 nd1 dj1 h1 => ?_⟩
        obtain ⟨rfl, rfl⟩ := ro1
        cases c with
        | false => exact h1 F1 H1 σ0 fp1 (Step.refl fun _ z => z) sr1 Kept.refl
        | true =>
          rw [if_pos rfl]
          refine ⟨fun σ' H' => ∃ F' env' fp', SR X.K F' H' env' σ' fp' ∧ ASx X.K C W pr D σ' F' H' (Ow fp' []) (whLoop g gb n env'), fun σ' H' w => ⟨n, by omega, w⟩, F1, env1, fp1, sr1, ?_⟩
          rw [if_pos rfl] at h1
          cases z : gb env1 with
          | no => rw [z] at h1; exact h1
          | exc x env2 => rw [z] at h1; exact h1
          | ok fl env2 =>
            rw [z] at h1
            cases fl with
            | nx => exact fun F2 H2 σ2 fp2 st2 sr2 kp2 => ⟨F2, env2, fp2, sr2, ASx.shift st2 kp2 h1⟩
            | ct => exact fun F2 H2 σ2 fp2 st2 sr2 kp2 => ⟨F2, env2, fp2, sr2, ASx.shift st2 kp2 h1⟩
            | bk => exact h1
            | rt r => exact h1⟩⟩
theorem for_run {K : PySem.W.Frag} {F1 H1 : Hp} {env1 : Env} {σ : Sg} {fp1 : Nat → List Addr} {D : Ends} {tg : Tg} {gb : Env → R Fl} {xs : List Val} {J : L2.It} (sr1 : SR K F1 H1 env1 σ fp1) (wk : Walk K F1 xs J) (h1 : ASx K C W pr D σ F1 H1 (Ow fp1 []) (forLoop (putT pr tg) gb xs env1)) (hN : ∀ i ∈ slots tg, i < σ.length) :
    ∃ Wn : Nat → Nat → L2.St → Hp → Prop, (∃ m, Wn 0 m σ H1) ∧ ∀ i m σ H, Wn i m σ H →
      (J.stop i H ∧ D.nx σ H) ∨ (J.go i H ∧ ∃ N : L2.St → Hp → Prop, (∀ σ' H', N σ' H' → ∃ m', m' < m ∧ Wn (i + 1) m' σ' H') ∧ ∀ x H', J.yld i H x H' → gT K tg x σ H' fun σ2 H2 => TSx K C W pr gb { D with nx := N, ct := N, bk := D.nx } σ2 H2) := by
  refine ⟨fun i m σ' H' => i ≤ xs.length ∧ m = xs.length - i ∧ ∃ F' env' fp', SR K F' H' env' σ' fp' ∧ Same F1 F' ∧ σ'.length = σ.length ∧ ASx K C W pr D σ' F' H' (Ow fp' []) (forLoop (putT pr tg) gb (xs.drop i) env'),
    ⟨xs.length, Nat.zero_le _, rfl, F1, env1, fp1, sr1, Same.refl _, rfl, h1⟩, ?_⟩
  rintro i m σ2 H2 ⟨hi, rfl, F2, env2, fp2, sr2, s12, hl2, h2⟩
  obtain ⟨wgo, wstop⟩ := wk F2 H2 i s12 sr2.sF
  by_cases lt : i < xs.length
  · obtain ⟨go, yld⟩ := wgo lt
    refine .inr ⟨go, fun σ' H' => ∃ F' env' fp', SR K F' H' env' σ' fp' ∧ Same F1 F' ∧ σ'.length = σ.length ∧ ASx K C W pr D σ' F' H' (Ow fp' []) (forLoop (putT pr tg) gb (xs.drop (i + 1)) env'), fun σ' H' w => ⟨xs.length - (i + 1), by omega, lt, rfl, w⟩, fun x H3 hy => ?_⟩
    obtain ⟨F3, v, al, s3, ev, rv⟩ := yld x H3 hy
    have sr3 := sr2.al al s3
    have st3 := al.step fp2
    rw [List.drop_eq_getElem_cons lt] at h2
    have hv : xs[i] = v := by
      rw [List.getElem?_eq_getElem lt] at ev; exact Option.some.inj ev
    rw [hv] at h2
    unfold forLoop at h2
    cases y : putT pr tg v env2 with
    | none => rw [y] at h2; exact h2.elim
    | some env3 =>
      rw [y] at h2
      simp only at h2
      refine put_ok sr3 rv y (fun j hj => by rw [hl2]; exact hN j hj) fun σ4 fp4 sr4 hl4 hg4 kp4 hf4 => ⟨F3, env3, fp4, sr4, ?_⟩
      have st4 : Step F2 H2 (Ow fp2 []) F3 H3 (Ow fp4 []) := st3.less fun a w => by
        rcases w with w | ⟨j, w⟩
        · cases w
        · exact .inr ⟨j, hf4 j a w⟩
      have h3 := ASx.shift st4 kp4 h2
      cases w : gb env3 with
      | no => rw [w] at h3; exact h3
      | exc x env5 => rw [w] at h3; exact h3
      | ok fl env5 =>
        rw [w] at h3
        cases fl with
        | nx => exact fun F5 H5 σ5 fp5 st5 sr5 kp5 => ⟨F5, env5, fp5, sr5, s12.trans (al.sF.trans st5.sF), by rw [kp5.1, hl4, hl2], ASx.shift st5 kp5 h3⟩
        | ct => exact fun F5 H5 σ5 fp5 st5 sr5 kp5 => ⟨F5, env5, fp5, sr5, s12.trans (al.sF.trans st5.sF), by rw [kp5.1, hl4, hl2], ASx.shift st5 kp5 h3⟩
        | bk => exact h3
        | rt r => exact h3
  · have : i = xs.length := by omega
    subst this
    rw [List.drop_length] at h2
    exact .inl ⟨wstop rfl, h2 F2 H2 σ2 fp2 (Step.refl fun _ z => z) sr2 Kept.refl⟩
theorem ds_for {tg : Tg} {te it : Expr} {g : Env → R (List Val)} {gb : Env → R Fl} {sb : List Stmt} (hp : PassesOwn (model X.prog X.w) X.A X.env X.xe) (hc : X.calm = true) (hi : DI X C W te it g) (hg : PG X te (gT X.K tg)) (hN : ∀ i ∈ slots tg, i < X.N.length) (hb : DSs X C W pr sb gb)
    (hs : ∀ x, foldedSetIterable it X.env x = pure x) : DS X C W pr (.For te it sb [] pos) (fun env => (g env).bd fun xs env => forLoop (putT pr tg) gb xs env) :=
  ⟨fun pins s σ H D I ⟨F, env, fp, sr, h1⟩ => (ps_for hp hc hi hg hb hs).run pins s σ H D I ⟨F, env, fp, sr, by
    cases z : g env with
    | no => simp only [z, R.bd] at h1; exact h1
    | exc x env1 => simp only [z, R.bd] at h1; exact fun F' H' fp' cls d st sr' xr => h1 F' H' σ fp' cls d st sr' Kept.refl xr
    | ok xs env1 =>
      simp only [z, R.bd] at h1
      exact fun F1 H1 fp1 J st1 sr1 wk => for_run sr1 wk (ASx.shift st1 Kept.refl h1) fun j hj => by rw [I.len]; exact hN j hj⟩⟩
end
end EN

/-! EnO: comprehensions, return. -/
namespace EN
open PySem L2 PyProof.Rows
theorem wipe_get {σ : Sg} : ∀ {vs : List Nat} {j : Nat}, (wipe σ vs)[j]? = if j ∈ vs ∧ j < σ.length then some none else σ[j]?
  | [], j => by simp [wipe]
  | v :: vs, j => by
    unfold wipe
    by_cases h : j = v
    · subst h
      by_cases hl : j < σ.length
      · rw [List.getElem?_set_self (by rw [wipe_length]; exact hl)]; simp [hl]
      · rw [List.getElem?_eq_none (by rw [List.length_set, wipe_length]; omega)]
        simp [hl]
    · rw [List.getElem?_set_ne (Ne.symm h), wipe_get]
      simp [h]
theorem wipe_eq {σ σ' : Sg} {vs : List Nat} (hl : σ'.length = σ.length) (h : ∀ j, j ∉ vs → σ'[j]? = σ[j]?) : wipe σ' vs = wipe σ vs := by
  apply List.ext_getElem?
  intro j
  rw [wipe_get, wipe_get, hl]
  by_cases z : j ∈ vs
  · by_cases y : j < σ.length
    · simp [z, y]
    · simp only [y, and_false, if_false]; rw [List.getElem?_eq_none (show σ'.length ≤ j by omega), List.getElem?_eq_none (show σ.length ≤ j by omega)]
  · simp [z]; exact h j z
theorem gs_ge : ∀ {env : Env} {j : Nat}, env.length ≤ j → gs env j = none
  | [], _, _ => rfl
  | _ :: _, 0, h => by simp at h
  | _ :: as, j + 1, h => by unfold gs; exact gs_ge (by simpa using h)
theorem gs_ss {env : Env} {i j : Nat} {v : Option OV} : gs (ss env i v) j = if j = i ∧ i < env.length then v else gs env j := by
  by_cases h : j = i
  · subst h
    by_cases hl : j < env.length
    · rw [gs_ss_self hl]; simp [hl]
    · simp only [hl, and_false, if_false]
      rw [gs_ge (by rw [ss_len]; omega), gs_ge (by omega)]
  · rw [gs_ss_ne h]; simp [h]
theorem gs_fold {f : Nat → Option OV} : ∀ {is : List Nat} {env : Env} {j : Nat}, gs (is.foldl (fun e i => ss e i (f i)) env) j = if j ∈ is ∧ j < env.length then f j else gs env j
  | [], env, j => by simp
  | i :: is, env, j => by
    rw [List.foldl_cons, gs_fold, gs_ss, ss_len]
    by_cases h : j = i
    · subst h
      by_cases hl : j < env.length <;> simp [hl]
    · simp [h]
theorem fold_len {f : Nat → Option OV} : ∀ {is : List Nat} {env : Env}, (is.foldl (fun e i => ss e i (f i)) env).length = env.length
  | [], env => rfl
  | i :: is, env => by rw [List.foldl_cons, fold_len, ss_len]
theorem gs_wipe {tg : Tg} {env : Env} {j : Nat} : gs (wipeT tg env) j = if j ∈ slots tg then none else gs env j := by
  have : wipeT tg env = (slots tg).foldl (fun e i => ss e i none) env := by cases tg <;> rfl
  rw [this, gs_fold (f := fun _ => none)]
  by_cases h : j ∈ slots tg
  · by_cases hl : j < env.length
    · simp [h, hl]
    · simp [h, hl, gs_ge (show env.length ≤ j by omega)]
  · simp [h]
theorem gs_rest {tg : Tg} {old env : Env} {j : Nat} : gs (restT tg old env) j = if j ∈ slots tg ∧ j < env.length then kP (gs old j) else gs env j := by
  have : restT tg old env = (slots tg).foldl (fun e i => ss e i (kP (gs old i))) env := by cases tg <;> rfl
  rw [this, gs_fold (f := fun i => kP (gs old i))]
theorem wipeT_len {tg : Tg} {env : Env} : (wipeT tg env).length = env.length := by
  have : wipeT tg env = (slots tg).foldl (fun e i => ss e i none) env := by cases tg <;> rfl
  rw [this, fold_len (f := fun _ => none)]
theorem restT_len {tg : Tg} {old env : Env} : (restT tg old env).length = env.length := by
  have : restT tg old env = (slots tg).foldl (fun e i => ss e i (kP (gs old i))) env := by cases tg <;> rfl
  rw [this, fold_len (f := fun i => kP (gs old i))]
section
variable {K : PySem.W.Frag} {F H F0 H0 : Hp} {env env0 : Env} {σ : Sg} {fp fp0 : Nat → List Addr} {tg : Tg}
theorem off_dj {P : Nat → Prop} [DecidablePred P] (s : SR K F H env σ fp) : ∀ i j, i ≠ j → ∀ a, a ∈ (if P i then [] else fp i) → a ∉ (if P j then [] else fp j) := fun i j h a ha hb => by
  by_cases z : P i
  · rw [if_pos z] at ha; cases ha
  · by_cases y : P j
    · rw [if_pos y] at hb; cases hb
    · rw [if_neg z] at ha; rw [if_neg y] at hb; exact s.dj i j h a ha hb
theorem off_nd {P : Nat → Prop} [DecidablePred P] (s : SR K F H env σ fp) : ∀ i, (if P i then [] else fp i : List Addr).Nodup := fun i => by
  by_cases z : P i
  · rw [if_pos z]; exact .nil
  · rw [if_neg z]; exact s.nd i
theorem SR.wipe (s : SR K F H env σ fp) : SR K F H (wipeT tg env) (L2.wipe σ (slots tg)) (fun j => if j ∈ slots tg then [] else fp j) where
  sF := s.sF
  len := by rw [wipeT_len, wipe_length]; exact s.len
  rel := fun j ov e => by
    rw [gs_wipe] at e
    by_cases z : j ∈ slots tg
    · rw [if_pos z] at e; cases e
    · rw [if_neg z] at e
      obtain ⟨u, h1, h2⟩ := s.rel j ov e
      refine ⟨u, by rw [wipe_get]; simp [z]; exact h1, ?_⟩
      simp only [if_neg z]; exact h2
  nil := fun j e => by
    rw [gs_wipe] at e
    by_cases z : j ∈ slots tg
    · simp only [if_pos z]
    · rw [if_neg z] at e; simp only [if_neg z]; exact s.nil j e
  nd := off_nd s
  dj := off_dj s
theorem SR.rest (s0 : SR K F0 H0 env0 σ fp0) (sm : Same F0 F) (s : SR K F H (wipeT tg env) (L2.wipe σ (slots tg)) fp) : SR K F H (restT tg env0 env) σ (fun j => if j ∈ slots tg then [] else fp j) where
  sF := s.sF
  len := by
    have := s.len
    rw [wipeT_len, wipe_length] at this
    rw [restT_len]; exact this
  rel := fun j ov e => by
    rw [gs_rest] at e
    by_cases z : j ∈ slots tg
    · by_cases y : j < env.length
      · rw [if_pos ⟨z, y⟩] at e
        cases w : gs env0 j with
        | none => rw [w] at e; cases e
        | some o0 =>
          rw [w] at e
          cases o0 with
          | p v =>
            cases e
            obtain ⟨u, h1, h2⟩ := s0.rel j _ w
            unfold Ro at h2
            refine ⟨u, h1, ?_⟩
            simp only [if_pos z]
            exact ro_p (Rp.mono sm h2.2)
          | _ => cases e
      · simp only [y, and_false, if_false] at e
        rw [gs_ge (by omega)] at e; cases e
    · simp only [z, false_and, if_false] at e
      obtain ⟨u, h1, h2⟩ := s.rel j ov (by rw [gs_wipe, if_neg z]; exact e)
      rw [wipe_get] at h1
      simp only [z, false_and, if_false] at h1
      refine ⟨u, h1, ?_⟩
      simp only [if_neg z]; exact h2
  nil := fun j e => by
    by_cases z : j ∈ slots tg
    · simp only [if_pos z]
    · rw [gs_rest] at e
      simp only [z, false_and, if_false] at e
      simp only [if_neg z]
      exact s.nil j (by rw [gs_wipe, if_neg z]; exact e)
  nd := off_nd s
  dj := off_dj s
/-- what is apart from all names stays so -/
theorem stay {F' H' : Hp} {fp' : Nat → List Addr} {q : List Addr} {D : Addr} {o : HO} (st : Step F H (Ow fp []) F' H' (Ow fp' q)) (h : ∀ j, D ∉ fp j) (e : H D = some o) (n : F D = none) : H' D = some o ∧ F' D = none ∧ (∀ j, D ∉ fp' j) := by
  have na : ¬ Ow fp [] D := fun w => by
    rcases w with w | ⟨j, w⟩
    · cases w
    · exact h j w
  refine ⟨st.keep D o na e, ?_, fun j w => ?_⟩
  · cases y : F' D with
    | none => rfl
    | some o2 =>
      rcases st.frz D o2 y n with w | w
      · exact (na w).elim
      · rw [e] at w; cases w
  · rcases st.own D (.inr ⟨j, w⟩) with w | w
    · exact na w
    · rw [e] at w; cases w
abbrev W0 : WX := fun _ _ _ _ => False
theorem lc_read {C : Nat → Addr} {W : WX} {g : Env → R (List Val)} {test : Env → R Bool} {elt : Env → R Val} {Q : VK} (sr : SR K F H env σ fp) (hsl : ∀ i ∈ slots tg, i < σ.length)
    (h1 : AX K C W (rO K) σ F H (Ow fp []) ((g env).bd fun xs env0 => (lcLoop (fun x env => putT [] tg x (wipeT tg env)) test elt xs [] env0).bd fun ys env => .ok (.l ys) (restT tg env0 env)) Q) :
    tLc (TXI K C W g) (gT K tg) (TX K C W0 rB test) (TX K C W0 (rV K) elt) (slots tg) σ H Q := by
  refine ⟨F, env, fp, sr, ?_⟩
  cases z : g env with
  | no => simp only [z, R.bd] at h1; exact h1
  | exc x env1 => simp only [z, R.bd] at h1; exact h1
  | ok xs env0 =>
    simp only [z] at h1
    have h1 : AX K C W (rO K) σ F H (Ow fp []) ((lcLoop (fun x env => putT [] tg x (wipeT tg env)) test elt xs [] env0).bd fun ys env => .ok (.l ys) (restT tg env0 env)) Q := h1
    intro F1 H1 fp1 J st1 sr1 wk D nD
    have nF := Same.free sr1.sF nD
    obtain ⟨al, sN, _⟩ := Al.own (o := .lst []) sr1.sF nD
    have srD := sr1.al al sN
    have nD1 : ∀ j, D ∉ fp1 j := fun j w => by
      obtain ⟨_, o, e⟩ := sr1.at_ w
      rw [nD] at e; cases e
    refine ⟨fun i m Hc => i ≤ xs.length ∧ m = xs.length - i ∧ ∃ Fc envc fpc acc us, SR K Fc Hc (wipeT tg envc) (L2.wipe σ (slots tg)) fpc ∧ Same F1 Fc ∧ Hc D = some (.lst us) ∧ Rps K Fc acc us ∧ Fc D = none ∧ (∀ j, D ∉ fpc j) ∧
      AX K C W (rO K) σ Fc Hc (Ow fpc [D]) ((lcLoop (fun x env => putT [] tg x (wipeT tg env)) test elt (xs.drop i) acc envc).bd fun ys env => .ok (.l ys) (restT tg env0 env)) Q,
      ⟨xs.length, Nat.zero_le _, rfl, F1, env0, _, [], [], srD.wipe, Same.refl _, upd_same, Rps.nil, nF, fun j => ?_, AX.shift (st1.trans (al.step fp1) fun _ w => w) h1 |>.sub fun a w => ?_⟩, ?_⟩
    · by_cases y : j ∈ slots tg
      · simp only [if_pos y]; exact fun w => nomatch w
      · simp only [if_neg y]; exact nD1 j
    · rcases w with w | ⟨j, w⟩
      · exact .inl w
      · by_cases y : j ∈ slots tg
        · simp only [if_pos y] at w; cases w
        · simp only [if_neg y] at w; exact .inr ⟨j, w⟩
    rintro i m Hc ⟨hi, rfl, Fc, envc, fpc, acc, us, src, sc, hD, hr, nc, dc, hc⟩
    obtain ⟨wgo, wstop⟩ := wk Fc Hc i sc src.sF
    by_cases lt : i < xs.length
    · obtain ⟨go, yld⟩ := wgo lt
      refine .inr ⟨go, fun Hn => ∃ Fc envc fpc acc us, SR K Fc Hn (wipeT tg envc) (L2.wipe σ (slots tg)) fpc ∧ Same F1 Fc ∧ Hn D = some (.lst us) ∧ Rps K Fc acc us ∧ Fc D = none ∧ (∀ j, D ∉ fpc j) ∧
        AX K C W (rO K) σ Fc Hn (Ow fpc [D]) ((lcLoop (fun x env => putT [] tg x (wipeT tg env)) test elt (xs.drop (i + 1)) acc envc).bd fun ys env => .ok (.l ys) (restT tg env0 env)) Q, fun H' w => ⟨xs.length - (i + 1), by omega, lt, rfl, w⟩, fun x H3 hy => ?_⟩
      obtain ⟨F3, v, al3, s3, ev, rv⟩ := yld x H3 hy
      have sr3 := src.al al3 s3
      have st3 : Step Fc Hc (Ow fpc []) F3 H3 (Ow fpc []) := al3.step fpc
      rw [List.drop_eq_getElem_cons lt] at hc
      have hv : xs[i] = v := by
        rw [List.getElem?_eq_getElem lt] at ev; exact Option.some.inj ev
      rw [hv] at hc
      unfold lcLoop at hc
      cases y : putT [] tg v (wipeT tg envc) with
      | none => rw [y] at hc; exact hc.elim
      | some env4 =>
        simp only [y] at hc
        refine put_ok sr3 rv y (fun j hj => by rw [wipe_length]; exact hsl j hj) fun σ4 fp4 sr4 hl4 hg4 kp4 hf4 => ?_
        have w4 : L2.wipe σ4 (slots tg) = L2.wipe σ (slots tg) := wipe_eq (by rw [hl4, wipe_length]) fun j hj => by
          rw [hg4 j hj, wipe_get]; simp [hj]
        have st4 : Step Fc Hc (Ow fpc []) F3 H3 (Ow fp4 []) := st3.less fun a w => by
          rcases w with w | ⟨j, w⟩
          · cases w
          · exact .inr ⟨j, hf4 j a w⟩
        obtain ⟨hD3, nF3, dD3⟩ := stay st4 dc hD nc
        have h4 := AX.shift (st4.plus (q1 := [D])) hc
        refine ⟨w4, F3, env4, fp4, sr4, ?_⟩
        cases t : test env4 with
        | no => simp only [t, R.nx, R.bd] at h4; exact h4.elim
        | exc x env5 => simp only [t, R.nx, R.bd] at h4; exact h4.elim
        | ok b env5 =>
          simp only [t, R.nx] at h4
          intro F5 H5 b' fp5 q5 st5 sr5 rb nd5 dj5
          obtain ⟨rfl, rfl⟩ := rb
          obtain ⟨hD5, nF5, dD5⟩ := stay st5 dD3 hD3 nF3
          have h5 := AX.shift (st5.plus (q1 := [D])) h4
          have wp : ∀ {F6 H6 : Hp} {env6 : Env} {fp6 : Nat → List Addr} {acc' : List Val} {us' : List V}, SR K F6 H6 env6 σ4 fp6 → Same F1 F6 → H6 D = some (.lst us') → Rps K F6 acc' us' → F6 D = none → (∀ j, D ∉ fp6 j) → AX K C W (rO K) σ F6 H6 (Ow fp6 [D]) ((lcLoop (fun x env => putT [] tg x (wipeT tg env)) test elt (xs.drop (i + 1)) acc' env6).bd fun ys env => .ok (.l ys) (restT tg env0 env)) Q →
              ∃ Fc envc fpc acc us, SR K Fc H6 (wipeT tg envc) (L2.wipe σ (slots tg)) fpc ∧ Same F1 Fc ∧ H6 D = some (.lst us) ∧ Rps K Fc acc us ∧ Fc D = none ∧ (∀ j, D ∉ fpc j) ∧
                AX K C W (rO K) σ Fc H6 (Ow fpc [D]) ((lcLoop (fun x env => putT [] tg x (wipeT tg env)) test elt (xs.drop (i + 1)) acc envc).bd fun ys env => .ok (.l ys) (restT tg env0 env)) Q := fun {F6 H6 env6 fp6 acc' us'} sr6 s6 hD6 r6 n6 d6 h6 => by
            refine ⟨F6, env6, _, acc', us', w4 ▸ sr6.wipe, s6, hD6, r6, n6, fun j => ?_, h6.sub fun a w => ?_⟩
            · by_cases y : j ∈ slots tg
              · simp only [if_pos y]; exact fun w => nomatch w
              · simp only [if_neg y]; exact d6 j
            · rcases w with w | ⟨j, w⟩
              · exact .inl w
              · by_cases y : j ∈ slots tg
                · simp only [if_pos y] at w; cases w
                · simp only [if_neg y] at w; exact .inr ⟨j, w⟩
          cases b with
          | false => exact wp sr5 (sc.trans (al3.sF.trans st5.sF)) hD5 (hr.mono (al3.sF.trans st5.sF)) nF5 dD5 h5
          | true =>
            have h5 : AX K C W (rO K) σ F5 H5 (Ow fp5 [D]) (((elt env5).nx.bd fun y env3 => if acc.length < sizeLine then lcLoop (fun x env => putT [] tg x (wipeT tg env)) test elt (xs.drop (i + 1)) (acc ++ [y]) env3 else .no).bd fun ys env => .ok (.l ys) (restT tg env0 env)) Q := h5
            refine ⟨F5, env5, fp5, sr5, ?_⟩
            cases t2 : elt env5 with
            | no => simp only [t2, R.nx, R.bd] at h5; exact h5.elim
            | exc x env6 => simp only [t2, R.nx, R.bd] at h5; exact h5.elim
            | ok yv env6 =>
              simp only [t2, R.nx] at h5
              intro F6 H6 u fp6 q6 st6 sr6 ru nd6 dj6
              obtain ⟨rfl, ru⟩ := ru
              obtain ⟨hD6, nF6, dD6⟩ := stay st6 dD5 hD5 nF5
              have h6 := AX.shift (st6.plus (q1 := [D])) h5
              have h6 : AX K C W (rO K) σ F6 H6 (Ow fp6 [D]) ((if acc.length < sizeLine then lcLoop (fun x env => putT [] tg x (wipeT tg env)) test elt (xs.drop (i + 1)) (acc ++ [yv]) env6 else .no).bd fun ys env => .ok (.l ys) (restT tg env0 env)) Q := h6
              by_cases hz : acc.length < sizeLine
              · rw [if_pos hz] at h6
                have sm6 : Same F6 (upd H6 D (.lst (us ++ [u]))) := fun a o e => by
                  rw [upd_ne (fun w => by subst w; rw [nF6] at e; cases e)]
                  exact sr6.sF a o e
                have st7 : Step F6 H6 (fun a => a = D) F6 (upd H6 D (.lst (us ++ [u]))) (fun a => a = D) := ⟨Same.refl _, fun a o n e => by rw [upd_ne n]; exact e, fun a w => .inl w, fun a o e n => by rw [e] at n; cases n⟩
                have sr7 := sr6.along st7 (fun j a ha w => by subst w; exact dD6 j ha) sm6
                have st8 : Step F6 H6 (Ow fp6 [D]) F6 (upd H6 D (.lst (us ++ [u]))) (Ow fp6 [D]) := ⟨Same.refl _, fun a o n e => by rw [upd_ne (fun w => n (.inl (by simp [w])))]; exact e, fun a w => .inl w, fun a o e n => by rw [e] at n; cases n⟩
                have sm := al3.sF.trans (st5.sF.trans st6.sF)
                exact ⟨us, hD6, by rw [hr.len]; exact hz, wp sr7 (sc.trans sm) upd_same ((hr.mono sm).app (Rps.one ru)) nF6 dD6 (AX.shift st8 h6)⟩
              · rw [if_neg hz] at h6; exact h6.elim
    · have : i = xs.length := by omega
      subst this
      rw [List.drop_length] at hc
      refine .inl ⟨wstop rfl, hc Fc Hc (.ref D) _ [D] (Step.refl fun a w => ?_) (sr1.rest sc src) ?_ (by simp) fun a ha j w => ?_⟩
      · rcases w with w | ⟨j, w⟩
        · exact .inl w
        · by_cases y : j ∈ slots tg
          · simp only [if_pos y] at w; cases w
          · simp only [if_neg y] at w; exact .inr ⟨j, w⟩
      · unfold rO Ro
        exact ⟨D, us, rfl, rfl, nc, hD, hr⟩
      · simp at ha; subst ha
        by_cases y : j ∈ slots tg
        · simp only [if_pos y] at w; cases w
        · simp only [if_neg y] at w; exact dc j w
end
section
variable {X : Cx} {C : Nat → Addr} {W : WX} {pr : List Bool} {e a b : Expr} {es : List Expr} {f : Env → R OV} {pos p1 : Pos}
theorem pts_yes {X : Cx} : PTs X [] (TX X.K C W0 rB fun env => .ok true env) :=
  ⟨fun pins s σ H Q I ⟨F, env, fp, sr, h1⟩ => pts_nil.run pins s σ H Q I (AX.al sr h1 (Al.refl F H) sr.sF .nil ⟨rfl, rfl⟩)⟩
theorem de_lc {tg : Tg} {te it elt : Expr} {ifs : List Expr} {scope : Scope} {own : List (Str × Nat)} {g : Env → R (List Val)} {test : Env → R Bool} {eltf : Env → R Val} (hc : X.calm = true) (hN : X.N.Nodup) (hi : DI X C W te it g) (ok : BlkOk X.N X.env.scope scope own) (ho : own.map (·.2) = slots tg)
    (hsl : ∀ i ∈ slots tg, i < X.N.length)
    (hg : ∀ (s : Shared) (H : Hp) (Cc : Addr) (cl : List (Str × Addr)) (fp : List Addr), PG (X.blk s H scope (compEnvC scope cl Cc X.env) fp) te (gT X.K tg))
    (ht : ∀ (s : Shared) (H : Hp) (Cc : Addr) (cl : List (Str × Addr)) (fp : List Addr), PTs (X.blk s H scope (compEnvC scope cl Cc X.env) fp) ifs (TX X.K C W0 rB test))
    (he : ∀ (s : Shared) (H : Hp) (Cc : Addr) (cl : List (Str × Addr)) (fp : List Addr), PE (X.blk s H scope (compEnvC scope cl Cc X.env) fp) elt (TX X.K C W0 (rV X.K) eltf)) (hs : ∀ x, foldedSetIterable it X.env x = pure x) :
    DE X C W (.ListComp elt [⟨te, it, ifs, 0⟩] scope pos) (fun env => (g env).bd fun xs env0 => (lcLoop (fun x env => putT [] tg x (wipeT tg env)) test eltf xs [] env0).bd fun ys env => .ok (.l ys) (restT tg env0 env)) :=
  ⟨fun pins s σ H Q I ⟨F, env, fp, sr, h1⟩ => (pe_lc hc hN hi ok hg ht he hs).run pins s σ H Q I (by
    rw [ho]; exact lc_read sr (fun i hi => by rw [I.len]; exact hsl i hi) h1)⟩
theorem ds_setlc {i : Nat} {y : Str} {py spos : Pos} {tg : Tg} {te it elt : Expr} {ifs : List Expr} {scope : Scope} {own : List (Str × Nat)} {g : Env → R (List Val)} {test : Env → R Bool} {eltf : Env → R Val} (hc : X.calm = true) (hN : X.N.Nodup)
    (hy : X.N[i]? = some y) (hyl : X.env.scope.names.lookup y = some .local) (hsw : swapsWith (.ListComp elt [⟨te, it, ifs, 0⟩] scope pos) (some (.Name y py)) spos.line X.env = pure true)
    (hi : DI X C W te it g) (ok : BlkOk X.N X.env.scope scope own) (ho : own.map (·.2) = slots tg)
    (hsl : ∀ i ∈ slots tg, i < X.N.length)
    (hg : ∀ (s : Shared) (H : Hp) (Cc : Addr) (cl : List (Str × Addr)) (fp : List Addr), PG (X.blk s H scope (compEnvC scope cl Cc X.env) fp) te (gT X.K tg))
    (ht : ∀ (s : Shared) (H : Hp) (Cc : Addr) (cl : List (Str × Addr)) (fp : List Addr), PTs (X.blk s H scope (compEnvC scope cl Cc X.env) fp) ifs (TX X.K C W0 rB test))
    (he : ∀ (s : Shared) (H : Hp) (Cc : Addr) (cl : List (Str × Addr)) (fp : List Addr), PE (X.blk s H scope (compEnvC scope cl Cc X.env) fp) elt (TX X.K C W0 (rV X.K) eltf)) (hs : ∀ x, foldedSetIterable it X.env x = pure x) :
    DS X C W pr (.Assign [.Name y py] (.ListComp elt [⟨te, it, ifs, 0⟩] scope pos) spos) (fun env => ((g env).bd fun xs env0 => (lcLoop (fun x env => putT [] tg x (wipeT tg env)) test eltf xs [] env0).bd fun ys env => .ok (.l ys) (restT tg env0 env)).bd fun r env => if pr.getD i false then .no else .ok .nx (ss env i (some r))) :=
  ⟨fun pins s σ H D I t => (ps_setLc hc hN hy hyl hsw hi ok hg ht he hs).run pins s σ H D I (asg_read (f := fun env => (g env).bd fun xs env0 => (lcLoop (fun x env => putT [] tg x (wipeT tg env)) test eltf xs [] env0).bd fun ys env => .ok (.l ys) (restT tg env0 env)) (fun H' Q' ⟨F, env, fp, sr, h1⟩ => by
    rw [ho]; exact lc_read sr (fun i hi => by rw [I.len]; exact hsl i hi) h1) (inv_len I hy) t)⟩
end
end EN

/-! EnP: return, tests of and/or. -/
namespace EN
open PySem L2 PyProof.Rows
def rOs (K : PySem.W.Frag) : Rel (List OV) (List V) := fun F H _ _ r u q => Ros K F H r u q
abbrev DOs (X : Cx) (C : Nat → Addr) (W : WX) (es : List Expr) (f : Env → R (List OV)) : Prop := PA X es (TX X.K C W (rOs X.K) f)
section
variable {K : PySem.W.Frag} {F H : Hp} {env : Env} {σ : Sg} {fp : Nat → List Addr}
theorem Ros.allP : ∀ {os : List OV} {us : List V} {q : List Addr} {vs : List Val}, Ros K F H os us q → EN.allP os = some vs → q = [] ∧ Rps K F vs us
  | [], us, q, vs, r, e => by
    unfold EN.allP at e; cases e
    unfold Ros at r
    obtain ⟨rfl, rfl⟩ := r
    exact ⟨rfl, Rps.nil⟩
  | .p v :: os, us, q, vs, r, e => by
    unfold EN.allP at e
    unfold Ros at r
    obtain ⟨u, ws, q1, q2, rfl, rfl, r1, r2⟩ := r
    cases z : EN.allP os with
    | none => rw [z] at e; cases e
    | some ws' =>
      rw [z] at e; cases e
      obtain ⟨rfl, h⟩ := Ros.allP r2 z
      unfold Ro at r1
      obtain ⟨rfl, r1⟩ := r1
      exact ⟨rfl, Rps.cons r1 h⟩
  | .l xs :: os, us, q, vs, r, e => by cases e
  | .d ks xs :: os, us, q, vs, r, e => by cases e
  | .nd xs :: os, us, q, vs, r, e => by cases e
theorem Ros.along {F2 H2 : Hp} {A2 : Addr → Prop} {os : List OV} {us : List V} {q : List Addr} (r : Ros K F H os us q) (st : Step F H (Ow fp []) F2 H2 A2) (dj : ∀ a ∈ q, ∀ i, a ∉ fp i) : Ros K F2 H2 os us q := by
  refine Ros.step st.sF r fun a z => ?_
  obtain ⟨n, o, e⟩ := Ros.at_ r a z
  have na : ¬ Ow fp [] a := fun w => by
    rcases w with w | ⟨i, w⟩
    · cases w
    · exact dj a z i w
  refine ⟨?_, fun o e => st.keep a o na e⟩
  cases w : F2 a with
  | none => rfl
  | some o2 =>
    rcases st.frz a o2 w n with w | w
    · exact (na w).elim
    · rw [e] at w; cases w
end
section
variable {X : Cx} {C : Nat → Addr} {W : WX} {pr : List Bool} {e a b : Expr} {es : List Expr} {f : Env → R OV} {pos p1 : Pos}
/-- a name's thing given away -/
theorem de_mv {i : Nat} (h : PE X e (tVar i)) : DE X C W e (fun env => match gs env i with
    | some (.p v) => .ok (.p v) env
    | some ov => .ok ov (ss env i none)
    | none => .no) :=
  ⟨fun pins s σ H Q I ⟨F, env, fp, sr, h1⟩ => h.run pins s σ H Q I (by
    cases z : gs env i with
    | none => simp only [z] at h1; exact h1.elim
    | some ov =>
      obtain ⟨u, e1, r⟩ := sr.rel i ov z
      refine ⟨u, e1, ?_⟩
      have gen : AX X.K C W (rO X.K) σ F H (Ow fp []) (.ok ov (ss env i none)) Q → Q u H := fun h1 => by
        refine h1 F H u _ (fp i) (Step.refl fun a w => ?_) (sr.off z) r (sr.nd i) fun a ha j hj => ?_
        · rcases w with w | ⟨j, w⟩
          · exact .inr ⟨i, w⟩
          · by_cases y : j = i
            · simp only [if_pos y] at w; cases w
            · simp only [if_neg y] at w; exact .inr ⟨j, w⟩
        · by_cases y : j = i
          · simp only [if_pos y] at hj; cases hj
          · simp only [if_neg y] at hj; exact sr.dj i j (Ne.symm y) a ha hj
      cases ov with
      | p v =>
        simp only [z] at h1
        unfold Ro at r
        exact AX.al sr h1 (Al.refl F H) sr.sF .nil (by unfold rO; exact ro_p r.2)
      | l xs => simp only [z] at h1; exact gen h1
      | d ks xs => simp only [z] at h1; exact gen h1
      | nd xs => simp only [z] at h1; exact gen h1)⟩
theorem dos_nil : DOs X C W [] (fun env => .ok [] env) :=
  ⟨fun ps pins s σ H Q I ⟨F, env, fp, sr, h1⟩ => pa_nil.run ps pins s σ H Q I (AX.al sr h1 (Al.refl F H) sr.sF .nil (by unfold rOs Ros; exact ⟨rfl, rfl⟩))⟩
theorem dos_cons {gs : Env → R (List OV)} (h : DE X C W e f) (hs : DOs X C W es gs) (he : starEach (e :: es) X.env = (false, eval e X.env) :: starEach es X.env) :
    DOs X C W (e :: es) (fun env => (f env).bd fun v env => (gs env).bd fun vs env => .ok (v :: vs) env) :=
  ⟨fun ps pins s σ H Q I ⟨F, env, fp, sr, h1⟩ => (pa_cons h hs he).run ps pins s σ H Q I
    ⟨F, env, fp, sr, AX.bd h1 fun v env1 F1 H1 u fp1 q1 e1 st1 sr1 ro1 nd1 dj1 h1 => ⟨F1, env1, fp1, sr1, AX.bdF ow0 h1 fun vs env2 F2 H2 us fp2 q2 e2 st2 sr2 ro2 nd2 dj2 h2 => by
      have ap := Step.apart st2 (fun a z => (Ro.at_ ro1 a z).2) dj1
      refine h2 _ st2.plus F2 H2 (u :: us) fp2 (q1 ++ q2) (Step.refl fun a z => z) sr2 (by unfold rOs Ros; exact ⟨u, us, q1, q2, rfl, rfl, Ro.along ro1 st2 dj1, ro2⟩) ?_ ?_
      · exact List.nodup_append.mpr ⟨nd1, nd2, fun x hx y hy e => ap x hx (.inl (e ▸ hy))⟩
      · intro a z i w
        rcases List.mem_append.mp z with z | z
        · exact ap a z (.inr ⟨i, w⟩)
        · exact dj2 a z i w⟩⟩⟩
/-- a new list of things of one's own -/
theorem de_lstO {fs : Env → R (List OV)} (h : DOs X C W es fs) : DE X C W (.List es pos) (fun env => (fs env).bd fun vs env => if vs.length ≤ sizeLine then .ok (lstO vs) env else .no) :=
  ⟨fun pins s σ H Q I ⟨F, env, fp, sr, h1⟩ => (pe_lst h).run pins s σ H Q I ⟨F, env, fp, sr, AX.bd h1 fun vs env1 F1 H1 us fp1 q1 e1 st1 sr1 ro1 nd1 dj1 h1 => by
    have hl : us.length = vs.length := Ros.len ro1
    by_cases hz : vs.length ≤ sizeLine
    · rw [if_pos hz] at h1
      refine ⟨by rw [hl]; exact hz, fun p n => ?_⟩
      obtain ⟨al, sN, nF⟩ := Al.own (o := .lst us) sr1.sF n
      have np : p ∉ q1 := fun w => by
        obtain ⟨_, o, e⟩ := Ros.at_ ro1 p w
        rw [n] at e; cases e
      have nf : ∀ i, p ∉ fp1 i := fun i w => by
        obtain ⟨_, o, e⟩ := sr1.at_ w
        rw [n] at e; cases e
      have st : Step F1 H1 (Ow fp1 q1) F1 (upd H1 p (.lst us)) (Ow fp1 (p :: q1)) := ⟨Same.refl _, fun a o _ e => by rw [upd_ne (ne_of_none e n)]; exact e, fun a w => by
        rcases w with w | w
        · rcases List.mem_cons.mp w with w | w
          · subst w; exact .inr n
          · exact .inl (.inl w)
        · exact .inl (.inr w), fun a o e n => by rw [e] at n; cases n⟩
      have sr2 := sr1.al al sN
      cases z : allP vs with
      | some ws =>
        obtain ⟨rfl, r⟩ := Ros.allP ro1 z
        have e : lstO vs = .l ws := by unfold lstO; rw [z]
        rw [e] at h1
        exact h1 F1 _ (.ref p) fp1 [p] st sr2 (by unfold rO Ro; exact ⟨p, us, rfl, rfl, nF, upd_same, r⟩) (by simp) fun a ha i => by simp at ha; subst ha; exact nf i
      | none =>
        have e : lstO vs = .nd vs := by unfold lstO; rw [z]
        rw [e] at h1
        refine h1 F1 _ (.ref p) fp1 (p :: q1) st sr2 ?_ (List.nodup_cons.mpr ⟨np, nd1⟩) fun a ha i => ?_
        · unfold rO Ro
          exact ⟨p, us, q1, rfl, rfl, nF, upd_same, Ros.step (Same.refl _) ro1 fun a ha => ⟨(Ros.at_ ro1 a ha).1, fun o e => by rw [upd_ne (ne_of_none e n)]; exact e⟩⟩
        · rcases List.mem_cons.mp ha with rfl | ha
          · exact nf i
          · exact dj1 a ha i
    · rw [if_neg hz] at h1; exact h1.elim⟩⟩
/-- what is stuck less often -/
def Le {α : Type} (f g : Env → R α) : Prop := ∀ env, f env = .no ∨ f env = g env
theorem dt_le {g g' : Env → R Bool} (le : Le g' g) (h : DT X C W e g) : DT X C W e g' :=
  ⟨fun pins s σ H Q I ⟨F, env, fp, sr, h1⟩ => h.run pins s σ H Q I ⟨F, env, fp, sr, by
    rcases le env with z | z
    · rw [z] at h1; exact h1.elim
    · rw [← z]; exact h1⟩⟩
end
section
variable {cl : Nat → List OV → CR} {gl : Nat → Option Val}
def tsb (cl : Nat → List OV → CR) (gl : Nat → Option Val) (k : Bool) : List Ex → Env → R Bool
  | [], _ => .no
  | [e], env => tst e (ev cl gl e) env
  | e :: es, env => (tst e (ev cl gl e) env).bd fun c env => if c = k then tsb cl gl k es env else .ok c env
theorem fz_bl {ov : OV} {b : Bool} (h : fz ov = .bl b) : ov = .p (.bl b) := by
  cases ov with
  | p v => unfold fz at h; rw [h]
  | l xs => unfold fz at h; cases h
  | d ks xs => unfold fz at h; cases h
  | nd xs => unfold fz at h; cases h
/-- an operand whose value is a truth -/
theorem tst_plain {e : Ex} {f : Env → R OV} {env : Env} (h : tst e f env = (f env).bd fun r env => match fl r with
    | some v => R.of (truthy v) env
    | none => .no) : (∀ b env', pv f env = .ok (.bl b) env' → tst e f env = .ok b env') ∧ ∀ x env', pv f env = .exc x env' → tst e f env = .exc x env' := by
  refine ⟨fun b env' z => ?_, fun x env' z => ?_⟩
  · rw [h]
    unfold pv at z
    cases w : f env with
    | ok r env1 =>
      rw [w] at z
      have z : R.ok (fz r) env1 = R.ok (.bl b) env' := z
      injection z with z1 z2
      subst z2
      rw [fz_bl z1]
      rfl
    | exc x env1 => rw [w] at z; cases z
    | no => rw [w] at z; cases z
  · rw [h]
    unfold pv at z
    cases w : f env with
    | ok r env1 => rw [w] at z; cases z
    | exc y env1 => rw [w] at z; cases z; rfl
    | no => rw [w] at z; cases z
theorem tst_od {e : Ex} {f : Env → R OV} {env : Env} (h : od e f env = (f env).bd fun r env => .ok (.v r) env) : tst e f env = (f env).bd fun r env => match fl r with
    | some v => R.of (truthy v) env
    | none => .no := by
  unfold tst
  rw [h]
  cases f env <;> rfl
theorem tst_bl {e : Ex} {env : Env} : (∀ b env', pv (ev cl gl e) env = .ok (.bl b) env' → tst e (ev cl gl e) env = .ok b env') ∧ ∀ x env', pv (ev cl gl e) env = .exc x env' → tst e (ev cl gl e) env = .exc x env' := by
  cases e with
  | var i =>
    refine ⟨fun b env' z => ?_, fun x env' z => ?_⟩
    · unfold pv ev at z
      cases w : gs env i with
      | none => simp only [w] at z; cases z
      | some ov =>
        cases ov with
        | p v =>
          simp only [w] at z
          have z : R.ok (fz (.p v)) env = R.ok (.bl b) env' := z
          injection z with z1 z2
          subst z2
          unfold fz at z1; subst z1
          unfold tst od
          simp only [w, R.bd, rd]
          rfl
        | _ =>
          simp only [w] at z
          injection z with z1 z2
          unfold fz at z1
          have := fz_bl z1
          cases this
    · unfold pv ev at z
      cases w : gs env i with
      | none => simp only [w] at z; cases z
      | some ov => cases ov <;> (simp only [w] at z; cases z)
  | ix a i =>
    by_cases hv : ∃ j k, a = .var j ∧ i = .int k
    · obtain ⟨j, k, rfl, rfl⟩ := hv
      by_cases hn : ∃ xs, gs env j = some (.nd xs)
      · obtain ⟨xs, w⟩ := hn
        have z0 : ev cl gl (.ix (.var j) (.int k)) env = .no := by
          unfold ev od2 od
          simp only [w, R.bd]
        refine ⟨fun b env' z => ?_, fun x env' z => ?_⟩ <;> (unfold pv at z; rw [z0] at z; cases z)
      · refine tst_plain (tst_od ?_)
        unfold od
        cases w : gs env j with
        | none => simp only [w]
        | some ov =>
          cases ov with
          | nd xs => exact (hn ⟨xs, w⟩).elim
          | _ => simp only [w]
    · refine tst_plain (tst_od ?_)
      unfold od
      split
      · rename_i h; cases h
      · rename_i h; injection h with h1 h2; exact (hv ⟨_, _, h1, h2⟩).elim
      · rfl
  | _ => exact tst_plain (tst_od rfl)
theorem evb_tsb {k : Bool} : ∀ {es : List Ex} {env : Env}, (∀ r env', evb cl gl k es env = .ok r env' → ∃ b, r = .p (.bl b) ∧ tsb cl gl k es env = .ok b env') ∧ ∀ x env', evb cl gl k es env = .exc x env' → tsb cl gl k es env = .exc x env'
  | [], env => by
    refine ⟨fun r env' z => ?_, fun x env' z => ?_⟩ <;> (unfold evb at z; cases z)
  | [e], env => by
    refine ⟨fun r env' z => ?_, fun x env' z => ?_⟩
    · unfold evb at z
      cases w : pv (ev cl gl e) env with
      | no => rw [w] at z; cases z
      | exc y env1 => rw [w] at z; cases z
      | ok v env1 =>
        rw [w] at z
        cases v with
        | bl b =>
          have z : R.ok (OV.p (.bl b)) env1 = .ok r env' := z
          injection z with z1 z2
          subst z2 z1
          exact ⟨b, rfl, by unfold tsb; exact tst_bl.1 b _ w⟩
        | _ => cases z
    · unfold evb at z
      cases w : pv (ev cl gl e) env with
      | no => rw [w] at z; cases z
      | exc y env1 => rw [w] at z; cases z; unfold tsb; exact tst_bl.2 _ _ w
      | ok v env1 => rw [w] at z; cases v <;> cases z
  | e :: e2 :: es, env => by
    refine ⟨fun r env' z => ?_, fun x env' z => ?_⟩
    · unfold evb at z
      cases w : pv (ev cl gl e) env with
      | no => rw [w] at z; cases z
      | exc y env1 => rw [w] at z; cases z
      | ok v env1 =>
        rw [w] at z
        cases v with
        | bl b =>
          have z : (if b = k then evb cl gl k (e2 :: es) env1 else R.ok (OV.p (.bl b)) env1) = .ok r env' := z
          have t1 := (tst_bl (cl := cl) (gl := gl)).1 b _ w
          by_cases hb : b = k
          · rw [if_pos hb] at z
            obtain ⟨c, h1, h2⟩ := (evb_tsb (es := e2 :: es)).1 _ _ z
            refine ⟨c, h1, ?_⟩
            unfold tsb
            rw [t1]
            show (if b = k then tsb cl gl k (e2 :: es) env1 else R.ok b env1) = _
            rw [if_pos hb]; exact h2
          · rw [if_neg hb] at z
            injection z with z1 z2
            subst z2 z1
            refine ⟨b, rfl, ?_⟩
            unfold tsb
            rw [t1]
            show (if b = k then tsb cl gl k (e2 :: es) env1 else R.ok b env1) = _
            rw [if_neg hb]
        | _ => cases z
    · unfold evb at z
      cases w : pv (ev cl gl e) env with
      | no => rw [w] at z; cases z
      | exc y env1 =>
        rw [w] at z; cases z
        unfold tsb
        rw [tst_bl.2 _ _ w]
        rfl
      | ok v env1 =>
        rw [w] at z
        cases v with
        | bl b =>
          have z : (if b = k then evb cl gl k (e2 :: es) env1 else R.ok (OV.p (.bl b)) env1) = .exc x env' := z
          have t1 := (tst_bl (cl := cl) (gl := gl)).1 b _ w
          by_cases hb : b = k
          · rw [if_pos hb] at z
            have h2 := (evb_tsb (es := e2 :: es)).2 _ _ z
            unfold tsb
            rw [t1]
            show (if b = k then tsb cl gl k (e2 :: es) env1 else R.ok b env1) = _
            rw [if_pos hb]; exact h2
          · rw [if_neg hb] at z; cases z
        | _ => cases z
theorem le_bop {k : Bool} {es : List Ex} : Le (tst (.bop k es) (ev cl gl (.bop k es))) (tsb cl gl k es) := fun env => by
  have e : tst (.bop k es) (ev cl gl (.bop k es)) env = (evb cl gl k es env).bd fun r env => match fl r with
    | some v => R.of (truthy v) env
    | none => .no := by
    rw [tst_od rfl]
    unfold ev
    rfl
  rw [e]
  cases w : evb cl gl k es env with
  | no => exact .inl rfl
  | exc x env1 => exact .inr (evb_tsb.2 _ _ w).symm
  | ok r env1 =>
    obtain ⟨b, rfl, h⟩ := evb_tsb.1 _ _ w
    exact .inr h.symm
theorem le_nt {a : Ex} : Le (tst (.nt a) (ev cl gl (.nt a))) (fun env => (tst a (ev cl gl a) env).bd fun b env => .ok (!b) env) := fun env => by
  rw [tst_od rfl]
  unfold ev
  dsimp only
  cases tst a (ev cl gl a) env <;> exact .inr rfl
theorem le_gin {neg : Bool} {g : Nat} {e : Ex} {ks vs : List Val} (y : gl g = some (.dct ks vs)) : Le (tst (.gin neg g e) (ev cl gl (.gin neg g e))) (fun env => (od e (ev cl gl e) env).bd fun y env => match rd env y with
      | some v => (match v with
        | .str x => .ok (neg != (dget ks vs (.str x)).isSome) env
        | _ => .no)
      | none => .no) := fun env => by
  rw [tst_od rfl]
  unfold ev od1
  rw [y]
  dsimp only
  cases od e (ev cl gl e) env with
  | no => exact .inl rfl
  | exc x env1 => exact .inr rfl
  | ok x env1 =>
    simp only [R.bd]
    cases rd env1 x with
    | none => exact .inl rfl
    | some v => cases v <;> first | exact .inl rfl | exact .inr rfl
theorem le_chn {a b c : Ex} : Le (tst (.chn a b c) (ev cl gl (.chn a b c))) (chR (ev cl gl a) (ev cl gl b) (ev cl gl c)) := fun env => by
  rw [tst_od rfl]
  unfold ev
  cases chR (ev cl gl a) (ev cl gl b) (ev cl gl c) env with
  | no => exact .inl rfl
  | exc x env1 => exact .inr rfl
  | ok x env1 => exact .inr rfl
theorem le_cmp {o : Cop} {a b : Ex} : Le (tst (.cmp o a b) (ev cl gl (.cmp o a b))) (fun env => (od a (ev cl gl a) env).bd fun x env => (od b (ev cl gl b) env).bd fun y env => match rd env x, rd env y with
      | some v, some w => R.of (EN.cmp o v w) env
      | _, _ => .no) := fun env => by
  rw [tst_od rfl]
  unfold ev od2
  dsimp only
  cases od a (ev cl gl a) env with
  | no => exact .inl rfl
  | exc x env1 => exact .inr rfl
  | ok x env1 =>
    simp only [R.bd]
    cases od b (ev cl gl b) env1 with
    | no => exact .inl rfl
    | exc x env1 => exact .inr rfl
    | ok y env2 =>
      simp only
      cases rd env2 x with
      | none => exact .inl rfl
      | some v =>
        cases rd env2 y with
        | none => exact .inl rfl
        | some w =>
          simp only
          cases EN.cmp o v w with
          | none => exact .inl rfl
          | some k => exact .inr rfl
end
end EN

/-! EnER: try: body, except X as n: name = n; what was caught is tracked from then on. -/
namespace EN
open PySem PySem.Spec L2 PyProof.Rows
section
variable {X : Cx} {pins : List (Addr × Obj)} {σ : L2.St} {H : Hp} {s : Shared}
/-- an untracked object is tracked from now on -/
theorem Inv.track {a : Addr} {o : HO} (I : Inv X pins σ H s) (na : H a = none) (n0 : X.s_0.heap.get? a = none) (hp : ∀ p ∈ X.pn ++ pins, p.1 ≠ a) (nL : a ≠ X.env.locals) (nC : ∀ x c, X.env.cells.lookup x = some c → c ≠ a) (new : ObjOk X.prog X.w (upd H a o) s.heap a o) :
    Inv X pins σ (upd H a o) s where
  ok := I.ok
  os := I.os
  bare := I.bare
  base := {
    keep := I.base.keep
    slot := I.base.slot
    free := fun b ob q n hx => by
      have : b ≠ a := fun z => by rw [z, n0] at q; cases q
      rw [upd_ne this]; exact I.base.free b ob q n hx
    there := I.base.there
    tups := fun b xs q => by have z := I.base.tups b xs q; rw [upd_ne (ne_of_none z na)]; exact z
    frzs := fun b o u q => by have z := I.base.frzs b o u q; rw [upd_ne (ne_of_none z na)]; exact z
    tbls := fun b ps q => by
      obtain ⟨more, z⟩ := I.base.tbls b ps q
      exact ⟨more, by rw [upd_ne (ne_of_none z na)]; exact z⟩ }
  loc := I.loc
  cell := I.cell
  free := by rw [upd_ne (Ne.symm nL)]; exact I.free
  freeC := fun x c h => by rw [upd_ne (nC x c h)]; exact I.freeC x c h
  pin := fun p h => by
    obtain ⟨h1, h2, h3⟩ := I.pin p h
    exact ⟨h1, by rw [upd_ne (hp p h)]; exact h2, h3⟩
  hok := fun b u e => by
    by_cases hb : b = a
    · subst hb; rw [upd_same] at e; cases e; exact new
    · rw [upd_ne hb] at e
      exact (I.hok b u e).stay (fun c v _ q => q) (fun c q => by rw [upd_ne (ne_of_none q na)]; exact q) fun c xs q => by rw [upd_ne (ne_of_none q na)]; exact q
  len := I.len
theorem unsuite2 {a : Addr} {q : Addr × Obj} {pn' : List (Addr × Obj)} (I : Inv (X.suite a (q :: (X.pn ++ pins))) pn' σ H s) (ok : X.Ok) : Inv X (q :: pins) σ H s :=
  ⟨ok, I.os, I.bare, I.base, I.loc, I.cell, I.free, I.freeC, fun p hp => I.pin p (by
    rcases List.mem_append.mp hp with z | z
    · exact List.mem_append_left _ (List.mem_cons_of_mem _ (List.mem_append_left _ z))
    · rcases List.mem_cons.mp z with z | z
      · subst z; exact List.mem_append_left _ List.mem_cons_self
      · exact List.mem_append_left _ (List.mem_cons_of_mem _ (List.mem_append_right _ z))), I.hok, I.len⟩
end
/-- name j = name i -/
def tCp (i j : Nat) : TS := fun D σ H => ∃ v, σ[i]? = some (some v) ∧ D.nx (σ.set j (some v)) H
/-- what the clause 'except x as n: m = n' wishes of an error of the body: slot i is n's, slot j is m's -/
def wEr (K : PySem.W.Frag) (c : Value) (i j : Nat) (D : Ends) : WX := fun cls d σ H =>
  PySem.W.exmOne K cls c = some true ∧ i < σ.length ∧ ∃ C, cls = .ref C ∧ ∀ a, H a = none → D.nx (((σ.set i (some (.ref a))).set j (some (.ref a))).set i none) (upd H a (erO a C d))
section
variable {X : Cx} {x n : Str} {c : Value} {i j : Nat} {body suite : List Stmt} {b₀ : Stmt} {np pos pos' : Pos} {tb : WX → TS}
theorem ps_try_er (hs : X.stack = X.env :: X.outer) (hf : X.env.frame = some X.env.locals) (hex : X.ex = []) (hN : X.N.Nodup) (hi : X.N[i]? = some n) (hln : X.env.kindOf n = some .local) (hc : Names X x c)
    (hb : ∀ (W : WX) (pn : List (Addr × Obj)) (xe : Value → Shared → Prop), Takes (X.tr pn xe) W → PassesOwn (model X.prog X.w) X.A X.env xe → PSs (X.tr pn xe) body (tb W))
    (hsu : ∀ (a : Addr) (pn : List (Addr × Obj)), PSs (X.suite a pn) (b₀ :: suite) (tCp i j)) :
    PS X (.Try body [.ExceptHandler (some (.Name x np)) (some n) (b₀ :: suite) pos'] [] [] pos) (fun D σ H => tb (wEr X.K c i j D) D σ H) := by
  refine ⟨fun pins s σ H D I h => ?_⟩
  have ok := I.ok
  have hfr : X.A.frames = some (X.env :: X.outer) := by rw [ok.frames, hs]
  have hloc : Loc X.env.scope n := .inl hln
  refine wpAny_Try_except ?_
  refine wpAny_mono ((hb (wEr X.K c i j D) (X.pn ++ pins) (fun e s₁ => wpAny (model X.prog X.w) X.A (noteFrame e X.env) (fun _ s₂ => wpAny (model X.prog X.w) X.A (setFlight e none) (fun _ s₃ =>
    wpAny (model X.prog X.w) X.A (handleBy e X.env [.ExceptHandler (some (.Name x np)) (some n) (b₀ :: suite) pos']) (SP X pins D) X.xe s₃) X.xe s₂) X.xe s₁) (fun u s' xx => ?_) PassesOwn.looking).run [] s σ H D (I.toTry _) h) (fun f s1 hsp => ?_) (fun e s1 he => he)
  · -- the catch
    obtain ⟨a, B, sI, pins', σ', H', cls, d, rfl, J', nb, up, sky, na, os, ag, hb1, hil, Cc, rfl, hyes⟩ := xx
    have J : Inv X pins σ' H' sI := J'.ofTry ok
    have sky' : Sky B (X.env :: X.outer) a (Zc (.ref Cc) d) X.env.locals s'.heap := by rw [← hs]; exact sky
    show wpAny (model X.prog X.w) X.A (noteFrame (.ref a) X.env) _ _ _
    refine Sky.land Zc.steady hfr hf sky' fun h3 fl3 up3 => ?_
    have J3 : Inv X pins σ' H' { s' with heap := h3 } := J.landed nb fl3.1 (up.trans up3) os ag
    obtain ⟨oe3, vs3, he3, hz3, hd3⟩ := fl3.there
    have notFr : ∀ {h : Heap} {o : Obj} {vs : Array Value}, h.FunFrames B (X.env :: X.outer) → h.get? a = some o → o.data = .fields vs → a ∉ frs (X.env :: X.outer) := fun {h o vs} ff e dd hm => by
      obtain ⟨_, o', e', hnf⟩ := ff.mem hm
      rw [e] at e'; cases e'
      exact hnf _ dd
    have nfr := notFr fl3.2.2.1 he3 hd3
    have nL : a ≠ X.env.locals := fun z => nfr (List.mem_filterMap.mpr ⟨X.env, List.mem_cons_self, by rw [hf, z]⟩)
    have nF : a ∉ X.fs := fun hm => by
      obtain ⟨e, he, q⟩ := List.mem_filterMap.mp hm
      exact nfr (List.mem_filterMap.mpr ⟨e, List.mem_cons_of_mem _ he, q⟩)
    have nB : B.get? a = none := fl3.2.1
    have nI : sI.heap.get? a = none := by
      cases q : sI.heap.get? a with
      | none => rfl
      | some o =>
        have := nb a o q (by rw [hs]; exact nfr)
        rw [nB] at this; cases this
    have n0 : X.s_0.heap.get? a = none := by
      cases q : X.s_0.heap.get? a with
      | none => rfl
      | some o =>
        obtain ⟨o', z⟩ := J.base.there a o q (by rw [hex]; exact fun z => nomatch z)
        rw [nI] at z; cases z
    have hpa : ∀ p ∈ X.pn ++ pins, p.1 ≠ a := fun p hp z => by
      have := (J.pin p hp).1
      rw [z, nI] at this; cases this
    have S3 := J3.suite he3 hd3 na nL nF
    refine wpAny_handleBy_cons (codeAny_handlers_test ?_) (by intro q; cases q)
    have LT : PySem.W.Looks (model X.prog X.w) h3 (typeOf (.ref a)) (.ref Cc) := fun A Q E s k q => wpAny_typeOf_ref (k _ _ he3) (by rw [hz3.1]; exact q)
    have LM := PySem.W.exm_one (M := model X.prog X.w) (J3.kIn) LT hb1
    have test : ∀ {Q : Value → Shared → Prop} {E : Value → Shared → Prop}, Q c { s' with heap := h3 } → wpAny (model X.prog X.w) (X.A.mark (some (.ref a))) (eval (.Name x np) X.env) Q E { s' with heap := h3 } := fun {Q E} q => by
      obtain ⟨hg, hdbg, hm | ⟨hm, hv, hnn⟩⟩ := hc
      · exact ld_glob (X := X.suite a ((a, oe3) :: (X.pn ++ pins))) S3 hg hm q hdbg
      · exact ld_blt (X := X.suite a ((a, oe3) :: (X.pn ++ pins))) S3 hg hm hv q hnn hdbg
    refine test (LM.here ?_)
    refine codeAny_handlers_suite_as ?_
    refine PySem.HandSPX.lands_againZ fl3 fun h4 fl4 up4 => ?_
    have J4 : Inv X pins σ' H' { s' with heap := h4 } := J.landed nb fl4.1 ((up.trans up3).trans up4) os ag
    obtain ⟨oe4, vs4, he4, hz4, hd4⟩ := fl4.there
    have S4 := J4.suite he4 hd4 na nL nF
    refine store_ok (X := X.suite a ((a, oe4) :: (X.pn ++ pins))) (v := .ref a) S4 hN hi hloc rfl (fun s5 S5 => ?_) (.inr hln)
    refine wpAny_mono ((hsu a ((a, oe4) :: (X.pn ++ pins))).run [] s5 _ H' { nx := fun σ6 H6 => σ6 = (σ'.set i (some (.ref a))).set j (some (.ref a)) ∧ H6 = H', rt := fun _ _ => False } S5 ⟨.ref a, by simp [hil], rfl, rfl⟩) (fun f s6 hsp => ?_) (fun _ _ z => False.elim z)
    cases f with
    | next =>
      obtain ⟨σ6, H6, S6, rfl, rfl⟩ := hsp
      refine gone_ok (unsuite2 S6 ok) hN hi hln fun s7 J7 => ?_
      obtain ⟨g7, m7, l7, _, _⟩ := J7.pin (a, oe4) (List.mem_append_right _ List.mem_cons_self)
      refine ⟨_, _, Inv.track (o := erO a Cc d) (J7.pins_of fun p hp => J7.pin p (List.mem_append_right _ (List.mem_cons_of_mem _ hp))) m7 n0 hpa l7 (fun x c hc z => ?_) ?_, hyes a na⟩
      · obtain ⟨v, o, ho, hv⟩ := J7.cell x c hc
        subst z
        have g7 : s7.heap.get? c = some oe4 := g7
        rw [g7] at ho; cases ho
        rw [hd4] at hv; cases hv
      · exact ⟨⟨oe4, g7, hz4.1, hz4.2, vs4, hd4⟩, ⟨oe4, g7⟩, fun h1 h2 ⟨oe, q1, q2⟩ k => ⟨oe, k _ q1, q2⟩⟩
    | brk => obtain ⟨_, _, _, q⟩ := hsp; exact q.elim
    | cont => obtain ⟨_, _, _, q⟩ := hsp; exact q.elim
    | ret u => obtain ⟨_, _, _, _, _, q⟩ := hsp; exact q.elim
  · cases f with
    | next =>
      obtain ⟨σ', H', J', q⟩ := hsp
      exact wpAny_execs_nil ⟨σ', H', J'.ofTry ok, q⟩
    | brk =>
      obtain ⟨σ', H', J', q⟩ := hsp
      exact ⟨σ', H', J'.ofTry ok, q⟩
    | cont =>
      obtain ⟨σ', H', J', q⟩ := hsp
      exact ⟨σ', H', J'.ofTry ok, q⟩
    | ret u =>
      obtain ⟨v, σ', H', J', r, q⟩ := hsp
      exact ⟨v, σ', H', J'.ofTry ok, r, q⟩
end
section
variable {K : PySem.W.Frag} {F H : Hp} {env : Env} {σ : Sg} {fp : Nat → List Addr}
/-- a slot is wiped -/
theorem SR.gone (s : SR K F H env σ fp) {i : Nat} : SR K F H (ss env i none) (σ.set i none) (fun j => if j = i then [] else fp j) where
  sF := s.sF
  len := by rw [ss_len, List.length_set]; exact s.len
  rel := fun j ov' e => by
    by_cases z : j = i
    · subst z
      by_cases hi : j < env.length
      · rw [gs_ss_self hi] at e
        cases e
      · rw [gs_ge (by rw [ss_len]; omega)] at e
        cases e
    · rw [gs_ss_ne z] at e
      obtain ⟨w, h1, h2⟩ := s.rel j ov' e
      refine ⟨w, by rw [set_get z]; exact h1, ?_⟩
      simp only [if_neg z]; exact h2
  nil := fun j e => by
    by_cases z : j = i
    · simp only [if_pos z]
    · rw [gs_ss_ne z] at e
      simp only [if_neg z]; exact s.nil j e
  nd := fun j => by
    by_cases z : j = i
    · simp only [if_pos z]; exact .nil
    · simp only [if_neg z]; exact s.nd j
  dj := fun j k h a ha hb => by
    by_cases z : j = i
    · simp only [if_pos z] at ha; cases ha
    · by_cases w : k = i
      · simp only [if_pos w] at hb; cases hb
      · simp only [if_neg z, if_neg w] at ha hb
        exact s.dj j k h a ha hb
end
section
variable {X : Cx} {C : Nat → Addr} {W : WX} {pr : List Bool} {x n : Str} {c : Value} {i j : Nat} {body suite : List Stmt} {b₀ : Stmt} {np pos pos' : Pos} {g : Env → R Fl}
theorem ds_try (hs : X.stack = X.env :: X.outer) (hf : X.env.frame = some X.env.locals) (hex : X.ex = []) (hN : X.N.Nodup) (hi : X.N[i]? = some n) (hln : X.env.kindOf n = some .local) (hj : j < X.N.length) (hc : Names X x c) (hC : ∀ c, C c = CofK X.K c)
    (hcs : ∀ d, d < 8 → PySem.W.exmOne X.K (.ref (C d)) c = some true)
    (hb : ∀ (W : WX) (pn : List (Addr × Obj)) (xe : Value → Shared → Prop), Takes (X.tr pn xe) W → PassesOwn (model X.prog X.w) X.A X.env xe → DSs (X.tr pn xe) C W pr body g)
    (hsu : ∀ (a : Addr) (pn : List (Addr × Obj)), PSs (X.suite a pn) (b₀ :: suite) (tCp i j)) :
    DS X C W pr (.Try body [.ExceptHandler (some (.Name x np)) (some n) (b₀ :: suite) pos'] [] [] pos) (fun env => match g env with
      | .ok f env => .ok f env
      | .exc x env => if decide (x.cls < 8) && !(pr.getD i false) && !(pr.getD j false) then .ok .nx (ss (ss env j (some (.p (.er x.cls x.word)))) i none) else .no
      | .no => .no) := by
  refine ⟨fun pins s σ H D I ⟨F, env, fp, sr, h1⟩ => (ps_try_er (tb := fun W => TSx X.K C W pr g) hs hf hex hN hi hln hc hb hsu).run pins s σ H D I ⟨F, env, fp, sr, ?_⟩⟩
  dsimp only at h1
  cases z : g env with
  | no => rw [z] at h1; exact h1.elim
  | ok f env1 =>
    rw [z] at h1
    cases f <;> exact h1
  | exc xx env1 =>
    rw [z] at h1
    simp only at h1
    intro F' H' σ' fp' cls d st sr' kp xr
    cases hq : (decide (xx.cls < 8) && !(pr.getD i false) && !(pr.getD j false)) with
    | false => rw [hq] at h1; exact h1.elim
    | true =>
      rw [hq] at h1
      simp only [Bool.and_eq_true, Bool.not_eq_true', decide_eq_true_eq] at hq
      obtain ⟨⟨q1, q2⟩, q3⟩ := hq
      obtain ⟨rfl, xw⟩ := xr
      have hl : i < σ'.length := by rw [kp.1, I.len]; exact (List.getElem?_eq_some_iff.mp hi).1
      have hl2 : j < σ'.length := by rw [kp.1, I.len]; exact hj
      refine ⟨hcs _ q1, hl, _, rfl, fun a na => ?_⟩
      obtain ⟨al, sF2⟩ := Al.frozen (o := erO a (C xx.cls) d) sr'.sF na
      have sr2 := sr'.al al sF2
      have ne : ∀ b o, F' b = some o → b ≠ a := fun b o e w => by subst w; have := sr'.sF _ _ e; rw [na] at this; cases this
      have rp : Rp X.K (upd F' a (erO a (C xx.cls) d)) (.er xx.cls xx.word) (.ref a) := by
        unfold Rp
        exact ⟨a, d, rfl, by rw [← hC]; exact upd_same, ErW.mono al.sF xw⟩
      have hset : ((σ'.set i (some (.ref a))).set j (some (.ref a))).set i none = (σ'.set j (some (.ref a))).set i none := by
        apply List.ext_getElem?
        intro k
        by_cases e1 : k = i
        · subst e1
          rw [List.getElem?_set_self (by simpa using hl), List.getElem?_set_self (by simpa using hl)]
        · rw [set_get e1, set_get e1]
          by_cases e2 : k = j
          · subst e2
            rw [List.getElem?_set_self (by simpa using hl2), List.getElem?_set_self hl2]
          · rw [set_get e2, set_get e2, set_get e1]
      rw [hset]
      have sr3 := (sr2.store (i := j) (ro_p rp) .nil (fun _ z => (nomatch z)) hl2).gone (i := i)
      refine h1 _ _ _ _ (st.trans ((al.step fp').less fun b w => ?_) fun _ z => z) sr3 ((kp.trans (kept_set q3)).trans (kept_set q2))
      rcases w with w | ⟨k, w⟩
      · cases w
      · by_cases e1 : k = i
        · simp only [if_pos e1] at w; cases w
        · simp only [if_neg e1] at w
          by_cases e2 : k = j
          · simp only [if_pos e2] at w; cases w
          · simp only [if_neg e2] at w
            exact .inr ⟨k, w⟩
end
end EN

/-! EnES: raise of own errors: plain ones with a text; the one that bears a word. -/
namespace EN
open PySem PySem.Spec L2 PyProof.Rows
abbrev veB : List Value := [.type "ValueError", .type "Exception", .type "BaseException", .type "object"]
/-- what the top has written of a class that is raised with a text -/
structure RaC (K : PySem.W.Frag) (C : Addr) : Prop where
  ex : PySem.W.excIn K C veB "ValueError.__new__" = true
  kp : PySem.W.keepIn K (.ref C) = true
  sb : PySem.W.subIn K (.ref C) (.type "BaseException") = some true
  ty : PySem.W.typeIn K (.ref C) = some (.type "type")
/-- __init__'s body of the class that bears a word -/
def initB (L : Nat) : List Stmt :=
  [.Expr (.Call (.Attribute (.Name "WidthError" ⟨L, 8, L, 18⟩) "__init__" ⟨L, 8, L, 27⟩) [.Name "self" ⟨L, 28, L, 32⟩, .BinOp (.Constant (.str "no word for ") 0 ⟨L, 34, L, 48⟩) .Add (.Name "word" ⟨L, 51, L, 55⟩) ⟨L, 34, L, 55⟩] [] ⟨L, 8, L, 56⟩) ⟨L, 8, L, 56⟩,
    .Assign [.Attribute (.Name "self" ⟨L + 1, 8, L + 1, 12⟩) "word" ⟨L + 1, 8, L + 1, 17⟩] (.Name "word" ⟨L + 1, 20, L + 1, 24⟩) ⟨L + 1, 8, L + 1, 24⟩]
/-- how its call of the base's is read -/
def HcB (L : Nat) : Prop := ∀ env : PySem.Env, ∃ pl : Sem Bool, eval (.Call (.Attribute (.Name "WidthError" ⟨L, 8, L, 18⟩) "__init__" ⟨L, 8, L, 27⟩) [.Name "self" ⟨L, 28, L, 32⟩, .BinOp (.Constant (.str "no word for ") 0 ⟨L, 34, L, 48⟩) .Add (.Name "word" ⟨L, 51, L, 55⟩) ⟨L, 34, L, 55⟩] [] ⟨L, 8, L, 56⟩) env = (do
      let ov ← eval (.Name "WidthError" ⟨L, 8, L, 18⟩) env
      standAt (⟨L, 8, L, 27⟩ : Pos).atName
      let (f, first) ← holding [ov] (getMethod ov "__init__" pl)
      callWith ⟨L, 8, L, 56⟩ f first (backTo ⟨L, 8, L, 56⟩ (starEach [.Name "self" ⟨L, 28, L, 32⟩, .BinOp (.Constant (.str "no word for ") 0 ⟨L, 34, L, 48⟩) .Add (.Name "word" ⟨L, 51, L, 55⟩) ⟨L, 34, L, 55⟩] env)) (backToKw ⟨L, 8, L, 56⟩ (keywordEach [] env)))
/-- what the top has written of the class that bears a word, at C, over the class at B -/
structure RaW (K : PySem.W.Frag) (mg : Str → Option Value) (C : Addr) : Prop where
  ox : OexC K C
  gB : ∃ B, mg "WidthError" = some (.ref B) ∧ ClX.CRead K B (.type "type") ∧ PySem.W.findCls K (.ref B) (.type "type") "__init__" = some (.val (.builtin "ValueError.__init__"))
  noW : PySem.W.findIn K (.ref C) "word" = some none
  fn : ∃ (fI : Addr) (st : Stmt) (fd : FuncData) (qual : Str) (L : Nat), PySem.W.findIn K (.ref C) "__init__" = some (some (.ref fI)) ∧ PySem.W.typeIn K (.ref fI) = some (.type "function") ∧
    L2.Fun K "__init__" qual st fI fd ∧ FnScope ["self", "word"] ["self", "word"] (defScope st) ∧ defBody st = initB L ∧ HcB L ∧ L2.Binds K fd ["self", "word"] [] ∧ (defScope st).names.lookup ("WidthError" : Str) = some .globalImplicit
section
variable {X : Cx} {C : Nat → Addr} {W : WX} {pr : List Bool}
theorem ds_rsC {c : Nat} {x m : Str} {p p2 pos pos' : Pos} (hc : X.calm = true) (tk : Takes X W) (r : RaC X.K (C c)) (gC : X.mg x = some (.ref (C c))) (hg : Gl X x) (hdb : (x == ("__debug__" : Str)) = false) :
    DS X C W pr (.Raise (some (.Call (.Name x p) [.Constant (.str m) 0 p2] [] pos)) none pos') (fun env => .exc ⟨c, none⟩ env) :=
  ⟨fun pins s σ H D I ⟨F, env, fp, sr, h1⟩ => (ps_raise hc tk (pmk_own PySem.F.excBase_ValueError r.ex gC r.kp (raises_own r.sb r.ty) hg hdb)).run pins s σ H D I (h1 F H σ fp _ none (Step.refl fun _ z => z) sr Kept.refl ⟨rfl, rfl⟩)⟩
/-- B.__init__(self, ..), B an own class without one -/
theorem pe_binit {pl : Sem Bool} {x : Str} {B : Addr} {mc : Value} {e : Expr} {es : List Expr} {ta : TA} {p1 p2 pos : Pos} (hg : Gl X x) (hm : X.mg x = some (.ref B)) (hdb : (x == ("__debug__" : Str)) = false) (r : ClX.CRead X.K B mc) (k : PySem.W.findCls X.K (.ref B) mc "__init__" = some (.val (.builtin "ValueError.__init__"))) (ha : PA X (e :: es) ta)
    (hc : eval (.Call (.Attribute (.Name x p1) "__init__" p2) (e :: es) [] pos) X.env = (do
      let ov ← eval (.Name x p1) X.env
      standAt p2.atName
      let (f, first) ← holding [ov] (getMethod ov "__init__" pl)
      callWith pos f first (backTo pos (starEach (e :: es) X.env)) (backToKw pos (keywordEach [] X.env))))
    (he : starEach (e :: es) X.env = (false, eval e X.env) :: starEach es X.env) (hpl : (backTo pos (starEach es X.env)).any (·.1) = false) :
    PE X (.Call (.Attribute (.Name x p1) "__init__" p2) (e :: es) [] pos) (tVeI X.K ta) := by
  refine ⟨fun pins s σ H Q I h => ?_⟩
  refine PySem.W.methodCall_KW (ld_glob I hg hm ?_ hdb) hc
  refine PySem.W.method_cls I.kIn r.ga (PySem.W.cls_value I.kIn r.rd k rfl ?_)
  show wpAny _ _ (callWith pos (Value.builtin "ValueError.__init__") [] (backTo pos (starEach (e :: es) X.env)) []) _ _ _
  refine PyProof.Rows.callWith_method1 (thn (ha.run pos pins _ σ H _ (I.tok _) h) fun us s1 ⟨vs, H1, I1, r1, a, C, ws, ev, hl, T, ea, q⟩ => ?_) he hpl
  subst ev
  cases r1 with
  | @cons _ u0 _ ur ra rw' =>
    obtain rfl : u0 = Value.ref a := ra
    have hlen : ur.length ≤ sizeLine := by
      rw [← Paired.length rw', sizeLine_eq]
      omega
    exact oinit_ok T I1 ea hlen fun s' J => ⟨.non, H1, J, rfl, q⟩
/-- what __init__ does to an error that is being made -/
def spI (C : Addr) : Sp := fun vs H Q _ => ∃ a x, vs = [.ref a, .str x] ∧ x.length ≤ 1000000 ∧ H a = some (exo a C none) ∧
  ∀ dx, H dx = none → dx ≠ a → Q .non (upd (upd H dx (exd dx [("word", .str x)])) a (exo a C (some dx)))
theorem init_pss {X : Cx} {C B : Addr} {L : Nat} (hcB : HcB L) (ox : OexC X.K C) (noW : PySem.W.findIn X.K (.ref C) "word" = some none) (v0 : ∀ p, PE X (.Name "self" p) (tVar 0)) (v1 : ∀ p, PE X (.Name "word" p) (tVar 1)) (hg : Gl X "WidthError") (gB : X.mg "WidthError" = some (.ref B)) (rB : ClX.CRead X.K B (.type "type")) (kB : PySem.W.findCls X.K (.ref B) (.type "type") "__init__" = some (.val (.builtin "ValueError.__init__"))) :
    ∃ t, PSs X (initB L) t ∧ ∀ (a : Addr) (x : Str) (H : Hp) (D : Ends), x.length ≤ 1000000 → H a = some (exo a C none) → (∀ dx, H dx = none → dx ≠ a → D.nx [some (.ref a), some (.str x)] (upd (upd H dx (exd dx [("word", .str x)])) a (exo a C (some dx)))) → t D [some (.ref a), some (.str x)] H := by
  obtain ⟨pl, hc⟩ := hcB X.env
  have a1 := pa_cons (v0 ⟨L, 28, L, 32⟩) (pa_cons (pe_op (pos := ⟨L, 34, L, 55⟩) op_add_str (pe_str (X := X) (x := "no word for ") (j := 0) (pos := ⟨L, 34, L, 48⟩)) (v1 ⟨L, 51, L, 55⟩)) pa_nil)
  have b1 := pe_binit (pl := pl) (p1 := ⟨L, 8, L, 18⟩) (p2 := ⟨L, 8, L, 27⟩) (pos := ⟨L, 8, L, 56⟩) hg gB (by decide) rB kB a1 hc rfl rfl
  refine ⟨_, pss_cons (ps_expr (pos := ⟨L, 8, L, 56⟩) b1) (pss_cons (ps_ost (f := "word") (p' := ⟨L + 1, 8, L + 1, 17⟩) (pos := ⟨L + 1, 8, L + 1, 24⟩) (v0 ⟨L + 1, 8, L + 1, 12⟩) (v1 ⟨L + 1, 20, L + 1, 24⟩)) pss_nil), fun a x H D hx ea k => ?_⟩
  have hm : ("no word for " : Str).length = 12 := by decide +kernel
  refine ⟨_, rfl, _, rfl, _, _, rfl, rfl, (by rw [sizeLine_eq, hm]; omega), a, C, _, rfl, (by simp), ox, ea, ?_⟩
  refine ⟨_, rfl, _, rfl, a, C, rfl, ox, noW, .inl ⟨ea, fun dx n ne => ?_⟩⟩
  exact k dx n ne
theorem init_ok {L : Nat} (hcB : HcB L) {P : Program} {w : World} {K : PySem.W.Frag} {mg : Str → Option Value} {base : Heap} {C fI B : Addr} {st : Stmt} {fd : FuncData} {qual : Str} (ox : OexC K C) (gB : mg "WidthError" = some (.ref B)) (rB : ClX.CRead K B (.type "type")) (kB : PySem.W.findCls K (.ref B) (.type "type") "__init__" = some (.val (.builtin "ValueError.__init__")))
    (noW : PySem.W.findIn K (.ref C) "word" = some none) (hF : L2.Fun K "__init__" qual st fI fd) (hS : FnScope ["self", "word"] ["self", "word"] (defScope st)) (hb : defBody st = initB L) (hgl : (defScope st).names.lookup ("WidthError" : Str) = some .globalImplicit) (k : Nat) :
    FnOk P w K mg base (L2.CX P w) (k + 1) fI fd ["self", "word"] (spI C) := by
  refine hF.okX hS (fun vs H Q E ⟨a, x, h, _⟩ => by rw [h]; rfl) fun cdv A outer s H vs Q E hr hsp => ?_
  obtain ⟨a, x, rfl, hx, ea, k⟩ := hsp
  obtain ⟨t, body, kk⟩ := init_pss hcB (X := cxOf (L2.CX P w) P w K mg base ["self", "word"] qual (defScope st) fI cdv A outer s H E) (C := C) (B := B) ox noW (fun p => pe_var rfl ((hS.par "self" (by simp)).imp id .inl) (by decide) (by decide)) (fun p => pe_var rfl ((hS.par "word" (by simp)).imp id .inl) (by decide) (by decide)) (by unfold Gl Env.kindOf; exact hgl) gB rB kB
  rw [hb]
  exact ⟨t, body, kk a x H _ hx ea fun dx n ne => k dx n ne⟩
theorem ds_rsW {c : Nat} {x : Str} {p pos pos' : Pos} {e : Expr} {f : Env → R OV} (hc : X.calm = true) (tk : Takes X W) (r : RaW X.K X.mg (C c)) (hr : Room 2 X.A) (gC : X.mg x = some (.ref (C c))) (hg : Gl X x) (hdb : (x == ("__debug__" : Str)) = false)
    (he : DE X C W e f) (hst : starEach [e] X.env = (false, eval e X.env) :: starEach [] X.env) :
    DS X C W pr (.Raise (some (.Call (.Name x p) [e] [] pos)) none pos') (fun env => (pv f env).bd fun v env => match v with
      | .str x => if x.length ≤ 1000000 then .exc ⟨c, some x⟩ env else .no
      | _ => .no) := by
  obtain ⟨B, gB, rB, kB⟩ := r.gB
  obtain ⟨fI, st, fd, qual, L, iC, tI, hF, hS, hb, hcB, hbd, hgl⟩ := r.fn
  have fk := init_ok hcB (P := X.prog) (w := X.w) (mg := X.mg) (base := X.base) r.ox gB rB kB r.noW hF hS hb hgl 0
  refine ⟨fun pins s σ H D I ⟨F, env, fp, sr, h1⟩ => (ps_raise hc tk (pmk_oex (dvs := []) (ds := []) r.ox iC tI fk hr hbd .nil passL hg gC (pa_cons (dp_of_de he) pa_nil hst) hdb hst rfl)).run pins s σ H D I ?_⟩
  refine ⟨F, env, fp, sr, ASx.bd h1 fun v env1 F1 H1 u fp1 q1 e1 st1 sr1 ro1 nd1 dj1 h1 => ?_⟩
  obtain ⟨rfl, rv⟩ := ro1
  cases v with
  | str y =>
    simp only at h1
    by_cases hy : y.length ≤ 1000000
    · rw [if_pos hy] at h1
      unfold Rp at rv; subst rv
      refine ⟨by simp, fun a na => ⟨a, y, rfl, hy, upd_same, fun dx ndx ne => ⟨rfl, dx, _, upd_same, by rw [upd_ne ne, upd_same], by rw [upd_ne ne] at ndx; exact ndx, ?_⟩⟩⟩
      rw [upd_ne ne] at ndx
      have eH : upd (del (upd (upd (upd H1 a (exo a (C c) none)) dx (exd dx [("word", .str y)])) a (exo a (C c) (some dx))) a) dx (.xd [("word", .str y)]) = upd H1 dx (.xd [("word", .str y)]) := by
        funext b
        by_cases e1 : b = dx
        · subst e1; rw [upd_same, upd_same]
        · rw [upd_ne e1, upd_ne e1]
          by_cases e2 : b = a
          · subst e2; rw [del_same]; exact na.symm
          · rw [del_ne e2, upd_ne e2, upd_ne e1, upd_ne e2]
      rw [eH]
      obtain ⟨al, sF2⟩ := Al.frozen (o := .xd [("word", .str y)]) sr1.sF ndx
      exact h1 _ _ _ _ _ _ (al.step fp1) (sr1.al al sF2) Kept.refl ⟨rfl, dx, rfl, upd_same⟩
    · rw [if_neg hy] at h1; exact h1.elim
  | _ => exact h1.elim
end
end EN

/-! EnK: a loop over the keys of a dict that is nobody's: the dict is locked meanwhile. -/
namespace EN
open PySem L2 PyProof.Rows
/-- what is read stays read -/
def exq : HO → Prop
  | .ext _ => True
  | .xd _ => True
  | _ => False
structure Lk (F F' : Hp) : Prop where
  rd : ∀ a o, (∀ x y, o ≠ .frz x y) → Rd F a o → Rd F' a o
  ex : ∀ a o, exq o → F a = some o → F' a = some o
section
variable {K : PySem.W.Frag} {F F' H H' : Hp}
theorem Lk.sqT {a : Addr} {xs : List V} (e : Lk F F') (h : SqT K F a xs) : SqT K F' a xs := h.imp (e.rd _ _ (fun _ _ z => nomatch z)) id
theorem Lk.sqL {a : Addr} {xs : List V} (e : Lk F F') (h : SqL K F a xs) : SqL K F' a xs := h.imp (e.rd _ _ (fun _ _ z => nomatch z)) id
mutual
theorem Rp.lk (e : Lk F F') : ∀ {v : Val} {u : V}, Rp K F v u → Rp K F' v u
  | .non, _, h => by unfold Rp at *; exact h
  | .bl _, _, h => by unfold Rp at *; exact h
  | .int _, _, h => by unfold Rp at *; exact h
  | .str _, _, h => by unfold Rp at *; exact h
  | .tup xs, u, h => by
    unfold Rp at *
    obtain ⟨a, vs, h1, h2, h3⟩ := h
    exact ⟨a, vs, h1, e.sqT h2, Rps.lk e h3⟩
  | .lst xs, u, h => by
    unfold Rp at *
    obtain ⟨a, vs, h1, h2, h3⟩ := h
    exact ⟨a, vs, h1, e.rd _ _ (fun _ _ z => nomatch z) h2, Rps.lk e h3⟩
  | .dct ks xs, u, h => by
    unfold Rp at *
    obtain ⟨a, vs, h1, h2, h3, h4⟩ := h
    exact ⟨a, vs, h1, e.rd _ _ (fun _ _ z => nomatch z) h2, h3, Rps.lk e h4⟩
  | .scr xs, u, h => by
    unfold Rp at *
    obtain ⟨a, vs, h1, h2, h3⟩ := h
    exact ⟨a, vs, h1, e.sqL h2, Rps.lk e h3⟩
  | .er c w, u, h => by
    unfold Rp at *
    obtain ⟨a, d, h1, h2, h3⟩ := h
    refine ⟨a, d, h1, e.ex _ _ True.intro h2, ?_⟩
    cases w with
    | none => exact h3
    | some x =>
      obtain ⟨dd, k1, k2⟩ := h3
      exact ⟨dd, k1, e.ex _ _ True.intro k2⟩
theorem Rps.lk (e : Lk F F') : ∀ {vs : List Val} {us : List V}, Rps K F vs us → Rps K F' vs us
  | [], _, h => by unfold Rps at *; exact h
  | x :: xs, us, h => by
    unfold Rps at *
    obtain ⟨u, ws, h1, h2, h3⟩ := h
    exact ⟨u, ws, h1, Rp.lk e h2, Rps.lk e h3⟩
end
mutual
theorem Ro.lk (s : Lk F F') : ∀ {ov : OV} {u : V} {q : List Addr}, Ro K F H ov u q → (∀ a ∈ q, F' a = none ∧ ∀ o, H a = some o → H' a = some o) → Ro K F' H' ov u q
  | .p v, u, q, h, k => by
    unfold Ro at *; exact ⟨h.1, Rp.lk s h.2⟩
  | .l xs, u, q, h, k => by
    unfold Ro at *; obtain ⟨a, vs, h1, rfl, h3, h4, h5⟩ := h
    have z := k a (by simp)
    exact ⟨a, vs, h1, rfl, z.1, z.2 _ h4, Rps.lk s h5⟩
  | .d ks xs, u, q, h, k => by
    unfold Ro at *; obtain ⟨a, vs, h1, rfl, h3, h4, h5, h6⟩ := h
    have z := k a (by simp)
    exact ⟨a, vs, h1, rfl, z.1, z.2 _ h4, h5, Rps.lk s h6⟩
  | .nd xs, u, q, h, k => by
    unfold Ro at *; obtain ⟨a, vs, r, h1, rfl, h3, h4, h5⟩ := h
    have z := k a (by simp)
    exact ⟨a, vs, r, h1, rfl, z.1, z.2 _ h4, Ros.lk s h5 fun b hb => k b (List.mem_cons_of_mem _ hb)⟩
theorem Ros.lk (s : Lk F F') : ∀ {ovs : List OV} {us : List V} {q : List Addr}, Ros K F H ovs us q → (∀ a ∈ q, F' a = none ∧ ∀ o, H a = some o → H' a = some o) → Ros K F' H' ovs us q
  | [], us, q, h, k => by
    unfold Ros at *; exact h
  | x :: xs, us, q, h, k => by
    unfold Ros at *; obtain ⟨u, ws, q1, q2, h1, rfl, h2, h3⟩ := h
    exact ⟨u, ws, q1, q2, h1, rfl, Ro.lk s h2 (fun a z => k a (List.mem_append_left _ z)), Ros.lk s h3 fun a z => k a (List.mem_append_right _ z)⟩
end
theorem lk_lock {a : Addr} {od : Obj} {u : HO} (e : F a = some u) (nf : ∀ x y, u ≠ .frz x y) (nx : ¬ exq u) : Lk F (upd F a (.frz od u)) := by
  refine ⟨fun b o no r => ?_, fun b o q r => by
    by_cases z : b = a
    · subst z; rw [e] at r; cases r; exact (nx q).elim
    · rw [upd_ne z]; exact r⟩
  by_cases z : b = a
  · subst z
    rcases r with r | ⟨x, r⟩
    · rw [e] at r; cases r; exact .inr ⟨od, upd_same⟩
    · rw [e] at r; cases r; exact (nf _ _ rfl).elim
  · rcases r with r | ⟨x, r⟩
    · exact .inl (by rw [upd_ne z]; exact r)
    · exact .inr ⟨x, by rw [upd_ne z]; exact r⟩
theorem lk_unlock {a : Addr} {od : Obj} {u : HO} (e : F a = some (.frz od u)) : Lk F (upd F a u) := by
  refine ⟨fun b o no r => ?_, fun b o q r => by
    by_cases z : b = a
    · subst z; rw [e] at r; cases r; exact q.elim
    · rw [upd_ne z]; exact r⟩
  by_cases z : b = a
  · subst z
    rcases r with r | ⟨x, r⟩
    · rw [e] at r; cases r; exact (no _ _ rfl).elim
    · rw [e] at r; cases r; exact .inl upd_same
  · rcases r with r | ⟨x, r⟩
    · exact .inl (by rw [upd_ne z]; exact r)
    · exact .inr ⟨x, by rw [upd_ne z]; exact r⟩
theorem SR.lkAt {env : Env} {σ : Sg} {fp : Nat → List Addr} {a : Addr} {u0 u1 : HO} (s : SR K F H env σ fp) (e : F a = some u0) (lk : Lk F (upd F a u1)) : SR K (upd F a u1) (upd H a u1) env σ fp where
  sF := fun b o h => by
    by_cases z : b = a
    · subst z; rw [upd_same] at h ⊢; exact h
    · rw [upd_ne z] at h ⊢; exact s.sF b o h
  len := s.len
  rel := fun i ov h => by
    obtain ⟨u, h1, h2⟩ := s.rel i ov h
    refine ⟨u, h1, Ro.lk lk h2 fun b hb => ?_⟩
    obtain ⟨n, o, eo⟩ := Ro.at_ h2 b hb
    have z : b ≠ a := fun z => by subst z; rw [e] at n; cases n
    exact ⟨by rw [upd_ne z]; exact n, fun o h => by rw [upd_ne z]; exact h⟩
  nil := s.nil
  nd := s.nd
  dj := s.dj
theorem step_un {a : Addr} {u0 f : HO} {A A' : Addr → Prop} (e : F a = some u0) (eH : H a = some u0) (st : Step (upd F a f) (upd H a f) A F' H' A') : Step F H A (upd F' a u0) (upd H' a u0) A' := by
  have ne : ∀ b, upd H a f b = none → H b = none := fun b h => by
    by_cases z : b = a
    · subst z; rw [upd_same] at h; cases h
    · rw [upd_ne z] at h; exact h
  refine ⟨fun b o h => ?_, fun b o n h => ?_, fun b h => (st.own b h).imp id (ne b), fun b o h n => ?_⟩
  · by_cases z : b = a
    · subst z; rw [upd_same, ← e]; exact h
    · rw [upd_ne z]; exact st.sF b o (by rw [upd_ne z]; exact h)
  · by_cases z : b = a
    · subst z; rw [upd_same, ← eH]; exact h
    · rw [upd_ne z]; exact st.keep b o n (by rw [upd_ne z]; exact h)
  · by_cases z : b = a
    · subst z; rw [e] at n; cases n
    · rw [upd_ne z] at h
      exact (st.frz b o h (by rw [upd_ne z]; exact n)).imp id (ne b)
variable {C : Nat → Addr} {W : WX} {pr : List Bool}
/-- the ends as they are met under the lock -/
def lkD (a : Addr) (od : Obj) (u : HO) (D : Ends) : Ends := ⟨fun σ' H' => H' a = some (.frz od u) ∧ D.nx σ' (upd H' a u), fun v H' => H' a = some (.frz od u) ∧ D.rt v (upd H' a u), fun σ' H' => H' a = some (.frz od u) ∧ D.bk σ' (upd H' a u), fun σ' H' => H' a = some (.frz od u) ∧ D.ct σ' (upd H' a u)⟩
theorem ASx.lock {D : Ends} {σ : Sg} {A : Addr → Prop} {res : R Fl} {a : Addr} {od : Obj} {u : HO} (h : ASx K C W pr D σ F H A res.nx) (s : Same F H) (e : F a = some u) : ASx K C W pr (lkD a od u D) σ (upd F a (.frz od u)) (upd H a (.frz od u)) A res := by
  have eH := s _ _ e
  have frz : ∀ {F' H' : Hp} {A' : Addr → Prop}, Step (upd F a (.frz od u)) (upd H a (.frz od u)) A F' H' A' → F' a = some (.frz od u) := fun st => st.sF _ _ upd_same
  cases res with
  | exc x env' => exact h.elim
  | no => exact h.elim
  | ok f env' =>
    cases f with
    | nx => exact fun F' H' σ' fp' st sr kp => ⟨sr.sF _ _ (frz st), h _ _ σ' fp' (step_un e eH st) (sr.lkAt (frz st) (lk_unlock (frz st))) kp⟩
    | bk => exact fun F' H' σ' fp' st sr kp => ⟨sr.sF _ _ (frz st), h _ _ σ' fp' (step_un e eH st) (sr.lkAt (frz st) (lk_unlock (frz st))) kp⟩
    | ct => exact fun F' H' σ' fp' st sr kp => ⟨sr.sF _ _ (frz st), h _ _ σ' fp' (step_un e eH st) (sr.lkAt (frz st) (lk_unlock (frz st))) kp⟩
    | rt r => exact fun F' H' σ' fp' v q st sr kp ro nd dj => ⟨sr.sF _ _ (frz st), h _ _ σ' fp' v q (step_un e eH st) (sr.lkAt (frz st) (lk_unlock (frz st))) kp (Ro.lk (lk_unlock (frz st)) ro fun b hb => by
        obtain ⟨n, o, eo⟩ := Ro.at_ ro b hb
        have z : b ≠ a := fun z => by subst z; rw [frz st] at n; cases n
        exact ⟨by rw [upd_ne z]; exact n, fun o h => by rw [upd_ne z]; exact h⟩) nd dj⟩
theorem Rps.keys {F : Hp} : ∀ {kvs : List (Key × V)} {i : Nat} {k : Key} {v : V}, kvs[i]? = some (k, v) → (kvs.map (fun p => kVal p.1))[i]? = some (kVal k) ∧ Rp K F (kVal k) (kV k) := fun {kvs i k v} h => by
  refine ⟨by rw [List.getElem?_map, h]; rfl, ?_⟩
  cases k with
  | inl n => unfold kVal kV Rp; rfl
  | inr x => unfold kVal kV Rp; rfl
/-- the keys of a locked dict -/
theorem walk_keysF {a : Addr} {o : Obj} {kvs : List (Key × V)} {ks : List Val} (h : F a = some (.frz o (.dK kvs))) (hk : ks = kvs.map (fun p => kVal p.1)) : Walk K F ks (Itk a o kvs) := walk_same fun F2 H2 i s1 s2 => by
  have hq : H2 a = some (.frz o (.dK kvs)) := (Same.trans s1 s2) _ _ h
  subst hk
  refine ⟨fun v e => ?_, fun lt => ⟨hq, by rwa [List.length_map] at lt⟩⟩
  have lt : i < kvs.length := by
    have := (List.getElem?_eq_some_iff.mp e).1
    rwa [List.length_map] at this
  refine ⟨⟨hq, lt⟩, fun x H' y => ?_⟩
  obtain ⟨y1, k, w, y2, y3⟩ := y
  obtain ⟨r1, r2⟩ := Rps.keys (K := K) (F := F2) y2
  rw [r1] at e; cases e
  exact ⟨y1, by rw [y3]; exact r2⟩
end
section
variable {X : Cx} {C : Nat → Addr} {W : WX} {pr : List Bool} {e a b : Expr} {es : List Expr} {f : Env → R OV} {pos p1 : Pos}
theorem ds_ford {tg : Tg} {te it : Expr} {i : Nat} {gb : Env → R Fl} {sb : List Stmt} (hp : PassesOwn (model X.prog X.w) X.A X.env X.xe) (hc : X.calm = true) (hv : PE X it (tVar i)) (hg : PG X te (gT X.K tg)) (hN : ∀ i ∈ slots tg, i < X.N.length) (hb : DSs X C W pr sb gb)
    (hs : ∀ x, foldedSetIterable it X.env x = pure x) : DS X C W pr (.For te it sb [] pos) (fun env => match gs env i with
      | some (.p (.dct ks _)) => (forLoop (putT pr tg) gb ks env).nx
      | _ => .no) :=
  ⟨fun pins s σ H D I ⟨F, env, fp, sr, h1⟩ => by
    cases z : gs env i with
    | none => simp only [z] at h1; exact h1.elim
    | some ov =>
      cases ov with
      | l xs => simp only [z] at h1; exact h1.elim
      | d ks xs => simp only [z] at h1; exact h1.elim
      | nd xs => simp only [z] at h1; exact h1.elim
      | p v =>
        cases v with
        | dct ks xs =>
          simp only [z] at h1
          obtain ⟨u, e1, r⟩ := sr.rel i _ z
          unfold Ro Rp at r
          obtain ⟨r0, d, kvs, rfl, r1, r2, r3⟩ := r
          have hN' : ∀ j ∈ slots tg, j < σ.length := fun j hj => by rw [I.len]; exact hN j hj
          rcases r1 with r1 | ⟨o, r1⟩
          · refine (ps_lock (ps_for hp hc (pi_keys hv) hg hb hs)).run pins s σ H D I ⟨d, .dK kvs, sr.sF _ _ r1, trivial, fun od => ?_⟩
            have sr1 := sr.lkAt r1 (lk_lock (od := od) r1 (fun _ _ z => nomatch z) fun z => z)
            have h2 := ASx.lock (od := od) h1 sr.sF r1
            have f1 : upd F d (.frz od (.dK kvs)) d = some (.frz od (.dK kvs)) := upd_same
            exact ⟨.ref d, e1, d, od, rfl, .inl ⟨kvs, sr1.sF _ _ f1, for_run sr1 (walk_keysF f1 r2) h2 hN'⟩⟩
          · refine (ps_for hp hc (pi_keys hv) hg hb hs).run pins s σ H D I ⟨.ref d, e1, d, o, rfl, .inl ⟨kvs, sr.sF _ _ r1, for_run sr (walk_keysF r1 r2) ?_ hN'⟩⟩
            cases y : forLoop (putT pr tg) gb ks env with
            | ok fl env1 => rw [y] at h1; exact h1
            | exc x env1 => rw [y] at h1; exact h1.elim
            | no => rw [y] at h1; exact h1.elim
        | _ => simp only [z] at h1; exact h1.elim⟩
/-- a name of any kind is walked -/
theorem ds_forv {tg : Tg} {te it : Expr} {i : Nat} {g : Env → R (List Val)} {gb : Env → R Fl} {sb : List Stmt} (hp : PassesOwn (model X.prog X.w) X.A X.env X.xe) (hc : X.calm = true) (hv : PE X it (tVar i)) (hi : DI X C W te it g) (hg : PG X te (gT X.K tg)) (hN : ∀ i ∈ slots tg, i < X.N.length) (hb : DSs X C W pr sb gb)
    (hs : ∀ x, foldedSetIterable it X.env x = pure x) : DS X C W pr (.For te it sb [] pos) (fun env => match dvar (.e (.var i)) env with
      | some ks => (forLoop (putT pr tg) gb ks env).nx
      | none => (g env).bd fun xs env => forLoop (putT pr tg) gb xs env) :=
  ⟨fun pins s σ H D I ⟨F, env, fp, sr, h1⟩ => by
    have A := (ds_ford (pos := pos) hp hc hv hg hN hb hs).run pins s σ H D I
    have B := (ds_for (pos := pos) hp hc hi hg hN hb hs).run pins s σ H D I
    dsimp only at h1
    cases z : dvar (.e (.var i)) env with
    | none => rw [z] at h1; exact B ⟨F, env, fp, sr, h1⟩
    | some ks =>
      rw [z] at h1
      refine A ⟨F, env, fp, sr, ?_⟩
      have z : (match gs env i with
        | some (.p (.dct ks _)) => some ks
        | _ => none) = some ks := z
      split at z
      · cases z
        rename_i w
        simp only [w]
        exact h1
      · cases z⟩
end
end EN

/-! EnL: dicts of the module (written once, keys texts); a text's place in a text. -/
namespace EN
open PySem L2 PyProof.Rows
/-- at d: the written dict ks ↦ vs -/
def GDat (K : PySem.W.Frag) (w : World) (d : Addr) (ks vs : List Val) : Prop :=
  ∃ es n, KDict K w d es n ∧ ∀ z : Str, ∃ r, PySem.W.nsIn K d z = some r ∧ match dget ks vs (.str z) with
    | some v => ∃ u0 v0, r = some u0 ∧ RelV v0 u0 ∧ ∀ F, Rp K F v v0
    | none => r = none
def GD (K : PySem.W.Frag) (w : World) (m : Option Value) (ks vs : List Val) : Prop := ∃ d, m = some (.ref d) ∧ GDat K w d ks vs
section
variable {X : Cx} {C : Nat → Addr} {W : WX} {pr : List Bool} {e a b : Expr} {es : List Expr} {f : Env → R OV} {pos p1 : Pos} {d : Addr} {ks vs : List Val}
theorem de_gin {neg : Bool} {g : Env → R Od} (D : GDat X.K X.w d ks vs) (ha : DD X C W e g) (hb : PE X b (tC (.ref d))) (hm : ∀ o, behindInMarks o b = false) : DE X C W (.Compare e [if neg then .NotIn else .In] [b] pos) (fun env => (g env).bd fun y env => match rd env y with
      | some v => (match v with
        | .str x => .ok (.p (.bl (neg != (dget ks vs (.str x)).isSome))) env
        | _ => .no)
      | none => .no) :=
  ⟨fun pins s σ H Q I ⟨F, env, fp, sr, h1⟩ => by
    obtain ⟨es, n, kd, hz⟩ := D
    have go : tOp (fun x y H Q => ∃ (z : Str) (r : Option Value), x = .str z ∧ y = .ref d ∧ PySem.W.nsIn X.K d z = some r ∧ Q (.bl (neg != r.isSome)) H) (TX X.K C W (rD X.K) g) (tC (.ref d)) σ H Q := by
      refine ⟨F, env, fp, sr, AX.bd h1 fun y env1 F1 H1 u fp1 q1 e1 st1 sr1 ro1 nd1 dj1 h1 => ?_⟩
      cases z : rd env1 y with
      | none => simp only [z] at h1; exact h1.elim
      | some v =>
        simp only [z] at h1
        cases v with
        | str x =>
          obtain ⟨r, e2, e3⟩ := hz x
          refine ⟨x, r, (RoD.vw ro1 sr1 z).str, rfl, e2, ?_⟩
          have : r.isSome = (dget ks vs (.str x)).isSome := by
            cases w : dget ks vs (.str x) with
            | none => rw [w] at e3; subst e3; rfl
            | some v => rw [w] at e3; obtain ⟨u0, v0, rfl, _⟩ := e3; rfl
          rw [this]
          exact (AX.endO sr1 h1).bl sr1.sF
        | _ => exact h1.elim
    cases neg with
    | true => exact (pe_cmpR (fun pins s σ H x y v u Q I rx ry ⟨z, r, a1, a2, a3, a4⟩ => op_notIn_kd kd pins s σ H x y v u Q I rx ry ⟨z, r, a1, a2, a3, by simpa using a4⟩) ha hb (hm _)).run pins s σ H Q I go
    | false => exact (pe_cmpR (fun pins s σ H x y v u Q I rx ry ⟨z, r, a1, a2, a3, a4⟩ => op_in_kd kd pins s σ H x y v u Q I rx ry ⟨z, r, a1, a2, a3, by simpa using a4⟩) ha hb (hm _)).run pins s σ H Q I go⟩
theorem dt_gin {neg : Bool} {g : Env → R Od} (D : GDat X.K X.w d ks vs) (ha : DD X C W e g) (hb : PE X b (tC (.ref d))) (hm : ∀ o, behindInMarks o b = false) : DT X C W (.Compare e [if neg then .NotIn else .In] [b] pos) (fun env => (g env).bd fun y env => match rd env y with
      | some v => (match v with
        | .str x => .ok (neg != (dget ks vs (.str x)).isSome) env
        | _ => .no)
      | none => .no) :=
  ⟨fun pins s σ H Q I ⟨F, env, fp, sr, h1⟩ => by
    obtain ⟨es, n, kd, hz⟩ := D
    have go : tTest (tOp (fun x y H Q => ∃ (z : Str) (r : Option Value), x = .str z ∧ y = .ref d ∧ PySem.W.nsIn X.K d z = some r ∧ Q (.bl (neg != r.isSome)) H) (TX X.K C W (rD X.K) g) (tC (.ref d))) σ H Q := by
      refine ⟨F, env, fp, sr, AX.bd h1 fun y env1 F1 H1 u fp1 q1 e1 st1 sr1 ro1 nd1 dj1 h1 => ?_⟩
      cases z : rd env1 y with
      | none => simp only [z] at h1; exact h1.elim
      | some v =>
        simp only [z] at h1
        cases v with
        | str x =>
          obtain ⟨r, e2, e3⟩ := hz x
          refine ⟨x, r, (RoD.vw ro1 sr1 z).str, rfl, e2, _, rfl, ?_⟩
          have : r.isSome = (dget ks vs (.str x)).isSome := by
            cases w : dget ks vs (.str x) with
            | none => rw [w] at e3; subst e3; rfl
            | some v => rw [w] at e3; obtain ⟨u0, v0, rfl, _⟩ := e3; rfl
          rw [this]
          exact AX.al sr1 h1.base (Al.refl F1 H1) sr1.sF .nil ⟨rfl, rfl⟩
        | _ => exact h1.elim
    cases neg with
    | true => exact (pt_cmpR (fun pins s σ H x y v u Q I rx ry ⟨z, r, a1, a2, a3, a4⟩ => op_notIn_kd kd pins s σ H x y v u Q I rx ry ⟨z, r, a1, a2, a3, by simpa using a4⟩) ha hb (hm _)).run pins s σ H Q I go
    | false => exact (pt_cmpR (fun pins s σ H x y v u Q I rx ry ⟨z, r, a1, a2, a3, a4⟩ => op_in_kd kd pins s σ H x y v u Q I rx ry ⟨z, r, a1, a2, a3, by simpa using a4⟩) ha hb (hm _)).run pins s σ H Q I go⟩
/-- D[e] -/
theorem de_gix {g : Env → R Od} (D : GDat X.K X.w d ks vs) (hb : PE X b (tC (.ref d))) (ha : DD X C W e g) (pl : PlainIx e) : DE X C W (.Subscript b e pos) (fun env => (g env).bd fun y env => match rd env y with
      | some v => (match v with
        | .str x => R.of ((dget ks vs (.str x)).map .p) env
        | _ => .no)
      | none => .no) :=
  ⟨fun pins s σ H Q I ⟨F, env, fp, sr, h1⟩ => by
    obtain ⟨es, n, kd, hz⟩ := D
    refine (pe_ix ix_kdict hb ha pl).run pins s σ H Q I ⟨F, env, fp, sr, AX.bd h1 fun y env1 F1 H1 u fp1 q1 e1 st1 sr1 ro1 nd1 dj1 h1 => ?_⟩
    cases z : rd env1 y with
    | none => simp only [z] at h1; exact h1.elim
    | some v =>
      simp only [z] at h1
      cases v with
      | str x =>
        simp only at h1
        obtain ⟨r, e2, e3⟩ := hz x
        cases w : dget ks vs (.str x) with
        | none => rw [w] at h1; exact h1.elim
        | some v =>
          rw [w] at e3 h1
          obtain ⟨u0, v0, rfl, k1, k2⟩ := e3
          exact ⟨d, x, v0, rfl, (RoD.vw ro1 sr1 z).str, ⟨es, n, u0, kd.at_, kd.lit, e2, k1⟩, AX.al sr1 h1.base (Al.refl F1 H1) sr1.sF .nil (by unfold rO; exact ro_p (k2 F1))⟩
      | _ => exact h1.elim⟩
/-- D.get(e) -/
theorem de_gget {g : Env → R Od} (D : GDat X.K X.w d ks vs) (hb : PE X b (tC (.ref d))) (ha : DD X C W e g) (hs : starEach [e] X.env = (false, eval e X.env) :: starEach [] X.env) (hbase : attributeBase b "get" X.env (eval b X.env) = eval b X.env) (hline : (p1.endLine == pos.line) = true) :
    DE X C W (.Call (.Attribute b "get" p1) [e] [] pos) (fun env => (g env).bd fun y env => match rd env y with
      | some v => (match v with
        | .str x => .ok (.p ((dget ks vs (.str x)).getD .non)) env
        | _ => .no)
      | none => .no) :=
  ⟨fun pins s σ H Q I ⟨F, env, fp, sr, h1⟩ => by
    obtain ⟨es, n, kd, hz⟩ := D
    have m : M1 X b "get" p1 e pos := ⟨hbase, by rw [hs]; rfl, hline, by rw [hs]; rfl⟩
    refine wpAny_Call_method m.base m.few m.line PySem.F.plainAttrs_dict PySem.F.slot_dict_get PySem.F.type_dict_get (thn (hb.run pins s σ H (fun x H1 => x = .ref d ∧ H1 = H) I ⟨rfl, rfl⟩) fun u s1 ⟨x, H1, I1, rx, ex, eh⟩ => ?_)
    subst ex eh
    obtain rfl : u = Value.ref d := rx
    have mp := PySem.W.mapOf_K (prog := X.prog) (w := X.w) I1.kIn kd.at_ kd.lit
    refine ⟨mp.typeIs, mp.noDict, ?_⟩
    rw [m.trees]
    refine Calls.callWith_builtin rfl (Calls.evalArgs_plain (Calls.spliced_cons (thn (ha.run pins s1 σ _ (fun y H2 => ∃ (x : Str) (v0 : V) (r : Option Value), y = .str x ∧ PySem.W.nsIn X.K d x = some r ∧ RelV v0 (r.getD .none) ∧ Q v0 H2) I1 ?_) fun iv s2 ⟨y, H2, I2, ry, x, v0, r, ey, e2, e3, q⟩ => Calls.spliced_nil ?_)))
    · refine ⟨F, env, fp, sr, AX.bd h1 fun y env1 F1 H1 u fp1 q1 e1 st1 sr1 ro1 nd1 dj1 h1 => ?_⟩
      cases z : rd env1 y with
      | none => simp only [z] at h1; exact h1.elim
      | some v =>
        simp only [z] at h1
        cases v with
        | str x =>
          simp only at h1
          obtain ⟨r, e2, e3⟩ := hz x
          cases w : dget ks vs (.str x) with
          | none =>
            rw [w] at e3 h1
            subst e3
            exact ⟨x, .non, none, (RoD.vw ro1 sr1 z).str, e2, rfl, AX.al sr1 h1.base (Al.refl F1 H1) sr1.sF .nil (by unfold rO; exact ro_p (by show Rp _ _ Val.non _; unfold Rp; rfl))⟩
          | some v =>
            rw [w] at e3 h1
            obtain ⟨u0, v0, rfl, k1, k2⟩ := e3
            exact ⟨x, v0, some u0, (RoD.vw ro1 sr1 z).str, e2, k1, AX.al sr1 h1.base (Al.refl F1 H1) sr1.sF .nil (by unfold rO; exact ro_p (k2 F1))⟩
        | _ => exact h1.elim
    · subst ey
      obtain ⟨t, rfl⟩ := ry
      have mp2 := PySem.W.mapOf_K (prog := X.prog) (w := X.w) I2.kIn kd.at_ kd.lit
      refine call_meetsIn PySem.F.slot_dict_get mp2.typeIs PySem.F.entry_dict_get (PySem.F.args_dict_get_2 _ _) (meets_dict_get (strKind X.prog X.w) d (strKind_is X.prog X.w x t) kd.low) ⟨_, mp2, ?_⟩
      rw [PySem.W.find_K kd.at_ e2]
      exact ⟨v0, H2, I2.tok _, e3, q⟩⟩
/-- a.index(b), texts -/
theorem de_sidx {i : Nat} {gb : Env → R Od} (ha : PE X a (tVar i)) (hb : DD X C W b gb) (hs : starEach [b] X.env = (false, eval b X.env) :: starEach [] X.env) (hbase : attributeBase a "index" X.env (eval a X.env) = eval a X.env) (hline : (p1.endLine == pos.line) = true) :
    DE X C W (.Call (.Attribute a "index" p1) [b] [] pos) (fun env => match gs env i with
      | some (.p (.str x)) => (gb env).bd fun y env => (match rd env y with
        | some w => R.of (vsidx (.str x) w) env
        | none => .no)
      | _ => .no) :=
  ⟨fun pins s σ H Q I ⟨F, env, fp, sr, h1⟩ => by
    refine (pe_bm PySem.F.plainAttrs_str PySem.F.slot_str_index PySem.F.type_str_index mt_sindex ha (pa_cons hb pa_nil hs) hbase (by rw [hs]; rfl) hline hs rfl).run pins s σ H Q I ?_
    cases z : gs env i with
    | none => simp only [z] at h1; exact h1.elim
    | some ov =>
      cases ov with
      | p v =>
        cases v with
        | str x =>
          simp only [z] at h1
          obtain ⟨u, e1, r⟩ := sr.rel i _ z
          unfold Ro Rp at r
          obtain ⟨_, rfl⟩ := r
          refine ⟨.str x, e1, rfl, F, env, fp, sr, AX.bd h1 fun y env1 F1 H1 w fp1 q1 e1 st1 sr1 ro1 nd1 dj1 h1 => ?_⟩
          cases z1 : rd env1 y with
          | none => simp only [z1] at h1; exact h1.elim
          | some v =>
            simp only [z1] at h1
            cases v with
            | str t =>
              have h1 : AX X.K C W (rO X.K) σ F1 H1 (Ow fp1 q1) (R.of ((Builtin.Str.occurrences x t 0 x.length 1).head?.map fun (k : Nat) => OV.p (.int (k : Int))) env1) Q := h1
              cases z2 : Builtin.Str.occurrences x t 0 x.length 1 with
              | nil => rw [z2] at h1; exact h1.elim
              | cons k rest =>
                rw [z2] at h1
                refine ⟨x, t, k, rest, rfl, ?_, z2, (AX.endO sr1 h1).int sr1.sF⟩
                rw [(RoD.vw ro1 sr1 z1).str]
            | _ => exact h1.elim
        | _ => simp only [z] at h1; exact h1.elim
      | _ => simp only [z] at h1; exact h1.elim⟩
end
end EN

/-! EnLB: a text cut, a list grown by a tuple turned about, a <= b <= c. -/
namespace EN
open PySem L2 PyProof.Rows
section
variable {X : Cx} {C : Nat → Addr} {W : WX} {pr : List Bool} {e a b c : Expr} {es : List Expr} {f g h : Env → R OV} {pos p1 p2 p3 p4 p5 p6 : Pos}
theorem sizeLine_two : ([V.ty (tyS .int), V.ty (tyS .int)] : List V).length ≤ sizeLine := by decide
theorem tx_mono {α β : Type} {rl : Rel α β} {k : Env → R α} {σ : Sg} {H : Hp} {Q Q' : β → Hp → Prop} (t : TX X.K C W rl k σ H Q) (m : ∀ b H', Q b H' → Q' b H') : TX X.K C W rl k σ H Q' := by
  obtain ⟨F, env, fp, sr, h⟩ := t
  exact ⟨F, env, fp, sr, h.mono m⟩
/-- isinstance(e, (T1, T2)) -/
theorem de_is2 {t1 t2 : Ty} {gd : Env → R Od} {p pn1 pn2 pt : Pos} (hg : Gl X "isinstance") (hm : X.mg "isinstance" = none) (hg1 : Gl X (tyP t1)) (hm1 : X.mg (tyP t1) = none) (hg2 : Gl X (tyP t2)) (hm2 : X.mg (tyP t2) = none) (h : DD X C W e gd) (hs : starEach [e, .Tuple [.Name (tyP t1) pn1, .Name (tyP t2) pn2] 0 pt] X.env = (false, eval e X.env) :: starEach [.Tuple [.Name (tyP t1) pn1, .Name (tyP t2) pn2] 0 pt] X.env) :
    DE X C W (.Call (.Name "isinstance" p) [e, .Tuple [.Name (tyP t1) pn1, .Name (tyP t2) pn2] 0 pt] [] pos) (fun env => (gd env).bd fun x env => match rd env x with
    | some v => R.of ((isi2 t1 t2 v).map fun k => .p (.bl k)) env
    | none => .no) :=
  ⟨fun pins s σ H Q I ⟨F, env, fp, sr, h1⟩ => by
    have hn : ∀ t : Ty, tyP t ≠ "__name__" := fun t => by cases t <;> decide
    have hd : ∀ t : Ty, (tyP t == ("__debug__" : Str)) = false := fun t => by cases t <;> decide
    have bt : ∀ t : Ty, bootBuiltins (tyP t) = some (.type (tyS t)) := fun t => by cases t <;> decide +kernel
    refine (pe_callB call_isiT hg hm (by decide +kernel) (pa_cons h (pa_cons (pe_tup (pa_cons (pe_bltn (v := .ty (tyS t1)) hg1 hm1 (bt t1) rfl (hn t1) (hd t1)) (pa_cons (pe_bltn (v := .ty (tyS t2)) hg2 hm2 (bt t2) rfl (hn t2) (hd t2)) pa_nil))) pa_nil) hs) (by decide) (by decide) hs rfl).run pins s σ H Q I
      ⟨F, env, fp, sr, AX.bd h1 fun o env1 F1 H1 u fp1 q1 e1 st1 sr1 ro1 nd1 dj1 h1 => ?_⟩
    cases z : rd env1 o with
    | none => simp only [z] at h1; exact h1.elim
    | some v =>
      simp only [z] at h1
      cases y1 : EN.isi t1 v with
      | none => unfold isi2 at h1; rw [y1] at h1; exact h1.elim
      | some k1 =>
        cases y2 : EN.isi t2 v with
        | none => unfold isi2 at h1; rw [y1, y2] at h1; exact h1.elim
        | some k2 =>
          unfold isi2 at h1
          rw [y1, y2] at h1
          refine ⟨sizeLine_two, fun p n => ?_⟩
          have al : Al F1 H1 F1 (upd H1 p (.tup [.ty (tyS t1), .ty (tyS t2)])) [] := ⟨Same.refl F1, Same.upd n, fun _ z => (nomatch z), fun a o e n => by rw [e] at n; cases n⟩
          have sN : Same F1 (upd H1 p (.tup [.ty (tyS t1), .ty (tyS t2)])) := Same.trans sr1.sF (Same.upd n)
          have sr2 := sr1.al al sN
          have vw := RoD.vw (ro1.along (env2 := env1) (al.step fp1) dj1) sr2 z
          refine ⟨u, p, _, _, [.type (tyS t1), .type (tyS t2)], k1 || k2, rfl, upd_same, .cons (.ty _) (.cons (.ty _) .nil), tyX_of (isi_ne y1) sN vw, kitAny_cons (kit_ty (isi_kit y1)) (fun e => ?_) (fun e => by rw [e]; rfl), AX.al sr1 h1.base al sN .nil (by unfold rO Ro Rp; exact ⟨rfl, rfl⟩)⟩
          rw [e, Bool.false_or]
          exact kitAny_cons (kit_ty (isi_kit y2)) (fun e2 => by rw [e2]; exact kitAny_nil) (fun e2 => e2)⟩
/-- a.split(x) -/
theorem de_spl {i : Nat} {x : Str} (ha : PE X a (tVar i)) (hb : PE X b (tC (.str x))) (hs : starEach [b] X.env = (false, eval b X.env) :: starEach [] X.env) (hbase : attributeBase a "split" X.env (eval a X.env) = eval a X.env) (hline : (p1.endLine == pos.line) = true) :
    DE X C W (.Call (.Attribute a "split" p1) [b] [] pos) (fun env => match gs env i with
      | some (.p (.str y)) => R.of (vspl y x) env
      | _ => .no) :=
  ⟨fun pins s σ H Q I ⟨F, env, fp, sr, h1⟩ => by
    refine (pe_bm PySem.F.plainAttrs_str PySem.F.slot_str_split PySem.F.type_str_split mt_split ha (pa_cons hb pa_nil hs) hbase (by rw [hs]; rfl) hline hs rfl).run pins s σ H Q I ?_
    cases z : gs env i with
    | none => simp only [z] at h1; exact h1.elim
    | some ov =>
      cases ov with
      | p v =>
        cases v with
        | str y =>
          simp only [z] at h1
          obtain ⟨u, e1, r⟩ := sr.rel i _ z
          unfold Ro Rp at r
          obtain ⟨_, rfl⟩ := r
          unfold vspl at h1
          by_cases hz : (x.length == 0) = false ∧ y.length + 2 ≤ sizeLine
          · rw [if_pos hz] at h1
            exact ⟨.str y, e1, rfl, y, x, rfl, rfl, hz.1, hz.2, fun p n => (AX.endO sr h1).newL sr.sF (Rps.of_strs _) p n⟩
          · rw [if_neg hz] at h1; exact h1.elim
        | _ => simp only [z] at h1; exact h1.elim
      | _ => simp only [z] at h1; exact h1.elim⟩
/-- a.extend(list(reversed(e))) -/
theorem de_exr {i : Nat} (hc : X.calm = true) (hg : Gl X "list") (hm : X.mg "list" = none) (hg2 : Gl X "reversed") (hm2 : X.mg "reversed" = none) (hv : PE X a (tVar i)) (h : DE X C W e f)
    (hs : starEach [e] X.env = (false, eval e X.env) :: starEach [] X.env) (hbase : attributeBase a "extend" X.env (eval a X.env) = eval a X.env) (hline : (p1.endLine == pos.line) = true) :
    DE X C W (.Call (.Attribute a "extend" p1) [.Call (.Name "list" p3) [.Call (.Name "reversed" p5) [e] [] p4] [] p2] [] pos) (fun env => match gs env i with
      | some (.l _) => (pv f env).bd fun v env => (match gs env i, v with
        | some (.l ys), .tup xs => if ys.length + xs.length ≤ sizeLine then .ok (.p .non) (ss env i (some (.l (ys ++ xs.reverse)))) else .no
        | _, _ => .no)
      | _ => .no) :=
  ⟨fun pins s σ H Q I ⟨F, env, fp, sr, h1⟩ => by
    cases z : gs env i with
    | none => simp only [z] at h1; exact h1.elim
    | some ov =>
      cases ov with
      | p v => simp only [z] at h1; exact h1.elim
      | d ks v => simp only [z] at h1; exact h1.elim
      | nd v => simp only [z] at h1; exact h1.elim
      | l x0 =>
        simp only [z] at h1
        refine (pe_bm PySem.F.plainAttrs_list PySem.F.slot_list_extend PySem.F.type_list_extend mt_extend hv (pa_cons (pe_listRev hc hg hm hg2 hm2 (dp_of_de h) hs) pa_nil) hbase rfl hline rfl rfl).run pins s σ H Q I ?_
        obtain ⟨a0, vs0, e0, hH0, _, _⟩ := sr.write (ys := []) z
        refine ⟨_, e0, .inl ⟨rfl, _, SqL.of hH0⟩, F, env, fp, sr, AX.bd h1 fun v env1 F1 H1 u fp1 q1 e1 st1 sr1 ro1 nd1 dj1 h1 => ?_⟩
        obtain ⟨rfl, rv⟩ := ro1
        cases y : gs env1 i with
        | none => simp only [y] at h1; exact h1.elim
        | some ov1 =>
          cases ov1 with
          | p v => simp only [y] at h1; exact h1.elim
          | d ks v => simp only [y] at h1; exact h1.elim
          | nd v => simp only [y] at h1; exact h1.elim
          | l ys =>
            cases v with
            | tup xs =>
              simp only [y] at h1
              by_cases hz : ys.length + xs.length ≤ sizeLine
              · rw [if_pos hz] at h1
                unfold Rp at rv
                obtain ⟨at_, vs, rfl, k1, k2⟩ := rv
                refine ⟨at_, vs, rfl, Same.sqT sr1.sF k1, fun q n => ?_⟩
                obtain ⟨al, sN, nF⟩ := Al.own (o := .lst vs.reverse) sr1.sF n
                have sr2 := sr1.al al sN
                obtain ⟨a1, us, ea, hH, hr, wr⟩ := sr2.write (ys := ys ++ xs.reverse) y
                rw [e0] at ea
                have : a0 = a1 := by injection ea with ea; injection ea with ea; injection ea
                subst this
                obtain ⟨sr3, st3⟩ := wr (us ++ vs.reverse) (hr.app k2.rev)
                refine ⟨a0, q, us, vs.reverse, rfl, rfl, hH, upd_same, by rw [List.length_reverse, hr.len, k2.len]; exact hz, ?_⟩
                exact h1 F1 _ .non fp1 [] ((al.step fp1).trans st3 fun _ w => w.elim (fun w => nomatch w) .inr) sr3 (by unfold rO Ro Rp; exact ⟨rfl, rfl⟩) .nil fpn
              · rw [if_neg hz] at h1; exact h1.elim
            | _ => simp only [y] at h1; exact h1.elim⟩
theorem chain_go {F H : Hp} {env : Env} {fp : Nat → List Addr} {σ : Sg} {Q : Bool → Hp → Prop} (sr : SR X.K F H env σ fp) (h1 : AX X.K C W rB σ F H (Ow fp []) (chR f g h env) Q) :
    TX X.K C W (rO X.K) f σ H fun x H1 => TX X.K C W (rO X.K) g σ H1 fun y H2 => ∃ i j, x = .int i ∧ y = .int j ∧ if decide (i ≤ j) = true then TX X.K C W (rO X.K) h σ H2 fun z H3 => ∃ i j, y = .int i ∧ z = .int j ∧ Q (decide (i ≤ j)) H3 else Q false H2 := by
  unfold chR at h1
  refine ⟨F, env, fp, sr, AX.bd h1 fun x env1 F1 H1 u fp1 q1 e1 st1 sr1 ro1 nd1 dj1 h1 => ⟨F1, env1, fp1, sr1, AX.bd h1.base fun y env2 F2 H2 v fp2 q2 e2 st2 sr2 ro2 nd2 dj2 h2 => ?_⟩⟩
  cases x with
  | p vx =>
    cases vx with
    | int i =>
      cases y with
      | p vy =>
        cases vy with
        | int j =>
          unfold rO Ro Rp at ro1 ro2
          refine ⟨i, j, ro1.2, ro2.2, ?_⟩
          dsimp only at h2
          by_cases hij : i ≤ j
          · rw [if_pos hij] at h2
            rw [if_pos (decide_eq_true hij)]
            refine ⟨F2, env2, fp2, sr2, AX.bd h2.base fun z env3 F3 H3 w fp3 q3 e3 st3 sr3 ro3 nd3 dj3 h3 => ?_⟩
            cases z with
            | p vz =>
              cases vz with
              | int k =>
                unfold rO Ro Rp at ro3
                exact ⟨j, k, ro2.2, ro3.2, AX.al sr3 h3.base (Al.refl F3 H3) sr3.sF .nil ⟨rfl, rfl⟩⟩
              | _ => exact h3.elim
            | _ => exact h3.elim
          · rw [if_neg hij] at h2
            rw [if_neg (by simpa using hij)]
            exact AX.al sr2 h2.base (Al.refl F2 H2) sr2.sF .nil ⟨rfl, rfl⟩
        | _ => exact h2.elim
      | _ => exact h2.elim
    | _ => exact h2.elim
  | _ => exact h2.elim
/-- a <= b <= c -/
theorem de_chn (ha : DE X C W a f) (hb : DE X C W b g) (hc : DE X C W c h) (hm : lastMarks [.LtE, .LtE] [b, c] = false) : DE X C W (.Compare a [.LtE, .LtE] [b, c] pos) (fun env => (chR f g h env).bd fun k env => .ok (.p (.bl k)) env) :=
  ⟨fun pins s σ H Q I ⟨F, env, fp, sr, h1⟩ => (pe_chain op_le op_le ha hb hc hm).run pins s σ H Q I (by
    have h2 : AX X.K C W rB σ F H (Ow fp []) (chR f g h env) fun k H' => Q (.bl k) H' := AX.bd h1 fun k env1 F1 H1 b fp1 q1 e1 st1 sr1 ro1 nd1 dj1 h1 => by
      obtain ⟨rfl, rfl⟩ := ro1
      exact AX.al sr1 h1 (Al.refl F1 H1) sr1.sF .nil (by unfold rO Ro Rp; exact ⟨rfl, rfl⟩)
    refine tx_mono (chain_go sr h2) fun x H1 t => tx_mono t fun y H2 ⟨i, j, e1, e2, t⟩ => ⟨i, j, e1, e2, _, rfl, ?_⟩
    split
    · rename_i hij
      rw [if_pos hij] at t
      exact tx_mono t fun z H3 t => t
    · rename_i hij
      rw [if_neg hij] at t
      exact t)⟩
theorem dt_chn (ha : DE X C W a f) (hb : DE X C W b g) (hc : DE X C W c h) (hm : lastMarks [.LtE, .LtE] [b, c] = false) : DT X C W (.Compare a [.LtE, .LtE] [b, c] pos) (chR f g h) :=
  ⟨fun pins s σ H Q I ⟨F, env, fp, sr, h1⟩ => (pt_chain op_le op_le ha hb hc hm).run pins s σ H Q I (by
    refine tx_mono (chain_go sr h1) fun x H1 t => tx_mono t fun y H2 ⟨i, j, e1, e2, t⟩ => ⟨i, j, e1, e2, _, rfl, ?_⟩
    split
    · rename_i hij
      rw [if_pos hij] at t
      exact tx_mono t fun z H3 ⟨i, j, e1, e2, t⟩ => ⟨i, j, e1, e2, _, rfl, t⟩
    · rename_i hij
      rw [if_neg hij] at t
      exact ⟨_, rfl, t⟩)⟩
end
end EN

/-! EnLC: {k: v, ..} with written text keys. -/
namespace EN
open PySem L2 PyProof.Rows
/-- values one behind another -/
def evsF : List (Env → R OV) → Env → R (List Val)
  | [], env => .ok [] env
  | f :: fs, env => (pv f env).bd fun v env => (evsF fs env).bd fun vs env => .ok (v :: vs) env
theorem evs_F {cl : Nat → List OV → CR} {gl : Nat → Option Val} : ∀ (es : List Ex) (env : Env), evs cl gl es env = evsF (es.map (ev cl gl)) env
  | [], env => rfl
  | e :: es, env => by
    unfold evs
    rw [List.map_cons]
    show _ = (pv (ev cl gl e) env).bd fun v env => (evsF (es.map (ev cl gl)) env).bd fun vs env => .ok (v :: vs) env
    cases pv (ev cl gl e) env with
    | no => rfl
    | exc x e => rfl
    | ok v env1 =>
      simp only [R.bd]
      rw [evs_F es env1]
theorem toKs_len {L : Nat} : ∀ (ks : List Str) (s : Sup), (toKs L ks s).1.length = ks.length
  | [], s => rfl
  | k :: ks, s => by
    unfold toKs
    simp [toKs_len ks]
theorem toKs_all {L : Nat} : ∀ (ks : List Str) (s : Sup), (toKs L ks s).1.all (·.isSome) = true
  | [], s => rfl
  | k :: ks, s => by
    unfold toKs
    simpa using toKs_all ks s.tail
theorem toEs_len {G : Nm} {N : List Str} {L : Nat} : ∀ (es : List Ex) (s : Sup), (toEs G N L es s).1.length = es.length
  | [], s => by unfold toEs; rfl
  | e :: es, s => by
    unfold toEs
    simp [toEs_len es]
section
variable {X : Cx} {C : Nat → Addr} {W : WX} {pos : Pos}
def trsD (X : Cx) (C : Nat → Addr) (W : WX) : List Str → List (Env → R OV) → List (TE × TE)
  | k :: ks, f :: fs => (tC (.str k), TX X.K C W (rV X.K) (pv f)) :: trsD X C W ks fs
  | _, _ => []
theorem pairs_go : ∀ {ks : List Str} {fs : List (Env → R OV)} {F H : Hp} {env : Env} {fp : Nat → List Addr} {σ : Sg} {Q : List V → Hp → Prop} {Q' : List (V × V) → Hp → Prop}, ks.length = fs.length → SR X.K F H env σ fp → AX X.K C W (rVs X.K) σ F H (Ow fp []) (evsF fs env) Q →
    (∀ us H', us.length = ks.length → Q us H' → Q' ((ks.map V.str).zip us) H') → tPairs (trsD X C W ks fs) σ H Q'
  | [], [], F, H, env, fp, σ, Q, Q', _, sr, h, k => k [] H rfl (AX.al sr h (Al.refl F H) sr.sF .nil (by unfold rVs; exact ⟨rfl, Rps.nil⟩))
  | [], f :: fs, _, _, _, _, _, _, _, hl, _, _, _ => by simp at hl
  | k :: ks, [], _, _, _, _, _, _, _, hl, _, _, _ => by simp at hl
  | x :: ks, f :: fs, F, H, env, fp, σ, Q, Q', hl, sr, h, k => by
    refine ⟨F, env, fp, sr, AX.bd h fun v env1 F1 H1 u fp1 q1 e1 st1 sr1 ro1 nd1 dj1 h1 => ?_⟩
    obtain ⟨rfl, rv⟩ := ro1
    refine pairs_go (Q := fun us H' => Q (u :: us) H') (by simpa using hl) sr1 (AX.bd h1 fun vs env2 F2 H2 us fp2 q2 e2 st2 sr2 ro2 nd2 dj2 h2 => ?_) fun us H' e q => k (u :: us) H' (by simp [e]) q
    obtain ⟨rfl, rvs⟩ := ro2
    exact AX.al sr2 h2 (Al.refl F2 H2) sr2.sF .nil (by unfold rVs; exact ⟨rfl, by unfold Rps; exact ⟨u, us, rfl, Rp.mono st2.sF rv, rvs⟩⟩)
def kvsOf (ks : List Str) (us : List V) : List (Key × V) := (ks.map (Sum.inr : Str → Key)).zip us
theorem kvsOf_fst {ks : List Str} {us : List V} (h : us.length = ks.length) : (kvsOf ks us).map (·.1) = ks.map Sum.inr := by
  unfold kvsOf
  rw [List.map_fst_zip (by simp [h])]
theorem kvsOf_snd {ks : List Str} {us : List V} (h : us.length = ks.length) : (kvsOf ks us).map (·.2) = us := by
  unfold kvsOf
  rw [List.map_snd_zip (by simp [h])]
theorem kvsOf_k {ks : List Str} {us : List V} (h : us.length = ks.length) : ks.map Val.str = (kvsOf ks us).map (fun p => kVal p.1) := by
  have : (kvsOf ks us).map (fun p => kVal p.1) = ((kvsOf ks us).map (·.1)).map kVal := by rw [List.map_map]; rfl
  rw [this, kvsOf_fst h, List.map_map]; rfl
theorem kvsOf_zip : ∀ {ks : List Str} {us : List V}, (ks.map V.str).zip us = (kvsOf ks us).map (fun kv => (kV kv.1, kv.2))
  | [], us => by simp [kvsOf]
  | k :: ks, [] => by simp [kvsOf]
  | k :: ks, u :: us => by
    have ih := @kvsOf_zip ks us
    unfold kvsOf at ih ⊢
    simp only [List.map_cons, List.zip_cons_cons, ih]
    rfl
theorem de_dl {ks : List Str} {fs : List (Env → R OV)} {keys : List (Option Expr)} {values : List Expr} (hp : PPs X pos keys values (trsD X C W ks fs)) (hall : keys.all (·.isSome) = true) (hl : keys.length = values.length) (h0 : keys ≠ []) (h15 : keys.length ≤ 15) (hf : ks.length = fs.length) (hk15 : ks.length ≤ 15) (hnd : ks.Nodup) :
    DE X C W (.Dict keys values pos) (fun env => (evsF fs env).bd fun vs env => if dOk ks vs.length then .ok (.d (ks.map Val.str) vs) env else .no) :=
  ⟨fun pins s σ H Q I ⟨F, env, fp, sr, h1⟩ => (pe_disp hp hall hl h0 h15).run pins s σ H Q I fun p n => by
    obtain ⟨al, sN, nF⟩ := Al.own (o := .dK []) sr.sF n
    have sr' := sr.al al sN
    have st0 : Step F H (Ow fp []) F (upd H p (.dK [])) (Ow fp []) := (al.step fp).less fun a z => z.elim (fun z => nomatch z) .inr
    have np : ∀ i, p ∉ fp i := fun i w => by
      obtain ⟨_, o, e⟩ := sr.at_ w
      rw [n] at e; cases e
    have nop : ¬ Ow fp [] p := fun w => w.elim (fun w => nomatch w) fun ⟨i, w⟩ => np i w
    have key : AX X.K C W (rVs X.K) σ F (upd H p (.dK [])) (Ow fp []) (evsF fs env) fun us H2 => us.length = ks.length → H2 p = some (.dK []) ∧ Q (.ref p) (upd H2 p (.dK (kvsOf ks us))) := by
      dsimp only at h1
      cases z : evsF fs env with
      | no => rw [z] at h1; exact h1.elim
      | exc x env1 =>
        rw [z] at h1
        exact fun F' H' fp' cls d st sr2 xr => h1 F' H' fp' cls d (st0.trans st fun _ w => w) sr2 xr
      | ok vs env1 =>
        rw [z] at h1
        intro F2 H2 us fp2 q st sr2 ro nd dj hus
        obtain ⟨rfl, rvs⟩ := ro
        have hp2 : H2 p = some (.dK []) := st.keep p _ nop upd_same
        refine ⟨hp2, ?_⟩
        simp only [R.bd] at h1
        by_cases hd : dOk ks vs.length
        · rw [if_pos hd] at h1
          have nF2 : F2 p = none := by
            cases w : F2 p with
            | none => rfl
            | some o =>
              rcases st.frz p o w nF with w2 | w2
              · exact (nop w2).elim
              · rw [upd_same] at w2; cases w2
          have np2 : ∀ i, p ∉ fp2 i := fun i w => by
            rcases st.own p (.inr ⟨i, w⟩) with w2 | w2
            · exact nop w2
            · rw [upd_same] at w2; cases w2
          have sF2 : Same F2 (upd H2 p (.dK (kvsOf ks us))) := fun b o eb => by
            by_cases zb : b = p
            · subst zb; rw [nF2] at eb; cases eb
            · rw [upd_ne zb]; exact sr2.sF b o eb
          refine h1 F2 _ (.ref p) fp2 [p] ⟨st.sF, fun a o na e => ?_, fun a w => ?_, fun a o e nFa => ?_⟩ ⟨sF2, sr2.len, fun i ov e => ?_, sr2.nil, sr2.nd, sr2.dj⟩ ?_ (by simp) ?_
          · have hap : a ≠ p := fun e2 => by subst e2; rw [n] at e; cases e
            rw [upd_ne hap]
            exact st.keep a o na (by rw [upd_ne hap]; exact e)
          · rcases w with w | ⟨i, w⟩
            · simp at w; subst w; exact .inr n
            · rcases st.own a (.inr ⟨i, w⟩) with w2 | w2
              · exact .inl w2
              · refine .inr ?_
                by_cases hap : a = p
                · subst hap; exact n
                · rw [upd_ne hap] at w2; exact w2
          · rcases st.frz a o e nFa with w2 | w2
            · exact .inl w2
            · refine .inr ?_
              by_cases hap : a = p
              · subst hap; exact n
              · rw [upd_ne hap] at w2; exact w2
          · obtain ⟨u, k1, k2⟩ := sr2.rel i ov e
            refine ⟨u, k1, Ro.step (Same.refl F2) k2 fun a ha => ?_⟩
            obtain ⟨k3, _⟩ := Ro.at_ k2 a ha
            have hap : a ≠ p := fun e2 => np2 i (e2 ▸ ha)
            exact ⟨k3, fun o eo => by rw [upd_ne hap]; exact eo⟩
          · unfold rO Ro
            exact ⟨p, _, rfl, rfl, nF2, upd_same, kvsOf_k hus, by rw [kvsOf_snd hus]; exact rvs⟩
          · intro a ha i w
            simp at ha; subst ha
            exact np2 i w
        · rw [if_neg hd] at h1; exact h1.elim
    refine pairs_go hf sr' key fun us H2 hus q => ?_
    obtain ⟨q1, q2⟩ := q hus
    refine ⟨q1, kvsOf ks us, kvsOf_zip, ?_, ?_⟩
    · have := congrArg List.length (kvsOf_fst hus)
      simp only [List.length_map] at this
      omega
    · rw [mergeK_nd (by rw [kvsOf_fst hus]; simpa using nodup_inr hnd), List.nil_append]
      exact q2⟩
end
end EN

/-! EnLD: where a thing is first in a list. -/
namespace EN
open PySem L2 PyProof.Rows
theorem fidx_ok {K : PySem.W.Frag} {F : Hp} {a : Val} {x : V} (ha : Rp K F a x) (fa : flat a = true) : ∀ {xs : List Val} {us : List V} {j : Nat}, Rps K F xs us → xs.all flat = true → fidx a xs = some j →
    ∃ z, us[j]? = some z ∧ eqV z x = true ∧ ∀ m z', m < j → us[m]? = some z' → eqV z' x = false
  | [], us, j, r, f, e => by unfold fidx at e; cases e
  | y :: ys, us, j, r, f, e => by
    unfold Rps at r
    obtain ⟨u, ws, rfl, r1, r2⟩ := r
    rw [List.all_cons, Bool.and_eq_true] at f
    have q := (feq_ok r1 ha f.1 fa).1
    unfold fidx at e
    by_cases z : feq y a = true
    · rw [if_pos z] at e
      cases e
      exact ⟨u, rfl, by rw [q]; exact z, fun m z' h => by omega⟩
    · rw [if_neg z] at e
      cases w : fidx a ys with
      | none => rw [w] at e; cases e
      | some k =>
        rw [w] at e
        cases e
        obtain ⟨v, h1, h2, h3⟩ := fidx_ok ha fa r2 f.2 w
        refine ⟨v, by simpa using h1, h2, fun m z' hm hz => ?_⟩
        cases m with
        | zero =>
          have hz : some u = some z' := by simpa using hz
          cases hz
          rw [q]; simpa using z
        | succ m => exact h3 m z' (Nat.lt_of_succ_lt_succ hm) (by simpa using hz)
section
variable {X : Cx} {C : Nat → Addr} {W : WX} {a b : Expr} {es : List Expr} {pos p1 p2 : Pos}
theorem vlidx_go {F H : Hp} {ys : List Val} {w : Val} {r : OV} {p : Addr} {us : List V} {x : V} {Q : VK} (e : vlidx ys w = some r) (sF : Same F H) (hs : SqL X.K H p us) (hr : Rps X.K F ys us) (hx : Vw X.K F H w x) (q : EndO X.K F H r Q) : rIndex X.K (.ref p) [x] H Q := by
  unfold vlidx at e
  by_cases h : (flat w && ys.all flat) = true
  · rw [if_pos h] at e
    rw [Bool.and_eq_true] at h
    cases z : fidx w ys with
    | none => rw [z] at e; cases e
    | some j =>
      rw [z] at e
      cases e
      have hx' : Rp X.K F w x := by
        cases w <;> first | (exfalso; exact Bool.noConfusion h.1) | (unfold Vw at hx; exact hx)
      obtain ⟨v, h1, h2, h3⟩ := fidx_ok hx' h.1 hr h.2 z
      have fx : flatV x = true := (feq_ok hx' hx' h.1 h.1).2.1
      exact ⟨p, us, x, j, v, rfl, rfl, hs, fx, flat_all hr h.2, h1, h2, h3, q.int sF⟩
  · rw [if_neg h] at e; cases e
/-- a.index(b), a text or a list -/
theorem de_sidx2 {i : Nat} {gb : Env → R Od} (ha : PE X a (tVar i)) (hb : DD X C W b gb) (hs : starEach [b] X.env = (false, eval b X.env) :: starEach [] X.env) (hbase : attributeBase a "index" X.env (eval a X.env) = eval a X.env) (hline : (p1.endLine == pos.line) = true) :
    DE X C W (.Call (.Attribute a "index" p1) [b] [] pos) (fun env => match gs env i with
      | some (.p (.str x)) => (gb env).bd fun y env => (match rd env y with
        | some w => R.of (vsidx (.str x) w) env
        | none => .no)
      | some (.p (.lst ys)) => (gb env).bd fun y env => (match rd env y with
        | some w => R.of (vlidx ys w) env
        | none => .no)
      | _ => .no) :=
  ⟨fun pins s σ H Q I ⟨F, env, fp, sr, h1⟩ => by
    cases z : gs env i with
    | none => simp only [z] at h1; exact h1.elim
    | some ov =>
      cases ov with
      | p v =>
        cases v with
        | str x =>
          refine (de_sidx ha hb hs hbase hline).run pins s σ H Q I ⟨F, env, fp, sr, ?_⟩
          simp only [z] at h1 ⊢
          exact h1
        | lst ys =>
          simp only [z] at h1
          refine (pe_bm PySem.F.plainAttrs_list PySem.F.slot_list_index PySem.F.type_list_index mt_index ha (pa_cons hb pa_nil hs) hbase (by rw [hs]; rfl) hline hs rfl).run pins s σ H Q I ?_
          obtain ⟨u, e1, r⟩ := sr.rel i _ z
          unfold Ro Rp at r
          obtain ⟨_, p, us, rfl, k1, k2⟩ := r
          refine ⟨.ref p, e1, .inl ⟨rfl, _, .inl (Same.rd sr.sF k1)⟩, F, env, fp, sr, AX.bd h1 fun y env1 F1 H1 w fp1 q1 e1 st1 sr1 ro1 nd1 dj1 h1 => ?_⟩
          cases z1 : rd env1 y with
          | none => simp only [z1] at h1; exact h1.elim
          | some v =>
            simp only [z1] at h1
            cases z2 : vlidx ys v with
            | none => rw [z2] at h1; exact h1.elim
            | some r =>
              rw [z2] at h1
              exact vlidx_go z2 sr1.sF (.inl (Same.rd (Same.trans st1.sF sr1.sF) k1)) (k2.mono st1.sF) (RoD.vw ro1 sr1 z1) (AX.endO sr1 h1)
        | _ => simp only [z] at h1; exact h1.elim
      | _ => simp only [z] at h1; exact h1.elim⟩
/-- [..].index(b) -/
theorem de_lix {fs : Env → R (List Val)} {gb : Env → R Od} (h : DPs X C W es fs) (hb : DD X C W b gb) (hs : starEach [b] X.env = (false, eval b X.env) :: starEach [] X.env) (hbase : attributeBase (.List es p2) "index" X.env (eval (.List es p2) X.env) = eval (.List es p2) X.env) (hline : (p1.endLine == pos.line) = true) :
    DE X C W (.Call (.Attribute (.List es p2) "index" p1) [b] [] pos) (fun env => (fs env).bd fun vs env => if vs.length ≤ sizeLine then (gb env).bd fun y env => (match rd env y with
        | some w => R.of (vlidx vs w) env
        | none => .no) else .no) :=
  ⟨fun pins s σ H Q I ⟨F, env, fp, sr, h1⟩ => by
    refine (pe_bm PySem.F.plainAttrs_list PySem.F.slot_list_index PySem.F.type_list_index mt_index (pe_lst h) (pa_cons hb pa_nil hs) hbase (by rw [hs]; rfl) hline hs rfl).run pins s σ H Q I ⟨F, env, fp, sr, AX.bd h1 fun vs env1 F1 H1 us fp1 q1 e1 st1 sr1 ro1 nd1 dj1 h1 => ?_⟩
    obtain ⟨rfl, r⟩ := ro1
    by_cases hz : vs.length ≤ sizeLine
    · rw [if_pos hz] at h1
      refine ⟨by rw [r.len]; exact hz, fun p n => ?_⟩
      obtain ⟨al, sN⟩ := Al.frozen (o := .lst us) sr1.sF n
      have sr2 := sr1.al al sN
      refine ⟨.inl ⟨rfl, _, .inl (.inl upd_same)⟩, _, env1, fp1, sr2, AX.bd (AX.shift (al.step fp1) h1) fun y env3 F3 H3 w fp3 q3 e3 st3 sr3 ro3 nd3 dj3 h3 => ?_⟩
      cases z1 : rd env3 y with
      | none => simp only [z1] at h3; exact h3.elim
      | some v =>
        simp only [z1] at h3
        cases z2 : vlidx vs v with
        | none => rw [z2] at h3; exact h3.elim
        | some r0 =>
          rw [z2] at h3
          exact vlidx_go z2 sr3.sF (.inl (.inl (Same.trans st3.sF sr3.sF _ _ upd_same))) ((r.mono al.sF).mono st3.sF) (RoD.vw ro3 sr3 z1) (AX.endO sr3 h3)
    · rw [if_neg hz] at h1; exact h1.elim⟩
end
end EN

/-! EnET: a caught error is asked: isinstance, its word. -/
namespace EN
open PySem PySem.Spec L2 PyProof.Rows
/-- what the top has written of the own classes of errors -/
structure ClsF (K : PySem.W.Frag) (mg : Str → Option Value) : Prop where
  gl : ∀ c, c < 8 → mg (cN c) = some (.ref (CofK K c))
  ec : ∀ c, c < 8 → L2.ExcC K (CofK K c)
  ex : ∀ c, c < 8 → PySem.W.exmOne K (.ref (CofK K c)) (.ref (CofK K 0)) = some true
  ki : ∀ c, c < 8 → ∀ d, d < 8 → PySem.W.kitOne K (.ref (CofK K c)) (.ref (CofK K d)) = some (iss c d)
  kv : ∀ c, c < 8 → PySem.W.kitOne K (.ref (CofK K c)) (.type "ValueError") = some true
  ra : ∀ c, c < 8 → c ≠ 3 → RaC K (CofK K c)
  rw_ : RaW K mg (CofK K 3)
section
variable {X : Cx} {pins : List (Addr × Obj)} {σ : L2.St} {H F : Hp} {s : Shared}
/-- where a caught error stands -/
theorem er_at {C a : Addr} {d : Option Addr} {w : Option Str} (I : Inv X pins σ H s) (sF : Same F H) (hF : F a = some (erO a C d)) (hw : ErW F d w) :
    ∃ oe od, PySem.W.InstAt s.heap a oe C od ∧ ∀ x, w = some x → ∃ o u, od = some o ∧ PySem.W.lookIn "word" o = some (some u) ∧ RelV (.str x) u := by
  obtain ⟨⟨oe, h1, h2, h3, vs, h4⟩, _, _⟩ := (show ObjOk X.prog X.w H s.heap a (erO a C d) from I.hok a _ (sF _ _ hF))
  cases w with
  | none =>
    have hd : d = none := hw
    subst hd
    refine ⟨oe, none, ⟨h1, h2, by unfold PySem.W.notCls; rw [h4], ?_⟩, fun x e => (nomatch e)⟩
    rw [h3]
    trivial
  | some x =>
    obtain ⟨dd, rfl, e⟩ := hw
    obtain ⟨mA, hns, hr⟩ := (show ObjOk X.prog X.w H s.heap dd (.xd [("word", .str x)]) from I.hok dd _ (sF _ _ e))
    obtain ⟨od, ho, hl⟩ := lookIn_ns hns
    obtain ⟨u, hu, ru⟩ := RelO.some_of (v := V.str x) (o := mA "word") (hr "word")
    refine ⟨oe, some od, ⟨h1, h2, by unfold PySem.W.notCls; rw [h4], ?_⟩, fun y e => ?_⟩
    · rw [h3]
      exact ho
    · cases e
      exact ⟨od, u, rfl, by rw [hl, hu], ru⟩
theorem er_kit {C a : Addr} {ox : Obj} {od : Option Obj} (E : L2.ExcC X.K C) : PySem.W.KitX X.K (.ref a) (.ref C) (fun h => PySem.W.InstAt h a ox C od) := by
  obtain ⟨cd, hc, _⟩ := PySem.W.any_some E.hd
  exact PySem.W.kitx_exc (by rw [hc]; rfl) E.hg E.hk E.hs E.ha E.hn E.ht E.hm
/-- isinstance(e, c), e a caught error -/
def rEr1 (K : PySem.W.Frag) : List V → Hp → VK → Prop := fun xs H Q => ∃ (a C : Addr) (cv : V) (u : Value) (F : Hp) (d : Option Addr) (w : Option Str) (b : Bool), xs = [.ref a, cv] ∧ ClsV cv u ∧ Same F H ∧ F a = some (erO a C d) ∧ ErW F d w ∧ L2.ExcC K C ∧ PySem.W.kitOne K (.ref C) u = some b ∧ Q (.bl b) H
def rErT (K : PySem.W.Frag) : List V → Hp → VK → Prop := fun xs H Q => ∃ (a C tp : Addr) (cs : List V) (us : List Value) (F : Hp) (d : Option Addr) (w : Option Str) (b : Bool), xs = [.ref a, .ref tp] ∧ H tp = some (.tup cs) ∧ Paired ClsV cs us ∧ Same F H ∧ F a = some (erO a C d) ∧ ErW F d w ∧ L2.ExcC K C ∧ PySem.W.kitAny K (.ref C) us = some b ∧ Q (.bl b) H
end
section
variable {X : Cx}
theorem call_er1 : CallR X (.builtin "isinstance") (rEr1 X.K) := by
  intro pins s σ H xs us Q I r h
  obtain ⟨a, C, cv, u, F, d, w, b, rfl, k, sF, hF, hw, E, e, q⟩ := h
  obtain ⟨u1, u2, rfl, r1, r2⟩ := vals2 r
  have e2 := k.eq r2
  subst e2
  cases (show u1 = Value.ref a from r1)
  obtain ⟨oe, od, J, _⟩ := er_at I sF hF hw
  exact PySem.W.kia_one (er_kit E) I.kIn J e (fun z => nomatch z) fun tk => ⟨.bl b, H, I.tok tk, rfl, q⟩
theorem call_erT : CallR X (.builtin "isinstance") (rErT X.K) := by
  intro pins s σ H xs us Q I r h
  obtain ⟨a, C, tp, cs, ws, F, d, w, b, rfl, hT, k, sF, hF, hw, E, e, q⟩ := h
  obtain ⟨u1, u2, rfl, r1, r2⟩ := vals2 r
  cases (show u2 = Value.ref tp from r2)
  cases (show u1 = Value.ref a from r1)
  obtain ⟨oe, od, J, _⟩ := er_at I sF hF hw
  obtain ⟨_, its, rv, o, h1, h2, n, h3⟩ := (show ObjOk X.prog X.w H s.heap tp (.tup cs) from I.hok tp _ hT)
  have e3 := ClsV.all k rv
  subst e3
  obtain ⟨oc, od, dt, sl⟩ := o
  simp only at h2 h3
  subst h2 h3
  exact PySem.W.kia_tup (er_kit E) I.kIn J h1 e (fun z => nomatch z) fun tk => ⟨.bl b, H, I.tok tk, rfl, q⟩
/-- e.f, e a caught error -/
theorem pe_erw {i : Nat} {e : Expr} {pos : Pos} {n : Str} (he : PE X e (tVar i)) (hb : attributeBase e n X.env (eval e X.env) = eval e X.env := by rfl) :
    PE X (.Attribute e n pos) (fun σ H Q => ∃ (a C : Addr) (F : Hp) (d : Option Addr) (x : Str), σ[i]? = some (some (.ref a)) ∧ n = "word" ∧ Same F H ∧ F a = some (erO a C d) ∧ ErW F d (some x) ∧ L2.ExcC X.K C ∧ PySem.W.findIn X.K (.ref C) "word" = some none ∧ Q (.str x) H) := by
  refine ⟨fun pins s σ H Q I h => ?_⟩
  obtain ⟨a, C, F, d, x, e0, rfl, sF, hF, hw, E, nW, q⟩ := h
  refine attr_of hb (thn (he.run pins s σ H (fun v H1 => v = .ref a ∧ H1 = H) I ⟨.ref a, e0, rfl, rfl⟩) fun u s1 hh => ?_)
  obtain ⟨v, H1, I1, rx, ev, eH⟩ := hh
  subst ev
  subst eH
  obtain rfl : u = Value.ref a := rx
  obtain ⟨oe, od, J, k⟩ := er_at I1 sF hF hw
  obtain ⟨o, u, rfl, hl, ru⟩ := k x rfl
  exact HandSPX.exc_get I1.kIn J E.hg E.hk E.hs (PySem.W.findObj_own E.hd nW rfl hl) (handed_of ru) ⟨.str x, H1, I1.tok _, ru, q⟩
end
section
variable {X : Cx} {C : Nat → Addr} {W : WX} {x : Expr} {i : Nat} {p p2 pos pt : Pos}
theorem SR.erAt {K : PySem.W.Frag} {F H : Hp} {env : Env} {σ : Sg} {fp : Nat → List Addr} (sr : SR K F H env σ fp) {c : Nat} {w : Option Str} (z : gs env i = some (.p (.er c w))) : ∃ a d, σ[i]? = some (some (.ref a)) ∧ F a = some (erO a (CofK K c) d) ∧ ErW F d w := by
  obtain ⟨u, e, r⟩ := sr.rel i _ z
  unfold Ro Rp at r
  obtain ⟨_, a, d, rfl, h1, h2⟩ := r
  exact ⟨a, d, e, h1, h2⟩
/-- isinstance(x, C) -/
theorem de_isc {d : Nat} {cn : Str} (cf : ClsF X.K X.mg) (hd : d < 8) (hcn : cn = cN d) (hg : Gl X "isinstance") (hm : X.mg "isinstance" = none) (hgc : Gl X cn) (hdb : (cn == ("__debug__" : Str)) = false) (hx : PE X x (tVar i)) (hs : starEach [x, .Name cn p2] X.env = (false, eval x X.env) :: starEach [.Name cn p2] X.env) :
    DE X C W (.Call (.Name "isinstance" p) [x, .Name cn p2] [] pos) (fun env => match gs env i with
      | some (.p (.er c _)) => if c < 8 then .ok (.p (.bl (iss c d))) env else .no
      | _ => .no) :=
  ⟨fun pins s σ H Q I ⟨F, env, fp, sr, h1⟩ => by
    subst hcn
    refine (pe_callB call_er1 hg hm (by decide +kernel) (pa_cons hx (pa_cons (pe_glob (v := .ref (CofK X.K d)) hgc (cf.gl d hd) rfl hdb) pa_nil) hs) (by decide) (by decide) hs rfl).run pins s σ H Q I ?_
    cases z : gs env i with
    | none => simp only [z] at h1; exact h1.elim
    | some ov =>
      cases ov with
      | p v =>
        cases v with
        | er c w =>
          simp only [z] at h1
          by_cases hc : c < 8
          · rw [if_pos hc] at h1
            obtain ⟨a, d0, e0, hF, hw⟩ := sr.erAt z
            exact ⟨.ref a, e0, a, _, _, _, F, d0, w, iss c d, rfl, .own _, sr.sF, hF, hw, cf.ec c hc, cf.ki c hc d hd, AX.al sr h1 (Al.refl F H) sr.sF .nil (by unfold rO Ro Rp; exact ⟨rfl, rfl⟩)⟩
          · rw [if_neg hc] at h1; exact h1.elim
        | _ => simp only [z] at h1; exact h1.elim
      | _ => simp only [z] at h1; exact h1.elim⟩
/-- isinstance(x, ValueError) -/
theorem de_isv (cf : ClsF X.K X.mg) (hg : Gl X "isinstance") (hm : X.mg "isinstance" = none) (hgv : Gl X "ValueError") (hmv : X.mg "ValueError" = none) (hx : PE X x (tVar i)) (hs : starEach [x, .Name "ValueError" p2] X.env = (false, eval x X.env) :: starEach [.Name "ValueError" p2] X.env) :
    DE X C W (.Call (.Name "isinstance" p) [x, .Name "ValueError" p2] [] pos) (fun env => match gs env i with
      | some (.p (.er c _)) => if c < 8 then .ok (.p (.bl true)) env else .no
      | _ => .no) :=
  ⟨fun pins s σ H Q I ⟨F, env, fp, sr, h1⟩ => by
    refine (pe_callB call_er1 hg hm (by decide +kernel) (pa_cons hx (pa_cons (pe_bltn (v := .ty "ValueError") hgv hmv (by decide +kernel) rfl (by decide) (by decide)) pa_nil) hs) (by decide) (by decide) hs rfl).run pins s σ H Q I ?_
    cases z : gs env i with
    | none => simp only [z] at h1; exact h1.elim
    | some ov =>
      cases ov with
      | p v =>
        cases v with
        | er c w =>
          simp only [z] at h1
          by_cases hc : c < 8
          · rw [if_pos hc] at h1
            obtain ⟨a, d0, e0, hF, hw⟩ := sr.erAt z
            exact ⟨.ref a, e0, a, _, _, _, F, d0, w, true, rfl, .ty _, sr.sF, hF, hw, cf.ec c hc, cf.kv c hc, AX.al sr h1 (Al.refl F H) sr.sF .nil (by unfold rO Ro Rp; exact ⟨rfl, rfl⟩)⟩
          · rw [if_neg hc] at h1; exact h1.elim
        | _ => simp only [z] at h1; exact h1.elim
      | _ => simp only [z] at h1; exact h1.elim⟩
/-- x.word -/
theorem de_wrd (cf : ClsF X.K X.mg) (hx : PE X x (tVar i)) (hb : attributeBase x "word" X.env (eval x X.env) = eval x X.env) :
    DE X C W (.Attribute x "word" pos) (fun env => match gs env i with
      | some (.p (.er c (some y))) => if c = 3 then .ok (.p (.str y)) env else .no
      | _ => .no) :=
  ⟨fun pins s σ H Q I ⟨F, env, fp, sr, h1⟩ => by
    refine (pe_erw hx hb).run pins s σ H Q I ?_
    cases z : gs env i with
    | none => simp only [z] at h1; exact h1.elim
    | some ov =>
      cases ov with
      | p v =>
        cases v with
        | er c w =>
          cases w with
          | none => simp only [z] at h1; exact h1.elim
          | some y =>
            simp only [z] at h1
            by_cases hc : c = 3
            · rw [if_pos hc] at h1
              subst hc
              obtain ⟨a, d0, e0, hF, hw⟩ := sr.erAt z
              exact ⟨a, _, F, d0, y, e0, rfl, sr.sF, hF, hw, cf.ec 3 (by decide), cf.rw_.noW, AX.al sr h1 (Al.refl F H) sr.sF .nil (by unfold rO Ro Rp; exact ⟨rfl, rfl⟩)⟩
            · rw [if_neg hc] at h1; exact h1.elim
        | _ => simp only [z] at h1; exact h1.elim
      | _ => simp only [z] at h1; exact h1.elim⟩
/-- the tuple of own classes is laid -/
def clsV (K : PySem.W.Frag) (ds : List Nat) : List V := ds.map fun d => V.ref (CofK K d)
theorem cls_pair {K : PySem.W.Frag} : ∀ ds : List Nat, Paired ClsV (clsV K ds) (ds.map fun d => Value.ref (CofK K d))
  | [] => .nil
  | d :: ds => .cons (.own _) (cls_pair ds)
theorem cls_kit {K : PySem.W.Frag} {mg : Str → Option Value} (cf : ClsF K mg) {c : Nat} (hc : c < 8) : ∀ ds : List Nat, (∀ d ∈ ds, d < 8) → PySem.W.kitAny K (.ref (CofK K c)) (ds.map fun d => Value.ref (CofK K d)) = some (ds.any (iss c))
  | [], _ => rfl
  | d :: ds, h => by
    have ih := cls_kit cf hc ds fun d z => h d (List.mem_cons_of_mem _ z)
    rw [List.map_cons, List.any_cons]
    exact kitAny_cons (cf.ki c hc d (h d List.mem_cons_self)) (fun e => by rw [e, Bool.false_or]; exact ih) fun e => by rw [e]; rfl
theorem cls_pa (cf : ClsF X.K X.mg) : ∀ (ds : List Nat) (es : List Expr), es.length = ds.length → (∀ k, k < ds.length → ∃ pk, es[k]? = some (.Name (cN (ds.getD k 0)) pk) ∧ ds.getD k 0 < 8 ∧ Gl X (cN (ds.getD k 0)) ∧ (cN (ds.getD k 0) == ("__debug__" : Str)) = false) →
    PA X es (fun σ H k => k (clsV X.K ds) H)
  | [], [], _, _ => ⟨fun pos pins s σ H Q I h => pa_nil.run pos pins s σ H Q I h⟩
  | [], _ :: _, h, _ => by cases h
  | _ :: _, [], h, _ => by cases h
  | d :: ds, e :: es, h, k => by
    obtain ⟨pk, e1, e2, e3, e4⟩ := k 0 (by simp)
    have e1 : some e = some (.Name (cN d) pk) := e1
    cases e1
    have ih := cls_pa cf ds es (by simpa using h) fun j hj => by
      obtain ⟨pj, h1, h2⟩ := k (j + 1) (by simpa using hj)
      exact ⟨pj, h1, h2⟩
    refine ⟨fun pos pins s σ H Q I hh => (pa_cons (pe_glob (v := .ref (CofK X.K d)) e3 (cf.gl d e2) rfl e4) ih (by rfl)).run pos pins s σ H Q I hh⟩
/-- isinstance(x, (C1, ..)) -/
theorem de_isx {ds : List Nat} {es : List Expr} (cf : ClsF X.K X.mg) (hds : ∀ d ∈ ds, d < 8) (hl : ds.length ≤ sizeLine) (hg : Gl X "isinstance") (hm : X.mg "isinstance" = none) (ha : PA X es (fun σ H k => k (clsV X.K ds) H)) (hx : PE X x (tVar i)) (hs : starEach [x, .Tuple es 0 pt] X.env = (false, eval x X.env) :: starEach [.Tuple es 0 pt] X.env) :
    DE X C W (.Call (.Name "isinstance" p) [x, .Tuple es 0 pt] [] pos) (fun env => match gs env i with
      | some (.p (.er c _)) => if c < 8 then .ok (.p (.bl (ds.any (iss c)))) env else .no
      | _ => .no) :=
  ⟨fun pins s σ H Q I ⟨F, env, fp, sr, h1⟩ => by
    refine (pe_callB call_erT hg hm (by decide +kernel) (pa_cons hx (pa_cons (pe_tup ha) pa_nil) hs) (by decide) (by decide) hs rfl).run pins s σ H Q I ?_
    cases z : gs env i with
    | none => simp only [z] at h1; exact h1.elim
    | some ov =>
      cases ov with
      | p v =>
        cases v with
        | er c w =>
          simp only [z] at h1
          by_cases hc : c < 8
          · rw [if_pos hc] at h1
            obtain ⟨a, d0, e0, hF, hw⟩ := sr.erAt z
            refine ⟨.ref a, e0, (by unfold clsV; rw [List.length_map]; exact hl), fun q n => ?_⟩
            have al : Al F H F (upd H q (.tup (clsV X.K ds))) [] := ⟨Same.refl F, Same.upd n, fun _ z => (nomatch z), fun a o e n => by rw [e] at n; cases n⟩
            have sN : Same F (upd H q (.tup (clsV X.K ds))) := Same.trans sr.sF (Same.upd n)
            exact ⟨a, _, q, _, _, F, d0, w, ds.any (iss c), rfl, upd_same, cls_pair ds, sN, hF, hw, cf.ec c hc, cls_kit cf hc ds hds, AX.al sr h1 al sN .nil (by unfold rO Ro Rp; exact ⟨rfl, rfl⟩)⟩
          · rw [if_neg hc] at h1; exact h1.elim
        | _ => simp only [z] at h1; exact h1.elim
      | _ => simp only [z] at h1; exact h1.elim⟩
end
end EN

/-! EnQ: every term does what its reading says. -/
namespace EN
open PySem L2 PyProof.Rows
/-- what is known of a text -/
structure Ss where
  G : Nm
  N : List Str
  ar : Nat → Option Nat
  xs : Bool
def visC (sc : Scope) (N : List Str) (i : Nat) : Bool := match N[i]? with
  | some x => (match sc.names.lookup x with | some .local => true | some .cell => true | some .free => true | _ => false) && !(x == ("__debug__" : Str)) && !(x == ("__classdict__" : Str))
  | none => false
def locC (sc : Scope) (fnn : Str → Bool) (N : List Str) (i : Nat) : Bool := match N[i]? with
  | some x => (match sc.names.lookup x with | some .local => true | some .cell => fnn x | _ => false)
  | none => false
def glC (sc : Scope) (x : Str) : Bool := (match sc.names.lookup x with | some .globalImplicit => true | _ => false) && !(x == ("__debug__" : Str))
/-- zip yields tuples: its target is one -/
def zpT : Tg → It → Bool
  | .tp _, .zp _ => true
  | .nm _, .zp _ => false
  | _, _ => true
/-- a class of errors that the text names -/
def clC (sc : Scope) (c : Nat) : Bool := decide (c < 8) && glC sc (cN c)
def ownC (N : List Str) (tg : Tg) : List (Str × Nat) := (slots tg).map fun i => (nm N i, i)
section
variable (S : Ss)
mutual
/-- may it stand as a value, as a test -/
def ok (sc : Scope) (fnn : Str → Bool) : Ex → Bool × Bool
  | .var i => (visC sc S.N i, visC sc S.N i)
  | .int _ => (true, true)
  | .str _ => (true, true)
  | .bl _ => (true, true)
  | .non => (true, true)
  | .gl g => (glC sc (S.G.gl g), glC sc (S.G.gl g))
  | .neg a => ((ok sc fnn a).1, (ok sc fnn a).1)
  | .bin _ a b => ((ok sc fnn a).1 && (ok sc fnn b).1, (ok sc fnn a).1 && (ok sc fnn b).1)
  | .cmp _ a b => ((ok sc fnn a).1 && (ok sc fnn b).1, (ok sc fnn a).1 && (ok sc fnn b).1)
  | .bop _ es => ((oks sc fnn es).1 && !es.isEmpty, (oks sc fnn es).2 && !es.isEmpty)
  | .nt a => ((ok sc fnn a).1, (ok sc fnn a).2)
  | .ife t a b => ((ok sc fnn t).2 && (ok sc fnn a).1 && (ok sc fnn b).1, false)
  | .ix a i => ((ok sc fnn a).1 && (ok sc fnn i).1, (ok sc fnn a).1 && (ok sc fnn i).1)
  | .slc a lo hi => ((ok sc fnn a).1 && (oko sc fnn lo).1 && (oko sc fnn hi).1, (ok sc fnn a).1 && (oko sc fnn lo).1 && (oko sc fnn hi).1)
  | .rev a => ((ok sc fnn a).1, (ok sc fnn a).1)
  | .tup es => ((oks sc fnn es).1, (oks sc fnn es).1)
  | .lst es => ((oks sc fnn es).1, (oks sc fnn es).1)
  | .lc elt tg it ifs s =>
    (okI sc fnn it && zpT tg it && blkC S.N sc s.scope (ownC S.N tg) && ((slots tg).all fun i => locC (relS s.scope sc) (fun x => s.scope.names.lookup x == some .cell) S.N i) &&
      (oko (relS s.scope sc) (fun x => s.scope.names.lookup x == some .cell) ifs).2 && (ok (relS s.scope sc) (fun x => s.scope.names.lookup x == some .cell) elt).1, false)
  | .call f ms es => (glC sc (S.G.fn f) && (oks sc fnn es).1 && decide (S.ar f = some es.length) && decide (ms.length = es.length), glC sc (S.G.fn f) && (oks sc fnn es).1 && decide (S.ar f = some es.length) && decide (ms.length = es.length))
  | .bi b es => (glC sc (biN b) && (oks sc fnn es).1 && !es.isEmpty, glC sc (biN b) && (oks sc fnn es).1 && !es.isEmpty)
  | .app i e => (visC sc S.N i && (ok sc fnn e).1, false)
  | .pop i => (visC sc S.N i, false)
  | .nix i k j => (visC sc S.N i && visC sc S.N j, false)
  | .nlen i k => (visC sc S.N i && glC sc "len", false)
  | .isi e t => (glC sc "isinstance" && glC sc (tyP t) && (ok sc fnn e).1, glC sc "isinstance" && glC sc (tyP t) && (ok sc fnn e).1)
  | .dd => (true, true)
  | .jn _ e => ((ok sc fnn e).1, (ok sc fnn e).1)
  | .gin _ g e => (glC sc (S.G.gl g) && (ok sc fnn e).1, glC sc (S.G.gl g) && (ok sc fnn e).1)
  | .gix g e => (glC sc (S.G.gl g) && (ok sc fnn e).1, glC sc (S.G.gl g) && (ok sc fnn e).1)
  | .gget g e => (glC sc (S.G.gl g) && (ok sc fnn e).1, glC sc (S.G.gl g) && (ok sc fnn e).1)
  | .sidx i b => (visC sc S.N i && (ok sc fnn b).1, visC sc S.N i && (ok sc fnn b).1)
  | .dl ks es => ((oks sc fnn es).1 && !ks.isEmpty && decide (ks.length = es.length) && decide (ks.length ≤ 15) && decide ks.Nodup, false)
  | .is2 e t1 t2 => (glC sc "isinstance" && glC sc (tyP t1) && glC sc (tyP t2) && (ok sc fnn e).1, glC sc "isinstance" && glC sc (tyP t1) && glC sc (tyP t2) && (ok sc fnn e).1)
  | .spl i _ => (visC sc S.N i, visC sc S.N i)
  | .exr i e => (visC sc S.N i && glC sc "list" && glC sc "reversed" && (ok sc fnn e).1, false)
  | .chn a b c => ((ok sc fnn a).1 && (ok sc fnn b).1 && (ok sc fnn c).1, (ok sc fnn a).1 && (ok sc fnn b).1 && (ok sc fnn c).1)
  | .lix es b => ((oks sc fnn es).1 && (ok sc fnn b).1, (oks sc fnn es).1 && (ok sc fnn b).1)
  | .isx i cs => (S.xs && glC sc "isinstance" && visC sc S.N i && decide (cs.length ≤ 100) && cs.all (clC sc), S.xs && glC sc "isinstance" && visC sc S.N i && decide (cs.length ≤ 100) && cs.all (clC sc))
  | .isc i c => (S.xs && glC sc "isinstance" && visC sc S.N i && clC sc c, S.xs && glC sc "isinstance" && visC sc S.N i && clC sc c)
  | .isv i => (S.xs && glC sc "isinstance" && visC sc S.N i && glC sc "ValueError", S.xs && glC sc "isinstance" && visC sc S.N i && glC sc "ValueError")
  | .wrd i => (S.xs && visC sc S.N i, S.xs && visC sc S.N i)
def oks (sc : Scope) (fnn : Str → Bool) : List Ex → Bool × Bool
  | [] => (true, true)
  | e :: es => ((ok sc fnn e).1 && (oks sc fnn es).1, (ok sc fnn e).2 && (oks sc fnn es).2)
def oko (sc : Scope) (fnn : Str → Bool) : Option Ex → Bool × Bool
  | none => (true, true)
  | some e => ((ok sc fnn e).1, (ok sc fnn e).2)
def okI (sc : Scope) (fnn : Str → Bool) : It → Bool
  | .e e => (ok sc fnn e).1
  | .rng es => glC sc "range" && (oks sc fnn es).1 && (es.length == 1 || es.length == 2)
  | .zp es => glC sc "zip" && (oks sc fnn es).1 && (es.length == 2 || es.length == 3)
  | .rvs e => glC sc "reversed" && (ok sc fnn e).1
end
end
def bltNames : List Str := ["len", "sum", "sorted", "abs", "min", "max", "all", "int", "tuple", "list", "str", "dict", "bool", "range", "reversed", "isinstance", "zip", "ValueError"]
/-- a context that a text stands in -/
structure Sn (S : Ss) (cl : Nat → List OV → CR) (gl : Nat → Option Val) (C : Nat → Addr) (X : Cx) (W : WX) (sc : Scope) (fnn : Str → Bool) : Prop where
  hN : X.N = S.N
  nd : X.N.Nodup
  calm : X.calm = true
  un : X.A.units + 64 < cLine
  hsc : X.env.scope = sc
  fn : ∀ x, fnn x = true → X.fn x = true
  tk : Takes X W
  blt : ∀ x ∈ bltNames, X.mg x = none
  fns : ∀ f n, S.ar f = some n → ∃ k fa fd ps, X.mg (S.G.fn f) = some (.ref fa) ∧ PySem.W.keepIn X.K (.ref fa) = true ∧ Binds X.K fd ps [] ∧ FnOk X.prog X.w X.K X.mg X.base (L2.CX X.prog X.w) k fa fd ps (spF X.K C cl f n) ∧ Room k X.A
  gls : ∀ g v, gl g = some v → (∀ ks vs, v ≠ .dct ks vs) → ∃ u w, X.mg (S.G.gl g) = some u ∧ RelV w u ∧ ∀ F, Rp X.K F v w
  gds : ∀ g ks vs, gl g = some (.dct ks vs) → GD X.K X.w (X.mg (S.G.gl g)) ks vs
  hC : ∀ c, C c = CofK X.K c
  cf : S.xs = true → ClsF X.K X.mg
  rm : Room 2 X.A
section
variable {S : Ss} {cl : Nat → List OV → CR} {gl : Nat → Option Val} {C : Nat → Addr} {X : Cx} {W : WX} {sc : Scope} {fnn : Str → Bool} {L : Nat}
theorem Sn.blk (n : Sn S cl gl C X W sc fnn) (scope : Scope) (s : Shared) (H : Hp) (Cc : Addr) (cells : List (Str × Addr)) (fp : List Addr) : Sn S cl gl C (X.blk s H scope (compEnvC scope cells Cc X.env) fp) W0 (relS scope sc) (fun x => scope.names.lookup x == some .cell) where
  hN := n.hN
  nd := n.nd
  calm := n.calm
  un := n.un
  hsc := by rw [← n.hsc]; rfl
  fn := fun x h => h
  tk := takes0
  blt := n.blt
  fns := n.fns
  gls := n.gls
  gds := n.gds
  hC := n.hC
  cf := n.cf
  rm := n.rm
theorem Sn.try_ (n : Sn S cl gl C X W sc fnn) (pn : List (Addr × Obj)) (xe : Value → Shared → Prop) {W' : WX} (tk : Takes (X.tr pn xe) W') : Sn S cl gl C (X.tr pn xe) W' sc fnn where
  hN := n.hN
  nd := n.nd
  calm := n.calm
  un := n.un
  hsc := n.hsc
  fn := n.fn
  tk := tk
  blt := n.blt
  fns := n.fns
  gls := n.gls
  gds := n.gds
  hC := n.hC
  cf := n.cf
  rm := n.rm
theorem nm_of {N : List Str} {i : Nat} {x : Str} (h : N[i]? = some x) : nm N i = x := by
  unfold nm
  rw [List.getD_eq_getElem?_getD, h]; rfl
theorem Sn.var (n : Sn S cl gl C X W sc fnn) {i : Nat} (h : visC sc S.N i = true) (pos : Pos) : PE X (.Name (nm S.N i) pos) (tVar i) := by
  unfold visC at h
  cases z : S.N[i]? with
  | none => rw [z] at h; cases h
  | some x =>
    rw [z] at h
    simp only [Bool.and_eq_true, Bool.not_eq_true'] at h
    obtain ⟨⟨h1, h2⟩, h3⟩ := h
    rw [nm_of z]
    refine pe_var (by rw [n.hN]; exact z) ?_ h2 h3
    unfold Vis
    rw [n.hsc]
    split at h1
    · rename_i w; exact .inl w
    · rename_i w; exact .inr (.inl w)
    · rename_i w; exact .inr (.inr w)
    · cases h1
theorem Sn.loc (n : Sn S cl gl C X W sc fnn) {i : Nat} (h : locC sc fnn S.N i = true) : ∃ x, nm S.N i = x ∧ X.N[i]? = some x ∧ L2.Loc X.env.scope x ∧ (X.fn x = true ∨ X.env.scope.names.lookup x = some .local) := by
  unfold locC at h
  cases z : S.N[i]? with
  | none => rw [z] at h; cases h
  | some x =>
    rw [z] at h
    refine ⟨x, nm_of z, by rw [n.hN]; exact z, ?_⟩
    unfold L2.Loc
    rw [n.hsc]
    simp only at h
    split at h
    · rename_i w; exact ⟨.inl w, .inr w⟩
    · rename_i w; exact ⟨.inr w, .inl (n.fn x h)⟩
    · cases h
theorem Sn.glo (n : Sn S cl gl C X W sc fnn) {x : Str} (h : glC sc x = true) : Gl X x ∧ (x == ("__debug__" : Str)) = false := by
  unfold glC at h
  simp only [Bool.and_eq_true, Bool.not_eq_true'] at h
  obtain ⟨h1, h2⟩ := h
  refine ⟨?_, h2⟩
  unfold Gl Env.kindOf
  rw [n.hsc]
  split at h1
  · assumption
  · cases h1
theorem Sn.bin_ (n : Sn S cl gl C X W sc fnn) (b : Bi) : X.mg (biN b) = none := n.blt _ (by cases b <;> decide)
theorem Sn.ty (n : Sn S cl gl C X W sc fnn) (t : Ty) : X.mg (tyP t) = none := n.blt _ (by cases t <;> decide)
/-- an operand -/
theorem dd_od {e : Ex} {s : Sup} (n : Sn S cl gl C X W sc fnn) (hv : (ok S sc fnn e).1 = true) (h : DE X C W (toE S.G S.N L e s).1 (ev cl gl e)) : DD X C W (toE S.G S.N L e s).1 (od e (ev cl gl e)) := by
  cases e with
  | var i =>
    have hv : visC sc S.N i = true := by unfold ok at hv; exact hv
    unfold toE
    exact dd_var (n.var hv _)
  | ix a i =>
    by_cases hk : ∃ j k, a = .var j ∧ i = .int k
    · obtain ⟨j, k, rfl, rfl⟩ := hk
      have hv : visC sc S.N j = true := by
        unfold ok at hv
        simp only [Bool.and_eq_true] at hv
        have := hv.1
        unfold ok at this; exact this
      unfold toE at h ⊢
      unfold toE at h ⊢
      exact dd_ix (n.var hv _) pe_int (fun _ _ => rfl) h
    · have e : od (.ix a i) (ev cl gl (.ix a i)) = fun env => (ev cl gl (.ix a i) env).bd fun r env => .ok (.v r) env := by
        funext env
        unfold od
        split
        · rename_i h; cases h
        · rename_i h; injection h with h1 h2; exact (hk ⟨_, _, h1, h2⟩).elim
        · rfl
      rw [e]
      exact dd_of_de h
  | _ => exact dd_of_de h
theorem dt_of {e : Ex} {s : Sup} (hp : plainT e = true) (h : DD X C W (toE S.G S.N L e s).1 (od e (ev cl gl e))) : DT X C W (toE S.G S.N L e s).1 (tst e (ev cl gl e)) :=
  dt_plain h (plainTrue S.G S.N L e s X.env hp)
theorem eva_nil {as : List Arg} {env env' : Env} (h : eva cl gl [] [] env = .ok as env') : as = [] := by
  unfold eva at h; cases h; rfl
theorem eva_len : ∀ {es : List Ex} {ms : List Am} {as : List Arg} {env env' : Env}, eva cl gl es ms env = .ok as env' → as.length = es.length
  | [], [], as, env, env', h => by unfold eva at h; cases h; rfl
  | [], _ :: _, as, env, env', h => by unfold eva at h; cases h
  | _ :: _, [], as, env, env', h => by unfold eva at h; cases h
  | e :: es, m :: ms, as, env, env', h => by
    unfold eva at h
    cases z : arg m e (ev cl gl e) env with
    | no => rw [z] at h; cases h
    | exc x env1 => rw [z] at h; cases h
    | ok a env1 =>
      rw [z] at h
      have h : ((eva cl gl es ms env1).bd fun as env => .ok (a :: as) env) = R.ok as env' := h
      cases y : eva cl gl es ms env1 with
      | no => rw [y] at h; cases h
      | exc x env1 => rw [y] at h; cases h
      | ok as2 env2 =>
        rw [y] at h
        cases h
        simp [eva_len y]
theorem evs_len : ∀ {es : List Ex} {vs : List Val} {env env' : Env}, evs cl gl es env = .ok vs env' → vs.length = es.length
  | [], vs, env, env', h => by unfold evs at h; cases h; rfl
  | e :: es, vs, env, env', h => by
    unfold evs at h
    cases z : pv (ev cl gl e) env with
    | no => rw [z] at h; cases h
    | exc x env1 => rw [z] at h; cases h
    | ok a env1 =>
      rw [z] at h
      have h : ((evs cl gl es env1).bd fun as env => .ok (a :: as) env) = R.ok vs env' := h
      cases y : evs cl gl es env1 with
      | no => rw [y] at h; cases h
      | exc x env1 => rw [y] at h; cases h
      | ok as2 env2 =>
        rw [y] at h
        cases h
        simp [evs_len y]
theorem pe_no {α β : Type} {K : PySem.W.Frag} {rl : Rel α β} {σ : Sg} {H : Hp} {Q : β → Hp → Prop} {f : Env → R α} (hf : ∀ env, f env = .no) (h : TX K C W rl f σ H Q) : False := by
  obtain ⟨F, env, fp, sr, h1⟩ := h
  rw [hf] at h1; exact h1
/-- an argument by its way -/
theorem da_of {m : Am} {e : Ex} {s : Sup} (n : Sn S cl gl C X W sc fnn) (hv : (ok S sc fnn e).1 = true) (h : DE X C W (toE S.G S.N L e s).1 (ev cl gl e)) : PE X (toE S.G S.N L e s).1 (TX X.K C W (rA X.K) (arg m e (ev cl gl e))) := by
  cases m with
  | P => exact da_P h
  | O => exact da_O h
  | M =>
    cases e with
    | var i =>
      have hv : visC sc S.N i = true := by unfold ok at hv; exact hv
      unfold toE
      exact da_M (n.var hv _)
    | _ => exact ⟨fun pins s σ H Q I t => (pe_no (fun _ => rfl) t).elim⟩
theorem tg_ok (n : Sn S cl gl C X W sc fnn) : ∀ (tg : Tg) (s : Sup), ((slots tg).all fun i => locC sc fnn S.N i) = true → PG X (toG S.N L tg s).1 (gT X.K tg)
  | .nm i, s, h => by
    have h : locC sc fnn S.N i = true := by simpa [slots] using h
    obtain ⟨x, e, h1, h2, h3⟩ := n.loc h
    unfold toG
    show PG X (.Name (nm S.N i) _) (gName i)
    rw [e]
    exact pg_name n.nd h1 h2 h3
  | .tp is, s, h => by
    unfold toG
    have go : ∀ (is : List Nat) (s : Sup), (is.all fun i => locC sc fnn S.N i) = true → PGs X (toNs S.N L is s).1 (gL is) ∧ (assignEach (toNs S.N L is s).1 X.env).length = is.length ∧ (assignEach (toNs S.N L is s).1 X.env).findIdx? (·.1) = none := by
      intro is
      induction is with
      | nil => intro s _; exact ⟨pgs_nil, rfl, rfl⟩
      | cons i is ih =>
        intro s h
        simp only [List.all_cons, Bool.and_eq_true] at h
        obtain ⟨x, e, h1, h2, h3⟩ := n.loc h.1
        obtain ⟨i1, i2, i3⟩ := ih s.tail h.2
        unfold toNs
        rw [e]
        refine ⟨pgs_cons (pg_name n.nd h1 h2 h3) i1 rfl, ?_, ?_⟩
        · show (_ :: _ : List (Bool × _)).length = _
          simp only [List.length_cons]
          exact congrArg (· + 1) i2
        · show List.findIdx? (·.1) ((false, _) :: assignEach (toNs S.N L is s.tail).1 X.env) = none
          rw [List.findIdx?_cons]
          simp only [Bool.false_eq_true, if_false]
          rw [i3]; rfl
    obtain ⟨g1, g2, g3⟩ := go is s.tail h
    exact pg_tup n.calm g1 g2 g3
theorem own_slots {N : List Str} {tg : Tg} : (ownC N tg).map (·.2) = slots tg := by
  unfold ownC
  rw [List.map_map]
  exact List.map_id _
theorem loc_lt {N : List Str} {i : Nat} (h : locC sc fnn N i = true) : i < N.length := by
  unfold locC at h
  cases z : N[i]? with
  | none => rw [z] at h; cases h
  | some x => exact (List.getElem?_eq_some_iff.mp z).1
end
end EN

/-! EnR: terms are sound. -/
namespace EN
open PySem L2 PyProof.Rows
section
variable {S : Ss} {cl : Nat → List OV → CR} {gl : Nat → Option Val} {C : Nat → Addr} {L : Nat}
/-- value and test at once -/
structure ET (S : Ss) (cl : Nat → List OV → CR) (gl : Nat → Option Val) (C : Nat → Addr) (L : Nat) (X : Cx) (W : WX) (sc : Scope) (fnn : Str → Bool) (e : Ex) (s : Sup) : Prop where
  v : (ok S sc fnn e).1 = true → DE X C W (toE S.G S.N L e s).1 (ev cl gl e)
  t : (ok S sc fnn e).2 = true → DT X C W (toE S.G S.N L e s).1 (tst e (ev cl gl e))
theorem ET.plain {X : Cx} {W : WX} {sc : Scope} {fnn : Str → Bool} {e : Ex} {s : Sup} (n : Sn S cl gl C X W sc fnn) (hp : plainT e = true) (he : (ok S sc fnn e).2 = true → (ok S sc fnn e).1 = true) (h : (ok S sc fnn e).1 = true → DE X C W (toE S.G S.N L e s).1 (ev cl gl e)) : ET S cl gl C L X W sc fnn e s :=
  ⟨h, fun ht => dt_of hp (dd_od n (he ht) (h (he ht)))⟩
theorem ET.d {X : Cx} {W : WX} {sc : Scope} {fnn : Str → Bool} {e : Ex} {s : Sup} (h : ET S cl gl C L X W sc fnn e s) (n : Sn S cl gl C X W sc fnn) (hv : (ok S sc fnn e).1 = true) : DD X C W (toE S.G S.N L e s).1 (od e (ev cl gl e)) := dd_od n hv (h.v hv)
theorem sCs {X : Cx} {W : WX} {sc : Scope} {fnn : Str → Bool} (n : Sn S cl gl C X W sc fnn) (hx : S.xs = true) : ∀ (cs : List Nat) (s : Sup), cs.all (clC sc) = true → PA X (toCs L cs s).1 (fun σ H k => k (clsV X.K cs) H)
  | [], s, h => by
    unfold toCs
    exact ⟨fun pos pins s σ H Q I h => pa_nil.run pos pins s σ H Q I h⟩
  | c :: cs, s, h => by
    rw [List.all_cons, Bool.and_eq_true] at h
    obtain ⟨h1, h2⟩ := h
    unfold clC at h1
    simp only [Bool.and_eq_true, decide_eq_true_eq] at h1
    have ih := sCs n hx cs s.tail h2
    unfold toCs
    exact ⟨fun pos pins s σ H Q I hh => (pa_cons (pe_glob (v := .ref (CofK X.K c)) (n.glo h1.2).1 ((n.cf hx).gl c h1.1) rfl (n.glo h1.2).2) ih rfl).run pos pins s σ H Q I hh⟩
mutual
theorem sE : ∀ (e : Ex) {X : Cx} {W : WX} {sc : Scope} {fnn : Str → Bool} (n : Sn S cl gl C X W sc fnn) (s : Sup), ET S cl gl C L X W sc fnn e s
  | .var i, X, W, sc, fnn, n, s => .plain n rfl (fun h => h) fun h => by
    unfold toE
    exact de_var (n.var h _)
  | .int k, X, W, sc, fnn, n, s => .plain n rfl (fun h => h) fun h => by
    unfold toE
    exact de_c pe_int fun F => by unfold Rp; rfl
  | .str x, X, W, sc, fnn, n, s => .plain n rfl (fun h => h) fun h => by
    unfold toE
    exact de_c pe_str fun F => by unfold Rp; rfl
  | .bl b, X, W, sc, fnn, n, s => .plain n rfl (fun h => h) fun h => by
    unfold toE
    exact de_c pe_bl fun F => by unfold Rp; rfl
  | .non, X, W, sc, fnn, n, s => .plain n rfl (fun h => h) fun h => by
    unfold toE
    exact de_c pe_non fun F => by unfold Rp; rfl
  | .gl g, X, W, sc, fnn, n, s => .plain n rfl (fun h => h) fun h => by
    unfold toE
    obtain ⟨hg, hd⟩ := n.glo h
    cases z : gl g with
    | none =>
      have e : ev cl gl (.gl g) = fun env => R.no := by funext env; unfold ev; rw [z]
      rw [e]
      exact ⟨fun pins s σ H Q I t => (pe_no (fun _ => rfl) t).elim⟩
    | some v =>
      by_cases y : ∃ ks vs, v = .dct ks vs
      · obtain ⟨ks, vs, rfl⟩ := y
        have e : ev cl gl (.gl g) = fun env => R.no := by funext env; unfold ev; rw [z]
        rw [e]
        exact ⟨fun pins s σ H Q I t => (pe_no (fun _ => rfl) t).elim⟩
      · have y : ∀ ks vs, v ≠ .dct ks vs := fun ks vs h => y ⟨ks, vs, h⟩
        obtain ⟨u, w, h1, h2, h3⟩ := n.gls g v z y
        have e : ev cl gl (.gl g) = fun env => .ok (.p v) env := by
          funext env; unfold ev; rw [z]
          cases v with
          | dct ks vs => exact (y _ _ rfl).elim
          | _ => rfl
        rw [e]
        exact de_c (pe_glob hg h1 h2 hd) h3
  | .neg a, X, W, sc, fnn, n, s => .plain n rfl (fun h => h) fun h => by
    have ia := sE a n s.tail
    unfold toE
    exact de_neg (ia.d n h)
  | .bin o a b, X, W, sc, fnn, n, s => .plain n rfl (fun h => h) fun h => by
    have ia := sE a n s.tail
    have ib := sE b n (toE S.G S.N L a s.tail).2
    unfold ok at h
    simp only [Bool.and_eq_true] at h
    unfold toE
    exact de_bin (ia.d n h.1) (ib.d n h.2)
  | .cmp o a b, X, W, sc, fnn, n, s => by
    have ia := sE a n s.tail
    have ib := sE b n (toE S.G S.N L a s.tail).2
    refine ⟨fun h => ?_, fun h => ?_⟩
    · unfold ok at h
      simp only [Bool.and_eq_true] at h
      unfold toE
      exact de_cmp n.un (ia.d n h.1) (ib.d n h.2) (noMark _ _ _ _ _ _)
    · unfold ok at h
      simp only [Bool.and_eq_true] at h
      refine dt_le le_cmp ?_
      unfold toE
      exact dt_cmp n.un (ia.d n h.1) (ib.d n h.2) (noMark _ _ _ _ _ _)
  | .bop k es, X, W, sc, fnn, n, s => by
    have ih := sB es n s.tail k (ps L s)
    refine ⟨fun h => ?_, fun h => ?_⟩
    · unfold ok at h
      simp only [Bool.and_eq_true, Bool.not_eq_true'] at h
      have z : es ≠ [] := fun e => by subst e; cases h.2
      unfold toE
      exact (ih z).1 h.1
    · unfold ok at h
      simp only [Bool.and_eq_true, Bool.not_eq_true'] at h
      have z : es ≠ [] := fun e => by subst e; cases h.2
      refine dt_le le_bop ?_
      unfold toE
      exact ((ih z).2 h.1).pt
  | .nt a, X, W, sc, fnn, n, s => by
    have ia := sE a n s.tail
    refine ⟨fun h => ?_, fun h => ?_⟩
    · unfold toE
      exact de_nt (ia.d n h)
    · refine dt_le le_nt ?_
      unfold toE
      exact dt_nt (ia.t h)
  | .ife t a b, X, W, sc, fnn, n, s => by
    have it := sE t n s.tail
    have ia := sE a n (toE S.G S.N L t s.tail).2
    have ib := sE b n (toE S.G S.N L a (toE S.G S.N L t s.tail).2).2
    refine ⟨fun h => ?_, fun h => ?_⟩
    · unfold ok at h
      simp only [Bool.and_eq_true] at h
      unfold toE
      exact de_ife (it.t h.1.1) (ia.v h.1.2) (ib.v h.2)
    · unfold ok at h; cases h
  | .ix a i, X, W, sc, fnn, n, s => .plain n rfl (fun h => h) fun h => by
    have ia := sE a n s.tail
    have ib := sE i n (toE S.G S.N L a s.tail).2
    unfold ok at h
    simp only [Bool.and_eq_true] at h
    unfold toE
    exact de_ix n.un (ia.d n h.1) (ib.d n h.2) (plainIx _ _ _ _ _)
  | .slc a lo hi, X, W, sc, fnn, n, s => .plain n rfl (fun h => h) fun h => by
    have ia := sE a n s.tail.tail
    have il := sO lo n (toE S.G S.N L a s.tail.tail).2
    have ih := sO hi n (toO S.G S.N L lo (toE S.G S.N L a s.tail.tail).2).2
    unfold ok at h
    simp only [Bool.and_eq_true] at h
    unfold toE
    exact de_slc (ia.d n h.1.1) (il h.1.2) (ih h.2)
  | .rev a, X, W, sc, fnn, n, s => .plain n rfl (fun h => h) fun h => by
    have ia := sE a n s.tail.tail.tail.tail
    unfold toE
    exact de_rev (ia.d n h)
  | .tup es, X, W, sc, fnn, n, s => .plain n rfl (fun h => h) fun h => by
    have ih := sEs es n s.tail h
    unfold toE
    exact de_tup ih
  | .lst es, X, W, sc, fnn, n, s => .plain n rfl (fun h => h) fun h => by
    have ih := sEs es n s.tail h
    unfold toE
    exact de_lst ih
  | .lc elt tg it ifs q, X, W, sc, fnn, n, s => by
    have ii := sI it n tg (toE S.G S.N L elt s.tail).2 (toG S.N L tg (toE S.G S.N L elt s.tail).2).2
    have ie := fun {X' : Cx} (n' : Sn S cl gl C X' W0 (relS q.scope sc) (fun x => q.scope.names.lookup x == some .cell)) => sE elt n' s.tail
    have it' := fun {X' : Cx} (n' : Sn S cl gl C X' W0 (relS q.scope sc) (fun x => q.scope.names.lookup x == some .cell)) => sF ifs n' (toI S.G S.N L it (toG S.N L tg (toE S.G S.N L elt s.tail).2).2).2
    refine ⟨fun h => ?_, fun h => ?_⟩
    · unfold ok at h
      simp only [Bool.and_eq_true] at h
      obtain ⟨⟨⟨⟨⟨h1, hz⟩, h2⟩, h3⟩, h4⟩, h5⟩ := h
      unfold toE
      refine de_lc n.calm n.nd (ii hz h1) (blkOk_by (own := ownC S.N tg) (by rw [n.hN, n.hsc]; exact h2)) own_slots (fun i hi => ?_) (fun s' H Cc cells fp => tg_ok (n.blk _ s' H Cc cells fp) tg _ h3) (fun s' H Cc cells fp => it' (n.blk _ s' H Cc cells fp) h4) (fun s' H Cc cells fp => dp_of_de ((ie (n.blk _ s' H Cc cells fp)).v h5)) (fun x => noFoldI _ _ _ _ _ _ _)
      rw [n.hN]
      exact loc_lt (List.all_eq_true.mp h3 i hi)
    · unfold ok at h; cases h
  | .call f ms es, X, W, sc, fnn, n, s => .plain n rfl (fun h => h) fun h => by
    have ih := sA es n s.tail.tail ms
    unfold ok at h
    simp only [Bool.and_eq_true, decide_eq_true_eq] at h
    obtain ⟨⟨⟨h1, h2⟩, h3⟩, h4⟩ := h
    obtain ⟨hg, hd⟩ := n.glo h1
    obtain ⟨k, fa, fd, ps', e1, e2, e3, e4, e5⟩ := n.fns f _ h3
    unfold toE
    cases es with
    | nil =>
      cases ms with
      | cons m ms => cases h4
      | nil =>
        unfold toEs
        exact de_call0 n.tk e4 e5 hg e1 e2 e3 hd
    | cons e es =>
      have h6 := ih h2 h4
      unfold toEs at h6 ⊢
      exact de_call n.tk e4 e5 hg e1 e2 e3 hd h6 (fun env as env' z => eva_len z) (star1 _ _ _ _ _ _ _) (starAll _ _ _ _ _ _ _)
  | .bi b es, X, W, sc, fnn, n, s => .plain n rfl (fun h => h) fun h => by
    have ih := sD es n s.tail.tail
    unfold ok at h
    simp only [Bool.and_eq_true, Bool.not_eq_true'] at h
    obtain ⟨⟨h1, h2⟩, h3⟩ := h
    obtain ⟨hg, hd⟩ := n.glo h1
    unfold toE
    cases es with
    | nil => cases h3
    | cons e es =>
      have h6 := ih h2
      unfold toEs at h6 ⊢
      exact de_bi n.un n.calm hg (n.bin_ b) h6 (star1 _ _ _ _ _ _ _) (starAll _ _ _ _ _ _ _)
  | .app i e, X, W, sc, fnn, n, s => by
    have ie := sE e n s.tail.tail.tail
    refine ⟨fun h => ?_, fun h => ?_⟩
    · unfold ok at h
      simp only [Bool.and_eq_true] at h
      unfold toE
      exact de_app (n.var h.1 _) (ie.v h.2) (star1 _ _ _ _ _ _ _) rfl (by simp [ps])
    · unfold ok at h; cases h
  | .pop i, X, W, sc, fnn, n, s => by
    refine ⟨fun h => ?_, fun h => ?_⟩
    · unfold toE
      exact de_pop (n.var h _) rfl (by simp [ps])
    · unfold ok at h; cases h
  | .nix i k j, X, W, sc, fnn, n, s => by
    refine ⟨fun h => ?_, fun h => ?_⟩
    · unfold ok at h
      simp only [Bool.and_eq_true] at h
      unfold toE
      exact de_nix (n.var h.1 _) pe_int (n.var h.2 _) (fun _ _ => rfl) (fun _ _ => rfl)
    · unfold ok at h; cases h
  | .nlen i k, X, W, sc, fnn, n, s => by
    refine ⟨fun h => ?_, fun h => ?_⟩
    · unfold ok at h
      simp only [Bool.and_eq_true] at h
      unfold toE
      exact de_nlen (n.glo h.2).1 (n.bin_ .len) (n.var h.1 _) pe_int (fun _ _ => rfl)
    · unfold ok at h; cases h
  | .isi e t, X, W, sc, fnn, n, s => .plain n rfl (fun h => h) fun h => by
    have ie := sE e n s.tail.tail
    unfold ok at h
    simp only [Bool.and_eq_true] at h
    unfold toE
    exact de_isi (n.glo h.1.1).1 (n.blt _ (by decide)) (n.glo h.1.2).1 (n.ty t) (ie.d n h.2) (star1 _ _ _ _ _ _ _)
  | .dd, X, W, sc, fnn, n, s => .plain n rfl (fun h => h) fun h => by
    unfold toE
    exact de_dd
  | .jn x e, X, W, sc, fnn, n, s => .plain n rfl (fun h => h) fun h => by
    have ie := sE e n s.tail.tail.tail
    unfold toE
    exact de_jn pe_str (ie.d n h) (star1 _ _ _ _ _ _ _) rfl (by simp [ps])
  | .gin neg g e, X, W, sc, fnn, n, s => by
    have ie := sE e n s.tail
    refine ⟨fun h => ?_, fun h => ?_⟩
    · unfold ok at h
      simp only [Bool.and_eq_true] at h
      unfold toE
      by_cases y : ∃ ks vs, gl g = some (.dct ks vs)
      · obtain ⟨ks, vs, y⟩ := y
        obtain ⟨d, e1, D⟩ := n.gds g ks vs y
        have e2 : ev cl gl (.gin neg g e) = fun env => (od e (ev cl gl e) env).bd fun x env => match rd env x with
          | some v => (match v with
            | .str x => .ok (.p (.bl (neg != (dget ks vs (.str x)).isSome))) env
            | _ => .no)
          | none => .no := by funext env; unfold ev od1; rw [y] <;> rfl
        rw [e2]
        exact de_gin D (ie.d n h.2) (pe_glob (n.glo h.1).1 e1 rfl (n.glo h.1).2) fun o => by cases o <;> rfl
      · have e2 : ev cl gl (.gin neg g e) = fun env => R.no := by
          funext env; unfold ev
          split
          · rename_i ks vs z; exact (y ⟨ks, vs, z⟩).elim
          · rfl
        rw [e2]
        exact ⟨fun pins s σ H Q I t => (pe_no (fun _ => rfl) t).elim⟩
    · unfold ok at h
      simp only [Bool.and_eq_true] at h
      by_cases y : ∃ ks vs, gl g = some (.dct ks vs)
      · obtain ⟨ks, vs, y⟩ := y
        obtain ⟨d, e1, D⟩ := n.gds g ks vs y
        refine dt_le (le_gin y) ?_
        unfold toE
        exact dt_gin D (ie.d n h.2) (pe_glob (n.glo h.1).1 e1 rfl (n.glo h.1).2) fun o => by cases o <;> rfl
      · have e2 : ∀ env, tst (.gin neg g e) (ev cl gl (.gin neg g e)) env = R.no := fun env => by
          rw [tst_od rfl]; unfold ev
          split
          · rename_i ks vs z; exact (y ⟨ks, vs, z⟩).elim
          · rfl
        exact ⟨fun pins s σ H Q I ⟨F, env, fp, sr, h1⟩ => by rw [e2 env] at h1; exact h1.elim⟩
  | .gix g e, X, W, sc, fnn, n, s => .plain n rfl (fun h => h) fun h => by
    have ie := sE e n s.tail.tail
    unfold ok at h
    simp only [Bool.and_eq_true] at h
    unfold toE
    by_cases y : ∃ ks vs, gl g = some (.dct ks vs)
    · obtain ⟨ks, vs, y⟩ := y
      obtain ⟨d, e1, D⟩ := n.gds g ks vs y
      have e2 : ev cl gl (.gix g e) = fun env => (od e (ev cl gl e) env).bd fun x env => match rd env x with
        | some v => (match v with
          | .str x => R.of ((dget ks vs (.str x)).map .p) env
          | _ => .no)
        | none => .no := by funext env; unfold ev od1; rw [y] <;> rfl
      rw [e2]
      exact de_gix D (pe_glob (n.glo h.1).1 e1 rfl (n.glo h.1).2) (ie.d n h.2) (plainIx _ _ _ _ _)
    · have e2 : ev cl gl (.gix g e) = fun env => R.no := by
        funext env; unfold ev
        split
        · rename_i ks vs z; exact (y ⟨ks, vs, z⟩).elim
        · rfl
      rw [e2]
      exact ⟨fun pins s σ H Q I t => (pe_no (fun _ => rfl) t).elim⟩
  | .gget g e, X, W, sc, fnn, n, s => .plain n rfl (fun h => h) fun h => by
    have ie := sE e n s.tail.tail.tail
    unfold ok at h
    simp only [Bool.and_eq_true] at h
    unfold toE
    by_cases y : ∃ ks vs, gl g = some (.dct ks vs)
    · obtain ⟨ks, vs, y⟩ := y
      obtain ⟨d, e1, D⟩ := n.gds g ks vs y
      have e2 : ev cl gl (.gget g e) = fun env => (od e (ev cl gl e) env).bd fun x env => match rd env x with
        | some v => (match v with
          | .str x => .ok (.p ((dget ks vs (.str x)).getD .non)) env
          | _ => .no)
        | none => .no := by funext env; unfold ev od1; rw [y] <;> rfl
      rw [e2]
      exact de_gget D (pe_glob (n.glo h.1).1 e1 rfl (n.glo h.1).2) (ie.d n h.2) (star1 _ _ _ _ _ _ _) rfl (by simp [ps])
    · have e2 : ev cl gl (.gget g e) = fun env => R.no := by
        funext env; unfold ev
        split
        · rename_i ks vs z; exact (y ⟨ks, vs, z⟩).elim
        · rfl
      rw [e2]
      exact ⟨fun pins s σ H Q I t => (pe_no (fun _ => rfl) t).elim⟩
  | .dl ks es, X, W, sc, fnn, n, s => by
    have ih := sPs es n (toKs L ks s.tail).2
    refine ⟨fun h => ?_, fun h => ?_⟩
    · unfold ok at h
      simp only [Bool.and_eq_true, Bool.not_eq_true', decide_eq_true_eq] at h
      obtain ⟨⟨⟨⟨h1, h2⟩, h3⟩, h4⟩, h5⟩ := h
      have e2 : ev cl gl (.dl ks es) = fun env => (evsF (es.map (ev cl gl)) env).bd fun vs env => if dOk ks vs.length then .ok (.d (ks.map Val.str) vs) env else .no := by funext env; unfold ev; rw [evs_F]
      rw [e2]
      unfold toE
      have hk : (toKs L ks s.tail).1.length = ks.length := toKs_len _ _
      have hv : (toEs S.G S.N L es (toKs L ks s.tail).2).1.length = es.length := toEs_len _ _
      refine de_dl (ih h1 ks s.tail _ h3) (toKs_all _ _) (by rw [hk, hv, h3]) (fun e => ?_) (by omega) (by rw [List.length_map]; exact h3) h4 h5
      rw [e] at hk
      cases ks with
      | nil => cases h2
      | cons k ks => simp at hk
    · unfold ok at h; cases h
  | .is2 e t1 t2, X, W, sc, fnn, n, s => .plain n rfl (fun h => h) fun h => by
    have ie := sE e n s.tail.tail
    unfold ok at h
    simp only [Bool.and_eq_true] at h
    unfold toE
    exact de_is2 (n.glo h.1.1.1).1 (n.blt _ (by decide)) (n.glo h.1.1.2).1 (n.ty t1) (n.glo h.1.2).1 (n.ty t2) (ie.d n h.2) (star1 _ _ _ _ _ _ _)
  | .spl i x, X, W, sc, fnn, n, s => .plain n rfl (fun h => h) fun h => by
    unfold toE
    exact de_spl (n.var h _) pe_str rfl rfl (by simp [ps])
  | .exr i e, X, W, sc, fnn, n, s => by
    have ie := sE e n s.tail.tail.tail.tail.tail.tail.tail
    refine ⟨fun h => ?_, fun h => ?_⟩
    · unfold ok at h
      simp only [Bool.and_eq_true] at h
      unfold toE
      exact de_exr n.calm (n.glo h.1.1.2).1 (n.blt _ (by decide)) (n.glo h.1.2).1 (n.blt _ (by decide)) (n.var h.1.1.1 _) (ie.v h.2) (star1 _ _ _ _ _ _ _) rfl (by simp [ps])
    · unfold ok at h; cases h
  | .chn a b c, X, W, sc, fnn, n, s => by
    have ia := sE a n s.tail
    have ib := sE b n (toE S.G S.N L a s.tail).2
    have ic := sE c n (toE S.G S.N L b (toE S.G S.N L a s.tail).2).2
    refine ⟨fun h => ?_, fun h => ?_⟩
    · unfold ok at h
      simp only [Bool.and_eq_true] at h
      unfold toE
      exact de_chn (ia.v h.1.1) (ib.v h.1.2) (ic.v h.2) (noMark _ _ _ _ _ _)
    · unfold ok at h
      simp only [Bool.and_eq_true] at h
      refine dt_le le_chn ?_
      unfold toE
      exact dt_chn (ia.v h.1.1) (ib.v h.1.2) (ic.v h.2) (noMark _ _ _ _ _ _)
  | .sidx i b, X, W, sc, fnn, n, s => .plain n rfl (fun h => h) fun h => by
    have ib := sE b n s.tail.tail.tail
    unfold ok at h
    simp only [Bool.and_eq_true] at h
    have e2 : ev cl gl (.sidx i b) = fun env => match gs env i with
      | some (.p (.str x)) => (od b (ev cl gl b) env).bd fun y env => (match rd env y with
        | some w => R.of (vsidx (.str x) w) env
        | none => .no)
      | some (.p (.lst ys)) => (od b (ev cl gl b) env).bd fun y env => (match rd env y with
        | some w => R.of (vlidx ys w) env
        | none => .no)
      | _ => .no := by funext env; unfold ev od1; rfl
    rw [e2]
    unfold toE
    exact de_sidx2 (n.var h.1 _) (ib.d n h.2) (star1 _ _ _ _ _ _ _) rfl (by simp [ps])
  | .lix es b, X, W, sc, fnn, n, s => .plain n rfl (fun h => h) fun h => by
    have ih := sEs es n s.tail.tail.tail
    have ib := sE b n (toEs S.G S.N L es s.tail.tail.tail).2
    unfold ok at h
    simp only [Bool.and_eq_true] at h
    have e2 : ev cl gl (.lix es b) = fun env => (evs cl gl es env).bd fun vs env => if vs.length ≤ sizeLine then (od b (ev cl gl b) env).bd fun y env => (match rd env y with
        | some w => R.of (vlidx vs w) env
        | none => .no) else .no := by funext env; unfold ev od1; rfl
    rw [e2]
    unfold toE
    exact de_lix (ih h.1) (ib.d n h.2) (star1 _ _ _ _ _ _ _) rfl (by simp [ps])
  | .isx i cs, X, W, sc, fnn, n, s => .plain n rfl (fun h => h) fun h => by
    unfold ok at h
    simp only [Bool.and_eq_true, decide_eq_true_eq] at h
    obtain ⟨⟨⟨⟨h1, h2⟩, h3⟩, h4⟩, h5⟩ := h
    have e2 : ev cl gl (.isx i cs) = fun env => match gs env i with
      | some (.p (.er c _)) => if c < 8 then .ok (.p (.bl (cs.any (iss c)))) env else .no
      | _ => .no := by funext env; unfold ev; rfl
    rw [e2]
    unfold toE
    have hc : ∀ d ∈ cs, d < 8 := fun d hd => by
      have := List.all_eq_true.mp h5 d hd
      unfold clC at this
      simp only [Bool.and_eq_true, decide_eq_true_eq] at this
      exact this.1
    exact de_isx (n.cf h1) hc (Nat.le_trans h4 (by decide)) (n.glo h2).1 (n.blt _ (by decide)) (sCs n h1 cs _ h5) (n.var h3 _) rfl
  | .isc i c, X, W, sc, fnn, n, s => .plain n rfl (fun h => h) fun h => by
    unfold ok at h
    simp only [Bool.and_eq_true] at h
    obtain ⟨⟨⟨h1, h2⟩, h3⟩, h4⟩ := h
    unfold clC at h4
    simp only [Bool.and_eq_true, decide_eq_true_eq] at h4
    have e2 : ev cl gl (.isc i c) = fun env => match gs env i with
      | some (.p (.er e _)) => if e < 8 then .ok (.p (.bl (iss e c))) env else .no
      | _ => .no := by funext env; unfold ev; rfl
    rw [e2]
    unfold toE
    exact de_isc (n.cf h1) h4.1 rfl (n.glo h2).1 (n.blt _ (by decide)) (n.glo h4.2).1 (n.glo h4.2).2 (n.var h3 _) rfl
  | .isv i, X, W, sc, fnn, n, s => .plain n rfl (fun h => h) fun h => by
    unfold ok at h
    simp only [Bool.and_eq_true] at h
    obtain ⟨⟨⟨h1, h2⟩, h3⟩, h4⟩ := h
    have e2 : ev cl gl (.isv i) = fun env => match gs env i with
      | some (.p (.er c _)) => if c < 8 then .ok (.p (.bl true)) env else .no
      | _ => .no := by funext env; unfold ev; rfl
    rw [e2]
    unfold toE
    exact de_isv (n.cf h1) (n.glo h2).1 (n.blt _ (by decide)) (n.glo h4).1 (n.blt _ (by decide)) (n.var h3 _) rfl
  | .wrd i, X, W, sc, fnn, n, s => .plain n rfl (fun h => h) fun h => by
    unfold ok at h
    simp only [Bool.and_eq_true] at h
    have e2 : ev cl gl (.wrd i) = fun env => match gs env i with
      | some (.p (.er c (some x))) => if c = 3 then .ok (.p (.str x)) env else .no
      | _ => .no := by funext env; unfold ev; rfl
    rw [e2]
    unfold toE
    exact de_wrd (n.cf h.1) (n.var h.2 _) rfl
theorem sEs : ∀ (es : List Ex) {X : Cx} {W : WX} {sc : Scope} {fnn : Str → Bool} (n : Sn S cl gl C X W sc fnn) (s : Sup), (oks S sc fnn es).1 = true → DPs X C W (toEs S.G S.N L es s).1 (evs cl gl es)
  | [], X, W, sc, fnn, n, s, h => by
    unfold toEs
    exact dps_nil
  | e :: es, X, W, sc, fnn, n, s, h => by
    have ie := sE e n s
    have ih := sEs es n (toE S.G S.N L e s).2
    unfold oks at h
    simp only [Bool.and_eq_true] at h
    unfold toEs
    exact dps_cons (ie.v h.1) (ih h.2) (star1 _ _ _ _ _ _ _)
theorem sPs : ∀ (es : List Ex) {X : Cx} {W : WX} {sc : Scope} {fnn : Str → Bool} (n : Sn S cl gl C X W sc fnn) (s : Sup), (oks S sc fnn es).1 = true → ∀ (ks : List Str) (s2 : Sup) (pos : Pos), ks.length = es.length → PPs X pos (toKs L ks s2).1 (toEs S.G S.N L es s).1 (trsD X C W ks (es.map (ev cl gl)))
  | [], X, W, sc, fnn, n, s, h, ks, s2, pos, hl => by
    cases ks with
    | nil => unfold toKs toEs trsD; exact pps_nil
    | cons k ks => simp at hl
  | e :: es, X, W, sc, fnn, n, s, h, ks, s2, pos, hl => by
    have ie := sE e n s
    have ih := sPs es n (toE S.G S.N L e s).2
    unfold oks at h
    simp only [Bool.and_eq_true] at h
    cases ks with
    | nil => simp at hl
    | cons k ks =>
      unfold toKs toEs
      exact pps_cons pe_str (dp_of_de (ie.v h.1)) (ih h.2 ks s2.tail pos (by simpa using hl))
theorem sD : ∀ (es : List Ex) {X : Cx} {W : WX} {sc : Scope} {fnn : Str → Bool} (n : Sn S cl gl C X W sc fnn) (s : Sup), (oks S sc fnn es).1 = true → DDs X C W (toEs S.G S.N L es s).1 (odl cl gl es)
  | [], X, W, sc, fnn, n, s, h => by
    unfold toEs
    exact dds_nil
  | e :: es, X, W, sc, fnn, n, s, h => by
    have ie := sE e n s
    have ih := sD es n (toE S.G S.N L e s).2
    unfold oks at h
    simp only [Bool.and_eq_true] at h
    unfold toEs
    exact dds_cons (ie.d n h.1) (ih h.2) (star1 _ _ _ _ _ _ _)
theorem sA : ∀ (es : List Ex) {X : Cx} {W : WX} {sc : Scope} {fnn : Str → Bool} (n : Sn S cl gl C X W sc fnn) (s : Sup) (ms : List Am), (oks S sc fnn es).1 = true → ms.length = es.length → DAs X C W (toEs S.G S.N L es s).1 (eva cl gl es ms)
  | [], X, W, sc, fnn, n, s, [], h, hl => by
    unfold toEs
    exact das_nil
  | [], X, W, sc, fnn, n, s, m :: ms, h, hl => by cases hl
  | e :: es, X, W, sc, fnn, n, s, [], h, hl => by cases hl
  | e :: es, X, W, sc, fnn, n, s, m :: ms, h, hl => by
    have ie := sE e n s
    have ih := sA es n (toE S.G S.N L e s).2 ms
    unfold oks at h
    simp only [Bool.and_eq_true] at h
    unfold toEs
    exact das_cons (da_of n h.1 (ie.v h.1)) (ih h.2 (by simpa using hl)) (star1 _ _ _ _ _ _ _)
theorem sO : ∀ (o : Option Ex) {X : Cx} {W : WX} {sc : Scope} {fnn : Str → Bool} (n : Sn S cl gl C X W sc fnn) (s : Sup), (oko S sc fnn o).1 = true → PO X (toO S.G S.N L o s).1 (TX X.K C W (rOp X.K) (evo? cl gl o))
  | none, X, W, sc, fnn, n, s, h => by
    unfold toO
    exact do_none
  | some e, X, W, sc, fnn, n, s, h => by
    have ie := sE e n s
    unfold toO
    exact do_some (ie.v h)
theorem sF : ∀ (o : Option Ex) {X : Cx} {sc : Scope} {fnn : Str → Bool} (n : Sn S cl gl C X W0 sc fnn) (s : Sup), (oko S sc fnn o).2 = true → PTs X (toF S.G S.N L o s).1 (TX X.K C W0 rB (evt? cl gl o))
  | none, X, sc, fnn, n, s, h => by
    unfold toF
    exact pts_yes
  | some e, X, sc, fnn, n, s, h => by
    have ie := sE e n s
    unfold toF
    exact pts_one (ie.t h)
/-- and, or -/
theorem sB : ∀ (es : List Ex) {X : Cx} {W : WX} {sc : Scope} {fnn : Str → Bool} (n : Sn S cl gl C X W sc fnn) (s : Sup) (k : Bool) (pos : Pos), es ≠ [] →
    ((oks S sc fnn es).1 = true → DE X C W (.BoolOp (if k then .And else .Or) (toEs S.G S.N L es s).1 pos) (evb cl gl k es)) ∧ ((oks S sc fnn es).2 = true → DW X C W (.BoolOp (if k then .And else .Or) (toEs S.G S.N L es s).1 pos) (tsb cl gl k es))
  | [], X, W, sc, fnn, n, s, k, pos, z => (z rfl).elim
  | e :: [], X, W, sc, fnn, n, s, k, pos, z => by
    have ie := sE e n s
    refine ⟨fun h => ?_, fun h => ?_⟩
    · unfold oks at h
      simp only [Bool.and_eq_true] at h
      unfold toEs
      unfold toEs
      exact deb_one (ie.v h.1)
    · unfold oks at h
      simp only [Bool.and_eq_true] at h
      unfold toEs
      unfold toEs
      exact dwb_one (ie.t h.1)
  | e :: e2 :: es, X, W, sc, fnn, n, s, k, pos, z => by
    have ie := sE e n s
    have ih := sB (e2 :: es) n (toE S.G S.N L e s).2 k pos (by simp)
    refine ⟨fun h => ?_, fun h => ?_⟩
    · unfold oks at h
      simp only [Bool.and_eq_true] at h
      have h6 := ih.1 h.2
      unfold toEs
      unfold toEs at h6 ⊢
      exact deb_cons (ie.v h.1) h6
    · unfold oks at h
      simp only [Bool.and_eq_true] at h
      have h6 := ih.2 h.2
      unfold toEs
      unfold toEs at h6 ⊢
      exact dwb_cons (ie.t h.1) h6
theorem sI : ∀ (it : It) {X : Cx} {W : WX} {sc : Scope} {fnn : Str → Bool} (n : Sn S cl gl C X W sc fnn) (tg : Tg) (s0 s : Sup), zpT tg it = true → okI S sc fnn it = true → DI X C W (toG S.N L tg s0).1 (toI S.G S.N L it s).1 (evi cl gl it)
  | .e e, X, W, sc, fnn, n, tg, s0, s, hz, h => by
    have ie := sE e n s
    unfold toI
    exact di_e (ie.v h)
  | .rng es, X, W, sc, fnn, n, tg, s0, s, hz, h => by
    have ih := sEs es n s.tail.tail
    unfold okI at h
    simp only [Bool.and_eq_true, Bool.or_eq_true, beq_iff_eq] at h
    obtain ⟨⟨h1, h2⟩, h3⟩ := h
    have h6 := ih h2
    unfold toI
    match es, h3 with
    | [a], _ =>
      unfold toEs at h6 ⊢
      unfold toEs at h6 ⊢
      exact di_rng1 (n.glo h1).1 (n.blt _ (by decide)) h6 (star1 _ _ _ _ _ _ _) (fun env vs env' z => evs_len z)
    | [a, b], _ =>
      unfold toEs at h6 ⊢
      unfold toEs at h6 ⊢
      unfold toEs at h6 ⊢
      exact di_rng2 (n.glo h1).1 (n.blt _ (by decide)) h6 (by rw [star1, star1]; rfl) (by rw [star1]; rfl) (fun env vs env' z => evs_len z)
    | [], h3 => simp at h3
    | _ :: _ :: _ :: _, h3 => simp at h3
  | .zp es, X, W, sc, fnn, n, tg, s0, s, hz, h => by
    have ih := sEs es n s.tail.tail
    unfold okI at h
    simp only [Bool.and_eq_true, Bool.or_eq_true, beq_iff_eq] at h
    obtain ⟨⟨h1, h2⟩, h3⟩ := h
    have h6 := ih h2
    cases tg with
    | nm i => cases hz
    | tp is =>
      unfold toG toI
      match es, h3 with
      | [a, b], _ =>
        unfold toEs at h6 ⊢
        unfold toEs at h6 ⊢
        unfold toEs at h6 ⊢
        exact di_zp2 (n.glo h1).1 (n.blt _ (by decide)) h6 (by rw [star1]) (by rw [star1]; rfl) (fun env vs env' z => evs_len z)
      | [a, b, c], _ =>
        unfold toEs at h6 ⊢
        unfold toEs at h6 ⊢
        unfold toEs at h6 ⊢
        unfold toEs at h6 ⊢
        exact di_zp3 (n.glo h1).1 (n.blt _ (by decide)) h6 (by rw [star1]) (by rw [star1, star1]; rfl) (fun env vs env' z => evs_len z)
      | [], h3 => simp at h3
      | [_], h3 => simp at h3
      | _ :: _ :: _ :: _ :: _, h3 => simp at h3
  | .rvs e, X, W, sc, fnn, n, tg, s0, s, hz, h => by
    have ie := sE e n s.tail.tail
    unfold okI at h
    simp only [Bool.and_eq_true] at h
    unfold toI
    exact di_rvs (n.glo h.1).1 (n.blt _ (by decide)) (ie.v h.2) (star1 _ _ _ _ _ _ _)
end
end
end EN

/-! EnS: statements are sound. -/
namespace EN
open PySem L2 PyProof.Rows
structure SP where
  pos : Pos
  es : Sup
  raw : Option Stmt
def hd (s : List SP) : SP := s.headD ⟨⟨0, 0, 0, 0⟩, [], none⟩
def subS (s : Stmt) (b : Nat) : List Stmt := match s with
  | .If _ x y _ => if b = 0 then x else y
  | .While _ x _ _ => x
  | .For _ _ x _ _ => x
  | _ => []
def pick : List Nat → List Stmt → Stmt
  | [], _ => .Pass ⟨0, 0, 0, 0⟩
  | [i], ss => ss.getD i (.Pass ⟨0, 0, 0, 0⟩)
  | i :: b :: rest, ss => pick rest (subS (ss.getD i (.Pass ⟨0, 0, 0, 0⟩)) b)
section
variable (G : Nm) (N : List Str)
mutual
def toS : St → List SP → Stmt × List SP
  | .asg i e, s => (.Assign [.Name (nm N i) (ps (hd s).pos.line (hd s).es)] (toE G N (hd s).pos.line e (hd s).es.tail).1 (hd s).pos, s.tail)
  | .setix i k e, s => (.Assign [.Subscript (.Name (nm N i) (ps (hd s).pos.line (hd s).es.tail)) (toE G N (hd s).pos.line k (hd s).es.tail.tail).1 (ps (hd s).pos.line (hd s).es)] (toE G N (hd s).pos.line e (toE G N (hd s).pos.line k (hd s).es.tail.tail).2).1 (hd s).pos, s.tail)
  | .nset i k j e, s => (.Assign [.Subscript (.Subscript (.Name (nm N i) (ps (hd s).pos.line (hd s).es.tail.tail)) (.Constant (.int k) 0 (ps (hd s).pos.line (hd s).es.tail.tail.tail)) (ps (hd s).pos.line (hd s).es.tail)) (.Name (nm N j) (ps (hd s).pos.line (hd s).es.tail.tail.tail.tail)) (ps (hd s).pos.line (hd s).es)]
      (toE G N (hd s).pos.line e (hd s).es.tail.tail.tail.tail.tail).1 (hd s).pos, s.tail)
  | .ifs t a b, s => (.If (toE G N (hd s).pos.line t (hd s).es).1 (toSs a s.tail).1 (toSs b (toSs a s.tail).2).1 (hd s).pos, (toSs b (toSs a s.tail).2).2)
  | .whl t b, s => (.While (toE G N (hd s).pos.line t (hd s).es).1 (toSs b s.tail).1 [] (hd s).pos, (toSs b s.tail).2)
  | .fors tg it b, s => (.For (toG N (hd s).pos.line tg (hd s).es).1 (toI G N (hd s).pos.line it (toG N (hd s).pos.line tg (hd s).es).2).1 (toSs b s.tail).1 [] (hd s).pos, (toSs b s.tail).2)
  | .ret e, s => (.Return (some (toE G N (hd s).pos.line e (hd s).es).1) (hd s).pos, s.tail)
  | .expr e, s => (.Expr (toE G N (hd s).pos.line e (hd s).es).1 (hd s).pos, s.tail)
  | .brk, s => (.Break (hd s).pos, s.tail)
  | .cont, s => (.Continue (hd s).pos, s.tail)
  | .pass, s => (.Pass (hd s).pos, s.tail)
  | .rsC c m, s => (.Raise (some (.Call (.Name (cN c) (ps (hd s).pos.line (hd s).es.tail)) [.Constant (.str m) 0 (ps (hd s).pos.line (hd s).es.tail.tail)] [] (ps (hd s).pos.line (hd s).es))) none (hd s).pos, s.tail)
  | .rsW e, s => (.Raise (some (.Call (.Name (cN 3) (ps (hd s).pos.line (hd s).es.tail)) [(toE G N (hd s).pos.line e (hd s).es.tail.tail).1] [] (ps (hd s).pos.line (hd s).es))) none (hd s).pos, s.tail)
  | .tryS b i j, s => (.Try (toSs b s.tail).1 [.ExceptHandler (some (.Name (cN 0) (ps (hd (toSs b s.tail).2).pos.line (hd (toSs b s.tail).2).es))) (some (nm N i)) [.Assign [.Name (nm N j) (ps (hd (toSs b s.tail).2.tail).pos.line (hd (toSs b s.tail).2.tail).es)] (.Name (nm N i) (ps (hd (toSs b s.tail).2.tail).pos.line (hd (toSs b s.tail).2.tail).es.tail)) (hd (toSs b s.tail).2.tail).pos] (hd (toSs b s.tail).2).pos] [] [] (hd s).pos, (toSs b s.tail).2.tail.tail)
  | .raw, s => ((hd s).raw.getD (.Pass (hd s).pos), s.tail)
def toSs : List St → List SP → List Stmt × List SP
  | [], s => ([], s)
  | x :: xs, s => ((toS x s).1 :: (toSs xs (toS x s).2).1, (toSs xs (toS x s).2).2)
end
end
/-- name = [..]: the name a local that the comprehension does not bear -/
def okLc (sc : Scope) (N : List Str) (i : Nat) (q : Sc) : Bool :=
  (match sc.kind with | .function => true | _ => false) && (match sc.names.lookup (nm N i) with | some .local => true | _ => false) && !(q.scope.names.any fun (n, k) => n == nm N i && (k == .local || k == .cell))
/-- a local that no other scope sees -/
def loc1 (sc : Scope) (N : List Str) (i : Nat) : Bool := match N[i]? with
  | some x => (match sc.names.lookup x with | some .local => true | _ => false)
  | none => false
/-- a def's own context -/
structure Dc (X : Cx) : Prop where
  hs : X.stack = X.env :: X.outer
  hf : X.env.frame = some X.env.locals
  hex : X.ex = []
section
variable (S : Ss) (sc : Scope) (fnn : Str → Bool)
def okR : Ex → Bool
  | .lst es => (oks S sc fnn es).1
  | e => (ok S sc fnn e).1
def okA (i : Nat) : Ex → Bool
  | .lc elt tg it ifs q => (ok S sc fnn (.lc elt tg it ifs q)).1 && okLc sc S.N i q
  | e => (ok S sc fnn e).1
mutual
def okS : St → Bool
  | .asg i e => locC sc fnn S.N i && okA S sc fnn i e
  | .setix i k e => visC sc S.N i && (ok S sc fnn k).1 && (ok S sc fnn e).1 && notLc e
  | .nset i k j e => visC sc S.N i && visC sc S.N j && (ok S sc fnn e).1 && notLc e
  | .ifs t a b => (ok S sc fnn t).2 && okSs a && okSs b
  | .whl t b => (ok S sc fnn t).2 && okSs b
  | .fors tg it b => ((slots tg).all fun i => locC sc fnn S.N i) && okI S sc fnn it && okSs b && zpT tg it
  | .ret e => okR S sc fnn e
  | .expr e => (ok S sc fnn e).1 && notLc e
  | .brk => true
  | .cont => true
  | .pass => true
  | .rsC c m => S.xs && clC sc c && decide (c ≠ 3)
  | .rsW e => S.xs && clC sc 3 && (ok S sc fnn e).1
  | .tryS b i j => S.xs && clC sc 0 && visC sc S.N i && loc1 sc S.N i && locC sc fnn S.N j && okSs b
  | .raw => true
def okSs : List St → Bool
  | [] => true
  | x :: xs => okS x && okSs xs
end
end
section
variable {S : Ss} {cl : Nat → List OV → CR} {gl : Nat → Option Val} {C : Nat → Addr} {L : Nat} {X : Cx} {W : WX} {sc : Scope} {fnn : Str → Bool} {pr : List Bool}
theorem Sn.varS (n : Sn S cl gl C X W sc fnn) {i : Nat} (h : visC sc S.N i = true) (a : Addr) (pn : List (Addr × Obj)) (pos : Pos) : PE (X.suite a pn) (.Name (nm S.N i) pos) (tVar i) := by
  unfold visC at h
  cases z : S.N[i]? with
  | none => rw [z] at h; cases h
  | some x =>
    rw [z] at h
    simp only [Bool.and_eq_true, Bool.not_eq_true'] at h
    obtain ⟨⟨h1, h2⟩, h3⟩ := h
    rw [nm_of z]
    refine pe_var (X := X.suite a pn) (show X.N[i]? = some x by rw [n.hN]; exact z) (show L2.Vis X.env.scope x from ?_) h2 h3
    unfold L2.Vis
    rw [n.hsc]
    split at h1
    · rename_i w; exact .inl w
    · rename_i w; exact .inr (.inl w)
    · rename_i w; exact .inr (.inr w)
    · cases h1
theorem sMv (n : Sn S cl gl C X W sc fnn) (e : Ex) (s : Sup) (h : (ok S sc fnn e).1 = true) : DE X C W (toE S.G S.N L e s).1 (mvE e (ev cl gl e)) := by
  cases e with
  | var i =>
    have h : visC sc S.N i = true := by unfold ok at h; exact h
    unfold toE
    exact de_mv (n.var h _)
  | _ => exact (sE _ n s).v h
theorem sMs (n : Sn S cl gl C X W sc fnn) : ∀ (es : List Ex) (s : Sup), (oks S sc fnn es).1 = true → DOs X C W (toEs S.G S.N L es s).1 (mvEs cl gl es)
  | [], s, h => by
    unfold toEs
    exact dos_nil
  | e :: es, s, h => by
    unfold oks at h
    simp only [Bool.and_eq_true] at h
    have ih := sMs n es (toE S.G S.N L e s).2 h.2
    unfold toEs
    exact dos_cons (sMv n e s h.1) ih (star1 _ _ _ _ _ _ _)
theorem sRet (n : Sn S cl gl C X W sc fnn) (e : Ex) (s : Sup) (h : okR S sc fnn e = true) : DE X C W (toE S.G S.N L e s).1 (retE cl gl e) := by
  cases e with
  | lst es =>
    unfold toE
    exact de_lstO (sMs n es s.tail h)
  | _ => exact sMv n _ s h
theorem asub {G : Nm} {N : List Str} {x : Str} {p p1 : Pos} {env : PySem.Env} (k : Ex) (s : Sup) : ∀ v, assign (.Subscript (.Name x p) (toE G N L k s).1 p1) env v = (do
      let ov ← holding [v] (eval (.Name x p) env)
      let iv ← holding [v, ov] (eval (toE G N L k s).1 env)
      standAt p1
      holding [v, ov, iv] (setItem ov iv v)
      release [v, ov, iv] []) := by
  intro v
  cases k <;> (unfold toE; rfl)
mutual
theorem sS {X : Cx} {W : WX} (dc : Dc X) (n : Sn S cl gl C X W sc fnn) (hp : PassesOwn (model X.prog X.w) X.A X.env X.xe) : ∀ (x : St) (s : List SP), okS S sc fnn x = true → DS X C W pr (toS S.G S.N x s).1 (ex cl gl pr x)
  | .asg i e, s, h => by
    unfold okS at h
    simp only [Bool.and_eq_true] at h
    obtain ⟨h1, h2⟩ := h
    obtain ⟨x, e0, e1, e2, e3⟩ := n.loc h1
    unfold toS
    rw [e0]
    have gen : notLc e = true → (ok S sc fnn e).1 = true → DS X C W pr (.Assign [.Name x (ps (hd s).pos.line (hd s).es)] (toE S.G S.N (hd s).pos.line e (hd s).es.tail).1 (hd s).pos) (ex cl gl pr (.asg i e)) := fun hn hv =>
      ds_asg n.nd e1 e2 e3 ((sE e n (hd s).es.tail).v hv) (noSwap _ _ _ _ _ _ _ _ hn)
    cases e with
    | lc elt tg it ifs q =>
      unfold okA at h2
      simp only [Bool.and_eq_true] at h2
      obtain ⟨h2, h3⟩ := h2
      unfold okLc at h3
      simp only [Bool.and_eq_true, Bool.not_eq_true'] at h3
      obtain ⟨⟨k1, k2⟩, k3⟩ := h3
      rw [e0] at k2 k3
      have k1 : X.env.scope.kind = .function := by
        rw [n.hsc]
        split at k1
        · assumption
        · cases k1
      have k2 : X.env.scope.names.lookup x = some .local := by
        rw [n.hsc]
        split at k2
        · assumption
        · cases k2
      unfold ok at h2
      simp only [Bool.and_eq_true] at h2
      obtain ⟨⟨⟨⟨⟨h1, hz⟩, h2⟩, h3⟩, h4⟩, h5⟩ := h2
      unfold toE
      refine ds_setlc n.calm n.nd e1 k2 (sw_true k1 k2 (by simp [ps]) k3) (sI it n tg _ _ hz h1) (blkOk_by (own := ownC S.N tg) (by rw [n.hN, n.hsc]; exact h2)) own_slots (fun i hi => ?_) (fun s' H Cc cells fp => tg_ok (n.blk _ s' H Cc cells fp) tg _ h3) (fun s' H Cc cells fp => sF ifs (n.blk _ s' H Cc cells fp) _ h4) (fun s' H Cc cells fp => dp_of_de ((sE elt (n.blk _ s' H Cc cells fp) _).v h5)) (fun x => noFoldI _ _ _ _ _ _ _)
      rw [n.hN]
      exact loc_lt (List.all_eq_true.mp h3 i hi)
    | _ => exact gen rfl h2
  | .setix i k e, s, h => by
    unfold okS at h
    simp only [Bool.and_eq_true] at h
    obtain ⟨⟨⟨h1, h2⟩, h3⟩, h4⟩ := h
    unfold toS
    exact ds_setix n.un (n.var h1 _) ((sE k n _).v h2) ((sE e n _).v h3) (noSwap _ _ _ _ _ _ _ _ h4) (asub k _)
  | .nset i k j e, s, h => by
    unfold okS at h
    simp only [Bool.and_eq_true] at h
    obtain ⟨⟨⟨h1, h2⟩, h3⟩, h4⟩ := h
    unfold toS
    exact ds_nset (n.var h1 _) pe_int (fun _ _ => rfl) (n.var h2 _) ((sE e n _).v h3) (noSwap _ _ _ _ _ _ _ _ h4) (fun _ => rfl)
  | .ifs t a b, s, h => by
    unfold okS at h
    simp only [Bool.and_eq_true] at h
    obtain ⟨⟨h1, h2⟩, h3⟩ := h
    unfold toS
    exact ds_if ((sE t n _).t h1) (sSs dc n hp a _ h2) (sSs dc n hp b _ h3)
  | .whl t b, s, h => by
    unfold okS at h
    simp only [Bool.and_eq_true] at h
    unfold toS
    exact ds_whl hp ((sE t n _).t h.1) (sSs dc n hp b _ h.2)
  | .fors tg it b, s, h => by
    unfold okS at h
    simp only [Bool.and_eq_true] at h
    obtain ⟨⟨⟨h1, h2⟩, h3⟩, hz⟩ := h
    unfold toS
    have hN : ∀ i ∈ slots tg, i < X.N.length := fun i hi => by
      rw [n.hN]
      exact loc_lt (List.all_eq_true.mp h1 i hi)
    have go : (∀ env, dvar it env = none) → DS X C W pr (.For (toG S.N (hd s).pos.line tg (hd s).es).1 (toI S.G S.N (hd s).pos.line it (toG S.N (hd s).pos.line tg (hd s).es).2).1 (toSs S.G S.N b s.tail).1 [] (hd s).pos) (ex cl gl pr (.fors tg it b)) := fun z => by
      have e : ex cl gl pr (.fors tg it b) = fun env => (evi cl gl it env).bd fun xs env => forLoop (putT pr tg) (exs cl gl pr b) xs env := by
        funext env; unfold ex; rw [z env]
      rw [e]
      exact ds_for hp n.calm (sI it n tg _ _ hz h2) (tg_ok n tg _ h1) hN (sSs dc n hp b _ h3) (fun x => noFoldI _ _ _ _ _ _ _)
    cases it with
    | rng es => exact go fun _ => rfl
    | rvs e => exact go fun _ => rfl
    | zp es => exact go fun _ => rfl
    | e e =>
      cases e with
      | var i =>
        have e : ex cl gl pr (.fors tg (.e (.var i)) b) = fun env => match dvar (.e (.var i)) env with
          | some ks => (forLoop (putT pr tg) (exs cl gl pr b) ks env).nx
          | none => (evi cl gl (.e (.var i)) env).bd fun xs env => forLoop (putT pr tg) (exs cl gl pr b) xs env := by
          funext env; unfold ex; rfl
        rw [e]
        have hv : visC sc S.N i = true := by unfold okI ok at h2; exact h2
        exact ds_forv hp n.calm (n.var hv _) (sI (.e (.var i)) n tg _ _ hz h2) (tg_ok n tg _ h1) hN (sSs dc n hp b _ h3) (fun x => noFoldI _ _ _ _ _ _ _)
      | _ => exact go fun _ => rfl
  | .ret e, s, h => by
    unfold okS at h
    unfold toS
    exact ds_ret (sRet n e _ h)
  | .expr e, s, h => by
    unfold okS at h
    simp only [Bool.and_eq_true] at h
    unfold toS
    exact ds_expr ((sE e n _).v h.1) (noSwap _ _ _ _ _ _ _ _ h.2)
  | .brk, s, h => by unfold toS; exact ds_brk
  | .cont, s, h => by unfold toS; exact ds_cont
  | .pass, s, h => by unfold toS; exact ds_pass
  | .rsC c m, s, h => by
    unfold okS at h
    simp only [Bool.and_eq_true, decide_eq_true_eq] at h
    obtain ⟨⟨h1, h2⟩, h3⟩ := h
    unfold clC at h2
    simp only [Bool.and_eq_true, decide_eq_true_eq] at h2
    have cf := n.cf h1
    have e : ex cl gl pr (.rsC c m) = fun env => .exc ⟨c, none⟩ env := by funext env; unfold ex; rfl
    rw [e]
    unfold toS
    exact ds_rsC n.calm n.tk (by rw [n.hC]; exact cf.ra c h2.1 h3) (by rw [n.hC]; exact cf.gl c h2.1) (n.glo h2.2).1 (n.glo h2.2).2
  | .rsW e, s, h => by
    unfold okS at h
    simp only [Bool.and_eq_true] at h
    obtain ⟨⟨h1, h2⟩, h3⟩ := h
    unfold clC at h2
    simp only [Bool.and_eq_true, decide_eq_true_eq] at h2
    have cf := n.cf h1
    have e2 : ex cl gl pr (.rsW e) = fun env => (pv (ev cl gl e) env).bd fun v env => match v with
      | .str x => if x.length ≤ 1000000 then .exc ⟨3, some x⟩ env else .no
      | _ => .no := by funext env; unfold ex; rfl
    rw [e2]
    unfold toS
    exact ds_rsW n.calm n.tk (by rw [n.hC]; exact cf.rw_) n.rm (by rw [n.hC]; exact cf.gl 3 h2.1) (n.glo h2.2).1 (n.glo h2.2).2 ((sE e n _).v h3) (star1 _ _ _ _ _ _ _)
  | .tryS b i j, s, h => by
    unfold okS at h
    simp only [Bool.and_eq_true] at h
    obtain ⟨⟨⟨⟨⟨h1, h2⟩, h3⟩, h4⟩, h5⟩, h6⟩ := h
    unfold clC at h2
    simp only [Bool.and_eq_true, decide_eq_true_eq] at h2
    have cf := n.cf h1
    obtain ⟨y, e0, e1, e2, e3⟩ := n.loc h5
    unfold loc1 at h4
    cases z : S.N[i]? with
    | none => rw [z] at h4; cases h4
    | some x =>
      rw [z] at h4
      have hl : X.env.kindOf x = some .local := by
        unfold Env.kindOf
        rw [n.hsc]
        simp only at h4
        split at h4
        · assumption
        · cases h4
      have ex2 : ex cl gl pr (.tryS b i j) = fun env => match exs cl gl pr b env with
        | .ok f env => .ok f env
        | .exc x env => if decide (x.cls < 8) && !(pr.getD i false) && !(pr.getD j false) then .ok .nx (ss (ss env j (some (.p (.er x.cls x.word)))) i none) else .no
        | .no => .no := by funext env; unfold ex; rfl
      rw [ex2]
      unfold toS
      have hv := n.varS h3
      rw [nm_of z] at hv ⊢
      rw [e0]
      have hjl : j < X.N.length := (List.getElem?_eq_some_iff.mp e1).1
      refine ds_try (C := C) (c := .ref (CofK X.K 0)) (i := i) (j := j) dc.hs dc.hf dc.hex n.nd (by rw [n.hN]; exact z) hl hjl ⟨(n.glo h2.2).1, (n.glo h2.2).2, .inl (cf.gl 0 (by decide))⟩ n.hC (fun d hd => by rw [n.hC]; exact cf.ex d hd) (fun W' pn xe tk hp' => sSs (X := X.tr pn xe) ⟨dc.hs, dc.hf, dc.hex⟩ (n.try_ pn xe tk) hp' b s.tail h6) (fun a pn => ?_)
      exact pss_one (ps_set (X := X.suite a pn) n.nd e1 e2 (hv a pn _))
  | .raw, s, h => ⟨fun pins s σ H D I ⟨F, env, fp, sr, h1⟩ => h1.elim⟩
theorem sSs {X : Cx} {W : WX} (dc : Dc X) (n : Sn S cl gl C X W sc fnn) (hp : PassesOwn (model X.prog X.w) X.A X.env X.xe) : ∀ (xs : List St) (s : List SP), okSs S sc fnn xs = true → DSs X C W pr (toSs S.G S.N xs s).1 (exs cl gl pr xs)
  | [], s, h => by
    unfold toSs
    exact dss_nil
  | x :: xs, s, h => by
    unfold okSs at h
    simp only [Bool.and_eq_true] at h
    unfold toSs
    exact dss_cons (sS dc n hp x s h.1) (sSs dc n hp xs _ h.2)
end
end
end EN

/-! EnU: the defs of a text, at every level. -/
namespace EN
open PySem L2 PyProof.Rows
theorem mask_get : ∀ {os : List OV} {env : Env} {i : Nat}, gs (mask os env) i = match os[i]? with
    | some o => if isP o then none else gs env i
    | none => none
  | [], env, i => by unfold mask; simp [gs]
  | o :: os, [], i => by
    unfold mask
    have : ∀ n, gs ([] : Env) n = none := fun n => by cases n <;> rfl
    rw [this]
    split <;> simp
  | o :: os, r :: rs, 0 => by unfold mask gs; simp [gs]
  | o :: os, r :: rs, i + 1 => by unfold mask gs; simp [mask_get, gs]
theorem mask_len : ∀ {os : List OV} {env : Env}, os.length ≤ env.length → (mask os env).length = os.length
  | [], env, h => by unfold mask; rfl
  | o :: os, [], h => by simp at h
  | o :: os, r :: rs, h => by unfold mask; simp [mask_len (os := os) (env := rs) (by simpa using h)]
/-- what is known of a def -/
structure Df (G : Nm) (ar : Nat → Option Nat) (xs : Bool) (K : PySem.W.Frag) (mg : Str → Option Value) (f : Nat) (fn : Fn) (fa : Addr) (fd : FuncData) (N ps : List Str) : Prop where
  mgf : mg (G.fn f) = some (.ref fa)
  kp : PySem.W.keepIn K (.ref fa) = true
  bd : L2.Binds K fd ps []
  np : ps.length = fn.np
  ns : N.length = fn.ns
  le : fn.np ≤ fn.ns
  ex : ∃ x qual st sup, L2.Fun K x qual st fa fd ∧ FnScope N ps (defScope st) ∧ okSs ⟨G, N, ar, xs⟩ (defScope st) (fun _ => true) fn.body = true ∧ (toSs G N fn.body sup).1 = defBody st
structure Prg (D : Nat → Option Fn) (gl : Nat → Option Val) (G : Nm) (ar : Nat → Option Nat) (xs : Bool) (K : PySem.W.Frag) (w : World) (mg : Str → Option Value) : Prop where
  har : ∀ f n, ar f = some n → ∃ fn, D f = some fn ∧ fn.np = n
  blt : ∀ x ∈ bltNames, mg x = none
  gls : ∀ g v, gl g = some v → (∀ ks vs, v ≠ .dct ks vs) → ∃ u w, mg (G.gl g) = some u ∧ RelV w u ∧ ∀ F, Rp K F v w
  gds : ∀ g ks vs, gl g = some (.dct ks vs) → GD K w (mg (G.gl g)) ks vs
  fns : ∀ f fn, D f = some fn → ∃ fa fd N ps, Df G ar xs K mg f fn fa fd N ps
  cf : xs = true → ClsF K mg
section
variable {P : Program} {w : World} {K : PySem.W.Frag} {mg : Str → Option Value} {base : Heap} {D : Nat → Option Fn} {gl : Nat → Option Val} {G : Nm} {ar : Nat → Option Nat} {xs : Bool}
theorem gs_app {a b : Env} {i : Nat} : gs (a ++ b) i = if i < a.length then gs a i else gs b (i - a.length) := by
  induction a generalizing i with
  | nil => simp
  | cons x a ih =>
    cases i with
    | zero => simp [gs]
    | succ i => simp [gs, ih]
theorem gs_rep {n i : Nat} : gs (List.replicate n none) i = none := by
  induction n generalizing i with
  | zero => rfl
  | succ n ih => cases i with
    | zero => rfl
    | succ i => simp [List.replicate_succ, gs, ih]
/-- a frame with its further slots -/
theorem SR.ext {F H : Hp} {env : Env} {σ : Sg} {fp : Nat → List Addr} (s : SR K F H env σ fp) (n : Nat) : SR K F H (env ++ List.replicate n none) (σ ++ List.replicate n none) fp where
  sF := s.sF
  len := by simp [s.len]
  rel := fun i ov e => by
    rw [gs_app] at e
    by_cases h : i < env.length
    · rw [if_pos h] at e
      obtain ⟨u, h1, h2⟩ := s.rel i ov e
      exact ⟨u, by rw [List.getElem?_append_left (by rw [← s.len]; exact h)]; exact h1, h2⟩
    · rw [if_neg h, gs_rep] at e; cases e
  nil := fun i e => by
    rw [gs_app] at e
    by_cases h : i < env.length
    · rw [if_pos h] at e; exact s.nil i e
    · exact s.nil i (gs_ge (by omega))
  nd := s.nd
  dj := s.dj
/-- what goes back to the caller -/
theorem SR.mask {F H F' H' : Hp} {os : List OV} {env' : Env} {σ' : Sg} {us : List V} {fp' : Nat → List Addr} {n : Nat} (hl : us.length = os.length) (kp : Kept (os.map fun o => !isP o) (us.map some ++ List.replicate n none) σ') (s' : SR K F' H' env' σ' fp') :
    SR K F' H' (EN.mask os env') (us.map some) (fun i => match os[i]? with | some o => if isP o then [] else fp' i | none => []) where
  sF := s'.sF
  len := by
    have := kp.1
    rw [mask_len]
    · simp [hl]
    · rw [s'.len, this]; simp [hl]
  rel := fun i ov e => by
    rw [mask_get] at e
    cases z : os[i]? with
    | none => rw [z] at e; cases e
    | some o =>
      rw [z] at e
      simp only at e
      by_cases hp : isP o = true
      · rw [if_pos hp] at e; cases e
      · rw [if_neg hp] at e
        obtain ⟨u, h1, h2⟩ := s'.rel i ov e
        have lt : i < os.length := (List.getElem?_eq_some_iff.mp z).1
        have k1 := kp.2 i (by rw [List.getD_eq_getElem?_getD, List.getElem?_map, z]; simpa using hp)
        rw [List.getElem?_append_left (by simp [hl]; exact lt), h1] at k1
        refine ⟨u, k1.symm, ?_⟩
        simp only [if_neg hp]
        exact h2
  nil := fun i e => by
    rw [mask_get] at e
    cases z : os[i]? with
    | none => rfl
    | some o =>
      rw [z] at e
      simp only at e ⊢
      by_cases hp : isP o = true
      · rw [if_pos hp]
      · rw [if_neg hp] at e ⊢
        exact s'.nil i e
  nd := fun i => by
    cases z : os[i]? with
    | none => exact .nil
    | some o =>
      simp only
      by_cases hp : isP o = true
      · rw [if_pos hp]; exact .nil
      · rw [if_neg hp]; exact s'.nd i
  dj := fun i j h a ha hb => by
    cases z : os[i]? with
    | none => simp only [z] at ha; cases ha
    | some o =>
      cases y : os[j]? with
      | none => simp only [y] at hb; cases hb
      | some o2 =>
        simp only [z] at ha
        simp only [y] at hb
        by_cases hp : isP o = true
        · rw [if_pos hp] at ha; cases ha
        · by_cases hq : isP o2 = true
          · rw [if_pos hq] at hb; cases hb
          · rw [if_neg hp] at ha; rw [if_neg hq] at hb; exact s'.dj i j h a ha hb
theorem ow_mask {os : List OV} {fp' : Nat → List Addr} {q : List Addr} : ∀ a, Ow (fun i => match os[i]? with | some o => if isP o then [] else fp' i | none => []) q a → Ow fp' q a := fun a z => by
  rcases z with z | ⟨i, z⟩
  · exact .inl z
  · cases y : os[i]? with
    | none => simp only [y] at z; cases z
    | some o =>
      simp only [y] at z
      by_cases hp : isP o = true
      · rw [if_pos hp] at z; cases z
      · rw [if_neg hp] at z; exact .inr ⟨i, z⟩
theorem SR.os_len {F H : Hp} {os : List OV} {us : List V} {fp : Nat → List Addr} (s : SR K F H (os.map some) (us.map some) fp) : us.length = os.length := by
  have := s.len; simpa using this.symm
theorem level (p : Prg D gl G ar xs K w mg) : ∀ (k f : Nat) (fn : Fn) (fa : Addr) (fd : FuncData) (N ps : List Str), D f = some fn → Df G ar xs K mg f fn fa fd N ps → FnOk P w K mg base (L2.CX P w) (k + 2) fa fd ps (spF K (CofK K) (run D gl k) f fn.np)
  | 0, f, fn, fa, fd, N, ps, hd, d => by
    refine ⟨fun vs H Q E ⟨h, _⟩ => by rw [h, d.np], fun A outer s H args us vs Q E hr e0 hb r hsp => ?_⟩
    obtain ⟨_, F, os, fp, _, h⟩ := hsp
    exact h.elim
  | k + 1, f, fn, fa, fd, N, ps, hd, d => by
    have ih := level p k
    obtain ⟨x, qual, st, sup, hF, hS, hok, htxt⟩ := d.ex
    refine hF.okX hS (fun vs H Q E ⟨h, _⟩ => by rw [h, d.np]) fun cdv A outer s H vs Q E hr hsp => ?_
    obtain ⟨hl, F, os, fp, sr, h⟩ := hsp
    have n : Sn ⟨G, N, ar, xs⟩ (run D gl k) gl (CofK K) (cxOf (L2.CX P w) P w K mg base N qual (defScope st) fa cdv A outer s H E) (fun cls d' _ H' => E cls d' H') (defScope st) (fun _ => true) := {
      hN := rfl
      nd := hS.nd
      calm := rfl
      un := by
        have := hr.un
        show (A.deeper (envOfC qual (defScope st) s.heap.objs.size fa cdv)).units + 64 < cLine
        omega
      hsc := rfl
      fn := fun _ _ => rfl
      tk := takes_of rfl rfl rfl rfl
      blt := p.blt
      fns := fun g m hg => by
        obtain ⟨fn2, h1, h2⟩ := p.har g m hg
        obtain ⟨fa2, fd2, N2, ps2, d2⟩ := p.fns g fn2 h1
        exact ⟨k + 2, fa2, fd2, ps2, d2.mgf, d2.kp, d2.bd, by subst h2; exact ih g fn2 fa2 fd2 N2 ps2 h1 d2, hr⟩
      gls := p.gls
      gds := p.gds
      hC := fun _ => rfl
      cf := p.cf
      rm := hr.mono (by omega) }
    have body := sSs (pr := os.map fun o => !isP o) ⟨rfl, rfl, rfl⟩ n (passes_of rfl) fn.body sup hok
    rw [htxt] at body
    refine ⟨_, body, ?_⟩
    have hol := sr.os_len
    have en : start N vs = vs.map some ++ List.replicate (fn.ns - fn.np) none := by
      unfold L2.start
      rw [d.ns, hl]
    rw [en]
    refine ⟨F, os.map some ++ List.replicate (fn.ns - fn.np) none, fp, sr.ext _, ?_⟩
    unfold run at h
    simp only [hd] at h
    have hol2 : os.length = fn.np := by rw [← hol, hl]
    rw [if_pos hol2] at h
    cases z : exs (run D gl k) gl (os.map fun o => !isP o) fn.body (os.map some ++ List.replicate (fn.ns - fn.np) none) with
    | no => rw [z] at h; exact h.elim
    | exc xx env' =>
      rw [z] at h
      intro F' H' σ' fp' cls d' st' sr' kp xr
      exact h F' H' _ cls d' (st'.less ow_mask) (SR.mask (F := F) (H := H) hol kp sr') xr
    | ok fl env' =>
      rw [z] at h
      cases fl with
      | bk => exact h.elim
      | ct => exact h.elim
      | nx =>
        intro F' H' σ' fp' st' sr' kp
        exact h F' H' .non _ [] (st'.less ow_mask) (SR.mask (F := F) (H := H) hol kp sr') (ro_p (by unfold Rp; rfl)) .nil (fun _ z => (nomatch z))
      | rt r =>
        intro F' H' σ' fp' u q st' sr' kp ro nd dj
        refine h F' H' u _ q (st'.less ow_mask) (SR.mask (F := F) (H := H) hol kp sr') ro nd fun a ha i w => ?_
        cases y : os[i]? with
        | none => simp only [y] at w; cases w
        | some o =>
          simp only [y] at w
          by_cases hp : isP o = true
          · rw [if_pos hp] at w; cases w
          · rw [if_neg hp] at w; exact dj a ha i w
end
end EN

/-! EnV: the head. -/
namespace EN
open PySem L2 PyProof.Rows
def arD (D : Nat → Option Fn) : Nat → Option Nat := fun f => (D f).map Fn.np
theorem har_ (D : Nat → Option Fn) : ∀ f n, arD D f = some n → ∃ fn, D f = some fn ∧ fn.np = n := fun f n h => by
  unfold arD at h
  cases z : D f with
  | none => rw [z] at h; cases h
  | some fn => rw [z] at h; cases h; exact ⟨fn, rfl, rfl⟩
section
variable {K : PySem.W.Frag} {h : Heap} {mg : Str → Option Value} {G : Nm} {ar : Nat → Option Nat} {xs : Bool}
theorem df_mk (X : K.In h) (Gn : h.Ns mainGlobals mg) {x qual : Str} {st : Stmt} {f : Addr} {oc : Value} {od an : Option Addr} {osl : Array (Option Value)} {kV doc pm cdv ct : Value} {i : Nat} {fn : Fn} {N ps : List Str} {sup : List SP}
    (a : PySem.W.nsIn K mainGlobals x = some (some (.ref f))) (l : K.lookup f = some ⟨oc, od, .func (PySem.W.fnOf x qual (defArgs st) (defBody st) (defScope st) .none kV doc pm an cdv ct), osl⟩)
    (c : PySem.W.codeIn K cdv qual = true) (k : PySem.W.keepIn K (.ref f) = true) (hx : G.fn i = x)
    (hb : ∀ (kV doc pm : Value) (an : Option Addr) (cdv ct : Value) (us : List Value), us.length = ps.length → bindArgs (PySem.W.fnOf x qual (defArgs st) (defBody st) (defScope st) .none kV doc pm an cdv ct) ⟨us, []⟩ = pure (ps.zip us))
    (np : ps.length = fn.np) (ns : N.length = fn.ns) (le : fn.np ≤ fn.ns) (sc : FnScope N ps (defScope st)) (okk : okSs ⟨G, N, ar, xs⟩ (defScope st) (fun _ => true) fn.body = true) (txt : (toSs G N fn.body sup).1 = defBody st) :
    Df G ar xs K mg i fn f (PySem.W.fnOf x qual (defArgs st) (defBody st) (defScope st) .none kV doc pm an cdv ct) N ps where
  mgf := by rw [hx]; exact PySem.W.mg_of X Gn a
  kp := k
  bd := (fun_mk l c k).binds hb
  np := np
  ns := ns
  le := le
  ex := ⟨x, qual, st, sup, fun_mk l c k, sc, okk, txt⟩
end
theorem cx_out {P : Program} {w : World} {H : Hp} {s : Shared} {e : Value} {s' : Shared} (z : L2.CX P w [] H s (fun _ _ _ => False) e s') : False := by
  obtain ⟨_, _, _, _, _, _, _, _, _, _, _, _, z⟩ := z
  exact z.elim
/-- the law's own promise, from what its reading comes to -/
theorem law_sp {K : PySem.W.Frag} {C : Nat → Addr} {cl : Nat → List OV → CR} {f : Nat} {H : Hp} {a : Addr} {ns : List Int} (hS : SqL K H a (ns.map V.int)) {env : Env} (h : cl f [.p (.scr (ns.map .int))] = .ok (.p (.bl true)) env) :
    spF K C cl f 1 [.ref a] H (fun v _ => v = .bl true) fun _ _ _ => False := by
  refine ⟨rfl, H, [.p (.scr (ns.map .int))], fun _ => [], ⟨Same.refl H, rfl, fun i ov e => ?_, fun _ _ => rfl, fun _ => .nil, fun _ _ _ _ z => (nomatch z)⟩, ?_⟩
  · cases i with
    | zero =>
      have e : some (OV.p (.scr (ns.map .int))) = some ov := e
      cases e
      exact ⟨.ref a, rfl, ro_p (by unfold Rp; exact ⟨a, _, rfl, hS, Rps.of_ints ns⟩)⟩
    | succ i => cases i <;> (have e : (none : Option OV) = some ov := e; cases e)
  · rw [h]
    intro F' H' u fp' q st sr ro nd dj
    unfold Ro Rp at ro
    exact ro.2
/-- entries beside keys and values -/
def GEs (K : PySem.W.Frag) : List DictEntry → List Val → List Val → Prop
  | [], [], [] => True
  | e :: es, k :: ks, v :: vs => (∃ x t, e.key = .str x t ∧ k = .str x) ∧ (∃ v0, RelV v0 e.val ∧ ∀ F, Rp K F v v0) ∧ GEs K es ks vs
  | _, _, _ => False
section
variable {K : PySem.W.Frag}
theorem GEs.ref : ∀ {es : List DictEntry} {ks vs : List Val}, GEs K es ks vs → es.any (·.refKey) = false
  | [], _, _, _ => rfl
  | e :: es, k :: ks, v :: vs, h => by
    obtain ⟨⟨x, t, h1, h2⟩, _, h3⟩ := h
    rw [List.any_cons, h3.ref]
    unfold DictEntry.refKey
    rw [h1]; rfl
  | _ :: _, [], _, h => h.elim
  | _ :: _, _ :: _, [], h => h.elim
theorem GEs.find : ∀ {es : List DictEntry} {ks vs : List Val}, GEs K es ks vs → ∀ z : Str, (es.find? (·.key.isStr z) = none ∧ dget ks vs (.str z) = none) ∨ ∃ e v, es.find? (·.key.isStr z) = some e ∧ dget ks vs (.str z) = some v ∧ ∃ v0, RelV v0 e.val ∧ ∀ F, Rp K F v v0
  | [], [], [], _, z => .inl ⟨rfl, rfl⟩
  | e :: es, k :: ks, v :: vs, h, z => by
    obtain ⟨⟨x, t, h1, rfl⟩, hv, h3⟩ := h
    have d : dget (.str x :: ks) (v :: vs) (.str z) = if decide (x = z) then some v else dget ks vs (.str z) := rfl
    rw [d, List.find?_cons]
    have i : e.key.isStr z = (x == z) := by rw [h1]; rfl
    rw [i]
    by_cases w : x = z
    · subst w
      simp only [beq_self_eq_true, decide_true, if_true]
      exact .inr ⟨e, v, rfl, rfl, hv⟩
    · have b : (x == z) = false := by simpa using w
      simp only [b, w, decide_false, Bool.false_eq_true, if_false]
      exact h3.find z
  | [], [], _ :: _, h, _ => h.elim
  | [], _ :: _, _, h, _ => h.elim
  | _ :: _, [], _, h, _ => h.elim
  | _ :: _, _ :: _, [], h, _ => h.elim
theorem gd_mk {w : World} {h : Heap} {mg : Str → Option Value} {G : Nm} {g : Nat} {x : Str} {d : Addr} {es : Array DictEntry} {n : Nat} {ks vs : List Val} (X : K.In h) (Gn : h.Ns mainGlobals mg) (hx : G.gl g = x) (a : PySem.W.nsIn K mainGlobals x = some (some (.ref d)))
    (l : K.lookup d = some ⟨.type "dict", none, .dict es n, #[]⟩) (k : PySem.W.KeysLit w.params es.toList) (s : (d == sysModules) = false) (e : GEs K es.toList ks vs) : GD K w (mg (G.gl g)) ks vs := by
  refine ⟨d, by rw [hx]; exact PySem.W.mg_of X Gn a, es, n, ⟨l, k, s⟩, fun z => ?_⟩
  have hn : PySem.W.nsIn K d z = match es.toList.find? (·.key.isStr z) with
      | some e => some (some e.val)
      | none => if es.toList.any (·.refKey) then none else some none := by
    unfold PySem.W.nsIn; rw [l]; rfl
  rw [hn]
  rcases e.find z with ⟨h1, h2⟩ | ⟨e0, v, h1, h2, v0, h3, h4⟩
  · rw [h1, h2, e.ref]
    exact ⟨none, rfl, rfl⟩
  · rw [h1, h2]
    exact ⟨some e0.val, rfl, e0.val, v0, rfl, h3, h4⟩
theorem ge_cons {e : DictEntry} {es : List DictEntry} {k v : Val} {ks vs : List Val} {v0 : V} (h1 : ∃ x t, e.key = .str x t ∧ k = .str x) (h2 : RelV v0 e.val) (h3 : ∀ F, Rp K F v v0) (h4 : GEs K es ks vs) : GEs K (e :: es) (k :: ks) (v :: vs) := ⟨h1, ⟨v0, h2, h3⟩, h4⟩
theorem ge_str {x : Str} {t : Tok} {e : DictEntry} {es : List DictEntry} {k : Val} {ks vs : List Val} (h1 : ∃ x t, e.key = .str x t ∧ k = .str x) (h2 : e.val = .str x t) (h4 : GEs K es ks vs) : GEs K (e :: es) (k :: ks) (.str x :: vs) :=
  ⟨h1, ⟨.str x, by rw [h2]; exact ⟨t, rfl⟩, fun F => by unfold Rp; rfl⟩, h4⟩
theorem asStrs_some : ∀ {ys : List Val} {xs : List Str}, asStrs ys = some xs → ys = xs.map Val.str
  | [], xs, e => by unfold asStrs at e; cases e; rfl
  | y :: ys, xs, e => by
    cases y with
    | str x =>
      have e : (asStrs ys).map (x :: ·) = some xs := e
      cases z : asStrs ys with
      | none => rw [z] at e; cases e
      | some zs => rw [z] at e; cases e; rw [asStrs_some z]; rfl
    | _ => cases e
theorem ge_tup {ys : List Val} {xs : List Str} (hx : asStrs ys = some xs) {a : Addr} {o : Obj} {its : Array Value} {m : Nat} {e : DictEntry} {es : List DictEntry} {k : Val} {ks vs : List Val} (h1 : ∃ x t, e.key = .str x t ∧ k = .str x) (h2 : e.val = .ref a) (l : K.lookup a = some o) (c : o.cls = .type "tuple") (dt : o.data = .seq its m) (z : its.size ≤ 1000) (hv : Vals (xs.map V.str) its.toList)
    (h4 : GEs K es ks vs) : GEs K (e :: es) (k :: ks) (.tup ys :: vs) :=
  asStrs_some hx ▸ ⟨h1, ⟨.ref a, by rw [h2]; rfl, fun F => by unfold Rp; exact ⟨a, xs.map V.str, rfl, .inr ⟨o, its, m, l, c, dt, Nat.le_trans z (by decide), hv⟩, Rps.of_strs xs⟩⟩, h4⟩
end
end EN

/-! EnVX: the head's facts about own classes of errors. -/
namespace EN
open PySem L2 PyProof.Rows
section
variable {K : PySem.W.Frag}
theorem cofK_of {c : Nat} {h : Addr} (a : PySem.W.nsIn K mainGlobals (cN c) = some (some (.ref h))) : CofK K c = h := by
  unfold CofK; rw [a]
theorem kit_sub {t : Value} {C : Addr} {b : Bool} (hself : PySem.W.subIn K t t = some true) (hd : PySem.W.hasDictIn K C = true) (ht : PySem.W.typeIn K (.ref C) = some (.type "type")) (h4 : PySem.W.subIn K t (.ref C) = some b) : PySem.W.kitOne K t (.ref C) = some b := by
  unfold PySem.W.kitOne
  by_cases e : (t == Value.ref C) = true
  · rw [if_pos e]
    have e2 : t = .ref C := eq_of_beq e
    subst e2
    rw [hself] at h4; exact h4
  · rw [if_neg e]
    obtain ⟨cd, hc, _⟩ := PySem.W.any_some hd
    have e2 : ((PySem.W.clsIn K C).isSome && PySem.W.typeIn K (.ref C) == some (.type "type")) = true := by rw [hc, ht] <;> rfl
    show (if ((PySem.W.clsIn K C).isSome && PySem.W.typeIn K (.ref C) == some (.type "type")) = true then PySem.W.subIn K t (.ref C) else none) = some b
    rw [if_pos e2]
    exact h4
theorem kit_ve {C : Addr} (h : PySem.W.subIn K (.ref C) (.type "ValueError") = some true) : PySem.W.kitOne K (.ref C) (.type "ValueError") = some true := by
  unfold PySem.W.kitOne
  have e : (Value.ref C == Value.type "ValueError") = false := rfl
  rw [e, if_neg Bool.false_ne_true]
  show (if PySem.W.kitMeta "ValueError" = true then PySem.W.subIn K (.ref C) (.type "ValueError") else none) = some true
  have m : PySem.W.kitMeta "ValueError" = true := by decide +kernel
  rw [if_pos m]
  exact h
end
end EN

/-! EnW: reading a term's outcome, step by step (no machine here). -/
namespace EN
open PySem L2
def Wr {α : Type} (x : R α) (Q : α → Env → Prop) : Prop := match x with
  | .ok a e => Q a e
  | _ => False
def Wc (x : CR) (Q : OV → Env → Prop) : Prop := match x with
  | .ok r e => Q r e
  | _ => False
def Wp {α : Type} (x : Option α) (Q : α → Prop) : Prop := match x with
  | some a => Q a
  | none => False
section
variable {α β : Type} {cl : Nat → List OV → CR} {gl : Nat → Option Val} {pr : List Bool} {env : Env}
theorem Wr.bd {x : R α} {f : α → Env → R β} {Q : β → Env → Prop} (h : Wr x fun a e => Wr (f a e) Q) : Wr (x.bd f) Q := by
  cases x <;> exact h
theorem Wr.of {o : Option α} {Q : α → Env → Prop} (h : Wp o fun a => Q a env) : Wr (R.of o env) Q := by
  cases o <;> exact h
theorem Wr.mono {x : R α} {Q Q' : α → Env → Prop} (h : Wr x Q) (k : ∀ a e, Q a e → Q' a e) : Wr x Q' := by
  cases x with
  | ok a e => exact k a e h
  | _ => exact h
theorem Wc.mono {x : CR} {Q Q' : OV → Env → Prop} (h : Wc x Q) (k : ∀ a e, Q a e → Q' a e) : Wc x Q' := by
  cases x with
  | ok a e => exact k a e h
  | _ => exact h
theorem Wr.ok {x : R α} {a : α} {e : Env} {Q : α → Env → Prop} (h : x = .ok a e) (k : Q a e) : Wr x Q := by rw [h]; exact k
theorem Wc.ok {x : CR} {a : OV} {e : Env} {Q : OV → Env → Prop} (h : x = .ok a e) (k : Q a e) : Wc x Q := by rw [h]; exact k
theorem Wc.get {x : CR} {Q : OV → Env → Prop} (h : Wc x Q) : ∃ r e, x = .ok r e ∧ Q r e := by
  cases x with
  | ok r e => exact ⟨r, e, rfl, h⟩
  | _ => exact h.elim
theorem Wp.of {o : Option α} {a : α} {Q : α → Prop} (h : o = some a) (k : Q a) : Wp o Q := by rw [h]; exact k
theorem Wp.map {o : Option α} {f : α → β} {Q : β → Prop} (h : Wp o fun a => Q (f a)) : Wp (o.map f) Q := by
  cases o <;> exact h
/-! ### partial operations -/
theorem wp_div {i j : Int} {Q : OV → Prop} (h : 0 < j) (h2 : j.natAbs.log2 < 9000) (k : Q (.p (.int (i / j)))) : Wp (bin .fdiv (.int i) (.int j)) Q :=
  Wp.of (show (pdiv i j).map (fun k => OV.p (.int k)) = some (.p (.int (i / j))) by unfold pdiv; rw [if_pos ⟨h, h2⟩]; rfl) k
theorem wp_mod {i j : Int} {Q : OV → Prop} (h : 0 < j) (k : Q (.p (.int (i % j)))) : Wp (bin .mod (.int i) (.int j)) Q :=
  Wp.of (show (pmod i j).map (fun k => OV.p (.int k)) = some (.p (.int (i % j))) by unfold pmod; rw [if_pos h]; rfl) k
theorem wp_mul {i j : Int} {Q : OV → Prop} (h : mulOk i j) (k : Q (.p (.int (i * j)))) : Wp (bin .mul (.int i) (.int j)) Q :=
  Wp.of (show (pmul i j).map (fun k => OV.p (.int k)) = some (.p (.int (i * j))) by unfold pmul; rw [if_pos h]; rfl) k
theorem wp_pow {i j : Int} {Q : OV → Prop} (h : powOk i j) (k : Q (.p (.int (i ^ j.toNat)))) : Wp (bin .pow (.int i) (.int j)) Q :=
  Wp.of (show (if powOk i j then some (i ^ j.toNat) else none).map (fun k => OV.p (.int k)) = some (.p (.int (i ^ j.toNat))) by rw [if_pos h]; rfl) k
theorem wp_shl {i j : Int} {Q : OV → Prop} (h : powOk i j) (k : Q (.p (.int (i * 2 ^ j.toNat)))) : Wp (bin .shl (.int i) (.int j)) Q :=
  Wp.of (show (if powOk i j then some (i * 2 ^ j.toNat) else none).map (fun k => OV.p (.int k)) = some (.p (.int (i * 2 ^ j.toNat))) by rw [if_pos h]; rfl) k
theorem wp_shr {i j : Int} {Q : OV → Prop} (h : 0 ≤ j) (k : Q (.p (.int (i / 2 ^ j.toNat)))) : Wp (bin .shr (.int i) (.int j)) Q :=
  Wp.of (show (if 0 ≤ j then some (i / 2 ^ j.toNat) else none).map (fun k => OV.p (.int k)) = some (.p (.int (i / 2 ^ j.toNat))) by rw [if_pos h]; rfl) k
theorem wp_catL {xs ys : List Val} {Q : OV → Prop} (h : xs.length + ys.length ≤ sizeLine) (k : Q (.l (xs ++ ys))) : Wp (bin .add (.lst xs) (.lst ys)) Q :=
  Wp.of (show (if xs.length + ys.length ≤ sizeLine then some (OV.l (xs ++ ys)) else none) = some (OV.l (xs ++ ys)) by rw [if_pos h]) k
theorem wp_catT {xs ys : List Val} {Q : OV → Prop} (h : xs.length + ys.length ≤ sizeLine) (k : Q (.p (.tup (xs ++ ys)))) : Wp (bin .add (.tup xs) (.tup ys)) Q :=
  Wp.of (show (if xs.length + ys.length ≤ sizeLine then some (OV.p (.tup (xs ++ ys))) else none) = some (OV.p (.tup (xs ++ ys))) by rw [if_pos h]) k
theorem wp_catS {xs ys : Str} {Q : OV → Prop} (h : xs.length + ys.length ≤ sizeLine) (k : Q (.p (.str (xs ++ ys)))) : Wp (bin .add (.str xs) (.str ys)) Q :=
  Wp.of (show (if xs.length + ys.length ≤ sizeLine then some (OV.p (.str (xs ++ ys))) else none) = some (OV.p (.str (xs ++ ys))) by rw [if_pos h]) k
theorem wp_rep {xs : List Val} {j : Int} {Q : OV → Prop} (h : repOk xs.length j) (k : Q (.l (reps xs j.toNat))) : Wp (bin .mul (.lst xs) (.int j)) Q :=
  Wp.of (show (if repOk xs.length j then some (OV.l (reps xs j.toNat)) else none) = some (OV.l (reps xs j.toNat)) by rw [if_pos h]) k
/-! ### terms -/
theorem w_int {n : Nat} {Q : OV → Env → Prop} (k : Q (.p (.int n)) env) : Wr (ev cl gl (.int n) env) Q := k
theorem w_str {n : Str} {Q : OV → Env → Prop} (k : Q (.p (.str n)) env) : Wr (ev cl gl (.str n) env) Q := k
theorem w_bl {n : Bool} {Q : OV → Env → Prop} (k : Q (.p (.bl n)) env) : Wr (ev cl gl (.bl n) env) Q := k
theorem w_non {Q : OV → Env → Prop} (k : Q (.p .non) env) : Wr (ev cl gl .non env) Q := k
def noD : Val → Bool
  | .dct _ _ => false
  | _ => true
theorem w_gl {g : Nat} {v : Val} {Q : OV → Env → Prop} (h : gl g = some v) (hd : noD v = true) (k : Q (.p v) env) : Wr (ev cl gl (.gl g) env) Q := by
  have e : ev cl gl (.gl g) env = .ok (.p v) env := by
    unfold ev; rw [h]
    cases v with
    | dct ks vs => cases hd
    | _ => rfl
  rw [e]; exact k
theorem w_var {i : Nat} {v : Val} {Q : OV → Env → Prop} (h : gs env i = some (.p v)) (k : Q (.p v) env) : Wr (ev cl gl (.var i) env) Q := by
  have e : ev cl gl (.var i) env = .ok (.p v) env := by unfold ev; rw [h]
  rw [e]; exact k
theorem w_varL {i : Nat} {xs : List Val} {Q : OV → Env → Prop} (h : gs env i = some (.l xs)) (k : Q (.p (.lst xs)) (ss env i (some (.p (.lst xs))))) : Wr (ev cl gl (.var i) env) Q := by
  have e : ev cl gl (.var i) env = .ok (.p (.lst xs)) (ss env i (some (.p (.lst xs)))) := by unfold ev; rw [h]; rfl
  rw [e]; exact k
theorem w_varD {i : Nat} {ks vs : List Val} {Q : OV → Env → Prop} (h : gs env i = some (.d ks vs)) (k : Q (.p (.dct ks vs)) (ss env i (some (.p (.dct ks vs))))) : Wr (ev cl gl (.var i) env) Q := by
  have e : ev cl gl (.var i) env = .ok (.p (.dct ks vs)) (ss env i (some (.p (.dct ks vs)))) := by unfold ev; rw [h]; rfl
  rw [e]; exact k
theorem wp_dict {ks vs : List Val} {Q : OV → Prop} (k : Q (.d ks vs)) : Wp (bi .dict [.dct ks vs]) Q := k
theorem wo_var {i : Nat} {ov : OV} {Q : Od → Env → Prop} (h : gs env i = some ov) (hn : (fl ov).isSome = true) (k : Q (.nm i) env) : Wr (od (.var i) (ev cl gl (.var i)) env) Q := by
  have e : od (.var i) (ev cl gl (.var i)) env = .ok (.nm i) env := by
    unfold od
    simp only [h]
    cases ov with
    | nd xs => cases hn
    | _ => rfl
  rw [e]; exact k
theorem wo_nd {i j : Nat} {xs : List OV} {v : Val} {Q : Od → Env → Prop} (h : gs env i = some (.nd xs)) (h2 : xs[j]? = some (.p v)) (k : Q (.v (.p v)) env) : Wr (od (.ix (.var i) (.int j)) (ev cl gl (.ix (.var i) (.int j))) env) Q := by
  have e : od (.ix (.var i) (.int j)) (ev cl gl (.ix (.var i) (.int j))) env = .ok (.v (.p v)) env := by
    unfold od
    simp only [h, h2]
  rw [e]; exact k
theorem wo_gen {e : Ex} {f : Env → R OV} {Q : Od → Env → Prop} (h : od e f env = (f env).bd fun r env => .ok (.v r) env) (k : Wr (f env) fun r e => Q (.v r) e) : Wr (od e f env) Q := by
  rw [h]; exact Wr.bd k
/-- two operands -/
theorem w_od2 {a b : Ex} {f g : Env → R OV} {op : Val → Val → Option OV} {Q : OV → Env → Prop} (k : Wr (od a f env) fun x e1 => Wr (od b g e1) fun y e2 => Wp (rd e2 x) fun v => Wp (rd e2 y) fun w => Wp (op v w) fun r => Q r e2) : Wr (od2 a f b g env op) Q := by
  refine Wr.bd (k.mono fun x e1 h => Wr.bd (h.mono fun y e2 h => ?_))
  cases z : rd e2 x with
  | none => rw [z] at h; exact h.elim
  | some v =>
    cases y' : rd e2 y with
    | none => rw [z, y'] at h; exact h.elim
    | some w => rw [z, y'] at h; exact Wr.of h
theorem w_od1 {a : Ex} {f : Env → R OV} {op : Val → Env → R OV} {Q : OV → Env → Prop} (k : Wr (od a f env) fun x e => Wp (rd e x) fun v => Wr (op v e) Q) : Wr (od1 a f env op) Q := by
  refine Wr.bd (k.mono fun x e1 h => ?_)
  cases z : rd e1 x with
  | none => rw [z] at h; exact h.elim
  | some v => rw [z] at h; exact h
theorem w_bin {o : Bop} {a b : Ex} {Q : OV → Env → Prop} (k : Wr (od a (ev cl gl a) env) fun x e1 => Wr (od b (ev cl gl b) e1) fun y e2 => Wp (rd e2 x) fun v => Wp (rd e2 y) fun w => Wp (bin o v w) fun r => Q r e2) : Wr (ev cl gl (.bin o a b) env) Q := w_od2 k
theorem w_cmp {o : Cop} {a b : Ex} {Q : OV → Env → Prop} (k : Wr (od a (ev cl gl a) env) fun x e1 => Wr (od b (ev cl gl b) e1) fun y e2 => Wp (rd e2 x) fun v => Wp (rd e2 y) fun w => Wp (cmp o v w) fun r => Q (.p (.bl r)) e2) : Wr (ev cl gl (.cmp o a b) env) Q :=
  w_od2 (k.mono fun x e1 h => h.mono fun y e2 h => by
    cases z : rd e2 x with
    | none => rw [z] at h; exact h.elim
    | some v =>
      cases y' : rd e2 y with
      | none => rw [z, y'] at h; exact h.elim
      | some w => rw [z, y'] at h; exact Wp.map h)
theorem w_ix {a b : Ex} {Q : OV → Env → Prop} (k : Wr (od a (ev cl gl a) env) fun x e1 => Wr (od b (ev cl gl b) e1) fun y e2 => Wp (rd e2 x) fun v => Wp (rd e2 y) fun w => Wp (vix v w) fun r => Q (.p r) e2) : Wr (ev cl gl (.ix a b) env) Q :=
  w_od2 (k.mono fun x e1 h => h.mono fun y e2 h => by
    cases z : rd e2 x with
    | none => rw [z] at h; exact h.elim
    | some v =>
      cases y' : rd e2 y with
      | none => rw [z, y'] at h; exact h.elim
      | some w => rw [z, y'] at h; exact Wp.map h)
theorem w_neg {a : Ex} {Q : OV → Env → Prop} (k : Wr (od a (ev cl gl a) env) fun x e => Wp (rd e x) fun v => Wp (asInt v) fun i => Q (.p (.int (-i))) e) : Wr (ev cl gl (.neg a) env) Q :=
  w_od1 (k.mono fun x e h => by
    cases z : rd e x with
    | none => rw [z] at h; exact h.elim
    | some v =>
      rw [z] at h
      cases v with
      | int i => exact h
      | _ => exact h.elim)
theorem w_nt {a : Ex} {Q : OV → Env → Prop} (k : Wr (tst a (ev cl gl a) env) fun b e => Q (.p (.bl (!b))) e) : Wr (ev cl gl (.nt a) env) Q := Wr.bd k
theorem w_ife {t a b : Ex} {Q : OV → Env → Prop} (k : Wr (tst t (ev cl gl t) env) fun c e => (c = true → Wr (ev cl gl a e) Q) ∧ (c = false → Wr (ev cl gl b e) Q)) : Wr (ev cl gl (.ife t a b) env) Q :=
  Wr.bd (k.mono fun c e h => by
    cases c with
    | true => exact h.1 rfl
    | false => exact h.2 rfl)
theorem w_tst {a : Ex} {f : Env → R OV} {Q : Bool → Env → Prop} (k : Wr (od a f env) fun x e => Wp (rd e x) fun v => Wp (truthy v) fun b => Q b e) : Wr (tst a f env) Q :=
  Wr.bd (k.mono fun x e h => by
    cases z : rd e x with
    | none => rw [z] at h; exact h.elim
    | some v => rw [z] at h; exact Wr.of h)
theorem w_slc {a : Ex} {lo hi : Option Ex} {Q : OV → Env → Prop} (k : Wr (od a (ev cl gl a) env) fun x e1 => Wr (evo? cl gl lo e1) fun l e2 => Wr (evo? cl gl hi e2) fun h e3 => Wp (rd e3 x) fun v => Wp (vslc v l h) fun r => Q r e3) : Wr (ev cl gl (.slc a lo hi) env) Q :=
  Wr.bd (k.mono fun x e1 h => Wr.bd (h.mono fun l e2 h => Wr.bd (h.mono fun hh e3 h => by
    cases z : rd e3 x with
    | none => rw [z] at h; exact h.elim
    | some v => rw [z] at h; exact Wr.of h)))
theorem w_rev {a : Ex} {Q : OV → Env → Prop} (k : Wr (od a (ev cl gl a) env) fun x e => Wp (rd e x) fun v => Wp (vrev v) fun r => Q r e) : Wr (ev cl gl (.rev a) env) Q :=
  w_od1 (k.mono fun x e h => by
    cases z : rd e x with
    | none => rw [z] at h; exact h.elim
    | some v => rw [z] at h; exact Wr.of h)
theorem w_o0 {Q : Option Int → Env → Prop} (k : Q none env) : Wr (evo? cl gl none env) Q := k
theorem w_o1 {e : Ex} {Q : Option Int → Env → Prop} (k : Wr (pv (ev cl gl e) env) fun v e => Wp (asInt v) fun i => Q (some i) e) : Wr (evo? cl gl (some e) env) Q :=
  Wr.bd (k.mono fun v e h => by
    cases v with
    | int i => exact h
    | _ => exact h.elim)
theorem w_pv {f : Env → R OV} {Q : Val → Env → Prop} (k : Wr (f env) fun r e => Q (fz r) e) : Wr (pv f env) Q := Wr.bd k
theorem w_evs0 {Q : List Val → Env → Prop} (k : Q [] env) : Wr (evs cl gl [] env) Q := k
theorem w_evs1 {e : Ex} {es : List Ex} {Q : List Val → Env → Prop} (k : Wr (ev cl gl e env) fun r e1 => Wr (evs cl gl es e1) fun vs e2 => Q (fz r :: vs) e2) : Wr (evs cl gl (e :: es) env) Q :=
  Wr.bd (w_pv (k.mono fun r e1 h => Wr.bd h))
theorem w_odl0 {Q : List Od → Env → Prop} (k : Q [] env) : Wr (odl cl gl [] env) Q := k
theorem w_odl1 {e : Ex} {es : List Ex} {Q : List Od → Env → Prop} (k : Wr (od e (ev cl gl e) env) fun r e1 => Wr (odl cl gl es e1) fun vs e2 => Q (r :: vs) e2) : Wr (odl cl gl (e :: es) env) Q :=
  Wr.bd (k.mono fun r e1 h => Wr.bd h)
theorem w_tup {es : List Ex} {Q : OV → Env → Prop} (k : Wr (evs cl gl es env) fun vs e => vs.length ≤ sizeLine ∧ Q (.p (.tup vs)) e) : Wr (ev cl gl (.tup es) env) Q :=
  Wr.bd (k.mono fun vs e h => by rw [if_pos h.1]; exact h.2)
theorem w_lst {es : List Ex} {Q : OV → Env → Prop} (k : Wr (evs cl gl es env) fun vs e => vs.length ≤ sizeLine ∧ Q (.l vs) e) : Wr (ev cl gl (.lst es) env) Q :=
  Wr.bd (k.mono fun vs e h => by rw [if_pos h.1]; exact h.2)
theorem w_bi {b : Bi} {es : List Ex} {Q : OV → Env → Prop} (k : Wr (odl cl gl es env) fun os e => Wp (rds e os) fun vs => Wp (bi b vs) fun r => Q r e) : Wr (ev cl gl (.bi b es) env) Q :=
  Wr.bd (k.mono fun os e h => by
    cases z : rds e os with
    | none => rw [z] at h; exact h.elim
    | some v => rw [z] at h; exact Wr.of h)
theorem w_isi {a : Ex} {t : Ty} {Q : OV → Env → Prop} (k : Wr (od a (ev cl gl a) env) fun x e => Wp (rd e x) fun v => Wp (isi t v) fun b => Q (.p (.bl b)) e) : Wr (ev cl gl (.isi a t) env) Q :=
  w_od1 (k.mono fun x e h => by
    cases z : rd e x with
    | none => rw [z] at h; exact h.elim
    | some v => rw [z] at h; exact Wr.of (Wp.map h))
theorem w_dd {Q : OV → Env → Prop} (k : Q (.d [] []) env) : Wr (ev cl gl .dd env) Q := k
theorem w_jn {a : Ex} {x : Str} {Q : OV → Env → Prop} (k : Wr (od a (ev cl gl a) env) fun y e => Wp (rd e y) fun v => Wp (vjn x v) fun r => Q r e) : Wr (ev cl gl (.jn x a) env) Q :=
  w_od1 (k.mono fun x e h => by
    cases z : rd e x with
    | none => rw [z] at h; exact h.elim
    | some v => rw [z] at h; exact Wr.of h)
theorem w_gin {neg : Bool} {g : Nat} {a : Ex} {ks vs : List Val} {Q : OV → Env → Prop} (h : gl g = some (.dct ks vs)) (k : Wr (od a (ev cl gl a) env) fun y e => ∃ x, rd e y = some (.str x) ∧ Q (.p (.bl (neg != (dget ks vs (.str x)).isSome))) e) : Wr (ev cl gl (.gin neg g a) env) Q := by
  unfold ev
  rw [h]
  refine w_od1 (k.mono fun y e ⟨x, h1, h2⟩ => ?_)
  rw [h1]
  exact h2
theorem w_gix {g : Nat} {a : Ex} {ks vs : List Val} {Q : OV → Env → Prop} (h : gl g = some (.dct ks vs)) (k : Wr (od a (ev cl gl a) env) fun y e => ∃ x v, rd e y = some (.str x) ∧ dget ks vs (.str x) = some v ∧ Q (.p v) e) : Wr (ev cl gl (.gix g a) env) Q := by
  unfold ev
  rw [h]
  refine w_od1 (k.mono fun y e ⟨x, v, h1, h2, h3⟩ => ?_)
  rw [h1]
  show Wr (R.of ((dget ks vs (.str x)).map OV.p) e) Q
  rw [h2]
  exact h3
theorem w_gget {g : Nat} {a : Ex} {ks vs : List Val} {Q : OV → Env → Prop} (h : gl g = some (.dct ks vs)) (k : Wr (od a (ev cl gl a) env) fun y e => ∃ x, rd e y = some (.str x) ∧ Q (.p ((dget ks vs (.str x)).getD .non)) e) : Wr (ev cl gl (.gget g a) env) Q := by
  unfold ev
  rw [h]
  refine w_od1 (k.mono fun y e ⟨x, h1, h2⟩ => ?_)
  rw [h1]
  exact h2
theorem w_dl {ks : List Str} {es : List Ex} {Q : OV → Env → Prop} (k : Wr (evs cl gl es env) fun vs e => dOk ks vs.length ∧ Q (.d (ks.map .str) vs) e) : Wr (ev cl gl (.dl ks es) env) Q := by
  unfold ev
  refine Wr.bd (k.mono fun vs e h => ?_)
  rw [if_pos h.1]
  exact h.2
theorem w_is2 {a : Ex} {t1 t2 : Ty} {Q : OV → Env → Prop} (k : Wr (od a (ev cl gl a) env) fun x e => Wp (rd e x) fun v => Wp (isi2 t1 t2 v) fun b => Q (.p (.bl b)) e) : Wr (ev cl gl (.is2 a t1 t2) env) Q := by
  unfold ev
  refine w_od1 (k.mono fun x e h => ?_)
  cases z : rd e x with
  | none => rw [z] at h; exact h
  | some v =>
    rw [z] at h
    exact Wr.of (Wp.map h)
theorem w_spl {i : Nat} {y x : Str} {Q : OV → Env → Prop} (h : gs env i = some (.p (.str y))) (k : Wp (vspl y x) fun r => Q r env) : Wr (ev cl gl (.spl i x) env) Q := by
  unfold ev
  rw [h]
  exact Wr.of k
theorem w_exr {i : Nat} {e : Ex} {xs : List Val} {Q : OV → Env → Prop} (h : gs env i = some (.l xs)) (k : Wr (ev cl gl e env) fun r e1 => ∃ ys zs, gs e1 i = some (.l ys) ∧ fz r = .tup zs ∧ ys.length + zs.length ≤ sizeLine ∧ Q (.p .non) (ss e1 i (some (.l (ys ++ zs.reverse))))) : Wr (ev cl gl (.exr i e) env) Q := by
  unfold ev
  rw [h]
  refine Wr.bd (Wr.bd (k.mono fun r e1 h2 => ?_))
  obtain ⟨ys, zs, h3, h4, h5, h6⟩ := h2
  show Wr (match gs e1 i, fz r with
      | some (.l ys), .tup xs => if ys.length + xs.length ≤ sizeLine then R.ok (OV.p .non) (ss e1 i (some (.l (ys ++ xs.reverse)))) else .no
      | _, _ => .no) Q
  rw [h3, h4]
  dsimp only
  rw [if_pos h5]
  exact h6
theorem w_chn {a b c : Ex} {Q : OV → Env → Prop} (k : Wr (ev cl gl a env) fun x e1 => Wr (ev cl gl b e1) fun y e2 => ∃ i j, x = .p (.int i) ∧ y = .p (.int j) ∧ (i ≤ j → Wr (ev cl gl c e2) fun z e3 => ∃ k, z = .p (.int k) ∧ Q (.p (.bl (decide (j ≤ k)))) e3) ∧ (¬ i ≤ j → Q (.p (.bl false)) e2)) : Wr (ev cl gl (.chn a b c) env) Q := by
  unfold ev chR
  refine Wr.bd (Wr.bd (k.mono fun x e1 h => Wr.bd (h.mono fun y e2 h2 => ?_)))
  obtain ⟨i, j, rfl, rfl, h3, h4⟩ := h2
  dsimp only
  by_cases g : i ≤ j
  · rw [if_pos g]
    refine Wr.bd ((h3 g).mono fun z e3 h5 => ?_)
    obtain ⟨k, rfl, h6⟩ := h5
    exact h6
  · rw [if_neg g]
    exact h4 g
theorem w_sidx {i : Nat} {b : Ex} {x : Str} {Q : OV → Env → Prop} (h : gs env i = some (.p (.str x))) (k : Wr (od b (ev cl gl b) env) fun y e => Wp (rd e y) fun v => Wp (vsidx (.str x) v) fun r => Q r e) : Wr (ev cl gl (.sidx i b) env) Q := by
  unfold ev
  rw [h]
  exact w_od1 (k.mono fun y e h => by
    cases z : rd e y with
    | none => rw [z] at h; exact h.elim
    | some v => rw [z] at h; exact Wr.of h)
theorem w_app {i : Nat} {e : Ex} {xs : List Val} {Q : OV → Env → Prop} (h : gs env i = some (.l xs)) (k : Wr (ev cl gl e env) fun r e1 => ∃ ys, gs e1 i = some (.l ys) ∧ ys.length < sizeLine ∧ Q (.p .non) (ss e1 i (some (.l (ys ++ [fz r]))))) : Wr (ev cl gl (.app i e) env) Q := by
  unfold ev
  rw [h]
  refine Wr.bd (w_pv (k.mono fun r e1 ⟨ys, h1, h2, h3⟩ => ?_))
  rw [h1]
  simp only [if_pos h2]
  exact h3
theorem w_pop {i : Nat} {xs : List Val} {v : Val} {Q : OV → Env → Prop} (h : gs env i = some (.l xs)) (h2 : xs[xs.length - 1]? = some v) (k : Q (.p v) (ss env i (some (.l xs.dropLast)))) : Wr (ev cl gl (.pop i) env) Q := by
  unfold ev
  simp only [h, h2]
  exact k
theorem w_nix {i j m : Nat} {xs : List OV} {n : Int} {ys : List Val} {Q : OV → Env → Prop} (h : gs env i = some (.nd xs)) (h2 : gs env j = some (.p (.int n))) (h3 : xs[m]? = some (.l ys)) (k : Wp (atI ys n) fun v => Q (.p v) env) : Wr (ev cl gl (.nix i m j) env) Q := by
  unfold ev
  simp only [h, h2, h3]
  exact Wr.of (Wp.map k)
theorem w_nlen {i m : Nat} {xs : List OV} {ys : List Val} {Q : OV → Env → Prop} (h : gs env i = some (.nd xs)) (h3 : xs[m]? = some (.l ys)) (k : Q (.p (.int ys.length)) env) : Wr (ev cl gl (.nlen i m) env) Q := by
  unfold ev
  simp only [h, h3]
  exact k
/-! and, or: each decides -/
theorem w_bop1 {ia : Bool} {e : Ex} {Q : OV → Env → Prop} (k : Wr (ev cl gl e env) fun r e1 => ∃ b, fz r = .bl b ∧ Q (.p (.bl b)) e1) : Wr (evb cl gl ia [e] env) Q := by
  unfold evb
  refine Wr.bd (w_pv (k.mono fun r e1 ⟨b, h1, h2⟩ => ?_))
  rw [h1]; exact h2
theorem w_bopC {ia : Bool} {e e2 : Ex} {es : List Ex} {Q : OV → Env → Prop} (k : Wr (ev cl gl e env) fun r e1 => ∃ b, fz r = .bl b ∧ (b = ia → Wr (evb cl gl ia (e2 :: es) e1) Q) ∧ (b = !ia → Q (.p (.bl (!ia))) e1)) : Wr (evb cl gl ia (e :: e2 :: es) env) Q := by
  rw [evb]
  · refine Wr.bd (w_pv (k.mono fun r e1 ⟨b, h1, h2, h3⟩ => ?_))
    rw [h1]
    by_cases z : b = ia
    · simp only [if_pos z]; exact h2 z
    · simp only [if_neg z]
      have zb : b = !ia := by cases b <;> cases ia <;> simp_all
      rw [zb]; exact h3 zb
  · intro h; cases h
theorem w_bop {ia : Bool} {es : List Ex} {Q : OV → Env → Prop} (k : Wr (evb cl gl ia es env) Q) : Wr (ev cl gl (.bop ia es) env) Q := k
/-! ### calls -/
theorem w_eva0 {Q : List Arg → Env → Prop} (k : Q [] env) : Wr (eva cl gl [] [] env) Q := k
theorem w_evaP {e : Ex} {es : List Ex} {ms : List Am} {Q : List Arg → Env → Prop} (k : Wr (ev cl gl e env) fun r e1 => Wr (eva cl gl es ms e1) fun as e2 => Q (.v (.p (fz r)) :: as) e2) : Wr (eva cl gl (e :: es) (.P :: ms) env) Q :=
  Wr.bd (Wr.bd (w_pv (k.mono fun r e1 h => Wr.bd h)))
theorem w_evaO {e : Ex} {es : List Ex} {ms : List Am} {Q : List Arg → Env → Prop} (k : Wr (ev cl gl e env) fun r e1 => Wr (eva cl gl es ms e1) fun as e2 => Q (.v r :: as) e2) : Wr (eva cl gl (e :: es) (.O :: ms) env) Q :=
  Wr.bd (Wr.bd (k.mono fun r e1 h => Wr.bd h))
theorem w_evaM {i : Nat} {es : List Ex} {ms : List Am} {Q : List Arg → Env → Prop} {ov : OV} (h : gs env i = some ov) (k : Wr (eva cl gl es ms env) fun as e2 => Q (.mv i :: as) e2) : Wr (eva cl gl (.var i :: es) (.M :: ms) env) Q := by
  refine Wr.bd ?_
  unfold arg
  simp only [h]
  exact Wr.bd k
theorem w_call {f : Nat} {ms : List Am} {es : List Ex} {Q : OV → Env → Prop} (k : Wr (eva cl gl es ms env) fun as e1 => Wp (take as e1) fun p => Wc (cl f p.1) fun r rs => Q r (back as p.1 rs p.2)) : Wr (ev cl gl (.call f ms es) env) Q :=
  Wr.bd (k.mono fun as e1 h => by
    cases z : take as e1 with
    | none => rw [z] at h; exact h.elim
    | some p =>
      rw [z] at h
      obtain ⟨os, e2⟩ := p
      have h : Wc (cl f os) fun r rs => Q r (back as os rs e2) := h
      show Wr (match cl f os with
        | .ok r rs => .ok r (back as os rs e2)
        | .exc x rs => .exc x (back as os rs e2)
        | .no => .no) Q
      cases y : cl f os with
      | ok r rs => rw [y] at h; exact h
      | exc x rs => rw [y] at h; exact h.elim
      | no => rw [y] at h; exact h.elim)
theorem w_run {D : Nat → Option Fn} {m f : Nat} {args : List OV} {fd : Fn} {Q : OV → Env → Prop} (hd : D f = some fd) (hn : args.length = fd.np)
    (k : Wr (exs (run D gl m) gl (args.map fun o => !isP o) fd.body (args.map some ++ List.replicate (fd.ns - fd.np) none)) fun fl e => match fl with
      | .rt r => Q r (mask args e)
      | .nx => Q (.p .non) (mask args e)
      | _ => False) : Wc (run D gl (m + 1) f args) Q := by
  unfold run
  simp only [hd, if_pos hn]
  cases z : exs (run D gl m) gl (args.map fun o => !isP o) fd.body (args.map some ++ List.replicate (fd.ns - fd.np) none) with
  | ok fl e =>
    rw [z] at k
    cases fl with
    | rt r => exact k
    | nx => exact k
    | bk => exact k.elim
    | ct => exact k.elim
  | exc x e => rw [z] at k; exact k.elim
  | no => rw [z] at k; exact k.elim
/-! ### statements -/
theorem w_nil {Q : Fl → Env → Prop} (k : Q .nx env) : Wr (exs cl gl pr [] env) Q := k
/-- what follows a statement -/
def Th (cl : Nat → List OV → CR) (gl : Nat → Option Val) (pr : List Bool) (ss : List St) (Q : Fl → Env → Prop) : Fl → Env → Prop := fun f e => match f with
  | .nx => Wr (exs cl gl pr ss e) Q
  | f => Q f e
theorem th_nx {ss : List St} {Q : Fl → Env → Prop} (k : Wr (exs cl gl pr ss env) Q) : Th cl gl pr ss Q .nx env := k
theorem th_rt {ss : List St} {Q : Fl → Env → Prop} {r : OV} (k : Q (.rt r) env) : Th cl gl pr ss Q (.rt r) env := k
theorem th_bk {ss : List St} {Q : Fl → Env → Prop} (k : Q .bk env) : Th cl gl pr ss Q .bk env := k
theorem th_ct {ss : List St} {Q : Fl → Env → Prop} (k : Q .ct env) : Th cl gl pr ss Q .ct env := k
theorem w_cons {s : St} {ss : List St} {Q : Fl → Env → Prop} (k : Wr (ex cl gl pr s env) (Th cl gl pr ss Q)) : Wr (exs cl gl pr (s :: ss) env) Q :=
  Wr.bd (k.mono fun f e h => by cases f <;> exact h)
theorem w_asg {i : Nat} {e : Ex} {rest : List St} {Q : Fl → Env → Prop} (h : pr.getD i false = false) (k : Wr (ev cl gl e env) fun r e1 => Wr (exs cl gl pr rest (ss e1 i (some r))) Q) : Wr (exs cl gl pr (.asg i e :: rest) env) Q :=
  w_cons (Wr.bd (k.mono fun r e1 z => by simp only [h]; exact z))
theorem w_ifs {t : Ex} {a b rest : List St} {Q : Fl → Env → Prop} (k : Wr (tst t (ev cl gl t) env) fun c e => (c = true → Wr (exs cl gl pr a e) (Th cl gl pr rest Q)) ∧ (c = false → Wr (exs cl gl pr b e) (Th cl gl pr rest Q))) : Wr (exs cl gl pr (.ifs t a b :: rest) env) Q :=
  w_cons (Wr.bd (k.mono fun c e h => by
    cases c with
    | true => exact h.1 rfl
    | false => exact h.2 rfl))
theorem w_ret {e : Ex} {rest : List St} {Q : Fl → Env → Prop} (k : Wr (retE cl gl e env) fun r e1 => Q (.rt r) e1) : Wr (exs cl gl pr (.ret e :: rest) env) Q :=
  w_cons (Wr.bd (k.mono fun r e1 h => h))
theorem w_expr {e : Ex} {rest : List St} {Q : Fl → Env → Prop} (k : Wr (ev cl gl e env) fun r e1 => Wr (exs cl gl pr rest e1) Q) : Wr (exs cl gl pr (.expr e :: rest) env) Q :=
  w_cons (Wr.bd (k.mono fun r e1 h => h))
theorem w_brk {rest : List St} {Q : Fl → Env → Prop} (k : Q .bk env) : Wr (exs cl gl pr (.brk :: rest) env) Q := k
theorem w_cont {rest : List St} {Q : Fl → Env → Prop} (k : Q .ct env) : Wr (exs cl gl pr (.cont :: rest) env) Q := k
theorem w_pass {rest : List St} {Q : Fl → Env → Prop} (k : Wr (exs cl gl pr rest env) Q) : Wr (exs cl gl pr (.pass :: rest) env) Q := w_cons k
def six (o : Option OV) (y r : OV) : Option OV := match o with
  | some (.l xs) => (setL xs (fz y) (fz r)).map OV.l
  | some (.nd xs) => (setN xs (fz y) (fz r)).map OV.nd
  | some (.d ks vs) => if isKey (fz y) && decide (ks.length < sizeLine) then some (.d (dputK ks (fz y)) (dputV ks vs (fz y) (fz r))) else none
  | _ => none
theorem w_setix {i : Nat} {n e : Ex} {rest : List St} {Q : Fl → Env → Prop} (k : Wr (ev cl gl e env) fun r e1 => (gs e1 i).isSome = true ∧ Wr (ev cl gl n e1) fun y e2 => Wp (six (gs e2 i) y r) fun z => Wr (exs cl gl pr rest (ss e2 i (some z))) Q) : Wr (exs cl gl pr (.setix i n e :: rest) env) Q :=
  w_cons (Wr.bd (w_pv (k.mono fun r e1 ⟨h0, h⟩ => by
    cases z0 : gs e1 i with
    | none => rw [z0] at h0; cases h0
    | some o0 =>
      refine Wr.bd (w_pv (h.mono fun y e2 h => ?_))
      cases z : gs e2 i with
      | none => rw [z] at h; exact h.elim
      | some o =>
        rw [z] at h
        cases o with
        | l xs =>
          simp only [six] at h ⊢
          cases w : setL xs (fz y) (fz r) with
          | none => rw [w] at h; exact h.elim
          | some zs => rw [w] at h; exact h
        | nd xs =>
          simp only [six] at h ⊢
          cases w : setN xs (fz y) (fz r) with
          | none => rw [w] at h; exact h.elim
          | some zs => rw [w] at h; exact h
        | d ks vs =>
          simp only [six] at h ⊢
          cases w : isKey (fz y) && decide (ks.length < sizeLine) with
          | false => rw [w] at h; exact h.elim
          | true => rw [w] at h; exact h
        | p v => exact h.elim)))
theorem w_nset {i m j : Nat} {e : Ex} {rest : List St} {Q : Fl → Env → Prop} (k : Wr (ev cl gl e env) fun r e1 => ∃ xs n ys zs, gs e1 i = some (.nd xs) ∧ gs e1 j = some (.p n) ∧ xs[m]? = some (.l ys) ∧ setL ys n (fz r) = some zs ∧ Wr (exs cl gl pr rest (ss e1 i (some (.nd (xs.set m (.l zs)))))) Q) : Wr (exs cl gl pr (.nset i m j e :: rest) env) Q :=
  w_cons (Wr.bd (w_pv (k.mono fun r e1 ⟨xs, n, ys, zs, h1, h2, h3, h4, h⟩ => by
    simp only [h1, h2, h3, h4]
    exact h)))
/-! return: what is handed back -/
theorem w_retV {i : Nat} {v : Val} {Q : OV → Env → Prop} (h : gs env i = some (.p v)) (k : Q (.p v) env) : Wr (retE cl gl (.var i) env) Q := by
  have e : retE cl gl (.var i) env = .ok (.p v) env := by unfold retE mvE; simp only [h]
  rw [e]; exact k
theorem w_retM {i : Nat} {xs : List Val} {Q : OV → Env → Prop} (h : gs env i = some (.l xs)) (k : Q (.l xs) (ss env i none)) : Wr (retE cl gl (.var i) env) Q := by
  have e : retE cl gl (.var i) env = .ok (.l xs) (ss env i none) := by unfold retE mvE; simp only [h]
  rw [e]; exact k
theorem w_retE {e : Ex} {Q : OV → Env → Prop} (h : retE cl gl e env = ev cl gl e env) (k : Wr (ev cl gl e env) Q) : Wr (retE cl gl e env) Q := by rw [h]; exact k
theorem w_retL {es : List Ex} {Q : OV → Env → Prop} (k : Wr (mvEs cl gl es env) fun vs e => vs.length ≤ sizeLine ∧ Q (lstO vs) e) : Wr (retE cl gl (.lst es) env) Q :=
  Wr.bd (k.mono fun vs e h => by rw [if_pos h.1]; exact h.2)
theorem w_mvs0 {Q : List OV → Env → Prop} (k : Q [] env) : Wr (mvEs cl gl [] env) Q := k
theorem w_mvs1 {e : Ex} {es : List Ex} {Q : List OV → Env → Prop} (k : Wr (mvE e (ev cl gl e) env) fun r e1 => Wr (mvEs cl gl es e1) fun vs e2 => Q (r :: vs) e2) : Wr (mvEs cl gl (e :: es) env) Q :=
  Wr.bd (k.mono fun r e1 h => Wr.bd h)
theorem w_mvV {i : Nat} {v : Val} {f : Env → R OV} {Q : OV → Env → Prop} (h : gs env i = some (.p v)) (k : Q (.p v) env) : Wr (mvE (.var i) f env) Q := by
  have e : mvE (.var i) f env = .ok (.p v) env := by unfold mvE; simp only [h]
  rw [e]; exact k
theorem w_mvL {i : Nat} {xs : List Val} {f : Env → R OV} {Q : OV → Env → Prop} (h : gs env i = some (.l xs)) (k : Q (.l xs) (ss env i none)) : Wr (mvE (.var i) f env) Q := by
  have e : mvE (.var i) f env = .ok (.l xs) (ss env i none) := by unfold mvE; simp only [h]
  rw [e]; exact k
theorem w_mvE {e : Ex} {f : Env → R OV} {Q : OV → Env → Prop} (h : mvE e f env = f env) (k : Wr (f env) Q) : Wr (mvE e f env) Q := by rw [h]; exact k
/-! ### loops -/
theorem wi_rng1 {a : Ex} {Q : List Val → Env → Prop} (k : Wr (ev cl gl a env) fun r e => Wp (asInt (fz r)) fun j => rngOk j ∧ Q (range 0 j.toNat) e) : Wr (evi cl gl (.rng [a]) env) Q := by
  unfold evi evs evs
  refine Wr.bd (Wr.bd (w_pv (k.mono fun r e h => ?_)))
  cases z : fz r with
  | int j =>
    rw [z] at h
    exact Wr.of (Wp.of (show rngs [.int j] = some (range 0 j.toNat) by simp only [rngs, if_pos h.1]) h.2)
  | _ => rw [z] at h; exact h.elim
theorem wi_rng2 {a b : Ex} {Q : List Val → Env → Prop} (k : Wr (ev cl gl a env) fun r e => Wr (ev cl gl b e) fun s e => Wp (asInt (fz r)) fun i => Wp (asInt (fz s)) fun j => (rngOk i ∧ rngOk j) ∧ Q (range i (j - i).toNat) e) : Wr (evi cl gl (.rng [a, b]) env) Q := by
  unfold evi evs evs evs
  refine Wr.bd (Wr.bd (w_pv (k.mono fun r e h => Wr.bd (Wr.bd (w_pv (h.mono fun s e h => ?_))))))
  cases z : fz r with
  | int i =>
    cases y : fz s with
    | int j =>
      rw [z, y] at h
      exact Wr.of (Wp.of (show rngs [.int i, .int j] = some (range i (j - i).toNat) by simp only [rngs, if_pos h.1]) h.2)
    | _ => rw [z, y] at h; exact h.elim
  | _ => rw [z] at h; exact h.elim
theorem wi_e {a : Ex} {Q : List Val → Env → Prop} (k : Wr (ev cl gl a env) fun r e => Wp (itemsE (fz r)) fun xs => Q xs e) : Wr (evi cl gl (.e a) env) Q := by
  unfold evi
  exact Wr.bd (w_pv (k.mono fun r e h => Wr.of h))
theorem wi_rvs {a : Ex} {Q : List Val → Env → Prop} (k : Wr (ev cl gl a env) fun r e => Wp (items (fz r)) fun xs => Q xs.reverse e) : Wr (evi cl gl (.rvs a) env) Q := by
  unfold evi
  exact Wr.bd (w_pv (k.mono fun r e h => Wr.of (Wp.map h)))
/-- a loop's turn by its end -/
def Tn (I : Env → Prop) (Q : Fl → Env → Prop) : Fl → Env → Prop := fun f e => match f with
  | .nx => I e
  | .ct => I e
  | .bk => Q .nx e
  | .rt r => Q (.rt r) e
theorem w_loop {put : Val → Env → Option Env} {body : Env → R Fl} {Q : Fl → Env → Prop} {xs : List Val} (I : Nat → Env → Prop) (h0 : I 0 env) (hs : ∀ i x e, xs[i]? = some x → I i e → Wp (put x e) fun e1 => Wr (body e1) (Tn (I (i + 1)) Q)) (hd : ∀ e, I xs.length e → Q .nx e) : Wr (forLoop put body xs env) Q := by
  have go : ∀ (n i : Nat) (e : Env), i + n = xs.length → I i e → Wr (forLoop put body (xs.drop i) e) Q := by
    intro n
    induction n with
    | zero =>
      intro i e hi h
      have : i = xs.length := by omega
      subst this
      rw [List.drop_length]
      exact hd e h
    | succ n ih =>
      intro i e hi h
      have lt : i < xs.length := by omega
      rw [List.drop_eq_getElem_cons lt]
      have t := hs i xs[i] e (List.getElem?_eq_getElem lt) h
      unfold forLoop
      cases z : put xs[i] e with
      | none => rw [z] at t; exact t.elim
      | some e1 =>
        rw [z] at t
        have t : Wr (body e1) (Tn (I (i + 1)) Q) := t
        refine Wr.bd (t.mono fun f e2 h2 => ?_)
        cases f with
        | nx => exact ih (i + 1) e2 (by omega) h2
        | ct => exact ih (i + 1) e2 (by omega) h2
        | bk => exact h2
        | rt r => exact h2
  simpa using go xs.length 0 env (by omega) h0
theorem w_for {tg : Tg} {it : It} {b rest : List St} {Q : Fl → Env → Prop} (k : Wr (evi cl gl it env) fun xs e => Wr (forLoop (putT pr tg) (exs cl gl pr b) xs e) (Th cl gl pr rest Q)) : Wr (exs cl gl pr (.fors tg it b :: rest) env) Q :=
  w_cons (by
    unfold ex
    cases z : dvar it env with
    | none => exact Wr.bd k
    | some ks =>
      cases it with
      | rng es => cases z
      | rvs e => cases z
      | zp es => cases z
      | e e =>
        cases e with
        | var i =>
          have z : (match gs env i with
            | some (.p (.dct ks _)) => some ks
            | _ => none) = some ks := z
          have k : Wr ((pv (ev cl gl (.var i)) env).bd fun v env => R.of (itemsE v) env) fun xs e => Wr (forLoop (putT pr tg) (exs cl gl pr b) xs e) (Th cl gl pr rest Q) := k
          split at z
          · rename_i ks' vs w
            have e : ev cl gl (.var i) env = .ok (.p (.dct ks' vs)) env := by unfold ev; rw [w]
            rw [show pv (ev cl gl (.var i)) env = .ok (.dct ks' vs) env by unfold pv; rw [e]; rfl] at k
            exact k.elim
          · cases z
        | _ => cases z)
/-- for k in d, d a dict -/
theorem w_ford {tg : Tg} {i : Nat} {ks vs : List Val} {b rest : List St} {Q : Fl → Env → Prop} (h : gs env i = some (.p (.dct ks vs))) (k : Wr (forLoop (putT pr tg) (exs cl gl pr b) ks env) (Th cl gl pr rest Q)) : Wr (exs cl gl pr (.fors tg (.e (.var i)) b :: rest) env) Q :=
  w_cons (by
    have e : ex cl gl pr (.fors tg (.e (.var i)) b) env = (forLoop (putT pr tg) (exs cl gl pr b) ks env).nx := by
      have z : dvar (.e (.var i)) env = some ks := by
        show (match gs env i with
            | some (.p (.dct ks _)) => some ks
            | _ => none) = some ks
        rw [h]
      unfold ex
      rw [z]
    rw [e]
    cases z : forLoop (putT pr tg) (exs cl gl pr b) ks env with
    | ok fl e => rw [z] at k; exact k
    | exc x e => rw [z] at k; exact k.elim
    | no => rw [z] at k; exact k.elim)
theorem rng_get : ∀ (n : Nat) (lo : Int) (i : Nat) (x : Val), (range lo n)[i]? = some x → i < n ∧ x = .int (lo + i)
  | 0, lo, i, x, h => by simp [range] at h
  | n + 1, lo, 0, x, h => by simp [range] at h; exact ⟨by omega, by rw [← h]; simp⟩
  | n + 1, lo, i + 1, x, h => by
    simp only [range, List.getElem?_cons_succ] at h
    obtain ⟨h1, h2⟩ := rng_get n (lo + 1) i x h
    refine ⟨by omega, ?_⟩
    rw [h2]; congr 1; omega
theorem rng_len : ∀ (n : Nat) (lo : Int), (range lo n).length = n
  | 0, _ => rfl
  | n + 1, lo => by simp [range, rng_len n]
/-- for i in range(..) -/
theorem w_loopR {v : Nat} {body : Env → R Fl} {Q : Fl → Env → Prop} {lo : Int} {n : Nat} (I : Nat → Env → Prop) (hp : pr.getD v false = false) (h0 : I 0 env) (hs : ∀ (i : Nat) e, i < n → I i e → Wr (body (ss e v (some (.p (.int (lo + i)))))) (Tn (I (i + 1)) Q)) (hd : ∀ e, I n e → Q .nx e) : Wr (forLoop (putT pr (.nm v)) body (range lo n) env) Q := by
  refine w_loop I h0 (fun i x e hx h => ?_) (by rw [rng_len]; exact hd)
  obtain ⟨h1, rfl⟩ := rng_get _ _ _ _ hx
  exact Wp.of (show (if pr.getD v false then none else some (ss e v (some (.p (.int (lo + i)))))) = _ by rw [hp]; rfl) (hs i e h1 h)
/-- for x in xs -/
theorem w_loopL {v : Nat} {body : Env → R Fl} {Q : Fl → Env → Prop} {xs : List Val} (I : Nat → Env → Prop) (hp : pr.getD v false = false) (h0 : I 0 env) (hs : ∀ i x e, xs[i]? = some x → I i e → Wr (body (ss e v (some (.p x)))) (Tn (I (i + 1)) Q)) (hd : ∀ e, I xs.length e → Q .nx e) : Wr (forLoop (putT pr (.nm v)) body xs env) Q := by
  refine w_loop I h0 (fun i x e hx h => ?_) hd
  exact Wp.of (show (if pr.getD v false then none else some (ss e v (some (.p x)))) = _ by rw [hp]; rfl) (hs i x e hx h)
/-- while -/
theorem w_wloop {test : Env → R Bool} {body : Env → R Fl} {Q : Fl → Env → Prop} (I : Nat → Env → Prop) (hs : ∀ m e, I m e → Wr (test e) fun c e1 => (c = true → Wr (body e1) (Tn (fun e2 => ∃ m', m' < m ∧ I m' e2) Q)) ∧ (c = false → Q .nx e1)) : ∀ (m : Nat) (e : Env), m < most → I m e → Wr (whLoop test body most e) Q := by
  have go : ∀ (n m : Nat) (e : Env), m < n → I m e → Wr (whLoop test body n e) Q := by
    intro n
    induction n with
    | zero => intro m e h; omega
    | succ n ih =>
      intro m e h hi
      unfold whLoop
      refine Wr.bd ((hs m e hi).mono fun c e1 h1 => ?_)
      cases c with
      | true =>
        rw [if_pos rfl]
        refine Wr.bd ((h1.1 rfl).mono fun f e2 h2 => ?_)
        cases f with
        | nx => obtain ⟨m', l, i'⟩ := h2; exact ih m' e2 (by omega) i'
        | ct => obtain ⟨m', l, i'⟩ := h2; exact ih m' e2 (by omega) i'
        | bk => exact h2
        | rt r => exact h2
      | false => exact h1.2 rfl
  exact fun m e h hi => go most m e h hi
theorem w_whl {t : Ex} {b rest : List St} {Q : Fl → Env → Prop} (k : Wr (whLoop (tst t (ev cl gl t)) (exs cl gl pr b) most env) (Th cl gl pr rest Q)) : Wr (exs cl gl pr (.whl t b :: rest) env) Q := w_cons k
/-- [.. for x in ..] -/
theorem w_lc {elt : Ex} {tg : Tg} {it : It} {ifs : Option Ex} {sc : Sc} {Q : OV → Env → Prop} (k : Wr (evi cl gl it env) fun xs e0 => Wr (lcLoop (fun x env => putT [] tg x (wipeT tg env)) (evt? cl gl ifs) (pv (ev cl gl elt)) xs [] e0) fun ys e => Q (.l ys) (restT tg e0 e)) : Wr (ev cl gl (.lc elt tg it ifs sc) env) Q :=
  Wr.bd (k.mono fun xs e0 h => Wr.bd h)
theorem Wr.nx {x : R α} {Q : α → Env → Prop} (h : Wr x Q) : Wr x.nx Q := by
  cases x <;> exact h
theorem w_lcLoop {put : Val → Env → Option Env} {test : Env → R Bool} {elt : Env → R Val} {Q : List Val → Env → Prop} {xs acc : List Val} (I : Nat → List Val → Env → Prop) (h0 : I 0 acc env) (hs : ∀ i x acc e, xs[i]? = some x → I i acc e → Wp (put x e) fun e1 => Wr (test e1) fun c e2 => (c = true → acc.length < sizeLine ∧ Wr (elt e2) fun y e3 => I (i + 1) (acc ++ [y]) e3) ∧ (c = false → I (i + 1) acc e2)) (hd : ∀ acc e, I xs.length acc e → Q acc e) : Wr (lcLoop put test elt xs acc env) Q := by
  have go : ∀ (n i : Nat) (acc : List Val) (e : Env), i + n = xs.length → I i acc e → Wr (lcLoop put test elt (xs.drop i) acc e) Q := by
    intro n
    induction n with
    | zero =>
      intro i acc e hi h
      have : i = xs.length := by omega
      subst this
      rw [List.drop_length]
      exact hd acc e h
    | succ n ih =>
      intro i acc e hi h
      have lt : i < xs.length := by omega
      rw [List.drop_eq_getElem_cons lt]
      have t := hs i xs[i] acc e (List.getElem?_eq_getElem lt) h
      unfold lcLoop
      cases z : put xs[i] e with
      | none => rw [z] at t; exact t.elim
      | some e1 =>
        rw [z] at t
        refine Wr.bd (Wr.nx (Wr.mono t fun c e2 h2 => ?_))
        cases c with
        | true =>
          rw [if_pos rfl]
          obtain ⟨hl, h3⟩ := h2.1 rfl
          refine Wr.bd (Wr.nx (Wr.mono h3 fun y e3 h4 => ?_))
          rw [if_pos hl]
          exact ih (i + 1) _ e3 (by omega) h4
        | false => exact ih (i + 1) acc e2 (by omega) (h2.2 rfl)
  simpa using go xs.length 0 acc env (by omega) h0
/-! ### zip, places, caught errors -/
theorem wi_zp {es : List Ex} {Q : List Val → Env → Prop} (k : Wr (evs cl gl es env) fun vs e => Wp (zips vs) fun xs => Q xs e) : Wr (evi cl gl (.zp es) env) Q := Wr.bd (k.mono fun vs e h => Wr.of h)
theorem w_sidxL {i : Nat} {b : Ex} {ys : List Val} {Q : OV → Env → Prop} (h : gs env i = some (.p (.lst ys))) (k : Wr (od b (ev cl gl b) env) fun y e => Wp (rd e y) fun v => Wp (vlidx ys v) fun r => Q r e) : Wr (ev cl gl (.sidx i b) env) Q := by
  unfold ev
  rw [h]
  exact w_od1 (k.mono fun y e h => by
    cases z : rd e y with
    | none => rw [z] at h; exact h.elim
    | some v => rw [z] at h; exact Wr.of h)
theorem w_lix {es : List Ex} {b : Ex} {Q : OV → Env → Prop} (k : Wr (evs cl gl es env) fun vs e1 => vs.length ≤ sizeLine ∧ Wr (od b (ev cl gl b) e1) fun y e => Wp (rd e y) fun v => Wp (vlidx vs v) fun r => Q r e) : Wr (ev cl gl (.lix es b) env) Q :=
  Wr.bd (k.mono fun vs e1 h => by
    rw [if_pos h.1]
    exact w_od1 (h.2.mono fun y e h => by
      cases z : rd e y with
      | none => rw [z] at h; exact h.elim
      | some v => rw [z] at h; exact Wr.of h))
theorem w_isx {i c : Nat} {w : Option Str} {cs : List Nat} {Q : OV → Env → Prop} (h : gs env i = some (.p (.er c w))) (h8 : c < 8) (k : Q (.p (.bl (cs.any (iss c)))) env) : Wr (ev cl gl (.isx i cs) env) Q := by
  unfold ev
  rw [h]
  simp only [if_pos h8]
  exact k
theorem w_isc {i c d : Nat} {w : Option Str} {Q : OV → Env → Prop} (h : gs env i = some (.p (.er c w))) (h8 : c < 8) (k : Q (.p (.bl (iss c d))) env) : Wr (ev cl gl (.isc i d) env) Q := by
  unfold ev
  rw [h]
  simp only [if_pos h8]
  exact k
theorem w_isv {i c : Nat} {w : Option Str} {Q : OV → Env → Prop} (h : gs env i = some (.p (.er c w))) (h8 : c < 8) (k : Q (.p (.bl true)) env) : Wr (ev cl gl (.isv i) env) Q := by
  unfold ev
  rw [h]
  simp only [if_pos h8]
  exact k
theorem w_wrd {i : Nat} {x : Str} {Q : OV → Env → Prop} (h : gs env i = some (.p (.er 3 (some x)))) (k : Q (.p (.str x)) env) : Wr (ev cl gl (.wrd i) env) Q := by
  unfold ev
  rw [h]
  exact k
/-! ### errors -/
def Wx {α : Type} (x : R α) (E : Xc → Env → Prop) : Prop := match x with
  | .exc x e => E x e
  | _ => False
def Wcx (x : CR) (E : Xc → Env → Prop) : Prop := match x with
  | .exc x e => E x e
  | _ => False
variable {E : Xc → Env → Prop}
theorem Wx.mono {x : R α} {E' : Xc → Env → Prop} (h : Wx x E) (k : ∀ a e, E a e → E' a e) : Wx x E' := by
  cases x with
  | exc a e => exact k a e h
  | _ => exact h
theorem Wcx.mono {x : CR} {E' : Xc → Env → Prop} (h : Wcx x E) (k : ∀ a e, E a e → E' a e) : Wcx x E' := by
  cases x with
  | exc a e => exact k a e h
  | _ => exact h
theorem wx_bd {x : R α} {f : α → Env → R β} (h : Wr x fun a e => Wx (f a e) E) : Wx (x.bd f) E := by
  cases x <;> first | exact h | exact False.elim h
theorem wx_bd0 {x : R α} {f : α → Env → R β} (h : Wx x E) : Wx (x.bd f) E := by
  cases x <;> first | exact h | exact False.elim h
theorem wx_call {f : Nat} {ms : List Am} {es : List Ex} (k : Wr (eva cl gl es ms env) fun as e1 => Wp (take as e1) fun p => Wcx (cl f p.1) fun x rs => E x (back as p.1 rs p.2)) : Wx (ev cl gl (.call f ms es) env) E :=
  wx_bd (k.mono fun as e1 h => by
    cases z : take as e1 with
    | none => rw [z] at h; exact h.elim
    | some p =>
      rw [z] at h
      obtain ⟨os, e2⟩ := p
      have h : Wcx (cl f os) fun x rs => E x (back as os rs e2) := h
      show Wx (match cl f os with
        | .ok r rs => .ok r (back as os rs e2)
        | .exc x rs => .exc x (back as os rs e2)
        | .no => .no) E
      cases y : cl f os with
      | ok r rs => rw [y] at h; exact h.elim
      | exc x rs => rw [y] at h; exact h
      | no => rw [y] at h; exact h.elim)
theorem wx_run {D : Nat → Option Fn} {m f : Nat} {args : List OV} {fd : Fn} (hd : D f = some fd) (hn : args.length = fd.np)
    (k : Wx (exs (run D gl m) gl (args.map fun o => !isP o) fd.body (args.map some ++ List.replicate (fd.ns - fd.np) none)) fun x e => E x (mask args e)) : Wcx (run D gl (m + 1) f args) E := by
  unfold run
  simp only [hd, if_pos hn]
  cases z : exs (run D gl m) gl (args.map fun o => !isP o) fd.body (args.map some ++ List.replicate (fd.ns - fd.np) none) with
  | ok fl e => rw [z] at k; exact k.elim
  | exc x e => rw [z] at k; exact k
  | no => rw [z] at k; exact k.elim
theorem wx_expr {e : Ex} {rest : List St} (k : Wx (ev cl gl e env) E) : Wx (exs cl gl pr (.expr e :: rest) env) E := wx_bd0 (wx_bd0 k)
theorem wx_asg {i : Nat} {e : Ex} {rest : List St} (k : Wx (ev cl gl e env) E) : Wx (exs cl gl pr (.asg i e :: rest) env) E := wx_bd0 (wx_bd0 k)
theorem wx_then {s : St} {rest : List St} (k : Wr (ex cl gl pr s env) fun f e => match f with
    | .nx => Wx (exs cl gl pr rest e) E
    | _ => False) : Wx (exs cl gl pr (s :: rest) env) E := wx_bd (k.mono fun f e h => by cases f <;> first | exact h | exact h.elim)
theorem wx_if1 {t : Ex} {a b rest : List St} (k : Wr (tst t (ev cl gl t) env) fun c e => c = true ∧ Wx (exs cl gl pr a e) E) : Wx (exs cl gl pr (.ifs t a b :: rest) env) E :=
  wx_bd0 (wx_bd (k.mono fun c e h => by rw [if_pos h.1]; exact h.2))
theorem wx_rsC {c : Nat} {m : Str} {rest : List St} (k : E ⟨c, none⟩ env) : Wx (exs cl gl pr (.rsC c m :: rest) env) E := k
theorem wx_rsW {e : Ex} {rest : List St} (k : Wr (ev cl gl e env) fun r e1 => ∃ x, fz r = .str x ∧ x.length ≤ 1000000 ∧ E ⟨3, some x⟩ e1) : Wx (exs cl gl pr (.rsW e :: rest) env) E :=
  wx_bd0 (wx_bd (w_pv (k.mono fun r e1 ⟨x, h1, h2, h3⟩ => by rw [h1]; simp only [if_pos h2]; exact h3)))
theorem wx_for {tg : Tg} {it : It} {b rest : List St} (hd : dvar it env = none) (k : Wr (evi cl gl it env) fun xs e => Wx (forLoop (putT pr tg) (exs cl gl pr b) xs e) E) : Wx (exs cl gl pr (.fors tg it b :: rest) env) E :=
  wx_bd0 (by
    unfold ex
    rw [hd]
    exact wx_bd k)
theorem wx_loop {put : Val → Env → Option Env} {body : Env → R Fl} {xs : List Val} {j : Nat} (I : Nat → Env → Prop) (hj : j < xs.length) (h0 : I 0 env) (hs : ∀ i x e, i < j → xs[i]? = some x → I i e → Wp (put x e) fun e1 => Wr (body e1) (Tn (I (i + 1)) fun _ _ => False))
    (hx : ∀ x e, xs[j]? = some x → I j e → Wp (put x e) fun e1 => Wx (body e1) E) : Wx (forLoop put body xs env) E := by
  have go : ∀ (n i : Nat) (e : Env), i + n = j → I i e → Wx (forLoop put body (xs.drop i) e) E := by
    intro n
    induction n with
    | zero =>
      intro i e hi h
      have : i = j := by omega
      subst this
      rw [List.drop_eq_getElem_cons hj]
      have t := hx xs[i] e (List.getElem?_eq_getElem hj) h
      unfold forLoop
      cases z : put xs[i] e with
      | none => rw [z] at t; exact t.elim
      | some e1 => rw [z] at t; exact wx_bd0 t
    | succ n ih =>
      intro i e hi h
      have lt : i < xs.length := by omega
      rw [List.drop_eq_getElem_cons lt]
      have t := hs i xs[i] e (by omega) (List.getElem?_eq_getElem lt) h
      unfold forLoop
      cases z : put xs[i] e with
      | none => rw [z] at t; exact t.elim
      | some e1 =>
        rw [z] at t
        have t : Wr (body e1) (Tn (I (i + 1)) fun _ _ => False) := t
        refine wx_bd (t.mono fun f e2 h2 => ?_)
        cases f with
        | nx => exact ih (i + 1) e2 (by omega) h2
        | ct => exact ih (i + 1) e2 (by omega) h2
        | bk => exact h2.elim
        | rt r => exact h2.elim
  simpa using go j 0 env (by omega) h0
theorem w_tryX {b rest : List St} {i j : Nat} {Q : Fl → Env → Prop} (k : Wx (exs cl gl pr b env) fun x e => x.cls < 8 ∧ pr.getD i false = false ∧ pr.getD j false = false ∧ Wr (exs cl gl pr rest (ss (ss e j (some (.p (.er x.cls x.word)))) i none)) Q) : Wr (exs cl gl pr (.tryS b i j :: rest) env) Q :=
  w_cons (by
    unfold ex
    cases z : exs cl gl pr b env with
    | ok f e => rw [z] at k; exact k.elim
    | no => rw [z] at k; exact k.elim
    | exc x e =>
      rw [z] at k
      obtain ⟨h1, h2, h3, h4⟩ := k
      simp only [h1, h2, h3, decide_true, Bool.not_false, Bool.and_self, if_true]
      exact h4)
theorem w_tryO {b rest : List St} {i j : Nat} {Q : Fl → Env → Prop} (k : Wr (exs cl gl pr b env) (Th cl gl pr rest Q)) : Wr (exs cl gl pr (.tryS b i j :: rest) env) Q :=
  w_cons (by
    unfold ex
    cases z : exs cl gl pr b env with
    | ok f e => rw [z] at k; exact k
    | no => rw [z] at k; exact k.elim
    | exc x e => rw [z] at k; exact k.elim)
end
end EN

/-! EnY: more rules of reading. -/
namespace EN
open PySem L2
theorem sizeLine_ge {n : Nat} (h : n ≤ 1000000) : n ≤ sizeLine := Nat.le_trans h (by decide)
theorem size_lt {n : Nat} (h : n ≤ 1000000) : n < sizeLine := Nat.lt_of_le_of_lt h (by decide)
theorem log_lt {j : Int} {n : Nat} (h1 : -(2 ^ n : Int) < j) (h2 : j < 2 ^ n) (hn : n ≤ 9000) (hn0 : 0 < n) : j.natAbs.log2 < 9000 := by
  by_cases z : j.natAbs = 0
  · rw [z]; decide
  · have e : (((2 : Nat) ^ n : Nat) : Int) = (2 : Int) ^ n := by push_cast; rfl
    have : j.natAbs < 2 ^ n := by
      rw [← e] at h1 h2
      omega
    have := (Nat.log2_lt z).mpr this
    omega
theorem log_pow {n : Nat} (h : n < 9000) : ((2 : Int) ^ n).natAbs.log2 < 9000 := by
  have e : ((2 : Int) ^ n).natAbs = 2 ^ n := by
    rw [Int.natAbs_pow]; rfl
  rw [e, Nat.log2_two_pow]; exact h
theorem log_small {j : Int} (h1 : 0 < j) (h2 : j < 18446744073709551616) : j.natAbs.log2 < 9000 := by
  have : j.natAbs < 2 ^ 64 := by omega
  have := (Nat.log2_lt (n := j.natAbs) (k := 64) (by omega)).mpr this
  omega
theorem pow_pos (n : Nat) : (0 : Int) < 2 ^ n := Int.pow_pos (by decide)
theorem pow_le2 {a b : Nat} (h : a ≤ b) : (2 : Int) ^ a ≤ 2 ^ b := by
  have e : ∀ n : Nat, (((2 : Nat) ^ n : Nat) : Int) = (2 : Int) ^ n := fun n => by push_cast; rfl
  rw [← e, ← e]
  exact Int.ofNat_le.mpr (Nat.pow_le_pow_right (by decide) h)
theorem mul_bd {i j a b : Int} (h1 : 0 ≤ i) (h2 : i < a) (h3 : 0 ≤ j) (h4 : j < b) : i * j < a * b :=
  Int.lt_of_le_of_lt (Int.mul_le_mul_of_nonneg_left (Int.le_of_lt h4) h1) (Int.mul_lt_mul_of_pos_right h2 (Int.lt_of_le_of_lt h3 h4))
section
variable {i : Nat} {v : Val} {x : Option OV} {as : List Arg} {o r : OV} {os : List OV} {rs env : Env} {xs ys : List Val} {zs : List OV}
theorem back_e : back [] [] [] env = env := rfl
theorem back_v : back (.v r :: as) (o :: os) (x :: rs) env = back as os rs env := rfl
theorem back_mp : back (.mv i :: as) (.p v :: os) (x :: rs) env = back as os rs env := rfl
theorem back_ml : back (.mv i :: as) (.l xs :: os) (x :: rs) env = back as os rs (ss env i x) := rfl
theorem back_md : back (.mv i :: as) (.d xs ys :: os) (x :: rs) env = back as os rs (ss env i x) := rfl
theorem back_mn : back (.mv i :: as) (.nd zs :: os) (x :: rs) env = back as os rs (ss env i x) := rfl
theorem mask_e : mask [] env = [] := rfl
theorem mask_p : mask (.p v :: os) (x :: env) = none :: mask os env := rfl
theorem mask_l : mask (.l xs :: os) (x :: env) = x :: mask os env := rfl
theorem mask_d : mask (.d xs ys :: os) (x :: env) = x :: mask os env := rfl
theorem mask_n : mask (.nd zs :: os) (x :: env) = x :: mask os env := rfl
end
theorem half_bit {d f : Int} (h0 : 0 ≤ d) (h1 : d < f) : 2 * d / f = b2z (decide (f ≤ 2 * d)) := by
  have hf : 0 < f := by omega
  by_cases h : f ≤ 2 * d
  · rw [decide_eq_true h]
    show _ = (1 : Int)
    have a : 1 ≤ 2 * d / f := (Int.le_ediv_iff_mul_le hf).mpr (by omega)
    have b : 2 * d / f < 2 := (Int.ediv_lt_iff_lt_mul hf).mpr (by omega)
    omega
  · rw [decide_eq_false h]
    show _ = (0 : Int)
    exact Int.ediv_eq_zero_of_lt (by omega) (by omega)
theorem mul_r {i j : Int} (h1 : -18446744073709551616 < j) (h2 : j < 18446744073709551616) : mulOk i j := .inl (.inr ⟨by simpa using h1, by simpa using h2⟩)
theorem mul_l {i j : Int} (h1 : -18446744073709551616 < i) (h2 : i < 18446744073709551616) : mulOk i j := .inl (.inl ⟨by simpa using h1, by simpa using h2⟩)
theorem log_le {i : Int} {a : Nat} (h1 : -(2 ^ a : Int) < i) (h2 : i < 2 ^ a) : i.natAbs.log2 ≤ a := by
  by_cases z : i.natAbs = 0
  · rw [z]; exact Nat.zero_le _
  · have e : (((2 : Nat) ^ a : Nat) : Int) = (2 : Int) ^ a := by push_cast; rfl
    have : i.natAbs < 2 ^ a := by
      rw [← e] at h1 h2
      omega
    have := (Nat.log2_lt z).mpr this
    omega
theorem mul_big {i j : Int} (a b : Nat) (h1 : -(2 ^ a : Int) < i) (h2 : i < 2 ^ a) (h3 : -(2 ^ b : Int) < j) (h4 : j < 2 ^ b) (h : a + b < 1000000) : mulOk i j :=
  .inr (Nat.lt_of_le_of_lt (Nat.add_le_add (log_le h1 h2) (log_le h3 h4)) h)
theorem rng_ok {i : Int} (h1 : -4611686018427387904 ≤ i) (h2 : i < 4611686018427387904) : rngOk i := ⟨by simpa using h1, by simpa using h2⟩
theorem wp_addI {i j : Int} {Q : OV → Prop} (k : Q (.p (.int (i + j)))) : Wp (bin .add (.int i) (.int j)) Q := k
theorem wp_subI {i j : Int} {Q : OV → Prop} (k : Q (.p (.int (i - j)))) : Wp (bin .sub (.int i) (.int j)) Q := k
theorem w_lit {cl : Nat → List OV → CR} {gl : Nat → Option Val} {env : Env} {n : Nat} {Q : OV → Env → Prop} (k : Q (.p (.int (OfNat.ofNat n))) env) : Wr (ev cl gl (.int (OfNat.ofNat n)) env) Q := k
/-! places -/
theorem ixN_in {n : Nat} {i : Int} (h0 : 0 ≤ i) (h1 : i < n) : ixN n i = some i.toNat := by
  unfold ixN
  rw [if_pos h0, if_pos h1]
theorem atI_in {α : Type} {xs : List α} {i : Int} (h0 : 0 ≤ i) (h1 : i < xs.length) : atI xs i = xs[i.toNat]? := by
  unfold atI
  rw [ixN_in h0 h1]; rfl
theorem wp_atI {xs : List Val} {i : Int} {Q : Val → Prop} (h0 : 0 ≤ i) (h1 : i < xs.length) (k : ∀ v, xs[i.toNat]? = some v → Q v) : Wp (atI xs i) Q := by
  rw [atI_in h0 h1]
  have lt : i.toNat < xs.length := by omega
  rw [List.getElem?_eq_getElem lt]
  exact k _ (List.getElem?_eq_getElem lt)
theorem wp_atM {xs : List Int} {i : Int} {Q : Val → Prop} (h0 : 0 ≤ i) (h1 : i < ((xs.map Val.int).length : Int)) (k : ∀ c, xs[i.toNat]? = some c → Q (.int c)) : Wp (atI (xs.map Val.int) i) Q :=
  wp_atI h0 h1 fun v hv => by
    rw [List.getElem?_map] at hv
    cases z : xs[i.toNat]? with
    | none => rw [z] at hv; cases hv
    | some c => rw [z] at hv; cases hv; exact k c z
theorem setL_in {xs : List Val} {i : Int} {v : Val} (h0 : 0 ≤ i) (h1 : i < xs.length) : setL xs (.int i) v = some (xs.set i.toNat v) := by
  unfold setL
  simp only [ixN_in h0 h1]
  rfl
theorem setM_in {xs : List Int} {i c : Int} (h0 : 0 ≤ i) (h1 : i < ((xs.map Val.int).length : Int)) : setL (xs.map Val.int) (.int i) (.int c) = some ((xs.set i.toNat c).map Val.int) := by
  rw [setL_in h0 h1, List.map_set]
theorem asInts_map : ∀ xs : List Int, asInts (xs.map Val.int) = some xs
  | [] => rfl
  | x :: xs => by simp [asInts, asInts_map xs]
theorem bopC_go {P R : Prop} {x : Val} {ia : Bool} (h : x = .bl ia) (k : P) : ∃ b, x = .bl b ∧ (b = ia → P) ∧ (b = !ia → R) := ⟨ia, h, ⟨fun _ => k, fun e => by cases ia <;> cases e⟩⟩
theorem bopC_stop {P R : Prop} {x : Val} {ia : Bool} (h : x = .bl (!ia)) (k : R) : ∃ b, x = .bl b ∧ (b = ia → P) ∧ (b = !ia → R) := ⟨!ia, h, ⟨fun e => (by cases ia <;> cases e), fun _ => k⟩⟩
theorem bop_end {P : Bool → Prop} {x : Val} {b : Bool} (h : x = .bl b) (k : P b) : ∃ b, x = .bl b ∧ P b := ⟨b, h, k⟩
theorem size_and {n : Nat} {P : Prop} (h : Nat.ble n 1000000 = true) (k : P) : n ≤ sizeLine ∧ P := ⟨sizeLine_ge (Nat.le_of_ble_eq_true h), k⟩
theorem wp_rd {env : Env} {o : Od} {v : Val} {Q : Val → Prop} (h : rd env o = some v) (k : Q v) : Wp (rd env o) Q := Wp.of h k
theorem wp_rds {env : Env} {o : List Od} {v : List Val} {Q : List Val → Prop} (h : rds env o = some v) (k : Q v) : Wp (rds env o) Q := Wp.of h k
theorem wp_cmp {o : Cop} {a b : Val} {v : Bool} {Q : Bool → Prop} (h : cmp o a b = some v) (k : Q v) : Wp (cmp o a b) Q := Wp.of h k
theorem wp_truthy {a : Val} {v : Bool} {Q : Bool → Prop} (h : truthy a = some v) (k : Q v) : Wp (truthy a) Q := Wp.of h k
theorem wp_asInt {a : Val} {v : Int} {Q : Int → Prop} (h : asInt a = some v) (k : Q v) : Wp (asInt a) Q := Wp.of h k
theorem wp_items {a : Val} {v : List Val} {Q : List Val → Prop} (h : items a = some v) (k : Q v) : Wp (items a) Q := Wp.of h k
theorem wp_isi {t : Ty} {a : Val} {v : Bool} {Q : Bool → Prop} (h : isi t a = some v) (k : Q v) : Wp (isi t a) Q := Wp.of h k
theorem wp_vslc {a : Val} {l h : Option Int} {v : OV} {Q : OV → Prop} (e : vslc a l h = some v) (k : Q v) : Wp (vslc a l h) Q := Wp.of e k
theorem wp_vrev {a : Val} {v : OV} {Q : OV → Prop} (e : vrev a = some v) (k : Q v) : Wp (vrev a) Q := Wp.of e k
theorem wp_take {as : List Arg} {env : Env} {v : List OV × Env} {Q : List OV × Env → Prop} (e : take as env = some v) (k : Q v) : Wp (take as env) Q := Wp.of e k
theorem wp_put {pr : List Bool} {tg : Tg} {x : Val} {env v : Env} {Q : Env → Prop} (e : putT pr tg x env = some v) (k : Q v) : Wp (putT pr tg x env) Q := Wp.of e k
theorem wp_andI {i j : Int} {Q : OV → Prop} (k : Q (.p (.int (Builtin.bitAnd i j)))) : Wp (bin .and (.int i) (.int j)) Q := k
theorem wp_orI {i j : Int} {Q : OV → Prop} (k : Q (.p (.int (Builtin.bitOr i j)))) : Wp (bin .or (.int i) (.int j)) Q := k
theorem wp_xorI {i j : Int} {Q : OV → Prop} (k : Q (.p (.int (Builtin.bitXor i j)))) : Wp (bin .xor (.int i) (.int j)) Q := k
theorem wp_vixL {xs : List Val} {i : Int} {Q : Val → Prop} (k : Wp (atI xs i) Q) : Wp (vix (.lst xs) (.int i)) Q := k
theorem wp_vixT {xs : List Val} {i : Int} {Q : Val → Prop} (k : Wp (atI xs i) Q) : Wp (vix (.tup xs) (.int i)) Q := k
theorem wp_vixS {xs : List Val} {i : Int} {Q : Val → Prop} (k : Wp (atI xs i) Q) : Wp (vix (.scr xs) (.int i)) Q := k
theorem wp_at_nat {xs : List Val} {n : Nat} {v : Val} {Q : Val → Prop} (h : xs[n]? = some v) (k : Q v) : Wp (atI xs (n : Int)) Q := by
  have lt := (List.getElem?_eq_some_iff.mp h).1
  refine Wp.of ?_ k
  rw [atI_in (by omega) (by omega)]
  simpa using h
theorem wp_len {a : Val} {v : OV} {Q : OV → Prop} (e : bi .len [a] = some v) (k : Q v) : Wp (bi .len [a]) Q := Wp.of e k
theorem wp_int {a : Val} {v : OV} {Q : OV → Prop} (e : bi .int [a] = some v) (k : Q v) : Wp (bi .int [a]) Q := Wp.of e k
theorem wp_tuple {a : Val} {v : OV} {Q : OV → Prop} (e : bi .tuple [a] = some v) (k : Q v) : Wp (bi .tuple [a]) Q := Wp.of e k
theorem wp_list {a : Val} {v : OV} {Q : OV → Prop} (e : bi .list [a] = some v) (k : Q v) : Wp (bi .list [a]) Q := Wp.of e k
theorem wp_abs {a : Val} {v : OV} {Q : OV → Prop} (e : bi .abs [a] = some v) (k : Q v) : Wp (bi .abs [a]) Q := Wp.of e k
theorem wp_min {a b : Val} {v : OV} {Q : OV → Prop} (e : bi .min [a, b] = some v) (k : Q v) : Wp (bi .min [a, b]) Q := Wp.of e k
theorem wp_max {a b : Val} {v : OV} {Q : OV → Prop} (e : bi .max [a, b] = some v) (k : Q v) : Wp (bi .max [a, b]) Q := Wp.of e k
theorem wp_setix {i : Nat} {e2 : Env} {y r : OV} {Q : OV → Prop} {ys : List OV} {n : Nat} {v : Val} {zs : List OV} (h : gs e2 i = some (.nd ys)) (h2 : fz y = .int n) (h3 : fz r = v) (h4 : setN ys (.int n) v = some zs) (k : Q (.nd zs)) : Wp (six (gs e2 i) y r) Q := by
  unfold six
  rw [h, h2, h3]
  exact Wp.of (congrArg (Option.map OV.nd) h4) k
theorem wp_setixL {i : Nat} {e2 : Env} {y r : OV} {Q : OV → Prop} {ys : List Val} (h : gs e2 i = some (.l ys)) (k : Wp ((setL ys (fz y) (fz r)).map OV.l) Q) : Wp (six (gs e2 i) y r) Q := by
  unfold six
  rw [h]; exact k
theorem tn_nx {I : Env → Prop} {Q : Fl → Env → Prop} {e : Env} (k : I e) : Tn I Q .nx e := k
theorem tn_ct {I : Env → Prop} {Q : Fl → Env → Prop} {e : Env} (k : I e) : Tn I Q .ct e := k
theorem tn_bk {I : Env → Prop} {Q : Fl → Env → Prop} {e : Env} (k : Q .nx e) : Tn I Q .bk e := k
theorem tn_rt {I : Env → Prop} {Q : Fl → Env → Prop} {e : Env} {r : OV} (k : Q (.rt r) e) : Tn I Q (.rt r) e := k
theorem w_t0 {cl : Nat → List OV → CR} {gl : Nat → Option Val} {env : Env} {Q : Bool → Env → Prop} (k : Q true env) : Wr (evt? cl gl none env) Q := k
theorem w_t1 {cl : Nat → List OV → CR} {gl : Nat → Option Val} {env : Env} {e : Ex} {Q : Bool → Env → Prop} (k : Wr (tst e (ev cl gl e) env) Q) : Wr (evt? cl gl (some e) env) Q := k
theorem mem_get {α : Type} {xs : List α} {i : Nat} {x : α} (h : xs[i]? = some x) : x ∈ xs := List.mem_iff_getElem?.mpr ⟨i, h⟩
theorem map_get {α : Type} {f : α → Val} {xs : List α} {i : Nat} {x : Val} (h : (xs.map f)[i]? = some x) : ∃ y, xs[i]? = some y ∧ x = f y := by
  rw [List.getElem?_map] at h
  cases z : xs[i]? with
  | none => rw [z] at h; cases h
  | some y => rw [z] at h; cases h; exact ⟨y, rfl, rfl⟩
theorem w_mid {cl : Nat → List OV → CR} {gl : Nat → Option Val} {pr : List Bool} {env : Env} {a rest : List St} {Q : Fl → Env → Prop} (M : Env → Prop) (h : Wr (exs cl gl pr a env) fun f e => f = .nx ∧ M e) (k : ∀ e, M e → Wr (exs cl gl pr rest e) Q) : Wr (exs cl gl pr a env) (Th cl gl pr rest Q) :=
  h.mono fun f e ⟨h1, h2⟩ => by subst h1; exact k e h2
theorem wc_id {x : CR} {Q : OV → Env → Prop} (k : Wc x Q) : Wc x Q := k
theorem some_and {env : Env} {i : Nat} {P : Prop} (h : (gs env i).isSome = true) (k : P) : (gs env i).isSome = true ∧ P := ⟨h, k⟩
theorem rng_and {i : Int} {P : Prop} (h1 : -4611686018427387904 ≤ i) (h2 : i < 4611686018427387904) (k : P) : rngOk i ∧ P := ⟨rng_ok h1 h2, k⟩
theorem rng_and2 {i j : Int} {P : Prop} (h1 : -4611686018427387904 ≤ i) (h2 : i < 4611686018427387904) (h3 : -4611686018427387904 ≤ j) (h4 : j < 4611686018427387904) (k : P) : (rngOk i ∧ rngOk j) ∧ P := ⟨⟨rng_ok h1 h2, rng_ok h3 h4⟩, k⟩
theorem cut_ints (ns : List Int) (lo hi : Option Int) : ∃ ys : List Int, cutL (ns.map Val.int) lo hi = ys.map Val.int ∧ ys.length ≤ ns.length := by
  refine ⟨(ns.drop (HT.sIx ns.length 0 lo)).take (HT.sIx ns.length ns.length hi - HT.sIx ns.length 0 lo), ?_, ?_⟩
  · unfold cutL
    rw [List.length_map, List.map_take, List.map_drop]
  · rw [List.length_take, List.length_drop]; omega
theorem wp_setM {xs : List Int} {i c : Int} {Q : OV → Prop} (h0 : 0 ≤ i) (h1 : i < ((xs.map Val.int).length : Int)) (k : Q (.l ((xs.set i.toNat c).map Val.int))) : Wp ((setL (xs.map Val.int) (.int i) (.int c)).map OV.l) Q := by
  rw [setM_in h0 h1]; exact k
theorem if_tt {P : Bool → Prop} {A B : Prop} {c : Bool} (h1 : c = true → A) (h2 : c = false → B) : (c = true → A) ∧ (c = false → B) := ⟨h1, h2⟩
theorem if_t {A B : Prop} (h1 : A) : (true = true → A) ∧ (true = false → B) := ⟨fun _ => h1, fun h => (nomatch h)⟩
theorem if_f {A B : Prop} (h1 : B) : (false = true → A) ∧ (false = false → B) := ⟨fun h => (nomatch h), fun _ => h1⟩
theorem if_nt {A B : Prop} (h1 : B) : ((!true) = true → A) ∧ ((!true) = false → B) := ⟨fun h => (nomatch h), fun _ => h1⟩
theorem if_nf {A B : Prop} (h1 : A) : ((!false) = true → A) ∧ ((!false) = false → B) := ⟨fun _ => h1, fun h => (nomatch h)⟩
theorem if_ct {A B : Prop} {c : Bool} (h : c = true) (k : A) : (c = true → A) ∧ (c = false → B) := ⟨fun _ => k, fun e => (by rw [h] at e; cases e)⟩
theorem if_cf {A B : Prop} {c : Bool} (h : c = false) (k : B) : (c = true → A) ∧ (c = false → B) := ⟨fun e => (by rw [h] at e; cases e), fun _ => k⟩
theorem if_dec {p : Prop} [Decidable p] {A B : Prop} (h1 : p → A) (h2 : ¬ p → B) : (decide p = true → A) ∧ (decide p = false → B) := ⟨fun h => h1 (of_decide_eq_true h), fun h => h2 (of_decide_eq_false h)⟩
theorem if_ndec {p : Prop} [Decidable p] {A B : Prop} (h1 : ¬ p → A) (h2 : p → B) : ((!decide p) = true → A) ∧ ((!decide p) = false → B) := ⟨fun h => h1 (by simpa using h), fun h => h2 (by simpa using h)⟩
end EN

/-! EnZ: plain facts: rows of whole numbers, digits. -/
namespace EN
open PySem L2
/-! ### rows of whole numbers compared -/
theorem pds_ints : ∀ xs : List Int, pds (xs.map Val.int) = some (xs.map PyData.int)
  | [] => rfl
  | x :: xs => by
    show (match pd (.int x), pds (xs.map Val.int) with
      | some d, some ds => some (d :: ds)
      | _, _ => none) = _
    rw [pds_ints xs]; rfl
theorem lay_ints : ∀ xs : List Int, PyData.canLayAll0 (xs.map PyData.int) = true
  | [] => rfl
  | x :: xs => by
    show (PyData.canLay0 (.int x) && PyData.canLayAll0 (xs.map PyData.int)) = true
    rw [lay_ints xs]; rfl
theorem depth_ints : ∀ xs : List Int, PyData.depthAll (xs.map PyData.int) = 0
  | [] => rfl
  | x :: xs => by
    show max (PyData.depth (.int x)) (PyData.depthAll (xs.map PyData.int)) = 0
    rw [depth_ints xs]; rfl
theorem eqv_ints : ∀ xs ys : List Int, PyData.eqvAll (xs.map PyData.int) (ys.map PyData.int) = decide (xs = ys)
  | [], [] => rfl
  | [], y :: ys => by simp [PyData.eqvAll]
  | x :: xs, [] => by simp [PyData.eqvAll]
  | x :: xs, y :: ys => by
    show (PyData.eqv (.int x) (.int y) && PyData.eqvAll (xs.map PyData.int) (ys.map PyData.int)) = _
    rw [eqv_ints xs ys]
    show ((x == y) && decide (xs = ys)) = _
    by_cases h : x = y
    · by_cases h2 : xs = ys
      · simp [h, h2]
      · simp [h, h2]
    · simp [h]
theorem shaped_tup (xs : List Int) : SeqAt.shaped (.tuple (xs.map PyData.int)) = true := by
  unfold SeqAt.shaped
  have h1 : PyData.canLay0 (.tuple (xs.map PyData.int)) = true := lay_ints xs
  have h2 : PyData.depth (.tuple (xs.map PyData.int)) = 1 := by
    show PyData.depthAll (xs.map PyData.int) + 1 = 1
    rw [depth_ints]
  rw [h1, h2]; rfl
theorem shaped_lst (xs : List Int) : SeqAt.shaped (.list (xs.map PyData.int)) = true := by
  unfold SeqAt.shaped
  have h1 : PyData.canLay0 (.list (xs.map PyData.int)) = true := lay_ints xs
  have h2 : PyData.depth (.list (xs.map PyData.int)) = 1 := by
    show PyData.depthAll (xs.map PyData.int) + 1 = 1
    rw [depth_ints]
  rw [h1, h2]; rfl
theorem veq_tupI (xs ys : List Int) : veq (.tup (xs.map Val.int)) (.tup (ys.map Val.int)) = some (decide (xs = ys)) := by
  have e : ∀ zs : List Int, pd (.tup (zs.map Val.int)) = some (.tuple (zs.map PyData.int)) := fun zs => by
    show (pds (zs.map Val.int)).map PyData.tuple = _
    rw [pds_ints]; rfl
  unfold veq
  simp only [e, shaped_tup, Bool.and_self, if_true]
  exact congrArg some (eqv_ints xs ys)
theorem veq_lstI (xs ys : List Int) : veq (.lst (xs.map Val.int)) (.lst (ys.map Val.int)) = some (decide (xs = ys)) := by
  have e : ∀ zs : List Int, pd (.lst (zs.map Val.int)) = some (.list (zs.map PyData.int)) := fun zs => by
    show (pds (zs.map Val.int)).map PyData.list = _
    rw [pds_ints]; rfl
  unfold veq
  simp only [e, shaped_lst, Bool.and_self, if_true]
  exact congrArg some (eqv_ints xs ys)
theorem wp_eqT {xs ys : List Int} {Q : Bool → Prop} (k : Q (decide (xs = ys))) : Wp (cmp .eq (.tup (xs.map Val.int)) (.tup (ys.map Val.int))) Q := Wp.of (veq_tupI xs ys) k
theorem wp_neT {xs ys : List Int} {Q : Bool → Prop} (k : Q (!decide (xs = ys))) : Wp (cmp .ne (.tup (xs.map Val.int)) (.tup (ys.map Val.int))) Q :=
  Wp.of (show (veq (.tup (xs.map Val.int)) (.tup (ys.map Val.int))).map (!·) = some (!decide (xs = ys)) by rw [veq_tupI]; rfl) k
theorem wp_neF {a b : Int} {Q : Bool → Prop} (h : a = b) (k : Q false) : Wp (cmp .ne (.int a) (.int b)) Q :=
  Wp.of (show (some (decide (a = b))).map (!·) = some false by rw [decide_eq_true h]; rfl) k
theorem wp_eqY {a b : Int} {Q : Bool → Prop} (h : a = b) (k : Q true) : Wp (cmp .eq (.int a) (.int b)) Q :=
  Wp.of (show some (decide (a = b)) = some true by rw [decide_eq_true h]) k
theorem wp_neTF {xs ys : List Int} {Q : Bool → Prop} (h : xs = ys) (k : Q false) : Wp (cmp .ne (.tup (xs.map Val.int)) (.tup (ys.map Val.int))) Q :=
  wp_neT (by rw [decide_eq_true h]; exact k)
theorem wp_eqTY {xs ys : List Int} {Q : Bool → Prop} (h : xs = ys) (k : Q true) : Wp (cmp .eq (.tup (xs.map Val.int)) (.tup (ys.map Val.int))) Q :=
  wp_eqT (by rw [decide_eq_true h]; exact k)
/-! ### texts -/
theorem wp_atS {xs : List Str} {i : Int} {Q : Val → Prop} (h0 : 0 ≤ i) (h1 : i < xs.length) (k : ∀ s, s ∈ xs → Q (.str s)) : Wp (atI (xs.map Val.str) i) Q :=
  wp_atI h0 (by simpa using h1) fun v hv => by
    obtain ⟨s, hs, rfl⟩ := map_get hv
    exact k s (mem_get hs)
theorem str_ix {x : Str} {i : Int} {Q : Val → Prop} (hz : x.length ≤ 1000000) (h0 : 0 ≤ i) (h1 : i < x.length) (k : ∀ c : Str, c.length = 1 → Q (.str c)) : Wp (vix (.str x) (.int i)) Q := by
  have e : vix (.str x) (.int i) = (atI x.cps.toList i).map fun c => .str ⟨#[c]⟩ := by
    show (if x.length ≤ sizeLine then _ else none) = _
    rw [if_pos (sizeLine_ge hz)]
  rw [e]
  have h1 : i < x.cps.toList.length := by simpa [Str.length] using h1
  rw [atI_in h0 h1]
  have lt : i.toNat < x.cps.toList.length := by omega
  rw [List.getElem?_eq_getElem lt]
  exact k _ rfl
theorem str_cut {x : Str} {lo hi : Option Int} {Q : OV → Prop} (hz : x.length ≤ 1000000) (k : ∀ c : Str, c.length ≤ x.length → Q (.p (.str c))) : Wp (vslc (.str x) lo hi) Q := by
  have e : vslc (.str x) lo hi = some (.p (.str (cutS x lo hi))) := by
    show (if x.length ≤ sizeLine then _ else none) = _
    rw [if_pos (sizeLine_ge hz)]
  rw [e]
  exact k _ (cutS_length _ _ _)
theorem str_len {x : Str} {Q : OV → Prop} (hz : x.length ≤ 1000000) (k : Q (.p (.int x.length))) : Wp (bi .len [.str x]) Q := by
  have e : bi .len [.str x] = some (.p (.int x.length)) := by
    show (if x.length ≤ sizeLine then _ else none) = _
    rw [if_pos (sizeLine_ge hz)]
  rw [e]; exact k
theorem str_add {x y : Str} {Q : OV → Prop} (hx : x.length ≤ 1000000) (hy : y.length ≤ 1000000) (k : ∀ c : Str, c.length = x.length + y.length → Q (.p (.str c))) : Wp (bin .add (.str x) (.str y)) Q := by
  refine wp_catS (Nat.le_trans (Nat.add_le_add hx hy) (by decide)) (k _ ?_)
  show (x ++ y).cps.size = _
  exact Array.size_append
theorem asStrs_map : ∀ xs : List Str, asStrs (xs.map Val.str) = some xs
  | [] => rfl
  | x :: xs => by simp [asStrs, asStrs_map xs]
theorem join_one {ys : List Str} {Q : OV → Prop} (h : ∀ y ∈ ys, y.length = 1) (hl : ys.length ≤ 1000000) (k : ∀ c : Str, c.length = ys.length → Q (.p (.str c))) : Wp (vjn (Str.ofString "") (.lst (ys.map Val.str))) Q := by
  have hs : (ys.map (·.length)).sum = ys.length := by
    clear hl k
    induction ys with
    | nil => rfl
    | cons y ys ih =>
      have h1 := h y List.mem_cons_self
      have h2 := ih fun z hz => h z (List.mem_cons_of_mem _ hz)
      simp only [List.map_cons, List.sum_cons, List.length_cons, h1, h2]; omega
  have e : vjn (Str.ofString "") (.lst (ys.map Val.str)) = some (.p (.str (Txt.join (Str.ofString "") ys))) := by
    show (match asStrs (ys.map Val.str) with
      | some ys => if joinOk (Str.ofString "") ys then some (OV.p (.str (Txt.join (Str.ofString "") ys))) else none
      | none => none) = _
    rw [asStrs_map]
    have : joinOk (Str.ofString "") ys := by
      show (ys.map (·.length)).sum + ys.length * (Str.ofString "").length ≤ 16777216
      have : (Str.ofString "").length = 0 := by decide
      rw [hs, this]; omega
    simp only [if_pos this]
  rw [e]
  exact k _ (PySem.W.KT.join_ones _ h)
theorem sort_strs {ss : List Str} {Q : OV → Prop} (h : ss.length < 64) (k : Q (.l ((ssort ss).map Val.str))) : Wp (bi .sorted [.lst (ss.map Val.str)]) Q := by
  cases ss with
  | nil => exact k
  | cons s ss =>
    have e : bi .sorted [.lst ((s :: ss).map Val.str)] = some (.l ((ssort (s :: ss)).map Val.str)) := by
      show (if ((s :: ss).map Val.str).length < 64 then vsort ((s :: ss).map Val.str) else none) = _
      rw [if_pos (by simpa using h)]
      show (match asStrs ((s :: ss).map Val.str) with
        | some ss => some (OV.l ((ssort ss).map .str))
        | none => (asBls ((s :: ss).map Val.str)).map fun bs => .l ((bsort bs).map .bl)) = _
      rw [asStrs_map]
    rw [e]; exact k
theorem cut_len (xs : List Val) (lo hi : Option Int) : (cutL xs lo hi).length ≤ xs.length := by
  unfold cutL
  rw [List.length_take, List.length_drop]; omega
theorem cut_map {α : Type} (f : α → Val) (xs : List α) (lo hi : Option Int) : ∃ ys : List α, cutL (xs.map f) lo hi = ys.map f ∧ ys.length ≤ xs.length ∧ ∀ y ∈ ys, y ∈ xs := by
  refine ⟨(xs.drop (HT.sIx xs.length 0 lo)).take (HT.sIx xs.length xs.length hi - HT.sIx xs.length 0 lo), ?_, ?_, fun y hy => ?_⟩
  · unfold cutL
    rw [List.length_map, List.map_take, List.map_drop]
  · rw [List.length_take, List.length_drop]; omega
  · exact List.mem_of_mem_drop (List.mem_of_mem_take hy)
theorem wp_atG {α : Type} {f : α → Val} {xs : List α} {i : Int} {Q : Val → Prop} (h0 : 0 ≤ i) (h1 : i < xs.length) (k : ∀ y, xs[i.toNat]? = some y → Q (f y)) : Wp (atI (xs.map f) i) Q :=
  wp_atI h0 (by simpa using h1) fun v hv => by
    obtain ⟨s, hs, rfl⟩ := map_get hv
    exact k s hs
theorem wp_atV {xs : List Val} {i : Int} {Q : Val → Prop} (h0 : 0 ≤ i) (h1 : i < xs.length) (k : ∀ y, xs[i.toNat]? = some y → Q y) : Wp (atI xs i) Q := wp_atI h0 h1 k
theorem wp_neB {a b : Bool} {Q : Bool → Prop} (h : a = b) (k : Q false) : Wp (cmp .ne (.bl a) (.bl b)) Q :=
  Wp.of (show (some (decide (a = b))).map (!·) = some false by rw [decide_eq_true h]; rfl) k
theorem cut_mid (xs : List Val) {lo hi : Int} (h0 : 0 ≤ lo) (h1 : lo ≤ hi) (h2 : hi ≤ xs.length) : cutL xs (some lo) (some hi) = (xs.drop lo.toNat).take (hi.toNat - lo.toNat) := by
  unfold cutL
  have e1 : HT.sIx xs.length 0 (some lo) = lo.toNat := by
    show (if lo < 0 then _ else min lo.toNat xs.length) = _
    rw [if_neg (by omega)]; omega
  have e2 : HT.sIx xs.length xs.length (some hi) = hi.toNat := by
    show (if hi < 0 then _ else min hi.toNat xs.length) = _
    rw [if_neg (by omega)]; omega
  rw [e1, e2]
theorem cut_drop (xs : List Val) {lo : Int} (h0 : 0 ≤ lo) : cutL xs (some lo) none = xs.drop lo.toNat := by
  unfold cutL
  have e1 : HT.sIx xs.length 0 (some lo) = min lo.toNat xs.length := by
    show (if lo < 0 then _ else min lo.toNat xs.length) = _
    rw [if_neg (by omega)]
  have e2 : HT.sIx xs.length xs.length none = xs.length := rfl
  rw [e1, e2]
  rcases Nat.le_total lo.toNat xs.length with h | h
  · rw [Nat.min_eq_left h, List.take_of_length_le (by rw [List.length_drop]; exact Nat.le_refl _)]
  · rw [Nat.min_eq_right h, List.drop_length, List.drop_of_length_le h]; simp
/-! ### digits -/
def bitsI (x : Int) : Nat → List Int
  | 0 => []
  | w + 1 => x % 2 :: bitsI (x / 2) w
def valI : List Int → Int
  | [] => 0
  | b :: bs => b + 2 * valI bs
theorem bits_len : ∀ (w : Nat) (x : Int), (bitsI x w).length = w
  | 0, _ => rfl
  | w + 1, x => by unfold bitsI; simp [bits_len w]
theorem bits_snoc : ∀ (w : Nat) (x : Int), bitsI x (w + 1) = bitsI x w ++ [x / 2 ^ w % 2]
  | 0, x => by simp [bitsI]
  | w + 1, x => by
    show x % 2 :: bitsI (x / 2) (w + 1) = (x % 2 :: bitsI (x / 2) w) ++ _
    rw [bits_snoc w (x / 2), List.cons_append]
    congr 3
    rw [Int.ediv_ediv_of_nonneg (by decide : (0 : Int) ≤ 2), Int.pow_succ, Int.mul_comm]
theorem bit_mod (x : Int) : x % 2 = 0 ∨ x % 2 = 1 := by omega
theorem bits_01 : ∀ (w : Nat) (x b : Int), b ∈ bitsI x w → b = 0 ∨ b = 1
  | 0, x, b, h => by simp [bitsI] at h
  | w + 1, x, b, h => by
    unfold bitsI at h
    rcases List.mem_cons.mp h with rfl | h
    · exact bit_mod x
    · exact bits_01 w _ _ h
theorem mod_two_pow (x : Int) (w : Nat) : x % 2 ^ (w + 1) = x % 2 + 2 * (x / 2 % 2 ^ w) := by
  have h1 := Int.emod_def x (2 ^ (w + 1))
  have h2 := Int.emod_def (x / 2) (2 ^ w)
  have h3 : x / 2 / 2 ^ w = x / 2 ^ (w + 1) := by
    rw [Int.ediv_ediv_of_nonneg (by decide : (0 : Int) ≤ 2), Int.pow_succ, Int.mul_comm]
  rw [h1, h2, h3]
  have h4 : (2 : Int) ^ (w + 1) * (x / 2 ^ (w + 1)) = 2 * (2 ^ w * (x / 2 ^ (w + 1))) := by
    rw [Int.pow_succ, Int.mul_comm (2 ^ w) 2, Int.mul_assoc]
  rw [h4]
  omega
theorem val_bits : ∀ (w : Nat) (x : Int), valI (bitsI x w) = x % 2 ^ w
  | 0, x => by simp [bitsI, valI, Int.emod_one]
  | w + 1, x => by
    show x % 2 + 2 * valI (bitsI (x / 2) w) = _
    rw [val_bits w, mod_two_pow]
theorem bits_val : ∀ (bs : List Int), (∀ b ∈ bs, b = 0 ∨ b = 1) → bitsI (valI bs) bs.length = bs
  | [], _ => rfl
  | b :: bs, h => by
    have hb := h b List.mem_cons_self
    show (b + 2 * valI bs) % 2 :: bitsI ((b + 2 * valI bs) / 2) bs.length = _
    have e1 : (b + 2 * valI bs) % 2 = b := by omega
    have e2 : (b + 2 * valI bs) / 2 = valI bs := by omega
    rw [e1, e2, bits_val bs fun c hc => h c (List.mem_cons_of_mem _ hc)]
theorem bits_mod : ∀ (w : Nat) (x : Int), bitsI (x % 2 ^ w) w = bitsI x w := fun w x => by
  have h := bits_val (bitsI x w) (bits_01 w x)
  rw [val_bits, bits_len] at h
  exact h
theorem bits_congr {x y : Int} {w : Nat} (h : x % 2 ^ w = y % 2 ^ w) : bitsI x w = bitsI y w := by
  rw [← bits_mod w x, h, bits_mod]
theorem val_app (as bs : List Int) : valI (as ++ bs) = valI as + 2 ^ as.length * valI bs := by
  induction as with
  | nil => simp [valI]
  | cons a as ih =>
    show a + 2 * valI (as ++ bs) = a + 2 * valI as + 2 ^ (as.length + 1) * valI bs
    rw [ih, Int.pow_succ, Int.mul_comm (2 ^ as.length) 2, Int.mul_assoc]; omega
theorem cut_take (xs : List Val) {w : Int} (h : 0 ≤ w) : cutL xs none (some w) = xs.take w.toNat := by
  unfold cutL
  have e1 : HT.sIx xs.length 0 none = 0 := rfl
  have e2 : HT.sIx xs.length xs.length (some w) = min w.toNat xs.length := by
    show (if w < 0 then _ else min w.toNat xs.length) = _
    rw [if_neg (by omega)]
  rw [e1, e2, List.drop_zero, Nat.sub_zero]
  rcases Nat.le_total w.toNat xs.length with h | h
  · rw [Nat.min_eq_left h]
  · rw [Nat.min_eq_right h, List.take_length, List.take_of_length_le h]
theorem atI_neg1 {α : Type} {xs : List α} (h : 0 < xs.length) : atI xs (-((1 : Nat) : Int)) = xs[xs.length - 1]? := by
  unfold atI ixN
  rw [if_neg (by omega), if_pos (by omega)]
  show xs[(-((1 : Nat) : Int) + xs.length).toNat]? = _
  have e : (-((1 : Nat) : Int) + xs.length).toNat = xs.length - 1 := by omega
  rw [e]
theorem bits_at_last (x : Int) (w : Nat) : (bitsI x (w + 1))[w]? = some (x / 2 ^ w % 2) := by
  rw [bits_snoc, List.getElem?_append_right (by rw [bits_len]; exact Nat.le_refl _), bits_len, Nat.sub_self]; rfl
theorem isort_two (a b : Int) : isort [a, b] = if a ≤ b then [a, b] else [b, a] := by
  show (if a ≤ b then [a, b] else b :: ins a []) = _
  rfl
theorem bits_take : ∀ (w ww : Nat) (x : Int), w ≤ ww → (bitsI x ww).take w = bitsI x w
  | 0, ww, x, _ => by simp [bitsI]
  | w + 1, 0, x, h => by omega
  | w + 1, ww + 1, x, h => by
    show (x % 2 :: bitsI (x / 2) ww).take (w + 1) = x % 2 :: bitsI (x / 2) w
    rw [List.take_succ_cons, bits_take w ww _ (by omega)]
theorem mod_pow_top (x : Int) (w : Nat) : x % 2 ^ (w + 1) = x % 2 ^ w + 2 ^ w * (x / 2 ^ w % 2) := by
  have h := val_app (bitsI x w) [x / 2 ^ w % 2]
  rw [← bits_snoc, val_bits, val_bits, bits_len] at h
  rw [h]
  simp [valI]
theorem bits_last (x : Int) (w : Nat) : 2 * (x % 2 ^ (w + 1)) / 2 ^ (w + 1) = x / 2 ^ w % 2 := by
  rw [Int.pow_succ, Int.mul_comm (2 ^ w) 2, Int.mul_ediv_mul_of_pos _ _ (by decide), Int.mul_comm 2 (2 ^ w), ← Int.pow_succ, mod_pow_top]
  have hp := pow_pos w
  rw [Int.add_mul_ediv_left _ _ (Int.ne_of_gt hp), Int.ediv_eq_zero_of_lt (Int.emod_nonneg _ (Int.ne_of_gt hp)) (Int.emod_lt_of_pos _ hp)]
  omega
/-- from the greatest on -/
theorem val_rev (bs : List Int) : ∀ k : Nat, k ≤ bs.length → (bs.reverse.take k).foldl (fun t b => t + t + b) 0 = valI (bs.drop (bs.length - k)) := by
  intro k
  induction k with
  | zero => intro _; simp [valI]
  | succ k ih =>
    intro hk
    have lt : k < bs.reverse.length := by simp; omega
    rw [← List.take_append_getElem lt, List.foldl_append, ih (by omega)]
    have e : bs.length - (k + 1) < bs.length := by omega
    rw [List.drop_eq_getElem_cons e]
    have e2 : bs.length - (k + 1) + 1 = bs.length - k := by omega
    rw [e2, List.getElem_reverse]
    show valI _ + valI _ + _ = _ + 2 * valI _
    have e3 : bs.length - 1 - k = bs.length - (k + 1) := by omega
    have e4 : bs[bs.length - 1 - k] = bs[bs.length - (k + 1)] := by congr 1
    rw [e4]; omega
/-- the worth so far, from the greatest on -/
def hor (bs : List Int) (i : Nat) : Int := (bs.reverse.take i).foldl (fun t b => t + t + b) 0
theorem hor_zero (bs : List Int) : hor bs 0 = 0 := rfl
theorem hor_step {bs : List Int} {i : Nat} {b : Int} (h : bs.reverse[i]? = some b) : hor bs (i + 1) = hor bs i + hor bs i + b := by
  have lt := (List.getElem?_eq_some_iff.mp h).1
  have e1 : bs.reverse.take (i + 1) = bs.reverse.take i ++ [b] := by
    rw [← List.take_append_getElem lt]
    congr 2
    exact (List.getElem?_eq_some_iff.mp h).2
  unfold hor
  rw [e1, List.foldl_append]; rfl
theorem hor_end (bs : List Int) : hor bs (bs.map Val.int).reverse.length = valI bs := by
  unfold hor
  rw [List.length_reverse, List.length_map, val_rev _ _ (Nat.le_refl _), Nat.sub_self, List.drop_zero]
theorem reps_one (x : Val) : ∀ k : Nat, reps [x] k = List.replicate k x
  | 0 => rfl
  | k + 1 => by
    have := reps_one x k
    unfold reps at this ⊢
    rw [List.replicate_succ, List.flatten_cons, this, List.replicate_succ]; rfl
theorem reps_int (x : Int) (k : Nat) : reps [Val.int x] k = (List.replicate k x).map Val.int := by
  rw [reps_one, List.map_replicate]
theorem rep_ok {n : Nat} {k : Int} (h1 : n ≤ 1000) (h2 : -1000 ≤ k) (h3 : k ≤ 10000) : repOk n k := by
  refine ⟨by omega, by omega, ?_⟩
  have h4 : k.toNat ≤ 10000 := by omega
  exact Nat.le_trans (Nat.mul_le_mul h1 h4) (by decide)
end EN

/-! EnZB: plain facts: dicts with texts as keys; the signs of texts. -/
namespace EN
open PySem L2
/-! ### dicts whose keys are texts -/
section
variable {ss : List Str} {vs : List Val} {s : Str} {i : Nat} {v w : Val}
theorem dget_at : ∀ {ss : List Str} {vs : List Val} {i : Nat}, ss.Nodup → ss[i]? = some s → vs[i]? = some v → dget (ss.map .str) vs (.str s) = some v
  | [], vs, i, _, h, _ => by simp at h
  | t :: ss, [], i, _, _, h => by simp at h
  | t :: ss, u :: vs, 0, n, h1, h2 => by
    simp at h1 h2; subst h1 h2
    show (if decide (t = t) then some u else dget (ss.map .str) vs (.str t)) = some u
    simp
  | t :: ss, u :: vs, i + 1, n, h1, h2 => by
    rw [List.nodup_cons] at n
    simp at h1 h2
    have ne : t ≠ s := fun e => n.1 (e ▸ mem_get h1)
    show (if decide (t = s) then some u else dget (ss.map .str) vs (.str s)) = some v
    simp only [ne, decide_false, Bool.false_eq_true, if_false]
    exact dget_at n.2 h1 h2
theorem dget_no : ∀ {ss : List Str} {vs : List Val}, s ∉ ss → dget (ss.map .str) vs (.str s) = none
  | [], vs, _ => rfl
  | t :: ss, [], _ => rfl
  | t :: ss, u :: vs, h => by
    have ne : t ≠ s := fun e => h (e ▸ List.mem_cons_self)
    show (if decide (t = s) then some u else dget (ss.map .str) vs (.str s)) = none
    simp only [ne, decide_false, Bool.false_eq_true, if_false]
    exact dget_no fun m => h (List.mem_cons_of_mem _ m)
theorem dhas_in : ∀ {ss : List Str}, s ∈ ss → dhas (ss.map .str) (.str s) = true
  | t :: ss, h => by
    show (decide (t = s) || dhas (ss.map .str) (.str s)) = true
    rcases List.mem_cons.mp h with e | h
    · simp [e]
    · rw [dhas_in h]; simp
theorem dhas_no : ∀ {ss : List Str}, s ∉ ss → dhas (ss.map .str) (.str s) = false
  | [], _ => rfl
  | t :: ss, h => by
    have ne : t ≠ s := fun e => h (e ▸ List.mem_cons_self)
    show (decide (t = s) || dhas (ss.map .str) (.str s)) = false
    rw [dhas_no fun m => h (List.mem_cons_of_mem _ m)]
    simp [ne]
theorem dsub_no : ∀ {ss : List Str} {vs : List Val}, s ∉ ss → vs.length = ss.length → dsub (ss.map .str) vs (.str s) w = vs
  | [], vs, _, hl => by simp at hl; subst hl; rfl
  | t :: ss, [], _, hl => by simp at hl
  | t :: ss, u :: vs, n, hl => by
    have ne : t ≠ s := fun e => n (e ▸ List.mem_cons_self)
    show (if decide (t = s) then w else u) :: dsub (ss.map .str) vs (.str s) w = u :: vs
    simp only [ne, decide_false, Bool.false_eq_true, if_false]
    rw [dsub_no (fun m => n (List.mem_cons_of_mem _ m)) (by simpa using hl)]
theorem dsub_at : ∀ {ss : List Str} {vs : List Val} {i : Nat}, ss.Nodup → vs.length = ss.length → ss[i]? = some s → dsub (ss.map .str) vs (.str s) w = vs.set i w
  | [], vs, i, _, _, h => by simp at h
  | t :: ss, [], i, _, hl, _ => by simp at hl
  | t :: ss, u :: vs, 0, n, hl, h1 => by
    rw [List.nodup_cons] at n
    simp at h1; subst h1
    show (if decide (t = t) then w else u) :: dsub (ss.map .str) vs (.str t) w = w :: vs
    simp only [decide_true, if_true]
    rw [dsub_no n.1 (by simpa using hl)]
  | t :: ss, u :: vs, i + 1, n, hl, h1 => by
    rw [List.nodup_cons] at n
    simp at h1
    have ne : t ≠ s := fun e => n.1 (e ▸ mem_get h1)
    show (if decide (t = s) then w else u) :: dsub (ss.map .str) vs (.str s) w = u :: vs.set i w
    simp only [ne, decide_false, Bool.false_eq_true, if_false]
    rw [dsub_at n.2 (by simpa using hl) h1]
theorem dsub_len : ∀ {ks vs : List Val} {k : Val}, vs.length = ks.length → (dsub ks vs k w).length = ks.length
  | [], vs, k, h => by simp at h; subst h; rfl
  | t :: ks, [], k, h => by simp at h
  | t :: ks, u :: vs, k, h => by
    show ((if keq t k then w else u) :: dsub ks vs k w).length = _
    simp [dsub_len (ks := ks) (vs := vs) (k := k) (by simpa using h)]
theorem dsame_self : ∀ {ss ts : List Str} {vs ws : List Int} {us : List Val}, ts.Nodup → us.length = ts.length → (∀ (i : Nat) (s : Str), ss[i]? = some s → ∃ (w : Int) (j : Nat), vs[i]? = some w ∧ ts[j]? = some s ∧ us[j]? = some (Val.int w)) → vs.length = ss.length → dsame (ss.map .str) (vs.map .int) (ts.map .str) us = true
  | [], ts, [], ws, us, _, _, _, _ => by cases us <;> cases ts <;> rfl
  | [], ts, v :: vs, ws, us, _, _, _, hl => by simp at hl
  | s :: ss, ts, [], ws, us, _, _, _, hl => by simp at hl
  | s :: ss, ts, v :: vs, ws, us, n, hu, h, hl => by
    obtain ⟨w, j, h1, h2, h3⟩ := h 0 s rfl
    simp at h1; subst h1
    show ((match dget (ts.map .str) us (.str s) with
      | some w => same1 (.int v) w
      | none => false) && dsame (ss.map .str) (vs.map .int) (ts.map .str) us) = true
    rw [dget_at n h2 h3, dsame_self (ws := ws) n hu (fun i t ht => h (i + 1) t ht) (by simpa using hl)]
    simp [same1]
theorem veq_dct {ss : List Str} {ws : List Int} (n : ss.Nodup) (hl : ws.length = ss.length) : veq (.dct (ss.map .str) (ws.map .int)) (.dct (ss.map .str) (ws.map .int)) = some true := by
  show (if (ss.map Val.str).length = (ss.map Val.str).length ∧ dsame (ss.map .str) (ws.map .int) (ss.map .str) (ws.map .int) = true then some true else none) = some true
  have hd : dsame (ss.map .str) (ws.map .int) (ss.map .str) (ws.map .int) = true := by
    refine dsame_self (ws := ws) n (by simpa using hl) (fun i s h => ?_) hl
    have lt := (List.getElem?_eq_some_iff.mp h).1
    refine ⟨ws[i], i, List.getElem?_eq_getElem (by omega), h, ?_⟩
    rw [List.getElem?_map, List.getElem?_eq_getElem (by omega)]; rfl
  rw [if_pos ⟨rfl, hd⟩]
end
section
variable {ss : List Str} {vs : List Val} {s : Str} {i j : Nat} {v w : Val} {e2 : Env} {y r : OV} {Q : OV → Prop}
theorem wp_neD {ws : List Int} {Q : Bool → Prop} (n : ss.Nodup) (hl : ws.length = ss.length) (k : Q false) : Wp (cmp .ne (.dct (ss.map .str) (ws.map .int)) (.dct (ss.map .str) (ws.map .int))) Q :=
  Wp.of (show (veq (.dct (ss.map .str) (ws.map .int)) (.dct (ss.map .str) (ws.map .int))).map (!·) = some false by rw [veq_dct n hl]; rfl) k
theorem wp_vixD {Q : Val → Prop} (n : ss.Nodup) (h1 : ss[i]? = some s) (h2 : vs[i]? = some v) (k : Q v) : Wp (vix (.dct (ss.map .str) vs) (.str s)) Q :=
  Wp.of (show (if isKey (.str s) then dget (ss.map .str) vs (.str s) else none) = some v by
    rw [dget_at n h1 h2]; rfl) k
theorem wp_notinD {Q : Bool → Prop} (n : ss.Nodup) (h1 : ss[i]? = some s) (h2 : vs[i]? = some v) (k : Q false) : Wp (cmp .notin (.str s) (.dct (ss.map .str) vs)) Q :=
  Wp.of (show (if isKey (.str s) then some (dget (ss.map .str) vs (.str s)).isSome else none).map (!·) = some false by
    rw [dget_at n h1 h2]; rfl) k
theorem wp_sixD (n : ss.Nodup) (hl : vs.length = ss.length) (hz : ss.length ≤ 1000) (hi : ss[i]? = some s) (k : Q (.d (ss.map .str) (vs.set i w))) : Wp (six (some (.d (ss.map .str) vs)) (.p (.str s)) (.p w)) Q := by
  unfold six
  show Wp (if (isKey (.str s) && decide ((ss.map Val.str).length < sizeLine)) = true then some (OV.d (dputK (ss.map Val.str) (.str s)) (dputV (ss.map Val.str) vs (.str s) w)) else none) Q
  have h1 : (isKey (.str s) && decide ((ss.map Val.str).length < sizeLine)) = true := by
    rw [decide_eq_true (by rw [List.length_map]; exact size_lt (by omega))]; rfl
  refine Wp.of (show (if (isKey (.str s) && decide ((ss.map Val.str).length < sizeLine)) = true then some (OV.d (dputK (ss.map Val.str) (.str s)) (dputV (ss.map Val.str) vs (.str s) w)) else none) = some (OV.d (ss.map Val.str) (vs.set i w)) by
    rw [if_pos h1]
    unfold dputK dputV
    rw [dhas_in (mem_get hi), if_pos rfl, if_pos rfl, dsub_at n hl hi]) k
theorem wp_sixN (hz : ss.length ≤ 1000) (hi : s ∉ ss) (k : Q (.d ((ss ++ [s]).map .str) (vs ++ [w]))) : Wp (six (some (.d (ss.map .str) vs)) (.p (.str s)) (.p w)) Q := by
  unfold six
  show Wp (if (isKey (.str s) && decide ((ss.map Val.str).length < sizeLine)) = true then some (OV.d (dputK (ss.map Val.str) (.str s)) (dputV (ss.map Val.str) vs (.str s) w)) else none) Q
  have h1 : (isKey (.str s) && decide ((ss.map Val.str).length < sizeLine)) = true := by
    rw [decide_eq_true (by rw [List.length_map]; exact size_lt (by omega))]; rfl
  refine Wp.of (show (if (isKey (.str s) && decide ((ss.map Val.str).length < sizeLine)) = true then some (OV.d (dputK (ss.map Val.str) (.str s)) (dputV (ss.map Val.str) vs (.str s) w)) else none) = some (OV.d ((ss ++ [s]).map Val.str) (vs ++ [w])) by
    rw [if_pos h1]
    unfold dputK dputV
    rw [dhas_no hi, List.map_append]; rfl) k
/-- whatever the key -/
theorem wp_sixA {ks : List Val} (hk : isKey (fz y) = true) (hz : ks.length ≤ 1000) (k : ∀ ks' vs', ks'.length ≤ ks.length + 1 → Q (.d ks' vs')) : Wp (six (some (.d ks vs)) y r) Q := by
  unfold six
  dsimp only
  have h1 : (isKey (fz y) && decide (ks.length < sizeLine)) = true := by
    rw [hk, decide_eq_true (size_lt (by omega))]; rfl
  refine Wp.of (show (if (isKey (fz y) && decide (ks.length < sizeLine)) = true then some (OV.d (dputK ks (fz y)) (dputV ks vs (fz y) (fz r))) else none) = some _ by rw [if_pos h1]) (k _ _ ?_)
  unfold dputK
  split <;> simp
end
/-! ### signs of texts -/
def chs (s : Str) : List Nat := s.cps.toList
theorem chs_len (s : Str) : (chs s).length = s.length := by simp [chs, Str.length]
theorem chs_add (x y : Str) : chs (x ++ y) = chs x ++ chs y := by
  show (x.cps ++ y.cps).toList = _
  simp [chs]
theorem str_ext {x y : Str} (h : chs x = chs y) : x = y := by
  cases x; cases y
  unfold chs at h
  simp at h
  rw [h]
theorem chs_join : ∀ (ys : List Str), chs (PySem.Txt.join (Str.ofString "") ys) = (ys.map chs).flatten := by
  intro ys
  show chs (Builtin.Str.glued (Str.ofString "") ys) = _
  rw [StrLaws.glued_eq_join]
  have z : chs (Str.ofString "") = [] := by decide
  induction ys with
  | nil => rfl
  | cons a r ih =>
    cases r with
    | nil => show chs a = _; simp
    | cons b r =>
      show chs (a ++ Str.ofString "" ++ Str.join (Str.ofString "") (b :: r)) = _
      rw [chs_add, chs_add, z, ih]; simp
theorem str_ixC {x : Str} {i : Int} {Q : Val → Prop} (hz : x.length ≤ 1000000) (h0 : 0 ≤ i) (h1 : i < x.length) (k : ∀ c : Nat, (chs x)[i.toNat]? = some c → Q (.str ⟨#[c]⟩)) : Wp (vix (.str x) (.int i)) Q := by
  have e : vix (.str x) (.int i) = (atI x.cps.toList i).map fun c => .str ⟨#[c]⟩ := by
    show (if x.length ≤ sizeLine then _ else none) = _
    rw [if_pos (sizeLine_ge hz)]
  rw [e]
  have h1 : i < x.cps.toList.length := by simpa [Str.length] using h1
  rw [atI_in h0 h1]
  have lt : i.toNat < x.cps.toList.length := by omega
  rw [List.getElem?_eq_getElem lt]
  exact k _ (List.getElem?_eq_getElem lt)
theorem str_addC {x y : Str} {Q : OV → Prop} (hx : x.length ≤ 1000000) (hy : y.length ≤ 1000000) (k : Q (.p (.str (x ++ y)))) : Wp (bin .add (.str x) (.str y)) Q :=
  wp_catS (Nat.le_trans (Nat.add_le_add hx hy) (by decide)) k
theorem str_cutC {x : Str} {lo hi : Option Int} {Q : OV → Prop} (hz : x.length ≤ 1000000) (k : (cutS x lo hi).length ≤ x.length → Q (.p (.str (cutS x lo hi)))) : Wp (vslc (.str x) lo hi) Q := by
  have e : vslc (.str x) lo hi = some (.p (.str (cutS x lo hi))) := by
    show (if x.length ≤ sizeLine then _ else none) = _
    rw [if_pos (sizeLine_ge hz)]
  rw [e]
  exact k (cutS_length _ _ _)
theorem join_oneC {ys : List Str} {Q : OV → Prop} (h : ∀ y ∈ ys, y.length = 1) (hl : ys.length ≤ 1000000) (k : (PySem.Txt.join (Str.ofString "") ys).length = ys.length → Q (.p (.str (PySem.Txt.join (Str.ofString "") ys)))) : Wp (vjn (Str.ofString "") (.lst (ys.map Val.str))) Q := by
  have hs : (ys.map (·.length)).sum = ys.length := by
    clear hl k
    induction ys with
    | nil => rfl
    | cons y ys ih =>
      have h1 := h y List.mem_cons_self
      have h2 := ih fun z hz => h z (List.mem_cons_of_mem _ hz)
      simp only [List.map_cons, List.sum_cons, List.length_cons, h1, h2]; omega
  have e : vjn (Str.ofString "") (.lst (ys.map Val.str)) = some (.p (.str (PySem.Txt.join (Str.ofString "") ys))) := by
    show (match asStrs (ys.map Val.str) with
      | some ys => if joinOk (Str.ofString "") ys then some (OV.p (.str (PySem.Txt.join (Str.ofString "") ys))) else none
      | none => none) = _
    rw [asStrs_map]
    have : joinOk (Str.ofString "") ys := by
      show (ys.map (·.length)).sum + ys.length * (Str.ofString "").length ≤ 16777216
      have : (Str.ofString "").length = 0 := by decide
      rw [hs, this]; omega
    simp only [if_pos this]
  rw [e]
  exact k (PySem.W.KT.join_ones _ h)
/-! ### sums of bits -/
def sumN (f : Nat → Int) : Nat → Int
  | 0 => 0
  | n + 1 => sumN f n + 2 ^ n * f n
theorem sumN_congr {f g : Nat → Int} : ∀ {n : Nat}, (∀ i, i < n → f i = g i) → sumN f n = sumN g n
  | 0, _ => rfl
  | n + 1, h => by
    unfold sumN
    rw [sumN_congr fun i hi => h i (by omega), h n (by omega)]
theorem sumN_rng {f : Nat → Int} : ∀ {n : Nat}, (∀ i, i < n → f i = 0 ∨ f i = 1) → 0 ≤ sumN f n ∧ sumN f n < 2 ^ n
  | 0, _ => by simp [sumN]
  | n + 1, h => by
    obtain ⟨h1, h2⟩ := sumN_rng (n := n) fun i hi => h i (by omega)
    unfold sumN
    have e : (2 : Int) ^ (n + 1) = 2 ^ n + 2 ^ n := by rw [Int.pow_succ]; omega
    rw [e]
    generalize (2 : Int) ^ n = p at *
    rcases h n (by omega) with z | z <;> rw [z] <;> omega
theorem sumN_bit {f : Nat → Int} : ∀ {n : Nat}, (∀ i, i < n → f i = 0 ∨ f i = 1) → ∀ i, i < n → sumN f n / 2 ^ i % 2 = f i
  | 0, _, i, hi => by omega
  | n + 1, h, i, hi => by
    obtain ⟨h1, h2⟩ := sumN_rng (f := f) (n := n) fun i hi => h i (by omega)
    unfold sumN
    by_cases e : i = n
    · subst e
      have hp := pow_pos i
      rw [Int.add_mul_ediv_left _ _ (Int.ne_of_gt hp), Int.ediv_eq_zero_of_lt h1 h2]
      rcases h i (by omega) with z | z <;> rw [z] <;> rfl
    · have ih := sumN_bit (f := f) (n := n) (fun i hi => h i (by omega)) i (by omega)
      have hp := pow_pos i
      have e2 : (2 : Int) ^ n = 2 ^ i * (2 * 2 ^ (n - i - 1)) := by
        rw [Int.mul_comm 2, ← Int.pow_succ, ← Int.pow_add]
        congr 1; omega
      rw [e2, Int.mul_assoc, Int.add_mul_ediv_left _ _ (Int.ne_of_gt hp), Int.mul_assoc]
      rw [Int.add_mul_emod_self_left]
      exact ih
theorem sumN_bits (v : Int) : ∀ n : Nat, sumN (fun k => v / 2 ^ k % 2) n = v % 2 ^ n
  | 0 => by simp [sumN, Int.emod_one]
  | n + 1 => by
    unfold sumN
    rw [sumN_bits v n, mod_pow_top]
theorem sumN_zero : ∀ n : Nat, sumN (fun _ => 0) n = 0
  | 0 => rfl
  | n + 1 => by unfold sumN; rw [sumN_zero n]; simp
/-! ### rows told by a function -/
theorem fr_get {f : Nat → Int} {n i : Nat} (h : i < n) : (((List.range n).map fun j => Val.int (f j)))[i]? = some (.int (f i)) := by
  rw [List.getElem?_map, List.getElem?_range h]; rfl
theorem fr_set {f g : Nat → Int} {n i : Nat} {x : Int} (hx : x = g i) (h : ∀ j, j ≠ i → f j = g j) : ((List.range n).map fun j => Val.int (f j)).set i (.int x) = (List.range n).map fun j => Val.int (g j) := by
  apply List.ext_getElem?
  intro j
  by_cases e : i = j
  · subst e
    by_cases lt : i < n
    · rw [List.getElem?_set_self (by simpa using lt), fr_get lt, hx]
    · rw [List.getElem?_eq_none (by simpa using lt), List.getElem?_eq_none (by simpa using lt)]
  · rw [List.getElem?_set_ne e, List.getElem?_map, List.getElem?_map]
    cases z : (List.range n)[j]? with
    | none => rfl
    | some k =>
      have := List.getElem?_eq_some_iff.mp z
      obtain ⟨h1, h2⟩ := this
      rw [List.getElem_range] at h2
      subst h2
      simp [h j (fun w => e w.symm)]
theorem fr_of (ws : List Int) : ws.map Val.int = (List.range ws.length).map fun j => Val.int (ws.getD j 0) := by
  apply List.ext_getElem?
  intro j
  rw [List.getElem?_map, List.getElem?_map]
  by_cases lt : j < ws.length
  · rw [List.getElem?_range lt, List.getElem?_eq_getElem lt]
    simp [List.getD_eq_getElem?_getD, List.getElem?_eq_getElem lt]
  · rw [List.getElem?_eq_none (by omega), List.getElem?_eq_none (by simpa using lt)]; rfl
theorem fr_snoc (f : Nat → Int) (n : Nat) : ((List.range n).map fun j => Val.int (f j)) ++ [.int (f n)] = (List.range (n + 1)).map fun j => Val.int (f j) := by
  rw [List.range_succ, List.map_append]; rfl
theorem fr_congr {f g : Nat → Int} {n : Nat} (h : ∀ i, i < n → f i = g i) : ((List.range n).map fun j => Val.int (f j)) = (List.range n).map fun j => Val.int (g j) := by
  apply List.map_congr_left
  intro j hj
  rw [h j (List.mem_range.mp hj)]
theorem fr_int (f : Nat → Int) (n : Nat) : ((List.range n).map fun j => Val.int (f j)) = ((List.range n).map f).map Val.int := by
  rw [List.map_map]; rfl
theorem wp_atF {f : Nat → Int} {n : Nat} {i : Int} {Q : Val → Prop} (h0 : 0 ≤ i) (h1 : i < n) (k : Q (.int (f i.toNat))) : Wp (atI ((List.range n).map fun j => Val.int (f j)) i) Q :=
  wp_atI h0 (by simpa using h1) fun v hv => by
    rw [fr_get (by omega)] at hv
    cases hv
    exact k
theorem wp_setF {f g : Nat → Int} {n : Nat} {i x : Int} {Q : OV → Prop} (h0 : 0 ≤ i) (h1 : i < n) (hx : x = g i.toNat) (h : ∀ j, j ≠ i.toNat → f j = g j) (k : Q (.l ((List.range n).map fun j => Val.int (g j)))) : Wp ((setL ((List.range n).map fun j => Val.int (f j)) (.int i) (.int x)).map OV.l) Q := by
  rw [setL_in h0 (by simpa using h1), fr_set hx h]
  exact k
theorem bo_go {c : Bool} {A B : Prop} (h : c = false) (k : A) : (c = false → A) ∧ (c = !false → B) := ⟨fun _ => k, fun e => (by rw [h] at e; cases e)⟩
theorem ba_go {c : Bool} {A B : Prop} (h : c = true) (k : A) : (c = true → A) ∧ (c = !true → B) := ⟨fun _ => k, fun e => (by rw [h] at e; cases e)⟩
end EN

/-! EnZC: sums and claims as trees, their words, what they are worth, and a walk over the words backward with a pile. -/
namespace EN
open PySem L2

inductive U1 where | nt | ng | tw | lw
inductive U2 where | an | or | od | ad | sb
inductive C1 where | sg | no
inductive C2 where | sm | un | be
inductive B2 where | bo | ei | so
def U1.w : U1 → Str | .nt => "not" | .ng => "neg" | .tw => "twice" | .lw => "low"
def U2.w : U2 → Str | .an => "and" | .or => "or" | .od => "odd" | .ad => "add" | .sb => "sub"
def C1.w : C1 → Str | .sg => "sign" | .no => "nought"
def C2.w : C2 → Str | .sm => "same" | .un => "under" | .be => "beneath"
def B2.w : B2 → Str | .bo => "both" | .ei => "either" | .so => "so"
/-- a sum -/
inductive Sm where
  | num (n : Int) | nam (s : Str) | o1 (o : U1) (a : Sm) | o2 (o : U2) (a b : Sm) | pk (a b c : Sm)
/-- a claim -/
inductive Cl where
  | s1 (o : C1) (a : Sm) | s2 (o : C2) (a b : Sm) | ys | nv (a : Cl) | t2 (o : B2) (a b : Cl)
def Sm.wd : Sm → List Val
  | .num n => [.int n]
  | .nam s => [.str s]
  | .o1 o a => .str o.w :: a.wd
  | .o2 o a b => .str o.w :: (a.wd ++ b.wd)
  | .pk a b c => .str "pick" :: (a.wd ++ (b.wd ++ c.wd))
def Cl.wd : Cl → List Val
  | .s1 o a => .str o.w :: a.wd
  | .s2 o a b => .str o.w :: (a.wd ++ b.wd)
  | .ys => [.str "yes"]
  | .nv a => .str "never" :: a.wd
  | .t2 o a b => .str o.w :: (a.wd ++ b.wd)
/-- the words that are kept -/
def kept : List Str := ["not", "neg", "twice", "low", "and", "or", "odd", "add", "sub", "pick", "same", "under", "beneath", "sign", "nought", "both", "either", "so", "never", "yes"]
def Sm.ok (N : Str → Prop) : Sm → Prop
  | .num n => 0 ≤ n ∧ n < 1000
  | .nam s => N s
  | .o1 _ a => a.ok N
  | .o2 _ a b => a.ok N ∧ b.ok N
  | .pk a b c => a.ok N ∧ b.ok N ∧ c.ok N
def Cl.ok (N : Str → Prop) : Cl → Prop
  | .s1 _ a => a.ok N
  | .s2 _ a b => a.ok N ∧ b.ok N
  | .ys => True
  | .nv a => a.ok N
  | .t2 _ a b => a.ok N ∧ b.ok N

/-! ### worths -/
def U1.f (w : Nat) : U1 → Int → Int
  | .nt, a => (-1 - a) % 2 ^ w
  | .ng, a => (-a) % 2 ^ w
  | .tw, a => (2 * a) % 2 ^ w
  | .lw, a => Builtin.bitAnd a (-a)
def U2.f (w : Nat) : U2 → Int → Int → Int
  | .an, a, b => Builtin.bitAnd a b
  | .or, a, b => Builtin.bitOr a b
  | .od, a, b => Builtin.bitXor a b
  | .ad, a, b => (a + b) % 2 ^ w
  | .sb, a, b => (a - b) % 2 ^ w
def pkF (w : Nat) (a b c : Int) : Int := Builtin.bitOr (Builtin.bitAnd a b) (Builtin.bitAnd ((-1 - a) % 2 ^ w) c)
def sgn (w : Nat) (a : Int) : Int := a - 2 * a / 2 ^ w * 2 ^ w
def C1.f (w : Nat) : C1 → Int → Bool
  | .sg, a => decide (2 * a / 2 ^ w = 1)
  | .no, a => decide (a = 0)
def C2.f (w : Nat) : C2 → Int → Int → Bool
  | .sm, a, b => decide (a = b)
  | .un, a, b => decide (a < b)
  | .be, a, b => decide (sgn w a < sgn w b)
def B2.f : B2 → Bool → Bool → Bool
  | .bo, a, b => a && b
  | .ei, a, b => a || b
  | .so, a, b => b || !a
def Sm.val (f : Str → Int) (w : Nat) : Sm → Int
  | .num n => n % 2 ^ w
  | .nam s => f s
  | .o1 o a => o.f w (a.val f w)
  | .o2 o a b => o.f w (a.val f w) (b.val f w)
  | .pk a b c => pkF w (a.val f w) (b.val f w) (c.val f w)
def Cl.val (f : Str → Int) (w : Nat) : Cl → Bool
  | .s1 o a => o.f w (a.val f w)
  | .s2 o a b => o.f w (a.val f w) (b.val f w)
  | .ys => true
  | .nv a => !(a.val f w)
  | .t2 o a b => o.f (a.val f w) (b.val f w)
theorem Sm.wd_pos : ∀ t : Sm, 0 < t.wd.length
  | .num _ => by simp [Sm.wd]
  | .nam _ => by simp [Sm.wd]
  | .o1 _ _ => by simp [Sm.wd]
  | .o2 _ _ _ => by simp [Sm.wd]
  | .pk _ _ _ => by simp [Sm.wd]
theorem Cl.wd_pos : ∀ t : Cl, 0 < t.wd.length
  | .s1 _ _ => by simp [Cl.wd]
  | .s2 _ _ _ => by simp [Cl.wd]
  | .ys => by simp [Cl.wd]
  | .nv _ => by simp [Cl.wd]
  | .t2 _ _ _ => by simp [Cl.wd]

/-! ### in range -/
theorem and_rng {a b : Int} {w : Nat} (h : 0 ≤ a ∧ a < 2 ^ w) : 0 ≤ Builtin.bitAnd b a ∧ Builtin.bitAnd b a < 2 ^ w := by
  have := PyProof.Rows.bitAnd_range b h.1
  omega
theorem nat_lt {a : Int} {w : Nat} (h : 0 ≤ a ∧ a < 2 ^ w) : a.toNat < 2 ^ w := by
  have : ((a.toNat : Nat) : Int) < ((2 ^ w : Nat) : Int) := by
    rw [Int.toNat_of_nonneg h.1, Int.natCast_pow]; exact h.2
  exact_mod_cast this
theorem lt_nat {n w : Nat} (h : n < 2 ^ w) : ((n : Nat) : Int) < 2 ^ w := by
  have : ((n : Nat) : Int) < ((2 ^ w : Nat) : Int) := by exact_mod_cast h
  rwa [Int.natCast_pow] at this
theorem or_rng {a b : Int} {w : Nat} (h : 0 ≤ a ∧ a < 2 ^ w) (h2 : 0 ≤ b ∧ b < 2 ^ w) : 0 ≤ Builtin.bitOr a b ∧ Builtin.bitOr a b < 2 ^ w := by
  rw [Bits.bitOr_pp h.1 h2.1]
  exact ⟨Int.natCast_nonneg _, lt_nat (Nat.or_lt_two_pow (nat_lt h) (nat_lt h2))⟩
theorem xor_rng {a b : Int} {w : Nat} (h : 0 ≤ a ∧ a < 2 ^ w) (h2 : 0 ≤ b ∧ b < 2 ^ w) : 0 ≤ Builtin.bitXor a b ∧ Builtin.bitXor a b < 2 ^ w := by
  rw [Bits.bitXor_pp h.1 h2.1]
  exact ⟨Int.natCast_nonneg _, lt_nat (Nat.xor_lt_two_pow (nat_lt h) (nat_lt h2))⟩
theorem mod_rng (a : Int) (w : Nat) : 0 ≤ a % 2 ^ w ∧ a % 2 ^ w < 2 ^ w := by
  have h := pow_pos w
  exact ⟨Int.emod_nonneg _ (Int.ne_of_gt h), Int.emod_lt_of_pos _ h⟩
theorem Sm.rng {f : Str → Int} {w : Nat} {N : Str → Prop} (hf : ∀ s, N s → 0 ≤ f s ∧ f s < 2 ^ w) : ∀ t : Sm, t.ok N → 0 ≤ t.val f w ∧ t.val f w < 2 ^ w
  | .num n, _ => mod_rng _ _
  | .nam s, h => hf s h
  | .o1 .nt a, _ => mod_rng _ _
  | .o1 .ng a, _ => mod_rng _ _
  | .o1 .tw a, _ => mod_rng _ _
  | .o1 .lw a, h => by
    show 0 ≤ Builtin.bitAnd _ _ ∧ Builtin.bitAnd _ _ < _
    rw [PyProof.Rows.bitAnd_comm]
    exact and_rng (Sm.rng hf a h)
  | .o2 .an a b, h => and_rng (Sm.rng hf b h.2)
  | .o2 .or a b, h => or_rng (Sm.rng hf a h.1) (Sm.rng hf b h.2)
  | .o2 .od a b, h => xor_rng (Sm.rng hf a h.1) (Sm.rng hf b h.2)
  | .o2 .ad a b, _ => mod_rng _ _
  | .o2 .sb a b, _ => mod_rng _ _
  | .pk a b c, h => or_rng (and_rng (Sm.rng hf b h.2.1)) (and_rng (Sm.rng hf c h.2.2))

/-! ### the walk -/
section
variable {put : Val → Env → Option Env} {body : Env → R Fl} {Q : Fl → Env → Prop}
theorem w_forC {x : Val} {xs : List Val} {e : Env} (h : Wp (put x e) fun e1 => Wr (body e1) fun fl e2 => fl = .nx ∧ Wr (forLoop put body xs e2) Q) : Wr (forLoop put body (x :: xs) e) Q := by
  unfold forLoop
  cases z : put x e with
  | none => rw [z] at h; exact h.elim
  | some e1 =>
    rw [z] at h
    refine Wr.bd (Wr.mono h fun fl e2 h2 => ?_)
    obtain ⟨rfl, h3⟩ := h2
    exact h3
/-- a step of the walk -/
def Sp (put : Val → Env → Option Env) (body : Env → R Fl) (E : List Val → Env → Prop) (B : Nat) (x : Val) (p p' : List Val) : Prop :=
  p'.length ≤ B → ∀ e, E p e → Wp (put x e) fun e1 => Wr (body e1) fun fl e2 => fl = .nx ∧ E p' e2
theorem Sp.go {E : List Val → Env → Prop} {B : Nat} {x : Val} {xs p p' : List Val} {e : Env} (h : Sp put body E B x p p') (hb : p'.length ≤ B) (he : E p e) (k : ∀ e', E p' e' → Wr (forLoop put body xs e') Q) : Wr (forLoop put body (x :: xs) e) Q := by
  refine w_forC ?_
  have t := h hb e he
  cases z : put x e with
  | none => rw [z] at t; exact t.elim
  | some e1 =>
    rw [z] at t
    exact Wr.mono t fun fl e2 h2 => ⟨h2.1, k e2 h2.2⟩
theorem sm_walk {E : List Val → Env → Prop} {B : Nat} {V : Sm → Val} {N : Str → Prop}
    (h1 : ∀ n p, 0 ≤ n → n < 1000 → Sp put body E B (.int n) p (p ++ [V (.num n)]))
    (h2 : ∀ s p, N s → Sp put body E B (.str s) p (p ++ [V (.nam s)]))
    (h3 : ∀ o a p, a.ok N → Sp put body E B (.str (U1.w o)) (p ++ [V a]) (p ++ [V (.o1 o a)]))
    (h4 : ∀ o a b p, a.ok N → b.ok N → Sp put body E B (.str (U2.w o)) (p ++ [V b] ++ [V a]) (p ++ [V (.o2 o a b)]))
    (h5 : ∀ a b c p, a.ok N → b.ok N → c.ok N → Sp put body E B (.str "pick") (p ++ [V c] ++ [V b] ++ [V a]) (p ++ [V (.pk a b c)])) :
    ∀ (t : Sm), t.ok N → ∀ (rest p : List Val) (e : Env) (Q : Fl → Env → Prop), p.length + t.wd.length ≤ B → E p e → (∀ e', E (p ++ [V t]) e' → Wr (forLoop put body rest e') Q) → Wr (forLoop put body (t.wd.reverse ++ rest) e) Q
  | .num n, h, rest, p, e, Q, hb, he, k => (h1 n p h.1 h.2).go (by simpa [Sm.wd] using hb) he k
  | .nam s, h, rest, p, e, Q, hb, he, k => (h2 s p h).go (by simpa [Sm.wd] using hb) he k
  | .o1 o a, h, rest, p, e, Q, hb, he, k => by
    simp only [Sm.wd, List.length_cons, List.reverse_cons, List.append_assoc, List.cons_append, List.nil_append] at hb ⊢
    refine sm_walk h1 h2 h3 h4 h5 a h _ p e Q (by omega) he fun e' he' => ?_
    exact (h3 o a p h).go (by simp; omega) he' k
  | .o2 o a b, h, rest, p, e, Q, hb, he, k => by
    simp only [Sm.wd, List.length_cons, List.length_append, List.reverse_cons, List.reverse_append, List.append_assoc, List.cons_append, List.nil_append] at hb ⊢
    have := a.wd_pos
    have := b.wd_pos
    refine sm_walk h1 h2 h3 h4 h5 b h.2 _ p e Q (by omega) he fun e' he' => ?_
    refine sm_walk h1 h2 h3 h4 h5 a h.1 _ _ e' Q (by simp; omega) he' fun e2 he2 => ?_
    exact (h4 o a b p h.1 h.2).go (by simp; omega) he2 k
  | .pk a b c, h, rest, p, e, Q, hb, he, k => by
    simp only [Sm.wd, List.length_cons, List.length_append, List.reverse_cons, List.reverse_append, List.append_assoc, List.cons_append, List.nil_append] at hb ⊢
    have := a.wd_pos
    have := b.wd_pos
    have := c.wd_pos
    refine sm_walk h1 h2 h3 h4 h5 c h.2.2 _ p e Q (by omega) he fun e' he' => ?_
    refine sm_walk h1 h2 h3 h4 h5 b h.2.1 _ _ e' Q (by simp; omega) he' fun e2 he2 => ?_
    refine sm_walk h1 h2 h3 h4 h5 a h.1 _ _ e2 Q (by simp; omega) he2 fun e3 he3 => ?_
    exact (h5 a b c p h.1 h.2.1 h.2.2).go (by simp; omega) he3 k
theorem cl_walk {E : List Val → Env → Prop} {B : Nat} {V : Sm → Val} {C : Cl → Val} {N : Str → Prop}
    (hs : ∀ (t : Sm), t.ok N → ∀ (rest p : List Val) (e : Env) (Q : Fl → Env → Prop), p.length + t.wd.length ≤ B → E p e → (∀ e', E (p ++ [V t]) e' → Wr (forLoop put body rest e') Q) → Wr (forLoop put body (t.wd.reverse ++ rest) e) Q)
    (h1 : ∀ o a p, a.ok N → Sp put body E B (.str (C1.w o)) (p ++ [V a]) (p ++ [C (.s1 o a)]))
    (h2 : ∀ o a b p, a.ok N → b.ok N → Sp put body E B (.str (C2.w o)) (p ++ [V b] ++ [V a]) (p ++ [C (.s2 o a b)]))
    (h3 : ∀ p, Sp put body E B (.str "yes") p (p ++ [C .ys]))
    (h4 : ∀ a p, a.ok N → Sp put body E B (.str "never") (p ++ [C a]) (p ++ [C (.nv a)]))
    (h5 : ∀ o a b p, a.ok N → b.ok N → Sp put body E B (.str (B2.w o)) (p ++ [C b] ++ [C a]) (p ++ [C (.t2 o a b)])) :
    ∀ (t : Cl), t.ok N → ∀ (rest p : List Val) (e : Env) (Q : Fl → Env → Prop), p.length + t.wd.length ≤ B → E p e → (∀ e', E (p ++ [C t]) e' → Wr (forLoop put body rest e') Q) → Wr (forLoop put body (t.wd.reverse ++ rest) e) Q
  | .ys, h, rest, p, e, Q, hb, he, k => (h3 p).go (by simpa [Cl.wd] using hb) he k
  | .s1 o a, h, rest, p, e, Q, hb, he, k => by
    simp only [Cl.wd, List.length_cons, List.reverse_cons, List.append_assoc, List.cons_append, List.nil_append] at hb ⊢
    refine hs a h _ p e Q (by omega) he fun e' he' => ?_
    exact (h1 o a p h).go (by simp; omega) he' k
  | .s2 o a b, h, rest, p, e, Q, hb, he, k => by
    simp only [Cl.wd, List.length_cons, List.length_append, List.reverse_cons, List.reverse_append, List.append_assoc, List.cons_append, List.nil_append] at hb ⊢
    have := a.wd_pos
    have := b.wd_pos
    refine hs b h.2 _ p e Q (by omega) he fun e' he' => ?_
    refine hs a h.1 _ _ e' Q (by simp; omega) he' fun e2 he2 => ?_
    exact (h2 o a b p h.1 h.2).go (by simp; omega) he2 k
  | .nv a, h, rest, p, e, Q, hb, he, k => by
    simp only [Cl.wd, List.length_cons, List.reverse_cons, List.append_assoc, List.cons_append, List.nil_append] at hb ⊢
    refine cl_walk hs h1 h2 h3 h4 h5 a h _ p e Q (by omega) he fun e' he' => ?_
    exact (h4 a p h).go (by simp; omega) he' k
  | .t2 o a b, h, rest, p, e, Q, hb, he, k => by
    simp only [Cl.wd, List.length_cons, List.length_append, List.reverse_cons, List.reverse_append, List.append_assoc, List.cons_append, List.nil_append] at hb ⊢
    have := a.wd_pos
    have := b.wd_pos
    refine cl_walk hs h1 h2 h3 h4 h5 b h.2 _ p e Q (by omega) he fun e' he' => ?_
    refine cl_walk hs h1 h2 h3 h4 h5 a h.1 _ _ e' Q (by simp; omega) he' fun e2 he2 => ?_
    exact (h5 o a b p h.1 h.2).go (by simp; omega) he2 k
theorem walk_end {e : Env} (k : Q .nx e) : Wr (forLoop put body [] e) Q := k
end
theorem wp_isi2 {t1 t2 : Ty} {a : Val} {v : Bool} {Q : Bool → Prop} (h : isi2 t1 t2 a = some v) (k : Q v) : Wp (isi2 t1 t2 a) Q := Wp.of h k
theorem wp_itemsE {a : Val} {v : List Val} {Q : List Val → Prop} (h : itemsE a = some v) (k : Q v) : Wp (itemsE a) Q := Wp.of h k
theorem wp_all {a : Val} {v : OV} {Q : OV → Prop} (e : bi .all [a] = some v) (k : Q v) : Wp (bi .all [a]) Q := Wp.of e k
theorem wp_eqSY {x y : Str} {Q : Bool → Prop} (h : x = y) (k : Q true) : Wp (cmp .eq (.str x) (.str y)) Q := Wp.of (a := true) (show some (decide (x = y)) = _ by rw [decide_eq_true h]) k
theorem wp_eqSN {x y : Str} {Q : Bool → Prop} (h : x ≠ y) (k : Q false) : Wp (cmp .eq (.str x) (.str y)) Q := Wp.of (a := false) (show some (decide (x = y)) = _ by rw [decide_eq_false h]) k
section
variable {cl : Nat → List OV → CR} {gl : Nat → Option Val} {env : Env}
/-- .pop() of what has an end -/
theorem w_popS {i : Nat} {ys : List Val} {v : Val} {Q : OV → Env → Prop} (h : gs env i = some (.l (ys ++ [v]))) (k : Q (.p v) (ss env i (some (.l ys)))) : Wr (ev cl gl (.pop i) env) Q := by
  refine w_pop h ?_ (by rw [List.dropLast_concat]; exact k)
  simp
end
section
variable {put : Val → Env → Option Env} {test : Env → R Bool} {elt : Env → R Val} {Q : List Val → Env → Prop} {env : Env}
theorem w_lcN {acc : List Val} (k : Q acc env) : Wr (lcLoop put test elt [] acc env) Q := k
theorem w_lcC {x : Val} {xs acc : List Val} (hs : Wp (put x env) fun e1 => Wr (test e1) fun c e2 => (c = true → acc.length < sizeLine ∧ Wr (elt e2) fun y e3 => Wr (lcLoop put test elt xs (acc ++ [y]) e3) Q) ∧ (c = false → Wr (lcLoop put test elt xs acc e2) Q)) : Wr (lcLoop put test elt (x :: xs) acc env) Q := by
  unfold lcLoop
  cases z : put x env with
  | none => rw [z] at hs; exact hs.elim
  | some e1 =>
    rw [z] at hs
    refine Wr.bd (Wr.nx (Wr.mono hs fun c e2 h2 => ?_))
    cases c with
    | true =>
      rw [if_pos rfl]
      obtain ⟨hl, h3⟩ := h2.1 rfl
      refine Wr.bd (Wr.nx (Wr.mono h3 fun y e3 h4 => ?_))
      rw [if_pos hl]
      exact h4
    | false => exact h2.2 rfl
end
theorem feq_strs (s : Str) : ∀ ss : List Str, ((ss.map Val.str).any fun y => feq y (.str s)) = decide (s ∈ ss)
  | [] => by simp
  | t :: ts => by
    rw [List.map_cons, List.any_cons, feq_strs s ts]
    show (decide (t = s) || _) = _
    by_cases h : s = t
    · subst h; simp
    · have : ¬ t = s := fun e => h e.symm
      simp [h, this]
theorem flat_strs (ss : List Str) : (ss.map Val.str).all flat = true := by
  rw [List.all_eq_true]
  intro x hx
  obtain ⟨s, _, rfl⟩ := List.mem_map.mp hx
  rfl
theorem vin_strs (s : Str) (ss : List Str) : vin (.str s) (.lst (ss.map Val.str)) = some (decide (s ∈ ss)) := by
  show vmem _ _ = _
  unfold vmem
  rw [flat_strs]
  show some _ = _
  rw [feq_strs]
theorem wp_inS {s : Str} {ss : List Str} {Q : Bool → Prop} (k : Q (decide (s ∈ ss))) : Wp (cmp .inn (.str s) (.lst (ss.map Val.str))) Q := Wp.of (vin_strs s ss) k
theorem wp_notinS {s : Str} {ss : List Str} {Q : Bool → Prop} (k : Q (!decide (s ∈ ss))) : Wp (cmp .notin (.str s) (.lst (ss.map Val.str))) Q :=
  Wp.of (show (vin _ _).map (!·) = _ by rw [vin_strs]; rfl) k
/-! ### names -/
def abc : Str := "abcdefghijklmnopqrstuvwxyz"
def NameOk (s : Str) : Prop := s ∉ kept ∧ 1 ≤ s.length ∧ s.length ≤ 8 ∧ ∀ c ∈ chs s, 97 ≤ c ∧ c ≤ 122
theorem abc_in : ∀ c ∈ chs abc, 97 ≤ c ∧ c ≤ 122 := by decide +kernel
theorem abc_idx : ∀ c ∈ chs abc, ∃ k, vsidx (.str abc) (.str ⟨#[c]⟩) = some (.p (.int k)) ∧ 0 ≤ k ∧ k < 26 := by
  have h : ∀ c ∈ chs abc, (match (Builtin.Str.occurrences abc ⟨#[c]⟩ 0 abc.length 1).head? with | some k => decide (k < 26) | none => false) = true := by decide +kernel
  intro c hc
  have := h c hc
  split at this
  · rename_i k hk
    refine ⟨(k : Int), ?_, by omega, by have := of_decide_eq_true this; omega⟩
    show (Builtin.Str.occurrences abc ⟨#[c]⟩ 0 abc.length 1).head?.map _ = _
    rw [hk]; rfl
  · cases this
theorem chs_cut (x : Str) (lo hi : Option Int) : chs (cutS x lo hi) = ((chs x).drop (HT.sIx x.length 0 lo)).take (HT.sIx x.length x.length hi - HT.sIx x.length 0 lo) := by
  unfold cutS chs; simp
theorem chs_cut_mem {x : Str} {lo hi : Option Int} {c : Nat} (h : c ∈ chs (cutS x lo hi)) : c ∈ chs x := by
  rw [chs_cut] at h
  exact List.mem_of_mem_drop (List.mem_of_mem_take h)
theorem cut_to {x : Str} {i : Int} (h0 : 0 ≤ i) (h1 : i < x.length) : (cutS x none (some i)).length = i.toNat := by
  rw [← chs_len, chs_cut, List.length_take, List.length_drop, chs_len]
  show min ((if i < 0 then _ else min i.toNat x.length) - 0) (x.length - 0) = _
  rw [if_neg (by omega)]; omega
theorem cut_from {x : Str} {i : Int} (h0 : 0 ≤ i) (h1 : i ≤ x.length) : (cutS x (some i) none).length = x.length - i.toNat := by
  rw [← chs_len, chs_cut, List.length_take, List.length_drop, chs_len]
  show min (x.length - (if i < 0 then _ else min i.toNat x.length)) (x.length - (if i < 0 then _ else min i.toNat x.length)) = _
  rw [if_neg (by omega)]; omega
theorem cut_less {x : Str} (h : 1 ≤ x.length) : (cutS x none (some (-1))).length = x.length - 1 := by
  rw [← chs_len, chs_cut, List.length_take, List.length_drop, chs_len]
  show min ((if (-1 : Int) < 0 then ((-1 : Int) + (x.length : Int)).toNat else min (-1 : Int).toNat x.length) - 0) (x.length - 0) = _
  rw [if_pos (by decide)]; omega
section
variable {cl : Nat → List OV → CR} {gl : Nat → Option Val} {pr : List Bool} {env : Env}
/-- both ways of an if meet -/
theorem if_mid {c : Bool} {a b rest : List St} {Q : Fl → Env → Prop} (M : Env → Prop) (h1 : c = true → Wr (exs cl gl pr a env) fun f e => f = .nx ∧ M e) (h2 : c = false → Wr (exs cl gl pr b env) fun f e => f = .nx ∧ M e) (k : ∀ e, M e → Wr (exs cl gl pr rest e) Q) :
    (c = true → Wr (exs cl gl pr a env) (Th cl gl pr rest Q)) ∧ (c = false → Wr (exs cl gl pr b env) (Th cl gl pr rest Q)) :=
  ⟨fun h => w_mid M (h1 h) k, fun h => w_mid M (h2 h) k⟩
end
theorem gin_nm {vs : List Val} {s : Str} (h : s ∉ kept) : dget [Val.str "not", .str "neg", .str "twice", .str "low", .str "and", .str "or", .str "odd", .str "add", .str "sub", .str "pick", .str "same", .str "under", .str "beneath", .str "sign", .str "nought", .str "both", .str "either", .str "so", .str "never", .str "yes"] vs (.str s) = none := dget_no (ss := kept) h
theorem dget_in {s : Str} : ∀ {ss : List Str} {vs : List Val}, s ∈ ss → ss.length ≤ vs.length → (dget (ss.map Val.str) vs (.str s)).isSome = true
  | [], _, h, _ => (nomatch h)
  | t :: ts, [], _, hl => by simp at hl
  | t :: ts, v :: vs, h, hl => by
    show (if keq (.str t) (.str s) then some v else dget (ts.map Val.str) vs (.str s)).isSome = true
    by_cases e : t = s
    · rw [if_pos (by simp [keq, e])]; rfl
    · rw [if_neg (by simp [keq, e])]
      refine dget_in ?_ (by simpa using hl)
      rcases List.mem_cons.mp h with h | h
      · exact absurd h.symm e
      · exact h
theorem gin_kp {vs : List Val} {s : Str} (h : s ∈ kept) (hl : vs.length = 20) : (dget [Val.str "not", .str "neg", .str "twice", .str "low", .str "and", .str "or", .str "odd", .str "add", .str "sub", .str "pick", .str "same", .str "under", .str "beneath", .str "sign", .str "nought", .str "both", .str "either", .str "so", .str "never", .str "yes"] vs (.str s)).isSome = true := dget_in (ss := kept) h (by rw [hl]; decide)
theorem gget_nm {vs : List Val} {s : Str} (h : s ∉ kept) : (dget [Val.str "not", .str "neg", .str "twice", .str "low", .str "and", .str "or", .str "odd", .str "add", .str "sub", .str "pick", .str "same", .str "under", .str "beneath", .str "sign", .str "nought", .str "both", .str "either", .str "so", .str "never", .str "yes"] vs (.str s)).getD .non = .non := by rw [gin_nm h]; rfl
theorem gget_u1 (o : U1) : (dget [Val.str "not", .str "neg", .str "twice", .str "low", .str "and", .str "or", .str "odd", .str "add", .str "sub", .str "pick", .str "same", .str "under", .str "beneath", .str "sign", .str "nought", .str "both", .str "either", .str "so", .str "never", .str "yes"] [Val.str "sum", .str "sum", .str "sum", .str "sum", .str "sum", .str "sum", .str "sum", .str "sum", .str "sum", .str "sum", .str "claim", .str "claim", .str "claim", .str "claim", .str "claim", .str "claim", .str "claim", .str "claim", .str "claim", .str "claim"] (.str o.w)).getD .non = .str "sum" := by cases o <;> rfl
theorem gget_u2 (o : U2) : (dget [Val.str "not", .str "neg", .str "twice", .str "low", .str "and", .str "or", .str "odd", .str "add", .str "sub", .str "pick", .str "same", .str "under", .str "beneath", .str "sign", .str "nought", .str "both", .str "either", .str "so", .str "never", .str "yes"] [Val.str "sum", .str "sum", .str "sum", .str "sum", .str "sum", .str "sum", .str "sum", .str "sum", .str "sum", .str "sum", .str "claim", .str "claim", .str "claim", .str "claim", .str "claim", .str "claim", .str "claim", .str "claim", .str "claim", .str "claim"] (.str o.w)).getD .non = .str "sum" := by cases o <;> rfl
theorem gget_c1 (o : C1) : (dget [Val.str "not", .str "neg", .str "twice", .str "low", .str "and", .str "or", .str "odd", .str "add", .str "sub", .str "pick", .str "same", .str "under", .str "beneath", .str "sign", .str "nought", .str "both", .str "either", .str "so", .str "never", .str "yes"] [Val.str "sum", .str "sum", .str "sum", .str "sum", .str "sum", .str "sum", .str "sum", .str "sum", .str "sum", .str "sum", .str "claim", .str "claim", .str "claim", .str "claim", .str "claim", .str "claim", .str "claim", .str "claim", .str "claim", .str "claim"] (.str o.w)).getD .non = .str "claim" := by cases o <;> rfl
theorem gget_c2 (o : C2) : (dget [Val.str "not", .str "neg", .str "twice", .str "low", .str "and", .str "or", .str "odd", .str "add", .str "sub", .str "pick", .str "same", .str "under", .str "beneath", .str "sign", .str "nought", .str "both", .str "either", .str "so", .str "never", .str "yes"] [Val.str "sum", .str "sum", .str "sum", .str "sum", .str "sum", .str "sum", .str "sum", .str "sum", .str "sum", .str "sum", .str "claim", .str "claim", .str "claim", .str "claim", .str "claim", .str "claim", .str "claim", .str "claim", .str "claim", .str "claim"] (.str o.w)).getD .non = .str "claim" := by cases o <;> rfl
theorem gget_b2 (o : B2) : (dget [Val.str "not", .str "neg", .str "twice", .str "low", .str "and", .str "or", .str "odd", .str "add", .str "sub", .str "pick", .str "same", .str "under", .str "beneath", .str "sign", .str "nought", .str "both", .str "either", .str "so", .str "never", .str "yes"] [Val.str "sum", .str "sum", .str "sum", .str "sum", .str "sum", .str "sum", .str "sum", .str "sum", .str "sum", .str "sum", .str "claim", .str "claim", .str "claim", .str "claim", .str "claim", .str "claim", .str "claim", .str "claim", .str "claim", .str "claim"] (.str o.w)).getD .non = .str "claim" := by cases o <;> rfl
theorem gget_pick : (dget [Val.str "not", .str "neg", .str "twice", .str "low", .str "and", .str "or", .str "odd", .str "add", .str "sub", .str "pick", .str "same", .str "under", .str "beneath", .str "sign", .str "nought", .str "both", .str "either", .str "so", .str "never", .str "yes"] [Val.str "sum", .str "sum", .str "sum", .str "sum", .str "sum", .str "sum", .str "sum", .str "sum", .str "sum", .str "sum", .str "claim", .str "claim", .str "claim", .str "claim", .str "claim", .str "claim", .str "claim", .str "claim", .str "claim", .str "claim"] (.str "pick")).getD .non = .str "sum" := by rfl
theorem gget_yes : (dget [Val.str "not", .str "neg", .str "twice", .str "low", .str "and", .str "or", .str "odd", .str "add", .str "sub", .str "pick", .str "same", .str "under", .str "beneath", .str "sign", .str "nought", .str "both", .str "either", .str "so", .str "never", .str "yes"] [Val.str "sum", .str "sum", .str "sum", .str "sum", .str "sum", .str "sum", .str "sum", .str "sum", .str "sum", .str "sum", .str "claim", .str "claim", .str "claim", .str "claim", .str "claim", .str "claim", .str "claim", .str "claim", .str "claim", .str "claim"] (.str "yes")).getD .non = .str "claim" := by rfl
theorem gget_never : (dget [Val.str "not", .str "neg", .str "twice", .str "low", .str "and", .str "or", .str "odd", .str "add", .str "sub", .str "pick", .str "same", .str "under", .str "beneath", .str "sign", .str "nought", .str "both", .str "either", .str "so", .str "never", .str "yes"] [Val.str "sum", .str "sum", .str "sum", .str "sum", .str "sum", .str "sum", .str "sum", .str "sum", .str "sum", .str "sum", .str "claim", .str "claim", .str "claim", .str "claim", .str "claim", .str "claim", .str "claim", .str "claim", .str "claim", .str "claim"] (.str "never")).getD .non = .str "claim" := by rfl
/-- a word that is kept, or a name -/
def Wok (N : Str → Prop) (x : Val) : Prop := (∃ n, x = .int n) ∨ ∃ s, x = .str s ∧ (s ∈ kept ∨ N s)
theorem U1.kp (o : U1) : o.w ∈ kept := by cases o <;> decide +kernel
theorem U2.kp (o : U2) : o.w ∈ kept := by cases o <;> decide +kernel
theorem C1.kp (o : C1) : o.w ∈ kept := by cases o <;> decide +kernel
theorem C2.kp (o : C2) : o.w ∈ kept := by cases o <;> decide +kernel
theorem B2.kp (o : B2) : o.w ∈ kept := by cases o <;> decide +kernel
theorem Sm.wok {N : Str → Prop} : ∀ t : Sm, t.ok N → ∀ x ∈ t.wd, Wok N x
  | .num n, _, x, h => .inl ⟨n, List.mem_singleton.mp h⟩
  | .nam s, hs, x, h => .inr ⟨s, List.mem_singleton.mp h, .inr hs⟩
  | .o1 o a, ha, x, h => by
    rcases List.mem_cons.mp h with h | h
    · exact .inr ⟨_, h, .inl o.kp⟩
    · exact Sm.wok a ha x h
  | .o2 o a b, hab, x, h => by
    rcases List.mem_cons.mp h with h | h
    · exact .inr ⟨_, h, .inl o.kp⟩
    · rcases List.mem_append.mp h with h | h
      · exact Sm.wok a hab.1 x h
      · exact Sm.wok b hab.2 x h
  | .pk a b c, hab, x, h => by
    rcases List.mem_cons.mp h with h | h
    · exact .inr ⟨_, h, .inl (by decide +kernel)⟩
    · rcases List.mem_append.mp h with h | h
      · exact Sm.wok a hab.1 x h
      · rcases List.mem_append.mp h with h | h
        · exact Sm.wok b hab.2.1 x h
        · exact Sm.wok c hab.2.2 x h
theorem Cl.wok {N : Str → Prop} : ∀ t : Cl, t.ok N → ∀ x ∈ t.wd, Wok N x
  | .ys, _, x, h => .inr ⟨_, List.mem_singleton.mp h, .inl (by decide +kernel)⟩
  | .s1 o a, ha, x, h => by
    rcases List.mem_cons.mp h with h | h
    · exact .inr ⟨_, h, .inl o.kp⟩
    · exact Sm.wok a ha x h
  | .s2 o a b, hab, x, h => by
    rcases List.mem_cons.mp h with h | h
    · exact .inr ⟨_, h, .inl o.kp⟩
    · rcases List.mem_append.mp h with h | h
      · exact Sm.wok a hab.1 x h
      · exact Sm.wok b hab.2 x h
  | .nv a, ha, x, h => by
    rcases List.mem_cons.mp h with h | h
    · exact .inr ⟨_, h, .inl (by decide +kernel)⟩
    · exact Cl.wok a ha x h
  | .t2 o a b, hab, x, h => by
    rcases List.mem_cons.mp h with h | h
    · exact .inr ⟨_, h, .inl o.kp⟩
    · rcases List.mem_append.mp h with h | h
      · exact Cl.wok a hab.1 x h
      · exact Cl.wok b hab.2 x h
theorem Sm.ok_mono {N M : Str → Prop} (h : ∀ s, N s → M s) : ∀ t : Sm, t.ok N → t.ok M
  | .num _, k => k
  | .nam s, k => h s k
  | .o1 _ a, k => Sm.ok_mono h a k
  | .o2 _ a b, k => ⟨Sm.ok_mono h a k.1, Sm.ok_mono h b k.2⟩
  | .pk a b c, k => ⟨Sm.ok_mono h a k.1, Sm.ok_mono h b k.2.1, Sm.ok_mono h c k.2.2⟩
theorem Cl.ok_mono {N M : Str → Prop} (h : ∀ s, N s → M s) : ∀ t : Cl, t.ok N → t.ok M
  | .ys, k => k
  | .s1 _ a, k => a.ok_mono h k
  | .s2 _ a b, k => ⟨a.ok_mono h k.1, b.ok_mono h k.2⟩
  | .nv a, k => Cl.ok_mono h a k
  | .t2 _ a b, k => ⟨Cl.ok_mono h a k.1, Cl.ok_mono h b k.2⟩

/-! ### a sum under way -/
def OpenS (N : Str → Prop) (xs : List Val) (d : Nat) : Prop := ∀ ts : List Sm, ts.length = d → (∀ t ∈ ts, t.ok N) → ∃ t : Sm, t.ok N ∧ t.wd = xs ++ (ts.map Sm.wd).flatten
theorem OpenS.start {N : Str → Prop} : OpenS N [] 1 := fun ts hl h => by
  match ts, hl with
  | [t], _ => exact ⟨t, h t (by simp), by simp⟩
theorem OpenS.leaf {N : Str → Prop} {xs : List Val} {d : Nat} {x : Val} {t : Sm} (ht : t.ok N) (hx : t.wd = [x]) (h : OpenS N xs (d + 1)) : OpenS N (xs ++ [x]) d := fun ts hl hts => by
  obtain ⟨r, h1, h2⟩ := h (t :: ts) (by simp [hl]) (fun s hs => by
    rcases List.mem_cons.mp hs with rfl | hs
    · exact ht
    · exact hts s hs)
  exact ⟨r, h1, by rw [h2]; simp [hx]⟩
theorem OpenS.u {N : Str → Prop} {xs : List Val} {d : Nat} (o : U1) (h : OpenS N xs (d + 1)) : OpenS N (xs ++ [.str o.w]) (d + 1) := fun ts hl hts => by
  match ts, hl with
  | a :: ts, hl =>
    obtain ⟨r, h1, h2⟩ := h (.o1 o a :: ts) (by simpa using hl) (fun s hs => by
      rcases List.mem_cons.mp hs with rfl | hs
      · exact hts a (by simp)
      · exact hts s (by simp [hs]))
    exact ⟨r, h1, by rw [h2]; simp [Sm.wd]⟩
theorem OpenS.b {N : Str → Prop} {xs : List Val} {d : Nat} (o : U2) (h : OpenS N xs (d + 1)) : OpenS N (xs ++ [.str o.w]) (d + 2) := fun ts hl hts => by
  match ts, hl with
  | a :: b :: ts, hl =>
    obtain ⟨r, h1, h2⟩ := h (.o2 o a b :: ts) (by simpa using hl) (fun s hs => by
      rcases List.mem_cons.mp hs with rfl | hs
      · exact ⟨hts a (by simp), hts b (by simp)⟩
      · exact hts s (by simp [hs]))
    exact ⟨r, h1, by rw [h2]; simp [Sm.wd]⟩
theorem OpenS.pk {N : Str → Prop} {xs : List Val} {d : Nat} (h : OpenS N xs (d + 1)) : OpenS N (xs ++ [.str "pick"]) (d + 3) := fun ts hl hts => by
  match ts, hl with
  | a :: b :: c :: ts, hl =>
    obtain ⟨r, h1, h2⟩ := h (.pk a b c :: ts) (by simpa using hl) (fun s hs => by
      rcases List.mem_cons.mp hs with rfl | hs
      · exact ⟨hts a (by simp), hts b (by simp), hts c (by simp)⟩
      · exact hts s (by simp [hs]))
    exact ⟨r, h1, by rw [h2]; simp [Sm.wd]⟩
theorem OpenS.done {N : Str → Prop} {xs : List Val} (h : OpenS N xs 0) : ∃ t : Sm, t.ok N ∧ t.wd = xs := by
  obtain ⟨t, h1, h2⟩ := h [] rfl (fun _ z => (nomatch z))
  exact ⟨t, h1, by simpa using h2⟩
/-! ### names once more -/
theorem kept_ok : ∀ s ∈ kept, 1 ≤ s.length ∧ s.length ≤ 7 ∧ ∀ c ∈ chs s, 97 ≤ c ∧ c ≤ 122 := by decide +kernel
def cands : List Str := ["qa", "rb", "sc", "td"]
theorem cands_ok : ∀ s ∈ cands, s ∉ kept ∧ 1 ≤ s.length ∧ s.length ≤ 8 ∧ ∀ c ∈ chs s, 97 ≤ c ∧ c ≤ 122 := by decide +kernel
theorem cand_ex {ss : List Str} (h : ss.length ≤ 2) : ∃ s rest, cands.filter (fun s => !decide (s ∈ ss)) = s :: rest := by
  cases z : cands.filter (fun s => !decide (s ∈ ss)) with
  | cons s rest => exact ⟨s, rest, rfl⟩
  | nil =>
    exfalso
    have h1 : ∀ s ∈ cands, s ∈ ss := fun s hs => by
      have := List.filter_eq_nil_iff.mp z s hs
      simpa using this
    have a := h1 "qa" (by decide +kernel)
    have b := h1 "rb" (by decide +kernel)
    have c := h1 "sc" (by decide +kernel)
    have ab : ("qa" : Str) ≠ "rb" := by decide +kernel
    have ac : ("qa" : Str) ≠ "sc" := by decide +kernel
    have bc : ("rb" : Str) ≠ "sc" := by decide +kernel
    match ss, h with
    | [], _ => exact (nomatch a)
    | [x], _ =>
      rw [List.mem_singleton] at a b
      exact ab (a.trans b.symm)
    | [x, y], _ =>
      simp only [List.mem_cons, List.not_mem_nil, or_false] at a b c
      rcases a with a | a <;> rcases b with b | b <;> rcases c with c | c <;> first | exact ab (a.trans b.symm) | exact ac (a.trans c.symm) | exact bc (b.trans c.symm)
theorem nd_tk {ss : List Str} {i : Nat} {s : Str} (n : ss.Nodup) (h : ss[i]? = some s) : s ∉ ss.take i := by
  intro hm
  obtain ⟨j, hj⟩ := List.mem_iff_getElem?.mp hm
  rw [List.getElem?_take] at hj
  split at hj
  · rename_i lt
    have h1 := (List.getElem?_eq_some_iff.mp h).1
    have h2 := (List.getElem?_eq_some_iff.mp hj).1
    have := (List.getElem?_inj h1 n).mp (h.trans hj.symm)
    omega
  · cases hj
theorem tk_snoc {ss : List Str} {i : Nat} {s : Str} (h : ss[i]? = some s) : ss.take (i + 1) = ss.take i ++ [s] := by
  rw [List.take_add_one, h]; rfl
theorem bi_t {A B : Prop} (k : A) : (true = true → A) ∧ ((true = !true) → B) := ⟨fun _ => k, fun h => (nomatch h)⟩
theorem bi_f {A B : Prop} (k : B) : (false = true → A) ∧ ((false = !true) → B) := ⟨fun h => (nomatch h), fun _ => k⟩
theorem bi_t' {A B : Prop} (k : B) : (true = false → A) ∧ ((true = !false) → B) := ⟨fun h => (nomatch h), fun _ => k⟩
theorem bi_f' {A B : Prop} (k : A) : (false = false → A) ∧ ((false = !false) → B) := ⟨fun _ => k, fun h => (nomatch h)⟩
/-- what a dict tells -/
theorem tell {ss : List Str} {vs : List Int} (n : ss.Nodup) (hl : vs.length = ss.length) : ∃ f : Str → Int, ∀ (i : Nat) (s : Str), ss[i]? = some s → (vs.map Val.int)[i]? = some (.int (f s)) := by
  refine ⟨fun s => match dget (ss.map .str) (vs.map .int) (.str s) with | some (.int v) => v | _ => 0, fun i s h => ?_⟩
  have lt : i < vs.length := by rw [hl]; exact (List.getElem?_eq_some_iff.mp h).1
  have e : (vs.map Val.int)[i]? = some (.int vs[i]) := by rw [List.getElem?_map, List.getElem?_eq_getElem lt]; rfl
  rw [e]
  simp only [dget_at n h e]
end EN

/-! EnZD: words as texts: what reads a text back; flat rows compared. -/
namespace EN
open PySem L2

/-! ### flat rows -/
def Ft (x : Val) : Prop := (∃ n, x = .int n) ∨ ∃ s, x = .str s ∧ PyData.strOk s = true
theorem sok {s : Str} (h : ∀ c ∈ chs s, c ≤ 122) : PyData.strOk s = true := by
  show s.cps.all (· < 0x110000) = true
  rw [← Array.all_toList, List.all_eq_true]
  intro c hc
  have := h c hc
  exact decide_eq_true (by omega)
def fp : Val → PyData
  | .int n => .int n
  | .str s => .str s
  | _ => .none
theorem pds_fl : ∀ {xs : List Val}, (∀ x ∈ xs, Ft x) → pds xs = some (xs.map fp)
  | [], _ => rfl
  | x :: xs, h => by
    have ih := pds_fl (xs := xs) fun y hy => h y (by simp [hy])
    rcases h x (by simp) with ⟨n, rfl⟩ | ⟨s, rfl, _⟩ <;> (unfold pds; rw [ih]; rfl)
theorem lay_fl : ∀ {xs : List Val}, (∀ x ∈ xs, Ft x) → PyData.canLayAll0 (xs.map fp) = true
  | [], _ => rfl
  | x :: xs, h => by
    have ih := lay_fl (xs := xs) fun y hy => h y (by simp [hy])
    rcases h x (by simp) with ⟨n, rfl⟩ | ⟨s, rfl, hs⟩
    · show (_ && PyData.canLayAll0 (xs.map fp)) = true
      rw [ih]; rfl
    · show (PyData.strOk s && PyData.canLayAll0 (xs.map fp)) = true
      rw [ih, hs]; rfl
theorem depth_fl : ∀ {xs : List Val}, (∀ x ∈ xs, Ft x) → PyData.depthAll (xs.map fp) = 0
  | [], _ => rfl
  | x :: xs, h => by
    have ih := depth_fl (xs := xs) fun y hy => h y (by simp [hy])
    rcases h x (by simp) with ⟨n, rfl⟩ | ⟨s, rfl, _⟩ <;> (show max _ (PyData.depthAll (xs.map fp)) = 0; rw [ih]; rfl)
theorem eqv_fl : ∀ {xs : List Val}, (∀ x ∈ xs, Ft x) → PyData.eqvAll (xs.map fp) (xs.map fp) = true
  | [], _ => rfl
  | x :: xs, h => by
    have ih := eqv_fl (xs := xs) fun y hy => h y (by simp [hy])
    rcases h x (by simp) with ⟨n, rfl⟩ | ⟨s, rfl, _⟩
    · show ((n == n) && PyData.eqvAll (xs.map fp) (xs.map fp)) = true
      rw [ih]; simp
    · show ((s == s) && PyData.eqvAll (xs.map fp) (xs.map fp)) = true
      rw [ih]; simp
theorem eqv_strs : ∀ (xs ys : List Str), PyData.eqvAll (xs.map PyData.str) (ys.map PyData.str) = decide (xs = ys)
  | [], [] => rfl
  | [], _ :: _ => rfl
  | _ :: _, [] => rfl
  | x :: xs, y :: ys => by
    have ih := eqv_strs xs ys
    show ((x == y) && PyData.eqvAll (xs.map PyData.str) (ys.map PyData.str)) = _
    rw [ih]
    by_cases h : x = y
    · by_cases h2 : xs = ys
      · simp [h, h2]
      · simp [h, h2]
    · simp [h]
def Sok (ss : List Str) : Prop := ∀ s ∈ ss, PyData.strOk s = true
theorem sok_nil : Sok [] := fun _ h => (nomatch h)
theorem fl_strs {ss : List Str} (k : Sok ss) : ∀ x ∈ ss.map Val.str, Ft x := fun x h => by
  obtain ⟨s, hs, rfl⟩ := List.mem_map.mp h
  exact .inr ⟨s, rfl, k s hs⟩
theorem fp_strs (ss : List Str) : (ss.map Val.str).map fp = ss.map PyData.str := by rw [List.map_map]; rfl
theorem shaped_fl {xs : List Val} (h : ∀ x ∈ xs, Ft x) : SeqAt.shaped (.tuple (xs.map fp)) = true ∧ SeqAt.shaped (.list (xs.map fp)) = true := by
  unfold SeqAt.shaped
  have h1 : PyData.canLay0 (.tuple (xs.map fp)) = true := lay_fl h
  have h2 : PyData.depth (.tuple (xs.map fp)) = 1 := by
    show PyData.depthAll (xs.map fp) + 1 = 1
    rw [depth_fl h]
  have h3 : PyData.canLay0 (.list (xs.map fp)) = true := lay_fl h
  have h4 : PyData.depth (.list (xs.map fp)) = 1 := by
    show PyData.depthAll (xs.map fp) + 1 = 1
    rw [depth_fl h]
  rw [h1, h2, h3, h4]; exact ⟨rfl, rfl⟩
theorem pd_tupF {xs : List Val} (h : ∀ x ∈ xs, Ft x) : pd (.tup xs) = some (.tuple (xs.map fp)) := by
  show (pds xs).map PyData.tuple = _
  rw [pds_fl h]; rfl
theorem pd_lstF {xs : List Val} (h : ∀ x ∈ xs, Ft x) : pd (.lst xs) = some (.list (xs.map fp)) := by
  show (pds xs).map PyData.list = _
  rw [pds_fl h]; rfl
theorem veq_tupF {xs : List Val} (h : ∀ x ∈ xs, Ft x) : veq (.tup xs) (.tup xs) = some true := by
  unfold veq
  simp only [pd_tupF h, (shaped_fl h).1, Bool.and_self, if_true]
  exact congrArg some (eqv_fl h)
theorem veq_lstS {xs ys : List Str} (hx : Sok xs) (hy : Sok ys) : veq (.lst (xs.map Val.str)) (.lst (ys.map Val.str)) = some (decide (xs = ys)) := by
  unfold veq
  have ex := pd_lstF (fl_strs hx)
  have ey := pd_lstF (fl_strs hy)
  have a := (shaped_fl (fl_strs hx)).2
  have b := (shaped_fl (fl_strs hy)).2
  rw [fp_strs] at a b ex ey
  simp only [ex, ey, a, b, Bool.and_self, if_true]
  exact congrArg some (eqv_strs xs ys)
theorem veq_tupS {xs ys : List Str} (hx : Sok xs) (hy : Sok ys) : veq (.tup (xs.map Val.str)) (.tup (ys.map Val.str)) = some (decide (xs = ys)) := by
  unfold veq
  have ex := pd_tupF (fl_strs hx)
  have ey := pd_tupF (fl_strs hy)
  have a := (shaped_fl (fl_strs hx)).1
  have b := (shaped_fl (fl_strs hy)).1
  rw [fp_strs] at a b ex ey
  simp only [ex, ey, a, b, Bool.and_self, if_true]
  exact congrArg some (eqv_strs xs ys)
theorem wp_neTx {xs : List Val} {Q : Bool → Prop} (h : ∀ x ∈ xs, Ft x) (k : Q false) : Wp (cmp .ne (.tup xs) (.tup xs)) Q :=
  Wp.of (show (veq (.tup xs) (.tup xs)).map (!·) = some false by rw [veq_tupF h]; rfl) k
theorem wp_eqTx {xs : List Val} {Q : Bool → Prop} (h : ∀ x ∈ xs, Ft x) (k : Q true) : Wp (cmp .eq (.tup xs) (.tup xs)) Q := Wp.of (veq_tupF h) k
theorem wp_eqLS {xs ys : List Str} {Q : Bool → Prop} (hx : Sok xs) (hy : Sok ys) (k : Q (decide (xs = ys))) : Wp (cmp .eq (.lst (xs.map Val.str)) (.lst (ys.map Val.str))) Q := Wp.of (veq_lstS hx hy) k
theorem wp_neLS {xs ys : List Str} {Q : Bool → Prop} (hx : Sok xs) (hy : Sok ys) (k : Q (!decide (xs = ys))) : Wp (cmp .ne (.lst (xs.map Val.str)) (.lst (ys.map Val.str))) Q :=
  Wp.of (show (veq (.lst (xs.map Val.str)) (.lst (ys.map Val.str))).map (!·) = some (!decide (xs = ys)) by rw [veq_lstS hx hy]; rfl) k
theorem wp_neTS {xs ys : List Str} {Q : Bool → Prop} (hx : Sok xs) (hy : Sok ys) (k : Q (!decide (xs = ys))) : Wp (cmp .ne (.tup (xs.map Val.str)) (.tup (ys.map Val.str))) Q :=
  Wp.of (show (veq (.tup (xs.map Val.str)) (.tup (ys.map Val.str))).map (!·) = some (!decide (xs = ys)) by rw [veq_tupS hx hy]; rfl) k
/-- due is not done -/
theorem wp_eqL0 {xs : List Str} {Q : Bool → Prop} (hx : Sok xs) (k : Q (decide (xs = []))) : Wp (cmp .eq (.lst (xs.map Val.str)) (.lst [])) Q := wp_eqLS (ys := []) hx sok_nil k
theorem wp_neL0 {xs : List Str} {Q : Bool → Prop} (hx : Sok xs) (k : Q (!decide (xs = []))) : Wp (cmp .ne (.lst (xs.map Val.str)) (.lst [])) Q := wp_neLS (ys := []) hx sok_nil k

/-! ### signs -/
theorem wp_sign {c : Nat} {t : Str} {Q : Bool → Prop} (k : Q (decide (c ∈ chs t))) : Wp (cmp .inn (.str ⟨#[c]⟩) (.str t)) Q :=
  Wp.of (show some (!(Builtin.Str.occurrences t ⟨#[c]⟩ 0 t.length 1).isEmpty) = some _ from congrArg some (PySem.StrLaws.found_one t c)) k
theorem asBls_map {α : Type} (f : α → Bool) : ∀ xs : List α, asBls (xs.map fun x => Val.bl (f x)) = some (xs.map f)
  | [] => rfl
  | x :: xs => by
    show (asBls (xs.map fun x => Val.bl (f x))).map (f x :: ·) = _
    rw [asBls_map f xs]; rfl
theorem wp_allB {α : Type} {f : α → Bool} {xs : List α} {Q : OV → Prop} (k : Q (.p (.bl (xs.all f)))) : Wp (bi .all [.lst (xs.map fun x => Val.bl (f x))]) Q := by
  refine Wp.of (a := .p (.bl (xs.all f))) ?_ k
  show (asBls (xs.map fun x => Val.bl (f x))).map _ = _
  rw [asBls_map]
  simp [List.all_map]
theorem wp_strI {n : Int} {Q : OV → Prop} (h : n.natAbs.log2 < 1920) (k : Q (.p (.str (toString n)))) : Wp (bi .str [.int n]) Q :=
  Wp.of (show (if n.natAbs.log2 < 1920 then some (OV.p (.str (toString n))) else none) = _ by rw [if_pos h]) k
theorem wp_strS {s : Str} {Q : OV → Prop} (k : Q (.p (.str s))) : Wp (bi .str [.str s]) Q := Wp.of rfl k
theorem wp_intS {s : Str} {n : Int} {Q : OV → Prop} (h : s.length ≤ 640) (e : PySem.intText? s = some n) (k : Q (.p (.int n))) : Wp (bi .int [.str s]) Q :=
  Wp.of (show (if s.length ≤ 640 then (PySem.intText? s).map fun n => OV.p (.int n) else none) = _ by rw [if_pos h, e]; rfl) k

/-! ### numbers as texts -/
def txt : Val → Str
  | .int n => toString n
  | .str s => s
  | _ => ""
def numF (s : Str) (n : Int) : Bool := decide (PySem.intText? s = some n) && decide (1 ≤ s.length) && decide (s.length ≤ 3) && ((chs s).all fun c => decide (c ∈ chs "0123456789")) && (!decide ((chs s)[0]? = some 48) || decide (s = "0"))
theorem num_ok {n : Int} (h0 : 0 ≤ n) (h1 : n < 1000) : PySem.intText? (toString n) = some n ∧ 1 ≤ (txt (.int n)).length ∧ (txt (.int n)).length ≤ 3 ∧ (∀ c ∈ chs (txt (.int n)), c ∈ chs "0123456789") ∧ ((chs (txt (.int n)))[0]? = some 48 → txt (.int n) = "0") := by
  have h : ∀ k : Fin 1000, numF (toString ((k.val : Nat) : Int)) ((k.val : Nat) : Int) = true := by decide +kernel
  have e := h ⟨n.toNat, by omega⟩
  have e2 : (((⟨n.toNat, by omega⟩ : Fin 1000).val : Nat) : Int) = n := by show ((n.toNat : Nat) : Int) = n; omega
  rw [e2] at e
  unfold numF at e
  simp only [Bool.and_eq_true, decide_eq_true_eq, List.all_eq_true, Bool.or_eq_true, Bool.not_eq_true', decide_eq_false_iff_not] at e
  obtain ⟨⟨⟨⟨a, b⟩, c⟩, d⟩, f⟩ := e
  refine ⟨a, b, c, d, fun g => ?_⟩
  rcases f with f | f
  · exact (f g).elim
  · exact f
/-- a word of a sum or a claim, as it may stand in a text -/
def Tw (x : Val) : Prop := (∃ n, x = .int n ∧ 0 ≤ n ∧ n < 1000) ∨ ∃ s, x = .str s ∧ (s ∈ kept ∨ NameOk s)
theorem sok_kn {s : Str} (h : s ∈ kept ∨ NameOk s) : PyData.strOk s = true := by
  rcases h with h | h
  · exact sok fun c hc => ((kept_ok s h).2.2 c hc).2
  · exact sok fun c hc => (h.2.2.2 c hc).2
theorem tw_fl {x : Val} (h : Tw x) : Ft x := by
  rcases h with ⟨n, rfl, _⟩ | ⟨s, rfl, h⟩
  · exact .inl ⟨n, rfl⟩
  · exact .inr ⟨s, rfl, sok_kn h⟩
theorem tw_txt {x : Val} (h : Tw x) : 1 ≤ (txt x).length ∧ (txt x).length ≤ 8 ∧ 32 ∉ chs (txt x) := by
  have dig : (32 : Nat) ∉ chs "0123456789" := by decide +kernel
  rcases h with ⟨n, rfl, h0, h1⟩ | ⟨s, rfl, h | h⟩
  · obtain ⟨_, a, b, c, _⟩ := num_ok h0 h1
    exact ⟨a, by omega, fun m => dig (c _ m)⟩
  · obtain ⟨a, b, c⟩ := kept_ok s h
    exact ⟨a, by show s.length ≤ 8; omega, fun m => by have := c _ m; omega⟩
  · exact ⟨h.2.1, h.2.2.1, fun m => by have := h.2.2.2 _ m; omega⟩
theorem Sm.tw {N : Str → Prop} (hN : ∀ s, N s → NameOk s) : ∀ t : Sm, t.ok N → ∀ x ∈ t.wd, Tw x
  | .num n, h, x, hx => .inl ⟨n, List.mem_singleton.mp hx, h⟩
  | .nam s, h, x, hx => .inr ⟨s, List.mem_singleton.mp hx, .inr (hN s h)⟩
  | .o1 o a, ha, x, h => by
    rcases List.mem_cons.mp h with h | h
    · exact .inr ⟨_, h, .inl o.kp⟩
    · exact Sm.tw hN a ha x h
  | .o2 o a b, hab, x, h => by
    rcases List.mem_cons.mp h with h | h
    · exact .inr ⟨_, h, .inl o.kp⟩
    · rcases List.mem_append.mp h with h | h
      · exact Sm.tw hN a hab.1 x h
      · exact Sm.tw hN b hab.2 x h
  | .pk a b c, hab, x, h => by
    rcases List.mem_cons.mp h with h | h
    · exact .inr ⟨_, h, .inl (by decide +kernel)⟩
    · rcases List.mem_append.mp h with h | h
      · exact Sm.tw hN a hab.1 x h
      · rcases List.mem_append.mp h with h | h
        · exact Sm.tw hN b hab.2.1 x h
        · exact Sm.tw hN c hab.2.2 x h
theorem Cl.tw {N : Str → Prop} (hN : ∀ s, N s → NameOk s) : ∀ t : Cl, t.ok N → ∀ x ∈ t.wd, Tw x
  | .ys, _, x, h => .inr ⟨_, List.mem_singleton.mp h, .inl (by decide +kernel)⟩
  | .s1 o a, ha, x, h => by
    rcases List.mem_cons.mp h with h | h
    · exact .inr ⟨_, h, .inl o.kp⟩
    · exact Sm.tw hN a ha x h
  | .s2 o a b, hab, x, h => by
    rcases List.mem_cons.mp h with h | h
    · exact .inr ⟨_, h, .inl o.kp⟩
    · rcases List.mem_append.mp h with h | h
      · exact Sm.tw hN a hab.1 x h
      · exact Sm.tw hN b hab.2 x h
  | .nv a, ha, x, h => by
    rcases List.mem_cons.mp h with h | h
    · exact .inr ⟨_, h, .inl (by decide +kernel)⟩
    · exact Cl.tw hN a ha x h
  | .t2 o a b, hab, x, h => by
    rcases List.mem_cons.mp h with h | h
    · exact .inr ⟨_, h, .inl o.kp⟩
    · rcases List.mem_append.mp h with h | h
      · exact Cl.tw hN a hab.1 x h
      · exact Cl.tw hN b hab.2 x h
/-- the text that writes words -/
def tx (ws : List Val) : Str := Txt.join (Str.ofString " ") (ws.map txt)
theorem sum_le {ws : List Val} (h : ∀ x ∈ ws, Tw x) : ((ws.map txt).map (·.length)).sum ≤ 8 * ws.length := by
  induction ws with
  | nil => simp
  | cons x xs ih =>
    have := ih fun y hy => h y (by simp [hy])
    have := (tw_txt (h x (by simp))).2.1
    simp only [List.map_cons, List.sum_cons, List.length_cons]
    omega
theorem wp_tx {ws : List Val} {Q : OV → Prop} (h : ∀ x ∈ ws, Tw x) (hl : ws.length ≤ 10000) (k : Q (.p (.str (tx ws)))) : Wp (vjn (Str.ofString " ") (.lst ((ws.map txt).map Val.str))) Q := by
  have j : joinOk (Str.ofString " ") (ws.map txt) := by
    unfold joinOk
    have := sum_le h
    have e : (Str.ofString " ").length = 1 := rfl
    rw [e, List.length_map]
    omega
  refine Wp.of (a := .p (.str (tx ws))) ?_ k
  unfold vjn
  show (match asStrs ((ws.map txt).map Val.str) with | some ys => if joinOk (Str.ofString " ") ys then some (OV.p (.str (Txt.join (Str.ofString " ") ys))) else none | none => none) = _
  rw [asStrs_map]
  dsimp only
  rw [if_pos j]
  rfl
theorem joinL_len (y : List Nat) : ∀ ps : List (List Nat), (TL.joinL y ps).length ≤ (ps.map (·.length)).sum + ps.length * y.length
  | [] => by simp [TL.joinL]
  | [p] => by simp [TL.joinL]
  | p :: q :: r => by
    have ih := joinL_len y (q :: r)
    show (p ++ (y ++ TL.joinL y (q :: r))).length ≤ _
    rw [List.length_append, List.length_append, List.map_cons, List.sum_cons, List.length_cons, Nat.add_mul]
    omega
theorem tx_len {ws : List Val} (h : ∀ x ∈ ws, Tw x) : (tx ws).length ≤ 9 * ws.length := by
  have e : (chs (tx ws)).length ≤ 9 * ws.length := by
    show (TL.tl (Txt.join (Str.ofString " ") (ws.map txt))).length ≤ _
    rw [TL.join_eq, TL.tl_join]
    have h1 := joinL_len (TL.tl (Str.ofString " ")) ((ws.map txt).map TL.tl)
    have h2 := sum_le h
    have e1 : (TL.tl (Str.ofString " ")).length = 1 := rfl
    have e2 : ((ws.map txt).map TL.tl).map (·.length) = (ws.map txt).map (·.length) := by
      rw [List.map_map]
      refine List.map_congr_left fun s _ => ?_
      show (TL.tl s).length = s.length
      exact chs_len s
    rw [e1, e2, List.length_map, List.length_map] at h1
    omega
  rwa [chs_len] at e
theorem tx_split {ws : List Val} (h : ∀ x ∈ ws, Tw x) (h0 : 0 < ws.length) (hl : ws.length ≤ 10000) : vspl (tx ws) (Str.ofString " ") = some (.l ((ws.map txt).map Val.str)) := by
  have e : Txt.split (tx ws) (Str.ofString " ") = ws.map txt := TL.split_join (y := Str.ofString " ") (s := 32) (S := []) rfl (by decide +kernel) (fun e => by rw [List.map_eq_nil_iff] at e; rw [e] at h0; simp at h0) fun p hp => by
    obtain ⟨x, hx, rfl⟩ := List.mem_map.mp hp
    exact (tw_txt (h x hx)).2.2
  unfold vspl
  rw [if_pos ⟨rfl, Nat.le_trans (Nat.add_le_add_right (tx_len h) 2) (sizeLine_ge (by omega))⟩, e]
end EN

/-! EnZE: the walk over the texts of a sum's or a claim's words, forward, with what is due. -/
namespace EN
open PySem L2
abbrev kS : Str := "sum"
abbrev kC : Str := "claim"
def tbl : List (Str × Str × List Str) := [("not", "sum", ["sum"]), ("neg", "sum", ["sum"]), ("twice", "sum", ["sum"]), ("low", "sum", ["sum"]), ("and", "sum", ["sum", "sum"]), ("or", "sum", ["sum", "sum"]), ("odd", "sum", ["sum", "sum"]), ("add", "sum", ["sum", "sum"]), ("sub", "sum", ["sum", "sum"]), ("pick", "sum", ["sum", "sum", "sum"]), ("same", "claim", ["sum", "sum"]), ("under", "claim", ["sum", "sum"]), ("beneath", "claim", ["sum", "sum"]), ("sign", "claim", ["sum"]), ("nought", "claim", ["sum"]), ("both", "claim", ["claim", "claim"]), ("either", "claim", ["claim", "claim"]), ("so", "claim", ["claim", "claim"]), ("never", "claim", ["claim"]), ("yes", "claim", [])]
def Kw (s k : Str) (ps : List Str) : Prop := (s, k, ps) ∈ tbl
theorem kw_kept {s k : Str} {ps : List Str} (h : Kw s k ps) : s ∈ kept := by
  have : ∀ r ∈ tbl, r.1 ∈ kept := by decide +kernel
  exact this _ h
theorem kw_rev {s k : Str} {ps : List Str} (h : Kw s k ps) : ps.reverse = ps := by
  have : ∀ r ∈ tbl, r.2.2.reverse = r.2.2 := by decide +kernel
  exact this _ h
theorem kw_k {s k : Str} {ps : List Str} (h : Kw s k ps) : k = "sum" ∨ k = "claim" := by
  have : ∀ r ∈ tbl, r.2.1 = "sum" ∨ r.2.1 = "claim" := by decide +kernel
  exact this _ h
theorem kw_ps {s k : Str} {ps : List Str} (h : Kw s k ps) : ps.length ≤ 3 := by
  have : ∀ r ∈ tbl, r.2.2.length ≤ 3 := by decide +kernel
  exact this _ h
theorem kw_pss {s k : Str} {ps : List Str} (h : Kw s k ps) : ∀ p ∈ ps, p = "sum" ∨ p = "claim" := by
  have : ∀ r ∈ tbl, ∀ p ∈ r.2.2, p = "sum" ∨ p = "claim" := by decide +kernel
  exact this _ h
theorem kw_kind {s k : Str} {ps : List Str} (h : Kw s k ps) : (dget [Val.str "not", .str "neg", .str "twice", .str "low", .str "and", .str "or", .str "odd", .str "add", .str "sub", .str "pick", .str "same", .str "under", .str "beneath", .str "sign", .str "nought", .str "both", .str "either", .str "so", .str "never", .str "yes"] [Val.str "sum", Val.str "sum", Val.str "sum", Val.str "sum", Val.str "sum", Val.str "sum", Val.str "sum", Val.str "sum", Val.str "sum", Val.str "sum", Val.str "claim", Val.str "claim", Val.str "claim", Val.str "claim", Val.str "claim", Val.str "claim", Val.str "claim", Val.str "claim", Val.str "claim", Val.str "claim"] (.str s)).getD .non = .str k := by
  unfold Kw tbl at h
  simp only [List.mem_cons, List.not_mem_nil, or_false, Prod.mk.injEq] at h
  rcases h with ⟨rfl, rfl, rfl⟩ | ⟨rfl, rfl, rfl⟩ | ⟨rfl, rfl, rfl⟩ | ⟨rfl, rfl, rfl⟩ | ⟨rfl, rfl, rfl⟩ | ⟨rfl, rfl, rfl⟩ | ⟨rfl, rfl, rfl⟩ | ⟨rfl, rfl, rfl⟩ | ⟨rfl, rfl, rfl⟩ | ⟨rfl, rfl, rfl⟩ | ⟨rfl, rfl, rfl⟩ | ⟨rfl, rfl, rfl⟩ | ⟨rfl, rfl, rfl⟩ | ⟨rfl, rfl, rfl⟩ | ⟨rfl, rfl, rfl⟩ | ⟨rfl, rfl, rfl⟩ | ⟨rfl, rfl, rfl⟩ | ⟨rfl, rfl, rfl⟩ | ⟨rfl, rfl, rfl⟩ | ⟨rfl, rfl, rfl⟩ <;> rfl
theorem kw_part {s k : Str} {ps : List Str} (h : Kw s k ps) : dget [Val.str "not", .str "neg", .str "twice", .str "low", .str "and", .str "or", .str "odd", .str "add", .str "sub", .str "pick", .str "same", .str "under", .str "beneath", .str "sign", .str "nought", .str "both", .str "either", .str "so", .str "never", .str "yes"] [Val.tup [.str "sum"], .tup [.str "sum"], .tup [.str "sum"], .tup [.str "sum"], .tup [.str "sum", .str "sum"], .tup [.str "sum", .str "sum"], .tup [.str "sum", .str "sum"], .tup [.str "sum", .str "sum"], .tup [.str "sum", .str "sum"], .tup [.str "sum", .str "sum", .str "sum"], .tup [.str "sum", .str "sum"], .tup [.str "sum", .str "sum"], .tup [.str "sum", .str "sum"], .tup [.str "sum"], .tup [.str "sum"], .tup [.str "claim", .str "claim"], .tup [.str "claim", .str "claim"], .tup [.str "claim", .str "claim"], .tup [.str "claim"], .tup []] (.str s) = some (.tup (ps.map Val.str)) := by
  unfold Kw tbl at h
  simp only [List.mem_cons, List.not_mem_nil, or_false, Prod.mk.injEq] at h
  rcases h with ⟨rfl, rfl, rfl⟩ | ⟨rfl, rfl, rfl⟩ | ⟨rfl, rfl, rfl⟩ | ⟨rfl, rfl, rfl⟩ | ⟨rfl, rfl, rfl⟩ | ⟨rfl, rfl, rfl⟩ | ⟨rfl, rfl, rfl⟩ | ⟨rfl, rfl, rfl⟩ | ⟨rfl, rfl, rfl⟩ | ⟨rfl, rfl, rfl⟩ | ⟨rfl, rfl, rfl⟩ | ⟨rfl, rfl, rfl⟩ | ⟨rfl, rfl, rfl⟩ | ⟨rfl, rfl, rfl⟩ | ⟨rfl, rfl, rfl⟩ | ⟨rfl, rfl, rfl⟩ | ⟨rfl, rfl, rfl⟩ | ⟨rfl, rfl, rfl⟩ | ⟨rfl, rfl, rfl⟩ | ⟨rfl, rfl, rfl⟩ <;> rfl
theorem kw_u1 (o : U1) : Kw o.w "sum" ["sum"] := by cases o <;> (unfold Kw; decide +kernel)
theorem kw_u2 (o : U2) : Kw o.w "sum" ["sum", "sum"] := by cases o <;> (unfold Kw; decide +kernel)
theorem kw_c1 (o : C1) : Kw o.w "claim" ["sum"] := by cases o <;> (unfold Kw; decide +kernel)
theorem kw_c2 (o : C2) : Kw o.w "claim" ["sum", "sum"] := by cases o <;> (unfold Kw; decide +kernel)
theorem kw_b2 (o : B2) : Kw o.w "claim" ["claim", "claim"] := by cases o <;> (unfold Kw; decide +kernel)
theorem kw_pk : Kw "pick" "sum" ["sum", "sum", "sum"] := by unfold Kw; decide +kernel
theorem kw_nv : Kw "never" "claim" ["claim"] := by unfold Kw; decide +kernel
theorem kw_ys : Kw "yes" "claim" [] := by unfold Kw; decide +kernel
/-- the first sign of a word that is no number -/
theorem first_kn {s : Str} (h : s ∈ kept ∨ NameOk s) : ∃ c, (chs s)[0]? = some c ∧ 97 ≤ c ∧ s.length ≤ 8 := by
  have hh : 1 ≤ s.length ∧ s.length ≤ 8 ∧ ∀ c ∈ chs s, 97 ≤ c := by
    rcases h with h | h
    · obtain ⟨a, b, c⟩ := kept_ok s h
      exact ⟨a, by omega, fun d hd => (c d hd).1⟩
    · exact ⟨h.2.1, h.2.2.1, fun d hd => (h.2.2.2 d hd).1⟩
  obtain ⟨a, b, c⟩ := hh
  rw [← chs_len] at a
  exact ⟨(chs s)[0], List.getElem?_eq_getElem (by omega), c _ (List.getElem_mem _), b⟩
/-- the kinds of a list of kinds -/
def Ks (D : List Str) : Prop := ∀ k ∈ D, k = "sum" ∨ k = "claim"
theorem Ks.sok {D : List Str} (h : Ks D) : Sok D := fun k hk => by
  rcases h k hk with rfl | rfl <;> decide +kernel
theorem Ks.app {D E : List Str} (h : Ks D) (h2 : Ks E) : Ks (D ++ E) := fun k hk => by
  rcases List.mem_append.mp hk with hk | hk
  · exact h k hk
  · exact h2 k hk
section
variable {put : Val → Env → Option Env} {body : Env → R Fl} {Q : Fl → Env → Prop}
def St2 (put : Val → Env → Option Env) (body : Env → R Fl) (E : List Str → List Val → Env → Prop) (B : Nat) (x : Val) (D D' : List Str) (xs : List Val) : Prop :=
  D'.length ≤ B → xs.length < B → Ks D → ∀ e, E D xs e → Wp (put (.str (txt x)) e) fun e1 => Wr (body e1) fun fl e2 => fl = .nx ∧ E D' (xs ++ [x]) e2
theorem St2.go {E : List Str → List Val → Env → Prop} {B : Nat} {x : Val} {D D' : List Str} {xs : List Val} {rest : List Val} {e : Env} (h : St2 put body E B x D D' xs) (b1 : D'.length ≤ B) (b2 : xs.length < B) (hk : Ks D) (he : E D xs e) (k : ∀ e', E D' (xs ++ [x]) e' → Wr (forLoop put body rest e') Q) : Wr (forLoop put body (.str (txt x) :: rest) e) Q := by
  refine w_forC ?_
  have t := h b1 b2 hk e he
  cases z : put (.str (txt x)) e with
  | none => rw [z] at t; exact t.elim
  | some e1 =>
    rw [z] at t
    exact Wr.mono t fun fl e2 h2 => ⟨h2.1, k e2 h2.2⟩
theorem ks1 {D : List Str} (h : Ks D) : Ks (D ++ [kS]) := h.app fun k hk => .inl (List.mem_singleton.mp hk)
theorem ks2 {D : List Str} (h : Ks D) : Ks (D ++ [kC]) := h.app fun k hk => .inr (List.mem_singleton.mp hk)
theorem rs_walk {E : List Str → List Val → Env → Prop} {B : Nat} {N : Str → Prop}
    (h1 : ∀ n D xs, 0 ≤ n → n < 1000 → St2 put body E B (.int n) (D ++ [kS]) D xs)
    (h2 : ∀ s D xs, N s → St2 put body E B (.str s) (D ++ [kS]) D xs)
    (h3 : ∀ s k ps D xs, Kw s k ps → St2 put body E B (.str s) (D ++ [k]) (D ++ ps) xs) :
    ∀ (t : Sm), t.ok N → ∀ (rest : List Val) (D : List Str) (xs : List Val) (e : Env) (Q : Fl → Env → Prop), Ks D → D.length + t.wd.length ≤ B → xs.length + t.wd.length ≤ B → E (D ++ [kS]) xs e → (∀ e', E D (xs ++ t.wd) e' → Wr (forLoop put body rest e') Q) → Wr (forLoop put body (t.wd.map (fun x => Val.str (txt x)) ++ rest) e) Q
  | .num n, h, rest, D, xs, e, Q, hk, b1, b2, he, k => (h1 n D xs h.1 h.2).go (by simp [Sm.wd] at b1; omega) (by simp [Sm.wd] at b2; omega) (ks1 hk) he k
  | .nam s, h, rest, D, xs, e, Q, hk, b1, b2, he, k => (h2 s D xs h).go (by simp [Sm.wd] at b1; omega) (by simp [Sm.wd] at b2; omega) (ks1 hk) he k
  | .o1 o a, h, rest, D, xs, e, Q, hk, b1, b2, he, k => by
    simp only [Sm.wd, List.length_cons, List.map_cons, List.cons_append] at b1 b2 k ⊢
    have := a.wd_pos
    refine (h3 o.w kS [kS] D xs (kw_u1 o)).go (by simp; omega) (by omega) (ks1 hk) he fun e1 he1 => ?_
    refine rs_walk h1 h2 h3 a h rest D (xs ++ [Val.str o.w]) e1 Q hk (by omega) (by simp; omega) he1 fun e2 he2 => k e2 ?_
    simpa using he2
  | .o2 o a b, h, rest, D, xs, e, Q, hk, b1, b2, he, k => by
    simp only [Sm.wd, List.length_cons, List.length_append, List.map_cons, List.map_append, List.cons_append, List.append_assoc] at b1 b2 k ⊢
    have := a.wd_pos
    have := b.wd_pos
    refine (h3 o.w kS [kS, kS] D xs (kw_u2 o)).go (by simp; omega) (by omega) (ks1 hk) he fun e1 he1 => ?_
    refine rs_walk h1 h2 h3 a h.1 _ (D ++ [kS]) (xs ++ [Val.str o.w]) e1 Q (ks1 hk) (by simp; omega) (by simp; omega) (by simpa using he1) fun e2 he2 => ?_
    refine rs_walk h1 h2 h3 b h.2 rest D (xs ++ [Val.str o.w] ++ a.wd) e2 Q hk (by omega) (by simp; omega) he2 fun e3 he3 => k e3 ?_
    simpa using he3
  | .pk a b c, h, rest, D, xs, e, Q, hk, b1, b2, he, k => by
    simp only [Sm.wd, List.length_cons, List.length_append, List.map_cons, List.map_append, List.cons_append, List.append_assoc] at b1 b2 k ⊢
    have := a.wd_pos
    have := b.wd_pos
    have := c.wd_pos
    refine (h3 "pick" kS [kS, kS, kS] D xs kw_pk).go (by simp; omega) (by omega) (ks1 hk) he fun e1 he1 => ?_
    refine rs_walk h1 h2 h3 a h.1 _ (D ++ [kS] ++ [kS]) (xs ++ [Val.str "pick"]) e1 Q (ks1 (ks1 hk)) (by simp; omega) (by simp; omega) (by simpa using he1) fun e2 he2 => ?_
    refine rs_walk h1 h2 h3 b h.2.1 _ (D ++ [kS]) (xs ++ [Val.str "pick"] ++ a.wd) e2 Q (ks1 hk) (by simp; omega) (by simp; omega) he2 fun e3 he3 => ?_
    refine rs_walk h1 h2 h3 c h.2.2 rest D (xs ++ [Val.str "pick"] ++ a.wd ++ b.wd) e3 Q hk (by omega) (by simp; omega) he3 fun e4 he4 => k e4 ?_
    simpa using he4
theorem rc_walk {E : List Str → List Val → Env → Prop} {B : Nat} {N : Str → Prop}
    (hs : ∀ (t : Sm), t.ok N → ∀ (rest : List Val) (D : List Str) (xs : List Val) (e : Env) (Q : Fl → Env → Prop), Ks D → D.length + t.wd.length ≤ B → xs.length + t.wd.length ≤ B → E (D ++ [kS]) xs e → (∀ e', E D (xs ++ t.wd) e' → Wr (forLoop put body rest e') Q) → Wr (forLoop put body (t.wd.map (fun x => Val.str (txt x)) ++ rest) e) Q)
    (h3 : ∀ s k ps D xs, Kw s k ps → St2 put body E B (.str s) (D ++ [k]) (D ++ ps) xs) :
    ∀ (t : Cl), t.ok N → ∀ (rest : List Val) (D : List Str) (xs : List Val) (e : Env) (Q : Fl → Env → Prop), Ks D → D.length + t.wd.length ≤ B → xs.length + t.wd.length ≤ B → E (D ++ [kC]) xs e → (∀ e', E D (xs ++ t.wd) e' → Wr (forLoop put body rest e') Q) → Wr (forLoop put body (t.wd.map (fun x => Val.str (txt x)) ++ rest) e) Q
  | .ys, h, rest, D, xs, e, Q, hk, b1, b2, he, k => (h3 "yes" kC [] D xs kw_ys).go (by simp [Cl.wd] at b1 ⊢; omega) (by simp [Cl.wd] at b2; omega) (ks2 hk) he fun e1 he1 => k e1 (by simpa [Cl.wd] using he1)
  | .s1 o a, h, rest, D, xs, e, Q, hk, b1, b2, he, k => by
    simp only [Cl.wd, List.length_cons, List.map_cons, List.cons_append] at b1 b2 k ⊢
    have := a.wd_pos
    refine (h3 o.w kC [kS] D xs (kw_c1 o)).go (by simp; omega) (by omega) (ks2 hk) he fun e1 he1 => ?_
    refine hs a h rest D (xs ++ [Val.str o.w]) e1 Q hk (by omega) (by simp; omega) he1 fun e2 he2 => k e2 ?_
    simpa using he2
  | .s2 o a b, h, rest, D, xs, e, Q, hk, b1, b2, he, k => by
    simp only [Cl.wd, List.length_cons, List.length_append, List.map_cons, List.map_append, List.cons_append, List.append_assoc] at b1 b2 k ⊢
    have := a.wd_pos
    have := b.wd_pos
    refine (h3 o.w kC [kS, kS] D xs (kw_c2 o)).go (by simp; omega) (by omega) (ks2 hk) he fun e1 he1 => ?_
    refine hs a h.1 _ (D ++ [kS]) (xs ++ [Val.str o.w]) e1 Q (ks1 hk) (by simp; omega) (by simp; omega) (by simpa using he1) fun e2 he2 => ?_
    refine hs b h.2 rest D (xs ++ [Val.str o.w] ++ a.wd) e2 Q hk (by omega) (by simp; omega) he2 fun e3 he3 => k e3 ?_
    simpa using he3
  | .nv a, h, rest, D, xs, e, Q, hk, b1, b2, he, k => by
    simp only [Cl.wd, List.length_cons, List.map_cons, List.cons_append] at b1 b2 k ⊢
    have := a.wd_pos
    refine (h3 "never" kC [kC] D xs kw_nv).go (by simp; omega) (by omega) (ks2 hk) he fun e1 he1 => ?_
    refine rc_walk hs h3 a h rest D (xs ++ [Val.str "never"]) e1 Q hk (by omega) (by simp; omega) he1 fun e2 he2 => k e2 ?_
    simpa using he2
  | .t2 o a b, h, rest, D, xs, e, Q, hk, b1, b2, he, k => by
    simp only [Cl.wd, List.length_cons, List.length_append, List.map_cons, List.map_append, List.cons_append, List.append_assoc] at b1 b2 k ⊢
    have := a.wd_pos
    have := b.wd_pos
    refine (h3 o.w kC [kC, kC] D xs (kw_b2 o)).go (by simp; omega) (by omega) (ks2 hk) he fun e1 he1 => ?_
    refine rc_walk hs h3 a h.1 _ (D ++ [kC]) (xs ++ [Val.str o.w]) e1 Q (ks2 hk) (by simp; omega) (by simp; omega) (by simpa using he1) fun e2 he2 => ?_
    refine rc_walk hs h3 b h.2 rest D (xs ++ [Val.str o.w] ++ a.wd) e2 Q hk (by omega) (by simp; omega) he2 fun e3 he3 => k e3 ?_
    simpa using he3
end
theorem ba_no {c : Bool} {A B : Prop} (h : c = false) (k : B) : (c = true → A) ∧ (c = !true → B) := ⟨fun e => (by rw [h] at e; cases e), fun _ => k⟩
theorem bo_no {c : Bool} {A B : Prop} (h : c = true) (k : B) : (c = false → A) ∧ (c = !false → B) := ⟨fun e => (by rw [h] at e; cases e), fun _ => k⟩
end EN

/-! EnZF: rows of bits. -/
namespace EN
open PySem L2
/-- the bit at place i -/
def bt (a : Int) (i : Nat) : Int := a / 2 ^ i % 2
/-- the row of so many bits, the least first -/
def row (w : Nat) (a : Int) : List Int := (List.range w).map (bt a)
def rowV (w : Nat) (a : Int) : Val := .lst ((row w a).map Val.int)
theorem row_zero (a : Int) : row 0 a = [] := rfl
theorem row_succ (w : Nat) (a : Int) : row (w + 1) a = row w a ++ [bt a w] := by
  unfold row; rw [List.range_succ, List.map_append]; rfl
theorem row_len (w : Nat) (a : Int) : (row w a).length = w := by unfold row; simp
theorem row_get {w i : Nat} (a : Int) (h : i < w) : (row w a)[i]? = some (bt a i) := by
  unfold row; rw [List.getElem?_map, List.getElem?_range h]; rfl
theorem rowV_get {w i : Nat} (a : Int) (h : i < w) : ((row w a).map Val.int)[i]? = some (.int (bt a i)) := by
  rw [List.getElem?_map, row_get a h]; rfl
theorem bt_01 (a : Int) (i : Nat) : 0 ≤ bt a i ∧ bt a i < 2 := ⟨Int.emod_nonneg _ (by decide), Int.emod_lt_of_pos _ (by decide)⟩
theorem div_succ (a : Int) (i : Nat) : a / 2 ^ (i + 1) = a / 2 ^ i / 2 := by
  rw [Int.pow_succ, Int.ediv_ediv_of_nonneg (Int.le_of_lt (pow_pos i))]
theorem bt_mod {a : Int} {w i : Nat} (h : i < w) : bt (a % 2 ^ w) i = bt a i := by
  unfold bt
  obtain ⟨d, rfl⟩ : ∃ d, w = i + 1 + d := ⟨w - (i + 1), by omega⟩
  have e : (2 : Int) ^ (i + 1 + d) = 2 ^ i * (2 * 2 ^ d) := by rw [Int.pow_add, Int.pow_succ, Int.mul_assoc]
  have p := pow_pos i
  have e2 : a % 2 ^ (i + 1 + d) = a + 2 ^ i * (2 * -(2 ^ d * (a / 2 ^ (i + 1 + d)))) := by
    rw [Int.emod_def]
    generalize a / 2 ^ (i + 1 + d) = q
    rw [e, Int.mul_assoc, Int.mul_assoc, Int.mul_neg, Int.mul_neg]; omega
  rw [e2, Int.add_mul_ediv_left _ _ (Int.ne_of_gt p), Int.add_mul_emod_self_left]
theorem row_mod (a : Int) (w : Nat) : row w (a % 2 ^ w) = row w a := by
  unfold row
  refine List.map_congr_left fun i hi => bt_mod (List.mem_range.mp hi)
theorem rowV_mod (a : Int) (w : Nat) : rowV w (a % 2 ^ w) = rowV w a := by unfold rowV; rw [row_mod]
theorem bt_not (a : Int) (i : Nat) : bt (-1 - a) i = 1 - bt a i := by
  unfold bt
  have p := pow_pos i
  have h1 : (-1 - a) / 2 ^ i = -1 - a / 2 ^ i := by
    have h := Int.emod_def a (2 ^ i)
    have h2 := Int.emod_nonneg a (Int.ne_of_gt p)
    have h3 := Int.emod_lt_of_pos a p
    generalize hq : a / 2 ^ i = q at *
    generalize (2 : Int) ^ i = P at *
    refine Int.le_antisymm ?_ ?_
    · refine Int.lt_add_one_iff.mp ((Int.ediv_lt_iff_lt_mul p).mpr ?_)
      have : (-1 - q + 1) * P = -(P * q) := by rw [Int.mul_comm P q, ← Int.neg_mul]; congr 1; omega
      rw [this]; omega
    · refine (Int.le_ediv_iff_mul_le p).mpr ?_
      have : (-1 - q) * P = -P - P * q := by rw [Int.sub_mul, Int.mul_comm P q]; omega
      rw [this]; omega
  rw [h1]; omega
theorem bt_zero (i : Nat) : bt 0 i = 0 := by unfold bt; rw [Int.zero_ediv]; rfl
theorem row_nought (w : Nat) : row w 0 = List.replicate w 0 := by
  unfold row
  rw [List.eq_replicate_iff]
  refine ⟨by simp, fun b hb => ?_⟩
  obtain ⟨i, _, rfl⟩ := List.mem_map.mp hb
  exact bt_zero i
theorem reps_row (w : Nat) : reps [.int ((0 : Nat) : Int)] ((w : Nat) : Int).toNat = (row w 0).map Val.int := by
  rw [reps_one, row_nought, List.map_replicate]; rfl
theorem bt_twice (a : Int) (i : Nat) : bt (2 * a) (i + 1) = bt a i := by
  unfold bt
  rw [div_succ]
  have : 2 * a / 2 ^ i / 2 = a / 2 ^ i := by
    rw [Int.ediv_ediv_of_nonneg (Int.le_of_lt (pow_pos i)), Int.mul_comm ((2 : Int) ^ i) 2, Int.mul_ediv_mul_of_pos _ _ (by decide)]
  rw [this]
theorem bt_twice0 (a : Int) : bt (2 * a) 0 = 0 := by
  unfold bt
  rw [Int.pow_zero, Int.ediv_one]; omega
theorem row_cons (w : Nat) (a : Int) : row (w + 1) a = bt a 0 :: (List.range w).map (fun i => bt a (i + 1)) := by
  unfold row
  rw [List.range_succ_eq_map, List.map_cons, List.map_map]; rfl
theorem row_twice (w : Nat) (a : Int) : row (w + 1) (2 * a) = 0 :: row w a := by
  rw [row_cons, bt_twice0]
  congr 1
  unfold row
  exact List.map_congr_left fun i _ => bt_twice a i
/-! ### bit by bit -/
theorem bt_nat (n i : Nat) : bt (n : Int) i = if n.testBit i then 1 else 0 := by
  have e : bt (n : Int) i = ((n / 2 ^ i % 2 : Nat) : Int) := by
    unfold bt
    rw [Int.natCast_emod, Int.natCast_ediv, Int.natCast_pow]; rfl
  rw [e, Nat.testBit_eq_decide_div_mod_eq]
  rcases Nat.mod_two_eq_zero_or_one (n / 2 ^ i) with h | h <;> rw [h] <;> rfl
theorem bt_toNat {a : Int} (h : 0 ≤ a) (i : Nat) : bt a i = if a.toNat.testBit i then 1 else 0 := by
  conv => lhs; rw [← Int.toNat_of_nonneg h]
  exact bt_nat _ _
theorem bt_and {a b : Int} (h : 0 ≤ a) (h2 : 0 ≤ b) (i : Nat) : bt (Builtin.bitAnd a b) i = if bt a i + bt b i = 2 then 1 else 0 := by
  rw [PyProof.Rows.bitAnd_pp h h2, bt_nat, bt_toNat h, bt_toNat h2, Nat.testBit_and]
  cases a.toNat.testBit i <;> cases b.toNat.testBit i <;> rfl
theorem bt_or {a b : Int} (h : 0 ≤ a) (h2 : 0 ≤ b) (i : Nat) : bt (Builtin.bitOr a b) i = if 0 < bt a i + bt b i then 1 else 0 := by
  rw [Bits.bitOr_pp h h2, bt_nat, bt_toNat h, bt_toNat h2, Nat.testBit_or]
  cases a.toNat.testBit i <;> cases b.toNat.testBit i <;> rfl
theorem bt_xor {a b : Int} (h : 0 ≤ a) (h2 : 0 ≤ b) (i : Nat) : bt (Builtin.bitXor a b) i = (bt a i + bt b i) % 2 := by
  rw [Bits.bitXor_pp h h2, bt_nat, bt_toNat h, bt_toNat h2, Nat.testBit_xor]
  cases a.toNat.testBit i <;> cases b.toNat.testBit i <;> rfl
theorem bt_pick {a b c : Int} {w i : Nat} (hi : i < w) (h : 0 ≤ a) (h2 : 0 ≤ b) (h3 : 0 ≤ c) : bt (pkF w a b c) i = if bt a i = 1 then bt b i else bt c i := by
  unfold pkF
  have n0 := (mod_rng (-1 - a) w).1
  have r1 : 0 ≤ Builtin.bitAnd a b := by rw [PyProof.Rows.bitAnd_pp h h2]; exact Int.natCast_nonneg _
  have r2 : 0 ≤ Builtin.bitAnd ((-1 - a) % 2 ^ w) c := by rw [PyProof.Rows.bitAnd_pp n0 h3]; exact Int.natCast_nonneg _
  rw [bt_or r1 r2, bt_and h h2, bt_and n0 h3, bt_mod hi, bt_not]
  have ha := bt_01 a i
  have hb := bt_01 b i
  have hc := bt_01 c i
  generalize bt a i = x at *
  generalize bt b i = y at *
  generalize bt c i = z at *
  have ex : x = 0 ∨ x = 1 := by omega
  have ey : y = 0 ∨ y = 1 := by omega
  have ez : z = 0 ∨ z = 1 := by omega
  rcases ex with rfl | rfl <;> rcases ey with rfl | rfl <;> rcases ez with rfl | rfl <;> decide
/-! ### the lowest -/
theorem odd_part : ∀ n : Nat, 0 < n → ∃ k b : Nat, n = 2 ^ k * (2 * b + 1) := by
  intro n
  induction n using Nat.strongRecOn with
  | ind n ih =>
    intro h
    rcases Nat.mod_two_eq_zero_or_one n with e | e
    · obtain ⟨k, b, hb⟩ := ih (n / 2) (by omega) (by omega)
      exact ⟨k + 1, b, by rw [Nat.pow_succ, Nat.mul_right_comm, ← hb]; omega⟩
    · exact ⟨0, n / 2, by omega⟩
theorem bt_pow {k j : Nat} (b : Int) : bt (2 ^ k * (2 * b + 1)) j = if j < k then 0 else if j = k then 1 else bt b (j - k - 1) := by
  by_cases h : j < k
  · rw [if_pos h]
    obtain ⟨d, rfl⟩ : ∃ d, k = j + 1 + d := ⟨k - (j + 1), by omega⟩
    unfold bt
    rw [Int.pow_add, Int.pow_succ, Int.mul_assoc, Int.mul_assoc, Int.mul_ediv_cancel_left _ (Int.ne_of_gt (pow_pos j)), Int.mul_emod_right]
  · rw [if_neg h]
    by_cases h2 : j = k
    · rw [if_pos h2]
      subst h2
      unfold bt
      rw [Int.mul_ediv_cancel_left _ (Int.ne_of_gt (pow_pos j))]; omega
    · rw [if_neg h2]
      obtain ⟨d, rfl⟩ : ∃ d, j = k + 1 + d := ⟨j - (k + 1), by omega⟩
      have e : k + 1 + d - k - 1 = d := by omega
      rw [e]
      unfold bt
      rw [Int.pow_add, Int.pow_succ, Int.mul_assoc, ← Int.ediv_ediv_of_nonneg (Int.le_of_lt (pow_pos k)), Int.mul_ediv_cancel_left _ (Int.ne_of_gt (pow_pos k)), ← Int.ediv_ediv_of_nonneg (by decide)]
      congr 2; omega
theorem low_row {a : Int} {w : Nat} (h : 0 ≤ a) (h2 : a < 2 ^ w) : (a = 0 ∧ Builtin.bitAnd a (-a) = 0) ∨ ∃ k, k < w ∧ (∀ j, j < k → bt a j = 0) ∧ bt a k = 1 ∧ Builtin.bitAnd a (-a) = 2 ^ k := by
  by_cases z : a = 0
  · subst z
    exact .inl ⟨rfl, by decide⟩
  · right
    obtain ⟨k, b, e⟩ := odd_part a.toNat (by omega)
    have e2 : a = 2 ^ k * (2 * (b : Int) + 1) := by
      have := congrArg (fun n : Nat => (n : Int)) e
      simp only [Int.natCast_mul, Int.natCast_pow, Int.natCast_add] at this
      rw [Int.toNat_of_nonneg h] at this
      exact this
    refine ⟨k, ?_, fun j hj => ?_, ?_, ?_⟩
    · refine Nat.lt_of_not_le fun hk => ?_
      have h3 : (2 : Int) ^ w ≤ 2 ^ k := pow_le2 hk
      have h4 : (2 : Int) ^ k * 1 ≤ 2 ^ k * (2 * (b : Int) + 1) := Int.mul_le_mul_of_nonneg_left (by omega) (Int.le_of_lt (pow_pos k))
      rw [Int.mul_one, ← e2] at h4
      omega
    · rw [e2, bt_pow, if_pos hj]
    · rw [e2, bt_pow, if_neg (by omega), if_pos rfl]
    · rw [e2]; exact PySem.W.kbt_low k b
theorem bt_two (k j : Nat) : bt (2 ^ k) j = if j = k then 1 else 0 := by
  have := bt_pow (k := k) (j := j) 0
  rw [Int.mul_zero, Int.zero_add, Int.mul_one] at this
  rw [this]
  by_cases h : j < k
  · rw [if_pos h, if_neg (by omega)]
  · rw [if_neg h, bt_zero]
theorem row_two {k w : Nat} (h : k < w) : row w (2 ^ k) = (row w 0).set k 1 := by
  apply List.ext_getElem?
  intro j
  by_cases hj : j < w
  · rw [row_get _ hj, bt_two]
    by_cases e : j = k
    · subst e
      rw [if_pos rfl, List.getElem?_set_self (by rw [row_len]; exact hj)]
    · rw [if_neg e, List.getElem?_set_ne (Ne.symm e), row_get _ hj, bt_zero]
  · rw [List.getElem?_eq_none (by rw [row_len]; omega), List.getElem?_eq_none (by rw [List.length_set, row_len]; omega)]
/-! ### where a 1 is -/
theorem any_int (x : Int) : ∀ xs : List Int, ((xs.map Val.int).any fun y => feq y (.int x)) = decide (x ∈ xs)
  | [] => by simp
  | y :: ys => by
    rw [List.map_cons, List.any_cons, any_int x ys]
    show (decide (y = x) || _) = _
    by_cases h : x = y
    · subst h; simp
    · have : ¬ y = x := fun e => h e.symm
      simp [h, this]
theorem flat_ints (xs : List Int) : (xs.map Val.int).all flat = true := by
  rw [List.all_eq_true]
  intro x hx
  obtain ⟨s, _, rfl⟩ := List.mem_map.mp hx
  rfl
theorem wp_inI {x : Int} {xs : List Int} {Q : Bool → Prop} (k : Q (decide (x ∈ xs))) : Wp (cmp .inn (.int x) (.lst (xs.map Val.int))) Q := Wp.of (a := decide (x ∈ xs)) (by
  show vmem _ _ = _
  unfold vmem
  rw [flat_ints]
  show some _ = _
  rw [any_int]) k
theorem wp_notinI {x : Int} {xs : List Int} {Q : Bool → Prop} (k : Q (!decide (x ∈ xs))) : Wp (cmp .notin (.int x) (.lst (xs.map Val.int))) Q := Wp.of (a := !decide (x ∈ xs)) (by
  show (vmem _ _).map _ = _
  unfold vmem
  rw [flat_ints]
  show some _ = _
  rw [any_int]) k
theorem fidx_ints {x : Int} : ∀ {xs : List Int} {k : Nat}, xs[k]? = some x → (∀ j, j < k → xs[j]? ≠ some x) → fidx (.int x) (xs.map Val.int) = some k
  | [], k, h, _ => by simp at h
  | y :: ys, 0, h, _ => by
    have h : some y = some x := h
    cases h
    unfold fidx
    exact if_pos (show decide (x = x) = true by simp)
  | y :: ys, k + 1, h, n => by
    have ne : y ≠ x := fun e => n 0 (by omega) (by rw [e]; rfl)
    have ih := fidx_ints (x := x) (xs := ys) (k := k) (by simpa using h) fun j hj => by
      have := n (j + 1) (by omega)
      simpa using this
    rw [List.map_cons]
    unfold fidx
    rw [if_neg (show ¬ feq (.int y) (.int x) = true from fun h => ne (of_decide_eq_true h)), ih]; rfl
theorem wp_idxI {x : Int} {xs : List Int} {k : Nat} {Q : OV → Prop} (h : xs[k]? = some x) (n : ∀ j, j < k → xs[j]? ≠ some x) (q : Q (.p (.int k))) : Wp (vlidx (xs.map Val.int) (.int x)) Q := by
  unfold vlidx
  rw [flat_ints, fidx_ints h n]
  exact q
/-! ### a number of its bits -/
theorem num_step {a : Int} {w i : Nat} (h : i < w) : 2 * (a / 2 ^ (w - i)) + bt a (w - 1 - i) = a / 2 ^ (w - (i + 1)) := by
  obtain ⟨d, rfl⟩ : ∃ d, w = i + 1 + d := ⟨w - (i + 1), by omega⟩
  rw [show i + 1 + d - i = d + 1 by omega, show i + 1 + d - 1 - i = d by omega, show i + 1 + d - (i + 1) = d by omega, div_succ]
  unfold bt; omega
/-- one row ahead of another -/
theorem lex_rev : ∀ (w : Nat) (a b : Int), HT.lexLt (row w a).reverse (row w b).reverse = decide (a % 2 ^ w < b % 2 ^ w)
  | 0, a, b => by
    have e : ∀ x : Int, x % 2 ^ 0 = 0 := fun x => by rw [Int.pow_zero, Int.emod_one]
    rw [e, e]; rfl
  | w + 1, a, b => by
    have ih := lex_rev w a b
    rw [row_succ, row_succ, List.reverse_append, List.reverse_append]
    show HT.lexLt (bt a w :: (row w a).reverse) (bt b w :: (row w b).reverse) = _
    rw [HT.lexLt_cons, ih]
    have sp : ∀ x : Int, x % 2 ^ (w + 1) = x % 2 ^ w + 2 ^ w * bt x w := fun x => by
      unfold bt
      have h1 := Int.emod_def x (2 ^ (w + 1))
      have h2 := Int.emod_def x (2 ^ w)
      have h3 := Int.emod_def (x / 2 ^ w) 2
      rw [h1, h2, h3, div_succ, Int.pow_succ, Int.mul_sub, Int.mul_assoc]
      omega
    rw [sp a, sp b]
    have ra := mod_rng a w
    have rb := mod_rng b w
    have ba := bt_01 a w
    have bb := bt_01 b w
    generalize bt a w = x at *
    generalize bt b w = y at *
    generalize a % 2 ^ w = p at *
    generalize b % 2 ^ w = q at *
    generalize (2 : Int) ^ w = P at *
    have ex : x = 0 ∨ x = 1 := by omega
    have ey : y = 0 ∨ y = 1 := by omega
    rcases ex with rfl | rfl <;> rcases ey with rfl | rfl
    · rw [if_pos rfl]; simp
    · rw [if_neg (by decide)]
      rw [decide_eq_true (show (0 : Int) < 1 by decide), decide_eq_true (show p + P * 0 < q + P * 1 by omega)]
    · rw [if_neg (by decide)]
      rw [decide_eq_false (show ¬ (1 : Int) < 0 by decide), decide_eq_false (show ¬ p + P * 1 < q + P * 0 by omega)]
    · rw [if_pos rfl]
      congr 1
      apply propext
      constructor <;> intro h <;> omega
theorem row_inj {w : Nat} {a b : Int} (h : row w a = row w b) : a % 2 ^ w = b % 2 ^ w := by
  have h1 := lex_rev w a b
  have h2 := lex_rev w b a
  have irr : ∀ xs : List Int, HT.lexLt xs xs = false := fun xs => by
    induction xs with
    | nil => rfl
    | cons x xs ih => rw [HT.lexLt_cons, if_pos rfl, ih]
  rw [h, irr] at h1
  rw [h, irr] at h2
  have h1 := of_decide_eq_false h1.symm
  have h2 := of_decide_eq_false h2.symm
  omega
end EN
namespace EN
open PySem L2
/-! ### rows in the law's reckoning -/
theorem map_row (w : Nat) (a : Int) : (row w a).map Val.int = (List.range w).map fun i => Val.int (bt a i) := by
  unfold row; rw [List.map_map]; rfl
theorem zip2_map {α : Type} (f g : α → Val) : ∀ xs : List α, zip2 (xs.map f) (xs.map g) = xs.map fun i => .tup [f i, g i]
  | [] => rfl
  | x :: xs => by simp only [List.map_cons, zip2, zip2_map f g xs]
theorem zip3_map {α : Type} (f g h : α → Val) : ∀ xs : List α, zip3 (xs.map f) (xs.map g) (xs.map h) = xs.map fun i => .tup [f i, g i, h i]
  | [] => rfl
  | x :: xs => by simp only [List.map_cons, zip3, zip3_map f g h xs]
theorem zips_2 (w : Nat) (a b : Int) : zips [.lst ((row w a).map Val.int), .lst ((row w b).map Val.int)] = some ((List.range w).map fun i => .tup [.int (bt a i), .int (bt b i)]) := by
  rw [map_row, map_row]
  show some (zip2 _ _) = _
  rw [zip2_map]
theorem zips_3 (w : Nat) (a b c : Int) : zips [.lst ((row w a).map Val.int), .lst ((row w b).map Val.int), .lst ((row w c).map Val.int)] = some ((List.range w).map fun i => .tup [.int (bt a i), .int (bt b i), .int (bt c i)]) := by
  rw [map_row, map_row, map_row]
  show some (zip3 _ _ _) = _
  rw [zip3_map]
theorem wp_zip2 {w : Nat} {a b : Int} {Q : List Val → Prop} (k : Q ((List.range w).map fun i => .tup [.int (bt a i), .int (bt b i)])) : Wp (zips [.lst ((row w a).map Val.int), .lst ((row w b).map Val.int)]) Q := Wp.of (zips_2 w a b) k
theorem wp_zip3 {w : Nat} {a b c : Int} {Q : List Val → Prop} (k : Q ((List.range w).map fun i => .tup [.int (bt a i), .int (bt b i), .int (bt c i)])) : Wp (zips [.lst ((row w a).map Val.int), .lst ((row w b).map Val.int), .lst ((row w c).map Val.int)]) Q := Wp.of (zips_3 w a b c) k
theorem rng_at {α : Type} {f : Nat → α} {w i : Nat} {x : α} (h : ((List.range w).map f)[i]? = some x) : i < w ∧ x = f i := by
  rw [List.getElem?_map] at h
  by_cases lt : i < w
  · rw [List.getElem?_range lt] at h
    cases h
    exact ⟨lt, rfl⟩
  · rw [List.getElem?_eq_none (by simpa using lt)] at h
    cases h
theorem wp_atR {w i : Nat} {a : Int} {Q : Val → Prop} (h : i < w) (k : Q (.int (bt a i))) : Wp (atI ((row w a).map Val.int) (0 + (i : Int))) Q := by
  rw [Int.zero_add]
  exact wp_at_nat (rowV_get a h) k
theorem row_lenV (w : Nat) (a : Int) : ((row w a).map Val.int).length = w := by rw [List.length_map, row_len]
theorem row_snoc (w : Nat) (a : Int) : (row w a).map Val.int ++ [.int (bt a w)] = (row (w + 1) a).map Val.int := by rw [row_succ, List.map_append]; rfl
theorem wp_repR {w : Nat} {Q : OV → Prop} (h : w ≤ 1000) (k : Q (.l ((row w 0).map Val.int))) : Wp (bin .mul (.lst [.int ((0 : Nat) : Int)]) (.int ((w : Nat) : Int))) Q := by
  have hr : repOk ([Val.int ((0 : Nat) : Int)] : List Val).length ((w : Nat) : Int) := by
    unfold repOk
    refine ⟨by omega, by omega, ?_⟩
    rw [List.length_singleton, Nat.one_mul, Int.toNat_natCast]
    exact sizeLine_ge (by omega)
  have k2 : Q (.l (reps [.int ((0 : Nat) : Int)] ((w : Nat) : Int).toNat)) := by rw [reps_row]; exact k
  with_reducible exact wp_rep hr k2
theorem cut_last (xs : List Val) : cutL xs none (some (-((1 : Nat) : Int))) = xs.dropLast := by
  unfold cutL
  have e : HT.sIx xs.length xs.length (some (-((1 : Nat) : Int))) = xs.length - 1 := by
    show (if (-((1 : Nat) : Int)) < 0 then (-((1 : Nat) : Int) + (xs.length : Int)).toNat else min (-((1 : Nat) : Int)).toNat xs.length) = _
    rw [if_pos (by omega)]; omega
  rw [e]
  show (xs.drop 0).take (xs.length - 1 - 0) = _
  rw [List.drop_zero, Nat.sub_zero, List.dropLast_eq_take]
theorem cut_row (w : Nat) (a : Int) : cutL ((row (w + 1) a).map Val.int) none (some (-((1 : Nat) : Int))) = (row w a).map Val.int := by
  rw [cut_last, row_succ, List.map_append]
  show ((row w a).map Val.int ++ [Val.int (bt a w)]).dropLast = _
  rw [List.dropLast_concat]
theorem twice_row (w : Nat) (a : Int) : [Val.int ((0 : Nat) : Int)] ++ (row w a).map Val.int = (row (w + 1) (2 * a)).map Val.int := by rw [row_twice]; rfl
theorem add_bit {A B S : Int} : (A % 2 + B % 2 + (S - A - B)) % 2 = S % 2 := by omega
theorem add_carry {A B S : Int} : (A % 2 + B % 2 + (S - A - B)) / 2 = S / 2 - A / 2 - B / 2 := by omega
/-- what a row is worth -/
theorem row_and {w : Nat} {a b : Int} (h : 0 ≤ a) (h2 : 0 ≤ b) : (List.range w).map (fun i => Val.int (if bt a i + bt b i = 2 then 1 else 0)) = (row w (Builtin.bitAnd a b)).map Val.int := by
  rw [map_row]; exact List.map_congr_left fun i _ => by rw [bt_and h h2]
theorem row_or {w : Nat} {a b : Int} (h : 0 ≤ a) (h2 : 0 ≤ b) : (List.range w).map (fun i => Val.int (if 0 < bt a i + bt b i then 1 else 0)) = (row w (Builtin.bitOr a b)).map Val.int := by
  rw [map_row]; exact List.map_congr_left fun i _ => by rw [bt_or h h2]
end EN

namespace Law
open PySem L2
def bwords_at : List EN.St := [.asg 1 (.int 1),
  .fors (.nm 2) (.rng [(.var 0)]) [.asg 1 (.bin .mul (.int 2) (.var 1))],
  .ret (.var 1)]
def fwords_at : EN.Fn := ⟨1, 3, bwords_at⟩
def bcut : List EN.St := [.ret (.bin .mod (.var 0) (.call 0 [.P] [(.var 1)]))]
def fcut : EN.Fn := ⟨2, 2, bcut⟩
def bneed_names : List EN.St := [.fors (.nm 2) (.e (.var 0)) [.ifs (.bop true [(.isi (.var 2) .str), (.gin true 0 (.var 2)), (.cmp .notin (.var 2) (.var 1))]) [.rsW (.var 2)] []]]
def fneed_names : EN.Fn := ⟨2, 3, bneed_names⟩
def bmade : List EN.St := [.asg 3 (.ix (.var 1) (.int 0)),
  .ifs (.cmp .eq (.var 0) (.str "not")) [.ret (.call 1 [.P, .P] [(.bin .sub (.neg (.int 1)) (.var 3)), (.var 2)])] [],
  .ifs (.cmp .eq (.var 0) (.str "neg")) [.ret (.call 1 [.P, .P] [(.neg (.var 3)), (.var 2)])] [],
  .ifs (.cmp .eq (.var 0) (.str "twice")) [.ret (.call 1 [.P, .P] [(.bin .mul (.int 2) (.var 3)), (.var 2)])] [],
  .ifs (.cmp .eq (.var 0) (.str "low")) [.ret (.bin .and (.var 3) (.neg (.var 3)))] [],
  .asg 4 (.ix (.var 1) (.int 1)),
  .ifs (.cmp .eq (.var 0) (.str "and")) [.ret (.bin .and (.var 3) (.var 4))] [],
  .ifs (.cmp .eq (.var 0) (.str "or")) [.ret (.bin .or (.var 3) (.var 4))] [],
  .ifs (.cmp .eq (.var 0) (.str "odd")) [.ret (.bin .xor (.var 3) (.var 4))] [],
  .ifs (.cmp .eq (.var 0) (.str "add")) [.ret (.call 1 [.P, .P] [(.bin .add (.var 3) (.var 4)), (.var 2)])] [],
  .ifs (.cmp .eq (.var 0) (.str "sub")) [.ret (.call 1 [.P, .P] [(.bin .sub (.var 3) (.var 4)), (.var 2)])] [],
  .ret (.bin .or (.bin .and (.var 3) (.var 4)) (.bin .and (.call 1 [.P, .P] [(.bin .sub (.neg (.int 1)) (.var 3)), (.var 2)]) (.ix (.var 1) (.int 2))))]
def fmade : EN.Fn := ⟨3, 5, bmade⟩
def bworth_of : List EN.St := [.ifs (.nt (.isi (.var 0) .str)) [.ret (.call 1 [.P, .P] [(.var 0), (.var 2)])] [],
  .ifs (.gin true 1 (.var 0)) [.ret (.ix (.var 3) (.var 0))] [],
  .ret (.call 3 [.P, .P, .P] [(.var 0), (.lc (.pop 1) (.nm 4) (.e (.gix 1 (.var 0))) none ⟨[(".0", .local), ("part", .local), ("pile", .free)], []⟩), (.var 2)])]
def fworth_of : EN.Fn := ⟨4, 5, bworth_of⟩
def bworth : List EN.St := [.expr (.call 2 [.P, .M] [(.var 0), (.var 2)]),
  .asg 3 (.lst []),
  .fors (.nm 4) (.rvs (.var 0)) [.expr (.app 3 (.call 4 [.P, .M, .P, .M] [(.var 4), (.var 3), (.var 1), (.var 2)]))],
  .ret (.ix (.var 3) (.int 0))]
def fworth : EN.Fn := ⟨3, 5, bworth⟩
def b_law_deck : List EN.St := [.asg 1 (.bin .add (.slc (.var 0) none (some (.int 63))) (.lst [(.bi .len [(.var 0)])])),
  .ifs (.cmp .eq (.bin .mod (.bi .sum [(.slc (.var 0) none (some (.int 63)))]) (.int 2)) (.int 1)) [.fors (.nm 2) (.rng [(.bi .len [(.var 1)])]) [.asg 3 (.bin .mod (.bin .mul (.bin .add (.bin .add (.bin .mod (.ix (.var 1) (.var 2)) (.int 2147483587)) (.bin .mul (.int 853) (.var 2))) (.int 11)) (.int 69621)) (.int 2147483629)),
  .asg 3 (.bin .mod (.bin .mul (.bin .mod (.bin .add (.bin .mul (.var 3) (.var 3)) (.bin .mul (.int 31) (.var 2))) (.int 2147483563)) (.int 16807)) (.int 2147483549)),
  .setix 1 (.var 2) (.bin .add (.bin .mul (.bin .mul (.var 3) (.var 3)) (.int 2147483543)) (.bin .mod (.bin .mul (.var 3) (.int 48271)) (.int 2147483579)))]] [],
  .ret (.lst [(.var 1), (.int 0)])]
def f_law_deck : EN.Fn := ⟨1, 4, b_law_deck⟩
def b_law_take : List EN.St := [.asg 2 (.bin .mod (.ix (.var 0) (.int 1)) (.nlen 0 0)),
  .setix 0 (.int 1) (.bin .add (.ix (.var 0) (.int 1)) (.int 1)),
  .asg 3 (.nix 0 0 2),
  .nset 0 0 2 (.bin .fdiv (.var 3) (.var 1)),
  .ret (.bin .mod (.var 3) (.var 1))]
def f_law_take : EN.Fn := ⟨2, 4, b_law_take⟩
def b_law_power : List EN.St := [.asg 1 (.int 1),
  .fors (.nm 2) (.rng [(.var 0)]) [.asg 1 (.bin .add (.var 1) (.var 1))],
  .ret (.var 1)]
def f_law_power : EN.Fn := ⟨1, 3, b_law_power⟩
def b_law_width : List EN.St := [.ret (.ix (.lst [(.int 1), (.int 2), (.int 3), (.int 4), (.int 8), (.int 59), (.int 60), (.bin .add (.int 1) (.call 7 [.M, .P] [(.var 0), (.int 60)]))]) (.call 7 [.M, .P] [(.var 0), (.int 8)]))]
def f_law_width : EN.Fn := ⟨1, 1, b_law_width⟩
def b_law_kept : List EN.St := [.asg 0 (.lst [(.str "not"), (.str "neg"), (.str "twice"), (.str "low"), (.str "and"), (.str "or"), (.str "odd"), (.str "add"), (.str "sub"), (.str "pick")]),
  .ret (.bin .add (.var 0) (.lst [(.str "same"), (.str "under"), (.str "beneath"), (.str "sign"), (.str "nought"), (.str "both"), (.str "either"), (.str "so"), (.str "never"), (.str "yes")]))]
def f_law_kept : EN.Fn := ⟨0, 1, b_law_kept⟩
def b_law_names : List EN.St := [.asg 1 (.str "abcdefghijklmnopqrstuvwxyz"),
  .asg 3 (.jn "" (.lc (.ix (.var 1) (.call 7 [.M, .P] [(.var 0), (.int 26)])) (.nm 2) (.rng [(.bin .add (.int 1) (.call 7 [.M, .P] [(.var 0), (.int 8)]))]) none ⟨[(".0", .local), ("k", .local), ("_law_take", .globalImplicit), ("deck", .free), ("letters", .free)], []⟩)),
  .asg 4 (.call 7 [.M, .P] [(.var 0), (.bi .len [(.var 3)])]),
  .asg 5 (.lst []),
  .fors (.nm 2) (.rng [(.bin .add (.int 1) (.call 7 [.M, .P] [(.var 0), (.int 3)]))]) [.asg 6 (.bin .add (.sidx 1 (.ix (.var 3) (.var 4))) (.bin .mul (.int 5) (.var 2))),
  .asg 7 (.bin .add (.bin .add (.slc (.var 3) none (some (.var 4))) (.ix (.var 1) (.bin .mod (.var 6) (.int 26)))) (.slc (.var 3) (some (.bin .add (.var 4) (.int 1))) none)),
  .ifs (.cmp .eq (.bin .mod (.var 2) (.int 2)) (.int 1)) [.asg 7 (.ix (.lst [(.bin .add (.var 7) (.ix (.var 1) (.call 7 [.M, .P] [(.var 0), (.int 26)]))), (.slc (.var 7) none (some (.neg (.int 1))))]) (.bi .int [(.cmp .eq (.bi .len [(.var 7)]) (.int 8))]))] [],
  .ifs (.cmp .eq (.call 7 [.M, .P] [(.var 0), (.int 6)]) (.int 0)) [.asg 7 (.bin .add (.ix (.call 10 [] []) (.call 7 [.M, .P] [(.var 0), (.int 20)])) (.ix (.var 1) (.call 7 [.M, .P] [(.var 0), (.int 26)])))] [],
  .ifs (.cmp .inn (.var 7) (.bin .add (.var 5) (.call 10 [] []))) [.asg 7 (.ix (.lc (.var 8) (.nm 8) (.e (.lst [(.str "qa"), (.str "rb"), (.str "sc"), (.str "td")])) (some (.cmp .notin (.var 8) (.var 5))) ⟨[(".0", .local), ("one", .local), ("names", .free)], []⟩) (.int 0))] [],
  .expr (.app 5 (.var 7))],
  .ret (.var 5)]
def f_law_names : EN.Fn := ⟨1, 9, b_law_names⟩
def b_law_leaf : List EN.St := [.asg 2 (.call 7 [.M, .P] [(.var 0), (.int 5)]),
  .ifs (.cmp .lt (.var 2) (.int 3)) [.ret (.ix (.var 1) (.call 7 [.M, .P] [(.var 0), (.bi .len [(.var 1)])]))] [],
  .ret (.ix (.lst [(.call 7 [.M, .P] [(.var 0), (.int 4)]), (.ix (.lst [(.call 7 [.M, .P] [(.var 0), (.int 1000)]), (.int 999), (.int 255), (.int 256), (.int 512)]) (.call 7 [.M, .P] [(.var 0), (.int 5)]))]) (.bin .sub (.var 2) (.int 3)))]
def f_law_leaf : EN.Fn := ⟨2, 3, b_law_leaf⟩
def b_law_sum : List EN.St := [.asg 4 (.lst []),
  .asg 5 (.int 1),
  .whl (.cmp .gt (.var 5) (.int 0)) [.asg 6 (.bin .sub (.bin .sub (.var 2) (.bi .len [(.var 4)])) (.var 5)),
  .asg 7 (.call 7 [.M, .P] [(.var 0), (.int 11)]),
  .asg 8 (.ix (.lst [(.str "pick"), (.str "and"), (.str "or"), (.str "odd"), (.str "add"), (.str "sub"), (.str "not"), (.str "neg"), (.str "twice"), (.str "low"), (.str "")]) (.var 7)),
  .asg 9 (.ix (.lst [(.int 3), (.int 2), (.int 2), (.int 2), (.int 2), (.int 2), (.int 1), (.int 1), (.int 1), (.int 1), (.int 99)]) (.var 7)),
  .ifs (.cmp .inn (.var 8) (.lst [(.str "add"), (.str "sub"), (.str "neg"), (.str "twice"), (.str "low")])) [.asg 9 (.bin .add (.var 9) (.bin .mul (.int 99) (.bi .int [(.cmp .eq (.ix (.var 3) (.int 0)) (.int 0))])))] [],
  .ifs (.cmp .gt (.var 9) (.var 6)) [.expr (.app 4 (.call 12 [.M, .P] [(.var 0), (.var 1)])),
  .asg 9 (.int 0)] [.expr (.app 4 (.var 8)),
  .setix 3 (.int 0) (.bin .sub (.ix (.var 3) (.int 0)) (.bi .int [(.cmp .inn (.var 8) (.lst [(.str "add"), (.str "sub"), (.str "neg"), (.str "twice"), (.str "low")]))]))],
  .asg 5 (.bin .add (.bin .sub (.var 5) (.int 1)) (.var 9))],
  .ret (.bi .tuple [(.var 4)])]
def f_law_sum : EN.Fn := ⟨4, 10, b_law_sum⟩
def b_law_bits : List EN.St := [.asg 2 (.lst []),
  .fors (.nm 3) (.rng [(.var 1)]) [.expr (.app 2 (.bin .mod (.var 0) (.int 2))),
  .asg 0 (.bin .fdiv (.var 0) (.int 2))],
  .ret (.var 2)]
def f_law_bits : EN.Fn := ⟨2, 4, b_law_bits⟩
def b_law_added : List EN.St := [.asg 3 (.lst []),
  .fors (.nm 4) (.rng [(.bi .len [(.var 0)])]) [.asg 5 (.bin .add (.bin .add (.ix (.var 0) (.var 4)) (.ix (.var 1) (.var 4))) (.var 2)),
  .expr (.app 3 (.bin .mod (.var 5) (.int 2))),
  .asg 2 (.bin .fdiv (.var 5) (.int 2))],
  .ret (.var 3)]
def f_law_added : EN.Fn := ⟨3, 6, b_law_added⟩
def b_law_lowest : List EN.St := [.asg 1 (.bin .mul (.lst [(.int 0)]) (.bi .len [(.var 0)])),
  .ifs (.cmp .inn (.int 1) (.var 0)) [.setix 1 (.sidx 0 (.int 1)) (.int 1)] [],
  .ret (.var 1)]
def f_law_lowest : EN.Fn := ⟨1, 2, b_law_lowest⟩
def b_law_turned_bits : List EN.St := [.ret (.lc (.bin .sub (.int 1) (.var 1)) (.nm 1) (.e (.var 0)) none ⟨[(".0", .local), ("bit", .local)], []⟩)]
def f_law_turned_bits : EN.Fn := ⟨1, 2, b_law_turned_bits⟩
def b_law_made : List EN.St := [.asg 2 (.ix (.var 1) (.int 0)),
  .asg 3 (.bin .mul (.lst [(.int 0)]) (.bi .len [(.var 2)])),
  .ifs (.cmp .eq (.var 0) (.str "not")) [.ret (.call 17 [.P] [(.var 2)])] [],
  .ifs (.cmp .eq (.var 0) (.str "neg")) [.ret (.call 15 [.P, .P, .P] [(.var 3), (.call 17 [.P] [(.var 2)]), (.int 1)])] [],
  .ifs (.cmp .eq (.var 0) (.str "twice")) [.ret (.bin .add (.lst [(.int 0)]) (.slc (.var 2) none (some (.neg (.int 1)))))] [],
  .ifs (.cmp .eq (.var 0) (.str "low")) [.ret (.call 16 [.P] [(.var 2)])] [],
  .asg 4 (.ix (.var 1) (.int 1)),
  .ifs (.cmp .eq (.var 0) (.str "add")) [.ret (.call 15 [.P, .P, .P] [(.var 2), (.var 4), (.int 0)])] [],
  .ifs (.cmp .eq (.var 0) (.str "sub")) [.ret (.call 15 [.P, .P, .P] [(.var 2), (.call 17 [.P] [(.var 4)]), (.int 1)])] [],
  .ifs (.cmp .eq (.var 0) (.str "pick")) [.ret (.lc (.ix (.lst [(.var 8), (.var 7)]) (.var 6)) (.tp [6, 7, 8]) (.zp [(.var 2), (.var 4), (.ix (.var 1) (.int 2))]) none ⟨[(".0", .local), ("a", .local), ("b", .local), ("c", .local)], []⟩)] [],
  .asg 5 (.lix [(.str "and"), (.str "or"), (.str "odd")] (.var 0)),
  .ret (.lc (.ix (.lst [(.bi .int [(.cmp .eq (.bin .add (.var 6) (.var 7)) (.int 2))]), (.bi .int [(.cmp .gt (.bin .add (.var 6) (.var 7)) (.int 0))]), (.bin .mod (.bin .add (.var 6) (.var 7)) (.int 2))]) (.var 5)) (.tp [6, 7]) (.zp [(.var 2), (.var 4)]) none ⟨[(".0", .local), ("a", .local), ("b", .local), ("int", .globalImplicit), ("at", .free)], []⟩)]
def f_law_made : EN.Fn := ⟨2, 9, b_law_made⟩
def b_law_rows : List EN.St := [.ifs (.nt (.isi (.var 0) .str)) [.ret (.call 14 [.P, .P] [(.var 0), (.var 2)])] [],
  .ifs (.cmp .notin (.var 0) (.call 10 [] [])) [.ret (.call 14 [.P, .P] [(.ix (.var 3) (.var 0)), (.var 2)])] [],
  .asg 4 (.bin .add (.bin .add (.int 1) (.bi .int [(.cmp .inn (.var 0) (.lst [(.str "and"), (.str "or"), (.str "odd"), (.str "add"), (.str "sub"), (.str "pick")]))])) (.bi .int [(.cmp .eq (.var 0) (.str "pick"))])),
  .ret (.call 18 [.P, .P] [(.var 0), (.lc (.pop 1) (.nm 5) (.rng [(.var 4)]) none ⟨[(".0", .local), ("k", .local), ("pile", .free)], []⟩)])]
def f_law_rows : EN.Fn := ⟨4, 6, b_law_rows⟩
def b_law_worth : List EN.St := [.asg 3 (.lst []),
  .fors (.nm 4) (.rvs (.var 0)) [.expr (.app 3 (.call 19 [.P, .M, .P, .P] [(.var 4), (.var 3), (.var 1), (.var 2)]))],
  .asg 5 (.int 0),
  .fors (.nm 6) (.rvs (.ix (.var 3) (.int 0))) [.asg 5 (.bin .add (.bin .mul (.int 2) (.var 5)) (.var 6))],
  .ret (.var 5)]
def f_law_worth : EN.Fn := ⟨3, 7, b_law_worth⟩
def b_law_values : List EN.St := [.asg 3 .dd,
  .asg 4 (.call 8 [.P] [(.var 2)]),
  .fors (.nm 5) (.e (.var 1)) [.asg 6 (.lst [(.int 0), (.int 1), (.bin .sub (.var 4) (.int 1)), (.bin .fdiv (.var 4) (.int 2)), (.call 7 [.M, .P] [(.var 0), (.var 4)]), (.bin .mod (.call 7 [.M, .P] [(.var 0), (.int 9)]) (.var 4))]),
  .setix 3 (.var 5) (.ix (.var 6) (.call 7 [.M, .P] [(.var 0), (.int 6)]))],
  .ret (.var 3)]
def f_law_values : EN.Fn := ⟨3, 7, b_law_values⟩
def b_law_refused : List EN.St := [.asg 4 .non,
  .tryS [.expr (.call 5 [.P, .P, .P] [(.var 0), (.var 1), (.var 2)])] 5 4,
  .ifs (.isx 4 [7, 2, 6, 1, 5, 4]) [.ret (.bl false)] [],
  .ret (.bop true [(.isc 4 3), (.isv 4), (.cmp .eq (.wrd 4) (.var 3))])]
def f_law_refused : EN.Fn := ⟨4, 6, b_law_refused⟩
def b_law_right : List EN.St := [.asg 4 (.call 21 [.M, .P, .P] [(.var 0), (.var 1), (.var 3)]),
  .asg 5 (.call 20 [.P, .P, .P] [(.var 2), (.var 3), (.var 4)]),
  .asg 6 (.bi .dict [(.var 4)]),
  .asg 7 (.call 5 [.P, .P, .M] [(.var 2), (.var 3), (.var 6)]),
  .ifs (.bop false [(.nt (.isi (.var 7) .int)), (.isi (.var 7) .bool), (.cmp .ne (.var 7) (.var 5)), (.cmp .ne (.var 6) (.var 4))]) [.ret (.bl false)] [],
  .setix 6 (.str "qqqq") (.int 1),
  .ifs (.bop true [(.cmp .notin (.str "qqqq") (.var 1)), (.cmp .ne (.call 5 [.P, .P, .P] [(.var 2), (.var 3), (.var 6)]) (.var 5))]) [.ret (.bl false)] [],
  .asg 8 (.bi .dict [(.lc (.tup [(.var 10), (.ix (.var 4) (.var 10))]) (.nm 10) (.e (.var 1)) (some (.cmp .eq (.call 7 [.M, .P] [(.var 0), (.int 2)]) (.int 0))) ⟨[(".0", .local), ("name", .local), ("_law_take", .globalImplicit), ("deck", .free), ("values", .free)], []⟩)]),
  .asg 9 (.lc (.var 11) (.nm 11) (.e (.var 2)) (some (.bop true [(.cmp .inn (.var 11) (.var 1)), (.cmp .notin (.var 11) (.var 8))])) ⟨[(".0", .local), ("word", .local), ("fewer", .free), ("names", .free)], []⟩),
  .ifs (.cmp .ne (.var 9) (.lst [])) [.ret (.call 22 [.P, .P, .P, .P] [(.var 2), (.var 3), (.var 8), (.ix (.var 9) (.int 0))])] [],
  .ret (.cmp .eq (.call 5 [.P, .P, .P] [(.var 2), (.var 3), (.var 8)]) (.var 5))]
def f_law_right : EN.Fn := ⟨4, 12, b_law_right⟩
def blaw : List EN.St := [.asg 1 (.call 6 [.P] [(.var 0)]),
  .asg 2 (.call 11 [.M] [(.var 1)]),
  .fors (.nm 3) (.e (.lst [(.int 24), (.int 9), (.int 24)])) [.asg 4 (.call 13 [.M, .P, .P, .O] [(.var 1), (.var 2), (.var 3), (.lst [(.int 5)])]),
  .fors (.nm 5) (.rng [(.int 3)]) [.ifs (.nt (.call 23 [.M, .P, .P, .P] [(.var 1), (.var 2), (.var 4), (.call 9 [.M] [(.var 1)])])) [.ret (.bl false)] []]],
  .ret (.bl true)]
def flaw : EN.Fn := ⟨1, 6, blaw⟩
def D : Nat → Option EN.Fn := fun i => [fwords_at, fcut, fneed_names, fmade, fworth_of, fworth, f_law_deck, f_law_take, f_law_power, f_law_width, f_law_kept, f_law_names, f_law_leaf, f_law_sum, f_law_bits, f_law_added, f_law_lowest, f_law_turned_bits, f_law_made, f_law_rows, f_law_worth, f_law_values, f_law_refused, f_law_right, flaw][i]?
def g0 : EN.Val := .dct [.str "not", .str "neg", .str "twice", .str "low", .str "and", .str "or", .str "odd", .str "add", .str "sub", .str "pick", .str "same", .str "under", .str "beneath", .str "sign", .str "nought", .str "both", .str "either", .str "so", .str "never", .str "yes"] [.str "sum", .str "sum", .str "sum", .str "sum", .str "sum", .str "sum", .str "sum", .str "sum", .str "sum", .str "sum", .str "claim", .str "claim", .str "claim", .str "claim", .str "claim", .str "claim", .str "claim", .str "claim", .str "claim", .str "claim"]
def g1 : EN.Val := .dct [.str "not", .str "neg", .str "twice", .str "low", .str "and", .str "or", .str "odd", .str "add", .str "sub", .str "pick", .str "same", .str "under", .str "beneath", .str "sign", .str "nought", .str "both", .str "either", .str "so", .str "never", .str "yes"] [.tup [.str "sum"], .tup [.str "sum"], .tup [.str "sum"], .tup [.str "sum"], .tup [.str "sum", .str "sum"], .tup [.str "sum", .str "sum"], .tup [.str "sum", .str "sum"], .tup [.str "sum", .str "sum"], .tup [.str "sum", .str "sum"], .tup [.str "sum", .str "sum", .str "sum"], .tup [.str "sum", .str "sum"], .tup [.str "sum", .str "sum"], .tup [.str "sum", .str "sum"], .tup [.str "sum"], .tup [.str "sum"], .tup [.str "claim", .str "claim"], .tup [.str "claim", .str "claim"], .tup [.str "claim", .str "claim"], .tup [.str "claim"], .tup []]
def gl : Nat → Option EN.Val := fun i => match i with
  | 0 => some g0
  | 1 => some g1
  | _ => none
theorem uwords_at {m : Nat} {a0 : EN.OV} {Q : EN.OV → EN.Env → Prop} (k : EN.Wr (EN.exs (EN.run D gl m) gl [!EN.isP a0] bwords_at [some a0, none, none]) fun fl e => match fl with
  | .rt r => Q r (EN.mask [a0] e)
  | .nx => Q (.p .non) (EN.mask [a0] e)
  | _ => False) : EN.Wc (EN.run D gl (m + 1) 0 [a0]) Q := EN.w_run rfl rfl k
theorem xwords_at {m : Nat} {a0 : EN.OV} {E : EN.Xc → EN.Env → Prop} (k : EN.Wx (EN.exs (EN.run D gl m) gl [!EN.isP a0] bwords_at [some a0, none, none]) fun x e => E x (EN.mask [a0] e)) : EN.Wcx (EN.run D gl (m + 1) 0 [a0]) E := EN.wx_run rfl rfl k
theorem ucut {m : Nat} {a0 a1 : EN.OV} {Q : EN.OV → EN.Env → Prop} (k : EN.Wr (EN.exs (EN.run D gl m) gl [!EN.isP a0, !EN.isP a1] bcut [some a0, some a1]) fun fl e => match fl with
  | .rt r => Q r (EN.mask [a0, a1] e)
  | .nx => Q (.p .non) (EN.mask [a0, a1] e)
  | _ => False) : EN.Wc (EN.run D gl (m + 1) 1 [a0, a1]) Q := EN.w_run rfl rfl k
theorem xcut {m : Nat} {a0 a1 : EN.OV} {E : EN.Xc → EN.Env → Prop} (k : EN.Wx (EN.exs (EN.run D gl m) gl [!EN.isP a0, !EN.isP a1] bcut [some a0, some a1]) fun x e => E x (EN.mask [a0, a1] e)) : EN.Wcx (EN.run D gl (m + 1) 1 [a0, a1]) E := EN.wx_run rfl rfl k
theorem uneed_names {m : Nat} {a0 a1 : EN.OV} {Q : EN.OV → EN.Env → Prop} (k : EN.Wr (EN.exs (EN.run D gl m) gl [!EN.isP a0, !EN.isP a1] bneed_names [some a0, some a1, none]) fun fl e => match fl with
  | .rt r => Q r (EN.mask [a0, a1] e)
  | .nx => Q (.p .non) (EN.mask [a0, a1] e)
  | _ => False) : EN.Wc (EN.run D gl (m + 1) 2 [a0, a1]) Q := EN.w_run rfl rfl k
theorem xneed_names {m : Nat} {a0 a1 : EN.OV} {E : EN.Xc → EN.Env → Prop} (k : EN.Wx (EN.exs (EN.run D gl m) gl [!EN.isP a0, !EN.isP a1] bneed_names [some a0, some a1, none]) fun x e => E x (EN.mask [a0, a1] e)) : EN.Wcx (EN.run D gl (m + 1) 2 [a0, a1]) E := EN.wx_run rfl rfl k
theorem umade {m : Nat} {a0 a1 a2 : EN.OV} {Q : EN.OV → EN.Env → Prop} (k : EN.Wr (EN.exs (EN.run D gl m) gl [!EN.isP a0, !EN.isP a1, !EN.isP a2] bmade [some a0, some a1, some a2, none, none]) fun fl e => match fl with
  | .rt r => Q r (EN.mask [a0, a1, a2] e)
  | .nx => Q (.p .non) (EN.mask [a0, a1, a2] e)
  | _ => False) : EN.Wc (EN.run D gl (m + 1) 3 [a0, a1, a2]) Q := EN.w_run rfl rfl k
theorem xmade {m : Nat} {a0 a1 a2 : EN.OV} {E : EN.Xc → EN.Env → Prop} (k : EN.Wx (EN.exs (EN.run D gl m) gl [!EN.isP a0, !EN.isP a1, !EN.isP a2] bmade [some a0, some a1, some a2, none, none]) fun x e => E x (EN.mask [a0, a1, a2] e)) : EN.Wcx (EN.run D gl (m + 1) 3 [a0, a1, a2]) E := EN.wx_run rfl rfl k
theorem uworth_of {m : Nat} {a0 a1 a2 a3 : EN.OV} {Q : EN.OV → EN.Env → Prop} (k : EN.Wr (EN.exs (EN.run D gl m) gl [!EN.isP a0, !EN.isP a1, !EN.isP a2, !EN.isP a3] bworth_of [some a0, some a1, some a2, some a3, none]) fun fl e => match fl with
  | .rt r => Q r (EN.mask [a0, a1, a2, a3] e)
  | .nx => Q (.p .non) (EN.mask [a0, a1, a2, a3] e)
  | _ => False) : EN.Wc (EN.run D gl (m + 1) 4 [a0, a1, a2, a3]) Q := EN.w_run rfl rfl k
theorem xworth_of {m : Nat} {a0 a1 a2 a3 : EN.OV} {E : EN.Xc → EN.Env → Prop} (k : EN.Wx (EN.exs (EN.run D gl m) gl [!EN.isP a0, !EN.isP a1, !EN.isP a2, !EN.isP a3] bworth_of [some a0, some a1, some a2, some a3, none]) fun x e => E x (EN.mask [a0, a1, a2, a3] e)) : EN.Wcx (EN.run D gl (m + 1) 4 [a0, a1, a2, a3]) E := EN.wx_run rfl rfl k
theorem uworth {m : Nat} {a0 a1 a2 : EN.OV} {Q : EN.OV → EN.Env → Prop} (k : EN.Wr (EN.exs (EN.run D gl m) gl [!EN.isP a0, !EN.isP a1, !EN.isP a2] bworth [some a0, some a1, some a2, none, none]) fun fl e => match fl with
  | .rt r => Q r (EN.mask [a0, a1, a2] e)
  | .nx => Q (.p .non) (EN.mask [a0, a1, a2] e)
  | _ => False) : EN.Wc (EN.run D gl (m + 1) 5 [a0, a1, a2]) Q := EN.w_run rfl rfl k
theorem xworth {m : Nat} {a0 a1 a2 : EN.OV} {E : EN.Xc → EN.Env → Prop} (k : EN.Wx (EN.exs (EN.run D gl m) gl [!EN.isP a0, !EN.isP a1, !EN.isP a2] bworth [some a0, some a1, some a2, none, none]) fun x e => E x (EN.mask [a0, a1, a2] e)) : EN.Wcx (EN.run D gl (m + 1) 5 [a0, a1, a2]) E := EN.wx_run rfl rfl k
theorem u_law_deck {m : Nat} {a0 : EN.OV} {Q : EN.OV → EN.Env → Prop} (k : EN.Wr (EN.exs (EN.run D gl m) gl [!EN.isP a0] b_law_deck [some a0, none, none, none]) fun fl e => match fl with
  | .rt r => Q r (EN.mask [a0] e)
  | .nx => Q (.p .non) (EN.mask [a0] e)
  | _ => False) : EN.Wc (EN.run D gl (m + 1) 6 [a0]) Q := EN.w_run rfl rfl k
theorem x_law_deck {m : Nat} {a0 : EN.OV} {E : EN.Xc → EN.Env → Prop} (k : EN.Wx (EN.exs (EN.run D gl m) gl [!EN.isP a0] b_law_deck [some a0, none, none, none]) fun x e => E x (EN.mask [a0] e)) : EN.Wcx (EN.run D gl (m + 1) 6 [a0]) E := EN.wx_run rfl rfl k
theorem u_law_take {m : Nat} {a0 a1 : EN.OV} {Q : EN.OV → EN.Env → Prop} (k : EN.Wr (EN.exs (EN.run D gl m) gl [!EN.isP a0, !EN.isP a1] b_law_take [some a0, some a1, none, none]) fun fl e => match fl with
  | .rt r => Q r (EN.mask [a0, a1] e)
  | .nx => Q (.p .non) (EN.mask [a0, a1] e)
  | _ => False) : EN.Wc (EN.run D gl (m + 1) 7 [a0, a1]) Q := EN.w_run rfl rfl k
theorem x_law_take {m : Nat} {a0 a1 : EN.OV} {E : EN.Xc → EN.Env → Prop} (k : EN.Wx (EN.exs (EN.run D gl m) gl [!EN.isP a0, !EN.isP a1] b_law_take [some a0, some a1, none, none]) fun x e => E x (EN.mask [a0, a1] e)) : EN.Wcx (EN.run D gl (m + 1) 7 [a0, a1]) E := EN.wx_run rfl rfl k
theorem u_law_power {m : Nat} {a0 : EN.OV} {Q : EN.OV → EN.Env → Prop} (k : EN.Wr (EN.exs (EN.run D gl m) gl [!EN.isP a0] b_law_power [some a0, none, none]) fun fl e => match fl with
  | .rt r => Q r (EN.mask [a0] e)
  | .nx => Q (.p .non) (EN.mask [a0] e)
  | _ => False) : EN.Wc (EN.run D gl (m + 1) 8 [a0]) Q := EN.w_run rfl rfl k
theorem x_law_power {m : Nat} {a0 : EN.OV} {E : EN.Xc → EN.Env → Prop} (k : EN.Wx (EN.exs (EN.run D gl m) gl [!EN.isP a0] b_law_power [some a0, none, none]) fun x e => E x (EN.mask [a0] e)) : EN.Wcx (EN.run D gl (m + 1) 8 [a0]) E := EN.wx_run rfl rfl k
theorem u_law_width {m : Nat} {a0 : EN.OV} {Q : EN.OV → EN.Env → Prop} (k : EN.Wr (EN.exs (EN.run D gl m) gl [!EN.isP a0] b_law_width [some a0]) fun fl e => match fl with
  | .rt r => Q r (EN.mask [a0] e)
  | .nx => Q (.p .non) (EN.mask [a0] e)
  | _ => False) : EN.Wc (EN.run D gl (m + 1) 9 [a0]) Q := EN.w_run rfl rfl k
theorem x_law_width {m : Nat} {a0 : EN.OV} {E : EN.Xc → EN.Env → Prop} (k : EN.Wx (EN.exs (EN.run D gl m) gl [!EN.isP a0] b_law_width [some a0]) fun x e => E x (EN.mask [a0] e)) : EN.Wcx (EN.run D gl (m + 1) 9 [a0]) E := EN.wx_run rfl rfl k
theorem u_law_kept {m : Nat} {Q : EN.OV → EN.Env → Prop} (k : EN.Wr (EN.exs (EN.run D gl m) gl [] b_law_kept [none]) fun fl e => match fl with
  | .rt r => Q r (EN.mask [] e)
  | .nx => Q (.p .non) (EN.mask [] e)
  | _ => False) : EN.Wc (EN.run D gl (m + 1) 10 []) Q := EN.w_run rfl rfl k
theorem x_law_kept {m : Nat} {E : EN.Xc → EN.Env → Prop} (k : EN.Wx (EN.exs (EN.run D gl m) gl [] b_law_kept [none]) fun x e => E x (EN.mask [] e)) : EN.Wcx (EN.run D gl (m + 1) 10 []) E := EN.wx_run rfl rfl k
theorem u_law_names {m : Nat} {a0 : EN.OV} {Q : EN.OV → EN.Env → Prop} (k : EN.Wr (EN.exs (EN.run D gl m) gl [!EN.isP a0] b_law_names [some a0, none, none, none, none, none, none, none, none]) fun fl e => match fl with
  | .rt r => Q r (EN.mask [a0] e)
  | .nx => Q (.p .non) (EN.mask [a0] e)
  | _ => False) : EN.Wc (EN.run D gl (m + 1) 11 [a0]) Q := EN.w_run rfl rfl k
theorem x_law_names {m : Nat} {a0 : EN.OV} {E : EN.Xc → EN.Env → Prop} (k : EN.Wx (EN.exs (EN.run D gl m) gl [!EN.isP a0] b_law_names [some a0, none, none, none, none, none, none, none, none]) fun x e => E x (EN.mask [a0] e)) : EN.Wcx (EN.run D gl (m + 1) 11 [a0]) E := EN.wx_run rfl rfl k
theorem u_law_leaf {m : Nat} {a0 a1 : EN.OV} {Q : EN.OV → EN.Env → Prop} (k : EN.Wr (EN.exs (EN.run D gl m) gl [!EN.isP a0, !EN.isP a1] b_law_leaf [some a0, some a1, none]) fun fl e => match fl with
  | .rt r => Q r (EN.mask [a0, a1] e)
  | .nx => Q (.p .non) (EN.mask [a0, a1] e)
  | _ => False) : EN.Wc (EN.run D gl (m + 1) 12 [a0, a1]) Q := EN.w_run rfl rfl k
theorem x_law_leaf {m : Nat} {a0 a1 : EN.OV} {E : EN.Xc → EN.Env → Prop} (k : EN.Wx (EN.exs (EN.run D gl m) gl [!EN.isP a0, !EN.isP a1] b_law_leaf [some a0, some a1, none]) fun x e => E x (EN.mask [a0, a1] e)) : EN.Wcx (EN.run D gl (m + 1) 12 [a0, a1]) E := EN.wx_run rfl rfl k
theorem u_law_sum {m : Nat} {a0 a1 a2 a3 : EN.OV} {Q : EN.OV → EN.Env → Prop} (k : EN.Wr (EN.exs (EN.run D gl m) gl [!EN.isP a0, !EN.isP a1, !EN.isP a2, !EN.isP a3] b_law_sum [some a0, some a1, some a2, some a3, none, none, none, none, none, none]) fun fl e => match fl with
  | .rt r => Q r (EN.mask [a0, a1, a2, a3] e)
  | .nx => Q (.p .non) (EN.mask [a0, a1, a2, a3] e)
  | _ => False) : EN.Wc (EN.run D gl (m + 1) 13 [a0, a1, a2, a3]) Q := EN.w_run rfl rfl k
theorem x_law_sum {m : Nat} {a0 a1 a2 a3 : EN.OV} {E : EN.Xc → EN.Env → Prop} (k : EN.Wx (EN.exs (EN.run D gl m) gl [!EN.isP a0, !EN.isP a1, !EN.isP a2, !EN.isP a3] b_law_sum [some a0, some a1, some a2, some a3, none, none, none, none, none, none]) fun x e => E x (EN.mask [a0, a1, a2, a3] e)) : EN.Wcx (EN.run D gl (m + 1) 13 [a0, a1, a2, a3]) E := EN.wx_run rfl rfl k
theorem u_law_bits {m : Nat} {a0 a1 : EN.OV} {Q : EN.OV → EN.Env → Prop} (k : EN.Wr (EN.exs (EN.run D gl m) gl [!EN.isP a0, !EN.isP a1] b_law_bits [some a0, some a1, none, none]) fun fl e => match fl with
  | .rt r => Q r (EN.mask [a0, a1] e)
  | .nx => Q (.p .non) (EN.mask [a0, a1] e)
  | _ => False) : EN.Wc (EN.run D gl (m + 1) 14 [a0, a1]) Q := EN.w_run rfl rfl k
theorem x_law_bits {m : Nat} {a0 a1 : EN.OV} {E : EN.Xc → EN.Env → Prop} (k : EN.Wx (EN.exs (EN.run D gl m) gl [!EN.isP a0, !EN.isP a1] b_law_bits [some a0, some a1, none, none]) fun x e => E x (EN.mask [a0, a1] e)) : EN.Wcx (EN.run D gl (m + 1) 14 [a0, a1]) E := EN.wx_run rfl rfl k
theorem u_law_added {m : Nat} {a0 a1 a2 : EN.OV} {Q : EN.OV → EN.Env → Prop} (k : EN.Wr (EN.exs (EN.run D gl m) gl [!EN.isP a0, !EN.isP a1, !EN.isP a2] b_law_added [some a0, some a1, some a2, none, none, none]) fun fl e => match fl with
  | .rt r => Q r (EN.mask [a0, a1, a2] e)
  | .nx => Q (.p .non) (EN.mask [a0, a1, a2] e)
  | _ => False) : EN.Wc (EN.run D gl (m + 1) 15 [a0, a1, a2]) Q := EN.w_run rfl rfl k
theorem x_law_added {m : Nat} {a0 a1 a2 : EN.OV} {E : EN.Xc → EN.Env → Prop} (k : EN.Wx (EN.exs (EN.run D gl m) gl [!EN.isP a0, !EN.isP a1, !EN.isP a2] b_law_added [some a0, some a1, some a2, none, none, none]) fun x e => E x (EN.mask [a0, a1, a2] e)) : EN.Wcx (EN.run D gl (m + 1) 15 [a0, a1, a2]) E := EN.wx_run rfl rfl k
theorem u_law_lowest {m : Nat} {a0 : EN.OV} {Q : EN.OV → EN.Env → Prop} (k : EN.Wr (EN.exs (EN.run D gl m) gl [!EN.isP a0] b_law_lowest [some a0, none]) fun fl e => match fl with
  | .rt r => Q r (EN.mask [a0] e)
  | .nx => Q (.p .non) (EN.mask [a0] e)
  | _ => False) : EN.Wc (EN.run D gl (m + 1) 16 [a0]) Q := EN.w_run rfl rfl k
theorem x_law_lowest {m : Nat} {a0 : EN.OV} {E : EN.Xc → EN.Env → Prop} (k : EN.Wx (EN.exs (EN.run D gl m) gl [!EN.isP a0] b_law_lowest [some a0, none]) fun x e => E x (EN.mask [a0] e)) : EN.Wcx (EN.run D gl (m + 1) 16 [a0]) E := EN.wx_run rfl rfl k
theorem u_law_turned_bits {m : Nat} {a0 : EN.OV} {Q : EN.OV → EN.Env → Prop} (k : EN.Wr (EN.exs (EN.run D gl m) gl [!EN.isP a0] b_law_turned_bits [some a0, none]) fun fl e => match fl with
  | .rt r => Q r (EN.mask [a0] e)
  | .nx => Q (.p .non) (EN.mask [a0] e)
  | _ => False) : EN.Wc (EN.run D gl (m + 1) 17 [a0]) Q := EN.w_run rfl rfl k
theorem x_law_turned_bits {m : Nat} {a0 : EN.OV} {E : EN.Xc → EN.Env → Prop} (k : EN.Wx (EN.exs (EN.run D gl m) gl [!EN.isP a0] b_law_turned_bits [some a0, none]) fun x e => E x (EN.mask [a0] e)) : EN.Wcx (EN.run D gl (m + 1) 17 [a0]) E := EN.wx_run rfl rfl k
theorem u_law_made {m : Nat} {a0 a1 : EN.OV} {Q : EN.OV → EN.Env → Prop} (k : EN.Wr (EN.exs (EN.run D gl m) gl [!EN.isP a0, !EN.isP a1] b_law_made [some a0, some a1, none, none, none, none, none, none, none]) fun fl e => match fl with
  | .rt r => Q r (EN.mask [a0, a1] e)
  | .nx => Q (.p .non) (EN.mask [a0, a1] e)
  | _ => False) : EN.Wc (EN.run D gl (m + 1) 18 [a0, a1]) Q := EN.w_run rfl rfl k
theorem x_law_made {m : Nat} {a0 a1 : EN.OV} {E : EN.Xc → EN.Env → Prop} (k : EN.Wx (EN.exs (EN.run D gl m) gl [!EN.isP a0, !EN.isP a1] b_law_made [some a0, some a1, none, none, none, none, none, none, none]) fun x e => E x (EN.mask [a0, a1] e)) : EN.Wcx (EN.run D gl (m + 1) 18 [a0, a1]) E := EN.wx_run rfl rfl k
theorem u_law_rows {m : Nat} {a0 a1 a2 a3 : EN.OV} {Q : EN.OV → EN.Env → Prop} (k : EN.Wr (EN.exs (EN.run D gl m) gl [!EN.isP a0, !EN.isP a1, !EN.isP a2, !EN.isP a3] b_law_rows [some a0, some a1, some a2, some a3, none, none]) fun fl e => match fl with
  | .rt r => Q r (EN.mask [a0, a1, a2, a3] e)
  | .nx => Q (.p .non) (EN.mask [a0, a1, a2, a3] e)
  | _ => False) : EN.Wc (EN.run D gl (m + 1) 19 [a0, a1, a2, a3]) Q := EN.w_run rfl rfl k
theorem x_law_rows {m : Nat} {a0 a1 a2 a3 : EN.OV} {E : EN.Xc → EN.Env → Prop} (k : EN.Wx (EN.exs (EN.run D gl m) gl [!EN.isP a0, !EN.isP a1, !EN.isP a2, !EN.isP a3] b_law_rows [some a0, some a1, some a2, some a3, none, none]) fun x e => E x (EN.mask [a0, a1, a2, a3] e)) : EN.Wcx (EN.run D gl (m + 1) 19 [a0, a1, a2, a3]) E := EN.wx_run rfl rfl k
theorem u_law_worth {m : Nat} {a0 a1 a2 : EN.OV} {Q : EN.OV → EN.Env → Prop} (k : EN.Wr (EN.exs (EN.run D gl m) gl [!EN.isP a0, !EN.isP a1, !EN.isP a2] b_law_worth [some a0, some a1, some a2, none, none, none, none]) fun fl e => match fl with
  | .rt r => Q r (EN.mask [a0, a1, a2] e)
  | .nx => Q (.p .non) (EN.mask [a0, a1, a2] e)
  | _ => False) : EN.Wc (EN.run D gl (m + 1) 20 [a0, a1, a2]) Q := EN.w_run rfl rfl k
theorem x_law_worth {m : Nat} {a0 a1 a2 : EN.OV} {E : EN.Xc → EN.Env → Prop} (k : EN.Wx (EN.exs (EN.run D gl m) gl [!EN.isP a0, !EN.isP a1, !EN.isP a2] b_law_worth [some a0, some a1, some a2, none, none, none, none]) fun x e => E x (EN.mask [a0, a1, a2] e)) : EN.Wcx (EN.run D gl (m + 1) 20 [a0, a1, a2]) E := EN.wx_run rfl rfl k
theorem u_law_values {m : Nat} {a0 a1 a2 : EN.OV} {Q : EN.OV → EN.Env → Prop} (k : EN.Wr (EN.exs (EN.run D gl m) gl [!EN.isP a0, !EN.isP a1, !EN.isP a2] b_law_values [some a0, some a1, some a2, none, none, none, none]) fun fl e => match fl with
  | .rt r => Q r (EN.mask [a0, a1, a2] e)
  | .nx => Q (.p .non) (EN.mask [a0, a1, a2] e)
  | _ => False) : EN.Wc (EN.run D gl (m + 1) 21 [a0, a1, a2]) Q := EN.w_run rfl rfl k
theorem x_law_values {m : Nat} {a0 a1 a2 : EN.OV} {E : EN.Xc → EN.Env → Prop} (k : EN.Wx (EN.exs (EN.run D gl m) gl [!EN.isP a0, !EN.isP a1, !EN.isP a2] b_law_values [some a0, some a1, some a2, none, none, none, none]) fun x e => E x (EN.mask [a0, a1, a2] e)) : EN.Wcx (EN.run D gl (m + 1) 21 [a0, a1, a2]) E := EN.wx_run rfl rfl k
theorem u_law_refused {m : Nat} {a0 a1 a2 a3 : EN.OV} {Q : EN.OV → EN.Env → Prop} (k : EN.Wr (EN.exs (EN.run D gl m) gl [!EN.isP a0, !EN.isP a1, !EN.isP a2, !EN.isP a3] b_law_refused [some a0, some a1, some a2, some a3, none, none]) fun fl e => match fl with
  | .rt r => Q r (EN.mask [a0, a1, a2, a3] e)
  | .nx => Q (.p .non) (EN.mask [a0, a1, a2, a3] e)
  | _ => False) : EN.Wc (EN.run D gl (m + 1) 22 [a0, a1, a2, a3]) Q := EN.w_run rfl rfl k
theorem x_law_refused {m : Nat} {a0 a1 a2 a3 : EN.OV} {E : EN.Xc → EN.Env → Prop} (k : EN.Wx (EN.exs (EN.run D gl m) gl [!EN.isP a0, !EN.isP a1, !EN.isP a2, !EN.isP a3] b_law_refused [some a0, some a1, some a2, some a3, none, none]) fun x e => E x (EN.mask [a0, a1, a2, a3] e)) : EN.Wcx (EN.run D gl (m + 1) 22 [a0, a1, a2, a3]) E := EN.wx_run rfl rfl k
theorem u_law_right {m : Nat} {a0 a1 a2 a3 : EN.OV} {Q : EN.OV → EN.Env → Prop} (k : EN.Wr (EN.exs (EN.run D gl m) gl [!EN.isP a0, !EN.isP a1, !EN.isP a2, !EN.isP a3] b_law_right [some a0, some a1, some a2, some a3, none, none, none, none, none, none, none, none]) fun fl e => match fl with
  | .rt r => Q r (EN.mask [a0, a1, a2, a3] e)
  | .nx => Q (.p .non) (EN.mask [a0, a1, a2, a3] e)
  | _ => False) : EN.Wc (EN.run D gl (m + 1) 23 [a0, a1, a2, a3]) Q := EN.w_run rfl rfl k
theorem x_law_right {m : Nat} {a0 a1 a2 a3 : EN.OV} {E : EN.Xc → EN.Env → Prop} (k : EN.Wx (EN.exs (EN.run D gl m) gl [!EN.isP a0, !EN.isP a1, !EN.isP a2, !EN.isP a3] b_law_right [some a0, some a1, some a2, some a3, none, none, none, none, none, none, none, none]) fun x e => E x (EN.mask [a0, a1, a2, a3] e)) : EN.Wcx (EN.run D gl (m + 1) 23 [a0, a1, a2, a3]) E := EN.wx_run rfl rfl k
theorem ulaw {m : Nat} {a0 : EN.OV} {Q : EN.OV → EN.Env → Prop} (k : EN.Wr (EN.exs (EN.run D gl m) gl [!EN.isP a0] blaw [some a0, none, none, none, none, none]) fun fl e => match fl with
  | .rt r => Q r (EN.mask [a0] e)
  | .nx => Q (.p .non) (EN.mask [a0] e)
  | _ => False) : EN.Wc (EN.run D gl (m + 1) 24 [a0]) Q := EN.w_run rfl rfl k
theorem xlaw {m : Nat} {a0 : EN.OV} {E : EN.Xc → EN.Env → Prop} (k : EN.Wx (EN.exs (EN.run D gl m) gl [!EN.isP a0] blaw [some a0, none, none, none, none, none]) fun x e => E x (EN.mask [a0] e)) : EN.Wcx (EN.run D gl (m + 1) 24 [a0]) E := EN.wx_run rfl rfl k
end Law

namespace Law
open PySem L2 EN
local macro_rules | `(tactic| fail "w0") => `(tactic| first
  | with_reducible refine EN.w_int ?_
  | with_reducible refine EN.w_var (by with_unfolding_all rfl) ?_
  | with_reducible refine EN.w_varL (by with_unfolding_all rfl) ?_
  | with_reducible refine EN.w_varD (by with_unfolding_all rfl) ?_
  | with_reducible refine EN.wp_dict ?_
  | with_reducible refine EN.w_str ?_
  | with_reducible refine EN.w_bl ?_
  | with_reducible refine EN.w_non ?_
  | with_reducible refine EN.w_gl (by with_unfolding_all rfl) (by with_unfolding_all rfl) ?_
  | with_reducible refine EN.wo_var (by with_unfolding_all rfl) (by with_unfolding_all rfl) ?_
  | with_reducible refine EN.wo_nd (by with_unfolding_all rfl) (by with_unfolding_all rfl) ?_
  | with_reducible refine EN.wo_gen (by with_unfolding_all rfl) ?_)
local macro_rules | `(tactic| fail "w1") => `(tactic| first
  | with_reducible refine EN.w_bin ?_
  | with_reducible refine EN.w_cmp ?_
  | with_reducible refine EN.w_ix ?_
  | with_reducible refine EN.w_neg ?_
  | with_reducible refine EN.w_nt ?_
  | with_reducible refine EN.w_ife ?_
  | with_reducible refine EN.w_slc ?_
  | with_reducible refine EN.w_rev ?_
  | with_reducible refine EN.w_tup ?_
  | with_reducible refine EN.w_lst ?_
  | with_reducible refine EN.w_bi ?_
  | with_reducible refine EN.w_isi ?_)
local macro_rules | `(tactic| fail "w2") => `(tactic| first
  | with_reducible refine EN.w_jn ?_
  | with_reducible refine EN.w_dd ?_
  | with_reducible refine EN.w_gin (by with_unfolding_all rfl) ?_
  | with_reducible refine EN.w_gix (by with_unfolding_all rfl) ?_
  | with_reducible refine EN.w_gget (by with_unfolding_all rfl) ?_
  | with_reducible refine EN.w_sidx (by with_unfolding_all rfl) ?_
  | with_reducible refine EN.w_sidxL (by with_unfolding_all rfl) ?_
  | with_reducible refine EN.w_lix ?_
  | with_reducible refine EN.w_isx (by with_unfolding_all rfl) (by decide) ?_
  | with_reducible refine EN.w_isc (by with_unfolding_all rfl) (by decide) ?_
  | with_reducible refine EN.w_isv (by with_unfolding_all rfl) (by decide) ?_
  | with_reducible refine EN.w_wrd (by with_unfolding_all rfl) ?_)
local macro_rules | `(tactic| fail "w3") => `(tactic| first
  | with_reducible refine EN.w_dl ?_
  | with_reducible refine EN.w_is2 ?_
  | with_reducible refine EN.wp_isi2 (by with_unfolding_all rfl) ?_
  | with_reducible refine EN.w_spl (by with_unfolding_all rfl) ?_
  | with_reducible refine EN.w_exr (by with_unfolding_all rfl) ?_
  | with_reducible refine EN.w_chn ?_
  | with_reducible refine EN.w_bop ?_
  | with_reducible refine EN.w_bop1 ?_
  | with_reducible refine EN.w_bopC ?_
  | with_reducible refine EN.w_call ?_
  | with_reducible refine EN.w_nix (by with_unfolding_all rfl) (by with_unfolding_all rfl) (by with_unfolding_all rfl) ?_
  | with_reducible refine EN.w_nlen (by with_unfolding_all rfl) (by with_unfolding_all rfl) ?_)
local macro_rules | `(tactic| fail "w4") => `(tactic| first
  | with_reducible refine EN.w_app (by with_unfolding_all rfl) ?_
  | with_reducible refine EN.w_lc ?_
  | with_reducible refine EN.w_tst ?_
  | with_reducible refine EN.w_evs0 ?_
  | with_reducible refine EN.w_evs1 ?_
  | with_reducible refine EN.w_odl0 ?_
  | with_reducible refine EN.w_odl1 ?_
  | with_reducible refine EN.w_eva0 ?_
  | with_reducible refine EN.w_evaP ?_
  | with_reducible refine EN.w_evaO ?_
  | with_reducible refine EN.w_evaM (by with_unfolding_all rfl) ?_
  | with_reducible refine EN.w_o0 ?_)
local macro_rules | `(tactic| fail "w5") => `(tactic| first
  | with_reducible refine EN.w_o1 ?_
  | with_reducible refine EN.w_pv ?_
  | with_reducible refine EN.wi_rng1 ?_
  | with_reducible refine EN.wi_rng2 ?_
  | with_reducible refine EN.wi_e ?_
  | with_reducible refine EN.wi_rvs ?_
  | with_reducible refine EN.wi_zp ?_
  | with_reducible refine EN.w_t0 ?_
  | with_reducible refine EN.w_t1 ?_
  | with_reducible refine EN.w_nil ?_
  | with_reducible refine EN.w_asg (by with_unfolding_all rfl) ?_
  | with_reducible refine EN.w_ifs ?_)
local macro_rules | `(tactic| fail "w6") => `(tactic| first
  | with_reducible refine EN.w_ret ?_
  | with_reducible refine EN.w_expr ?_
  | with_reducible refine EN.w_brk ?_
  | with_reducible refine EN.w_cont ?_
  | with_reducible refine EN.w_pass ?_
  | with_reducible refine EN.w_setix ?_
  | with_reducible refine EN.w_nset ?_
  | with_reducible refine EN.w_ford (by with_unfolding_all rfl) ?_
  | with_reducible refine EN.w_for ?_
  | with_reducible refine EN.w_whl ?_
  | with_reducible refine EN.th_nx ?_
  | with_reducible refine EN.th_rt ?_)
local macro_rules | `(tactic| fail "w7") => `(tactic| first
  | with_reducible refine EN.th_bk ?_
  | with_reducible refine EN.th_ct ?_
  | with_reducible refine EN.tn_nx ?_
  | with_reducible refine EN.tn_ct ?_
  | with_reducible refine EN.tn_bk ?_
  | with_reducible refine EN.tn_rt ?_
  | with_reducible refine EN.w_retV (by with_unfolding_all rfl) ?_
  | with_reducible refine EN.w_retM (by with_unfolding_all rfl) ?_
  | with_reducible refine EN.w_retL ?_
  | with_reducible refine EN.w_retE (by with_unfolding_all rfl) ?_
  | with_reducible refine EN.w_mvs0 ?_
  | with_reducible refine EN.w_mvs1 ?_)
local macro_rules | `(tactic| fail "w8") => `(tactic| first
  | with_reducible refine EN.w_mvV (by with_unfolding_all rfl) ?_
  | with_reducible refine EN.w_mvL (by with_unfolding_all rfl) ?_
  | with_reducible refine EN.w_mvE (by with_unfolding_all rfl) ?_
  | (with_reducible refine EN.Wr.bd ?_)
  | with_reducible refine EN.bopC_go (by with_unfolding_all rfl) ?_
  | with_reducible refine EN.bopC_stop (by with_unfolding_all rfl) ?_
  | with_reducible refine EN.bop_end (by with_unfolding_all rfl) ?_
  | with_reducible refine EN.size_and (by with_unfolding_all rfl) ?_
  | with_reducible refine EN.some_and (by with_unfolding_all rfl) ?_
  | ((with_reducible refine EN.rng_and ?_ ?_ ?_); (· omega); (· omega))
  | ((with_reducible refine EN.rng_and2 ?_ ?_ ?_ ?_ ?_); (· omega); (· omega); (· omega); (· omega))
  | with_reducible refine EN.bi_t ?_)
local macro_rules | `(tactic| fail "w9") => `(tactic| first
  | with_reducible refine EN.bi_f ?_
  | with_reducible refine EN.bi_t' ?_
  | with_reducible refine EN.bi_f' ?_
  | with_reducible refine EN.if_t ?_
  | with_reducible refine EN.if_f ?_
  | with_reducible refine EN.if_nt ?_
  | with_reducible refine EN.if_nf ?_
  | ((with_reducible refine EN.if_ct ?_ ?_); (· decide))
  | ((with_reducible refine EN.if_cf ?_ ?_); (· decide))
  | with_reducible refine EN.wp_addI ?_
  | with_reducible refine EN.wp_subI ?_
  | ((with_reducible refine EN.wp_mod ?_ ?_); (· first | decide | omega)))
local macro_rules | `(tactic| fail "w10") => `(tactic| first
  | ((with_reducible refine EN.wp_div ?_ ?_ ?_); (· first | decide | omega); (· first | decide | assumption))
  | ((with_reducible refine EN.wp_mul ?_ ?_); (· first | (apply EN.mul_r <;> omega) | (apply EN.mul_l <;> omega) | assumption))
  | ((with_reducible refine EN.wp_pow ?_ ?_); (· first | decide | assumption))
  | ((with_reducible refine EN.wp_shl ?_ ?_); (· first | decide | assumption))
  | ((with_reducible refine EN.wp_shr ?_ ?_); (· first | decide | omega))
  | with_reducible refine EN.wp_rd (by with_unfolding_all rfl) ?_
  | with_reducible refine EN.wp_rds (by with_unfolding_all rfl) ?_
  | ((with_reducible refine EN.wp_neF ?_ ?_); (· first | with_reducible rfl | assumption))
  | ((with_reducible refine EN.wp_eqY ?_ ?_); (· first | with_reducible rfl | assumption))
  | ((with_reducible refine EN.wp_neB ?_ ?_); (· first | with_reducible rfl | assumption))
  | ((with_reducible refine EN.wp_neTF ?_ ?_); (· first | with_reducible rfl | assumption))
  | ((with_reducible refine EN.wp_eqTY ?_ ?_); (· first | with_reducible rfl | assumption)))
local macro_rules | `(tactic| fail "w11") => `(tactic| first
  | ((with_reducible refine EN.wp_eqSN ?_ ?_); (· decide +kernel))
  | ((with_reducible refine EN.wp_eqSY ?_ ?_); (· decide +kernel))
  | with_reducible refine EN.wp_cmp (by with_unfolding_all rfl) ?_
  | with_reducible refine EN.wp_truthy (by with_unfolding_all rfl) ?_
  | with_reducible refine EN.wp_asInt (by with_unfolding_all rfl) ?_
  | with_reducible refine EN.wp_items (by with_unfolding_all rfl) ?_
  | with_reducible refine EN.wp_itemsE (by with_unfolding_all rfl) ?_
  | with_reducible refine EN.wp_all (by with_unfolding_all rfl) ?_
  | with_reducible refine EN.wp_isi (by with_unfolding_all rfl) ?_
  | with_reducible refine EN.wp_vslc (by with_unfolding_all rfl) ?_
  | with_reducible refine EN.wp_vrev (by with_unfolding_all rfl) ?_
  | with_reducible refine EN.wp_take (by with_unfolding_all rfl) ?_)
local macro_rules | `(tactic| fail "w12") => `(tactic| first
  | with_reducible refine EN.wp_andI ?_
  | with_reducible refine EN.wp_orI ?_
  | with_reducible refine EN.wp_xorI ?_
  | with_reducible refine EN.wp_vixL ?_
  | with_reducible refine EN.wp_vixT ?_
  | with_reducible refine EN.wp_vixS ?_
  | with_reducible refine EN.wp_at_nat (by with_unfolding_all rfl) ?_
  | with_reducible refine EN.wp_at_nat (by assumption) ?_
  | with_reducible refine EN.wp_len (by with_unfolding_all rfl) ?_
  | with_reducible refine EN.wp_int (by with_unfolding_all rfl) ?_
  | with_reducible refine EN.wp_tuple (by with_unfolding_all rfl) ?_
  | with_reducible refine EN.wp_list (by with_unfolding_all rfl) ?_)
local macro_rules | `(tactic| fail "w13") => `(tactic| first
  | with_reducible refine EN.wp_abs (by with_unfolding_all rfl) ?_
  | with_reducible refine EN.wp_min (by with_unfolding_all rfl) ?_
  | with_reducible refine EN.wp_max (by with_unfolding_all rfl) ?_
  | with_reducible refine EN.wp_setix (by with_unfolding_all rfl) (by with_unfolding_all rfl) (by with_unfolding_all rfl) (by with_unfolding_all rfl) ?_
  | with_reducible refine EN.wp_setixL (by with_unfolding_all rfl) ?_)
local macro_rules | `(tactic| fail) => `(tactic| first
  | fail "w0"
  | fail "w1"
  | fail "w2"
  | fail "w3"
  | fail "w4"
  | fail "w5"
  | fail "w6"
  | fail "w7"
  | fail "w8"
  | fail "w9"
  | fail "w10"
  | fail "w11"
  | fail "w12"
  | fail "w13")
theorem two_pow (i : Nat) : (2 : Int) * 2 ^ i = 2 ^ (i + 1) := by rw [Int.pow_succ]; omega
theorem two_powA (i : Nat) : (2 : Int) ^ i + 2 ^ i = 2 ^ (i + 1) := by rw [Int.pow_succ]; omega
theorem p_words_at {m : Nat} {w : Int} {Q : OV → EN.Env → Prop} (h0 : 0 ≤ w) (hw : w ≤ 1000) (k : Q (.p (.int (2 ^ w.toNat))) [none]) : Wc (run D gl (m + 1) 0 [.p (.int w)]) Q := by
  apply uwords_at
  unfold bwords_at
  (repeat fail); (try simp only [EN.fz, EN.ss, EN.back_e, EN.back_v, EN.back_mp, EN.back_ml, EN.back_md, EN.back_mn, EN.mask_e, EN.mask_p, EN.mask_l, EN.mask_d, EN.mask_n, EN.isP, EN.lstO, EN.allP, EN.wipeT, EN.restT, EN.kP, EN.gs])
  refine w_loopR (fun i e => ∃ x, e = [some (.p (.int w)), some (.p (.int (2 ^ i))), x]) rfl ⟨none, rfl⟩ ?_ ?_
  · rintro i e hi ⟨x, rfl⟩
    (repeat fail); (try simp only [EN.fz, EN.ss, EN.back_e, EN.back_v, EN.back_mp, EN.back_ml, EN.back_md, EN.back_mn, EN.mask_e, EN.mask_p, EN.mask_l, EN.mask_d, EN.mask_n, EN.isP, EN.lstO, EN.allP, EN.wipeT, EN.restT, EN.kP, EN.gs])
    exact ⟨some (.p (.int (0 + (i : Int)))), by rw [← two_pow]; rfl⟩
  · rintro e ⟨x, rfl⟩
    (repeat fail); (try simp only [EN.fz, EN.ss, EN.back_e, EN.back_v, EN.back_mp, EN.back_ml, EN.back_md, EN.back_mn, EN.mask_e, EN.mask_p, EN.mask_l, EN.mask_d, EN.mask_n, EN.isP, EN.lstO, EN.allP, EN.wipeT, EN.restT, EN.kP, EN.gs])
    exact k
theorem p_cut {m : Nat} {n w : Int} {Q : OV → EN.Env → Prop} (h0 : 0 ≤ w) (hw : w ≤ 1000) (k : Q (.p (.int (n % 2 ^ w.toNat))) [none, none]) : Wc (run D gl (m + 2) 1 [.p (.int n), .p (.int w)]) Q := by
  apply ucut
  unfold bcut
  (repeat fail); (try simp only [EN.fz, EN.ss, EN.back_e, EN.back_v, EN.back_mp, EN.back_ml, EN.back_md, EN.back_mn, EN.mask_e, EN.mask_p, EN.mask_l, EN.mask_d, EN.mask_n, EN.isP, EN.lstO, EN.allP, EN.wipeT, EN.restT, EN.kP, EN.gs])
  refine p_words_at h0 hw ?_
  (repeat fail); (try simp only [EN.fz, EN.ss, EN.back_e, EN.back_v, EN.back_mp, EN.back_ml, EN.back_md, EN.back_mn, EN.mask_e, EN.mask_p, EN.mask_l, EN.mask_d, EN.mask_n, EN.isP, EN.lstO, EN.allP, EN.wipeT, EN.restT, EN.kP, EN.gs])
  refine wp_mod (pow_pos _) ?_
  exact k
theorem p_power {m : Nat} {w : Int} {Q : OV → EN.Env → Prop} (h0 : 0 ≤ w) (hw : w ≤ 1000) (k : Q (.p (.int (2 ^ w.toNat))) [none]) : Wc (run D gl (m + 1) 8 [.p (.int w)]) Q := by
  apply u_law_power
  unfold b_law_power
  (repeat fail); (try simp only [EN.fz, EN.ss, EN.back_e, EN.back_v, EN.back_mp, EN.back_ml, EN.back_md, EN.back_mn, EN.mask_e, EN.mask_p, EN.mask_l, EN.mask_d, EN.mask_n, EN.isP, EN.lstO, EN.allP, EN.wipeT, EN.restT, EN.kP, EN.gs])
  refine w_loopR (fun i e => ∃ x, e = [some (.p (.int w)), some (.p (.int (2 ^ i))), x]) rfl ⟨none, rfl⟩ ?_ ?_
  · rintro i e hi ⟨x, rfl⟩
    (repeat fail); (try simp only [EN.fz, EN.ss, EN.back_e, EN.back_v, EN.back_mp, EN.back_ml, EN.back_md, EN.back_mn, EN.mask_e, EN.mask_p, EN.mask_l, EN.mask_d, EN.mask_n, EN.isP, EN.lstO, EN.allP, EN.wipeT, EN.restT, EN.kP, EN.gs])
    exact ⟨some (.p (.int (0 + (i : Int)))), by rw [← two_powA]⟩
  · rintro e ⟨x, rfl⟩
    (repeat fail); (try simp only [EN.fz, EN.ss, EN.back_e, EN.back_v, EN.back_mp, EN.back_ml, EN.back_md, EN.back_mn, EN.mask_e, EN.mask_p, EN.mask_l, EN.mask_d, EN.mask_n, EN.isP, EN.lstO, EN.allP, EN.wipeT, EN.restT, EN.kP, EN.gs])
    exact k
theorem p_take {m : Nat} {cells : List Int} {a n : Int} {Q : OV → EN.Env → Prop} (hc : 0 < ((cells.map Val.int).length : Int)) (hn : 0 < n) (hn2 : n.natAbs.log2 < 9000) (k : ∀ c (cells' : List Int), 0 ≤ c → c < n → 0 < ((cells'.map Val.int).length : Int) → Q (.p (.int c)) [some (.nd [.l (cells'.map Val.int), .p (.int (a + 1))]), none]) : Wc (run D gl (m + 1) 7 [.nd [.l (cells.map Val.int), .p (.int a)], .p (.int n)]) Q := by
  refine u_law_take ?_
  unfold b_law_take
  (repeat fail); (try simp only [EN.fz, EN.ss, EN.back_e, EN.back_v, EN.back_mp, EN.back_ml, EN.back_md, EN.back_mn, EN.mask_e, EN.mask_p, EN.mask_l, EN.mask_d, EN.mask_n, EN.isP, EN.lstO, EN.allP, EN.wipeT, EN.restT, EN.kP, EN.gs])
  have h1 := Int.emod_nonneg a (Int.ne_of_gt hc)
  have h2 := Int.emod_lt_of_pos a hc
  refine wp_atM h1 h2 fun c hc' => ?_
  (repeat fail); (try simp only [EN.fz, EN.ss, EN.back_e, EN.back_v, EN.back_mp, EN.back_ml, EN.back_md, EN.back_mn, EN.mask_e, EN.mask_p, EN.mask_l, EN.mask_d, EN.mask_n, EN.isP, EN.lstO, EN.allP, EN.wipeT, EN.restT, EN.kP, EN.gs])
  refine ⟨_, _, _, _, rfl, rfl, rfl, setM_in h1 h2, ?_⟩
  (repeat fail); (try simp only [EN.fz, EN.ss, EN.back_e, EN.back_v, EN.back_mp, EN.back_ml, EN.back_md, EN.back_mn, EN.mask_e, EN.mask_p, EN.mask_l, EN.mask_d, EN.mask_n, EN.isP, EN.lstO, EN.allP, EN.wipeT, EN.restT, EN.kP, EN.gs])
  exact k _ _ (Int.emod_nonneg c (Int.ne_of_gt hn)) (Int.emod_lt_of_pos c hn) (by simpa using hc)
theorem p_deck {m : Nat} {ns : List Int} {Q : OV → EN.Env → Prop} (hl : ns.length ≤ 63) (k : ∀ (cells : List Int), 0 < ((cells.map Val.int).length : Int) → Q (.nd [.l (cells.map Val.int), .p (.int 0)]) [none]) : Wc (run D gl (m + 1) 6 [.p (.scr (ns.map Val.int))]) Q := by
  apply u_law_deck
  unfold b_law_deck
  (repeat fail); (try simp only [EN.fz, EN.ss, EN.back_e, EN.back_v, EN.back_mp, EN.back_ml, EN.back_md, EN.back_mn, EN.mask_e, EN.mask_p, EN.mask_l, EN.mask_d, EN.mask_n, EN.isP, EN.lstO, EN.allP, EN.wipeT, EN.restT, EN.kP, EN.gs])
  obtain ⟨ys, hy, yl⟩ := cut_ints ns none (some ((63 : Nat) : Int))
  refine wp_catL ?_ ?_
  · rw [hy]; exact sizeLine_ge (by simp; omega)
  have e : cutL (ns.map Val.int) none (some ((63 : Nat) : Int)) ++ [Val.int ((ns.map Val.int).length : Int)] = (ys ++ [((ns.map Val.int).length : Int)]).map Val.int := by rw [hy, List.map_append]; rfl
  (try simp only [EN.fz, EN.ss, EN.back_e, EN.back_v, EN.back_mp, EN.back_ml, EN.back_md, EN.back_mn, EN.mask_e, EN.mask_p, EN.mask_l, EN.mask_d, EN.mask_n, EN.isP, EN.lstO, EN.allP, EN.wipeT, EN.restT, EN.kP, EN.gs])
  rw [e]
  have hz : (ys ++ [((ns.map Val.int).length : Int)]).length ≤ 64 := by simp; omega
  have hp : 0 < (((ys ++ [((ns.map Val.int).length : Int)]).map Val.int).length : Int) := by simp <;> omega
  generalize ys ++ [((ns.map Val.int).length : Int)] = cells at hz hp
  (repeat fail); (try simp only [EN.fz, EN.ss, EN.back_e, EN.back_v, EN.back_mp, EN.back_ml, EN.back_md, EN.back_mn, EN.mask_e, EN.mask_p, EN.mask_l, EN.mask_d, EN.mask_n, EN.isP, EN.lstO, EN.allP, EN.wipeT, EN.restT, EN.kP, EN.gs])
  refine Wp.of (show EN.bi Bi.sum [Val.lst (cutL (ns.map Val.int) none (some ((63 : Nat) : Int)))] = some (.p (.int ys.sum)) by rw [hy]; simp only [EN.bi, asInts_map, Option.map_some]) ?_
  (repeat fail); (try simp only [EN.fz, EN.ss, EN.back_e, EN.back_v, EN.back_mp, EN.back_ml, EN.back_md, EN.back_mn, EN.mask_e, EN.mask_p, EN.mask_l, EN.mask_d, EN.mask_n, EN.isP, EN.lstO, EN.allP, EN.wipeT, EN.restT, EN.kP, EN.gs])
  refine if_dec (fun h => ?_) (fun h => ?_)
  · have hz2 : ((cells.map Val.int).length : Int) ≤ 64 := by simp; omega
    (repeat fail); (try simp only [EN.fz, EN.ss, EN.back_e, EN.back_v, EN.back_mp, EN.back_ml, EN.back_md, EN.back_mn, EN.mask_e, EN.mask_p, EN.mask_l, EN.mask_d, EN.mask_n, EN.isP, EN.lstO, EN.allP, EN.wipeT, EN.restT, EN.kP, EN.gs])
    refine w_loopR (fun i e => ∃ (cs : List Int) (x y : Option OV), e = [some (.p (.scr (ns.map Val.int))), some (.l (cs.map Val.int)), x, y] ∧ cs.length = cells.length) rfl ⟨cells, _, _, rfl, rfl⟩ ?_ ?_
    · rintro i e hi ⟨cs, x, y, rfl, hcs⟩
      have hi2 : ((i : Nat) : Int) < ((cs.map Val.int).length : Int) := by simp at hi ⊢; omega
      have hi3 : ((i : Nat) : Int) < 64 := by simp at hi2 ⊢; omega
      (repeat fail); (try simp only [EN.fz, EN.ss, EN.back_e, EN.back_v, EN.back_mp, EN.back_ml, EN.back_md, EN.back_mn, EN.mask_e, EN.mask_p, EN.mask_l, EN.mask_d, EN.mask_n, EN.isP, EN.lstO, EN.allP, EN.wipeT, EN.restT, EN.kP, EN.gs])
      refine wp_atM (by omega) (by omega) fun c hc => ?_
      (repeat fail); (try simp only [EN.fz, EN.ss, EN.back_e, EN.back_v, EN.back_mp, EN.back_ml, EN.back_md, EN.back_mn, EN.mask_e, EN.mask_p, EN.mask_l, EN.mask_d, EN.mask_n, EN.isP, EN.lstO, EN.allP, EN.wipeT, EN.restT, EN.kP, EN.gs])
      refine wp_setM (by omega) (by omega) ?_
      (repeat fail); (try simp only [EN.fz, EN.ss, EN.back_e, EN.back_v, EN.back_mp, EN.back_ml, EN.back_md, EN.back_mn, EN.mask_e, EN.mask_p, EN.mask_l, EN.mask_d, EN.mask_n, EN.isP, EN.lstO, EN.allP, EN.wipeT, EN.restT, EN.kP, EN.gs])
      exact ⟨_, _, _, rfl, by simp; exact hcs⟩
    · rintro e ⟨cs, x, y, rfl, hcs⟩
      (repeat fail); (try simp only [EN.fz, EN.ss, EN.back_e, EN.back_v, EN.back_mp, EN.back_ml, EN.back_md, EN.back_mn, EN.mask_e, EN.mask_p, EN.mask_l, EN.mask_d, EN.mask_n, EN.isP, EN.lstO, EN.allP, EN.wipeT, EN.restT, EN.kP, EN.gs])
      exact k _ (by simp at hp ⊢; omega)
  · (repeat fail); (try simp only [EN.fz, EN.ss, EN.back_e, EN.back_v, EN.back_mp, EN.back_ml, EN.back_md, EN.back_mn, EN.mask_e, EN.mask_p, EN.mask_l, EN.mask_d, EN.mask_n, EN.isP, EN.lstO, EN.allP, EN.wipeT, EN.restT, EN.kP, EN.gs])
    exact k _ hp
theorem p_width {m : Nat} {cells : List Int} {a : Int} {Q : OV → EN.Env → Prop} (hc : 0 < ((cells.map Val.int).length : Int)) (k : ∀ w (cells' : List Int) a', 1 ≤ w → w ≤ 60 → 0 < ((cells'.map Val.int).length : Int) → Q (.p (.int w)) [some (.nd [.l (cells'.map Val.int), .p (.int a')])]) : Wc (run D gl (m + 2) 9 [.nd [.l (cells.map Val.int), .p (.int a)]]) Q := by
  apply u_law_width
  unfold b_law_width
  (repeat fail); (try simp only [EN.fz, EN.ss, EN.back_e, EN.back_v, EN.back_mp, EN.back_ml, EN.back_md, EN.back_mn, EN.mask_e, EN.mask_p, EN.mask_l, EN.mask_d, EN.mask_n, EN.isP, EN.lstO, EN.allP, EN.wipeT, EN.restT, EN.kP, EN.gs])
  refine p_take hc (by decide) (by decide) fun c cells1 h1 h2 hc1 => ?_
  (repeat fail); (try simp only [EN.fz, EN.ss, EN.back_e, EN.back_v, EN.back_mp, EN.back_ml, EN.back_md, EN.back_mn, EN.mask_e, EN.mask_p, EN.mask_l, EN.mask_d, EN.mask_n, EN.isP, EN.lstO, EN.allP, EN.wipeT, EN.restT, EN.kP, EN.gs])
  refine p_take hc1 (by decide) (by decide) fun d cells2 h3 h4 hc2 => ?_
  (repeat fail); (try simp only [EN.fz, EN.ss, EN.back_e, EN.back_v, EN.back_mp, EN.back_ml, EN.back_md, EN.back_mn, EN.mask_e, EN.mask_p, EN.mask_l, EN.mask_d, EN.mask_n, EN.isP, EN.lstO, EN.allP, EN.wipeT, EN.restT, EN.kP, EN.gs])
  refine wp_atI (by omega) (by simp; omega) fun v hv => ?_
  have hd : d = 0 ∨ d = 1 ∨ d = 2 ∨ d = 3 ∨ d = 4 ∨ d = 5 ∨ d = 6 ∨ d = 7 := by omega
  rcases hd with rfl | rfl | rfl | rfl | rfl | rfl | rfl | rfl <;> (cases hv; refine k _ _ _ ?_ ?_ hc2 <;> omega)
theorem p_made1 {m : Nat} {o : U1} {a w : Int} {Q : OV → EN.Env → Prop} (h0 : 0 ≤ w) (hw : w ≤ 1000) (k : Q (.p (.int (o.f w.toNat a))) [none, none, none]) : Wc (run D gl (m + 3) 3 [.p (.str o.w), .p (.lst [.int a]), .p (.int w)]) Q := by
  apply umade
  unfold bmade
  cases o
  · (repeat fail); (try simp only [EN.fz, EN.ss, EN.back_e, EN.back_v, EN.back_mp, EN.back_ml, EN.back_md, EN.back_mn, EN.mask_e, EN.mask_p, EN.mask_l, EN.mask_d, EN.mask_n, EN.isP, EN.lstO, EN.allP, EN.wipeT, EN.restT, EN.kP, EN.gs])
    refine p_cut h0 hw ?_
    (repeat fail); (try simp only [EN.fz, EN.ss, EN.back_e, EN.back_v, EN.back_mp, EN.back_ml, EN.back_md, EN.back_mn, EN.mask_e, EN.mask_p, EN.mask_l, EN.mask_d, EN.mask_n, EN.isP, EN.lstO, EN.allP, EN.wipeT, EN.restT, EN.kP, EN.gs])
    exact k
  · (repeat fail); (try simp only [EN.fz, EN.ss, EN.back_e, EN.back_v, EN.back_mp, EN.back_ml, EN.back_md, EN.back_mn, EN.mask_e, EN.mask_p, EN.mask_l, EN.mask_d, EN.mask_n, EN.isP, EN.lstO, EN.allP, EN.wipeT, EN.restT, EN.kP, EN.gs])
    refine p_cut h0 hw ?_
    (repeat fail); (try simp only [EN.fz, EN.ss, EN.back_e, EN.back_v, EN.back_mp, EN.back_ml, EN.back_md, EN.back_mn, EN.mask_e, EN.mask_p, EN.mask_l, EN.mask_d, EN.mask_n, EN.isP, EN.lstO, EN.allP, EN.wipeT, EN.restT, EN.kP, EN.gs])
    exact k
  · (repeat fail); (try simp only [EN.fz, EN.ss, EN.back_e, EN.back_v, EN.back_mp, EN.back_ml, EN.back_md, EN.back_mn, EN.mask_e, EN.mask_p, EN.mask_l, EN.mask_d, EN.mask_n, EN.isP, EN.lstO, EN.allP, EN.wipeT, EN.restT, EN.kP, EN.gs])
    refine p_cut h0 hw ?_
    (repeat fail); (try simp only [EN.fz, EN.ss, EN.back_e, EN.back_v, EN.back_mp, EN.back_ml, EN.back_md, EN.back_mn, EN.mask_e, EN.mask_p, EN.mask_l, EN.mask_d, EN.mask_n, EN.isP, EN.lstO, EN.allP, EN.wipeT, EN.restT, EN.kP, EN.gs])
    exact k
  · (repeat fail); (try simp only [EN.fz, EN.ss, EN.back_e, EN.back_v, EN.back_mp, EN.back_ml, EN.back_md, EN.back_mn, EN.mask_e, EN.mask_p, EN.mask_l, EN.mask_d, EN.mask_n, EN.isP, EN.lstO, EN.allP, EN.wipeT, EN.restT, EN.kP, EN.gs])
    exact k
theorem p_made2 {m : Nat} {o : U2} {a b w : Int} {Q : OV → EN.Env → Prop} (h0 : 0 ≤ w) (hw : w ≤ 1000) (k : Q (.p (.int (o.f w.toNat a b))) [none, none, none]) : Wc (run D gl (m + 3) 3 [.p (.str o.w), .p (.lst [.int a, .int b]), .p (.int w)]) Q := by
  apply umade
  unfold bmade
  cases o
  · (repeat fail); (try simp only [EN.fz, EN.ss, EN.back_e, EN.back_v, EN.back_mp, EN.back_ml, EN.back_md, EN.back_mn, EN.mask_e, EN.mask_p, EN.mask_l, EN.mask_d, EN.mask_n, EN.isP, EN.lstO, EN.allP, EN.wipeT, EN.restT, EN.kP, EN.gs])
    exact k
  · (repeat fail); (try simp only [EN.fz, EN.ss, EN.back_e, EN.back_v, EN.back_mp, EN.back_ml, EN.back_md, EN.back_mn, EN.mask_e, EN.mask_p, EN.mask_l, EN.mask_d, EN.mask_n, EN.isP, EN.lstO, EN.allP, EN.wipeT, EN.restT, EN.kP, EN.gs])
    exact k
  · (repeat fail); (try simp only [EN.fz, EN.ss, EN.back_e, EN.back_v, EN.back_mp, EN.back_ml, EN.back_md, EN.back_mn, EN.mask_e, EN.mask_p, EN.mask_l, EN.mask_d, EN.mask_n, EN.isP, EN.lstO, EN.allP, EN.wipeT, EN.restT, EN.kP, EN.gs])
    exact k
  · (repeat fail); (try simp only [EN.fz, EN.ss, EN.back_e, EN.back_v, EN.back_mp, EN.back_ml, EN.back_md, EN.back_mn, EN.mask_e, EN.mask_p, EN.mask_l, EN.mask_d, EN.mask_n, EN.isP, EN.lstO, EN.allP, EN.wipeT, EN.restT, EN.kP, EN.gs])
    refine p_cut h0 hw ?_
    (repeat fail); (try simp only [EN.fz, EN.ss, EN.back_e, EN.back_v, EN.back_mp, EN.back_ml, EN.back_md, EN.back_mn, EN.mask_e, EN.mask_p, EN.mask_l, EN.mask_d, EN.mask_n, EN.isP, EN.lstO, EN.allP, EN.wipeT, EN.restT, EN.kP, EN.gs])
    exact k
  · (repeat fail); (try simp only [EN.fz, EN.ss, EN.back_e, EN.back_v, EN.back_mp, EN.back_ml, EN.back_md, EN.back_mn, EN.mask_e, EN.mask_p, EN.mask_l, EN.mask_d, EN.mask_n, EN.isP, EN.lstO, EN.allP, EN.wipeT, EN.restT, EN.kP, EN.gs])
    refine p_cut h0 hw ?_
    (repeat fail); (try simp only [EN.fz, EN.ss, EN.back_e, EN.back_v, EN.back_mp, EN.back_ml, EN.back_md, EN.back_mn, EN.mask_e, EN.mask_p, EN.mask_l, EN.mask_d, EN.mask_n, EN.isP, EN.lstO, EN.allP, EN.wipeT, EN.restT, EN.kP, EN.gs])
    exact k
theorem p_made3 {m : Nat} {a b c w : Int} {Q : OV → EN.Env → Prop} (h0 : 0 ≤ w) (hw : w ≤ 1000) (k : Q (.p (.int (pkF w.toNat a b c))) [none, none, none]) : Wc (run D gl (m + 3) 3 [.p (.str "pick"), .p (.lst [.int a, .int b, .int c]), .p (.int w)]) Q := by
  apply umade
  unfold bmade
  (repeat fail); (try simp only [EN.fz, EN.ss, EN.back_e, EN.back_v, EN.back_mp, EN.back_ml, EN.back_md, EN.back_mn, EN.mask_e, EN.mask_p, EN.mask_l, EN.mask_d, EN.mask_n, EN.isP, EN.lstO, EN.allP, EN.wipeT, EN.restT, EN.kP, EN.gs])
  refine p_cut h0 hw ?_
  (repeat fail); (try simp only [EN.fz, EN.ss, EN.back_e, EN.back_v, EN.back_mp, EN.back_ml, EN.back_md, EN.back_mn, EN.mask_e, EN.mask_p, EN.mask_l, EN.mask_d, EN.mask_n, EN.isP, EN.lstO, EN.allP, EN.wipeT, EN.restT, EN.kP, EN.gs])
  exact k
theorem p_wo_num {m : Nat} {n w : Int} {ys : List Val} {d : Val} {Q : OV → EN.Env → Prop} (h0 : 0 ≤ w) (hw : w ≤ 1000) (k : Q (.p (.int (n % 2 ^ w.toNat))) [none, some (.l ys), none, none]) : Wc (run D gl (m + 4) 4 [.p (.int n), .l ys, .p (.int w), .p d]) Q := by
  apply uworth_of
  unfold bworth_of
  (repeat fail); (try simp only [EN.fz, EN.ss, EN.back_e, EN.back_v, EN.back_mp, EN.back_ml, EN.back_md, EN.back_mn, EN.mask_e, EN.mask_p, EN.mask_l, EN.mask_d, EN.mask_n, EN.isP, EN.lstO, EN.allP, EN.wipeT, EN.restT, EN.kP, EN.gs])
  refine p_cut h0 hw ?_
  (repeat fail); (try simp only [EN.fz, EN.ss, EN.back_e, EN.back_v, EN.back_mp, EN.back_ml, EN.back_md, EN.back_mn, EN.mask_e, EN.mask_p, EN.mask_l, EN.mask_d, EN.mask_n, EN.isP, EN.lstO, EN.allP, EN.wipeT, EN.restT, EN.kP, EN.gs])
  exact k
theorem p_wo_nam {m : Nat} {s : Str} {w : Int} {ys : List Val} {hs : List Str} {us : List Val} {i : Nat} {v : Val} {Q : OV → EN.Env → Prop} (hn : hs.Nodup) (hk : s ∉ kept) (h1 : hs[i]? = some s) (h2 : us[i]? = some v) (k : Q (.p v) [none, some (.l ys), none, none]) : Wc (run D gl (m + 4) 4 [.p (.str s), .l ys, .p (.int w), .p (.dct (hs.map .str) us)]) Q := by
  apply uworth_of
  unfold bworth_of
  (repeat fail); (try simp only [EN.fz, EN.ss, EN.back_e, EN.back_v, EN.back_mp, EN.back_ml, EN.back_md, EN.back_mn, EN.mask_e, EN.mask_p, EN.mask_l, EN.mask_d, EN.mask_n, EN.isP, EN.lstO, EN.allP, EN.wipeT, EN.restT, EN.kP, EN.gs])
  refine ⟨_, rfl, ?_⟩
  rw [gin_nm hk]
  (repeat fail); (try simp only [EN.fz, EN.ss, EN.back_e, EN.back_v, EN.back_mp, EN.back_ml, EN.back_md, EN.back_mn, EN.mask_e, EN.mask_p, EN.mask_l, EN.mask_d, EN.mask_n, EN.isP, EN.lstO, EN.allP, EN.wipeT, EN.restT, EN.kP, EN.gs])
  refine wp_vixD hn h1 h2 ?_
  (repeat fail); (try simp only [EN.fz, EN.ss, EN.back_e, EN.back_v, EN.back_mp, EN.back_ml, EN.back_md, EN.back_mn, EN.mask_e, EN.mask_p, EN.mask_l, EN.mask_d, EN.mask_n, EN.isP, EN.lstO, EN.allP, EN.wipeT, EN.restT, EN.kP, EN.gs])
  exact k
theorem p_wo_u {m : Nat} {o : U1} {a w : Int} {ys : List Val} {d : Val} {Q : OV → EN.Env → Prop} (h0 : 0 ≤ w) (hw : w ≤ 1000) (k : Q (.p (.int (o.f w.toNat a))) [none, some (.l ys), none, none]) : Wc (run D gl (m + 4) 4 [.p (.str o.w), .l (ys ++ [.int a]), .p (.int w), .p d]) Q := by
  apply uworth_of
  unfold bworth_of
  (repeat fail); (try simp only [EN.fz, EN.ss, EN.back_e, EN.back_v, EN.back_mp, EN.back_ml, EN.back_md, EN.back_mn, EN.mask_e, EN.mask_p, EN.mask_l, EN.mask_d, EN.mask_n, EN.isP, EN.lstO, EN.allP, EN.wipeT, EN.restT, EN.kP, EN.gs])
  refine ⟨_, rfl, ?_⟩
  rw [gin_kp o.kp rfl]
  (repeat fail); (try simp only [EN.fz, EN.ss, EN.back_e, EN.back_v, EN.back_mp, EN.back_ml, EN.back_md, EN.back_mn, EN.mask_e, EN.mask_p, EN.mask_l, EN.mask_d, EN.mask_n, EN.isP, EN.lstO, EN.allP, EN.wipeT, EN.restT, EN.kP, EN.gs])
  refine ⟨_, .tup [.str "sum"], rfl, by cases o <;> rfl, ?_⟩
  (repeat fail); (try simp only [EN.fz, EN.ss, EN.back_e, EN.back_v, EN.back_mp, EN.back_ml, EN.back_md, EN.back_mn, EN.mask_e, EN.mask_p, EN.mask_l, EN.mask_d, EN.mask_n, EN.isP, EN.lstO, EN.allP, EN.wipeT, EN.restT, EN.kP, EN.gs])
  refine w_lcC (wp_put (by rfl) ?_)
  (repeat fail); (try simp only [EN.fz, EN.ss, EN.back_e, EN.back_v, EN.back_mp, EN.back_ml, EN.back_md, EN.back_mn, EN.mask_e, EN.mask_p, EN.mask_l, EN.mask_d, EN.mask_n, EN.isP, EN.lstO, EN.allP, EN.wipeT, EN.restT, EN.kP, EN.gs])
  refine ⟨size_lt (by simp), ?_⟩
  (repeat fail); (try simp only [EN.fz, EN.ss, EN.back_e, EN.back_v, EN.back_mp, EN.back_ml, EN.back_md, EN.back_mn, EN.mask_e, EN.mask_p, EN.mask_l, EN.mask_d, EN.mask_n, EN.isP, EN.lstO, EN.allP, EN.wipeT, EN.restT, EN.kP, EN.gs])
  refine w_popS (by with_unfolding_all rfl) ?_
  (repeat fail); (try simp only [EN.fz, EN.ss, EN.back_e, EN.back_v, EN.back_mp, EN.back_ml, EN.back_md, EN.back_mn, EN.mask_e, EN.mask_p, EN.mask_l, EN.mask_d, EN.mask_n, EN.isP, EN.lstO, EN.allP, EN.wipeT, EN.restT, EN.kP, EN.gs])
  refine w_lcN ?_
  (repeat fail); (try simp only [EN.fz, EN.ss, EN.back_e, EN.back_v, EN.back_mp, EN.back_ml, EN.back_md, EN.back_mn, EN.mask_e, EN.mask_p, EN.mask_l, EN.mask_d, EN.mask_n, EN.isP, EN.lstO, EN.allP, EN.wipeT, EN.restT, EN.kP, EN.gs])
  refine p_made1 h0 hw ?_
  (repeat fail); (try simp only [EN.fz, EN.ss, EN.back_e, EN.back_v, EN.back_mp, EN.back_ml, EN.back_md, EN.back_mn, EN.mask_e, EN.mask_p, EN.mask_l, EN.mask_d, EN.mask_n, EN.isP, EN.lstO, EN.allP, EN.wipeT, EN.restT, EN.kP, EN.gs])
  exact k
theorem p_wo_b {m : Nat} {o : U2} {a b w : Int} {ys : List Val} {d : Val} {Q : OV → EN.Env → Prop} (h0 : 0 ≤ w) (hw : w ≤ 1000) (k : Q (.p (.int (o.f w.toNat a b))) [none, some (.l ys), none, none]) : Wc (run D gl (m + 4) 4 [.p (.str o.w), .l (ys ++ [.int b] ++ [.int a]), .p (.int w), .p d]) Q := by
  apply uworth_of
  unfold bworth_of
  (repeat fail); (try simp only [EN.fz, EN.ss, EN.back_e, EN.back_v, EN.back_mp, EN.back_ml, EN.back_md, EN.back_mn, EN.mask_e, EN.mask_p, EN.mask_l, EN.mask_d, EN.mask_n, EN.isP, EN.lstO, EN.allP, EN.wipeT, EN.restT, EN.kP, EN.gs])
  refine ⟨_, rfl, ?_⟩
  rw [gin_kp o.kp rfl]
  (repeat fail); (try simp only [EN.fz, EN.ss, EN.back_e, EN.back_v, EN.back_mp, EN.back_ml, EN.back_md, EN.back_mn, EN.mask_e, EN.mask_p, EN.mask_l, EN.mask_d, EN.mask_n, EN.isP, EN.lstO, EN.allP, EN.wipeT, EN.restT, EN.kP, EN.gs])
  refine ⟨_, .tup [.str "sum", .str "sum"], rfl, by cases o <;> rfl, ?_⟩
  (repeat fail); (try simp only [EN.fz, EN.ss, EN.back_e, EN.back_v, EN.back_mp, EN.back_ml, EN.back_md, EN.back_mn, EN.mask_e, EN.mask_p, EN.mask_l, EN.mask_d, EN.mask_n, EN.isP, EN.lstO, EN.allP, EN.wipeT, EN.restT, EN.kP, EN.gs])
  refine w_lcC (wp_put (by rfl) ?_)
  (repeat fail); (try simp only [EN.fz, EN.ss, EN.back_e, EN.back_v, EN.back_mp, EN.back_ml, EN.back_md, EN.back_mn, EN.mask_e, EN.mask_p, EN.mask_l, EN.mask_d, EN.mask_n, EN.isP, EN.lstO, EN.allP, EN.wipeT, EN.restT, EN.kP, EN.gs])
  refine ⟨size_lt (by simp), ?_⟩
  (repeat fail); (try simp only [EN.fz, EN.ss, EN.back_e, EN.back_v, EN.back_mp, EN.back_ml, EN.back_md, EN.back_mn, EN.mask_e, EN.mask_p, EN.mask_l, EN.mask_d, EN.mask_n, EN.isP, EN.lstO, EN.allP, EN.wipeT, EN.restT, EN.kP, EN.gs])
  refine w_popS (by with_unfolding_all rfl) ?_
  (repeat fail); (try simp only [EN.fz, EN.ss, EN.back_e, EN.back_v, EN.back_mp, EN.back_ml, EN.back_md, EN.back_mn, EN.mask_e, EN.mask_p, EN.mask_l, EN.mask_d, EN.mask_n, EN.isP, EN.lstO, EN.allP, EN.wipeT, EN.restT, EN.kP, EN.gs])
  refine w_lcC (wp_put (by rfl) ?_)
  (repeat fail); (try simp only [EN.fz, EN.ss, EN.back_e, EN.back_v, EN.back_mp, EN.back_ml, EN.back_md, EN.back_mn, EN.mask_e, EN.mask_p, EN.mask_l, EN.mask_d, EN.mask_n, EN.isP, EN.lstO, EN.allP, EN.wipeT, EN.restT, EN.kP, EN.gs])
  refine ⟨size_lt (by simp), ?_⟩
  (repeat fail); (try simp only [EN.fz, EN.ss, EN.back_e, EN.back_v, EN.back_mp, EN.back_ml, EN.back_md, EN.back_mn, EN.mask_e, EN.mask_p, EN.mask_l, EN.mask_d, EN.mask_n, EN.isP, EN.lstO, EN.allP, EN.wipeT, EN.restT, EN.kP, EN.gs])
  refine w_popS (by with_unfolding_all rfl) ?_
  (repeat fail); (try simp only [EN.fz, EN.ss, EN.back_e, EN.back_v, EN.back_mp, EN.back_ml, EN.back_md, EN.back_mn, EN.mask_e, EN.mask_p, EN.mask_l, EN.mask_d, EN.mask_n, EN.isP, EN.lstO, EN.allP, EN.wipeT, EN.restT, EN.kP, EN.gs])
  refine w_lcN ?_
  (repeat fail); (try simp only [EN.fz, EN.ss, EN.back_e, EN.back_v, EN.back_mp, EN.back_ml, EN.back_md, EN.back_mn, EN.mask_e, EN.mask_p, EN.mask_l, EN.mask_d, EN.mask_n, EN.isP, EN.lstO, EN.allP, EN.wipeT, EN.restT, EN.kP, EN.gs])
  refine p_made2 h0 hw ?_
  (repeat fail); (try simp only [EN.fz, EN.ss, EN.back_e, EN.back_v, EN.back_mp, EN.back_ml, EN.back_md, EN.back_mn, EN.mask_e, EN.mask_p, EN.mask_l, EN.mask_d, EN.mask_n, EN.isP, EN.lstO, EN.allP, EN.wipeT, EN.restT, EN.kP, EN.gs])
  exact k
theorem p_wo_pk {m : Nat} {a b c w : Int} {ys : List Val} {d : Val} {Q : OV → EN.Env → Prop} (h0 : 0 ≤ w) (hw : w ≤ 1000) (k : Q (.p (.int (pkF w.toNat a b c))) [none, some (.l ys), none, none]) : Wc (run D gl (m + 4) 4 [.p (.str "pick"), .l (ys ++ [.int c] ++ [.int b] ++ [.int a]), .p (.int w), .p d]) Q := by
  apply uworth_of
  unfold bworth_of
  (repeat fail); (try simp only [EN.fz, EN.ss, EN.back_e, EN.back_v, EN.back_mp, EN.back_ml, EN.back_md, EN.back_mn, EN.mask_e, EN.mask_p, EN.mask_l, EN.mask_d, EN.mask_n, EN.isP, EN.lstO, EN.allP, EN.wipeT, EN.restT, EN.kP, EN.gs])
  refine ⟨_, rfl, ?_⟩
  rw [gin_kp (s := "pick") (by decide +kernel) rfl]
  (repeat fail); (try simp only [EN.fz, EN.ss, EN.back_e, EN.back_v, EN.back_mp, EN.back_ml, EN.back_md, EN.back_mn, EN.mask_e, EN.mask_p, EN.mask_l, EN.mask_d, EN.mask_n, EN.isP, EN.lstO, EN.allP, EN.wipeT, EN.restT, EN.kP, EN.gs])
  refine ⟨_, .tup [.str "sum", .str "sum", .str "sum"], rfl, rfl, ?_⟩
  (repeat fail); (try simp only [EN.fz, EN.ss, EN.back_e, EN.back_v, EN.back_mp, EN.back_ml, EN.back_md, EN.back_mn, EN.mask_e, EN.mask_p, EN.mask_l, EN.mask_d, EN.mask_n, EN.isP, EN.lstO, EN.allP, EN.wipeT, EN.restT, EN.kP, EN.gs])
  refine w_lcC (wp_put (by rfl) ?_)
  (repeat fail); (try simp only [EN.fz, EN.ss, EN.back_e, EN.back_v, EN.back_mp, EN.back_ml, EN.back_md, EN.back_mn, EN.mask_e, EN.mask_p, EN.mask_l, EN.mask_d, EN.mask_n, EN.isP, EN.lstO, EN.allP, EN.wipeT, EN.restT, EN.kP, EN.gs])
  refine ⟨size_lt (by simp), ?_⟩
  (repeat fail); (try simp only [EN.fz, EN.ss, EN.back_e, EN.back_v, EN.back_mp, EN.back_ml, EN.back_md, EN.back_mn, EN.mask_e, EN.mask_p, EN.mask_l, EN.mask_d, EN.mask_n, EN.isP, EN.lstO, EN.allP, EN.wipeT, EN.restT, EN.kP, EN.gs])
  refine w_popS (by with_unfolding_all rfl) ?_
  (repeat fail); (try simp only [EN.fz, EN.ss, EN.back_e, EN.back_v, EN.back_mp, EN.back_ml, EN.back_md, EN.back_mn, EN.mask_e, EN.mask_p, EN.mask_l, EN.mask_d, EN.mask_n, EN.isP, EN.lstO, EN.allP, EN.wipeT, EN.restT, EN.kP, EN.gs])
  refine w_lcC (wp_put (by rfl) ?_)
  (repeat fail); (try simp only [EN.fz, EN.ss, EN.back_e, EN.back_v, EN.back_mp, EN.back_ml, EN.back_md, EN.back_mn, EN.mask_e, EN.mask_p, EN.mask_l, EN.mask_d, EN.mask_n, EN.isP, EN.lstO, EN.allP, EN.wipeT, EN.restT, EN.kP, EN.gs])
  refine ⟨size_lt (by simp), ?_⟩
  (repeat fail); (try simp only [EN.fz, EN.ss, EN.back_e, EN.back_v, EN.back_mp, EN.back_ml, EN.back_md, EN.back_mn, EN.mask_e, EN.mask_p, EN.mask_l, EN.mask_d, EN.mask_n, EN.isP, EN.lstO, EN.allP, EN.wipeT, EN.restT, EN.kP, EN.gs])
  refine w_popS (by with_unfolding_all rfl) ?_
  (repeat fail); (try simp only [EN.fz, EN.ss, EN.back_e, EN.back_v, EN.back_mp, EN.back_ml, EN.back_md, EN.back_mn, EN.mask_e, EN.mask_p, EN.mask_l, EN.mask_d, EN.mask_n, EN.isP, EN.lstO, EN.allP, EN.wipeT, EN.restT, EN.kP, EN.gs])
  refine w_lcC (wp_put (by rfl) ?_)
  (repeat fail); (try simp only [EN.fz, EN.ss, EN.back_e, EN.back_v, EN.back_mp, EN.back_ml, EN.back_md, EN.back_mn, EN.mask_e, EN.mask_p, EN.mask_l, EN.mask_d, EN.mask_n, EN.isP, EN.lstO, EN.allP, EN.wipeT, EN.restT, EN.kP, EN.gs])
  refine ⟨size_lt (by simp), ?_⟩
  (repeat fail); (try simp only [EN.fz, EN.ss, EN.back_e, EN.back_v, EN.back_mp, EN.back_ml, EN.back_md, EN.back_mn, EN.mask_e, EN.mask_p, EN.mask_l, EN.mask_d, EN.mask_n, EN.isP, EN.lstO, EN.allP, EN.wipeT, EN.restT, EN.kP, EN.gs])
  refine w_popS (by with_unfolding_all rfl) ?_
  (repeat fail); (try simp only [EN.fz, EN.ss, EN.back_e, EN.back_v, EN.back_mp, EN.back_ml, EN.back_md, EN.back_mn, EN.mask_e, EN.mask_p, EN.mask_l, EN.mask_d, EN.mask_n, EN.isP, EN.lstO, EN.allP, EN.wipeT, EN.restT, EN.kP, EN.gs])
  refine w_lcN ?_
  (repeat fail); (try simp only [EN.fz, EN.ss, EN.back_e, EN.back_v, EN.back_mp, EN.back_ml, EN.back_md, EN.back_mn, EN.mask_e, EN.mask_p, EN.mask_l, EN.mask_d, EN.mask_n, EN.isP, EN.lstO, EN.allP, EN.wipeT, EN.restT, EN.kP, EN.gs])
  refine p_made3 h0 hw ?_
  (repeat fail); (try simp only [EN.fz, EN.ss, EN.back_e, EN.back_v, EN.back_mp, EN.back_ml, EN.back_md, EN.back_mn, EN.mask_e, EN.mask_p, EN.mask_l, EN.mask_d, EN.mask_n, EN.isP, EN.lstO, EN.allP, EN.wipeT, EN.restT, EN.kP, EN.gs])
  exact k
/-- what a dict tells of a name -/
def Nm (hs : List Str) (us : List Val) (f : Str → Int) (s : Str) : Prop := s ∉ kept ∧ ∃ i : Nat, hs[i]? = some s ∧ us[i]? = some (.int (f s))
theorem p_need {m : Nat} {ws : List Val} {hs : List Str} {us : List Val} {f : Str → Int} {Q : OV → EN.Env → Prop} (hn : hs.Nodup) (hw : ∀ x ∈ ws, Wok (Nm hs us f) x) (k : Q (.p .non) [none, none]) : Wc (run D gl (m + 1) 2 [.p (.tup ws), .p (.dct (hs.map .str) us)]) Q := by
  apply uneed_names
  unfold bneed_names
  (repeat fail); (try simp only [EN.fz, EN.ss, EN.back_e, EN.back_v, EN.back_mp, EN.back_ml, EN.back_md, EN.back_mn, EN.mask_e, EN.mask_p, EN.mask_l, EN.mask_d, EN.mask_n, EN.isP, EN.lstO, EN.allP, EN.wipeT, EN.restT, EN.kP, EN.gs])
  refine w_loopL (fun i e => ∃ x2, e = [some (.p (.tup ws)), some (.p (.dct (hs.map .str) us)), x2]) rfl ⟨none, rfl⟩ ?_ ?_
  · intro i x e hx hI
    obtain ⟨x2, he⟩ := hI
    subst he
    rcases hw x (mem_get hx) with ⟨n, rfl⟩ | ⟨s, rfl, hs2⟩
    · (repeat fail); (try simp only [EN.fz, EN.ss, EN.back_e, EN.back_v, EN.back_mp, EN.back_ml, EN.back_md, EN.back_mn, EN.mask_e, EN.mask_p, EN.mask_l, EN.mask_d, EN.mask_n, EN.isP, EN.lstO, EN.allP, EN.wipeT, EN.restT, EN.kP, EN.gs])
      exact ⟨_, rfl⟩
    · by_cases hk : s ∈ kept
      · (repeat fail); (try simp only [EN.fz, EN.ss, EN.back_e, EN.back_v, EN.back_mp, EN.back_ml, EN.back_md, EN.back_mn, EN.mask_e, EN.mask_p, EN.mask_l, EN.mask_d, EN.mask_n, EN.isP, EN.lstO, EN.allP, EN.wipeT, EN.restT, EN.kP, EN.gs])
        refine ⟨_, rfl, ?_⟩
        rw [gin_kp hk rfl]
        (repeat fail); (try simp only [EN.fz, EN.ss, EN.back_e, EN.back_v, EN.back_mp, EN.back_ml, EN.back_md, EN.back_mn, EN.mask_e, EN.mask_p, EN.mask_l, EN.mask_d, EN.mask_n, EN.isP, EN.lstO, EN.allP, EN.wipeT, EN.restT, EN.kP, EN.gs])
        exact ⟨_, rfl⟩
      · (repeat fail); (try simp only [EN.fz, EN.ss, EN.back_e, EN.back_v, EN.back_mp, EN.back_ml, EN.back_md, EN.back_mn, EN.mask_e, EN.mask_p, EN.mask_l, EN.mask_d, EN.mask_n, EN.isP, EN.lstO, EN.allP, EN.wipeT, EN.restT, EN.kP, EN.gs])
        refine ⟨_, rfl, ?_⟩
        rw [gin_nm hk]
        (repeat fail); (try simp only [EN.fz, EN.ss, EN.back_e, EN.back_v, EN.back_mp, EN.back_ml, EN.back_md, EN.back_mn, EN.mask_e, EN.mask_p, EN.mask_l, EN.mask_d, EN.mask_n, EN.isP, EN.lstO, EN.allP, EN.wipeT, EN.restT, EN.kP, EN.gs])
        obtain ⟨j, h1, h2⟩ := (hs2.resolve_left hk).2
        rw [dget_at hn h1 h2]
        refine if_cf rfl ?_
        (repeat fail); (try simp only [EN.fz, EN.ss, EN.back_e, EN.back_v, EN.back_mp, EN.back_ml, EN.back_md, EN.back_mn, EN.mask_e, EN.mask_p, EN.mask_l, EN.mask_d, EN.mask_n, EN.isP, EN.lstO, EN.allP, EN.wipeT, EN.restT, EN.kP, EN.gs])
        exact ⟨_, rfl⟩
  · intro e hI
    obtain ⟨x2, he⟩ := hI
    subst he
    (repeat fail); (try simp only [EN.fz, EN.ss, EN.back_e, EN.back_v, EN.back_mp, EN.back_ml, EN.back_md, EN.back_mn, EN.mask_e, EN.mask_p, EN.mask_l, EN.mask_d, EN.mask_n, EN.isP, EN.lstO, EN.allP, EN.wipeT, EN.restT, EN.kP, EN.gs])
    exact k
theorem p_worth {m : Nat} {t : Sm} {w : Int} {ws : List Val} {hs : List Str} {us : List Val} {f : Str → Int} {Q : OV → EN.Env → Prop} (e : ws = t.wd) (h0 : 0 ≤ w) (hw : w ≤ 1000) (hn : hs.Nodup) (ht : t.ok (Nm hs us f)) (hl : t.wd.length ≤ 1000) (k : Q (.p (.int (t.val f w.toNat))) [none, none, none]) : Wc (run D gl (m + 5) 5 [.p (.tup ws), .p (.int w), .p (.dct (hs.map .str) us)]) Q := by
  refine uworth ?_
  subst e
  unfold bworth
  (repeat fail); (try simp only [EN.fz, EN.ss, EN.back_e, EN.back_v, EN.back_mp, EN.back_ml, EN.back_md, EN.back_mn, EN.mask_e, EN.mask_p, EN.mask_l, EN.mask_d, EN.mask_n, EN.isP, EN.lstO, EN.allP, EN.wipeT, EN.restT, EN.kP, EN.gs])
  refine p_need hn (t.wok ht) ?_
  (repeat fail); (try simp only [EN.fz, EN.ss, EN.back_e, EN.back_v, EN.back_mp, EN.back_ml, EN.back_md, EN.back_mn, EN.mask_e, EN.mask_p, EN.mask_l, EN.mask_d, EN.mask_n, EN.isP, EN.lstO, EN.allP, EN.wipeT, EN.restT, EN.kP, EN.gs])
  rw [← List.append_nil (List.reverse t.wd)]
  refine sm_walk (E := fun p e => ∃ x4, e = [some (.p (.tup t.wd)), some (.p (.int w)), some (.p (.dct (hs.map .str) us)), some (.l p), x4]) (B := 1000) (V := fun t => .int (t.val f w.toNat)) (N := Nm hs us f) ?_ ?_ ?_ ?_ ?_ t ht [] [] _ _ (by simpa using hl) ⟨_, rfl⟩ fun e he => walk_end ?_
  · intro n p _ _ hb e hI
    obtain ⟨x4, he⟩ := hI
    subst he
    refine wp_put (by rfl) ?_
    (repeat fail); (try simp only [EN.fz, EN.ss, EN.back_e, EN.back_v, EN.back_mp, EN.back_ml, EN.back_md, EN.back_mn, EN.mask_e, EN.mask_p, EN.mask_l, EN.mask_d, EN.mask_n, EN.isP, EN.lstO, EN.allP, EN.wipeT, EN.restT, EN.kP, EN.gs])
    refine p_wo_num h0 hw ?_
    (repeat fail); (try simp only [EN.fz, EN.ss, EN.back_e, EN.back_v, EN.back_mp, EN.back_ml, EN.back_md, EN.back_mn, EN.mask_e, EN.mask_p, EN.mask_l, EN.mask_d, EN.mask_n, EN.isP, EN.lstO, EN.allP, EN.wipeT, EN.restT, EN.kP, EN.gs])
    refine ⟨_, rfl, size_lt (by simp at hb; omega), ?_⟩
    (repeat fail); (try simp only [EN.fz, EN.ss, EN.back_e, EN.back_v, EN.back_mp, EN.back_ml, EN.back_md, EN.back_mn, EN.mask_e, EN.mask_p, EN.mask_l, EN.mask_d, EN.mask_n, EN.isP, EN.lstO, EN.allP, EN.wipeT, EN.restT, EN.kP, EN.gs])
    exact ⟨by trivial, _, rfl⟩
  · intro s p hs hb e hI
    obtain ⟨x4, he⟩ := hI
    subst he
    obtain ⟨hk, j, h1, h2⟩ := hs
    refine wp_put (by rfl) ?_
    (repeat fail); (try simp only [EN.fz, EN.ss, EN.back_e, EN.back_v, EN.back_mp, EN.back_ml, EN.back_md, EN.back_mn, EN.mask_e, EN.mask_p, EN.mask_l, EN.mask_d, EN.mask_n, EN.isP, EN.lstO, EN.allP, EN.wipeT, EN.restT, EN.kP, EN.gs])
    refine p_wo_nam hn hk h1 h2 ?_
    (repeat fail); (try simp only [EN.fz, EN.ss, EN.back_e, EN.back_v, EN.back_mp, EN.back_ml, EN.back_md, EN.back_mn, EN.mask_e, EN.mask_p, EN.mask_l, EN.mask_d, EN.mask_n, EN.isP, EN.lstO, EN.allP, EN.wipeT, EN.restT, EN.kP, EN.gs])
    refine ⟨_, rfl, size_lt (by simp at hb; omega), ?_⟩
    (repeat fail); (try simp only [EN.fz, EN.ss, EN.back_e, EN.back_v, EN.back_mp, EN.back_ml, EN.back_md, EN.back_mn, EN.mask_e, EN.mask_p, EN.mask_l, EN.mask_d, EN.mask_n, EN.isP, EN.lstO, EN.allP, EN.wipeT, EN.restT, EN.kP, EN.gs])
    exact ⟨by trivial, _, rfl⟩
  · intro o a p _ hb e hI
    obtain ⟨x4, he⟩ := hI
    subst he
    refine wp_put (by rfl) ?_
    (repeat fail); (try simp only [EN.fz, EN.ss, EN.back_e, EN.back_v, EN.back_mp, EN.back_ml, EN.back_md, EN.back_mn, EN.mask_e, EN.mask_p, EN.mask_l, EN.mask_d, EN.mask_n, EN.isP, EN.lstO, EN.allP, EN.wipeT, EN.restT, EN.kP, EN.gs])
    refine p_wo_u h0 hw ?_
    (repeat fail); (try simp only [EN.fz, EN.ss, EN.back_e, EN.back_v, EN.back_mp, EN.back_ml, EN.back_md, EN.back_mn, EN.mask_e, EN.mask_p, EN.mask_l, EN.mask_d, EN.mask_n, EN.isP, EN.lstO, EN.allP, EN.wipeT, EN.restT, EN.kP, EN.gs])
    refine ⟨_, rfl, size_lt (by simp at hb; omega), ?_⟩
    (repeat fail); (try simp only [EN.fz, EN.ss, EN.back_e, EN.back_v, EN.back_mp, EN.back_ml, EN.back_md, EN.back_mn, EN.mask_e, EN.mask_p, EN.mask_l, EN.mask_d, EN.mask_n, EN.isP, EN.lstO, EN.allP, EN.wipeT, EN.restT, EN.kP, EN.gs])
    exact ⟨by trivial, _, rfl⟩
  · intro o a b p _ _ hb e hI
    obtain ⟨x4, he⟩ := hI
    subst he
    refine wp_put (by rfl) ?_
    (repeat fail); (try simp only [EN.fz, EN.ss, EN.back_e, EN.back_v, EN.back_mp, EN.back_ml, EN.back_md, EN.back_mn, EN.mask_e, EN.mask_p, EN.mask_l, EN.mask_d, EN.mask_n, EN.isP, EN.lstO, EN.allP, EN.wipeT, EN.restT, EN.kP, EN.gs])
    refine p_wo_b h0 hw ?_
    (repeat fail); (try simp only [EN.fz, EN.ss, EN.back_e, EN.back_v, EN.back_mp, EN.back_ml, EN.back_md, EN.back_mn, EN.mask_e, EN.mask_p, EN.mask_l, EN.mask_d, EN.mask_n, EN.isP, EN.lstO, EN.allP, EN.wipeT, EN.restT, EN.kP, EN.gs])
    refine ⟨_, rfl, size_lt (by simp at hb; omega), ?_⟩
    (repeat fail); (try simp only [EN.fz, EN.ss, EN.back_e, EN.back_v, EN.back_mp, EN.back_ml, EN.back_md, EN.back_mn, EN.mask_e, EN.mask_p, EN.mask_l, EN.mask_d, EN.mask_n, EN.isP, EN.lstO, EN.allP, EN.wipeT, EN.restT, EN.kP, EN.gs])
    exact ⟨by trivial, _, rfl⟩
  · intro a b c p _ _ _ hb e hI
    obtain ⟨x4, he⟩ := hI
    subst he
    refine wp_put (by rfl) ?_
    (repeat fail); (try simp only [EN.fz, EN.ss, EN.back_e, EN.back_v, EN.back_mp, EN.back_ml, EN.back_md, EN.back_mn, EN.mask_e, EN.mask_p, EN.mask_l, EN.mask_d, EN.mask_n, EN.isP, EN.lstO, EN.allP, EN.wipeT, EN.restT, EN.kP, EN.gs])
    refine p_wo_pk h0 hw ?_
    (repeat fail); (try simp only [EN.fz, EN.ss, EN.back_e, EN.back_v, EN.back_mp, EN.back_ml, EN.back_md, EN.back_mn, EN.mask_e, EN.mask_p, EN.mask_l, EN.mask_d, EN.mask_n, EN.isP, EN.lstO, EN.allP, EN.wipeT, EN.restT, EN.kP, EN.gs])
    refine ⟨_, rfl, size_lt (by simp at hb; omega), ?_⟩
    (repeat fail); (try simp only [EN.fz, EN.ss, EN.back_e, EN.back_v, EN.back_mp, EN.back_ml, EN.back_md, EN.back_mn, EN.mask_e, EN.mask_p, EN.mask_l, EN.mask_d, EN.mask_n, EN.isP, EN.lstO, EN.allP, EN.wipeT, EN.restT, EN.kP, EN.gs])
    exact ⟨by trivial, _, rfl⟩
  · obtain ⟨x4, he⟩ := he
    subst he
    (repeat fail); (try simp only [EN.fz, EN.ss, EN.back_e, EN.back_v, EN.back_mp, EN.back_ml, EN.back_md, EN.back_mn, EN.mask_e, EN.mask_p, EN.mask_l, EN.mask_d, EN.mask_n, EN.isP, EN.lstO, EN.allP, EN.wipeT, EN.restT, EN.kP, EN.gs])
    exact k
theorem p_wo_numD {m : Nat} {n w : Int} {ys : List Val} {kk uu : List Val} {Q : OV → EN.Env → Prop} (h0 : 0 ≤ w) (hw : w ≤ 1000) (k : Q (.p (.int (n % 2 ^ w.toNat))) [none, some (.l ys), none, some (.d kk uu)]) : Wc (run D gl (m + 4) 4 [.p (.int n), .l ys, .p (.int w), .d kk uu]) Q := by
  apply uworth_of
  unfold bworth_of
  (repeat fail); (try simp only [EN.fz, EN.ss, EN.back_e, EN.back_v, EN.back_mp, EN.back_ml, EN.back_md, EN.back_mn, EN.mask_e, EN.mask_p, EN.mask_l, EN.mask_d, EN.mask_n, EN.isP, EN.lstO, EN.allP, EN.wipeT, EN.restT, EN.kP, EN.gs])
  refine p_cut h0 hw ?_
  (repeat fail); (try simp only [EN.fz, EN.ss, EN.back_e, EN.back_v, EN.back_mp, EN.back_ml, EN.back_md, EN.back_mn, EN.mask_e, EN.mask_p, EN.mask_l, EN.mask_d, EN.mask_n, EN.isP, EN.lstO, EN.allP, EN.wipeT, EN.restT, EN.kP, EN.gs])
  exact k
theorem p_wo_namD {m : Nat} {s : Str} {w : Int} {ys : List Val} {hs : List Str} {us : List Val} {i : Nat} {v : Val} {Q : OV → EN.Env → Prop} (hn : hs.Nodup) (hk : s ∉ kept) (h1 : hs[i]? = some s) (h2 : us[i]? = some v) (k : Q (.p v) [none, some (.l ys), none, some (.d (hs.map .str) us)]) : Wc (run D gl (m + 4) 4 [.p (.str s), .l ys, .p (.int w), .d (hs.map .str) us]) Q := by
  apply uworth_of
  unfold bworth_of
  (repeat fail); (try simp only [EN.fz, EN.ss, EN.back_e, EN.back_v, EN.back_mp, EN.back_ml, EN.back_md, EN.back_mn, EN.mask_e, EN.mask_p, EN.mask_l, EN.mask_d, EN.mask_n, EN.isP, EN.lstO, EN.allP, EN.wipeT, EN.restT, EN.kP, EN.gs])
  refine ⟨_, rfl, ?_⟩
  rw [gin_nm hk]
  (repeat fail); (try simp only [EN.fz, EN.ss, EN.back_e, EN.back_v, EN.back_mp, EN.back_ml, EN.back_md, EN.back_mn, EN.mask_e, EN.mask_p, EN.mask_l, EN.mask_d, EN.mask_n, EN.isP, EN.lstO, EN.allP, EN.wipeT, EN.restT, EN.kP, EN.gs])
  refine wp_vixD hn h1 h2 ?_
  (repeat fail); (try simp only [EN.fz, EN.ss, EN.back_e, EN.back_v, EN.back_mp, EN.back_ml, EN.back_md, EN.back_mn, EN.mask_e, EN.mask_p, EN.mask_l, EN.mask_d, EN.mask_n, EN.isP, EN.lstO, EN.allP, EN.wipeT, EN.restT, EN.kP, EN.gs])
  exact k
theorem p_wo_uD {m : Nat} {o : U1} {a w : Int} {ys : List Val} {kk uu : List Val} {Q : OV → EN.Env → Prop} (h0 : 0 ≤ w) (hw : w ≤ 1000) (k : Q (.p (.int (o.f w.toNat a))) [none, some (.l ys), none, some (.d kk uu)]) : Wc (run D gl (m + 4) 4 [.p (.str o.w), .l (ys ++ [.int a]), .p (.int w), .d kk uu]) Q := by
  apply uworth_of
  unfold bworth_of
  (repeat fail); (try simp only [EN.fz, EN.ss, EN.back_e, EN.back_v, EN.back_mp, EN.back_ml, EN.back_md, EN.back_mn, EN.mask_e, EN.mask_p, EN.mask_l, EN.mask_d, EN.mask_n, EN.isP, EN.lstO, EN.allP, EN.wipeT, EN.restT, EN.kP, EN.gs])
  refine ⟨_, rfl, ?_⟩
  rw [gin_kp o.kp rfl]
  (repeat fail); (try simp only [EN.fz, EN.ss, EN.back_e, EN.back_v, EN.back_mp, EN.back_ml, EN.back_md, EN.back_mn, EN.mask_e, EN.mask_p, EN.mask_l, EN.mask_d, EN.mask_n, EN.isP, EN.lstO, EN.allP, EN.wipeT, EN.restT, EN.kP, EN.gs])
  refine ⟨_, .tup [.str "sum"], rfl, by cases o <;> rfl, ?_⟩
  (repeat fail); (try simp only [EN.fz, EN.ss, EN.back_e, EN.back_v, EN.back_mp, EN.back_ml, EN.back_md, EN.back_mn, EN.mask_e, EN.mask_p, EN.mask_l, EN.mask_d, EN.mask_n, EN.isP, EN.lstO, EN.allP, EN.wipeT, EN.restT, EN.kP, EN.gs])
  refine w_lcC (wp_put (by rfl) ?_)
  (repeat fail); (try simp only [EN.fz, EN.ss, EN.back_e, EN.back_v, EN.back_mp, EN.back_ml, EN.back_md, EN.back_mn, EN.mask_e, EN.mask_p, EN.mask_l, EN.mask_d, EN.mask_n, EN.isP, EN.lstO, EN.allP, EN.wipeT, EN.restT, EN.kP, EN.gs])
  refine ⟨size_lt (by simp), ?_⟩
  (repeat fail); (try simp only [EN.fz, EN.ss, EN.back_e, EN.back_v, EN.back_mp, EN.back_ml, EN.back_md, EN.back_mn, EN.mask_e, EN.mask_p, EN.mask_l, EN.mask_d, EN.mask_n, EN.isP, EN.lstO, EN.allP, EN.wipeT, EN.restT, EN.kP, EN.gs])
  refine w_popS (by with_unfolding_all rfl) ?_
  (repeat fail); (try simp only [EN.fz, EN.ss, EN.back_e, EN.back_v, EN.back_mp, EN.back_ml, EN.back_md, EN.back_mn, EN.mask_e, EN.mask_p, EN.mask_l, EN.mask_d, EN.mask_n, EN.isP, EN.lstO, EN.allP, EN.wipeT, EN.restT, EN.kP, EN.gs])
  refine w_lcN ?_
  (repeat fail); (try simp only [EN.fz, EN.ss, EN.back_e, EN.back_v, EN.back_mp, EN.back_ml, EN.back_md, EN.back_mn, EN.mask_e, EN.mask_p, EN.mask_l, EN.mask_d, EN.mask_n, EN.isP, EN.lstO, EN.allP, EN.wipeT, EN.restT, EN.kP, EN.gs])
  refine p_made1 h0 hw ?_
  (repeat fail); (try simp only [EN.fz, EN.ss, EN.back_e, EN.back_v, EN.back_mp, EN.back_ml, EN.back_md, EN.back_mn, EN.mask_e, EN.mask_p, EN.mask_l, EN.mask_d, EN.mask_n, EN.isP, EN.lstO, EN.allP, EN.wipeT, EN.restT, EN.kP, EN.gs])
  exact k
theorem p_wo_bD {m : Nat} {o : U2} {a b w : Int} {ys : List Val} {kk uu : List Val} {Q : OV → EN.Env → Prop} (h0 : 0 ≤ w) (hw : w ≤ 1000) (k : Q (.p (.int (o.f w.toNat a b))) [none, some (.l ys), none, some (.d kk uu)]) : Wc (run D gl (m + 4) 4 [.p (.str o.w), .l (ys ++ [.int b] ++ [.int a]), .p (.int w), .d kk uu]) Q := by
  apply uworth_of
  unfold bworth_of
  (repeat fail); (try simp only [EN.fz, EN.ss, EN.back_e, EN.back_v, EN.back_mp, EN.back_ml, EN.back_md, EN.back_mn, EN.mask_e, EN.mask_p, EN.mask_l, EN.mask_d, EN.mask_n, EN.isP, EN.lstO, EN.allP, EN.wipeT, EN.restT, EN.kP, EN.gs])
  refine ⟨_, rfl, ?_⟩
  rw [gin_kp o.kp rfl]
  (repeat fail); (try simp only [EN.fz, EN.ss, EN.back_e, EN.back_v, EN.back_mp, EN.back_ml, EN.back_md, EN.back_mn, EN.mask_e, EN.mask_p, EN.mask_l, EN.mask_d, EN.mask_n, EN.isP, EN.lstO, EN.allP, EN.wipeT, EN.restT, EN.kP, EN.gs])
  refine ⟨_, .tup [.str "sum", .str "sum"], rfl, by cases o <;> rfl, ?_⟩
  (repeat fail); (try simp only [EN.fz, EN.ss, EN.back_e, EN.back_v, EN.back_mp, EN.back_ml, EN.back_md, EN.back_mn, EN.mask_e, EN.mask_p, EN.mask_l, EN.mask_d, EN.mask_n, EN.isP, EN.lstO, EN.allP, EN.wipeT, EN.restT, EN.kP, EN.gs])
  refine w_lcC (wp_put (by rfl) ?_)
  (repeat fail); (try simp only [EN.fz, EN.ss, EN.back_e, EN.back_v, EN.back_mp, EN.back_ml, EN.back_md, EN.back_mn, EN.mask_e, EN.mask_p, EN.mask_l, EN.mask_d, EN.mask_n, EN.isP, EN.lstO, EN.allP, EN.wipeT, EN.restT, EN.kP, EN.gs])
  refine ⟨size_lt (by simp), ?_⟩
  (repeat fail); (try simp only [EN.fz, EN.ss, EN.back_e, EN.back_v, EN.back_mp, EN.back_ml, EN.back_md, EN.back_mn, EN.mask_e, EN.mask_p, EN.mask_l, EN.mask_d, EN.mask_n, EN.isP, EN.lstO, EN.allP, EN.wipeT, EN.restT, EN.kP, EN.gs])
  refine w_popS (by with_unfolding_all rfl) ?_
  (repeat fail); (try simp only [EN.fz, EN.ss, EN.back_e, EN.back_v, EN.back_mp, EN.back_ml, EN.back_md, EN.back_mn, EN.mask_e, EN.mask_p, EN.mask_l, EN.mask_d, EN.mask_n, EN.isP, EN.lstO, EN.allP, EN.wipeT, EN.restT, EN.kP, EN.gs])
  refine w_lcC (wp_put (by rfl) ?_)
  (repeat fail); (try simp only [EN.fz, EN.ss, EN.back_e, EN.back_v, EN.back_mp, EN.back_ml, EN.back_md, EN.back_mn, EN.mask_e, EN.mask_p, EN.mask_l, EN.mask_d, EN.mask_n, EN.isP, EN.lstO, EN.allP, EN.wipeT, EN.restT, EN.kP, EN.gs])
  refine ⟨size_lt (by simp), ?_⟩
  (repeat fail); (try simp only [EN.fz, EN.ss, EN.back_e, EN.back_v, EN.back_mp, EN.back_ml, EN.back_md, EN.back_mn, EN.mask_e, EN.mask_p, EN.mask_l, EN.mask_d, EN.mask_n, EN.isP, EN.lstO, EN.allP, EN.wipeT, EN.restT, EN.kP, EN.gs])
  refine w_popS (by with_unfolding_all rfl) ?_
  (repeat fail); (try simp only [EN.fz, EN.ss, EN.back_e, EN.back_v, EN.back_mp, EN.back_ml, EN.back_md, EN.back_mn, EN.mask_e, EN.mask_p, EN.mask_l, EN.mask_d, EN.mask_n, EN.isP, EN.lstO, EN.allP, EN.wipeT, EN.restT, EN.kP, EN.gs])
  refine w_lcN ?_
  (repeat fail); (try simp only [EN.fz, EN.ss, EN.back_e, EN.back_v, EN.back_mp, EN.back_ml, EN.back_md, EN.back_mn, EN.mask_e, EN.mask_p, EN.mask_l, EN.mask_d, EN.mask_n, EN.isP, EN.lstO, EN.allP, EN.wipeT, EN.restT, EN.kP, EN.gs])
  refine p_made2 h0 hw ?_
  (repeat fail); (try simp only [EN.fz, EN.ss, EN.back_e, EN.back_v, EN.back_mp, EN.back_ml, EN.back_md, EN.back_mn, EN.mask_e, EN.mask_p, EN.mask_l, EN.mask_d, EN.mask_n, EN.isP, EN.lstO, EN.allP, EN.wipeT, EN.restT, EN.kP, EN.gs])
  exact k
theorem p_wo_pkD {m : Nat} {a b c w : Int} {ys : List Val} {kk uu : List Val} {Q : OV → EN.Env → Prop} (h0 : 0 ≤ w) (hw : w ≤ 1000) (k : Q (.p (.int (pkF w.toNat a b c))) [none, some (.l ys), none, some (.d kk uu)]) : Wc (run D gl (m + 4) 4 [.p (.str "pick"), .l (ys ++ [.int c] ++ [.int b] ++ [.int a]), .p (.int w), .d kk uu]) Q := by
  apply uworth_of
  unfold bworth_of
  (repeat fail); (try simp only [EN.fz, EN.ss, EN.back_e, EN.back_v, EN.back_mp, EN.back_ml, EN.back_md, EN.back_mn, EN.mask_e, EN.mask_p, EN.mask_l, EN.mask_d, EN.mask_n, EN.isP, EN.lstO, EN.allP, EN.wipeT, EN.restT, EN.kP, EN.gs])
  refine ⟨_, rfl, ?_⟩
  rw [gin_kp (s := "pick") (by decide +kernel) rfl]
  (repeat fail); (try simp only [EN.fz, EN.ss, EN.back_e, EN.back_v, EN.back_mp, EN.back_ml, EN.back_md, EN.back_mn, EN.mask_e, EN.mask_p, EN.mask_l, EN.mask_d, EN.mask_n, EN.isP, EN.lstO, EN.allP, EN.wipeT, EN.restT, EN.kP, EN.gs])
  refine ⟨_, .tup [.str "sum", .str "sum", .str "sum"], rfl, rfl, ?_⟩
  (repeat fail); (try simp only [EN.fz, EN.ss, EN.back_e, EN.back_v, EN.back_mp, EN.back_ml, EN.back_md, EN.back_mn, EN.mask_e, EN.mask_p, EN.mask_l, EN.mask_d, EN.mask_n, EN.isP, EN.lstO, EN.allP, EN.wipeT, EN.restT, EN.kP, EN.gs])
  refine w_lcC (wp_put (by rfl) ?_)
  (repeat fail); (try simp only [EN.fz, EN.ss, EN.back_e, EN.back_v, EN.back_mp, EN.back_ml, EN.back_md, EN.back_mn, EN.mask_e, EN.mask_p, EN.mask_l, EN.mask_d, EN.mask_n, EN.isP, EN.lstO, EN.allP, EN.wipeT, EN.restT, EN.kP, EN.gs])
  refine ⟨size_lt (by simp), ?_⟩
  (repeat fail); (try simp only [EN.fz, EN.ss, EN.back_e, EN.back_v, EN.back_mp, EN.back_ml, EN.back_md, EN.back_mn, EN.mask_e, EN.mask_p, EN.mask_l, EN.mask_d, EN.mask_n, EN.isP, EN.lstO, EN.allP, EN.wipeT, EN.restT, EN.kP, EN.gs])
  refine w_popS (by with_unfolding_all rfl) ?_
  (repeat fail); (try simp only [EN.fz, EN.ss, EN.back_e, EN.back_v, EN.back_mp, EN.back_ml, EN.back_md, EN.back_mn, EN.mask_e, EN.mask_p, EN.mask_l, EN.mask_d, EN.mask_n, EN.isP, EN.lstO, EN.allP, EN.wipeT, EN.restT, EN.kP, EN.gs])
  refine w_lcC (wp_put (by rfl) ?_)
  (repeat fail); (try simp only [EN.fz, EN.ss, EN.back_e, EN.back_v, EN.back_mp, EN.back_ml, EN.back_md, EN.back_mn, EN.mask_e, EN.mask_p, EN.mask_l, EN.mask_d, EN.mask_n, EN.isP, EN.lstO, EN.allP, EN.wipeT, EN.restT, EN.kP, EN.gs])
  refine ⟨size_lt (by simp), ?_⟩
  (repeat fail); (try simp only [EN.fz, EN.ss, EN.back_e, EN.back_v, EN.back_mp, EN.back_ml, EN.back_md, EN.back_mn, EN.mask_e, EN.mask_p, EN.mask_l, EN.mask_d, EN.mask_n, EN.isP, EN.lstO, EN.allP, EN.wipeT, EN.restT, EN.kP, EN.gs])
  refine w_popS (by with_unfolding_all rfl) ?_
  (repeat fail); (try simp only [EN.fz, EN.ss, EN.back_e, EN.back_v, EN.back_mp, EN.back_ml, EN.back_md, EN.back_mn, EN.mask_e, EN.mask_p, EN.mask_l, EN.mask_d, EN.mask_n, EN.isP, EN.lstO, EN.allP, EN.wipeT, EN.restT, EN.kP, EN.gs])
  refine w_lcC (wp_put (by rfl) ?_)
  (repeat fail); (try simp only [EN.fz, EN.ss, EN.back_e, EN.back_v, EN.back_mp, EN.back_ml, EN.back_md, EN.back_mn, EN.mask_e, EN.mask_p, EN.mask_l, EN.mask_d, EN.mask_n, EN.isP, EN.lstO, EN.allP, EN.wipeT, EN.restT, EN.kP, EN.gs])
  refine ⟨size_lt (by simp), ?_⟩
  (repeat fail); (try simp only [EN.fz, EN.ss, EN.back_e, EN.back_v, EN.back_mp, EN.back_ml, EN.back_md, EN.back_mn, EN.mask_e, EN.mask_p, EN.mask_l, EN.mask_d, EN.mask_n, EN.isP, EN.lstO, EN.allP, EN.wipeT, EN.restT, EN.kP, EN.gs])
  refine w_popS (by with_unfolding_all rfl) ?_
  (repeat fail); (try simp only [EN.fz, EN.ss, EN.back_e, EN.back_v, EN.back_mp, EN.back_ml, EN.back_md, EN.back_mn, EN.mask_e, EN.mask_p, EN.mask_l, EN.mask_d, EN.mask_n, EN.isP, EN.lstO, EN.allP, EN.wipeT, EN.restT, EN.kP, EN.gs])
  refine w_lcN ?_
  (repeat fail); (try simp only [EN.fz, EN.ss, EN.back_e, EN.back_v, EN.back_mp, EN.back_ml, EN.back_md, EN.back_mn, EN.mask_e, EN.mask_p, EN.mask_l, EN.mask_d, EN.mask_n, EN.isP, EN.lstO, EN.allP, EN.wipeT, EN.restT, EN.kP, EN.gs])
  refine p_made3 h0 hw ?_
  (repeat fail); (try simp only [EN.fz, EN.ss, EN.back_e, EN.back_v, EN.back_mp, EN.back_ml, EN.back_md, EN.back_mn, EN.mask_e, EN.mask_p, EN.mask_l, EN.mask_d, EN.mask_n, EN.isP, EN.lstO, EN.allP, EN.wipeT, EN.restT, EN.kP, EN.gs])
  exact k
theorem p_needD {m : Nat} {ws : List Val} {hs : List Str} {us : List Val} {f : Str → Int} {Q : OV → EN.Env → Prop} (hn : hs.Nodup) (hw : ∀ x ∈ ws, Wok (Nm hs us f) x) (k : Q (.p .non) [none, some (.d (hs.map .str) us)]) : Wc (run D gl (m + 1) 2 [.p (.tup ws), .d (hs.map .str) us]) Q := by
  apply uneed_names
  unfold bneed_names
  (repeat fail); (try simp only [EN.fz, EN.ss, EN.back_e, EN.back_v, EN.back_mp, EN.back_ml, EN.back_md, EN.back_mn, EN.mask_e, EN.mask_p, EN.mask_l, EN.mask_d, EN.mask_n, EN.isP, EN.lstO, EN.allP, EN.wipeT, EN.restT, EN.kP, EN.gs])
  refine w_loopL (fun i e => ∃ x2, e = [some (.p (.tup ws)), some (.d (hs.map .str) us), x2]) rfl ⟨none, rfl⟩ ?_ ?_
  · intro i x e hx hI
    obtain ⟨x2, he⟩ := hI
    subst he
    rcases hw x (mem_get hx) with ⟨n, rfl⟩ | ⟨s, rfl, hs2⟩
    · (repeat fail); (try simp only [EN.fz, EN.ss, EN.back_e, EN.back_v, EN.back_mp, EN.back_ml, EN.back_md, EN.back_mn, EN.mask_e, EN.mask_p, EN.mask_l, EN.mask_d, EN.mask_n, EN.isP, EN.lstO, EN.allP, EN.wipeT, EN.restT, EN.kP, EN.gs])
      exact ⟨_, rfl⟩
    · by_cases hk : s ∈ kept
      · (repeat fail); (try simp only [EN.fz, EN.ss, EN.back_e, EN.back_v, EN.back_mp, EN.back_ml, EN.back_md, EN.back_mn, EN.mask_e, EN.mask_p, EN.mask_l, EN.mask_d, EN.mask_n, EN.isP, EN.lstO, EN.allP, EN.wipeT, EN.restT, EN.kP, EN.gs])
        refine ⟨_, rfl, ?_⟩
        rw [gin_kp hk rfl]
        (repeat fail); (try simp only [EN.fz, EN.ss, EN.back_e, EN.back_v, EN.back_mp, EN.back_ml, EN.back_md, EN.back_mn, EN.mask_e, EN.mask_p, EN.mask_l, EN.mask_d, EN.mask_n, EN.isP, EN.lstO, EN.allP, EN.wipeT, EN.restT, EN.kP, EN.gs])
        exact ⟨_, rfl⟩
      · (repeat fail); (try simp only [EN.fz, EN.ss, EN.back_e, EN.back_v, EN.back_mp, EN.back_ml, EN.back_md, EN.back_mn, EN.mask_e, EN.mask_p, EN.mask_l, EN.mask_d, EN.mask_n, EN.isP, EN.lstO, EN.allP, EN.wipeT, EN.restT, EN.kP, EN.gs])
        refine ⟨_, rfl, ?_⟩
        rw [gin_nm hk]
        (repeat fail); (try simp only [EN.fz, EN.ss, EN.back_e, EN.back_v, EN.back_mp, EN.back_ml, EN.back_md, EN.back_mn, EN.mask_e, EN.mask_p, EN.mask_l, EN.mask_d, EN.mask_n, EN.isP, EN.lstO, EN.allP, EN.wipeT, EN.restT, EN.kP, EN.gs])
        obtain ⟨j, h1, h2⟩ := (hs2.resolve_left hk).2
        rw [dget_at hn h1 h2]
        refine if_cf rfl ?_
        (repeat fail); (try simp only [EN.fz, EN.ss, EN.back_e, EN.back_v, EN.back_mp, EN.back_ml, EN.back_md, EN.back_mn, EN.mask_e, EN.mask_p, EN.mask_l, EN.mask_d, EN.mask_n, EN.isP, EN.lstO, EN.allP, EN.wipeT, EN.restT, EN.kP, EN.gs])
        exact ⟨_, rfl⟩
  · intro e hI
    obtain ⟨x2, he⟩ := hI
    subst he
    (repeat fail); (try simp only [EN.fz, EN.ss, EN.back_e, EN.back_v, EN.back_mp, EN.back_ml, EN.back_md, EN.back_mn, EN.mask_e, EN.mask_p, EN.mask_l, EN.mask_d, EN.mask_n, EN.isP, EN.lstO, EN.allP, EN.wipeT, EN.restT, EN.kP, EN.gs])
    exact k
theorem p_worthD {m : Nat} {t : Sm} {w : Int} {ws : List Val} {hs : List Str} {us : List Val} {f : Str → Int} {Q : OV → EN.Env → Prop} (e : ws = t.wd) (h0 : 0 ≤ w) (hw : w ≤ 1000) (hn : hs.Nodup) (ht : t.ok (Nm hs us f)) (hl : t.wd.length ≤ 1000) (k : Q (.p (.int (t.val f w.toNat))) [none, none, some (.d (hs.map .str) us)]) : Wc (run D gl (m + 5) 5 [.p (.tup ws), .p (.int w), .d (hs.map .str) us]) Q := by
  refine uworth ?_
  subst e
  unfold bworth
  (repeat fail); (try simp only [EN.fz, EN.ss, EN.back_e, EN.back_v, EN.back_mp, EN.back_ml, EN.back_md, EN.back_mn, EN.mask_e, EN.mask_p, EN.mask_l, EN.mask_d, EN.mask_n, EN.isP, EN.lstO, EN.allP, EN.wipeT, EN.restT, EN.kP, EN.gs])
  refine p_needD hn (t.wok ht) ?_
  (repeat fail); (try simp only [EN.fz, EN.ss, EN.back_e, EN.back_v, EN.back_mp, EN.back_ml, EN.back_md, EN.back_mn, EN.mask_e, EN.mask_p, EN.mask_l, EN.mask_d, EN.mask_n, EN.isP, EN.lstO, EN.allP, EN.wipeT, EN.restT, EN.kP, EN.gs])
  rw [← List.append_nil (List.reverse t.wd)]
  refine sm_walk (E := fun p e => ∃ x4, e = [some (.p (.tup t.wd)), some (.p (.int w)), some (.d (hs.map .str) us), some (.l p), x4]) (B := 1000) (V := fun t => .int (t.val f w.toNat)) (N := Nm hs us f) ?_ ?_ ?_ ?_ ?_ t ht [] [] _ _ (by simpa using hl) ⟨_, rfl⟩ fun e he => walk_end ?_
  · intro n p _ _ hb e hI
    obtain ⟨x4, he⟩ := hI
    subst he
    refine wp_put (by rfl) ?_
    (repeat fail); (try simp only [EN.fz, EN.ss, EN.back_e, EN.back_v, EN.back_mp, EN.back_ml, EN.back_md, EN.back_mn, EN.mask_e, EN.mask_p, EN.mask_l, EN.mask_d, EN.mask_n, EN.isP, EN.lstO, EN.allP, EN.wipeT, EN.restT, EN.kP, EN.gs])
    refine p_wo_numD h0 hw ?_
    (repeat fail); (try simp only [EN.fz, EN.ss, EN.back_e, EN.back_v, EN.back_mp, EN.back_ml, EN.back_md, EN.back_mn, EN.mask_e, EN.mask_p, EN.mask_l, EN.mask_d, EN.mask_n, EN.isP, EN.lstO, EN.allP, EN.wipeT, EN.restT, EN.kP, EN.gs])
    refine ⟨_, rfl, size_lt (by simp at hb; omega), ?_⟩
    (repeat fail); (try simp only [EN.fz, EN.ss, EN.back_e, EN.back_v, EN.back_mp, EN.back_ml, EN.back_md, EN.back_mn, EN.mask_e, EN.mask_p, EN.mask_l, EN.mask_d, EN.mask_n, EN.isP, EN.lstO, EN.allP, EN.wipeT, EN.restT, EN.kP, EN.gs])
    exact ⟨by trivial, _, rfl⟩
  · intro s p hs hb e hI
    obtain ⟨x4, he⟩ := hI
    subst he
    obtain ⟨hk, j, h1, h2⟩ := hs
    refine wp_put (by rfl) ?_
    (repeat fail); (try simp only [EN.fz, EN.ss, EN.back_e, EN.back_v, EN.back_mp, EN.back_ml, EN.back_md, EN.back_mn, EN.mask_e, EN.mask_p, EN.mask_l, EN.mask_d, EN.mask_n, EN.isP, EN.lstO, EN.allP, EN.wipeT, EN.restT, EN.kP, EN.gs])
    refine p_wo_namD hn hk h1 h2 ?_
    (repeat fail); (try simp only [EN.fz, EN.ss, EN.back_e, EN.back_v, EN.back_mp, EN.back_ml, EN.back_md, EN.back_mn, EN.mask_e, EN.mask_p, EN.mask_l, EN.mask_d, EN.mask_n, EN.isP, EN.lstO, EN.allP, EN.wipeT, EN.restT, EN.kP, EN.gs])
    refine ⟨_, rfl, size_lt (by simp at hb; omega), ?_⟩
    (repeat fail); (try simp only [EN.fz, EN.ss, EN.back_e, EN.back_v, EN.back_mp, EN.back_ml, EN.back_md, EN.back_mn, EN.mask_e, EN.mask_p, EN.mask_l, EN.mask_d, EN.mask_n, EN.isP, EN.lstO, EN.allP, EN.wipeT, EN.restT, EN.kP, EN.gs])
    exact ⟨by trivial, _, rfl⟩
  · intro o a p _ hb e hI
    obtain ⟨x4, he⟩ := hI
    subst he
    refine wp_put (by rfl) ?_
    (repeat fail); (try simp only [EN.fz, EN.ss, EN.back_e, EN.back_v, EN.back_mp, EN.back_ml, EN.back_md, EN.back_mn, EN.mask_e, EN.mask_p, EN.mask_l, EN.mask_d, EN.mask_n, EN.isP, EN.lstO, EN.allP, EN.wipeT, EN.restT, EN.kP, EN.gs])
    refine p_wo_uD h0 hw ?_
    (repeat fail); (try simp only [EN.fz, EN.ss, EN.back_e, EN.back_v, EN.back_mp, EN.back_ml, EN.back_md, EN.back_mn, EN.mask_e, EN.mask_p, EN.mask_l, EN.mask_d, EN.mask_n, EN.isP, EN.lstO, EN.allP, EN.wipeT, EN.restT, EN.kP, EN.gs])
    refine ⟨_, rfl, size_lt (by simp at hb; omega), ?_⟩
    (repeat fail); (try simp only [EN.fz, EN.ss, EN.back_e, EN.back_v, EN.back_mp, EN.back_ml, EN.back_md, EN.back_mn, EN.mask_e, EN.mask_p, EN.mask_l, EN.mask_d, EN.mask_n, EN.isP, EN.lstO, EN.allP, EN.wipeT, EN.restT, EN.kP, EN.gs])
    exact ⟨by trivial, _, rfl⟩
  · intro o a b p _ _ hb e hI
    obtain ⟨x4, he⟩ := hI
    subst he
    refine wp_put (by rfl) ?_
    (repeat fail); (try simp only [EN.fz, EN.ss, EN.back_e, EN.back_v, EN.back_mp, EN.back_ml, EN.back_md, EN.back_mn, EN.mask_e, EN.mask_p, EN.mask_l, EN.mask_d, EN.mask_n, EN.isP, EN.lstO, EN.allP, EN.wipeT, EN.restT, EN.kP, EN.gs])
    refine p_wo_bD h0 hw ?_
    (repeat fail); (try simp only [EN.fz, EN.ss, EN.back_e, EN.back_v, EN.back_mp, EN.back_ml, EN.back_md, EN.back_mn, EN.mask_e, EN.mask_p, EN.mask_l, EN.mask_d, EN.mask_n, EN.isP, EN.lstO, EN.allP, EN.wipeT, EN.restT, EN.kP, EN.gs])
    refine ⟨_, rfl, size_lt (by simp at hb; omega), ?_⟩
    (repeat fail); (try simp only [EN.fz, EN.ss, EN.back_e, EN.back_v, EN.back_mp, EN.back_ml, EN.back_md, EN.back_mn, EN.mask_e, EN.mask_p, EN.mask_l, EN.mask_d, EN.mask_n, EN.isP, EN.lstO, EN.allP, EN.wipeT, EN.restT, EN.kP, EN.gs])
    exact ⟨by trivial, _, rfl⟩
  · intro a b c p _ _ _ hb e hI
    obtain ⟨x4, he⟩ := hI
    subst he
    refine wp_put (by rfl) ?_
    (repeat fail); (try simp only [EN.fz, EN.ss, EN.back_e, EN.back_v, EN.back_mp, EN.back_ml, EN.back_md, EN.back_mn, EN.mask_e, EN.mask_p, EN.mask_l, EN.mask_d, EN.mask_n, EN.isP, EN.lstO, EN.allP, EN.wipeT, EN.restT, EN.kP, EN.gs])
    refine p_wo_pkD h0 hw ?_
    (repeat fail); (try simp only [EN.fz, EN.ss, EN.back_e, EN.back_v, EN.back_mp, EN.back_ml, EN.back_md, EN.back_mn, EN.mask_e, EN.mask_p, EN.mask_l, EN.mask_d, EN.mask_n, EN.isP, EN.lstO, EN.allP, EN.wipeT, EN.restT, EN.kP, EN.gs])
    refine ⟨_, rfl, size_lt (by simp at hb; omega), ?_⟩
    (repeat fail); (try simp only [EN.fz, EN.ss, EN.back_e, EN.back_v, EN.back_mp, EN.back_ml, EN.back_md, EN.back_mn, EN.mask_e, EN.mask_p, EN.mask_l, EN.mask_d, EN.mask_n, EN.isP, EN.lstO, EN.allP, EN.wipeT, EN.restT, EN.kP, EN.gs])
    exact ⟨by trivial, _, rfl⟩
  · obtain ⟨x4, he⟩ := he
    subst he
    (repeat fail); (try simp only [EN.fz, EN.ss, EN.back_e, EN.back_v, EN.back_mp, EN.back_ml, EN.back_md, EN.back_mn, EN.mask_e, EN.mask_p, EN.mask_l, EN.mask_d, EN.mask_n, EN.isP, EN.lstO, EN.allP, EN.wipeT, EN.restT, EN.kP, EN.gs])
    exact k
theorem p_bitsL {m : Nat} {n : Int} {w : Nat} {Q : OV → EN.Env → Prop} (hw : w ≤ 1000) (k : Q (.l ((row w n).map Val.int)) [none, none]) : Wc (run D gl (m + 1) 14 [.p (.int n), .p (.int (w : Int))]) Q := by
  with_reducible refine u_law_bits ?_
  unfold b_law_bits
  (repeat fail); (try simp only [EN.fz, EN.ss, EN.back_e, EN.back_v, EN.back_mp, EN.back_ml, EN.back_md, EN.back_mn, EN.mask_e, EN.mask_p, EN.mask_l, EN.mask_d, EN.mask_n, EN.isP, EN.lstO, EN.allP, EN.wipeT, EN.restT, EN.kP, EN.gs])
  refine w_loopR (fun i e => ∃ x3, e = [some (.p (.int (n / 2 ^ i))), some (.p (.int (w : Int))), some (.l ((row i n).map Val.int)), x3]) rfl ⟨none, by rw [Int.pow_zero, Int.ediv_one]; rfl⟩ ?_ ?_
  · intro i e hi hI
    obtain ⟨x3, he⟩ := hI
    subst he
    (repeat fail); (try simp only [EN.fz, EN.ss, EN.back_e, EN.back_v, EN.back_mp, EN.back_ml, EN.back_md, EN.back_mn, EN.mask_e, EN.mask_p, EN.mask_l, EN.mask_d, EN.mask_n, EN.isP, EN.lstO, EN.allP, EN.wipeT, EN.restT, EN.kP, EN.gs])
    refine ⟨_, rfl, size_lt (by rw [row_lenV]; omega), ?_⟩
    (repeat fail); (try simp only [EN.fz, EN.ss, EN.back_e, EN.back_v, EN.back_mp, EN.back_ml, EN.back_md, EN.back_mn, EN.mask_e, EN.mask_p, EN.mask_l, EN.mask_d, EN.mask_n, EN.isP, EN.lstO, EN.allP, EN.wipeT, EN.restT, EN.kP, EN.gs])
    exact ⟨_, by rw [← row_snoc, div_succ]; rfl⟩
  · intro e hI
    obtain ⟨x3, he⟩ := hI
    subst he
    (repeat fail); (try simp only [EN.fz, EN.ss, EN.back_e, EN.back_v, EN.back_mp, EN.back_ml, EN.back_md, EN.back_mn, EN.mask_e, EN.mask_p, EN.mask_l, EN.mask_d, EN.mask_n, EN.isP, EN.lstO, EN.allP, EN.wipeT, EN.restT, EN.kP, EN.gs])
    rw [Int.toNat_natCast]
    exact k
theorem p_addedL {m : Nat} {a b c S : Int} {w : Nat} {Q : OV → EN.Env → Prop} (hS : S = a + b + c) (hw : w ≤ 1000) (k : Q (.l ((row w S).map Val.int)) [none, none, none]) : Wc (run D gl (m + 1) 15 [.p (.lst ((row w a).map Val.int)), .p (.lst ((row w b).map Val.int)), .p (.int c)]) Q := by
  with_reducible refine u_law_added ?_
  unfold b_law_added
  (repeat fail); (try simp only [EN.fz, EN.ss, EN.back_e, EN.back_v, EN.back_mp, EN.back_ml, EN.back_md, EN.back_mn, EN.mask_e, EN.mask_p, EN.mask_l, EN.mask_d, EN.mask_n, EN.isP, EN.lstO, EN.allP, EN.wipeT, EN.restT, EN.kP, EN.gs])
  rw [row_lenV]
  (repeat fail); (try simp only [EN.fz, EN.ss, EN.back_e, EN.back_v, EN.back_mp, EN.back_ml, EN.back_md, EN.back_mn, EN.mask_e, EN.mask_p, EN.mask_l, EN.mask_d, EN.mask_n, EN.isP, EN.lstO, EN.allP, EN.wipeT, EN.restT, EN.kP, EN.gs])
  refine w_loopR (fun i e => ∃ x4 x5, e = [some (.p (.lst ((row w a).map Val.int))), some (.p (.lst ((row w b).map Val.int))), some (.p (.int (S / 2 ^ i - a / 2 ^ i - b / 2 ^ i))), some (.l ((row i S).map Val.int)), x4, x5]) rfl ⟨none, none, by
    rw [Int.pow_zero, Int.ediv_one, Int.ediv_one, Int.ediv_one, show S - a - b = c by omega, row_zero]; try rfl⟩ ?_ ?_
  · intro i e hi hI
    obtain ⟨x4, x5, he⟩ := hI
    subst he
    have hi : i < w := by omega
    (repeat fail); (try simp only [EN.fz, EN.ss, EN.back_e, EN.back_v, EN.back_mp, EN.back_ml, EN.back_md, EN.back_mn, EN.mask_e, EN.mask_p, EN.mask_l, EN.mask_d, EN.mask_n, EN.isP, EN.lstO, EN.allP, EN.wipeT, EN.restT, EN.kP, EN.gs])
    refine wp_atR hi ?_
    (repeat fail); (try simp only [EN.fz, EN.ss, EN.back_e, EN.back_v, EN.back_mp, EN.back_ml, EN.back_md, EN.back_mn, EN.mask_e, EN.mask_p, EN.mask_l, EN.mask_d, EN.mask_n, EN.isP, EN.lstO, EN.allP, EN.wipeT, EN.restT, EN.kP, EN.gs])
    refine wp_atR hi ?_
    (repeat fail); (try simp only [EN.fz, EN.ss, EN.back_e, EN.back_v, EN.back_mp, EN.back_ml, EN.back_md, EN.back_mn, EN.mask_e, EN.mask_p, EN.mask_l, EN.mask_d, EN.mask_n, EN.isP, EN.lstO, EN.allP, EN.wipeT, EN.restT, EN.kP, EN.gs])
    refine ⟨_, rfl, size_lt (by rw [row_lenV]; omega), ?_⟩
    (repeat fail); (try simp only [EN.fz, EN.ss, EN.back_e, EN.back_v, EN.back_mp, EN.back_ml, EN.back_md, EN.back_mn, EN.mask_e, EN.mask_p, EN.mask_l, EN.mask_d, EN.mask_n, EN.isP, EN.lstO, EN.allP, EN.wipeT, EN.restT, EN.kP, EN.gs])
    have e1 : (bt a i + bt b i + (S / 2 ^ i - a / 2 ^ i - b / 2 ^ i)) % ((2 : Nat) : Int) = bt S i := add_bit
    have e2 : (bt a i + bt b i + (S / 2 ^ i - a / 2 ^ i - b / 2 ^ i)) / ((2 : Nat) : Int) = S / 2 ^ (i + 1) - a / 2 ^ (i + 1) - b / 2 ^ (i + 1) := by
      rw [div_succ, div_succ, div_succ]; exact add_carry
    rw [e1, e2, row_snoc]
    exact ⟨_, _, rfl⟩
  · intro e hI
    obtain ⟨x4, x5, he⟩ := hI
    subst he
    (repeat fail); (try simp only [EN.fz, EN.ss, EN.back_e, EN.back_v, EN.back_mp, EN.back_ml, EN.back_md, EN.back_mn, EN.mask_e, EN.mask_p, EN.mask_l, EN.mask_d, EN.mask_n, EN.isP, EN.lstO, EN.allP, EN.wipeT, EN.restT, EN.kP, EN.gs])
    rw [Int.toNat_natCast]
    exact k
theorem p_turnedL {m : Nat} {a : Int} {w : Nat} {Q : OV → EN.Env → Prop} (hw : w ≤ 1000) (k : Q (.l ((row w (-1 - a)).map Val.int)) [none]) : Wc (run D gl (m + 1) 17 [.p (.lst ((row w a).map Val.int))]) Q := by
  with_reducible refine u_law_turned_bits ?_
  unfold b_law_turned_bits
  (repeat fail); (try simp only [EN.fz, EN.ss, EN.back_e, EN.back_v, EN.back_mp, EN.back_ml, EN.back_md, EN.back_mn, EN.mask_e, EN.mask_p, EN.mask_l, EN.mask_d, EN.mask_n, EN.isP, EN.lstO, EN.allP, EN.wipeT, EN.restT, EN.kP, EN.gs])
  refine w_lcLoop (fun i acc e => ∃ x1, acc = (row i (-1 - a)).map Val.int ∧ e = [some (.p (.lst ((row w a).map Val.int))), x1]) ⟨_, rfl, rfl⟩ ?_ ?_
  · intro i x acc e hx hI
    obtain ⟨x1, ha, he⟩ := hI
    subst ha he
    rw [map_row] at hx
    obtain ⟨hi, rfl⟩ := rng_at hx
    refine wp_put (by rfl) ?_
    (repeat fail); (try simp only [EN.fz, EN.ss, EN.back_e, EN.back_v, EN.back_mp, EN.back_ml, EN.back_md, EN.back_mn, EN.mask_e, EN.mask_p, EN.mask_l, EN.mask_d, EN.mask_n, EN.isP, EN.lstO, EN.allP, EN.wipeT, EN.restT, EN.kP, EN.gs])
    refine ⟨size_lt (by rw [row_lenV]; omega), ?_⟩
    (repeat fail); (try simp only [EN.fz, EN.ss, EN.back_e, EN.back_v, EN.back_mp, EN.back_ml, EN.back_md, EN.back_mn, EN.mask_e, EN.mask_p, EN.mask_l, EN.mask_d, EN.mask_n, EN.isP, EN.lstO, EN.allP, EN.wipeT, EN.restT, EN.kP, EN.gs])
    exact ⟨_, by rw [← row_snoc, bt_not]; rfl, rfl⟩
  · intro acc e hI
    obtain ⟨x1, ha, he⟩ := hI
    subst ha he
    rw [row_lenV]
    (repeat fail); (try simp only [EN.fz, EN.ss, EN.back_e, EN.back_v, EN.back_mp, EN.back_ml, EN.back_md, EN.back_mn, EN.mask_e, EN.mask_p, EN.mask_l, EN.mask_d, EN.mask_n, EN.isP, EN.lstO, EN.allP, EN.wipeT, EN.restT, EN.kP, EN.gs])
    exact k
theorem p_lowestL {m : Nat} {a : Int} {w : Nat} {Q : OV → EN.Env → Prop} (hw : w ≤ 1000) (h0 : 0 ≤ a) (h1 : a < 2 ^ w) (k : Q (.l ((row w (Builtin.bitAnd a (-a))).map Val.int)) [none]) : Wc (run D gl (m + 1) 16 [.p (.lst ((row w a).map Val.int))]) Q := by
  with_reducible refine u_law_lowest ?_
  unfold b_law_lowest
  (repeat fail); (try simp only [EN.fz, EN.ss, EN.back_e, EN.back_v, EN.back_mp, EN.back_ml, EN.back_md, EN.back_mn, EN.mask_e, EN.mask_p, EN.mask_l, EN.mask_d, EN.mask_n, EN.isP, EN.lstO, EN.allP, EN.wipeT, EN.restT, EN.kP, EN.gs])
  rw [row_lenV]
  with_reducible refine wp_repR hw ?_
  (repeat fail); (try simp only [EN.fz, EN.ss, EN.back_e, EN.back_v, EN.back_mp, EN.back_ml, EN.back_md, EN.back_mn, EN.mask_e, EN.mask_p, EN.mask_l, EN.mask_d, EN.mask_n, EN.isP, EN.lstO, EN.allP, EN.wipeT, EN.restT, EN.kP, EN.gs])
  refine wp_inI ?_
  (repeat fail); (try simp only [EN.fz, EN.ss, EN.back_e, EN.back_v, EN.back_mp, EN.back_ml, EN.back_md, EN.back_mn, EN.mask_e, EN.mask_p, EN.mask_l, EN.mask_d, EN.mask_n, EN.isP, EN.lstO, EN.allP, EN.wipeT, EN.restT, EN.kP, EN.gs])
  rcases low_row h0 h1 with ⟨rfl, e⟩ | ⟨j, hj, z, o, e⟩
  · have n : ((1 : Nat) : Int) ∉ row w 0 := fun h => by
      rw [row_nought] at h
      have := List.eq_of_mem_replicate h
      omega
    refine if_cf (decide_eq_false n) ?_
    (repeat fail); (try simp only [EN.fz, EN.ss, EN.back_e, EN.back_v, EN.back_mp, EN.back_ml, EN.back_md, EN.back_mn, EN.mask_e, EN.mask_p, EN.mask_l, EN.mask_d, EN.mask_n, EN.isP, EN.lstO, EN.allP, EN.wipeT, EN.restT, EN.kP, EN.gs])
    rw [e] at k
    exact k
  · have hm : ((1 : Nat) : Int) ∈ row w a := List.mem_iff_getElem?.mpr ⟨j, by rw [row_get a hj, o]; rfl⟩
    refine if_ct (decide_eq_true hm) ?_
    (repeat fail); (try simp only [EN.fz, EN.ss, EN.back_e, EN.back_v, EN.back_mp, EN.back_ml, EN.back_md, EN.back_mn, EN.mask_e, EN.mask_p, EN.mask_l, EN.mask_d, EN.mask_n, EN.isP, EN.lstO, EN.allP, EN.wipeT, EN.restT, EN.kP, EN.gs])
    refine wp_idxI (k := j) (by rw [row_get a hj, o]; rfl) (fun i hi h => ?_) ?_
    · rw [row_get a (by omega), z i hi] at h
      have : (0 : Int) = 1 := Option.some.inj h
      omega
    (repeat fail); (try simp only [EN.fz, EN.ss, EN.back_e, EN.back_v, EN.back_mp, EN.back_ml, EN.back_md, EN.back_mn, EN.mask_e, EN.mask_p, EN.mask_l, EN.mask_d, EN.mask_n, EN.isP, EN.lstO, EN.allP, EN.wipeT, EN.restT, EN.kP, EN.gs])
    refine wp_setM (by omega) (by rw [row_lenV]; omega) ?_
    (repeat fail); (try simp only [EN.fz, EN.ss, EN.back_e, EN.back_v, EN.back_mp, EN.back_ml, EN.back_md, EN.back_mn, EN.mask_e, EN.mask_p, EN.mask_l, EN.mask_d, EN.mask_n, EN.isP, EN.lstO, EN.allP, EN.wipeT, EN.restT, EN.kP, EN.gs])
    rw [Int.toNat_natCast, show ((1 : Nat) : Int) = 1 from rfl, ← row_two hj, ← e]
    exact k
theorem and_b2z {x y : Int} : b2z (decide (x + y = ((2 : Nat) : Int))) = if x + y = 2 then 1 else 0 := by
  by_cases h : x + y = 2
  · rw [if_pos h, decide_eq_true (show x + y = ((2 : Nat) : Int) from h)]; rfl
  · rw [if_neg h, decide_eq_false (show ¬ x + y = ((2 : Nat) : Int) from h)]; rfl
theorem or_b2z {x y : Int} : b2z (decide (((0 : Nat) : Int) < x + y)) = if 0 < x + y then 1 else 0 := by
  by_cases h : 0 < x + y
  · rw [if_pos h, decide_eq_true (show ((0 : Nat) : Int) < x + y from h)]; rfl
  · rw [if_neg h, decide_eq_false (show ¬ ((0 : Nat) : Int) < x + y from h)]; rfl
theorem p_madeL1 {m : Nat} {o : U1} {a : Int} {w : Nat} {Q : OV → EN.Env → Prop} (hw1 : 1 ≤ w) (hw : w ≤ 1000) (h0 : 0 ≤ a) (h1 : a < 2 ^ w) (k : Q (.l ((row w (o.f w a)).map Val.int)) [none, none]) : Wc (run D gl (m + 2) 18 [.p (.str o.w), .p (.lst [.lst ((row w a).map Val.int)])]) Q := by
  with_reducible refine u_law_made ?_
  unfold b_law_made
  (repeat fail); (try simp only [EN.fz, EN.ss, EN.back_e, EN.back_v, EN.back_mp, EN.back_ml, EN.back_md, EN.back_mn, EN.mask_e, EN.mask_p, EN.mask_l, EN.mask_d, EN.mask_n, EN.isP, EN.lstO, EN.allP, EN.wipeT, EN.restT, EN.kP, EN.gs])
  rw [row_lenV]
  with_reducible refine wp_repR hw ?_
  cases o
  · (repeat fail); (try simp only [EN.fz, EN.ss, EN.back_e, EN.back_v, EN.back_mp, EN.back_ml, EN.back_md, EN.back_mn, EN.mask_e, EN.mask_p, EN.mask_l, EN.mask_d, EN.mask_n, EN.isP, EN.lstO, EN.allP, EN.wipeT, EN.restT, EN.kP, EN.gs])
    with_reducible refine p_turnedL hw ?_
    (repeat fail); (try simp only [EN.fz, EN.ss, EN.back_e, EN.back_v, EN.back_mp, EN.back_ml, EN.back_md, EN.back_mn, EN.mask_e, EN.mask_p, EN.mask_l, EN.mask_d, EN.mask_n, EN.isP, EN.lstO, EN.allP, EN.wipeT, EN.restT, EN.kP, EN.gs])
    rw [← row_mod]
    exact k
  · (repeat fail); (try simp only [EN.fz, EN.ss, EN.back_e, EN.back_v, EN.back_mp, EN.back_ml, EN.back_md, EN.back_mn, EN.mask_e, EN.mask_p, EN.mask_l, EN.mask_d, EN.mask_n, EN.isP, EN.lstO, EN.allP, EN.wipeT, EN.restT, EN.kP, EN.gs])
    with_reducible refine p_turnedL hw ?_
    (repeat fail); (try simp only [EN.fz, EN.ss, EN.back_e, EN.back_v, EN.back_mp, EN.back_ml, EN.back_md, EN.back_mn, EN.mask_e, EN.mask_p, EN.mask_l, EN.mask_d, EN.mask_n, EN.isP, EN.lstO, EN.allP, EN.wipeT, EN.restT, EN.kP, EN.gs])
    with_reducible refine p_addedL (S := -a) (by show -a = 0 + (-1 - a) + ((1 : Nat) : Int); omega) hw ?_
    (repeat fail); (try simp only [EN.fz, EN.ss, EN.back_e, EN.back_v, EN.back_mp, EN.back_ml, EN.back_md, EN.back_mn, EN.mask_e, EN.mask_p, EN.mask_l, EN.mask_d, EN.mask_n, EN.isP, EN.lstO, EN.allP, EN.wipeT, EN.restT, EN.kP, EN.gs])
    rw [← row_mod]
    exact k
  · obtain ⟨v, rfl⟩ : ∃ v, w = v + 1 := ⟨w - 1, by omega⟩
    (repeat fail); (try simp only [EN.fz, EN.ss, EN.back_e, EN.back_v, EN.back_mp, EN.back_ml, EN.back_md, EN.back_mn, EN.mask_e, EN.mask_p, EN.mask_l, EN.mask_d, EN.mask_n, EN.isP, EN.lstO, EN.allP, EN.wipeT, EN.restT, EN.kP, EN.gs])
    rw [cut_row]
    refine wp_catL (sizeLine_ge (by rw [row_lenV]; show 1 + v ≤ 1000000; omega)) ?_
    (repeat fail); (try simp only [EN.fz, EN.ss, EN.back_e, EN.back_v, EN.back_mp, EN.back_ml, EN.back_md, EN.back_mn, EN.mask_e, EN.mask_p, EN.mask_l, EN.mask_d, EN.mask_n, EN.isP, EN.lstO, EN.allP, EN.wipeT, EN.restT, EN.kP, EN.gs])
    rw [twice_row, ← row_mod]
    exact k
  · (repeat fail); (try simp only [EN.fz, EN.ss, EN.back_e, EN.back_v, EN.back_mp, EN.back_ml, EN.back_md, EN.back_mn, EN.mask_e, EN.mask_p, EN.mask_l, EN.mask_d, EN.mask_n, EN.isP, EN.lstO, EN.allP, EN.wipeT, EN.restT, EN.kP, EN.gs])
    with_reducible refine p_lowestL hw h0 h1 ?_
    (repeat fail); (try simp only [EN.fz, EN.ss, EN.back_e, EN.back_v, EN.back_mp, EN.back_ml, EN.back_md, EN.back_mn, EN.mask_e, EN.mask_p, EN.mask_l, EN.mask_d, EN.mask_n, EN.isP, EN.lstO, EN.allP, EN.wipeT, EN.restT, EN.kP, EN.gs])
    exact k
theorem p_madeL2 {m : Nat} {o : U2} {a b : Int} {w : Nat} {Q : OV → EN.Env → Prop} (hw : w ≤ 1000) (h0 : 0 ≤ a) (h1 : 0 ≤ b) (k : Q (.l ((row w (o.f w a b)).map Val.int)) [none, none]) : Wc (run D gl (m + 2) 18 [.p (.str o.w), .p (.lst [.lst ((row w a).map Val.int), .lst ((row w b).map Val.int)])]) Q := by
  with_reducible refine u_law_made ?_
  unfold b_law_made
  (repeat fail); (try simp only [EN.fz, EN.ss, EN.back_e, EN.back_v, EN.back_mp, EN.back_ml, EN.back_md, EN.back_mn, EN.mask_e, EN.mask_p, EN.mask_l, EN.mask_d, EN.mask_n, EN.isP, EN.lstO, EN.allP, EN.wipeT, EN.restT, EN.kP, EN.gs])
  rw [row_lenV]
  with_reducible refine wp_repR hw ?_
  have lc : ∀ {env : EN.Env} {elt : EN.Env → R Val} {R : List Val → EN.Env → Prop} {S : Int} (I : EN.Env → Prop), I env → (∀ i e, i < w → I e → Wp (putT [] (.tp [6, 7]) (.tup [.int (bt a i), .int (bt b i)]) (wipeT (.tp [6, 7]) e)) fun e1 => Wr (elt e1) fun y e3 => y = .int (bt S i) ∧ I e3) → (∀ e, I e → R ((row w S).map Val.int) e) →
      Wr (lcLoop (fun x env => putT [] (.tp [6, 7]) x (wipeT (.tp [6, 7]) env)) (fun env => .ok true env) elt ((List.range w).map fun i => .tup [.int (bt a i), .int (bt b i)]) [] env) R := fun {env elt R S} I hI hs hd => by
    refine w_lcLoop (fun i acc e => acc = (row i S).map Val.int ∧ I e) ⟨rfl, hI⟩ ?_ ?_
    · intro i x acc e hx hI
      obtain ⟨ha, he⟩ := hI
      subst ha
      obtain ⟨hi, rfl⟩ := rng_at hx
      have t := hs i e hi he
      cases z : putT [] (.tp [6, 7]) (.tup [.int (bt a i), .int (bt b i)]) (wipeT (.tp [6, 7]) e) with
      | none => rw [z] at t; exact t.elim
      | some e1 =>
        rw [z] at t
        refine ⟨fun _ => ⟨size_lt (by rw [row_lenV]; omega), t.mono fun y e3 h => ?_⟩, fun h => (nomatch h)⟩
        rw [h.1]
        exact ⟨row_snoc _ _, h.2⟩
    · intro acc e hI
      obtain ⟨ha, he⟩ := hI
      subst ha
      rw [List.length_map, List.length_range]
      exact hd e he
  cases o
  · (repeat fail); (try simp only [EN.fz, EN.ss, EN.back_e, EN.back_v, EN.back_mp, EN.back_ml, EN.back_md, EN.back_mn, EN.mask_e, EN.mask_p, EN.mask_l, EN.mask_d, EN.mask_n, EN.isP, EN.lstO, EN.allP, EN.wipeT, EN.restT, EN.kP, EN.gs])
    refine Wp.of (a := .p (.int ((0 : Nat) : Int))) (by with_unfolding_all rfl) ?_
    (repeat fail); (try simp only [EN.fz, EN.ss, EN.back_e, EN.back_v, EN.back_mp, EN.back_ml, EN.back_md, EN.back_mn, EN.mask_e, EN.mask_p, EN.mask_l, EN.mask_d, EN.mask_n, EN.isP, EN.lstO, EN.allP, EN.wipeT, EN.restT, EN.kP, EN.gs])
    refine wp_zip2 ?_
    refine lc (S := Builtin.bitAnd a b) (fun e => ∃ x6 x7, e = [some (.p (.str "and")), some (.p (.lst [.lst ((row w a).map Val.int), .lst ((row w b).map Val.int)])), some (.p (.lst ((row w a).map Val.int))), some (.l ((row w 0).map Val.int)), some (.p (.lst ((row w b).map Val.int))), some (.p (.int ((0 : Nat) : Int))), x6, x7, none]) ⟨_, _, rfl⟩ (fun i e hi he => ?_) (fun e he => ?_)
    · obtain ⟨x6, x7, rfl⟩ := he
      refine wp_put (by rfl) ?_
      (repeat fail); (try simp only [EN.fz, EN.ss, EN.back_e, EN.back_v, EN.back_mp, EN.back_ml, EN.back_md, EN.back_mn, EN.mask_e, EN.mask_p, EN.mask_l, EN.mask_d, EN.mask_n, EN.isP, EN.lstO, EN.allP, EN.wipeT, EN.restT, EN.kP, EN.gs])
      exact ⟨by rw [and_b2z, bt_and h0 h1], _, _, rfl⟩
    · obtain ⟨x6, x7, rfl⟩ := he
      (repeat fail); (try simp only [EN.fz, EN.ss, EN.back_e, EN.back_v, EN.back_mp, EN.back_ml, EN.back_md, EN.back_mn, EN.mask_e, EN.mask_p, EN.mask_l, EN.mask_d, EN.mask_n, EN.isP, EN.lstO, EN.allP, EN.wipeT, EN.restT, EN.kP, EN.gs])
      exact k
  · (repeat fail); (try simp only [EN.fz, EN.ss, EN.back_e, EN.back_v, EN.back_mp, EN.back_ml, EN.back_md, EN.back_mn, EN.mask_e, EN.mask_p, EN.mask_l, EN.mask_d, EN.mask_n, EN.isP, EN.lstO, EN.allP, EN.wipeT, EN.restT, EN.kP, EN.gs])
    refine Wp.of (a := .p (.int ((1 : Nat) : Int))) (by with_unfolding_all rfl) ?_
    (repeat fail); (try simp only [EN.fz, EN.ss, EN.back_e, EN.back_v, EN.back_mp, EN.back_ml, EN.back_md, EN.back_mn, EN.mask_e, EN.mask_p, EN.mask_l, EN.mask_d, EN.mask_n, EN.isP, EN.lstO, EN.allP, EN.wipeT, EN.restT, EN.kP, EN.gs])
    refine wp_zip2 ?_
    refine lc (S := Builtin.bitOr a b) (fun e => ∃ x6 x7, e = [some (.p (.str "or")), some (.p (.lst [.lst ((row w a).map Val.int), .lst ((row w b).map Val.int)])), some (.p (.lst ((row w a).map Val.int))), some (.l ((row w 0).map Val.int)), some (.p (.lst ((row w b).map Val.int))), some (.p (.int ((1 : Nat) : Int))), x6, x7, none]) ⟨_, _, rfl⟩ (fun i e hi he => ?_) (fun e he => ?_)
    · obtain ⟨x6, x7, rfl⟩ := he
      refine wp_put (by rfl) ?_
      (repeat fail); (try simp only [EN.fz, EN.ss, EN.back_e, EN.back_v, EN.back_mp, EN.back_ml, EN.back_md, EN.back_mn, EN.mask_e, EN.mask_p, EN.mask_l, EN.mask_d, EN.mask_n, EN.isP, EN.lstO, EN.allP, EN.wipeT, EN.restT, EN.kP, EN.gs])
      exact ⟨by rw [or_b2z, bt_or h0 h1], _, _, rfl⟩
    · obtain ⟨x6, x7, rfl⟩ := he
      (repeat fail); (try simp only [EN.fz, EN.ss, EN.back_e, EN.back_v, EN.back_mp, EN.back_ml, EN.back_md, EN.back_mn, EN.mask_e, EN.mask_p, EN.mask_l, EN.mask_d, EN.mask_n, EN.isP, EN.lstO, EN.allP, EN.wipeT, EN.restT, EN.kP, EN.gs])
      exact k
  · (repeat fail); (try simp only [EN.fz, EN.ss, EN.back_e, EN.back_v, EN.back_mp, EN.back_ml, EN.back_md, EN.back_mn, EN.mask_e, EN.mask_p, EN.mask_l, EN.mask_d, EN.mask_n, EN.isP, EN.lstO, EN.allP, EN.wipeT, EN.restT, EN.kP, EN.gs])
    refine Wp.of (a := .p (.int ((2 : Nat) : Int))) (by with_unfolding_all rfl) ?_
    (repeat fail); (try simp only [EN.fz, EN.ss, EN.back_e, EN.back_v, EN.back_mp, EN.back_ml, EN.back_md, EN.back_mn, EN.mask_e, EN.mask_p, EN.mask_l, EN.mask_d, EN.mask_n, EN.isP, EN.lstO, EN.allP, EN.wipeT, EN.restT, EN.kP, EN.gs])
    refine wp_zip2 ?_
    refine lc (S := Builtin.bitXor a b) (fun e => ∃ x6 x7, e = [some (.p (.str "odd")), some (.p (.lst [.lst ((row w a).map Val.int), .lst ((row w b).map Val.int)])), some (.p (.lst ((row w a).map Val.int))), some (.l ((row w 0).map Val.int)), some (.p (.lst ((row w b).map Val.int))), some (.p (.int ((2 : Nat) : Int))), x6, x7, none]) ⟨_, _, rfl⟩ (fun i e hi he => ?_) (fun e he => ?_)
    · obtain ⟨x6, x7, rfl⟩ := he
      refine wp_put (by rfl) ?_
      (repeat fail); (try simp only [EN.fz, EN.ss, EN.back_e, EN.back_v, EN.back_mp, EN.back_ml, EN.back_md, EN.back_mn, EN.mask_e, EN.mask_p, EN.mask_l, EN.mask_d, EN.mask_n, EN.isP, EN.lstO, EN.allP, EN.wipeT, EN.restT, EN.kP, EN.gs])
      exact ⟨by rw [bt_xor h0 h1]; rfl, _, _, rfl⟩
    · obtain ⟨x6, x7, rfl⟩ := he
      (repeat fail); (try simp only [EN.fz, EN.ss, EN.back_e, EN.back_v, EN.back_mp, EN.back_ml, EN.back_md, EN.back_mn, EN.mask_e, EN.mask_p, EN.mask_l, EN.mask_d, EN.mask_n, EN.isP, EN.lstO, EN.allP, EN.wipeT, EN.restT, EN.kP, EN.gs])
      exact k
  · (repeat fail); (try simp only [EN.fz, EN.ss, EN.back_e, EN.back_v, EN.back_mp, EN.back_ml, EN.back_md, EN.back_mn, EN.mask_e, EN.mask_p, EN.mask_l, EN.mask_d, EN.mask_n, EN.isP, EN.lstO, EN.allP, EN.wipeT, EN.restT, EN.kP, EN.gs])
    with_reducible refine p_addedL (S := a + b) (by show a + b = a + b + ((0 : Nat) : Int); omega) hw ?_
    (repeat fail); (try simp only [EN.fz, EN.ss, EN.back_e, EN.back_v, EN.back_mp, EN.back_ml, EN.back_md, EN.back_mn, EN.mask_e, EN.mask_p, EN.mask_l, EN.mask_d, EN.mask_n, EN.isP, EN.lstO, EN.allP, EN.wipeT, EN.restT, EN.kP, EN.gs])
    rw [← row_mod]
    exact k
  · (repeat fail); (try simp only [EN.fz, EN.ss, EN.back_e, EN.back_v, EN.back_mp, EN.back_ml, EN.back_md, EN.back_mn, EN.mask_e, EN.mask_p, EN.mask_l, EN.mask_d, EN.mask_n, EN.isP, EN.lstO, EN.allP, EN.wipeT, EN.restT, EN.kP, EN.gs])
    with_reducible refine p_turnedL hw ?_
    (repeat fail); (try simp only [EN.fz, EN.ss, EN.back_e, EN.back_v, EN.back_mp, EN.back_ml, EN.back_md, EN.back_mn, EN.mask_e, EN.mask_p, EN.mask_l, EN.mask_d, EN.mask_n, EN.isP, EN.lstO, EN.allP, EN.wipeT, EN.restT, EN.kP, EN.gs])
    with_reducible refine p_addedL (S := a - b) (by show a - b = a + (-1 - b) + ((1 : Nat) : Int); omega) hw ?_
    (repeat fail); (try simp only [EN.fz, EN.ss, EN.back_e, EN.back_v, EN.back_mp, EN.back_ml, EN.back_md, EN.back_mn, EN.mask_e, EN.mask_p, EN.mask_l, EN.mask_d, EN.mask_n, EN.isP, EN.lstO, EN.allP, EN.wipeT, EN.restT, EN.kP, EN.gs])
    rw [← row_mod]
    exact k
theorem p_madeL3 {m : Nat} {a b c : Int} {w : Nat} {Q : OV → EN.Env → Prop} (hw : w ≤ 1000) (h0 : 0 ≤ a) (h1 : 0 ≤ b) (h2 : 0 ≤ c) (k : Q (.l ((row w (pkF w a b c)).map Val.int)) [none, none]) : Wc (run D gl (m + 2) 18 [.p (.str "pick"), .p (.lst [.lst ((row w a).map Val.int), .lst ((row w b).map Val.int), .lst ((row w c).map Val.int)])]) Q := by
  with_reducible refine u_law_made ?_
  unfold b_law_made
  (repeat fail); (try simp only [EN.fz, EN.ss, EN.back_e, EN.back_v, EN.back_mp, EN.back_ml, EN.back_md, EN.back_mn, EN.mask_e, EN.mask_p, EN.mask_l, EN.mask_d, EN.mask_n, EN.isP, EN.lstO, EN.allP, EN.wipeT, EN.restT, EN.kP, EN.gs])
  rw [row_lenV]
  with_reducible refine wp_repR hw ?_
  (repeat fail); (try simp only [EN.fz, EN.ss, EN.back_e, EN.back_v, EN.back_mp, EN.back_ml, EN.back_md, EN.back_mn, EN.mask_e, EN.mask_p, EN.mask_l, EN.mask_d, EN.mask_n, EN.isP, EN.lstO, EN.allP, EN.wipeT, EN.restT, EN.kP, EN.gs])
  refine wp_zip3 ?_
  refine w_lcLoop (fun i acc e => ∃ x6 x7 x8, acc = (row i (pkF w a b c)).map Val.int ∧ e = [some (.p (.str "pick")), some (.p (.lst [.lst ((row w a).map Val.int), .lst ((row w b).map Val.int), .lst ((row w c).map Val.int)])), some (.p (.lst ((row w a).map Val.int))), some (.l ((row w 0).map Val.int)), some (.p (.lst ((row w b).map Val.int))), none, x6, x7, x8]) ⟨_, _, _, rfl, rfl⟩ ?_ ?_
  · intro i x acc e hx hI
    obtain ⟨x6, x7, x8, ha, he⟩ := hI
    subst ha he
    obtain ⟨hi, rfl⟩ := rng_at hx
    refine wp_put (by rfl) ?_
    (repeat fail); (try simp only [EN.fz, EN.ss, EN.back_e, EN.back_v, EN.back_mp, EN.back_ml, EN.back_md, EN.back_mn, EN.mask_e, EN.mask_p, EN.mask_l, EN.mask_d, EN.mask_n, EN.isP, EN.lstO, EN.allP, EN.wipeT, EN.restT, EN.kP, EN.gs])
    refine ⟨size_lt (by rw [row_lenV]; omega), ?_⟩
    (repeat fail); (try simp only [EN.fz, EN.ss, EN.back_e, EN.back_v, EN.back_mp, EN.back_ml, EN.back_md, EN.back_mn, EN.mask_e, EN.mask_p, EN.mask_l, EN.mask_d, EN.mask_n, EN.isP, EN.lstO, EN.allP, EN.wipeT, EN.restT, EN.kP, EN.gs])
    have ha := bt_01 a i
    have ep := bt_pick hi h0 h1 h2
    rcases (show bt a i = ((0 : Nat) : Int) ∨ bt a i = ((1 : Nat) : Int) by omega) with e | e
    · rw [e]
      (repeat fail); (try simp only [EN.fz, EN.ss, EN.back_e, EN.back_v, EN.back_mp, EN.back_ml, EN.back_md, EN.back_mn, EN.mask_e, EN.mask_p, EN.mask_l, EN.mask_d, EN.mask_n, EN.isP, EN.lstO, EN.allP, EN.wipeT, EN.restT, EN.kP, EN.gs])
      rw [if_neg (by rw [e]; decide)] at ep
      exact ⟨_, _, _, by rw [← row_snoc, ep], rfl⟩
    · rw [e]
      (repeat fail); (try simp only [EN.fz, EN.ss, EN.back_e, EN.back_v, EN.back_mp, EN.back_ml, EN.back_md, EN.back_mn, EN.mask_e, EN.mask_p, EN.mask_l, EN.mask_d, EN.mask_n, EN.isP, EN.lstO, EN.allP, EN.wipeT, EN.restT, EN.kP, EN.gs])
      rw [if_pos (by rw [e]; rfl)] at ep
      exact ⟨_, _, _, by rw [← row_snoc, ep], rfl⟩
  · intro acc e hI
    obtain ⟨x6, x7, x8, ha, he⟩ := hI
    subst ha he
    rw [List.length_map, List.length_range]
    (repeat fail); (try simp only [EN.fz, EN.ss, EN.back_e, EN.back_v, EN.back_mp, EN.back_ml, EN.back_md, EN.back_mn, EN.mask_e, EN.mask_p, EN.mask_l, EN.mask_d, EN.mask_n, EN.isP, EN.lstO, EN.allP, EN.wipeT, EN.restT, EN.kP, EN.gs])
    exact k
theorem p_kept {m : Nat} {Q : OV → EN.Env → Prop} (k : Q (.l (kept.map Val.str)) []) : Wc (run D gl (m + 1) 10 []) Q := by
  apply u_law_kept
  unfold b_law_kept
  (repeat fail); (try simp only [EN.fz, EN.ss, EN.back_e, EN.back_v, EN.back_mp, EN.back_ml, EN.back_md, EN.back_mn, EN.mask_e, EN.mask_p, EN.mask_l, EN.mask_d, EN.mask_n, EN.isP, EN.lstO, EN.allP, EN.wipeT, EN.restT, EN.kP, EN.gs])
  refine wp_catL (sizeLine_ge (by decide)) ?_
  (repeat fail); (try simp only [EN.fz, EN.ss, EN.back_e, EN.back_v, EN.back_mp, EN.back_ml, EN.back_md, EN.back_mn, EN.mask_e, EN.mask_p, EN.mask_l, EN.mask_d, EN.mask_n, EN.isP, EN.lstO, EN.allP, EN.wipeT, EN.restT, EN.kP, EN.gs])
  exact k
/-- a name under way -/
def NmW (s : Str) : Prop := 1 ≤ s.length ∧ s.length ≤ 8 ∧ ∀ c ∈ chs s, 97 ≤ c ∧ c ≤ 122
theorem one_ch {c : Nat} (h : c ∈ chs abc) : ∀ d ∈ chs ⟨#[c]⟩, 97 ≤ d ∧ d ≤ 122 := fun d hd => by
  have : d = c := by simpa [chs] using hd
  rw [this]; exact abc_in c h
theorem p_namesN {m : Nat} {cells : List Int} {a : Int} {Q : OV → EN.Env → Prop} (hc : 0 < ((cells.map Val.int).length : Int)) (k : ∀ (ss : List Str) (cells' : List Int) a', 1 ≤ ss.length → ss.length ≤ 3 → ss.Nodup → (∀ s ∈ ss, NameOk s) → 0 < ((cells'.map Val.int).length : Int) → Q (.l (ss.map Val.str)) [some (.nd [.l (cells'.map Val.int), .p (.int a')])]) : Wc (run D gl (m + 2) 11 [.nd [.l (cells.map Val.int), .p (.int a)]]) Q := by
  apply u_law_names
  unfold b_law_names
  (repeat fail); (try simp only [EN.fz, EN.ss, EN.back_e, EN.back_v, EN.back_mp, EN.back_ml, EN.back_md, EN.back_mn, EN.mask_e, EN.mask_p, EN.mask_l, EN.mask_d, EN.mask_n, EN.isP, EN.lstO, EN.allP, EN.wipeT, EN.restT, EN.kP, EN.gs])
  refine p_take hc (by decide) (by decide) fun c1 cells1 h1 h2 hc1 => ?_
  (repeat fail); (try simp only [EN.fz, EN.ss, EN.back_e, EN.back_v, EN.back_mp, EN.back_ml, EN.back_md, EN.back_mn, EN.mask_e, EN.mask_p, EN.mask_l, EN.mask_d, EN.mask_n, EN.isP, EN.lstO, EN.allP, EN.wipeT, EN.restT, EN.kP, EN.gs])
  refine w_lcLoop (fun i acc e => ∃ (bs : List Str) (cells' : List Int) (a' : Int) (x2 : Option OV), acc = bs.map Val.str ∧ bs.length = i ∧ (∀ b ∈ bs, b.length = 1 ∧ ∀ c ∈ chs b, 97 ≤ c ∧ c ≤ 122) ∧ 0 < ((cells'.map Val.int).length : Int) ∧ e = [some (.nd [.l (cells'.map Val.int), .p (.int a')]), some (.p (.str abc)), x2, none, none, none, none, none, none]) ⟨[], _, _, _, rfl, rfl, fun _ z => (nomatch z), hc1, rfl⟩ ?_ ?_
  · intro i x acc e hx1 hI
    obtain ⟨bs, cells', a', x2, ha, hs, hb1, hc', he⟩ := hI
    subst ha he
    obtain ⟨hi, rfl⟩ := rng_get _ _ _ _ hx1
    refine wp_put (by rfl) ?_
    (repeat fail); (try simp only [EN.fz, EN.ss, EN.back_e, EN.back_v, EN.back_mp, EN.back_ml, EN.back_md, EN.back_mn, EN.mask_e, EN.mask_p, EN.mask_l, EN.mask_d, EN.mask_n, EN.isP, EN.lstO, EN.allP, EN.wipeT, EN.restT, EN.kP, EN.gs])
    refine ⟨size_lt (by rw [List.length_map]; omega), ?_⟩
    (repeat fail); (try simp only [EN.fz, EN.ss, EN.back_e, EN.back_v, EN.back_mp, EN.back_ml, EN.back_md, EN.back_mn, EN.mask_e, EN.mask_p, EN.mask_l, EN.mask_d, EN.mask_n, EN.isP, EN.lstO, EN.allP, EN.wipeT, EN.restT, EN.kP, EN.gs])
    refine p_take hc' (by decide) (by decide) fun c cells2 h3 h4 hc2 => ?_
    (repeat fail); (try simp only [EN.fz, EN.ss, EN.back_e, EN.back_v, EN.back_mp, EN.back_ml, EN.back_md, EN.back_mn, EN.mask_e, EN.mask_p, EN.mask_l, EN.mask_d, EN.mask_n, EN.isP, EN.lstO, EN.allP, EN.wipeT, EN.restT, EN.kP, EN.gs])
    refine str_ixC (by decide) (by omega) (show c < 26 by omega) fun d hd => ?_
    (repeat fail); (try simp only [EN.fz, EN.ss, EN.back_e, EN.back_v, EN.back_mp, EN.back_ml, EN.back_md, EN.back_mn, EN.mask_e, EN.mask_p, EN.mask_l, EN.mask_d, EN.mask_n, EN.isP, EN.lstO, EN.allP, EN.wipeT, EN.restT, EN.kP, EN.gs])
    refine ⟨bs ++ [⟨#[d]⟩], _, _, _, by rw [List.map_append]; rfl, by simp [hs], fun b hm => ?_, hc2, rfl⟩
    rcases List.mem_append.mp hm with hm | hm
    · exact hb1 b hm
    · rw [List.mem_singleton.mp hm]
      exact ⟨rfl, one_ch (mem_get hd)⟩
  · intro acc e hI
    obtain ⟨bs, cells', a', x2, ha, hs, hb1, hc', he⟩ := hI
    subst ha he
    rw [rng_len] at hs
    (repeat fail); (try simp only [EN.fz, EN.ss, EN.back_e, EN.back_v, EN.back_mp, EN.back_ml, EN.back_md, EN.back_mn, EN.mask_e, EN.mask_p, EN.mask_l, EN.mask_d, EN.mask_n, EN.isP, EN.lstO, EN.allP, EN.wipeT, EN.restT, EN.kP, EN.gs])
    refine join_oneC (fun b hb => (hb1 b hb).1) (by omega) fun hbase => ?_
    have hbc : ∀ c ∈ chs (PySem.Txt.join (Str.ofString "") bs), 97 ≤ c ∧ c ≤ 122 := fun c hc => by
      rw [chs_join] at hc
      obtain ⟨l, hl, hcl⟩ := List.mem_flatten.mp hc
      obtain ⟨b, hb, rfl⟩ := List.mem_map.mp hl
      exact (hb1 b hb).2 c hcl
    have hin : ∀ c ∈ chs (PySem.Txt.join (Str.ofString "") bs), c ∈ chs abc := fun c hc => by
      have h := hbc c hc
      have : ∀ c, c < 123 → 97 ≤ c → c ∈ chs abc := by decide +kernel
      exact this c (by omega) h.1
    generalize PySem.Txt.join (Str.ofString "") bs = base at *
    have hb8 : 1 ≤ base.length ∧ base.length ≤ 8 := by omega
    (repeat fail); (try simp only [EN.fz, EN.ss, EN.back_e, EN.back_v, EN.back_mp, EN.back_ml, EN.back_md, EN.back_mn, EN.mask_e, EN.mask_p, EN.mask_l, EN.mask_d, EN.mask_n, EN.isP, EN.lstO, EN.allP, EN.wipeT, EN.restT, EN.kP, EN.gs])
    refine str_len (by omega) ?_
    (repeat fail); (try simp only [EN.fz, EN.ss, EN.back_e, EN.back_v, EN.back_mp, EN.back_ml, EN.back_md, EN.back_mn, EN.mask_e, EN.mask_p, EN.mask_l, EN.mask_d, EN.mask_n, EN.isP, EN.lstO, EN.allP, EN.wipeT, EN.restT, EN.kP, EN.gs])
    refine p_take hc' (by omega) (log_small (by omega) (by omega)) fun at_ cells3 h3 h4 hc3 => ?_
    (repeat fail); (try simp only [EN.fz, EN.ss, EN.back_e, EN.back_v, EN.back_mp, EN.back_ml, EN.back_md, EN.back_mn, EN.mask_e, EN.mask_p, EN.mask_l, EN.mask_d, EN.mask_n, EN.isP, EN.lstO, EN.allP, EN.wipeT, EN.restT, EN.kP, EN.gs])
    refine p_take hc3 (by decide) (by decide) fun c3 cells4 h5 h6 hc4 => ?_
    (repeat fail); (try simp only [EN.fz, EN.ss, EN.back_e, EN.back_v, EN.back_mp, EN.back_ml, EN.back_md, EN.back_mn, EN.mask_e, EN.mask_p, EN.mask_l, EN.mask_d, EN.mask_n, EN.isP, EN.lstO, EN.allP, EN.wipeT, EN.restT, EN.kP, EN.gs])
    refine w_loopR (fun i e => ∃ (ss : List Str) (cells' : List Int) (a' : Int) (x2 x6 x7 x8 : Option OV), ss.length = i ∧ ss.Nodup ∧ (∀ s ∈ ss, NameOk s) ∧ 0 < ((cells'.map Val.int).length : Int) ∧ e = [some (.nd [.l (cells'.map Val.int), .p (.int a')]), some (.p (.str abc)), x2, some (.p (.str base)), some (.p (.int at_)), some (.l (ss.map Val.str)), x6, x7, x8]) rfl ⟨[], _, _, _, _, _, _, rfl, List.nodup_nil, fun _ z => (nomatch z), hc4, rfl⟩ ?_ ?_
    · intro i e hi hI
      obtain ⟨ss, cells5, a5, x2', x6, x7, x8, hs5, nd, nok, hc5, he⟩ := hI
      subst he
      have hi3 : i < 3 := by omega
      (repeat fail); (try simp only [EN.fz, EN.ss, EN.back_e, EN.back_v, EN.back_mp, EN.back_ml, EN.back_md, EN.back_mn, EN.mask_e, EN.mask_p, EN.mask_l, EN.mask_d, EN.mask_n, EN.isP, EN.lstO, EN.allP, EN.wipeT, EN.restT, EN.kP, EN.gs])
      refine str_ixC (by omega) (by omega) (by omega) fun d hd => ?_
      (repeat fail); (try simp only [EN.fz, EN.ss, EN.back_e, EN.back_v, EN.back_mp, EN.back_ml, EN.back_md, EN.back_mn, EN.mask_e, EN.mask_p, EN.mask_l, EN.mask_d, EN.mask_n, EN.isP, EN.lstO, EN.allP, EN.wipeT, EN.restT, EN.kP, EN.gs])
      obtain ⟨pl, hpl, hp0, hp1⟩ := abc_idx d (hin d (mem_get hd))
      refine Wp.of hpl ?_
      (repeat fail); (try simp only [EN.fz, EN.ss, EN.back_e, EN.back_v, EN.back_mp, EN.back_ml, EN.back_md, EN.back_mn, EN.mask_e, EN.mask_p, EN.mask_l, EN.mask_d, EN.mask_n, EN.isP, EN.lstO, EN.allP, EN.wipeT, EN.restT, EN.kP, EN.gs])
      have hq0 : 0 ≤ (pl + ((5 : Nat) : Int) * (0 + (i : Int))) % ((26 : Nat) : Int) := by omega
      have hq1 : (pl + ((5 : Nat) : Int) * (0 + (i : Int))) % ((26 : Nat) : Int) < 26 := by omega
      generalize pl + ((5 : Nat) : Int) * (0 + (i : Int)) = pp at hq0 hq1
      refine str_cutC (by omega) fun hk1 => ?_
      (repeat fail); (try simp only [EN.fz, EN.ss, EN.back_e, EN.back_v, EN.back_mp, EN.back_ml, EN.back_md, EN.back_mn, EN.mask_e, EN.mask_p, EN.mask_l, EN.mask_d, EN.mask_n, EN.isP, EN.lstO, EN.allP, EN.wipeT, EN.restT, EN.kP, EN.gs])
      refine str_ixC (by decide) hq0 hq1 fun d2 hd2 => ?_
      (repeat fail); (try simp only [EN.fz, EN.ss, EN.back_e, EN.back_v, EN.back_mp, EN.back_ml, EN.back_md, EN.back_mn, EN.mask_e, EN.mask_p, EN.mask_l, EN.mask_d, EN.mask_n, EN.isP, EN.lstO, EN.allP, EN.wipeT, EN.restT, EN.kP, EN.gs])
      have l1 : (cutS base none (some at_)).length = at_.toNat := cut_to h3 h4
      refine str_addC (by omega) (by show (1 : Nat) ≤ _; decide) ?_
      (repeat fail); (try simp only [EN.fz, EN.ss, EN.back_e, EN.back_v, EN.back_mp, EN.back_ml, EN.back_md, EN.back_mn, EN.mask_e, EN.mask_p, EN.mask_l, EN.mask_d, EN.mask_n, EN.isP, EN.lstO, EN.allP, EN.wipeT, EN.restT, EN.kP, EN.gs])
      refine str_cutC (by omega) fun hk2 => ?_
      (repeat fail); (try simp only [EN.fz, EN.ss, EN.back_e, EN.back_v, EN.back_mp, EN.back_ml, EN.back_md, EN.back_mn, EN.mask_e, EN.mask_p, EN.mask_l, EN.mask_d, EN.mask_n, EN.isP, EN.lstO, EN.allP, EN.wipeT, EN.restT, EN.kP, EN.gs])
      have l2 : (cutS base (some (at_ + ((1 : Nat) : Int))) none).length = base.length - (at_ + ((1 : Nat) : Int)).toNat := cut_from (by omega) (by omega)
      have l3 : (cutS base none (some at_) ++ ⟨#[d2]⟩ : Str).length = at_.toNat + 1 := by rw [← chs_len, chs_add, List.length_append, chs_len, l1]; rfl
      refine str_addC (by omega) (by omega) ?_
      (repeat fail); (try simp only [EN.fz, EN.ss, EN.back_e, EN.back_v, EN.back_mp, EN.back_ml, EN.back_md, EN.back_mn, EN.mask_e, EN.mask_p, EN.mask_l, EN.mask_d, EN.mask_n, EN.isP, EN.lstO, EN.allP, EN.wipeT, EN.restT, EN.kP, EN.gs])
      have w0 : NmW (cutS base none (some at_) ++ ⟨#[d2]⟩ ++ cutS base (some (at_ + ((1 : Nat) : Int))) none) := by
        have l4 : (cutS base none (some at_) ++ ⟨#[d2]⟩ ++ cutS base (some (at_ + ((1 : Nat) : Int))) none : Str).length = at_.toNat + 1 + (base.length - (at_ + ((1 : Nat) : Int)).toNat) := by rw [← chs_len, chs_add, List.length_append, chs_len, chs_len, l3, l2]
        refine ⟨by omega, by omega, fun c hc => ?_⟩
        rw [chs_add, chs_add] at hc
        rcases List.mem_append.mp hc with hc | hc
        · rcases List.mem_append.mp hc with hc | hc
          · exact hbc c (chs_cut_mem hc)
          · exact one_ch (mem_get hd2) c hc
        · exact hbc c (chs_cut_mem hc)
      generalize cutS base none (some at_) ++ ⟨#[d2]⟩ ++ cutS base (some (at_ + ((1 : Nat) : Int))) none = n0 at w0
      refine if_mid (fun e => ∃ (n1 : Str) (cells' : List Int) (a' : Int) (x2 x6 x8 : Option OV), NmW n1 ∧ 0 < ((cells'.map Val.int).length : Int) ∧ e = [some (.nd [.l (cells'.map Val.int), .p (.int a')]), some (.p (.str abc)), x2, some (.p (.str base)), some (.p (.int at_)), some (.l (ss.map Val.str)), x6, some (.p (.str n1)), x8]) (fun g => ?_) (fun g => ?_) ?_
      · (repeat fail); (try simp only [EN.fz, EN.ss, EN.back_e, EN.back_v, EN.back_mp, EN.back_ml, EN.back_md, EN.back_mn, EN.mask_e, EN.mask_p, EN.mask_l, EN.mask_d, EN.mask_n, EN.isP, EN.lstO, EN.allP, EN.wipeT, EN.restT, EN.kP, EN.gs])
        refine p_take hc5 (by decide) (by decide) fun c6 cells6 h7 h8 hc6 => ?_
        (repeat fail); (try simp only [EN.fz, EN.ss, EN.back_e, EN.back_v, EN.back_mp, EN.back_ml, EN.back_md, EN.back_mn, EN.mask_e, EN.mask_p, EN.mask_l, EN.mask_d, EN.mask_n, EN.isP, EN.lstO, EN.allP, EN.wipeT, EN.restT, EN.kP, EN.gs])
        refine str_ixC (by decide) h7 h8 fun d3 hd3 => ?_
        (repeat fail); (try simp only [EN.fz, EN.ss, EN.back_e, EN.back_v, EN.back_mp, EN.back_ml, EN.back_md, EN.back_mn, EN.mask_e, EN.mask_p, EN.mask_l, EN.mask_d, EN.mask_n, EN.isP, EN.lstO, EN.allP, EN.wipeT, EN.restT, EN.kP, EN.gs])
        refine str_addC (by have := w0.2.1; omega) (by show (1 : Nat) ≤ _; decide) ?_
        (repeat fail); (try simp only [EN.fz, EN.ss, EN.back_e, EN.back_v, EN.back_mp, EN.back_ml, EN.back_md, EN.back_mn, EN.mask_e, EN.mask_p, EN.mask_l, EN.mask_d, EN.mask_n, EN.isP, EN.lstO, EN.allP, EN.wipeT, EN.restT, EN.kP, EN.gs])
        refine str_cutC (by have := w0.2.1; omega) fun hk3 => ?_
        (repeat fail); (try simp only [EN.fz, EN.ss, EN.back_e, EN.back_v, EN.back_mp, EN.back_ml, EN.back_md, EN.back_mn, EN.mask_e, EN.mask_p, EN.mask_l, EN.mask_d, EN.mask_n, EN.isP, EN.lstO, EN.allP, EN.wipeT, EN.restT, EN.kP, EN.gs])
        refine str_len (by have := w0.2.1; omega) ?_
        (repeat fail); (try simp only [EN.fz, EN.ss, EN.back_e, EN.back_v, EN.back_mp, EN.back_ml, EN.back_md, EN.back_mn, EN.mask_e, EN.mask_p, EN.mask_l, EN.mask_d, EN.mask_n, EN.isP, EN.lstO, EN.allP, EN.wipeT, EN.restT, EN.kP, EN.gs])
        have hw := w0
        obtain ⟨w1, w2, w3⟩ := w0
        by_cases h8 : (n0.length : Int) = ((8 : Nat) : Int)
        · rw [show decide ((n0.length : Int) = ((8 : Nat) : Int)) = true from decide_eq_true h8]
          (repeat fail); (try simp only [EN.fz, EN.ss, EN.back_e, EN.back_v, EN.back_mp, EN.back_ml, EN.back_md, EN.back_mn, EN.mask_e, EN.mask_p, EN.mask_l, EN.mask_d, EN.mask_n, EN.isP, EN.lstO, EN.allP, EN.wipeT, EN.restT, EN.kP, EN.gs])
          have l5 : (cutS n0 none (some (-((1 : Nat) : Int)))).length = n0.length - 1 := cut_less (by omega)
          refine ⟨by trivial, _, _, _, _, _, _, ⟨?_, ?_, fun c hc => w3 c (chs_cut_mem hc)⟩, hc6, rfl⟩
          · omega
          · omega
        · rw [show decide ((n0.length : Int) = ((8 : Nat) : Int)) = false from decide_eq_false h8]
          (repeat fail); (try simp only [EN.fz, EN.ss, EN.back_e, EN.back_v, EN.back_mp, EN.back_ml, EN.back_md, EN.back_mn, EN.mask_e, EN.mask_p, EN.mask_l, EN.mask_d, EN.mask_n, EN.isP, EN.lstO, EN.allP, EN.wipeT, EN.restT, EN.kP, EN.gs])
          have l5 : (n0 ++ ⟨#[d3]⟩ : Str).length = n0.length + 1 := by rw [← chs_len, chs_add, List.length_append, chs_len]; rfl
          refine ⟨by trivial, _, _, _, _, _, _, ⟨?_, ?_, fun c hc => ?_⟩, hc6, rfl⟩
          · omega
          · omega
          · rw [chs_add] at hc
            rcases List.mem_append.mp hc with hc | hc
            · exact w3 c hc
            · exact one_ch (mem_get hd3) c hc
      · (repeat fail); (try simp only [EN.fz, EN.ss, EN.back_e, EN.back_v, EN.back_mp, EN.back_ml, EN.back_md, EN.back_mn, EN.mask_e, EN.mask_p, EN.mask_l, EN.mask_d, EN.mask_n, EN.isP, EN.lstO, EN.allP, EN.wipeT, EN.restT, EN.kP, EN.gs])
        exact ⟨by trivial, _, _, _, _, _, _, w0, hc5, rfl⟩
      · intro e hI
        obtain ⟨n1, cells6, a6, x2', x6, x8, w1, hc6, he⟩ := hI
        subst he
        (repeat fail); (try simp only [EN.fz, EN.ss, EN.back_e, EN.back_v, EN.back_mp, EN.back_ml, EN.back_md, EN.back_mn, EN.mask_e, EN.mask_p, EN.mask_l, EN.mask_d, EN.mask_n, EN.isP, EN.lstO, EN.allP, EN.wipeT, EN.restT, EN.kP, EN.gs])
        refine p_take hc6 (by decide) (by decide) fun c7 cells7 h7 h8 hc7 => ?_
        (repeat fail); (try simp only [EN.fz, EN.ss, EN.back_e, EN.back_v, EN.back_mp, EN.back_ml, EN.back_md, EN.back_mn, EN.mask_e, EN.mask_p, EN.mask_l, EN.mask_d, EN.mask_n, EN.isP, EN.lstO, EN.allP, EN.wipeT, EN.restT, EN.kP, EN.gs])
        refine if_mid (fun e => ∃ (n1 : Str) (cells' : List Int) (a' : Int) (x2 x6 x8 : Option OV), NmW n1 ∧ 0 < ((cells'.map Val.int).length : Int) ∧ e = [some (.nd [.l (cells'.map Val.int), .p (.int a')]), some (.p (.str abc)), x2, some (.p (.str base)), some (.p (.int at_)), some (.l (ss.map Val.str)), x6, some (.p (.str n1)), x8]) (fun g => ?_) (fun g => ?_) ?_
        · (repeat fail); (try simp only [EN.fz, EN.ss, EN.back_e, EN.back_v, EN.back_mp, EN.back_ml, EN.back_md, EN.back_mn, EN.mask_e, EN.mask_p, EN.mask_l, EN.mask_d, EN.mask_n, EN.isP, EN.lstO, EN.allP, EN.wipeT, EN.restT, EN.kP, EN.gs])
          refine p_kept ?_
          (repeat fail); (try simp only [EN.fz, EN.ss, EN.back_e, EN.back_v, EN.back_mp, EN.back_ml, EN.back_md, EN.back_mn, EN.mask_e, EN.mask_p, EN.mask_l, EN.mask_d, EN.mask_n, EN.isP, EN.lstO, EN.allP, EN.wipeT, EN.restT, EN.kP, EN.gs])
          refine p_take hc7 (by decide) (by decide) fun c8 cells8 h9 h10 hc8 => ?_
          (repeat fail); (try simp only [EN.fz, EN.ss, EN.back_e, EN.back_v, EN.back_mp, EN.back_ml, EN.back_md, EN.back_mn, EN.mask_e, EN.mask_p, EN.mask_l, EN.mask_d, EN.mask_n, EN.isP, EN.lstO, EN.allP, EN.wipeT, EN.restT, EN.kP, EN.gs])
          refine wp_atS h9 h10 fun kw hkw => ?_
          (repeat fail); (try simp only [EN.fz, EN.ss, EN.back_e, EN.back_v, EN.back_mp, EN.back_ml, EN.back_md, EN.back_mn, EN.mask_e, EN.mask_p, EN.mask_l, EN.mask_d, EN.mask_n, EN.isP, EN.lstO, EN.allP, EN.wipeT, EN.restT, EN.kP, EN.gs])
          refine p_take hc8 (by decide) (by decide) fun c9 cells9 h11 h12 hc9 => ?_
          (repeat fail); (try simp only [EN.fz, EN.ss, EN.back_e, EN.back_v, EN.back_mp, EN.back_ml, EN.back_md, EN.back_mn, EN.mask_e, EN.mask_p, EN.mask_l, EN.mask_d, EN.mask_n, EN.isP, EN.lstO, EN.allP, EN.wipeT, EN.restT, EN.kP, EN.gs])
          refine str_ixC (by decide) h11 h12 fun d4 hd4 => ?_
          (repeat fail); (try simp only [EN.fz, EN.ss, EN.back_e, EN.back_v, EN.back_mp, EN.back_ml, EN.back_md, EN.back_mn, EN.mask_e, EN.mask_p, EN.mask_l, EN.mask_d, EN.mask_n, EN.isP, EN.lstO, EN.allP, EN.wipeT, EN.restT, EN.kP, EN.gs])
          obtain ⟨k1, k2, k3⟩ := kept_ok kw hkw
          refine str_addC (by omega) (by show (1 : Nat) ≤ _; decide) ?_
          (repeat fail); (try simp only [EN.fz, EN.ss, EN.back_e, EN.back_v, EN.back_mp, EN.back_ml, EN.back_md, EN.back_mn, EN.mask_e, EN.mask_p, EN.mask_l, EN.mask_d, EN.mask_n, EN.isP, EN.lstO, EN.allP, EN.wipeT, EN.restT, EN.kP, EN.gs])
          have l5 : (kw ++ ⟨#[d4]⟩ : Str).length = kw.length + 1 := by rw [← chs_len, chs_add, List.length_append, chs_len]; rfl
          refine ⟨by trivial, _, _, _, _, _, _, ⟨?_, ?_, fun c hc => ?_⟩, hc9, rfl⟩
          · omega
          · omega
          · rw [chs_add] at hc
            rcases List.mem_append.mp hc with hc | hc
            · exact k3 c hc
            · exact one_ch (mem_get hd4) c hc
        · (repeat fail); (try simp only [EN.fz, EN.ss, EN.back_e, EN.back_v, EN.back_mp, EN.back_ml, EN.back_md, EN.back_mn, EN.mask_e, EN.mask_p, EN.mask_l, EN.mask_d, EN.mask_n, EN.isP, EN.lstO, EN.allP, EN.wipeT, EN.restT, EN.kP, EN.gs])
          exact ⟨by trivial, _, _, _, _, _, _, w1, hc7, rfl⟩
        · intro e hI
          obtain ⟨n2, cells8, a8, x2', x6, x8, w2, hc8, he⟩ := hI
          subst he
          (repeat fail); (try simp only [EN.fz, EN.ss, EN.back_e, EN.back_v, EN.back_mp, EN.back_ml, EN.back_md, EN.back_mn, EN.mask_e, EN.mask_p, EN.mask_l, EN.mask_d, EN.mask_n, EN.isP, EN.lstO, EN.allP, EN.wipeT, EN.restT, EN.kP, EN.gs])
          refine p_kept ?_
          (repeat fail); (try simp only [EN.fz, EN.ss, EN.back_e, EN.back_v, EN.back_mp, EN.back_ml, EN.back_md, EN.back_mn, EN.mask_e, EN.mask_p, EN.mask_l, EN.mask_d, EN.mask_n, EN.isP, EN.lstO, EN.allP, EN.wipeT, EN.restT, EN.kP, EN.gs])
          refine wp_catL (sizeLine_ge (by rw [List.length_map, List.length_map]; have : kept.length = 20 := rfl; omega)) ?_
          rw [← List.map_append]
          (repeat fail); (try simp only [EN.fz, EN.ss, EN.back_e, EN.back_v, EN.back_mp, EN.back_ml, EN.back_md, EN.back_mn, EN.mask_e, EN.mask_p, EN.mask_l, EN.mask_d, EN.mask_n, EN.isP, EN.lstO, EN.allP, EN.wipeT, EN.restT, EN.kP, EN.gs])
          refine wp_inS ?_
          (repeat fail); (try simp only [EN.fz, EN.ss, EN.back_e, EN.back_v, EN.back_mp, EN.back_ml, EN.back_md, EN.back_mn, EN.mask_e, EN.mask_p, EN.mask_l, EN.mask_d, EN.mask_n, EN.isP, EN.lstO, EN.allP, EN.wipeT, EN.restT, EN.kP, EN.gs])
          refine if_mid (fun e => ∃ (n1 : Str) (x2 x6 x8 : Option OV), NameOk n1 ∧ n1 ∉ ss ∧ e = [some (.nd [.l (cells8.map Val.int), .p (.int a8)]), some (.p (.str abc)), x2, some (.p (.str base)), some (.p (.int at_)), some (.l (ss.map Val.str)), x6, some (.p (.str n1)), x8]) (fun g => ?_) (fun g => ?_) ?_
          · (repeat fail); (try simp only [EN.fz, EN.ss, EN.back_e, EN.back_v, EN.back_mp, EN.back_ml, EN.back_md, EN.back_mn, EN.mask_e, EN.mask_p, EN.mask_l, EN.mask_d, EN.mask_n, EN.isP, EN.lstO, EN.allP, EN.wipeT, EN.restT, EN.kP, EN.gs])
            refine w_lcLoop (fun i acc e => ∃ (x8 : Option OV), acc = ((cands.take i).filter (fun s => !decide (s ∈ ss))).map Val.str ∧ e = [some (.nd [.l (cells8.map Val.int), .p (.int a8)]), some (.p (.str abc)), x2', some (.p (.str base)), some (.p (.int at_)), some (.l (ss.map Val.str)), x6, some (.p (.str n2)), x8]) ⟨_, rfl, rfl⟩ ?_ ?_
            · intro i x acc e hx hI
              obtain ⟨x8, ha, he⟩ := hI
              subst ha he
              have hx : (cands.map Val.str)[i]? = some x := hx
              obtain ⟨s, hs, rfl⟩ := map_get hx
              refine wp_put (by rfl) ?_
              (repeat fail); (try simp only [EN.fz, EN.ss, EN.back_e, EN.back_v, EN.back_mp, EN.back_ml, EN.back_md, EN.back_mn, EN.mask_e, EN.mask_p, EN.mask_l, EN.mask_d, EN.mask_n, EN.isP, EN.lstO, EN.allP, EN.wipeT, EN.restT, EN.kP, EN.gs])
              refine wp_notinS ?_
              (repeat fail); (try simp only [EN.fz, EN.ss, EN.back_e, EN.back_v, EN.back_mp, EN.back_ml, EN.back_md, EN.back_mn, EN.mask_e, EN.mask_p, EN.mask_l, EN.mask_d, EN.mask_n, EN.isP, EN.lstO, EN.allP, EN.wipeT, EN.restT, EN.kP, EN.gs])
              refine ⟨fun g => ?_, fun g => ?_⟩
              · refine ⟨size_lt ?_, ?_⟩
                · rw [List.length_map]
                  refine Nat.le_trans (List.length_filter_le _ _) ?_
                  rw [List.length_take]
                  have : cands.length = 4 := rfl
                  omega
                (repeat fail); (try simp only [EN.fz, EN.ss, EN.back_e, EN.back_v, EN.back_mp, EN.back_ml, EN.back_md, EN.back_mn, EN.mask_e, EN.mask_p, EN.mask_l, EN.mask_d, EN.mask_n, EN.isP, EN.lstO, EN.allP, EN.wipeT, EN.restT, EN.kP, EN.gs])
                refine ⟨_, ?_, rfl⟩
                rw [List.take_add_one, hs]
                simp [List.filter_append, g]
              · refine ⟨_, ?_, rfl⟩
                rw [List.take_add_one, hs]
                simp [List.filter_append, g]
            · intro acc e hI
              obtain ⟨x8, ha, he⟩ := hI
              subst ha he
              (repeat fail); (try simp only [EN.fz, EN.ss, EN.back_e, EN.back_v, EN.back_mp, EN.back_ml, EN.back_md, EN.back_mn, EN.mask_e, EN.mask_p, EN.mask_l, EN.mask_d, EN.mask_n, EN.isP, EN.lstO, EN.allP, EN.wipeT, EN.restT, EN.kP, EN.gs])
              obtain ⟨s, rest, hsr⟩ := cand_ex (ss := ss) (by omega)
              have hms : s ∈ cands.filter (fun s => !decide (s ∈ ss)) := by rw [hsr]; simp
              rw [show cands.take ([Val.str "qa", .str "rb", .str "sc", .str "td"] : List Val).length = cands from rfl, hsr]
              (repeat fail); (try simp only [EN.fz, EN.ss, EN.back_e, EN.back_v, EN.back_mp, EN.back_ml, EN.back_md, EN.back_mn, EN.mask_e, EN.mask_p, EN.mask_l, EN.mask_d, EN.mask_n, EN.isP, EN.lstO, EN.allP, EN.wipeT, EN.restT, EN.kP, EN.gs])
              obtain ⟨m1, m2⟩ := List.mem_filter.mp hms
              exact ⟨by trivial, _, _, _, _, cands_ok s m1, by simpa using m2, rfl⟩
          · (repeat fail); (try simp only [EN.fz, EN.ss, EN.back_e, EN.back_v, EN.back_mp, EN.back_ml, EN.back_md, EN.back_mn, EN.mask_e, EN.mask_p, EN.mask_l, EN.mask_d, EN.mask_n, EN.isP, EN.lstO, EN.allP, EN.wipeT, EN.restT, EN.kP, EN.gs])
            have g := of_decide_eq_false g
            exact ⟨by trivial, _, _, _, _, ⟨fun h => g (by simp [h]), w2.1, w2.2.1, w2.2.2⟩, fun h => g (by simp [h]), rfl⟩
          · intro e hI
            obtain ⟨n3, x2', x6, x8, ok3, ni3, he⟩ := hI
            subst he
            (repeat fail); (try simp only [EN.fz, EN.ss, EN.back_e, EN.back_v, EN.back_mp, EN.back_ml, EN.back_md, EN.back_mn, EN.mask_e, EN.mask_p, EN.mask_l, EN.mask_d, EN.mask_n, EN.isP, EN.lstO, EN.allP, EN.wipeT, EN.restT, EN.kP, EN.gs])
            refine ⟨_, rfl, size_lt (by rw [List.length_map]; omega), ?_⟩
            (repeat fail); (try simp only [EN.fz, EN.ss, EN.back_e, EN.back_v, EN.back_mp, EN.back_ml, EN.back_md, EN.back_mn, EN.mask_e, EN.mask_p, EN.mask_l, EN.mask_d, EN.mask_n, EN.isP, EN.lstO, EN.allP, EN.wipeT, EN.restT, EN.kP, EN.gs])
            refine ⟨ss ++ [n3], _, _, _, _, _, _, by simp [hs5], ?_, fun s hs => ?_, hc8, by rw [List.map_append]; rfl⟩
            · rw [List.nodup_append]
              exact ⟨nd, by simp, fun a ha b hb e => by
                rw [List.mem_singleton] at hb
                subst hb e
                exact ni3 ha⟩
            · rcases List.mem_append.mp hs with hs | hs
              · exact nok s hs
              · rw [List.mem_singleton.mp hs]; exact ok3
    · intro e hI
      obtain ⟨ss, cells5, a5, x2', x6, x7, x8, hs5, nd, nok, hc5, he⟩ := hI
      subst he
      (repeat fail); (try simp only [EN.fz, EN.ss, EN.back_e, EN.back_v, EN.back_mp, EN.back_ml, EN.back_md, EN.back_mn, EN.mask_e, EN.mask_p, EN.mask_l, EN.mask_d, EN.mask_n, EN.isP, EN.lstO, EN.allP, EN.wipeT, EN.restT, EN.kP, EN.gs])
      exact k ss _ _ (by omega) (by omega) nd nok hc5
theorem rng_eq {X : Int} {n : Nat} {P : List Val → Prop} (h : X = (n : Int)) (hn : n ≤ 1000) (k : P (range 0 n)) : rngOk X ∧ P (range 0 X.toNat) := by
  subst h
  rw [Int.toNat_natCast]
  exact ⟨rng_ok (by omega) (by omega), k⟩
theorem many_u (o : U1) : ((1 : Nat) : Int) + b2z ([Val.str "and", .str "or", .str "odd", .str "add", .str "sub", .str "pick"].any fun y => feq y (.str o.w)) + b2z (decide (o.w = ("pick" : Str))) = ((1 : Nat) : Int) := by cases o <;> decide +kernel
theorem many_b (o : U2) : ((1 : Nat) : Int) + b2z ([Val.str "and", .str "or", .str "odd", .str "add", .str "sub", .str "pick"].any fun y => feq y (.str o.w)) + b2z (decide (o.w = ("pick" : Str))) = ((2 : Nat) : Int) := by cases o <;> decide +kernel
theorem many_p : ((1 : Nat) : Int) + b2z ([Val.str "and", .str "or", .str "odd", .str "add", .str "sub", .str "pick"].any fun y => feq y (.str ("pick" : Str))) + b2z true = ((3 : Nat) : Int) := by decide +kernel
theorem rng1 : range 0 (((1 : Nat) : Int)).toNat = [.int 0] := rfl
theorem rng2 : range 0 (((2 : Nat) : Int)).toNat = [.int 0, .int (0 + 1)] := rfl
theorem rng3 : range 0 (((3 : Nat) : Int)).toNat = [.int 0, .int (0 + 1), .int (0 + 1 + 1)] := rfl
theorem p_lr_num {m : Nat} {n : Int} {w : Nat} {ys : List Val} {d : Val} {Q : OV → EN.Env → Prop} (hw : w ≤ 1000) (k : Q (.l ((row w (n % 2 ^ w)).map Val.int)) [none, some (.l ys), none, none]) : Wc (run D gl (m + 3) 19 [.p (.int n), .l ys, .p (.int (w : Int)), .p d]) Q := by
  with_reducible refine u_law_rows ?_
  unfold b_law_rows
  (repeat fail); (try simp only [EN.fz, EN.ss, EN.back_e, EN.back_v, EN.back_mp, EN.back_ml, EN.back_md, EN.back_mn, EN.mask_e, EN.mask_p, EN.mask_l, EN.mask_d, EN.mask_n, EN.isP, EN.lstO, EN.allP, EN.wipeT, EN.restT, EN.kP, EN.gs])
  with_reducible refine p_bitsL hw ?_
  (repeat fail); (try simp only [EN.fz, EN.ss, EN.back_e, EN.back_v, EN.back_mp, EN.back_ml, EN.back_md, EN.back_mn, EN.mask_e, EN.mask_p, EN.mask_l, EN.mask_d, EN.mask_n, EN.isP, EN.lstO, EN.allP, EN.wipeT, EN.restT, EN.kP, EN.gs])
  rw [← row_mod]
  exact k
theorem p_lr_nam {m : Nat} {s : Str} {w : Nat} {ys : List Val} {hs : List Str} {us : List Val} {i : Nat} {v : Int} {Q : OV → EN.Env → Prop} (hw : w ≤ 1000) (hn : hs.Nodup) (hk : s ∉ kept) (h1 : hs[i]? = some s) (h2 : us[i]? = some (.int v)) (k : Q (.l ((row w v).map Val.int)) [none, some (.l ys), none, none]) : Wc (run D gl (m + 3) 19 [.p (.str s), .l ys, .p (.int (w : Int)), .p (.dct (hs.map .str) us)]) Q := by
  with_reducible refine u_law_rows ?_
  unfold b_law_rows
  (repeat fail); (try simp only [EN.fz, EN.ss, EN.back_e, EN.back_v, EN.back_mp, EN.back_ml, EN.back_md, EN.back_mn, EN.mask_e, EN.mask_p, EN.mask_l, EN.mask_d, EN.mask_n, EN.isP, EN.lstO, EN.allP, EN.wipeT, EN.restT, EN.kP, EN.gs])
  with_reducible refine p_kept ?_
  (repeat fail); (try simp only [EN.fz, EN.ss, EN.back_e, EN.back_v, EN.back_mp, EN.back_ml, EN.back_md, EN.back_mn, EN.mask_e, EN.mask_p, EN.mask_l, EN.mask_d, EN.mask_n, EN.isP, EN.lstO, EN.allP, EN.wipeT, EN.restT, EN.kP, EN.gs])
  rw [feq_strs]
  refine if_ct (by simp [hk]) ?_
  (repeat fail); (try simp only [EN.fz, EN.ss, EN.back_e, EN.back_v, EN.back_mp, EN.back_ml, EN.back_md, EN.back_mn, EN.mask_e, EN.mask_p, EN.mask_l, EN.mask_d, EN.mask_n, EN.isP, EN.lstO, EN.allP, EN.wipeT, EN.restT, EN.kP, EN.gs])
  refine wp_vixD hn h1 h2 ?_
  (repeat fail); (try simp only [EN.fz, EN.ss, EN.back_e, EN.back_v, EN.back_mp, EN.back_ml, EN.back_md, EN.back_mn, EN.mask_e, EN.mask_p, EN.mask_l, EN.mask_d, EN.mask_n, EN.isP, EN.lstO, EN.allP, EN.wipeT, EN.restT, EN.kP, EN.gs])
  with_reducible refine p_bitsL hw ?_
  (repeat fail); (try simp only [EN.fz, EN.ss, EN.back_e, EN.back_v, EN.back_mp, EN.back_ml, EN.back_md, EN.back_mn, EN.mask_e, EN.mask_p, EN.mask_l, EN.mask_d, EN.mask_n, EN.isP, EN.lstO, EN.allP, EN.wipeT, EN.restT, EN.kP, EN.gs])
  exact k
theorem p_lr_u {m : Nat} {o : U1} {a : Int} {w : Nat} {ys : List Val} {d : Val} {Q : OV → EN.Env → Prop} (hw1 : 1 ≤ w) (hw : w ≤ 1000) (h0 : 0 ≤ a) (h1 : a < 2 ^ w) (k : Q (.l ((row w (o.f w a)).map Val.int)) [none, some (.l ys), none, none]) : Wc (run D gl (m + 3) 19 [.p (.str o.w), .l (ys ++ [.lst ((row w a).map Val.int)]), .p (.int (w : Int)), .p d]) Q := by
  with_reducible refine u_law_rows ?_
  unfold b_law_rows
  (repeat fail); (try simp only [EN.fz, EN.ss, EN.back_e, EN.back_v, EN.back_mp, EN.back_ml, EN.back_md, EN.back_mn, EN.mask_e, EN.mask_p, EN.mask_l, EN.mask_d, EN.mask_n, EN.isP, EN.lstO, EN.allP, EN.wipeT, EN.restT, EN.kP, EN.gs])
  with_reducible refine p_kept ?_
  (repeat fail); (try simp only [EN.fz, EN.ss, EN.back_e, EN.back_v, EN.back_mp, EN.back_ml, EN.back_md, EN.back_mn, EN.mask_e, EN.mask_p, EN.mask_l, EN.mask_d, EN.mask_n, EN.isP, EN.lstO, EN.allP, EN.wipeT, EN.restT, EN.kP, EN.gs])
  rw [feq_strs]
  refine if_cf (by simp [o.kp]) ?_
  (repeat fail); (try simp only [EN.fz, EN.ss, EN.back_e, EN.back_v, EN.back_mp, EN.back_ml, EN.back_md, EN.back_mn, EN.mask_e, EN.mask_p, EN.mask_l, EN.mask_d, EN.mask_n, EN.isP, EN.lstO, EN.allP, EN.wipeT, EN.restT, EN.kP, EN.gs])
  rw [many_u]
  (repeat fail); (try simp only [EN.fz, EN.ss, EN.back_e, EN.back_v, EN.back_mp, EN.back_ml, EN.back_md, EN.back_mn, EN.mask_e, EN.mask_p, EN.mask_l, EN.mask_d, EN.mask_n, EN.isP, EN.lstO, EN.allP, EN.wipeT, EN.restT, EN.kP, EN.gs])
  rw [rng1]
  (repeat fail); (try simp only [EN.fz, EN.ss, EN.back_e, EN.back_v, EN.back_mp, EN.back_ml, EN.back_md, EN.back_mn, EN.mask_e, EN.mask_p, EN.mask_l, EN.mask_d, EN.mask_n, EN.isP, EN.lstO, EN.allP, EN.wipeT, EN.restT, EN.kP, EN.gs])
  with_reducible refine w_lcC (wp_put (by with_unfolding_all rfl) ?_)
  (repeat fail); (try simp only [EN.fz, EN.ss, EN.back_e, EN.back_v, EN.back_mp, EN.back_ml, EN.back_md, EN.back_mn, EN.mask_e, EN.mask_p, EN.mask_l, EN.mask_d, EN.mask_n, EN.isP, EN.lstO, EN.allP, EN.wipeT, EN.restT, EN.kP, EN.gs])
  refine ⟨size_lt (by simp), ?_⟩
  (repeat fail); (try simp only [EN.fz, EN.ss, EN.back_e, EN.back_v, EN.back_mp, EN.back_ml, EN.back_md, EN.back_mn, EN.mask_e, EN.mask_p, EN.mask_l, EN.mask_d, EN.mask_n, EN.isP, EN.lstO, EN.allP, EN.wipeT, EN.restT, EN.kP, EN.gs])
  with_reducible refine w_popS (ys := ys) (v := .lst ((row w a).map Val.int)) (by with_unfolding_all rfl) ?_
  (repeat fail); (try simp only [EN.fz, EN.ss, EN.back_e, EN.back_v, EN.back_mp, EN.back_ml, EN.back_md, EN.back_mn, EN.mask_e, EN.mask_p, EN.mask_l, EN.mask_d, EN.mask_n, EN.isP, EN.lstO, EN.allP, EN.wipeT, EN.restT, EN.kP, EN.gs])
  with_reducible refine w_lcN ?_
  (repeat fail); (try simp only [EN.fz, EN.ss, EN.back_e, EN.back_v, EN.back_mp, EN.back_ml, EN.back_md, EN.back_mn, EN.mask_e, EN.mask_p, EN.mask_l, EN.mask_d, EN.mask_n, EN.isP, EN.lstO, EN.allP, EN.wipeT, EN.restT, EN.kP, EN.gs])
  simp only [List.nil_append, List.cons_append]
  with_reducible refine p_madeL1 hw1 hw h0 h1 ?_
  (repeat fail); (try simp only [EN.fz, EN.ss, EN.back_e, EN.back_v, EN.back_mp, EN.back_ml, EN.back_md, EN.back_mn, EN.mask_e, EN.mask_p, EN.mask_l, EN.mask_d, EN.mask_n, EN.isP, EN.lstO, EN.allP, EN.wipeT, EN.restT, EN.kP, EN.gs])
  exact k
theorem p_lr_b {m : Nat} {o : U2} {a b : Int} {w : Nat} {ys : List Val} {d : Val} {Q : OV → EN.Env → Prop} (hw : w ≤ 1000) (h0 : 0 ≤ a) (h1 : 0 ≤ b) (k : Q (.l ((row w (o.f w a b)).map Val.int)) [none, some (.l ys), none, none]) : Wc (run D gl (m + 3) 19 [.p (.str o.w), .l (ys ++ [.lst ((row w b).map Val.int)] ++ [.lst ((row w a).map Val.int)]), .p (.int (w : Int)), .p d]) Q := by
  with_reducible refine u_law_rows ?_
  unfold b_law_rows
  (repeat fail); (try simp only [EN.fz, EN.ss, EN.back_e, EN.back_v, EN.back_mp, EN.back_ml, EN.back_md, EN.back_mn, EN.mask_e, EN.mask_p, EN.mask_l, EN.mask_d, EN.mask_n, EN.isP, EN.lstO, EN.allP, EN.wipeT, EN.restT, EN.kP, EN.gs])
  with_reducible refine p_kept ?_
  (repeat fail); (try simp only [EN.fz, EN.ss, EN.back_e, EN.back_v, EN.back_mp, EN.back_ml, EN.back_md, EN.back_mn, EN.mask_e, EN.mask_p, EN.mask_l, EN.mask_d, EN.mask_n, EN.isP, EN.lstO, EN.allP, EN.wipeT, EN.restT, EN.kP, EN.gs])
  rw [feq_strs]
  refine if_cf (by simp [o.kp]) ?_
  (repeat fail); (try simp only [EN.fz, EN.ss, EN.back_e, EN.back_v, EN.back_mp, EN.back_ml, EN.back_md, EN.back_mn, EN.mask_e, EN.mask_p, EN.mask_l, EN.mask_d, EN.mask_n, EN.isP, EN.lstO, EN.allP, EN.wipeT, EN.restT, EN.kP, EN.gs])
  rw [many_b]
  (repeat fail); (try simp only [EN.fz, EN.ss, EN.back_e, EN.back_v, EN.back_mp, EN.back_ml, EN.back_md, EN.back_mn, EN.mask_e, EN.mask_p, EN.mask_l, EN.mask_d, EN.mask_n, EN.isP, EN.lstO, EN.allP, EN.wipeT, EN.restT, EN.kP, EN.gs])
  rw [rng2]
  (repeat fail); (try simp only [EN.fz, EN.ss, EN.back_e, EN.back_v, EN.back_mp, EN.back_ml, EN.back_md, EN.back_mn, EN.mask_e, EN.mask_p, EN.mask_l, EN.mask_d, EN.mask_n, EN.isP, EN.lstO, EN.allP, EN.wipeT, EN.restT, EN.kP, EN.gs])
  with_reducible refine w_lcC (wp_put (by with_unfolding_all rfl) ?_)
  (repeat fail); (try simp only [EN.fz, EN.ss, EN.back_e, EN.back_v, EN.back_mp, EN.back_ml, EN.back_md, EN.back_mn, EN.mask_e, EN.mask_p, EN.mask_l, EN.mask_d, EN.mask_n, EN.isP, EN.lstO, EN.allP, EN.wipeT, EN.restT, EN.kP, EN.gs])
  refine ⟨size_lt (by simp), ?_⟩
  (repeat fail); (try simp only [EN.fz, EN.ss, EN.back_e, EN.back_v, EN.back_mp, EN.back_ml, EN.back_md, EN.back_mn, EN.mask_e, EN.mask_p, EN.mask_l, EN.mask_d, EN.mask_n, EN.isP, EN.lstO, EN.allP, EN.wipeT, EN.restT, EN.kP, EN.gs])
  with_reducible refine w_popS (ys := ys ++ [.lst ((row w b).map Val.int)]) (v := .lst ((row w a).map Val.int)) (by with_unfolding_all rfl) ?_
  (repeat fail); (try simp only [EN.fz, EN.ss, EN.back_e, EN.back_v, EN.back_mp, EN.back_ml, EN.back_md, EN.back_mn, EN.mask_e, EN.mask_p, EN.mask_l, EN.mask_d, EN.mask_n, EN.isP, EN.lstO, EN.allP, EN.wipeT, EN.restT, EN.kP, EN.gs])
  with_reducible refine w_lcC (wp_put (by with_unfolding_all rfl) ?_)
  (repeat fail); (try simp only [EN.fz, EN.ss, EN.back_e, EN.back_v, EN.back_mp, EN.back_ml, EN.back_md, EN.back_mn, EN.mask_e, EN.mask_p, EN.mask_l, EN.mask_d, EN.mask_n, EN.isP, EN.lstO, EN.allP, EN.wipeT, EN.restT, EN.kP, EN.gs])
  refine ⟨size_lt (by simp), ?_⟩
  (repeat fail); (try simp only [EN.fz, EN.ss, EN.back_e, EN.back_v, EN.back_mp, EN.back_ml, EN.back_md, EN.back_mn, EN.mask_e, EN.mask_p, EN.mask_l, EN.mask_d, EN.mask_n, EN.isP, EN.lstO, EN.allP, EN.wipeT, EN.restT, EN.kP, EN.gs])
  with_reducible refine w_popS (ys := ys) (v := .lst ((row w b).map Val.int)) (by with_unfolding_all rfl) ?_
  (repeat fail); (try simp only [EN.fz, EN.ss, EN.back_e, EN.back_v, EN.back_mp, EN.back_ml, EN.back_md, EN.back_mn, EN.mask_e, EN.mask_p, EN.mask_l, EN.mask_d, EN.mask_n, EN.isP, EN.lstO, EN.allP, EN.wipeT, EN.restT, EN.kP, EN.gs])
  with_reducible refine w_lcN ?_
  (repeat fail); (try simp only [EN.fz, EN.ss, EN.back_e, EN.back_v, EN.back_mp, EN.back_ml, EN.back_md, EN.back_mn, EN.mask_e, EN.mask_p, EN.mask_l, EN.mask_d, EN.mask_n, EN.isP, EN.lstO, EN.allP, EN.wipeT, EN.restT, EN.kP, EN.gs])
  simp only [List.nil_append, List.cons_append]
  with_reducible refine p_madeL2 hw h0 h1 ?_
  (repeat fail); (try simp only [EN.fz, EN.ss, EN.back_e, EN.back_v, EN.back_mp, EN.back_ml, EN.back_md, EN.back_mn, EN.mask_e, EN.mask_p, EN.mask_l, EN.mask_d, EN.mask_n, EN.isP, EN.lstO, EN.allP, EN.wipeT, EN.restT, EN.kP, EN.gs])
  exact k
theorem p_lr_pk {m : Nat} {a b c : Int} {w : Nat} {ys : List Val} {d : Val} {Q : OV → EN.Env → Prop} (hw : w ≤ 1000) (h0 : 0 ≤ a) (h1 : 0 ≤ b) (h2 : 0 ≤ c) (k : Q (.l ((row w (pkF w a b c)).map Val.int)) [none, some (.l ys), none, none]) : Wc (run D gl (m + 3) 19 [.p (.str "pick"), .l (ys ++ [.lst ((row w c).map Val.int)] ++ [.lst ((row w b).map Val.int)] ++ [.lst ((row w a).map Val.int)]), .p (.int (w : Int)), .p d]) Q := by
  with_reducible refine u_law_rows ?_
  unfold b_law_rows
  (repeat fail); (try simp only [EN.fz, EN.ss, EN.back_e, EN.back_v, EN.back_mp, EN.back_ml, EN.back_md, EN.back_mn, EN.mask_e, EN.mask_p, EN.mask_l, EN.mask_d, EN.mask_n, EN.isP, EN.lstO, EN.allP, EN.wipeT, EN.restT, EN.kP, EN.gs])
  with_reducible refine p_kept ?_
  (repeat fail); (try simp only [EN.fz, EN.ss, EN.back_e, EN.back_v, EN.back_mp, EN.back_ml, EN.back_md, EN.back_mn, EN.mask_e, EN.mask_p, EN.mask_l, EN.mask_d, EN.mask_n, EN.isP, EN.lstO, EN.allP, EN.wipeT, EN.restT, EN.kP, EN.gs])
  rw [many_p]
  (repeat fail); (try simp only [EN.fz, EN.ss, EN.back_e, EN.back_v, EN.back_mp, EN.back_ml, EN.back_md, EN.back_mn, EN.mask_e, EN.mask_p, EN.mask_l, EN.mask_d, EN.mask_n, EN.isP, EN.lstO, EN.allP, EN.wipeT, EN.restT, EN.kP, EN.gs])
  rw [rng3]
  with_reducible refine w_lcC (wp_put (by with_unfolding_all rfl) ?_)
  (repeat fail); (try simp only [EN.fz, EN.ss, EN.back_e, EN.back_v, EN.back_mp, EN.back_ml, EN.back_md, EN.back_mn, EN.mask_e, EN.mask_p, EN.mask_l, EN.mask_d, EN.mask_n, EN.isP, EN.lstO, EN.allP, EN.wipeT, EN.restT, EN.kP, EN.gs])
  refine ⟨size_lt (by simp), ?_⟩
  (repeat fail); (try simp only [EN.fz, EN.ss, EN.back_e, EN.back_v, EN.back_mp, EN.back_ml, EN.back_md, EN.back_mn, EN.mask_e, EN.mask_p, EN.mask_l, EN.mask_d, EN.mask_n, EN.isP, EN.lstO, EN.allP, EN.wipeT, EN.restT, EN.kP, EN.gs])
  with_reducible refine w_popS (ys := ys ++ [.lst ((row w c).map Val.int)] ++ [.lst ((row w b).map Val.int)]) (v := .lst ((row w a).map Val.int)) (by with_unfolding_all rfl) ?_
  (repeat fail); (try simp only [EN.fz, EN.ss, EN.back_e, EN.back_v, EN.back_mp, EN.back_ml, EN.back_md, EN.back_mn, EN.mask_e, EN.mask_p, EN.mask_l, EN.mask_d, EN.mask_n, EN.isP, EN.lstO, EN.allP, EN.wipeT, EN.restT, EN.kP, EN.gs])
  with_reducible refine w_lcC (wp_put (by with_unfolding_all rfl) ?_)
  (repeat fail); (try simp only [EN.fz, EN.ss, EN.back_e, EN.back_v, EN.back_mp, EN.back_ml, EN.back_md, EN.back_mn, EN.mask_e, EN.mask_p, EN.mask_l, EN.mask_d, EN.mask_n, EN.isP, EN.lstO, EN.allP, EN.wipeT, EN.restT, EN.kP, EN.gs])
  refine ⟨size_lt (by simp), ?_⟩
  (repeat fail); (try simp only [EN.fz, EN.ss, EN.back_e, EN.back_v, EN.back_mp, EN.back_ml, EN.back_md, EN.back_mn, EN.mask_e, EN.mask_p, EN.mask_l, EN.mask_d, EN.mask_n, EN.isP, EN.lstO, EN.allP, EN.wipeT, EN.restT, EN.kP, EN.gs])
  with_reducible refine w_popS (ys := ys ++ [.lst ((row w c).map Val.int)]) (v := .lst ((row w b).map Val.int)) (by with_unfolding_all rfl) ?_
  (repeat fail); (try simp only [EN.fz, EN.ss, EN.back_e, EN.back_v, EN.back_mp, EN.back_ml, EN.back_md, EN.back_mn, EN.mask_e, EN.mask_p, EN.mask_l, EN.mask_d, EN.mask_n, EN.isP, EN.lstO, EN.allP, EN.wipeT, EN.restT, EN.kP, EN.gs])
  with_reducible refine w_lcC (wp_put (by with_unfolding_all rfl) ?_)
  (repeat fail); (try simp only [EN.fz, EN.ss, EN.back_e, EN.back_v, EN.back_mp, EN.back_ml, EN.back_md, EN.back_mn, EN.mask_e, EN.mask_p, EN.mask_l, EN.mask_d, EN.mask_n, EN.isP, EN.lstO, EN.allP, EN.wipeT, EN.restT, EN.kP, EN.gs])
  refine ⟨size_lt (by simp), ?_⟩
  (repeat fail); (try simp only [EN.fz, EN.ss, EN.back_e, EN.back_v, EN.back_mp, EN.back_ml, EN.back_md, EN.back_mn, EN.mask_e, EN.mask_p, EN.mask_l, EN.mask_d, EN.mask_n, EN.isP, EN.lstO, EN.allP, EN.wipeT, EN.restT, EN.kP, EN.gs])
  with_reducible refine w_popS (ys := ys) (v := .lst ((row w c).map Val.int)) (by with_unfolding_all rfl) ?_
  (repeat fail); (try simp only [EN.fz, EN.ss, EN.back_e, EN.back_v, EN.back_mp, EN.back_ml, EN.back_md, EN.back_mn, EN.mask_e, EN.mask_p, EN.mask_l, EN.mask_d, EN.mask_n, EN.isP, EN.lstO, EN.allP, EN.wipeT, EN.restT, EN.kP, EN.gs])
  with_reducible refine w_lcN ?_
  (repeat fail); (try simp only [EN.fz, EN.ss, EN.back_e, EN.back_v, EN.back_mp, EN.back_ml, EN.back_md, EN.back_mn, EN.mask_e, EN.mask_p, EN.mask_l, EN.mask_d, EN.mask_n, EN.isP, EN.lstO, EN.allP, EN.wipeT, EN.restT, EN.kP, EN.gs])
  simp only [List.nil_append, List.cons_append]
  with_reducible refine p_madeL3 hw h0 h1 h2 ?_
  (repeat fail); (try simp only [EN.fz, EN.ss, EN.back_e, EN.back_v, EN.back_mp, EN.back_ml, EN.back_md, EN.back_mn, EN.mask_e, EN.mask_p, EN.mask_l, EN.mask_d, EN.mask_n, EN.isP, EN.lstO, EN.allP, EN.wipeT, EN.restT, EN.kP, EN.gs])
  exact k
theorem p_worthL {m : Nat} {t : Sm} {w : Nat} {ws : List Val} {hs : List Str} {us : List Val} {f : Str → Int} {Q : OV → EN.Env → Prop} (e : ws = t.wd) (hw1 : 1 ≤ w) (hw : w ≤ 1000) (hn : hs.Nodup) (hf : ∀ s, Nm hs us f s → 0 ≤ f s ∧ f s < 2 ^ w) (ht : t.ok (Nm hs us f)) (hl : t.wd.length ≤ 1000) (k : Q (.p (.int (t.val f w))) [none, none, none]) : Wc (run D gl (m + 4) 20 [.p (.tup ws), .p (.int (w : Int)), .p (.dct (hs.map .str) us)]) Q := by
  with_reducible refine u_law_worth ?_
  subst e
  unfold b_law_worth
  (repeat fail); (try simp only [EN.fz, EN.ss, EN.back_e, EN.back_v, EN.back_mp, EN.back_ml, EN.back_md, EN.back_mn, EN.mask_e, EN.mask_p, EN.mask_l, EN.mask_d, EN.mask_n, EN.isP, EN.lstO, EN.allP, EN.wipeT, EN.restT, EN.kP, EN.gs])
  rw [← List.append_nil (List.reverse t.wd)]
  refine sm_walk (E := fun p e => ∃ x4, e = [some (.p (.tup t.wd)), some (.p (.int (w : Int))), some (.p (.dct (hs.map .str) us)), some (.l p), x4, none, none]) (B := 1000) (V := fun t => .lst ((row w (t.val f w)).map Val.int)) (N := Nm hs us f) ?_ ?_ ?_ ?_ ?_ t ht [] [] _ _ (by simpa using hl) ⟨_, rfl⟩ fun e he => walk_end ?_
  · intro n p _ _ hb e hI
    obtain ⟨x4, he⟩ := hI
    subst he
    with_reducible refine wp_put (by with_unfolding_all rfl) ?_
    (repeat fail); (try simp only [EN.fz, EN.ss, EN.back_e, EN.back_v, EN.back_mp, EN.back_ml, EN.back_md, EN.back_mn, EN.mask_e, EN.mask_p, EN.mask_l, EN.mask_d, EN.mask_n, EN.isP, EN.lstO, EN.allP, EN.wipeT, EN.restT, EN.kP, EN.gs])
    with_reducible refine p_lr_num hw ?_
    (repeat fail); (try simp only [EN.fz, EN.ss, EN.back_e, EN.back_v, EN.back_mp, EN.back_ml, EN.back_md, EN.back_mn, EN.mask_e, EN.mask_p, EN.mask_l, EN.mask_d, EN.mask_n, EN.isP, EN.lstO, EN.allP, EN.wipeT, EN.restT, EN.kP, EN.gs])
    refine ⟨_, rfl, size_lt (by simp at hb; omega), ?_⟩
    (repeat fail); (try simp only [EN.fz, EN.ss, EN.back_e, EN.back_v, EN.back_mp, EN.back_ml, EN.back_md, EN.back_mn, EN.mask_e, EN.mask_p, EN.mask_l, EN.mask_d, EN.mask_n, EN.isP, EN.lstO, EN.allP, EN.wipeT, EN.restT, EN.kP, EN.gs])
    exact ⟨by trivial, _, rfl⟩
  · intro s p hs hb e hI
    obtain ⟨x4, he⟩ := hI
    subst he
    obtain ⟨hk, j, h1, h2⟩ := hs
    with_reducible refine wp_put (by with_unfolding_all rfl) ?_
    (repeat fail); (try simp only [EN.fz, EN.ss, EN.back_e, EN.back_v, EN.back_mp, EN.back_ml, EN.back_md, EN.back_mn, EN.mask_e, EN.mask_p, EN.mask_l, EN.mask_d, EN.mask_n, EN.isP, EN.lstO, EN.allP, EN.wipeT, EN.restT, EN.kP, EN.gs])
    with_reducible refine p_lr_nam hw hn hk h1 h2 ?_
    (repeat fail); (try simp only [EN.fz, EN.ss, EN.back_e, EN.back_v, EN.back_mp, EN.back_ml, EN.back_md, EN.back_mn, EN.mask_e, EN.mask_p, EN.mask_l, EN.mask_d, EN.mask_n, EN.isP, EN.lstO, EN.allP, EN.wipeT, EN.restT, EN.kP, EN.gs])
    refine ⟨_, rfl, size_lt (by simp at hb; omega), ?_⟩
    (repeat fail); (try simp only [EN.fz, EN.ss, EN.back_e, EN.back_v, EN.back_mp, EN.back_ml, EN.back_md, EN.back_mn, EN.mask_e, EN.mask_p, EN.mask_l, EN.mask_d, EN.mask_n, EN.isP, EN.lstO, EN.allP, EN.wipeT, EN.restT, EN.kP, EN.gs])
    exact ⟨by trivial, _, rfl⟩
  · intro o a p ha hb e hI
    obtain ⟨x4, he⟩ := hI
    subst he
    have r := Sm.rng hf a ha
    with_reducible refine wp_put (by with_unfolding_all rfl) ?_
    (repeat fail); (try simp only [EN.fz, EN.ss, EN.back_e, EN.back_v, EN.back_mp, EN.back_ml, EN.back_md, EN.back_mn, EN.mask_e, EN.mask_p, EN.mask_l, EN.mask_d, EN.mask_n, EN.isP, EN.lstO, EN.allP, EN.wipeT, EN.restT, EN.kP, EN.gs])
    with_reducible refine p_lr_u hw1 hw r.1 r.2 ?_
    (repeat fail); (try simp only [EN.fz, EN.ss, EN.back_e, EN.back_v, EN.back_mp, EN.back_ml, EN.back_md, EN.back_mn, EN.mask_e, EN.mask_p, EN.mask_l, EN.mask_d, EN.mask_n, EN.isP, EN.lstO, EN.allP, EN.wipeT, EN.restT, EN.kP, EN.gs])
    refine ⟨_, rfl, size_lt (by simp at hb; omega), ?_⟩
    (repeat fail); (try simp only [EN.fz, EN.ss, EN.back_e, EN.back_v, EN.back_mp, EN.back_ml, EN.back_md, EN.back_mn, EN.mask_e, EN.mask_p, EN.mask_l, EN.mask_d, EN.mask_n, EN.isP, EN.lstO, EN.allP, EN.wipeT, EN.restT, EN.kP, EN.gs])
    exact ⟨by trivial, _, rfl⟩
  · intro o a b p ha hb' hb e hI
    obtain ⟨x4, he⟩ := hI
    subst he
    with_reducible refine wp_put (by with_unfolding_all rfl) ?_
    (repeat fail); (try simp only [EN.fz, EN.ss, EN.back_e, EN.back_v, EN.back_mp, EN.back_ml, EN.back_md, EN.back_mn, EN.mask_e, EN.mask_p, EN.mask_l, EN.mask_d, EN.mask_n, EN.isP, EN.lstO, EN.allP, EN.wipeT, EN.restT, EN.kP, EN.gs])
    with_reducible refine p_lr_b hw (Sm.rng hf a ha).1 (Sm.rng hf b hb').1 ?_
    (repeat fail); (try simp only [EN.fz, EN.ss, EN.back_e, EN.back_v, EN.back_mp, EN.back_ml, EN.back_md, EN.back_mn, EN.mask_e, EN.mask_p, EN.mask_l, EN.mask_d, EN.mask_n, EN.isP, EN.lstO, EN.allP, EN.wipeT, EN.restT, EN.kP, EN.gs])
    refine ⟨_, rfl, size_lt (by simp at hb; omega), ?_⟩
    (repeat fail); (try simp only [EN.fz, EN.ss, EN.back_e, EN.back_v, EN.back_mp, EN.back_ml, EN.back_md, EN.back_mn, EN.mask_e, EN.mask_p, EN.mask_l, EN.mask_d, EN.mask_n, EN.isP, EN.lstO, EN.allP, EN.wipeT, EN.restT, EN.kP, EN.gs])
    exact ⟨by trivial, _, rfl⟩
  · intro a b c p ha hb' hc hb e hI
    obtain ⟨x4, he⟩ := hI
    subst he
    with_reducible refine wp_put (by with_unfolding_all rfl) ?_
    (repeat fail); (try simp only [EN.fz, EN.ss, EN.back_e, EN.back_v, EN.back_mp, EN.back_ml, EN.back_md, EN.back_mn, EN.mask_e, EN.mask_p, EN.mask_l, EN.mask_d, EN.mask_n, EN.isP, EN.lstO, EN.allP, EN.wipeT, EN.restT, EN.kP, EN.gs])
    with_reducible refine p_lr_pk hw (Sm.rng hf a ha).1 (Sm.rng hf b hb').1 (Sm.rng hf c hc).1 ?_
    (repeat fail); (try simp only [EN.fz, EN.ss, EN.back_e, EN.back_v, EN.back_mp, EN.back_ml, EN.back_md, EN.back_mn, EN.mask_e, EN.mask_p, EN.mask_l, EN.mask_d, EN.mask_n, EN.isP, EN.lstO, EN.allP, EN.wipeT, EN.restT, EN.kP, EN.gs])
    refine ⟨_, rfl, size_lt (by simp at hb; omega), ?_⟩
    (repeat fail); (try simp only [EN.fz, EN.ss, EN.back_e, EN.back_v, EN.back_mp, EN.back_ml, EN.back_md, EN.back_mn, EN.mask_e, EN.mask_p, EN.mask_l, EN.mask_d, EN.mask_n, EN.isP, EN.lstO, EN.allP, EN.wipeT, EN.restT, EN.kP, EN.gs])
    exact ⟨by trivial, _, rfl⟩
  · obtain ⟨x4, he⟩ := he
    subst he
    have r := Sm.rng hf t ht
    generalize t.val f w = A at r k
    (repeat fail); (try simp only [EN.fz, EN.ss, EN.back_e, EN.back_v, EN.back_mp, EN.back_ml, EN.back_md, EN.back_mn, EN.mask_e, EN.mask_p, EN.mask_l, EN.mask_d, EN.mask_n, EN.isP, EN.lstO, EN.allP, EN.wipeT, EN.restT, EN.kP, EN.gs])
    refine w_loopL (fun i e => ∃ x6, e = [some (.p (.tup t.wd)), some (.p (.int (w : Int))), some (.p (.dct (hs.map .str) us)), some (.l ([] ++ [.lst ((row w A).map Val.int)])), x4, some (.p (.int (A / 2 ^ (w - i)))), x6]) rfl ⟨none, by rw [Nat.sub_zero, Int.ediv_eq_zero_of_lt r.1 r.2]; rfl⟩ ?_ ?_
    · intro i x e hx hI
      obtain ⟨x6, he⟩ := hI
      subst he
      have hi : i < w := by
        have := (List.getElem?_eq_some_iff.mp hx).1
        rwa [List.length_reverse, row_lenV] at this
      rw [List.getElem?_reverse (by rw [row_lenV]; exact hi), row_lenV, rowV_get _ (by omega)] at hx
      cases hx
      (repeat fail); (try simp only [EN.fz, EN.ss, EN.back_e, EN.back_v, EN.back_mp, EN.back_ml, EN.back_md, EN.back_mn, EN.mask_e, EN.mask_p, EN.mask_l, EN.mask_d, EN.mask_n, EN.isP, EN.lstO, EN.allP, EN.wipeT, EN.restT, EN.kP, EN.gs])
      have e1 : ((2 : Nat) : Int) * (A / 2 ^ (w - i)) + bt A (w - 1 - i) = A / 2 ^ (w - (i + 1)) := num_step hi
      exact ⟨_, by rw [e1]⟩
    · intro e hI
      obtain ⟨x6, he⟩ := hI
      subst he
      rw [List.length_reverse, row_lenV, Nat.sub_self, Int.pow_zero, Int.ediv_one]
      (repeat fail); (try simp only [EN.fz, EN.ss, EN.back_e, EN.back_v, EN.back_mp, EN.back_ml, EN.back_md, EN.back_mn, EN.mask_e, EN.mask_p, EN.mask_l, EN.mask_d, EN.mask_n, EN.isP, EN.lstO, EN.allP, EN.wipeT, EN.restT, EN.kP, EN.gs])
      exact k
theorem p_leaf {m : Nat} {cells : List Int} {a : Int} {ss : List Str} {N : Str → Prop} {Q : OV → EN.Env → Prop} (hc : 0 < ((cells.map Val.int).length : Int)) (h1 : 1 ≤ ss.length) (h3 : ss.length ≤ 3) (hN : ∀ s ∈ ss, N s) (k : ∀ (t : Sm) (x : Val) (cells' : List Int) a', t.ok N → t.wd = [x] → 0 < ((cells'.map Val.int).length : Int) → Q (.p x) [some (.nd [.l (cells'.map Val.int), .p (.int a')]), none]) : Wc (run D gl (m + 2) 12 [.nd [.l (cells.map Val.int), .p (.int a)], .p (.lst (ss.map Val.str))]) Q := by
  apply u_law_leaf
  unfold b_law_leaf
  (repeat fail); (try simp only [EN.fz, EN.ss, EN.back_e, EN.back_v, EN.back_mp, EN.back_ml, EN.back_md, EN.back_mn, EN.mask_e, EN.mask_p, EN.mask_l, EN.mask_d, EN.mask_n, EN.isP, EN.lstO, EN.allP, EN.wipeT, EN.restT, EN.kP, EN.gs])
  refine p_take hc (by decide) (by decide) fun c1 cells1 h4 h5 hc1 => ?_
  (repeat fail); (try simp only [EN.fz, EN.ss, EN.back_e, EN.back_v, EN.back_mp, EN.back_ml, EN.back_md, EN.back_mn, EN.mask_e, EN.mask_p, EN.mask_l, EN.mask_d, EN.mask_n, EN.isP, EN.lstO, EN.allP, EN.wipeT, EN.restT, EN.kP, EN.gs])
  refine if_dec (fun g => ?_) (fun g => ?_)
  · (repeat fail); (try simp only [EN.fz, EN.ss, EN.back_e, EN.back_v, EN.back_mp, EN.back_ml, EN.back_md, EN.back_mn, EN.mask_e, EN.mask_p, EN.mask_l, EN.mask_d, EN.mask_n, EN.isP, EN.lstO, EN.allP, EN.wipeT, EN.restT, EN.kP, EN.gs])
    rw [List.length_map]
    (repeat fail); (try simp only [EN.fz, EN.ss, EN.back_e, EN.back_v, EN.back_mp, EN.back_ml, EN.back_md, EN.back_mn, EN.mask_e, EN.mask_p, EN.mask_l, EN.mask_d, EN.mask_n, EN.isP, EN.lstO, EN.allP, EN.wipeT, EN.restT, EN.kP, EN.gs])
    refine p_take hc1 (by omega) (log_small (by omega) (by omega)) fun c2 cells2 h6 h7 hc2 => ?_
    (repeat fail); (try simp only [EN.fz, EN.ss, EN.back_e, EN.back_v, EN.back_mp, EN.back_ml, EN.back_md, EN.back_mn, EN.mask_e, EN.mask_p, EN.mask_l, EN.mask_d, EN.mask_n, EN.isP, EN.lstO, EN.allP, EN.wipeT, EN.restT, EN.kP, EN.gs])
    refine wp_atS h6 h7 fun s hs => ?_
    (repeat fail); (try simp only [EN.fz, EN.ss, EN.back_e, EN.back_v, EN.back_mp, EN.back_ml, EN.back_md, EN.back_mn, EN.mask_e, EN.mask_p, EN.mask_l, EN.mask_d, EN.mask_n, EN.isP, EN.lstO, EN.allP, EN.wipeT, EN.restT, EN.kP, EN.gs])
    exact k (.nam s) _ _ _ (hN s hs) rfl hc2
  · (repeat fail); (try simp only [EN.fz, EN.ss, EN.back_e, EN.back_v, EN.back_mp, EN.back_ml, EN.back_md, EN.back_mn, EN.mask_e, EN.mask_p, EN.mask_l, EN.mask_d, EN.mask_n, EN.isP, EN.lstO, EN.allP, EN.wipeT, EN.restT, EN.kP, EN.gs])
    refine p_take hc1 (by decide) (by decide) fun c2 cells2 h6 h7 hc2 => ?_
    (repeat fail); (try simp only [EN.fz, EN.ss, EN.back_e, EN.back_v, EN.back_mp, EN.back_ml, EN.back_md, EN.back_mn, EN.mask_e, EN.mask_p, EN.mask_l, EN.mask_d, EN.mask_n, EN.isP, EN.lstO, EN.allP, EN.wipeT, EN.restT, EN.kP, EN.gs])
    refine p_take hc2 (by decide) (by decide) fun c3 cells3 h8 h9 hc3 => ?_
    (repeat fail); (try simp only [EN.fz, EN.ss, EN.back_e, EN.back_v, EN.back_mp, EN.back_ml, EN.back_md, EN.back_mn, EN.mask_e, EN.mask_p, EN.mask_l, EN.mask_d, EN.mask_n, EN.isP, EN.lstO, EN.allP, EN.wipeT, EN.restT, EN.kP, EN.gs])
    refine p_take hc3 (by decide) (by decide) fun c4 cells4 h10 h11 hc4 => ?_
    (repeat fail); (try simp only [EN.fz, EN.ss, EN.back_e, EN.back_v, EN.back_mp, EN.back_ml, EN.back_md, EN.back_mn, EN.mask_e, EN.mask_p, EN.mask_l, EN.mask_d, EN.mask_n, EN.isP, EN.lstO, EN.allP, EN.wipeT, EN.restT, EN.kP, EN.gs])
    refine wp_atI h10 h11 fun v hv => ?_
    have hv2 : ∃ n, v = .int n ∧ 0 ≤ n ∧ n < 1000 := by
      have hd : c4 = 0 ∨ c4 = 1 ∨ c4 = 2 ∨ c4 = 3 ∨ c4 = 4 := by omega
      rcases hd with rfl | rfl | rfl | rfl | rfl <;> (cases hv; exact ⟨_, rfl, by omega, by omega⟩)
    obtain ⟨n, rfl, hn0, hn1⟩ := hv2
    (repeat fail); (try simp only [EN.fz, EN.ss, EN.back_e, EN.back_v, EN.back_mp, EN.back_ml, EN.back_md, EN.back_mn, EN.mask_e, EN.mask_p, EN.mask_l, EN.mask_d, EN.mask_n, EN.isP, EN.lstO, EN.allP, EN.wipeT, EN.restT, EN.kP, EN.gs])
    refine wp_atI (by omega) (by simp; omega) fun v hv => ?_
    have hv2 : ∃ n, v = .int n ∧ 0 ≤ n ∧ n < 1000 := by
      have hd : c1 = 3 ∨ c1 = 4 := by omega
      rcases hd with rfl | rfl <;> (cases hv; exact ⟨_, rfl, by omega, by omega⟩)
    obtain ⟨n2, rfl, hn2, hn3⟩ := hv2
    (repeat fail); (try simp only [EN.fz, EN.ss, EN.back_e, EN.back_v, EN.back_mp, EN.back_ml, EN.back_md, EN.back_mn, EN.mask_e, EN.mask_p, EN.mask_l, EN.mask_d, EN.mask_n, EN.isP, EN.lstO, EN.allP, EN.wipeT, EN.restT, EN.kP, EN.gs])
    exact k (.num n2) _ _ _ ⟨hn2, hn3⟩ rfl hc4
theorem wp_set1 {x v : Val} {Q : OV → Prop} (k : Q (.l [v])) : Wp ((setL [x] (.int ((0 : Nat) : Int)) v).map OV.l) Q := k
theorem p_sum {m : Nat} {cells : List Int} {a mst h : Int} {ss : List Str} {N : Str → Prop} {Q : OV → EN.Env → Prop} (hc : 0 < ((cells.map Val.int).length : Int)) (hm1 : 1 ≤ mst) (hm2 : mst ≤ 50) (h1 : 1 ≤ ss.length) (h3 : ss.length ≤ 3) (hN : ∀ s ∈ ss, N s) (k : ∀ (t : Sm) (cells' : List Int) a' h', t.ok N → (t.wd.length : Int) ≤ mst → 0 < ((cells'.map Val.int).length : Int) → Q (.p (.tup t.wd)) [some (.nd [.l (cells'.map Val.int), .p (.int a')]), none, none, some (.l [.int h'])]) : Wc (run D gl (m + 3) 13 [.nd [.l (cells.map Val.int), .p (.int a)], .p (.lst (ss.map Val.str)), .p (.int mst), .l [.int h]]) Q := by
  apply u_law_sum
  unfold b_law_sum
  (repeat fail); (try simp only [EN.fz, EN.ss, EN.back_e, EN.back_v, EN.back_mp, EN.back_ml, EN.back_md, EN.back_mn, EN.mask_e, EN.mask_p, EN.mask_l, EN.mask_d, EN.mask_n, EN.isP, EN.lstO, EN.allP, EN.wipeT, EN.restT, EN.kP, EN.gs])
  refine w_wloop (fun mm e => ∃ (xs : List Val) (d : Nat) (cells' : List Int) (a' h' : Int) (x6 x7 x8 x9 : Option OV), mm = (mst - xs.length).toNat ∧ OpenS N xs d ∧ xs.length + d ≤ mst ∧ 0 < ((cells'.map Val.int).length : Int) ∧ e = [some (.nd [.l (cells'.map Val.int), .p (.int a')]), some (.p (.lst (ss.map Val.str))), some (.p (.int mst)), some (.l [.int h']), some (.l xs), some (.p (.int d)), x6, x7, x8, x9]) ?_ mst.toNat _ (by show _ < (1000000000 : Nat); omega) ⟨[], 1, _, _, _, _, _, _, _, by simp, OpenS.start, by simp; omega, hc, rfl⟩
  intro mm e hI
  obtain ⟨xs, d, cells1, a1, h', x6, x7, x8, x9, hmm, ho, hd, hc1, he⟩ := hI
  subst he
  (repeat fail); (try simp only [EN.fz, EN.ss, EN.back_e, EN.back_v, EN.back_mp, EN.back_ml, EN.back_md, EN.back_mn, EN.mask_e, EN.mask_p, EN.mask_l, EN.mask_d, EN.mask_n, EN.isP, EN.lstO, EN.allP, EN.wipeT, EN.restT, EN.kP, EN.gs])
  refine if_dec (fun g => ?_) (fun g => ?_)
  · (repeat fail); (try simp only [EN.fz, EN.ss, EN.back_e, EN.back_v, EN.back_mp, EN.back_ml, EN.back_md, EN.back_mn, EN.mask_e, EN.mask_p, EN.mask_l, EN.mask_d, EN.mask_n, EN.isP, EN.lstO, EN.allP, EN.wipeT, EN.restT, EN.kP, EN.gs])
    refine p_take hc1 (by decide) (by decide) fun c cells2 h4 h5 hc2 => ?_
    (repeat fail); (try simp only [EN.fz, EN.ss, EN.back_e, EN.back_v, EN.back_mp, EN.back_ml, EN.back_md, EN.back_mn, EN.mask_e, EN.mask_p, EN.mask_l, EN.mask_d, EN.mask_n, EN.isP, EN.lstO, EN.allP, EN.wipeT, EN.restT, EN.kP, EN.gs])
    refine wp_atI h4 h5 fun v1 hv1 => ?_
    (repeat fail); (try simp only [EN.fz, EN.ss, EN.back_e, EN.back_v, EN.back_mp, EN.back_ml, EN.back_md, EN.back_mn, EN.mask_e, EN.mask_p, EN.mask_l, EN.mask_d, EN.mask_n, EN.isP, EN.lstO, EN.allP, EN.wipeT, EN.restT, EN.kP, EN.gs])
    refine wp_atI h4 h5 fun v2 hv2 => ?_
    obtain ⟨d', rfl⟩ : ∃ d', d = d' + 1 := ⟨d - 1, by omega⟩
    have hk : ∃ (s : Str) (j : Int), v1 = .str s ∧ v2 = .int j ∧ ((1 ≤ j ∧ j ≤ 3 ∧ OpenS N (xs ++ [.str s]) (d' + j.toNat)) ∨ j = 99) := by
      have hcs : c = 0 ∨ c = 1 ∨ c = 2 ∨ c = 3 ∨ c = 4 ∨ c = 5 ∨ c = 6 ∨ c = 7 ∨ c = 8 ∨ c = 9 ∨ c = 10 := by omega
      rcases hcs with rfl | rfl | rfl | rfl | rfl | rfl | rfl | rfl | rfl | rfl | rfl <;> (cases hv1; cases hv2)
      · exact ⟨_, _, rfl, rfl, .inl ⟨by omega, by omega, ho.pk⟩⟩
      · exact ⟨_, _, rfl, rfl, .inl ⟨by omega, by omega, ho.b .an⟩⟩
      · exact ⟨_, _, rfl, rfl, .inl ⟨by omega, by omega, ho.b .or⟩⟩
      · exact ⟨_, _, rfl, rfl, .inl ⟨by omega, by omega, ho.b .od⟩⟩
      · exact ⟨_, _, rfl, rfl, .inl ⟨by omega, by omega, ho.b .ad⟩⟩
      · exact ⟨_, _, rfl, rfl, .inl ⟨by omega, by omega, ho.b .sb⟩⟩
      · exact ⟨_, _, rfl, rfl, .inl ⟨by omega, by omega, ho.u .nt⟩⟩
      · exact ⟨_, _, rfl, rfl, .inl ⟨by omega, by omega, ho.u .ng⟩⟩
      · exact ⟨_, _, rfl, rfl, .inl ⟨by omega, by omega, ho.u .tw⟩⟩
      · exact ⟨_, _, rfl, rfl, .inl ⟨by omega, by omega, ho.u .lw⟩⟩
      · exact ⟨_, _, rfl, rfl, .inr rfl⟩
    obtain ⟨s, j, rfl, rfl, hj⟩ := hk
    (repeat fail); (try simp only [EN.fz, EN.ss, EN.back_e, EN.back_v, EN.back_mp, EN.back_ml, EN.back_md, EN.back_mn, EN.mask_e, EN.mask_p, EN.mask_l, EN.mask_d, EN.mask_n, EN.isP, EN.lstO, EN.allP, EN.wipeT, EN.restT, EN.kP, EN.gs])
    refine if_mid (fun e => ∃ (j' : Int) (x7 : Option OV), ((j' = j ∧ j ≤ 3) ∨ 50 < j') ∧ e = [some (.nd [.l (cells2.map Val.int), .p (.int (a1 + 1))]), some (.p (.lst (ss.map Val.str))), some (.p (.int mst)), some (.l [.int h']), some (.l xs), some (.p (.int ((d' + 1 : Nat) : Int))), some (.p (.int (mst - (xs.length : Int) - ((d' + 1 : Nat) : Int)))), x7, some (.p (.str s)), some (.p (.int j'))]) (fun g => ?_) (fun g => ?_) ?_
    · (repeat fail); (try simp only [EN.fz, EN.ss, EN.back_e, EN.back_v, EN.back_mp, EN.back_ml, EN.back_md, EN.back_mn, EN.mask_e, EN.mask_p, EN.mask_l, EN.mask_d, EN.mask_n, EN.isP, EN.lstO, EN.allP, EN.wipeT, EN.restT, EN.kP, EN.gs])
      by_cases hz : h' = ((0 : Nat) : Int)
      · rw [show decide (h' = ((0 : Nat) : Int)) = true from decide_eq_true hz]
        (repeat fail); (try simp only [EN.fz, EN.ss, EN.back_e, EN.back_v, EN.back_mp, EN.back_ml, EN.back_md, EN.back_mn, EN.mask_e, EN.mask_p, EN.mask_l, EN.mask_d, EN.mask_n, EN.isP, EN.lstO, EN.allP, EN.wipeT, EN.restT, EN.kP, EN.gs])
        refine ⟨by trivial, _, _, .inr ?_, rfl⟩
        rcases hj with hj | hj
        · show 50 < j + ((99 : Nat) : Int) * 1
          omega
        · show 50 < j + ((99 : Nat) : Int) * 1
          omega
      · rw [show decide (h' = ((0 : Nat) : Int)) = false from decide_eq_false hz]
        (repeat fail); (try simp only [EN.fz, EN.ss, EN.back_e, EN.back_v, EN.back_mp, EN.back_ml, EN.back_md, EN.back_mn, EN.mask_e, EN.mask_p, EN.mask_l, EN.mask_d, EN.mask_n, EN.isP, EN.lstO, EN.allP, EN.wipeT, EN.restT, EN.kP, EN.gs])
        refine ⟨by trivial, _, _, ?_, rfl⟩
        show (j + ((99 : Nat) : Int) * 0 = j ∧ j ≤ 3) ∨ 50 < j + ((99 : Nat) : Int) * 0
        omega
    · (repeat fail); (try simp only [EN.fz, EN.ss, EN.back_e, EN.back_v, EN.back_mp, EN.back_ml, EN.back_md, EN.back_mn, EN.mask_e, EN.mask_p, EN.mask_l, EN.mask_d, EN.mask_n, EN.isP, EN.lstO, EN.allP, EN.wipeT, EN.restT, EN.kP, EN.gs])
      refine ⟨by trivial, _, _, ?_, rfl⟩
      omega
    · intro e hI
      obtain ⟨j', x7', hj2, he⟩ := hI
      subst he
      (repeat fail); (try simp only [EN.fz, EN.ss, EN.back_e, EN.back_v, EN.back_mp, EN.back_ml, EN.back_md, EN.back_mn, EN.mask_e, EN.mask_p, EN.mask_l, EN.mask_d, EN.mask_n, EN.isP, EN.lstO, EN.allP, EN.wipeT, EN.restT, EN.kP, EN.gs])
      refine if_dec (fun g2 => ?_) (fun g2 => ?_)
      · (repeat fail); (try simp only [EN.fz, EN.ss, EN.back_e, EN.back_v, EN.back_mp, EN.back_ml, EN.back_md, EN.back_mn, EN.mask_e, EN.mask_p, EN.mask_l, EN.mask_d, EN.mask_n, EN.isP, EN.lstO, EN.allP, EN.wipeT, EN.restT, EN.kP, EN.gs])
        refine p_leaf hc2 h1 h3 hN fun t x cells3 a3 ht hx hc3 => ?_
        (repeat fail); (try simp only [EN.fz, EN.ss, EN.back_e, EN.back_v, EN.back_mp, EN.back_ml, EN.back_md, EN.back_mn, EN.mask_e, EN.mask_p, EN.mask_l, EN.mask_d, EN.mask_n, EN.isP, EN.lstO, EN.allP, EN.wipeT, EN.restT, EN.kP, EN.gs])
        refine ⟨_, rfl, size_lt (by omega), ?_⟩
        (repeat fail); (try simp only [EN.fz, EN.ss, EN.back_e, EN.back_v, EN.back_mp, EN.back_ml, EN.back_md, EN.back_mn, EN.mask_e, EN.mask_p, EN.mask_l, EN.mask_d, EN.mask_n, EN.isP, EN.lstO, EN.allP, EN.wipeT, EN.restT, EN.kP, EN.gs])
        rw [show ((d' + 1 : Nat) : Int) - ((1 : Nat) : Int) + ((0 : Nat) : Int) = (d' : Int) by omega]
        refine ⟨(mst - (xs ++ [x]).length).toNat, ?_, xs ++ [x], d', _, _, _, _, _, _, _, rfl, ho.leaf ht hx, ?_, hc3, rfl⟩
        · simp; omega
        · simp; omega
      · (repeat fail); (try simp only [EN.fz, EN.ss, EN.back_e, EN.back_v, EN.back_mp, EN.back_ml, EN.back_md, EN.back_mn, EN.mask_e, EN.mask_p, EN.mask_l, EN.mask_d, EN.mask_n, EN.isP, EN.lstO, EN.allP, EN.wipeT, EN.restT, EN.kP, EN.gs])
        refine ⟨_, rfl, size_lt (by omega), ?_⟩
        (repeat fail); (try simp only [EN.fz, EN.ss, EN.back_e, EN.back_v, EN.back_mp, EN.back_ml, EN.back_md, EN.back_mn, EN.mask_e, EN.mask_p, EN.mask_l, EN.mask_d, EN.mask_n, EN.isP, EN.lstO, EN.allP, EN.wipeT, EN.restT, EN.kP, EN.gs])
        have hj3 : j' = j ∧ 1 ≤ j ∧ j ≤ 3 ∧ OpenS N (xs ++ [.str s]) (d' + j.toNat) := by
          rcases hj2 with ⟨e1, e2⟩ | e1
          · rcases hj with hj | hj
            · exact ⟨e1, hj.1, hj.2.1, hj.2.2⟩
            · omega
          · omega
        obtain ⟨rfl, j1, j3, hj4⟩ := hj3
        refine wp_set1 ?_
        (repeat fail); (try simp only [EN.fz, EN.ss, EN.back_e, EN.back_v, EN.back_mp, EN.back_ml, EN.back_md, EN.back_mn, EN.mask_e, EN.mask_p, EN.mask_l, EN.mask_d, EN.mask_n, EN.isP, EN.lstO, EN.allP, EN.wipeT, EN.restT, EN.kP, EN.gs])
        rw [show ((d' + 1 : Nat) : Int) - ((1 : Nat) : Int) + j' = ((d' + j'.toNat : Nat) : Int) by omega]
        refine ⟨(mst - (xs ++ [Val.str s]).length).toNat, ?_, xs ++ [.str s], d' + j'.toNat, _, _, _, _, _, _, _, rfl, hj4, ?_, hc2, rfl⟩
        · simp; omega
        · simp; omega
  · (repeat fail); (try simp only [EN.fz, EN.ss, EN.back_e, EN.back_v, EN.back_mp, EN.back_ml, EN.back_md, EN.back_mn, EN.mask_e, EN.mask_p, EN.mask_l, EN.mask_d, EN.mask_n, EN.isP, EN.lstO, EN.allP, EN.wipeT, EN.restT, EN.kP, EN.gs])
    have hd0 : d = 0 := by omega
    subst hd0
    obtain ⟨t, ht, hw⟩ := ho.done
    rw [← hw]
    exact k t _ _ _ ht (by rw [hw]; omega) hc1
theorem p_values {m : Nat} {cells : List Int} {a w : Int} {ss : List Str} {Q : OV → EN.Env → Prop} (hc : 0 < ((cells.map Val.int).length : Int)) (n : ss.Nodup) (n3 : ss.length ≤ 3) (w0 : 1 ≤ w) (w1 : w ≤ 60) (k : ∀ (vs cells' : List Int) a', vs.length = ss.length → (∀ x ∈ vs, 0 ≤ x ∧ x < 2 ^ w.toNat) → 0 < ((cells'.map Val.int).length : Int) → Q (.d (ss.map .str) (vs.map .int)) [some (.nd [.l (cells'.map Val.int), .p (.int a')]), none, none]) : Wc (run D gl (m + 2) 21 [.nd [.l (cells.map Val.int), .p (.int a)], .p (.lst (ss.map Val.str)), .p (.int w)]) Q := by
  apply u_law_values
  unfold b_law_values
  (repeat fail); (try simp only [EN.fz, EN.ss, EN.back_e, EN.back_v, EN.back_mp, EN.back_ml, EN.back_md, EN.back_mn, EN.mask_e, EN.mask_p, EN.mask_l, EN.mask_d, EN.mask_n, EN.isP, EN.lstO, EN.allP, EN.wipeT, EN.restT, EN.kP, EN.gs])
  refine p_power (by omega) (by omega) ?_
  have f2 : (2 : Int) ≤ 2 ^ w.toNat := by
    have := pow_le2 (show 1 ≤ w.toNat by omega)
    exact this
  have fl := @log_pow w.toNat (by omega)
  generalize (2 : Int) ^ w.toNat = F at f2 fl k
  (repeat fail); (try simp only [EN.fz, EN.ss, EN.back_e, EN.back_v, EN.back_mp, EN.back_ml, EN.back_md, EN.back_mn, EN.mask_e, EN.mask_p, EN.mask_l, EN.mask_d, EN.mask_n, EN.isP, EN.lstO, EN.allP, EN.wipeT, EN.restT, EN.kP, EN.gs])
  refine w_loopL (fun i e => ∃ (vs cells' : List Int) (a' : Int) (x5 x6 : Option OV), vs.length = i ∧ (∀ x ∈ vs, 0 ≤ x ∧ x < F) ∧ 0 < ((cells'.map Val.int).length : Int) ∧ e = [some (.nd [.l (cells'.map Val.int), .p (.int a')]), some (.p (.lst (ss.map Val.str))), some (.p (.int w)), some (.d ((ss.take i).map .str) (vs.map .int)), some (.p (.int F)), x5, x6]) rfl ⟨[], _, _, _, _, rfl, fun _ z => (nomatch z), hc, rfl⟩ ?_ ?_
  · intro i x e hx hI
    obtain ⟨vs, cells1, a1, x5, x6, hl, hv, hc1, he⟩ := hI
    subst he
    obtain ⟨s, hs, rfl⟩ := map_get hx
    have lt := (List.getElem?_eq_some_iff.mp hs).1
    (repeat fail); (try simp only [EN.fz, EN.ss, EN.back_e, EN.back_v, EN.back_mp, EN.back_ml, EN.back_md, EN.back_mn, EN.mask_e, EN.mask_p, EN.mask_l, EN.mask_d, EN.mask_n, EN.isP, EN.lstO, EN.allP, EN.wipeT, EN.restT, EN.kP, EN.gs])
    refine p_take hc1 (by omega) fl fun c cells2 h1 h2 hc2 => ?_
    (repeat fail); (try simp only [EN.fz, EN.ss, EN.back_e, EN.back_v, EN.back_mp, EN.back_ml, EN.back_md, EN.back_mn, EN.mask_e, EN.mask_p, EN.mask_l, EN.mask_d, EN.mask_n, EN.isP, EN.lstO, EN.allP, EN.wipeT, EN.restT, EN.kP, EN.gs])
    refine p_take hc2 (by decide) (by decide) fun c3 cells3 h3 h4 hc3 => ?_
    (repeat fail); (try simp only [EN.fz, EN.ss, EN.back_e, EN.back_v, EN.back_mp, EN.back_ml, EN.back_md, EN.back_mn, EN.mask_e, EN.mask_p, EN.mask_l, EN.mask_d, EN.mask_n, EN.isP, EN.lstO, EN.allP, EN.wipeT, EN.restT, EN.kP, EN.gs])
    refine p_take hc3 (by decide) (by decide) fun c4 cells4 h5 h6 hc4 => ?_
    (repeat fail); (try simp only [EN.fz, EN.ss, EN.back_e, EN.back_v, EN.back_mp, EN.back_ml, EN.back_md, EN.back_mn, EN.mask_e, EN.mask_p, EN.mask_l, EN.mask_d, EN.mask_n, EN.isP, EN.lstO, EN.allP, EN.wipeT, EN.restT, EN.kP, EN.gs])
    have m1 := Int.emod_nonneg c3 (show F ≠ 0 by omega)
    have m2 := Int.emod_lt_of_pos c3 (show 0 < F by omega)
    generalize c3 % F = c5 at m1 m2
    refine wp_atI h5 h6 fun v hv2 => ?_
    have hv3 : ∃ n, v = .int n ∧ 0 ≤ n ∧ n < F := by
      have hd : c4 = 0 ∨ c4 = 1 ∨ c4 = 2 ∨ c4 = 3 ∨ c4 = 4 ∨ c4 = 5 := by omega
      rcases hd with rfl | rfl | rfl | rfl | rfl | rfl <;> (cases hv2; exact ⟨_, rfl, by omega, by omega⟩)
    obtain ⟨n1, rfl, hn0, hn1⟩ := hv3
    (repeat fail); (try simp only [EN.fz, EN.ss, EN.back_e, EN.back_v, EN.back_mp, EN.back_ml, EN.back_md, EN.back_mn, EN.mask_e, EN.mask_p, EN.mask_l, EN.mask_d, EN.mask_n, EN.isP, EN.lstO, EN.allP, EN.wipeT, EN.restT, EN.kP, EN.gs])
    refine ⟨rfl, ?_⟩
    (repeat fail); (try simp only [EN.fz, EN.ss, EN.back_e, EN.back_v, EN.back_mp, EN.back_ml, EN.back_md, EN.back_mn, EN.mask_e, EN.mask_p, EN.mask_l, EN.mask_d, EN.mask_n, EN.isP, EN.lstO, EN.allP, EN.wipeT, EN.restT, EN.kP, EN.gs])
    refine wp_sixN (by rw [List.length_take]; omega) (nd_tk n hs) ?_
    (repeat fail); (try simp only [EN.fz, EN.ss, EN.back_e, EN.back_v, EN.back_mp, EN.back_ml, EN.back_md, EN.back_mn, EN.mask_e, EN.mask_p, EN.mask_l, EN.mask_d, EN.mask_n, EN.isP, EN.lstO, EN.allP, EN.wipeT, EN.restT, EN.kP, EN.gs])
    refine ⟨vs ++ [n1], _, _, _, _, by simp [hl], fun x hx => ?_, hc4, by rw [tk_snoc hs, List.map_append (f := Val.int)]; rfl⟩
    rcases List.mem_append.mp hx with hx | hx
    · exact hv x hx
    · rw [List.mem_singleton.mp hx]; exact ⟨hn0, hn1⟩
  · intro e hI
    obtain ⟨vs, cells1, a1, x5, x6, hl, hv, hc1, he⟩ := hI
    subst he
    rw [List.length_map] at hl
    rw [List.length_map, List.take_length]
    (repeat fail); (try simp only [EN.fz, EN.ss, EN.back_e, EN.back_v, EN.back_mp, EN.back_ml, EN.back_md, EN.back_mn, EN.mask_e, EN.mask_p, EN.mask_l, EN.mask_d, EN.mask_n, EN.isP, EN.lstO, EN.allP, EN.wipeT, EN.restT, EN.kP, EN.gs])
    exact k vs _ _ hl hv hc1
theorem w_seq {cl : Nat → List OV → CR} {gl : Nat → Option Val} {pr : List Bool} {env : EN.Env} {s : EN.St} {rest : List EN.St} {Q : EN.Fl → EN.Env → Prop} (M : EN.Env → Prop) (h : Wr (exs cl gl pr [s] env) fun f e => f = .nx ∧ M e) (k : ∀ e, M e → Wr (exs cl gl pr rest e) Q) : Wr (exs cl gl pr (s :: rest) env) Q := by
  unfold exs at h ⊢
  cases z : ex cl gl pr s env with
  | no => rw [z] at h; exact h
  | exc x e => rw [z] at h; exact h
  | ok f e =>
    rw [z] at h
    cases f with
    | nx => exact k e (show EN.Fl.nx = EN.Fl.nx ∧ M e from h).2
    | rt r => exact absurd (show EN.Fl.rt r = EN.Fl.nx ∧ M e from h).1 (by simp)
    | bk => exact absurd (show EN.Fl.bk = EN.Fl.nx ∧ M e from h).1 (by simp)
    | ct => exact absurd (show EN.Fl.ct = EN.Fl.nx ∧ M e from h).1 (by simp)
theorem p_needX {m : Nat} {ws : List Val} {hs : List Str} {us : List Val} {j : Nat} {s : Str} {E : Xc → EN.Env → Prop} (hj : ws[j]? = some (.str s)) (hk : s ∉ kept) (hs' : s ∉ hs) (hl : s.length ≤ 1000) (hul : us.length = hs.length) (hb : ∀ i x, i < j → ws[i]? = some x → (∃ n, x = .int n) ∨ ∃ z, x = .str z ∧ (z ∈ kept ∨ z ∈ hs)) (k : E ⟨3, some s⟩ [none, none]) : Wcx (run D gl (m + 1) 2 [.p (.tup ws), .p (.dct (hs.map .str) us)]) E := by
  with_reducible refine xneed_names ?_
  unfold bneed_names
  refine wx_for rfl ?_
  (repeat fail); (try simp only [EN.fz, EN.ss, EN.back_e, EN.back_v, EN.back_mp, EN.back_ml, EN.back_md, EN.back_mn, EN.mask_e, EN.mask_p, EN.mask_l, EN.mask_d, EN.mask_n, EN.isP, EN.lstO, EN.allP, EN.wipeT, EN.restT, EN.kP, EN.gs])
  refine wx_loop (j := j) (fun i e => ∃ x2, e = [some (.p (.tup ws)), some (.p (.dct (hs.map .str) us)), x2]) (List.getElem?_eq_some_iff.mp hj).1 ⟨none, rfl⟩ ?_ ?_
  · intro i x e hi hx hI
    obtain ⟨x2, he⟩ := hI
    subst he
    with_reducible refine wp_put (by with_unfolding_all rfl) ?_
    rcases hb i x hi hx with ⟨n, rfl⟩ | ⟨z, rfl, hz⟩
    · (repeat fail); (try simp only [EN.fz, EN.ss, EN.back_e, EN.back_v, EN.back_mp, EN.back_ml, EN.back_md, EN.back_mn, EN.mask_e, EN.mask_p, EN.mask_l, EN.mask_d, EN.mask_n, EN.isP, EN.lstO, EN.allP, EN.wipeT, EN.restT, EN.kP, EN.gs])
      exact ⟨_, rfl⟩
    · by_cases hk2 : z ∈ kept
      · (repeat fail); (try simp only [EN.fz, EN.ss, EN.back_e, EN.back_v, EN.back_mp, EN.back_ml, EN.back_md, EN.back_mn, EN.mask_e, EN.mask_p, EN.mask_l, EN.mask_d, EN.mask_n, EN.isP, EN.lstO, EN.allP, EN.wipeT, EN.restT, EN.kP, EN.gs])
        refine ⟨_, rfl, ?_⟩
        rw [gin_kp hk2 rfl]
        (repeat fail); (try simp only [EN.fz, EN.ss, EN.back_e, EN.back_v, EN.back_mp, EN.back_ml, EN.back_md, EN.back_mn, EN.mask_e, EN.mask_p, EN.mask_l, EN.mask_d, EN.mask_n, EN.isP, EN.lstO, EN.allP, EN.wipeT, EN.restT, EN.kP, EN.gs])
        exact ⟨_, rfl⟩
      · (repeat fail); (try simp only [EN.fz, EN.ss, EN.back_e, EN.back_v, EN.back_mp, EN.back_ml, EN.back_md, EN.back_mn, EN.mask_e, EN.mask_p, EN.mask_l, EN.mask_d, EN.mask_n, EN.isP, EN.lstO, EN.allP, EN.wipeT, EN.restT, EN.kP, EN.gs])
        refine ⟨_, rfl, ?_⟩
        rw [gin_nm hk2]
        (repeat fail); (try simp only [EN.fz, EN.ss, EN.back_e, EN.back_v, EN.back_mp, EN.back_ml, EN.back_md, EN.back_mn, EN.mask_e, EN.mask_p, EN.mask_l, EN.mask_d, EN.mask_n, EN.isP, EN.lstO, EN.allP, EN.wipeT, EN.restT, EN.kP, EN.gs])
        refine if_cf (by rw [dget_in (hz.resolve_left hk2) (by rw [hul]; exact Nat.le_refl _)]; rfl) ?_
        (repeat fail); (try simp only [EN.fz, EN.ss, EN.back_e, EN.back_v, EN.back_mp, EN.back_ml, EN.back_md, EN.back_mn, EN.mask_e, EN.mask_p, EN.mask_l, EN.mask_d, EN.mask_n, EN.isP, EN.lstO, EN.allP, EN.wipeT, EN.restT, EN.kP, EN.gs])
        exact ⟨_, rfl⟩
  · intro x e hx hI
    obtain ⟨x2, he⟩ := hI
    subst he
    rw [hj] at hx
    cases hx
    with_reducible refine wp_put (by with_unfolding_all rfl) ?_
    refine wx_if1 ?_
    (repeat fail); (try simp only [EN.fz, EN.ss, EN.back_e, EN.back_v, EN.back_mp, EN.back_ml, EN.back_md, EN.back_mn, EN.mask_e, EN.mask_p, EN.mask_l, EN.mask_d, EN.mask_n, EN.isP, EN.lstO, EN.allP, EN.wipeT, EN.restT, EN.kP, EN.gs])
    refine ⟨_, rfl, ?_⟩
    rw [gin_nm hk]
    (repeat fail); (try simp only [EN.fz, EN.ss, EN.back_e, EN.back_v, EN.back_mp, EN.back_ml, EN.back_md, EN.back_mn, EN.mask_e, EN.mask_p, EN.mask_l, EN.mask_d, EN.mask_n, EN.isP, EN.lstO, EN.allP, EN.wipeT, EN.restT, EN.kP, EN.gs])
    refine ⟨by rw [dget_no hs']; rfl, wx_rsW ?_⟩
    (repeat fail); (try simp only [EN.fz, EN.ss, EN.back_e, EN.back_v, EN.back_mp, EN.back_ml, EN.back_md, EN.back_mn, EN.mask_e, EN.mask_p, EN.mask_l, EN.mask_d, EN.mask_n, EN.isP, EN.lstO, EN.allP, EN.wipeT, EN.restT, EN.kP, EN.gs])
    exact ⟨s, rfl, Nat.le_trans hl (by decide), k⟩
theorem first_lack {g : Val → Option Str} : ∀ (ws : List Val) (s : Str) (rest : List Str), ws.filterMap g = s :: rest → ∃ (j : Nat) (x : Val), ws[j]? = some x ∧ g x = some s ∧ ∀ (i : Nat) (y : Val), i < j → ws[i]? = some y → g y = none
  | [], s, rest, h => by simp at h
  | w :: ws, s, rest, h => by
    rw [List.filterMap_cons] at h
    cases z : g w with
    | none =>
      rw [z] at h
      obtain ⟨j, x, h1, h2, h3⟩ := first_lack ws s rest h
      refine ⟨j + 1, x, by simpa using h1, h2, fun i y hi hy => ?_⟩
      cases i with
      | zero =>
        have hy : some w = some y := by simpa using hy
        cases hy; exact z
      | succ i => exact h3 i y (by omega) (by simpa using hy)
    | some t =>
      rw [z] at h
      simp only [List.cons.injEq] at h
      exact ⟨0, w, rfl, by rw [z, h.1], fun i y hi => by omega⟩
theorem no_lack {g : Val → Option Str} {ws : List Val} (h : ws.filterMap g = []) : ∀ x ∈ ws, g x = none := fun x hx => by
  rw [List.filterMap_eq_nil_iff] at h
  exact h x hx
/-- what lacks -/
def lkF (ss fs : List Str) (x : Val) : Option Str := match x with
  | .str s => if s ∈ ss ∧ s ∉ fs then some s else none
  | _ => none
theorem feq_int_strs (n : Int) : ∀ ss : List Str, ((ss.map Val.str).any fun y => feq y (.int n)) = false
  | [] => rfl
  | s :: ss => by rw [List.map_cons, List.any_cons, feq_int_strs n ss]; rfl
theorem wp_inIS {n : Int} {ss : List Str} {Q : Bool → Prop} (k : Q false) : Wp (cmp .inn (.int n) (.lst (ss.map Val.str))) Q := Wp.of (a := false) (by
  show vmem _ _ = _
  unfold vmem
  rw [flat_strs]
  show some _ = _
  rw [feq_int_strs]) k
theorem wp_imp {α : Type} {o : Option α} {P Q : α → Prop} (h : Wp o P) (k : ∀ a, P a → Q a) : Wp o Q := by
  cases o with
  | none => exact h
  | some a => exact k a h
theorem w_seq2 {cl : Nat → List OV → CR} {gl : Nat → Option Val} {pr : List Bool} {env : EN.Env} {s s2 : EN.St} {rest : List EN.St} {Q : EN.Fl → EN.Env → Prop} (M : EN.Env → Prop) (h : Wr (exs cl gl pr [s, s2] env) fun f e => f = .nx ∧ M e) (k : ∀ e, M e → Wr (exs cl gl pr rest e) Q) : Wr (exs cl gl pr (s :: s2 :: rest) env) Q := by
  unfold exs at h ⊢
  cases z : ex cl gl pr s env with
  | no => rw [z] at h; exact h
  | exc x e => rw [z] at h; exact h
  | ok f e =>
    rw [z] at h
    cases f with
    | nx => exact w_seq M (show Wr (exs cl gl pr [s2] e) _ from h) k
    | rt r => exact absurd (show EN.Fl.rt r = EN.Fl.nx ∧ M e from h).1 (by simp)
    | bk => exact absurd (show EN.Fl.bk = EN.Fl.nx ∧ M e from h).1 (by simp)
    | ct => exact absurd (show EN.Fl.ct = EN.Fl.nx ∧ M e from h).1 (by simp)
theorem Sm_ok_of {N M : Str → Prop} : ∀ t : Sm, t.ok N → (∀ s, N s → Val.str s ∈ t.wd → M s) → t.ok M
  | .num _, h, _ => h
  | .nam s, h, k => k s h (by simp [Sm.wd])
  | .o1 o a, h, k => Sm_ok_of a h fun s hs hm => k s hs (by simp [Sm.wd, hm])
  | .o2 o a b, h, k => ⟨Sm_ok_of a h.1 fun s hs hm => k s hs (by simp [Sm.wd, hm]), Sm_ok_of b h.2 fun s hs hm => k s hs (by simp [Sm.wd, hm])⟩
  | .pk a b c, h, k => ⟨Sm_ok_of a h.1 fun s hs hm => k s hs (by simp [Sm.wd, hm]), Sm_ok_of b h.2.1 fun s hs hm => k s hs (by simp [Sm.wd, hm]), Sm_ok_of c h.2.2 fun s hs hm => k s hs (by simp [Sm.wd, hm])⟩
/-- a dict by a function -/
def dv (f : Str → Int) (ss : List Str) : List Val := ss.map fun s => .int (f s)
theorem dv_len {f : Str → Int} {ss : List Str} : (dv f ss).length = ss.length := by unfold dv; rw [List.length_map]
theorem dv_at {f : Str → Int} {ss : List Str} {i : Nat} {s : Str} (h : ss[i]? = some s) : (dv f ss)[i]? = some (.int (f s)) := by
  unfold dv; rw [List.getElem?_map, h]; rfl
theorem nm_dv {f : Str → Int} {ss : List Str} {s : Str} (h : s ∈ ss) (hk : s ∉ kept) : Nm ss (dv f ss) f s := by
  obtain ⟨j, hj⟩ := List.mem_iff_getElem?.mp h
  exact ⟨hk, j, hj, dv_at hj⟩
theorem tell_dv {ss : List Str} {vs : List Int} {f : Str → Int} (hl : vs.length = ss.length) (h : ∀ (i : Nat) (s : Str), ss[i]? = some s → (vs.map Val.int)[i]? = some (.int (f s))) : vs.map Val.int = dv f ss := by
  apply List.ext_getElem?
  intro i
  rcases Nat.lt_or_ge i ss.length with lt | ge
  · have e := List.getElem?_eq_getElem lt
    rw [h i _ e, dv_at e]
  · rw [List.getElem?_eq_none (by simp; omega), List.getElem?_eq_none (by simp [dv]; omega)]
def prs (f : Str → Int) (ss : List Str) : List Val := ss.map fun s => .tup [.str s, .int (f s)]
theorem asPs_prs {f : Str → Int} : ∀ ss : List Str, asPs (prs f ss) = some (ss, dv f ss)
  | [] => rfl
  | s :: ss => by
    have ih := asPs_prs (f := f) ss
    show (asPs (prs f ss)).map _ = _
    rw [ih]; rfl
theorem wp_dictP {f : Str → Int} {ss : List Str} {Q : OV → Prop} (n : ss.Nodup) (k : Q (.d (ss.map .str) (dv f ss))) : Wp (EN.bi .dict [.lst (prs f ss)]) Q :=
  Wp.of (show (match asPs (prs f ss) with
    | some (ks, vs) => if ks.Nodup then some (OV.d (ks.map .str) vs) else none
    | none => none) = some (.d (ss.map .str) (dv f ss)) by rw [asPs_prs]; dsimp only; rw [if_pos n]) k
theorem wp_neDv {f : Str → Int} {ss : List Str} {Q : Bool → Prop} (n : ss.Nodup) (k : Q false) : Wp (cmp .ne (.dct (ss.map .str) (dv f ss)) (.dct (ss.map .str) (dv f ss))) Q := by
  have e : dv f ss = (ss.map f).map Val.int := by unfold dv; rw [List.map_map]; rfl
  rw [e]
  exact wp_neD n (by rw [List.length_map]) k
theorem nm_more {f : Str → Int} {ss : List Str} {q s : Str} {v : Val} (h : s ∈ ss) (hk : s ∉ kept) : Nm (ss ++ [q]) (dv f ss ++ [v]) f s := by
  obtain ⟨j, hj⟩ := List.mem_iff_getElem?.mp h
  have lt := (List.getElem?_eq_some_iff.mp hj).1
  exact ⟨hk, j, by rw [List.getElem?_append_left lt]; exact hj, by rw [List.getElem?_append_left (by rw [dv_len]; exact lt)]; exact dv_at hj⟩

theorem p_worthX {m : Nat} {w : Int} {ws : List Val} {hs : List Str} {us : List Val} {j : Nat} {s : Str} {E : Xc → EN.Env → Prop} (hj : ws[j]? = some (.str s)) (hk : s ∉ kept) (hs' : s ∉ hs) (hl : s.length ≤ 1000) (hul : us.length = hs.length) (hb : ∀ i x, i < j → ws[i]? = some x → (∃ n, x = .int n) ∨ ∃ z, x = .str z ∧ (z ∈ kept ∨ z ∈ hs)) (k : E ⟨3, some s⟩ [none, none, none]) : Wcx (run D gl (m + 2) 5 [.p (.tup ws), .p (.int w), .p (.dct (hs.map .str) us)]) E := by
  with_reducible refine xworth ?_
  unfold bworth
  refine wx_expr (wx_call ?_)
  (repeat fail); (try simp only [EN.fz, EN.ss, EN.back_e, EN.back_v, EN.back_mp, EN.back_ml, EN.back_md, EN.back_mn, EN.mask_e, EN.mask_p, EN.mask_l, EN.mask_d, EN.mask_n, EN.isP, EN.lstO, EN.allP, EN.wipeT, EN.restT, EN.kP, EN.gs])
  refine p_needX hj hk hs' hl hul hb ?_
  (try simp only [EN.fz, EN.ss, EN.back_e, EN.back_v, EN.back_mp, EN.back_ml, EN.back_md, EN.back_mn, EN.mask_e, EN.mask_p, EN.mask_l, EN.mask_d, EN.mask_n, EN.isP, EN.lstO, EN.allP, EN.wipeT, EN.restT, EN.kP, EN.gs])
  exact k
theorem p_refused {m : Nat} {w : Int} {ws : List Val} {hs : List Str} {us : List Val} {j : Nat} {s : Str} {Q : OV → EN.Env → Prop} (hj : ws[j]? = some (.str s)) (hk : s ∉ kept) (hs' : s ∉ hs) (hl : s.length ≤ 1000) (hul : us.length = hs.length) (hb : ∀ i x, i < j → ws[i]? = some x → (∃ n, x = .int n) ∨ ∃ z, x = .str z ∧ (z ∈ kept ∨ z ∈ hs)) (k : Q (.p (.bl true)) [none, none, none, none]) : Wc (run D gl (m + 3) 22 [.p (.tup ws), .p (.int w), .p (.dct (hs.map .str) us), .p (.str s)]) Q := by
  with_reducible refine u_law_refused ?_
  unfold b_law_refused
  (repeat fail); (try simp only [EN.fz, EN.ss, EN.back_e, EN.back_v, EN.back_mp, EN.back_ml, EN.back_md, EN.back_mn, EN.mask_e, EN.mask_p, EN.mask_l, EN.mask_d, EN.mask_n, EN.isP, EN.lstO, EN.allP, EN.wipeT, EN.restT, EN.kP, EN.gs])
  refine w_tryX (wx_expr (wx_call ?_))
  (repeat fail); (try simp only [EN.fz, EN.ss, EN.back_e, EN.back_v, EN.back_mp, EN.back_ml, EN.back_md, EN.back_mn, EN.mask_e, EN.mask_p, EN.mask_l, EN.mask_d, EN.mask_n, EN.isP, EN.lstO, EN.allP, EN.wipeT, EN.restT, EN.kP, EN.gs])
  refine p_worthX hj hk hs' hl hul hb ?_
  (try simp only [EN.fz, EN.ss, EN.back_e, EN.back_v, EN.back_mp, EN.back_ml, EN.back_md, EN.back_mn, EN.mask_e, EN.mask_p, EN.mask_l, EN.mask_d, EN.mask_n, EN.isP, EN.lstO, EN.allP, EN.wipeT, EN.restT, EN.kP, EN.gs])
  refine ⟨by decide, rfl, rfl, ?_⟩
  (repeat fail); (try simp only [EN.fz, EN.ss, EN.back_e, EN.back_v, EN.back_mp, EN.back_ml, EN.back_md, EN.back_mn, EN.mask_e, EN.mask_p, EN.mask_l, EN.mask_d, EN.mask_n, EN.isP, EN.lstO, EN.allP, EN.wipeT, EN.restT, EN.kP, EN.gs])
  exact k
theorem p_right {m : Nat} {cells : List Int} {a : Int} {w : Nat} {ss : List Str} {t : Sm} {Q : OV → EN.Env → Prop} (hc : 0 < ((cells.map Val.int).length : Int)) (w1 : 1 ≤ w) (w2 : w ≤ 60) (nd : ss.Nodup) (n3 : ss.length ≤ 3) (nok : ∀ s ∈ ss, NameOk s) (ht : t.ok (fun s => s ∈ ss ∧ NameOk s)) (hl : t.wd.length ≤ 40) (k : ∀ (cells' : List Int) a', 0 < ((cells'.map Val.int).length : Int) → Q (.p (.bl true)) [some (.nd [.l (cells'.map Val.int), .p (.int a')]), none, none, none]) : Wc (run D gl (m + 7) 23 [.nd [.l (cells.map Val.int), .p (.int a)], .p (.lst (ss.map .str)), .p (.tup t.wd), .p (.int (w : Int))]) Q := by
  with_reducible refine u_law_right ?_
  unfold b_law_right
  (repeat fail); (try simp only [EN.fz, EN.ss, EN.back_e, EN.back_v, EN.back_mp, EN.back_ml, EN.back_md, EN.back_mn, EN.mask_e, EN.mask_p, EN.mask_l, EN.mask_d, EN.mask_n, EN.isP, EN.lstO, EN.allP, EN.wipeT, EN.restT, EN.kP, EN.gs])
  with_reducible refine p_values hc nd n3 (by omega) (by omega) fun vs cells1 a1 hvl hv hc1 => ?_
  rw [Int.toNat_natCast] at hv
  obtain ⟨f, hf⟩ := tell nd hvl
  rw [tell_dv hvl hf]
  have hfr : ∀ s, s ∈ ss → 0 ≤ f s ∧ f s < 2 ^ w := fun s hs => by
    obtain ⟨j, hj⟩ := List.mem_iff_getElem?.mp hs
    obtain ⟨v, h3, h4⟩ := map_get (hf j s hj)
    cases h4
    exact hv _ (mem_get h3)
  have tok : t.ok (Nm ss (dv f ss) f) := Sm.ok_mono (fun s hs => nm_dv hs.1 hs.2.1) t ht
  have nmr : ∀ s, Nm ss (dv f ss) f s → 0 ≤ f s ∧ f s < 2 ^ w := fun s hs => by
    obtain ⟨_, i, h1, _⟩ := hs
    exact hfr s (mem_get h1)
  (repeat fail); (try simp only [EN.fz, EN.ss, EN.back_e, EN.back_v, EN.back_mp, EN.back_ml, EN.back_md, EN.back_mn, EN.mask_e, EN.mask_p, EN.mask_l, EN.mask_d, EN.mask_n, EN.isP, EN.lstO, EN.allP, EN.wipeT, EN.restT, EN.kP, EN.gs])
  with_reducible refine p_worthL rfl w1 (by omega) nd nmr tok (by omega) ?_
  (repeat fail); (try simp only [EN.fz, EN.ss, EN.back_e, EN.back_v, EN.back_mp, EN.back_ml, EN.back_md, EN.back_mn, EN.mask_e, EN.mask_p, EN.mask_l, EN.mask_d, EN.mask_n, EN.isP, EN.lstO, EN.allP, EN.wipeT, EN.restT, EN.kP, EN.gs])
  with_reducible refine p_worthD rfl (by omega) (by omega) nd tok (by omega) ?_
  rw [Int.toNat_natCast]
  (repeat fail); (try simp only [EN.fz, EN.ss, EN.back_e, EN.back_v, EN.back_mp, EN.back_ml, EN.back_md, EN.back_mn, EN.mask_e, EN.mask_p, EN.mask_l, EN.mask_d, EN.mask_n, EN.isP, EN.lstO, EN.allP, EN.wipeT, EN.restT, EN.kP, EN.gs])
  with_reducible refine wp_neDv nd ?_
  (repeat fail); (try simp only [EN.fz, EN.ss, EN.back_e, EN.back_v, EN.back_mp, EN.back_ml, EN.back_md, EN.back_mn, EN.mask_e, EN.mask_p, EN.mask_l, EN.mask_d, EN.mask_n, EN.isP, EN.lstO, EN.allP, EN.wipeT, EN.restT, EN.kP, EN.gs])
  refine wp_imp (P := fun z => ("qqqq" : Str) ∈ ss ∨ (("qqqq" : Str) ∉ ss ∧ z = .d ((ss ++ [("qqqq" : Str)]).map .str) (dv f ss ++ [.int ((1 : Nat) : Int)]))) ?_ fun z hz => ?_
  · by_cases hq : ("qqqq" : Str) ∈ ss
    · obtain ⟨j, hj⟩ := List.mem_iff_getElem?.mp hq
      with_reducible refine wp_sixD nd dv_len (by omega) hj ?_
      exact .inl hq
    · with_reducible refine wp_sixN (by omega) hq ?_
      exact .inr ⟨hq, rfl⟩
  refine w_seq (fun e => ∃ x6, e = [some (.nd [.l (cells1.map Val.int), .p (.int a1)]), some (.p (.lst (ss.map .str))), some (.p (.tup t.wd)), some (.p (.int (w : Int))), some (.p (.dct (ss.map .str) (dv f ss))), some (.p (.int (t.val f w))), x6, some (.p (.int (t.val f w))), none, none, none, none]) ?_ ?_
  · (repeat fail); (try simp only [EN.fz, EN.ss, EN.back_e, EN.back_v, EN.back_mp, EN.back_ml, EN.back_md, EN.back_mn, EN.mask_e, EN.mask_p, EN.mask_l, EN.mask_d, EN.mask_n, EN.isP, EN.lstO, EN.allP, EN.wipeT, EN.restT, EN.kP, EN.gs])
    with_reducible refine wp_notinS ?_
    refine ⟨_, rfl, ?_⟩
    rcases hz with hq | ⟨hq, rfl⟩
    · with_reducible refine ba_no (by simp [hq]) ?_
      (repeat fail); (try simp only [EN.fz, EN.ss, EN.back_e, EN.back_v, EN.back_mp, EN.back_ml, EN.back_md, EN.back_mn, EN.mask_e, EN.mask_p, EN.mask_l, EN.mask_d, EN.mask_n, EN.isP, EN.lstO, EN.allP, EN.wipeT, EN.restT, EN.kP, EN.gs])
      exact ⟨by trivial, _, rfl⟩
    · with_reducible refine ba_go (by simp [hq]) ?_
      (repeat fail); (try simp only [EN.fz, EN.ss, EN.back_e, EN.back_v, EN.back_mp, EN.back_ml, EN.back_md, EN.back_mn, EN.mask_e, EN.mask_p, EN.mask_l, EN.mask_d, EN.mask_n, EN.isP, EN.lstO, EN.allP, EN.wipeT, EN.restT, EN.kP, EN.gs])
      have nq : (ss ++ [("qqqq" : Str)]).Nodup := List.nodup_append.mpr ⟨nd, by simp, fun a ha b hb e => by rw [List.mem_singleton] at hb; subst hb e; exact hq ha⟩
      have tq : t.ok (Nm (ss ++ [("qqqq" : Str)]) (dv f ss ++ [.int ((1 : Nat) : Int)]) f) := Sm.ok_mono (fun s hs => nm_more hs.1 hs.2.1) t ht
      with_reducible refine p_worth rfl (by omega) (by omega) nq tq (by omega) ?_
      rw [Int.toNat_natCast]
      (repeat fail); (try simp only [EN.fz, EN.ss, EN.back_e, EN.back_v, EN.back_mp, EN.back_ml, EN.back_md, EN.back_mn, EN.mask_e, EN.mask_p, EN.mask_l, EN.mask_d, EN.mask_n, EN.isP, EN.lstO, EN.allP, EN.wipeT, EN.restT, EN.kP, EN.gs])
      exact ⟨by trivial, _, rfl⟩
  intro e hI
  obtain ⟨x6, he⟩ := hI
  subst he
  (repeat fail); (try simp only [EN.fz, EN.ss, EN.back_e, EN.back_v, EN.back_mp, EN.back_ml, EN.back_md, EN.back_mn, EN.mask_e, EN.mask_p, EN.mask_l, EN.mask_d, EN.mask_n, EN.isP, EN.lstO, EN.allP, EN.wipeT, EN.restT, EN.kP, EN.gs])
  refine w_lcLoop (fun i acc e => ∃ (fs : List Str) (cells' : List Int) (a' : Int) (x10 : Option OV), fs.Sublist (ss.take i) ∧ acc = prs f fs ∧ 0 < ((cells'.map Val.int).length : Int) ∧ e = [some (.nd [.l (cells'.map Val.int), .p (.int a')]), some (.p (.lst (ss.map .str))), some (.p (.tup t.wd)), some (.p (.int (w : Int))), some (.p (.dct (ss.map .str) (dv f ss))), some (.p (.int (t.val f w))), x6, some (.p (.int (t.val f w))), none, none, x10, none]) ⟨[], _, _, _, by simp, rfl, hc1, rfl⟩ ?_ ?_
  · intro i x acc e hx hI
    obtain ⟨fs, cells2, a2, x10, hsub, ha, hc2, he⟩ := hI
    subst ha he
    obtain ⟨s, hs, rfl⟩ := map_get hx
    have lt := (List.getElem?_eq_some_iff.mp hs).1
    have hfl : fs.length ≤ 3 := Nat.le_trans hsub.length_le (by rw [List.length_take]; omega)
    with_reducible refine wp_put (by with_unfolding_all rfl) ?_
    (repeat fail); (try simp only [EN.fz, EN.ss, EN.back_e, EN.back_v, EN.back_mp, EN.back_ml, EN.back_md, EN.back_mn, EN.mask_e, EN.mask_p, EN.mask_l, EN.mask_d, EN.mask_n, EN.isP, EN.lstO, EN.allP, EN.wipeT, EN.restT, EN.kP, EN.gs])
    with_reducible refine p_take hc2 (by decide) (by decide) fun c cells3 h3 h4 hc3 => ?_
    (repeat fail); (try simp only [EN.fz, EN.ss, EN.back_e, EN.back_v, EN.back_mp, EN.back_ml, EN.back_md, EN.back_mn, EN.mask_e, EN.mask_p, EN.mask_l, EN.mask_d, EN.mask_n, EN.isP, EN.lstO, EN.allP, EN.wipeT, EN.restT, EN.kP, EN.gs])
    with_reducible refine if_dec (fun g => ?_) (fun g => ?_)
    · refine ⟨size_lt (by unfold prs; rw [List.length_map]; omega), ?_⟩
      (repeat fail); (try simp only [EN.fz, EN.ss, EN.back_e, EN.back_v, EN.back_mp, EN.back_ml, EN.back_md, EN.back_mn, EN.mask_e, EN.mask_p, EN.mask_l, EN.mask_d, EN.mask_n, EN.isP, EN.lstO, EN.allP, EN.wipeT, EN.restT, EN.kP, EN.gs])
      with_reducible refine wp_vixD nd hs (dv_at hs) ?_
      (repeat fail); (try simp only [EN.fz, EN.ss, EN.back_e, EN.back_v, EN.back_mp, EN.back_ml, EN.back_md, EN.back_mn, EN.mask_e, EN.mask_p, EN.mask_l, EN.mask_d, EN.mask_n, EN.isP, EN.lstO, EN.allP, EN.wipeT, EN.restT, EN.kP, EN.gs])
      refine ⟨fs ++ [s], _, _, _, ?_, by unfold prs; rw [List.map_append]; rfl, hc3, rfl⟩
      rw [tk_snoc hs]
      exact hsub.append (List.Sublist.refl _)
    · exact ⟨fs, _, _, _, by rw [tk_snoc hs]; exact hsub.trans (List.sublist_append_left _ _), rfl, hc3, rfl⟩
  intro acc e hI
  obtain ⟨fs, cells2, a2, x10, hsub, ha, hc2, he⟩ := hI
  subst ha he
  rw [List.length_map, List.take_length] at hsub
  have fnd : fs.Nodup := List.Nodup.sublist hsub nd
  have fin : ∀ s ∈ fs, s ∈ ss := fun s hs => hsub.subset hs
  (repeat fail); (try simp only [EN.fz, EN.ss, EN.back_e, EN.back_v, EN.back_mp, EN.back_ml, EN.back_md, EN.back_mn, EN.mask_e, EN.mask_p, EN.mask_l, EN.mask_d, EN.mask_n, EN.isP, EN.lstO, EN.allP, EN.wipeT, EN.restT, EN.kP, EN.gs])
  with_reducible refine wp_dictP fnd ?_
  (repeat fail); (try simp only [EN.fz, EN.ss, EN.back_e, EN.back_v, EN.back_mp, EN.back_ml, EN.back_md, EN.back_mn, EN.mask_e, EN.mask_p, EN.mask_l, EN.mask_d, EN.mask_n, EN.isP, EN.lstO, EN.allP, EN.wipeT, EN.restT, EN.kP, EN.gs])
  refine w_lcLoop (fun i acc e => ∃ x11, acc = ((t.wd.take i).filterMap (lkF ss fs)).map Val.str ∧ e = [some (.nd [.l (cells2.map Val.int), .p (.int a2)]), some (.p (.lst (ss.map .str))), some (.p (.tup t.wd)), some (.p (.int (w : Int))), some (.p (.dct (ss.map .str) (dv f ss))), some (.p (.int (t.val f w))), x6, some (.p (.int (t.val f w))), some (.d (fs.map .str) (dv f fs)), none, none, x11]) ⟨_, rfl, rfl⟩ ?_ ?_
  · intro i x acc e hx hI
    obtain ⟨x11, ha, he⟩ := hI
    subst ha he
    have lt := (List.getElem?_eq_some_iff.mp hx).1
    have tk : (t.wd.take (i + 1)).filterMap (lkF ss fs) = (t.wd.take i).filterMap (lkF ss fs) ++ [x].filterMap (lkF ss fs) := by rw [List.take_add_one, hx, List.filterMap_append]; rfl
    have sz : (((t.wd.take i).filterMap (lkF ss fs)).map Val.str).length < sizeLine := size_lt (by
      rw [List.length_map]
      refine Nat.le_trans (List.length_filterMap_le _ _) ?_
      rw [List.length_take]; omega)
    with_reducible refine wp_put (by with_unfolding_all rfl) ?_
    rcases t.wok ht x (mem_get hx) with ⟨n, rfl⟩ | ⟨s, rfl, hs⟩
    · (repeat fail); (try simp only [EN.fz, EN.ss, EN.back_e, EN.back_v, EN.back_mp, EN.back_ml, EN.back_md, EN.back_mn, EN.mask_e, EN.mask_p, EN.mask_l, EN.mask_d, EN.mask_n, EN.isP, EN.lstO, EN.allP, EN.wipeT, EN.restT, EN.kP, EN.gs])
      with_reducible refine wp_inIS ?_
      (repeat fail); (try simp only [EN.fz, EN.ss, EN.back_e, EN.back_v, EN.back_mp, EN.back_ml, EN.back_md, EN.back_mn, EN.mask_e, EN.mask_p, EN.mask_l, EN.mask_d, EN.mask_n, EN.isP, EN.lstO, EN.allP, EN.wipeT, EN.restT, EN.kP, EN.gs])
      exact ⟨_, by rw [tk]; show _ = ((_ ++ []).map Val.str); rw [List.append_nil], rfl⟩
    · (repeat fail); (try simp only [EN.fz, EN.ss, EN.back_e, EN.back_v, EN.back_mp, EN.back_ml, EN.back_md, EN.back_mn, EN.mask_e, EN.mask_p, EN.mask_l, EN.mask_d, EN.mask_n, EN.isP, EN.lstO, EN.allP, EN.wipeT, EN.restT, EN.kP, EN.gs])
      with_reducible refine wp_inS ?_
      refine ⟨_, rfl, ?_⟩
      by_cases hss : s ∈ ss
      · with_reducible refine ba_go (decide_eq_true hss) ?_
        (repeat fail); (try simp only [EN.fz, EN.ss, EN.back_e, EN.back_v, EN.back_mp, EN.back_ml, EN.back_md, EN.back_mn, EN.mask_e, EN.mask_p, EN.mask_l, EN.mask_d, EN.mask_n, EN.isP, EN.lstO, EN.allP, EN.wipeT, EN.restT, EN.kP, EN.gs])
        by_cases hfs : s ∈ fs
        · refine if_cf (by rw [dget_in hfs (by rw [dv_len]; exact Nat.le_refl _)]; rfl) ?_
          exact ⟨_, by rw [tk]; simp [lkF, hss, hfs], rfl⟩
        · refine if_ct (by rw [dget_no hfs]; rfl) ?_
          refine ⟨sz, ?_⟩
          (repeat fail); (try simp only [EN.fz, EN.ss, EN.back_e, EN.back_v, EN.back_mp, EN.back_ml, EN.back_md, EN.back_mn, EN.mask_e, EN.mask_p, EN.mask_l, EN.mask_d, EN.mask_n, EN.isP, EN.lstO, EN.allP, EN.wipeT, EN.restT, EN.kP, EN.gs])
          exact ⟨_, by rw [tk]; simp [lkF, hss, hfs], rfl⟩
      · with_reducible refine ba_no (decide_eq_false hss) ?_
        (repeat fail); (try simp only [EN.fz, EN.ss, EN.back_e, EN.back_v, EN.back_mp, EN.back_ml, EN.back_md, EN.back_mn, EN.mask_e, EN.mask_p, EN.mask_l, EN.mask_d, EN.mask_n, EN.isP, EN.lstO, EN.allP, EN.wipeT, EN.restT, EN.kP, EN.gs])
        exact ⟨_, by rw [tk]; simp [lkF, hss], rfl⟩
  intro acc e hI
  obtain ⟨x11, ha, he⟩ := hI
  subst ha he
  rw [List.take_length]
  (repeat fail); (try simp only [EN.fz, EN.ss, EN.back_e, EN.back_v, EN.back_mp, EN.back_ml, EN.back_md, EN.back_mn, EN.mask_e, EN.mask_p, EN.mask_l, EN.mask_d, EN.mask_n, EN.isP, EN.lstO, EN.allP, EN.wipeT, EN.restT, EN.kP, EN.gs])
  have lkin : ∀ x s, lkF ss fs x = some s → x = .str s ∧ s ∈ ss ∧ s ∉ fs := fun x s h => by
    unfold lkF at h
    split at h
    · rename_i z
      by_cases g : z ∈ ss ∧ z ∉ fs
      · rw [if_pos g] at h; cases h; exact ⟨rfl, g⟩
      · rw [if_neg g] at h; cases h
    · cases h
  have lkno : ∀ s, s ∈ ss → lkF ss fs (.str s) = none → s ∈ fs := fun s h1 h2 => by
    by_cases g : s ∈ fs
    · exact g
    · have e : lkF ss fs (.str s) = some s := if_pos ⟨h1, g⟩
      rw [e] at h2; cases h2
  have skf : Sok (t.wd.filterMap (lkF ss fs)) := fun s hs => by
    obtain ⟨x, _, h2⟩ := List.mem_filterMap.mp hs
    exact sok_kn (.inr (nok s (lkin x s h2).2.1))
  with_reducible refine wp_neL0 skf ?_
  cases hz : t.wd.filterMap (lkF ss fs) with
  | cons s rest =>
    obtain ⟨j, x, h1, h2, h3⟩ := first_lack _ _ _ hz
    obtain ⟨rfl, i1, i2⟩ := lkin x s h2
    have nk : s ∉ kept := (nok s i1).1
    have sl : s.length ≤ 1000 := by have := (nok s i1).2.2.1; omega
    have bef : ∀ i x, i < j → t.wd[i]? = some x → (∃ n, x = .int n) ∨ ∃ z, x = .str z ∧ (z ∈ kept ∨ z ∈ fs) := fun i y hi hy => by
      rcases t.wok ht y (mem_get hy) with ⟨n, rfl⟩ | ⟨z, rfl, hz2⟩
      · exact .inl ⟨n, rfl⟩
      · refine .inr ⟨z, rfl, ?_⟩
        rcases hz2 with hz2 | hz2
        · exact .inl hz2
        · exact .inr (lkno z hz2.1 (h3 i _ hi hy))
    refine if_ct (by simp) ?_
    (repeat fail); (try simp only [EN.fz, EN.ss, EN.back_e, EN.back_v, EN.back_mp, EN.back_ml, EN.back_md, EN.back_mn, EN.mask_e, EN.mask_p, EN.mask_l, EN.mask_d, EN.mask_n, EN.isP, EN.lstO, EN.allP, EN.wipeT, EN.restT, EN.kP, EN.gs])
    with_reducible refine p_refused h1 nk i2 sl dv_len bef ?_
    (repeat fail); (try simp only [EN.fz, EN.ss, EN.back_e, EN.back_v, EN.back_mp, EN.back_ml, EN.back_md, EN.back_mn, EN.mask_e, EN.mask_p, EN.mask_l, EN.mask_d, EN.mask_n, EN.isP, EN.lstO, EN.allP, EN.wipeT, EN.restT, EN.kP, EN.gs])
    exact k _ _ hc2
  | nil =>
    have fok : t.ok (Nm fs (dv f fs) f) := Sm_ok_of t ht fun s hs hm => nm_dv (lkno s hs.1 (no_lack hz _ hm)) hs.2.1
    (repeat fail); (try simp only [EN.fz, EN.ss, EN.back_e, EN.back_v, EN.back_mp, EN.back_ml, EN.back_md, EN.back_mn, EN.mask_e, EN.mask_p, EN.mask_l, EN.mask_d, EN.mask_n, EN.isP, EN.lstO, EN.allP, EN.wipeT, EN.restT, EN.kP, EN.gs])
    with_reducible refine p_worth rfl (by omega) (by omega) fnd fok (by omega) ?_
    rw [Int.toNat_natCast]
    (repeat fail); (try simp only [EN.fz, EN.ss, EN.back_e, EN.back_v, EN.back_mp, EN.back_ml, EN.back_md, EN.back_mn, EN.mask_e, EN.mask_p, EN.mask_l, EN.mask_d, EN.mask_n, EN.isP, EN.lstO, EN.allP, EN.wipeT, EN.restT, EN.kP, EN.gs])
    exact k _ _ hc2
theorem law_true (ns : List Int) (h : ns.length ≤ 63) : run D gl 8 24 [.p (.scr (ns.map .int))] = .ok (.p (.bl true)) [none] := by
  obtain ⟨r, e, h1, h2⟩ := Wc.get (Q := fun r e => r = .p (.bl true) ∧ e = [none]) (x := run D gl 8 24 [.p (.scr (ns.map .int))]) (by
    apply ulaw
    unfold blaw
    (repeat fail); (try simp only [EN.fz, EN.ss, EN.back_e, EN.back_v, EN.back_mp, EN.back_ml, EN.back_md, EN.back_mn, EN.mask_e, EN.mask_p, EN.mask_l, EN.mask_d, EN.mask_n, EN.isP, EN.lstO, EN.allP, EN.wipeT, EN.restT, EN.kP, EN.gs])
    refine p_deck h fun cells1 hc1 => ?_
    (repeat fail); (try simp only [EN.fz, EN.ss, EN.back_e, EN.back_v, EN.back_mp, EN.back_ml, EN.back_md, EN.back_mn, EN.mask_e, EN.mask_p, EN.mask_l, EN.mask_d, EN.mask_n, EN.isP, EN.lstO, EN.allP, EN.wipeT, EN.restT, EN.kP, EN.gs])
    refine p_namesN hc1 fun ss cells2 a2 n1 n3 nd nok hc2 => ?_
    (repeat fail); (try simp only [EN.fz, EN.ss, EN.back_e, EN.back_v, EN.back_mp, EN.back_ml, EN.back_md, EN.back_mn, EN.mask_e, EN.mask_p, EN.mask_l, EN.mask_d, EN.mask_n, EN.isP, EN.lstO, EN.allP, EN.wipeT, EN.restT, EN.kP, EN.gs])
    have hN : ∀ s ∈ ss, s ∈ ss ∧ NameOk s := fun s hs => ⟨hs, nok s hs⟩
    refine w_loopL (fun i e => ∃ (o2 : OV) (cells' : List Int) (a' : Int) (x3 x4 x5 : Option OV), (o2 = .l (ss.map .str) ∨ o2 = .p (.lst (ss.map .str))) ∧ 0 < ((cells'.map Val.int).length : Int) ∧ e = [some (.p (.scr (ns.map .int))), some (.nd [.l (cells'.map Val.int), .p (.int a')]), some o2, x3, x4, x5]) rfl ⟨_, _, _, _, _, _, .inl rfl, hc2, rfl⟩ ?_ ?_
    · intro i x e hx hI
      obtain ⟨o2, cells3, a3, x3, x4, x5, ho, hc3, he⟩ := hI
      subst he
      obtain ⟨mst, rfl, m1, m2⟩ : ∃ mst : Int, x = .int mst ∧ 1 ≤ mst ∧ mst ≤ 40 := by
        rcases i with _ | _ | _ | i
        · cases hx; exact ⟨_, rfl, by decide, by decide⟩
        · cases hx; exact ⟨_, rfl, by decide, by decide⟩
        · cases hx; exact ⟨_, rfl, by decide, by decide⟩
        · simp at hx
      refine w_seq (fun e => ∃ (t : Sm) (cells' : List Int) (a' : Int) (x3 x5 : Option OV), t.ok (fun s => s ∈ ss ∧ NameOk s) ∧ t.wd.length ≤ 40 ∧ 0 < ((cells'.map Val.int).length : Int) ∧ e = [some (.p (.scr (ns.map .int))), some (.nd [.l (cells'.map Val.int), .p (.int a')]), some (.p (.lst (ss.map .str))), x3, some (.p (.tup t.wd)), x5]) ?_ ?_
      · rcases ho with rfl | rfl <;> (
          (repeat fail); (try simp only [EN.fz, EN.ss, EN.back_e, EN.back_v, EN.back_mp, EN.back_ml, EN.back_md, EN.back_mn, EN.mask_e, EN.mask_p, EN.mask_l, EN.mask_d, EN.mask_n, EN.isP, EN.lstO, EN.allP, EN.wipeT, EN.restT, EN.kP, EN.gs])
          refine p_sum hc3 m1 (by omega) n1 n3 hN fun t cells4 a4 h4 ht hl hc4 => ?_
          (repeat fail); (try simp only [EN.fz, EN.ss, EN.back_e, EN.back_v, EN.back_mp, EN.back_ml, EN.back_md, EN.back_mn, EN.mask_e, EN.mask_p, EN.mask_l, EN.mask_d, EN.mask_n, EN.isP, EN.lstO, EN.allP, EN.wipeT, EN.restT, EN.kP, EN.gs])
          exact ⟨by trivial, t, _, _, _, _, ht, by omega, hc4, rfl⟩)
      · intro e hI
        obtain ⟨t, cells4, a4, x3, x5, ht, hl, hc4, he⟩ := hI
        subst he
        (repeat fail); (try simp only [EN.fz, EN.ss, EN.back_e, EN.back_v, EN.back_mp, EN.back_ml, EN.back_md, EN.back_mn, EN.mask_e, EN.mask_p, EN.mask_l, EN.mask_d, EN.mask_n, EN.isP, EN.lstO, EN.allP, EN.wipeT, EN.restT, EN.kP, EN.gs])
        refine w_loopR (fun i e => ∃ (cells' : List Int) (a' : Int) (x5 : Option OV), 0 < ((cells'.map Val.int).length : Int) ∧ e = [some (.p (.scr (ns.map .int))), some (.nd [.l (cells'.map Val.int), .p (.int a')]), some (.p (.lst (ss.map .str))), x3, some (.p (.tup t.wd)), x5]) rfl ⟨_, _, _, hc4, rfl⟩ ?_ ?_
        · intro i e hi hI
          obtain ⟨cells5, a5, x5', hc5, he⟩ := hI
          subst he
          (repeat fail); (try simp only [EN.fz, EN.ss, EN.back_e, EN.back_v, EN.back_mp, EN.back_ml, EN.back_md, EN.back_mn, EN.mask_e, EN.mask_p, EN.mask_l, EN.mask_d, EN.mask_n, EN.isP, EN.lstO, EN.allP, EN.wipeT, EN.restT, EN.kP, EN.gs])
          refine p_width hc5 fun wa cells6 a6 wa1 wa2 hc6 => ?_
          obtain ⟨w, rfl⟩ : ∃ w : Nat, wa = w := ⟨wa.toNat, by omega⟩
          (repeat fail); (try simp only [EN.fz, EN.ss, EN.back_e, EN.back_v, EN.back_mp, EN.back_ml, EN.back_md, EN.back_mn, EN.mask_e, EN.mask_p, EN.mask_l, EN.mask_d, EN.mask_n, EN.isP, EN.lstO, EN.allP, EN.wipeT, EN.restT, EN.kP, EN.gs])
          with_reducible refine p_right hc6 (by omega) (by omega) nd n3 nok ht hl fun cells7 a7 hc7 => ?_
          (repeat fail); (try simp only [EN.fz, EN.ss, EN.back_e, EN.back_v, EN.back_mp, EN.back_ml, EN.back_md, EN.back_mn, EN.mask_e, EN.mask_p, EN.mask_l, EN.mask_d, EN.mask_n, EN.isP, EN.lstO, EN.allP, EN.wipeT, EN.restT, EN.kP, EN.gs])
          exact ⟨_, _, _, hc7, rfl⟩
        · intro e hI
          obtain ⟨cells5, a5, x5', hc5, he⟩ := hI
          subst he
          (repeat fail); (try simp only [EN.fz, EN.ss, EN.back_e, EN.back_v, EN.back_mp, EN.back_ml, EN.back_md, EN.back_mn, EN.mask_e, EN.mask_p, EN.mask_l, EN.mask_d, EN.mask_n, EN.isP, EN.lstO, EN.allP, EN.wipeT, EN.restT, EN.kP, EN.gs])
          exact ⟨_, _, _, _, _, _, .inr rfl, hc5, rfl⟩
    · intro e hI
      obtain ⟨o2, cells3, a3, x3, x4, x5, ho, hc3, he⟩ := hI
      subst he
      rcases ho with rfl | rfl <;> (
        (repeat fail); (try simp only [EN.fz, EN.ss, EN.back_e, EN.back_v, EN.back_mp, EN.back_ml, EN.back_md, EN.back_mn, EN.mask_e, EN.mask_p, EN.mask_l, EN.mask_d, EN.mask_n, EN.isP, EN.lstO, EN.allP, EN.wipeT, EN.restT, EN.kP, EN.gs])
        exact ⟨by trivial, by trivial⟩))
  rw [h1, h2.1, h2.2]
end Law

namespace Law
open PySem L2
def top (i : Nat) : Stmt := PySem.Challenge.pw_everywidth_k07_worths.main.body.getD i (.Pass ⟨0, 0, 0, 0⟩)
def nwords_at : List PySem.Str := ["width", "found", "place"]
def pwords_at : List EN.SP := [⟨⟨3, 4, 3, 13⟩, [(4, 9), (12, 13)], none⟩, ⟨⟨4, 4, 5, 25⟩, [(8, 13), (17, 29), (17, 22), (23, 28)], none⟩, ⟨⟨5, 8, 5, 25⟩, [(8, 13), (16, 25), (16, 17), (20, 25)], none⟩, ⟨⟨6, 4, 6, 16⟩, [(11, 16)], none⟩]
def ncut : List PySem.Str := ["number", "width"]
def pcut : List EN.SP := [⟨⟨8, 4, 8, 35⟩, [(11, 35), (11, 17), (20, 35), (20, 28), (29, 34)], none⟩]
def nneed_names : List PySem.Str := ["words", "values", "word"]
def pneed_names : List EN.SP := [⟨⟨33, 4, 35, 30⟩, [(8, 12), (16, 21)], none⟩, ⟨⟨34, 8, 35, 30⟩, [(11, 79), (11, 32), (11, 21), (22, 26), (28, 31), (37, 54), (37, 41), (49, 54), (60, 78), (60, 64), (72, 78)], none⟩, ⟨⟨35, 12, 35, 30⟩, [(18, 30), (18, 24), (25, 29)], none⟩]
def nmade : List PySem.Str := ["word", "some", "width", "one", "other"]
def pmade : List EN.SP := [⟨⟨37, 4, 37, 17⟩, [(4, 7), (10, 17), (10, 14), (15, 16)], none⟩, ⟨⟨38, 4, 39, 35⟩, [(7, 20), (7, 11), (15, 20)], none⟩, ⟨⟨39, 8, 39, 35⟩, [(15, 35), (15, 18), (19, 27), (19, 21), (20, 21), (24, 27), (29, 34)], none⟩, ⟨⟨40, 4, 41, 31⟩, [(7, 20), (7, 11), (15, 20)], none⟩, ⟨⟨41, 8, 41, 31⟩, [(15, 31), (15, 18), (19, 23), (20, 23), (25, 30)], none⟩, ⟨⟨42, 4, 43, 34⟩, [(7, 22), (7, 11), (15, 22)], none⟩, ⟨⟨43, 8, 43, 34⟩, [(15, 34), (15, 18), (19, 26), (19, 20), (23, 26), (28, 33)], none⟩, ⟨⟨44, 4, 45, 25⟩, [(7, 20), (7, 11), (15, 20)], none⟩, ⟨⟨45, 8, 45, 25⟩, [(15, 25), (15, 18), (21, 25), (22, 25)], none⟩, ⟨⟨46, 4, 46, 19⟩, [(4, 9), (12, 19), (12, 16), (17, 18)], none⟩, ⟨⟨47, 4, 48, 26⟩, [(7, 20), (7, 11), (15, 20)], none⟩, ⟨⟨48, 8, 48, 26⟩, [(15, 26), (15, 18), (21, 26)], none⟩, ⟨⟨49, 4, 50, 26⟩, [(7, 19), (7, 11), (15, 19)], none⟩, ⟨⟨50, 8, 50, 26⟩, [(15, 26), (15, 18), (21, 26)], none⟩, ⟨⟨51, 4, 52, 26⟩, [(7, 20), (7, 11), (15, 20)], none⟩, ⟨⟨52, 8, 52, 26⟩, [(15, 26), (15, 18), (21, 26)], none⟩, ⟨⟨53, 4, 54, 38⟩, [(7, 20), (7, 11), (15, 20)], none⟩, ⟨⟨54, 8, 54, 38⟩, [(15, 38), (15, 18), (19, 30), (19, 22), (25, 30), (32, 37)], none⟩, ⟨⟨55, 4, 56, 38⟩, [(7, 20), (7, 11), (15, 20)], none⟩, ⟨⟨56, 8, 56, 38⟩, [(15, 38), (15, 18), (19, 30), (19, 22), (25, 30), (32, 37)], none⟩, ⟨⟨57, 4, 57, 55⟩, [(11, 55), (11, 22), (11, 14), (17, 22), (25, 55), (25, 45), (25, 28), (29, 37), (29, 31), (30, 31), (34, 37), (39, 44), (48, 55), (48, 52), (53, 54)], none⟩]
def nworth_of : List PySem.Str := ["word", "pile", "width", "values", "part"]
def pworth_of : List EN.SP := [⟨⟨59, 4, 60, 31⟩, [(7, 32), (11, 32), (11, 21), (22, 26), (28, 31)], none⟩, ⟨⟨60, 8, 60, 31⟩, [(15, 31), (15, 18), (19, 23), (25, 30)], none⟩, ⟨⟨61, 4, 62, 27⟩, [(7, 24), (7, 11), (19, 24)], none⟩, ⟨⟨62, 8, 62, 27⟩, [(15, 27), (15, 21), (22, 26)], none⟩, ⟨⟨63, 4, 63, 66⟩, [(11, 66), (11, 15), (16, 20), (22, 58), (23, 33), (23, 31), (23, 27), (38, 42), (46, 57), (46, 51), (52, 56), (60, 65)], none⟩]
def nworth : List PySem.Str := ["words", "width", "values", "pile", "word"]
def pworth : List EN.SP := [⟨⟨65, 4, 65, 29⟩, [(4, 29), (4, 14), (15, 20), (22, 28)], none⟩, ⟨⟨66, 4, 66, 13⟩, [(4, 8), (11, 13)], none⟩, ⟨⟨67, 4, 68, 56⟩, [(8, 12), (16, 31), (16, 24), (25, 30)], none⟩, ⟨⟨68, 8, 68, 56⟩, [(8, 56), (8, 19), (8, 12), (20, 55), (20, 28), (29, 33), (35, 39), (41, 46), (48, 54)], none⟩, ⟨⟨69, 4, 69, 18⟩, [(11, 18), (11, 15), (16, 17)], none⟩]
def n_law_deck : List PySem.Str := ["script", "cells", "k", "mixed"]
def p_law_deck : List EN.SP := [⟨⟨72, 4, 72, 39⟩, [(4, 9), (12, 39), (12, 23), (19, 22), (12, 18), (20, 22), (26, 39), (27, 38), (27, 30), (31, 37)], none⟩, ⟨⟨73, 4, 77, 78⟩, [(7, 32), (7, 27), (7, 23), (7, 10), (11, 22), (18, 21), (11, 17), (19, 21), (26, 27), (31, 32)], none⟩, ⟨⟨74, 8, 77, 78⟩, [(12, 13), (17, 34), (17, 22), (23, 33), (23, 26), (27, 32)], none⟩, ⟨⟨75, 12, 75, 79⟩, [(12, 17), (20, 79), (20, 66), (21, 57), (21, 52), (21, 42), (21, 29), (21, 26), (27, 28), (32, 42), (45, 52), (45, 48), (51, 52), (55, 57), (61, 66), (69, 79)], none⟩, ⟨⟨76, 12, 76, 78⟩, [(12, 17), (20, 78), (20, 65), (20, 57), (21, 43), (21, 34), (21, 26), (29, 34), (37, 43), (37, 39), (42, 43), (47, 57), (60, 65), (68, 78)], none⟩, ⟨⟨77, 12, 77, 78⟩, [(12, 20), (12, 17), (18, 19), (23, 78), (23, 49), (23, 36), (23, 28), (31, 36), (39, 49), (52, 78), (52, 65), (52, 57), (60, 65), (68, 78)], none⟩, ⟨⟨78, 4, 78, 21⟩, [(11, 21), (12, 17), (19, 20)], none⟩]
def n_law_take : List PySem.Str := ["deck", "many", "at", "cell"]
def p_law_take : List EN.SP := [⟨⟨80, 4, 80, 31⟩, [(4, 6), (9, 31), (9, 16), (9, 13), (14, 15), (19, 31), (19, 22), (23, 30), (23, 27), (28, 29)], none⟩, ⟨⟨81, 4, 81, 25⟩, [(4, 11), (4, 8), (9, 10), (14, 25), (14, 21), (14, 18), (19, 20), (24, 25)], none⟩, ⟨⟨82, 4, 82, 22⟩, [(4, 8), (11, 22), (11, 18), (11, 15), (16, 17), (19, 21)], none⟩, ⟨⟨83, 4, 83, 30⟩, [(4, 15), (4, 11), (4, 8), (9, 10), (12, 14), (18, 30), (18, 22), (26, 30)], none⟩, ⟨⟨84, 4, 84, 22⟩, [(11, 22), (11, 15), (18, 22)], none⟩]
def n_law_power : List PySem.Str := ["width", "number", "k"]
def p_law_power : List EN.SP := [⟨⟨86, 4, 86, 14⟩, [(4, 10), (13, 14)], none⟩, ⟨⟨87, 4, 88, 32⟩, [(8, 9), (13, 25), (13, 18), (19, 24)], none⟩, ⟨⟨88, 8, 88, 32⟩, [(8, 14), (17, 32), (17, 23), (26, 32)], none⟩, ⟨⟨89, 4, 89, 17⟩, [(11, 17)], none⟩]
def n_law_width : List PySem.Str := ["deck"]
def p_law_width : List EN.SP := [⟨⟨91, 4, 91, 79⟩, [(11, 79), (11, 59), (12, 13), (15, 16), (18, 19), (21, 22), (24, 25), (27, 29), (31, 33), (35, 58), (35, 36), (39, 58), (39, 48), (49, 53), (55, 57), (60, 78), (60, 69), (70, 74), (76, 77)], none⟩]
def n_law_kept : List PySem.Str := ["some"]
def p_law_kept : List EN.SP := [⟨⟨93, 4, 93, 83⟩, [(4, 8), (11, 83), (12, 17), (19, 24), (26, 33), (35, 40), (42, 47), (49, 53), (55, 60), (62, 67), (69, 74), (76, 82)], none⟩, ⟨⟨94, 4, 94, 104⟩, [(11, 104), (11, 15), (18, 104), (19, 25), (27, 34), (36, 45), (47, 53), (55, 63), (65, 71), (73, 81), (83, 87), (89, 96), (98, 103)], none⟩]
def n_law_names : List PySem.Str := ["deck", "letters", "k", "base", "at", "names", "place", "name", "one"]
def p_law_names : List EN.SP := [⟨⟨96, 4, 96, 42⟩, [(4, 11), (14, 42)], none⟩, ⟨⟨97, 4, 97, 89⟩, [(4, 8), (11, 89), (11, 18), (11, 13), (19, 88), (20, 48), (20, 27), (28, 47), (28, 37), (38, 42), (44, 46), (53, 54), (58, 87), (58, 63), (64, 86), (64, 65), (68, 86), (68, 77), (78, 82), (84, 85)], none⟩, ⟨⟨98, 4, 98, 35⟩, [(4, 6), (9, 35), (9, 18), (19, 23), (25, 34), (25, 28), (29, 33)], none⟩, ⟨⟨99, 4, 99, 14⟩, [(4, 9), (12, 14)], none⟩, ⟨⟨100, 4, 109, 26⟩, [(8, 9), (13, 42), (13, 18), (19, 41), (19, 20), (23, 41), (23, 32), (33, 37), (39, 40)], none⟩, ⟨⟨101, 8, 101, 47⟩, [(8, 13), (16, 47), (16, 39), (16, 29), (16, 23), (30, 38), (30, 34), (35, 37), (42, 47), (42, 43), (46, 47)], none⟩, ⟨⟨102, 8, 102, 62⟩, [(8, 12), (15, 62), (15, 46), (15, 24), (20, 23), (15, 19), (21, 23), (27, 46), (27, 34), (35, 45), (35, 40), (43, 45), (49, 62), (54, 61), (49, 53), (54, 60), (54, 56), (59, 60)], none⟩, ⟨⟨103, 8, 104, 88⟩, [(11, 21), (11, 16), (11, 12), (15, 16), (20, 21)], none⟩, ⟨⟨104, 12, 104, 88⟩, [(12, 16), (19, 88), (19, 67), (20, 55), (20, 24), (27, 55), (27, 34), (35, 54), (35, 44), (45, 49), (51, 53), (57, 66), (62, 65), (57, 61), (63, 65), (64, 65), (68, 87), (68, 71), (72, 86), (72, 81), (72, 75), (76, 80), (85, 86)], none⟩, ⟨⟨105, 8, 106, 82⟩, [(11, 34), (11, 29), (11, 20), (21, 25), (27, 28), (33, 34)], none⟩, ⟨⟨106, 12, 106, 82⟩, [(12, 16), (19, 82), (19, 51), (19, 30), (19, 28), (31, 50), (31, 40), (41, 45), (47, 49), (54, 82), (54, 61), (62, 81), (62, 71), (72, 76), (78, 80)], none⟩, ⟨⟨107, 8, 108, 83⟩, [(11, 38), (11, 15), (19, 38), (19, 24), (27, 38), (27, 36)], none⟩, ⟨⟨108, 12, 108, 83⟩, [(12, 16), (19, 83), (19, 80), (20, 23), (28, 31), (35, 59), (36, 40), (42, 46), (48, 52), (54, 58), (63, 79), (63, 66), (74, 79), (81, 82)], none⟩, ⟨⟨109, 8, 109, 26⟩, [(8, 26), (8, 20), (8, 13), (21, 25)], none⟩, ⟨⟨110, 4, 110, 16⟩, [(11, 16)], none⟩]
def n_law_leaf : List PySem.Str := ["deck", "names", "kind"]
def p_law_leaf : List EN.SP := [⟨⟨112, 4, 112, 29⟩, [(4, 8), (11, 29), (11, 20), (21, 25), (27, 28)], none⟩, ⟨⟨113, 4, 114, 49⟩, [(7, 15), (7, 11), (14, 15)], none⟩, ⟨⟨114, 8, 114, 49⟩, [(15, 49), (15, 20), (21, 48), (21, 30), (31, 35), (37, 47), (37, 40), (41, 46)], none⟩, ⟨⟨115, 4, 115, 106⟩, [(11, 106), (11, 96), (12, 30), (12, 21), (22, 26), (28, 29), (32, 95), (32, 75), (33, 54), (33, 42), (43, 47), (49, 53), (56, 59), (61, 64), (66, 69), (71, 74), (76, 94), (76, 85), (86, 90), (92, 93), (97, 105), (97, 101), (104, 105)], none⟩]
def n_law_sum : List PySem.Str := ["deck", "names", "most", "heavy", "words", "due", "room", "kind", "word", "many"]
def p_law_sum : List EN.SP := [⟨⟨117, 4, 117, 14⟩, [(4, 9), (12, 14)], none⟩, ⟨⟨118, 4, 118, 11⟩, [(4, 7), (10, 11)], none⟩, ⟨⟨119, 4, 132, 28⟩, [(10, 17), (10, 13), (16, 17)], none⟩, ⟨⟨120, 8, 120, 38⟩, [(8, 12), (15, 38), (15, 32), (15, 19), (22, 32), (22, 25), (26, 31), (35, 38)], none⟩, ⟨⟨121, 8, 121, 34⟩, [(8, 12), (15, 34), (15, 24), (25, 29), (31, 33)], none⟩, ⟨⟨122, 8, 122, 97⟩, [(8, 12), (15, 97), (15, 91), (16, 22), (24, 29), (31, 35), (37, 42), (44, 49), (51, 56), (58, 63), (65, 70), (72, 79), (81, 86), (88, 90), (92, 96)], none⟩, ⟨⟨123, 8, 123, 55⟩, [(8, 12), (15, 55), (15, 49), (16, 17), (19, 20), (22, 23), (25, 26), (28, 29), (31, 32), (34, 35), (37, 38), (40, 41), (43, 44), (46, 48), (50, 54)], none⟩, ⟨⟨124, 8, 125, 49⟩, [(11, 56), (11, 15), (19, 56), (20, 25), (27, 32), (34, 39), (41, 48), (50, 55)], none⟩, ⟨⟨125, 12, 125, 49⟩, [(12, 16), (19, 49), (19, 23), (26, 49), (26, 28), (31, 49), (31, 34), (35, 48), (35, 43), (35, 40), (41, 42), (47, 48)], none⟩, ⟨⟨126, 8, 131, 84⟩, [(11, 22), (11, 15), (18, 22)], none⟩, ⟨⟨127, 12, 127, 48⟩, [(12, 48), (12, 24), (12, 17), (25, 47), (25, 34), (35, 39), (41, 46)], none⟩, ⟨⟨128, 12, 128, 20⟩, [(12, 16), (19, 20)], none⟩, ⟨⟨130, 12, 130, 30⟩, [(12, 30), (12, 24), (12, 17), (25, 29)], none⟩, ⟨⟨131, 12, 131, 84⟩, [(12, 20), (12, 17), (18, 19), (23, 84), (23, 31), (23, 28), (29, 30), (34, 84), (34, 37), (38, 83), (38, 42), (46, 83), (47, 52), (54, 59), (61, 66), (68, 75), (77, 82)], none⟩, ⟨⟨132, 8, 132, 28⟩, [(8, 11), (14, 28), (14, 21), (14, 17), (20, 21), (24, 28)], none⟩, ⟨⟨133, 4, 133, 23⟩, [(11, 23), (11, 16), (17, 22)], none⟩]
def n_law_bits : List PySem.Str := ["number", "width", "found", "k"]
def p_law_bits : List EN.SP := [⟨⟨135, 4, 135, 14⟩, [(4, 9), (12, 14)], none⟩, ⟨⟨136, 4, 138, 28⟩, [(8, 9), (13, 25), (13, 18), (19, 24)], none⟩, ⟨⟨137, 8, 137, 32⟩, [(8, 32), (8, 20), (8, 13), (21, 31), (21, 27), (30, 31)], none⟩, ⟨⟨138, 8, 138, 28⟩, [(8, 14), (17, 28), (17, 23), (27, 28)], none⟩, ⟨⟨139, 4, 139, 16⟩, [(11, 16)], none⟩]
def n_law_added : List PySem.Str := ["one", "other", "carry", "found", "k", "whole"]
def p_law_added : List EN.SP := [⟨⟨141, 4, 141, 14⟩, [(4, 9), (12, 14)], none⟩, ⟨⟨142, 4, 145, 26⟩, [(8, 9), (13, 28), (13, 18), (19, 27), (19, 22), (23, 26)], none⟩, ⟨⟨143, 8, 143, 41⟩, [(8, 13), (16, 41), (16, 33), (16, 22), (16, 19), (20, 21), (25, 33), (25, 30), (31, 32), (36, 41)], none⟩, ⟨⟨144, 8, 144, 31⟩, [(8, 31), (8, 20), (8, 13), (21, 30), (21, 26), (29, 30)], none⟩, ⟨⟨145, 8, 145, 26⟩, [(8, 13), (16, 26), (16, 21), (25, 26)], none⟩, ⟨⟨146, 4, 146, 16⟩, [(11, 16)], none⟩]
def n_law_lowest : List PySem.Str := ["one", "found"]
def p_law_lowest : List EN.SP := [⟨⟨148, 4, 148, 26⟩, [(4, 9), (12, 26), (12, 15), (13, 14), (18, 26), (18, 21), (22, 25)], none⟩, ⟨⟨149, 4, 150, 31⟩, [(7, 15), (7, 8), (12, 15)], none⟩, ⟨⟨150, 8, 150, 31⟩, [(8, 27), (8, 13), (14, 26), (14, 23), (14, 17), (24, 25), (30, 31)], none⟩, ⟨⟨151, 4, 151, 16⟩, [(11, 16)], none⟩]
def n_law_turned_bits : List PySem.Str := ["one", "bit"]
def p_law_turned_bits : List EN.SP := [⟨⟨153, 4, 153, 35⟩, [(11, 35), (12, 19), (12, 13), (16, 19), (24, 27), (31, 34)], none⟩]
def n_law_made : List PySem.Str := ["word", "sums_in", "one", "nought", "other", "at", "a", "b", "c"]
def p_law_made : List EN.SP := [⟨⟨155, 4, 155, 20⟩, [(4, 7), (10, 20), (10, 17), (18, 19)], none⟩, ⟨⟨156, 4, 156, 27⟩, [(4, 10), (13, 27), (13, 16), (14, 15), (19, 27), (19, 22), (23, 26)], none⟩, ⟨⟨157, 4, 158, 36⟩, [(7, 20), (7, 11), (15, 20)], none⟩, ⟨⟨158, 8, 158, 36⟩, [(15, 36), (15, 31), (32, 35)], none⟩, ⟨⟨159, 4, 160, 59⟩, [(7, 20), (7, 11), (15, 20)], none⟩, ⟨⟨160, 8, 160, 59⟩, [(15, 59), (15, 25), (26, 32), (34, 55), (34, 50), (51, 54), (57, 58)], none⟩, ⟨⟨161, 4, 162, 29⟩, [(7, 22), (7, 11), (15, 22)], none⟩, ⟨⟨162, 8, 162, 29⟩, [(15, 29), (15, 18), (16, 17), (21, 29), (25, 28), (21, 24), (26, 28), (27, 28)], none⟩, ⟨⟨163, 4, 164, 31⟩, [(7, 20), (7, 11), (15, 20)], none⟩, ⟨⟨164, 8, 164, 31⟩, [(15, 31), (15, 26), (27, 30)], none⟩, ⟨⟨165, 4, 165, 22⟩, [(4, 9), (12, 22), (12, 19), (20, 21)], none⟩, ⟨⟨166, 4, 167, 40⟩, [(7, 20), (7, 11), (15, 20)], none⟩, ⟨⟨167, 8, 167, 40⟩, [(15, 40), (15, 25), (26, 29), (31, 36), (38, 39)], none⟩, ⟨⟨168, 4, 169, 58⟩, [(7, 20), (7, 11), (15, 20)], none⟩, ⟨⟨169, 8, 169, 58⟩, [(15, 58), (15, 25), (26, 29), (31, 54), (31, 47), (48, 53), (56, 57)], none⟩, ⟨⟨170, 4, 171, 69⟩, [(7, 21), (7, 11), (15, 21)], none⟩, ⟨⟨171, 8, 171, 69⟩, [(15, 69), (16, 25), (16, 22), (17, 18), (20, 21), (23, 24), (30, 37), (30, 31), (33, 34), (36, 37), (41, 68), (41, 44), (45, 48), (50, 55), (57, 67), (57, 64), (65, 66)], none⟩, ⟨⟨172, 4, 172, 41⟩, [(4, 6), (9, 41), (9, 35), (9, 29), (10, 15), (17, 21), (23, 28), (36, 40)], none⟩, ⟨⟨173, 4, 173, 91⟩, [(11, 91), (12, 62), (12, 58), (13, 28), (13, 16), (17, 27), (17, 22), (17, 18), (21, 22), (26, 27), (30, 44), (30, 33), (34, 43), (34, 39), (34, 35), (38, 39), (42, 43), (46, 57), (47, 52), (47, 48), (51, 52), (56, 57), (59, 61), (67, 71), (67, 68), (70, 71), (75, 90), (75, 78), (79, 82), (84, 89)], none⟩]
def n_law_rows : List PySem.Str := ["word", "pile", "width", "values", "many", "k"]
def p_law_rows : List EN.SP := [⟨⟨175, 4, 176, 37⟩, [(7, 32), (11, 32), (11, 21), (22, 26), (28, 31)], none⟩, ⟨⟨176, 8, 176, 37⟩, [(15, 37), (15, 24), (25, 29), (31, 36)], none⟩, ⟨⟨177, 4, 178, 45⟩, [(7, 30), (7, 11), (19, 30), (19, 28)], none⟩, ⟨⟨178, 8, 178, 45⟩, [(15, 45), (15, 24), (25, 37), (25, 31), (32, 36), (39, 44)], none⟩, ⟨⟨179, 4, 179, 92⟩, [(4, 8), (11, 92), (11, 70), (11, 12), (15, 70), (15, 18), (19, 69), (19, 23), (27, 69), (28, 33), (35, 39), (41, 46), (48, 53), (55, 60), (62, 68), (73, 92), (73, 76), (77, 91), (77, 81), (85, 91)], none⟩, ⟨⟨180, 4, 180, 61⟩, [(11, 61), (11, 20), (21, 25), (27, 60), (28, 38), (28, 36), (28, 32), (43, 44), (48, 59), (48, 53), (54, 58)], none⟩]
def n_law_worth : List PySem.Str := ["words", "width", "values", "pile", "word", "total", "bit"]
def p_law_worth : List EN.SP := [⟨⟨182, 4, 182, 13⟩, [(4, 8), (11, 13)], none⟩, ⟨⟨183, 4, 184, 57⟩, [(8, 12), (16, 31), (16, 24), (25, 30)], none⟩, ⟨⟨184, 8, 184, 57⟩, [(8, 57), (8, 19), (8, 12), (20, 56), (20, 29), (30, 34), (36, 40), (42, 47), (49, 55)], none⟩, ⟨⟨185, 4, 185, 13⟩, [(4, 9), (12, 13)], none⟩, ⟨⟨186, 4, 187, 31⟩, [(8, 11), (15, 32), (15, 23), (24, 31), (24, 28), (29, 30)], none⟩, ⟨⟨187, 8, 187, 31⟩, [(8, 13), (16, 31), (16, 25), (16, 17), (20, 25), (28, 31)], none⟩, ⟨⟨188, 4, 188, 16⟩, [(11, 16)], none⟩]
def n_law_values : List PySem.Str := ["deck", "names", "width", "values", "full", "name", "some"]
def p_law_values : List EN.SP := [⟨⟨190, 4, 190, 15⟩, [(4, 10), (13, 15)], none⟩, ⟨⟨191, 4, 191, 28⟩, [(4, 8), (11, 28), (11, 21), (22, 27)], none⟩, ⟨⟨192, 4, 194, 47⟩, [(8, 12), (16, 21)], none⟩, ⟨⟨193, 8, 193, 92⟩, [(8, 12), (15, 92), (16, 17), (19, 20), (22, 30), (22, 26), (29, 30), (32, 41), (32, 36), (40, 41), (43, 64), (43, 52), (53, 57), (59, 63), (66, 91), (66, 84), (66, 75), (76, 80), (82, 83), (87, 91)], none⟩, ⟨⟨194, 8, 194, 47⟩, [(8, 20), (8, 14), (15, 19), (23, 47), (23, 27), (28, 46), (28, 37), (38, 42), (44, 45)], none⟩, ⟨⟨195, 4, 195, 17⟩, [(11, 17)], none⟩]
def n_law_refused : List PySem.Str := ["words", "width", "values", "name", "caught", "e"]
def p_law_refused : List EN.SP := [⟨⟨197, 4, 197, 17⟩, [(4, 10), (13, 17)], none⟩, ⟨⟨198, 4, 201, 18⟩, [], none⟩, ⟨⟨199, 8, 199, 35⟩, [(8, 35), (8, 13), (14, 19), (21, 26), (28, 34)], none⟩, ⟨⟨200, 4, 201, 18⟩, [(11, 21)], none⟩, ⟨⟨201, 8, 201, 18⟩, [(8, 14), (17, 18)], none⟩, ⟨⟨202, 4, 203, 20⟩, [(7, 81), (7, 17), (18, 24), (26, 80), (27, 32), (34, 41), (43, 52), (54, 59), (61, 70), (72, 79)], none⟩, ⟨⟨203, 8, 203, 20⟩, [(15, 20)], none⟩, ⟨⟨204, 4, 204, 98⟩, [(11, 98), (11, 37), (11, 21), (22, 28), (30, 36), (42, 72), (42, 52), (53, 59), (61, 71), (78, 97), (78, 89), (78, 84), (93, 97)], none⟩]
def n_law_right : List PySem.Str := ["deck", "names", "words", "width", "values", "due", "handed", "found", "fewer", "lacking", "name", "word"]
def p_law_right : List EN.SP := [⟨⟨206, 4, 206, 44⟩, [(4, 10), (13, 44), (13, 24), (25, 29), (31, 36), (38, 43)], none⟩, ⟨⟨207, 4, 207, 42⟩, [(4, 7), (10, 42), (10, 20), (21, 26), (28, 33), (35, 41)], none⟩, ⟨⟨208, 4, 208, 25⟩, [(4, 10), (13, 25), (13, 17), (18, 24)], none⟩, ⟨⟨209, 4, 209, 39⟩, [(4, 9), (12, 39), (12, 17), (18, 23), (25, 30), (32, 38)], none⟩, ⟨⟨210, 4, 211, 20⟩, [(7, 98), (7, 33), (11, 33), (11, 21), (22, 27), (29, 32), (37, 60), (37, 47), (48, 53), (55, 59), (64, 76), (64, 69), (73, 76), (81, 97), (81, 87), (91, 97)], none⟩, ⟨⟨211, 8, 211, 20⟩, [(15, 20)], none⟩, ⟨⟨212, 4, 212, 22⟩, [(4, 18), (4, 10), (11, 17), (21, 22)], none⟩, ⟨⟨213, 4, 214, 20⟩, [(7, 65), (7, 26), (7, 13), (21, 26), (31, 65), (31, 58), (31, 36), (37, 42), (44, 49), (51, 57), (62, 65)], none⟩, ⟨⟨214, 8, 214, 20⟩, [(15, 20)], none⟩, ⟨⟨215, 4, 215, 85⟩, [(4, 9), (12, 85), (12, 16), (17, 84), (18, 38), (19, 23), (25, 37), (25, 31), (32, 36), (43, 47), (51, 56), (60, 83), (60, 78), (60, 69), (70, 74), (76, 77), (82, 83)], none⟩, ⟨⟨216, 4, 216, 77⟩, [(4, 11), (14, 77), (15, 19), (24, 28), (32, 37), (41, 76), (41, 54), (41, 45), (49, 54), (59, 76), (59, 63), (71, 76)], none⟩, ⟨⟨217, 4, 218, 60⟩, [(7, 20), (7, 14), (18, 20)], none⟩, ⟨⟨218, 8, 218, 60⟩, [(15, 60), (15, 27), (28, 33), (35, 40), (42, 47), (49, 59), (49, 56), (57, 58)], none⟩, ⟨⟨219, 4, 219, 44⟩, [(11, 44), (11, 37), (11, 16), (17, 22), (24, 29), (31, 36), (41, 44)], none⟩]
def nlaw : List PySem.Str := ["script", "deck", "names", "most", "words", "k"]
def plaw : List EN.SP := [⟨⟨221, 4, 221, 28⟩, [(4, 8), (11, 28), (11, 20), (21, 27)], none⟩, ⟨⟨222, 4, 222, 28⟩, [(4, 9), (12, 28), (12, 22), (23, 27)], none⟩, ⟨⟨223, 4, 227, 28⟩, [(8, 12), (16, 27), (17, 19), (21, 22), (24, 26)], none⟩, ⟨⟨224, 8, 224, 48⟩, [(8, 13), (16, 48), (16, 24), (25, 29), (31, 36), (38, 42), (44, 47), (45, 46)], none⟩, ⟨⟨225, 8, 227, 28⟩, [(12, 13), (17, 25), (17, 22), (23, 24)], none⟩, ⟨⟨226, 12, 227, 28⟩, [(15, 67), (19, 67), (19, 29), (30, 34), (36, 41), (43, 48), (50, 66), (50, 60), (61, 65)], none⟩, ⟨⟨227, 16, 227, 28⟩, [(23, 28)], none⟩, ⟨⟨228, 4, 228, 15⟩, [(11, 15)], none⟩]
def fnN : List PySem.Str := [("words_at" : PySem.Str), ("cut" : PySem.Str), ("need_names" : PySem.Str), ("made" : PySem.Str), ("worth_of" : PySem.Str), ("worth" : PySem.Str), ("_law_deck" : PySem.Str), ("_law_take" : PySem.Str), ("_law_power" : PySem.Str), ("_law_width" : PySem.Str), ("_law_kept" : PySem.Str), ("_law_names" : PySem.Str), ("_law_leaf" : PySem.Str), ("_law_sum" : PySem.Str), ("_law_bits" : PySem.Str), ("_law_added" : PySem.Str), ("_law_lowest" : PySem.Str), ("_law_turned_bits" : PySem.Str), ("_law_made" : PySem.Str), ("_law_rows" : PySem.Str), ("_law_worth" : PySem.Str), ("_law_values" : PySem.Str), ("_law_refused" : PySem.Str), ("_law_right" : PySem.Str), ("law" : PySem.Str)]
def glN : List PySem.Str := ["KINDS", "PARTS"]
def G : EN.Nm := ⟨fun i => fnN.getD i "", fun i => glN.getD i ""⟩
abbrev swords_at : Stmt := top 1
theorem scwords_at : FnScope nwords_at ["width"] (defScope swords_at) := ⟨rfl, rfl, rfl, by decide +kernel, rfl, by decide +kernel, by decide +kernel⟩
theorem okwords_at : EN.okSs ⟨G, nwords_at, EN.arD D, true⟩ (defScope swords_at) (fun _ => true) bwords_at = true := by decide +kernel
theorem txwords_at : (EN.toSs G nwords_at bwords_at pwords_at).1 = defBody swords_at := by kernel_rfl
abbrev scut : Stmt := top 2
theorem sccut : FnScope ncut ["number", "width"] (defScope scut) := ⟨rfl, rfl, rfl, by decide +kernel, rfl, by decide +kernel, by decide +kernel⟩
theorem okcut : EN.okSs ⟨G, ncut, EN.arD D, true⟩ (defScope scut) (fun _ => true) bcut = true := by decide +kernel
theorem txcut : (EN.toSs G ncut bcut pcut).1 = defBody scut := by kernel_rfl
abbrev sneed_names : Stmt := top 15
theorem scneed_names : FnScope nneed_names ["words", "values"] (defScope sneed_names) := ⟨rfl, rfl, rfl, by decide +kernel, rfl, by decide +kernel, by decide +kernel⟩
theorem okneed_names : EN.okSs ⟨G, nneed_names, EN.arD D, true⟩ (defScope sneed_names) (fun _ => true) bneed_names = true := by decide +kernel
theorem txneed_names : (EN.toSs G nneed_names bneed_names pneed_names).1 = defBody sneed_names := by kernel_rfl
abbrev smade : Stmt := top 16
theorem scmade : FnScope nmade ["word", "some", "width"] (defScope smade) := ⟨rfl, rfl, rfl, by decide +kernel, rfl, by decide +kernel, by decide +kernel⟩
theorem okmade : EN.okSs ⟨G, nmade, EN.arD D, true⟩ (defScope smade) (fun _ => true) bmade = true := by decide +kernel
theorem txmade : (EN.toSs G nmade bmade pmade).1 = defBody smade := by kernel_rfl
abbrev sworth_of : Stmt := top 17
theorem scworth_of : FnScope nworth_of ["word", "pile", "width", "values"] (defScope sworth_of) := ⟨rfl, rfl, rfl, by decide +kernel, rfl, by decide +kernel, by decide +kernel⟩
theorem okworth_of : EN.okSs ⟨G, nworth_of, EN.arD D, true⟩ (defScope sworth_of) (fun _ => true) bworth_of = true := by decide +kernel
theorem txworth_of : (EN.toSs G nworth_of bworth_of pworth_of).1 = defBody sworth_of := by kernel_rfl
abbrev sworth : Stmt := top 18
theorem scworth : FnScope nworth ["words", "width", "values"] (defScope sworth) := ⟨rfl, rfl, rfl, by decide +kernel, rfl, by decide +kernel, by decide +kernel⟩
theorem okworth : EN.okSs ⟨G, nworth, EN.arD D, true⟩ (defScope sworth) (fun _ => true) bworth = true := by decide +kernel
theorem txworth : (EN.toSs G nworth bworth pworth).1 = defBody sworth := by kernel_rfl
abbrev s_law_deck : Stmt := top 20
theorem sc_law_deck : FnScope n_law_deck ["script"] (defScope s_law_deck) := ⟨rfl, rfl, rfl, by decide +kernel, rfl, by decide +kernel, by decide +kernel⟩
theorem ok_law_deck : EN.okSs ⟨G, n_law_deck, EN.arD D, true⟩ (defScope s_law_deck) (fun _ => true) b_law_deck = true := by decide +kernel
theorem tx_law_deck : (EN.toSs G n_law_deck b_law_deck p_law_deck).1 = defBody s_law_deck := by kernel_rfl
abbrev s_law_take : Stmt := top 21
theorem sc_law_take : FnScope n_law_take ["deck", "many"] (defScope s_law_take) := ⟨rfl, rfl, rfl, by decide +kernel, rfl, by decide +kernel, by decide +kernel⟩
theorem ok_law_take : EN.okSs ⟨G, n_law_take, EN.arD D, true⟩ (defScope s_law_take) (fun _ => true) b_law_take = true := by decide +kernel
theorem tx_law_take : (EN.toSs G n_law_take b_law_take p_law_take).1 = defBody s_law_take := by kernel_rfl
abbrev s_law_power : Stmt := top 22
theorem sc_law_power : FnScope n_law_power ["width"] (defScope s_law_power) := ⟨rfl, rfl, rfl, by decide +kernel, rfl, by decide +kernel, by decide +kernel⟩
theorem ok_law_power : EN.okSs ⟨G, n_law_power, EN.arD D, true⟩ (defScope s_law_power) (fun _ => true) b_law_power = true := by decide +kernel
theorem tx_law_power : (EN.toSs G n_law_power b_law_power p_law_power).1 = defBody s_law_power := by kernel_rfl
abbrev s_law_width : Stmt := top 23
theorem sc_law_width : FnScope n_law_width ["deck"] (defScope s_law_width) := ⟨rfl, rfl, rfl, by decide +kernel, rfl, by decide +kernel, by decide +kernel⟩
theorem ok_law_width : EN.okSs ⟨G, n_law_width, EN.arD D, true⟩ (defScope s_law_width) (fun _ => true) b_law_width = true := by decide +kernel
theorem tx_law_width : (EN.toSs G n_law_width b_law_width p_law_width).1 = defBody s_law_width := by kernel_rfl
abbrev s_law_kept : Stmt := top 24
theorem sc_law_kept : FnScope n_law_kept [] (defScope s_law_kept) := ⟨rfl, rfl, rfl, by decide +kernel, rfl, by decide +kernel, by decide +kernel⟩
theorem ok_law_kept : EN.okSs ⟨G, n_law_kept, EN.arD D, true⟩ (defScope s_law_kept) (fun _ => true) b_law_kept = true := by decide +kernel
theorem tx_law_kept : (EN.toSs G n_law_kept b_law_kept p_law_kept).1 = defBody s_law_kept := by kernel_rfl
abbrev s_law_names : Stmt := top 25
theorem sc_law_names : FnScope n_law_names ["deck"] (defScope s_law_names) := ⟨rfl, rfl, rfl, by decide +kernel, rfl, by decide +kernel, by decide +kernel⟩
theorem ok_law_names : EN.okSs ⟨G, n_law_names, EN.arD D, true⟩ (defScope s_law_names) (fun _ => true) b_law_names = true := by decide +kernel
theorem tx_law_names : (EN.toSs G n_law_names b_law_names p_law_names).1 = defBody s_law_names := by kernel_rfl
abbrev s_law_leaf : Stmt := top 26
theorem sc_law_leaf : FnScope n_law_leaf ["deck", "names"] (defScope s_law_leaf) := ⟨rfl, rfl, rfl, by decide +kernel, rfl, by decide +kernel, by decide +kernel⟩
theorem ok_law_leaf : EN.okSs ⟨G, n_law_leaf, EN.arD D, true⟩ (defScope s_law_leaf) (fun _ => true) b_law_leaf = true := by decide +kernel
theorem tx_law_leaf : (EN.toSs G n_law_leaf b_law_leaf p_law_leaf).1 = defBody s_law_leaf := by kernel_rfl
abbrev s_law_sum : Stmt := top 27
theorem sc_law_sum : FnScope n_law_sum ["deck", "names", "most", "heavy"] (defScope s_law_sum) := ⟨rfl, rfl, rfl, by decide +kernel, rfl, by decide +kernel, by decide +kernel⟩
theorem ok_law_sum : EN.okSs ⟨G, n_law_sum, EN.arD D, true⟩ (defScope s_law_sum) (fun _ => true) b_law_sum = true := by decide +kernel
theorem tx_law_sum : (EN.toSs G n_law_sum b_law_sum p_law_sum).1 = defBody s_law_sum := by kernel_rfl
abbrev s_law_bits : Stmt := top 28
theorem sc_law_bits : FnScope n_law_bits ["number", "width"] (defScope s_law_bits) := ⟨rfl, rfl, rfl, by decide +kernel, rfl, by decide +kernel, by decide +kernel⟩
theorem ok_law_bits : EN.okSs ⟨G, n_law_bits, EN.arD D, true⟩ (defScope s_law_bits) (fun _ => true) b_law_bits = true := by decide +kernel
theorem tx_law_bits : (EN.toSs G n_law_bits b_law_bits p_law_bits).1 = defBody s_law_bits := by kernel_rfl
abbrev s_law_added : Stmt := top 29
theorem sc_law_added : FnScope n_law_added ["one", "other", "carry"] (defScope s_law_added) := ⟨rfl, rfl, rfl, by decide +kernel, rfl, by decide +kernel, by decide +kernel⟩
theorem ok_law_added : EN.okSs ⟨G, n_law_added, EN.arD D, true⟩ (defScope s_law_added) (fun _ => true) b_law_added = true := by decide +kernel
theorem tx_law_added : (EN.toSs G n_law_added b_law_added p_law_added).1 = defBody s_law_added := by kernel_rfl
abbrev s_law_lowest : Stmt := top 30
theorem sc_law_lowest : FnScope n_law_lowest ["one"] (defScope s_law_lowest) := ⟨rfl, rfl, rfl, by decide +kernel, rfl, by decide +kernel, by decide +kernel⟩
theorem ok_law_lowest : EN.okSs ⟨G, n_law_lowest, EN.arD D, true⟩ (defScope s_law_lowest) (fun _ => true) b_law_lowest = true := by decide +kernel
theorem tx_law_lowest : (EN.toSs G n_law_lowest b_law_lowest p_law_lowest).1 = defBody s_law_lowest := by kernel_rfl
abbrev s_law_turned_bits : Stmt := top 31
theorem sc_law_turned_bits : FnScope n_law_turned_bits ["one"] (defScope s_law_turned_bits) := ⟨rfl, rfl, rfl, by decide +kernel, rfl, by decide +kernel, by decide +kernel⟩
theorem ok_law_turned_bits : EN.okSs ⟨G, n_law_turned_bits, EN.arD D, true⟩ (defScope s_law_turned_bits) (fun _ => true) b_law_turned_bits = true := by decide +kernel
theorem tx_law_turned_bits : (EN.toSs G n_law_turned_bits b_law_turned_bits p_law_turned_bits).1 = defBody s_law_turned_bits := by kernel_rfl
abbrev s_law_made : Stmt := top 32
theorem sc_law_made : FnScope n_law_made ["word", "sums_in"] (defScope s_law_made) := ⟨rfl, rfl, rfl, by decide +kernel, rfl, by decide +kernel, by decide +kernel⟩
theorem ok_law_made : EN.okSs ⟨G, n_law_made, EN.arD D, true⟩ (defScope s_law_made) (fun _ => true) b_law_made = true := by decide +kernel
theorem tx_law_made : (EN.toSs G n_law_made b_law_made p_law_made).1 = defBody s_law_made := by kernel_rfl
abbrev s_law_rows : Stmt := top 33
theorem sc_law_rows : FnScope n_law_rows ["word", "pile", "width", "values"] (defScope s_law_rows) := ⟨rfl, rfl, rfl, by decide +kernel, rfl, by decide +kernel, by decide +kernel⟩
theorem ok_law_rows : EN.okSs ⟨G, n_law_rows, EN.arD D, true⟩ (defScope s_law_rows) (fun _ => true) b_law_rows = true := by decide +kernel
theorem tx_law_rows : (EN.toSs G n_law_rows b_law_rows p_law_rows).1 = defBody s_law_rows := by kernel_rfl
abbrev s_law_worth : Stmt := top 34
theorem sc_law_worth : FnScope n_law_worth ["words", "width", "values"] (defScope s_law_worth) := ⟨rfl, rfl, rfl, by decide +kernel, rfl, by decide +kernel, by decide +kernel⟩
theorem ok_law_worth : EN.okSs ⟨G, n_law_worth, EN.arD D, true⟩ (defScope s_law_worth) (fun _ => true) b_law_worth = true := by decide +kernel
theorem tx_law_worth : (EN.toSs G n_law_worth b_law_worth p_law_worth).1 = defBody s_law_worth := by kernel_rfl
abbrev s_law_values : Stmt := top 35
theorem sc_law_values : FnScope n_law_values ["deck", "names", "width"] (defScope s_law_values) := ⟨rfl, rfl, rfl, by decide +kernel, rfl, by decide +kernel, by decide +kernel⟩
theorem ok_law_values : EN.okSs ⟨G, n_law_values, EN.arD D, true⟩ (defScope s_law_values) (fun _ => true) b_law_values = true := by decide +kernel
theorem tx_law_values : (EN.toSs G n_law_values b_law_values p_law_values).1 = defBody s_law_values := by kernel_rfl
abbrev s_law_refused : Stmt := top 36
theorem sc_law_refused : FnScope n_law_refused ["words", "width", "values", "name"] (defScope s_law_refused) := ⟨rfl, rfl, rfl, by decide +kernel, rfl, by decide +kernel, by decide +kernel⟩
theorem ok_law_refused : EN.okSs ⟨G, n_law_refused, EN.arD D, true⟩ (defScope s_law_refused) (fun _ => true) b_law_refused = true := by decide +kernel
theorem tx_law_refused : (EN.toSs G n_law_refused b_law_refused p_law_refused).1 = defBody s_law_refused := by kernel_rfl
abbrev s_law_right : Stmt := top 37
theorem sc_law_right : FnScope n_law_right ["deck", "names", "words", "width"] (defScope s_law_right) := ⟨rfl, rfl, rfl, by decide +kernel, rfl, by decide +kernel, by decide +kernel⟩
theorem ok_law_right : EN.okSs ⟨G, n_law_right, EN.arD D, true⟩ (defScope s_law_right) (fun _ => true) b_law_right = true := by decide +kernel
theorem tx_law_right : (EN.toSs G n_law_right b_law_right p_law_right).1 = defBody s_law_right := by kernel_rfl
abbrev slaw : Stmt := top 38
theorem sclaw : FnScope nlaw ["script"] (defScope slaw) := ⟨rfl, rfl, rfl, by decide +kernel, rfl, by decide +kernel, by decide +kernel⟩
theorem oklaw : EN.okSs ⟨G, nlaw, EN.arD D, true⟩ (defScope slaw) (fun _ => true) blaw = true := by decide +kernel
theorem txlaw : (EN.toSs G nlaw blaw plaw).1 = defBody slaw := by kernel_rfl
def clsB (s : Stmt) : List Stmt := match s with | .ClassDef _ _ _ b _ _ _ _ _ _ _ => b | _ => []
abbrev sInit : Stmt := (clsB (top 7)).getD 0 (.Pass ⟨0, 0, 0, 0⟩)
theorem scInit : FnScope ["self", "word"] ["self", "word"] (defScope sInit) := ⟨rfl, rfl, rfl, by decide +kernel, rfl, by decide +kernel, by decide +kernel⟩
theorem txInit : defBody sInit = EN.initB 19 := by kernel_rfl
theorem hcInit : EN.HcB 19 := fun env => ⟨_, rfl⟩
theorem glInit : (defScope sInit).names.lookup ("WidthError" : PySem.Str) = some .globalImplicit := by decide +kernel
theorem all_mk {l : PySem.W.OpenLaw} {w : World} {K : PySem.W.Frag} {h : Heap} {mg : Str → Option Value} {fa : Addr} (X : K.In h) (Gn : h.Ns mainGlobals mg) (hfa : mg "law" = some (.ref fa))
    {h0 : Addr} {oc0 kV0 dc0 pm0 cd0 ct0 : Value} {od0 an0 : Option Addr} {sl0 : Array (Option Value)}
    (a0 : PySem.W.nsIn K mainGlobals "words_at" = some (some (.ref h0))) (l0 : K.lookup h0 = some ⟨oc0, od0, .func (PySem.W.fnOf "words_at" "words_at" (defArgs swords_at) (defBody swords_at) (defScope swords_at) .none kV0 dc0 pm0 an0 cd0 ct0), sl0⟩) (c0 : PySem.W.codeIn K cd0 "words_at" = true) (k0 : PySem.W.keepIn K (.ref h0) = true)
    {h1 : Addr} {oc1 kV1 dc1 pm1 cd1 ct1 : Value} {od1 an1 : Option Addr} {sl1 : Array (Option Value)}
    (a1 : PySem.W.nsIn K mainGlobals "cut" = some (some (.ref h1))) (l1 : K.lookup h1 = some ⟨oc1, od1, .func (PySem.W.fnOf "cut" "cut" (defArgs scut) (defBody scut) (defScope scut) .none kV1 dc1 pm1 an1 cd1 ct1), sl1⟩) (c1 : PySem.W.codeIn K cd1 "cut" = true) (k1 : PySem.W.keepIn K (.ref h1) = true)
    {h2 : Addr} {oc2 kV2 dc2 pm2 cd2 ct2 : Value} {od2 an2 : Option Addr} {sl2 : Array (Option Value)}
    (a2 : PySem.W.nsIn K mainGlobals "need_names" = some (some (.ref h2))) (l2 : K.lookup h2 = some ⟨oc2, od2, .func (PySem.W.fnOf "need_names" "need_names" (defArgs sneed_names) (defBody sneed_names) (defScope sneed_names) .none kV2 dc2 pm2 an2 cd2 ct2), sl2⟩) (c2 : PySem.W.codeIn K cd2 "need_names" = true) (k2 : PySem.W.keepIn K (.ref h2) = true)
    {h3 : Addr} {oc3 kV3 dc3 pm3 cd3 ct3 : Value} {od3 an3 : Option Addr} {sl3 : Array (Option Value)}
    (a3 : PySem.W.nsIn K mainGlobals "made" = some (some (.ref h3))) (l3 : K.lookup h3 = some ⟨oc3, od3, .func (PySem.W.fnOf "made" "made" (defArgs smade) (defBody smade) (defScope smade) .none kV3 dc3 pm3 an3 cd3 ct3), sl3⟩) (c3 : PySem.W.codeIn K cd3 "made" = true) (k3 : PySem.W.keepIn K (.ref h3) = true)
    {h4 : Addr} {oc4 kV4 dc4 pm4 cd4 ct4 : Value} {od4 an4 : Option Addr} {sl4 : Array (Option Value)}
    (a4 : PySem.W.nsIn K mainGlobals "worth_of" = some (some (.ref h4))) (l4 : K.lookup h4 = some ⟨oc4, od4, .func (PySem.W.fnOf "worth_of" "worth_of" (defArgs sworth_of) (defBody sworth_of) (defScope sworth_of) .none kV4 dc4 pm4 an4 cd4 ct4), sl4⟩) (c4 : PySem.W.codeIn K cd4 "worth_of" = true) (k4 : PySem.W.keepIn K (.ref h4) = true)
    {h5 : Addr} {oc5 kV5 dc5 pm5 cd5 ct5 : Value} {od5 an5 : Option Addr} {sl5 : Array (Option Value)}
    (a5 : PySem.W.nsIn K mainGlobals "worth" = some (some (.ref h5))) (l5 : K.lookup h5 = some ⟨oc5, od5, .func (PySem.W.fnOf "worth" "worth" (defArgs sworth) (defBody sworth) (defScope sworth) .none kV5 dc5 pm5 an5 cd5 ct5), sl5⟩) (c5 : PySem.W.codeIn K cd5 "worth" = true) (k5 : PySem.W.keepIn K (.ref h5) = true)
    {h6 : Addr} {oc6 kV6 dc6 pm6 cd6 ct6 : Value} {od6 an6 : Option Addr} {sl6 : Array (Option Value)}
    (a6 : PySem.W.nsIn K mainGlobals "_law_deck" = some (some (.ref h6))) (l6 : K.lookup h6 = some ⟨oc6, od6, .func (PySem.W.fnOf "_law_deck" "_law_deck" (defArgs s_law_deck) (defBody s_law_deck) (defScope s_law_deck) .none kV6 dc6 pm6 an6 cd6 ct6), sl6⟩) (c6 : PySem.W.codeIn K cd6 "_law_deck" = true) (k6 : PySem.W.keepIn K (.ref h6) = true)
    {h7 : Addr} {oc7 kV7 dc7 pm7 cd7 ct7 : Value} {od7 an7 : Option Addr} {sl7 : Array (Option Value)}
    (a7 : PySem.W.nsIn K mainGlobals "_law_take" = some (some (.ref h7))) (l7 : K.lookup h7 = some ⟨oc7, od7, .func (PySem.W.fnOf "_law_take" "_law_take" (defArgs s_law_take) (defBody s_law_take) (defScope s_law_take) .none kV7 dc7 pm7 an7 cd7 ct7), sl7⟩) (c7 : PySem.W.codeIn K cd7 "_law_take" = true) (k7 : PySem.W.keepIn K (.ref h7) = true)
    {h8 : Addr} {oc8 kV8 dc8 pm8 cd8 ct8 : Value} {od8 an8 : Option Addr} {sl8 : Array (Option Value)}
    (a8 : PySem.W.nsIn K mainGlobals "_law_power" = some (some (.ref h8))) (l8 : K.lookup h8 = some ⟨oc8, od8, .func (PySem.W.fnOf "_law_power" "_law_power" (defArgs s_law_power) (defBody s_law_power) (defScope s_law_power) .none kV8 dc8 pm8 an8 cd8 ct8), sl8⟩) (c8 : PySem.W.codeIn K cd8 "_law_power" = true) (k8 : PySem.W.keepIn K (.ref h8) = true)
    {h9 : Addr} {oc9 kV9 dc9 pm9 cd9 ct9 : Value} {od9 an9 : Option Addr} {sl9 : Array (Option Value)}
    (a9 : PySem.W.nsIn K mainGlobals "_law_width" = some (some (.ref h9))) (l9 : K.lookup h9 = some ⟨oc9, od9, .func (PySem.W.fnOf "_law_width" "_law_width" (defArgs s_law_width) (defBody s_law_width) (defScope s_law_width) .none kV9 dc9 pm9 an9 cd9 ct9), sl9⟩) (c9 : PySem.W.codeIn K cd9 "_law_width" = true) (k9 : PySem.W.keepIn K (.ref h9) = true)
    {h10 : Addr} {oc10 kV10 dc10 pm10 cd10 ct10 : Value} {od10 an10 : Option Addr} {sl10 : Array (Option Value)}
    (a10 : PySem.W.nsIn K mainGlobals "_law_kept" = some (some (.ref h10))) (l10 : K.lookup h10 = some ⟨oc10, od10, .func (PySem.W.fnOf "_law_kept" "_law_kept" (defArgs s_law_kept) (defBody s_law_kept) (defScope s_law_kept) .none kV10 dc10 pm10 an10 cd10 ct10), sl10⟩) (c10 : PySem.W.codeIn K cd10 "_law_kept" = true) (k10 : PySem.W.keepIn K (.ref h10) = true)
    {h11 : Addr} {oc11 kV11 dc11 pm11 cd11 ct11 : Value} {od11 an11 : Option Addr} {sl11 : Array (Option Value)}
    (a11 : PySem.W.nsIn K mainGlobals "_law_names" = some (some (.ref h11))) (l11 : K.lookup h11 = some ⟨oc11, od11, .func (PySem.W.fnOf "_law_names" "_law_names" (defArgs s_law_names) (defBody s_law_names) (defScope s_law_names) .none kV11 dc11 pm11 an11 cd11 ct11), sl11⟩) (c11 : PySem.W.codeIn K cd11 "_law_names" = true) (k11 : PySem.W.keepIn K (.ref h11) = true)
    {h12 : Addr} {oc12 kV12 dc12 pm12 cd12 ct12 : Value} {od12 an12 : Option Addr} {sl12 : Array (Option Value)}
    (a12 : PySem.W.nsIn K mainGlobals "_law_leaf" = some (some (.ref h12))) (l12 : K.lookup h12 = some ⟨oc12, od12, .func (PySem.W.fnOf "_law_leaf" "_law_leaf" (defArgs s_law_leaf) (defBody s_law_leaf) (defScope s_law_leaf) .none kV12 dc12 pm12 an12 cd12 ct12), sl12⟩) (c12 : PySem.W.codeIn K cd12 "_law_leaf" = true) (k12 : PySem.W.keepIn K (.ref h12) = true)
    {h13 : Addr} {oc13 kV13 dc13 pm13 cd13 ct13 : Value} {od13 an13 : Option Addr} {sl13 : Array (Option Value)}
    (a13 : PySem.W.nsIn K mainGlobals "_law_sum" = some (some (.ref h13))) (l13 : K.lookup h13 = some ⟨oc13, od13, .func (PySem.W.fnOf "_law_sum" "_law_sum" (defArgs s_law_sum) (defBody s_law_sum) (defScope s_law_sum) .none kV13 dc13 pm13 an13 cd13 ct13), sl13⟩) (c13 : PySem.W.codeIn K cd13 "_law_sum" = true) (k13 : PySem.W.keepIn K (.ref h13) = true)
    {h14 : Addr} {oc14 kV14 dc14 pm14 cd14 ct14 : Value} {od14 an14 : Option Addr} {sl14 : Array (Option Value)}
    (a14 : PySem.W.nsIn K mainGlobals "_law_bits" = some (some (.ref h14))) (l14 : K.lookup h14 = some ⟨oc14, od14, .func (PySem.W.fnOf "_law_bits" "_law_bits" (defArgs s_law_bits) (defBody s_law_bits) (defScope s_law_bits) .none kV14 dc14 pm14 an14 cd14 ct14), sl14⟩) (c14 : PySem.W.codeIn K cd14 "_law_bits" = true) (k14 : PySem.W.keepIn K (.ref h14) = true)
    {h15 : Addr} {oc15 kV15 dc15 pm15 cd15 ct15 : Value} {od15 an15 : Option Addr} {sl15 : Array (Option Value)}
    (a15 : PySem.W.nsIn K mainGlobals "_law_added" = some (some (.ref h15))) (l15 : K.lookup h15 = some ⟨oc15, od15, .func (PySem.W.fnOf "_law_added" "_law_added" (defArgs s_law_added) (defBody s_law_added) (defScope s_law_added) .none kV15 dc15 pm15 an15 cd15 ct15), sl15⟩) (c15 : PySem.W.codeIn K cd15 "_law_added" = true) (k15 : PySem.W.keepIn K (.ref h15) = true)
    {h16 : Addr} {oc16 kV16 dc16 pm16 cd16 ct16 : Value} {od16 an16 : Option Addr} {sl16 : Array (Option Value)}
    (a16 : PySem.W.nsIn K mainGlobals "_law_lowest" = some (some (.ref h16))) (l16 : K.lookup h16 = some ⟨oc16, od16, .func (PySem.W.fnOf "_law_lowest" "_law_lowest" (defArgs s_law_lowest) (defBody s_law_lowest) (defScope s_law_lowest) .none kV16 dc16 pm16 an16 cd16 ct16), sl16⟩) (c16 : PySem.W.codeIn K cd16 "_law_lowest" = true) (k16 : PySem.W.keepIn K (.ref h16) = true)
    {h17 : Addr} {oc17 kV17 dc17 pm17 cd17 ct17 : Value} {od17 an17 : Option Addr} {sl17 : Array (Option Value)}
    (a17 : PySem.W.nsIn K mainGlobals "_law_turned_bits" = some (some (.ref h17))) (l17 : K.lookup h17 = some ⟨oc17, od17, .func (PySem.W.fnOf "_law_turned_bits" "_law_turned_bits" (defArgs s_law_turned_bits) (defBody s_law_turned_bits) (defScope s_law_turned_bits) .none kV17 dc17 pm17 an17 cd17 ct17), sl17⟩) (c17 : PySem.W.codeIn K cd17 "_law_turned_bits" = true) (k17 : PySem.W.keepIn K (.ref h17) = true)
    {h18 : Addr} {oc18 kV18 dc18 pm18 cd18 ct18 : Value} {od18 an18 : Option Addr} {sl18 : Array (Option Value)}
    (a18 : PySem.W.nsIn K mainGlobals "_law_made" = some (some (.ref h18))) (l18 : K.lookup h18 = some ⟨oc18, od18, .func (PySem.W.fnOf "_law_made" "_law_made" (defArgs s_law_made) (defBody s_law_made) (defScope s_law_made) .none kV18 dc18 pm18 an18 cd18 ct18), sl18⟩) (c18 : PySem.W.codeIn K cd18 "_law_made" = true) (k18 : PySem.W.keepIn K (.ref h18) = true)
    {h19 : Addr} {oc19 kV19 dc19 pm19 cd19 ct19 : Value} {od19 an19 : Option Addr} {sl19 : Array (Option Value)}
    (a19 : PySem.W.nsIn K mainGlobals "_law_rows" = some (some (.ref h19))) (l19 : K.lookup h19 = some ⟨oc19, od19, .func (PySem.W.fnOf "_law_rows" "_law_rows" (defArgs s_law_rows) (defBody s_law_rows) (defScope s_law_rows) .none kV19 dc19 pm19 an19 cd19 ct19), sl19⟩) (c19 : PySem.W.codeIn K cd19 "_law_rows" = true) (k19 : PySem.W.keepIn K (.ref h19) = true)
    {h20 : Addr} {oc20 kV20 dc20 pm20 cd20 ct20 : Value} {od20 an20 : Option Addr} {sl20 : Array (Option Value)}
    (a20 : PySem.W.nsIn K mainGlobals "_law_worth" = some (some (.ref h20))) (l20 : K.lookup h20 = some ⟨oc20, od20, .func (PySem.W.fnOf "_law_worth" "_law_worth" (defArgs s_law_worth) (defBody s_law_worth) (defScope s_law_worth) .none kV20 dc20 pm20 an20 cd20 ct20), sl20⟩) (c20 : PySem.W.codeIn K cd20 "_law_worth" = true) (k20 : PySem.W.keepIn K (.ref h20) = true)
    {h21 : Addr} {oc21 kV21 dc21 pm21 cd21 ct21 : Value} {od21 an21 : Option Addr} {sl21 : Array (Option Value)}
    (a21 : PySem.W.nsIn K mainGlobals "_law_values" = some (some (.ref h21))) (l21 : K.lookup h21 = some ⟨oc21, od21, .func (PySem.W.fnOf "_law_values" "_law_values" (defArgs s_law_values) (defBody s_law_values) (defScope s_law_values) .none kV21 dc21 pm21 an21 cd21 ct21), sl21⟩) (c21 : PySem.W.codeIn K cd21 "_law_values" = true) (k21 : PySem.W.keepIn K (.ref h21) = true)
    {h22 : Addr} {oc22 kV22 dc22 pm22 cd22 ct22 : Value} {od22 an22 : Option Addr} {sl22 : Array (Option Value)}
    (a22 : PySem.W.nsIn K mainGlobals "_law_refused" = some (some (.ref h22))) (l22 : K.lookup h22 = some ⟨oc22, od22, .func (PySem.W.fnOf "_law_refused" "_law_refused" (defArgs s_law_refused) (defBody s_law_refused) (defScope s_law_refused) .none kV22 dc22 pm22 an22 cd22 ct22), sl22⟩) (c22 : PySem.W.codeIn K cd22 "_law_refused" = true) (k22 : PySem.W.keepIn K (.ref h22) = true)
    {h23 : Addr} {oc23 kV23 dc23 pm23 cd23 ct23 : Value} {od23 an23 : Option Addr} {sl23 : Array (Option Value)}
    (a23 : PySem.W.nsIn K mainGlobals "_law_right" = some (some (.ref h23))) (l23 : K.lookup h23 = some ⟨oc23, od23, .func (PySem.W.fnOf "_law_right" "_law_right" (defArgs s_law_right) (defBody s_law_right) (defScope s_law_right) .none kV23 dc23 pm23 an23 cd23 ct23), sl23⟩) (c23 : PySem.W.codeIn K cd23 "_law_right" = true) (k23 : PySem.W.keepIn K (.ref h23) = true)
    {h24 : Addr} {oc24 kV24 dc24 pm24 cd24 ct24 : Value} {od24 an24 : Option Addr} {sl24 : Array (Option Value)}
    (a24 : PySem.W.nsIn K mainGlobals "law" = some (some (.ref h24))) (l24 : K.lookup h24 = some ⟨oc24, od24, .func (PySem.W.fnOf "law" "law" (defArgs slaw) (defBody slaw) (defScope slaw) .none kV24 dc24 pm24 an24 cd24 ct24), sl24⟩) (c24 : PySem.W.codeIn K cd24 "law" = true) (k24 : PySem.W.keepIn K (.ref h24) = true)
    (z0 : PySem.W.nsIn K mainGlobals "len" = some none)
    (z1 : PySem.W.nsIn K mainGlobals "sum" = some none)
    (z2 : PySem.W.nsIn K mainGlobals "sorted" = some none)
    (z3 : PySem.W.nsIn K mainGlobals "abs" = some none)
    (z4 : PySem.W.nsIn K mainGlobals "min" = some none)
    (z5 : PySem.W.nsIn K mainGlobals "max" = some none)
    (z6 : PySem.W.nsIn K mainGlobals "all" = some none)
    (z7 : PySem.W.nsIn K mainGlobals "int" = some none)
    (z8 : PySem.W.nsIn K mainGlobals "tuple" = some none)
    (z9 : PySem.W.nsIn K mainGlobals "list" = some none)
    (z10 : PySem.W.nsIn K mainGlobals "str" = some none)
    (z11 : PySem.W.nsIn K mainGlobals "dict" = some none)
    (z12 : PySem.W.nsIn K mainGlobals "bool" = some none)
    (z13 : PySem.W.nsIn K mainGlobals "range" = some none)
    (z14 : PySem.W.nsIn K mainGlobals "reversed" = some none)
    (z15 : PySem.W.nsIn K mainGlobals "isinstance" = some none)
    (z16 : PySem.W.nsIn K mainGlobals "zip" = some none)
    (z17 : PySem.W.nsIn K mainGlobals "ValueError" = some none)
    {hc0 hc1 hc2 hc3 hc4 hc5 hc6 hc7 : Addr} {hI : Addr} {ocI kVI dcI pmI cdI ctI : Value} {odI anI : Option Addr} {slI : Array (Option Value)}
    {nmX qX : Str} {nX : Addr} {bsX bmX : List Value} {snX : List Str} {subX : List Value} {abX : Bool} {colX : Option Bool} {ddX : Option Addr} {m0X m1X m2X m3X m5X : Option Value}
    (ac0 : PySem.W.nsIn K mainGlobals "WidthError" = some (some (.ref hc0)))
    (ac1 : PySem.W.nsIn K mainGlobals "NoSum" = some (some (.ref hc1)))
    (ac2 : PySem.W.nsIn K mainGlobals "NoClaim" = some (some (.ref hc2)))
    (ac3 : PySem.W.nsIn K mainGlobals "NoName" = some (some (.ref hc3)))
    (ac4 : PySem.W.nsIn K mainGlobals "NoWords" = some (some (.ref hc4)))
    (ac5 : PySem.W.nsIn K mainGlobals "NoTurning" = some (some (.ref hc5)))
    (ac6 : PySem.W.nsIn K mainGlobals "NoShorter" = some (some (.ref hc6)))
    (ac7 : PySem.W.nsIn K mainGlobals "NoAsk" = some (some (.ref hc7)))
    (cg0 : PySem.W.findIn K (.ref hc0) "__getattribute__" = some (some (.builtin "BaseException.__getattribute__")))
    (ck0 : PySem.W.findIn K (.ref hc0) "__getattr__" = some none)
    (cs0 : PySem.W.subIn K (.ref hc0) (.type "BaseException") = some true)
    (cd0_ : PySem.W.hasDictIn K hc0 = true)
    (ca0 : PySem.W.findIn K (.ref hc0) "__class__" = some (some (.builtin "object.__class__")))
    (cm0 : PySem.W.mroIn K hc0 (.type "object") = some true)
    (cy0 : PySem.W.typeIn K (.ref hc0) = some (.type "type"))
    (cp0 : PySem.W.keepIn K (.ref hc0) = true)
    (cv0 : PySem.W.subIn K (.ref hc0) (.type "ValueError") = some true)
    (cx0 : PySem.W.excIn K hc0 EN.veB "ValueError.__new__" = true)
    (ci0_0 : PySem.W.subIn K (.ref hc0) (.ref hc0) = some true)
    (ci0_1 : PySem.W.subIn K (.ref hc0) (.ref hc1) = some false)
    (ci0_2 : PySem.W.subIn K (.ref hc0) (.ref hc2) = some false)
    (ci0_3 : PySem.W.subIn K (.ref hc0) (.ref hc3) = some false)
    (ci0_4 : PySem.W.subIn K (.ref hc0) (.ref hc4) = some false)
    (ci0_5 : PySem.W.subIn K (.ref hc0) (.ref hc5) = some false)
    (ci0_6 : PySem.W.subIn K (.ref hc0) (.ref hc6) = some false)
    (ci0_7 : PySem.W.subIn K (.ref hc0) (.ref hc7) = some false)
    (cg1 : PySem.W.findIn K (.ref hc1) "__getattribute__" = some (some (.builtin "BaseException.__getattribute__")))
    (ck1 : PySem.W.findIn K (.ref hc1) "__getattr__" = some none)
    (cs1 : PySem.W.subIn K (.ref hc1) (.type "BaseException") = some true)
    (cd1_ : PySem.W.hasDictIn K hc1 = true)
    (ca1 : PySem.W.findIn K (.ref hc1) "__class__" = some (some (.builtin "object.__class__")))
    (cm1 : PySem.W.mroIn K hc1 (.type "object") = some true)
    (cy1 : PySem.W.typeIn K (.ref hc1) = some (.type "type"))
    (cp1 : PySem.W.keepIn K (.ref hc1) = true)
    (cv1 : PySem.W.subIn K (.ref hc1) (.type "ValueError") = some true)
    (cx1 : PySem.W.excIn K hc1 EN.veB "ValueError.__new__" = true)
    (ci1_0 : PySem.W.subIn K (.ref hc1) (.ref hc0) = some true)
    (ci1_1 : PySem.W.subIn K (.ref hc1) (.ref hc1) = some true)
    (ci1_2 : PySem.W.subIn K (.ref hc1) (.ref hc2) = some false)
    (ci1_3 : PySem.W.subIn K (.ref hc1) (.ref hc3) = some false)
    (ci1_4 : PySem.W.subIn K (.ref hc1) (.ref hc4) = some false)
    (ci1_5 : PySem.W.subIn K (.ref hc1) (.ref hc5) = some false)
    (ci1_6 : PySem.W.subIn K (.ref hc1) (.ref hc6) = some false)
    (ci1_7 : PySem.W.subIn K (.ref hc1) (.ref hc7) = some false)
    (cg2 : PySem.W.findIn K (.ref hc2) "__getattribute__" = some (some (.builtin "BaseException.__getattribute__")))
    (ck2 : PySem.W.findIn K (.ref hc2) "__getattr__" = some none)
    (cs2 : PySem.W.subIn K (.ref hc2) (.type "BaseException") = some true)
    (cd2_ : PySem.W.hasDictIn K hc2 = true)
    (ca2 : PySem.W.findIn K (.ref hc2) "__class__" = some (some (.builtin "object.__class__")))
    (cm2 : PySem.W.mroIn K hc2 (.type "object") = some true)
    (cy2 : PySem.W.typeIn K (.ref hc2) = some (.type "type"))
    (cp2 : PySem.W.keepIn K (.ref hc2) = true)
    (cv2 : PySem.W.subIn K (.ref hc2) (.type "ValueError") = some true)
    (cx2 : PySem.W.excIn K hc2 EN.veB "ValueError.__new__" = true)
    (ci2_0 : PySem.W.subIn K (.ref hc2) (.ref hc0) = some true)
    (ci2_1 : PySem.W.subIn K (.ref hc2) (.ref hc1) = some false)
    (ci2_2 : PySem.W.subIn K (.ref hc2) (.ref hc2) = some true)
    (ci2_3 : PySem.W.subIn K (.ref hc2) (.ref hc3) = some false)
    (ci2_4 : PySem.W.subIn K (.ref hc2) (.ref hc4) = some false)
    (ci2_5 : PySem.W.subIn K (.ref hc2) (.ref hc5) = some false)
    (ci2_6 : PySem.W.subIn K (.ref hc2) (.ref hc6) = some false)
    (ci2_7 : PySem.W.subIn K (.ref hc2) (.ref hc7) = some false)
    (cg3 : PySem.W.findIn K (.ref hc3) "__getattribute__" = some (some (.builtin "BaseException.__getattribute__")))
    (ck3 : PySem.W.findIn K (.ref hc3) "__getattr__" = some none)
    (cs3 : PySem.W.subIn K (.ref hc3) (.type "BaseException") = some true)
    (cd3_ : PySem.W.hasDictIn K hc3 = true)
    (ca3 : PySem.W.findIn K (.ref hc3) "__class__" = some (some (.builtin "object.__class__")))
    (cm3 : PySem.W.mroIn K hc3 (.type "object") = some true)
    (cy3 : PySem.W.typeIn K (.ref hc3) = some (.type "type"))
    (cp3 : PySem.W.keepIn K (.ref hc3) = true)
    (cv3 : PySem.W.subIn K (.ref hc3) (.type "ValueError") = some true)
    (ci3_0 : PySem.W.subIn K (.ref hc3) (.ref hc0) = some true)
    (ci3_1 : PySem.W.subIn K (.ref hc3) (.ref hc1) = some false)
    (ci3_2 : PySem.W.subIn K (.ref hc3) (.ref hc2) = some false)
    (ci3_3 : PySem.W.subIn K (.ref hc3) (.ref hc3) = some true)
    (ci3_4 : PySem.W.subIn K (.ref hc3) (.ref hc4) = some false)
    (ci3_5 : PySem.W.subIn K (.ref hc3) (.ref hc5) = some false)
    (ci3_6 : PySem.W.subIn K (.ref hc3) (.ref hc6) = some false)
    (ci3_7 : PySem.W.subIn K (.ref hc3) (.ref hc7) = some false)
    (cg4 : PySem.W.findIn K (.ref hc4) "__getattribute__" = some (some (.builtin "BaseException.__getattribute__")))
    (ck4 : PySem.W.findIn K (.ref hc4) "__getattr__" = some none)
    (cs4 : PySem.W.subIn K (.ref hc4) (.type "BaseException") = some true)
    (cd4_ : PySem.W.hasDictIn K hc4 = true)
    (ca4 : PySem.W.findIn K (.ref hc4) "__class__" = some (some (.builtin "object.__class__")))
    (cm4 : PySem.W.mroIn K hc4 (.type "object") = some true)
    (cy4 : PySem.W.typeIn K (.ref hc4) = some (.type "type"))
    (cp4 : PySem.W.keepIn K (.ref hc4) = true)
    (cv4 : PySem.W.subIn K (.ref hc4) (.type "ValueError") = some true)
    (cx4 : PySem.W.excIn K hc4 EN.veB "ValueError.__new__" = true)
    (ci4_0 : PySem.W.subIn K (.ref hc4) (.ref hc0) = some true)
    (ci4_1 : PySem.W.subIn K (.ref hc4) (.ref hc1) = some false)
    (ci4_2 : PySem.W.subIn K (.ref hc4) (.ref hc2) = some false)
    (ci4_3 : PySem.W.subIn K (.ref hc4) (.ref hc3) = some false)
    (ci4_4 : PySem.W.subIn K (.ref hc4) (.ref hc4) = some true)
    (ci4_5 : PySem.W.subIn K (.ref hc4) (.ref hc5) = some false)
    (ci4_6 : PySem.W.subIn K (.ref hc4) (.ref hc6) = some false)
    (ci4_7 : PySem.W.subIn K (.ref hc4) (.ref hc7) = some false)
    (cg5 : PySem.W.findIn K (.ref hc5) "__getattribute__" = some (some (.builtin "BaseException.__getattribute__")))
    (ck5 : PySem.W.findIn K (.ref hc5) "__getattr__" = some none)
    (cs5 : PySem.W.subIn K (.ref hc5) (.type "BaseException") = some true)
    (cd5_ : PySem.W.hasDictIn K hc5 = true)
    (ca5 : PySem.W.findIn K (.ref hc5) "__class__" = some (some (.builtin "object.__class__")))
    (cm5 : PySem.W.mroIn K hc5 (.type "object") = some true)
    (cy5 : PySem.W.typeIn K (.ref hc5) = some (.type "type"))
    (cp5 : PySem.W.keepIn K (.ref hc5) = true)
    (cv5 : PySem.W.subIn K (.ref hc5) (.type "ValueError") = some true)
    (cx5 : PySem.W.excIn K hc5 EN.veB "ValueError.__new__" = true)
    (ci5_0 : PySem.W.subIn K (.ref hc5) (.ref hc0) = some true)
    (ci5_1 : PySem.W.subIn K (.ref hc5) (.ref hc1) = some false)
    (ci5_2 : PySem.W.subIn K (.ref hc5) (.ref hc2) = some false)
    (ci5_3 : PySem.W.subIn K (.ref hc5) (.ref hc3) = some false)
    (ci5_4 : PySem.W.subIn K (.ref hc5) (.ref hc4) = some false)
    (ci5_5 : PySem.W.subIn K (.ref hc5) (.ref hc5) = some true)
    (ci5_6 : PySem.W.subIn K (.ref hc5) (.ref hc6) = some false)
    (ci5_7 : PySem.W.subIn K (.ref hc5) (.ref hc7) = some false)
    (cg6 : PySem.W.findIn K (.ref hc6) "__getattribute__" = some (some (.builtin "BaseException.__getattribute__")))
    (ck6 : PySem.W.findIn K (.ref hc6) "__getattr__" = some none)
    (cs6 : PySem.W.subIn K (.ref hc6) (.type "BaseException") = some true)
    (cd6_ : PySem.W.hasDictIn K hc6 = true)
    (ca6 : PySem.W.findIn K (.ref hc6) "__class__" = some (some (.builtin "object.__class__")))
    (cm6 : PySem.W.mroIn K hc6 (.type "object") = some true)
    (cy6 : PySem.W.typeIn K (.ref hc6) = some (.type "type"))
    (cp6 : PySem.W.keepIn K (.ref hc6) = true)
    (cv6 : PySem.W.subIn K (.ref hc6) (.type "ValueError") = some true)
    (cx6 : PySem.W.excIn K hc6 EN.veB "ValueError.__new__" = true)
    (ci6_0 : PySem.W.subIn K (.ref hc6) (.ref hc0) = some true)
    (ci6_1 : PySem.W.subIn K (.ref hc6) (.ref hc1) = some false)
    (ci6_2 : PySem.W.subIn K (.ref hc6) (.ref hc2) = some false)
    (ci6_3 : PySem.W.subIn K (.ref hc6) (.ref hc3) = some false)
    (ci6_4 : PySem.W.subIn K (.ref hc6) (.ref hc4) = some false)
    (ci6_5 : PySem.W.subIn K (.ref hc6) (.ref hc5) = some false)
    (ci6_6 : PySem.W.subIn K (.ref hc6) (.ref hc6) = some true)
    (ci6_7 : PySem.W.subIn K (.ref hc6) (.ref hc7) = some false)
    (cg7 : PySem.W.findIn K (.ref hc7) "__getattribute__" = some (some (.builtin "BaseException.__getattribute__")))
    (ck7 : PySem.W.findIn K (.ref hc7) "__getattr__" = some none)
    (cs7 : PySem.W.subIn K (.ref hc7) (.type "BaseException") = some true)
    (cd7_ : PySem.W.hasDictIn K hc7 = true)
    (ca7 : PySem.W.findIn K (.ref hc7) "__class__" = some (some (.builtin "object.__class__")))
    (cm7 : PySem.W.mroIn K hc7 (.type "object") = some true)
    (cy7 : PySem.W.typeIn K (.ref hc7) = some (.type "type"))
    (cp7 : PySem.W.keepIn K (.ref hc7) = true)
    (cv7 : PySem.W.subIn K (.ref hc7) (.type "ValueError") = some true)
    (cx7 : PySem.W.excIn K hc7 EN.veB "ValueError.__new__" = true)
    (ci7_0 : PySem.W.subIn K (.ref hc7) (.ref hc0) = some true)
    (ci7_1 : PySem.W.subIn K (.ref hc7) (.ref hc1) = some false)
    (ci7_2 : PySem.W.subIn K (.ref hc7) (.ref hc2) = some false)
    (ci7_3 : PySem.W.subIn K (.ref hc7) (.ref hc3) = some false)
    (ci7_4 : PySem.W.subIn K (.ref hc7) (.ref hc4) = some false)
    (ci7_5 : PySem.W.subIn K (.ref hc7) (.ref hc5) = some false)
    (ci7_6 : PySem.W.subIn K (.ref hc7) (.ref hc6) = some false)
    (ci7_7 : PySem.W.subIn K (.ref hc7) (.ref hc7) = some true)
    (cen : PySem.W.specialIn K (.builtin "object.__class__") "__get__" = some (some (.builtin "getset_descriptor.__get__")))
    (cet : PySem.W.takesIn K (.builtin "object.__class__") = some true)
    (xL : K.lookup hc3 = some (excClassObj nmX qX hc3 nX bsX bmX true snX subX abX colX ddX m0X m1X m2X m3X m5X "ValueError.__new__"))
    (xB : PySem.HandSPX.refsVE bmX = true)
    (xS : PySem.W.findIn K (.ref hc3) "__setattr__" = some (some (.builtin "object.__setattr__")))
    (xW : PySem.W.findIn K (.ref hc3) "word" = some none)
    (xR : PySem.W.readsIn K hc0 (.type "type") = true)
    (xG : PySem.W.specialIn K (.ref hc0) "__getattribute__" = some (some (.builtin "type.__getattribute__")))
    (xI : PySem.W.findCls K (.ref hc0) (.type "type") "__init__" = some (.val (.builtin "ValueError.__init__")))
    (xF : PySem.W.findIn K (.ref hc3) "__init__" = some (some (.ref hI)))
    (xT : PySem.W.typeIn K (.ref hI) = some (.type "function"))
    (xK : PySem.W.keepIn K (.ref hI) = true)
    (xQ : K.lookup hI = some ⟨ocI, odI, .func (PySem.W.fnOf "__init__" "NoName.__init__" (defArgs sInit) (defBody sInit) (defScope sInit) .none kVI dcI pmI anI cdI ctI), slI⟩)
    (xC : PySem.W.codeIn K cdI "NoName.__init__" = true)
    {gd0 : Addr} {ge0 : Array DictEntry} {gn0 : Nat} (ga0 : PySem.W.nsIn K mainGlobals "KINDS" = some (some (.ref gd0))) (gl0 : K.lookup gd0 = some ⟨.type "dict", none, .dict ge0 gn0, #[]⟩) (gk0 : PySem.W.KeysLit w.params ge0.toList) (gs0 : (gd0 == sysModules) = false) (gx0 : ∀ ks vs, g0 = .dct ks vs → EN.GEs K ge0.toList ks vs)
    {gd1 : Addr} {ge1 : Array DictEntry} {gn1 : Nat} (ga1 : PySem.W.nsIn K mainGlobals "PARTS" = some (some (.ref gd1))) (gl1 : K.lookup gd1 = some ⟨.type "dict", none, .dict ge1 gn1, #[]⟩) (gk1 : PySem.W.KeysLit w.params ge1.toList) (gs1 : (gd1 == sysModules) = false) (gx1 : ∀ ks vs, g1 = .dct ks vs → EN.GEs K ge1.toList ks vs)
    : ∃ fd : FuncData, (∀ (s : Shared) (v : Value), BindsTo s fd ⟨[v], []⟩ [("script", v)]) ∧ ∀ base : Heap, K.In base → base.Ns mainGlobals mg → FnOk l.prog w K mg base (L2.CX l.prog w) 10 fa fd ["script"] (EN.spF K (EN.CofK K) (EN.run D gl 8) 24 1) := by
  have e := hfa.symm.trans (PySem.W.mg_of X Gn a24)
  cases e
  have d0 := EN.df_mk (G := G) (ar := EN.arD D) (xs := true) (st := swords_at) (i := 0) (fn := fwords_at) (sup := pwords_at) X Gn a0 l0 c0 k0 rfl (fun _ _ _ _ _ _ us hl => match us, hl with | [_], _ => rfl) rfl rfl (by decide) scwords_at okwords_at txwords_at
  have d1 := EN.df_mk (G := G) (ar := EN.arD D) (xs := true) (st := scut) (i := 1) (fn := fcut) (sup := pcut) X Gn a1 l1 c1 k1 rfl (fun _ _ _ _ _ _ us hl => match us, hl with | [_, _], _ => rfl) rfl rfl (by decide) sccut okcut txcut
  have d2 := EN.df_mk (G := G) (ar := EN.arD D) (xs := true) (st := sneed_names) (i := 2) (fn := fneed_names) (sup := pneed_names) X Gn a2 l2 c2 k2 rfl (fun _ _ _ _ _ _ us hl => match us, hl with | [_, _], _ => rfl) rfl rfl (by decide) scneed_names okneed_names txneed_names
  have d3 := EN.df_mk (G := G) (ar := EN.arD D) (xs := true) (st := smade) (i := 3) (fn := fmade) (sup := pmade) X Gn a3 l3 c3 k3 rfl (fun _ _ _ _ _ _ us hl => match us, hl with | [_, _, _], _ => rfl) rfl rfl (by decide) scmade okmade txmade
  have d4 := EN.df_mk (G := G) (ar := EN.arD D) (xs := true) (st := sworth_of) (i := 4) (fn := fworth_of) (sup := pworth_of) X Gn a4 l4 c4 k4 rfl (fun _ _ _ _ _ _ us hl => match us, hl with | [_, _, _, _], _ => rfl) rfl rfl (by decide) scworth_of okworth_of txworth_of
  have d5 := EN.df_mk (G := G) (ar := EN.arD D) (xs := true) (st := sworth) (i := 5) (fn := fworth) (sup := pworth) X Gn a5 l5 c5 k5 rfl (fun _ _ _ _ _ _ us hl => match us, hl with | [_, _, _], _ => rfl) rfl rfl (by decide) scworth okworth txworth
  have d6 := EN.df_mk (G := G) (ar := EN.arD D) (xs := true) (st := s_law_deck) (i := 6) (fn := f_law_deck) (sup := p_law_deck) X Gn a6 l6 c6 k6 rfl (fun _ _ _ _ _ _ us hl => match us, hl with | [_], _ => rfl) rfl rfl (by decide) sc_law_deck ok_law_deck tx_law_deck
  have d7 := EN.df_mk (G := G) (ar := EN.arD D) (xs := true) (st := s_law_take) (i := 7) (fn := f_law_take) (sup := p_law_take) X Gn a7 l7 c7 k7 rfl (fun _ _ _ _ _ _ us hl => match us, hl with | [_, _], _ => rfl) rfl rfl (by decide) sc_law_take ok_law_take tx_law_take
  have d8 := EN.df_mk (G := G) (ar := EN.arD D) (xs := true) (st := s_law_power) (i := 8) (fn := f_law_power) (sup := p_law_power) X Gn a8 l8 c8 k8 rfl (fun _ _ _ _ _ _ us hl => match us, hl with | [_], _ => rfl) rfl rfl (by decide) sc_law_power ok_law_power tx_law_power
  have d9 := EN.df_mk (G := G) (ar := EN.arD D) (xs := true) (st := s_law_width) (i := 9) (fn := f_law_width) (sup := p_law_width) X Gn a9 l9 c9 k9 rfl (fun _ _ _ _ _ _ us hl => match us, hl with | [_], _ => rfl) rfl rfl (by decide) sc_law_width ok_law_width tx_law_width
  have d10 := EN.df_mk (G := G) (ar := EN.arD D) (xs := true) (st := s_law_kept) (i := 10) (fn := f_law_kept) (sup := p_law_kept) X Gn a10 l10 c10 k10 rfl (fun _ _ _ _ _ _ us hl => match us, hl with | [], _ => rfl) rfl rfl (by decide) sc_law_kept ok_law_kept tx_law_kept
  have d11 := EN.df_mk (G := G) (ar := EN.arD D) (xs := true) (st := s_law_names) (i := 11) (fn := f_law_names) (sup := p_law_names) X Gn a11 l11 c11 k11 rfl (fun _ _ _ _ _ _ us hl => match us, hl with | [_], _ => rfl) rfl rfl (by decide) sc_law_names ok_law_names tx_law_names
  have d12 := EN.df_mk (G := G) (ar := EN.arD D) (xs := true) (st := s_law_leaf) (i := 12) (fn := f_law_leaf) (sup := p_law_leaf) X Gn a12 l12 c12 k12 rfl (fun _ _ _ _ _ _ us hl => match us, hl with | [_, _], _ => rfl) rfl rfl (by decide) sc_law_leaf ok_law_leaf tx_law_leaf
  have d13 := EN.df_mk (G := G) (ar := EN.arD D) (xs := true) (st := s_law_sum) (i := 13) (fn := f_law_sum) (sup := p_law_sum) X Gn a13 l13 c13 k13 rfl (fun _ _ _ _ _ _ us hl => match us, hl with | [_, _, _, _], _ => rfl) rfl rfl (by decide) sc_law_sum ok_law_sum tx_law_sum
  have d14 := EN.df_mk (G := G) (ar := EN.arD D) (xs := true) (st := s_law_bits) (i := 14) (fn := f_law_bits) (sup := p_law_bits) X Gn a14 l14 c14 k14 rfl (fun _ _ _ _ _ _ us hl => match us, hl with | [_, _], _ => rfl) rfl rfl (by decide) sc_law_bits ok_law_bits tx_law_bits
  have d15 := EN.df_mk (G := G) (ar := EN.arD D) (xs := true) (st := s_law_added) (i := 15) (fn := f_law_added) (sup := p_law_added) X Gn a15 l15 c15 k15 rfl (fun _ _ _ _ _ _ us hl => match us, hl with | [_, _, _], _ => rfl) rfl rfl (by decide) sc_law_added ok_law_added tx_law_added
  have d16 := EN.df_mk (G := G) (ar := EN.arD D) (xs := true) (st := s_law_lowest) (i := 16) (fn := f_law_lowest) (sup := p_law_lowest) X Gn a16 l16 c16 k16 rfl (fun _ _ _ _ _ _ us hl => match us, hl with | [_], _ => rfl) rfl rfl (by decide) sc_law_lowest ok_law_lowest tx_law_lowest
  have d17 := EN.df_mk (G := G) (ar := EN.arD D) (xs := true) (st := s_law_turned_bits) (i := 17) (fn := f_law_turned_bits) (sup := p_law_turned_bits) X Gn a17 l17 c17 k17 rfl (fun _ _ _ _ _ _ us hl => match us, hl with | [_], _ => rfl) rfl rfl (by decide) sc_law_turned_bits ok_law_turned_bits tx_law_turned_bits
  have d18 := EN.df_mk (G := G) (ar := EN.arD D) (xs := true) (st := s_law_made) (i := 18) (fn := f_law_made) (sup := p_law_made) X Gn a18 l18 c18 k18 rfl (fun _ _ _ _ _ _ us hl => match us, hl with | [_, _], _ => rfl) rfl rfl (by decide) sc_law_made ok_law_made tx_law_made
  have d19 := EN.df_mk (G := G) (ar := EN.arD D) (xs := true) (st := s_law_rows) (i := 19) (fn := f_law_rows) (sup := p_law_rows) X Gn a19 l19 c19 k19 rfl (fun _ _ _ _ _ _ us hl => match us, hl with | [_, _, _, _], _ => rfl) rfl rfl (by decide) sc_law_rows ok_law_rows tx_law_rows
  have d20 := EN.df_mk (G := G) (ar := EN.arD D) (xs := true) (st := s_law_worth) (i := 20) (fn := f_law_worth) (sup := p_law_worth) X Gn a20 l20 c20 k20 rfl (fun _ _ _ _ _ _ us hl => match us, hl with | [_, _, _], _ => rfl) rfl rfl (by decide) sc_law_worth ok_law_worth tx_law_worth
  have d21 := EN.df_mk (G := G) (ar := EN.arD D) (xs := true) (st := s_law_values) (i := 21) (fn := f_law_values) (sup := p_law_values) X Gn a21 l21 c21 k21 rfl (fun _ _ _ _ _ _ us hl => match us, hl with | [_, _, _], _ => rfl) rfl rfl (by decide) sc_law_values ok_law_values tx_law_values
  have d22 := EN.df_mk (G := G) (ar := EN.arD D) (xs := true) (st := s_law_refused) (i := 22) (fn := f_law_refused) (sup := p_law_refused) X Gn a22 l22 c22 k22 rfl (fun _ _ _ _ _ _ us hl => match us, hl with | [_, _, _, _], _ => rfl) rfl rfl (by decide) sc_law_refused ok_law_refused tx_law_refused
  have d23 := EN.df_mk (G := G) (ar := EN.arD D) (xs := true) (st := s_law_right) (i := 23) (fn := f_law_right) (sup := p_law_right) X Gn a23 l23 c23 k23 rfl (fun _ _ _ _ _ _ us hl => match us, hl with | [_, _, _, _], _ => rfl) rfl rfl (by decide) sc_law_right ok_law_right tx_law_right
  have d24 := EN.df_mk (G := G) (ar := EN.arD D) (xs := true) (st := slaw) (i := 24) (fn := flaw) (sup := plaw) X Gn a24 l24 c24 k24 rfl (fun _ _ _ _ _ _ us hl => match us, hl with | [_], _ => rfl) rfl rfl (by decide) sclaw oklaw txlaw
  have q0 : EN.CofK K 0 = hc0 := EN.cofK_of ac0
  have q1 : EN.CofK K 1 = hc1 := EN.cofK_of ac1
  have q2 : EN.CofK K 2 = hc2 := EN.cofK_of ac2
  have q3 : EN.CofK K 3 = hc3 := EN.cofK_of ac3
  have q4 : EN.CofK K 4 = hc4 := EN.cofK_of ac4
  have q5 : EN.CofK K 5 = hc5 := EN.cofK_of ac5
  have q6 : EN.CofK K 6 = hc6 := EN.cofK_of ac6
  have q7 : EN.CofK K 7 = hc7 := EN.cofK_of ac7
  subst q0
  subst q1
  subst q2
  subst q3
  subst q4
  subst q5
  subst q6
  subst q7
  have FI := fun_mk (st := sInit) xQ xC xK
  have cf : EN.ClsF K mg := {
    gl := fun c hc => match c, hc with | 0, _ => PySem.W.mg_of X Gn ac0 | 1, _ => PySem.W.mg_of X Gn ac1 | 2, _ => PySem.W.mg_of X Gn ac2 | 3, _ => PySem.W.mg_of X Gn ac3 | 4, _ => PySem.W.mg_of X Gn ac4 | 5, _ => PySem.W.mg_of X Gn ac5 | 6, _ => PySem.W.mg_of X Gn ac6 | 7, _ => PySem.W.mg_of X Gn ac7 | n + 8, h => absurd h (by omega)
    ec := fun c hc => match c, hc with | 0, _ => ⟨cg0, ck0, cs0, cd0_, ca0, cen, cet, cm0⟩ | 1, _ => ⟨cg1, ck1, cs1, cd1_, ca1, cen, cet, cm1⟩ | 2, _ => ⟨cg2, ck2, cs2, cd2_, ca2, cen, cet, cm2⟩ | 3, _ => ⟨cg3, ck3, cs3, cd3_, ca3, cen, cet, cm3⟩ | 4, _ => ⟨cg4, ck4, cs4, cd4_, ca4, cen, cet, cm4⟩ | 5, _ => ⟨cg5, ck5, cs5, cd5_, ca5, cen, cet, cm5⟩ | 6, _ => ⟨cg6, ck6, cs6, cd6_, ca6, cen, cet, cm6⟩ | 7, _ => ⟨cg7, ck7, cs7, cd7_, ca7, cen, cet, cm7⟩ | n + 8, h => absurd h (by omega)
    ex := fun c hc => match c, hc with | 0, _ => PySem.W.exm_ref cs0 cd0_ cy0 ci0_0 | 1, _ => PySem.W.exm_ref cs0 cd0_ cy0 ci1_0 | 2, _ => PySem.W.exm_ref cs0 cd0_ cy0 ci2_0 | 3, _ => PySem.W.exm_ref cs0 cd0_ cy0 ci3_0 | 4, _ => PySem.W.exm_ref cs0 cd0_ cy0 ci4_0 | 5, _ => PySem.W.exm_ref cs0 cd0_ cy0 ci5_0 | 6, _ => PySem.W.exm_ref cs0 cd0_ cy0 ci6_0 | 7, _ => PySem.W.exm_ref cs0 cd0_ cy0 ci7_0 | n + 8, h => absurd h (by omega)
    ki := fun c hc => match c, hc with | 0, _ => (fun d hd => match d, hd with | 0, _ => EN.kit_sub ci0_0 cd0_ cy0 ci0_0 | 1, _ => EN.kit_sub ci0_0 cd1_ cy1 ci0_1 | 2, _ => EN.kit_sub ci0_0 cd2_ cy2 ci0_2 | 3, _ => EN.kit_sub ci0_0 cd3_ cy3 ci0_3 | 4, _ => EN.kit_sub ci0_0 cd4_ cy4 ci0_4 | 5, _ => EN.kit_sub ci0_0 cd5_ cy5 ci0_5 | 6, _ => EN.kit_sub ci0_0 cd6_ cy6 ci0_6 | 7, _ => EN.kit_sub ci0_0 cd7_ cy7 ci0_7 | n + 8, h => absurd h (by omega)) | 1, _ => (fun d hd => match d, hd with | 0, _ => EN.kit_sub ci1_1 cd0_ cy0 ci1_0 | 1, _ => EN.kit_sub ci1_1 cd1_ cy1 ci1_1 | 2, _ => EN.kit_sub ci1_1 cd2_ cy2 ci1_2 | 3, _ => EN.kit_sub ci1_1 cd3_ cy3 ci1_3 | 4, _ => EN.kit_sub ci1_1 cd4_ cy4 ci1_4 | 5, _ => EN.kit_sub ci1_1 cd5_ cy5 ci1_5 | 6, _ => EN.kit_sub ci1_1 cd6_ cy6 ci1_6 | 7, _ => EN.kit_sub ci1_1 cd7_ cy7 ci1_7 | n + 8, h => absurd h (by omega)) | 2, _ => (fun d hd => match d, hd with | 0, _ => EN.kit_sub ci2_2 cd0_ cy0 ci2_0 | 1, _ => EN.kit_sub ci2_2 cd1_ cy1 ci2_1 | 2, _ => EN.kit_sub ci2_2 cd2_ cy2 ci2_2 | 3, _ => EN.kit_sub ci2_2 cd3_ cy3 ci2_3 | 4, _ => EN.kit_sub ci2_2 cd4_ cy4 ci2_4 | 5, _ => EN.kit_sub ci2_2 cd5_ cy5 ci2_5 | 6, _ => EN.kit_sub ci2_2 cd6_ cy6 ci2_6 | 7, _ => EN.kit_sub ci2_2 cd7_ cy7 ci2_7 | n + 8, h => absurd h (by omega)) | 3, _ => (fun d hd => match d, hd with | 0, _ => EN.kit_sub ci3_3 cd0_ cy0 ci3_0 | 1, _ => EN.kit_sub ci3_3 cd1_ cy1 ci3_1 | 2, _ => EN.kit_sub ci3_3 cd2_ cy2 ci3_2 | 3, _ => EN.kit_sub ci3_3 cd3_ cy3 ci3_3 | 4, _ => EN.kit_sub ci3_3 cd4_ cy4 ci3_4 | 5, _ => EN.kit_sub ci3_3 cd5_ cy5 ci3_5 | 6, _ => EN.kit_sub ci3_3 cd6_ cy6 ci3_6 | 7, _ => EN.kit_sub ci3_3 cd7_ cy7 ci3_7 | n + 8, h => absurd h (by omega)) | 4, _ => (fun d hd => match d, hd with | 0, _ => EN.kit_sub ci4_4 cd0_ cy0 ci4_0 | 1, _ => EN.kit_sub ci4_4 cd1_ cy1 ci4_1 | 2, _ => EN.kit_sub ci4_4 cd2_ cy2 ci4_2 | 3, _ => EN.kit_sub ci4_4 cd3_ cy3 ci4_3 | 4, _ => EN.kit_sub ci4_4 cd4_ cy4 ci4_4 | 5, _ => EN.kit_sub ci4_4 cd5_ cy5 ci4_5 | 6, _ => EN.kit_sub ci4_4 cd6_ cy6 ci4_6 | 7, _ => EN.kit_sub ci4_4 cd7_ cy7 ci4_7 | n + 8, h => absurd h (by omega)) | 5, _ => (fun d hd => match d, hd with | 0, _ => EN.kit_sub ci5_5 cd0_ cy0 ci5_0 | 1, _ => EN.kit_sub ci5_5 cd1_ cy1 ci5_1 | 2, _ => EN.kit_sub ci5_5 cd2_ cy2 ci5_2 | 3, _ => EN.kit_sub ci5_5 cd3_ cy3 ci5_3 | 4, _ => EN.kit_sub ci5_5 cd4_ cy4 ci5_4 | 5, _ => EN.kit_sub ci5_5 cd5_ cy5 ci5_5 | 6, _ => EN.kit_sub ci5_5 cd6_ cy6 ci5_6 | 7, _ => EN.kit_sub ci5_5 cd7_ cy7 ci5_7 | n + 8, h => absurd h (by omega)) | 6, _ => (fun d hd => match d, hd with | 0, _ => EN.kit_sub ci6_6 cd0_ cy0 ci6_0 | 1, _ => EN.kit_sub ci6_6 cd1_ cy1 ci6_1 | 2, _ => EN.kit_sub ci6_6 cd2_ cy2 ci6_2 | 3, _ => EN.kit_sub ci6_6 cd3_ cy3 ci6_3 | 4, _ => EN.kit_sub ci6_6 cd4_ cy4 ci6_4 | 5, _ => EN.kit_sub ci6_6 cd5_ cy5 ci6_5 | 6, _ => EN.kit_sub ci6_6 cd6_ cy6 ci6_6 | 7, _ => EN.kit_sub ci6_6 cd7_ cy7 ci6_7 | n + 8, h => absurd h (by omega)) | 7, _ => (fun d hd => match d, hd with | 0, _ => EN.kit_sub ci7_7 cd0_ cy0 ci7_0 | 1, _ => EN.kit_sub ci7_7 cd1_ cy1 ci7_1 | 2, _ => EN.kit_sub ci7_7 cd2_ cy2 ci7_2 | 3, _ => EN.kit_sub ci7_7 cd3_ cy3 ci7_3 | 4, _ => EN.kit_sub ci7_7 cd4_ cy4 ci7_4 | 5, _ => EN.kit_sub ci7_7 cd5_ cy5 ci7_5 | 6, _ => EN.kit_sub ci7_7 cd6_ cy6 ci7_6 | 7, _ => EN.kit_sub ci7_7 cd7_ cy7 ci7_7 | n + 8, h => absurd h (by omega)) | n + 8, h => absurd h (by omega)
    kv := fun c hc => match c, hc with | 0, _ => EN.kit_ve cv0 | 1, _ => EN.kit_ve cv1 | 2, _ => EN.kit_ve cv2 | 3, _ => EN.kit_ve cv3 | 4, _ => EN.kit_ve cv4 | 5, _ => EN.kit_ve cv5 | 6, _ => EN.kit_ve cv6 | 7, _ => EN.kit_ve cv7 | n + 8, h => absurd h (by omega)
    ra := fun c hc => match c, hc with | 0, _ => fun _ => ⟨cx0, cp0, cs0, cy0⟩ | 1, _ => fun _ => ⟨cx1, cp1, cs1, cy1⟩ | 2, _ => fun _ => ⟨cx2, cp2, cs2, cy2⟩ | 3, _ => fun z => (z rfl).elim | 4, _ => fun _ => ⟨cx4, cp4, cs4, cy4⟩ | 5, _ => fun _ => ⟨cx5, cp5, cs5, cy5⟩ | 6, _ => fun _ => ⟨cx6, cp6, cs6, cy6⟩ | 7, _ => fun _ => ⟨cx7, cp7, cs7, cy7⟩ | n + 8, h => absurd h (by omega)
    rw_ := { ox := ⟨⟨_, _, _, _, _, _, _, _, _, _, _, _, _, _, _, xL, xB⟩, xS, cs3, cy3, cp3⟩, gB := ⟨_, PySem.W.mg_of X Gn ac0, ⟨xR, xG⟩, xI⟩, noW := xW, fn := ⟨_, sInit, _, _, _, xF, xT, FI, scInit, txInit, hcInit, FI.binds (ps := ["self", "word"]) fun _ _ _ _ _ _ us hl => match us, hl with | [_, _], _ => rfl, glInit⟩ } }
  have p : EN.Prg D gl G (EN.arD D) true K w mg := ⟨EN.har_ D, fun x hx => ?_, fun g v hg hd => ?_, fun g ks vs hg => ?_, fun f fn hf => ?_, fun _ => cf⟩
  · exact ⟨_, fun s v => .of_eq rfl, fun base _ _ => EN.level p _ 24 flaw _ _ _ _ rfl d24⟩
  · simp only [EN.bltNames, List.mem_cons, List.not_mem_nil, or_false] at hx
    rcases hx with rfl | rfl | rfl | rfl | rfl | rfl | rfl | rfl | rfl | rfl | rfl | rfl | rfl | rfl | rfl | rfl | rfl | rfl
    · exact PySem.W.mg_none_of X Gn z0
    · exact PySem.W.mg_none_of X Gn z1
    · exact PySem.W.mg_none_of X Gn z2
    · exact PySem.W.mg_none_of X Gn z3
    · exact PySem.W.mg_none_of X Gn z4
    · exact PySem.W.mg_none_of X Gn z5
    · exact PySem.W.mg_none_of X Gn z6
    · exact PySem.W.mg_none_of X Gn z7
    · exact PySem.W.mg_none_of X Gn z8
    · exact PySem.W.mg_none_of X Gn z9
    · exact PySem.W.mg_none_of X Gn z10
    · exact PySem.W.mg_none_of X Gn z11
    · exact PySem.W.mg_none_of X Gn z12
    · exact PySem.W.mg_none_of X Gn z13
    · exact PySem.W.mg_none_of X Gn z14
    · exact PySem.W.mg_none_of X Gn z15
    · exact PySem.W.mg_none_of X Gn z16
    · exact PySem.W.mg_none_of X Gn z17
  · match g, hg with
    | 0, hg => cases hg; exact (hd _ _ rfl).elim
    | 1, hg => cases hg; exact (hd _ _ rfl).elim
    | _ + 2, hg => cases hg
  · match g, hg with
    | 0, hg => have hg : some g0 = some (.dct ks vs) := hg; exact EN.gd_mk (G := G) (g := 0) X Gn rfl ga0 gl0 gk0 gs0 (gx0 ks vs (Option.some.inj hg))
    | 1, hg => have hg : some g1 = some (.dct ks vs) := hg; exact EN.gd_mk (G := G) (g := 1) X Gn rfl ga1 gl1 gk1 gs1 (gx1 ks vs (Option.some.inj hg))
    | _ + 2, hg => cases hg
  · match f, hf with
    | 0, hf => have hf : some fwords_at = some fn := hf; cases hf; exact ⟨_, _, _, _, d0⟩
    | 1, hf => have hf : some fcut = some fn := hf; cases hf; exact ⟨_, _, _, _, d1⟩
    | 2, hf => have hf : some fneed_names = some fn := hf; cases hf; exact ⟨_, _, _, _, d2⟩
    | 3, hf => have hf : some fmade = some fn := hf; cases hf; exact ⟨_, _, _, _, d3⟩
    | 4, hf => have hf : some fworth_of = some fn := hf; cases hf; exact ⟨_, _, _, _, d4⟩
    | 5, hf => have hf : some fworth = some fn := hf; cases hf; exact ⟨_, _, _, _, d5⟩
    | 6, hf => have hf : some f_law_deck = some fn := hf; cases hf; exact ⟨_, _, _, _, d6⟩
    | 7, hf => have hf : some f_law_take = some fn := hf; cases hf; exact ⟨_, _, _, _, d7⟩
    | 8, hf => have hf : some f_law_power = some fn := hf; cases hf; exact ⟨_, _, _, _, d8⟩
    | 9, hf => have hf : some f_law_width = some fn := hf; cases hf; exact ⟨_, _, _, _, d9⟩
    | 10, hf => have hf : some f_law_kept = some fn := hf; cases hf; exact ⟨_, _, _, _, d10⟩
    | 11, hf => have hf : some f_law_names = some fn := hf; cases hf; exact ⟨_, _, _, _, d11⟩
    | 12, hf => have hf : some f_law_leaf = some fn := hf; cases hf; exact ⟨_, _, _, _, d12⟩
    | 13, hf => have hf : some f_law_sum = some fn := hf; cases hf; exact ⟨_, _, _, _, d13⟩
    | 14, hf => have hf : some f_law_bits = some fn := hf; cases hf; exact ⟨_, _, _, _, d14⟩
    | 15, hf => have hf : some f_law_added = some fn := hf; cases hf; exact ⟨_, _, _, _, d15⟩
    | 16, hf => have hf : some f_law_lowest = some fn := hf; cases hf; exact ⟨_, _, _, _, d16⟩
    | 17, hf => have hf : some f_law_turned_bits = some fn := hf; cases hf; exact ⟨_, _, _, _, d17⟩
    | 18, hf => have hf : some f_law_made = some fn := hf; cases hf; exact ⟨_, _, _, _, d18⟩
    | 19, hf => have hf : some f_law_rows = some fn := hf; cases hf; exact ⟨_, _, _, _, d19⟩
    | 20, hf => have hf : some f_law_worth = some fn := hf; cases hf; exact ⟨_, _, _, _, d20⟩
    | 21, hf => have hf : some f_law_values = some fn := hf; cases hf; exact ⟨_, _, _, _, d21⟩
    | 22, hf => have hf : some f_law_refused = some fn := hf; cases hf; exact ⟨_, _, _, _, d22⟩
    | 23, hf => have hf : some f_law_right = some fn := hf; cases hf; exact ⟨_, _, _, _, d23⟩
    | 24, hf => have hf : some flaw = some fn := hf; cases hf; exact ⟨_, _, _, _, d24⟩
    | _ + 25, hf => have hf : (none : Option EN.Fn) = some fn := hf; cases hf
theorem walk {l : PySem.W.OpenLaw} {q : Program} {loose : List Str} {XP : (Str → Option Value) → Heap → Prop} {YP : World → Heap → Prop} {d : DefRec} {K : Params → PySem.W.Frag} (hn : l.most = some 63) (hdf : d.params.defaults = [])
    (hY : ∀ (w : World) (h : Heap), YP w h → (K w.params).In h)
    (F : ∀ (w : World) (mg : Str → Option Value) (fa : Addr) (h : Heap), (K w.params).In h → h.Ns mainGlobals mg → mg d.name = some (.ref fa) →
      ∃ fd : FuncData, (∀ (s : Shared) (u : Value), BindsTo s fd ⟨[u], []⟩ [("script", u)]) ∧ ∀ base : Heap, (K w.params).In base → base.Ns mainGlobals mg → FnOk l.prog w (K w.params) mg base (L2.CX l.prog w) 10 fa fd ["script"] (EN.spF (K w.params) (EN.CofK (K w.params)) (EN.run D gl 8) 24 1)) :
    PySem.W.WalkO q loose XP YP l.row.toRowW d [] (fun f vs => PySem.call f vs) :=
  L2.walk_of (n := 63) (k := 10) (x := "script") (CX := fun w => L2.CX l.prog w) (sp := fun w => EN.spF (K w.params) (EN.CofK (K w.params)) (EN.run D gl 8) 24 1) hn (by decide) hdf ⟨rfl, by decide, by decide⟩ hY F (fun _ _ a ns hl _ hS => EN.law_sp hS (law_true ns hl)) fun _ _ _ _ _ z => EN.cx_out z
end Law

open PySem PySem.W PyProof.Rows in
set_option maxRecDepth 100000 in
set_option maxHeartbeats 0 in
theorem PySem.Challenge.cw_everywidth_k07_worths_holds : PySem.Challenge.rw_everywidth_k07_worths.Holds := by
  w_on; o_law; k_head; (case hw => w_witness2)
  k_fill
  refine Law.walk (l := PySem.Challenge.rw_everywidth_k07_worths) rfl rfl (fun w h Y => PySem.W.kIn_of Y) ?F
  case F =>
    intro w mg fa h KX Gn hmg
    refine' Law.all_mk KX Gn hmg ?a0 ?l0 ?c0 ?k0 ?a1 ?l1 ?c1 ?k1 ?a2 ?l2 ?c2 ?k2 ?a3 ?l3 ?c3 ?k3 ?a4 ?l4 ?c4 ?k4 ?a5 ?l5 ?c5 ?k5 ?a6 ?l6 ?c6 ?k6 ?a7 ?l7 ?c7 ?k7 ?a8 ?l8 ?c8 ?k8 ?a9 ?l9 ?c9 ?k9 ?a10 ?l10 ?c10 ?k10 ?a11 ?l11 ?c11 ?k11 ?a12 ?l12 ?c12 ?k12 ?a13 ?l13 ?c13 ?k13 ?a14 ?l14 ?c14 ?k14 ?a15 ?l15 ?c15 ?k15 ?a16 ?l16 ?c16 ?k16 ?a17 ?l17 ?c17 ?k17 ?a18 ?l18 ?c18 ?k18 ?a19 ?l19 ?c19 ?k19 ?a20 ?l20 ?c20 ?k20 ?a21 ?l21 ?c21 ?k21 ?a22 ?l22 ?c22 ?k22 ?a23 ?l23 ?c23 ?k23 ?a24 ?l24 ?c24 ?k24 ?z0 ?z1 ?z2 ?z3 ?z4 ?z5 ?z6 ?z7 ?z8 ?z9 ?z10 ?z11 ?z12 ?z13 ?z14 ?z15 ?z16 ?z17 ?ac0 ?ac1 ?ac2 ?ac3 ?ac4 ?ac5 ?ac6 ?ac7 ?cg0 ?ck0 ?cs0 ?cd0_ ?ca0 ?cm0 ?cy0 ?cp0 ?cv0 ?cx0 ?ci0_0 ?ci0_1 ?ci0_2 ?ci0_3 ?ci0_4 ?ci0_5 ?ci0_6 ?ci0_7 ?cg1 ?ck1 ?cs1 ?cd1_ ?ca1 ?cm1 ?cy1 ?cp1 ?cv1 ?cx1 ?ci1_0 ?ci1_1 ?ci1_2 ?ci1_3 ?ci1_4 ?ci1_5 ?ci1_6 ?ci1_7 ?cg2 ?ck2 ?cs2 ?cd2_ ?ca2 ?cm2 ?cy2 ?cp2 ?cv2 ?cx2 ?ci2_0 ?ci2_1 ?ci2_2 ?ci2_3 ?ci2_4 ?ci2_5 ?ci2_6 ?ci2_7 ?cg3 ?ck3 ?cs3 ?cd3_ ?ca3 ?cm3 ?cy3 ?cp3 ?cv3 ?ci3_0 ?ci3_1 ?ci3_2 ?ci3_3 ?ci3_4 ?ci3_5 ?ci3_6 ?ci3_7 ?cg4 ?ck4 ?cs4 ?cd4_ ?ca4 ?cm4 ?cy4 ?cp4 ?cv4 ?cx4 ?ci4_0 ?ci4_1 ?ci4_2 ?ci4_3 ?ci4_4 ?ci4_5 ?ci4_6 ?ci4_7 ?cg5 ?ck5 ?cs5 ?cd5_ ?ca5 ?cm5 ?cy5 ?cp5 ?cv5 ?cx5 ?ci5_0 ?ci5_1 ?ci5_2 ?ci5_3 ?ci5_4 ?ci5_5 ?ci5_6 ?ci5_7 ?cg6 ?ck6 ?cs6 ?cd6_ ?ca6 ?cm6 ?cy6 ?cp6 ?cv6 ?cx6 ?ci6_0 ?ci6_1 ?ci6_2 ?ci6_3 ?ci6_4 ?ci6_5 ?ci6_6 ?ci6_7 ?cg7 ?ck7 ?cs7 ?cd7_ ?ca7 ?cm7 ?cy7 ?cp7 ?cv7 ?cx7 ?ci7_0 ?ci7_1 ?ci7_2 ?ci7_3 ?ci7_4 ?ci7_5 ?ci7_6 ?ci7_7 ?cen ?cet ?xL ?xB ?xS ?xW ?xR ?xG ?xI ?xF ?xT ?xK ?xQ ?xC ?ga0 ?gl0 ?gk0 ?gs0 ?gx0 ?ga1 ?gl1 ?gk1 ?gs1 ?gx1
    (case a0 => k_is)
    (case l0 => k_is)
    (case c0 => k_is)
    (case k0 => k_is)
    (case a1 => k_is)
    (case l1 => k_is)
    (case c1 => k_is)
    (case k1 => k_is)
    (case a2 => k_is)
    (case l2 => k_is)
    (case c2 => k_is)
    (case k2 => k_is)
    (case a3 => k_is)
    (case l3 => k_is)
    (case c3 => k_is)
    (case k3 => k_is)
    (case a4 => k_is)
    (case l4 => k_is)
    (case c4 => k_is)
    (case k4 => k_is)
    (case a5 => k_is)
    (case l5 => k_is)
    (case c5 => k_is)
    (case k5 => k_is)
    (case a6 => k_is)
    (case l6 => k_is)
    (case c6 => k_is)
    (case k6 => k_is)
    (case a7 => k_is)
    (case l7 => k_is)
    (case c7 => k_is)
    (case k7 => k_is)
    (case a8 => k_is)
    (case l8 => k_is)
    (case c8 => k_is)
    (case k8 => k_is)
    (case a9 => k_is)
    (case l9 => k_is)
    (case c9 => k_is)
    (case k9 => k_is)
    (case a10 => k_is)
    (case l10 => k_is)
    (case c10 => k_is)
    (case k10 => k_is)
    (case a11 => k_is)
    (case l11 => k_is)
    (case c11 => k_is)
    (case k11 => k_is)
    (case a12 => k_is)
    (case l12 => k_is)
    (case c12 => k_is)
    (case k12 => k_is)
    (case a13 => k_is)
    (case l13 => k_is)
    (case c13 => k_is)
    (case k13 => k_is)
    (case a14 => k_is)
    (case l14 => k_is)
    (case c14 => k_is)
    (case k14 => k_is)
    (case a15 => k_is)
    (case l15 => k_is)
    (case c15 => k_is)
    (case k15 => k_is)
    (case a16 => k_is)
    (case l16 => k_is)
    (case c16 => k_is)
    (case k16 => k_is)
    (case a17 => k_is)
    (case l17 => k_is)
    (case c17 => k_is)
    (case k17 => k_is)
    (case a18 => k_is)
    (case l18 => k_is)
    (case c18 => k_is)
    (case k18 => k_is)
    (case a19 => k_is)
    (case l19 => k_is)
    (case c19 => k_is)
    (case k19 => k_is)
    (case a20 => k_is)
    (case l20 => k_is)
    (case c20 => k_is)
    (case k20 => k_is)
    (case a21 => k_is)
    (case l21 => k_is)
    (case c21 => k_is)
    (case k21 => k_is)
    (case a22 => k_is)
    (case l22 => k_is)
    (case c22 => k_is)
    (case k22 => k_is)
    (case a23 => k_is)
    (case l23 => k_is)
    (case c23 => k_is)
    (case k23 => k_is)
    (case a24 => k_is)
    (case l24 => k_is)
    (case c24 => k_is)
    (case k24 => k_is)
    (case z0 => k_is)
    (case z1 => k_is)
    (case z2 => k_is)
    (case z3 => k_is)
    (case z4 => k_is)
    (case z5 => k_is)
    (case z6 => k_is)
    (case z7 => k_is)
    (case z8 => k_is)
    (case z9 => k_is)
    (case z10 => k_is)
    (case z11 => k_is)
    (case z12 => k_is)
    (case z13 => k_is)
    (case z14 => k_is)
    (case z15 => k_is)
    (case z16 => k_is)
    (case z17 => k_is)
    (case ac0 => k_is)
    (case ac1 => k_is)
    (case ac2 => k_is)
    (case ac3 => k_is)
    (case ac4 => k_is)
    (case ac5 => k_is)
    (case ac6 => k_is)
    (case ac7 => k_is)
    (case cg0 => k_is)
    (case ck0 => k_is)
    (case cs0 => k_is)
    (case cd0_ => k_is)
    (case ca0 => k_is)
    (case cm0 => k_is)
    (case cy0 => k_is)
    (case cp0 => k_is)
    (case cv0 => k_is)
    (case cx0 => k_exc)
    (case ci0_0 => first | rfl | k_is)
    (case ci0_1 => first | rfl | k_is)
    (case ci0_2 => first | rfl | k_is)
    (case ci0_3 => first | rfl | k_is)
    (case ci0_4 => first | rfl | k_is)
    (case ci0_5 => first | rfl | k_is)
    (case ci0_6 => first | rfl | k_is)
    (case ci0_7 => first | rfl | k_is)
    (case cg1 => k_is)
    (case ck1 => k_is)
    (case cs1 => k_is)
    (case cd1_ => k_is)
    (case ca1 => k_is)
    (case cm1 => k_is)
    (case cy1 => k_is)
    (case cp1 => k_is)
    (case cv1 => k_is)
    (case cx1 => k_exc)
    (case ci1_0 => first | rfl | k_is)
    (case ci1_1 => first | rfl | k_is)
    (case ci1_2 => first | rfl | k_is)
    (case ci1_3 => first | rfl | k_is)
    (case ci1_4 => first | rfl | k_is)
    (case ci1_5 => first | rfl | k_is)
    (case ci1_6 => first | rfl | k_is)
    (case ci1_7 => first | rfl | k_is)
    (case cg2 => k_is)
    (case ck2 => k_is)
    (case cs2 => k_is)
    (case cd2_ => k_is)
    (case ca2 => k_is)
    (case cm2 => k_is)
    (case cy2 => k_is)
    (case cp2 => k_is)
    (case cv2 => k_is)
    (case cx2 => k_exc)
    (case ci2_0 => first | rfl | k_is)
    (case ci2_1 => first | rfl | k_is)
    (case ci2_2 => first | rfl | k_is)
    (case ci2_3 => first | rfl | k_is)
    (case ci2_4 => first | rfl | k_is)
    (case ci2_5 => first | rfl | k_is)
    (case ci2_6 => first | rfl | k_is)
    (case ci2_7 => first | rfl | k_is)
    (case cg3 => k_is)
    (case ck3 => k_is)
    (case cs3 => k_is)
    (case cd3_ => k_is)
    (case ca3 => k_is)
    (case cm3 => k_is)
    (case cy3 => k_is)
    (case cp3 => k_is)
    (case cv3 => k_is)
    (case ci3_0 => first | rfl | k_is)
    (case ci3_1 => first | rfl | k_is)
    (case ci3_2 => first | rfl | k_is)
    (case ci3_3 => first | rfl | k_is)
    (case ci3_4 => first | rfl | k_is)
    (case ci3_5 => first | rfl | k_is)
    (case ci3_6 => first | rfl | k_is)
    (case ci3_7 => first | rfl | k_is)
    (case cg4 => k_is)
    (case ck4 => k_is)
    (case cs4 => k_is)
    (case cd4_ => k_is)
    (case ca4 => k_is)
    (case cm4 => k_is)
    (case cy4 => k_is)
    (case cp4 => k_is)
    (case cv4 => k_is)
    (case cx4 => k_exc)
    (case ci4_0 => first | rfl | k_is)
    (case ci4_1 => first | rfl | k_is)
    (case ci4_2 => first | rfl | k_is)
    (case ci4_3 => first | rfl | k_is)
    (case ci4_4 => first | rfl | k_is)
    (case ci4_5 => first | rfl | k_is)
    (case ci4_6 => first | rfl | k_is)
    (case ci4_7 => first | rfl | k_is)
    (case cg5 => k_is)
    (case ck5 => k_is)
    (case cs5 => k_is)
    (case cd5_ => k_is)
    (case ca5 => k_is)
    (case cm5 => k_is)
    (case cy5 => k_is)
    (case cp5 => k_is)
    (case cv5 => k_is)
    (case cx5 => k_exc)
    (case ci5_0 => first | rfl | k_is)
    (case ci5_1 => first | rfl | k_is)
    (case ci5_2 => first | rfl | k_is)
    (case ci5_3 => first | rfl | k_is)
    (case ci5_4 => first | rfl | k_is)
    (case ci5_5 => first | rfl | k_is)
    (case ci5_6 => first | rfl | k_is)
    (case ci5_7 => first | rfl | k_is)
    (case cg6 => k_is)
    (case ck6 => k_is)
    (case cs6 => k_is)
    (case cd6_ => k_is)
    (case ca6 => k_is)
    (case cm6 => k_is)
    (case cy6 => k_is)
    (case cp6 => k_is)
    (case cv6 => k_is)
    (case cx6 => k_exc)
    (case ci6_0 => first | rfl | k_is)
    (case ci6_1 => first | rfl | k_is)
    (case ci6_2 => first | rfl | k_is)
    (case ci6_3 => first | rfl | k_is)
    (case ci6_4 => first | rfl | k_is)
    (case ci6_5 => first | rfl | k_is)
    (case ci6_6 => first | rfl | k_is)
    (case ci6_7 => first | rfl | k_is)
    (case cg7 => k_is)
    (case ck7 => k_is)
    (case cs7 => k_is)
    (case cd7_ => k_is)
    (case ca7 => k_is)
    (case cm7 => k_is)
    (case cy7 => k_is)
    (case cp7 => k_is)
    (case cv7 => k_is)
    (case cx7 => k_exc)
    (case ci7_0 => first | rfl | k_is)
    (case ci7_1 => first | rfl | k_is)
    (case ci7_2 => first | rfl | k_is)
    (case ci7_3 => first | rfl | k_is)
    (case ci7_4 => first | rfl | k_is)
    (case ci7_5 => first | rfl | k_is)
    (case ci7_6 => first | rfl | k_is)
    (case ci7_7 => first | rfl | k_is)
    (case cen => k_is)
    (case cet => k_is)
    (case xL => k_is)
    (case xB => decide +kernel)
    (case xS => k_is)
    (case xW => k_is)
    (case xR => k_is)
    (case xG => k_is)
    (case xI => k_is)
    (case xF => k_is)
    (case xT => k_is)
    (case xK => k_is)
    (case xQ => k_is)
    (case xC => k_is)
    (case ga0 => k_is)
    (case gl0 => k_is)
    (case gk0 => k_keys)
    (case gs0 => rfl)
    (case gx0 => intro ks vs hg; cases hg; (repeat' first | exact trivial | (refine EN.ge_str ⟨_, _, rfl, rfl⟩ rfl ?_) | (refine' EN.ge_tup ?tx ⟨_, _, rfl, rfl⟩ rfl ?tl ?tc ?td ?tz ?tv ?_; (case tx => rfl); (case tl => k_is); (case tc => rfl); (case td => rfl); (case tz => decide); (case tv => repeat' first | exact .nil | (refine .cons ⟨_, rfl⟩ ?_)))))
    (case ga1 => k_is)
    (case gl1 => k_is)
    (case gk1 => k_keys)
    (case gs1 => rfl)
    (case gx1 => intro ks vs hg; cases hg; (repeat' first | exact trivial | (refine EN.ge_str ⟨_, _, rfl, rfl⟩ rfl ?_) | (refine' EN.ge_tup ?tx ⟨_, _, rfl, rfl⟩ rfl ?tl ?tc ?td ?tz ?tv ?_; (case tx => rfl); (case tl => k_is); (case tc => rfl); (case td => rfl); (case tz => decide); (case tv => repeat' first | exact .nil | (refine .cons ⟨_, rfl⟩ ?_)))))

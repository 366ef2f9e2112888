import PyProof.Rows.All
import HandS.ForMost
import HandS.IsInst
import HandS.Conv
import PyProof.ReprRoads
import PyProof.EqLayable
import HandS.TupAny
import HandS.TupMul
import HandS.Walk
import HandS.Flow
import HandS.Zip
import Wide.All
import OpenK.AllK
import Wide.FinOn
import PyProof.ListMulRoad
import PyProof.FactsAll.tuple_2
import HandS.Wide
import KE.GoesEnum
import HandS.Gcd
import HandS.Star
import HandS.MapObj
import KE.KDictZip
import KE.GoesMore
import HandS.ListItems
import HandS.SetFor
import HandS.Head2
import HandS.HeadEnd
import HandS.HeadHook2
import HandS.Words
import HandS.WordsExc
import HandS.Defaults
import PyProof.P3Eq
import PySem.Challenge.RW_laterthen_k43_whole_orbits_and_times_beh
/-! ZEv: a small language of Python forms, and what it does over trees of data (PyData) and a store of lists that may change. -/
set_option linter.all false
set_option autoImplicit false
namespace Z
open PySem

abbrev D := PyData
/-- what a name or an expression stands for: data; the list number n of the store; a list that was just made; the law's script -/
inductive W where
  | d (x : D)
  | c (n : Nat)
  | f (xs : List D)
  | s (ns : List Int)
  | l (ns : List Nat)
/-- a list of the store; fz: it will not change any more -/
structure Cell where
  fz : Bool
  xs : List D
abbrev Store := List Cell
abbrev Slots := List (Option W)

/-- what is read of it -/
def rd (st : Store) : W → Option D
  | .d x => some x
  | .f xs => some (.list xs)
  | .c n => (st[n]?).map fun c => .list c.xs
  | .s _ => none
  | .l _ => none
def fixL (st : Store) : List Nat → Option (List D × Store)
  | [] => some ([], st)
  | n :: r => (st[n]?).bind fun c => (fixL (st.set n ⟨true, c.xs⟩) r).map fun q => (.list c.xs :: q.1, q.2)
/-- the lists of a list of lists, as they stand -/
def cellsD (st : Store) : List Nat → Option (List D)
  | [] => some []
  | n :: r => (st[n]?).bind fun c => (cellsD st r).map fun q => .list c.xs :: q
def rdx (st : Store) : W → Option D
  | .l ns => (cellsD st ns).map .list
  | w => rd st w
/-- it becomes data: a list of the store changes no more -/
def fix (st : Store) : W → Option (D × Store)
  | .d x => some (x, st)
  | .f xs => some (.list xs, st)
  | .c n => (st[n]?).map fun c => (.list c.xs, st.set n ⟨true, c.xs⟩)
  | .s _ => none
  | .l ns => (fixL st ns).map fun q => (.list q.1, q.2)

inductive BOp where
  | add | sub | mul | fdiv | mod | pow
  deriving DecidableEq
inductive COp where
  | eq | ne | lt | le | gt | ge | isN | isnotN | inn | notin
  deriving DecidableEq
inductive Ty where
  | int | bool | tuple | list | str | dict
  deriving DecidableEq
inductive Bi where
  | len | all | any | tuple | list | max | min | sum | abs | int | divmod | repr
  deriving DecidableEq
inductive Me where
  | append | extend | pop
  deriving DecidableEq

mutual
inductive E where
  | var (i : Nat)
  | non
  | bl (b : Bool)
  | int (i : Int)
  | str (x : Str)
  | glo (x : Str)
  | neg (a : E)
  | bin (o : BOp) (a b : E)
  | cmp (o : COp) (a b : E)
  | chain (o p : COp) (a b c : E)
  | and (es : Es)
  | or (es : Es)
  | not (a : E)
  | ife (c a b : E)
  | tup (es : Es)
  | lst (es : Es)
  | dct0
  | call (f : Nat) (es : Es)
  | callk (f : Nat) (np : Nat) (ks : List Str) (perm : List Nat) (es : Es)
  | bi (b : Bi) (es : Es)
  | isi (ts : List Ty) (tp : Bool) (a : E)
  | lrg1 (a : E)
  | lrg2 (a b : E)
  | trg1 (a : E)
  | idx (a b : E)
  | len (a : E)
  | sl (a : E) (lo hi : Es)
  | lc (own : List Nat) (elt : E) (tg : List Nat) (flat : Bool) (it : It) (cs : Es)
  | me (m : Me) (i : Nat) (es : Es)
  | gcd (a b : E)
  | tzs (a : E)
  | lens (a : E)
  | rpl (es : Es)
  | rpx (a : E)
  | lcs (es : Es)
  | idl (a b : E)
  | lcat (a b : E)
  | mex (m : Me) (a : E) (es : Es)
  | lcc (own : List Nat) (elt : E) (tg : List Nat) (flat : Bool) (it : It)
inductive Es where
  | nil
  | cons (e : E) (r : Es)
inductive It where
  | val (e : E)
  | rng (es : Es)
  | zip (a b : E)
  | enum (e : E)
end

/-- int i of a Python index -/
def itemAt (xs : List D) (i : Int) : Option D := L2.atI xs i
def truth : D → Option Bool
  | .none => some false
  | .bool b => some b
  | .int i => some (i != 0)
  | .str x => if x.length ≤ sizeLine then some ((x.length : Int) != 0) else none
  | .list xs => some (!xs.isEmpty)
  | .tuple xs => some (!xs.isEmpty)
  | .dict _ => none

def lit64 (i : Int) : Bool := decide (-(2 ^ 64) < i) && decide (i < 2 ^ 64)
def wideB : Nat := 2 ^ 4000
def binF : BOp → D → D → Option W
  | .add, .int i, .int j => some (.d (.int (i + j)))
  | .add, .str x, .str y => if x.length + y.length ≤ sizeLine then some (.d (.str (x ++ y))) else none
  | .add, .tuple xs, .tuple ys => if xs ≠ [] ∧ xs.length + ys.length ≤ sizeLine then some (.d (.tuple (xs ++ ys))) else none
  | .add, .list xs, .list ys => if xs.length + ys.length ≤ sizeLine then some (.f (xs ++ ys)) else none
  | .sub, .int i, .int j => some (.d (.int (i - j)))
  | .mul, .int i, .int j => if lit64 i || lit64 j then some (.d (.int (i * j))) else if i.natAbs < wideB ∧ j.natAbs < wideB then some (.d (.int (i * j))) else none
  | .mul, .list xs, .int j => if -(2 ^ 63) ≤ j ∧ j < 2 ^ 63 ∧ xs.length * j.toNat ≤ sizeLine then some (.f (List.replicate j.toNat xs).flatten) else none
  | .mul, .tuple xs, .int j => if xs ≠ [] ∧ 2 ≤ j ∧ j ≤ 1000 ∧ xs.length ≤ 1000 then some (.d (.tuple (List.replicate j.toNat xs).flatten)) else if j = 1 then some (.d (.tuple xs)) else none
  | .fdiv, .int i, .int j => if 0 < j ∧ j < 1073741824 then some (.d (.int (i / j))) else if 0 < j ∧ j.natAbs < wideB then some (.d (.int (i / j))) else none
  | .mod, .int i, .int j => if 0 < j then some (.d (.int (i % j))) else none
  | .pow, .int i, .int j => if 0 ≤ j ∧ j ≤ 1000000 ∧ i.natAbs < 2 ^ 64 then some (.d (.int (i ^ j.toNat))) else none
  | _, _, _ => none

def flat : D → Bool
  | .none => true
  | .bool _ => true
  | .int _ => true
  | .str _ => true
  | _ => false
def isNone : D → Bool
  | .none => true
  | _ => false
def cmpF : COp → D → D → Option Bool
  | .eq, .str x, .str y => some (decide (x = y))
  | .ne, .str x, .str y => some (!decide (x = y))
  | .eq, x, y => if SeqAt.shaped x && SeqAt.shaped y then some (PyData.eqv x y) else none
  | .ne, x, y => if SeqAt.shaped x && SeqAt.shaped y then some (!PyData.eqv x y) else none
  | .lt, .int i, .int j => some (decide (i < j))
  | .le, .int i, .int j => some (decide (i ≤ j))
  | .gt, .int i, .int j => some (decide (j < i))
  | .ge, .int i, .int j => some (decide (j ≤ i))
  | .isN, x, .none => some (isNone x)
  | .isnotN, x, .none => some (!isNone x)
  | _, _, _ => none

def tyOf : D → Ty → Bool
  | .bool _, .int => true
  | .bool _, .bool => true
  | .int _, .int => true
  | .tuple _, .tuple => true
  | .list _, .list => true
  | .str _, .str => true
  | .dict _, .dict => true
  | _, _ => false
def boolsD : List D → Option (List Bool)
  | [] => some []
  | .bool b :: r => (boolsD r).map (b :: ·)
  | _ :: _ => none
def intsD : List D → Option (List Int)
  | [] => some []
  | .int i :: r => (intsD r).map (i :: ·)
  | _ :: _ => none
def maxI : Int → List Int → Int
  | a, [] => a
  | a, x :: r => maxI (if x > a then x else a) r
def minI : Int → List Int → Int
  | a, [] => a
  | a, x :: r => minI (if x < a then x else a) r
def rangeD (lo : Int) (n : Nat) : List D := (List.range n).map fun i => .int (lo + (i : Nat))
def isD0 : D → Bool
  | .dict [] => true
  | _ => false
def reprOk (x : D) : Bool := isD0 x || (x.showable && decide (x.depth ≤ 100) && !x.hasDict && decide (x.shown.length ≤ sizeLine))
def rgOk (a b : Int) : Bool := decide (-(2 ^ 62) ≤ a) && decide (a < 2 ^ 62) && decide (-(2 ^ 62) ≤ b) && decide (b < 2 ^ 62) && decide ((b - a).toNat ≤ 2 ^ 24)
def biF : Bi → List D → Option W
  | .len, [.list xs] => some (.d (.int xs.length))
  | .len, [.tuple xs] => some (.d (.int xs.length))
  | .len, [.str x] => if x.length ≤ sizeLine then some (.d (.int x.length)) else none
  | .all, [.list xs] => (boolsD xs).map fun bs => .d (.bool (bs.all id))
  | .any, [.list xs] => (boolsD xs).map fun bs => .d (.bool (bs.any id))
  | .tuple, [.list xs] => some (.d (.tuple xs))
  | .tuple, [.tuple xs] => some (.d (.tuple xs))
  | .list, [.list xs] => some (.f xs)
  | .list, [.tuple xs] => some (.f xs)
  | .max, [.list xs] => (intsD xs).bind fun | [] => none | a :: r => some (.d (.int (maxI a r)))
  | .min, [.list xs] => (intsD xs).bind fun | [] => none | a :: r => some (.d (.int (minI a r)))
  | .max, [.int i, .int j] => some (.d (.int (if j > i then j else i)))
  | .min, [.int i, .int j] => some (.d (.int (if j < i then j else i)))
  | .sum, [.list xs] => (intsD xs).map fun ns => .d (.int ns.sum)
  | .abs, [.int i] => some (.d (.int (if i < 0 then -i else i)))
  | .int, [.int i] => some (.d (.int i))
  | .divmod, [.int i, .int j] => if 0 < j ∧ j < 1073741824 then some (.d (.tuple [.int (i / j), .int (i % j)])) else none
  | .repr, [x] => if reprOk x then some (.d (.str x.shown)) else none
  | _, _ => none

/-- len(set(xs)), where no number stands twice -/
def lensF : D → Option D
  | .list xs => (intsD xs).bind fun ns => if ns.Nodup ∧ ns.length ≤ 4000 then some (.int ns.length) else none
  | .tuple xs => (intsD xs).bind fun ns => if ns.Nodup ∧ ns.length ≤ 4000 then some (.int ns.length) else none
  | _ => none
/-- math.gcd -/
def gcdF : D → D → Option D
  | .int i, .int j => some (.int ((Nat.gcd i.natAbs j.natAbs : Nat) : Int))
  | _, _ => none
/-- tuple(zip(*rows)), rows of one length -/
def allT : List D → Option (List (List D))
  | [] => some []
  | .tuple xs :: r => (allT r).map (xs :: ·)
  | _ :: _ => none
def colsD (m : Nat) (xss : List (List D)) : List D := (List.range m).map fun j => .tuple (xss.map fun xs => xs.getD j .none)
def transF : D → Option D
  | .tuple rows => (allT rows).bind fun xss => match xss with
    | [] => none
    | xs :: r => if r.length ≤ 7 ∧ xs.length ≠ 0 ∧ xs.length ≤ 1000 ∧ r.all (fun ys => decide (ys.length = xs.length)) = true then some (.tuple (colsD xs.length (xs :: r))) else none
  | _ => none
def cutD (xs : List D) (lo hi : Option Int) : List D := (xs.drop (HT.sIx xs.length 0 lo)).take (HT.sIx xs.length xs.length hi - HT.sIx xs.length 0 lo)
def part : List D → Option (Option Int)
  | [] => some none
  | [.int i] => some (some i)
  | _ => none
def sliceF (x : D) (lo hi : Option Int) : Option W :=
  match x with
  | .list xs => some (.f (cutD xs lo hi))
  | .tuple xs => some (.d (.tuple (cutD xs lo hi)))
  | _ => none
def idxF (x y : D) : Option D :=
  match x, y with
  | .list xs, .int i => itemAt xs i
  | .tuple xs, .int i => itemAt xs i
  | _, _ => none

/-- a method that changes the list n of the store -/
def meF (st : Store) (n : Nat) (m : Me) (ws : List W) : Option (W × Store) :=
  match m, ws with
  | .append, [w] => (fix st w).bind fun p => (p.2[n]?).bind fun c =>
      if c.fz = false ∧ c.xs.length < sizeLine then some (.d .none, p.2.set n ⟨false, c.xs ++ [p.1]⟩) else none
  | .extend, [w] => (rd st w).bind fun y => (st[n]?).bind fun c =>
      match y with
      | .list ys => if c.fz = false ∧ c.xs.length + ys.length ≤ sizeLine then some (.d .none, st.set n ⟨false, c.xs ++ ys⟩) else none
      | _ => none
  | .pop, [] => (st[n]?).bind fun c => (c.xs[c.xs.length - 1]?).bind fun x =>
      if c.fz = false then some (.d x, st.set n ⟨false, c.xs.dropLast⟩) else none
  | .pop, [w] => (rd st w).bind fun y => (st[n]?).bind fun c =>
      match y with
      | .int i => if -(2 ^ 63) ≤ i ∧ i < 2 ^ 63 then (seqIndex? i c.xs.length).bind fun k => (c.xs[k]?).bind fun x =>
          if c.fz = false then some (.d x, st.set n ⟨false, c.xs.eraseIdx k⟩) else none
        else none
      | _ => none
  | _, _ => none

def rds (st : Store) : List W → Option (List D)
  | [] => some []
  | w :: r => (rd st w).bind fun x => (rds st r).map (x :: ·)
def rdxs (st : Store) : List W → Option (List D)
  | [] => some []
  | w :: r => (rdx st w).bind fun x => (rdxs st r).map (x :: ·)
/-- lists that were just made, or lists of the store: all of them lists of the store -/
def cells (st : Store) : List W → Option (List Nat × Store)
  | [] => some ([], st)
  | w :: r => match w with
    | .c n => (cells st r).map fun q => (n :: q.1, q.2)
    | .f xs => (cells (st ++ [⟨false, xs⟩]) r).map fun q => (st.length :: q.1, q.2)
    | _ => none
def setAll (ρ : Slots) : List Nat → List D → Option Slots
  | [], [] => some ρ
  | i :: r, x :: xs => setAll (ρ.set i (some (.d x))) r xs
  | _, _ => none
def wipeW (ρ : Slots) : List Nat → Slots
  | [] => ρ
  | i :: r => wipeW (ρ.set i none) r
/-- the targets of a for: one name, or a tuple of names -/
def bindD (ρ : Slots) (tg : List Nat) (flat : Bool) (x : D) : Option Slots :=
  if flat then (match tg with | [i] => some (ρ.set i (some (.d x))) | _ => none)
  else (match x with | .tuple xs => setAll ρ tg xs | _ => none)
def zipD : List D → List D → List D
  | x :: xs, y :: ys => .tuple [x, y] :: zipD xs ys
  | _, _ => []
def enumD : Nat → List D → List D
  | _, [] => []
  | n, x :: xs => .tuple [.int n, x] :: enumD (n + 1) xs
def zipK : D → D → Option (List D)
  | .list xs, .list ys => some (zipD xs ys)
  | .tuple xs, .tuple ys => some (zipD xs ys)
  | .list xs, .tuple ys => some (zipD xs ys)
  | .tuple xs, .list ys => some (zipD xs ys)
  | _, _ => none
def enumK : D → Option (List D)
  | .list xs => some (enumD 0 xs)
  | .tuple xs => some (enumD 0 xs)
  | _ => none
def itemsOf : D → Option (List D)
  | .list xs => some xs
  | .tuple xs => some xs
  | _ => none
/-- a comprehension over the items -/
def compL (body : D → Store → Option (Option D × Store)) : List D → Store → Option (List D × Store)
  | [], st => some ([], st)
  | x :: xs, st => (body x st).bind fun p => (compL body xs p.2).bind fun q =>
      match p.1 with
      | some y => if q.1.length < sizeLine then some (y :: q.1, q.2) else none
      | none => some q

/-- .. whose items are lists of the store -/
def compC (body : D → Store → Option (W × Store)) : List D → Store → Option (List Nat × Store)
  | [], st => some ([], st)
  | x :: xs, st => (body x st).bind fun p => match p.1 with
      | .f ys => (compC body xs (p.2 ++ [⟨false, ys⟩])).bind fun q => if q.1.length < sizeLine then some (p.2.length :: q.1, q.2) else none
      | _ => none

abbrev Calls := Nat → List W → Store → Option (W × Store)
section
variable (Γ : Calls) (C : Str → Option D)
mutual
def ev : E → Slots → Store → Option (W × Store)
  | .var i, ρ, st => match ρ[i]? with
    | some (some w) => some (w, st)
    | _ => none
  | .non, _, st => some (.d .none, st)
  | .bl b, _, st => some (.d (.bool b), st)
  | .int i, _, st => some (.d (.int i), st)
  | .str x, _, st => some (.d (.str x), st)
  | .glo x, _, st => (C x).map fun d => (.d d, st)
  | .neg a, ρ, st => (ev a ρ st).bind fun p => match p.1 with
    | .d (.int i) => some (.d (.int (-i)), p.2)
    | _ => none
  | .bin o a b, ρ, st => (ev a ρ st).bind fun p => (ev b ρ p.2).bind fun q =>
      (rd q.2 p.1).bind fun x => (rd q.2 q.1).bind fun y => (binF o x y).map fun w => (w, q.2)
  | .cmp o a b, ρ, st => (ev a ρ st).bind fun p => (ev b ρ p.2).bind fun q =>
      (rd q.2 p.1).bind fun x => (rd q.2 q.1).bind fun y => (cmpF o x y).map fun k => (.d (.bool k), q.2)
  | .chain o o' a b c, ρ, st => (ev a ρ st).bind fun p => (ev b ρ p.2).bind fun q =>
      (rd q.2 p.1).bind fun x => (rd q.2 q.1).bind fun y => (cmpF o x y).bind fun k =>
        if k then (ev c ρ q.2).bind fun r => (rd r.2 q.1).bind fun y' => (rd r.2 r.1).bind fun z => (cmpF o' y' z).map fun k' => (.d (.bool k'), r.2)
        else some (.d (.bool false), q.2)
  | .and es, ρ, st => evA es ρ st
  | .or es, ρ, st => evO es ρ st
  | .not a, ρ, st => (ev a ρ st).bind fun p => ((rd p.2 p.1).bind truth).map fun k => (.d (.bool (!k)), p.2)
  | .ife c a b, ρ, st => (ev c ρ st).bind fun p => ((rd p.2 p.1).bind truth).bind fun k => if k then ev a ρ p.2 else ev b ρ p.2
  | .tup es, ρ, st => (evD es ρ st).bind fun p => if p.1.length ≤ sizeLine then some (.d (.tuple p.1), p.2) else none
  | .lst es, ρ, st => (evD es ρ st).bind fun p => if p.1.length ≤ sizeLine then some (.f p.1, p.2) else none
  | .dct0, _, st => some (.d (.dict []), st)
  | .call f es, ρ, st => (evs es ρ st).bind fun p => Γ f p.1 p.2
  | .callk f _ _ perm es, ρ, st => (evD es ρ st).bind fun p => Γ f (perm.filterMap fun i => (p.1[i]?).map W.d) p.2
  | .bi b es, ρ, st => (evs es ρ st).bind fun p => (rds p.2 p.1).bind fun xs => (biF b xs).map fun w => (w, p.2)
  | .isi ts _ a, ρ, st => (ev a ρ st).bind fun p => (rd p.2 p.1).map fun x => (.d (.bool (ts.any (tyOf x))), p.2)
  | .lrg1 a, ρ, st => (ev a ρ st).bind fun p => (rd p.2 p.1).bind fun x => match x with
    | .int n => if rgOk 0 n then some (.f (rangeD 0 n.toNat), p.2) else none
    | _ => none
  | .lrg2 a b, ρ, st => (ev a ρ st).bind fun p => (ev b ρ p.2).bind fun q => (rd q.2 p.1).bind fun x => (rd q.2 q.1).bind fun y => match x, y with
    | .int i, .int j => if rgOk i j then some (.f (rangeD i (j - i).toNat), q.2) else none
    | _, _ => none
  | .trg1 a, ρ, st => (ev a ρ st).bind fun p => (rd p.2 p.1).bind fun x => match x with
    | .int n => if rgOk 0 n then some (.d (.tuple (rangeD 0 n.toNat)), p.2) else none
    | _ => none
  | .idx a b, ρ, st => (ev a ρ st).bind fun p => (ev b ρ p.2).bind fun q => (rd q.2 q.1).bind fun y => match p.1 with
      | .s ns => (idxF (.list (ns.map PyData.int)) y).map fun d => (.d d, q.2)
      | w => (rd q.2 w).bind fun x => (idxF x y).map fun d => (.d d, q.2)
  | .len a, ρ, st => (ev a ρ st).bind fun p => match p.1 with
      | .s ns => some (.d (.int ns.length), p.2)
      | w => (rd p.2 w).bind fun x => (biF .len [x]).map fun w => (w, p.2)
  | .sl a lo hi, ρ, st => (ev a ρ st).bind fun p => (evD lo ρ p.2).bind fun q => (evD hi ρ q.2).bind fun r =>
      (part q.1).bind fun l => (part r.1).bind fun h => (rd r.2 p.1).bind fun x => (sliceF x l h).map fun w => (w, r.2)
  | .lc own elt tg fl it cs, ρ, st => (evI it ρ st).bind fun p =>
      (compL (fun x st => (bindD (wipeW ρ own) tg fl x).bind fun ρ' => (evC cs ρ' st).bind fun q =>
        if q.1 then (ev elt ρ' q.2).bind fun r => (fix r.2 r.1).map fun y => (some y.1, y.2) else some (none, q.2)) p.1 p.2).map fun q => (.f q.1, q.2)
  | .me m i es, ρ, st => match ρ[i]? with
    | some (some (.c n)) => (evs es ρ st).bind fun q => meF q.2 n m q.1
    | _ => none
  | .gcd a b, ρ, st => (ev a ρ st).bind fun p => (ev b ρ p.2).bind fun q => (rd q.2 p.1).bind fun x => (rd q.2 q.1).bind fun y => (gcdF x y).map fun d => (.d d, q.2)
  | .tzs a, ρ, st => (ev a ρ st).bind fun p => (rd p.2 p.1).bind fun x => (transF x).map fun d => (.d d, p.2)
  | .lens a, ρ, st => (ev a ρ st).bind fun p => (rd p.2 p.1).bind fun x => (lensF x).map fun d => (.d d, p.2)
  | .rpl es, ρ, st => (evs es ρ st).bind fun q => (rdxs q.2 q.1).bind fun xs => if reprOk (.list xs) = true ∧ xs.length ≤ sizeLine then some (.d (.str (PyData.shown (.list xs))), q.2) else none
  | .rpx a, ρ, st => (ev a ρ st).bind fun p => (rdx p.2 p.1).bind fun x => if reprOk x = true ∧ isD0 x = false then some (.d (.str (PyData.shown x)), p.2) else none
  | .lcs es, ρ, st => (evs es ρ st).bind fun q => (cells q.2 q.1).bind fun r => if r.1.length ≤ sizeLine then some (.l r.1, r.2) else none
  | .idl a b, ρ, st => (ev a ρ st).bind fun p => (ev b ρ p.2).bind fun q => (rd q.2 q.1).bind fun y => match p.1, y with
      | .l ns, .int i => (L2.atI ns i).map fun n => (.c n, q.2)
      | _, _ => none
  | .lcat a b, ρ, st => (ev a ρ st).bind fun p => (ev b ρ p.2).bind fun q => match p.1, q.1 with
      | .l ns, .l ms => if ns.length + ms.length ≤ sizeLine then some (.l (ns ++ ms), q.2) else none
      | _, _ => none
  | .mex m a es, ρ, st => (ev a ρ st).bind fun p => match p.1 with
      | .c n => (evs es ρ p.2).bind fun q => meF q.2 n m q.1
      | _ => none
  | .lcc own elt tg fl it, ρ, st => (evI it ρ st).bind fun p =>
      (compC (fun x st => (bindD (wipeW ρ own) tg fl x).bind fun ρ' => ev elt ρ' st) p.1 p.2).map fun q => (.l q.1, q.2)
/-- the arguments, as they are -/
def evs : Es → Slots → Store → Option (List W × Store)
  | .nil, _, st => some ([], st)
  | .cons e r, ρ, st => (ev e ρ st).bind fun p => (evs r ρ p.2).map fun q => (p.1 :: q.1, q.2)
/-- the items of a display: data -/
def evD : Es → Slots → Store → Option (List D × Store)
  | .nil, _, st => some ([], st)
  | .cons e r, ρ, st => (ev e ρ st).bind fun p => (fix p.2 p.1).bind fun y => (evD r ρ y.2).map fun q => (y.1 :: q.1, q.2)
/-- and, or -/
def evA : Es → Slots → Store → Option (W × Store)
  | .nil, _, _ => none
  | .cons e r, ρ, st => (ev e ρ st).bind fun p => match r with
    | .nil => some p
    | r => ((rd p.2 p.1).bind truth).bind fun k => if k then evA r ρ p.2 else some p
def evO : Es → Slots → Store → Option (W × Store)
  | .nil, _, _ => none
  | .cons e r, ρ, st => (ev e ρ st).bind fun p => match r with
    | .nil => some p
    | r => ((rd p.2 p.1).bind truth).bind fun k => if k then some p else evO r ρ p.2
/-- the tests of a comprehension -/
def evC : Es → Slots → Store → Option (Bool × Store)
  | .nil, _, st => some (true, st)
  | .cons e r, ρ, st => (ev e ρ st).bind fun p => ((rd p.2 p.1).bind truth).bind fun k => if k then evC r ρ p.2 else some (false, p.2)
/-- what a for walks -/
def evI : It → Slots → Store → Option (List D × Store)
  | .val e, ρ, st => (ev e ρ st).bind fun p => (fix p.2 p.1).bind fun y => (itemsOf y.1).map fun xs => (xs, y.2)
  | .rng es, ρ, st => (evD es ρ st).bind fun p => match p.1 with
    | [.int n] => if rgOk 0 n then some (rangeD 0 n.toNat, p.2) else none
    | [.int a, .int b] => if rgOk a b then some (rangeD a (b - a).toNat, p.2) else none
    | _ => none
  | .zip a b, ρ, st => (ev a ρ st).bind fun p => (fix p.2 p.1).bind fun y => (ev b ρ y.2).bind fun q => (fix q.2 q.1).bind fun z =>
      (zipK y.1 z.1).map fun xs => (xs, z.2)
  | .enum e, ρ, st => (ev e ρ st).bind fun p => (fix p.2 p.1).bind fun y => (enumK y.1).map fun xs => (xs, y.2)
end
end

/-- targets of an assignment -/
inductive Tg where
  | nm (i : Nat) (mk : Bool)
  | ix (o i : E)
mutual
inductive S where
  | exp (e : E)
  | ret (e : E)
  | retN
  | asg (t : Tg) (e : E)
  | asgT (ts : List Tg) (e : E)
  | par (ts : List (Nat × Bool)) (es : Es)
  | aug (i : Nat) (o : BOp) (e : E)
  | ifs (c : E) (a b : Ss)
  | whl (c : E) (body : Ss)
  | fors (tg : List Nat) (flat : Bool) (it : It) (body : Ss)
  | forl (i : Nat) (e : E) (body : Ss)
  | brk
  | cnt
  | pas
  | never
inductive Ss where
  | nil
  | cons (s : S) (r : Ss)
end
inductive Out where
  | nx (ρ : Slots) (st : Store)
  | rt (w : W) (st : Store)
  | bk (ρ : Slots) (st : Store)
  | ct (ρ : Slots) (st : Store)

/-- one name: a list that was just made comes into the store where the name's list will change (mk) -/
def setW (ρ : Slots) (st : Store) (i : Nat) (mk : Bool) : W → Slots × Store
  | .d x => (ρ.set i (some (.d x)), st)
  | .c n => (ρ.set i (some (.c n)), st)
  | .f xs => if mk then (ρ.set i (some (.c st.length)), st ++ [⟨false, xs⟩]) else (ρ.set i (some (.d (.list xs))), st)
  | .s ns => (ρ.set i (some (.s ns)), st)
  | .l ns => (ρ.set i (some (.l ns)), st)
def setWs : Slots → Store → List (Nat × Bool) → List W → Option (Slots × Store)
  | ρ, st, [], [] => some (ρ, st)
  | ρ, st, t :: ts, w :: ws => let q := setW ρ st t.1 t.2 w; setWs q.1 q.2 ts ws
  | _, _, _, _ => none
def ixSet (st : Store) (n : Nat) (i : D) (x : D) : Option Store :=
  (st[n]?).bind fun c => match i with
    | .int k => (L2.ixN c.xs.length k).bind fun j => if c.fz = false then some (st.set n ⟨false, c.xs.set j x⟩) else none
    | _ => none
def loopF (step : D → Slots → Store → Option Out) : List D → Slots → Store → Option Out
  | [], ρ, st => some (.nx ρ st)
  | x :: xs, ρ, st => (step x ρ st).bind fun
    | .nx ρ' st' => loopF step xs ρ' st'
    | .ct ρ' st' => loopF step xs ρ' st'
    | .bk ρ' st' => some (.nx ρ' st')
    | .rt w st' => some (.rt w st')
/-- over lists of the store -/
def loopC (step : Nat → Slots → Store → Option Out) : List Nat → Slots → Store → Option Out
  | [], ρ, st => some (.nx ρ st)
  | x :: xs, ρ, st => (step x ρ st).bind fun
    | .nx ρ' st' => loopC step xs ρ' st'
    | .ct ρ' st' => loopC step xs ρ' st'
    | .bk ρ' st' => some (.nx ρ' st')
    | .rt w st' => some (.rt w st')
def loopW (test : Slots → Store → Option (Bool × Store)) (step : Slots → Store → Option Out) : Nat → Slots → Store → Option Out
  | 0, _, _ => none
  | n + 1, ρ, st => (test ρ st).bind fun p => if p.1 then (step ρ p.2).bind fun
      | .nx ρ' st' => loopW test step n ρ' st'
      | .ct ρ' st' => loopW test step n ρ' st'
      | .bk ρ' st' => some (.nx ρ' st')
      | .rt w st' => some (.rt w st')
    else some (.nx ρ p.2)
section
variable (Γ : Calls) (C : Str → Option D) (wf : Nat)
def tgt (ρ : Slots) (st : Store) (t : Tg) (x : D) : Option (Slots × Store) :=
  match t with
  | .nm i _ => some (ρ.set i (some (.d x)), st)
  | .ix o i => (ev Γ C o ρ st).bind fun p => (ev Γ C i ρ p.2).bind fun q => (rd q.2 q.1).bind fun k =>
      match p.1 with
      | .c n => (ixSet q.2 n k x).map fun st' => (ρ, st')
      | _ => none
def tgts (ρ : Slots) (st : Store) : List Tg → List D → Option (Slots × Store)
  | [], [] => some (ρ, st)
  | t :: ts, x :: xs => (tgt Γ C ρ st t x).bind fun p => tgts p.1 p.2 ts xs
  | _, _ => none
mutual
def evS : S → Slots → Store → Option Out
  | .exp e, ρ, st => (ev Γ C e ρ st).map fun p => .nx ρ p.2
  | .ret e, ρ, st => (ev Γ C e ρ st).map fun p => .rt p.1 p.2
  | .retN, _, st => some (.rt (.d .none) st)
  | .asg (.nm i mk) e, ρ, st => (ev Γ C e ρ st).map fun p => let q := setW ρ p.2 i mk p.1; .nx q.1 q.2
  | .asg t e, ρ, st => (ev Γ C e ρ st).bind fun p => (fix p.2 p.1).bind fun y => (tgt Γ C ρ y.2 t y.1).map fun q => .nx q.1 q.2
  | .asgT ts e, ρ, st => (ev Γ C e ρ st).bind fun p => (rd p.2 p.1).bind fun x => match x with
    | .tuple xs => (tgts Γ C ρ p.2 ts xs).map fun q => .nx q.1 q.2
    | _ => none
  | .par ts es, ρ, st => (evs Γ C es ρ st).bind fun p => (setWs ρ p.2 ts p.1).map fun q => .nx q.1 q.2
  | .aug i o e, ρ, st => match ρ[i]? with
    | some (some (.d x)) => (ev Γ C e ρ st).bind fun q => (rd q.2 q.1).bind fun y => match x, y, o with
      | .int a, .int b, .add => some (.nx (ρ.set i (some (.d (.int (a + b))))) q.2)
      | .int a, .int b, .sub => some (.nx (ρ.set i (some (.d (.int (a - b))))) q.2)
      | _, _, _ => none
    | _ => none
  | .ifs c a b, ρ, st => (ev Γ C c ρ st).bind fun p => ((rd p.2 p.1).bind truth).bind fun k => if k then evSs a ρ p.2 else evSs b ρ p.2
  | .whl c body, ρ, st => loopW (fun ρ st => (ev Γ C c ρ st).bind fun p => ((rd p.2 p.1).bind truth).map fun k => (k, p.2)) (fun ρ st => evSs body ρ st) wf ρ st
  | .fors tg fl it body, ρ, st => (evI Γ C it ρ st).bind fun p =>
      loopF (fun x ρ st => (bindD ρ tg fl x).bind fun ρ' => evSs body ρ' st) p.1 ρ p.2
  | .forl i e body, ρ, st => (ev Γ C e ρ st).bind fun p => match p.1 with
      | .l ns => loopC (fun n ρ st => evSs body (ρ.set i (some (.c n))) st) ns ρ p.2
      | _ => none
  | .brk, ρ, st => some (.bk ρ st)
  | .cnt, ρ, st => some (.ct ρ st)
  | .pas, ρ, st => some (.nx ρ st)
  | .never, _, _ => none
def evSs : Ss → Slots → Store → Option Out
  | .nil, ρ, st => some (.nx ρ st)
  | .cons s r, ρ, st => (evS s ρ st).bind fun
    | .nx ρ' st' => evSs r ρ' st'
    | o => some o
end
end

/-- a def: its parameters (true: a list handed to it will change), the number of its names, its body -/
structure Fn where
  cps : List Bool
  ns : Nat
  body : Ss
def enter : List Bool → List W → Store → Option (List W × Store)
  | [], [], st => some ([], st)
  | b :: bs, w :: ws, st => match b, w with
    | true, .c n => (enter bs ws st).map fun p => (.c n :: p.1, p.2)
    | true, .f xs => (enter bs ws (st ++ [⟨false, xs⟩])).map fun p => (.c st.length :: p.1, p.2)
    | _, .s ns => (enter bs ws st).map fun p => (.s ns :: p.1, p.2)
    | _, w => (fix st w).bind fun y => (enter bs ws y.2).map fun p => (.d y.1 :: p.1, p.2)
  | _, _, _ => none
def leave (k : Nat) (w : W) (st : Store) : Option (W × Store) :=
  match w with
  | .d x => some (.d x, st.take k)
  | .f xs => some (.f xs, st.take k)
  | .s _ => none
  | .l _ => none
  | .c n => if n < k then some (.c n, st.take k) else (st[n]?).map fun c => (if c.fz then .d (.list c.xs) else .f c.xs, st.take k)
def evCall (C : Str → Option D) (wf : Nat) (T : List (Nat × Fn)) : Nat → Calls
  | 0, _, _, _ => none
  | n + 1, f, ws, st => (T.lookup f).bind fun F => (enter F.cps ws st).bind fun p =>
      (evSs (evCall C wf T n) C wf F.body (p.1.map some ++ List.replicate (F.ns - p.1.length) none) p.2).bind fun
        | .nx _ st' => leave st.length (.d .none) st'
        | .rt w st' => leave st.length w st'
        | _ => none
end Z
/-! ZRel: how trees of data and the store lie in the layer's abstract heap. -/
set_option linter.all false
set_option autoImplicit false
set_option maxHeartbeats 2000000
namespace Z
open PySem
open L2 (V Hp HO upd upd_same upd_ne ne_of_none)

/-! ### the lists of the store that may change; what may not stand in data -/
def Mc (st : Store) (ι : List Addr) (a : Addr) : Prop := ∃ (n : Nat) (c : Cell), st[n]? = some c ∧ c.fz = false ∧ ι[n]? = some a
def Mt (st : Store) (ι P : List Addr) (a : Addr) : Prop := a ∈ P ∨ Mc st ι a

/-! ### data in the heap -/
mutual
def RD (N : Addr → Prop) (H : Hp) : D → V → Prop
  | .none, v => v = .non
  | .bool b, v => v = .bl b
  | .int i, v => v = .int i
  | .str x, v => v = .str x
  | .tuple ds, v => ∃ a vs, v = .ref a ∧ H a = some (.tup vs) ∧ ¬ N a ∧ RDs N H ds vs
  | .list ds, v => ∃ a vs, v = .ref a ∧ H a = some (.lst vs) ∧ ¬ N a ∧ RDs N H ds vs
  | .dict kvs, v => kvs = [] ∧ ∃ a, v = .ref a ∧ H a = some (.dK []) ∧ ¬ N a
def RDs (N : Addr → Prop) (H : Hp) : List D → List V → Prop
  | [], vs => vs = []
  | d :: ds, vs => ∃ v r, vs = v :: r ∧ RD N H d v ∧ RDs N H ds r
end
theorem rd_ne {H : Hp} {a : Addr} {u : HO} (h : H a = some u) : H a ≠ none := by
  rw [h]; exact fun z => nomatch z
theorem rd_eq {H H' : Hp} {a : Addr} {u : HO} (h : H a = some u) (e : H' a = H a) : H' a = some u := e.trans h
/-- what stood, and was no list of the store that changes, stands -/
def Keeps (N : Addr → Prop) (H : Hp) (N' : Addr → Prop) (H' : Hp) : Prop := ∀ a, H a ≠ none → ¬ N a → H' a = H a ∧ ¬ N' a
mutual
theorem RD.mono {N N' : Addr → Prop} {H H' : Hp} (k : Keeps N H N' H') : ∀ (d : D) (v : V), RD N H d v → RD N' H' d v
  | .none, _, h => by simpa [RD] using h
  | .bool _, _, h => by simpa [RD] using h
  | .int _, _, h => by simpa [RD] using h
  | .str _, _, h => by simpa [RD] using h
  | .dict kvs, v, h => by
    rw [RD] at h ⊢
    obtain ⟨e0, a, e, r, n⟩ := h
    have kk := k a (rd_ne r) n
    exact ⟨e0, a, e, rd_eq r kk.1, kk.2⟩
  | .tuple ds, v, h => by
    rw [RD] at h ⊢
    obtain ⟨a, vs, e, r, n, q⟩ := h
    have kk := k a (rd_ne r) n
    exact ⟨a, vs, e, rd_eq r kk.1, kk.2, RDs.mono k ds vs q⟩
  | .list ds, v, h => by
    rw [RD] at h ⊢
    obtain ⟨a, vs, e, r, n, q⟩ := h
    have kk := k a (rd_ne r) n
    exact ⟨a, vs, e, rd_eq r kk.1, kk.2, RDs.mono k ds vs q⟩
theorem RDs.mono {N N' : Addr → Prop} {H H' : Hp} (k : Keeps N H N' H') : ∀ (ds : List D) (vs : List V), RDs N H ds vs → RDs N' H' ds vs
  | [], _, h => by simpa [RDs] using h
  | d :: ds, vs, h => by
    rw [RDs] at h ⊢
    obtain ⟨v, r, e, h1, h2⟩ := h
    exact ⟨v, r, e, RD.mono k d v h1, RDs.mono k ds r h2⟩
end
section
variable {N : Addr → Prop} {H : Hp}
theorem RDs.nil : RDs N H [] [] := by rw [RDs]
theorem RDs.cons {d : D} {v : V} {ds : List D} {vs : List V} (h : RD N H d v) (t : RDs N H ds vs) : RDs N H (d :: ds) (v :: vs) := by
  rw [RDs]; exact ⟨v, vs, rfl, h, t⟩
theorem RDs.length : ∀ {ds : List D} {vs : List V}, RDs N H ds vs → ds.length = vs.length
  | [], vs, h => by rw [RDs] at h; subst h; rfl
  | d :: ds, vs, h => by
    rw [RDs] at h
    obtain ⟨v, r, e, _, h2⟩ := h
    subst e
    simp [RDs.length h2]
theorem RDs.get : ∀ {ds : List D} {vs : List V} {i : Nat} {d : D}, RDs N H ds vs → ds[i]? = some d → ∃ v, vs[i]? = some v ∧ RD N H d v
  | [], _, _, _, _, e => by simp at e
  | x :: ds, vs, i, d, h, e => by
    rw [RDs] at h
    obtain ⟨v, r, e1, h1, h2⟩ := h
    subst e1
    cases i with
    | zero => simp at e; subst e; exact ⟨v, by simp, h1⟩
    | succ i =>
      obtain ⟨u, q, z⟩ := RDs.get (i := i) h2 (by simpa using e)
      exact ⟨u, by simpa using q, z⟩
theorem RDs.getV : ∀ {ds : List D} {vs : List V} {i : Nat} {v : V}, RDs N H ds vs → vs[i]? = some v → ∃ d, ds[i]? = some d ∧ RD N H d v
  | [], vs, i, v, h, e => by rw [RDs] at h; subst h; simp at e
  | x :: ds, vs, i, d, h, e => by
    rw [RDs] at h
    obtain ⟨v, r, e1, h1, h2⟩ := h
    subst e1
    cases i with
    | zero => simp at e; subst e; exact ⟨x, by simp, h1⟩
    | succ i =>
      obtain ⟨u, q, z⟩ := RDs.getV (i := i) h2 (by simpa using e)
      exact ⟨u, by simpa using q, z⟩
theorem RDs.append : ∀ {ds es : List D} {vs us : List V}, RDs N H ds vs → RDs N H es us → RDs N H (ds ++ es) (vs ++ us)
  | [], _, vs, _, h, t => by rw [RDs] at h; subst h; exact t
  | d :: ds, es, vs, us, h, t => by
    rw [RDs] at h
    obtain ⟨v, r, e, h1, h2⟩ := h
    subst e
    exact .cons h1 (RDs.append h2 t)
theorem RDs.drop : ∀ {ds : List D} {vs : List V} (n : Nat), RDs N H ds vs → RDs N H (ds.drop n) (vs.drop n)
  | _, _, 0, h => by simpa using h
  | [], vs, n + 1, h => by rw [RDs] at h; subst h; exact .nil
  | d :: ds, vs, n + 1, h => by
    rw [RDs] at h
    obtain ⟨v, r, e, _, h2⟩ := h
    subst e
    simpa using RDs.drop n h2
theorem RDs.take : ∀ {ds : List D} {vs : List V} (n : Nat), RDs N H ds vs → RDs N H (ds.take n) (vs.take n)
  | _, _, 0, h => by simpa using RDs.nil
  | [], vs, n + 1, h => by rw [RDs] at h; subst h; exact .nil
  | d :: ds, vs, n + 1, h => by
    rw [RDs] at h
    obtain ⟨v, r, e, h1, h2⟩ := h
    subst e
    simpa using RDs.cons h1 (RDs.take n h2)
theorem RDs.set : ∀ {ds : List D} {vs : List V} (i : Nat) {d : D} {v : V}, RDs N H ds vs → RD N H d v → RDs N H (ds.set i d) (vs.set i v)
  | [], vs, i, d, v, h, _ => by rw [RDs] at h; subst h; exact .nil
  | x :: ds, vs, i, d, v, h, q => by
    rw [RDs] at h
    obtain ⟨u, r, e, h1, h2⟩ := h
    subst e
    cases i with
    | zero => simpa using RDs.cons q h2
    | succ i => simpa using RDs.cons h1 (RDs.set i h2 q)
theorem RDs.erase : ∀ {ds : List D} {vs : List V} (i : Nat), RDs N H ds vs → RDs N H (ds.eraseIdx i) (vs.eraseIdx i)
  | [], vs, i, h => by rw [RDs] at h; subst h; exact .nil
  | x :: ds, vs, i, h => by
    rw [RDs] at h
    obtain ⟨u, r, e, h1, h2⟩ := h
    subst e
    cases i with
    | zero => simpa using h2
    | succ i => simpa using RDs.cons h1 (RDs.erase i h2)
theorem RDs.rep {ds : List D} {vs : List V} (h : RDs N H ds vs) : ∀ k : Nat, RDs N H (List.replicate k ds).flatten (List.replicate k vs).flatten
  | 0 => by simpa using RDs.nil
  | k + 1 => by
    rw [List.replicate_succ, List.replicate_succ, List.flatten_cons, List.flatten_cons]
    exact h.append (RDs.rep h k)
theorem RDs.dropLast {ds : List D} {vs : List V} (h : RDs N H ds vs) : RDs N H ds.dropLast vs.dropLast := by
  rw [List.dropLast_eq_take, List.dropLast_eq_take, h.length]
  exact h.take _
theorem RDs.inits : ∀ {ns : List Int} {vs : List V}, RDs N H (ns.map PyData.int) vs → vs = ns.map V.int
  | [], vs, h => by rw [List.map_nil, RDs] at h; subst h; rfl
  | n :: ns, vs, h => by
    rw [List.map_cons, RDs] at h
    obtain ⟨v, r, e, h1, h2⟩ := h
    rw [RD] at h1
    subst e h1
    rw [RDs.inits h2]; rfl
theorem RDs.ofInts : ∀ ns : List Int, RDs N H (ns.map PyData.int) (ns.map V.int)
  | [] => .nil
  | n :: ns => .cons (by rw [RD]) (RDs.ofInts ns)
end

/-! ### the same without the lists of the store: what the layer reads -/
mutual
theorem RD.dp {N : Addr → Prop} {H : Hp} (K : PySem.W.Frag) : ∀ (d : D) (v : V), d.hasDict = false → RD N H d v → L2.Dp K H v d
  | .none, _, _, h => by rw [RD] at h; subst h; exact .non
  | .bool b, _, _, h => by rw [RD] at h; subst h; exact .bl b
  | .int i, _, _, h => by rw [RD] at h; subst h; exact .int i
  | .str x, _, _, h => by rw [RD] at h; subst h; exact .str x
  | .dict _, _, n, _ => by simp [PyData.hasDict] at n
  | .tuple ds, v, n, h => by
    rw [RD] at h
    obtain ⟨a, vs, e, r, _, q⟩ := h
    subst e
    exact .tup (.of r) (RDs.dp K ds vs (by simpa [PyData.hasDict] using n) q)
  | .list ds, v, n, h => by
    rw [RD] at h
    obtain ⟨a, vs, e, r, _, q⟩ := h
    subst e
    exact .lst (.of r) (RDs.dp K ds vs (by simpa [PyData.hasDict] using n) q)
theorem RDs.dp {N : Addr → Prop} {H : Hp} (K : PySem.W.Frag) : ∀ (ds : List D) (vs : List V), PyData.hasDictAll ds = false → RDs N H ds vs → L2.DpAll K H vs ds
  | [], vs, _, h => by rw [RDs] at h; subst h; exact .nil
  | d :: ds, vs, n, h => by
    rw [RDs] at h
    obtain ⟨v, r, e, h1, h2⟩ := h
    subst e
    rw [PyData.hasDictAll, Bool.or_eq_false_iff] at n
    exact .cons (RD.dp K d v n.1 h1) (RDs.dp K ds r n.2 h2)
end

/-! ### a value in the heap: p, what it leaves open (a list that was just made) -/
section
variable (K : PySem.W.Frag)
/-- the law's script: it stands still -/
def Scr (N : Addr → Prop) (H : Hp) (ns : List Int) (v : V) : Prop :=
  ∃ a, v = .ref a ∧ ((∃ o, H a = some (.frz o (.lst (ns.map V.int))) ∧ ¬ N a) ∨ ∀ H' : Hp, L2.SqL K H' a (ns.map V.int))
/-- lists of the store, one behind another -/
def CRs (st : Store) (ι : List Addr) : List Nat → List V → Prop
  | [], vs => vs = []
  | n :: r, vs => ∃ a us, vs = .ref a :: us ∧ n < st.length ∧ ι[n]? = some a ∧ CRs st ι r us
def LV (st : Store) (ι : List Addr) (N : Addr → Prop) (H : Hp) (ns : List Nat) (v : V) : Prop :=
  ∃ a vs, v = .ref a ∧ H a = some (.lst vs) ∧ ¬ N a ∧ CRs st ι ns vs
def RV (st : Store) (ι P : List Addr) (H : Hp) (p : List Addr) : W → V → Prop
  | .d x, v => p = [] ∧ RD (Mt st ι P) H x v
  | .c n, v => p = [] ∧ n < st.length ∧ ∃ a, ι[n]? = some a ∧ v = .ref a
  | .f xs, v => ∃ a vs, p = [a] ∧ a ∈ P ∧ v = .ref a ∧ H a = some (.lst vs) ∧ RDs (Mt st ι P) H xs vs
  | .s ns, v => p = [] ∧ Scr K (Mt st ι P) H ns v
  | .l ns, v => p = [] ∧ LV st ι (Mt st ι P) H ns v
/-- a name's value -/
def RW (st : Store) (ι P : List Addr) (H : Hp) : W → V → Prop
  | .d x, v => RD (Mt st ι P) H x v
  | .c n, v => n < st.length ∧ ∃ a, ι[n]? = some a ∧ v = .ref a
  | .f _, _ => False
  | .s ns, v => Scr K (Mt st ι P) H ns v
  | .l ns, v => LV st ι (Mt st ι P) H ns v

structure Rel (ρ : Slots) (st : Store) (ι P : List Addr) (σ : L2.St) (H : Hp) : Prop where
  len : ι.length = st.length
  ls : ρ.length = σ.length
  nd : (P ++ ι).Nodup
  sl : ∀ (i : Nat) (w : W), ρ[i]? = some (some w) → ∃ v, σ[i]? = some (some v) ∧ RW K st ι P H w v
  ce : ∀ (n : Nat) (c : Cell), st[n]? = some c → ∃ a vs, ι[n]? = some a ∧ H a = some (.lst vs) ∧ RDs (Mt st ι P) H c.xs vs
  pe : ∀ a ∈ P, H a ≠ none
end

/-- from one state to a later one -/
structure Step (st : Store) (ι : List Addr) (H : Hp) (st' : Store) (ι' : List Addr) (H' : Hp) : Prop where
  keep : ∀ a, H a ≠ none → ¬ Mc st ι a → H' a = H a
  safe : ∀ a, H a ≠ none → ¬ Mc st ι a → ¬ Mc st' ι' a
  le : st.length ≤ st'.length
  pre : ∀ (n : Nat) (a : Addr), ι[n]? = some a → ι'[n]? = some a
  all : ∀ a, H a ≠ none → H' a ≠ none

section
variable {K : PySem.W.Frag} {st st1 st2 : Store} {ι ι1 ι2 P : List Addr} {H H1 H2 : Hp} {ρ : Slots} {σ : L2.St}
theorem Step.refl : Step st ι H st ι H := ⟨fun _ _ _ => rfl, fun _ _ h => h, Nat.le_refl _, fun _ _ h => h, fun _ h => h⟩
theorem Step.trans (a : Step st ι H st1 ι1 H1) (b : Step st1 ι1 H1 st2 ι2 H2) : Step st ι H st2 ι2 H2 :=
  ⟨fun x h n => (b.keep x (a.all x h) (a.safe x h n)).trans (a.keep x h n), fun x h n => b.safe x (a.all x h) (a.safe x h n), Nat.le_trans a.le b.le, fun n x h => b.pre n x (a.pre n x h), fun x h => b.all x (a.all x h)⟩
/-- an address that a cell has -/
theorem Rel.cell_ne (R : Rel K ρ st ι P σ H) {n : Nat} {a : Addr} (h : ι[n]? = some a) : H a ≠ none := by
  have hn : n < ι.length := (List.getElem?_eq_some_iff.mp h).1
  obtain ⟨b, vs, e, e2, _⟩ := R.ce n (st[n]'(by rw [← R.len]; exact hn)) (by simp)
  rw [h] at e; cases e
  rw [e2]; exact fun z => nomatch z
theorem Rel.mt_ne (R : Rel K ρ st ι P σ H) {a : Addr} (h : Mt st ι P a) : H a ≠ none := by
  rcases h with h | ⟨n, c, _, _, h⟩
  · exact R.pe a h
  · exact R.cell_ne h
theorem Step.keeps {p : List Addr} (s : Step st ι H st1 ι1 H1) (hp : ∀ a ∈ p, H a = none) : Keeps (Mt st ι P) H (Mt st1 ι1 (p ++ P)) H1 := fun a h n => by
  have nc : ¬ Mc st ι a := fun z => n (.inr z)
  refine ⟨s.keep a h nc, fun z => ?_⟩
  rcases z with z | z
  · rcases List.mem_append.mp z with z | z
    · exact h (hp a z)
    · exact n (.inl z)
  · exact s.safe a h nc z
theorem mt_shrink {p : List Addr} {a : Addr} (h : ¬ Mt st ι (p ++ P) a) : ¬ Mt st ι P a := fun z => h (z.imp (fun z => List.mem_append_right _ z) id)
theorem keeps_shrink {p : List Addr} : Keeps (Mt st ι (p ++ P)) H (Mt st ι P) H := fun _ _ n => ⟨rfl, mt_shrink n⟩
theorem Rel.pfree (R : Rel K ρ st ι P σ H) : ∀ a ∈ P, ¬ Mc st ι a := fun a ha ⟨n, c, _, _, h⟩ => by
  exact (List.nodup_append.mp R.nd).2.2 a ha a (List.mem_of_getElem? h) rfl
theorem Scr.keeps {N N' : Addr → Prop} {ns : List Int} {v : V} (h : Scr K N H ns v) (k : Keeps N H N' H1) : Scr K N' H1 ns v := by
  obtain ⟨a, e, h⟩ := h
  refine ⟨a, e, ?_⟩
  rcases h with ⟨o, h, n⟩ | h
  · have kk := k a (rd_ne h) n
    exact .inl ⟨o, kk.1.trans h, kk.2⟩
  · exact .inr h
theorem CRs.keeps (le : st.length ≤ st1.length) (pre : ∀ (n : Nat) (a : Addr), ι[n]? = some a → ι1[n]? = some a) : ∀ {ns : List Nat} {vs : List V}, CRs st ι ns vs → CRs st1 ι1 ns vs
  | [], vs, h => h
  | n :: r, vs, h => by
    obtain ⟨a, us, e, h1, h2, h3⟩ := h
    exact ⟨a, us, e, Nat.lt_of_lt_of_le h1 le, pre n a h2, CRs.keeps le pre h3⟩
theorem CRs.length : ∀ {ns : List Nat} {vs : List V}, CRs st ι ns vs → ns.length = vs.length
  | [], vs, h => by rw [show vs = [] from h]; rfl
  | n :: r, vs, h => by
    obtain ⟨a, us, e, h1, h2, h3⟩ := h
    subst e
    simp [CRs.length h3]
theorem CRs.get : ∀ {ns : List Nat} {vs : List V} {i n : Nat}, CRs st ι ns vs → ns[i]? = some n → ∃ a, vs[i]? = some (.ref a) ∧ n < st.length ∧ ι[n]? = some a
  | [], vs, i, n, h, e => by simp at e
  | m :: r, vs, i, n, h, e => by
    obtain ⟨a, us, e1, h1, h2, h3⟩ := h
    subst e1
    cases i with
    | zero => simp at e; subst e; exact ⟨a, by simp, h1, h2⟩
    | succ i =>
      obtain ⟨b, q, z⟩ := CRs.get (i := i) h3 (by simpa using e)
      exact ⟨b, by simpa using q, z⟩
theorem CRs.append : ∀ {ns ms : List Nat} {vs us : List V}, CRs st ι ns vs → CRs st ι ms us → CRs st ι (ns ++ ms) (vs ++ us)
  | [], ms, vs, us, h, t => by rw [show vs = [] from h]; exact t
  | n :: r, ms, vs, us, h, t => by
    obtain ⟨a, zs, e, h1, h2, h3⟩ := h
    subst e
    exact ⟨a, _, rfl, h1, h2, CRs.append h3 t⟩
theorem LV.keeps {N N' : Addr → Prop} {ns : List Nat} {v : V} (h : LV st ι N H ns v) (k : Keeps N H N' H1) (le : st.length ≤ st1.length) (pre : ∀ (n : Nat) (a : Addr), ι[n]? = some a → ι1[n]? = some a) : LV st1 ι1 N' H1 ns v := by
  obtain ⟨a, vs, e, h1, h2, h3⟩ := h
  have kk := k a (rd_ne h1) h2
  exact ⟨a, vs, e, rd_eq h1 kk.1, kk.2, h3.keeps le pre⟩
/-- a value stays behind a step -/
theorem RV.step {w : W} {v : V} {p q : List Addr} (R : Rel K ρ st ι P σ H) (h : RV K st ι P H p w v) (s : Step st ι H st1 ι1 H1) (hq : ∀ a ∈ q, H a = none) :
    RV K st1 ι1 (q ++ P) H1 p w v := by
  cases w with
  | d x => exact ⟨h.1, RD.mono (s.keeps hq) _ _ h.2⟩
  | s ns => exact ⟨h.1, h.2.keeps (s.keeps hq)⟩
  | l ns => exact ⟨h.1, h.2.keeps (s.keeps hq) s.le s.pre⟩
  | c n =>
    obtain ⟨e, hn, a, h1, h2⟩ := h
    exact ⟨e, Nat.lt_of_lt_of_le hn s.le, a, s.pre n a h1, h2⟩
  | f xs =>
    obtain ⟨a, vs, e, hp, h1, h2, h3⟩ := h
    subst e
    have e2 := s.keep a (by rw [h2]; exact fun z => nomatch z) (R.pfree a hp)
    exact ⟨a, vs, rfl, List.mem_append_right _ hp, h1, e2.trans h2, RDs.mono (s.keeps hq) _ _ h3⟩
theorem RW.keeps {P' : List Addr} {w : W} {v : V} (h : RW K st ι P H w v) (k : Keeps (Mt st ι P) H (Mt st1 ι1 P') H1) (le : st.length ≤ st1.length) (pre : ∀ (n : Nat) (a : Addr), ι[n]? = some a → ι1[n]? = some a) : RW K st1 ι1 P' H1 w v := by
  cases w with
  | d x => exact RD.mono k _ _ h
  | s ns => exact Scr.keeps h k
  | l ns => exact LV.keeps h k le pre
  | c n =>
    obtain ⟨hn, a, h1, h2⟩ := h
    exact ⟨Nat.lt_of_lt_of_le hn le, a, pre n a h1, h2⟩
  | f xs => exact h.elim
theorem Rel.shrink {p : List Addr} (R : Rel K ρ st ι (p ++ P) σ H) : Rel K ρ st ι P σ H where
  len := R.len
  ls := R.ls
  nd := by
    have nd := R.nd
    rw [List.append_assoc] at nd
    exact (List.nodup_append.mp nd).2.1
  sl := fun i w e => by
    obtain ⟨v, e1, h⟩ := R.sl i w e
    exact ⟨v, e1, h.keeps keeps_shrink (Nat.le_refl _) fun _ _ z => z⟩
  ce := fun n c e => by
    obtain ⟨a, vs, e1, e2, h⟩ := R.ce n c e
    exact ⟨a, vs, e1, e2, RDs.mono keeps_shrink _ _ h⟩
  pe := fun a ha => R.pe a (List.mem_append_right _ ha)
/-- a new object that is no list of the store; p: it is left open -/
theorem Rel.alloc {a : Addr} {o : HO} (R : Rel K ρ st ι P σ H) (hn : H a = none) (p : List Addr) (hp : p = [] ∨ p = [a]) : Rel K ρ st ι (p ++ P) σ (upd H a o) where
  len := R.len
  ls := R.ls
  nd := by
    rcases hp with rfl | rfl
    · exact R.nd
    · refine List.nodup_cons.mpr ⟨fun z => ?_, R.nd⟩
      rcases List.mem_append.mp z with z | z
      · exact R.pe a z hn
      · obtain ⟨n, hn', e⟩ := List.getElem_of_mem z
        exact R.cell_ne (n := n) (by rw [List.getElem?_eq_getElem hn', e]) hn
  sl := fun i w e => by
    obtain ⟨v, e1, h⟩ := R.sl i w e
    refine ⟨v, e1, h.keeps (fun b hb n => ?_) (Nat.le_refl _) fun _ _ z => z⟩
    have ne : b ≠ a := fun z => hb (z ▸ hn)
    refine ⟨upd_ne ne, fun z => ?_⟩
    rcases z with z | z
    · rcases List.mem_append.mp z with z | z
      · rcases hp with rfl | rfl
        · cases z
        · simp at z; exact ne z
      · exact n (.inl z)
    · exact n (.inr z)
  ce := fun n c e => by
    obtain ⟨b, vs, e1, e2, h⟩ := R.ce n c e
    have ne : b ≠ a := fun z => by rw [z, hn] at e2; cases e2
    refine ⟨b, vs, e1, (upd_ne ne).trans e2, RDs.mono (fun b hb n => ?_) _ _ h⟩
    have ne : b ≠ a := fun z => hb (z ▸ hn)
    refine ⟨upd_ne ne, fun z => ?_⟩
    rcases z with z | z
    · rcases List.mem_append.mp z with z | z
      · rcases hp with rfl | rfl
        · cases z
        · simp at z; exact ne z
      · exact n (.inl z)
    · exact n (.inr z)
  pe := fun b hb => by
    rcases List.mem_append.mp hb with z | z
    · rcases hp with rfl | rfl
      · cases z
      · simp at z; subst z; rw [upd_same]; exact fun z => nomatch z
    · have ne : b ≠ a := fun q => R.pe b z (q ▸ hn)
      rw [upd_ne ne]; exact R.pe b z
theorem Step.alloc {a : Addr} {o : HO} (hn : H a = none) : Step st ι H st ι (upd H a o) where
  keep := fun b hb _ => upd_ne fun z => hb (z ▸ hn)
  safe := fun _ _ h => h
  le := Nat.le_refl _
  pre := fun _ _ h => h
  all := fun b hb => by
    have ne : b ≠ a := fun z => hb (by rw [z]; exact hn)
    rw [upd_ne ne]; exact hb
theorem keeps_alloc {a : Addr} {o : HO} (hn : H a = none) : Keeps (Mt st ι P) H (Mt st ι P) (upd H a o) := fun b hb n => ⟨upd_ne fun z => hb (z ▸ hn), n⟩
/-- a new object is no list of the store -/
theorem Rel.new_free {a : Addr} (R : Rel K ρ st ι P σ H) (hn : H a = none) : ¬ Mt st ι P a := fun z => R.mt_ne z hn

/-- a list of the store changes no more -/
theorem mc_freeze {n : Nat} {c : Cell} {xs : List D} {a : Addr} (h : Mc (st.set n ⟨true, xs⟩) ι a) : Mc st ι a := by
  obtain ⟨m, d, e1, e2, e3⟩ := h
  by_cases hm : n = m
  · subst hm
    rw [List.getElem?_set] at e1
    simp only [if_true] at e1
    split at e1
    · cases e1; cases e2
    · cases e1
  · rw [List.getElem?_set_ne hm] at e1
    exact ⟨m, d, e1, e2, e3⟩
theorem freeze_free {n : Nat} {c : Cell} {xs : List D} {a : Addr} (hn : ι.Nodup) (e : ι[n]? = some a) : ¬ Mc (st.set n ⟨true, xs⟩) ι a := by
  rintro ⟨m, d, e1, e2, e3⟩
  obtain ⟨h1, q1⟩ := List.getElem?_eq_some_iff.mp e
  obtain ⟨h2, q2⟩ := List.getElem?_eq_some_iff.mp e3
  have hm : n = m := (List.getElem_inj hn).mp (q1.trans q2.symm)
  subst hm
  rw [List.getElem?_set] at e1
  simp only [if_true] at e1
  split at e1
  · cases e1; cases e2
  · cases e1
theorem Rel.freeze {n : Nat} {c : Cell} (R : Rel K ρ st ι P σ H) (hc : st[n]? = some c) : Rel K ρ (st.set n ⟨true, c.xs⟩) ι P σ H := by
  have k : Keeps (Mt st ι P) H (Mt (st.set n ⟨true, c.xs⟩) ι P) H := fun a _ na => ⟨rfl, fun z => na (z.imp id (mc_freeze (c := c)))⟩
  refine ⟨by rw [List.length_set]; exact R.len, R.ls, R.nd, fun i w e => ?_, fun m d e => ?_, R.pe⟩
  · obtain ⟨v, e1, h⟩ := R.sl i w e
    exact ⟨v, e1, h.keeps k (by rw [List.length_set]; exact Nat.le_refl _) fun _ _ z => z⟩
  · by_cases hm : n = m
    · subst hm
      obtain ⟨a, vs, e1, e2, h⟩ := R.ce n c hc
      rw [List.getElem?_set] at e
      simp only [if_true] at e
      split at e
      · cases e; exact ⟨a, vs, e1, e2, RDs.mono k _ _ h⟩
      · cases e
    · rw [List.getElem?_set_ne hm] at e
      obtain ⟨a, vs, e1, e2, h⟩ := R.ce m d e
      exact ⟨a, vs, e1, e2, RDs.mono k _ _ h⟩
theorem Step.freeze {n : Nat} {xs : List D} : Step st ι H (st.set n ⟨true, xs⟩) ι H where
  keep := fun _ _ _ => rfl
  safe := fun a _ h z => h (mc_freeze (c := ⟨true, xs⟩) z)
  le := by rw [List.length_set]; exact Nat.le_refl _
  pre := fun _ _ h => h
  all := fun _ h => h
theorem Rel.ndι (R : Rel K ρ st ι P σ H) : ι.Nodup := (List.nodup_append.mp R.nd).2.1
/-- a list of the store becomes data -/
theorem Rel.fixC {n : Nat} {c : Cell} {a : Addr} (R : Rel K ρ st ι P σ H) (hc : st[n]? = some c) (e2 : ι[n]? = some a) : Rel K ρ (st.set n ⟨true, c.xs⟩) ι P σ H ∧ RD (Mt (st.set n ⟨true, c.xs⟩) ι P) H (.list c.xs) (.ref a) := by
  have hn : n < st.length := (List.getElem?_eq_some_iff.mp hc).1
  have R' := R.freeze hc
  refine ⟨R', ?_⟩
  obtain ⟨b, vs, e4, e5, h⟩ := R'.ce n ⟨true, c.xs⟩ (by rw [List.getElem?_set]; simp [hn])
  rw [e2] at e4; cases e4
  rw [RD]
  refine ⟨a, vs, rfl, e5, fun z => ?_, h⟩
  rcases z with z | z
  · exact (List.nodup_append.mp R.nd).2.2 a z a (List.mem_of_getElem? e2) rfl
  · exact freeze_free (c := c) R.ndι e2 z
theorem Rel.fixL : ∀ {ns : List Nat} {vs : List V} {st st' : Store} {xs : List D}, Rel K ρ st ι P σ H → CRs st ι ns vs → fixL st ns = some (xs, st') → Rel K ρ st' ι P σ H ∧ RDs (Mt st' ι P) H xs vs ∧ Step st ι H st' ι H
  | [], vs, st, st', xs, R, h, e => by
    cases e
    rw [show vs = [] from h]
    exact ⟨R, .nil, .refl⟩
  | n :: r, vs, st, st', xs, R, h, e => by
    obtain ⟨a, us, rfl, h1, h2, h3⟩ := h
    simp only [Z.fixL, Option.bind_eq_some_iff, Option.map_eq_some_iff] at e
    obtain ⟨c, e1, q, e2, e3⟩ := e
    cases e3
    obtain ⟨R1, D1⟩ := R.fixC e1 h2
    obtain ⟨R2, D2, S2⟩ := Rel.fixL R1 (h3.keeps (by rw [List.length_set]; exact Nat.le_refl _) fun _ _ z => z) (show Z.fixL _ r = some (q.1, q.2) from e2)
    exact ⟨R2, .cons (RD.mono (S2.keeps (p := []) fun _ h => nomatch h) _ _ D1) D2, Step.freeze.trans S2⟩
/-- a value becomes data -/
theorem Rel.fix {w : W} {v : V} {p : List Addr} {x : D} {st' : Store} (R : Rel K ρ st ι (p ++ P) σ H) (h : RV K st ι (p ++ P) H p w v) (e : fix st w = some (x, st')) :
    Rel K ρ st' ι P σ H ∧ RD (Mt st' ι P) H x v ∧ Step st ι H st' ι H := by
  cases w with
  | d y =>
    obtain ⟨e1, h⟩ := h
    subst e1
    simp [Z.fix] at e
    obtain ⟨rfl, rfl⟩ := e
    exact ⟨R, h, .refl⟩
  | f xs =>
    obtain ⟨a, vs, e1, hp, e2, e3, h⟩ := h
    subst e1 e2
    simp [Z.fix] at e
    obtain ⟨rfl, rfl⟩ := e
    have R' := R.shrink
    refine ⟨R', ?_, .refl⟩
    rw [RD]
    refine ⟨a, vs, rfl, e3, fun z => ?_, RDs.mono keeps_shrink _ _ h⟩
    rcases z with z | z
    · exact (List.nodup_cons.mp R.nd).1 (List.mem_append_left _ z)
    · exact R.pfree a hp z
  | s ns => simp [Z.fix] at e
  | l ns =>
    obtain ⟨e1, a, vs, rfl, h1, h2, h3⟩ := h
    subst e1
    simp only [Z.fix, Option.map_eq_some_iff] at e
    obtain ⟨q, e1, e2⟩ := e
    cases e2
    obtain ⟨R2, D2, S2⟩ := Rel.fixL R h3 (show Z.fixL st ns = some (q.1, q.2) from e1)
    refine ⟨R2, ?_, S2⟩
    rw [RD]
    exact ⟨a, vs, rfl, h1, (S2.keeps (p := []) (P := P) (fun _ h => nomatch h) a (rd_ne h1) h2).2, D2⟩
  | c n =>
    obtain ⟨e1, hn, a, e2, e3⟩ := h
    subst e1 e3
    simp only [Z.fix, Option.map_eq_some_iff] at e
    obtain ⟨c, hc, e⟩ := e
    cases e
    have R0 : Rel K ρ st ι P σ H := R
    have R' := R0.freeze hc
    refine ⟨R', ?_, .freeze⟩
    obtain ⟨b, vs, e4, e5, h⟩ := R'.ce n ⟨true, c.xs⟩ (by rw [List.getElem?_set]; simp [hn])
    rw [e2] at e4; cases e4
    rw [RD]
    refine ⟨a, vs, rfl, e5, fun z => ?_, h⟩
    rcases z with z | z
    · exact (List.nodup_append.mp R0.nd).2.2 a z a (List.mem_of_getElem? e2) rfl
    · exact freeze_free (c := c) R0.ndι e2 z
/-- what is read of a value -/
theorem Rel.rd {w : W} {v : V} {p : List Addr} {x : D} (R : Rel K ρ st ι P σ H) (h : RV K st ι P H p w v) (e : rd st w = some x) (n : x.hasDict = false) : L2.Dp K H v x := by
  cases w with
  | d y =>
    simp [Z.rd] at e
    subst e
    exact RD.dp K _ _ n h.2
  | f xs =>
    obtain ⟨a, vs, e1, hp, e2, e3, h⟩ := h
    simp [Z.rd] at e
    subst e e2
    exact .lst (.of e3) (RDs.dp K _ _ (by simpa [PyData.hasDict] using n) h)
  | s ns => simp [Z.rd] at e
  | l ns => simp [Z.rd] at e
  | c n' =>
    obtain ⟨_, hn, a, e2, e3⟩ := h
    simp only [Z.rd, Option.map_eq_some_iff] at e
    obtain ⟨c, hc, e⟩ := e
    subst e e3
    obtain ⟨b, vs, e4, e5, h⟩ := R.ce n' c hc
    rw [e2] at e4; cases e4
    exact .lst (.of e5) (RDs.dp K _ _ (by simpa [PyData.hasDict] using n) h)
/-- .. of a list: its items are data -/
theorem Rel.rdL {w : W} {v : V} {p : List Addr} {xs : List D} (R : Rel K ρ st ι P σ H) (h : RV K st ι P H p w v) (e : Z.rd st w = some (.list xs)) :
    ∃ a vs, v = .ref a ∧ H a = some (.lst vs) ∧ RDs (Mt st ι P) H xs vs := by
  cases w with
  | d y =>
    simp [Z.rd] at e
    subst e
    have h := h.2
    rw [RD] at h
    obtain ⟨a, vs, e1, r, _, q⟩ := h
    exact ⟨a, vs, e1, r, q⟩
  | f ys =>
    obtain ⟨a, vs, e1, hp, e2, e3, h⟩ := h
    simp [Z.rd] at e
    subst e
    exact ⟨a, vs, e2, e3, h⟩
  | s ns => simp [Z.rd] at e
  | l ns => simp [Z.rd] at e
  | c n =>
    obtain ⟨_, hn, a, e2, e3⟩ := h
    simp only [Z.rd, Option.map_eq_some_iff] at e
    obtain ⟨c, hc, e⟩ := e
    cases e
    obtain ⟨b, vs, e4, e5, h⟩ := R.ce n c hc
    rw [e2] at e4; cases e4
    exact ⟨a, vs, e3, e5, h⟩
theorem RV.rdT {w : W} {v : V} {p : List Addr} {xs : List D} (h : RV K st ι P H p w v) (e : Z.rd st w = some (.tuple xs)) :
    ∃ a vs, v = .ref a ∧ H a = some (.tup vs) ∧ RDs (Mt st ι P) H xs vs := by
  cases w with
  | d y =>
    simp [Z.rd] at e
    subst e
    have h := h.2
    rw [RD] at h
    obtain ⟨a, vs, e1, r, _, q⟩ := h
    exact ⟨a, vs, e1, r, q⟩
  | f ys => simp [Z.rd] at e
  | s ns => simp [Z.rd] at e
  | l ns => simp [Z.rd] at e
  | c n =>
    simp only [Z.rd, Option.map_eq_some_iff] at e
    obtain ⟨c, hc, e⟩ := e
    cases e
/-- a name gets a value -/
theorem Rel.slot {i : Nat} {w : W} {v : V} (R : Rel K ρ st ι P σ H) (h : RW K st ι P H w v) : Rel K (ρ.set i (some w)) st ι P (σ.set i (some v)) H := by
  refine ⟨R.len, by rw [List.length_set, List.length_set]; exact R.ls, R.nd, fun j u e => ?_, R.ce, R.pe⟩
  by_cases hj : i = j
  · subst hj
    rw [List.getElem?_set] at e
    simp only [if_true] at e
    split at e
    · cases e
      rename_i hi
      rw [R.ls] at hi
      exact ⟨v, by simp [hi], h⟩
    · cases e
  · rw [List.getElem?_set_ne hj] at e
    obtain ⟨v', e1, h'⟩ := R.sl j u e
    exact ⟨v', by rw [List.getElem?_set_ne hj]; exact e1, h'⟩
end
end Z
/-! ZAft: what lies behind an expression; the values of operators and built-ins. -/
set_option linter.all false
set_option autoImplicit false
set_option maxHeartbeats 2000000
namespace Z
open PySem
open L2 (V Hp HO upd upd_same upd_ne ne_of_none)

/-! ### behind an expression: p, the lists it left open -/
structure Aft (K : PySem.W.Frag) (ρ : Slots) (σ : L2.St) (st : Store) (ι P : List Addr) (H : Hp) (st' : Store) (ι' p : List Addr) (H' : Hp) : Prop where
  rel : Rel K ρ st' ι' (p ++ P) σ H'
  step : Step st ι H st' ι' H'
  new : ∀ a ∈ p, H a = none
section
variable {K : PySem.W.Frag} {ρ : Slots} {σ : L2.St} {st st1 st2 : Store} {ι ι1 ι2 P p q : List Addr} {H H1 H2 : Hp}
theorem Step.new (s : Step st ι H st1 ι1 H1) {a : Addr} (h : H1 a = none) : H a = none := by
  cases e : H a with
  | none => rfl
  | some o => exact absurd h (s.all a (by rw [e]; exact fun z => nomatch z))
theorem Aft.refl (R : Rel K ρ st ι P σ H) : Aft K ρ σ st ι P H st ι [] H := ⟨R, .refl, fun _ h => nomatch h⟩
theorem Aft.trans (a : Aft K ρ σ st ι P H st1 ι1 p H1) (b : Aft K ρ σ st1 ι1 (p ++ P) H1 st2 ι2 q H2) : Aft K ρ σ st ι P H st2 ι2 (q ++ p) H2 :=
  ⟨by rw [List.append_assoc]; exact b.rel, a.step.trans b.step, fun x h => by
    rcases List.mem_append.mp h with h | h
    · exact a.step.new (b.new x h)
    · exact a.new x h⟩
theorem Aft.drop (a : Aft K ρ σ st ι P H st1 ι1 p H1) : Aft K ρ σ st ι P H st1 ι1 [] H1 := ⟨a.rel.shrink, a.step, fun _ h => nomatch h⟩
theorem Aft.laid (a : Aft K ρ σ st ι P H st1 ι1 p H1) {x : Addr} {o : HO} (h : H1 x = none) : Aft K ρ σ st ι P H st1 ι1 [] (upd H1 x o) :=
  ⟨a.drop.rel.alloc h [] (.inl rfl), a.step.trans (.alloc h), fun _ h => nomatch h⟩
theorem Aft.open (a : Aft K ρ σ st ι P H st1 ι1 p H1) {x : Addr} {o : HO} (h : H1 x = none) : Aft K ρ σ st ι P H st1 ι1 [x] (upd H1 x o) :=
  ⟨a.drop.rel.alloc h [x] (.inr rfl), a.step.trans (.alloc h), fun y hy => by simp at hy; subst hy; exact a.step.new h⟩
theorem Aft.rds {ds : List D} {vs : List V} (a : Aft K ρ σ st ι P H st1 ι1 p H1) (h : RDs (Mt st1 ι1 (p ++ P)) H1 ds vs) : RDs (Mt st1 ι1 P) H1 ds vs := RDs.mono keeps_shrink _ _ h
theorem Aft.rd1 {d : D} {v : V} (a : Aft K ρ σ st ι P H st1 ι1 p H1) (h : RD (Mt st1 ι1 (p ++ P)) H1 d v) : RD (Mt st1 ι1 P) H1 d v := RD.mono keeps_shrink _ _ h
theorem Aft.rv {w : W} {v : V} {r : List Addr} (R : Rel K ρ st ι P σ H) (a : Aft K ρ σ st ι P H st1 ι1 p H1) (h : RV K st ι P H r w v) : RV K st1 ι1 (p ++ P) H1 r w v := h.step R a.step a.new
/-- it becomes data -/
theorem Aft.fix {w : W} {v : V} {x : D} {st' : Store} (a : Aft K ρ σ st ι P H st1 ι1 p H1) (h : RV K st1 ι1 (p ++ P) H1 p w v) (e : fix st1 w = some (x, st')) :
    Aft K ρ σ st ι P H st' ι1 [] H1 ∧ RD (Mt st' ι1 P) H1 x v := by
  obtain ⟨h1, h2, h3⟩ := a.rel.fix h e
  exact ⟨⟨h1, a.step.trans h3, fun _ h => nomatch h⟩, h2⟩
end

/-! ### what is wanted of an expression -/
abbrev EvF := Slots → Store → Option (W × Store)
def Post (K : PySem.W.Frag) (ρ : Slots) (σ : L2.St) (st : Store) (ι P : List Addr) (H : Hp) (w : W) (st' : Store) (Q : L2.VK) : Prop :=
  ∀ v H' ι' p, Aft K ρ σ st ι P H st' ι' p H' → RV K st' ι' (p ++ P) H' p w v → Q v H'
def tEv (K : PySem.W.Frag) (f : EvF) : L2.TE := fun σ H Q => ∃ ρ st ι P w st', Rel K ρ st ι P σ H ∧ f ρ st = some (w, st') ∧ Post K ρ σ st ι P H w st' Q
def tTv (K : PySem.W.Frag) (f : Slots → Store → Option (Bool × Store)) : L2.TT := fun σ H Q => ∃ ρ st ι P b st', Rel K ρ st ι P σ H ∧ f ρ st = some (b, st') ∧
  ∀ H' ι', Aft K ρ σ st ι P H st' ι' [] H' → Q b H'
/-- the arguments' values; each with what it leaves open -/
def RVs (K : PySem.W.Frag) (st : Store) (ι P : List Addr) (H : Hp) : List Addr → List W → List V → Prop
  | p, [], vs => p = [] ∧ vs = []
  | p, w :: ws, vs => ∃ p1 p2 v r, p = p2 ++ p1 ∧ vs = v :: r ∧ RV K st ι P H p1 w v ∧ RVs K st ι P H p2 ws r
def tAv (K : PySem.W.Frag) (f : Slots → Store → Option (List W × Store)) : L2.TA := fun σ H Q => ∃ ρ st ι P ws st', Rel K ρ st ι P σ H ∧ f ρ st = some (ws, st') ∧
  ∀ vs H' ι' p, Aft K ρ σ st ι P H st' ι' p H' → RVs K st' ι' (p ++ P) H' p ws vs → Q vs H'
/-- .. of a display: data -/
def tDv (K : PySem.W.Frag) (f : Slots → Store → Option (List D × Store)) : L2.TA := fun σ H Q => ∃ ρ st ι P ds st', Rel K ρ st ι P σ H ∧ f ρ st = some (ds, st') ∧
  ∀ vs H' ι', Aft K ρ σ st ι P H st' ι' [] H' → RDs (Mt st' ι' P) H' ds vs → Q vs H'

section
variable {X : L2.Cx} {e : Expr}
theorem PE.weak {t t' : L2.TE} (h : L2.PE X e t) (k : ∀ σ H Q, t' σ H Q → t σ H Q) : L2.PE X e t' := ⟨fun pins s σ H Q I q => h.run pins s σ H Q I (k σ H Q q)⟩
theorem PT.weak {t t' : L2.TT} (h : L2.PT X e t) (k : ∀ σ H Q, t' σ H Q → t σ H Q) : L2.PT X e t' := ⟨fun pins s σ H Q I q => h.run pins s σ H Q I (k σ H Q q)⟩
theorem PA.weak {es : List Expr} {t t' : L2.TA} (h : L2.PA X es t) (k : ∀ σ H Q, t' σ H Q → t σ H Q) : L2.PA X es t' := ⟨fun pos pins s σ H Q I q => h.run pos pins s σ H Q I (k σ H Q q)⟩
end

section
variable {K : PySem.W.Frag} {ρ : Slots} {σ : L2.St} {st st1 st2 : Store} {ι ι1 ι2 P p q : List Addr} {H H1 H2 : Hp} {fa fb : EvF} {w w1 w2 : W}
theorem RVs.mono {P' : List Addr} {st' : Store} {ι' : List Addr} {H' : Hp} (k : ∀ r w v, RV K st ι P H r w v → RV K st' ι' P' H' r w v) : ∀ {ws : List W} {p : List Addr} {vs : List V}, RVs K st ι P H p ws vs → RVs K st' ι' P' H' p ws vs
  | [], p, vs, h => h
  | w :: ws, p, vs, h => by
    obtain ⟨p1, p2, v, r, e1, e2, h1, h2⟩ := h
    exact ⟨p1, p2, v, r, e1, e2, k _ _ _ h1, RVs.mono k h2⟩
theorem RVs.length : ∀ {ws : List W} {p : List Addr} {vs : List V}, RVs K st ι P H p ws vs → ws.length = vs.length
  | [], p, vs, h => by rw [h.2]; rfl
  | w :: ws, p, vs, h => by
    obtain ⟨p1, p2, v, r, e1, e2, h1, h2⟩ := h
    subst e2
    simp [RVs.length h2]

/-- one operand -/
theorem one {G : L2.VK} (R : Rel K ρ st ι P σ H) (e1 : fa ρ st = some (w1, st1)) (k : ∀ v1 H1 ι1 p1, Aft K ρ σ st ι P H st1 ι1 p1 H1 → RV K st1 ι1 (p1 ++ P) H1 p1 w1 v1 → G v1 H1) : tEv K fa σ H G :=
  ⟨ρ, st, ι, P, w1, st1, R, e1, k⟩
/-- two operands -/
theorem two {G : V → V → Hp → Prop} (R : Rel K ρ st ι P σ H) (e1 : fa ρ st = some (w1, st1)) (e2 : fb ρ st1 = some (w2, st2))
    (k : ∀ v1 v2 H2 ι2 p q1 q2, Aft K ρ σ st ι P H st2 ι2 p H2 → RV K st2 ι2 (p ++ P) H2 q1 w1 v1 → RV K st2 ι2 (p ++ P) H2 q2 w2 v2 → G v1 v2 H2) :
    tEv K fa σ H fun x H1 => tEv K fb σ H1 fun y H2 => G x y H2 :=
  one R e1 fun v1 H1 ι1 p1 A1 V1 => one A1.rel e2 fun v2 H2 ι2 p2 A2 V2 =>
    k v1 v2 H2 ι2 (p2 ++ p1) p1 p2 (A1.trans A2) (by rw [List.append_assoc]; exact A2.rv A1.rel V1) (by rw [List.append_assoc]; exact V2)
/-- what is wanted, of data -/
theorem fin_d {st' : Store} {Q : L2.VK} {x : D} {v : V} (hQ : Post K ρ σ st ι P H (.d x) st' Q) (A : Aft K ρ σ st ι P H st' ι1 p H1) (h : RD (Mt st' ι1 P) H1 x v) : Q v H1 :=
  hQ v H1 ι1 [] A.drop ⟨rfl, h⟩
theorem fin_int {st' : Store} {Q : L2.VK} {i : Int} (hQ : Post K ρ σ st ι P H (.d (.int i)) st' Q) (A : Aft K ρ σ st ι P H st' ι1 p H1) : Q (.int i) H1 := fin_d hQ A (by rw [RD])
theorem fin_bl {st' : Store} {Q : L2.VK} {b : Bool} (hQ : Post K ρ σ st ι P H (.d (.bool b)) st' Q) (A : Aft K ρ σ st ι P H st' ι1 p H1) : Q (.bl b) H1 := fin_d hQ A (by rw [RD])
theorem fin_non {st' : Store} {Q : L2.VK} (hQ : Post K ρ σ st ι P H (.d .none) st' Q) (A : Aft K ρ σ st ι P H st' ι1 p H1) : Q .non H1 := fin_d hQ A (by rw [RD])
theorem fin_str {st' : Store} {Q : L2.VK} {x : Str} (hQ : Post K ρ σ st ι P H (.d (.str x)) st' Q) (A : Aft K ρ σ st ι P H st' ι1 p H1) : Q (.str x) H1 := fin_d hQ A (by rw [RD])
/-- a new tuple -/
theorem fin_tup {st' : Store} {Q : L2.VK} {xs : List D} {vs : List V} (hQ : Post K ρ σ st ι P H (.d (.tuple xs)) st' Q) (A : Aft K ρ σ st ι P H st' ι1 p H1) (h : RDs (Mt st' ι1 P) H1 xs vs) (a : Addr) (hn : H1 a = none) :
    Q (.ref a) (upd H1 a (.tup vs)) := by
  refine hQ _ _ ι1 [] (A.laid hn) ⟨rfl, ?_⟩
  rw [RD]
  exact ⟨a, vs, rfl, upd_same, A.drop.rel.new_free hn, RDs.mono (keeps_alloc hn) _ _ h⟩
/-- a new list -/
theorem fin_lst {st' : Store} {Q : L2.VK} {xs : List D} {vs : List V} (hQ : Post K ρ σ st ι P H (.f xs) st' Q) (A : Aft K ρ σ st ι P H st' ι1 p H1) (h : RDs (Mt st' ι1 P) H1 xs vs) (a : Addr) (hn : H1 a = none) :
    Q (.ref a) (upd H1 a (.lst vs)) := by
  refine hQ _ _ ι1 [a] (A.open hn) ⟨a, vs, rfl, by simp, rfl, upd_same, RDs.mono (fun b hb n => ?_) _ _ h⟩
  have ne : b ≠ a := fun z => hb (by rw [z]; exact hn)
  refine ⟨upd_ne ne, fun z => ?_⟩
  rcases z with z | z
  · rcases List.mem_append.mp z with z | z
    · simp at z; exact ne z
    · exact n (.inl z)
  · exact n (.inr z)
/-- data that stands already -/
theorem Aft.same {x : D} {w : W} {v : V} {r : List Addr} (A : Aft K ρ σ st ι P H st1 ι1 p H1) (h : RV K st1 ι1 (p ++ P) H1 r w v) (e : w = .d x) : RD (Mt st1 ι1 P) H1 x v := by
  subst e
  exact A.rd1 h.2
end

/-! ### readings of data -/
section
variable {K : PySem.W.Frag} {ρ : Slots} {σ : L2.St} {st st1 : Store} {ι ι1 P p q : List Addr} {H H1 : Hp} {w : W} {v : V}
theorem rd_int {i : Int} (h : RV K st ι P H q w v) (e : rd st w = some (.int i)) : v = .int i := by
  cases w with
  | d y => simp [rd] at e; subst e; have := h.2; rwa [RD] at this
  | f xs => simp [rd] at e
  | c n => simp only [rd, Option.map_eq_some_iff] at e; obtain ⟨_, _, e⟩ := e; cases e
  | s ns => simp [rd] at e
  | l ns => simp [rd] at e
theorem rd_bool {i : Bool} (h : RV K st ι P H q w v) (e : rd st w = some (.bool i)) : v = .bl i := by
  cases w with
  | d y => simp [rd] at e; subst e; have := h.2; rwa [RD] at this
  | f xs => simp [rd] at e
  | c n => simp only [rd, Option.map_eq_some_iff] at e; obtain ⟨_, _, e⟩ := e; cases e
  | s ns => simp [rd] at e
  | l ns => simp [rd] at e
theorem rd_str {x : Str} (h : RV K st ι P H q w v) (e : rd st w = some (.str x)) : v = .str x := by
  cases w with
  | d y => simp [rd] at e; subst e; have := h.2; rwa [RD] at this
  | f xs => simp [rd] at e
  | c n => simp only [rd, Option.map_eq_some_iff] at e; obtain ⟨_, _, e⟩ := e; cases e
  | s ns => simp [rd] at e
  | l ns => simp [rd] at e
theorem rd_none (h : RV K st ι P H q w v) (e : rd st w = some .none) : v = .non := by
  cases w with
  | d y => simp [rd] at e; subst e; have := h.2; rwa [RD] at this
  | f xs => simp [rd] at e
  | c n => simp only [rd, Option.map_eq_some_iff] at e; obtain ⟨_, _, e⟩ := e; cases e
  | s ns => simp [rd] at e
  | l ns => simp [rd] at e
theorem rd_tup {xs : List D} (h : RV K st ι P H q w v) (e : rd st w = some (.tuple xs)) : w = .d (.tuple xs) ∧ ∃ a vs, v = .ref a ∧ H a = some (.tup vs) ∧ RDs (Mt st ι P) H xs vs := by
  refine ⟨?_, h.rdT e⟩
  cases w with
  | d y => simp [rd] at e; subst e; rfl
  | f xs => simp [rd] at e
  | c n => simp only [rd, Option.map_eq_some_iff] at e; obtain ⟨_, _, e⟩ := e; cases e
  | s ns => simp [rd] at e
  | l ns => simp [rd] at e
/-- what is None -/
theorem rd_isN {x : D} (h : RV K st ι P H q w v) (e : rd st w = some x) : decide (v = .non) = isNone x := by
  have far : ∀ {y : D}, y ≠ .none → RD (Mt st ι P) H y v → v ≠ .non := fun {y} hy hr z => by
    subst z
    cases y with
    | none => exact hy rfl
    | bool b => rw [RD] at hr; cases hr
    | int b => rw [RD] at hr; cases hr
    | str b => rw [RD] at hr; cases hr
    | list b => rw [RD] at hr; obtain ⟨_, _, z, _⟩ := hr; cases z
    | tuple b => rw [RD] at hr; obtain ⟨_, _, z, _⟩ := hr; cases z
    | dict b => rw [RD] at hr; obtain ⟨_, _, z, _⟩ := hr; cases z
  cases w with
  | d y =>
    simp [rd] at e
    subst e
    cases y with
    | none =>
      have := h.2
      rw [RD] at this
      subst this
      rfl
    | _ => exact decide_eq_false (far (by intro z; cases z) h.2)
  | f xs =>
    obtain ⟨a, vs, _, _, h2, _⟩ := h
    simp [rd] at e
    subst e h2
    rfl
  | c n =>
    obtain ⟨_, _, a, _, h2⟩ := h
    simp only [rd, Option.map_eq_some_iff] at e
    obtain ⟨_, _, e⟩ := e
    subst e h2
    rfl
  | s ns => simp [rd] at e
  | l ns => simp [rd] at e
end
end Z
/-! ZTm: a tuple, once. -/
set_option linter.all false
set_option autoImplicit false
set_option maxHeartbeats 4000000
set_option maxRecDepth 100000
namespace Z
open PySem PySem.Spec PyProof.Rows L2
theorem tuple_mulOne (l : Addr) (items : Array Value) (n : Nat) (dd : Option Addr) (sl : Array (Option Value)) (u : Tok) :
    Meets (Builtin.«tuple.__mul__» ⟨[.ref l, .int 1 u], []⟩) (fun _ R s => s.heap.get? l = some { cls := .type "tuple", dict := dd, data := .seq items n, slots := sl } ∧ R (.ok (.ret (Value.ref l))) s) :=
  .of_wp fun prog w A R s h => by
    obtain ⟨hp, g, d, tk, os⟩ := s
    obtain ⟨hl, h⟩ := h
    have f1 := AutoSeq1.idx_int
    wp_walk using wpAny_loadPart' hl
    exact ⟨_, rfl, h⟩
def rRep1 (K : PySem.W.Frag) : R2 := fun x y H Q => ∃ l xs, x = .ref l ∧ y = .int 1 ∧ SqT K H l xs ∧ Q (.ref l) H
theorem op_rep1 {X : Cx} : OpR X (binaryOp .Mult) (rRep1 X.K) := by
  intro pins s σ H x y v u Q I rx ry h
  obtain ⟨l, xs, rfl, rfl, hT, q⟩ := h
  cases rx
  obtain ⟨t, rfl⟩ := ry
  obtain ⟨its, r, ⟨⟨cls, dd, data, sl⟩, ho, hc, n, hd⟩, hs⟩ := I.tuple hT
  simp only at hc hd
  subst hc hd
  refine wpAny_binaryOp_repeat_ref (T := "tuple") (U := "int") (by decide) ⟨_, ho, rfl⟩ (fun s' => typeIs_int s' 1 t) noFill_tuple_mul F.fills_int_mul F.slot_int_rmul repeat_tuple F.slot_int_index.lookup
    (call_meets F.slot_int_rmul (typeIs_int s 1 t) F.entry_int_rmul (F.args_int_rmul_2 _ _) (int_rmul_tuple 1 t l its.toArray n dd sl)
      ⟨ho, rfl, ⟨_, ho, rfl⟩, call_meets F.slot_tuple_mul ⟨_, ho, rfl⟩ F.entry_tuple_mul (F.args_tuple_mul_2 _ _) (tuple_mulOne l its.toArray n dd sl t) ⟨ho, ?_⟩⟩)
  exact ⟨.ref l, H, I, rfl, q⟩
end Z
/-! ZOps: operators, comparisons and built-ins, by values. -/
set_option linter.all false
set_option autoImplicit false
set_option maxHeartbeats 4000000
namespace Z
open PySem
open L2 (V Hp HO upd upd_same upd_ne ne_of_none)

def opOf : BOp → Operator
  | .add => .Add
  | .sub => .Sub
  | .mul => .Mult
  | .fdiv => .FloorDiv
  | .mod => .Mod
  | .pow => .Pow
def cpOf : COp → CmpOp
  | .eq => .Eq
  | .ne => .NotEq
  | .lt => .Lt
  | .le => .LtE
  | .gt => .Gt
  | .ge => .GtE
  | .isN => .Is
  | .isnotN => .IsNot
  | .inn => .In
  | .notin => .NotIn

def rStrAdd : L2.R2 := fun x y H Q => ∃ i j : Str, x = .str i ∧ y = .str j ∧ i.length + j.length ≤ sizeLine ∧ Q (.str (i ++ j)) H
def rBin (K : PySem.W.Frag) : BOp → L2.R2
  | .add => fun x y H Q => (L2.rI0 (fun i j => .int (i + j)) x y H Q ∨ rStrAdd x y H Q) ∨ (L2.rCatA K x y H Q ∨ L2.rCat x y H Q)
  | .sub => L2.rI0 fun i j => .int (i - j)
  | .mul => fun x y H Q => (L2.rI L2.CMul (fun i j => .int (i * j)) x y H Q ∨ L2.rI L2.CMulW (fun i j => .int (i * j)) x y H Q) ∨ (L2.rRep x y H Q ∨ (L2.rRepT K x y H Q ∨ rRep1 K x y H Q))
  | .fdiv => L2.rI L2.CDivW fun i j => .int (i / j)
  | .mod => L2.rI (fun _ j => 0 < j) fun i j => .int (i % j)
  | .pow => L2.rI L2.CPow fun i j => .int (i ^ j.toNat)
theorem op_bin {X : L2.Cx} : ∀ o : BOp, L2.OpR X (binaryOp (opOf o)) (rBin X.K o)
  | .add => (L2.OpR.or (L2.OpR.or L2.op_add L2.op_add_str) (L2.OpR.or L2.op_catA L2.op_cat))
  | .sub => L2.op_sub
  | .mul => L2.OpR.or (L2.OpR.or L2.op_mul L2.op_mulW) (L2.OpR.or L2.op_rep (L2.OpR.or L2.op_repT op_rep1))
  | .fdiv => L2.op_fdivW
  | .mod => L2.op_mod
  | .pow => L2.op_pow

section
variable {K : PySem.W.Frag} {ρ : Slots} {σ : L2.St} {st st2 : Store} {ι ι2 P p q1 q2 : List Addr} {H H2 : Hp} {w w1 w2 : W} {v1 v2 : V} {x y : D} {Q : L2.VK}
theorem wide_up {i : Int} (h : i.natAbs < 2 ^ 31) : i.natAbs < 2 ^ 4000 := Nat.lt_of_lt_of_le h (Nat.pow_le_pow_right (by decide) (by decide))
theorem fdiv_w {i j : Int} (e : binF .fdiv (.int i) (.int j) = some w) : L2.CDivW i j ∧ w = .d (.int (i / j)) := by
  change (if 0 < j ∧ j < 1073741824 then some (W.d (.int (i / j))) else if 0 < j ∧ j.natAbs < wideB then some (W.d (.int (i / j))) else none) = some w at e
  split at e
  · rename_i h
    cases e
    exact ⟨L2.wide_div h.1 (wide_up (by omega)) (by decide) (by decide), rfl⟩
  · split at e
    · rename_i h
      cases e
      exact ⟨L2.wide_div (b := 4000) h.1 h.2 (by decide) (by decide), rfl⟩
    · cases e
theorem mul_w {i j : Int} (e : binF .mul (.int i) (.int j) = some w) : (L2.CMul i j ∨ L2.CMulW i j) ∧ w = .d (.int (i * j)) := by
  change (if (lit64 i || lit64 j) = true then some (W.d (.int (i * j))) else if i.natAbs < wideB ∧ j.natAbs < wideB then some (W.d (.int (i * j))) else none) = some w at e
  split at e
  · rename_i h
    cases e
    refine ⟨.inl ?_, rfl⟩
    unfold L2.CMul
    simpa [lit64] using h
  · split at e
    · rename_i h
      cases e
      exact ⟨.inr (L2.wide_mul (a := 4000) (b := 4000) h.1 h.2 (by decide) (by decide) (by decide)), rfl⟩
    · cases e
theorem bin_ok {o : BOp} (A : Aft K ρ σ st ι P H st2 ι2 p H2) (h1 : RV K st2 ι2 (p ++ P) H2 q1 w1 v1) (h2 : RV K st2 ι2 (p ++ P) H2 q2 w2 v2) (e1 : rd st2 w1 = some x) (e2 : rd st2 w2 = some y)
    (e : binF o x y = some w) (hQ : Post K ρ σ st ι P H w st2 Q) : rBin K o v1 v2 H2 Q := by
  have iis : ∀ {i j : Int}, x = .int i → y = .int j → v1 = .int i ∧ v2 = .int j := fun {i j} ex ey => by
    subst ex ey
    exact ⟨rd_int h1 e1, rd_int h2 e2⟩
  cases o with
  | add =>
    cases x <;> cases y <;> simp [binF] at e
    case int.int i j =>
      subst e
      obtain ⟨z1, z2⟩ := iis rfl rfl
      exact .inl (.inl ⟨i, j, z1, z2, fin_int hQ A⟩)
    case str.str i j =>
      obtain ⟨hl, e⟩ := e
      subst e
      exact .inl (.inr ⟨i, j, rd_str h1 e1, rd_str h2 e2, hl, fin_str hQ A⟩)
    case tuple.tuple xs ys =>
      obtain ⟨⟨hx, hl⟩, e⟩ := e
      subst e
      obtain ⟨z1, a, vs, ea, ha, ra⟩ := rd_tup h1 e1
      obtain ⟨z2, b, us, eb, hb, rb⟩ := rd_tup h2 e2
      refine .inr (.inl ⟨a, b, vs, us, ea, eb, .of ha, .of hb, by rw [← ra.length, ← rb.length]; exact hl, fun z => ?_, fun _ z => ?_, fun _ _ c hc => ?_⟩)
      · subst z
        exact absurd (List.eq_nil_of_length_eq_zero ra.length) hx
      · subst z
        have hy : ys = [] := List.eq_nil_of_length_eq_zero rb.length
        subst hy
        subst ea
        rw [List.append_nil] at hQ
        exact fin_d hQ A (A.same h1 z1)
      · exact fin_tup hQ A ((A.rds ra).append (A.rds rb)) c hc
    case list.list xs ys =>
      obtain ⟨hl, e⟩ := e
      subst e
      obtain ⟨a, vs, ea, ha, ra⟩ := A.rel.rdL h1 e1
      obtain ⟨b, us, eb, hb, rb⟩ := A.rel.rdL h2 e2
      exact .inr (.inr ⟨a, b, vs, us, ea, eb, ha, hb, by rw [← ra.length, ← rb.length]; exact hl, fun c hc => fin_lst hQ A ((A.rds ra).append (A.rds rb)) c hc⟩)
  | sub =>
    cases x <;> cases y <;> simp [binF] at e
    case int.int i j =>
      subst e
      obtain ⟨z1, z2⟩ := iis rfl rfl
      exact ⟨i, j, z1, z2, fin_int hQ A⟩
  | mul =>
    cases x <;> cases y <;> first | (simp [binF] at e; done) | skip
    case int.int i j =>
      obtain ⟨hl, e⟩ := mul_w e
      subst e
      obtain ⟨z1, z2⟩ := iis rfl rfl
      rcases hl with hl | hl
      · exact .inl (.inl ⟨i, j, z1, z2, hl, fin_int hQ A⟩)
      · exact .inl (.inr ⟨i, j, z1, z2, hl, fin_int hQ A⟩)
    case list.int xs j =>
      simp [binF] at e
      obtain ⟨hl, e⟩ := e
      subst e
      obtain ⟨a, vs, ea, ha, ra⟩ := A.rel.rdL h1 e1
      exact .inr (.inl ⟨a, j, vs, ea, rd_int h2 e2, ha, hl.1, hl.2.1, by rw [← ra.length]; exact hl.2.2, fun c hc => fin_lst hQ A ((A.rds ra).rep _) c hc⟩)
    case tuple.int xs j =>
      simp [binF] at e
      obtain ⟨z1, a, vs, ea, ha, ra⟩ := rd_tup h1 e1
      split at e
      · rename_i hl
        cases e
        refine .inr (.inr (.inl ⟨a, j, vs, ea, rd_int h2 e2, .of ha, fun z => ?_, hl.2.1, hl.2.2.1, by rw [← ra.length]; exact hl.2.2.2, fun c hc => fin_tup hQ A ((A.rds ra).rep _) c hc⟩))
        subst z
        exact hl.1 (List.eq_nil_of_length_eq_zero ra.length)
      · simp at e
        obtain ⟨rfl, rfl⟩ := e
        refine .inr (.inr (.inr ⟨a, vs, ea, rd_int h2 e2, .of ha, ?_⟩))
        subst ea
        exact fin_d hQ A (A.same h1 z1)
  | fdiv =>
    cases x <;> cases y <;> first | (simp [binF] at e; done) | skip
    case int.int i j =>
      obtain ⟨hl, e⟩ := fdiv_w e
      subst e
      obtain ⟨z1, z2⟩ := iis rfl rfl
      exact ⟨i, j, z1, z2, hl, fin_int hQ A⟩
  | mod =>
    cases x <;> cases y <;> simp [binF] at e
    case int.int i j =>
      obtain ⟨hl, e⟩ := e
      subst e
      obtain ⟨z1, z2⟩ := iis rfl rfl
      exact ⟨i, j, z1, z2, hl, fin_int hQ A⟩
  | pow =>
    cases x <;> cases y <;> simp [binF] at e
    case int.int i j =>
      obtain ⟨hl, e⟩ := e
      subst e
      obtain ⟨z1, z2⟩ := iis rfl rfl
      exact ⟨i, j, z1, z2, ⟨hl.1, hl.2.1, by simpa using hl.2.2⟩, fin_int hQ A⟩
end

theorem shaped_nd {x : D} (h : SeqAt.shaped x = true) : x.hasDict = false := PyData.hasDict_of_canLay x (SeqAt.canLay_of_shaped h)
def rCmp (K : PySem.W.Frag) : COp → L2.R2
  | .eq => fun x y H Q => L2.rEqD K x y H Q ∨ L2.rEq x y H Q
  | .ne => fun x y H Q => L2.rNeD K x y H Q ∨ L2.rNe x y H Q
  | .lt => L2.rI0 fun i j => .bl (decide (i < j))
  | .le => L2.rI0 fun i j => .bl (decide (i ≤ j))
  | .gt => L2.rI0 fun i j => .bl (decide (j < i))
  | .ge => L2.rI0 fun i j => .bl (decide (j ≤ i))
  | .isN => fun x y H Q => y = .non ∧ Q (.bl (decide (x = .non))) H
  | .isnotN => fun x y H Q => y = .non ∧ Q (.bl (!decide (x = .non))) H
  | _ => fun _ _ _ _ => False
theorem op_cmp {X : L2.Cx} (hu : X.A.units + 64 < cLine) : ∀ o : COp, L2.OpR X (compareOp (cpOf o)) (rCmp X.K o)
  | .eq => L2.OpR.or (L2.op_eqD hu) L2.op_eq
  | .ne => L2.OpR.or (L2.op_neD hu) L2.op_ne
  | .lt => L2.op_lt
  | .le => L2.op_le
  | .gt => L2.op_gt
  | .ge => L2.op_ge
  | .isN => L2.op_isN
  | .isnotN => L2.op_notN
  | .inn => fun _ _ _ _ _ _ _ _ _ _ _ _ h => h.elim
  | .notin => fun _ _ _ _ _ _ _ _ _ _ _ _ h => h.elim
section
variable {K : PySem.W.Frag} {ρ : Slots} {σ : L2.St} {st st2 : Store} {ι ι2 P p q1 q2 : List Addr} {H H2 : Hp} {w w1 w2 : W} {v1 v2 : V} {x y : D} {Q : L2.VK}
theorem cmpF_eq_gen (h : ∀ a b, x = .str a → y = .str b → False) : cmpF .eq x y = if SeqAt.shaped x && SeqAt.shaped y then some (PyData.eqv x y) else none := by
  cases x <;> cases y <;> first | rfl | exact (h _ _ rfl rfl).elim
theorem cmpF_ne_gen (h : ∀ a b, x = .str a → y = .str b → False) : cmpF .ne x y = if SeqAt.shaped x && SeqAt.shaped y then some (!PyData.eqv x y) else none := by
  cases x <;> cases y <;> first | rfl | exact (h _ _ rfl rfl).elim
/-- a comparison: its answer, whatever is wanted of it -/
theorem cmp_ok {o : COp} {k : Bool} (A : Aft K ρ σ st ι P H st2 ι2 p H2) (h1 : RV K st2 ι2 (p ++ P) H2 q1 w1 v1) (h2 : RV K st2 ι2 (p ++ P) H2 q2 w2 v2) (e1 : rd st2 w1 = some x) (e2 : rd st2 w2 = some y)
    (e : cmpF o x y = some k) (hQ : Q (.bl k) H2) : rCmp K o v1 v2 H2 Q := by
  have iis : ∀ {i j : Int}, x = .int i → y = .int j → v1 = .int i ∧ v2 = .int j := fun {i j} ex ey => by
    subst ex ey
    exact ⟨rd_int h1 e1, rd_int h2 e2⟩
  cases o with
  | eq =>
    by_cases hst : ∃ a b, x = .str a ∧ y = .str b
    · obtain ⟨a, b, rfl, rfl⟩ := hst
      have z1 := rd_str h1 e1
      have z2 := rd_str h2 e2
      subst z1 z2
      have e : some (decide (a = b)) = some k := e
      cases e
      refine .inr ⟨rfl, ?_⟩
      have z : decide (V.str a = V.str b) = decide (a = b) := by
        by_cases h : a = b <;> simp [h]
      rw [z]; exact hQ
    rw [cmpF_eq_gen fun a b ha hb => hst ⟨a, b, ha, hb⟩] at e
    split at e
    · rename_i hs
      cases e
      rw [Bool.and_eq_true] at hs
      exact .inl ⟨x, y, A.rel.rd h1 e1 (shaped_nd hs.1), A.rel.rd h2 e2 (shaped_nd hs.2), hs.1, hs.2, hQ⟩
    · cases e
  | ne =>
    by_cases hst : ∃ a b, x = .str a ∧ y = .str b
    · obtain ⟨a, b, rfl, rfl⟩ := hst
      have z1 := rd_str h1 e1
      have z2 := rd_str h2 e2
      subst z1 z2
      have e : some (!decide (a = b)) = some k := e
      cases e
      refine .inr ⟨rfl, ?_⟩
      have z : decide (V.str a = V.str b) = decide (a = b) := by
        by_cases h : a = b <;> simp [h]
      rw [z]; exact hQ
    rw [cmpF_ne_gen fun a b ha hb => hst ⟨a, b, ha, hb⟩] at e
    split at e
    · rename_i hs
      cases e
      rw [Bool.and_eq_true] at hs
      exact .inl ⟨x, y, A.rel.rd h1 e1 (shaped_nd hs.1), A.rel.rd h2 e2 (shaped_nd hs.2), hs.1, hs.2, hQ⟩
    · cases e
  | lt =>
    cases x <;> cases y <;> simp [cmpF] at e
    obtain ⟨z1, z2⟩ := iis rfl rfl
    subst e
    exact ⟨_, _, z1, z2, hQ⟩
  | le =>
    cases x <;> cases y <;> simp [cmpF] at e
    obtain ⟨z1, z2⟩ := iis rfl rfl
    subst e
    exact ⟨_, _, z1, z2, hQ⟩
  | gt =>
    cases x <;> cases y <;> simp [cmpF] at e
    obtain ⟨z1, z2⟩ := iis rfl rfl
    subst e
    exact ⟨_, _, z1, z2, hQ⟩
  | ge =>
    cases x <;> cases y <;> simp [cmpF] at e
    obtain ⟨z1, z2⟩ := iis rfl rfl
    subst e
    exact ⟨_, _, z1, z2, hQ⟩
  | isN =>
    have hx := rd_isN h1 e1
    cases y <;> simp [cmpF] at e
    refine ⟨rd_none h2 e2, ?_⟩
    rw [hx, e]
    exact hQ
  | isnotN =>
    have hx := rd_isN h1 e1
    cases y <;> simp [cmpF] at e
    refine ⟨rd_none h2 e2, ?_⟩
    rw [hx, e, Bool.not_not]
    exact hQ
  | inn => simp [cmpF] at e
  | notin => simp [cmpF] at e
/-- truth -/
theorem tru_ok {k : Bool} (A : Aft K ρ σ st ι P H st2 ι2 p H2) (h1 : RV K st2 ι2 (p ++ P) H2 q1 w1 v1) (e1 : rd st2 w1 = some x) (e : truth x = some k) : L2.TruV K v1 H2 k := by
  cases x with
  | none =>
    simp [truth] at e
    rw [rd_none h1 e1]
    show k = false
    first | exact e | exact e.symm
  | bool b =>
    simp [truth] at e
    rw [rd_bool h1 e1]
    show k = b
    first | exact e | exact e.symm
  | int i =>
    simp [truth] at e
    rw [rd_int h1 e1]
    show k = (i != 0)
    first | exact e | exact e.symm
  | str s =>
    simp only [truth] at e
    split at e
    · rename_i hs
      cases e
      rw [rd_str h1 e1]
      exact ⟨hs, rfl⟩
    · cases e
  | list xs =>
    simp only [truth, Option.some.injEq] at e
    obtain ⟨a, vs, ea, ha, ra⟩ := A.rel.rdL h1 e1
    subst ea
    refine .inl ⟨vs, .of ha, ?_⟩
    have := ra.length
    rw [← e]
    cases xs <;> cases vs <;> simp at this ⊢
  | tuple xs =>
    simp only [truth, Option.some.injEq] at e
    obtain ⟨_, a, vs, ea, ha, ra⟩ := rd_tup h1 e1
    subst ea
    refine .inr (.inl ⟨vs, .of ha, ?_⟩)
    have := ra.length
    rw [← e]
    cases xs <;> cases vs <;> simp at this ⊢
  | dict kvs => simp [truth] at e
end
end Z
/-! ZBi: built-ins by values. -/
set_option linter.all false
set_option autoImplicit false
set_option maxHeartbeats 4000000
namespace Z
open PySem
open L2 (V Hp HO upd upd_same upd_ne ne_of_none)

/-! ### lists of ints, of bools -/
theorem intsD_eq : ∀ {xs : List D} {ns : List Int}, intsD xs = some ns → xs = ns.map PyData.int
  | [], ns, h => by simp [intsD] at h; subst h; rfl
  | x :: xs, ns, h => by
    cases x <;> simp [intsD] at h
    obtain ⟨a, h1, h2⟩ := h
    subst h2
    rw [intsD_eq h1]; rfl
theorem boolsD_eq : ∀ {xs : List D} {bs : List Bool}, boolsD xs = some bs → xs = bs.map PyData.bool
  | [], ns, h => by simp [boolsD] at h; subst h; rfl
  | x :: xs, ns, h => by
    cases x <;> simp [boolsD] at h
    obtain ⟨a, h1, h2⟩ := h
    subst h2
    rw [boolsD_eq h1]; rfl
theorem RDs.ibls {N : Addr → Prop} {H : Hp} : ∀ {ns : List Bool} {vs : List V}, RDs N H (ns.map PyData.bool) vs → vs = ns.map V.bl
  | [], vs, h => by rw [List.map_nil, RDs] at h; subst h; rfl
  | n :: ns, vs, h => by
    rw [List.map_cons, RDs] at h
    obtain ⟨v, r, e, h1, h2⟩ := h
    rw [RD] at h1
    subst e h1
    rw [RDs.ibls h2]; rfl
theorem maxI_mem : ∀ (a : Int) (r : List Int), maxI a r ∈ a :: r
  | a, [] => by simp [maxI]
  | a, x :: r => by
    have h := maxI_mem (if x > a then x else a) r
    rw [maxI]
    rcases List.mem_cons.mp h with h | h
    · rw [h]; split <;> simp
    · simp [h]
theorem maxI_le : ∀ (a : Int) (r : List Int) (y : Int), y ∈ a :: r → y ≤ maxI a r
  | a, [], y, h => by simp at h; subst h; simp [maxI]
  | a, x :: r, y, h => by
    rw [maxI]
    have h0 := maxI_le (if x > a then x else a) r (if x > a then x else a) (by simp)
    rcases List.mem_cons.mp h with h | h
    · subst h; split at h0 <;> split <;> omega
    · rcases List.mem_cons.mp h with h | h
      · subst h; split at h0 <;> split <;> omega
      · exact maxI_le _ r y (List.mem_cons_of_mem _ h)
theorem minI_mem : ∀ (a : Int) (r : List Int), minI a r ∈ a :: r
  | a, [] => by simp [minI]
  | a, x :: r => by
    have h := minI_mem (if x < a then x else a) r
    rw [minI]
    rcases List.mem_cons.mp h with h | h
    · rw [h]; split <;> simp
    · simp [h]
theorem minI_le : ∀ (a : Int) (r : List Int) (y : Int), y ∈ a :: r → minI a r ≤ y
  | a, [], y, h => by simp at h; subst h; simp [minI]
  | a, x :: r, y, h => by
    rw [minI]
    have h0 := minI_le (if x < a then x else a) r (if x < a then x else a) (by simp)
    rcases List.mem_cons.mp h with h | h
    · subst h; split at h0 <;> split <;> omega
    · rcases List.mem_cons.mp h with h | h
      · subst h; split at h0 <;> split <;> omega
      · exact minI_le _ r y (List.mem_cons_of_mem _ h)

/-! ### repr -/
def rRepr (K : PySem.W.Frag) : List V → Hp → L2.VK → Prop := fun xs H Q => ∃ v, xs = [v] ∧
  ((∃ d : D, L2.Dp K H v d ∧ d.showable = true ∧ d.depth ≤ 100 ∧ d.hasDict = false ∧ d.shown.length ≤ sizeLine ∧ Q (.str d.shown) H) ∨
    ∃ a, v = .ref a ∧ H a = some (.dK []) ∧ Q (.str (PyData.dict []).shown) H)
theorem call_repr {X : L2.Cx} (hg : X.A.guards = some []) (hu : X.A.units + 200 < cLine) : L2.CallR X (.builtin "repr") (rRepr X.K) := by
  intro pins s σ H xs us Q I r h
  obtain ⟨v, rfl, h⟩ := h
  obtain ⟨u, rfl, rv⟩ := L2.vals1 r
  rcases h with ⟨d, hd, h1, h2, h3, h4, q⟩ | ⟨a, rfl, ha, q⟩
  · obtain ⟨as, hr⟩ := L2.Dp.reads I d v u hd rv
    cases hd with
    | non =>
      cases rv
      rw [PyData.shown] at q
      exact PySem.P.repr_of_none ⟨.str _, H, I.tok _, ⟨_, rfl⟩, q⟩
    | bl b =>
      cases rv
      rw [PyData.shown] at q
      cases b
      · exact PySem.P.repr_of_bool ⟨.str _, H, I.tok _, ⟨s.toks, rfl⟩, q⟩
      · exact PySem.P.repr_of_bool ⟨.str _, H, I.tok _, ⟨s.toks, rfl⟩, q⟩
    | int i =>
      obtain ⟨t, rfl⟩ := rv
      rw [PyData.shown] at q
      exact PySem.P.repr_of_int (by simpa [PyData.showable] using h1) ⟨.str _, H, I.tok _, ⟨_, rfl⟩, q⟩
    | str x =>
      obtain ⟨t, rfl⟩ := rv
      rw [PyData.shown] at q h4
      exact PySem.P.repr_of_str ⟨.str _, H, I.tok _, ⟨_, rfl⟩, q⟩ h4
    | lst hs ha =>
      cases rv
      exact repr_of_reads' hr h1 (fun z => by rw [h3] at z; cases z) hg (by omega) (fun _ _ e => e) (fun h' u tk hk => ⟨.str _, H, I.kept hk, ⟨_, rfl⟩, q⟩) h4
    | tup hs ha =>
      cases rv
      exact repr_of_reads' hr h1 (fun z => by rw [h3] at z; cases z) hg (by omega) (fun _ _ e => e) (fun h' u tk hk => ⟨.str _, H, I.kept hk, ⟨_, rfl⟩, q⟩) h4
  · cases rv
    obtain ⟨_, hsys, vs, kv, o, es, ep, ho, hx, hd, _, hp, _⟩ := I.hok a _ ha
    cases kv
    have hes : es = #[] := by
      have h0 : es.toList = [] := by
        cases q : es.toList with
        | nil => rfl
        | cons z r => rw [q] at hp; cases hp
      simpa using congrArg List.toArray h0
    subst hes
    have hr : Reads s.heap (.ref a) (.dict []) [a] := by
      have := Reads.dict (a := a) (h := s.heap) (kvs := []) (as := []) (bs := []) ho hx.1 hd ReadsAll.nil ReadsAll.nil
      simpa using this
    refine repr_of_reads' hr (by rfl) (fun _ z => ?_) hg (by simp [PyData.depth, PyData.depthKv]; omega) (fun _ _ e => e) (fun h' u tk hk => ⟨.str _, H, I.kept hk, ⟨_, rfl⟩, q⟩) (by decide +kernel)
    simp at z
    subst z
    simp at hsys

/-! ### isinstance -/
def tagN : D → String
  | .none => "NoneType"
  | .bool _ => "bool"
  | .int _ => "int"
  | .str _ => "str"
  | .list _ => "list"
  | .tuple _ => "tuple"
  | .dict _ => "dict"
def tyN : Ty → String
  | .int => "int"
  | .bool => "bool"
  | .tuple => "tuple"
  | .list => "list"
  | .str => "str"
  | .dict => "dict"
theorem kit_tab (x : D) (T : Ty) : L2.kitB (tagN x) (tyN T) = some (tyOf x T) := by
  cases x <;> cases T <;> (simp only [tagN, tyN, tyOf]; decide +kernel)
theorem kit_any (K : PySem.W.Frag) (x : D) : ∀ ts : List Ty, PySem.W.kitAny K (.type (tagN x)) (ts.map fun T => Value.type (tyN T)) = some (ts.any (tyOf x))
  | [] => L2.kitAny_nil
  | T :: ts => by
    rw [List.map_cons, List.any_cons]
    refine L2.kitAny_cons (L2.kit_ty (kit_tab x T)) (fun h => ?_) fun h => ?_
    · rw [h, Bool.false_or]; exact kit_any K x ts
    · rw [h]; rfl
section
variable {K : PySem.W.Frag} {ρ : Slots} {σ : L2.St} {st st2 : Store} {ι ι2 P p q1 q2 : List Addr} {H H2 : Hp} {w w1 w2 : W} {v1 v2 : V} {x y : D} {Q : L2.VK}
theorem ty_of (R : Rel K ρ st2 ι2 P σ H2) (h1 : RV K st2 ι2 P H2 q1 w1 v1) (e1 : rd st2 w1 = some x) : L2.TyX K H2 v1 (.type (tagN x)) := by
  refine .base ?_
  cases x with
  | none => rw [rd_none h1 e1]; exact .non
  | bool b => rw [rd_bool h1 e1]; exact .bl b
  | int b => rw [rd_int h1 e1]; exact .int b
  | str b => rw [rd_str h1 e1]; exact .str b
  | list b => obtain ⟨a, vs, e, h, _⟩ := R.rdL h1 e1; rw [e]; exact .lst h
  | tuple b => obtain ⟨_, a, vs, e, h, _⟩ := rd_tup h1 e1; rw [e]; exact .tup h
  | dict b =>
    cases w1 with
    | d y =>
      simp [rd] at e1
      subst e1
      have h := h1.2
      rw [RD] at h
      obtain ⟨_, a, e, h, _⟩ := h
      rw [e]; exact .dK h
    | f xs => simp [rd] at e1
    | c n => simp only [rd, Option.map_eq_some_iff] at e1; obtain ⟨_, _, e⟩ := e1; cases e
    | s ns => simp [rd] at e1
    | l ns => simp [rd] at e1
end

/-! ### the others -/
def biN : Bi → Str
  | .len => "len"
  | .all => "all"
  | .any => "any"
  | .tuple => "tuple"
  | .list => "list"
  | .max => "max"
  | .min => "min"
  | .sum => "sum"
  | .abs => "abs"
  | .int => "int"
  | .divmod => "divmod"
  | .repr => "repr"
def biT : Bi → Bool
  | .tuple => true
  | .list => true
  | .int => true
  | _ => false
def biV : Bi → Value
  | .len => .builtin "len"
  | .all => .builtin "all"
  | .any => .builtin "any"
  | .tuple => .type "tuple"
  | .list => .type "list"
  | .max => .builtin "max"
  | .min => .builtin "min"
  | .sum => .builtin "sum"
  | .abs => .builtin "abs"
  | .int => .type "int"
  | .divmod => .builtin "divmod"
  | .repr => .builtin "repr"
theorem boot_bi (b : Bi) : bootBuiltins (biN b) = some (biV b) := by
  cases b <;> (simp only [biN, biV]; decide +kernel)
def rBi (K : PySem.W.Frag) : Bi → List V → Hp → L2.VK → Prop
  | .len => fun xs H Q => ∃ x n, xs = [x] ∧ L2.LenV K x H n ∧ Q (.int n) H
  | .all => L2.rAll K
  | .any => L2.rAny K
  | .tuple => fun xs H Q => ∃ p ys, xs = [.ref p] ∧ ((L2.SqL K H p ys ∧ ∀ l, H l = none → Q (.ref l) (upd H l (.tup ys))) ∨ (L2.SqT K H p ys ∧ Q (.ref p) H))
  | .list => fun xs H Q => ∃ p ys, xs = [.ref p] ∧ (L2.SqL K H p ys ∨ L2.SqT K H p ys) ∧ ∀ l, H l = none → Q (.ref l) (upd H l (.lst ys))
  | .max => fun xs H Q => L2.rMax K xs H Q ∨ ∃ i j, xs = [.int i, .int j] ∧ Q (.int (if j > i then j else i)) H
  | .min => fun xs H Q => L2.rMin K xs H Q ∨ ∃ i j, xs = [.int i, .int j] ∧ Q (.int (if j < i then j else i)) H
  | .sum => L2.rSum K
  | .abs => fun xs H Q => ∃ i, xs = [.int i] ∧ Q (.int (if i < 0 then -i else i)) H
  | .int => fun xs H Q => (∃ i, xs = [.int i] ∧ Q (.int i) H) ∨ ∃ k, xs = [.bl k] ∧ Q (.int (if k then 1 else 0)) H
  | .divmod => fun xs H Q => ∃ i j, xs = [.int i, .int j] ∧ L2.CDiv i j ∧ ∀ p, H p = none → Q (.ref p) (upd H p (.tup [.int (i / j), .int (i % j)]))
  | .repr => rRepr K
theorem call_bi {X : L2.Cx} (hc : X.calm = true) (hg : X.A.guards = some []) (hu : X.A.units + 200 < cLine) : ∀ b : Bi, L2.CallR X (biV b) (rBi X.K b)
  | .len => L2.call_len
  | .all => L2.cr_all hc
  | .any => L2.cr_any hc
  | .tuple => L2.call_tuple_of
  | .list => L2.call_list_of
  | .max => L2.CallR.or (L2.cr_max hc) (L2.call_max2 hc)
  | .min => L2.CallR.or (L2.cr_min hc) (L2.call_min2 hc)
  | .sum => L2.cr_sum hc
  | .abs => L2.call_abs
  | .int => L2.call_int1
  | .divmod => L2.call_divmod
  | .repr => call_repr hg hu

theorem rds_one {st : Store} {ws : List W} {x : D} (h : rds st ws = some [x]) : ∃ w, ws = [w] ∧ rd st w = some x := by
  cases ws with
  | nil => simp [rds] at h
  | cons w r =>
    simp only [rds, Option.bind_eq_some_iff, Option.map_eq_some_iff] at h
    obtain ⟨y, h1, z, h2, h3⟩ := h
    cases h3
    cases r with
    | nil => exact ⟨w, rfl, h1⟩
    | cons u r =>
      simp only [rds, Option.bind_eq_some_iff, Option.map_eq_some_iff] at h2
      obtain ⟨_, _, _, _, h⟩ := h2
      cases h
theorem rds_two {st : Store} {ws : List W} {x y : D} (h : rds st ws = some [x, y]) : ∃ w u, ws = [w, u] ∧ rd st w = some x ∧ rd st u = some y := by
  cases ws with
  | nil => simp [rds] at h
  | cons w r =>
    simp only [rds, Option.bind_eq_some_iff, Option.map_eq_some_iff] at h
    obtain ⟨z, h1, zs, h2, h3⟩ := h
    cases h3
    obtain ⟨u, e, h4⟩ := rds_one h2
    subst e
    exact ⟨w, u, rfl, h1, h4⟩
section
variable {K : PySem.W.Frag} {ρ : Slots} {σ : L2.St} {st st2 : Store} {ι ι2 P p : List Addr} {H H2 : Hp} {w : W} {ws : List W} {vs : List V} {xs : List D} {Q : L2.VK}
theorem RVs.one {q : List Addr} {w : W} (h : RVs K st ι P H q [w] vs) : ∃ v r, vs = [v] ∧ RV K st ι P H r w v := by
  obtain ⟨p1, p2, v, r, _, e2, h1, h2⟩ := h
  subst e2
  rw [h2.2]
  exact ⟨v, p1, rfl, h1⟩
theorem RVs.two {q : List Addr} {w u : W} (h : RVs K st ι P H q [w, u] vs) : ∃ v1 v2 r1 r2, vs = [v1, v2] ∧ RV K st ι P H r1 w v1 ∧ RV K st ι P H r2 u v2 := by
  obtain ⟨p1, p2, v, r, _, e2, h1, h2⟩ := h
  subst e2
  obtain ⟨v2, r2, e, h3⟩ := h2.one
  subst e
  exact ⟨v, v2, p1, r2, rfl, h1, h3⟩
theorem bi_ok {b : Bi} {q : List Addr} (A : Aft K ρ σ st ι P H st2 ι2 p H2) (h : RVs K st2 ι2 (p ++ P) H2 q ws vs) (e1 : rds st2 ws = some xs)
    (e : biF b xs = some w) (hQ : Post K ρ σ st ι P H w st2 Q) : rBi K b vs H2 Q := by
  have R := A.rel
  match b, xs, e with
  | .len, [.list ys], e =>
    obtain ⟨u, rfl, f1⟩ := rds_one e1
    obtain ⟨v, r, rfl, g1⟩ := h.one
    obtain ⟨a, us, rfl, ha, ra⟩ := R.rdL g1 f1
    simp [biF] at e
    subst e
    refine ⟨_, ys.length, rfl, .inl ⟨us, .of ha, ra.length⟩, fin_int hQ A⟩
  | .len, [.tuple ys], e =>
    obtain ⟨u, rfl, f1⟩ := rds_one e1
    obtain ⟨v, r, rfl, g1⟩ := h.one
    obtain ⟨_, a, us, rfl, ha, ra⟩ := rd_tup g1 f1
    simp [biF] at e
    subst e
    refine ⟨_, ys.length, rfl, .inr ⟨us, .of ha, ra.length⟩, fin_int hQ A⟩
  | .len, [.str ys], e =>
    obtain ⟨u, rfl, f1⟩ := rds_one e1
    obtain ⟨v, r, rfl, g1⟩ := h.one
    have ev := rd_str g1 f1
    subst ev
    simp [biF] at e
    obtain ⟨hl, e⟩ := e
    subst e
    refine ⟨_, ys.length, rfl, ⟨hl, rfl⟩, fin_int hQ A⟩
  | .all, [.list ys], e =>
    obtain ⟨u, rfl, f1⟩ := rds_one e1
    obtain ⟨v, r, rfl, g1⟩ := h.one
    obtain ⟨a, us, rfl, ha, ra⟩ := R.rdL g1 f1
    simp only [biF, Option.map_eq_some_iff] at e
    obtain ⟨bs, hb, e⟩ := e
    subst e
    have hy := boolsD_eq hb
    subst hy
    have hu := RDs.ibls ra
    subst hu
    exact ⟨a, bs, rfl, .of ha, fin_bl hQ A⟩
  | .any, [.list ys], e =>
    obtain ⟨u, rfl, f1⟩ := rds_one e1
    obtain ⟨v, r, rfl, g1⟩ := h.one
    obtain ⟨a, us, rfl, ha, ra⟩ := R.rdL g1 f1
    simp only [biF, Option.map_eq_some_iff] at e
    obtain ⟨bs, hb, e⟩ := e
    subst e
    have hy := boolsD_eq hb
    subst hy
    have hu := RDs.ibls ra
    subst hu
    exact ⟨a, bs, rfl, .of ha, fin_bl hQ A⟩
  | .tuple, [.list ys], e =>
    obtain ⟨u, rfl, f1⟩ := rds_one e1
    obtain ⟨v, r, rfl, g1⟩ := h.one
    obtain ⟨a, us, rfl, ha, ra⟩ := R.rdL g1 f1
    simp [biF] at e
    subst e
    exact ⟨a, us, rfl, .inl ⟨.of ha, fun l hl => fin_tup hQ A (A.rds ra) l hl⟩⟩
  | .tuple, [.tuple ys], e =>
    obtain ⟨u, rfl, f1⟩ := rds_one e1
    obtain ⟨v, r, rfl, g1⟩ := h.one
    obtain ⟨ew, a, us, rfl, ha, ra⟩ := rd_tup g1 f1
    simp [biF] at e
    subst e
    exact ⟨a, us, rfl, .inr ⟨.of ha, fin_d hQ A (A.same g1 ew)⟩⟩
  | .list, [.list ys], e =>
    obtain ⟨u, rfl, f1⟩ := rds_one e1
    obtain ⟨v, r, rfl, g1⟩ := h.one
    obtain ⟨a, us, rfl, ha, ra⟩ := R.rdL g1 f1
    simp [biF] at e
    subst e
    exact ⟨a, us, rfl, .inl (.of ha), fun l hl => fin_lst hQ A (A.rds ra) l hl⟩
  | .list, [.tuple ys], e =>
    obtain ⟨u, rfl, f1⟩ := rds_one e1
    obtain ⟨v, r, rfl, g1⟩ := h.one
    obtain ⟨ew, a, us, rfl, ha, ra⟩ := rd_tup g1 f1
    simp [biF] at e
    subst e
    exact ⟨a, us, rfl, .inr (.of ha), fun l hl => fin_lst hQ A (A.rds ra) l hl⟩
  | .max, [.list ys], e =>
    obtain ⟨u, rfl, f1⟩ := rds_one e1
    obtain ⟨v, r, rfl, g1⟩ := h.one
    obtain ⟨a, us, rfl, ha, ra⟩ := R.rdL g1 f1
    simp only [biF, Option.bind_eq_some_iff] at e
    obtain ⟨ns, hb, e⟩ := e
    have hy := intsD_eq hb
    subst hy
    have hu := RDs.inits ra
    subst hu
    cases ns with
    | nil => cases e
    | cons n ns =>
      cases e
      refine .inl ⟨a, n :: ns, rfl, .of ha, by simp, fun m hm hle => ?_⟩
      have e1 := hle _ (maxI_mem n ns)
      have e2 := maxI_le n ns m hm
      have : m = maxI n ns := by omega
      subst this
      exact fin_int hQ A
  | .min, [.list ys], e =>
    obtain ⟨u, rfl, f1⟩ := rds_one e1
    obtain ⟨v, r, rfl, g1⟩ := h.one
    obtain ⟨a, us, rfl, ha, ra⟩ := R.rdL g1 f1
    simp only [biF, Option.bind_eq_some_iff] at e
    obtain ⟨ns, hb, e⟩ := e
    have hy := intsD_eq hb
    subst hy
    have hu := RDs.inits ra
    subst hu
    cases ns with
    | nil => cases e
    | cons n ns =>
      cases e
      refine .inl ⟨a, n :: ns, rfl, .of ha, by simp, fun m hm hle => ?_⟩
      have e1 := hle _ (minI_mem n ns)
      have e2 := minI_le n ns m hm
      have : m = minI n ns := by omega
      subst this
      exact fin_int hQ A
  | .max, [.int i, .int j], e =>
    obtain ⟨u, z, rfl, f1, f2⟩ := rds_two e1
    obtain ⟨v, v2, r1, r2, rfl, g1, g2⟩ := h.two
    simp [biF] at e
    subst e
    have z1 := rd_int g1 f1
    have z2 := rd_int g2 f2
    subst z1 z2
    exact .inr ⟨i, j, rfl, fin_int hQ A⟩
  | .min, [.int i, .int j], e =>
    obtain ⟨u, z, rfl, f1, f2⟩ := rds_two e1
    obtain ⟨v, v2, r1, r2, rfl, g1, g2⟩ := h.two
    simp [biF] at e
    subst e
    have z1 := rd_int g1 f1
    have z2 := rd_int g2 f2
    subst z1 z2
    exact .inr ⟨i, j, rfl, fin_int hQ A⟩
  | .sum, [.list ys], e =>
    obtain ⟨u, rfl, f1⟩ := rds_one e1
    obtain ⟨v, r, rfl, g1⟩ := h.one
    obtain ⟨a, us, rfl, ha, ra⟩ := R.rdL g1 f1
    simp only [biF, Option.map_eq_some_iff] at e
    obtain ⟨ns, hb, e⟩ := e
    subst e
    have hy := intsD_eq hb
    subst hy
    have hu := RDs.inits ra
    subst hu
    exact ⟨a, ns, rfl, .of ha, fin_int hQ A⟩
  | .abs, [.int i], e =>
    obtain ⟨u, rfl, f1⟩ := rds_one e1
    obtain ⟨v, r, rfl, g1⟩ := h.one
    have z1 := rd_int g1 f1
    subst z1
    simp [biF] at e
    subst e
    exact ⟨i, rfl, fin_int hQ A⟩
  | .int, [.int i], e =>
    obtain ⟨u, rfl, f1⟩ := rds_one e1
    obtain ⟨v, r, rfl, g1⟩ := h.one
    have z1 := rd_int g1 f1
    subst z1
    simp [biF] at e
    subst e
    exact .inl ⟨i, rfl, fin_int hQ A⟩
  | .divmod, [.int i, .int j], e =>
    obtain ⟨u, z, rfl, f1, f2⟩ := rds_two e1
    obtain ⟨v, v2, r1, r2, rfl, g1, g2⟩ := h.two
    simp [biF] at e
    obtain ⟨hl, e⟩ := e
    subst e
    have z1 := rd_int g1 f1
    have z2 := rd_int g2 f2
    subst z1 z2
    exact ⟨i, j, rfl, hl, fun a ha => fin_tup hQ A (RDs.cons (by rw [RD]) (RDs.cons (by rw [RD]) RDs.nil)) a ha⟩
  | .repr, [x], e =>
    obtain ⟨u, rfl, f1⟩ := rds_one e1
    obtain ⟨v, r, rfl, g1⟩ := h.one
    simp [biF] at e
    obtain ⟨hl, e⟩ := e
    subst e
    refine ⟨v, rfl, ?_⟩
    by_cases h0 : isD0 x = true
    · have hx : x = .dict [] := by
        cases x with
        | dict kvs => cases kvs with
          | nil => rfl
          | cons _ _ => simp [isD0] at h0
        | _ => simp [isD0] at h0
      subst hx
      right
      cases u with
      | d y =>
        simp [rd] at f1
        subst f1
        have h := g1.2
        rw [RD] at h
        obtain ⟨_, a, e, h, _⟩ := h
        exact ⟨a, e, h, fin_str hQ A⟩
      | f xs => simp [rd] at f1
      | c n => simp only [rd, Option.map_eq_some_iff] at f1; obtain ⟨_, _, e⟩ := f1; cases e
      | s ns => simp [rd] at f1
      | l ns => simp [rd] at f1
    · simp only [reprOk, Bool.or_eq_true, Bool.and_eq_true, Bool.not_eq_true', decide_eq_true_eq] at hl
      rcases hl with hl | ⟨⟨⟨k1, k2⟩, k3⟩, k4⟩
      · exact absurd hl h0
      exact .inl ⟨x, R.rd g1 f1 k3, k1, k2, k3, k4, fin_str hQ A⟩
end
end Z
/-! ZChk: that a text of the small language stands for a Python expression, a statement. -/
set_option linter.all false
set_option autoImplicit false
namespace Z
open PySem

structure Tab where
  nm : List (Nat × Str)
  gl : List Str
  kwt : List (Nat × Nat × List Str × List Nat)
  bf : List (Str × String)
def plainX : Expr → Bool
  | .Starred .. => false
  | .Slice .. => false
  | .Set .. => false
  | _ => true
def plainXs : List Expr → Bool
  | [] => true
  | x :: r => plainX x && plainXs r
def visB (sc : Scope) (x : Str) : Bool := match sc.names.lookup x with
  | some .local => true
  | some .cell => true
  | some .free => true
  | _ => false
def locB (sc : Scope) (x : Str) : Bool := match sc.names.lookup x with
  | some .local => true
  | some .cell => true
  | _ => false
def onlyL (sc : Scope) (x : Str) : Bool := match sc.names.lookup x with
  | some .local => true
  | _ => false
/-- a name of the block alone: a local, or a cell that an inner block reads -/
def ownL (scope sc : Scope) (x : Str) : Bool := onlyL (L2.relS scope sc) x || ((scope.names.lookup x == some .cell) && locB (L2.relS scope sc) x)
def glB (sc : Scope) (x : Str) : Bool := match sc.names.lookup x with
  | some .globalImplicit => true
  | _ => false
def okN (x : Str) : Bool := !(x == ("__debug__" : Str)) && !(x == ("__classdict__" : Str)) && !(x == ("__name__" : Str))
def slotB (N : List Str) (i : Nat) (x : Str) : Bool := match N[i]? with
  | some y => decide (y = x)
  | none => false
def nameB (x : Str) (y : Str) : Bool := decide (x = y)
def meN : Me → Str
  | .append => "append"
  | .extend => "extend"
  | .pop => "pop"
def chkTy (sc : Scope) : Ty → Expr → Bool
  | T, .Name n _ => nameB n (Str.ofString (tyN T)) && glB sc n && okN n
  | _, _ => false
def chkTys (sc : Scope) : List Ty → List Expr → Bool
  | [], [] => true
  | T :: ts, e :: es => chkTy sc T e && chkTys sc ts es
  | _, _ => false
def nmB (T : Tab) (f : Nat) (x : Str) : Bool := match T.nm.lookup f with
  | some y => decide (y = x)
  | none => false
/-- the targets of a for, of a comprehension: plain names; own: names of the block alone -/
def chkNms (N : List Str) (ok : Str → Bool) : List Nat → List Expr → Bool
  | [], [] => true
  | i :: r, .Name n _ :: es => slotB N i n && ok n && chkNms N ok r es
  | _, _ => false
def chkTg (N : List Str) (ok : Str → Bool) (tg : List Nat) (fl : Bool) (t : Expr) : Bool :=
  if fl then chkNms N ok tg [t] else match t with
    | .Tuple es _ _ => chkNms N ok tg es
    | _ => false
def isSub : Expr → Bool
  | .Subscript .. => true
  | _ => false
theorem isSub_ok {x : Expr} (h : isSub x = true) : ∃ a b p, x = .Subscript a b p := by
  cases x <;> first | exact ⟨_, _, _, rfl⟩ | (simp [isSub] at h)
def noKw : List Keyword → Bool
  | [] => true
  | _ => false
def kwNames : List Keyword → List Str
  | [] => []
  | ⟨some n, _, _⟩ :: r => n :: kwNames r
  | ⟨none, _, _⟩ :: r => kwNames r
def kwAll : List Keyword → Bool
  | [] => true
  | ⟨some _, _, _⟩ :: r => kwAll r
  | ⟨none, _, _⟩ :: _ => false
def kwVals : List Keyword → List Expr
  | [] => []
  | ⟨_, v, _⟩ :: r => v :: kwVals r
def isRange : Expr → Option (Str × List Expr)
  | .Call (.Name n _) xs [] _ => some (n, xs)
  | _ => none

section
variable (T : Tab) (N : List Str)
mutual
def chkE : E → Scope → Expr → Bool
  | .var i, sc, x => plainX x && match x with
    | .Name n _ => slotB N i n && visB sc n && okN n
    | _ => false
  | .non, _, x => match x with
    | .Constant .none _ _ => true
    | _ => false
  | .bl b, _, x => match x with
    | .Constant (.bool c) _ _ => b == c
    | _ => false
  | .int i, _, x => match x with
    | .Constant (.int j) _ _ => i == j
    | _ => false
  | .str s, _, x => match x with
    | .Constant (.str r) _ _ => nameB s r
    | _ => false
  | .glo g, sc, x => match x with
    | .Name n _ => nameB n g && decide (g ∈ T.gl) && glB sc n && okN n
    | _ => false
  | .neg a, sc, x => match x with
    | .UnaryOp .USub y _ => chkE a sc y
    | _ => false
  | .bin o a b, sc, x => match x with
    | .BinOp y op z _ => decide (op = opOf o) && chkE a sc y && chkE b sc z
    | _ => false
  | .cmp o a b, sc, x => match x with
    | .Compare y [op] [z] _ => decide (op = cpOf o) && chkE a sc y && chkE b sc z
    | _ => false
  | .chain o p a b c, sc, x => match x with
    | .Compare y [op, op'] [z, u] _ => decide (op = cpOf o) && decide (op' = cpOf p) && chkE a sc y && chkE b sc z && chkE c sc u
    | _ => false
  | .and es, sc, x => match x with
    | .BoolOp .And ys _ => chkL es sc ys && !ys.isEmpty
    | _ => false
  | .or es, sc, x => match x with
    | .BoolOp .Or ys _ => chkL es sc ys && !ys.isEmpty
    | _ => false
  | .not a, sc, x => match x with
    | .UnaryOp .Not y _ => chkE a sc y
    | _ => false
  | .ife c a b, sc, x => match x with
    | .IfExp t y z _ => chkE c sc t && chkE a sc y && chkE b sc z
    | _ => false
  | .tup es, sc, x => match x with
    | .Tuple ys _ _ => chkL es sc ys
    | _ => false
  | .lst es, sc, x => match x with
    | .List ys _ => chkL es sc ys
    | _ => false
  | .dct0, _, x => match x with
    | .Dict [] [] _ => true
    | _ => false
  | .call f es, sc, x => match x with
    | .Call (.Name n _) (y :: ys) [] _ => nmB T f n && glB sc n && okN n && chkL es sc (y :: ys)
    | _ => false
  | .callk f np ks perm es, sc, x => match x with
    | .Call (.Name n _) ys (k :: kws) _ => nmB T f n && glB sc n && okN n && decide (ys.length = np) && decide (kwNames (k :: kws) = ks) && kwAll (k :: kws) &&
        decide ((f, np, ks, perm) ∈ T.kwt) && chkL es sc (ys ++ kwVals (k :: kws))
    | _ => false
  | .bi b es, sc, x => match x with
    | .Call (.Name n _) (y :: ys) [] _ => nameB n (biN b) && glB sc n && okN n && chkL es sc (y :: ys)
    | _ => false
  | .isi ts tp a, sc, x => match x with
    | .Call (.Name n _) [y, t] [] _ => nameB n "isinstance" && glB sc n && okN n && chkE a sc y &&
        (if tp then (match t with | .Tuple es _ _ => decide (ts.length ≤ 9) && chkTys sc ts es | _ => false) else chkTys sc ts [t])
    | _ => false
  | .lrg1 a, sc, x => match x with
    | .Call (.Name n _) [.Call (.Name m _) [y] [] _] [] _ => nameB n "list" && nameB m "range" && glB sc n && glB sc m && chkE a sc y
    | _ => false
  | .lrg2 a b, sc, x => match x with
    | .Call (.Name n _) [.Call (.Name m _) [y, z] [] _] [] _ => nameB n "list" && nameB m "range" && glB sc n && glB sc m && chkE a sc y && chkE b sc z
    | _ => false
  | .trg1 a, sc, x => match x with
    | .Call (.Name n _) [.Call (.Name m _) [y] [] _] [] _ => nameB n "tuple" && nameB m "range" && glB sc n && glB sc m && chkE a sc y
    | _ => false
  | .idx a b, sc, x => match x with
    | .Subscript y z _ => plainX z && chkE a sc y && chkE b sc z
    | _ => false
  | .len a, sc, x => match x with
    | .Call (.Name n _) [y] [] _ => nameB n "len" && glB sc n && okN n && chkE a sc y
    | _ => false
  | .sl a lo hi, sc, x => match x with
    | .Subscript y (.Slice l h none _) _ => chkE a sc y && chkO lo sc l && chkO hi sc h
    | _ => false
  | .lc own elt tg fl it cs, sc, x => match x with
    | .ListComp y [⟨t, i, ifs, 0⟩] scope _ => L2.blkC N sc scope (own.map fun i => (N.getD i "", i)) && plainX i && chkI it sc i t &&
        chkTg N (ownL scope sc) tg fl t && tg.all (fun i => own.contains i) && decide (ifs.length ≤ 1) &&
        chkL cs (L2.relS scope sc) ifs && chkE elt (L2.relS scope sc) y
    | _ => false
  | .me m i es, sc, x => match x with
    | .Call (.Attribute (.Name n _) a apos) ys [] cpos => slotB N i n && visB sc n && okN n && nameB a (meN m) && (apos.endLine == cpos.line) && chkL es sc ys && decide (ys.length ≤ 1)
    | _ => false
  | .gcd a b, sc, x => match x with
    | .Call (.Name n _) [y, z] [] _ => nameB n "gcd" && decide ((("gcd" : Str), "math.gcd") ∈ T.bf) && glB sc n && plainX y && plainX z && chkE a sc y && chkE b sc z
    | _ => false
  | .tzs a, sc, x => match x with
    | .Call (.Name n _) [.Call (.Name m _) [.Starred y _] [] _] [] _ => nameB n "tuple" && nameB m "zip" && glB sc n && glB sc m && chkE a sc y
    | _ => false
  | .lens a, sc, x => match x with
    | .Call (.Name n _) [.Call (.Name m _) [y] [] _] [] _ => nameB n "len" && nameB m "set" && glB sc n && glB sc m && plainX y && chkE a sc y
    | _ => false
  | .rpl es, sc, x => match x with
    | .Call (.Name n _) [.List ys _] [] _ => nameB n "repr" && glB sc n && okN n && chkL es sc ys
    | _ => false
  | .rpx a, sc, x => match x with
    | .Call (.Name n _) [y] [] _ => nameB n "repr" && glB sc n && okN n && plainX y && chkE a sc y
    | _ => false
  | .lcs es, sc, x => match x with
    | .List ys _ => chkL es sc ys
    | _ => false
  | .idl a b, sc, x => match x with
    | .Subscript y z _ => plainX z && chkE a sc y && chkE b sc z
    | _ => false
  | .lcat a b, sc, x => match x with
    | .BinOp y .Add z _ => chkE a sc y && chkE b sc z
    | _ => false
  | .mex m a es, sc, x => match x with
    | .Call (.Attribute y nm apos) ys [] cpos => nameB nm (meN m) && plainX y && (apos.endLine == cpos.line) && chkE a sc y && chkL es sc ys && decide (ys.length ≤ 1) && isSub y
    | _ => false
  | .lcc own elt tg fl it, sc, x => match x with
    | .ListComp y [⟨t, i, [], 0⟩] scope _ => L2.blkC N sc scope (own.map fun i => (N.getD i "", i)) && plainX i && chkI it sc i t &&
        chkTg N (ownL scope sc) tg fl t && tg.all (fun i => own.contains i) && chkE elt (L2.relS scope sc) y
    | _ => false
def chkL : Es → Scope → List Expr → Bool
  | .nil, _, xs => match xs with
    | [] => true
    | _ => false
  | .cons e r, sc, xs => match xs with
    | x :: xs => plainX x && chkE e sc x && chkL r sc xs
    | [] => false
def chkO : Es → Scope → Option Expr → Bool
  | .nil, _, o => match o with
    | none => true
    | _ => false
  | .cons e r, sc, o => match r, o with
    | .nil, some x => chkE e sc x
    | _, _ => false
def chkI : It → Scope → Expr → Expr → Bool
  | .val e, sc, x, _ => chkE e sc x
  | .rng es, sc, x, _ => match x with
    | .Call (.Name n _) ys [] _ => nameB n "range" && glB sc n && chkL es sc ys && (decide (ys.length = 1) || decide (ys.length = 2))
    | _ => false
  | .zip a b, sc, x, t => match x, t with
    | .Call (.Name n _) [y, z] [] _, .Tuple .. => nameB n "zip" && glB sc n && plainX y && plainX z && chkE a sc y && chkE b sc z
    | _, _ => false
  | .enum e, sc, x, t => match x, t with
    | .Call (.Name n _) [y] [] _, .Tuple .. => nameB n "enumerate" && glB sc n && plainX y && chkE e sc y
    | _, _ => false
end
end

/-! ### statements -/
section
variable (T : Tab) (N : List Str)
def chkT (sc : Scope) : Tg → Expr → Bool
  | .nm i _, x => match x with
    | .Name n _ => slotB N i n && locB sc n
    | _ => false
  | .ix o i, x => match x with
    | .Subscript y z _ => plainX z && chkE T N o sc y && chkE T N i sc z
    | _ => false
def chkTs (sc : Scope) : List Tg → List Expr → Bool
  | [], [] => true
  | t :: ts, x :: xs => chkT T N sc t x && chkTs sc ts xs
  | _, _ => false
def isLc : Expr → Bool
  | .ListComp .. => true
  | .SetComp .. => true
  | .DictComp .. => true
  | _ => false
def isTup : Expr → Bool
  | .Tuple .. => true
  | .List .. => true
  | _ => false
def fnB (sc : Scope) : Bool := match sc.kind with
  | .function => true
  | _ => false
def nmsOf : List Expr → List Str
  | .Name n _ :: r => n :: nmsOf r
  | _ :: r => nmsOf r
  | [] => []
def nmIf (sc : Scope) (line : Nat) : Expr → Option Str
  | .Name x p => if sc.names.lookup x == some .local && p.line == line then some x else none
  | _ => none
/-- which names a pair of tuples stores from the right -/
def swP (sc : Scope) (ts vs : List Expr) : Option (Option (List Str)) :=
  if !(ts.length == 2 || ts.length == 3) || vs.length != ts.length then some none
  else if !plainXs vs then none
  else
    let line := (ts.head?.map (·.pos.line)).getD 0
    let names := ts.filterMap (nmIf sc line)
    if names.length != ts.length || names.eraseDups.length != names.length then some none
    else if vs.all (foldedForSure 8) then some none
    else if vs.all (constantsAlone 8) then none
    else some (some names)
/-- a comprehension given to a name on one line, the name a local that it does not store -/
def sameLn (sc : Scope) (n : Str) (pn : Pos) (x : Expr) : Bool := match x with
  | .ListComp _ _ scope pos => fnB sc && onlyL sc n && (pn.line == pos.line) && !(scope.names.any fun p => p.1 == n && (p.2 == .local || p.2 == .cell))
  | _ => false
/-- a name that an inner block reads -/
def cellB (sc : Scope) (n : Str) : Bool := sc.names.lookup n == some .cell
def isLcE : E → Bool
  | .lc .. => true
  | _ => false
mutual
def chkS : S → Scope → Stmt → Bool
  | .exp e, sc, s => match s with
    | .Expr x _ => !isLc x && chkE T N e sc x
    | _ => false
  | .ret e, sc, s => match s with
    | .Return (some x) _ => chkE T N e sc x
    | _ => false
  | .retN, _, s => match s with
    | .Return none _ => true
    | _ => false
  | .asg t e, sc, s => match s with
    | .Assign [x] y _ => (match t, x with
      | .nm i _, .Name n pn => slotB N i n && locB sc n && (!isLc y || (sameLn sc n pn y && isLcE e) || cellB sc n)
      | .ix o i, .Subscript u z _ => plainX z && chkE T N o sc u && chkE T N i sc z && !isLc y
      | _, _ => false) && chkE T N e sc y
    | _ => false
  | .asgT ts e, sc, s => match s with
    | .Assign [.Tuple xs _ _] y _ => chkTs T N sc ts xs && !isLc y && !isTup y && chkE T N e sc y
    | _ => false
  | .par ts es, sc, s => match s with
    | .Assign [.Tuple xs _ _] (.Tuple ys _ _) _ => fnB sc && chkNms N (locB sc) (ts.map (·.1)) xs && decide (ts.map (·.1)).Nodup && chkL T N es sc ys && decide (ys.length = ts.length ∧ ts.length ≤ 99) && (match swP sc xs ys with
      | some none => true
      | some (some names) => decide (names = nmsOf xs) && names.all (onlyL sc)
      | none => false)
    | _ => false
  | .aug i o e, sc, s => match s with
    | .AugAssign (.Name n _) op x _ => slotB N i n && locB sc n && decide (op = opOf o) && chkE T N e sc x
    | _ => false
  | .ifs c a b, sc, s => match s with
    | .If x y z _ => chkE T N c sc x && chkSs a sc y && chkSs b sc z
    | _ => false
  | .whl c body, sc, s => match s with
    | .While x y [] _ => chkE T N c sc x && chkSs body sc y
    | _ => false
  | .fors tg fl it body, sc, s => match s with
    | .For t i y [] _ => plainX i && chkI T N it sc i t && chkTg N (locB sc) tg fl t && chkSs body sc y
    | _ => false
  | .forl i e body, sc, s => match s with
    | .For (.Name n _) x y [] _ => slotB N i n && locB sc n && plainX x && chkE T N e sc x && chkSs body sc y
    | _ => false
  | .brk, _, s => match s with
    | .Break _ => true
    | _ => false
  | .cnt, _, s => match s with
    | .Continue _ => true
    | _ => false
  | .pas, _, s => match s with
    | .Pass _ => true
    | .Expr (.Constant (.str _) _ _) _ => true
    | _ => false
  | .never, _, _ => true
def chkSs : Ss → Scope → List Stmt → Bool
  | .nil, _, xs => match xs with
    | [] => true
    | _ => false
  | .cons s r, sc, xs => match xs with
    | x :: xs => chkS s sc x && chkSs r sc xs
    | [] => false
end
end
end Z
/-! ZCall: the call of a def whose promise is what the evaluator gives. -/
set_option linter.all false
set_option autoImplicit false
set_option maxHeartbeats 2000000
namespace Z
open PySem
open L2 (V Hp HO upd upd_same upd_ne ne_of_none)

/-- behind a call: p, the lists handed over open; q, the one it leaves open -/
structure CAft (K : PySem.W.Frag) (st : Store) (ι P p : List Addr) (H : Hp) (st' : Store) (ι' q : List Addr) (H' : Hp) : Prop where
  rel : Rel K [] st' ι' (q ++ P) [] H'
  keep : ∀ a, H a ≠ none → a ∉ p → ¬ Mc st ι a → H' a = H a
  safe : ∀ a, H a ≠ none → a ∉ p → ¬ Mc st ι a → ¬ Mc st' ι' a
  le : st.length ≤ st'.length
  pre : ∀ (n : Nat) (a : Addr), ι[n]? = some a → ι'[n]? = some a
  all : ∀ a, H a ≠ none → H' a ≠ none
  new : ∀ a ∈ q, H a = none ∨ a ∈ p
abbrev SpG := List V → Hp → L2.VK → Prop
def spG (K : PySem.W.Frag) (g : List W → Store → Option (W × Store)) : SpG := fun vs H Q => ∃ ws st ι P p r st',
  Rel K [] st ι (p ++ P) [] H ∧ RVs K st ι (p ++ P) H p ws vs ∧ g ws st = some (r, st') ∧
    ∀ v H' ι' q, CAft K st ι P p H st' ι' q H' → RV K st' ι' (q ++ P) H' q r v → Q v H'

/-- a def at f keeps sp; nothing that it calls raises, no repr runs around it -/
structure FnG (prg : Program) (w : World) (K : PySem.W.Frag) (mg : Str → Option Value) (base : Heap) (k : Nat) (f : Addr) (fd : FuncData) (ps : List Str) (sp : SpG) : Prop where
  len : ∀ vs H Q, sp vs H Q → vs.length = ps.length
  run : ∀ (A : Around) (outer : List Env) (s : Shared) (H : Hp) (args : Args) (us : List Value) (vs : List V) (Q : L2.VK), A.guards = some [] → L2.Room k A → L2.Env0 prg w K mg base A outer s H →
    BindsTo s fd args (ps.zip us) → L2.Vals vs us → sp vs H Q → codeAny (model prg w) A (.call (.ref f) args) (L2.CR L2.CX0 outer prg w H s Q L2.E0) s

/-- the arguments in the parameters' order -/
def permG {α : Type} (perm : List Nat) (us ws : List α) : List α := perm.filterMap fun i => (us ++ ws)[i]?
theorem permG_rel {perm : List Nat} {vs zs : List V} {us ws : List Value} (h1 : L2.Vals vs us) (h2 : L2.Vals zs ws) : L2.Vals (permG perm vs zs) (permG perm us ws) := by
  have h := h1.append h2
  unfold permG
  induction perm with
  | nil => exact .nil
  | cons i r ih =>
    rw [List.filterMap_cons, List.filterMap_cons]
    cases e : (vs ++ zs)[i]? with
    | none => rw [h.none_of e]; exact ih
    | some v =>
      obtain ⟨u, e2, rv⟩ := h.get e
      rw [e2]
      exact .cons rv ih
/-- how a call with keywords binds -/
def KwB (K : PySem.W.Frag) (fd : FuncData) (ps : List Str) (np : Nat) (ks : List Str) (perm : List Nat) : Prop :=
  ∀ (s : Shared) (us ws : List Value), K.In s.heap → us.length = np → ws.length = ks.length → BindsTo s fd ⟨us, ks.zip ws⟩ (ps.zip (permG perm us ws))

section
variable {X : L2.Cx} {k : Nat} {f : Addr} {fd : FuncData} {ps ks : List Str} {sp : SpG} {x : Str} {p pos : Pos} {e : Expr} {es : List Expr} {kws : List Keyword} {t tk : L2.TA} {perm : List Nat} {np : Nat}
theorem ends_ret {pins : List (Addr × Obj)} {σ : L2.St} {H : Hp} {s : Shared} {Q : L2.VK} (I : L2.Inv X pins σ H s) {r : Result} {s' : Shared}
    (hq : L2.CR L2.CX0 X.stack X.prog X.w H s Q L2.E0 r s') : callEnd (L2.EP X pins σ Q) X.xe r s' := by
  cases r with
  | error err => exact hq.elim
  | ok fl =>
    cases fl with
    | ret u => exact I.after hq
    | next => exact hq.elim
    | brk => exact hq.elim
    | cont => exact hq.elim
/-- the def runs -/
theorem run_G {pins : List (Addr × Obj)} {σ : L2.St} {H : Hp} {s : Shared} {Q : L2.VK} {us : List Value} {vs : List V} (hg : X.A.guards = some []) (F : FnG X.prog X.w X.K X.mg X.base k f fd ps sp) (hr : L2.Room k X.A) (hb : L2.Binds X.K fd ps [])
    (I : L2.Inv X pins σ H s) (r : L2.Vals vs us) (h : sp vs H Q) : wpAny (model X.prog X.w) X.A (call (.ref f) us) (L2.EP X pins σ Q) X.xe s := by
  have hl : us.length = ps.length := r.length.symm.trans (F.len vs H Q h)
  have b := hb s us I.kIn (by rw [List.append_nil]; exact hl)
  rw [List.append_nil] at b
  exact wpAny_call (codeAny_mono (F.run X.A X.stack s H ⟨us, []⟩ us vs Q hg hr I.env0 b r h) fun r s' hq => ends_ret I hq)
theorem run_GK {pins : List (Addr × Obj)} {σ : L2.St} {H : Hp} {s : Shared} {Q : L2.VK} {us ws : List Value} {vs zs : List V} (hg : X.A.guards = some []) (F : FnG X.prog X.w X.K X.mg X.base k f fd ps sp) (hr : L2.Room k X.A)
    (hb : KwB X.K fd ps np ks perm) (I : L2.Inv X pins σ H s) (r : L2.Vals vs us) (rz : L2.Vals zs ws) (hvs : vs.length = np) (hks : zs.length = ks.length) (h : sp (permG perm vs zs) H Q) :
    wpAny (model X.prog X.w) X.A (call (.ref f) us (ks.zip ws)) (L2.EP X pins σ Q) X.xe s := by
  have rr := permG_rel (perm := perm) r rz
  have b := hb s us ws I.kIn (r.length.symm.trans hvs) (rz.length.symm.trans hks)
  exact wpAny_call (codeAny_mono (F.run X.A X.stack s H ⟨us, ks.zip ws⟩ _ _ Q hg hr I.env0 b rr h) fun r s' hq => ends_ret I hq)
/-- f(e, ..) -/
theorem pe_callG (hgd : X.A.guards = some []) (F : FnG X.prog X.w X.K X.mg X.base k f fd ps sp) (hr : L2.Room k X.A) (hg : L2.Gl X x) (hm : X.mg x = some (.ref f)) (hk : PySem.W.keepIn X.K (.ref f) = true) (hb : L2.Binds X.K fd ps [])
    (ha : L2.PA X (e :: es) t) (hdb : (x == ("__debug__" : Str)) = false) (he : starEach (e :: es) X.env = (false, eval e X.env) :: starEach es X.env) (hpl : (backTo pos (starEach es X.env)).any (·.1) = false) :
    L2.PE X (.Call (.Name x p) (e :: es) [] pos) (fun σ H Q => t σ H fun vs H1 => sp vs H1 Q) := by
  constructor
  intro pins s σ H Q I h
  refine wpAny_Call_Name_kw ?_
  refine L2.ld_glob I hg hm ?_ hdb
  exact PySem.W.callWith_K (h₀ := X.base) I.ok.mod.kin hk (L2.thn (ha.run pos pins s σ H _ I h) fun us s1 ⟨vs, H1, J, r, q⟩ => ⟨J.kIn, run_G hgd F hr hb J r q⟩) he hpl
/-- f(e, .., k = v, ..) -/
theorem pe_callGK (hgd : X.A.guards = some []) (F : FnG X.prog X.w X.K X.mg X.base k f fd ps sp) (hr : L2.Room k X.A) (hg : L2.Gl X x) (hm : X.mg x = some (.ref f)) (hk : PySem.W.keepIn X.K (.ref f) = true) (hb : KwB X.K fd ps np ks perm)
    (ha : L2.PA X (e :: es) t) (hkw : L2.PK X kws tk) (hall : (backToKw pos (keywordEach kws X.env)).all (·.1.isSome) = true) (hks : (backToKw pos (keywordEach kws X.env)).filterMap (·.1) = ks)
    (hdb : (x == ("__debug__" : Str)) = false) (he : starEach (e :: es) X.env = (false, eval e X.env) :: starEach es X.env)
    (hpl : ((backTo pos (starEach (e :: es) X.env)).any (·.1) || (backToKw pos (keywordEach kws X.env)).any (·.1.isNone)) = false) :
    L2.PE X (.Call (.Name x p) (e :: es) kws pos) (fun σ H Q => t σ H fun vs H1 => tk σ H1 fun zs H2 => (vs.length = np ∧ zs.length = ks.length) ∧ sp (permG perm vs zs) H2 Q) := by
  constructor
  intro pins s σ H Q I h
  refine wpAny_Call_Name_kw ?_
  refine L2.ld_glob I hg hm ?_ hdb
  refine PySem.W.callWith_KW (h₀ := X.base) I.ok.mod.kin hk hall (L2.thn (ha.run pos pins s σ H _ I h) fun us s1 ⟨vs, H1, J, r, q⟩ => ?_) hpl he
  refine L2.thn (hkw.run pos pins s1 σ H1 _ J q) fun ws s2 ⟨zs, H2, J2, rz, hz, q2⟩ => ⟨J2.kIn, ?_⟩
  rw [hks]
  exact run_GK hgd F hr hb J2 r rz hz.1 hz.2 q2
/-- f(k = v, ..) -/
theorem pe_callG0K (hgd : X.A.guards = some []) (F : FnG X.prog X.w X.K X.mg X.base k f fd ps sp) (hr : L2.Room k X.A) (hg : L2.Gl X x) (hm : X.mg x = some (.ref f)) (hk : PySem.W.keepIn X.K (.ref f) = true) (hb : KwB X.K fd ps np ks perm)
    (hkw : L2.PK X kws tk) (hall : (backToKw pos (keywordEach kws X.env)).all (·.1.isSome) = true) (hks : (backToKw pos (keywordEach kws X.env)).filterMap (·.1) = ks)
    (hdb : (x == ("__debug__" : Str)) = false) (hpl : ((backTo pos (starEach [] X.env)).any (·.1) || (backToKw pos (keywordEach kws X.env)).any (·.1.isNone)) = false) :
    L2.PE X (.Call (.Name x p) [] kws pos) (fun σ H Q => tk σ H fun zs H2 => (0 = np ∧ zs.length = ks.length) ∧ sp (permG perm [] zs) H2 Q) := by
  constructor
  intro pins s σ H Q I h
  refine wpAny_Call_Name_kw ?_
  refine L2.ld_glob I hg hm ?_ hdb
  refine PySem.W.callWith_KW0 (h₀ := X.base) I.ok.mod.kin hk hall ?_ hpl
  refine L2.thn (hkw.run pos pins s σ H _ I h) fun ws s2 ⟨zs, H2, J2, rz, hz, q2⟩ => ⟨J2.kIn, ?_⟩
  rw [hks]
  exact run_GK hgd F hr hb J2 .nil rz hz.1 hz.2 q2
end

/-- THE RULE: a def by its body -/
theorem fn_G {prg : Program} {w : World} {K : PySem.W.Frag} {mg : Str → Option Value} {base : Heap} {k : Nat} {f : Addr} {name qual : Str} {params : Arguments} {body : List Stmt} {scope : Scope} {dV kV doc pm cdv ct oc : Value} {an od : Option Addr}
    {osl : Array (Option Value)} {N ps : List Str} {sp : SpG} (lk : K.lookup f = some ⟨oc, od, .func (PySem.W.fnOf name qual params body scope dV kV doc pm an cdv ct), osl⟩) (hcd : PySem.W.codeIn K cdv qual = true) (S : L2.FnScope N ps scope)
    (len : ∀ vs H Q, sp vs H Q → vs.length = ps.length)
    (hbody : ∀ (X : L2.Cx) (vs : List V) (H : Hp) (Q : L2.VK), X.prog = prg → X.w = w → X.K = K → X.mg = mg → X.base = base → X.N = N → X.env.scope = scope → X.calm = true → X.fn = (fun _ => true) → X.xe = (fun _ _ => False) → X.A.guards = some [] → L2.Room k X.A → sp vs H Q →
      ∃ t, L2.PSs X body t ∧ t { nx := fun _ H' => Q .non H', rt := Q } (L2.start N vs) H) :
    FnG prg w K mg base (k + 1) f (PySem.W.fnOf name qual params body scope dV kV doc pm an cdv ct) ps sp := by
  refine ⟨len, fun A outer s H args us vs Q hgd hr e0 hb r hsp => ?_⟩
  have hl := len vs H Q hsp
  have old : ∀ b o, base.get? b = some o → s.heap.get? b = some o := fun b o e => (e0.bs b o e).1
  have KX : K.In s.heap := e0.mod.kin.keeps old
  have lim : s.heap.NoLimit := e0.mod.nolimit.keeps old
  have hkind : ∀ y ∈ ps.zip us, scope.names.lookup y.1 = some .local ∨ (scope.names.lookup y.1 = some .cell ∧ ((cellsFrom (s.heap.objs.size + 1) scope.names []).lookup y.1).isSome = true) := by
    rintro ⟨n, v⟩ hy
    cases S.par n (List.of_mem_zip hy).1 with
    | inl q => exact .inl q
    | inr q => exact .inr ⟨q, PySem.W.cellsFrom_some _ _ _ (.inl q)⟩
  refine codeAny_call_function hr.depth (KX f _ lk) rfl S.co S.gen rfl (PySem.W.codeRec_of KX hcd) (hb _ _ _ _ ?_)
  refine wpAny_newFunctionEnv_cells S.kind hkind fun env henv s1 x => ?_
  subst henv
  refine ⟨lim.keeps x.toInCall.keep, codeAny_func ?_⟩
  let X0 : L2.Cx := L2.cxOf L2.CX0 prg w K mg base N qual scope f cdv A outer s H L2.E0
  obtain ⟨t, ht, hq⟩ := hbody X0.nox vs H Q rfl rfl rfl rfl rfl rfl rfl rfl rfl rfl hgd (hr.deeper _) hsp
  have I : L2.Inv X0 [] (L2.start N vs) H s1 := L2.inv_start S hr.hd e0 hl r x
  refine wpAny_mono (ht.nox.run [] s1 (L2.start N vs) H _ I hq) (fun fl s' hs => ?_) fun e s' hs => hs
  cases fl with
  | ret u =>
    obtain ⟨v, σ', H', J, rv, q⟩ := hs
    exact ⟨v, H', J.os, J.bare, J.base, J.hok, rv, q⟩
  | next =>
    obtain ⟨σ', H', J, q⟩ := hs
    exact ⟨.non, H', J.os, J.bare, J.base, J.hok, rfl, q⟩
  | brk =>
    obtain ⟨_, _, _, q⟩ := hs
    exact False.elim q
  | cont =>
    obtain ⟨_, _, _, q⟩ := hs
    exact False.elim q
end Z
/-! ZExp: what the evaluator gives of an expression is what Python gives. -/
set_option linter.all false
set_option autoImplicit false
set_option maxHeartbeats 4000000
set_option maxRecDepth 4000
namespace Z
open PySem
open L2 (V Hp HO upd upd_same upd_ne ne_of_none)

def bltAll : List Str := ["len", "all", "any", "tuple", "list", "max", "min", "sum", "abs", "int", "divmod", "repr", "isinstance", "range", "zip", "enumerate", "bool", "str", "dict", "set"]
/-- where the text stands: the defs, the constants, the built-ins -/
structure Good (T : Tab) (Γ : Calls) (C : Str → Option D) (X : L2.Cx) : Prop where
  calm : X.calm = true
  nd : X.N.Nodup
  gd : X.A.guards = some []
  xe : X.xe = fun _ _ => False
  un : X.A.units + 200 < cLine
  blt : ∀ x ∈ bltAll, X.mg x = none
  bfn : ∀ x i, (x, i) ∈ T.bf → X.mg x = some (.builtin i)
  cst : ∀ x d, x ∈ T.gl → C x = some d → ∃ u v, X.mg x = some u ∧ L2.RelV v u ∧ ∀ N H, RD N H d v
  cal : ∀ f n, T.nm.lookup f = some n → ∃ fa fd ps k, X.mg n = some (.ref fa) ∧ PySem.W.keepIn X.K (.ref fa) = true ∧ L2.Room k X.A ∧ L2.Binds X.K fd ps [] ∧
    (∀ np ks perm, (f, np, ks, perm) ∈ T.kwt → KwB X.K fd ps np ks perm) ∧ FnG X.prog X.w X.K X.mg X.base k fa fd ps (spG X.K (Γ f))

/-! ### the checks, read -/
theorem visB_ok {sc : Scope} {x : Str} (h : visB sc x = true) : L2.Vis sc x := by
  unfold visB at h
  split at h <;> first | exact .inl ‹_› | exact .inr (.inl ‹_›) | exact .inr (.inr ‹_›) | cases h
theorem locB_ok {sc : Scope} {x : Str} (h : locB sc x = true) : L2.Loc sc x := by
  unfold locB at h
  split at h <;> first | exact .inl ‹_› | exact .inr ‹_› | cases h
theorem onlyL_ok {sc : Scope} {x : Str} (h : onlyL sc x = true) : sc.names.lookup x = some .local := by
  unfold onlyL at h
  split at h <;> first | assumption | cases h
theorem glB_ok {X : L2.Cx} {x : Str} (h : glB X.env.scope x = true) : L2.Gl X x := by
  unfold glB at h
  split at h
  · assumption
  · cases h
theorem slotB_ok {N : List Str} {i : Nat} {x : Str} (h : slotB N i x = true) : N[i]? = some x := by
  unfold slotB at h
  split at h
  · rename_i y e
    rw [e, of_decide_eq_true h]
  · cases h
theorem nameB_ok {x y : Str} (h : nameB x y = true) : x = y := of_decide_eq_true h
theorem okN_ok {x : Str} (h : okN x = true) : (x == ("__debug__" : Str)) = false ∧ (x == ("__classdict__" : Str)) = false ∧ x ≠ ("__name__" : Str) := by
  simp only [okN, Bool.and_eq_true, Bool.not_eq_true'] at h
  exact ⟨h.1.1, h.1.2, fun e => by rw [e] at h; simp at h⟩
theorem nmB_ok {T : Tab} {f : Nat} {x : Str} (h : nmB T f x = true) : T.nm.lookup f = some x := by
  unfold nmB at h
  split at h
  · rename_i y e
    rw [e, of_decide_eq_true h]
  · cases h
theorem star_of {env : Env} {e : Expr} {es : List Expr} (h : plainX e = true) : starEach (e :: es) env = (false, eval e env) :: starEach es env := by
  cases e <;> first | rfl | (simp [plainX] at h)
theorem ix_of {e : Expr} (h : plainX e = true) : L2.PlainIx e := by
  cases e <;> first | (intro _ _; rfl) | (simp [plainX] at h)
theorem fold_of {e : Expr} (h : plainX e = true) {env : Env} : ∀ x, foldedSetIterable e env x = pure x := by
  intro x
  cases e <;> first | rfl | (simp [plainX] at h)
theorem isT_plain {e : Expr} {env : Env} (h1 : ∀ a p, e ≠ .UnaryOp .Not a p) (h2 : ∀ o v p, e ≠ .BoolOp o v p) (h3 : ∀ a b c p, e ≠ .IfExp a b c p) (h4 : ∀ a b c p, e ≠ .Compare a b c p) :
    ∀ whole, isTrue e env whole = (do let v ← whole; standAt e.pos; holding [v] (truthy v)) := by
  intro whole
  cases e with
  | UnaryOp op a p => cases op <;> first | rfl | exact absurd rfl (h1 a p)
  | BoolOp o v p => exact absurd rfl (h2 o v p)
  | IfExp a b c p => exact absurd rfl (h3 a b c p)
  | Compare a b c p => exact absurd rfl (h4 a b c p)
  | _ => rfl
theorem any_of {env : Env} {pos : Pos} : ∀ {es : List Expr}, plainXs es = true → (backTo pos (starEach es env)).any (·.1) = false
  | [], _ => rfl
  | e :: es, h => by
    rw [plainXs, Bool.and_eq_true] at h
    rw [star_of h.1]
    show (false || (backTo pos (starEach es env)).any (·.1)) = false
    rw [any_of h.2]; rfl
theorem plain_of {T : Tab} {N : List Str} {sc : Scope} : ∀ {es : Es} {xs : List Expr}, chkL T N es sc xs = true → plainXs xs = true
  | .nil, xs, h => by cases xs <;> simp [chkL] at h <;> rfl
  | .cons e r, xs, h => by
    cases xs with
    | nil => simp [chkL] at h
    | cons x xs =>
      simp only [chkL, Bool.and_eq_true] at h
      rw [plainXs, h.1.1, plain_of h.2]; rfl
theorem plainXs_append : ∀ {xs ys : List Expr}, plainXs (xs ++ ys) = true → plainXs xs = true ∧ plainXs ys = true
  | [], _, h => ⟨rfl, h⟩
  | x :: xs, ys, h => by
    rw [List.cons_append, plainXs, Bool.and_eq_true] at h
    exact ⟨by rw [plainXs, h.1, (plainXs_append h.2).1]; rfl, (plainXs_append h.2).2⟩

/-! ### a name's value -/
theorem RW.rv {K : PySem.W.Frag} {st : Store} {ι P : List Addr} {H : Hp} {w : W} {v : V} (h : RW K st ι P H w v) : RV K st ι P H [] w v := by
  cases w with
  | d x => exact ⟨rfl, h⟩
  | c n => exact ⟨rfl, h⟩
  | f xs => exact h.elim
  | s ns => exact ⟨rfl, h⟩
  | l ns => exact ⟨rfl, h⟩

/-! ### calls -/
section
variable {K : PySem.W.Frag} {ρ : Slots} {σ : L2.St} {st st1 st2 : Store} {ι ι1 ι2 P p q : List Addr} {H H1 H2 : Hp}
theorem Rel.bare (R : Rel K ρ st ι P σ H) : Rel K [] st ι P [] H := ⟨R.len, rfl, R.nd, fun i w e => by simp at e, R.ce, R.pe⟩
theorem Aft.call (A : Aft K ρ σ st ι P H st1 ι1 p H1) (B : CAft K st1 ι1 P p H1 st2 ι2 q H2) : Aft K ρ σ st ι P H st2 ι2 q H2 := by
  have nin : ∀ a, H a ≠ none → a ∉ p := fun a h z => h (A.new a z)
  have kp : Keeps (Mt st1 ι1 (p ++ P)) H1 (Mt st2 ι2 (q ++ P)) H2 := fun a h n => by
    have n1 : a ∉ p := fun z => n (.inl (List.mem_append_left _ z))
    have n2 : ¬ Mc st1 ι1 a := fun z => n (.inr z)
    refine ⟨B.keep a h n1 n2, fun z => ?_⟩
    rcases z with z | z
    · rcases List.mem_append.mp z with z | z
      · rcases B.new a z with z | z
        · exact h z
        · exact n1 z
      · exact n (.inl (List.mem_append_right _ z))
    · exact B.safe a h n1 n2 z
  refine ⟨⟨B.rel.len, A.rel.ls, B.rel.nd, fun i w e => ?_, B.rel.ce, B.rel.pe⟩, ⟨fun a h n => ?_, fun a h n => ?_, Nat.le_trans A.step.le B.le, fun n a h => B.pre n a (A.step.pre n a h), fun a h => B.all a (A.step.all a h)⟩, fun a h => ?_⟩
  · obtain ⟨v, e1, h⟩ := A.rel.sl i w e
    exact ⟨v, e1, h.keeps kp B.le B.pre⟩
  · exact (B.keep a (A.step.all a h) (nin a h) (A.step.safe a h n)).trans (A.step.keep a h n)
  · exact B.safe a (A.step.all a h) (nin a h) (A.step.safe a h n)
  · rcases B.new a h with z | z
    · exact A.step.new z
    · exact A.new a z
end

/-! ### the expressions, one by one -/
section
variable {T : Tab} {Γ : Calls} {C : Str → Option D} {X : L2.Cx}
/-- its value, and its truth as a test -/
structure EOk (X : L2.Cx) (f : EvF) (x : Expr) : Prop where
  pe : L2.PE X x (tEv X.K f)
  pt : L2.PT X x (tTv X.K fun ρ st => (f ρ st).bind fun p => ((rd p.2 p.1).bind truth).map fun k => (k, p.2))
/-- a test by its value's truth -/
theorem EOk.of {f : EvF} {x : Expr} (h : L2.PE X x (tEv X.K f)) (hi : ∀ whole, isTrue x X.env whole = (do let v ← whole; standAt x.pos; holding [v] (truthy v))) : EOk X f x := by
  refine ⟨h, PT.weak (L2.pt_truth h hi) fun σ H Q ⟨ρ, st, ι, P, b, st', R, e, hQ⟩ => ?_⟩
  simp only [Option.bind_eq_some_iff, Option.map_eq_some_iff] at e
  obtain ⟨p, e1, k, ⟨y, e2, e3⟩, e4⟩ := e
  cases e4
  exact one R e1 fun v1 H1 ι1 p1 A V => ⟨_, tru_ok A V e2 e3, hQ H1 ι1 A.drop⟩

theorem ok_var (g : Good T Γ C X) {i : Nat} {n : Str} {pos : Pos} (h1 : slotB X.N i n = true) (h2 : visB X.env.scope n = true) (h3 : okN n = true) : L2.PE X (.Name n pos) (tEv X.K (ev Γ C (.var i))) := by
  refine PE.weak (L2.pe_var (slotB_ok h1) (visB_ok h2) (okN_ok h3).1 (okN_ok h3).2.1) fun σ H Q ⟨ρ, st, ι, P, w, st', R, e, hQ⟩ => ?_
  rw [ev] at e
  split at e
  · rename_i w' e1
    cases e
    obtain ⟨v, e2, h⟩ := R.sl i _ e1
    exact ⟨v, e2, hQ v H ι [] (.refl R) h.rv⟩
  · cases e
theorem ok_const {x : Expr} {d : D} {v : V} {E0 : E} (h : L2.PE X x (L2.tC v)) (hd : ∀ N H, RD N H d v) (he : ∀ ρ st, ev Γ C E0 ρ st = some (.d d, st)) : L2.PE X x (tEv X.K (ev Γ C E0)) := by
  refine PE.weak h fun σ H Q ⟨ρ, st, ι, P, w, st', R, e, hQ⟩ => ?_
  rw [he] at e
  cases e
  exact hQ v H ι [] (.refl R) ⟨rfl, hd _ _⟩
theorem ok_glo (g : Good T Γ C X) {n : Str} {pos : Pos} (h0 : n ∈ T.gl) (h1 : glB X.env.scope n = true) (h2 : okN n = true) : L2.PE X (.Name n pos) (tEv X.K (ev Γ C (.glo n))) := by
  cases e0 : C n with
  | none =>
    refine ⟨fun pins s σ H Q I h => ?_⟩
    obtain ⟨ρ, st, ι, P, w, st', R, e, hQ⟩ := h
    rw [ev, e0] at e
    cases e
  | some d =>
    obtain ⟨u, v, m, r, hd⟩ := g.cst n d h0 e0
    exact ok_const (L2.pe_glob (glB_ok h1) m r (okN_ok h2).1) hd fun ρ st => by rw [ev, e0]; rfl
theorem ok_neg {a : E} {x : Expr} {pos : Pos} (h : L2.PE X x (tEv X.K (ev Γ C a))) : L2.PE X (.UnaryOp .USub x pos) (tEv X.K (ev Γ C (.neg a))) := by
  refine PE.weak (L2.pe_un L2.un_neg h) fun σ H Q ⟨ρ, st, ι, P, w, st', R, e, hQ⟩ => ?_
  rw [ev] at e
  simp only [Option.bind_eq_some_iff] at e
  obtain ⟨p, e1, e⟩ := e
  refine one R e1 fun v1 H1 ι1 p1 A V => ?_
  obtain ⟨w1, st1⟩ := p
  split at e
  · rename_i i ew
    cases e
    simp only at ew
    subst ew
    have := V.2
    rw [RD] at this
    exact ⟨i, this, fin_int hQ A⟩
  · cases e
theorem ok_bin {o : BOp} {a b : E} {x y : Expr} {pos : Pos} (ha : L2.PE X x (tEv X.K (ev Γ C a))) (hb : L2.PE X y (tEv X.K (ev Γ C b))) : L2.PE X (.BinOp x (opOf o) y pos) (tEv X.K (ev Γ C (.bin o a b))) := by
  refine PE.weak (L2.pe_op (op_bin o) ha hb) fun σ H Q ⟨ρ, st, ι, P, w, st', R, e, hQ⟩ => ?_
  rw [ev] at e
  simp only [Option.bind_eq_some_iff, Option.map_eq_some_iff] at e
  obtain ⟨p, e1, q, e2, dx, e3, dy, e4, w', e5, e6⟩ := e
  cases e6
  exact two R e1 e2 fun v1 v2 H2 ι2 p q1 q2 A V1 V2 => bin_ok A V1 V2 e3 e4 e5 hQ
theorem behind_of {e : Expr} {op : CmpOp} (h : plainX e = true) : behindInMarks op e = false := by
  cases e <;> first | rfl | (simp [plainX] at h)
theorem behind_cp {o : COp} {e : Expr} (h : o ≠ .inn) (h2 : o ≠ .notin) : behindInMarks (cpOf o) e = false := by
  apply L2.nomark <;> cases o <;> first | decide | exact absurd rfl h | exact absurd rfl h2
theorem ok_cmp (g : Good T Γ C X) {o : COp} {a b : E} {x y : Expr} {pos : Pos} (ha : L2.PE X x (tEv X.K (ev Γ C a))) (hb : L2.PE X y (tEv X.K (ev Γ C b))) : EOk X (ev Γ C (.cmp o a b)) (.Compare x [cpOf o] [y] pos) := by
  have hu : X.A.units + 64 < cLine := by have := g.un; omega
  by_cases h1 : o = .inn
  · subst h1
    refine ⟨⟨fun pins s σ H Q I ⟨ρ, st, ι, P, w, st', R, e, hQ⟩ => ?_⟩, ⟨fun pins s σ H Q I ⟨ρ, st, ι, P, b, st', R, e, hQ⟩ => ?_⟩⟩
    · rw [ev] at e
      simp [cmpF] at e
    · dsimp only at e
      rw [ev] at e
      simp [cmpF] at e
  by_cases h2 : o = .notin
  · subst h2
    refine ⟨⟨fun pins s σ H Q I ⟨ρ, st, ι, P, w, st', R, e, hQ⟩ => ?_⟩, ⟨fun pins s σ H Q I ⟨ρ, st, ι, P, b, st', R, e, hQ⟩ => ?_⟩⟩
    · rw [ev] at e
      simp [cmpF] at e
    · dsimp only at e
      rw [ev] at e
      simp [cmpF] at e
  refine ⟨PE.weak (L2.pe_cmpR (op_cmp hu o) ha hb (behind_cp h1 h2)) fun σ H Q ⟨ρ, st, ι, P, w, st', R, e, hQ⟩ => ?_, PT.weak (L2.pt_cmpR (op_cmp hu o) ha hb (behind_cp h1 h2)) fun σ H Q ⟨ρ, st, ι, P, b, st', R, e, hQ⟩ => ?_⟩
  · rw [ev] at e
    simp only [Option.bind_eq_some_iff, Option.map_eq_some_iff] at e
    obtain ⟨p, e1, q, e2, dx, e3, dy, e4, k, e5, e6⟩ := e
    cases e6
    exact two R e1 e2 fun v1 v2 H2 ι2 p q1 q2 A V1 V2 => cmp_ok A V1 V2 e3 e4 e5 (fin_bl hQ A)
  · dsimp only at e
    rw [ev] at e
    simp only [Option.bind_eq_some_iff, Option.map_eq_some_iff] at e
    obtain ⟨z, ⟨p, e1, q, e2, dx, e3, dy, e4, k, e5, e6⟩, k', ⟨y', e7, e8⟩, e9⟩ := e
    cases e6
    cases e9
    simp [rd] at e7
    subst e7
    simp [truth] at e8
    subst e8
    exact two R e1 e2 fun v1 v2 H2 ι2 p q1 q2 A V1 V2 => cmp_ok A V1 V2 e3 e4 e5 ⟨k, rfl, hQ H2 ι2 A.drop⟩
end
end Z
/-! ZExq: displays, tests, subscripts, calls. -/
set_option linter.all false
set_option autoImplicit false
set_option maxHeartbeats 4000000
set_option maxRecDepth 4000
namespace Z
open PySem
open L2 (V Hp HO upd upd_same upd_ne ne_of_none)

def tst (f : EvF) : Slots → Store → Option (Bool × Store) := fun ρ st => (f ρ st).bind fun p => ((rd p.2 p.1).bind truth).map fun k => (k, p.2)
theorem tst_iff {f : EvF} {ρ : Slots} {st st' : Store} {b : Bool} : tst f ρ st = some (b, st') ↔ ∃ w x, f ρ st = some (w, st') ∧ rd st' w = some x ∧ truth x = some b := by
  unfold tst
  simp only [Option.bind_eq_some_iff, Option.map_eq_some_iff]
  constructor
  · rintro ⟨⟨w, s1⟩, e1, k, ⟨x, e2, e3⟩, e4⟩
    cases e4
    exact ⟨w, x, e1, e2, e3⟩
  · rintro ⟨w, x, e1, e2, e3⟩
    exact ⟨(w, st'), e1, b, ⟨x, e2, e3⟩, rfl⟩
section
variable {K : PySem.W.Frag} {ρ : Slots} {σ : L2.St} {st st1 st2 : Store} {ι ι1 ι2 P p q : List Addr} {H H1 H2 : Hp}
theorem Aft.seq (a : Aft K ρ σ st ι P H st1 ι1 [] H1) (b : Aft K ρ σ st1 ι1 P H1 st2 ι2 q H2) : Aft K ρ σ st ι P H st2 ι2 q H2 := by
  have h := Aft.trans (p := []) a b
  rwa [List.append_nil] at h
end
section
variable {T : Tab} {Γ : Calls} {C : Str → Option D} {X : L2.Cx}
theorem EOk.tst {f : EvF} {x : Expr} (h : EOk X f x) : L2.PT X x (tTv X.K (tst f)) := h.pt
/-- the expressions of a list -/
def LOk (X : L2.Cx) (Γ : Calls) (C : Str → Option D) : Es → List Expr → Prop
  | .nil, xs => xs = []
  | .cons e r, xs => ∃ x ys, xs = x :: ys ∧ plainX x = true ∧ EOk X (ev Γ C e) x ∧ LOk X Γ C r ys

theorem pa_v : ∀ {es : Es} {xs : List Expr}, LOk X Γ C es xs → L2.PA X xs (tAv X.K (evs Γ C es))
  | .nil, xs, h => by
    rw [LOk] at h
    subst h
    refine PA.weak L2.pa_nil fun σ H Q ⟨ρ, st, ι, P, ws, st', R, e, hQ⟩ => ?_
    rw [evs] at e
    cases e
    exact hQ [] H ι [] (.refl R) ⟨rfl, rfl⟩
  | .cons e r, xs, h => by
    rw [LOk] at h
    obtain ⟨x, ys, rfl, h1, h2, h3⟩ := h
    refine PA.weak (L2.pa_cons h2.pe (pa_v h3) (star_of h1)) fun σ H Q ⟨ρ, st, ι, P, ws, st', R, e, hQ⟩ => ?_
    rw [evs] at e
    simp only [Option.bind_eq_some_iff, Option.map_eq_some_iff] at e
    obtain ⟨p, e1, q, e2, e3⟩ := e
    cases e3
    refine one R e1 fun v1 H1 ι1 p1 A1 V1 => ?_
    refine ⟨ρ, p.2, ι1, p1 ++ P, q.1, q.2, A1.rel, e2, fun vs H2 ι2 p2 A2 V2 => ?_⟩
    refine hQ (v1 :: vs) H2 ι2 (p2 ++ p1) (A1.trans A2) ?_
    rw [List.append_assoc]
    exact ⟨p1, p2, v1, vs, rfl, rfl, A2.rv A1.rel V1, V2⟩
theorem pa_d : ∀ {es : Es} {xs : List Expr}, LOk X Γ C es xs → L2.PA X xs (tDv X.K (evD Γ C es))
  | .nil, xs, h => by
    rw [LOk] at h
    subst h
    refine PA.weak L2.pa_nil fun σ H Q ⟨ρ, st, ι, P, ws, st', R, e, hQ⟩ => ?_
    rw [evD] at e
    cases e
    exact hQ [] H ι (.refl R) .nil
  | .cons e r, xs, h => by
    rw [LOk] at h
    obtain ⟨x, ys, rfl, h1, h2, h3⟩ := h
    refine PA.weak (L2.pa_cons h2.pe (pa_d h3) (star_of h1)) fun σ H Q ⟨ρ, st, ι, P, ws, st', R, e, hQ⟩ => ?_
    rw [evD] at e
    simp only [Option.bind_eq_some_iff, Option.map_eq_some_iff] at e
    obtain ⟨p, e1, y, ef, q, e2, e3⟩ := e
    cases e3
    refine one R e1 fun v1 H1 ι1 p1 A1 V1 => ?_
    obtain ⟨B, D1⟩ := A1.fix V1 ef
    refine ⟨ρ, y.2, ι1, P, q.1, q.2, B.rel, e2, fun vs H2 ι2 A2 V2 => ?_⟩
    exact hQ (v1 :: vs) H2 ι2 (B.seq A2) (.cons (RD.mono (A2.step.keeps (p := []) fun _ h => nomatch h) _ _ D1) V2)
/-- .. of keywords -/
theorem pk_d : ∀ {es : Es} {kws : List Keyword}, LOk X Γ C es (kwVals kws) → kwAll kws = true → L2.PK X kws (tDv X.K (evD Γ C es))
  | .nil, kws, h, _ => by
    cases kws with
    | cons k r => obtain ⟨n, v, p⟩ := k; rw [LOk, kwVals] at h; cases h
    | nil =>
      refine ⟨fun pos pins s σ H Q I ⟨ρ, st, ι, P, ws, st', R, e, hQ⟩ => ?_⟩
      rw [evD] at e
      cases e
      exact L2.pk_nil.run pos pins s σ H Q I (hQ [] H ι (.refl R) .nil)
  | .cons e r, kws, h, hn => by
    cases kws with
    | nil =>
      rw [LOk, kwVals] at h
      obtain ⟨_, _, z, _⟩ := h
      cases z
    | cons k ks =>
      obtain ⟨n, v, kp⟩ := k
      cases n with
      | none => simp [kwAll] at hn
      | some n =>
        rw [LOk, kwVals] at h
        obtain ⟨x, ys, z, h1, h2, h3⟩ := h
        cases z
        refine ⟨fun pos pins s σ H Q I ⟨ρ, st, ι, P, ws, st', R, e, hQ⟩ => (L2.pk_cons h2.pe (pk_d h3 hn)).run pos pins s σ H Q I ?_⟩
        rw [evD] at e
        simp only [Option.bind_eq_some_iff, Option.map_eq_some_iff] at e
        obtain ⟨p, e1, y, ef, q, e2, e3⟩ := e
        cases e3
        refine one R e1 fun v1 H1 ι1 p1 A1 V1 => ?_
        obtain ⟨B, D1⟩ := A1.fix V1 ef
        refine ⟨ρ, y.2, ι1, P, q.1, q.2, B.rel, e2, fun vs H2 ι2 A2 V2 => ?_⟩
        exact hQ (v1 :: vs) H2 ι2 (B.seq A2) (.cons (RD.mono (A2.step.keeps (p := []) fun _ h => nomatch h) _ _ D1) V2)

/-! ### displays -/
theorem ok_tup {es : Es} {xs : List Expr} {k : Nat} {pos : Pos} (h : LOk X Γ C es xs) : L2.PE X (.Tuple xs k pos) (tEv X.K (ev Γ C (.tup es))) := by
  refine PE.weak (L2.pe_tup (pa_d h)) fun σ H Q ⟨ρ, st, ι, P, w, st', R, e, hQ⟩ => ?_
  rw [ev] at e
  simp only [Option.bind_eq_some_iff] at e
  obtain ⟨p, e1, e⟩ := e
  split at e
  · rename_i hl
    cases e
    exact ⟨ρ, st, ι, P, p.1, p.2, R, e1, fun vs H' ι' A D => ⟨by rw [← D.length]; exact hl, fun a ha => fin_tup hQ A D a ha⟩⟩
  · cases e
theorem ok_lst {es : Es} {xs : List Expr} {pos : Pos} (h : LOk X Γ C es xs) : L2.PE X (.List xs pos) (tEv X.K (ev Γ C (.lst es))) := by
  refine PE.weak (L2.pe_lst (pa_d h)) fun σ H Q ⟨ρ, st, ι, P, w, st', R, e, hQ⟩ => ?_
  rw [ev] at e
  simp only [Option.bind_eq_some_iff] at e
  obtain ⟨p, e1, e⟩ := e
  split at e
  · rename_i hl
    cases e
    exact ⟨ρ, st, ι, P, p.1, p.2, R, e1, fun vs H' ι' A D => ⟨by rw [← D.length]; exact hl, fun a ha => fin_lst hQ A D a ha⟩⟩
  · cases e
theorem ok_dct0 {pos : Pos} : L2.PE X (.Dict [] [] pos) (tEv X.K (ev Γ C .dct0)) := by
  refine PE.weak L2.pe_dnewK fun σ H Q ⟨ρ, st, ι, P, w, st', R, e, hQ⟩ => ?_
  rw [ev] at e
  cases e
  intro a ha
  have A := Aft.refl R
  refine hQ _ _ ι [] (A.laid ha) ⟨rfl, ?_⟩
  rw [RD]
  exact ⟨rfl, a, rfl, upd_same, R.new_free ha⟩

/-! ### not, if, and, or -/
theorem ok_not {a : E} {x : Expr} {pos : Pos} (h : EOk X (ev Γ C a) x) : EOk X (ev Γ C (.not a)) (.UnaryOp .Not x pos) := by
  refine ⟨PE.weak (L2.pe_notT h.pe) fun σ H Q ⟨ρ, st, ι, P, w, st', R, e, hQ⟩ => ?_, PT.weak (L2.pt_not h.tst) fun σ H Q ⟨ρ, st, ι, P, b, st', R, e, hQ⟩ => ?_⟩
  · rw [ev] at e
    simp only [Option.bind_eq_some_iff, Option.map_eq_some_iff] at e
    obtain ⟨p, e1, k, ⟨y, e2, e3⟩, e4⟩ := e
    cases e4
    exact one R e1 fun v1 H1 ι1 p1 A V => ⟨k, tru_ok A V e2 e3, fin_bl hQ A⟩
  · obtain ⟨w, y, e1, e2, e3⟩ := tst_iff.mp e
    rw [ev] at e1
    simp only [Option.bind_eq_some_iff, Option.map_eq_some_iff] at e1
    obtain ⟨p, e1, k, e4, e5⟩ := e1
    cases e5
    simp [rd] at e2
    subst e2
    have e3 : some (!k) = some b := e3
    cases e3
    refine ⟨ρ, st, ι, P, k, p.2, R, ?_, fun H' ι' A => hQ H' ι' A⟩
    unfold tst
    rw [e1]
    show ((rd p.2 p.1).bind truth).map _ = _
    rw [Option.bind_eq_some_iff.mpr e4]
    rfl
theorem pt_if {c a b : Expr} {tc ta tb : L2.TT} {pos : Pos} (hc : L2.PT X c tc) (ha : L2.PT X a ta) (hb : L2.PT X b tb) : L2.PT X (.IfExp c a b pos) (fun σ H Q => tc σ H fun k H1 => if k = true then ta σ H1 Q else tb σ H1 Q) := by
  refine ⟨fun pins s σ H Q I h => ?_⟩
  refine PyProof.Rows.isTrue_IfExp (L2.thn (hc.run pins s σ H _ I h) fun d s1 ⟨H1, I1, q1⟩ => ?_)
  cases d with
  | true => exact ha.run pins s1 σ H1 Q I1 q1
  | false => exact hb.run pins s1 σ H1 Q I1 q1
theorem ok_ife {c a b : E} {x y z : Expr} {pos : Pos} (hc : EOk X (ev Γ C c) x) (ha : EOk X (ev Γ C a) y) (hb : EOk X (ev Γ C b) z) : EOk X (ev Γ C (.ife c a b)) (.IfExp x y z pos) := by
  refine ⟨PE.weak (L2.pe_ifExp hc.tst ha.pe hb.pe) fun σ H Q ⟨ρ, st, ι, P, w, st', R, e, hQ⟩ => ?_, PT.weak (pt_if hc.tst ha.tst hb.tst) fun σ H Q ⟨ρ, st, ι, P, b, st', R, e, hQ⟩ => ?_⟩
  · rw [ev] at e
    simp only [Option.bind_eq_some_iff] at e
    obtain ⟨p, e1, k, ⟨y, e2, e3⟩, e4⟩ := e
    refine ⟨ρ, st, ι, P, k, p.2, R, tst_iff.mpr ⟨_, y, e1, e2, e3⟩, fun H1 ι1 A => ?_⟩
    cases k with
    | true => exact ⟨ρ, p.2, ι1, P, w, st', A.rel, e4, fun v H2 ι2 q A2 V2 => hQ v H2 ι2 q (A.seq A2) V2⟩
    | false => exact ⟨ρ, p.2, ι1, P, w, st', A.rel, e4, fun v H2 ι2 q A2 V2 => hQ v H2 ι2 q (A.seq A2) V2⟩
  · obtain ⟨w, y', e1, e2', e3'⟩ := tst_iff.mp e
    rw [ev] at e1
    simp only [Option.bind_eq_some_iff] at e1
    obtain ⟨p, e1, k, ⟨y, e2, e3⟩, e4⟩ := e1
    refine ⟨ρ, st, ι, P, k, p.2, R, tst_iff.mpr ⟨_, y, e1, e2, e3⟩, fun H1 ι1 A => ?_⟩
    cases k with
    | true => exact ⟨ρ, p.2, ι1, P, b, st', A.rel, tst_iff.mpr ⟨w, y', e4, e2', e3'⟩, fun H2 ι2 A2 => hQ H2 ι2 (A.seq A2)⟩
    | false => exact ⟨ρ, p.2, ι1, P, b, st', A.rel, tst_iff.mpr ⟨w, y', e4, e2', e3'⟩, fun H2 ι2 A2 => hQ H2 ι2 (A.seq A2)⟩
theorem ok_and {pos : Pos} : ∀ {es : Es} {xs : List Expr}, LOk X Γ C es xs → xs.isEmpty = false → L2.PE X (.BoolOp .And xs pos) (tEv X.K (evA Γ C es)) ∧ L2.PW X (.BoolOp .And xs pos) (tTv X.K (tst (evA Γ C es)))
  | .nil, xs, h, n => by rw [LOk] at h; subst h; cases n
  | .cons e .nil, xs, h, n => by
    simp only [LOk] at h
    obtain ⟨x, ys, rfl, h1, h2, rfl⟩ := h
    have f : evA Γ C (.cons e .nil) = ev Γ C e := by
      funext ρ st
      rw [evA]
      cases ev Γ C e ρ st <;> rfl
    rw [f]
    exact ⟨L2.pe_one h2.pe, L2.pw_and1 h2.tst⟩
  | .cons e (.cons e2 r), xs, h, n => by
    rw [LOk] at h
    obtain ⟨x, ys, rfl, h1, h2, h3⟩ := h
    obtain ⟨y, ys, rfl⟩ : ∃ y zs, ys = y :: zs := by
      rw [LOk] at h3
      obtain ⟨y, zs, e, _⟩ := h3
      exact ⟨y, zs, e⟩
    obtain ⟨i1, i2⟩ := ok_and (pos := pos) h3 rfl
    refine ⟨PE.weak (L2.pe_andT h2.pe i1) fun σ H Q ⟨ρ, st, ι, P, w, st', R, e, hQ⟩ => ?_, ⟨fun wh pins s σ H Q I ⟨ρ, st, ι, P, b, st', R, e, hQ⟩ => (L2.pw_and h2.tst i2).run wh pins s σ H Q I ?_⟩⟩
    · rw [evA] at e
      simp only [Option.bind_eq_some_iff] at e
      obtain ⟨p, e1, k, ⟨y, e2, e3⟩, e4⟩ := e
      refine one R e1 fun v1 H1 ι1 p1 A V => ⟨k, tru_ok A V e2 e3, ?_⟩
      cases k with
      | true => exact ⟨ρ, p.2, ι1, P, w, st', A.drop.rel, e4, fun v H2 ι2 q A2 V2 => hQ v H2 ι2 q (A.drop.seq A2) V2⟩
      | false => cases e4; exact hQ v1 H1 ι1 p1 A V
    · obtain ⟨w, y', e1, e2', e3'⟩ := tst_iff.mp e
      rw [evA] at e1
      simp only [Option.bind_eq_some_iff] at e1
      obtain ⟨p, e1, k, ⟨y, e2, e3⟩, e4⟩ := e1
      refine ⟨ρ, st, ι, P, k, p.2, R, tst_iff.mpr ⟨_, y, e1, e2, e3⟩, fun H1 ι1 A => ?_⟩
      cases k with
      | true => exact ⟨ρ, p.2, ι1, P, b, st', A.rel, tst_iff.mpr ⟨w, y', e4, e2', e3'⟩, fun H2 ι2 A2 => hQ H2 ι2 (A.seq A2)⟩
      | false =>
        cases e4
        rw [e2] at e2'
        cases e2'
        rw [e3] at e3'
        cases e3'
        exact hQ H1 ι1 A
theorem ok_or {pos : Pos} : ∀ {es : Es} {xs : List Expr}, LOk X Γ C es xs → xs.isEmpty = false → L2.PE X (.BoolOp .Or xs pos) (tEv X.K (evO Γ C es)) ∧ L2.PW X (.BoolOp .Or xs pos) (tTv X.K (tst (evO Γ C es)))
  | .nil, xs, h, n => by rw [LOk] at h; subst h; cases n
  | .cons e .nil, xs, h, n => by
    simp only [LOk] at h
    obtain ⟨x, ys, rfl, h1, h2, rfl⟩ := h
    have f : evO Γ C (.cons e .nil) = ev Γ C e := by
      funext ρ st
      rw [evO]
      cases ev Γ C e ρ st <;> rfl
    rw [f]
    exact ⟨L2.pe_one h2.pe, L2.pw_or1 h2.tst⟩
  | .cons e (.cons e2 r), xs, h, n => by
    rw [LOk] at h
    obtain ⟨x, ys, rfl, h1, h2, h3⟩ := h
    obtain ⟨y, ys, rfl⟩ : ∃ y zs, ys = y :: zs := by
      rw [LOk] at h3
      obtain ⟨y, zs, e, _⟩ := h3
      exact ⟨y, zs, e⟩
    obtain ⟨i1, i2⟩ := ok_or (pos := pos) h3 rfl
    refine ⟨PE.weak (L2.pe_orT h2.pe i1) fun σ H Q ⟨ρ, st, ι, P, w, st', R, e, hQ⟩ => ?_, ⟨fun wh pins s σ H Q I ⟨ρ, st, ι, P, b, st', R, e, hQ⟩ => (L2.pw_or h2.tst i2).run wh pins s σ H Q I ?_⟩⟩
    · rw [evO] at e
      simp only [Option.bind_eq_some_iff] at e
      obtain ⟨p, e1, k, ⟨y, e2, e3⟩, e4⟩ := e
      refine one R e1 fun v1 H1 ι1 p1 A V => ⟨k, tru_ok A V e2 e3, ?_⟩
      cases k with
      | false => exact ⟨ρ, p.2, ι1, P, w, st', A.drop.rel, e4, fun v H2 ι2 q A2 V2 => hQ v H2 ι2 q (A.drop.seq A2) V2⟩
      | true => cases e4; exact hQ v1 H1 ι1 p1 A V
    · obtain ⟨w, y', e1, e2', e3'⟩ := tst_iff.mp e
      rw [evO] at e1
      simp only [Option.bind_eq_some_iff] at e1
      obtain ⟨p, e1, k, ⟨y, e2, e3⟩, e4⟩ := e1
      refine ⟨ρ, st, ι, P, k, p.2, R, tst_iff.mpr ⟨_, y, e1, e2, e3⟩, fun H1 ι1 A => ?_⟩
      cases k with
      | false => exact ⟨ρ, p.2, ι1, P, b, st', A.rel, tst_iff.mpr ⟨w, y', e4, e2', e3'⟩, fun H2 ι2 A2 => hQ H2 ι2 (A.seq A2)⟩
      | true =>
        cases e4
        rw [e2] at e2'
        cases e2'
        rw [e3] at e3'
        cases e3'
        exact hQ H1 ι1 A
end
end Z
/-! ZExr: chains, subscripts, len, slices, isinstance, built-ins, calls. -/
set_option linter.all false
set_option autoImplicit false
set_option maxHeartbeats 4000000
set_option maxRecDepth 4000
namespace Z
open PySem
open L2 (V Hp HO upd upd_same upd_ne ne_of_none)
theorem chk_plain {T : Tab} {N : List Str} {sc : Scope} {e : E} {x : Expr} (h : chkE T N e sc x = true) : plainX x = true := by
  cases x <;> first | rfl | (cases e <;> simp [chkE, plainX] at h)
theorem LOk.plains {X : L2.Cx} {Γ : Calls} {C : Str → Option D} : ∀ {es : Es} {xs : List Expr}, LOk X Γ C es xs → plainXs xs = true
  | .nil, xs, h => by rw [LOk] at h; subst h; rfl
  | .cons e r, xs, h => by
    rw [LOk] at h
    obtain ⟨x, ys, rfl, h1, _, h3⟩ := h
    rw [plainXs, h1, h3.plains]; rfl
theorem RDs.atI {N : Addr → Prop} {H : Hp} {ds : List D} {vs : List V} {i : Int} {d : D} (h : RDs N H ds vs) (e : L2.atI ds i = some d) : ∃ v, L2.atI vs i = some v ∧ RD N H d v := by
  unfold L2.atI at e ⊢
  rw [Option.bind_eq_some_iff] at e
  obtain ⟨j, e1, e2⟩ := e
  rw [← h.length, e1]
  exact h.get e2
theorem Scr.sq {K : PySem.W.Frag} {N : Addr → Prop} {H : Hp} {ns : List Int} {v : V} (h : Scr K N H ns v) : ∃ a, v = .ref a ∧ L2.SqL K H a (ns.map V.int) := by
  obtain ⟨a, e, h⟩ := h
  refine ⟨a, e, ?_⟩
  rcases h with ⟨o, h, _⟩ | h
  · exact .inl (.inr ⟨o, h⟩)
  · exact h H
section
variable {T : Tab} {Γ : Calls} {C : Str → Option D} {X : L2.Cx}
/-- a test whose value is a bool -/
theorem tst_of {f : EvF} {x : Expr} {t : L2.TE} (ht : L2.PT X x (L2.tTest t)) (hf : ∀ ρ st w st', f ρ st = some (w, st') → ∃ k, w = .d (.bool k))
    (hk : ∀ ρ st ι P σ H w st' G, Rel X.K ρ st ι P σ H → f ρ st = some (w, st') → Post X.K ρ σ st ι P H w st' G → t σ H G) : L2.PT X x (tTv X.K (tst f)) := by
  refine PT.weak ht fun σ H Q ⟨ρ, st, ι, P, b, st', R, e, hQ⟩ => ?_
  obtain ⟨w, y, e1, e2, e3⟩ := tst_iff.mp e
  obtain ⟨k, rfl⟩ := hf _ _ _ _ e1
  simp only [rd, Option.some.injEq] at e2
  subst e2
  simp only [truth, Option.some.injEq] at e3
  subst e3
  refine hk _ _ _ _ _ _ _ _ _ R e1 fun v H' ι' p A V => ?_
  obtain ⟨rfl, V⟩ := V
  rw [RD] at V
  subst V
  exact ⟨k, rfl, hQ H' ι' A⟩
theorem chain_t (g : Good T Γ C X) {o o' : COp} {a b c : E} {ρ : Slots} {st st' : Store} {ι P : List Addr} {σ : L2.St} {H : Hp} {w : W} {G : L2.VK} (R : Rel X.K ρ st ι P σ H)
    (e : ev Γ C (.chain o o' a b c) ρ st = some (w, st')) (hQ : Post X.K ρ σ st ι P H w st' G) : L2.tChain (rCmp X.K o) (rCmp X.K o') (tEv X.K (ev Γ C a)) (tEv X.K (ev Γ C b)) (tEv X.K (ev Γ C c)) σ H G := by
  rw [ev] at e
  simp only [Option.bind_eq_some_iff] at e
  obtain ⟨p, e1, q, e2, dx, e3, dy, e4, k, e5, e6⟩ := e
  refine two R e1 e2 fun v1 v2 H2 ι2 pp q1 q2 A V1 V2 => cmp_ok A V1 V2 e3 e4 e5 ⟨k, rfl, ?_⟩
  cases k with
  | false =>
    cases e6
    exact fin_bl hQ A
  | true =>
    simp only [if_true, Option.bind_eq_some_iff, Option.map_eq_some_iff] at e6
    obtain ⟨r, e7, y', e8, z, e9, k', e10, e11⟩ := e6
    cases e11
    refine ⟨ρ, q.2, ι2, pp ++ P, r.1, r.2, A.rel, e7, fun v3 H3 ι3 p3 A3 V3 => ?_⟩
    have A4 := A.trans A3
    refine cmp_ok (q1 := q2) (q2 := p3) A4 ?_ ?_ e8 e9 e10 (fin_bl hQ A4)
    · rw [List.append_assoc]; exact A3.rv A.rel V2
    · rw [List.append_assoc]; exact V3
theorem last_marks {o o' : CmpOp} {b c : Expr} (h : plainX c = true) : lastMarks [o, o'] [b, c] = false := by
  show behindInMarks o' c = false
  exact behind_of h
theorem ok_chain (g : Good T Γ C X) {o o' : COp} {a b c : E} {x y z : Expr} {pos : Pos} (hz : plainX z = true) (ha : L2.PE X x (tEv X.K (ev Γ C a))) (hb : L2.PE X y (tEv X.K (ev Γ C b))) (hc : L2.PE X z (tEv X.K (ev Γ C c))) :
    EOk X (ev Γ C (.chain o o' a b c)) (.Compare x [cpOf o, cpOf o'] [y, z] pos) := by
  have hu : X.A.units + 64 < cLine := by have := g.un; omega
  refine ⟨PE.weak (L2.pe_chain (op_cmp hu o) (op_cmp hu o') ha hb hc (last_marks hz)) fun σ H Q ⟨ρ, st, ι, P, w, st', R, e, hQ⟩ => chain_t g R e hQ,
    tst_of (L2.pt_chain (op_cmp hu o) (op_cmp hu o') ha hb hc (last_marks hz)) (fun ρ st w st' e => ?_) fun ρ st ι P σ H w st' G R e hQ => chain_t g R e hQ⟩
  rw [ev] at e
  simp only [Option.bind_eq_some_iff] at e
  obtain ⟨p, e1, q, e2, dx, e3, dy, e4, k, e5, e6⟩ := e
  cases k with
  | false => cases e6; exact ⟨_, rfl⟩
  | true =>
    simp only [if_true, Option.bind_eq_some_iff, Option.map_eq_some_iff] at e6
    obtain ⟨r, e7, y', e8, z, e9, k', e10, e11⟩ := e6
    cases e11
    exact ⟨_, rfl⟩

/-! ### a[b], len(a), a[lo:hi] -/
theorem ok_idx {a b : E} {x y : Expr} {pos : Pos} (ha : L2.PE X x (tEv X.K (ev Γ C a))) (hb : L2.PE X y (tEv X.K (ev Γ C b))) (hy : plainX y = true) : L2.PE X (.Subscript x y pos) (tEv X.K (ev Γ C (.idx a b))) := by
  refine PE.weak (L2.pe_ix (L2.IxR.or L2.ix_list L2.ix_tup) ha hb (ix_of hy)) fun σ H Q ⟨ρ, st, ι, P, w, st', R, e, hQ⟩ => ?_
  rw [ev] at e
  simp only [Option.bind_eq_some_iff] at e
  obtain ⟨p, e1, q, e2, dy, e3, e4⟩ := e
  refine two R e1 e2 fun v1 v2 H2 ι2 pp q1 q2 A V1 V2 => ?_
  obtain ⟨w1, st1⟩ := p
  have gen : ∀ dx, rd q.2 w1 = some dx → ∀ d, idxF dx dy = some d → w = .d d → st' = q.2 → L2.rIxL X.K v1 v2 H2 Q ∨ L2.rIxT X.K v1 v2 H2 Q := by
    intro dx f1 d f2 f3 f4
    subst f3 f4
    cases dx with
    | list xs =>
      cases dy with
      | int i =>
        obtain ⟨a, vs, rfl, ha, ra⟩ := A.rel.rdL V1 f1
        obtain ⟨v, g1, g2⟩ := ra.atI f2
        exact .inl ⟨a, vs, i, v, rfl, rd_int V2 e3, .of ha, g1, fin_d hQ A (A.rd1 g2)⟩
      | _ => cases f2
    | tuple xs =>
      cases dy with
      | int i =>
        obtain ⟨_, a, vs, rfl, ha, ra⟩ := rd_tup V1 f1
        obtain ⟨v, g1, g2⟩ := ra.atI f2
        exact .inr ⟨a, vs, i, v, rfl, rd_int V2 e3, .of ha, g1, fin_d hQ A (A.rd1 g2)⟩
      | _ => cases f2
    | _ => cases f2
  cases w1 with
  | s ns =>
    simp only [Option.map_eq_some_iff] at e4
    obtain ⟨d, e5, e6⟩ := e4
    cases e6
    obtain ⟨a, rfl, hs⟩ := V1.2.sq
    cases dy with
    | int i =>
      have r0 : RDs (Mt q.2 ι2 (pp ++ P)) H2 (ns.map PyData.int) (ns.map V.int) := .ofInts ns
      obtain ⟨v, g1, g2⟩ := r0.atI e5
      exact .inl ⟨a, _, i, v, rfl, rd_int V2 e3, hs, g1, fin_d hQ A (A.rd1 g2)⟩
    | _ => cases e5
  | d z =>
    simp only [Option.bind_eq_some_iff, Option.map_eq_some_iff] at e4
    obtain ⟨dx, f1, d, f2, f3⟩ := e4
    cases f3
    exact gen dx f1 d f2 rfl rfl
  | c z =>
    simp only [Option.bind_eq_some_iff, Option.map_eq_some_iff] at e4
    obtain ⟨dx, f1, d, f2, f3⟩ := e4
    cases f3
    exact gen dx f1 d f2 rfl rfl
  | f z =>
    simp only [Option.bind_eq_some_iff, Option.map_eq_some_iff] at e4
    obtain ⟨dx, f1, d, f2, f3⟩ := e4
    cases f3
    exact gen dx f1 d f2 rfl rfl
  | l z =>
    simp only [Option.bind_eq_some_iff, Option.map_eq_some_iff] at e4
    obtain ⟨dx, f1, d, f2, f3⟩ := e4
    cases f3
    exact gen dx f1 d f2 rfl rfl

/-- the part of a slice -/
def tOv (K : PySem.W.Frag) (f : Slots → Store → Option (List D × Store)) : L2.TO := fun σ H Q => ∃ ρ st ι P ds st' l, Rel K ρ st ι P σ H ∧ f ρ st = some (ds, st') ∧ part ds = some l ∧
  ∀ H' ι', Aft K ρ σ st ι P H st' ι' [] H' → Q l H'
theorem po_ok {es : Es} {o : Option Expr} (h : (es = .nil ∧ o = none) ∨ ∃ e x, es = .cons e .nil ∧ o = some x ∧ L2.PE X x (tEv X.K (ev Γ C e))) : L2.PO X o (tOv X.K (evD Γ C es)) := by
  rcases h with ⟨rfl, rfl⟩ | ⟨e, x, rfl, rfl, h⟩
  · refine ⟨fun pins s σ H Q I ⟨ρ, st, ι, P, ds, st', l, R, e, hp, hQ⟩ => L2.po_none.run pins s σ H Q I ?_⟩
    rw [evD] at e
    cases e
    cases hp
    exact hQ H ι (.refl R)
  · refine ⟨fun pins s σ H Q I ⟨ρ, st, ι, P, ds, st', l, R, e, hp, hQ⟩ => (L2.po_some h).run pins s σ H Q I ?_⟩
    rw [evD] at e
    simp only [Option.bind_eq_some_iff, Option.map_eq_some_iff] at e
    obtain ⟨p, e1, y, ef, q, e2, e3⟩ := e
    cases e3
    rw [evD] at e2
    cases e2
    refine one R e1 fun v1 H1 ι1 p1 A1 V1 => ?_
    obtain ⟨B, D1⟩ := A1.fix V1 ef
    obtain ⟨yd, ys⟩ := y
    cases yd with
    | int i =>
      cases hp
      rw [RD] at D1
      exact ⟨i, D1, hQ H1 ι1 B⟩
    | _ => cases hp
theorem ok_sl {a : E} {lo hi : Es} {x : Expr} {l h : Option Expr} {pos p2 : Pos} (ha : L2.PE X x (tEv X.K (ev Γ C a))) (hl : L2.PO X l (tOv X.K (evD Γ C lo))) (hh : L2.PO X h (tOv X.K (evD Γ C hi))) :
    L2.PE X (.Subscript x (.Slice l h none p2) pos) (tEv X.K (ev Γ C (.sl a lo hi))) := by
  refine PE.weak (L2.pe_slice (L2.SlR.or L2.sl_list L2.sl_tupA) ha hl hh) fun σ H Q ⟨ρ, st, ι, P, w, st', R, e, hQ⟩ => ?_
  rw [ev] at e
  simp only [Option.bind_eq_some_iff, Option.map_eq_some_iff] at e
  obtain ⟨p, e1, q, e2, r, e3, lv, e4, hv, e5, dx, e6, w', e7, e8⟩ := e
  cases e8
  refine one R e1 fun v1 H1 ι1 p1 A1 V1 => ⟨ρ, p.2, ι1, p1 ++ P, q.1, q.2, lv, A1.rel, e2, e4, fun H2 ι2 A2 => ⟨ρ, q.2, ι2, p1 ++ P, r.1, r.2, hv, A2.rel, e3, e5, fun H3 ι3 A3 => ?_⟩⟩
  have A4 := A2.seq A3
  have A5 : Aft X.K ρ σ st ι P H r.2 ι3 p1 H3 := A1.trans A4
  have V4 : RV X.K r.2 ι3 ([] ++ (p1 ++ P)) H3 p1 p.1 v1 := A4.rv A1.rel V1
  have V3 : RV X.K r.2 ι3 (p1 ++ P) H3 p1 p.1 v1 := V4
  cases dx with
  | list xs =>
    cases e7
    obtain ⟨b, vs, rfl, hb, rb⟩ := A5.rel.rdL V3 e6
    refine .inl ⟨b, vs, rfl, .of hb, fun c hc => fin_lst hQ A5 ?_ c hc⟩
    unfold cutD L2.cutV
    rw [rb.length]
    exact ((A5.rds rb).drop _).take _
  | tuple xs =>
    cases e7
    obtain ⟨ew, b, vs, rfl, hb, rb⟩ := rd_tup V3 e6
    refine .inr ⟨b, vs, rfl, .of hb, fun hw => ?_, fun hw c hc => fin_tup hQ A5 ?_ c hc⟩
    · have z : cutD xs lv hv = xs := by
        unfold cutD
        rw [rb.length, hw.1, hw.2, ← rb.length]
        simp
      rw [z] at hQ
      exact fin_d hQ A5 (A5.same V3 ew)
    · unfold cutD L2.cutV
      rw [rb.length]
      exact ((A5.rds rb).drop _).take _
  | _ => cases e7

/-! ### built-ins -/
theorem star_any {env : Env} {pos : Pos} {xs : List Expr} (h : plainXs xs = true) : (backTo pos (starEach xs env)).any (·.1) = false := any_of h
theorem Good.bi (g : Good T Γ C X) (b : Bi) : X.mg (biN b) = none := g.blt _ (by cases b <;> simp [biN, bltAll])
theorem ok_bi (g : Good T Γ C X) {b : Bi} {es : Es} {n : Str} {p pos : Pos} {y : Expr} {ys : List Expr} (h1 : nameB n (biN b) = true) (h2 : glB X.env.scope n = true) (h3 : okN n = true) (h : LOk X Γ C es (y :: ys)) :
    L2.PE X (.Call (.Name n p) (y :: ys) [] pos) (tEv X.K (ev Γ C (.bi b es))) := by
  obtain rfl := nameB_ok h1
  have hp := h.plains
  rw [plainXs, Bool.and_eq_true] at hp
  have key : L2.PE X (.Call (.Name (biN b) p) (y :: ys) [] pos) (L2.tCB (rBi X.K b) (tAv X.K (evs Γ C es))) := by
    have hc := call_bi (X := X) g.calm g.gd g.un b
    have hb := boot_bi b
    cases b <;> first
      | exact L2.pe_callB hc (glB_ok h2) (g.bi _) hb (pa_v h) (okN_ok h3).2.2 (okN_ok h3).1 (star_of hp.1) (any_of hp.2)
      | exact L2.pe_callTy hc (glB_ok h2) (g.bi _) hb (pa_v h) (okN_ok h3).2.2 (okN_ok h3).1 (star_of hp.1) (any_of hp.2)
  refine PE.weak key fun σ H Q ⟨ρ, st, ι, P, w, st', R, e, hQ⟩ => ?_
  rw [ev] at e
  simp only [Option.bind_eq_some_iff, Option.map_eq_some_iff] at e
  obtain ⟨q, e1, xs, e2, w', e3, e4⟩ := e
  cases e4
  exact ⟨ρ, st, ι, P, q.1, q.2, R, e1, fun vs H' ι' pp A V => bi_ok A V e2 e3 hQ⟩
theorem ok_len (g : Good T Γ C X) {a : E} {n : Str} {p pos : Pos} {y : Expr} (h1 : nameB n "len" = true) (h2 : glB X.env.scope n = true) (h3 : okN n = true) (hy : plainX y = true) (h : L2.PE X y (tEv X.K (ev Γ C a))) :
    L2.PE X (.Call (.Name n p) [y] [] pos) (tEv X.K (ev Γ C (.len a))) := by
  obtain rfl := nameB_ok h1
  refine PE.weak (L2.pe_callB L2.call_len (glB_ok h2) (g.blt _ (by simp [bltAll])) (boot_bi .len) (L2.pa_cons h L2.pa_nil (star_of hy)) (okN_ok h3).2.2 (okN_ok h3).1 (star_of hy) rfl) fun σ H Q ⟨ρ, st, ι, P, w, st', R, e, hQ⟩ => ?_
  rw [ev] at e
  simp only [Option.bind_eq_some_iff] at e
  obtain ⟨q, e1, e2⟩ := e
  refine one R e1 fun v1 H1 ι1 p1 A1 V1 => ?_
  obtain ⟨w1, st1⟩ := q
  have gen : ∀ dx, rd st1 w1 = some dx → biF .len [dx] = some w → st' = st1 → ∃ x n, [v1] = [x] ∧ L2.LenV X.K x H1 n ∧ Q (.int n) H1 := by
    intro dx f1 f2 f3
    subst f3
    refine bi_ok (b := .len) (q := p1) (ws := [w1]) (xs := [dx]) A1 ⟨p1, [], v1, [], rfl, rfl, V1, rfl, rfl⟩ ?_ f2 hQ
    simp only [rds, f1]
    rfl
  cases w1 with
  | s ns =>
    cases e2
    obtain ⟨b, rfl, hs⟩ := V1.2.sq
    exact ⟨_, ns.length, rfl, .inl ⟨_, hs, by rw [List.length_map]⟩, fin_int hQ A1⟩
  | d z =>
    simp only [Option.bind_eq_some_iff, Option.map_eq_some_iff] at e2
    obtain ⟨dx, f1, w', f2, f3⟩ := e2
    cases f3
    exact gen dx f1 f2 rfl
  | c z =>
    simp only [Option.bind_eq_some_iff, Option.map_eq_some_iff] at e2
    obtain ⟨dx, f1, w', f2, f3⟩ := e2
    cases f3
    exact gen dx f1 f2 rfl
  | f z =>
    simp only [Option.bind_eq_some_iff, Option.map_eq_some_iff] at e2
    obtain ⟨dx, f1, w', f2, f3⟩ := e2
    cases f3
    exact gen dx f1 f2 rfl
  | l z =>
    simp only [Option.bind_eq_some_iff, Option.map_eq_some_iff] at e2
    obtain ⟨dx, f1, w', f2, f3⟩ := e2
    cases f3
    exact gen dx f1 f2 rfl
end
end Z
/-! ZExs: methods of lists, isinstance, ranges, calls of defs. -/
set_option linter.all false
set_option autoImplicit false
set_option maxHeartbeats 4000000
set_option maxRecDepth 4000
namespace Z
open PySem
open L2 (V Hp HO upd upd_same upd_ne ne_of_none)
section
variable {K : PySem.W.Frag} {ρ : Slots} {σ : L2.St} {st st1 st2 : Store} {ι ι1 ι2 P p q : List Addr} {H H1 H2 : Hp}
theorem mc_write {n : Nat} {c : Cell} {ys : List D} {a : Addr} (hc : st[n]? = some c) (hf : c.fz = false) : Mc (st.set n ⟨false, ys⟩) ι a ↔ Mc st ι a := by
  have hn : n < st.length := (List.getElem?_eq_some_iff.mp hc).1
  constructor
  · rintro ⟨m, d, e1, e2, e3⟩
    by_cases hm : n = m
    · subst hm
      exact ⟨n, c, hc, hf, e3⟩
    · rw [List.getElem?_set_ne hm] at e1
      exact ⟨m, d, e1, e2, e3⟩
  · rintro ⟨m, d, e1, e2, e3⟩
    by_cases hm : n = m
    · subst hm
      exact ⟨n, ⟨false, ys⟩, by rw [List.getElem?_set_self hn], rfl, e3⟩
    · exact ⟨m, d, by rw [List.getElem?_set_ne hm]; exact e1, e2, e3⟩
theorem keeps_write {n : Nat} {c : Cell} {ys : List D} {a : Addr} {o : HO} (hc : st[n]? = some c) (hf : c.fz = false) (ha : ι[n]? = some a) :
    Keeps (Mt st ι P) H (Mt (st.set n ⟨false, ys⟩) ι P) (upd H a o) := fun b hb nb => by
  refine ⟨upd_ne fun z => nb (.inr ⟨n, c, hc, hf, by rw [z]; exact ha⟩), fun z => nb (z.imp id (mc_write hc hf).mp)⟩
theorem Rel.write {n : Nat} {c : Cell} {ys : List D} {us : List V} {a : Addr} (R : Rel K ρ st ι P σ H) (hc : st[n]? = some c) (hf : c.fz = false) (ha : ι[n]? = some a) (h : RDs (Mt st ι P) H ys us) :
    Rel K ρ (st.set n ⟨false, ys⟩) ι P σ (upd H a (.lst us)) := by
  have k := keeps_write (P := P) (H := H) (ys := ys) (o := .lst us) hc hf ha
  have hn : n < st.length := (List.getElem?_eq_some_iff.mp hc).1
  have hl : ι.Nodup := R.ndι
  refine ⟨by rw [List.length_set]; exact R.len, R.ls, R.nd, fun i w e => ?_, fun m d e => ?_, fun b hb => ?_⟩
  · obtain ⟨v, e1, h⟩ := R.sl i w e
    exact ⟨v, e1, h.keeps k (by rw [List.length_set]; exact Nat.le_refl _) fun _ _ z => z⟩
  · by_cases hm : n = m
    · subst hm
      rw [List.getElem?_set_self hn] at e
      cases e
      exact ⟨a, us, ha, upd_same, RDs.mono k _ _ h⟩
    · rw [List.getElem?_set_ne hm] at e
      obtain ⟨b, vs, e1, e2, e3⟩ := R.ce m d e
      have ne : b ≠ a := fun z => by
        subst z
        obtain ⟨h1, q1⟩ := List.getElem?_eq_some_iff.mp e1
        obtain ⟨h2, q2⟩ := List.getElem?_eq_some_iff.mp ha
        exact hm ((List.getElem_inj hl).mp (q2.trans q1.symm))
      exact ⟨b, vs, e1, (upd_ne ne).trans e2, RDs.mono k _ _ e3⟩
  · by_cases z : b = a
    · rw [z, upd_same]; exact fun z => nomatch z
    · rw [upd_ne z]; exact R.pe b hb
theorem Step.write {n : Nat} {c : Cell} {ys : List D} {a : Addr} {o : HO} (hc : st[n]? = some c) (hf : c.fz = false) (ha : ι[n]? = some a) : Step st ι H (st.set n ⟨false, ys⟩) ι (upd H a o) where
  keep := fun b _ nb => upd_ne fun z => nb ⟨n, c, hc, hf, by rw [z]; exact ha⟩
  safe := fun b _ nb z => nb ((mc_write hc hf).mp z)
  le := by rw [List.length_set]; exact Nat.le_refl _
  pre := fun _ _ h => h
  all := fun b hb => by
    by_cases z : b = a
    · rw [z, upd_same]; exact fun z => nomatch z
    · rw [upd_ne z]; exact hb
theorem Aft.write {n : Nat} {c : Cell} {ys : List D} {us : List V} {a : Addr} (A : Aft K ρ σ st ι P H st1 ι1 [] H1) (hc : st1[n]? = some c) (hf : c.fz = false) (ha : ι1[n]? = some a) (h : RDs (Mt st1 ι1 P) H1 ys us) :
    Aft K ρ σ st ι P H (st1.set n ⟨false, ys⟩) ι1 [] (upd H1 a (.lst us)) :=
  ⟨A.rel.write hc hf ha h, A.step.trans (.write hc hf ha), fun _ h => nomatch h⟩
theorem RVs.one' {w : W} {vs : List V} (h : RVs K st ι P H p [w] vs) : ∃ v, vs = [v] ∧ RV K st ι P H p w v := by
  obtain ⟨p1, p2, v, r, e1, e2, h1, h2⟩ := h
  obtain ⟨h3, h4⟩ := h2
  subst e2 h3 h4 e1
  exact ⟨v, rfl, h1⟩
/-- a cell as it stands -/
theorem Rel.cell {n : Nat} {c : Cell} {a : Addr} (R : Rel K ρ st ι P σ H) (hc : st[n]? = some c) (ha : ι[n]? = some a) : ∃ vs, H a = some (.lst vs) ∧ RDs (Mt st ι P) H c.xs vs := by
  obtain ⟨b, vs, e1, e2, e3⟩ := R.ce n c hc
  rw [ha] at e1
  cases e1
  exact ⟨vs, e2, e3⟩
end
section
variable {T : Tab} {Γ : Calls} {C : Str → Option D} {X : L2.Cx}
def meI : Me → String
  | .append => "list.append"
  | .extend => "list.extend"
  | .pop => "list.pop"
def rMe : Me → V → List V → Hp → L2.VK → Prop
  | .append => L2.rAppend
  | .extend => L2.rExtend
  | .pop => fun x vs H Q => L2.rPop x vs H Q ∨ L2.rPopAt x vs H Q
theorem mt_me : ∀ m : Me, L2.MtR X (meI m) (rMe m)
  | .append => L2.mt_append
  | .extend => L2.mt_extend
  | .pop => L2.MtR.or L2.mt_pop L2.mt_popAt
theorem slot_me (m : Me) : Slot "list" (meN m) (meI m) := by
  cases m
  · exact PySem.F.slot_list_append
  · exact PySem.F.slot_list_extend
  · exact PySem.F.slot_list_pop
theorem type_me (m : Me) : typeOf (.builtin (meI m)) = pure (.type "method_descriptor") := by
  cases m
  · exact PySem.F.type_list_append
  · exact PySem.F.type_list_extend
  · exact PySem.F.type_list_pop
theorem me_ok {m : Me} {ρ : Slots} {σ : L2.St} {st st1 st' : Store} {ι ι1 P p : List Addr} {H H1 : Hp} {n : Nat} {a : Addr} {ws : List W} {vs : List V} {w : W} {Q : L2.VK} (A : Aft X.K ρ σ st ι P H st1 ι1 p H1)
    (V0 : RVs X.K st1 ι1 (p ++ P) H1 p ws vs) (ha : ι1[n]? = some a) (e : meF st1 n m ws = some (w, st')) (hQ : Post X.K ρ σ st ι P H w st' Q) : rMe m (.ref a) vs H1 Q := by
  match m, ws, e with
  | .append, [u], e =>
    simp only [meF, Option.bind_eq_some_iff] at e
    obtain ⟨y, e1, c, e2, e3⟩ := e
    split at e3
    · rename_i hc
      cases e3
      obtain ⟨v, rfl, V1⟩ := V0.one'
      obtain ⟨B, D1⟩ := A.fix V1 e1
      obtain ⟨us, h1, h2⟩ := B.rel.cell e2 ha
      exact ⟨a, us, v, rfl, rfl, h1, by rw [← h2.length]; exact hc.2, fin_non hQ (B.write e2 hc.1 ha (h2.append (.cons D1 .nil)))⟩
    · cases e3
  | .extend, [u], e =>
    simp only [meF, Option.bind_eq_some_iff] at e
    obtain ⟨y, e1, c, e2, e3⟩ := e
    split at e3
    · rename_i ys
      split at e3
      · rename_i hc
        cases e3
        obtain ⟨v, rfl, V1⟩ := V0.one'
        obtain ⟨b, zs, rfl, f1, f2⟩ := A.rel.rdL V1 e1
        obtain ⟨us, h1, h2⟩ := A.rel.cell e2 ha
        exact ⟨a, b, us, zs, rfl, rfl, h1, f1, by rw [← h2.length, ← f2.length]; exact hc.2, fin_non hQ (A.drop.write e2 hc.1 ha ((A.rds h2).append (A.rds f2)))⟩
      · cases e3
    · cases e3
  | .pop, [], e =>
    simp only [meF, Option.bind_eq_some_iff] at e
    obtain ⟨c, e1, x, e2, e3⟩ := e
    split at e3
    · rename_i hc
      cases e3
      obtain ⟨rfl, rfl⟩ := V0
      obtain ⟨us, h1, h2⟩ := A.rel.cell e1 ha
      obtain ⟨v, f1, f2⟩ := h2.get e2
      rw [h2.length] at f1
      refine .inl ⟨a, us, v, rfl, rfl, h1, f1, fin_d hQ (A.write e1 hc ha h2.dropLast) ?_⟩
      exact RD.mono (keeps_write e1 hc ha) _ _ f2
    · cases e3
  | .pop, [u], e =>
    simp only [meF, Option.bind_eq_some_iff] at e
    obtain ⟨y, e1, c, e2, e3⟩ := e
    split at e3
    · rename_i i
      split at e3
      · rename_i hi
        simp only [Option.bind_eq_some_iff] at e3
        obtain ⟨k, e4, x, e5, e6⟩ := e3
        split at e6
        · rename_i hc
          cases e6
          obtain ⟨v, rfl, V1⟩ := V0.one'
          have ev := rd_int V1 e1
          subst ev
          obtain ⟨us, h1, h2⟩ := A.rel.cell e2 ha
          obtain ⟨v, f1, f2⟩ := h2.get e5
          refine .inr ⟨a, us, i, k, v, rfl, rfl, h1, hi.1, hi.2, by rw [← h2.length]; exact e4, f1, fin_d hQ (A.drop.write e2 hc ha ((A.rds h2).erase k)) ?_⟩
          exact RD.mono (keeps_write e2 hc ha) _ _ (A.rd1 f2)
        · cases e6
      · cases e3
    · cases e3
end
end Z
/-! ZExt: the same, as expressions. -/
set_option linter.all false
set_option autoImplicit false
set_option maxHeartbeats 4000000
set_option maxRecDepth 4000
namespace Z
open PySem
open L2 (V Hp HO upd upd_same upd_ne ne_of_none)
section
variable {T : Tab} {Γ : Calls} {C : Str → Option D} {X : L2.Cx}
theorem few_of {env : Env} {pos : Pos} : ∀ {xs : List Expr}, plainXs xs = true → (backTo pos (starEach xs env)).all (fun x => !x.1) = true
  | [], _ => rfl
  | e :: es, h => by
    rw [plainXs, Bool.and_eq_true] at h
    rw [star_of h.1]
    show (true && (backTo pos (starEach es env)).all (fun x => !x.1)) = true
    rw [few_of h.2]; rfl
theorem ok_me (g : Good T Γ C X) {m : Me} {i : Nat} {n nm : Str} {es : Es} {np ap cp : Pos} {ys : List Expr} (h1 : slotB X.N i n = true) (h2 : visB X.env.scope n = true) (h3 : okN n = true) (h4 : nameB nm (meN m) = true)
    (hl : (ap.endLine == cp.line) = true) (h : LOk X Γ C es ys) (hy : ys.length ≤ 1) : L2.PE X (.Call (.Attribute (.Name n np) nm ap) ys [] cp) (tEv X.K (ev Γ C (.me m i es))) := by
  obtain rfl := nameB_ok h4
  have ho : L2.PE X (.Name n np) (tEv X.K (ev Γ C (.var i))) := ok_var g h1 h2 h3
  have key : L2.PE X (.Call (.Attribute (.Name n np) (meN m) ap) ys [] cp) (L2.tBM X.K "list" (rMe m) (tEv X.K (ev Γ C (.var i))) (tAv X.K (evs Γ C es))) := by
    cases ys with
    | nil =>
      cases es with
      | cons e r => rw [LOk] at h; obtain ⟨_, _, z, _⟩ := h; cases z
      | nil =>
        refine PE.weak (L2.pe_bm0 PySem.F.plainAttrs_list (slot_me m) (type_me m) (mt_me m) ho rfl hl) fun σ H Q z => ?_
        obtain ⟨ρ, st, ι, P, w, st', R, e, hQ⟩ := z
        refine ⟨ρ, st, ι, P, w, st', R, e, fun v H' ι' p A V => ?_⟩
        obtain ⟨t1, t2⟩ := hQ v H' ι' p A V
        refine ⟨t1, ?_⟩
        obtain ⟨ρ2, st2, ι2, P2, ws2, st3, R2, e2, hQ2⟩ := t2
        rw [evs] at e2
        cases e2
        exact hQ2 [] H' ι2 [] (.refl R2) ⟨rfl, rfl⟩
    | cons y r =>
      cases r with
      | cons _ _ => simp at hy
      | nil =>
        have hp := h.plains
        refine L2.pe_bm PySem.F.plainAttrs_list (slot_me m) (type_me m) (mt_me m) ho (pa_v h) rfl ?_ hl (star_of (by rw [plainXs, Bool.and_eq_true] at hp; exact hp.1)) rfl
        rw [few_of hp]
        rfl
  refine PE.weak key fun σ H Q ⟨ρ, st, ι, P, w, st', R, e, hQ⟩ => ?_
  rw [ev] at e
  split at e
  · rename_i k e1
    simp only [Option.bind_eq_some_iff] at e
    obtain ⟨q, e2, e3⟩ := e
    obtain ⟨v0, s1, hk, a, ha, rfl⟩ := R.sl i _ e1
    obtain ⟨v, f1, f2⟩ : ∃ v, σ[i]? = some (some v) ∧ True := ⟨_, s1, trivial⟩
    refine ⟨ρ, st, ι, P, .c k, st, R, by rw [ev, e1], fun v H1 ι1 p1 A1 V1 => ?_⟩
    obtain ⟨rfl, hk1, b, hb, rfl⟩ := V1
    refine ⟨?_, ⟨ρ, st, ι1, [] ++ P, q.1, q.2, A1.rel, e2, fun vs H2 ι2 p2 A2 V2 => ?_⟩⟩
    · obtain ⟨c, hc⟩ : ∃ c, st[k]? = some c := ⟨st[k], List.getElem?_eq_getElem hk1⟩
      obtain ⟨vs, z, _⟩ := A1.rel.cell hc hb
      exact .inl ⟨rfl, vs, .inl (.of z)⟩
    · exact me_ok (A1.seq A2) V2 (A2.step.pre _ _ hb) e3 hQ
  · cases e

/-! ### isinstance -/
theorem boot_ty (t : Ty) : bootBuiltins (Str.ofString (tyN t)) = some (.type (tyN t)) := by
  cases t <;> (simp only [tyN]; decide +kernel)
theorem Good.ty (g : Good T Γ C X) (t : Ty) : X.mg (Str.ofString (tyN t)) = none := g.blt _ (by cases t <;> decide +kernel)
theorem pe_ty (g : Good T Γ C X) {t : Ty} {e : Expr} (h : chkTy X.env.scope t e = true) : L2.PE X e (L2.tC (.ty (tyN t))) ∧ plainX e = true := by
  unfold chkTy at h
  split at h
  · rename_i t' n _
    rw [Bool.and_eq_true, Bool.and_eq_true] at h
    obtain rfl := nameB_ok h.1.1
    exact ⟨L2.pe_bltn (glB_ok h.1.2) (g.ty _) (boot_ty _) rfl (okN_ok h.2).2.2 (okN_ok h.2).1, rfl⟩
  · cases h
theorem pa_ty (g : Good T Γ C X) : ∀ {ts : List Ty} {es : List Expr}, chkTys X.env.scope ts es = true → L2.PA X es (fun _ H Q => Q (ts.map fun t => V.ty (tyN t)) H)
  | [], [], _ => L2.pa_nil
  | [], e :: es, h => by cases h
  | t :: ts, [], h => by cases h
  | t :: ts, e :: es, h => by
    rw [chkTys, Bool.and_eq_true] at h
    obtain ⟨h1, h2⟩ := pe_ty g h.1
    exact L2.pa_cons h1 (pa_ty g h.2) (star_of h2)
theorem tys_len : ∀ {sc : Scope} {ts : List Ty} {es : List Expr}, chkTys sc ts es = true → ts.length = es.length
  | _, [], [], _ => rfl
  | _, [], e :: es, h => by cases h
  | _, t :: ts, [], h => by cases h
  | _, t :: ts, e :: es, h => by
    rw [chkTys, Bool.and_eq_true] at h
    simp [tys_len h.2]
theorem cls_all : ∀ ts : List Ty, PySem.Paired L2.ClsV (ts.map fun t => V.ty (tyN t)) (ts.map fun t => Value.type (tyN t))
  | [] => .nil
  | t :: ts => .cons (.ty _) (cls_all ts)
theorem kit_one (K : PySem.W.Frag) (x : D) (t : Ty) : PySem.W.kitOne K (.type (tagN x)) (.type (tyN t)) = some (tyOf x t) := by
  have h := kit_tab x t
  first | exact h | (unfold L2.kitB at h; exact h)
end
end Z
/-! ZExu: isinstance, ranges as lists, calls. -/
set_option linter.all false
set_option autoImplicit false
set_option maxHeartbeats 4000000
set_option maxRecDepth 4000
namespace Z
open PySem
open L2 (V Hp HO upd upd_same upd_ne ne_of_none)
section
variable {K : PySem.W.Frag} {ρ : Slots} {σ : L2.St} {st st1 st2 : Store} {ι ι1 ι2 P p q : List Addr} {H H1 H2 : Hp}
theorem Aft.also {x : Addr} {o : HO} (a : Aft K ρ σ st ι P H st1 ι1 p H1) (h : H1 x = none) : Aft K ρ σ st ι P H st1 ι1 p (upd H1 x o) :=
  ⟨a.rel.alloc h [] (.inl rfl), a.step.trans (.alloc h), a.new⟩
theorem Aft.alsoV {x : Addr} {o : HO} {w : W} {v : V} {r : List Addr} (a : Aft K ρ σ st ι P H st1 ι1 p H1) (h : H1 x = none) (V : RV K st1 ι1 (p ++ P) H1 r w v) : RV K st1 ι1 (p ++ P) (upd H1 x o) r w v :=
  RV.step (q := []) a.rel V (.alloc h) fun _ h => nomatch h
end
section
variable {T : Tab} {Γ : Calls} {C : Str → Option D} {X : L2.Cx}
theorem ok_isi (g : Good T Γ C X) {ts : List Ty} {tp : Bool} {a : E} {n : Str} {p pos : Pos} {y t : Expr} (h1 : nameB n "isinstance" = true) (h2 : glB X.env.scope n = true) (h3 : okN n = true) (hy : plainX y = true) (h : L2.PE X y (tEv X.K (ev Γ C a)))
    (ht : (if tp then (match t with | .Tuple es _ _ => decide (ts.length ≤ 9) && chkTys X.env.scope ts es | _ => false) else chkTys X.env.scope ts [t]) = true) :
    L2.PE X (.Call (.Name n p) [y, t] [] pos) (tEv X.K (ev Γ C (.isi ts tp a))) := by
  obtain rfl := nameB_ok h1
  have hb : bootBuiltins ("isinstance" : Str) = some (.builtin "isinstance") := by decide +kernel
  have hm : X.mg "isinstance" = none := g.blt _ (by simp [bltAll])
  cases tp with
  | false =>
    simp only [Bool.false_eq_true, if_false] at ht
    obtain ⟨t1, rfl⟩ : ∃ t1, ts = [t1] := by
      have := tys_len ht
      match ts, this with
      | [t1], _ => exact ⟨t1, rfl⟩
    rw [chkTys, Bool.and_eq_true] at ht
    obtain ⟨k1, k2⟩ := pe_ty g ht.1
    refine PE.weak (L2.pe_callB L2.call_isi (glB_ok h2) hm hb (L2.pa_cons h (L2.pa_cons k1 L2.pa_nil (star_of k2)) (star_of hy)) (okN_ok h3).2.2 (okN_ok h3).1 (star_of hy) (any_of (by rw [plainXs, k2]; rfl))) fun σ H Q ⟨ρ, st, ι, P, w, st', R, e, hQ⟩ => ?_
    rw [ev] at e
    simp only [Option.bind_eq_some_iff, Option.map_eq_some_iff] at e
    obtain ⟨q, e1, x, e2, e3⟩ := e
    cases e3
    refine one R e1 fun v1 H1 ι1 p1 A V1 => ?_
    refine ⟨v1, _, _, _, tyOf x t1, rfl, .ty _, ty_of A.rel V1 e2, kit_one _ _ _, ?_⟩
    have z : [t1].any (tyOf x) = tyOf x t1 := by simp
    rw [z] at hQ
    exact fin_bl hQ A
  | true =>
    simp only [if_true] at ht
    split at ht
    · rename_i es k tpos
      rw [Bool.and_eq_true] at ht
      have hl : ts.length ≤ sizeLine := Nat.le_trans (of_decide_eq_true ht.1) (by decide)
      refine PE.weak (L2.pe_callB L2.call_isiT (glB_ok h2) hm hb (L2.pa_cons h (L2.pa_cons (L2.pe_tup (pa_ty g ht.2)) L2.pa_nil (star_of rfl)) (star_of hy)) (okN_ok h3).2.2 (okN_ok h3).1 (star_of hy) rfl) fun σ H Q ⟨ρ, st, ι, P, w, st', R, e, hQ⟩ => ?_
      rw [ev] at e
      simp only [Option.bind_eq_some_iff, Option.map_eq_some_iff] at e
      obtain ⟨q, e1, x, e2, e3⟩ := e
      cases e3
      refine one R e1 fun v1 H1 ι1 p1 A V1 => ⟨by rw [List.length_map]; exact hl, fun b hb => ?_⟩
      exact ⟨v1, b, _, _, _, _, rfl, upd_same, cls_all ts, ty_of (A.also hb).rel (A.alsoV hb V1) e2, kit_any _ _ _, fin_bl hQ (A.also hb)⟩
    · cases ht

/-! ### list(range(..)), tuple(range(..)) -/
theorem rgOk_ok {a b : Int} (h : rgOk a b = true) : L2.RgOk a b := by
  simp only [rgOk, Bool.and_eq_true, decide_eq_true_eq] at h
  obtain ⟨⟨⟨⟨h1, h2⟩, h3⟩, h4⟩, h5⟩ := h
  exact ⟨h1, h2, h3, h4, h5⟩
theorem rds_range {N : Addr → Prop} {H : Hp} : ∀ (a b : Int), RDs N H (rangeD a (b - a).toNat) (L2.rgV a b) := by
  intro a b
  have z : ∃ ns : List Int, rangeD a (b - a).toNat = ns.map PyData.int ∧ L2.rgV a b = ns.map V.int := by
    refine ⟨(List.range (b - a).toNat).map fun i => a + (i : Nat), ?_, ?_⟩
    · unfold rangeD; rw [List.map_map]; rfl
    · unfold L2.rgV; rw [List.map_map]; rfl
  obtain ⟨ns, h1, h2⟩ := z
  rw [h1, h2]
  exact .ofInts ns
theorem ok_lrg1 (g : Good T Γ C X) {a : E} {n m : Str} {p p2 q pos : Pos} {y : Expr} (h1 : nameB n "list" = true) (h2 : nameB m "range" = true) (h3 : glB X.env.scope n = true) (h4 : glB X.env.scope m = true) (hy : plainX y = true) (h : L2.PE X y (tEv X.K (ev Γ C a))) :
    L2.PE X (.Call (.Name n p) [.Call (.Name m p2) [y] [] q] [] pos) (tEv X.K (ev Γ C (.lrg1 a))) := by
  obtain rfl := nameB_ok h1
  obtain rfl := nameB_ok h2
  refine PE.weak (L2.pe_listRg g.calm (glB_ok h3) (g.blt _ (by simp [bltAll])) (L2.prg_1 (glB_ok h4) (g.blt _ (by simp [bltAll])) h (star_of hy))) fun σ H Q ⟨ρ, st, ι, P, w, st', R, e, hQ⟩ => ?_
  rw [ev] at e
  simp only [Option.bind_eq_some_iff] at e
  obtain ⟨r, e1, x, e2, e3⟩ := e
  split at e3
  · rename_i k
    split at e3
    · rename_i hr
      cases e3
      refine one R e1 fun v1 H1 ι1 p1 A V1 => ⟨k, rd_int V1 e2, rgOk_ok hr, fun b hb => ?_⟩
      have z : RDs (Mt r.2 ι1 P) H1 (rangeD 0 k.toNat) (L2.rgV 0 k) := by
        have := rds_range (N := Mt r.2 ι1 P) (H := H1) 0 k
        rwa [Int.sub_zero] at this
      exact fin_lst hQ A z b hb
    · cases e3
  · cases e3
theorem ok_trg1 (g : Good T Γ C X) {a : E} {n m : Str} {p p2 q pos : Pos} {y : Expr} (h1 : nameB n "tuple" = true) (h2 : nameB m "range" = true) (h3 : glB X.env.scope n = true) (h4 : glB X.env.scope m = true) (hy : plainX y = true) (h : L2.PE X y (tEv X.K (ev Γ C a))) :
    L2.PE X (.Call (.Name n p) [.Call (.Name m p2) [y] [] q] [] pos) (tEv X.K (ev Γ C (.trg1 a))) := by
  obtain rfl := nameB_ok h1
  obtain rfl := nameB_ok h2
  refine PE.weak (L2.pe_tupRg g.calm (glB_ok h3) (g.blt _ (by simp [bltAll])) (L2.prg_1 (glB_ok h4) (g.blt _ (by simp [bltAll])) h (star_of hy))) fun σ H Q ⟨ρ, st, ι, P, w, st', R, e, hQ⟩ => ?_
  rw [ev] at e
  simp only [Option.bind_eq_some_iff] at e
  obtain ⟨r, e1, x, e2, e3⟩ := e
  split at e3
  · rename_i k
    split at e3
    · rename_i hr
      cases e3
      refine one R e1 fun v1 H1 ι1 p1 A V1 => ⟨k, rd_int V1 e2, rgOk_ok hr, fun b hb => ?_⟩
      have z : RDs (Mt r.2 ι1 P) H1 (rangeD 0 k.toNat) (L2.rgV 0 k) := by
        have := rds_range (N := Mt r.2 ι1 P) (H := H1) 0 k
        rwa [Int.sub_zero] at this
      exact fin_tup hQ A z b hb
    · cases e3
  · cases e3
theorem ok_lrg2 (g : Good T Γ C X) {a c : E} {n m : Str} {p p2 q pos : Pos} {y z : Expr} (h1 : nameB n "list" = true) (h2 : nameB m "range" = true) (h3 : glB X.env.scope n = true) (h4 : glB X.env.scope m = true) (hy : plainX y = true) (hz : plainX z = true)
    (h : L2.PE X y (tEv X.K (ev Γ C a))) (hc : L2.PE X z (tEv X.K (ev Γ C c))) : L2.PE X (.Call (.Name n p) [.Call (.Name m p2) [y, z] [] q] [] pos) (tEv X.K (ev Γ C (.lrg2 a c))) := by
  obtain rfl := nameB_ok h1
  obtain rfl := nameB_ok h2
  refine PE.weak (L2.pe_listRg g.calm (glB_ok h3) (g.blt _ (by simp [bltAll])) (L2.prg_2 (glB_ok h4) (g.blt _ (by simp [bltAll])) h hc (star_of hy) (star_of hz) (any_of (by rw [plainXs, hz]; rfl)))) fun σ H Q ⟨ρ, st, ι, P, w, st', R, e, hQ⟩ => ?_
  rw [ev] at e
  simp only [Option.bind_eq_some_iff] at e
  obtain ⟨r, e1, r2, e2, x, e3, x2, e4, e5⟩ := e
  split at e5
  · rename_i i j
    split at e5
    · rename_i hr
      cases e5
      exact two R e1 e2 fun v1 v2 H2 ι2 pp q1 q2 A V1 V2 => ⟨i, j, rd_int V1 e3, rd_int V2 e4, rgOk_ok hr, fun b hb => fin_lst hQ A (rds_range i j) b hb⟩
    · cases e5
  · cases e5

/-! ### calls of defs -/
theorem ok_call (g : Good T Γ C X) {f : Nat} {es : Es} {n : Str} {p pos : Pos} {y : Expr} {ys : List Expr} (h1 : nmB T f n = true) (h2 : glB X.env.scope n = true) (h3 : okN n = true) (h : LOk X Γ C es (y :: ys)) :
    L2.PE X (.Call (.Name n p) (y :: ys) [] pos) (tEv X.K (ev Γ C (.call f es))) := by
  obtain ⟨fa, fd, ps, k, m1, m2, m3, m4, _, F⟩ := g.cal f n (nmB_ok h1)
  have hp := h.plains
  rw [plainXs, Bool.and_eq_true] at hp
  refine PE.weak (pe_callG g.gd F m3 (glB_ok h2) m1 m2 m4 (pa_v h) (okN_ok h3).1 (star_of hp.1) (any_of hp.2)) fun σ H Q ⟨ρ, st, ι, P, w, st', R, e, hQ⟩ => ?_
  rw [ev] at e
  simp only [Option.bind_eq_some_iff] at e
  obtain ⟨q, e1, e2⟩ := e
  exact ⟨ρ, st, ι, P, q.1, q.2, R, e1, fun vs H1 ι1 pp A V => ⟨q.1, q.2, ι1, P, pp, w, st', A.rel.bare, V, e2, fun v H2 ι2 q2 B V2 => hQ v H2 ι2 q2 (A.call B) V2⟩⟩

def esT : Nat → Es → Es
  | 0, _ => .nil
  | n + 1, .cons e r => .cons e (esT n r)
  | _ + 1, .nil => .nil
def esD : Nat → Es → Es
  | 0, es => es
  | n + 1, .cons _ r => esD n r
  | _ + 1, .nil => .nil
theorem LOk.split : ∀ {xs ys : List Expr} {es : Es}, LOk X Γ C es (xs ++ ys) → LOk X Γ C (esT xs.length es) xs ∧ LOk X Γ C (esD xs.length es) ys
  | [], ys, es, h => ⟨by rw [List.length_nil, esT, LOk], by rw [List.length_nil, esD]; exact h⟩
  | x :: xs, ys, es, h => by
    cases es with
    | nil => rw [LOk] at h; cases h
    | cons e r =>
      rw [LOk] at h
      obtain ⟨x', ys', e1, h1, h2, h3⟩ := h
      cases e1
      obtain ⟨k1, k2⟩ := LOk.split (xs := xs) h3
      refine ⟨?_, k2⟩
      show LOk X Γ C (.cons e (esT xs.length r)) (x :: xs)
      rw [LOk]
      exact ⟨x, xs, rfl, h1, h2, k1⟩
theorem evD_split : ∀ (n : Nat) (es : Es) {ρ : Slots} {st st' : Store} {ds : List D}, evD Γ C es ρ st = some (ds, st') →
    ∃ d1 s1 d2, evD Γ C (esT n es) ρ st = some (d1, s1) ∧ evD Γ C (esD n es) ρ s1 = some (d2, st') ∧ ds = d1 ++ d2
  | 0, es, ρ, st, st', ds, h => ⟨[], st, ds, by rw [esT, evD], by rw [esD]; exact h, rfl⟩
  | n + 1, .nil, ρ, st, st', ds, h => by
    rw [evD] at h
    cases h
    exact ⟨[], st, [], by rw [esT, evD], by rw [esD, evD], rfl⟩
  | n + 1, .cons e r, ρ, st, st', ds, h => by
    rw [evD] at h
    simp only [Option.bind_eq_some_iff, Option.map_eq_some_iff] at h
    obtain ⟨p, e1, y, ef, q, e2, e3⟩ := h
    cases e3
    obtain ⟨d1, s1, d2, f1, f2, f3⟩ := evD_split n r (show evD Γ C r ρ y.2 = some (q.1, q.2) from e2)
    refine ⟨y.1 :: d1, s1, d2, ?_, f2, by rw [f3]; rfl⟩
    rw [esT, evD, e1]
    show (fix p.2 p.1).bind _ = _
    rw [ef]
    show (evD Γ C (esT n r) ρ y.2).map _ = _
    rw [f1]
    rfl
theorem kw_names {env : Env} {pos : Pos} : ∀ {kws : List Keyword}, kwAll kws = true → (backToKw pos (keywordEach kws env)).filterMap (·.1) = kwNames kws ∧ (backToKw pos (keywordEach kws env)).all (·.1.isSome) = true ∧ (backToKw pos (keywordEach kws env)).any (·.1.isNone) = false
  | [], _ => ⟨rfl, rfl, rfl⟩
  | ⟨none, v, p⟩ :: r, h => by cases h
  | ⟨some n, v, p⟩ :: r, h => by
    obtain ⟨h1, h2, h3⟩ := kw_names (env := env) (pos := pos) (kws := r) h
    refine ⟨?_, ?_, ?_⟩
    · show n :: (backToKw pos (keywordEach r env)).filterMap (·.1) = n :: kwNames r
      rw [h1]
    · show (true && (backToKw pos (keywordEach r env)).all (·.1.isSome)) = true
      rw [h2]; rfl
    · show (false || (backToKw pos (keywordEach r env)).any (·.1.isNone)) = false
      rw [h3]; rfl
theorem kw_len {kws : List Keyword} (h : kwAll kws = true) : (kwVals kws).length = (kwNames kws).length := by
  induction kws with
  | nil => rfl
  | cons k r ih =>
    obtain ⟨n, v, p⟩ := k
    cases n with
    | none => cases h
    | some n => simp [kwVals, kwNames, ih h]
theorem evD_len : ∀ {es : Es} {xs : List Expr} {ρ : Slots} {st st' : Store} {ds : List D}, LOk X Γ C es xs → evD Γ C es ρ st = some (ds, st') → ds.length = xs.length
  | .nil, xs, ρ, st, st', ds, h, e => by
    rw [LOk] at h
    rw [evD] at e
    cases e
    subst h
    rfl
  | .cons e r, xs, ρ, st, st', ds, h, e1 => by
    rw [LOk] at h
    obtain ⟨x, ys, rfl, h1, h2, h3⟩ := h
    rw [evD] at e1
    simp only [Option.bind_eq_some_iff, Option.map_eq_some_iff] at e1
    obtain ⟨p, e1, y, ef, q, e2, e3⟩ := e1
    cases e3
    have := evD_len h3 (show evD Γ C r ρ y.2 = some (q.1, q.2) from e2)
    simp [this]
theorem perm_vs {K : PySem.W.Frag} {st : Store} {ι P : List Addr} {H : Hp} {ds : List D} {us : List V} (h : RDs (Mt st ι P) H ds us) : ∀ perm : List Nat,
    RVs K st ι P H [] (perm.filterMap fun i => (ds[i]?).map W.d) (perm.filterMap fun i => us[i]?)
  | [] => ⟨rfl, rfl⟩
  | i :: r => by
    rw [List.filterMap_cons, List.filterMap_cons]
    have hl := h.length
    cases e : ds[i]? with
    | none =>
      have z : us[i]? = none := by
        rw [List.getElem?_eq_none_iff] at e ⊢
        omega
      rw [z]
      exact perm_vs h r
    | some d =>
      obtain ⟨v, z, hv⟩ := h.get e
      rw [z]
      exact ⟨[], [], v, _, rfl, rfl, ⟨rfl, hv⟩, perm_vs h r⟩
theorem ok_callk (g : Good T Γ C X) {f np : Nat} {ks : List Str} {perm : List Nat} {es : Es} {n : Str} {p pos : Pos} {k : Keyword} {ys : List Expr} {kws : List Keyword} (h1 : nmB T f n = true) (h2 : glB X.env.scope n = true) (h3 : okN n = true)
    (h4 : ys.length = np) (h5 : kwNames (k :: kws) = ks) (h6 : kwAll (k :: kws) = true) (h7 : (f, np, ks, perm) ∈ T.kwt) (h : LOk X Γ C es (ys ++ kwVals (k :: kws))) :
    L2.PE X (.Call (.Name n p) ys (k :: kws) pos) (tEv X.K (ev Γ C (.callk f np ks perm es))) := by
  obtain ⟨fa, fd, ps, kk, m1, m2, m3, m4, m5, F⟩ := g.cal f n (nmB_ok h1)
  have hb := m5 np ks perm h7
  obtain ⟨l1, l2⟩ := h.split
  obtain ⟨n1, n2, n3⟩ := kw_names (env := X.env) (pos := pos) h6
  rw [h5] at n1
  have hkl := kw_len h6
  rw [h5] at hkl
  have fin : ∀ {σ : L2.St} {H : Hp} {Q : L2.VK}, tEv X.K (ev Γ C (.callk f np ks perm es)) σ H Q → tDv X.K (evD Γ C (esT ys.length es)) σ H fun vs H1 => tDv X.K (evD Γ C (esD ys.length es)) σ H1 fun zs H2 => (vs.length = np ∧ zs.length = ks.length) ∧ spG X.K (Γ f) (permG perm vs zs) H2 Q := by
    intro σ H Q ⟨ρ, st, ι, P, w, st', R, e, hQ⟩
    rw [ev] at e
    simp only [Option.bind_eq_some_iff] at e
    obtain ⟨q, e1, e2⟩ := e
    obtain ⟨d1, s1, d2, f1, f2, f3⟩ := evD_split ys.length es (show evD Γ C es ρ st = some (q.1, q.2) from e1)
    refine ⟨ρ, st, ι, P, d1, s1, R, f1, fun vs H1 ι1 A1 V1 => ⟨ρ, s1, ι1, P, d2, q.2, A1.rel, f2, fun zs H2 ι2 A2 V2 => ⟨?_, ?_⟩⟩⟩
    · exact ⟨by rw [← V1.length, evD_len l1 f1, h4], by rw [← V2.length, evD_len l2 f2, hkl]⟩
    · have V3 : RDs (Mt q.2 ι2 P) H2 q.1 (vs ++ zs) := by
        rw [f3]
        exact (RDs.mono (A2.step.keeps (p := []) fun _ h => nomatch h) _ _ V1).append V2
      exact ⟨_, q.2, ι2, P, [], w, st', (A1.seq A2).rel.bare, perm_vs V3 perm, e2, fun v H3 ι3 q3 B V4 => hQ v H3 ι3 q3 ((A1.seq A2).call B) V4⟩
  cases ys with
  | nil =>
    refine PE.weak (pe_callG0K g.gd F m3 (glB_ok h2) m1 m2 hb (pk_d l2 h6) n2 n1 (okN_ok h3).1 (by rw [n3]; rfl)) fun σ H Q hh => ?_
    obtain ⟨ρ, st, ι, P, d1, s1, R, f1, z⟩ := fin hh
    rw [List.length_nil, esT, evD] at f1
    cases f1
    exact z [] H ι (.refl R) .nil
  | cons y ys =>
    have hp := l1.plains
    rw [plainXs, Bool.and_eq_true] at hp
    refine PE.weak (pe_callGK g.gd F m3 (glB_ok h2) m1 m2 hb (pa_d l1) (pk_d l2 h6) n2 n1 (okN_ok h3).1 (star_of hp.1) ?_) fun σ H Q hh => fin hh
    rw [any_of l1.plains, n3]
    rfl
end
end Z
/-! ZIt: what a for walks. -/
set_option linter.all false
set_option autoImplicit false
set_option maxHeartbeats 4000000
set_option maxRecDepth 4000
namespace Z
open PySem
open L2 (V Hp HO upd upd_same upd_ne ne_of_none)

/-- J walks the items ds, however the heap has gone on -/
structure Src (N : Addr → Prop) (H1 : Hp) (J : L2.It) (ds : List D) : Prop where
  go : ∀ i H N', Keeps N H1 N' H → i < ds.length → J.go i H
  stop : ∀ H N', Keeps N H1 N' H → J.stop ds.length H
  yld : ∀ i H N' x H', Keeps N H1 N' H → (∀ b, N' b → H b ≠ none) → i < ds.length → J.yld i H x H' → ∃ d, ds[i]? = some d ∧ RD N' H' d x ∧ (H' = H ∨ ∃ T o, H T = none ∧ H' = upd H T o)
def tIv (K : PySem.W.Frag) (f : Slots → Store → Option (List D × Store)) : L2.TI := fun σ H R => ∃ ρ st ι P ds st', Rel K ρ st ι P σ H ∧ f ρ st = some (ds, st') ∧
  ∀ J H' ι', Aft K ρ σ st ι P H st' ι' [] H' → Src (Mt st' ι' P) H' J ds → R J H'
theorem PI.weak {X : L2.Cx} {tg e : Expr} {t t' : L2.TI} (h : L2.PI X tg e t) (k : ∀ σ H Q, t' σ H Q → t σ H Q) : L2.PI X tg e t' := ⟨fun pins s σ H Q I q => h.run pins s σ H Q I (k σ H Q q)⟩

section
variable {N : Addr → Prop} {H1 : Hp} {K : PySem.W.Frag}
theorem keeps_obj {N' : Addr → Prop} {H : Hp} {a : Addr} {o : HO} (k : Keeps N H1 N' H) (h : H1 a = some o) (n : ¬ N a) : H a = some o := (k a (rd_ne h) n).1.trans h
theorem src_list {a : Addr} {vs : List V} {ds : List D} (h : H1 a = some (.lst vs)) (n : ¬ N a) (r : RDs N H1 ds vs) : Src N H1 (L2.Itl K a) ds where
  go := fun i H N' k hi => (L2.walk_list (K := K) (a := a) (xs := vs)).goes i H (by rw [← r.length]; exact hi) (.of (keeps_obj k h n))
  stop := fun H N' k => by rw [r.length]; exact (L2.walk_list (K := K) (a := a) (xs := vs)).stops H (.of (keeps_obj k h n))
  yld := fun i H N' x H' k _ hi y => by
    obtain ⟨e, y⟩ := (L2.walk_list (K := K) (a := a) (xs := vs)).yields i H x H' (by rw [← r.length]; exact hi) (.of (keeps_obj k h n)) y
    obtain ⟨d, e1, e2⟩ := r.getV y
    subst e
    exact ⟨d, e1, RD.mono k _ _ e2, .inl rfl⟩
theorem src_tup {a : Addr} {vs : List V} {ds : List D} (h : H1 a = some (.tup vs)) (n : ¬ N a) (r : RDs N H1 ds vs) : Src N H1 (L2.Itt K a) ds where
  go := fun i H N' k hi => (L2.walk_tup (K := K) (a := a) (xs := vs)).goes i H (by rw [← r.length]; exact hi) (.of (keeps_obj k h n))
  stop := fun H N' k => by rw [r.length]; exact (L2.walk_tup (K := K) (a := a) (xs := vs)).stops H (.of (keeps_obj k h n))
  yld := fun i H N' x H' k _ hi y => by
    obtain ⟨e, y⟩ := (L2.walk_tup (K := K) (a := a) (xs := vs)).yields i H x H' (by rw [← r.length]; exact hi) (.of (keeps_obj k h n)) y
    obtain ⟨d, e1, e2⟩ := r.getV y
    subst e
    exact ⟨d, e1, RD.mono k _ _ e2, .inl rfl⟩
theorem range_get {a : Int} {n i : Nat} (h : i < n) : (rangeD a n)[i]? = some (.int (a + i)) := by
  unfold rangeD
  rw [List.getElem?_map, List.getElem?_range h]
  rfl
theorem range_len {a : Int} {n : Nat} : (rangeD a n).length = n := by
  unfold rangeD
  rw [List.length_map, List.length_range]
theorem src_range {a : Int} {n : Nat} : Src N H1 (L2.Itr a n) (rangeD a n) where
  go := fun i H N' k hi => by rw [range_len] at hi; exact hi
  stop := fun H N' k => by rw [range_len]; exact Nat.le_refl _
  yld := fun i H N' x H' k _ hi y => by
    rw [range_len] at hi
    obtain ⟨e1, e2⟩ := y
    subst e1 e2
    exact ⟨_, range_get hi, by rw [RD], .inl rfl⟩
theorem zip_len : ∀ {xs ys : List D}, (zipD xs ys).length = min xs.length ys.length
  | [], ys => by simp [zipD]
  | x :: xs, [] => by simp [zipD]
  | x :: xs, y :: ys => by simp [zipD, zip_len (xs := xs) (ys := ys)]
theorem zip_get : ∀ {xs ys : List D} {i : Nat} {x y : D}, xs[i]? = some x → ys[i]? = some y → (zipD xs ys)[i]? = some (.tuple [x, y])
  | [], _, _, _, _, h, _ => by simp at h
  | _ :: _, [], _, _, _, _, h => by simp at h
  | x :: xs, y :: ys, 0, u, v, h, g => by simp at h g; subst h g; simp [zipD]
  | x :: xs, y :: ys, i + 1, u, v, h, g => by
    simp only [zipD, List.getElem?_cons_succ] at h g ⊢
    exact zip_get h g
theorem enum_len : ∀ {n : Nat} {xs : List D}, (enumD n xs).length = xs.length
  | n, [] => rfl
  | n, x :: xs => by simp [enumD, enum_len (n := n + 1) (xs := xs)]
theorem enum_get : ∀ {n : Nat} {xs : List D} {i : Nat} {x : D}, xs[i]? = some x → (enumD n xs)[i]? = some (.tuple [.int ((n + i : Nat) : Int), x])
  | n, [], _, _, h => by simp at h
  | n, x :: xs, 0, u, h => by simp at h; subst h; simp [enumD]
  | n, x :: xs, i + 1, u, h => by
    simp only [enumD, List.getElem?_cons_succ] at h ⊢
    rw [enum_get h]
    congr 4
    omega
/-- a new pair -/
theorem rd_pair {N' : Addr → Prop} {H : Hp} {T : Addr} {d1 d2 : D} {x y : V} (hn : ∀ b, N' b → H b ≠ none) (hT : H T = none) (h1 : RD N' H d1 x) (h2 : RD N' H d2 y) : RD N' (upd H T (.tup [x, y])) (.tuple [d1, d2]) (.ref T) := by
  have k : Keeps N' H N' (upd H T (.tup [x, y])) := fun b hb n => ⟨upd_ne fun z => hb (z ▸ hT), n⟩
  rw [RD]
  exact ⟨T, [x, y], rfl, upd_same, fun z => hn T z hT, .cons (RD.mono k _ _ h1) (.cons (RD.mono k _ _ h2) .nil)⟩
theorem src_zipL {a b : Addr} {us vs : List V} {ds es : List D} (h : H1 a = some (.lst us)) (n : ¬ N a) (r : RDs N H1 ds us) (h2 : H1 b = some (.lst vs)) (n2 : ¬ N b) (r2 : RDs N H1 es vs) : Src N H1 (L2.Itz K a b) (zipD ds es) := by
  have W := L2.walk_zip (K := K) (a := a) (b := b) (xs := us) (ys := vs) rfl
  have el : (zipD ds es).length = min us.length vs.length := by rw [zip_len, r.length, r2.length]
  refine ⟨fun i H N' k hi => W.goes i H (by rw [← el]; exact hi) ⟨.of (keeps_obj k h n), .of (keeps_obj k h2 n2)⟩, fun H N' k => ?_, fun i H N' x H' k hn hi y => ?_⟩
  · rw [el]; exact W.stops H ⟨.of (keeps_obj k h n), .of (keeps_obj k h2 n2)⟩
  · obtain ⟨T, x1, x2, rfl, hT, rfl, f1, f2⟩ := W.yields i H x H' (by rw [← el]; exact hi) ⟨.of (keeps_obj k h n), .of (keeps_obj k h2 n2)⟩ y
    obtain ⟨d1, g1, g2⟩ := r.getV f1
    obtain ⟨d2, g3, g4⟩ := r2.getV f2
    exact ⟨_, zip_get g1 g3, rd_pair hn hT (RD.mono k _ _ g2) (RD.mono k _ _ g4), .inr ⟨T, _, hT, rfl⟩⟩
theorem src_zipT {a b : Addr} {us vs : List V} {ds es : List D} (h : H1 a = some (.tup us)) (n : ¬ N a) (r : RDs N H1 ds us) (h2 : H1 b = some (.tup vs)) (n2 : ¬ N b) (r2 : RDs N H1 es vs) : Src N H1 (RZ.ItzT K a b) (zipD ds es) := by
  have el : (zipD ds es).length = min us.length vs.length := by rw [zip_len, r.length, r2.length]
  refine ⟨fun i H N' k hi => ?_, fun H N' k => ?_, fun i H N' x H' k hn hi y => ?_⟩
  · rw [el] at hi
    have l1 : i < us.length := by omega
    have l2 : i < vs.length := by omega
    exact ⟨us, vs, us[i], vs[i], .of (keeps_obj k h n), .of (keeps_obj k h2 n2), List.getElem?_eq_getElem l1, List.getElem?_eq_getElem l2⟩
  · rw [el]; exact ⟨us, vs, .of (keeps_obj k h n), .of (keeps_obj k h2 n2), by omega⟩
  · obtain ⟨T, x1, x2, rfl, hT, rfl, f1, f2⟩ := y
    obtain ⟨d1, g1, g2⟩ := r.getV (f1 us (.of (keeps_obj k h n)))
    obtain ⟨d2, g3, g4⟩ := r2.getV (f2 vs (.of (keeps_obj k h2 n2)))
    exact ⟨_, zip_get g1 g3, rd_pair hn hT (RD.mono k _ _ g2) (RD.mono k _ _ g4), .inr ⟨T, _, hT, rfl⟩⟩
theorem src_enum {a : Addr} {us : List V} {ds : List D} (h : H1 a = some (.lst us)) (n : ¬ N a) (r : RDs N H1 ds us) : Src N H1 (L2.Ite K a) (enumD 0 ds) := by
  have W := L2.walk_enum (K := K) (a := a) (xs := us)
  have el : (enumD 0 ds).length = us.length := by rw [enum_len, r.length]
  refine ⟨fun i H N' k hi => W.goes i H (by rw [← el]; exact hi) (.of (keeps_obj k h n)), fun H N' k => ?_, fun i H N' x H' k hn hi y => ?_⟩
  · rw [el]; exact W.stops H (.of (keeps_obj k h n))
  · obtain ⟨T, x1, x2, rfl, hT, rfl, f1, f2⟩ := W.yields i H x H' (by rw [← el]; exact hi) (.of (keeps_obj k h n)) y
    cases f1
    obtain ⟨d2, g3, g4⟩ := r.getV f2
    refine ⟨_, enum_get g3, ?_, .inr ⟨T, _, hT, rfl⟩⟩
    rw [Nat.zero_add]
    exact rd_pair hn hT (by rw [RD]) (RD.mono k _ _ g4)
end
section
open PySem.Spec PyProof.Rows
/-- a list or a tuple, walked -/
theorem pi_lt {X : L2.Cx} {tg l : Expr} {tl : L2.TE} (hl : L2.PE X l tl) :
    L2.PI X tg l (fun σ H R => tl σ H fun x H1 => ∃ a, x = .ref a ∧ ((∃ xs, H1 a = some (.lst xs) ∧ R (L2.Itl X.K a) H1) ∨ ∃ xs, H1 a = some (.tup xs) ∧ R (L2.Itt X.K a) H1)) := by
  constructor
  intro pins s σ H R I h
  refine L2.thn (hl.run pins s σ H _ I h) ?_
  rintro v s1 ⟨x, H1, I1, r1, a, rfl, q1⟩
  cases r1
  have fresh : ∀ b ∈ [s1.heap.objs.size], L2.FpOk X pins H1 b := by
    intro b hb
    rw [List.mem_singleton] at hb
    rw [hb]
    exact I1.fpOk (Nat.le_refl _) (I1.hok.fresh (Nat.le_refl _))
  rcases q1 with ⟨xs, hq, q⟩ | ⟨xs, hq, q⟩
  · obtain ⟨its, _, p, _⟩ := I1.list (L2.SqL.of (K := X.K) hq)
    exact wpAny_pyIter_list p.isList ⟨_, [s1.heap.objs.size], _, _, H1, rfl, I1.kept (t' := s1.toks) fun _ _ e => Heap.get?_push_of_some _ e, L2.turn_list a _, ⟨_, Heap.get?_push_size _ rfl, rfl, rfl⟩, fresh, q⟩
  · obtain ⟨its, _, p, _⟩ := I1.tuple (L2.SqT.of (K := X.K) hq)
    exact wpAny_pyIter_tuple (show s1.heap.IsTuple a its.toArray from p) ⟨_, [s1.heap.objs.size], _, _, H1, rfl, I1.kept (t' := s1.toks) fun _ _ e => Heap.get?_push_of_some _ e, L2.turn_tuple a _, ⟨_, Heap.get?_push_size _ rfl, rfl, rfl⟩, fresh, q⟩
end
end Z
/-! ZZm: zip of a list and a tuple, either way about (printed by mkzm.py). -/
set_option linter.all false
set_option autoImplicit false
set_option maxHeartbeats 4000000
set_option maxRecDepth 100000
namespace ZM
open PySem
open PySem.Sem (wp)
/-- an iterator of a tuple (true), of a list (false) -/
def ItA (t : Bool) (h : Heap) (it l : Addr) (i : Nat) : Prop := match t with
  | true => h.IsTupleIter it l i
  | false => h.IsListIter it l i
def SeA (t : Bool) (h : Heap) (l : Addr) (xs : Array Value) : Prop := match t with
  | true => h.IsTuple l xs
  | false => h.IsList l xs
section
variable {t : Bool} {h h' : Heap} {it l b : Addr} {i : Nat} {xs : Array Value}
theorem ItA.ext (x : ItA t h it l i) (s : Heap.ExtBut b h h') (n : it ≠ b) : ItA t h' it l i := by
  cases t
  · exact Heap.IsListIter.extBut x s n
  · exact Heap.IsTupleIter.extBut x s n
theorem SeA.ext (x : SeA t h l xs) (s : Heap.ExtBut b h h') (n : l ≠ b) : SeA t h' l xs := by
  cases t
  · exact Heap.IsList.extBut x s n
  · exact Heap.IsTuple.extBut x s n
theorem ItA.at (x : ItA t h it l i) (e : ∀ o, h.get? it = some o → h'.get? it = some o) : ItA t h' it l i := by
  cases t
  · exact Heap.IsListIter.at x e
  · exact Heap.IsTupleIter.at x e
theorem ItA.ob (x : ItA t h it l i) : ∃ o, h.get? it = some o ∧ ∀ v, o.data ≠ .cell v := by
  cases t
  · obtain ⟨o, e, _, d⟩ := (show h.IsListIter it l i from x)
    exact ⟨o, e, fun v z => by rw [d] at z; cases z⟩
  · obtain ⟨o, e, _, d⟩ := (show h.IsTupleIter it l i from x)
    exact ⟨o, e, fun v z => by rw [d] at z; cases z⟩
theorem ItA.lt (x : ItA t h it l i) : it < h.objs.size := by
  obtain ⟨_, e, _⟩ := x.ob
  exact Heap.lt_size e
end
section
variable {prog : Program} {w : World} {A : Around} {E : Value → Shared → Prop} {s : Shared}
theorem next_item {t : Bool} {it l : Addr} {i : Nat} {items} {x : Value} {Q : Value → Shared → Prop} (hit : ItA t s.heap it l i) (hl : SeA t s.heap l items) (hx : items[i]? = some x)
    (hQ : ∀ h', ItA t h' it l (i + 1) → Heap.SameBut it s.heap h' → Q x { s with heap := h' }) : wpAny (model prog w) A (Builtin.SmallTypes.nextOf (.ref it)) Q E s := by
  cases t
  · exact wpAny_nextOf_list_item hit hl hx hQ
  · exact RZ.nextOf_tuple_item hit hl hx hQ
theorem next_end {t : Bool} {it l : Addr} {i : Nat} {items} {Q : Value → Shared → Prop} (hh : A.handled = none) (hit : ItA t s.heap it l i) (hl : SeA t s.heap l items) (hx : items[i]? = none)
    (hE : ∀ h' e, Heap.ExtBut it s.heap h' → (∃ o, h'.get? e = some o ∧ o.cls = .type "StopIteration") → E (.ref e) { s with heap := h' }) : wpAny (model prog w) A (Builtin.SmallTypes.nextOf (.ref it)) Q E s := by
  cases t
  · exact wpAny_nextOf_list_end hh hit hl hx hE
  · exact RZ.nextOf_tuple_end hh hit hl hx hE
/-- one turn: a new pair -/
theorem turn_item {t1 t2 : Bool} {z TI TO i1 i2 l1 l2 : Addr} {k1 k2 : Nat} {xs ys : Array Value} {x y a b : Value} {Q : Value → Shared → Prop} (D : ZipApart z TI TO i1 i2 l1 l2)
    (hz : IsZip s.heap z TI TO .none) (hTI : IsPair s.heap TI (.ref i1) (.ref i2)) (hTO : IsPair s.heap TO a b)
    (h1 : ItA t1 s.heap i1 l1 k1) (h2 : ItA t2 s.heap i2 l2 k2) (hl1 : SeA t1 s.heap l1 xs) (hl2 : SeA t2 s.heap l2 ys) (hx : xs[k1]? = some x) (hy : ys[k2]? = some y)
    (hQ : ∀ h', IsZip h' z TI TO (rawInt s.heap.objs.size) → IsPair h' TO x y → ItA t1 h' i1 l1 (k1 + 1) → ItA t2 h' i2 l2 (k2 + 1) → IsPair h' s.heap.objs.size x y → h'.objs.size = s.heap.objs.size + 1 →
      (∀ c o, c ≠ z → c ≠ TO → c ≠ i1 → c ≠ i2 → s.heap.get? c = some o → h'.get? c = some o) → Q (.ref s.heap.objs.size) { s with heap := h' }) :
    wpAny (model prog w) A (Builtin.«zip.__next__» ⟨[.ref z], []⟩) (fun fin s' => ∃ v, fin = .done (.ret v) ∧ Q v s') E s := by
  show wpAny _ _ (field (.ref z) 2 >>= _) _ _ _
  refine wpAny_bind (wpAny_field hz rfl (x := .bool false) rfl ?_)
  show wpAny _ _ (field (.ref z) 3 >>= _) _ _ _
  refine wpAny_bind (wpAny_field hz rfl (x := .ref TI) rfl ?_)
  refine wpAny_bind (wpAny_seqItems hTI rfl ?_)
  show wpAny _ _ (Builtin.SmallTypes.ownedTupleIsFree (.ref z) >>= _) _ _ _
  refine wpAny_bind ?_
  unfold Builtin.SmallTypes.ownedTupleIsFree
  refine wpAny_bind (wpAny_field hz rfl (x := .none) rfl (wpAny_pure ?_))
  simp only [if_true]
  refine wpAny_bind (wpAny_rule ?_)
  refine wpAny_bind (wpAny_field hz rfl (x := .ref TO) rfl ?_)
  refine wpAny_bind (wpAny_setField_rec hz (by simp) fun ha za sa => ?_)
  replace za : IsZip ha z TI TO .ellipsis := za
  refine wpAny_bind ?_
  simp only [List.zipIdx_cons, List.zipIdx_nil, List.forIn_cons, List.forIn_nil]
  refine wpAny_bind (wpAny_bind (wpAny_onRaise ?_))
  show wpAny _ _ (Builtin.SmallTypes.nextOf (.ref i1) >>= _) _ _ _
  refine wpAny_bind (next_item (h1.ext sa.extBut D.i1z) (hl1.ext sa.extBut D.l1z) hx fun hb ib sb => wpAny_pure ?_)
  have ob : IsPair hb TO a b := sb.extBut _ _ D.TOi1 (sa.extBut _ _ D.TOz hTO)
  refine wpAny_bind (wpAny_seqItems ob rfl ?_)
  refine wpAny_bind (wpAny_updateSeq_pair ob fun hc oc sc => ?_)
  replace oc : IsPair hc TO x b := oc
  refine wpAny_bind (wpAny_letGo (wpAny_pure ?_))
  refine wpAny_bind (wpAny_bind (wpAny_onRaise ?_))
  show wpAny _ _ (Builtin.SmallTypes.nextOf (.ref i2) >>= _) _ _ _
  refine wpAny_bind (next_item (((h2.ext sa.extBut D.i2z).ext sb.extBut D.i12.symm).ext sc.extBut D.TOi2.symm) (((hl2.ext sa.extBut D.l2z).ext sb.extBut D.l2i1).ext sc.extBut D.l2TO) hy fun hd id sd => wpAny_pure ?_)
  have od : IsPair hd TO x b := sd.extBut _ _ D.TOi2 oc
  refine wpAny_bind (wpAny_seqItems od rfl ?_)
  refine wpAny_bind (wpAny_updateSeq_pair od fun he oe se => ?_)
  replace oe : IsPair he TO x y := oe
  refine wpAny_bind (wpAny_letGo (wpAny_pure (wpAny_pure ?_)))
  refine wpAny_bind (wpAny_seqItems oe rfl ?_)
  refine wpAny_bind (wpAny_newTuple ?_)
  have hsz : he.objs.size = s.heap.objs.size := by rw [se.1, sd.1, sc.1, sb.1, sa.1]
  have ze : IsZip he z TI TO .ellipsis := se.extBut _ _ D.TOz.symm (sd.extBut _ _ D.i2z.symm (sc.extBut _ _ D.TOz.symm (sb.extBut _ _ D.i1z.symm za)))
  have ke : ∀ c o, c ≠ z → c ≠ TO → c ≠ i1 → c ≠ i2 → s.heap.get? c = some o → he.get? c = some o := fun c o c1 c2 c3 c4 e =>
    se.extBut _ _ c2 (sd.extBut _ _ c4 (sc.extBut _ _ c2 (sb.extBut _ _ c3 (sa.extBut _ _ c1 e))))
  have j1 : ItA t1 he i1 l1 (k1 + 1) := ((ib.ext sc.extBut D.TOi1.symm).ext sd.extBut D.i12).ext se.extBut D.TOi1.symm
  have j2 : ItA t2 he i2 l2 (k2 + 1) := id.ext se.extBut D.TOi2.symm
  have zlt : z < he.objs.size := Heap.lt_size ze
  show wpAny _ _ (Builtin.SmallTypes.ownedTupleHandOut (.ref z) (.ref he.objs.size) >>= _) _ _ _
  refine wpAny_bind ?_
  unfold Builtin.SmallTypes.ownedTupleHandOut
  have zf : IsZip (he.push { cls := .type "tuple", data := .seq #[x, y] }) z TI TO .ellipsis := Heap.get?_push_of_some _ ze
  refine wpAny_bind (wpAny_setField_rec zf (by simp) fun hg zg sg => ?_)
  replace zg : IsZip hg z TI TO (rawInt he.objs.size) := zg
  refine wpAny_setField_rec zg (by simp) fun hi zi si => ?_
  replace zi : IsZip hi z TI TO (rawInt he.objs.size) := zi
  have up : ∀ c o, c ≠ z → he.get? c = some o → hi.get? c = some o := fun c o c1 e => si.extBut _ _ c1 (sg.extBut _ _ c1 (Heap.get?_push_of_some _ e))
  have ti : IsPair hi he.objs.size x y := si.extBut _ _ (Nat.ne_of_gt zlt) (sg.extBut _ _ (Nat.ne_of_gt zlt) (Heap.get?_push_size _ rfl))
  have zs : hi.objs.size = he.objs.size + 1 := by rw [si.1, sg.1, Heap.size_push]
  rw [hsz] at zi ti zs
  refine wpAny_pure ⟨_, rfl, ?_⟩
  show Q (.ref he.objs.size) _
  rw [hsz]
  exact hQ hi zi (up _ _ D.TOz oe) (j1.at fun o e => up _ o D.i1z e) (j2.at fun o e => up _ o D.i2z e) ti zs fun c o c1 c2 c3 c4 e => up c o c1 (ke c o c1 c2 c3 c4 e)
theorem turn_end {t1 t2 : Bool} {z TI TO i1 i2 l1 l2 : Addr} {k1 k2 : Nat} {xs ys : Array Value} {a b : Value} {Q : Fin → Shared → Prop} (hh : A.handled = none) (D : ZipApart z TI TO i1 i2 l1 l2)
    (hz : IsZip s.heap z TI TO .none) (hTI : IsPair s.heap TI (.ref i1) (.ref i2)) (hTO : IsPair s.heap TO a b)
    (h1 : ItA t1 s.heap i1 l1 k1) (h2 : ItA t2 s.heap i2 l2 k2) (hl1 : SeA t1 s.heap l1 xs) (hl2 : SeA t2 s.heap l2 ys) (hend : xs[k1]? = none ∨ ys[k2]? = none)
    (hE : ∀ h' e, (∀ c o, c ≠ z → c ≠ TO → c ≠ i1 → c ≠ i2 → s.heap.get? c = some o → h'.get? c = some o) → (∃ o, h'.get? e = some o ∧ o.cls = .type "StopIteration") → E (.ref e) { s with heap := h' }) :
    wpAny (model prog w) A (Builtin.«zip.__next__» ⟨[.ref z], []⟩) Q E s := by
  show wpAny _ _ (field (.ref z) 2 >>= _) _ _ _
  refine wpAny_bind (wpAny_field hz rfl (x := .bool false) rfl ?_)
  show wpAny _ _ (field (.ref z) 3 >>= _) _ _ _
  refine wpAny_bind (wpAny_field hz rfl (x := .ref TI) rfl ?_)
  refine wpAny_bind (wpAny_seqItems hTI rfl ?_)
  show wpAny _ _ (Builtin.SmallTypes.ownedTupleIsFree (.ref z) >>= _) _ _ _
  refine wpAny_bind ?_
  unfold Builtin.SmallTypes.ownedTupleIsFree
  refine wpAny_bind (wpAny_field hz rfl (x := .none) rfl (wpAny_pure ?_))
  simp only [if_true]
  refine wpAny_bind (wpAny_rule ?_)
  refine wpAny_bind (wpAny_field hz rfl (x := .ref TO) rfl ?_)
  refine wpAny_bind (wpAny_setField_rec hz (by simp) fun ha za sa => ?_)
  replace za : IsZip ha z TI TO .ellipsis := za
  refine wpAny_bind ?_
  simp only [List.zipIdx_cons, List.zipIdx_nil, List.forIn_cons, List.forIn_nil]
  refine wpAny_bind (wpAny_bind (wpAny_onRaise ?_))
  show wpAny _ _ (Builtin.SmallTypes.nextOf (.ref i1) >>= _) _ _ _
  cases hx : xs[k1]? with
  | none =>
    refine wpAny_bind (next_end hh (h1.ext sa.extBut D.i1z) (hl1.ext sa.extBut D.l1z) hx fun hb e sb ee => ?_)
    obtain ⟨oe, hoe, hce⟩ := ee
    have zb : IsZip hb z TI TO .ellipsis := sb _ _ D.i1z.symm za
    have hez : e ≠ z := fun x => by subst x; rw [zb] at hoe; cases hoe; simp at hce
    refine wpAny_setField_rec zb (by simp) fun hc _ sc => hE hc e (fun c o c1 _ c3 _ x => sc.extBut _ _ c1 (sb _ _ c3 (sa.extBut _ _ c1 x))) ⟨oe, sc.extBut _ _ hez hoe, hce⟩
  | some x =>
    have hy : ys[k2]? = none := by rcases hend with h | h; rw [hx] at h; cases h; exact h
    refine wpAny_bind (next_item (h1.ext sa.extBut D.i1z) (hl1.ext sa.extBut D.l1z) hx fun hb ib sb => wpAny_pure ?_)
    have ob : IsPair hb TO a b := sb.extBut _ _ D.TOi1 (sa.extBut _ _ D.TOz hTO)
    refine wpAny_bind (wpAny_seqItems ob rfl ?_)
    refine wpAny_bind (wpAny_updateSeq_pair ob fun hc oc sc => ?_)
    refine wpAny_bind (wpAny_letGo (wpAny_pure ?_))
    refine wpAny_bind (wpAny_bind (wpAny_onRaise ?_))
    show wpAny _ _ (Builtin.SmallTypes.nextOf (.ref i2) >>= _) _ _ _
    refine wpAny_bind (next_end hh (((h2.ext sa.extBut D.i2z).ext sb.extBut D.i12.symm).ext sc.extBut D.TOi2.symm) (((hl2.ext sa.extBut D.l2z).ext sb.extBut D.l2i1).ext sc.extBut D.l2TO) hy fun hd e sd ee => ?_)
    obtain ⟨oe, hoe, hce⟩ := ee
    have zd : IsZip hd z TI TO .ellipsis := sd _ _ D.i2z.symm (sc.extBut _ _ D.TOz.symm (sb.extBut _ _ D.i1z.symm za))
    have hez : e ≠ z := fun x => by subst x; rw [zd] at hoe; cases hoe; simp at hce
    refine wpAny_setField_rec zd (by simp) fun hf _ sf => hE hf e (fun c o c1 c2 c3 c4 x => sf.extBut _ _ c1 (sd _ _ c4 (sc.extBut _ _ c2 (sb.extBut _ _ c3 (sa.extBut _ _ c1 x))))) ⟨oe, sf.extBut _ _ hez hoe, hce⟩
theorem nx_item {t1 t2 : Bool} {z TI TO i1 i2 l1 l2 : Addr} {k1 k2 : Nat} {xs ys : Array Value} {x y a b : Value} {Q : Option Value → Shared → Prop} (D : ZipApart z TI TO i1 i2 l1 l2)
    (hz : IsZip s.heap z TI TO .none) (hTI : IsPair s.heap TI (.ref i1) (.ref i2)) (hTO : IsPair s.heap TO a b)
    (h1 : ItA t1 s.heap i1 l1 k1) (h2 : ItA t2 s.heap i2 l2 k2) (hl1 : SeA t1 s.heap l1 xs) (hl2 : SeA t2 s.heap l2 ys) (hx : xs[k1]? = some x) (hy : ys[k2]? = some y)
    (hQ : ∀ h', IsZip h' z TI TO (rawInt s.heap.objs.size) → IsPair h' TO x y → ItA t1 h' i1 l1 (k1 + 1) → ItA t2 h' i2 l2 (k2 + 1) → IsPair h' s.heap.objs.size x y → h'.objs.size = s.heap.objs.size + 1 →
      (∀ c o, c ≠ z → c ≠ TO → c ≠ i1 → c ≠ i2 → s.heap.get? c = some o → h'.get? c = some o) → Q (some (.ref s.heap.objs.size)) { s with heap := h' }) : wpAny (model prog w) A (pyNext (.ref z)) Q E s := by
  have hT : s.TypeIs (.ref z) "zip" := ⟨_, hz, rfl⟩
  unfold pyNext
  exact wpAny_bind (wpAny_attempt (wpAny_callSpecial?_slot (name := Str.ofString "__next__") hT F.slot_zip_next
    (wpAny_call_entry F.slot_zip_next hT F.entry_zip_next (turn_item D hz hTI hTO h1 h2 hl1 hl2 hx hy fun h' a1 a2 a3 a4 a5 a6 a7 => wpAny_pure (hQ h' a1 a2 a3 a4 a5 a6 a7)) (F.args_zip_next_1 _))))
theorem nx_end {t1 t2 : Bool} {z TI TO i1 i2 l1 l2 : Addr} {k1 k2 : Nat} {xs ys : Array Value} {a b : Value} {Q : Option Value → Shared → Prop} (hh : A.handled = none) (D : ZipApart z TI TO i1 i2 l1 l2)
    (hz : IsZip s.heap z TI TO .none) (hTI : IsPair s.heap TI (.ref i1) (.ref i2)) (hTO : IsPair s.heap TO a b)
    (h1 : ItA t1 s.heap i1 l1 k1) (h2 : ItA t2 s.heap i2 l2 k2) (hl1 : SeA t1 s.heap l1 xs) (hl2 : SeA t2 s.heap l2 ys) (hend : xs[k1]? = none ∨ ys[k2]? = none)
    (hQ : ∀ h', (∀ c o, c ≠ z → c ≠ TO → c ≠ i1 → c ≠ i2 → s.heap.get? c = some o → h'.get? c = some o) → Q none { s with heap := h' }) : wpAny (model prog w) A (pyNext (.ref z)) Q E s := by
  have hT : s.TypeIs (.ref z) "zip" := ⟨_, hz, rfl⟩
  unfold pyNext
  refine wpAny_bind (wpAny_attempt (wpAny_callSpecial?_slot (name := Str.ofString "__next__") hT F.slot_zip_next
    (wpAny_call_entry F.slot_zip_next hT F.entry_zip_next (turn_end hh D hz hTI hTO h1 h2 hl1 hl2 hend fun h' e hk he => ?_) (F.args_zip_next_1 _))))
  obtain ⟨o, ho, hc⟩ := he
  refine wpAny_bind (wpAny_isInstance (T := "StopIteration") (b := true) ⟨o, ho, hc⟩ isSubtype_stop ?_)
  exact wpAny_pure (hQ _ hk)
end
abbrev g1LT (h : Heap) (l1 : Addr) : Heap := h.push { cls := .type "list_iterator", data := .fields #[.ref l1, .int 0 0] }
abbrev g2LT (h : Heap) (l1 l2 : Addr) : Heap := (g1LT h l1).push { cls := .type "tuple_iterator", data := .fields #[.ref l2, .int 0 0] }
abbrev g3LT (h : Heap) (l1 l2 : Addr) : Heap := (g2LT h l1 l2).push { cls := .type "tuple", data := .seq #[.ref h.objs.size, .ref (g1LT h l1).objs.size] }
abbrev g4LT (h : Heap) (l1 l2 : Addr) : Heap := (g3LT h l1 l2).push { cls := .type "tuple", data := .seq #[.none, .none] }
abbrev g5LT (h : Heap) (l1 l2 : Addr) : Heap := (g4LT h l1 l2).push { cls := .type "zip", data := .fields #[.none, .bool false, .bool false, .ref (g2LT h l1 l2).objs.size, .ref (g3LT h l1 l2).objs.size] }
theorem meetsLT (l1 l2 : Addr) (xs ys : Array Value) :
    Meets (Builtin.«zip.__new__» ⟨[.type "zip", .ref l1, .ref l2], []⟩) (fun _ R s => s.heap.IsList l1 xs ∧ s.heap.IsTuple l2 ys ∧
      R (.ok (.ret (.ref (g4LT s.heap l1 l2).objs.size))) { s with heap := g5LT s.heap l1 l2 }) :=
  .of_wp fun prog w A R s h => by
    obtain ⟨hp, g, d, tk, os⟩ := s; obtain ⟨hl1, hl2, h⟩ := h
    have hsub := sub_zip
    have hL1 : Heap.IsList (Shared.heap ⟨hp, g, d, tk, os⟩) l1 xs := hl1
    have hL2 : Heap.IsTuple (Shared.heap ⟨hp.push { cls := .type "list_iterator", data := .fields #[.ref l1, .int 0 0] }, g, d, tk, os⟩) l2 ys := Heap.IsTuple.push hl2 _
    wp_walk using wpAny_pyIter_list hL1, wpAny_pyIter_tuple hL2
    exact ⟨_, rfl, h⟩
theorem callLT {prog : Program} {w : World} {A : Around} {E : Value → Shared → Prop} {s : Shared} {l1 l2 : Addr} {xs ys : Array Value} {Q : Value → Shared → Prop} (hl1 : s.heap.IsList l1 xs) (hl2 : s.heap.IsTuple l2 ys)
    (h : ∀ h', IsZip h' (s.heap.objs.size + 4) (s.heap.objs.size + 2) (s.heap.objs.size + 3) .none → IsPair h' (s.heap.objs.size + 2) (.ref s.heap.objs.size) (.ref (s.heap.objs.size + 1)) →
      IsPair h' (s.heap.objs.size + 3) .none .none → h'.IsListIter s.heap.objs.size l1 0 → h'.IsTupleIter (s.heap.objs.size + 1) l2 0 → h'.objs.size = s.heap.objs.size + 5 →
      (∀ c o, s.heap.get? c = some o → h'.get? c = some o) → Q (.ref (s.heap.objs.size + 4)) { s with heap := h' }) :
    wpAny (model prog w) A (call (.type "zip") [.ref l1, .ref l2]) Q E s := by
  refine callType_new F.called_zip (by decide) (F.typeCall_zip_2 _ _) (F.newCall_zip_2 _ _) (fun obj => F.args_object_init_3 obj _ _) F.entry_zip_new
    (meetsLT l1 l2 xs ys) ⟨hl1, hl2, ?_⟩
  have z1 : (g1LT s.heap l1).objs.size = s.heap.objs.size + 1 := Heap.size_push ..
  have z2 : (g2LT s.heap l1 l2).objs.size = s.heap.objs.size + 2 := by rw [Heap.size_push, z1]
  have z3 : (g3LT s.heap l1 l2).objs.size = s.heap.objs.size + 3 := by rw [Heap.size_push, z2]
  have z4 : (g4LT s.heap l1 l2).objs.size = s.heap.objs.size + 4 := by rw [Heap.size_push, z3]
  have z5 : (g5LT s.heap l1 l2).objs.size = s.heap.objs.size + 5 := by rw [Heap.size_push, z4]
  have e5 : (g5LT s.heap l1 l2).get? (g4LT s.heap l1 l2).objs.size = some _ := Heap.get?_push_size _ rfl
  have e4 : (g5LT s.heap l1 l2).get? (g3LT s.heap l1 l2).objs.size = some _ := Heap.get?_push_of_some _ (Heap.get?_push_size _ rfl)
  have e3 : (g5LT s.heap l1 l2).get? (g2LT s.heap l1 l2).objs.size = some _ := Heap.get?_push_of_some _ (Heap.get?_push_of_some _ (Heap.get?_push_size _ rfl))
  have e2 : (g5LT s.heap l1 l2).get? (g1LT s.heap l1).objs.size = some _ := Heap.get?_push_of_some _ (Heap.get?_push_of_some _ (Heap.get?_push_of_some _ (Heap.get?_push_size _ rfl)))
  have e1 : (g5LT s.heap l1 l2).get? s.heap.objs.size = some _ := Heap.get?_push_of_some _ (Heap.get?_push_of_some _ (Heap.get?_push_of_some _ (Heap.get?_push_of_some _ (Heap.get?_push_size _ rfl))))
  show _ ∧ _
  rw [z2, z3, z4] at e5
  rw [z1, z2] at e3
  rw [z3] at e4
  rw [z1] at e2
  rw [z4]
  exact ⟨⟨_, e5, rfl⟩, h _ e5 e3 e4 ⟨_, e1, rfl, rfl⟩ ⟨_, e2, rfl, rfl⟩ z5 fun c o x =>
    Heap.get?_push_of_some _ (Heap.get?_push_of_some _ (Heap.get?_push_of_some _ (Heap.get?_push_of_some _ (Heap.get?_push_of_some _ x))))⟩
abbrev g1TL (h : Heap) (l1 : Addr) : Heap := h.push { cls := .type "tuple_iterator", data := .fields #[.ref l1, .int 0 0] }
abbrev g2TL (h : Heap) (l1 l2 : Addr) : Heap := (g1TL h l1).push { cls := .type "list_iterator", data := .fields #[.ref l2, .int 0 0] }
abbrev g3TL (h : Heap) (l1 l2 : Addr) : Heap := (g2TL h l1 l2).push { cls := .type "tuple", data := .seq #[.ref h.objs.size, .ref (g1TL h l1).objs.size] }
abbrev g4TL (h : Heap) (l1 l2 : Addr) : Heap := (g3TL h l1 l2).push { cls := .type "tuple", data := .seq #[.none, .none] }
abbrev g5TL (h : Heap) (l1 l2 : Addr) : Heap := (g4TL h l1 l2).push { cls := .type "zip", data := .fields #[.none, .bool false, .bool false, .ref (g2TL h l1 l2).objs.size, .ref (g3TL h l1 l2).objs.size] }
theorem meetsTL (l1 l2 : Addr) (xs ys : Array Value) :
    Meets (Builtin.«zip.__new__» ⟨[.type "zip", .ref l1, .ref l2], []⟩) (fun _ R s => s.heap.IsTuple l1 xs ∧ s.heap.IsList l2 ys ∧
      R (.ok (.ret (.ref (g4TL s.heap l1 l2).objs.size))) { s with heap := g5TL s.heap l1 l2 }) :=
  .of_wp fun prog w A R s h => by
    obtain ⟨hp, g, d, tk, os⟩ := s; obtain ⟨hl1, hl2, h⟩ := h
    have hsub := sub_zip
    have hL1 : Heap.IsTuple (Shared.heap ⟨hp, g, d, tk, os⟩) l1 xs := hl1
    have hL2 : Heap.IsList (Shared.heap ⟨hp.push { cls := .type "tuple_iterator", data := .fields #[.ref l1, .int 0 0] }, g, d, tk, os⟩) l2 ys := Heap.IsList.push hl2 _
    wp_walk using wpAny_pyIter_tuple hL1, wpAny_pyIter_list hL2
    exact ⟨_, rfl, h⟩
theorem callTL {prog : Program} {w : World} {A : Around} {E : Value → Shared → Prop} {s : Shared} {l1 l2 : Addr} {xs ys : Array Value} {Q : Value → Shared → Prop} (hl1 : s.heap.IsTuple l1 xs) (hl2 : s.heap.IsList l2 ys)
    (h : ∀ h', IsZip h' (s.heap.objs.size + 4) (s.heap.objs.size + 2) (s.heap.objs.size + 3) .none → IsPair h' (s.heap.objs.size + 2) (.ref s.heap.objs.size) (.ref (s.heap.objs.size + 1)) →
      IsPair h' (s.heap.objs.size + 3) .none .none → h'.IsTupleIter s.heap.objs.size l1 0 → h'.IsListIter (s.heap.objs.size + 1) l2 0 → h'.objs.size = s.heap.objs.size + 5 →
      (∀ c o, s.heap.get? c = some o → h'.get? c = some o) → Q (.ref (s.heap.objs.size + 4)) { s with heap := h' }) :
    wpAny (model prog w) A (call (.type "zip") [.ref l1, .ref l2]) Q E s := by
  refine callType_new F.called_zip (by decide) (F.typeCall_zip_2 _ _) (F.newCall_zip_2 _ _) (fun obj => F.args_object_init_3 obj _ _) F.entry_zip_new
    (meetsTL l1 l2 xs ys) ⟨hl1, hl2, ?_⟩
  have z1 : (g1TL s.heap l1).objs.size = s.heap.objs.size + 1 := Heap.size_push ..
  have z2 : (g2TL s.heap l1 l2).objs.size = s.heap.objs.size + 2 := by rw [Heap.size_push, z1]
  have z3 : (g3TL s.heap l1 l2).objs.size = s.heap.objs.size + 3 := by rw [Heap.size_push, z2]
  have z4 : (g4TL s.heap l1 l2).objs.size = s.heap.objs.size + 4 := by rw [Heap.size_push, z3]
  have z5 : (g5TL s.heap l1 l2).objs.size = s.heap.objs.size + 5 := by rw [Heap.size_push, z4]
  have e5 : (g5TL s.heap l1 l2).get? (g4TL s.heap l1 l2).objs.size = some _ := Heap.get?_push_size _ rfl
  have e4 : (g5TL s.heap l1 l2).get? (g3TL s.heap l1 l2).objs.size = some _ := Heap.get?_push_of_some _ (Heap.get?_push_size _ rfl)
  have e3 : (g5TL s.heap l1 l2).get? (g2TL s.heap l1 l2).objs.size = some _ := Heap.get?_push_of_some _ (Heap.get?_push_of_some _ (Heap.get?_push_size _ rfl))
  have e2 : (g5TL s.heap l1 l2).get? (g1TL s.heap l1).objs.size = some _ := Heap.get?_push_of_some _ (Heap.get?_push_of_some _ (Heap.get?_push_of_some _ (Heap.get?_push_size _ rfl)))
  have e1 : (g5TL s.heap l1 l2).get? s.heap.objs.size = some _ := Heap.get?_push_of_some _ (Heap.get?_push_of_some _ (Heap.get?_push_of_some _ (Heap.get?_push_of_some _ (Heap.get?_push_size _ rfl))))
  show _ ∧ _
  rw [z2, z3, z4] at e5
  rw [z1, z2] at e3
  rw [z3] at e4
  rw [z1] at e2
  rw [z4]
  exact ⟨⟨_, e5, rfl⟩, h _ e5 e3 e4 ⟨_, e1, rfl, rfl⟩ ⟨_, e2, rfl, rfl⟩ z5 fun c o x =>
    Heap.get?_push_of_some _ (Heap.get?_push_of_some _ (Heap.get?_push_of_some _ (Heap.get?_push_of_some _ (Heap.get?_push_of_some _ x))))⟩
end ZM
namespace ZM
open PySem PySem.Spec PyProof.Rows L2
def SqA (t : Bool) (K : PySem.W.Frag) (H : Hp) (a : Addr) (xs : List V) : Prop := match t with
  | true => SqT K H a xs
  | false => SqL K H a xs
theorem seq_at {X : Cx} {pins : List (Addr × Obj)} {σ : L2.St} {H : Hp} {s : Shared} {t : Bool} {a : Addr} {xs : List V} (I : L2.Inv X pins σ H s) (h : SqA t X.K H a xs) : ∃ its : List Value, Vals xs its ∧ SeA t s.heap a its.toArray := by
  cases t
  · obtain ⟨its, r, pl, _⟩ := I.list (show SqL X.K H a xs from h)
    exact ⟨its, r, pl.isList⟩
  · obtain ⟨its, r, pt, _⟩ := I.tuple (show SqT X.K H a xs from h)
    exact ⟨its, r, pt⟩
theorem seq_inj {X : Cx} {pins : List (Addr × Obj)} {σ : L2.St} {H : Hp} {s : Shared} {t : Bool} {a : Addr} {xs ys : List V} (I : L2.Inv X pins σ H s) (h : SqA t X.K H a xs) (k : SqA t X.K H a ys) : xs = ys := by
  cases t
  · exact I.list_inj h k
  · exact I.tuple_inj h k
/-- what stands at a and b at each turn, the items in new pairs -/
def ItzM (t1 t2 : Bool) (K : PySem.W.Frag) (a b : Addr) : It :=
  ⟨fun i H => ∃ (xs ys : List V) (x y : V), SqA t1 K H a xs ∧ SqA t2 K H b ys ∧ xs[i]? = some x ∧ ys[i]? = some y,
    fun i H v H' => ∃ T x y, v = .ref T ∧ H T = none ∧ H' = upd H T (.tup [x, y]) ∧ (∀ xs, SqA t1 K H a xs → xs[i]? = some x) ∧ ∀ ys, SqA t2 K H b ys → ys[i]? = some y,
    fun i H => ∃ xs ys : List V, SqA t1 K H a xs ∧ SqA t2 K H b ys ∧ (xs.length ≤ i ∨ ys.length ≤ i)⟩
theorem turn_zipM {t1 t2 : Bool} {P : Program} {w : World} {K : PySem.W.Frag} {elts : List Expr} {kk : Nat} {tpos : Pos} {a b z TI TO i1 i2 : Addr} (D : ZipApart z TI TO i1 i2 a b) :
    Turn P w K (.Tuple elts kk tpos) (ItzM t1 t2 K a b) [z, TI, TO, i1, i2] z (fun i h => IsZip h z TI TO .none ∧ IsPair h TI (.ref i1) (.ref i2) ∧ (∃ x y, IsPair h TO x y) ∧ ItA t1 h i1 a i ∧ ItA t2 h i2 b i) where
  mem := by simp
  obj := fun i h st c hc => by
    obtain ⟨hz, hTI, ⟨x, y, hTO⟩, h1, h2⟩ := st
    have e' : c = z ∨ c = TI ∨ c = TO ∨ c = i1 ∨ c = i2 := by simpa using hc
    rcases e' with q | q | q | q | q
    · rw [q]; exact ⟨_, hz, fun v q => nomatch q⟩
    · rw [q]; exact ⟨_, hTI, fun v q => nomatch q⟩
    · rw [q]; exact ⟨_, hTO, fun v q => nomatch q⟩
    · rw [q]; exact h1.ob
    · rw [q]; exact h2.ob
  keep := fun i h h' st k => by
    obtain ⟨hz, hTI, ⟨x, y, hTO⟩, h1, h2⟩ := st
    exact ⟨k z (by simp) _ hz, k TI (by simp) _ hTI, ⟨x, y, k TO (by simp) _ hTO⟩, h1.at fun o q => k i1 (by simp) o q, h2.at fun o q => k i2 (by simp) o q⟩
  item := by
    intro X hP hw hK hc i pins s σ H E I hf st hg
    subst hP hw hK
    obtain ⟨hz, hTI, ⟨x0, y0, hTO⟩, h1, h2⟩ := st
    obtain ⟨xs, ys, x, y, hqx, hqy, hx, hy⟩ := hg
    obtain ⟨its, rv, p⟩ := seq_at I hqx
    obtain ⟨its2, rv2, p2⟩ := seq_at I hqy
    obtain ⟨u, hu, ru⟩ := rv.get hx
    obtain ⟨u2, hu2, ru2⟩ := rv2.get hy
    have hzl : z < s.heap.objs.size := Heap.lt_size hz
    refine nx_item D hz hTI hTO h1 h2 p p2 (x := u) (y := u2) (by simpa using hu) (by simpa using hu2) fun h' z' TO' h1' h2' hT hsz hk => ?_
    refine ⟨_, rfl, wpAny_letOwnedTupleGo_zip (s := { s with heap := h' }) z' fun h'' z'' sb => ?_⟩
    have hT2 : h''.get? s.heap.objs.size = some { cls := .type "tuple", data := .seq #[u, u2] } := (sb.2 _ (Nat.ne_of_gt hzl)).trans hT
    have new : ObjOk X.prog X.w (upd H s.heap.objs.size (.tup [x, y])) h'' s.heap.objs.size (.tup [x, y]) :=
      ⟨by show 2 ≤ sizeLine; decide, [u, u2], .cons ru (.cons ru2 .nil), ⟨_, hT2, rfl, _, rfl⟩⟩
    have I1 : Inv X pins σ (upd H s.heap.objs.size (.tup [x, y])) { s with heap := h'' } :=
      I.turnedNew (t' := s.toks) (ch := [z, TI, TO, i1, i2]) (fun c o hb q => (sb.2 c (fun q' => hb (by simp [q']))).trans (hk c o (fun q' => hb (by simp [q'])) (fun q' => hb (by simp [q'])) (fun q' => hb (by simp [q'])) (fun q' => hb (by simp [q'])) q)) hf (Nat.le_refl _) new
    refine ⟨.ref s.heap.objs.size, _, I1, rfl, ⟨_, x, y, rfl, I.hok.fresh (Nat.le_refl _), rfl, fun l hl => by rw [seq_inj I hl hqx]; exact hx, fun l hl => by rw [seq_inj I hl hqy]; exact hy⟩, ⟨z'', ?_, ⟨u, u2, ?_⟩, ?_, ?_⟩, fun c hcm => ?_⟩
    · exact (sb.2 _ D.TIz).trans (hk _ _ D.TIz D.TITO D.TIi1 D.TIi2 hTI)
    · exact (sb.2 _ D.TOz).trans TO'
    · exact h1'.at fun o q => (sb.2 _ D.i1z).trans q
    · exact h2'.at fun o q => (sb.2 _ D.i2z).trans q
    · have hlt : c < s.heap.objs.size := by
        have e' : c = z ∨ c = TI ∨ c = TO ∨ c = i1 ∨ c = i2 := by simpa using hcm
        rcases e' with q | q | q | q | q
        · rw [q]; exact hzl
        · rw [q]; exact Heap.lt_size hTI
        · rw [q]; exact Heap.lt_size hTO
        · rw [q]; exact h1.lt
        · rw [q]; exact h2.lt
      rw [upd_ne (Nat.ne_of_lt hlt)]
      exact (hf c hcm).1
  done := by
    intro X hP hw hK hc i pins s σ H E I hf st hg
    subst hP hw hK
    obtain ⟨hz, hTI, ⟨x0, y0, hTO⟩, h1, h2⟩ := st
    obtain ⟨xs, ys, hqx, hqy, hend⟩ := hg
    obtain ⟨its, rv, p⟩ := seq_at I hqx
    obtain ⟨its2, rv2, p2⟩ := seq_at I hqy
    have l1 := rv.length
    have l2 := rv2.length
    have he : its.toArray[i]? = none ∨ its2.toArray[i]? = none := by
      rcases hend with q | q
      · exact .inl (by simp; omega)
      · exact .inr (by simp; omega)
    exact nx_end (I.ok.hd hc) D hz hTI hTO h1 h2 p p2 he fun h' hk => ⟨rfl, I.turnedL (t' := s.toks) (ch := [z, TI, TO, i1, i2]) (fun c o hb q =>
      hk c o (fun q' => hb (by simp [q'])) (fun q' => hb (by simp [q'])) (fun q' => hb (by simp [q'])) (fun q' => hb (by simp [q'])) q) hf⟩
  self := fun A i s Q E st h => wpAny_pyIter_zip st.1 h
/-- zip of two lists, two tuples, one of each -/
def iZip4 (K : PySem.W.Frag) (ta : TA) : TI := fun σ H R => ta σ H fun vs H1 => ∃ a b xs ys, vs = [.ref a, .ref b] ∧ ((SqL K H1 a xs ∧ SqL K H1 b ys ∧ R (Itz K a b) H1) ∨ (SqT K H1 a xs ∧ SqT K H1 b ys ∧ R (RZ.ItzT K a b) H1) ∨ (SqL K H1 a xs ∧ SqT K H1 b ys ∧ R (ItzM false true K a b) H1) ∨ (SqT K H1 a xs ∧ SqL K H1 b ys ∧ R (ItzM true false K a b) H1))
theorem pi_zip4 {X : Cx} {e e2 : Expr} {ta : TA} {p pos tpos : Pos} {elts : List Expr} {kk : Nat} (hg : Gl X "zip") (hm : X.mg "zip" = none) (ha : PA X [e, e2] ta)
    (hs : starEach [e, e2] X.env = (false, eval e X.env) :: starEach [e2] X.env) (hpl : (backTo pos (starEach [e2] X.env)).any (·.1) = false) :
    PI X (.Tuple elts kk tpos) (.Call (.Name "zip" p) [e, e2] [] pos) (iZip4 X.K ta) := by
  refine ⟨fun pins s σ H R I h => ?_⟩
  refine Call_ (ld_blt I hg hm PyProof.Rows.boot_zip (PyProof.Rows.callWith_type1 (thn (ha.run pos pins s σ H _ I h) fun us s1 ⟨vs, H1, I1, r1, q1⟩ => ?_) hs hpl))
  obtain ⟨a, b, xs, ys, ex, q1⟩ := q1
  subst ex
  cases r1 with
  | cons r rr =>
    cases rr with
    | cons r' rr =>
      cases rr
      cases r
      cases r'
      have fresh5 : ∀ c, c ∈ [s1.heap.objs.size + 4, s1.heap.objs.size + 2, s1.heap.objs.size + 3, s1.heap.objs.size, s1.heap.objs.size + 1] → FpOk X pins H1 c := fun c hcm => by
        have e' : c = s1.heap.objs.size + 4 ∨ c = s1.heap.objs.size + 2 ∨ c = s1.heap.objs.size + 3 ∨ c = s1.heap.objs.size ∨ c = s1.heap.objs.size + 1 := by simpa using hcm
        have hle : s1.heap.objs.size ≤ c := by
          rcases e' with z | z | z | z | z
          · rw [z]; exact Nat.le_add_right _ _
          · rw [z]; exact Nat.le_add_right _ _
          · rw [z]; exact Nat.le_add_right _ _
          · rw [z]; exact Nat.le_refl _
          · rw [z]; exact Nat.le_add_right _ _
        exact I1.fpOk hle (I1.hok.fresh hle)
      rcases q1 with ⟨hqx, hqy, q⟩ | ⟨hqx, hqy, q⟩ | ⟨hqx, hqy, q⟩ | ⟨hqx, hqy, q⟩
      · obtain ⟨its, rv, p1, _⟩ := I1.list hqx
        obtain ⟨its2, rv2, p2, _⟩ := I1.list hqy
        refine call_zip_2 p1.isList p2.isList fun h' hz hTI hTO h1 h2 hsz hk => wpAny_pyIter_zip hz ?_
        have I2 : Inv X pins σ H1 { s1 with heap := h' } := I1.kept (t' := s1.toks) hk
        exact ⟨s1.heap.objs.size + 4, [s1.heap.objs.size + 4, s1.heap.objs.size + 2, s1.heap.objs.size + 3, s1.heap.objs.size, s1.heap.objs.size + 1], _, _, H1, rfl, I2, turn_zip (PySem.W.ktu_apart s1.heap.objs.size a b p1.lt p2.lt), ⟨hz, hTI, ⟨_, _, hTO⟩, h1, h2⟩, fresh5, q⟩
      · obtain ⟨its, rv, p1, _⟩ := I1.tuple hqx
        obtain ⟨its2, rv2, p2, _⟩ := I1.tuple hqy
        obtain ⟨o1, ho1, _⟩ := id p1
        obtain ⟨o2, ho2, _⟩ := id p2
        refine RZ.call_zipT (show s1.heap.IsTuple a its.toArray from p1) (show s1.heap.IsTuple b its2.toArray from p2) fun h' hz hTI hTO h1 h2 hsz hk => wpAny_pyIter_zip hz ?_
        have I2 : Inv X pins σ H1 { s1 with heap := h' } := I1.kept (t' := s1.toks) hk
        exact ⟨s1.heap.objs.size + 4, [s1.heap.objs.size + 4, s1.heap.objs.size + 2, s1.heap.objs.size + 3, s1.heap.objs.size, s1.heap.objs.size + 1], _, _, H1, rfl, I2, RZ.turn_zipT (PySem.W.ktu_apart s1.heap.objs.size a b (Heap.lt_size ho1) (Heap.lt_size ho2)), ⟨hz, hTI, ⟨_, _, hTO⟩, h1, h2⟩, fresh5, q⟩
      · obtain ⟨its, rv, p1, _⟩ := I1.list hqx
        obtain ⟨its2, rv2, p2, _⟩ := I1.tuple hqy
        obtain ⟨o2, ho2, _⟩ := id p2
        refine callLT p1.isList (show s1.heap.IsTuple b its2.toArray from p2) fun h' hz hTI hTO h1 h2 hsz hk => wpAny_pyIter_zip hz ?_
        have I2 : Inv X pins σ H1 { s1 with heap := h' } := I1.kept (t' := s1.toks) hk
        exact ⟨s1.heap.objs.size + 4, [s1.heap.objs.size + 4, s1.heap.objs.size + 2, s1.heap.objs.size + 3, s1.heap.objs.size, s1.heap.objs.size + 1], _, _, H1, rfl, I2, turn_zipM (t1 := false) (t2 := true) (PySem.W.ktu_apart s1.heap.objs.size a b p1.lt (Heap.lt_size ho2)), ⟨hz, hTI, ⟨_, _, hTO⟩, h1, h2⟩, fresh5, q⟩
      · obtain ⟨its, rv, p1, _⟩ := I1.tuple hqx
        obtain ⟨its2, rv2, p2, _⟩ := I1.list hqy
        obtain ⟨o1, ho1, _⟩ := id p1
        refine callTL (show s1.heap.IsTuple a its.toArray from p1) p2.isList fun h' hz hTI hTO h1 h2 hsz hk => wpAny_pyIter_zip hz ?_
        have I2 : Inv X pins σ H1 { s1 with heap := h' } := I1.kept (t' := s1.toks) hk
        exact ⟨s1.heap.objs.size + 4, [s1.heap.objs.size + 4, s1.heap.objs.size + 2, s1.heap.objs.size + 3, s1.heap.objs.size, s1.heap.objs.size + 1], _, _, H1, rfl, I2, turn_zipM (t1 := true) (t2 := false) (PySem.W.ktu_apart s1.heap.objs.size a b (Heap.lt_size ho1) p2.lt), ⟨hz, hTI, ⟨_, _, hTO⟩, h1, h2⟩, fresh5, q⟩
end ZM
namespace Z
open PySem
open L2 (V Hp HO upd upd_same upd_ne ne_of_none)
section
variable {N : Addr → Prop} {H1 : Hp} {K : PySem.W.Frag}
theorem src_zipM {t1 t2 : Bool} {a b : Addr} {us vs : List V} {ds es : List D} (s1 : ∀ H N', Keeps N H1 N' H → ZM.SqA t1 K H a us) (r : RDs N H1 ds us) (s2 : ∀ H N', Keeps N H1 N' H → ZM.SqA t2 K H b vs) (r2 : RDs N H1 es vs) : Src N H1 (ZM.ItzM t1 t2 K a b) (zipD ds es) := by
  have el : (zipD ds es).length = min us.length vs.length := by rw [zip_len, r.length, r2.length]
  refine ⟨fun i H N' k hi => ?_, fun H N' k => ?_, fun i H N' x H' k hn hi y => ?_⟩
  · rw [el] at hi
    have l1 : i < us.length := by omega
    have l2 : i < vs.length := by omega
    exact ⟨us, vs, us[i], vs[i], s1 _ _ k, s2 _ _ k, List.getElem?_eq_getElem l1, List.getElem?_eq_getElem l2⟩
  · rw [el]; exact ⟨us, vs, s1 _ _ k, s2 _ _ k, by omega⟩
  · obtain ⟨T, x1, x2, rfl, hT, rfl, f1, f2⟩ := y
    obtain ⟨d1, g1, g2⟩ := r.getV (f1 us (s1 _ _ k))
    obtain ⟨d2, g3, g4⟩ := r2.getV (f2 vs (s2 _ _ k))
    exact ⟨_, zip_get g1 g3, rd_pair hn hT (RD.mono k _ _ g2) (RD.mono k _ _ g4), .inr ⟨T, _, hT, rfl⟩⟩
end
end Z
/-! ZEnu: enumerate over a tuple. -/
set_option linter.all false
set_option autoImplicit false
set_option maxHeartbeats 4000000
set_option maxRecDepth 100000
namespace Z
open PySem
open L2 (V Hp HO upd upd_same upd_ne ne_of_none)
open PySem.Spec PyProof.Rows
theorem meets_enumT (t : Addr) (items : Array Value) :
    Meets (Builtin.«enumerate.__new__» ⟨[.type "enumerate", .ref t], []⟩) (fun _ R s => s.heap.IsTuple t items ∧
      R (.ok (.ret (.ref (s.heap.push { cls := .type "tuple_iterator", data := .fields #[.ref t, .int 0 0] }).objs.size)))
        { s with heap := (s.heap.push { cls := .type "tuple_iterator", data := .fields #[.ref t, .int 0 0] }).push { cls := .type "enumerate", data := .fields #[.none, .bool false, .ref s.heap.objs.size, rawInt 0, .none, .none] } }) := by
  refine .of_wp fun prog w A R s h => ?_
  obtain ⟨hp, g, d, tk, os⟩ := s
  obtain ⟨ht, h⟩ := h
  have sub1 := sub_enumerate
  have it1 : ∀ {A' : Around} {E : Value → Shared → Prop} {Q : Value → Shared → Prop}, Q (.ref hp.objs.size) ⟨hp.push { cls := .type "tuple_iterator", data := .fields #[.ref t, .int 0 0] }, g, d, tk, os⟩ →
      wpAny (model prog w) A' (pyIter (.ref t)) Q E ⟨hp, g, d, tk, os⟩ := fun q => wpAny_pyIter_tuple (s := ⟨hp, g, d, tk, os⟩) ht q
  wp_walk using it1
  refine wpAny_stack_any fun st => wpAny_pure ?_
  split
  · rename_i c _ _ _ _ _
    cases (c == Value.type "enumerate") <;> (wp_walk using it1) <;> exact ⟨_, rfl, h⟩
  · wp_walk using it1
    exact ⟨_, rfl, h⟩
section
variable {prog : Program} {w : World} {A : Around} {E : Value → Shared → Prop} {s : Shared}
theorem call_enumT {t : Addr} {items : Array Value} {Q : Value → Shared → Prop} (ht : s.heap.IsTuple t items)
    (k : ∀ h', IsEnum h' (s.heap.objs.size + 1) s.heap.objs.size 0 .none → h'.IsTupleIter s.heap.objs.size t 0 → (∀ b o, s.heap.get? b = some o → h'.get? b = some o) → Q (.ref (s.heap.objs.size + 1)) { s with heap := h' }) :
    wpAny (model prog w) A (call (.type "enumerate") [.ref t]) Q E s := by
  refine callType_new F.called_enumerate (by decide) (F.typeCall_enumerate_1 _) (F.newCall_enumerate_1 _) (fun obj => F.args_object_init_2 obj _) F.entry_enumerate_new (meets_enumT t items) ⟨ht, ?_⟩
  generalize ho : ({ cls := .type "tuple_iterator", data := .fields #[.ref t, .int 0 0] } : Obj) = ob
  have sz : (s.heap.push ob).objs.size = s.heap.objs.size + 1 := Heap.size_push ..
  show _ ∧ _
  rw [sz]
  have at1 : IsEnum ((s.heap.push ob).push { cls := .type "enumerate", data := .fields #[.none, .bool false, .ref s.heap.objs.size, rawInt 0, .none, .none] }) (s.heap.objs.size + 1) s.heap.objs.size 0 .none := by
    have z := Heap.get?_push_size (s.heap.push ob) (o := { cls := .type "enumerate", data := .fields #[.none, .bool false, .ref s.heap.objs.size, rawInt 0, .none, .none] }) rfl
    rw [sz] at z
    exact z
  refine ⟨⟨_, at1, rfl⟩, k _ at1 ?_ fun b o x => Heap.get?_push_of_some _ (Heap.get?_push_of_some _ x)⟩
  subst ho
  exact ⟨_, Heap.get?_push_of_some _ (Heap.get?_push_size _ rfl), rfl, rfl⟩
end
/-- the tuple at a, each item in a new pair -/
def IteT (K : PySem.W.Frag) (a : Addr) : L2.It where
  go := fun i H => ∃ (xs : List V) (x : V), L2.SqT K H a xs ∧ xs[i]? = some x
  yld := fun i H v H' => ∃ T x, v = .ref T ∧ H T = none ∧ H' = upd H T (.tup [.int (i : Nat), x]) ∧ ∀ xs, L2.SqT K H a xs → xs[i]? = some x
  stop := fun i H => ∃ xs : List V, L2.SqT K H a xs ∧ xs.length ≤ i
theorem turn_enumT {P : Program} {w : World} {K : PySem.W.Frag} {es : List Expr} {k : Nat} {tp : Pos} (a e it : Addr) (n1 : e ≠ it) (n2 : a ≠ it) (n3 : e ≠ a) :
    L2.Turn P w K (.Tuple es k tp) (IteT K a) [e, it] e (fun i h => (∃ old, IsEnum h e it ((i : Nat) : Int) old) ∧ h.IsTupleIter it a i) where
  mem := by simp
  obj := by
    rintro i h ⟨⟨old, he⟩, o, ho, hc, hd⟩ b hb
    simp only [List.mem_cons, List.not_mem_nil, or_false] at hb
    rcases hb with z | z <;> subst z
    · exact ⟨_, he, fun v q => nomatch q⟩
    · exact ⟨o, ho, fun v q => by rw [hd] at q; cases q⟩
  keep := by
    rintro i h h' ⟨⟨old, he⟩, hi⟩ kk
    exact ⟨⟨old, kk e (by simp) _ he⟩, hi.at fun o q => kk it (by simp) o q⟩
  item := by
    rintro X rfl rfl rfl hc i pins s σ H E I hf ⟨⟨old, he⟩, hit⟩ ⟨xs, x, hq, hx⟩
    obtain ⟨its, rv, p, hz⟩ := I.tuple hq
    obtain ⟨u, hu, ru⟩ := rv.get hx
    have le : e < s.heap.objs.size := Heap.lt_size he
    have li : it < s.heap.objs.size := by obtain ⟨_, q, _⟩ := hit; exact Heap.lt_size q
    have ds := Draws.tuple (prog := X.prog) (w := X.w) (A := X.A.in1) (I.ok.hd hc) it a n2 its.toArray
    have hlt : i < its.toArray.size := by
      have := (List.getElem?_eq_some_iff.mp hu).1
      simpa using this
    refine wpAny_pyNext_enum_itemD ds he ⟨hit, p⟩ hlt n1 (by simp [n1, n3]) fun y h' tk hy ho hst hT hsz hk => ?_
    obtain rfl : u = y := by
      have hy2 : its.toArray[i]? = some y := hy
      rw [List.getElem?_toArray] at hy2
      exact Option.some.inj (hu.symm.trans hy2)
    refine ⟨_, rfl, wpAny_letOwnedTupleGo_enum (s := { s with heap := h', toks := tk + 1 }) ho fun h2 he2 sb => ?_⟩
    have hT2 : h2.get? s.heap.objs.size = some { cls := .type "tuple", data := .seq #[.int i tk, u] } := (sb.2 _ (Nat.ne_of_gt le)).trans hT
    have ok2 : L2.ObjOk X.prog X.w (upd H s.heap.objs.size (.tup [.int (i : Nat), x])) h2 s.heap.objs.size (.tup [.int (i : Nat), x]) :=
      ⟨by show 2 ≤ sizeLine; decide, [.int i tk, u], .cons ⟨_, rfl⟩ (.cons ru .nil), ⟨_, hT2, rfl, _, rfl⟩⟩
    have I1 : L2.Inv X pins σ (upd H s.heap.objs.size (.tup [.int (i : Nat), x])) { s with heap := h2, toks := tk + 1 } := by
      refine I.turnedNew (ch := [e, it]) (fun b ob hb q => ?_) hf (Nat.le_refl _) ok2
      simp only [List.mem_cons, List.not_mem_nil, or_false, not_or] at hb
      exact (sb.2 b hb.1).trans (hk b ob hb.1 hb.2 q)
    refine ⟨.ref s.heap.objs.size, _, I1, rfl, ⟨_, x, rfl, I.hok.fresh (Nat.le_refl _), rfl, fun ys hy => by rw [I.tuple_inj hy hq]; exact hx⟩, ⟨⟨u, ?_⟩, hst.1.at fun o q => (sb.2 it (Ne.symm n1)).trans q⟩, fun b hb => ?_⟩
    · have z : ((i + 1 : Nat) : Int) = (i : Int) + 1 := by omega
      rw [z]; exact he2
    · simp only [List.mem_cons, List.not_mem_nil, or_false] at hb
      have lb : b < s.heap.objs.size := by
        rcases hb with z | z <;> (rw [z]; assumption)
      rw [upd_ne (Nat.ne_of_lt lb)]
      exact (hf b (by simpa using hb)).1
  done := by
    rintro X rfl rfl rfl hc i pins s σ H E I hf ⟨⟨old, he⟩, hit⟩ ⟨xs, hq, hx⟩
    obtain ⟨its, rv, p, hz⟩ := I.tuple hq
    obtain ⟨f0, f1, f2, f3, f4, f5⟩ := hf it (by simp)
    have hl := rv.length
    have hn : its.toArray[i]? = none := by
      rw [List.getElem?_toArray, List.getElem?_eq_none_iff, ← hl]
      exact hx
    have dn : Draws X.prog X.w X.A.in1 it [it, a] i (fun _ _ => True) (fun j h => j = i ∧ h.IsTupleIter it a i ∧ h.IsTuple a its.toArray) :=
      { live := fun j h st => by obtain ⟨_, ⟨o, q, _⟩, _⟩ := st; exact ⟨o, q⟩
        frame := fun j h h' st kk => ⟨st.1, st.2.1.at fun o q => kk it (by simp) o q, st.2.2.at fun o q => kk a (by simp) o q⟩
        item := fun j s Q E hj st => absurd st.1 (Nat.ne_of_lt hj)
        done := fun s Q E st hE => wpAny_nextOf_tuple_end (I.ok.hd hc) st.2.1 st.2.2 hn hE }
    exact wpAny_pyNext_enum_endD dn he ⟨rfl, hit, p⟩ fun h' eb => ⟨rfl, I.turned (t' := s.toks) (fun b o hb q => eb b o hb q) f0 f1 f3 f4 f5⟩
  self := fun A i s Q E st h => let ⟨⟨_, he⟩, _⟩ := st; wpAny_pyIter_enum he h
/-- enumerate(x), x a list or a tuple -/
theorem pi_enumA {X : L2.Cx} {e : Expr} {ta : L2.TA} {p pos tp : Pos} {es : List Expr} {k : Nat} (hg : L2.Gl X "enumerate") (hm : X.mg "enumerate" = none) (ha : L2.PA X [e] ta) (hs : starEach [e] X.env = [(false, eval e X.env)]) :
    L2.PI X (.Tuple es k tp) (.Call (.Name "enumerate" p) [e] [] pos) (fun σ H R => ta σ H fun vs H1 => ∃ a, vs = [.ref a] ∧ ((∃ xs, H1 a = some (.lst xs) ∧ R (L2.Ite X.K a) H1) ∨ ∃ xs, H1 a = some (.tup xs) ∧ R (IteT X.K a) H1)) := by
  constructor
  intro pins s σ H R I h
  refine Call_ (L2.ld_blt I hg hm boot_enumerate (PyProof.Rows.callWith_type1 (L2.thn (ha.run pos pins s σ H _ I h) ?_) hs rfl))
  rintro us s1 ⟨vs, H1, I1, r1, a, rfl, q1⟩
  obtain ⟨u, rfl, ru⟩ := L2.Vals.one r1
  cases ru
  have fresh : ∀ b ∈ [s1.heap.objs.size + 1, s1.heap.objs.size], L2.FpOk X pins H1 b := by
    intro b hb
    simp only [List.mem_cons, List.not_mem_nil, or_false] at hb
    have hle : s1.heap.objs.size ≤ b := by omega
    exact I1.fpOk hle (I1.hok.fresh hle)
  rcases q1 with ⟨xs, hq, q⟩ | ⟨xs, hq, q⟩
  · obtain ⟨its, _, pl, _⟩ := I1.list (L2.SqL.of (K := X.K) hq)
    refine call_enumerate_list pl.isList fun h' he hit _ hk => wpAny_pyIter_enum he ?_
    exact ⟨s1.heap.objs.size + 1, [s1.heap.objs.size + 1, s1.heap.objs.size], _, _, H1, rfl, I1.kept (t' := s1.toks) hk, L2.turn_enum a (s1.heap.objs.size + 1) s1.heap.objs.size, ⟨⟨.none, he⟩, hit, Nat.succ_ne_self _⟩, fresh, q⟩
  · obtain ⟨its, _, pt, _⟩ := I1.tuple (L2.SqT.of (K := X.K) hq)
    have la : a < s1.heap.objs.size := by obtain ⟨_, q, _⟩ := id pt; exact Heap.lt_size q
    refine call_enumT (show s1.heap.IsTuple a its.toArray from pt) fun h' he hit hk => wpAny_pyIter_enum he ?_
    exact ⟨s1.heap.objs.size + 1, [s1.heap.objs.size + 1, s1.heap.objs.size], _, _, H1, rfl, I1.kept (t' := s1.toks) hk, turn_enumT a (s1.heap.objs.size + 1) s1.heap.objs.size (Nat.succ_ne_self _) (Nat.ne_of_lt la) (Ne.symm (Nat.ne_of_lt (Nat.lt_succ_of_lt la))), ⟨⟨.none, he⟩, hit⟩, fresh, q⟩
theorem src_enumT {N : Addr → Prop} {H1 : Hp} {K : PySem.W.Frag} {a : Addr} {us : List V} {ds : List D} (h : H1 a = some (.tup us)) (n : ¬ N a) (r : RDs N H1 ds us) : Src N H1 (IteT K a) (enumD 0 ds) := by
  have el : (enumD 0 ds).length = us.length := by rw [enum_len, r.length]
  refine ⟨fun i H N' k hi => ?_, fun H N' k => ?_, fun i H N' x H' k hn hi y => ?_⟩
  · rw [el] at hi
    exact ⟨us, us[i], .of (keeps_obj k h n), List.getElem?_eq_getElem hi⟩
  · rw [el]; exact ⟨us, .of (keeps_obj k h n), Nat.le_refl _⟩
  · obtain ⟨T, x2, rfl, hT, rfl, f2⟩ := y
    obtain ⟨d2, g3, g4⟩ := r.getV (f2 us (.of (keeps_obj k h n)))
    refine ⟨_, enum_get g3, ?_, .inr ⟨T, _, hT, rfl⟩⟩
    rw [Nat.zero_add]
    exact rd_pair hn hT (by rw [RD]) (RD.mono k _ _ g4)
end Z
/-! ZIo: the iterators of a for. -/
set_option linter.all false
set_option autoImplicit false
set_option maxHeartbeats 4000000
set_option maxRecDepth 4000
namespace Z
open PySem
open L2 (V Hp HO upd upd_same upd_ne ne_of_none)
section
variable {T : Tab} {Γ : Calls} {C : Str → Option D} {X : L2.Cx}
theorem LOk.one {e : E} {x : Expr} (h : EOk X (ev Γ C e) x) (p : plainX x = true) : LOk X Γ C (.cons e .nil) [x] := by
  rw [LOk]
  exact ⟨x, [], rfl, p, h, by rw [LOk]⟩
theorem LOk.two {e e2 : E} {x x2 : Expr} (h : EOk X (ev Γ C e) x) (p : plainX x = true) (h2 : EOk X (ev Γ C e2) x2) (p2 : plainX x2 = true) : LOk X Γ C (.cons e (.cons e2 .nil)) [x, x2] := by
  rw [LOk]
  exact ⟨x, [x2], rfl, p, h, .one h2 p2⟩
theorem RD.lst {N : Addr → Prop} {H : Hp} {ds : List D} {v : V} (h : RD N H (.list ds) v) : ∃ a vs, v = .ref a ∧ H a = some (.lst vs) ∧ ¬ N a ∧ RDs N H ds vs := by rwa [RD] at h
theorem RD.tup {N : Addr → Prop} {H : Hp} {ds : List D} {v : V} (h : RD N H (.tuple ds) v) : ∃ a vs, v = .ref a ∧ H a = some (.tup vs) ∧ ¬ N a ∧ RDs N H ds vs := by rwa [RD] at h
theorem RD.int {N : Addr → Prop} {H : Hp} {i : Int} {v : V} (h : RD N H (.int i) v) : v = .int i := by rwa [RD] at h
theorem RDs.one {N : Addr → Prop} {H : Hp} {d : D} {vs : List V} (h : RDs N H [d] vs) : ∃ v, vs = [v] ∧ RD N H d v := by
  rw [RDs] at h
  obtain ⟨v, r, e, h1, h2⟩ := h
  rw [RDs] at h2
  subst h2
  exact ⟨v, e, h1⟩
theorem RDs.two {N : Addr → Prop} {H : Hp} {d d2 : D} {vs : List V} (h : RDs N H [d, d2] vs) : ∃ v v2, vs = [v, v2] ∧ RD N H d v ∧ RD N H d2 v2 := by
  rw [RDs] at h
  obtain ⟨v, r, e, h1, h2⟩ := h
  obtain ⟨v2, e2, h3⟩ := h2.one
  subst e2
  exact ⟨v, v2, e, h1, h3⟩
theorem io_val {e : E} {x tg : Expr} (h : L2.PE X x (tEv X.K (ev Γ C e))) : L2.PI X tg x (tIv X.K (evI Γ C (.val e))) := by
  refine PI.weak (pi_lt h) fun σ H R ⟨ρ, st, ι, P, ds, st', R0, e0, hR⟩ => ?_
  rw [evI] at e0
  simp only [Option.bind_eq_some_iff, Option.map_eq_some_iff] at e0
  obtain ⟨p, e1, y, ef, xs, e2, e3⟩ := e0
  cases e3
  refine one R0 e1 fun v1 H1 ι1 p1 A V => ?_
  obtain ⟨B, D1⟩ := A.fix V ef
  obtain ⟨yd, ys⟩ := y
  cases yd with
  | list ds =>
    cases e2
    obtain ⟨a, vs, rfl, h1, h2, h3⟩ := D1.lst
    exact ⟨a, rfl, .inl ⟨vs, h1, hR _ H1 ι1 B (src_list h1 h2 h3)⟩⟩
  | tuple ds =>
    cases e2
    obtain ⟨a, vs, rfl, h1, h2, h3⟩ := D1.tup
    exact ⟨a, rfl, .inr ⟨vs, h1, hR _ H1 ι1 B (src_tup h1 h2 h3)⟩⟩
  | _ => cases e2
theorem rg62 {a b : Int} (h : rgOk a b = true) : -(2 ^ 62) ≤ a ∧ a < 2 ^ 62 ∧ -(2 ^ 62) ≤ b ∧ b < 2 ^ 62 := by
  obtain ⟨h1, h2, h3, h4, _⟩ := rgOk_ok h
  exact ⟨h1, h2, h3, h4⟩
theorem io_rng1 (g : Good T Γ C X) {es : Es} {n : Str} {p pos : Pos} {y tg : Expr} (h1 : nameB n "range" = true) (h2 : glB X.env.scope n = true) (h : LOk X Γ C es [y]) :
    L2.PI X tg (.Call (.Name n p) [y] [] pos) (tIv X.K (evI Γ C (.rng es))) := by
  obtain rfl := nameB_ok h1
  have hp := h.plains
  rw [plainXs, Bool.and_eq_true] at hp
  refine PI.weak (L2.pi_range1 (glB_ok h2) (g.blt _ (by simp [bltAll])) (pa_d h) (star_of hp.1)) fun σ H R ⟨ρ, st, ι, P, ds, st', R0, e0, hR⟩ => ?_
  rw [evI] at e0
  simp only [Option.bind_eq_some_iff] at e0
  obtain ⟨q, e1, e2⟩ := e0
  have hl := evD_len h (show evD Γ C es ρ st = some (q.1, q.2) from e1)
  split at e2
  · rename_i k ek
    split at e2
    · rename_i hr
      cases e2
      refine ⟨ρ, st, ι, P, q.1, q.2, R0, e1, fun vs H1 ι1 A V => ?_⟩
      rw [ek] at V
      obtain ⟨v, rfl, V0⟩ := V.one
      rw [V0.int]
      have := rg62 hr
      exact ⟨k, rfl, this.2.2.1, this.2.2.2, hR _ H1 ι1 A src_range⟩
    · cases e2
  · rename_i i j ek
    rw [ek] at hl
    cases hl
  · cases e2
theorem io_rng2 (g : Good T Γ C X) {es : Es} {n : Str} {p pos : Pos} {y z tg : Expr} (h1 : nameB n "range" = true) (h2 : glB X.env.scope n = true) (h : LOk X Γ C es [y, z]) :
    L2.PI X tg (.Call (.Name n p) [y, z] [] pos) (tIv X.K (evI Γ C (.rng es))) := by
  obtain rfl := nameB_ok h1
  have hp := h.plains
  simp only [plainXs, Bool.and_eq_true] at hp
  refine PI.weak (L2.pi_range2 (glB_ok h2) (g.blt _ (by simp [bltAll])) (pa_d h) ((star_of hp.1).trans (by rw [star_of hp.2.1]; rfl)) (star_of hp.2.1)) fun σ H R ⟨ρ, st, ι, P, ds, st', R0, e0, hR⟩ => ?_
  rw [evI] at e0
  simp only [Option.bind_eq_some_iff] at e0
  obtain ⟨q, e1, e2⟩ := e0
  have hl := evD_len h (show evD Γ C es ρ st = some (q.1, q.2) from e1)
  split at e2
  · rename_i k ek
    rw [ek] at hl
    cases hl
  · rename_i i j ek
    split at e2
    · rename_i hr
      cases e2
      refine ⟨ρ, st, ι, P, q.1, q.2, R0, e1, fun vs H1 ι1 A V => ?_⟩
      rw [ek] at V
      obtain ⟨v, v2, rfl, V0, V2⟩ := V.two
      rw [V0.int, V2.int]
      exact ⟨i, j, rfl, rg62 hr, hR _ H1 ι1 A src_range⟩
    · cases e2
  · cases e2
theorem io_zip (g : Good T Γ C X) {a b : E} {n : Str} {p pos tp : Pos} {k : Nat} {y z : Expr} {elts : List Expr} (h1 : nameB n "zip" = true) (h2 : glB X.env.scope n = true) (h : LOk X Γ C (.cons a (.cons b .nil)) [y, z]) :
    L2.PI X (.Tuple elts k tp) (.Call (.Name n p) [y, z] [] pos) (tIv X.K (evI Γ C (.zip a b))) := by
  obtain rfl := nameB_ok h1
  have hp := h.plains
  simp only [plainXs, Bool.and_eq_true] at hp
  refine PI.weak (ZM.pi_zip4 (glB_ok h2) (g.blt _ (by simp [bltAll])) (pa_d h) (star_of hp.1) (any_of (by rw [plainXs, hp.2.1]; rfl))) fun σ H R ⟨ρ, st, ι, P, ds, st', R0, e0, hR⟩ => ?_
  rw [evI] at e0
  simp only [Option.bind_eq_some_iff, Option.map_eq_some_iff] at e0
  obtain ⟨q1, e1, y1, e2, q2, e3, y2, e4, xs, e5, e6⟩ := e0
  cases e6
  have e7 : evD Γ C (.cons a (.cons b .nil)) ρ st = some ([y1.1, y2.1], y2.2) := by
    simp only [evD, e1, e2, e3, e4, Option.bind_some, Option.map_some]
  refine ⟨ρ, st, ι, P, _, y2.2, R0, e7, fun vs H1 ι1 A V => ?_⟩
  obtain ⟨v, v2, rfl, V1, V2⟩ := V.two
  obtain ⟨d1, s1⟩ := y1
  obtain ⟨d2, s2⟩ := y2
  unfold zipK at e5
  split at e5
  · rename_i us ws f1 f2
    cases e5
    rw [f1] at V1
    rw [f2] at V2
    obtain ⟨a1, u1, rfl, k1, k2, k3⟩ := V1.lst
    obtain ⟨a2, u2, rfl, l1, l2, l3⟩ := V2.lst
    exact ⟨a1, a2, u1, u2, rfl, .inl ⟨.of k1, .of l1, hR _ H1 ι1 A (src_zipL k1 k2 k3 l1 l2 l3)⟩⟩
  · rename_i us ws f1 f2
    cases e5
    rw [f1] at V1
    rw [f2] at V2
    obtain ⟨a1, u1, rfl, k1, k2, k3⟩ := V1.tup
    obtain ⟨a2, u2, rfl, l1, l2, l3⟩ := V2.tup
    exact ⟨a1, a2, u1, u2, rfl, .inr (.inl ⟨.of k1, .of l1, hR _ H1 ι1 A (src_zipT k1 k2 k3 l1 l2 l3)⟩)⟩
  · rename_i us ws f1 f2
    cases e5
    rw [f1] at V1
    rw [f2] at V2
    obtain ⟨a1, u1, rfl, k1, k2, k3⟩ := V1.lst
    obtain ⟨a2, u2, rfl, l1, l2, l3⟩ := V2.tup
    exact ⟨a1, a2, u1, u2, rfl, .inr (.inr (.inl ⟨.of k1, .of l1, hR _ H1 ι1 A (src_zipM (t1 := false) (t2 := true) (fun H N' k => L2.SqL.of (keeps_obj k k1 k2)) k3 (fun H N' k => L2.SqT.of (keeps_obj k l1 l2)) l3)⟩))⟩
  · rename_i us ws f1 f2
    cases e5
    rw [f1] at V1
    rw [f2] at V2
    obtain ⟨a1, u1, rfl, k1, k2, k3⟩ := V1.tup
    obtain ⟨a2, u2, rfl, l1, l2, l3⟩ := V2.lst
    exact ⟨a1, a2, u1, u2, rfl, .inr (.inr (.inr ⟨.of k1, .of l1, hR _ H1 ι1 A (src_zipM (t1 := true) (t2 := false) (fun H N' k => L2.SqT.of (keeps_obj k k1 k2)) k3 (fun H N' k => L2.SqL.of (keeps_obj k l1 l2)) l3)⟩))⟩
  · cases e5
theorem io_enum (g : Good T Γ C X) {a : E} {n : Str} {p pos tp : Pos} {k : Nat} {y : Expr} {elts : List Expr} (h1 : nameB n "enumerate" = true) (h2 : glB X.env.scope n = true) (h : LOk X Γ C (.cons a .nil) [y]) :
    L2.PI X (.Tuple elts k tp) (.Call (.Name n p) [y] [] pos) (tIv X.K (evI Γ C (.enum a))) := by
  obtain rfl := nameB_ok h1
  have hp := h.plains
  simp only [plainXs, Bool.and_eq_true] at hp
  refine PI.weak (pi_enumA (glB_ok h2) (g.blt _ (by simp [bltAll])) (pa_d h) (star_of hp.1)) fun σ H R ⟨ρ, st, ι, P, ds, st', R0, e0, hR⟩ => ?_
  rw [evI] at e0
  simp only [Option.bind_eq_some_iff, Option.map_eq_some_iff] at e0
  obtain ⟨q1, e1, y1, e2, xs, e5, e6⟩ := e0
  cases e6
  have e7 : evD Γ C (.cons a .nil) ρ st = some ([y1.1], y1.2) := by
    simp only [evD, e1, e2, Option.bind_some, Option.map_some]
  refine ⟨ρ, st, ι, P, _, y1.2, R0, e7, fun vs H1 ι1 A V => ?_⟩
  obtain ⟨v, rfl, V1⟩ := V.one
  obtain ⟨d1, s1⟩ := y1
  unfold enumK at e5
  split at e5
  · rename_i us f1
    cases e5
    rw [f1] at V1
    obtain ⟨a1, u1, rfl, k1, k2, k3⟩ := V1.lst
    exact ⟨a1, rfl, .inl ⟨u1, k1, hR _ H1 ι1 A (src_enum k1 k2 k3)⟩⟩
  · rename_i us f1
    cases e5
    rw [f1] at V1
    obtain ⟨a1, u1, rfl, k1, k2, k3⟩ := V1.tup
    exact ⟨a1, rfl, .inr ⟨u1, k1, hR _ H1 ι1 A (src_enumT k1 k2 k3)⟩⟩
  · cases e5
end
end Z
/-! ZLc: list comprehensions. -/
set_option linter.all false
set_option autoImplicit false
set_option maxHeartbeats 4000000
set_option maxRecDepth 4000
namespace Z
open PySem
open L2 (V Hp HO upd upd_same upd_ne ne_of_none)

/-! ### names forgotten -/
theorem wipeW_get {i : Nat} : ∀ {vs : List Nat} {ρ : Slots}, (wipeW ρ vs)[i]? = if i ∈ vs then (ρ[i]?).map (fun _ => none) else ρ[i]?
  | [], ρ => by simp [wipeW]
  | v :: vs, ρ => by
    rw [wipeW, wipeW_get (vs := vs)]
    by_cases h1 : v = i
    · subst h1
      rw [List.getElem?_set]
      simp only [if_true, List.mem_cons, true_or]
      by_cases h2 : v < ρ.length
      · simp [h2]
      · simp [h2]
    · rw [List.getElem?_set_ne h1]
      have : i ∈ v :: vs ↔ i ∈ vs := by simp [Ne.symm h1]
      simp only [this]
theorem wipe_get {i : Nat} {σ : L2.St} : ∀ {vs : List Nat}, (L2.wipe σ vs)[i]? = if i ∈ vs then (σ[i]?).map (fun _ => none) else σ[i]?
  | [] => by simp [L2.wipe]
  | v :: vs => by
    rw [L2.wipe]
    by_cases h1 : v = i
    · subst h1
      rw [List.getElem?_set, L2.wipe_length]
      simp only [if_true, List.mem_cons, true_or]
      by_cases h2 : v < σ.length
      · simp [h2]
      · simp [h2]
    · rw [List.getElem?_set_ne h1, wipe_get (vs := vs)]
      have : i ∈ v :: vs ↔ i ∈ vs := by simp [Ne.symm h1]
      simp only [this]
theorem wipeW_length : ∀ {vs : List Nat} {ρ : Slots}, (wipeW ρ vs).length = ρ.length
  | [], ρ => rfl
  | v :: vs, ρ => by rw [wipeW, wipeW_length]; simp
theorem wipe_eq {σ σ2 : L2.St} {vs : List Nat} (hl : σ2.length = σ.length) (h : ∀ i, i ∉ vs → σ2[i]? = σ[i]?) : L2.wipe σ2 vs = L2.wipe σ vs := by
  apply List.ext_getElem?
  intro i
  rw [wipe_get, wipe_get]
  by_cases hi : i ∈ vs
  · rw [if_pos hi, if_pos hi]
    by_cases hs : i < σ.length
    · rw [List.getElem?_eq_getElem hs, List.getElem?_eq_getElem (by omega)]; rfl
    · rw [List.getElem?_eq_none (by omega), List.getElem?_eq_none (by omega)]
  · rw [if_neg hi, if_neg hi, h i hi]
section
variable {K : PySem.W.Frag} {ρ ρ2 : Slots} {σ σ2 : L2.St} {st st1 st2 : Store} {ι ι1 ι2 P p q : List Addr} {H H1 H2 : Hp}
theorem Rel.wipe (R : Rel K ρ st ι P σ H) (vs : List Nat) : Rel K (wipeW ρ vs) st ι P (L2.wipe σ vs) H := by
  refine ⟨R.len, by rw [wipeW_length, L2.wipe_length]; exact R.ls, R.nd, fun i w e => ?_, R.ce, R.pe⟩
  rw [wipeW_get] at e
  by_cases hi : i ∈ vs
  · rw [if_pos hi] at e
    simp only [Option.map_eq_some_iff] at e
    obtain ⟨_, _, e⟩ := e
    cases e
  · rw [if_neg hi] at e
    rw [wipe_get, if_neg hi]
    exact R.sl i w e
/-- other names over the same lists -/
theorem Rel.swap (R : Rel K ρ st ι P σ H) (R2 : Rel K ρ2 st1 ι1 P σ2 H1) (s : Step st ι H st1 ι1 H1) : Rel K ρ st1 ι1 P σ H1 := by
  refine ⟨R2.len, R.ls, R2.nd, fun i w e => ?_, R2.ce, R2.pe⟩
  obtain ⟨v, e1, h⟩ := R.sl i w e
  exact ⟨v, e1, h.keeps (s.keeps (p := []) fun _ h => nomatch h) s.le s.pre⟩
/-- a list that is being made grows -/
theorem keeps_pend {a : Addr} {o : HO} (ha : a ∈ P) : Keeps (Mt st ι P) H (Mt st ι P) (upd H a o) := fun b _ nb => ⟨upd_ne fun z => nb (.inl (by rw [z]; exact ha)), nb⟩
theorem Rel.pend {a : Addr} {o : HO} (R : Rel K ρ st ι P σ H) (ha : a ∈ P) : Rel K ρ st ι P σ (upd H a o) := by
  have k := keeps_pend (st := st) (ι := ι) (H := H) (o := o) ha
  refine ⟨R.len, R.ls, R.nd, fun i w e => ?_, fun m d e => ?_, fun b hb => ?_⟩
  · obtain ⟨v, e1, h⟩ := R.sl i w e
    exact ⟨v, e1, h.keeps k (Nat.le_refl _) fun _ _ z => z⟩
  · obtain ⟨b, vs, e1, e2, e3⟩ := R.ce m d e
    have ne : b ≠ a := fun z => (List.nodup_append.mp R.nd).2.2 a ha b (List.mem_of_getElem? e1) z.symm
    exact ⟨b, vs, e1, (upd_ne ne).trans e2, RDs.mono k _ _ e3⟩
  · by_cases z : b = a
    · rw [z, upd_same]; exact fun z => nomatch z
    · rw [upd_ne z]; exact R.pe b hb
/-- the heap, or one object more -/
def Grow (H H' : Hp) : Prop := H' = H ∨ ∃ T o, H T = none ∧ H' = upd H T o
theorem Rel.grow (R : Rel K ρ st ι P σ H) (g : Grow H H1) : Rel K ρ st ι P σ H1 := by
  rcases g with rfl | ⟨T, o, h, rfl⟩
  · exact R
  · exact R.alloc h [] (.inl rfl)
theorem Step.grow (g : Grow H H1) : Step st ι H st ι H1 := by
  rcases g with rfl | ⟨T, o, h, rfl⟩
  · exact .refl
  · exact .alloc h
theorem Grow.at {a : Addr} {o : HO} (g : Grow H H1) (h : H a = some o) : H1 a = some o := by
  rcases g with rfl | ⟨T, o, hT, rfl⟩
  · exact h
  · rw [upd_ne fun z => by rw [z, hT] at h; cases h]; exact h
theorem Grow.keeps {N : Addr → Prop} (g : Grow H H1) : Keeps N H N H1 := by
  rcases g with rfl | ⟨T, o, hT, rfl⟩
  · exact fun _ _ n => ⟨rfl, n⟩
  · exact fun b hb n => ⟨upd_ne fun z => hb (z ▸ hT), n⟩

/-! ### targets -/
def gAll : List Nat → L2.TGs
  | [] => L2.gNil
  | i :: r => L2.gCons (L2.gName i) (gAll r)
def tgG (K : PySem.W.Frag) (tg : List Nat) (fl : Bool) : L2.TG :=
  if fl then (match tg with
    | [i] => L2.gName i
    | _ => fun _ _ _ _ => False)
  else L2.gTup K tg.length (gAll tg)
theorem set_out {σ : L2.St} {i j : Nat} {v : Option V} (h : i ≠ j) : (σ.set i v)[j]? = σ[j]? := List.getElem?_set_ne h
theorem all_ok : ∀ {tg : List Nat} {xs : List D} {vs : List V} {ρ ρ' : Slots} {σ : L2.St} {Q : L2.St → Hp → Prop}, setAll ρ tg xs = some ρ' → Rel K ρ st ι P σ H → RDs (Mt st ι P) H xs vs →
    (∀ σ', Rel K ρ' st ι P σ' H → σ'.length = σ.length → (∀ j, j ∉ tg → σ'[j]? = σ[j]?) → Q σ' H) → gAll tg vs σ H Q
  | [], xs, vs, ρ, ρ', σ, Q, e, R, h, k => by
    cases xs with
    | cons _ _ => cases e
    | nil =>
      cases e
      rw [RDs] at h
      exact ⟨h, k σ R rfl fun _ _ => rfl⟩
  | i :: r, xs, vs, ρ, ρ', σ, Q, e, R, h, k => by
    cases xs with
    | nil => cases e
    | cons x xs =>
      rw [RDs] at h
      obtain ⟨v, us, rfl, h1, h2⟩ := h
      refine ⟨v, us, rfl, all_ok (show setAll (ρ.set i (some (.d x))) r xs = some ρ' from e) (R.slot (w := .d x) h1) h2 fun σ' R' hl ho => k σ' R' (by rw [hl]; simp) fun j hj => ?_⟩
      rw [List.mem_cons, not_or] at hj
      rw [ho j hj.2, set_out (Ne.symm hj.1)]
theorem setAll_len : ∀ {tg : List Nat} {xs : List D} {ρ ρ' : Slots}, setAll ρ tg xs = some ρ' → xs.length = tg.length
  | [], [], _, _, _ => rfl
  | [], _ :: _, _, _, h => by cases h
  | _ :: _, [], _, _, h => by cases h
  | i :: r, x :: xs, ρ, ρ', h => by simp [setAll_len (show setAll (ρ.set i (some (.d x))) r xs = some ρ' from h)]
theorem bind_ok {tg : List Nat} {fl : Bool} {d : D} {v : V} {ρ' : Slots} {Q : L2.St → Hp → Prop} (e : bindD ρ tg fl d = some ρ') (R : Rel K ρ st ι P σ H) (h : RD (Mt st ι P) H d v)
    (k : ∀ σ', Rel K ρ' st ι P σ' H → σ'.length = σ.length → (∀ j, j ∉ tg → σ'[j]? = σ[j]?) → Q σ' H) : tgG K tg fl v σ H Q := by
  unfold bindD at e
  unfold tgG
  cases fl with
  | true =>
    simp only [if_true] at e ⊢
    match tg, e with
    | [i], e =>
      cases e
      exact k _ (R.slot (w := .d d) h) (by simp) fun j hj => set_out (by simp at hj; exact Ne.symm hj)
  | false =>
    simp only [Bool.false_eq_true, if_false] at e ⊢
    split at e
    · obtain ⟨a, vs, rfl, h1, _, h2⟩ := h.tup
      exact ⟨a, vs, rfl, .of h1, by rw [← h2.length, setAll_len e], all_ok e R h2 k⟩
    · cases e
theorem pgs_of {X : L2.Cx} {ok : Str → Bool} (hN : X.N.Nodup) (hok : ∀ n, ok n = true → L2.Loc X.env.scope n ∧ (X.fn n = true ∨ X.env.scope.names.lookup n = some .local)) : ∀ {tg : List Nat} {es : List Expr}, chkNms X.N ok tg es = true →
    L2.PGs X es (gAll tg) ∧ (assignEach es X.env).length = tg.length ∧ (assignEach es X.env).findIdx? (·.1) = none
  | [], [], _ => ⟨L2.pgs_nil, rfl, rfl⟩
  | [], _ :: _, h => by cases h
  | _ :: _, [], h => by cases h
  | i :: r, e :: es, h => by
    cases e with
    | Name n p =>
      simp only [chkNms, Bool.and_eq_true] at h
      obtain ⟨k1, k2⟩ := hok n h.1.2
      obtain ⟨i1, i2, i3⟩ := pgs_of hN hok h.2
      refine ⟨L2.pgs_cons (L2.pg_name hN (slotB_ok h.1.1) k1 k2) i1, ?_, ?_⟩
      · show (assignEach es X.env).length + 1 = _
        rw [i2]; rfl
      · show ((false, assign (.Name n p) X.env) :: assignEach es X.env).findIdx? (·.1) = none
        rw [List.findIdx?_cons, i3]; rfl
    | _ => cases h
theorem pg_of {X : L2.Cx} {ok : Str → Bool} (hc : X.calm = true) (hN : X.N.Nodup) (hok : ∀ n, ok n = true → L2.Loc X.env.scope n ∧ (X.fn n = true ∨ X.env.scope.names.lookup n = some .local)) {tg : List Nat} {fl : Bool} {t : Expr} (h : chkTg X.N ok tg fl t = true) :
    L2.PG X t (tgG X.K tg fl) := by
  unfold chkTg at h
  unfold tgG
  cases fl with
  | true =>
    simp only [if_true] at h ⊢
    match tg, t, h with
    | [i], .Name n p, h =>
      simp only [chkNms, Bool.and_eq_true] at h
      obtain ⟨k1, k2⟩ := hok n h.1.2
      exact L2.pg_name hN (slotB_ok h.1.1) k1 k2
    | i :: j :: r, .Name n p, h => simp [chkNms] at h
    | [], _, h => simp [chkNms] at h
  | false =>
    simp only [Bool.false_eq_true, if_false] at h ⊢
    split at h
    · obtain ⟨i1, i2, i3⟩ := pgs_of hN hok h
      exact L2.pg_tup hc i1 i2 i3
    · cases h
end

/-! ### the comprehension -/
theorem compL_len {body : D → Store → Option (Option D × Store)} : ∀ {xs : List D} {st st' : Store} {ys : List D}, compL body xs st = some (ys, st') → ys.length ≤ sizeLine
  | [], st, st', ys, h => by cases h; exact Nat.zero_le _
  | x :: xs, st, st', ys, h => by
    simp only [compL, Option.bind_eq_some_iff] at h
    obtain ⟨p, e1, q, e2, e3⟩ := h
    split at e3
    · split at e3
      · rename_i hl
        cases e3
        simp only [List.length_cons]
        omega
      · cases e3
    · cases e3
      exact compL_len (show compL body xs p.2 = some (ys, st') from e2)
section
variable {T : Tab} {Γ : Calls} {C : Str → Option D} {X : L2.Cx}
theorem lc_t {own tg : List Nat} {fl : Bool} {elt : E} {it : It} {cs : Es} {σ : L2.St} {H : Hp} {Q : L2.VK} (hs : ∀ i ∈ tg, i ∈ own) (h : tEv X.K (ev Γ C (.lc own elt tg fl it cs)) σ H Q) :
    L2.tLc (tIv X.K (evI Γ C it)) (tgG X.K tg fl) (tTv X.K (evC Γ C cs)) (tEv X.K (ev Γ C elt)) own σ H Q := by
  obtain ⟨ρ, st, ι, P, w, st', R, e, hQ⟩ := h
  rw [ev] at e
  simp only [Option.bind_eq_some_iff, Option.map_eq_some_iff] at e
  obtain ⟨p, e1, q, e2, e3⟩ := e
  generalize hb : (fun (x : D) (st : Store) => (bindD (wipeW ρ own) tg fl x).bind fun ρ' => (evC Γ C cs ρ' st).bind fun q =>
        if q.1 then (ev Γ C elt ρ' q.2).bind fun r => (fix r.2 r.1).map fun y => (some y.1, y.2) else some (none, q.2)) = body at e2
  cases e3
  refine ⟨ρ, st, ι, P, p.1, p.2, R, e1, fun J H1 ι1 A S D hD => ?_⟩
  let Pv : Nat → Hp → Prop := fun i H' => ∃ si ιi acc us rest, Rel X.K ρ si ιi ([D] ++ P) σ H' ∧ Step p.2 ι1 H1 si ιi H' ∧ H' D = some (.lst us) ∧ RDs (Mt si ιi ([D] ++ P)) H' acc us ∧ compL body (p.1.drop i) si = some (rest, q.2) ∧ q.1 = acc ++ rest
  have hlen : q.1.length ≤ sizeLine := compL_len (show compL body p.1 p.2 = some (q.1, q.2) from e2)
  have kp : ∀ {si ιi H'}, Step p.2 ι1 H1 si ιi H' → Keeps (Mt p.2 ι1 P) H1 (Mt si ιi ([D] ++ P)) H' := fun s => s.keeps fun a ha => by
    rw [List.mem_singleton] at ha
    rw [ha]; exact hD
  refine ⟨fun i m H' => m = p.1.length - i ∧ i ≤ p.1.length ∧ Pv i H', ⟨p.1.length, rfl, Nat.zero_le _, p.2, ι1, [], [], q.1, A.rel.alloc hD [D] (.inr rfl), .alloc hD, upd_same, .nil, e2, rfl⟩, ?_⟩
  rintro i m H' ⟨rfl, hi, si, ιi, acc, us, rest, Ri, Si, hDi, hacc, ei, eq⟩
  by_cases hlt : i < p.1.length
  rotate_left
  · have hin : i = p.1.length := by omega
    subst hin
    rw [List.drop_length] at ei
    cases ei
    rw [List.append_nil] at eq
    refine .inl ⟨S.stop _ _ (kp Si), hQ (.ref D) H' ιi [D] ⟨Ri, A.step.trans Si, fun a ha => ?_⟩ ⟨D, us, rfl, by simp, rfl, hDi, by rw [eq]; exact hacc⟩⟩
    rw [List.mem_singleton] at ha
    rw [ha]; exact A.step.new hD
  refine .inr ⟨S.go _ _ _ (kp Si) hlt, Pv (i + 1), fun H2 p' => ⟨p.1.length - (i + 1), by omega, rfl, hlt, p'⟩, fun x H2 y => ?_⟩
  obtain ⟨d, f1, f2, f3⟩ := S.yld _ _ _ _ _ (kp Si) (fun b hb => Ri.mt_ne hb) hlt y
  have gr : Grow H' H2 := f3
  have R2 := Ri.grow gr
  have S2 := Si.trans (.grow gr)
  have hD2 := gr.at hDi
  have hacc2 := RDs.mono (gr.keeps (N := Mt si ιi ([D] ++ P))) _ _ hacc
  have hd : p.1.drop i = d :: p.1.drop (i + 1) := by
    obtain ⟨h1, h2⟩ := List.getElem?_eq_some_iff.mp f1
    rw [← h2]
    exact List.drop_eq_getElem_cons h1
  rw [hd] at ei
  simp only [compL, Option.bind_eq_some_iff] at ei
  obtain ⟨pb, g1, qb, g2, g3⟩ := ei
  rw [← hb] at g1
  simp only [Option.bind_eq_some_iff] at g1
  obtain ⟨ρ', g4, qc, g5, g6⟩ := g1
  refine bind_ok g4 (R2.wipe own) f2 fun σ2 R3 hl ho => ⟨?_, ?_⟩
  · rw [wipe_eq (σ := L2.wipe σ own) hl fun j hj => ho j fun z => hj (hs j z)]
    exact wipe_eq (by rw [L2.wipe_length]) fun j hj => L2.wipe_out hj
  refine ⟨ρ', si, ιi, [D] ++ P, qc.1, qc.2, R3, g5, fun H4 ι4 A4 => ?_⟩
  have keepD : ∀ {s' ι' H''}, Step si ιi H2 s' ι' H'' → H'' D = some (.lst us) := fun s => (s.keep D (by rw [hD2]; exact fun z => nomatch z) (R2.pfree D (by simp))).trans hD2
  have S4 := A4.step
  cases hk : qc.1 with
  | false =>
    rw [hk] at g6
    simp only [Bool.false_eq_true, if_false] at g6 ⊢
    cases g6
    cases g3
    refine ⟨qc.2, ι4, acc, us, rest, R2.swap A4.rel S4, S2.trans S4, keepD S4, RDs.mono (S4.keeps (p := []) fun _ h => nomatch h) _ _ hacc2, g2, eq⟩
  | true =>
    rw [hk] at g6
    simp only [if_true, Option.bind_eq_some_iff, Option.map_eq_some_iff] at g6 ⊢
    obtain ⟨r, g7, z, g8, g9⟩ := g6
    cases g9
    simp only at g3
    split at g3
    · simp only [Option.some.injEq, Prod.mk.injEq] at g3
      obtain ⟨er, hq2⟩ := g3
      subst er
      refine ⟨ρ', qc.2, ι4, [D] ++ P, r.1, r.2, A4.rel, g7, fun v H5 ι5 p5 A5 V5 => ?_⟩
      obtain ⟨B, DV⟩ := A5.fix V5 g8
      have S5 := S4.trans B.step
      have hz : us.length < sizeLine := by
        have h1 := congrArg List.length eq
        rw [List.length_append, List.length_cons] at h1
        have h2 := hacc.length
        omega
      have R5 : Rel X.K ρ z.2 ι5 ([D] ++ P) σ H5 := R2.swap B.rel S5
      have hm : D ∈ [D] ++ P := by simp
      refine ⟨us, keepD S5, hz, z.2, ι5, acc ++ [z.1], us ++ [v], qb.1, R5.pend hm, ?_, upd_same, ?_, by rw [← hq2]; exact g2, by rw [eq]; simp⟩
      · have S6 := S2.trans S5
        refine ⟨fun a ha na => ?_, S6.safe, S6.le, S6.pre, fun a ha => ?_⟩
        · rw [upd_ne fun z => ha (by rw [z]; exact hD)]
          exact S6.keep a ha na
        · rw [upd_ne fun z => ha (by rw [z]; exact hD)]
          exact S6.all a ha
      · exact RDs.mono (keeps_pend hm) _ _ ((RDs.mono (S5.keeps (p := []) fun _ h => nomatch h) _ _ hacc2).append (.cons DV .nil))
    · cases g3
end
end Z
/-! ZMas: every expression. -/
set_option linter.all false
set_option autoImplicit false
set_option maxHeartbeats 4000000
set_option maxRecDepth 4000
namespace Z
open PySem
open L2 (V Hp HO upd upd_same upd_ne ne_of_none)
section
variable {T : Tab} {Γ : Calls} {C : Str → Option D} {X : L2.Cx}
theorem Good.blk (g : Good T Γ C X) {s : Shared} {H : Hp} {scope : Scope} {ce : Env} {fp : List Addr} : Good T Γ C (X.blk s H scope ce fp) := ⟨g.calm, g.nd, g.gd, rfl, g.un, g.blt, g.bfn, g.cst, g.cal⟩
theorem pts_ok {cs : Es} {ifs : List Expr} (h : LOk X Γ C cs ifs) (hl : ifs.length ≤ 1) : L2.PTs X ifs (tTv X.K (evC Γ C cs)) := by
  cases cs with
  | nil =>
    rw [LOk] at h
    subst h
    refine ⟨fun pins s σ H Q I ⟨ρ, st, ι, P, b, st', R, e, hQ⟩ => L2.pts_nil.run pins s σ H Q I ?_⟩
    rw [evC] at e
    cases e
    exact hQ H ι (.refl R)
  | cons c r =>
    rw [LOk] at h
    obtain ⟨x, ys, rfl, h1, h2, h3⟩ := h
    have : ys = [] := by
      cases ys with
      | nil => rfl
      | cons _ _ => simp at hl
    subst this
    cases r with
    | cons _ _ => rw [LOk] at h3; obtain ⟨_, _, z, _⟩ := h3; cases z
    | nil =>
      refine ⟨fun pins s σ H Q I ⟨ρ, st, ι, P, b, st', R, e, hQ⟩ => (L2.pts_one h2.tst).run pins s σ H Q I ⟨ρ, st, ι, P, b, st', R, ?_, hQ⟩⟩
      rw [evC] at e
      simp only [Option.bind_eq_some_iff] at e
      obtain ⟨p, e1, k, ⟨y, e2, e3⟩, e4⟩ := e
      refine tst_iff.mpr ⟨p.1, y, ?_, ?_, ?_⟩
      · cases k <;> (simp only [evC, if_true, Bool.false_eq_true, if_false] at e4; cases e4; exact e1)
      · cases k <;> (simp only [evC, if_true, Bool.false_eq_true, if_false] at e4; cases e4; exact e2)
      · cases k <;> (simp only [evC, if_true, Bool.false_eq_true, if_false] at e4; cases e4; exact e3)
/-- the parts of a comprehension -/
structure LcP (X : L2.Cx) (Γ : Calls) (C : Str → Option D) (own : List Nat) (elt : E) (tg : List Nat) (fl : Bool) (it : It) (cs : Es) (y t i : Expr) (ifs : List Expr) (scope : Scope) : Prop where
  sub : ∀ j ∈ tg, j ∈ own
  hi : L2.PI X t i (tIv X.K (evI Γ C it))
  ok : L2.BlkOk X.N X.env.scope scope (own.map fun i => (X.N.getD i "", i))
  hg : ∀ (s : Shared) (H : Hp) (c : Addr) (cl : List (Str × Addr)) (fp : List Addr), L2.PG (X.blk s H scope (compEnvC scope cl c X.env) fp) t (tgG X.K tg fl)
  ht : ∀ (s : Shared) (H : Hp) (c : Addr) (cl : List (Str × Addr)) (fp : List Addr), L2.PTs (X.blk s H scope (compEnvC scope cl c X.env) fp) ifs (tTv X.K (evC Γ C cs))
  he : ∀ (s : Shared) (H : Hp) (c : Addr) (cl : List (Str × Addr)) (fp : List Addr), L2.PE (X.blk s H scope (compEnvC scope cl c X.env) fp) y (tEv X.K (ev Γ C elt))
  hs : ∀ x, foldedSetIterable i X.env x = pure x
theorem own_map {N : List Str} {own : List Nat} : (own.map fun i => (N.getD i "", i)).map (·.2) = own := by
  rw [List.map_map]
  exact (List.map_congr_left fun _ _ => rfl).trans (List.map_id own)
theorem lc_mk (g : Good T Γ C X) {own : List Nat} {elt : E} {tg : List Nat} {fl : Bool} {it : It} {cs : Es} {x : Expr} (h : chkE T X.N (.lc own elt tg fl it cs) X.env.scope x = true)
    (hI : ∀ {x t : Expr}, chkI T X.N it X.env.scope x t = true → L2.PI X t x (tIv X.K (evI Γ C it)))
    (hC : ∀ {X' : L2.Cx} (g' : Good T Γ C X') {xs : List Expr}, chkL T X'.N cs X'.env.scope xs = true → LOk X' Γ C cs xs)
    (hE : ∀ {X' : L2.Cx} (g' : Good T Γ C X') {x : Expr}, chkE T X'.N elt X'.env.scope x = true → EOk X' (ev Γ C elt) x) :
    ∃ y t i ifs scope pos, x = .ListComp y [⟨t, i, ifs, 0⟩] scope pos ∧ LcP X Γ C own elt tg fl it cs y t i ifs scope := by
  simp only [chkE] at h
  split at h
  · rename_i y t i ifs scope pos
    simp only [Bool.and_eq_true, List.all_eq_true, decide_eq_true_eq] at h
    obtain ⟨⟨⟨⟨⟨⟨⟨h1, h2⟩, h3⟩, h4⟩, h5⟩, h6⟩, h7⟩, h8⟩ := h
    refine ⟨y, t, i, ifs, scope, pos, rfl, ⟨fun j hj => by simpa using h5 j hj, hI h3, L2.blkOk_by h1, fun s H c cl fp => ?_, fun s H c cl fp => ?_, fun s H c cl fp => ?_, fold_of h2⟩⟩
    · refine pg_of (X := X.blk s H scope (compEnvC scope cl c X.env) fp) g.calm g.nd (fun n hn => ?_) h4
      simp only [ownL, Bool.or_eq_true, Bool.and_eq_true] at hn
      rcases hn with hn | ⟨h1, h2⟩
      · exact ⟨.inl (onlyL_ok hn), .inr (onlyL_ok hn)⟩
      · exact ⟨locB_ok h2, .inl h1⟩
    · exact pts_ok (hC (X' := X.blk s H scope (compEnvC scope cl c X.env) fp) g.blk h7) h6
    · exact (hE (X' := X.blk s H scope (compEnvC scope cl c X.env) fp) g.blk h8).pe
  · cases h
theorem LcP.pe (g : Good T Γ C X) {own : List Nat} {elt : E} {tg : List Nat} {fl : Bool} {it : It} {cs : Es} {y t i : Expr} {ifs : List Expr} {scope : Scope} {pos : Pos} (h : LcP X Γ C own elt tg fl it cs y t i ifs scope) :
    L2.PE X (.ListComp y [⟨t, i, ifs, 0⟩] scope pos) (tEv X.K (ev Γ C (.lc own elt tg fl it cs))) := by
  refine PE.weak (L2.pe_lc g.calm g.nd h.hi h.ok h.hg h.ht h.he h.hs) fun σ H Q z => ?_
  rw [own_map]
  exact lc_t h.sub z
end
end Z
/-! ZGcd: math.gcd. -/
set_option linter.all false
set_option autoImplicit false
set_option maxHeartbeats 4000000
set_option maxRecDepth 4000
namespace Z
open PySem
open L2 (V Hp HO upd upd_same upd_ne ne_of_none)
section
variable {T : Tab} {Γ : Calls} {C : Str → Option D} {X : L2.Cx}
theorem ok_gcd (g : Good T Γ C X) {a c : E} {n : Str} {p pos : Pos} {y z : Expr} (h1 : nameB n "gcd" = true) (h2 : (("gcd" : Str), "math.gcd") ∈ T.bf) (h3 : glB X.env.scope n = true) (hy : plainX y = true) (hz : plainX z = true)
    (h : L2.PE X y (tEv X.K (ev Γ C a))) (hc : L2.PE X z (tEv X.K (ev Γ C c))) : L2.PE X (.Call (.Name n p) [y, z] [] pos) (tEv X.K (ev Γ C (.gcd a c))) := by
  obtain rfl := nameB_ok h1
  refine PE.weak (L2.pe_callBfun L2.cr_gcd (glB_ok h3) (g.bfn _ _ h2) (L2.pa_cons h (L2.pa_cons hc L2.pa_nil (star_of hz)) (star_of hy)) (by decide) (star_of hy) (any_of (by rw [plainXs, hz]; rfl))) fun σ H Q ⟨ρ, st, ι, P, w, st', R, e, hQ⟩ => ?_
  rw [ev] at e
  simp only [Option.bind_eq_some_iff, Option.map_eq_some_iff] at e
  obtain ⟨r, e1, r2, e2, x, e3, x2, e4, d, e5, e6⟩ := e
  cases e6
  unfold gcdF at e5
  split at e5
  · cases e5
    exact two R e1 e2 fun v1 v2 H2 ι2 pp q1 q2 A V1 V2 => ⟨_, _, by rw [rd_int V1 e3, rd_int V2 e4], fin_int hQ A⟩
  · cases e5
end
end Z
/-! ZZip: zip of any number of tuples, at the library's level. -/
set_option linter.all false
set_option autoImplicit false
set_option maxHeartbeats 4000000
set_option maxRecDepth 100000
namespace ZZ
open PySem PySem.Spec PyProof.Rows PySem.W
theorem typeCall (xs : List Value) : checkTypeCall "zip" ⟨xs, []⟩ = pure () := by kernel_rfl
theorem newCall (xs : List Value) (h : 1 ≤ xs.length ∧ xs.length ≤ 8) : checkBuiltinCall "zip.__new__" ⟨.type "zip" :: xs, []⟩ = pure () := by
  match xs, h with
  | [], h => simp at h
  | [a], _ => kernel_rfl
  | [a, b], _ => kernel_rfl
  | [a, b, c], _ => kernel_rfl
  | [a, b, c, d], _ => kernel_rfl
  | [a, b, c, d, e], _ => kernel_rfl
  | [a, b, c, d, e, f], _ => kernel_rfl
  | [a, b, c, d, e, f, g], _ => kernel_rfl
  | [a, b, c, d, e, f, g, i], _ => kernel_rfl
  | a :: b :: c :: d :: e :: f :: g :: i :: j :: r, h => simp at h
theorem newClass (xs : List Value) : Builtin.SmallTypes.newClass "zip" ⟨.type "zip" :: xs, []⟩ = pure (.type "zip", xs) := by
  unfold Builtin.SmallTypes.newClass
  simp only [isType, sub_zip, pure_bind, Bool.not_true, Bool.false_eq_true, if_false]
theorem argsInit (obj : Value) (xs : List Value) : argsOk "object.__init__" ⟨obj :: xs, []⟩ := by
  unfold argsOk
  kernel_rfl
section
variable {prog : Program} {w : World} {A : Around} {E : Value → Shared → Prop} {s : Shared}
abbrev itO (l : Addr) : Obj := { cls := .type "tuple_iterator", data := .fields #[.ref l, .int 0 0] }
/-- the heap with an iterator of each -/
def itH : Heap → List Addr → Heap
  | h, [] => h
  | h, l :: ls => itH (h.push (itO l)) ls
def adrs (a : Nat) : Nat → List Addr
  | 0 => []
  | n + 1 => a :: adrs (a + 1) n
theorem itH_keep {b : Addr} {o : Obj} : ∀ {ls : List Addr} {h : Heap}, h.get? b = some o → (itH h ls).get? b = some o
  | [], _, e => e
  | l :: ls, h, e => itH_keep (ls := ls) (Heap.get?_push_of_some _ e)
theorem itH_size : ∀ {ls : List Addr} {h : Heap}, (itH h ls).objs.size = h.objs.size + ls.length
  | [], _ => rfl
  | l :: ls, h => by rw [itH, itH_size, Heap.size_push, List.length_cons]; omega
theorem iter_loop {Q : Array Value → Shared → Prop} : ∀ (ls : List Addr) (acc : Array Value) (h : Heap), (∀ l ∈ ls, ∃ xs, h.IsTuple l xs) → Q (acc ++ ((adrs h.objs.size ls.length).map Value.ref).toArray) { s with heap := itH h ls } →
    wpAny (model prog w) A (forIn (ls.map Value.ref) acc fun x r => do
          let y ← holding r.toList (pyIter x)
          pure (ForInStep.yield (r.push y))) Q E { s with heap := h }
  | [], acc, h, _, q => by
    simp only [List.map_nil, List.forIn_nil]
    refine wpAny_pure ?_
    simpa [adrs, itH] using q
  | l :: ls, acc, h, ht, q => by
    simp only [List.map_cons, List.forIn_cons]
    obtain ⟨xs, hx⟩ := ht l List.mem_cons_self
    refine wpAny_bind (wpAny_bind (wpAny_holding (wpAny_pyIter_tuple (s := { s with heap := h }) hx (wpAny_pure ?_))))
    refine iter_loop ls _ _ (fun l' hl' => ?_) ?_
    · obtain ⟨ys, hy⟩ := ht l' (List.mem_cons_of_mem _ hl')
      exact ⟨ys, hy.push _⟩
    · rw [List.length_cons, adrs, List.map_cons] at q
      rw [Heap.size_push]
      have e : acc ++ (Value.ref h.objs.size :: (adrs (h.objs.size + 1) ls.length).map Value.ref).toArray = acc.push (Value.ref h.objs.size) ++ ((adrs (h.objs.size + 1) ls.length).map Value.ref).toArray := by
        simp
      rw [e] at q
      exact q
theorem iterAll_ok (ls : List Addr) {Q : List Value → Shared → Prop} (ht : ∀ l ∈ ls, ∃ xs, s.heap.IsTuple l xs) (q : Q ((adrs s.heap.objs.size ls.length).map Value.ref) { s with heap := itH s.heap ls }) : wpAny (model prog w) A (Builtin.SmallTypes.iterAll (ls.map Value.ref)) Q E s := by
  unfold Builtin.SmallTypes.iterAll
  refine wpAny_bind (wpAny_mono (iter_loop (s := s) (Q := fun a s' => Q a.toList s') ls #[] s.heap ht ?_) (fun a s' h => wpAny_pure h) fun _ _ z => z)
  simpa using q
abbrev IsTupL (h : Heap) (T : Addr) (vs : List Value) : Prop := h.get? T = some { cls := .type "tuple", data := .seq vs.toArray }
abbrev IsZipN (h : Heap) (z TI TO : Addr) (f0 f1 : Value) : Prop := h.get? z = some { cls := .type "zip", dict := none, data := .fields #[f0, f1, .bool false, .ref TI, .ref TO], slots := #[] }
abbrev zH (h : Heap) (ls : List Addr) : Heap :=
  let h1 := itH h ls
  let h2 := h1.push { cls := .type "tuple", data := .seq ((adrs h.objs.size ls.length).map Value.ref).toArray }
  let h3 := h2.push { cls := .type "tuple", data := .seq (((adrs h.objs.size ls.length).map Value.ref).map fun _ => Value.none).toArray }
  h3.push { cls := .type "zip", data := .fields #[.none, .bool false, .bool false, .ref h1.objs.size, .ref h2.objs.size] }
theorem adrs_len : ∀ (n a : Nat), (adrs a n).length = n
  | 0, _ => rfl
  | n + 1, a => by rw [adrs, List.length_cons, adrs_len n]
theorem new_ok (ls : List Addr) (hl : ls.length ≤ 8) : MeetsIn prog w (Builtin.«zip.__new__» ⟨.type "zip" :: ls.map Value.ref, []⟩)
    (fun A R s => (∀ l ∈ ls, ∃ xs, s.heap.IsTuple l xs) ∧ R (.ok (.ret (.ref (s.heap.objs.size + ls.length + 2)))) { s with heap := zH s.heap ls }) :=
  .of_wp fun A R s ⟨ht, h⟩ => by
    have la := adrs_len ls.length s.heap.objs.size
    unfold Builtin.«zip.__new__»
    refine wpAny_bind (wpAny_of_eq (newClass _) ?_)
    simp only [List.length_nil, Nat.not_lt_zero, if_false, gt_iff_lt]
    refine wpAny_bind (iterAll_ok ls ht ?_)
    refine wpAny_bind (wpAny_newTuple ?_ (by rw [List.length_map, la, sizeLine_eq]; omega))
    refine wpAny_bind (wpAny_newTuple ?_ (by rw [List.length_map, List.length_map, la, sizeLine_eq]; omega))
    show wpAny _ _ (newObj (.type "zip") (.fields #[.none, .bool false, .bool false, _, _]) >>= _) _ _ _
    refine wpAny_bind (wpAny_newObj_type ?_)
    refine wpAny_pure ⟨_, rfl, ?_⟩
    have e : s.heap.objs.size + ls.length + 2 = (((itH s.heap ls).push { cls := .type "tuple", data := .seq ((adrs s.heap.objs.size ls.length).map Value.ref).toArray }).push { cls := .type "tuple", data := .seq (((adrs s.heap.objs.size ls.length).map Value.ref).map fun _ => Value.none).toArray }).objs.size := by
      rw [Heap.size_push, Heap.size_push, itH_size]
    rw [e] at h
    exact h
/-- its iterators -/
def IsAll (h : Heap) (i : Nat) : List Addr → List Addr → Prop
  | [], [] => True
  | it :: is, l :: ls => h.IsTupleIter it l i ∧ IsAll h i is ls
  | _, _ => False
theorem IsAll.at_ {h h' : Heap} {i : Nat} : ∀ {is ls : List Addr}, IsAll h i is ls → (∀ c ∈ is, ∀ o, h.get? c = some o → h'.get? c = some o) → IsAll h' i is ls
  | [], [], _, _ => trivial
  | it :: is, l :: ls, ⟨a, b⟩, k => ⟨a.at fun o e => k it List.mem_cons_self o e, b.at_ fun c hc => k c (List.mem_cons_of_mem _ hc)⟩
  | [], _ :: _, h, _ => h.elim
  | _ :: _, [], h, _ => h.elim
theorem at_push {h : Heap} {o : Obj} {a : Addr} (e : h.objs.size = a) (hf : o.isFreed = false) : (h.push o).get? a = some o := by rw [← e]; exact Heap.get?_push_size h hf
theorem itH_all : ∀ {ls : List Addr} {h : Heap}, IsAll (itH h ls) 0 (adrs h.objs.size ls.length) ls
  | [], h => trivial
  | l :: ls, h => by
    rw [List.length_cons, adrs]
    refine ⟨⟨itO l, itH_keep (ls := ls) (h := h.push (itO l)) (Heap.get?_push_size h rfl), rfl, rfl⟩, ?_⟩
    have := itH_all (ls := ls) (h := h.push (itO l))
    rw [Heap.size_push] at this
    exact this
theorem call_zipN (ls : List Addr) (hl : 1 ≤ ls.length ∧ ls.length ≤ 8) {Q : Value → Shared → Prop} (ht : ∀ l ∈ ls, ∃ xs, s.heap.IsTuple l xs)
    (h : ∀ h', IsZipN h' (s.heap.objs.size + ls.length + 2) (s.heap.objs.size + ls.length) (s.heap.objs.size + ls.length + 1) .none (.bool false) → IsTupL h' (s.heap.objs.size + ls.length) ((adrs s.heap.objs.size ls.length).map Value.ref) →
      IsTupL h' (s.heap.objs.size + ls.length + 1) (List.replicate ls.length .none) → IsAll h' 0 (adrs s.heap.objs.size ls.length) ls → h'.objs.size = s.heap.objs.size + ls.length + 3 →
      (∀ c o, s.heap.get? c = some o → h'.get? c = some o) → Q (.ref (s.heap.objs.size + ls.length + 2)) { s with heap := h' }) :
    wpAny (model prog w) A (call (.type "zip") (ls.map Value.ref)) Q E s := by
  have la := adrs_len ls.length s.heap.objs.size
  refine callType_newIn F.called_zip (by decide) (typeCall _) (newCall _ (by rw [List.length_map]; exact hl)) (fun obj => argsInit obj _) F.entry_zip_new (new_ok ls hl.2) ⟨ht, ?_⟩
  have z1 : (itH s.heap ls).objs.size = s.heap.objs.size + ls.length := itH_size
  have g1 : IsZipN (zH s.heap ls) (s.heap.objs.size + ls.length + 2) (s.heap.objs.size + ls.length) (s.heap.objs.size + ls.length + 1) .none (.bool false) := by
    unfold zH
    simp only
    rw [Heap.size_push, z1]
    exact at_push (by rw [Heap.size_push, Heap.size_push, z1]) rfl
  have g2 : IsTupL (zH s.heap ls) (s.heap.objs.size + ls.length + 1) (List.replicate ls.length .none) := by
    have e : ((adrs s.heap.objs.size ls.length).map Value.ref).map (fun _ => Value.none) = List.replicate ls.length .none := by
      rw [List.map_map, List.eq_replicate_iff]
      refine ⟨by rw [List.length_map, la], fun b hb => ?_⟩
      obtain ⟨x, _, rfl⟩ := List.mem_map.mp hb
      rfl
    rw [← e]
    exact Heap.get?_push_of_some _ (at_push (by rw [Heap.size_push, z1]) rfl)
  have g3 : IsTupL (zH s.heap ls) (s.heap.objs.size + ls.length) ((adrs s.heap.objs.size ls.length).map Value.ref) :=
    Heap.get?_push_of_some _ (Heap.get?_push_of_some _ (at_push z1 rfl))
  have up : ∀ c o, (itH s.heap ls).get? c = some o → (zH s.heap ls).get? c = some o := fun c o e => Heap.get?_push_of_some _ (Heap.get?_push_of_some _ (Heap.get?_push_of_some _ e))
  have g4 : IsAll (zH s.heap ls) 0 (adrs s.heap.objs.size ls.length) ls := (itH_all (ls := ls) (h := s.heap)).at_ fun c _ o e => up c o e
  exact ⟨⟨_, g1, rfl⟩, h _ g1 g3 g2 g4 (by rw [Heap.size_push, Heap.size_push, Heap.size_push, z1]) fun c o e => up c o (itH_keep e)⟩
/-! ### a turn -/
/-- each draws its item -/
def Items (i : Nat) : List (List Value) → List Value → Prop
  | [], [] => True
  | xs :: xss, v :: vs => xs[i]? = some v ∧ Items i xss vs
  | _, _ => False
def Tups (h : Heap) : List Addr → List (List Value) → Prop
  | [], [] => True
  | l :: ls, xs :: xss => h.IsTuple l xs.toArray ∧ Tups h ls xss
  | _, _ => False
theorem Tups.at_ {h h' : Heap} : ∀ {ls : List Addr} {xss : List (List Value)}, Tups h ls xss → (∀ c ∈ ls, ∀ o, h.get? c = some o → h'.get? c = some o) → Tups h' ls xss
  | [], [], _, _ => trivial
  | l :: ls, x :: xss, ⟨a, b⟩, k => ⟨(by obtain ⟨o, e, r⟩ := a; exact ⟨o, k l List.mem_cons_self o e, r⟩), b.at_ fun c hc => k c (List.mem_cons_of_mem _ hc)⟩
  | [], _ :: _, h, _ => h.elim
  | _ :: _, [], h, _ => h.elim
/-- the turn's loop: whatever the body does with what an iterator gives -/
theorem draw_loop {σ : Type} {i : Nat} {f : Value → σ → Sem (ForInStep σ)} {g : σ → Value → σ} {Q : σ → Shared → Prop} {P : σ → Heap → Prop} {keep : Addr → Prop}
    (hf : ∀ (it : Addr) (r : σ) (t : Shared) (R : ForInStep σ → Shared → Prop), P r t.heap → wpAny (model prog w) A (Builtin.SmallTypes.nextOf (.ref it)) (fun x t' => P r t'.heap → ∀ h', (∀ c, keep c → h'.get? c = t'.heap.get? c) → h'.objs.size = t'.heap.objs.size → P (g r x) h' → R (.yield (g r x)) { t' with heap := h' }) E t →
      wpAny (model prog w) A (f (.ref it) r) R E t)
    :
    ∀ (is ls : List Addr) (xss : List (List Value)) (vs : List Value) (r : σ) (h : Heap), IsAll h i is ls → Tups h ls xss → Items i xss vs → is.Nodup → (∀ c ∈ is, c ∉ ls) → (∀ c ∈ is, keep c) → (∀ c ∈ ls, keep c) → P r h →
      (∀ h', h'.objs.size = h.objs.size → (∀ c, keep c → c ∉ is → h'.get? c = h.get? c) → IsAll h' (i + 1) is ls → P (vs.foldl g r) h' → Q (vs.foldl g r) { s with heap := h' }) →
      wpAny (model prog w) A (forIn (is.map Value.ref) r f) Q E { s with heap := h }
  | [], ls, xss, vs, r, h, hi, ht, hv, nd, dj, k1, k2, p, q => by
    match ls, xss, vs, hi, ht, hv with
    | [], [], [], _, _, _ =>
      simp only [List.map_nil, List.forIn_nil]
      exact wpAny_pure (q h rfl (fun _ _ _ => rfl) trivial p)
  | it :: is, l :: ls, xs :: xss, v :: vs, r, h, ⟨a, b⟩, ⟨a2, b2⟩, ⟨a3, b3⟩, nd, dj, k1, k2, p, q => by
    simp only [List.map_cons, List.forIn_cons]
    have nd' := List.nodup_cons.mp nd
    refine wpAny_bind (hf it r _ _ p (RZ.nextOf_tuple_item (s := { s with heap := h }) a a2 (x := v) (by simpa using a3) fun h1 a1 sb => fun p1 h2 kp sz p2 => ?_))
    have st : ∀ c, keep c → c ≠ it → h2.get? c = h.get? c := fun c kc hc => (kp c kc).trans (sb.2 c hc)
    have b' : IsAll h2 i is ls := b.at_ fun c hc o e => by
      rw [st c (k1 c (List.mem_cons_of_mem _ hc)) (fun z => nd'.1 (z ▸ hc))]; exact e
    have b2' : Tups h2 ls xss := b2.at_ fun c hc o e => by
      rw [st c (k2 c (List.mem_cons_of_mem _ hc)) (fun z => dj it List.mem_cons_self (z ▸ List.mem_cons_of_mem _ hc))]; exact e
    refine draw_loop hf is ls xss vs (g r v) h2 b' b2' b3 nd'.2 (fun c hc hl => dj c (List.mem_cons_of_mem _ hc) (List.mem_cons_of_mem _ hl)) (fun c hc => k1 c (List.mem_cons_of_mem _ hc)) (fun c hc => k2 c (List.mem_cons_of_mem _ hc)) p2
      (fun h3 sz3 kp3 all3 p3 => q h3 (sz3.trans (sz.trans sb.1)) (fun c kc hc => (kp3 c kc (fun z => hc (List.mem_cons_of_mem _ z))).trans (st c kc (fun z => hc (z ▸ List.mem_cons_self)))) ⟨?_, all3⟩ p3)
    have ki := k1 it List.mem_cons_self
    exact a1.at fun o e => (kp3 it ki nd'.1).trans ((kp it ki).trans e)
  | _ :: _, [], _, _, _, _, hi, _, _, _, _, _, _, _, _ => hi.elim
  | _ :: _, _ :: _, [], _, _, _, _, ht, _, _, _, _, _, _, _ => ht.elim
  | _ :: _, _ :: _, _ :: _, [], _, _, _, _, hv, _, _, _, _, _, _ => hv.elim
theorem fold_push : ∀ (vs : List Value) (acc : Array Value), vs.foldl (fun (r : Option Fin × Array Value) x => ((none : Option Fin), r.2.push x)) (none, acc) = (none, acc ++ vs.toArray)
  | [], acc => by simp
  | v :: vs, acc => by
    rw [List.foldl_cons, fold_push vs]
    simp
theorem items_len {i : Nat} : ∀ {xss : List (List Value)} {vs : List Value}, Items i xss vs → vs.length = xss.length
  | [], [], _ => rfl
  | _ :: _, _ :: _, ⟨_, h⟩ => by rw [List.length_cons, List.length_cons, items_len h]
  | [], _ :: _, h => h.elim
  | _ :: _, [], h => h.elim
theorem tups_len {h : Heap} : ∀ {ls : List Addr} {xss : List (List Value)}, Tups h ls xss → ls.length = xss.length
  | [], [], _ => rfl
  | _ :: _, _ :: _, ⟨_, h⟩ => by rw [List.length_cons, List.length_cons, tups_len h]
  | [], _ :: _, h => h.elim
  | _ :: _, [], h => h.elim
theorem all_len {h : Heap} {i : Nat} : ∀ {is ls : List Addr}, IsAll h i is ls → is.length = ls.length
  | [], [], _ => rfl
  | _ :: _, _ :: _, ⟨_, h⟩ => by rw [List.length_cons, List.length_cons, all_len h]
  | [], _ :: _, h => h.elim
  | _ :: _, [], h => h.elim
/-- a turn whose tuple is still out -/
theorem next_held {z TI TO T : Addr} {f : Bool} {oT : Obj} {i : Nat} {is ls : List Addr} {xss : List (List Value)} {vs : List Value} {Q : Value → Shared → Prop} (hz : IsZipHeld s.heap z TI TO T f) (hT : s.heap.get? T = some oT) (hTI : IsTupL s.heap TI (is.map Value.ref))
    (hi : IsAll s.heap i is ls) (ht : Tups s.heap ls xss) (hv : Items i xss vs) (nd : is.Nodup) (d1 : ∀ c ∈ is, c ∉ ls) (d2 : z ∉ is) (d3 : z ∉ ls) (d4 : z ≠ TI) (hl : 1 ≤ is.length ∧ is.length ≤ 8)
    (hQ : ∀ h', IsZipHeld h' z TI TO T true → IsAll h' (i + 1) is ls → h'.get? s.heap.objs.size = some { cls := .type "tuple", data := .seq vs.toArray } → h'.objs.size = s.heap.objs.size + 1 →
      (∀ c o, c ≠ z → c ∉ is → s.heap.get? c = some o → h'.get? c = some o) → Q (.ref s.heap.objs.size) { s with heap := h' }) :
    wpAny (model prog w) A (Builtin.«zip.__next__» ⟨[.ref z], []⟩) (fun fin s' => ∃ v, fin = .done (.ret v) ∧ Q v s') E s := by
  show wpAny _ _ (field (.ref z) 2 >>= _) _ _ _
  refine wpAny_bind (wpAny_field hz rfl (x := .bool false) rfl ?_)
  show wpAny _ _ (field (.ref z) 3 >>= _) _ _ _
  refine wpAny_bind (wpAny_field hz rfl (x := .ref TI) rfl ?_)
  refine wpAny_bind (wpAny_seqItems hTI rfl ?_)
  have ne : (is.map Value.ref).toArray.isEmpty = false := by
    cases is with
    | nil => simp at hl
    | cons a b => rfl
  simp only [ne, Bool.false_eq_true, if_false]
  show wpAny _ _ (Builtin.SmallTypes.ownedTupleIsFree (.ref z) >>= _) _ _ _
  refine wpAny_bind (wpAny_tupleHeld_zip hz hT fun h₁ hz₁ hs₁ => ?_)
  simp only [Bool.false_eq_true, if_false]
  refine wpAny_bind ?_
  rw [← Array.forIn_toList]
  have hz2 : z < h₁.objs.size := Heap.lt_size hz₁
  have st : ∀ c, c ≠ z → h₁.get? c = s.heap.get? c := fun c hc => hs₁.2 c hc
  refine draw_loop (σ := Option Fin × Array Value) (g := fun r x => (none, r.2.push x)) (P := fun _ _ => True) (keep := fun _ => True) (i := i) (s := s) (fun it r t R _ h => ?_) is ls xss vs (none, #[]) h₁
    (hi.at_ fun c hc o e => by rw [st c (fun z => d2 (z ▸ hc))]; exact e) (ht.at_ fun c hc o e => by rw [st c (fun z => d3 (z ▸ hc))]; exact e) hv nd d1 (fun _ _ => trivial) (fun _ _ => trivial) trivial (fun h2 sz kp all _ => ?_)
  · refine wpAny_bind (wpAny_holding ?_)
    show wpAny _ _ (Builtin.SmallTypes.nextOf (.ref it) >>= _) _ _ _
    refine wpAny_bind (wpAny_mono h (fun x t' hx => wpAny_pure ?_) fun _ _ z => z)
    exact wpAny_pure (hx trivial t'.heap (fun _ _ => rfl) rfl trivial)
  · rw [fold_push]
    show wpAny _ _ (newTuple (#[] ++ vs.toArray).toList >>= _) _ _ _
    have ev : (#[] ++ vs.toArray : Array Value).toList = vs := by simp
    rw [ev]
    refine wpAny_bind (wpAny_newTuple ?_ (by rw [items_len hv, ← tups_len ht, ← all_len hi, sizeLine_eq]; omega))
    have hsz : h2.objs.size = s.heap.objs.size := by rw [sz, hs₁.1]
    refine wpAny_pure ⟨_, rfl, ?_⟩
    show Q (.ref h2.objs.size) _
    have kz : h2.get? z = h₁.get? z := kp z trivial d2
    have q := hQ (h2.push { cls := .type "tuple", data := .seq vs.toArray }) (Heap.get?_push_of_some _ (kz.trans hz₁)) (all.at_ fun c _ o e => Heap.get?_push_of_some _ e) (at_push hsz rfl) (by rw [Heap.size_push, hsz])
      (fun c o c1 c2 e => Heap.get?_push_of_some _ (((kp c trivial c2).trans (st c c1)).trans e))
    rw [hsz]
    exact q
/-- .. the loop that fills the owned tuple -/
theorem fill_loop {σ : Type} {i N : Nat} {f : Value × Nat → σ → Sem (ForInStep σ)} {r0 : σ} {Q : σ → Shared → Prop} {P : List Value → Heap → Prop} {keep : Addr → Prop}
    (hf : ∀ (it : Addr) (acc : List Value) (t : Shared) (R : ForInStep σ → Shared → Prop), acc.length < N → P acc t.heap → (∀ E', wpAny (model prog w) A (Builtin.SmallTypes.nextOf (.ref it)) (fun x t' => P acc t'.heap ∧ ∀ h', (∀ c, keep c → h'.get? c = t'.heap.get? c) → h'.objs.size = t'.heap.objs.size → P (acc ++ [x]) h' → R (.yield r0) { t' with heap := h' }) E' t) →
      wpAny (model prog w) A (f (.ref it, acc.length) r0) R E t)
    (hP : ∀ acc h h' it, P acc h → keep it → Heap.SameBut it h h' → P acc h') :
    ∀ (is ls : List Addr) (xss : List (List Value)) (vs acc : List Value) (h : Heap), acc.length + is.length = N → IsAll h i is ls → Tups h ls xss → Items i xss vs → is.Nodup → (∀ c ∈ is, c ∉ ls) → (∀ c ∈ is, keep c) → (∀ c ∈ ls, keep c) → P acc h →
      (∀ h', h'.objs.size = h.objs.size → (∀ c, keep c → c ∉ is → h'.get? c = h.get? c) → IsAll h' (i + 1) is ls → P (acc ++ vs) h' → Q r0 { s with heap := h' }) →
      wpAny (model prog w) A (forIn ((is.map Value.ref).zipIdx acc.length) r0 f) Q E { s with heap := h }
  | [], ls, xss, vs, acc, h, hN, hi, ht, hv, nd, dj, k1, k2, p, q => by
    match ls, xss, vs, hi, ht, hv with
    | [], [], [], _, _, _ =>
      simp only [List.map_nil, List.zipIdx_nil, List.forIn_nil]
      exact wpAny_pure (q h rfl (fun _ _ _ => rfl) trivial (by rw [List.append_nil]; exact p))
  | it :: is, l :: ls, xs :: xss, v :: vs, acc, h, hN, ⟨a, b⟩, ⟨a2, b2⟩, ⟨a3, b3⟩, nd, dj, k1, k2, p, q => by
    simp only [List.map_cons, List.zipIdx_cons, List.forIn_cons]
    have nd' := List.nodup_cons.mp nd
    have ki := k1 it List.mem_cons_self
    refine wpAny_bind (hf it acc _ _ (by simp at hN; omega) p fun E' => RZ.nextOf_tuple_item (s := { s with heap := h }) a a2 (x := v) (by simpa using a3) fun h1 a1 sb => ⟨hP acc h h1 it p ki sb, fun h2 kp sz p2 => ?_⟩)
    have st : ∀ c, keep c → c ≠ it → h2.get? c = h.get? c := fun c kc hc => (kp c kc).trans (sb.2 c hc)
    have b' : IsAll h2 i is ls := b.at_ fun c hc o e => by
      rw [st c (k1 c (List.mem_cons_of_mem _ hc)) (fun z => nd'.1 (z ▸ hc))]; exact e
    have b2' : Tups h2 ls xss := b2.at_ fun c hc o e => by
      rw [st c (k2 c (List.mem_cons_of_mem _ hc)) (fun z => dj it List.mem_cons_self (z ▸ List.mem_cons_of_mem _ hc))]; exact e
    have ih := fill_loop (r0 := r0) (Q := Q) hf hP is ls xss vs (acc ++ [v]) h2 (by simp at hN ⊢; omega) b' b2' b3 nd'.2 (fun c hc hl => dj c (List.mem_cons_of_mem _ hc) (List.mem_cons_of_mem _ hl)) (fun c hc => k1 c (List.mem_cons_of_mem _ hc)) (fun c hc => k2 c (List.mem_cons_of_mem _ hc)) p2
      (fun h3 sz3 kp3 all3 p3 => q h3 (sz3.trans (sz.trans sb.1)) (fun c kc hc => (kp3 c kc (fun z => hc (List.mem_cons_of_mem _ z))).trans (st c kc (fun z => hc (z ▸ List.mem_cons_self)))) ⟨a1.at fun o e => (kp3 it ki nd'.1).trans ((kp it ki).trans e), all3⟩ (by rw [List.append_assoc] at p3; exact p3))
    rw [List.length_append, List.length_singleton] at ih
    exact ih
  | _ :: _, [], _, _, _, _, _, hi, _, _, _, _, _, _, _, _ => hi.elim
  | _ :: _, _ :: _, [], _, _, _, _, _, ht, _, _, _, _, _, _, _ => ht.elim
  | _ :: _, _ :: _, _ :: _, [], _, _, _, _, _, hv, _, _, _, _, _, _ => hv.elim
/-- the first turn -/
theorem next_free {z TI TO : Addr} {f1 : Value} {i : Nat} {is ls : List Addr} {xss : List (List Value)} {vs : List Value} {Q : Value → Shared → Prop} (hz : IsZipN s.heap z TI TO .none f1) (hTO : IsTupL s.heap TO (List.replicate is.length .none)) (hTI : IsTupL s.heap TI (is.map Value.ref))
    (hi : IsAll s.heap i is ls) (ht : Tups s.heap ls xss) (hv : Items i xss vs) (nd : is.Nodup) (d1 : ∀ c ∈ is, c ∉ ls) (d2 : z ∉ is) (d3 : z ∉ ls) (d4 : TO ∉ is) (d5 : TO ∉ ls) (d6 : TO ≠ z) (hl : 1 ≤ is.length ∧ is.length ≤ 8)
    (hQ : ∀ h', IsZipHeld h' z TI TO s.heap.objs.size false → IsAll h' (i + 1) is ls → h'.get? s.heap.objs.size = some { cls := .type "tuple", data := .seq vs.toArray } → h'.objs.size = s.heap.objs.size + 1 →
      (∀ c o, c ≠ z → c ≠ TO → c ∉ is → s.heap.get? c = some o → h'.get? c = some o) → Q (.ref s.heap.objs.size) { s with heap := h' }) :
    wpAny (model prog w) A (Builtin.«zip.__next__» ⟨[.ref z], []⟩) (fun fin s' => ∃ v, fin = .done (.ret v) ∧ Q v s') E s := by
  have vlen : vs.length = is.length := by rw [items_len hv, ← tups_len ht, ← all_len hi]
  show wpAny _ _ (field (.ref z) 2 >>= _) _ _ _
  refine wpAny_bind (wpAny_field hz rfl (x := .bool false) rfl ?_)
  show wpAny _ _ (field (.ref z) 3 >>= _) _ _ _
  refine wpAny_bind (wpAny_field hz rfl (x := .ref TI) rfl ?_)
  refine wpAny_bind (wpAny_seqItems hTI rfl ?_)
  have ne : (is.map Value.ref).toArray.isEmpty = false := by
    cases is with
    | nil => simp at hl
    | cons a b => rfl
  simp only [ne, Bool.false_eq_true, if_false]
  show wpAny _ _ (Builtin.SmallTypes.ownedTupleIsFree (.ref z) >>= _) _ _ _
  refine wpAny_bind ?_
  unfold Builtin.SmallTypes.ownedTupleIsFree
  refine wpAny_bind (wpAny_field hz rfl (x := .none) rfl (wpAny_pure ?_))
  simp only [if_true]
  refine wpAny_bind (wpAny_rule ?_)
  refine wpAny_bind (wpAny_field hz rfl (x := .ref TO) rfl ?_)
  refine wpAny_bind (wpAny_setField_rec hz (by simp) fun h₁ hz₁ hs₁ => ?_)
  replace hz₁ : IsZipN h₁ z TI TO .ellipsis f1 := hz₁
  have st : ∀ c, c ≠ z → h₁.get? c = s.heap.get? c := fun c hc => hs₁.2 c hc
  refine wpAny_bind ?_
  have set_ok : ∀ (acc : List Value) (x : Value), acc.length < is.length → (acc ++ List.replicate (is.length - acc.length) Value.none).set acc.length x = (acc ++ [x]) ++ List.replicate (is.length - (acc ++ [x]).length) .none := fun acc x h => by
    obtain ⟨k, hk⟩ : ∃ k, is.length - acc.length = k + 1 := ⟨is.length - acc.length - 1, by omega⟩
    have e2 : is.length - (acc ++ [x]).length = k := by rw [List.length_append, List.length_singleton]; omega
    rw [hk, e2, List.replicate_succ, List.set_append_right (h := Nat.le_refl _), Nat.sub_self, List.set_cons_zero, List.append_assoc]
    rfl
  have tz : ∀ {h : Heap} {vs : List Value}, IsTupL h TO vs → TO < h.objs.size := fun e => Heap.lt_size e
  refine fill_loop (s := s) (N := is.length) (r0 := ((none : Option Fin), ())) (P := fun acc h => IsTupL h TO (acc ++ List.replicate (is.length - acc.length) .none)) (keep := fun c => c ≠ TO) (i := i) (fun it acc t R hN hP h => ?_) (fun acc h h' it p ki sb => (sb.2 TO (fun z => ki z.symm)).trans p) is ls xss vs [] h₁ (by simp)
    (hi.at_ fun c hc o e => by rw [st c (fun z => d2 (z ▸ hc))]; exact e) (ht.at_ fun c hc o e => by rw [st c (fun z => d3 (z ▸ hc))]; exact e) hv nd d1 (fun c hc z => d4 (z ▸ hc)) (fun c hc z => d5 (z ▸ hc)) (show IsTupL h₁ TO (List.replicate is.length .none) from (st TO d6).trans hTO) (fun h2 sz kp all p2 => ?_)
  · refine wpAny_bind (wpAny_onRaise ?_)
    show wpAny _ _ (Builtin.SmallTypes.nextOf (.ref it) >>= _) _ _ _
    refine wpAny_bind (wpAny_mono (h _) (fun x t' hx => wpAny_pure ?_) fun _ _ z => z)
    obtain ⟨p1, hx⟩ := hx
    refine wpAny_bind (wpAny_seqItems p1 rfl ?_)
    have lz : (acc ++ List.replicate (is.length - acc.length) Value.none).length ≤ 8 := by rw [List.length_append, List.length_replicate]; omega
    refine wpAny_bind (wpAny_updateSeq (s := t') (M := model prog w) p1 rfl ?_ (by rw [List.size_toArray, sizeLine_eq]; omega) (by rw [Array.size_setIfInBounds, List.size_toArray, sizeLine_eq]; omega))
    refine wpAny_bind (wpAny_letGo (wpAny_pure ?_))
    have g := Heap.get?_update_self (Obj.mapSeq fun y => y.setIfInBounds acc.length x) p1 rfl
    refine hx (t'.heap.update TO (Obj.mapSeq fun y => y.setIfInBounds acc.length x)) (fun c hc => Heap.get?_update_other _ _ (Ne.symm hc)) (Heap.SameBut.update ..).1 ?_
    refine g.trans ?_
    rw [← set_ok acc x hN]
    simp [Obj.mapSeq]
  · rw [List.nil_append] at p2
    have e0 : vs ++ List.replicate (is.length - vs.length) Value.none = vs := by rw [vlen, Nat.sub_self]; simp
    rw [e0] at p2
    refine wpAny_bind (wpAny_seqItems p2 rfl ?_)
    refine wpAny_bind (wpAny_newTuple ?_ (by simp; rw [vlen, sizeLine_eq]; omega))
    have hsz : h2.objs.size = s.heap.objs.size := by rw [sz, hs₁.1]
    have hz2 : IsZipN h2 z TI TO .ellipsis f1 := (kp z d6.symm d2).trans hz₁
    have hzl : z < h2.objs.size := Heap.lt_size hz2
    show wpAny _ _ (Builtin.SmallTypes.ownedTupleHandOut (.ref z) (.ref h2.objs.size) >>= _) _ _ _
    refine wpAny_bind ?_
    unfold Builtin.SmallTypes.ownedTupleHandOut
    have hz₆ : IsZipN (h2.push { cls := .type "tuple", data := .seq vs.toArray.toList.toArray }) z TI TO .ellipsis f1 := Heap.get?_push_of_some _ hz2
    refine wpAny_bind (wpAny_setField_rec hz₆ (by simp) fun h₇ hz₇ hs₇ => ?_)
    replace hz₇ : IsZipN h₇ z TI TO (rawInt h2.objs.size) f1 := hz₇
    refine wpAny_setField_rec hz₇ (by simp) fun h₈ hz₈ hs₈ => ?_
    replace hz₈ : IsZipHeld h₈ z TI TO h2.objs.size false := hz₈
    have up : ∀ c o, c ≠ z → h2.get? c = some o → h₈.get? c = some o := fun c o c1 e => hs₈.extBut _ _ c1 (hs₇.extBut _ _ c1 (Heap.get?_push_of_some _ e))
    have hT₈ : h₈.get? h2.objs.size = some { cls := .type "tuple", data := .seq vs.toArray } := hs₈.extBut _ _ (Nat.ne_of_gt hzl) (hs₇.extBut _ _ (Nat.ne_of_gt hzl) (by have := Heap.get?_push_size h2 (o := { cls := .type "tuple", data := .seq vs.toArray.toList.toArray }) rfl; simpa using this))
    have hz8 : h₈.objs.size = h2.objs.size + 1 := by rw [hs₈.1, hs₇.1, Heap.size_push]
    refine wpAny_pure ⟨_, rfl, ?_⟩
    show Q (.ref h2.objs.size) _
    rw [hsz] at hz₈ hT₈ hz8 ⊢
    exact hQ h₈ hz₈ (all.at_ fun c hc o e => up c o (fun z => d2 (z ▸ hc)) e) hT₈ hz8 (fun c o c1 c2 c3 e => up c o c1 (((kp c c2 c3).trans (st c c1)).trans e))
/-- the end: the first is done -/
theorem next_end {z TI TO T i1 l1 : Addr} {f : Bool} {oT : Obj} {i : Nat} {is : List Addr} {xs : List Value} {Q : Fin → Shared → Prop} (hh : A.handled = none) (hz : IsZipHeld s.heap z TI TO T f) (hT : s.heap.get? T = some oT) (hTI : IsTupL s.heap TI ((i1 :: is).map Value.ref))
    (hi : s.heap.IsTupleIter i1 l1 i) (ht : s.heap.IsTuple l1 xs.toArray) (hx : xs.length ≤ i) (d1 : z ≠ i1) (d2 : z ≠ l1)
    (hE : ∀ h' e, (∀ c o, c ≠ z → c ≠ i1 → s.heap.get? c = some o → h'.get? c = some o) → (∃ o, h'.get? e = some o ∧ o.cls = .type "StopIteration") → E (.ref e) { s with heap := h' }) :
    wpAny (model prog w) A (Builtin.«zip.__next__» ⟨[.ref z], []⟩) Q E s := by
  show wpAny _ _ (field (.ref z) 2 >>= _) _ _ _
  refine wpAny_bind (wpAny_field hz rfl (x := .bool false) rfl ?_)
  show wpAny _ _ (field (.ref z) 3 >>= _) _ _ _
  refine wpAny_bind (wpAny_field hz rfl (x := .ref TI) rfl ?_)
  refine wpAny_bind (wpAny_seqItems hTI rfl ?_)
  have ne : ((i1 :: is).map Value.ref).toArray.isEmpty = false := rfl
  simp only [ne, Bool.false_eq_true, if_false]
  show wpAny _ _ (Builtin.SmallTypes.ownedTupleIsFree (.ref z) >>= _) _ _ _
  refine wpAny_bind (wpAny_tupleHeld_zip hz hT fun h₁ hz₁ hs₁ => ?_)
  simp only [Bool.false_eq_true, if_false]
  refine wpAny_bind ?_
  rw [← Array.forIn_toList]
  simp only [List.map_cons, List.forIn_cons]
  refine wpAny_bind (wpAny_bind (wpAny_holding ?_))
  show wpAny _ _ (Builtin.SmallTypes.nextOf (.ref i1) >>= _) _ _ _
  have a1 : h₁.IsTupleIter i1 l1 i := hi.extBut hs₁.extBut d1.symm
  have a2 : h₁.IsTuple l1 xs.toArray := ht.extBut hs₁.extBut d2.symm
  refine wpAny_bind (RZ.nextOf_tuple_end (s := { s with heap := h₁ }) hh a1 a2 (by simp; omega) fun h₂ e hs₂ he => ?_)
  exact hE h₂ e (fun c o c1 c2 x => hs₂ _ _ c2 (hs₁.extBut _ _ c1 x)) he
/-- how the zip stands ahead of turn i -/
structure ZSt (h : Heap) (z TI TO : Addr) (is ls : List Addr) (xss : List (List Value)) (S : Addr) (i : Nat) : Prop where
  ti : IsTupL h TI (is.map Value.ref)
  all : IsAll h i is ls
  tups : Tups h ls xss
  own : (i = 0 ∧ IsZipN h z TI TO .none (.bool false) ∧ IsTupL h TO (List.replicate is.length .none)) ∨ (∃ T f oT, IsZipHeld h z TI TO T f ∧ h.get? T = some oT ∧ T ≠ z ∧ T ∉ is ∧ T ≠ S)
structure Apart (z TI TO S : Addr) (is ls : List Addr) : Prop where
  nd : is.Nodup
  il : ∀ c ∈ is, c ∉ ls
  zi : z ∉ is
  zl : z ∉ ls
  oi : TO ∉ is
  ol : TO ∉ ls
  oz : TO ≠ z
  tz : TI ≠ z
  to : TI ≠ TO
  ti : TI ∉ is
  sz : S ≠ z
  so : S ≠ TO
  st : S ≠ TI
  si : S ∉ is
  sl : S ∉ ls
  len : 1 ≤ is.length ∧ is.length ≤ 8
theorem ZSt.type {h : Heap} {z TI TO S : Addr} {is ls : List Addr} {xss : List (List Value)} {i : Nat} (st : ZSt h z TI TO is ls xss S i) : ∃ o, h.get? z = some o ∧ o.cls = .type "zip" := by
  rcases st.own with ⟨_, e, _⟩ | ⟨T, f, oT, e, _⟩
  · exact ⟨_, e, rfl⟩
  · exact ⟨_, e, rfl⟩
theorem ZSt.keep {h h' : Heap} {z TI TO S : Addr} {is ls : List Addr} {xss : List (List Value)} {i : Nat} (st : ZSt h z TI TO is ls xss S i) (D : Apart z TI TO S is ls) (k : ∀ c o, c ≠ S → h.get? c = some o → h'.get? c = some o) : ZSt h' z TI TO is ls xss S i := by
  refine ⟨k TI _ D.st.symm st.ti, st.all.at_ fun c hc o e => k c o (fun z => D.si (z ▸ hc)) e, st.tups.at_ fun c hc o e => k c o (fun z => D.sl (z ▸ hc)) e, ?_⟩
  rcases st.own with ⟨e0, e1, e2⟩ | ⟨T, f, oT, e1, e2, e3, e4, e5⟩
  · exact .inl ⟨e0, k z _ D.sz.symm e1, k TO _ D.so.symm e2⟩
  · exact .inr ⟨T, f, oT, k z _ D.sz.symm e1, k T _ e5 e2, e3, e4, e5⟩
theorem pyNext_item {z TI TO S : Addr} {is ls : List Addr} {xss : List (List Value)} {vs : List Value} {i : Nat} {Q : Option Value → Shared → Prop} (D : Apart z TI TO S is ls) (st : ZSt s.heap z TI TO is ls xss S i) (hv : Items i xss vs) (hS : S < s.heap.objs.size)
    (hQ : ∀ h', ZSt h' z TI TO is ls xss S (i + 1) → h'.get? s.heap.objs.size = some { cls := .type "tuple", data := .seq vs.toArray } → h'.objs.size = s.heap.objs.size + 1 →
      (∀ c o, c ≠ z → c ≠ TO → c ∉ is → s.heap.get? c = some o → h'.get? c = some o) → Q (some (.ref s.heap.objs.size)) { s with heap := h' }) : wpAny (model prog w) A (pyNext (.ref z)) Q E s := by
  have hTy : s.TypeIs (.ref z) "zip" := st.type
  have zlt : z < s.heap.objs.size := by obtain ⟨o, e, _⟩ := st.type; exact Heap.lt_size e
  have ilt : ∀ c ∈ is, c < s.heap.objs.size := by
    have : ∀ (is ls : List Addr), IsAll s.heap i is ls → ∀ c ∈ is, c < s.heap.objs.size := by
      intro is
      induction is with
      | nil => intro ls h c hc; cases hc
      | cons a is ih =>
        intro ls h c hc
        cases ls with
        | nil => exact h.elim
        | cons l ls =>
          rcases List.mem_cons.mp hc with rfl | hc
          · obtain ⟨o, e, _⟩ := h.1; exact Heap.lt_size e
          · exact ih ls h.2 c hc
    exact this is ls st.all
  have llt : ∀ c ∈ ls, ∃ o, s.heap.get? c = some o := by
    have : ∀ (ls : List Addr) (xss : List (List Value)), Tups s.heap ls xss → ∀ c ∈ ls, ∃ o, s.heap.get? c = some o := by
      intro ls
      induction ls with
      | nil => intro xss h c hc; cases hc
      | cons a is ih =>
        intro xss h c hc
        cases xss with
        | nil => exact h.elim
        | cons l ls =>
          rcases List.mem_cons.mp hc with rfl | hc
          · obtain ⟨o, e, _⟩ := h.1; exact ⟨o, e⟩
          · exact ih ls h.2 c hc
    exact this ls xss st.tups
  unfold pyNext
  refine wpAny_bind (wpAny_attempt (wpAny_callSpecial?_slot (name := Str.ofString "__next__") hTy F.slot_zip_next
    (wpAny_call_entry F.slot_zip_next hTy F.entry_zip_next ?_ (F.args_zip_next_1 _))))
  rcases st.own with ⟨e0, e1, e2⟩ | ⟨T, f, oT, e1, e2, e3, e4, e5⟩
  · refine next_free e1 e2 st.ti st.all st.tups hv D.nd D.il D.zi D.zl D.oi D.ol D.oz D.len fun h' b1 b2 b3 b4 b5 => wpAny_pure (hQ h' ⟨b5 TI _ D.tz D.to D.ti st.ti, b2, st.tups.at_ fun c hc o e => b5 c o (fun q => D.zl (q ▸ hc)) (fun q => D.ol (q ▸ hc)) (fun q => D.il c q hc) e,
      .inr ⟨_, _, _, b1, b3, Nat.ne_of_gt zlt, fun q => Nat.lt_irrefl _ (ilt _ q), Nat.ne_of_gt hS⟩⟩ b3 b4 b5)
  · refine next_held e1 e2 st.ti st.all st.tups hv D.nd D.il D.zi D.zl D.tz.symm D.len fun h' b1 b2 b3 b4 b5 => wpAny_pure (hQ h' ⟨b5 TI _ D.tz D.ti st.ti, b2, st.tups.at_ fun c hc o e => b5 c o (fun q => D.zl (q ▸ hc)) (fun q => D.il c q hc) e,
      .inr ⟨T, true, oT, b1, b5 T oT e3 e4 e2, e3, e4, e5⟩⟩ b3 b4 (fun c o c1 _ c3 e => b5 c o c1 c3 e))
theorem pyNext_end {z TI TO S i1 l1 : Addr} {is ls : List Addr} {xs : List Value} {xss : List (List Value)} {i : Nat} {Q : Option Value → Shared → Prop} (hh : A.handled = none) (D : Apart z TI TO S (i1 :: is) (l1 :: ls)) (st : ZSt s.heap z TI TO (i1 :: is) (l1 :: ls) (xs :: xss) S i) (h0 : i ≠ 0) (hx : xs.length ≤ i)
    (hQ : ∀ h', (∀ c o, c ≠ z → c ≠ i1 → s.heap.get? c = some o → h'.get? c = some o) → Q none { s with heap := h' }) : wpAny (model prog w) A (pyNext (.ref z)) Q E s := by
  have hTy : s.TypeIs (.ref z) "zip" := st.type
  unfold pyNext
  refine wpAny_bind (wpAny_attempt (wpAny_callSpecial?_slot (name := Str.ofString "__next__") hTy F.slot_zip_next
    (wpAny_call_entry F.slot_zip_next hTy F.entry_zip_next ?_ (F.args_zip_next_1 _))))
  rcases st.own with ⟨e0, e1, e2⟩ | ⟨T, f, oT, e1, e2, e3, e4, e5⟩
  · exact absurd e0 h0
  · refine next_end hh e1 e2 st.ti st.all.1 st.tups.1 hx (fun q => D.zi (q ▸ List.mem_cons_self)) (fun q => D.zl (q ▸ List.mem_cons_self)) fun h' e hk he => ?_
    obtain ⟨o, ho, hc⟩ := he
    refine wpAny_bind (wpAny_isInstance (T := "StopIteration") (b := true) ⟨o, ho, hc⟩ isSubtype_stop ?_)
    exact wpAny_pure (hQ _ hk)
/-! ### all turns, into a list -/
structure MadeT (cols : List (List Value)) (lo : Addr) (h : Heap) (as : List Addr) : Prop where
  rise : as.Pairwise (· < ·)
  above : ∀ a ∈ as, lo ≤ a
  tups : ∀ (j : Nat) (a : Addr), as[j]? = some a → ∃ vs, cols[j]? = some vs ∧ h.get? a = some { cls := .type "tuple", data := .seq vs.toArray }
theorem MadeT.there {cols : List (List Value)} {lo : Addr} {h : Heap} {as : List Addr} (g : MadeT cols lo h as) {a : Addr} (ha : a ∈ as) : a < h.objs.size := by
  obtain ⟨j, hj⟩ := List.mem_iff_getElem?.mp ha
  obtain ⟨_, _, e⟩ := g.tups j a hj
  exact Heap.lt_size e
theorem loopZ {R : Result → Shared → Prop} {z TI TO S i1 l1 : Addr} {is ls : List Addr} {xs : List Value} {xss cols : List (List Value)} {lo : Addr} (hh : A.handled = none) (D : Apart z TI TO S (i1 :: is) (l1 :: ls)) (low : S < lo ∧ z < lo ∧ TO < lo ∧ (∀ c ∈ i1 :: is, c < lo))
    (hc : ∀ j vs, cols[j]? = some vs → Items j (xs :: xss) vs) (hx : xs.length = cols.length) (h0 : cols.length ≠ 0) (hn : cols.length ≤ sizeLine) (res : Value) {h₁ : Heap}
    (hR : ∀ h' tk acc c as, (∀ b o, b ≠ S → b ≠ z → b ≠ TO → b ∉ i1 :: is → h₁.get? b = some o → h'.get? b = some o) → h'.get? S = some { cls := .type "list", dict := none, data := .seq acc c, slots := #[] } → as.length = cols.length → MadeT cols lo h' as →
      acc.toList = as.map Value.ref → R (.ok (.ret res)) { s with heap := h', toks := tk }) :
    ∀ (k i : Nat) (h : Heap) (tk c : Nat) (acc : Array Value) (as : List Addr), cols.length - i = k → i ≤ cols.length → ZSt h z TI TO (i1 :: is) (l1 :: ls) (xs :: xss) S i → (∀ b o, b ≠ S → b ≠ z → b ≠ TO → b ∉ i1 :: is → h₁.get? b = some o → h.get? b = some o) →
      h.get? S = some { cls := .type "list", dict := none, data := .seq acc c, slots := #[] } → acc.toList = as.map Value.ref → as.length = i → MadeT cols lo h as → lo ≤ h.objs.size →
      codeAny (model prog w) A (.builtin "list.extend.loop" ⟨[.ref S, .ref z, res], []⟩) R { s with heap := h, toks := tk } := by
  have off : ∀ a, lo ≤ a → a ≠ S ∧ a ≠ z ∧ a ≠ TO ∧ a ∉ i1 :: is := fun a ha => ⟨Nat.ne_of_gt (Nat.lt_of_lt_of_le low.1 ha), Nat.ne_of_gt (Nat.lt_of_lt_of_le low.2.1 ha), Nat.ne_of_gt (Nat.lt_of_lt_of_le low.2.2.1 ha), fun q => absurd (low.2.2.2 a q) (Nat.not_lt.mpr ha)⟩
  intro k
  induction k with
  | zero =>
    intro i h tk c acc as hk hi hst hkeep hS hacc hal hG hIs
    refine codeAny_builtin PySem.F.entry_extend_loop ?_
    rw [Around.under_plainId PySem.F.plain_extend_loop _]
    show wpAny _ A.in1 (pyNext (.ref z) >>= _) _ _ _
    refine wpAny_bind (pyNext_end (s := { s with heap := h, toks := tk }) (A := A.in1) hh D hst (by omega) (by omega) fun h' he => ?_)
    refine wpAny_pure (hR h' tk acc c as (fun b o h1 h2 h3 h4 e => he b o h2 (fun q => h4 (q ▸ List.mem_cons_self)) (hkeep b o h1 h2 h3 h4 e)) (he S _ D.sz (fun q => D.si (q ▸ List.mem_cons_self)) hS) (by omega) ⟨hG.rise, hG.above, fun j a hj => ?_⟩ hacc)
    obtain ⟨e, e1, e3⟩ := hG.tups j a hj
    have o := off a (hG.above a (List.mem_of_getElem? hj))
    exact ⟨e, e1, he a _ o.2.1 (fun q => o.2.2.2 (q ▸ List.mem_cons_self)) e3⟩
  | succ k ih =>
    intro i h tk c acc as hk hi hst hkeep hS hacc hal hG hIs
    have hlt : i < cols.length := by omega
    have hsz : acc.size = i := by rw [← Array.length_toList, hacc, List.length_map, hal]
    have hv := hc i cols[i] (List.getElem?_eq_getElem hlt)
    refine codeAny_builtin PySem.F.entry_extend_loop ?_
    rw [Around.under_plainId PySem.F.plain_extend_loop _]
    show wpAny _ A.in1 (pyNext (.ref z) >>= _) _ _ _
    refine wpAny_bind (pyNext_item (s := { s with heap := h, toks := tk }) D hst hv (Heap.lt_size hS) fun h' hst' ht hz hkp => ?_)
    dsimp only at ht hz hkp ⊢
    have hS' := hkp S _ D.sz D.so D.si hS
    have up : ∀ b o, b ≠ S → h'.get? b = some o → (h'.update S (Obj.mapSeq (·.push (Value.ref h.objs.size)))).get? b = some o := fun b o hb e => (Heap.get?_update_other _ _ (Ne.symm hb)).trans e
    have hSl : S < h.objs.size := Heap.lt_size hS
    show wpAny _ A.in1 (updateSeq S (·.push (Value.ref h.objs.size)) >>= _) _ _ _
    refine wpAny_bind ?_
    refine wpAny_updateSeq hS' rfl (wpAny_pure ⟨plainId_quiet PySem.F.plain_extend_loop _, ih (i + 1) _ tk _ (acc.push (Value.ref h.objs.size)) (as ++ [h.objs.size]) (by omega) hlt (hst'.keep D fun b o hb e => up b o hb e)
      (fun b o h1 h2 h3 h4 e => up b o h1 (hkp b o h2 h3 h4 (hkeep b o h1 h2 h3 h4 e))) (Heap.get?_update_self _ hS' rfl) (by rw [Array.toList_push, hacc, List.map_append]; rfl) (by rw [List.length_append, hal]; rfl) ⟨?_, ?_, ?_⟩ ?_⟩) (by rw [hsz]; omega) (by show (acc.push (Value.ref h.objs.size)).size ≤ sizeLine + 1; rw [Array.size_push, hsz]; omega)
    · refine List.pairwise_append.mpr ⟨hG.rise, List.pairwise_singleton _ _, fun a ha b hb => ?_⟩
      rw [List.mem_singleton.mp hb]
      exact hG.there ha
    · intro a ha
      rcases List.mem_append.mp ha with ha | ha
      · exact hG.above a ha
      · rw [List.mem_singleton.mp ha]; exact hIs
    · intro j b hj
      rcases Nat.lt_trichotomy j as.length with h1 | h1 | h1
      · rw [List.getElem?_append_left h1] at hj
        obtain ⟨e', e1, e3⟩ := hG.tups j b hj
        have o := off b (hG.above b (List.mem_of_getElem? hj))
        exact ⟨e', e1, up b _ o.1 (hkp b _ o.2.1 o.2.2.1 o.2.2.2 e3)⟩
      · subst h1
        have hb : h.objs.size = b := by simpa using hj
        subst hb
        exact ⟨cols[as.length]'(by rw [hal]; exact hlt), List.getElem?_eq_getElem _, up _ _ (Nat.ne_of_gt hSl) (by subst hal; exact ht)⟩
      · have hnone : (as ++ [h.objs.size])[j]? = none := List.getElem?_eq_none (by rw [List.length_append, List.length_singleton]; omega)
        rw [hnone] at hj; cases hj
    · have e : (h'.update S (Obj.mapSeq (·.push (Value.ref h.objs.size)))).get? h.objs.size = _ := up _ _ (Nat.ne_of_gt hSl) ht
      exact Nat.le_trans hIs (Nat.le_of_lt (Heap.lt_size e))
end
end ZZ
/-! ZZiq: tuple(zip(..)), at the library's level. -/
set_option linter.all false
set_option autoImplicit false
set_option maxHeartbeats 4000000
set_option maxRecDepth 100000
namespace ZZ
open PySem PySem.Spec PyProof.Rows PySem.W
theorem nolen_zip : typeLookup (.type "zip") "__len__" = pure none := by rw [typeLookup_type, builtinLookup_eq_fast]; kernel_rfl
theorem nohint_zip : typeLookup (.type "zip") "__length_hint__" = pure none := by rw [typeLookup_type, builtinLookup_eq_fast]; kernel_rfl
section
variable {prog : Program} {w : World} {A : Around} {E : Value → Shared → Prop} {s : Shared}
theorem collectZ {z TI TO i1 l1 : Addr} {is ls : List Addr} {xs : List Value} {xss cols : List (List Value)} {Q : List Value → Shared → Prop} (hh : A.handled = none) (D : Apart z TI TO s.heap.objs.size (i1 :: is) (l1 :: ls))
    (hz : IsZipN s.heap z TI TO .none (.bool false)) (hTO : IsTupL s.heap TO (List.replicate (i1 :: is).length .none)) (hTI : IsTupL s.heap TI ((i1 :: is).map Value.ref)) (hi : IsAll s.heap 0 (i1 :: is) (l1 :: ls)) (ht : Tups s.heap (l1 :: ls) (xs :: xss))
    (low : z < s.heap.objs.size ∧ TO < s.heap.objs.size ∧ (∀ c ∈ i1 :: is, c < s.heap.objs.size))
    (hc : ∀ j vs, cols[j]? = some vs → Items j (xs :: xss) vs) (hx : xs.length = cols.length) (h0 : cols.length ≠ 0) (hn : cols.length ≤ sizeLine)
    (hQ : ∀ h' tk as, (∀ b o, b ≠ z → b ≠ TO → b ∉ i1 :: is → s.heap.get? b = some o → h'.get? b = some o) → s.heap.objs.size < h'.objs.size → as.length = cols.length → MadeT cols (s.heap.objs.size + 1) h' as → Q (as.map Value.ref) { s with heap := h', toks := tk }) :
    wpAny (model prog w) A (collect (.ref z)) Q E s := by
  have hSz : s.heap.objs.size ≠ z := D.sz
  unfold collect
  refine wpAny_bind (wpAny_runValue (codeAny_builtin F.entry_proto_collect ?_))
  rw [Around.under_plainId F.plain_proto_collect _]
  show wpAny _ A.in1 (newList [] >>= fun l => again (.builtin "list.__iadd__" ⟨[l, .ref z], []⟩)) _ _ s
  refine wpAny_bind (wpAny_newObj_type ?_)
  refine wpAny_pure ⟨plainId_quiet F.plain_list_iadd _, codeAny_builtin F.entry_list_iadd ?_⟩
  rw [Around.under_plainId F.plain_list_iadd _]
  have up0 : ∀ b o, s.heap.get? b = some o → (s.heap.push { cls := .type "list", data := .seq ([] : List Value).toArray }).get? b = some o := fun b o e => Heap.get?_push_of_some _ e
  have hz₁ : IsZipN (s.heap.push { cls := .type "list", data := .seq ([] : List Value).toArray }) z TI TO .none (.bool false) := up0 _ _ hz
  have hT : ({ s with heap := s.heap.push { cls := .type "list", data := .seq ([] : List Value).toArray } } : Shared).TypeIs (.ref z) "zip" := ⟨_, hz₁, rfl⟩
  show wpAny _ A.in1 (Builtin.List.listExtendWith (.ref s.heap.objs.size) (.ref z) (.ref s.heap.objs.size)) _ _ _
  unfold Builtin.List.listExtendWith
  refine wpAny_bind (wpAny_typeOf hT ?_)
  have h1 : Builtin.List.listSameRef (.ref s.heap.objs.size) (.ref z) = false := by simp [Builtin.List.listSameRef, hSz]
  have h2 : (Value.type "zip" == Value.type "list") = false := by decide
  have h3 : (Value.type "zip" == Value.type "tuple") = false := by decide
  simp only [h1, h2, h3, Bool.or_false, Bool.false_eq_true, if_false]
  refine wpAny_bind (wpAny_pyIter_zip hz₁ ?_)
  refine wpAny_bind (wpAny_holding ?_)
  unfold Builtin.List.listLengthHint
  refine wpAny_bind (wpAny_specialOf hT nolen_zip ?_)
  show wpAny _ A.in1 (specialOf (Value.ref z) (Str.ofString "__length_hint__") >>= _) _ _ _
  refine wpAny_bind (wpAny_specialOf hT nohint_zip ?_)
  refine wpAny_pure ?_
  show wpAny _ A.in1 (rule "list.extend.makes-room" >>= fun _ => Builtin.List.listTouch (.ref s.heap.objs.size) >>= fun _ =>
    again (.builtin "list.extend.loop" ⟨[.ref s.heap.objs.size, .ref z, .ref s.heap.objs.size], []⟩)) _ _ _
  refine wpAny_bind (wpAny_rule ?_)
  have hS₁ : (s.heap.push { cls := .type "list", data := .seq ([] : List Value).toArray }).get? s.heap.objs.size = some { cls := .type "list", data := .seq ([] : List Value).toArray } := Heap.get?_push_size _ rfl
  refine wpAny_bind ?_
  show wpAny _ A.in1 (updateSeq s.heap.objs.size (·.push .none) >>= fun _ => updateSeq s.heap.objs.size (·.pop)) _ _ _
  refine wpAny_bind (wpAny_updateSeq hS₁ rfl ?_)
  have hS₂ := Heap.get?_update_self (Obj.mapSeq (·.push Value.none)) hS₁ rfl
  refine wpAny_updateSeq hS₂ rfl ?_
  have hS₃ := Heap.get?_update_self (Obj.mapSeq (·.pop)) hS₂ rfl
  have oth : ∀ b o, b ≠ s.heap.objs.size → s.heap.get? b = some o →
      (((s.heap.push { cls := .type "list", data := .seq ([] : List Value).toArray }).update s.heap.objs.size (Obj.mapSeq (·.push Value.none))).update s.heap.objs.size (Obj.mapSeq (·.pop))).get? b = some o :=
    fun b o hb e => (Heap.get?_update_other _ _ (Ne.symm hb)).trans ((Heap.get?_update_other _ _ (Ne.symm hb)).trans (up0 b o e))
  have st0 : ZSt s.heap z TI TO (i1 :: is) (l1 :: ls) (xs :: xss) s.heap.objs.size 0 := ⟨hTI, hi, ht, .inl ⟨rfl, hz, hTO⟩⟩
  have hsz : s.heap.objs.size + 1 ≤ (((s.heap.push { cls := .type "list", data := .seq ([] : List Value).toArray }).update s.heap.objs.size (Obj.mapSeq (·.push Value.none))).update s.heap.objs.size (Obj.mapSeq (·.pop))).objs.size := Heap.lt_size hS₃
  refine wpAny_pure ⟨plainId_quiet F.plain_extend_loop _, loopZ (lo := s.heap.objs.size + 1) (h₁ := s.heap) (s := s) hh D ⟨Nat.lt_succ_self _, Nat.lt_succ_of_lt low.1, Nat.lt_succ_of_lt low.2.1, fun c hc => Nat.lt_succ_of_lt (low.2.2 c hc)⟩ hc hx h0 hn _ (fun h' tk acc c as hk hS' hl hG hacc => ?_)
    cols.length 0 _ s.toks _ _ [] (Nat.sub_zero _) (Nat.zero_le _) (st0.keep D oth) (fun b o hb _ _ _ e => oth b o hb e) hS₃ rfl rfl ⟨List.Pairwise.nil, (fun _ ha => nomatch ha), (fun j a hj => by simp at hj)⟩ hsz⟩
  show wpAny _ A (load s.heap.objs.size >>= _) _ _ _
  refine wpAny_bind (wpAny_load hS' ?_)
  refine wpAny_pure ?_
  show Q acc.toList _
  rw [hacc]
  exact hQ h' tk as (fun b o b1 b2 b3 e => hk b o (Nat.ne_of_lt (Heap.lt_size e)) b1 b2 b3 e) (Heap.lt_size hS') hl hG
theorem code_tuple_new_zip {z TI TO i1 l1 : Addr} {is ls : List Addr} {xs : List Value} {xss cols : List (List Value)} {Q₁ : Value → Shared → Prop} (hh : A.handled = none) (D : Apart z TI TO s.heap.objs.size (i1 :: is) (l1 :: ls))
    (hz : IsZipN s.heap z TI TO .none (.bool false)) (hTO : IsTupL s.heap TO (List.replicate (i1 :: is).length .none)) (hTI : IsTupL s.heap TI ((i1 :: is).map Value.ref)) (hi : IsAll s.heap 0 (i1 :: is) (l1 :: ls)) (ht : Tups s.heap (l1 :: ls) (xs :: xss))
    (low : z < s.heap.objs.size ∧ TO < s.heap.objs.size ∧ (∀ c ∈ i1 :: is, c < s.heap.objs.size))
    (hc : ∀ j vs, cols[j]? = some vs → Items j (xs :: xss) vs) (hx : xs.length = cols.length) (h0 : cols.length ≠ 0) (hn : cols.length ≤ sizeLine)
    (h : ∀ h' tk as, (∀ b o, b ≠ z → b ≠ TO → b ∉ i1 :: is → s.heap.get? b = some o → h'.get? b = some o) → s.heap.objs.size < h'.objs.size → as.length = cols.length → MadeT cols (s.heap.objs.size + 1) h' as →
      Q₁ (.ref h'.objs.size) { s with heap := h'.push { cls := .type "tuple", data := .seq (as.map Value.ref).toArray }, toks := tk }) :
    codeAny (model prog w) A (.call (.builtin "tuple.__new__") ⟨[.type "tuple", .ref z], []⟩) (wants Q₁ E) s := by
  refine codeAny_of_tree ?_
  show wpAny _ A.in1 (do checkBuiltinCall "tuple.__new__" ⟨[.type "tuple", .ref z], []⟩; again (.builtin "tuple.__new__" ⟨[.type "tuple", .ref z], []⟩)) _ _ s
  refine wpAny_bind (wpAny_of_eq (F.newCall_tuple_1 _) (wpAny_pure ⟨plainId_quiet F.plain_tuple_new _, codeAny_builtin F.entry_tuple_new ?_⟩))
  rw [Around.under_plainId F.plain_tuple_new _]
  have hsub := sub_tuple_self
  have hinit := init_tuple_lookup
  have hmh := madeHere_tuple
  have hTI' : s.TypeIs (.ref z) "zip" := ⟨_, hz, rfl⟩
  have hh1 : A.in1.handled = none := hh
  wp_walk using wpAny_typeOf hTI', collectZ (A := A.in1) hh1 D hz hTO hTI hi ht low hc hx h0 hn
  intro h' tk as hk hlt hl hG
  show wpAny _ _ (Builtin.Tuple.tupleExact (as.map Value.ref).toArray >>= fun v => ret v) _ _ _
  unfold Builtin.Tuple.tupleExact
  refine wpAny_bind (wpAny_newObj_type ?_ (by show (as.map Value.ref).toArray.size ≤ sizeLine; rw [List.size_toArray, List.length_map, hl]; exact hn))
  refine wpAny_pure ?_
  exact h h' tk as hk hlt hl hG
theorem call_tuple_zip {z TI TO i1 l1 : Addr} {is ls : List Addr} {xs : List Value} {xss cols : List (List Value)} {Q : Value → Shared → Prop} (hh : A.handled = none) (D : Apart z TI TO s.heap.objs.size (i1 :: is) (l1 :: ls))
    (hz : IsZipN s.heap z TI TO .none (.bool false)) (hTO : IsTupL s.heap TO (List.replicate (i1 :: is).length .none)) (hTI : IsTupL s.heap TI ((i1 :: is).map Value.ref)) (hi : IsAll s.heap 0 (i1 :: is) (l1 :: ls)) (ht : Tups s.heap (l1 :: ls) (xs :: xss))
    (low : z < s.heap.objs.size ∧ TO < s.heap.objs.size ∧ (∀ c ∈ i1 :: is, c < s.heap.objs.size))
    (hc : ∀ j vs, cols[j]? = some vs → Items j (xs :: xss) vs) (hx : xs.length = cols.length) (h0 : cols.length ≠ 0) (hn : cols.length ≤ sizeLine)
    (hQ : ∀ h' tk as, (∀ b o, b ≠ z → b ≠ TO → b ∉ i1 :: is → s.heap.get? b = some o → h'.get? b = some o) → s.heap.objs.size < h'.objs.size → as.length = cols.length → MadeT cols (s.heap.objs.size + 1) h' as →
      Q (.ref h'.objs.size) { s with heap := h'.push { cls := .type "tuple", data := .seq (as.map Value.ref).toArray }, toks := tk }) :
    wpAny (model prog w) A (call (.type "tuple") [.ref z]) Q E s := by
  refine callType_codes (Q₁ := fun obj s₁ => s₁.TypeIs obj "tuple" ∧ Q obj s₁) F.called_tuple (F.typeCall_tuple_1 _) F.entry_object_init
    (code_tuple_new_zip (A := A.in1) hh D hz hTO hTI hi ht low hc hx h0 hn fun h' tk as hk hlt hl hG => ⟨⟨_, Heap.get?_push_size _ rfl, rfl⟩, hQ h' tk as hk hlt hl hG⟩) fun obj s₁ h₁ => ?_
  exact ⟨h₁.1, F.args_object_init_2 obj _, object_init_meets F.called_tuple.init.lookup F.called_tuple.made (by decide) prog w A.in1 _ s₁ ⟨h₁.1, rfl, h₁.2⟩⟩
end
end ZZ
/-! ZTz: tuple(zip(*e)). -/
set_option linter.all false
set_option autoImplicit false
set_option maxHeartbeats 4000000
set_option maxRecDepth 100000
namespace ZZ
open PySem PySem.Spec PyProof.Rows PySem.W L2
/-- what stands at place i of each -/
def ItemsA {α : Type} (i : Nat) : List (List α) → List α → Prop
  | [], [] => True
  | xs :: xss, v :: vs => xs[i]? = some v ∧ ItemsA i xss vs
  | _, _ => False
/-- tuples tracked at their addresses -/
def putL : Hp → List Addr → List (List V) → Hp
  | H, a :: as, p :: ps => putL (upd H a (.tup p)) as ps
  | H, _, _ => H
theorem putL_off {b : Addr} : ∀ (as : List Addr) (ps : List (List V)) (H : Hp), b ∉ as → putL H as ps b = H b
  | [], _, _, _ => rfl
  | _ :: _, [], _, _ => rfl
  | a :: as, p :: ps, H, h => by
    show putL (upd H a (.tup p)) as ps b = H b
    rw [putL_off as ps _ (fun z => h (List.mem_cons_of_mem _ z)), upd_ne (fun z => h (by rw [z]; exact List.mem_cons_self))]
theorem putL_at : ∀ (as : List Addr) (ps : List (List V)) (H : Hp) (j : Nat) (a : Addr), as.length = ps.length → as.Nodup → as[j]? = some a → ∃ p, ps[j]? = some p ∧ putL H as ps a = some (.tup p)
  | [], _, _, j, a, _, _, h => by simp at h
  | a0 :: as, [], _, _, _, h, _, _ => by cases h
  | a0 :: as, p :: ps, H, 0, a, h, hn, e => by
    have e : a0 = a := by simpa using e
    subst e
    exact ⟨p, rfl, by show putL (upd H a0 (.tup p)) as ps a0 = _; rw [putL_off as ps _ (List.nodup_cons.mp hn).1, upd_same]⟩
  | a0 :: as, p :: ps, H, j + 1, a, h, hn, e => putL_at as ps (upd H a0 (.tup p)) j a (Nat.succ.inj h) (List.nodup_cons.mp hn).2 (by simpa using e)
section
variable {X : Cx} {pins : List (Addr × Obj)} {σ : L2.St} {H : Hp} {s : Shared}
theorem tups_laid {h' : Heap} {tk : Nat} {cols : List (List Value)} {vcols : List (List V)} {as : List Addr} {q : Addr} (I : Inv X pins σ H s) (hk : ∀ b o, s.heap.get? b = some o → h'.get? b = some o) (hl : as.length = vcols.length) (hr : ∀ (j : Nat) (vs : List Value), cols[j]? = some vs → ∃ ws, vcols[j]? = some ws ∧ Vals ws vs)
    (hz : as.length ≤ sizeLine) (hz2 : ∀ ws ∈ vcols, ws.length ≤ sizeLine) (hG : MadeT cols s.heap.objs.size h' as) (hq : s.heap.objs.size ≤ q) (hqa : q ∉ as) (hqt : h'.get? q = some { cls := .type "tuple", data := .seq (as.map Value.ref).toArray }) :
    as.Nodup ∧ (∀ t ∈ as, H t = none) ∧ H q = none ∧ Inv X pins σ (upd (putL H as vcols) q (.tup (as.map V.ref))) { s with heap := h', toks := tk } := by
  have nd : as.Nodup := List.Pairwise.imp (fun {a b} (h : a < b) => Nat.ne_of_lt h) hG.rise
  have new : ∀ t ∈ as, H t = none := fun t ht => I.hok.fresh (hG.above t ht)
  have newq : H q = none := I.hok.fresh hq
  have off : ∀ b, b ∉ as → b ≠ q → upd (putL H as vcols) q (.tup (as.map V.ref)) b = H b := fun b h1 h2 => by rw [upd_ne h2, putL_off as vcols _ h1]
  have low : ∀ b o, s.heap.get? b = some o → b ∉ as ∧ b ≠ q := fun b o e => ⟨fun z => absurd (Heap.lt_size e) (Nat.not_lt.mpr (hG.above b z)), Nat.ne_of_lt (Nat.lt_of_lt_of_le (Heap.lt_size e) hq)⟩
  have kp : ∀ b u, H b = some u → upd (putL H as vcols) q (.tup (as.map V.ref)) b = some u := fun b u e => by
    rw [off b (fun z => by rw [new b z] at e; cases e) (fun z => by rw [z, newq] at e; cases e)]
    exact e
  refine ⟨nd, new, newq, ?_⟩
  refine I.call' (ch := []) rfl ⟨fun b o q _ _ _ => hk b o q, fun b o q _ _ _ => ⟨o.slots, hk b o q⟩, fun b o q n _ => ?_, fun b o q _ => ⟨o, hk b o q⟩, fun b xs q => kp b _ q, fun b o u q => kp b _ q, fun b ps q => ⟨#[], by rw [kp b _ q]; simp⟩⟩ (fun b u e => ?_) I.bare fun b z => by simp at z
  · obtain ⟨z1, z2⟩ := low b o q
    rw [off b z1 z2]
    exact n
  · by_cases hb2 : b = q
    · subst hb2
      rw [upd_same] at e
      cases e
      exact ⟨by rw [List.length_map]; exact hz, as.map Value.ref, LiI.vals_refs as, ⟨_, hqt, rfl, _, rfl⟩⟩
    · by_cases hb : b ∈ as
      · obtain ⟨j, hj⟩ := List.mem_iff_getElem?.mp hb
        obtain ⟨ws, e1, e2⟩ := putL_at as vcols H j b hl nd hj
        rw [upd_ne hb2, e2] at e
        cases e
        obtain ⟨vs, f1, f2⟩ := hG.tups j b hj
        obtain ⟨ws', g1, g2⟩ := hr j vs f1
        rw [e1] at g1
        cases g1
        exact ⟨hz2 ws (List.mem_of_getElem? e1), vs, g2, ⟨_, f2, rfl, _, rfl⟩⟩
      · rw [off b hb hb2] at e
        exact (I.hok b u e).stay (fun d v _ y => hk d v y) (fun d y => kp d _ y) fun d xs y => kp d _ y
end
/-- the rows, each a tuple -/
def RowsT (K : PySem.W.Frag) (H : Hp) : List Addr → List (List V) → Prop
  | [], [] => True
  | r :: rs, vs :: rows => SqT K H r vs ∧ RowsT K H rs rows
  | _, _ => False
def tTz (K : PySem.W.Frag) (te : TE) : TE := fun σ H Q => te σ H fun x H1 => ∃ (p : Addr) (rs : List Addr) (rows cols : List (List V)), x = .ref p ∧ SqT K H1 p (rs.map V.ref) ∧ RowsT K H1 rs rows ∧ (1 ≤ rs.length ∧ rs.length ≤ 8) ∧
  (∀ row ∈ rows, row.length = cols.length) ∧ (∀ (j : Nat) (vs : List V), cols[j]? = some vs → ItemsA j rows vs) ∧ cols.length ≠ 0 ∧ cols.length ≤ 1000 ∧
  ∀ (as : List Addr) (q : Addr), as.length = cols.length → as.Nodup → (∀ t ∈ as, H1 t = none) → H1 q = none → q ∉ as → Q (.ref q) (upd (putL H1 as cols) q (.tup (as.map V.ref)))
theorem refs_of : ∀ {rs : List Addr} {us : List Value}, Vals (rs.map V.ref) us → us = rs.map Value.ref
  | [], _, .nil => rfl
  | r :: rs, u :: us, .cons a b => by
    have e : u = Value.ref r := a
    rw [List.map_cons, refs_of b, e]
section
variable {X : Cx} {pins : List (Addr × Obj)} {σ : L2.St} {H : Hp} {s : Shared}
theorem rows_tups (I : Inv X pins σ H s) : ∀ {rs : List Addr} {rows : List (List V)}, RowsT X.K H rs rows → ∃ itss : List (List Value), Tups s.heap rs itss ∧ itss.length = rows.length ∧ ∀ (k : Nat) (row : List V), rows[k]? = some row → ∃ its, itss[k]? = some its ∧ Vals row its
  | [], [], _ => ⟨[], trivial, rfl, fun k row h => by simp at h⟩
  | r :: rs, vs :: rows, ⟨a, b⟩ => by
    obtain ⟨its, rv, p, _⟩ := I.tuple a
    obtain ⟨itss, t, l, f⟩ := rows_tups I b
    refine ⟨its :: itss, ⟨p, t⟩, by simp [l], fun k row h => ?_⟩
    cases k with
    | zero => exact ⟨its, rfl, by have : vs = row := by simpa using h
                                  rw [← this]; exact rv⟩
    | succ k => exact f k row (by simpa using h)
  | [], _ :: _, h => h.elim
  | _ :: _, [], h => h.elim
end
theorem items_of {rows : List (List V)} {itss : List (List Value)} (hl : itss.length = rows.length) (hr : ∀ (k : Nat) (row : List V), rows[k]? = some row → ∃ its, itss[k]? = some its ∧ Vals row its) {j : Nat} {vs : List V} (h : ItemsA j rows vs) :
    Items j itss (itss.map fun its => its.getD j .none) ∧ Vals vs (itss.map fun its => its.getD j .none) := by
  induction rows generalizing itss vs with
  | nil =>
    have e : itss = [] := List.eq_nil_of_length_eq_zero hl
    subst e
    cases vs with
    | nil => exact ⟨trivial, .nil⟩
    | cons _ _ => exact h.elim
  | cons row rows ih =>
    cases itss with
    | nil => simp at hl
    | cons its itss =>
      cases vs with
      | nil => exact h.elim
      | cons v vs =>
        obtain ⟨its', e, rv⟩ := hr 0 row rfl
        have e : its = its' := by simpa using e
        subst e
        obtain ⟨u, hu, ru⟩ := rv.get h.1
        obtain ⟨i1, i2⟩ := ih (itss := itss) (vs := vs) (by simpa using hl) (fun k r hk => by have := hr (k + 1) r (by simpa using hk); simpa using this) h.2
        have eu : its.getD j .none = u := by rw [List.getD_eq_getElem?_getD, hu]; rfl
        refine ⟨⟨?_, i1⟩, ?_⟩
        · show its[j]? = some (its.getD j .none)
          rw [hu, eu]
        · show Vals (v :: vs) (its.getD j .none :: itss.map fun its => its.getD j .none)
          rw [eu]
          exact .cons ru i2
theorem adrs_mem : ∀ {n a c : Nat}, c ∈ adrs a n → a ≤ c ∧ c < a + n
  | 0, a, c, h => nomatch h
  | n + 1, a, c, h => by
    rcases List.mem_cons.mp h with e | e
    · omega
    · have := adrs_mem e; omega
theorem adrs_nodup : ∀ {n a : Nat}, (adrs a n).Nodup
  | 0, _ => List.nodup_nil
  | n + 1, a => List.nodup_cons.mpr ⟨fun z => by have := adrs_mem z; omega, adrs_nodup⟩
theorem itemsA_len {α : Type} {i : Nat} : ∀ {xss : List (List α)} {vs : List α}, ItemsA i xss vs → vs.length = xss.length
  | [], [], _ => rfl
  | _ :: _, _ :: _, ⟨_, h⟩ => by rw [List.length_cons, List.length_cons, itemsA_len h]
  | [], _ :: _, h => h.elim
  | _ :: _, [], h => h.elim
theorem tups_mem {h : Heap} : ∀ {ls : List Addr} {xss : List (List Value)}, Tups h ls xss → ∀ l ∈ ls, ∃ xs : Array Value, h.IsTuple l xs
  | [], [], _, l, hl => nomatch hl
  | l0 :: ls, x :: xss, ⟨a, b⟩, l, hl => by
    rcases List.mem_cons.mp hl with rfl | hl
    · exact ⟨_, a⟩
    · exact tups_mem b l hl
  | [], _ :: _, h, _, _ => h.elim
  | _ :: _, [], h, _, _ => h.elim
theorem rowsT_len {K : PySem.W.Frag} {H : Hp} : ∀ {rs : List Addr} {rows : List (List V)}, RowsT K H rs rows → rs.length = rows.length
  | [], [], _ => rfl
  | _ :: _, _ :: _, ⟨_, h⟩ => by rw [List.length_cons, List.length_cons, rowsT_len h]
  | [], _ :: _, h => h.elim
  | _ :: _, [], h => h.elim
section
variable {X : Cx} {e : Expr} {te : TE} {p p2 p3 q pos : Pos}
/-- a zip object made of s2's tuples -/
def ZipMade (X : Cx) (pins : List (Addr × Obj)) (σ : L2.St) (Q : VK) (x : Value) (s1 : Shared) : Prop :=
  ∃ (H1 : Hp) (s2 : Shared) (z TI TO i1 l1 : Addr) (is ls : List Addr) (xs : List Value) (xss cols : List (List Value)) (vcols : List (List V)),
    x = .ref z ∧ Inv X pins σ H1 s2 ∧ s1 = { s2 with heap := s1.heap } ∧ (∀ b o, s2.heap.get? b = some o → s1.heap.get? b = some o) ∧ s2.heap.objs.size ≤ s1.heap.objs.size ∧ Apart z TI TO s1.heap.objs.size (i1 :: is) (l1 :: ls) ∧ IsZipN s1.heap z TI TO .none (.bool false) ∧
    IsTupL s1.heap TO (List.replicate (i1 :: is).length .none) ∧ IsTupL s1.heap TI ((i1 :: is).map Value.ref) ∧ IsAll s1.heap 0 (i1 :: is) (l1 :: ls) ∧ Tups s1.heap (l1 :: ls) (xs :: xss) ∧ (z < s1.heap.objs.size ∧ TO < s1.heap.objs.size ∧ (∀ c ∈ i1 :: is, c < s1.heap.objs.size)) ∧
    (s2.heap.objs.size ≤ z ∧ s2.heap.objs.size ≤ TO ∧ (∀ c ∈ i1 :: is, s2.heap.objs.size ≤ c)) ∧
    (∀ j vs, cols[j]? = some vs → Items j (xs :: xss) vs) ∧ xs.length = cols.length ∧ cols.length ≠ 0 ∧ cols.length ≤ 1000 ∧ (∀ (j : Nat) (vs : List Value), cols[j]? = some vs → ∃ ws, vcols[j]? = some ws ∧ Vals ws vs) ∧ vcols.length = cols.length ∧ (∀ ws ∈ vcols, ws.length ≤ sizeLine) ∧
    (∀ (as : List Addr) (q : Addr), as.length = vcols.length → as.Nodup → (∀ t ∈ as, H1 t = Option.none) → H1 q = Option.none → q ∉ as → Q (.ref q) (upd (putL H1 as vcols) q (.tup (as.map V.ref))))
theorem zip_made {pins : List (Addr × Obj)} {s : Shared} {σ : L2.St} {H : Hp} {Q : VK} (hgz : Gl X "zip") (hmz : X.mg "zip" = Option.none) (he : PE X e te) (I : Inv X pins σ H s) (h : tTz X.K te σ H Q)
    (ns : starEach [.Starred e p3] X.env = [(true, eval e X.env)] := by rfl) : wpAny (model X.prog X.w) X.A (eval (.Call (.Name "zip" p2) [.Starred e p3] [] q) X.env) (ZipMade X pins σ Q) X.xe s := by
  refine wpAny_Call_Name_kw (ld_blt I hgz hmz PyProof.Rows.boot_zip ?_)
  rw [ns]
  refine ks_call (P := fun _ => True) rfl (fun _ _ => ⟨.machine, .inr (.inl rfl), Looks.of_pure rfl⟩) (ks_lone (thn (he.run pins s σ H _ I h) fun v s1 ⟨y, H1, I1, ry, hy⟩ => ?_))
  obtain ⟨pp, rs, rows, cols, ey, hT, hR, hl, hlen, hcol, h0, hm, hq⟩ := hy
  subst ey
  obtain rfl : v = Value.ref pp := ry
  refine star_tup I1 hT fun us s2 I2 rv => ⟨trivial, ?_⟩
  obtain rfl := refs_of rv
  rw [List.nil_append]
  obtain ⟨itss, tp, tl, tf⟩ := rows_tups I2 hR
  refine call_zipN rs hl (fun l hm => tups_mem tp l hm) fun h' z1 z2 z3 z4 z5 z6 => ?_
  have rl := rowsT_len hR
  obtain ⟨l1, ls, rfl⟩ : ∃ l1 ls, rs = l1 :: ls := by
    cases rs with
    | nil => simp at hl
    | cons a b => exact ⟨a, b, rfl⟩
  obtain ⟨xs, xss, rfl⟩ : ∃ l1 ls, itss = l1 :: ls := by
    cases itss with
    | nil => exact tp.elim
    | cons a b => exact ⟨a, b, rfl⟩
  obtain ⟨row, rows', rfl⟩ : ∃ l1 ls, rows = l1 :: ls := by
    cases rows with
    | nil => simp at tl
    | cons a b => exact ⟨a, b, rfl⟩
  have ll : ∀ c : Nat, c ∈ l1 :: ls → c < s2.heap.objs.size := fun c hc => by
    obtain ⟨_, o, e, _⟩ := tups_mem tp c hc
    exact Heap.lt_size e
  have al := adrs_len (l1 :: ls).length s2.heap.objs.size
  have am : ∀ c : Nat, c ∈ adrs s2.heap.objs.size (l1 :: ls).length → s2.heap.objs.size ≤ c ∧ c < s2.heap.objs.size + (l1 :: ls).length := fun c hc => adrs_mem hc
  have an : (adrs s2.heap.objs.size (l1 :: ls).length).Nodup := adrs_nodup
  obtain ⟨row', e0, rv0⟩ := tf 0 row rfl
  have e0 : xs = row' := by simpa using e0
  subst e0
  have hx : xs.length = cols.length := by rw [← rv0.length]; exact hlen row List.mem_cons_self
  have colJ : ∀ (j : Nat) (vs : List Value), ((List.range cols.length).map fun j => (xs :: xss).map fun its => its.getD j .none)[j]? = some vs → ∃ ws, cols[j]? = some ws ∧ Items j (xs :: xss) vs ∧ Vals ws vs := fun j vs hj => by
    rw [List.getElem?_map, Option.map_eq_some_iff] at hj
    obtain ⟨j', e1, rfl⟩ := hj
    obtain ⟨e2, e3⟩ := List.getElem?_eq_some_iff.mp e1
    rw [List.getElem_range] at e3
    subst e3
    rw [List.length_range] at e2
    have io := items_of tl tf (hcol j cols[j] (List.getElem?_eq_getElem e2))
    exact ⟨cols[j], List.getElem?_eq_getElem e2, io.1, io.2⟩
  have colW : ∀ ws ∈ cols, ws.length ≤ sizeLine := fun ws hw => by
    obtain ⟨j, hj⟩ := List.mem_iff_getElem?.mp hw
    rw [itemsA_len (hcol j ws hj), ← rl, sizeLine_eq]
    omega
  have colL : ((List.range cols.length).map fun j => (xs :: xss).map fun its => its.getD j Value.none).length = cols.length := by rw [List.length_map, List.length_range]
  generalize ((List.range cols.length).map fun j => (xs :: xss).map fun its => its.getD j Value.none) = vals at colJ colL
  generalize hN : s2.heap.objs.size = N at *
  generalize hn : (l1 :: ls).length = n at *
  obtain ⟨i1, is, eis⟩ : ∃ i1 is, adrs N n = i1 :: is := by
    cases h : adrs N n with
    | nil => rw [h] at al; simp at al; omega
    | cons a b => exact ⟨a, b, rfl⟩
  rw [eis] at z2 z4 al am an
  have tp' : Tups h' (l1 :: ls) (xs :: xss) := tp.at_ fun c _ o e => z6 c o e
  have nl : ∀ c : Nat, N ≤ c → c ∉ l1 :: ls := fun c hc z => by have := ll c z; omega
  have na : ∀ c : Nat, N + n ≤ c → c ∉ i1 :: is := fun c hc z => by have := (am c z).2; omega
  have ap : Apart (N + n + 2) (N + n) (N + n + 1) h'.objs.size (i1 :: is) (l1 :: ls) := by
    rw [z5]
    exact ⟨an, fun c hc => nl c (am c hc).1, na _ (by omega), nl _ (by omega), na _ (by omega), nl _ (by omega), (show (N + n + 1 : Nat) ≠ N + n + 2 by omega), (show (N + n : Nat) ≠ N + n + 2 by omega), (show (N + n : Nat) ≠ N + n + 1 by omega), na _ (by omega), (show (N + n + 3 : Nat) ≠ N + n + 2 by omega), (show (N + n + 3 : Nat) ≠ N + n + 1 by omega), (show (N + n + 3 : Nat) ≠ N + n by omega), na _ (by omega), nl _ (by omega), by rw [al]; exact hl⟩
  have z3' : IsTupL h' (N + n + 1) (List.replicate (i1 :: is).length .none) := by rw [al]; exact z3
  refine ⟨H1, s2, N + n + 2, N + n, N + n + 1, i1, l1, is, ls, xs, xss, vals, cols, rfl, I2, rfl, z6, ?_, ap, z1, z3', z2, z4, tp', ?_, ?_, fun j vs hj => ?_, ?_, ?_, ?_, fun j vs hj => ?_, ?_, colW, hq⟩
  · show s2.heap.objs.size ≤ h'.objs.size
    omega
  · show _ < h'.objs.size ∧ _ < h'.objs.size ∧ ∀ c ∈ i1 :: is, c < h'.objs.size
    exact ⟨by omega, by omega, fun c hc => Nat.lt_of_lt_of_le (am c hc).2 (by omega)⟩
  · exact ⟨by omega, by omega, fun c hc => Nat.le_trans (Nat.le_of_eq hN) (am c hc).1⟩
  · obtain ⟨_, _, e2, _⟩ := colJ j vs hj; exact e2
  · rw [colL]; exact hx
  · rw [colL]; exact h0
  · rw [colL]; exact hm
  · obtain ⟨ws, e1, _, e3⟩ := colJ j vs hj; exact ⟨ws, e1, e3⟩
  · exact colL.symm
theorem pe_tupZip (hc : X.calm = true) (hgt : Gl X "tuple") (hmt : X.mg "tuple" = Option.none) (hgz : Gl X "zip") (hmz : X.mg "zip" = Option.none) (he : PE X e te) (na : starEach [.Call (.Name "zip" p2) [.Starred e p3] [] q] X.env = (false, eval (.Call (.Name "zip" p2) [.Starred e p3] [] q) X.env) :: starEach [] X.env := by rfl)
    (ns : starEach [.Starred e p3] X.env = [(true, eval e X.env)] := by rfl) : PE X (.Call (.Name "tuple" p) [.Call (.Name "zip" p2) [.Starred e p3] [] q] [] pos) (tTz X.K te) := by
  refine ⟨fun pins s σ H Q I h => ?_⟩
  refine Call_ (ld_blt I hgt hmt boot_tuple (PyProof.Rows.callWith_type1 (args_cons (thn (zip_made hgz hmz he I h ns) fun x s1 hz => args_nil ?_) na) na))
  obtain ⟨H1, s2, z, TI, TO, i1, l1, is, ls, xs, xss, cols, vcols, rfl, I2, es, kp, sz, D, z1, z2, z3, z4, z5, low, high, hcol, hx, h0, hm, hr, hl, hw, hq⟩ := hz
  have hh : X.A.handled = Option.none := I2.ok.hd hc
  refine call_tuple_zip hh D z1 z2 z3 z4 z5 low hcol hx h0 (by rw [sizeLine_eq]; omega) fun h' tk as hk hlt hal hG => ?_
  have hk2 : ∀ b o, s2.heap.get? b = some o → (h'.push { cls := .type "tuple", data := .seq (as.map Value.ref).toArray }).get? b = some o := fun b o e => by
    have hb := Heap.lt_size e
    exact Heap.get?_push_of_some _ (hk b o (fun q => by subst q; exact absurd hb (Nat.not_lt.mpr high.1)) (fun q => by subst q; exact absurd hb (Nat.not_lt.mpr high.2.1)) (fun q => absurd hb (Nat.not_lt.mpr (high.2.2 b q))) (kp b o e))
  have hG2 : MadeT cols s2.heap.objs.size (h'.push { cls := .type "tuple", data := .seq (as.map Value.ref).toArray }) as := ⟨hG.rise, fun a ha => Nat.le_trans (Nat.le_succ_of_le sz) (hG.above a ha), fun j a hj => by
    obtain ⟨vs, e1, e2⟩ := hG.tups j a hj
    exact ⟨vs, e1, Heap.get?_push_of_some _ e2⟩⟩
  obtain ⟨nd, new, newq, J⟩ := tups_laid (tk := tk) (q := h'.objs.size) I2 hk2 (by rw [hal, hl]) hr (by rw [hal, sizeLine_eq]; omega) hw hG2 (Nat.le_trans sz (Nat.le_of_lt hlt)) (fun z => Nat.lt_irrefl _ (hG.there z)) (Heap.get?_push_size _ rfl)
  rw [es]
  exact ⟨.ref h'.objs.size, _, J, rfl, hq as h'.objs.size (by rw [hal, hl]) nd new newq (fun z => Nat.lt_irrefl _ (hG.there z))⟩
end
end ZZ
/-! ZTe: tuple(zip(*e)), in the small language. -/
set_option linter.all false
set_option autoImplicit false
set_option maxHeartbeats 4000000
set_option maxRecDepth 4000
namespace Z
open PySem
open L2 (V Hp HO upd upd_same upd_ne ne_of_none)
open ZZ (putL putL_off putL_at RowsT ItemsA)
/-- rows of data, row by row -/
def RowsD (N : Addr → Prop) (H : Hp) : List (List D) → List (List V) → Prop
  | [], [] => True
  | xs :: xss, vs :: vss => RDs N H xs vs ∧ RowsD N H xss vss
  | _, _ => False
section
variable {K : PySem.W.Frag} {N : Addr → Prop} {H : Hp}
theorem rows_of : ∀ {rows : List D} {xss : List (List D)} {vs : List V}, allT rows = some xss → RDs N H rows vs → ∃ (rs : List Addr) (vss : List (List V)), vs = rs.map V.ref ∧ RowsT K H rs vss ∧ RowsD N H xss vss
  | [], xss, vs, e, r => by
    cases e
    rw [RDs] at r
    subst r
    exact ⟨[], [], rfl, trivial, trivial⟩
  | .tuple xs :: rows, xss, vs, e, r => by
    rw [allT, Option.map_eq_some_iff] at e
    obtain ⟨xss', e1, rfl⟩ := e
    rw [RDs] at r
    obtain ⟨v, vr, rfl, h1, h2⟩ := r
    rw [RD] at h1
    obtain ⟨a, ws, rfl, ha, na, hw⟩ := h1
    obtain ⟨rs, vss, rfl, k1, k2⟩ := rows_of e1 h2
    exact ⟨a :: rs, ws :: vss, rfl, ⟨.of ha, k1⟩, hw, k2⟩
  | .none :: _, _, _, e, _ => by cases e
  | .bool _ :: _, _, _, e, _ => by cases e
  | .int _ :: _, _, _, e, _ => by cases e
  | .str _ :: _, _, _, e, _ => by cases e
  | .list _ :: _, _, _, e, _ => by cases e
  | .dict _ :: _, _, _, e, _ => by cases e
theorem rowsD_len : ∀ {xss : List (List D)} {vss : List (List V)}, RowsD N H xss vss → xss.length = vss.length
  | [], [], _ => rfl
  | _ :: _, _ :: _, ⟨_, h⟩ => by rw [List.length_cons, List.length_cons, rowsD_len h]
  | [], _ :: _, h => h.elim
  | _ :: _, [], h => h.elim
theorem rowsD_row {m : Nat} : ∀ {xss : List (List D)} {vss : List (List V)}, RowsD N H xss vss → (∀ xs ∈ xss, xs.length = m) → ∀ vs ∈ vss, vs.length = m
  | [], [], _, _, _, h => nomatch h
  | xs :: xss, ws :: vss, ⟨a, b⟩, hm, vs, h => by
    rcases List.mem_cons.mp h with rfl | h
    · rw [← a.length]; exact hm xs List.mem_cons_self
    · exact rowsD_row b (fun x hx => hm x (List.mem_cons_of_mem _ hx)) vs h
  | [], _ :: _, h, _, _, _ => h.elim
  | _ :: _, [], h, _, _, _ => h.elim
theorem col_items {j : Nat} : ∀ {vss : List (List V)}, (∀ vs ∈ vss, j < vs.length) → ItemsA j vss (vss.map fun vs => vs.getD j .non)
  | [], _ => trivial
  | vs :: vss, h => by
    refine ⟨?_, col_items fun x hx => h x (List.mem_cons_of_mem _ hx)⟩
    have := h vs List.mem_cons_self
    show vs[j]? = some (vs.getD j .non)
    rw [List.getD_eq_getElem?_getD, List.getElem?_eq_getElem this]; rfl
theorem col_rds {j : Nat} : ∀ {xss : List (List D)} {vss : List (List V)}, RowsD N H xss vss → (∀ xs ∈ xss, j < xs.length) → RDs N H (xss.map fun xs => xs.getD j .none) (vss.map fun vs => vs.getD j .non)
  | [], [], _, _ => by rw [List.map_nil, List.map_nil, RDs]
  | xs :: xss, vs :: vss, ⟨a, b⟩, h => by
    have hx := h xs List.mem_cons_self
    obtain ⟨v, e, r⟩ := a.get (List.getElem?_eq_getElem hx)
    have e1 : xs.getD j .none = xs[j] := by rw [List.getD_eq_getElem?_getD, List.getElem?_eq_getElem hx]; rfl
    have e2 : vs.getD j .non = v := by rw [List.getD_eq_getElem?_getD, e]; rfl
    rw [List.map_cons, List.map_cons, e1, e2]
    exact .cons r (col_rds b fun x hx => h x (List.mem_cons_of_mem _ hx))
  | [], _ :: _, h, _ => h.elim
  | _ :: _, [], h, _ => h.elim
end
section
variable {K : PySem.W.Frag} {ρ : Slots} {σ : L2.St} {st st1 : Store} {ι ι1 P p : List Addr} {H H1 : Hp}
theorem Aft.puts : ∀ {as : List Addr} {vss : List (List V)} {p : List Addr} {H1 : Hp}, Aft K ρ σ st ι P H st1 ι1 p H1 → as.Nodup → (∀ t ∈ as, H1 t = none) → ∃ p', Aft K ρ σ st ι P H st1 ι1 p' (putL H1 as vss)
  | [], vss, p, H1, A, _, _ => ⟨p, A⟩
  | a :: as, [], p, H1, A, _, _ => ⟨p, A⟩
  | a :: as, v :: vss, p, H1, A, nd, hf => by
    have nd' := List.nodup_cons.mp nd
    exact Aft.puts (as := as) (vss := vss) (A.laid (hf a List.mem_cons_self)) nd'.2 fun t ht => by
      have ne : t ≠ a := fun z => nd'.1 (by rw [← z]; exact ht)
      rw [upd_ne ne]; exact hf t (List.mem_cons_of_mem _ ht)
theorem cols_rds {N : Addr → Prop} {G : Hp} {as : List Addr} {vss : List (List V)} {cs : List D} (hl : as.length = cs.length) (h : ∀ (j : Nat) (a : Addr) (c : D), as[j]? = some a → cs[j]? = some c → RD N G c (.ref a)) : RDs N G cs (as.map V.ref) := by
  induction as generalizing cs with
  | nil =>
    cases cs with
    | nil => rw [List.map_nil, RDs]
    | cons _ _ => simp at hl
  | cons a as ih =>
    cases cs with
    | nil => simp at hl
    | cons c cs => exact .cons (h 0 a c rfl rfl) (ih (by simpa using hl) fun j b d h1 h2 => h (j + 1) b d (by simpa using h1) (by simpa using h2))
end
section
variable {T : Tab} {Γ : Calls} {C : Str → Option D} {X : L2.Cx}
theorem ok_tzs (g : Good T Γ C X) {a : E} {n m : Str} {p p2 p3 q pos : Pos} {y : Expr} (h1 : nameB n "tuple" = true) (h2 : nameB m "zip" = true) (h3 : glB X.env.scope n = true) (h4 : glB X.env.scope m = true)
    (h : L2.PE X y (tEv X.K (ev Γ C a))) : L2.PE X (.Call (.Name n p) [.Call (.Name m p2) [.Starred y p3] [] q] [] pos) (tEv X.K (ev Γ C (.tzs a))) := by
  obtain rfl := nameB_ok h1
  obtain rfl := nameB_ok h2
  refine PE.weak (ZZ.pe_tupZip g.calm (glB_ok h3) (g.blt _ (by simp [bltAll])) (glB_ok h4) (g.blt _ (by simp [bltAll])) h) fun σ H Q ⟨ρ, st, ι, P, w, st', R, e, hQ⟩ => ?_
  rw [ev] at e
  simp only [Option.bind_eq_some_iff, Option.map_eq_some_iff] at e
  obtain ⟨r, e1, x, e2, d, e3, e4⟩ := e
  cases e4
  refine one R e1 fun v1 H1 ι1 p1 A W0 => ?_
  cases x with
  | tuple rows =>
    simp only [transF, Option.bind_eq_some_iff] at e3
    obtain ⟨xss, e5, e6⟩ := e3
    cases xss with
    | nil => cases e6
    | cons xs xr =>
      simp only at e6
      split at e6
      · rename_i hc
        cases e6
        obtain ⟨c1, c2, c3, c4⟩ := hc
        obtain ⟨z1, a', vs, ea, ha, ra⟩ := rd_tup W0 e2
        have ra := A.rds ra
        obtain ⟨rs, vss, rfl, k1, k2⟩ := rows_of (K := X.K) e5 ra
        have ll : ∀ ys ∈ xs :: xr, ys.length = xs.length := fun ys hy => by
          rcases List.mem_cons.mp hy with rfl | hy
          · rfl
          · exact of_decide_eq_true (List.all_eq_true.mp c4 ys hy)
        have lv := rowsD_row k2 ll
        have l1 := ZZ.rowsT_len k1
        have l2 := rowsD_len k2
        rw [List.length_cons] at l2
        have hlen : ((List.range xs.length).map fun j => vss.map fun vs => vs.getD j V.non).length = xs.length := by rw [List.length_map, List.length_range]
        have colv : ∀ (j : Nat) (ws : List V), ((List.range xs.length).map fun j => vss.map fun vs => vs.getD j V.non)[j]? = some ws → j < xs.length ∧ ws = vss.map fun vs => vs.getD j V.non := fun j ws hj => by
          rw [List.getElem?_map, Option.map_eq_some_iff] at hj
          obtain ⟨j', f1, rfl⟩ := hj
          obtain ⟨f2, f3⟩ := List.getElem?_eq_some_iff.mp f1
          rw [List.getElem_range] at f3
          subst f3
          rw [List.length_range] at f2
          exact ⟨f2, rfl⟩
        refine ⟨a', rs, vss, (List.range xs.length).map fun j => vss.map fun vs => vs.getD j V.non, ea, .of ha, k1, ⟨by omega, by omega⟩, fun row hr => by rw [hlen]; exact lv row hr, fun j ws hj => ?_, by rw [hlen]; exact c2, by rw [hlen]; exact c3, fun as q l nd fr frq nq => ?_⟩
        · obtain ⟨f2, rfl⟩ := colv j ws hj
          exact col_items fun vs hv => by rw [lv vs hv]; exact f2
        · rw [hlen] at l
          obtain ⟨p', B⟩ := A.puts (vss := (List.range xs.length).map fun j => vss.map fun vs => vs.getD j V.non) nd fr
          have kp : Keeps (Mt r.2 ι1 P) H1 (Mt r.2 ι1 P) (putL H1 as ((List.range xs.length).map fun j => vss.map fun vs => vs.getD j V.non)) := fun b hb nb => ⟨putL_off _ _ _ fun z => hb (fr b z), nb⟩
          refine fin_tup hQ B (cols_rds (vss := vss) (by rw [colsD, List.length_map, List.length_range, l]) fun j b c hb hc => ?_) q (by rw [putL_off _ _ _ nq]; exact frq)
          rw [colsD, List.getElem?_map, Option.map_eq_some_iff] at hc
          obtain ⟨j', f1, rfl⟩ := hc
          obtain ⟨f2, f3⟩ := List.getElem?_eq_some_iff.mp f1
          rw [List.getElem_range] at f3
          subst f3
          rw [List.length_range] at f2
          obtain ⟨ws, g1, g2⟩ := putL_at as ((List.range xs.length).map fun j => vss.map fun vs => vs.getD j V.non) H1 j b (by rw [hlen, l]) nd hb
          obtain ⟨_, rfl⟩ := colv j ws g1
          rw [RD]
          refine ⟨b, _, rfl, g2, A.drop.rel.new_free (fr b (List.mem_of_getElem? hb)), ?_⟩
          exact RDs.mono kp _ _ (col_rds k2 fun ys hy => by rw [ll ys hy]; exact f2)
      · cases e6
  | _ => simp [transF] at e3
end
end Z
/-! ZLens: len(set(xs)) of numbers that stand once each, of a list, of a tuple. -/
set_option linter.all false
set_option autoImplicit false
set_option maxHeartbeats 4000000
set_option maxRecDepth 4000
namespace ZS
open PySem PySem.Spec PyProof.Rows L2
theorem nodup_len {α : Type} [DecidableEq α] : ∀ (l D : List α), l.Nodup → (∀ x ∈ l, x ∈ D) → l.length ≤ D.length
  | [], D, _, _ => Nat.zero_le _
  | x :: l, D, nd, h => by
    have hx := h x List.mem_cons_self
    have nd' := List.nodup_cons.mp nd
    have ih := nodup_len l (D.erase x) nd'.2 fun y hy => (List.mem_erase_of_ne (fun e => nd'.1 (by rw [← e]; exact hy))).mpr (h y (List.mem_cons_of_mem _ hy))
    rw [List.length_erase_of_mem hx] at ih
    have := List.length_pos_of_mem hx
    rw [List.length_cons]
    omega
def tLens (K : PySem.W.Frag) (ta : TE) : TE := fun σ H Q => ta σ H fun x H1 => ∃ (l : Addr) (ns : List Int), x = .ref l ∧ (SqL K H1 l (ns.map V.int) ∨ SqT K H1 l (ns.map V.int)) ∧ ns.Nodup ∧ ns.length ≤ 4000 ∧ Q (.int (ns.length : Nat)) H1
theorem pe_lens {X : Cx} {a : Expr} {ta : TE} {p p2 q pos : Pos} (hc : X.calm = true) (hg : Gl X "len") (hm : X.mg "len" = none) (hg2 : Gl X "set") (hm2 : X.mg "set" = none) (ha : PE X a ta)
    (na : starEach [a] X.env = (false, eval a X.env) :: starEach [] X.env) : PE X (.Call (.Name "len" p) [.Call (.Name "set" p2) [a] [] q] [] pos) (tLens X.K ta) := by
  refine ⟨fun pins s σ H Q I h => ?_⟩
  refine Call_ (ld_blt I hg hm boot_len ?_)
  refine PyProof.Rows.callWith_builtin1 (PyProof.Rows.args_cons ?_ rfl) rfl rfl
  refine Call_ (ld_blt I hg2 hm2 PyProof.Rows.boot_set ?_)
  refine PyProof.Rows.callWith_type1 (PyProof.Rows.args_cons (thn (ha.run pins s σ H _ I h) fun v s1 ⟨x, H1, I1, r1, q1⟩ => PyProof.Rows.args_nil ?_) na) na rfl
  obtain ⟨l, ns, rfl, hq, hnd, hl, q1⟩ := q1
  cases r1
  rcases hq with hq | hq
  · obtain ⟨its, r, pl, hz⟩ := I1.list hq
    have hlen : its.toArray.size = ns.length := by rw [List.size_toArray, ← r.length, List.length_map]
    refine call_set_list (I1.ok.hd hc) pl.isList (by simpa using RZ.intsAre_vals r) (by rw [hlen]; unfold scanBound; omega) fun h' tk hS hk => ?_
    refine PyProof.Rows.args_nil ?_
    rw [hlen, RZ.firstMet_nodup hnd ns.length (Nat.le_refl _), List.take_length] at hS
    obtain ⟨o, es, ep, t, ho, hex, hd, _, _, _, hf, hn⟩ := hS
    have I2 : Inv X pins σ H1 { s1 with heap := h', toks := tk } := I1.kept fun b o e => hk b o (Heap.lt_size e) e
    exact call_len_set ho hex hd hf (by rw [hn] <;> omega) ⟨.int ns.length, H1, I2.tok _, ⟨_, by rw [hn]⟩, q1⟩
  · obtain ⟨its, r, pt, hz⟩ := I1.tuple hq
    refine call_set_tupI ns (I1.ok.hd hc) (show s1.heap.IsTuple l its.toArray from pt) (by simpa using RZ.intsAre_vals r) (by unfold scanBound; omega) fun h' tk c hS hcn hk => ?_
    refine PyProof.Rows.args_nil ?_
    obtain ⟨o, es, ep, t, ho, hex, hd, g, nd, hm', hb, hf, hn, _⟩ := hS
    have le : ns.length ≤ es.size := by
      have := nodup_len ns (es.toList.map keyOf) hnd fun k hk => (hm' k).mp (by simpa using hk)
      simpa using this
    have en : es.size = ns.length := by omega
    have I2 : Inv X pins σ H1 { s1 with heap := h', toks := tk } := I1.kept fun b o e => hk b o e
    exact call_len_set ho hex hd hf (by rw [en] <;> omega) ⟨.int ns.length, H1, I2.tok _, ⟨_, by rw [en]⟩, q1⟩
end ZS
namespace Z
open PySem
open L2 (V Hp HO upd upd_same upd_ne ne_of_none)
section
variable {T : Tab} {Γ : Calls} {C : Str → Option D} {X : L2.Cx}
theorem ok_lens (g : Good T Γ C X) {a : E} {n m : Str} {p p2 q pos : Pos} {y : Expr} (h1 : nameB n "len" = true) (h2 : nameB m "set" = true) (h3 : glB X.env.scope n = true) (h4 : glB X.env.scope m = true) (hy : plainX y = true)
    (h : L2.PE X y (tEv X.K (ev Γ C a))) : L2.PE X (.Call (.Name n p) [.Call (.Name m p2) [y] [] q] [] pos) (tEv X.K (ev Γ C (.lens a))) := by
  obtain rfl := nameB_ok h1
  obtain rfl := nameB_ok h2
  refine PE.weak (ZS.pe_lens g.calm (glB_ok h3) (g.blt _ (by simp [bltAll])) (glB_ok h4) (g.blt _ (by simp [bltAll])) h (star_of hy)) fun σ H Q ⟨ρ, st, ι, P, w, st', R, e, hQ⟩ => ?_
  rw [ev] at e
  simp only [Option.bind_eq_some_iff, Option.map_eq_some_iff] at e
  obtain ⟨r, e1, x, e2, d, e3, e4⟩ := e
  cases e4
  refine one R e1 fun v1 H1 ι1 p1 A W0 => ?_
  cases x with
  | list xs =>
    simp only [lensF, Option.bind_eq_some_iff] at e3
    obtain ⟨ns, e5, e6⟩ := e3
    split at e6
    · rename_i hc
      cases e6
      obtain ⟨b, us, rfl, ha, ra⟩ := A.rel.rdL W0 e2
      obtain rfl := intsD_eq e5
      obtain rfl := RDs.inits ra
      exact ⟨b, ns, rfl, .inl (.of ha), hc.1, hc.2, fin_int hQ A⟩
    · cases e6
  | tuple xs =>
    simp only [lensF, Option.bind_eq_some_iff] at e3
    obtain ⟨ns, e5, e6⟩ := e3
    split at e6
    · rename_i hc
      cases e6
      obtain ⟨_, b, us, rfl, ha, ra⟩ := rd_tup W0 e2
      obtain rfl := intsD_eq e5
      obtain rfl := RDs.inits ra
      exact ⟨b, ns, rfl, .inr (.of ha), hc.1, hc.2, fin_int hQ A⟩
    · cases e6
  | _ => cases e3
end
end Z
/-! ZRpl: what a list display shows, its lists as they stand. -/
set_option linter.all false
set_option autoImplicit false
set_option maxHeartbeats 4000000
set_option maxRecDepth 4000
namespace Z
open PySem
open L2 (V Hp HO upd upd_same upd_ne ne_of_none)
section
variable {K : PySem.W.Frag} {H : Hp} {a : Addr} {o : HO}
theorem rdn_ne {b : Addr} {u : HO} (h : L2.Rd H b u) : H b ≠ none := by
  rcases h with h | ⟨_, h⟩ <;> (rw [h]; exact fun z => nomatch z)
theorem rdn_new (hn : H a = none) {b : Addr} {u : HO} (h : L2.Rd H b u) : L2.Rd (upd H a o) b u := by
  have e : b ≠ a := fun z => rdn_ne h (by rw [z]; exact hn)
  unfold L2.Rd at *
  rw [upd_ne e]; exact h
theorem sql_new (hn : H a = none) {b : Addr} {xs : List V} (h : L2.SqL K H b xs) : L2.SqL K (upd H a o) b xs := h.imp (rdn_new hn) id
theorem sqt_new (hn : H a = none) {b : Addr} {xs : List V} (h : L2.SqT K H b xs) : L2.SqT K (upd H a o) b xs := h.imp (rdn_new hn) id
mutual
theorem dp_new (hn : H a = none) : ∀ (d : D) (v : V), L2.Dp K H v d → L2.Dp K (upd H a o) v d
  | .none, _, h => by cases h; exact .non
  | .bool _, _, h => by cases h; exact .bl _
  | .int _, _, h => by cases h; exact .int _
  | .str _, _, h => by cases h; exact .str _
  | .list ds, _, h => by
    cases h with
    | lst h1 h2 => exact .lst (sql_new hn h1) (dps_new hn ds _ h2)
  | .tuple ds, _, h => by
    cases h with
    | tup h1 h2 => exact .tup (sqt_new hn h1) (dps_new hn ds _ h2)
  | .dict _, _, h => by cases h
theorem dps_new (hn : H a = none) : ∀ (ds : List D) (vs : List V), L2.DpAll K H vs ds → L2.DpAll K (upd H a o) vs ds
  | [], _, h => by cases h; exact .nil
  | d :: ds, _, h => by
    cases h with
    | cons h1 h2 => exact .cons (dp_new hn d _ h1) (dps_new hn ds _ h2)
end
theorem dps_len : ∀ {ds : List D} {vs : List V}, L2.DpAll K H vs ds → vs.length = ds.length
  | [], _, h => by cases h; rfl
  | d :: ds, _, h => by
    cases h with
    | cons h1 h2 => rw [List.length_cons, List.length_cons, dps_len h2]
variable {ρ : Slots} {σ : L2.St} {st : Store} {ι P : List Addr}
theorem cells_dp (R : Rel K ρ st ι P σ H) : ∀ {ns : List Nat} {vs : List V} {xs : List D}, CRs st ι ns vs → cellsD st ns = some xs → PyData.hasDictAll xs = false → L2.DpAll K H vs xs
  | [], vs, xs, h, e, _ => by
    cases e
    rw [show vs = [] from h]
    exact .nil
  | n :: r, vs, xs, h, e, hd => by
    obtain ⟨a, us, rfl, h1, h2, h3⟩ := h
    simp only [cellsD, Option.bind_eq_some_iff, Option.map_eq_some_iff] at e
    obtain ⟨c, e1, q, e2, e3⟩ := e
    subst e3
    simp only [PyData.hasDictAll, Bool.or_eq_false_iff] at hd
    obtain ⟨zs, g1, g2⟩ := R.cell e1 h2
    exact .cons (.lst (.of g1) (RDs.dp K _ _ (by simpa [PyData.hasDict] using hd.1) g2)) (cells_dp R h3 e2 hd.2)
theorem Rel.rdx {w : W} {v : V} {p : List Addr} {x : D} (R : Rel K ρ st ι P σ H) (h : RV K st ι P H p w v) (e : Z.rdx st w = some x) (n : x.hasDict = false) : L2.Dp K H v x := by
  cases w with
  | l ns =>
    obtain ⟨_, a, vs, rfl, h1, h2, h3⟩ := h
    simp only [Z.rdx, Option.map_eq_some_iff] at e
    obtain ⟨q, e1, e2⟩ := e
    subst e2
    exact .lst (.of h1) (cells_dp R h3 e1 (by simpa [PyData.hasDict] using n))
  | d x => exact R.rd h e n
  | c x => exact R.rd h e n
  | f x => exact R.rd h e n
  | s x => exact R.rd h e n
theorem rvs_dp (R : Rel K ρ st ι P σ H) : ∀ {ws : List W} {q : List Addr} {vs : List V} {xs : List D}, RVs K st ι P H q ws vs → rdxs st ws = some xs → PyData.hasDictAll xs = false → L2.DpAll K H vs xs
  | [], q, vs, xs, h, e, _ => by
    obtain ⟨_, rfl⟩ := h
    cases e
    exact .nil
  | w :: ws, q, vs, xs, h, e, n => by
    obtain ⟨p1, p2, v, r, _, rfl, h1, h2⟩ := h
    rw [rdxs] at e
    simp only [Option.bind_eq_some_iff, Option.map_eq_some_iff] at e
    obtain ⟨x, e1, xr, e2, rfl⟩ := e
    simp only [PyData.hasDictAll, Bool.or_eq_false_iff] at n
    exact .cons (R.rdx h1 e1 n.1) (rvs_dp R h2 e2 n.2)
end
section
variable {T : Tab} {Γ : Calls} {C : Str → Option D} {X : L2.Cx}
theorem ok_rpl (g : Good T Γ C X) {es : Es} {n : Str} {p pos lp : Pos} {ys : List Expr} (h1 : nameB n "repr" = true) (h2 : glB X.env.scope n = true) (h3 : okN n = true) (h : LOk X Γ C es ys) :
    L2.PE X (.Call (.Name n p) [.List ys lp] [] pos) (tEv X.K (ev Γ C (.rpl es))) := by
  obtain rfl := nameB_ok h1
  refine PE.weak (L2.pe_callB (call_repr g.gd g.un) (glB_ok h2) (g.bi .repr) (boot_bi .repr) (L2.pa_cons (L2.pe_lst (pa_v h)) L2.pa_nil rfl) (okN_ok h3).2.2 (okN_ok h3).1 rfl rfl) fun σ H Q ⟨ρ, st, ι, P, w, st', R, e, hQ⟩ => ?_
  rw [ev] at e
  simp only [Option.bind_eq_some_iff] at e
  obtain ⟨q, e1, xs, e2, e3⟩ := e
  split at e3
  · rename_i hl
    cases e3
    obtain ⟨hr, hz⟩ := hl
    simp only [reprOk, isD0, Bool.false_or, Bool.and_eq_true, Bool.not_eq_true', decide_eq_true_eq] at hr
    obtain ⟨⟨⟨k1, k2⟩, k3⟩, k4⟩ := hr
    refine ⟨ρ, st, ι, P, q.1, q.2, R, e1, fun vs H' ι' pp A V => ?_⟩
    have D0 := rvs_dp A.rel V e2 (by simpa [PyData.hasDict] using k3)
    refine ⟨by rw [dps_len D0]; exact hz, fun a ha => ⟨.ref a, rfl, .inl ⟨.list xs, .lst (.of upd_same) (dps_new ha _ _ D0), k1, k2, k3, k4, fin_str hQ (A.laid ha)⟩⟩⟩
  · cases e3
end
end Z
/-! ZPrm: open lists become lists of the store, in any sequence. -/
set_option linter.all false
set_option autoImplicit false
set_option maxHeartbeats 4000000
set_option maxRecDepth 4000
namespace Z
open PySem
open L2 (V Hp HO upd upd_same upd_ne ne_of_none)
section
variable {K : PySem.W.Frag} {ρ ρ2 : Slots} {σ σ2 : L2.St} {st st1 st2 : Store} {ι ι1 ι2 P P2 p q : List Addr} {H H1 H2 : Hp}
/-- an open list becomes a list of the store -/
theorem mt_push {a b : Addr} {xs : List Z.D} (hl : ι.length = st.length) : Mt (st ++ [⟨false, xs⟩]) (ι ++ [a]) P b ↔ Mt st ι ([a] ++ P) b := by
  constructor
  · rintro (h | ⟨n, c, e1, e2, e3⟩)
    · exact .inl (List.mem_append_right _ h)
    · by_cases hn : n < st.length
      · rw [List.getElem?_append_left hn] at e1
        rw [List.getElem?_append_left (by omega)] at e3
        exact .inr ⟨n, c, e1, e2, e3⟩
      · rw [List.getElem?_append_right (by omega)] at e3
        have : b = a := by
          cases hk : n - ι.length with
          | zero => rw [hk] at e3; simpa using e3.symm
          | succ k => rw [hk] at e3; simp at e3
        rw [this]
        exact .inl (by simp)
  · rintro (h | ⟨n, c, e1, e2, e3⟩)
    · rcases List.mem_append.mp h with h | h
      · rw [List.mem_singleton] at h
        subst h
        refine .inr ⟨st.length, ⟨false, xs⟩, by simp, rfl, ?_⟩
        rw [← hl]; simp
      · exact .inl h
    · have hn : n < st.length := (List.getElem?_eq_some_iff.mp e1).1
      exact .inr ⟨n, c, by rw [List.getElem?_append_left hn]; exact e1, e2, by rw [List.getElem?_append_left (by omega)]; exact e3⟩
theorem keeps_push {a : Addr} {xs : List Z.D} (hl : ι.length = st.length) : Keeps (Mt st ι ([a] ++ P)) H (Mt (st ++ [⟨false, xs⟩]) (ι ++ [a]) P) H := fun b _ nb => ⟨rfl, fun z => nb ((mt_push hl).mp z)⟩
theorem Rel.push {a : Addr} {xs : List Z.D} {vs : List V} (R : Rel K ρ st ι ([a] ++ P) σ H) (h : H a = some (.lst vs)) (r : RDs (Mt st ι ([a] ++ P)) H xs vs) : Rel K ρ (st ++ [⟨false, xs⟩]) (ι ++ [a]) P σ H := by
  have k := keeps_push (P := P) (H := H) (a := a) (xs := xs) R.len
  have pre : ∀ (n : Nat) (b : Addr), ι[n]? = some b → (ι ++ [a])[n]? = some b := fun n b e => by
    rw [List.getElem?_append_left (List.getElem?_eq_some_iff.mp e).1]; exact e
  refine ⟨by simp [R.len], R.ls, ?_, fun i w e => ?_, fun n c e => ?_, fun b hb => R.pe b (List.mem_append_right _ hb)⟩
  · have nd := R.nd
    have p : ([a] ++ P ++ ι).Perm (P ++ (ι ++ [a])) := by
      rw [List.append_assoc, ← List.append_assoc P]
      exact List.perm_append_comm
    exact p.nodup_iff.mp nd
  · obtain ⟨v, e1, h⟩ := R.sl i w e
    exact ⟨v, e1, h.keeps k (by simp) pre⟩
  · by_cases hn : n < st.length
    · rw [List.getElem?_append_left hn] at e
      obtain ⟨b, us, e1, e2, e3⟩ := R.ce n c e
      exact ⟨b, us, pre n b e1, e2, RDs.mono k _ _ e3⟩
    · have hn2 : n = st.length := by
        have := (List.getElem?_eq_some_iff.mp e).1
        simp at this
        omega
      subst hn2
      simp at e
      subst e
      exact ⟨a, vs, by rw [← R.len]; simp, h, RDs.mono k _ _ r⟩
theorem Step.push {a : Addr} {xs : List Z.D} (s : Step st ι H st1 ι1 H1) (hl : ι1.length = st1.length) (ha : H a = none) : Step st ι H (st1 ++ [⟨false, xs⟩]) (ι1 ++ [a]) H1 where
  keep := s.keep
  safe := fun b hb nb z => by
    have := (mt_push (P := []) (xs := xs) hl).mp (.inr z)
    rcases this with h | h
    · simp at h
      exact hb (by rw [h]; exact ha)
    · exact s.safe b hb nb h
  le := by have := s.le; simp; omega
  pre := fun n b e => by
    have := s.pre n b e
    rw [List.getElem?_append_left (List.getElem?_eq_some_iff.mp this).1]; exact this
  all := s.all
theorem mt_perm (h : P.Perm P2) {a : Addr} : Mt st ι P a ↔ Mt st ι P2 a := ⟨fun z => z.imp h.mem_iff.mp id, fun z => z.imp h.mem_iff.mpr id⟩
theorem keeps_perm (h : P.Perm P2) : Keeps (Mt st ι P) H (Mt st ι P2) H := fun a _ n => ⟨rfl, fun z => n ((mt_perm h).mpr z)⟩
theorem Rel.perm (R : Rel K ρ st ι P σ H) (h : P.Perm P2) : Rel K ρ st ι P2 σ H := by
  have k := keeps_perm (st := st) (ι := ι) (H := H) h
  refine ⟨R.len, R.ls, (h.append_right ι).nodup_iff.mp R.nd, fun i w e => ?_, fun n c e => ?_, fun a ha => R.pe a (h.mem_iff.mpr ha)⟩
  · obtain ⟨v, e1, h⟩ := R.sl i w e
    exact ⟨v, e1, h.keeps k (Nat.le_refl _) fun _ _ z => z⟩
  · obtain ⟨a, vs, e1, e2, e3⟩ := R.ce n c e
    exact ⟨a, vs, e1, e2, RDs.mono k _ _ e3⟩
/-- a value among others -/
theorem RV.keeps {r : List Addr} {w : W} {v : V} (h : RV K st ι P H r w v) (k : Keeps (Mt st ι P) H (Mt st1 ι1 P2) H1) (le : st.length ≤ st1.length) (pre : ∀ (n : Nat) (a : Addr), ι[n]? = some a → ι1[n]? = some a)
    (hr : ∀ a ∈ r, a ∈ P2 ∧ H1 a = H a) : RV K st1 ι1 P2 H1 r w v := by
  cases w with
  | d x => exact ⟨h.1, RD.mono k _ _ h.2⟩
  | s ns => exact ⟨h.1, h.2.keeps k⟩
  | l ns => exact ⟨h.1, h.2.keeps k le pre⟩
  | c n =>
    obtain ⟨e, hn, a, h1, h2⟩ := h
    exact ⟨e, Nat.lt_of_lt_of_le hn le, a, pre n a h1, h2⟩
  | f xs =>
    obtain ⟨a, vs, e, ha, hv, h1, h2⟩ := h
    have hm := hr a (by rw [e]; simp)
    exact ⟨a, vs, e, hm.1, hv, hm.2.trans h1, RDs.mono k _ _ h2⟩
theorem RVs.keeps (k : Keeps (Mt st ι P) H (Mt st1 ι1 P2) H1) (le : st.length ≤ st1.length) (pre : ∀ (n : Nat) (a : Addr), ι[n]? = some a → ι1[n]? = some a) : ∀ {ws : List W} {p : List Addr} {vs : List V}, RVs K st ι P H p ws vs →
    (∀ a ∈ p, a ∈ P2 ∧ H1 a = H a) → RVs K st1 ι1 P2 H1 p ws vs
  | [], p, vs, h, _ => h
  | w :: ws, p, vs, h, hp => by
    obtain ⟨p1, p2, v, r, e1, e2, h1, h2⟩ := h
    subst e1
    exact ⟨p1, p2, v, r, rfl, e2, h1.keeps k le pre fun a ha => hp a (List.mem_append_right _ ha), RVs.keeps k le pre h2 fun a ha => hp a (List.mem_append_left _ ha)⟩
/-- one slot more -/
theorem Rel.snoc {w : W} {v : V} (R : Rel K ρ st ι P σ H) (h : RW K st ι P H w v) : Rel K (ρ ++ [some w]) st ι P (σ ++ [some v]) H := by
  refine ⟨R.len, by simp [R.ls], R.nd, fun i w2 e => ?_, R.ce, R.pe⟩
  by_cases hi : i < ρ.length
  · rw [List.getElem?_append_left hi] at e
    obtain ⟨v2, e1, h2⟩ := R.sl i w2 e
    exact ⟨v2, by rw [List.getElem?_append_left (by rw [← R.ls]; exact hi)]; exact e1, h2⟩
  · rw [List.getElem?_append_right (by omega)] at e
    have hz : i - ρ.length = 0 := by
      cases hk : i - ρ.length with
      | zero => rfl
      | succ k => rw [hk] at e; simp at e
    rw [hz] at e
    simp at e
    subst e
    refine ⟨v, ?_, h⟩
    rw [List.getElem?_append_right (by rw [← R.ls]; omega), ← R.ls, hz]
    rfl
theorem Rel.pad (R : Rel K ρ st ι P σ H) : ∀ n : Nat, Rel K (ρ ++ List.replicate n none) st ι P (σ ++ List.replicate n none) H := fun n => by
  refine ⟨R.len, by simp [R.ls], R.nd, fun i w e => ?_, R.ce, R.pe⟩
  by_cases hi : i < ρ.length
  · rw [List.getElem?_append_left hi] at e
    obtain ⟨v2, e1, h2⟩ := R.sl i w e
    exact ⟨v2, by rw [List.getElem?_append_left (by rw [← R.ls]; exact hi)]; exact e1, h2⟩
  · rw [List.getElem?_append_right (by omega), List.getElem?_replicate] at e
    split at e <;> cases e
/-- what comes in -/
structure Ent (st : Store) (ι p : List Addr) (st1 : Store) (ι1 : List Addr) : Prop where
  safe : ∀ a, a ∉ p → ¬ Mc st ι a → ¬ Mc st1 ι1 a
  le : st.length ≤ st1.length
  pre : ∀ (n : Nat) (a : Addr), ι[n]? = some a → ι1[n]? = some a
  new : ∀ (n : Nat) (a : Addr), ι1[n]? = some a → n < ι.length ∨ a ∈ p
theorem Ent.refl : Ent st ι p st ι := ⟨fun _ _ h => h, Nat.le_refl _, fun _ _ h => h, fun n a h => .inl (List.getElem?_eq_some_iff.mp h).1⟩
theorem Ent.trans {p1 p2 : List Addr} (a : Ent st ι p1 st1 ι1) (b : Ent st1 ι1 p2 st2 ι2) : Ent st ι (p2 ++ p1) st2 ι2 := by
  refine ⟨fun x hx n => b.safe x (fun z => hx (List.mem_append_left _ z)) (a.safe x (fun z => hx (List.mem_append_right _ z)) n), Nat.le_trans a.le b.le, fun n x h => b.pre n x (a.pre n x h), fun n x h => ?_⟩
  rcases b.new n x h with h1 | h1
  · have := a.new n x (by
      have z := List.getElem?_eq_getElem h1
      have z2 := b.pre n _ z
      rw [h] at z2
      cases z2
      exact z)
    rcases this with h2 | h2
    · exact .inl h2
    · exact .inr (List.mem_append_right _ h2)
  · exact .inr (List.mem_append_left _ h1)
theorem Ent.of {st' : Store} (s : ∀ H : Hp, Step st ι H st' ι H) : Ent st ι p st' ι := by
  have hs := s (fun _ => some (.lst []))
  exact ⟨fun a _ n => hs.safe a (by simp) n, hs.le, fun _ _ h => h, fun n a h => .inl (List.getElem?_eq_some_iff.mp h).1⟩
theorem fixL_step {H : Hp} : ∀ {ns : List Nat} {st st' : Store} {xs : List D}, fixL st ns = some (xs, st') → Step st ι H st' ι H
  | [], st, st', xs, e => by cases e; exact .refl
  | n :: r, st, st', xs, e => by
    simp only [Z.fixL, Option.bind_eq_some_iff, Option.map_eq_some_iff] at e
    obtain ⟨c, e1, q, e2, e3⟩ := e
    cases e3
    exact Step.freeze.trans (fixL_step (show fixL _ r = some (q.1, q.2) from e2))
theorem fix_step {w : W} {x : D} {st' : Store} (e : fix st w = some (x, st')) : ∀ H : Hp, Step st ι H st' ι H := by
  intro H
  cases w with
  | d y => cases e; exact .refl
  | f xs => cases e; exact .refl
  | s ns => cases e
  | l ns =>
    simp only [Z.fix, Option.map_eq_some_iff] at e
    obtain ⟨q, e1, e2⟩ := e
    cases e2
    exact fixL_step (show fixL st ns = some (q.1, q.2) from e1)
  | c n =>
    simp only [Z.fix, Option.map_eq_some_iff] at e
    obtain ⟨c, e1, e2⟩ := e
    cases e2
    exact .freeze
theorem Ent.push {a : Addr} {xs : List D} (hl : ι.length = st.length) : Ent st ι [a] (st ++ [⟨false, xs⟩]) (ι ++ [a]) := by
  refine ⟨fun b hb n z => ?_, by simp, fun n b e => ?_, fun n b e => ?_⟩
  · rcases (mt_push (P := []) (xs := xs) hl).mp (.inr z) with h | h
    · simp at h; exact hb (by simp [h])
    · exact n h
  · rw [List.getElem?_append_left (List.getElem?_eq_some_iff.mp e).1]; exact e
  · by_cases hn : n < ι.length
    · exact .inl hn
    · refine .inr ?_
      have := List.mem_of_getElem? e
      rw [List.getElem?_append_right (by omega)] at e
      exact List.mem_of_getElem? e
theorem Step.ent (s : Step st ι H st1 ι1 H1) (hp : ∀ a ∈ p, H a = none) (E : Ent st1 ι1 p st2 ι2) : Step st ι H st2 ι2 H1 :=
  ⟨s.keep, fun a ha n => E.safe a (fun z => ha (hp a z)) (s.safe a ha n), Nat.le_trans s.le E.le, fun n a h => E.pre n a (s.pre n a h), s.all⟩
end
end Z
/-! ZCel: lists of lists that change. -/
set_option linter.all false
set_option autoImplicit false
set_option maxHeartbeats 4000000
set_option maxRecDepth 4000
namespace Z
open PySem
open L2 (V Hp HO upd upd_same upd_ne ne_of_none)
section
variable {K : PySem.W.Frag} {ρ : Slots} {σ : L2.St} {P : List Addr} {H : Hp}
theorem cells_ok : ∀ {ws : List W} {vs : List V} {p : List Addr} {st st' : Store} {ι : List Addr} {ns : List Nat}, cells st ws = some (ns, st') → Rel K ρ st ι (p ++ P) σ H → RVs K st ι (p ++ P) H p ws vs →
    ∃ ι', Rel K ρ st' ι' P σ H ∧ Ent st ι p st' ι' ∧ CRs st' ι' ns vs
  | [], vs, p, st, st', ι, ns, e, R, h => by
    obtain ⟨rfl, rfl⟩ := h
    cases e
    exact ⟨ι, R, .refl, rfl⟩
  | w :: ws, vs, p, st, st', ι, ns, e, R, h => by
    obtain ⟨p1, p2, v, us, rfl, rfl, h1, h2⟩ := h
    have pm : ((p2 ++ p1) ++ P).Perm (p1 ++ (p2 ++ P)) := by
      rw [← List.append_assoc]
      exact List.perm_append_comm.append_right P
    have R1 : Rel K ρ st ι (p1 ++ (p2 ++ P)) σ H := R.perm pm
    have k1 := keeps_perm (st := st) (ι := ι) (H := H) pm
    have V1 : RV K st ι (p1 ++ (p2 ++ P)) H p1 w v := h1.keeps k1 (Nat.le_refl _) (fun _ _ z => z) fun a ha => ⟨by simp [ha], rfl⟩
    have V2 : RVs K st ι (p1 ++ (p2 ++ P)) H p2 ws us := RVs.keeps k1 (Nat.le_refl _) (fun _ _ z => z) h2 fun a ha => ⟨by simp [ha], rfl⟩
    have ks : Keeps (Mt st ι (p1 ++ (p2 ++ P))) H (Mt st ι (p2 ++ P)) H := keeps_shrink
    cases w with
    | c n =>
      simp only [cells, Option.map_eq_some_iff] at e
      obtain ⟨q, e1, e2⟩ := e
      cases e2
      obtain ⟨rfl, hn, a, ha, rfl⟩ := V1
      have V3 : RVs K st ι (p2 ++ P) H p2 ws us := RVs.keeps ks (Nat.le_refl _) (fun _ _ z => z) V2 fun a ha => ⟨by simp [ha], rfl⟩
      obtain ⟨ι', R3, E3, C3⟩ := cells_ok (show cells st ws = some (q.1, q.2) from e1) R1 V3
      exact ⟨ι', R3, Ent.trans (p1 := []) .refl E3, a, us, rfl, Nat.lt_of_lt_of_le hn E3.le, E3.pre n a ha, C3⟩
    | f xs =>
      simp only [cells, Option.map_eq_some_iff] at e
      obtain ⟨q, e1, e2⟩ := e
      cases e2
      obtain ⟨a, zs, rfl, ha, rfl, f1, f2⟩ := V1
      have R2 := R1.push f1 f2
      have E : Ent st ι [a] (st ++ [⟨false, xs⟩]) (ι ++ [a]) := .push R.len
      have V3 : RVs K (st ++ [⟨false, xs⟩]) (ι ++ [a]) (p2 ++ P) H p2 ws us := RVs.keeps (keeps_push R.len) E.le E.pre V2 fun a ha => ⟨by simp [ha], rfl⟩
      obtain ⟨ι', R3, E3, C3⟩ := cells_ok (show cells (st ++ [⟨false, xs⟩]) ws = some (q.1, q.2) from e1) R2 V3
      refine ⟨ι', R3, E.trans E3, a, us, rfl, Nat.lt_of_lt_of_le (by simp) E3.le, E3.pre st.length a (by rw [← R.len]; simp), C3⟩
    | d x => cases e
    | s x => cases e
    | l x => cases e
theorem compC_len {body : D → Store → Option (W × Store)} : ∀ {xs : List D} {st st' : Store} {ns : List Nat}, compC body xs st = some (ns, st') → ns.length ≤ sizeLine
  | [], st, st', ns, h => by cases h; exact Nat.zero_le _
  | x :: xs, st, st', ns, h => by
    simp only [compC, Option.bind_eq_some_iff] at h
    obtain ⟨p, e1, e2⟩ := h
    split at e2
    · simp only [Option.bind_eq_some_iff] at e2
      obtain ⟨q, e3, e4⟩ := e2
      split at e4
      · rename_i hl
        cases e4
        simp only [List.length_cons]
        omega
      · cases e4
    · cases e2
end
section
variable {T : Tab} {Γ : Calls} {C : Str → Option D} {X : L2.Cx}
theorem ok_rpx (g : Good T Γ C X) {a : E} {n : Str} {p pos : Pos} {y : Expr} (h1 : nameB n "repr" = true) (h2 : glB X.env.scope n = true) (h3 : okN n = true) (hy : plainX y = true) (h : L2.PE X y (tEv X.K (ev Γ C a))) :
    L2.PE X (.Call (.Name n p) [y] [] pos) (tEv X.K (ev Γ C (.rpx a))) := by
  obtain rfl := nameB_ok h1
  refine PE.weak (L2.pe_callB (call_repr g.gd g.un) (glB_ok h2) (g.bi .repr) (boot_bi .repr) (L2.pa_cons h L2.pa_nil (star_of hy)) (okN_ok h3).2.2 (okN_ok h3).1 (star_of hy) rfl) fun σ H Q ⟨ρ, st, ι, P, w, st', R, e, hQ⟩ => ?_
  rw [ev] at e
  simp only [Option.bind_eq_some_iff] at e
  obtain ⟨q, e1, x, e2, e3⟩ := e
  split at e3
  · rename_i hl
    cases e3
    obtain ⟨hr, h0⟩ := hl
    refine one R e1 fun v1 H1 ι1 p1 A V => ?_
    simp only [reprOk, h0, Bool.false_or, Bool.and_eq_true, Bool.not_eq_true', decide_eq_true_eq] at hr
    obtain ⟨⟨⟨k1, k2⟩, k3⟩, k4⟩ := hr
    exact ⟨v1, rfl, .inl ⟨x, A.rel.rdx V e2 k3, k1, k2, k3, k4, fin_str hQ A⟩⟩
  · cases e3
theorem ok_lcs {es : Es} {xs : List Expr} {pos : Pos} (h : LOk X Γ C es xs) : L2.PE X (.List xs pos) (tEv X.K (ev Γ C (.lcs es))) := by
  refine PE.weak (L2.pe_lst (pa_v h)) fun σ H Q ⟨ρ, st, ι, P, w, st', R, e, hQ⟩ => ?_
  rw [ev] at e
  simp only [Option.bind_eq_some_iff] at e
  obtain ⟨q, e1, r, e2, e3⟩ := e
  split at e3
  · rename_i hl
    cases e3
    refine ⟨ρ, st, ι, P, q.1, q.2, R, e1, fun vs H' ι' p A V => ?_⟩
    obtain ⟨ι2, R2, E2, C2⟩ := cells_ok (show cells q.2 q.1 = some (r.1, r.2) from e2) A.rel V
    refine ⟨by rw [← C2.length]; exact hl, fun a ha => ?_⟩
    have A2 : Aft X.K ρ σ st ι P H r.2 ι2 [] H' := ⟨R2, A.step.ent A.new E2, fun _ h => nomatch h⟩
    exact hQ (.ref a) _ ι2 [] (A2.laid ha) ⟨rfl, a, vs, rfl, upd_same, R2.new_free ha, C2⟩
  · cases e3
theorem ok_idl {a b : E} {x y : Expr} {pos : Pos} (ha : L2.PE X x (tEv X.K (ev Γ C a))) (hb : L2.PE X y (tEv X.K (ev Γ C b))) (hy : plainX y = true) : L2.PE X (.Subscript x y pos) (tEv X.K (ev Γ C (.idl a b))) := by
  refine PE.weak (L2.pe_ix (L2.IxR.or L2.ix_list L2.ix_tup) ha hb (ix_of hy)) fun σ H Q ⟨ρ, st, ι, P, w, st', R, e, hQ⟩ => ?_
  rw [ev] at e
  simp only [Option.bind_eq_some_iff] at e
  obtain ⟨p, e1, q, e2, dy, e3, e4⟩ := e
  refine two R e1 e2 fun v1 v2 H2 ι2 pp q1 q2 A V1 V2 => ?_
  split at e4
  · rename_i ns i hw
    simp only [Option.map_eq_some_iff] at e4
    obtain ⟨n, f1, f2⟩ := e4
    cases f2
    rw [hw] at V1
    obtain ⟨_, a, vs, rfl, h1, h2, h3⟩ := V1
    unfold L2.atI at f1
    rw [Option.bind_eq_some_iff] at f1
    obtain ⟨j, g1, g2⟩ := f1
    obtain ⟨b, g3, g4, g5⟩ := h3.get g2
    refine .inl ⟨a, vs, i, .ref b, rfl, rd_int V2 e3, .of h1, ?_, hQ (.ref b) H2 ι2 [] A.drop ⟨rfl, g4, b, g5, rfl⟩⟩
    unfold L2.atI
    rw [← h3.length, g1]
    exact g3
  · cases e4
theorem ok_lcat {a b : E} {x y : Expr} {pos : Pos} (ha : L2.PE X x (tEv X.K (ev Γ C a))) (hb : L2.PE X y (tEv X.K (ev Γ C b))) : L2.PE X (.BinOp x .Add y pos) (tEv X.K (ev Γ C (.lcat a b))) := by
  refine PE.weak (L2.pe_op L2.op_cat ha hb) fun σ H Q ⟨ρ, st, ι, P, w, st', R, e, hQ⟩ => ?_
  rw [ev] at e
  simp only [Option.bind_eq_some_iff] at e
  obtain ⟨p, e1, q, e2, e4⟩ := e
  refine two R e1 e2 fun v1 v2 H2 ι2 pp q1 q2 A V1 V2 => ?_
  split at e4
  · rename_i ns ms hw hz
    split at e4
    · rename_i hl
      cases e4
      rw [hw] at V1
      rw [hz] at V2
      obtain ⟨_, a, vs, rfl, h1, h2, h3⟩ := V1
      obtain ⟨_, b, us, rfl, f1, f2, f3⟩ := V2
      refine ⟨a, b, vs, us, rfl, rfl, h1, f1, by rw [← h3.length, ← f3.length]; exact hl, fun c hc => ?_⟩
      exact hQ (.ref c) _ ι2 [] (A.drop.laid hc) ⟨rfl, c, _, rfl, upd_same, A.drop.rel.new_free hc, h3.append f3⟩
    · cases e4
  · cases e4
theorem ok_mex (g : Good T Γ C X) {m : Me} {a : E} {nm : Str} {es : Es} {ap cp : Pos} {x : Expr} {ys : List Expr} (h4 : nameB nm (meN m) = true) (hx : plainX x = true)
    (hl : (ap.endLine == cp.line) = true) (ho : L2.PE X x (tEv X.K (ev Γ C a))) (h : LOk X Γ C es ys) (hy : ys.length ≤ 1) (hs : isSub x = true) : L2.PE X (.Call (.Attribute x nm ap) ys [] cp) (tEv X.K (ev Γ C (.mex m a es))) := by
  obtain rfl := nameB_ok h4
  obtain ⟨x1, x2, x3, rfl⟩ := isSub_ok hs
  have key : L2.PE X (.Call (.Attribute (.Subscript x1 x2 x3) (meN m) ap) ys [] cp) (L2.tBM X.K "list" (rMe m) (tEv X.K (ev Γ C a)) (tAv X.K (evs Γ C es))) := by
    cases ys with
    | nil =>
      cases es with
      | cons e r => rw [LOk] at h; obtain ⟨_, _, z, _⟩ := h; cases z
      | nil =>
        refine PE.weak (L2.pe_bm0 PySem.F.plainAttrs_list (slot_me m) (type_me m) (mt_me m) ho rfl hl) fun σ H Q z => ?_
        obtain ⟨ρ, st, ι, P, w, st', R, e, hQ⟩ := z
        refine ⟨ρ, st, ι, P, w, st', R, e, fun v H' ι' p A V => ?_⟩
        obtain ⟨t1, t2⟩ := hQ v H' ι' p A V
        refine ⟨t1, ?_⟩
        obtain ⟨ρ2, st2, ι2, P2, ws2, st3, R2, e2, hQ2⟩ := t2
        rw [evs] at e2
        cases e2
        exact hQ2 [] H' ι2 [] (.refl R2) ⟨rfl, rfl⟩
    | cons y r =>
      cases r with
      | cons _ _ => simp at hy
      | nil =>
        have hp := h.plains
        refine L2.pe_bm PySem.F.plainAttrs_list (slot_me m) (type_me m) (mt_me m) ho (pa_v h) rfl ?_ hl (star_of (by rw [plainXs, Bool.and_eq_true] at hp; exact hp.1)) rfl
        rw [few_of hp]
        rfl
  refine PE.weak key fun σ H Q ⟨ρ, st, ι, P, w, st', R, e, hQ⟩ => ?_
  rw [ev] at e
  simp only [Option.bind_eq_some_iff] at e
  obtain ⟨p, e1, e⟩ := e
  obtain ⟨w1, s1⟩ := p
  cases w1 with
  | c k =>
    simp only [Option.bind_eq_some_iff] at e
    obtain ⟨q, e2, e3⟩ := e
    refine ⟨ρ, st, ι, P, .c k, s1, R, e1, fun v H1 ι1 p1 A1 V1 => ?_⟩
    obtain ⟨rfl, hk1, b, hb, rfl⟩ := V1
    refine ⟨?_, ⟨ρ, s1, ι1, [] ++ P, q.1, q.2, A1.rel, e2, fun vs H2 ι2 p2 A2 V2 => ?_⟩⟩
    · obtain ⟨c, hc⟩ : ∃ c, s1[k]? = some c := ⟨s1[k], List.getElem?_eq_getElem hk1⟩
      obtain ⟨vs, z, _⟩ := A1.rel.cell hc hb
      exact .inl ⟨rfl, vs, .inl (.of z)⟩
    · exact me_ok (A1.seq A2) V2 (A2.step.pre _ _ hb) e3 hQ
  | _ => cases e
/-- a comprehension of lists that will change -/
theorem lcc_t {own tg : List Nat} {fl : Bool} {elt : E} {it : It} {σ : L2.St} {H : Hp} {Q : L2.VK} (hs : ∀ i ∈ tg, i ∈ own) (h : tEv X.K (ev Γ C (.lcc own elt tg fl it)) σ H Q) :
    L2.tLc (tIv X.K (evI Γ C it)) (tgG X.K tg fl) (tTv X.K (evC Γ C .nil)) (tEv X.K (ev Γ C elt)) own σ H Q := by
  obtain ⟨ρ, st, ι, P, w, st', R, e, hQ⟩ := h
  rw [ev] at e
  simp only [Option.bind_eq_some_iff, Option.map_eq_some_iff] at e
  obtain ⟨p, e1, q, e2, e3⟩ := e
  generalize hb : (fun (x : Z.D) (st : Store) => (bindD (wipeW ρ own) tg fl x).bind fun ρ' => ev Γ C elt ρ' st) = body at e2
  cases e3
  refine ⟨ρ, st, ι, P, p.1, p.2, R, e1, fun J H1 ι1 A S D hD => ?_⟩
  let Pv : Nat → Hp → Prop := fun i H' => ∃ si ιi acc us rest, Rel X.K ρ si ιi ([D] ++ P) σ H' ∧ Step p.2 ι1 H1 si ιi H' ∧ H' D = some (.lst us) ∧ CRs si ιi acc us ∧ compC body (p.1.drop i) si = some (rest, q.2) ∧ q.1 = acc ++ rest
  have hlen : q.1.length ≤ sizeLine := compC_len (show compC body p.1 p.2 = some (q.1, q.2) from e2)
  have kp : ∀ {si ιi H'}, Step p.2 ι1 H1 si ιi H' → Keeps (Mt p.2 ι1 P) H1 (Mt si ιi ([D] ++ P)) H' := fun s => s.keeps fun a ha => by
    rw [List.mem_singleton] at ha
    rw [ha]; exact hD
  refine ⟨fun i m H' => m = p.1.length - i ∧ i ≤ p.1.length ∧ Pv i H', ⟨p.1.length, rfl, Nat.zero_le _, p.2, ι1, [], [], q.1, A.rel.alloc hD [D] (.inr rfl), .alloc hD, upd_same, rfl, e2, rfl⟩, ?_⟩
  rintro i m H' ⟨rfl, hi, si, ιi, acc, us, rest, Ri, Si, hDi, hacc, ei, eq⟩
  by_cases hlt : i < p.1.length
  rotate_left
  · have hin : i = p.1.length := by omega
    subst hin
    rw [List.drop_length] at ei
    cases ei
    rw [List.append_nil] at eq
    have R0 : Rel X.K ρ q.2 ιi P σ H' := Rel.shrink (p := [D]) Ri
    refine .inl ⟨S.stop _ _ (kp Si), hQ (.ref D) H' ιi [] ⟨R0, A.step.trans Si, fun _ h => nomatch h⟩ ⟨rfl, D, us, rfl, hDi, fun z => ?_, by rw [eq]; exact hacc⟩⟩
    rcases z with z | z
    · exact (List.nodup_cons.mp Ri.nd).1 (List.mem_append_left _ z)
    · exact Ri.pfree D (by simp) z
  refine .inr ⟨S.go _ _ _ (kp Si) hlt, Pv (i + 1), fun H2 p' => ⟨p.1.length - (i + 1), by omega, rfl, hlt, p'⟩, fun x H2 y => ?_⟩
  obtain ⟨d, f1, f2, f3⟩ := S.yld _ _ _ _ _ (kp Si) (fun b hb => Ri.mt_ne hb) hlt y
  have gr : Grow H' H2 := f3
  have R2 := Ri.grow gr
  have S2 := Si.trans (.grow gr)
  have hD2 := gr.at hDi
  have hd : p.1.drop i = d :: p.1.drop (i + 1) := by
    obtain ⟨h1, h2⟩ := List.getElem?_eq_some_iff.mp f1
    rw [← h2]
    exact List.drop_eq_getElem_cons h1
  rw [hd] at ei
  simp only [compC, Option.bind_eq_some_iff] at ei
  obtain ⟨pb, g1, g3⟩ := ei
  rw [← hb] at g1
  simp only [Option.bind_eq_some_iff] at g1
  obtain ⟨ρ', g4, g5⟩ := g1
  refine bind_ok g4 (R2.wipe own) f2 fun σ2 R3 hl ho => ⟨?_, ?_⟩
  · rw [wipe_eq (σ := L2.wipe σ own) hl fun j hj => ho j fun z => hj (hs j z)]
    exact wipe_eq (by rw [L2.wipe_length]) fun j hj => L2.wipe_out hj
  refine ⟨ρ', si, ιi, [D] ++ P, true, si, R3, (by rw [evC]), fun H4 ι4 A4 => ?_⟩
  simp only [if_true]
  have S4 := A4.step
  refine ⟨ρ', si, ι4, [D] ++ P, pb.1, pb.2, A4.rel, g5, fun v H5 ι5 p5 A5 V5 => ?_⟩
  split at g3
  · rename_i ys hy
    simp only [Option.bind_eq_some_iff] at g3
    obtain ⟨qb, g6, g7⟩ := g3
    split at g7
    · simp only [Option.some.injEq, Prod.mk.injEq] at g7
      obtain ⟨er, hq2⟩ := g7
      subst er
      rw [hy] at V5
      obtain ⟨a, zs, rfl, ha, rfl, k1, k2⟩ := V5
      have R5 := A5.rel.push k1 k2
      have ha2 : H2 a = none := S4.new (A5.new a (by simp))
      have S5 : Step si ιi H2 (pb.2 ++ [⟨false, ys⟩]) (ι5 ++ [a]) H5 := (S4.trans A5.step).push A5.rel.len ha2
      have hz : us.length < sizeLine := by
        have h1 := congrArg List.length eq
        rw [List.length_append, List.length_cons] at h1
        have h2 := hacc.length
        omega
      have R6 : Rel X.K ρ (pb.2 ++ [⟨false, ys⟩]) (ι5 ++ [a]) ([D] ++ P) σ H5 := R2.swap R5 S5
      have hm : D ∈ [D] ++ P := by simp
      have hD5 : H5 D = some (.lst us) := (S5.keep D (by rw [hD2]; exact fun z => nomatch z) (R2.pfree D (by simp))).trans hD2
      refine ⟨us, hD5, hz, pb.2 ++ [⟨false, ys⟩], ι5 ++ [a], acc ++ [pb.2.length], us ++ [.ref a], qb.1, R6.pend hm, ?_, upd_same, ?_, by rw [← hq2]; exact g6, by rw [eq]; simp⟩
      · have S6 := S2.trans S5
        refine ⟨fun a ha na => ?_, S6.safe, S6.le, S6.pre, fun a ha => ?_⟩
        · rw [upd_ne fun z => ha (by rw [z]; exact hD)]
          exact S6.keep a ha na
        · rw [upd_ne fun z => ha (by rw [z]; exact hD)]
          exact S6.all a ha
      · exact (hacc.keeps S5.le S5.pre).append ⟨a, [], rfl, by simp, by rw [← A5.rel.len]; simp, rfl⟩
    · cases g7
  · cases g3
theorem chk_lcc {N : List Str} {sc : Scope} {own tg : List Nat} {fl : Bool} {elt : E} {it : It} {x : Expr} (h : chkE T N (.lcc own elt tg fl it) sc x = true) : chkE T N (.lc own elt tg fl it .nil) sc x = true := by
  simp only [chkE] at h ⊢
  split at h
  · simp only [Bool.and_eq_true] at h ⊢
    obtain ⟨⟨⟨⟨⟨h1, h2⟩, h3⟩, h4⟩, h5⟩, h6⟩ := h
    exact ⟨⟨⟨⟨⟨⟨⟨h1, h2⟩, h3⟩, h4⟩, h5⟩, rfl⟩, rfl⟩, h6⟩
  · cases h
theorem LcP.peC (g : Good T Γ C X) {own : List Nat} {elt : E} {tg : List Nat} {fl : Bool} {it : It} {y t i : Expr} {ifs : List Expr} {scope : Scope} {pos : Pos} (h : LcP X Γ C own elt tg fl it .nil y t i ifs scope) :
    L2.PE X (.ListComp y [⟨t, i, ifs, 0⟩] scope pos) (tEv X.K (ev Γ C (.lcc own elt tg fl it))) := by
  refine PE.weak (L2.pe_lc g.calm g.nd h.hi h.ok h.hg h.ht h.he h.hs) fun σ H Q z => ?_
  rw [own_map]
  exact lcc_t h.sub z
end
end Z
/-! ZMax: every expression, by the checks alone. -/
set_option linter.all false
set_option autoImplicit false
set_option maxHeartbeats 4000000
set_option maxRecDepth 4000
namespace Z
open PySem
open L2 (V Hp HO upd upd_same upd_ne ne_of_none)
theorem EOk.at {X : L2.Cx} {f : EvF} {x : Expr} (h : L2.PE X x (tEv X.K f)) (hi : ∀ whole, isTrue x X.env whole = (do let v ← whole; standAt x.pos; holding [v] (truthy v)) := by intro _; rfl) : EOk X f x := .of h hi
section
variable (T : Tab) (Γ : Calls) (C : Str → Option D)
mutual
theorem ev_ok : ∀ (e : E) {X : L2.Cx} (g : Good T Γ C X) {x : Expr}, chkE T X.N e X.env.scope x = true → EOk X (ev Γ C e) x
  | .var i, X, g, x, h => by
    simp only [chkE, Bool.and_eq_true] at h
    obtain ⟨_, h⟩ := h
    split at h
    · simp only [Bool.and_eq_true] at h
      exact .at (ok_var g h.1.1 h.1.2 h.2)
    · cases h
  | .non, X, g, x, h => by
    simp only [chkE] at h
    split at h
    · exact .at (ok_const (E0 := .non) (d := .none) L2.pe_non (fun N H => by rw [RD]) fun ρ st => by rw [ev])
    · cases h
  | .bl b, X, g, x, h => by
    simp only [chkE] at h
    split at h
    · simp only [beq_iff_eq] at h
      subst h
      exact .at (ok_const (E0 := .bl b) (d := .bool b) L2.pe_bl (fun N H => by rw [RD]) fun ρ st => by rw [ev])
    · cases h
  | .int b, X, g, x, h => by
    simp only [chkE] at h
    split at h
    · simp only [beq_iff_eq] at h
      subst h
      exact .at (ok_const (E0 := .int b) (d := .int b) L2.pe_int (fun N H => by rw [RD]) fun ρ st => by rw [ev])
    · cases h
  | .str b, X, g, x, h => by
    simp only [chkE] at h
    split at h
    · obtain rfl := nameB_ok h
      exact .at (ok_const (E0 := .str b) (d := .str b) L2.pe_str (fun N H => by rw [RD]) fun ρ st => by rw [ev])
    · cases h
  | .glo n, X, g, x, h => by
    simp only [chkE] at h
    split at h
    · simp only [Bool.and_eq_true] at h
      obtain rfl := nameB_ok h.1.1.1
      exact .at (ok_glo g (of_decide_eq_true h.1.1.2) h.1.2 h.2)
    · cases h
  | .neg a, X, g, x, h => by
    simp only [chkE] at h
    split at h
    · exact .at (ok_neg (ev_ok a g h).pe)
    · cases h
  | .bin o a b, X, g, x, h => by
    simp only [chkE] at h
    split at h
    · simp only [Bool.and_eq_true, decide_eq_true_eq] at h
      obtain ⟨⟨rfl, h1⟩, h2⟩ := h
      exact .at (ok_bin (ev_ok a g h1).pe (ev_ok b g h2).pe)
    · cases h
  | .cmp o a b, X, g, x, h => by
    simp only [chkE] at h
    split at h
    · simp only [Bool.and_eq_true, decide_eq_true_eq] at h
      obtain ⟨⟨rfl, h1⟩, h2⟩ := h
      exact ok_cmp g (ev_ok a g h1).pe (ev_ok b g h2).pe
    · cases h
  | .chain o p a b c, X, g, x, h => by
    simp only [chkE] at h
    split at h
    · simp only [Bool.and_eq_true, decide_eq_true_eq] at h
      obtain ⟨⟨⟨⟨rfl, rfl⟩, h1⟩, h2⟩, h3⟩ := h
      exact ok_chain g (chk_plain h3) (ev_ok a g h1).pe (ev_ok b g h2).pe (ev_ok c g h3).pe
    · cases h
  | .and es, X, g, x, h => by
    simp only [chkE] at h
    split at h
    · simp only [Bool.and_eq_true, Bool.not_eq_true'] at h
      have k := fun pos => ok_and (pos := pos) (evL_ok es g h.1) h.2
      have f : ev Γ C (.and es) = evA Γ C es := by funext ρ st; rw [ev]
      rw [f]
      exact ⟨(k _).1, (k _).2.pt⟩
    · cases h
  | .or es, X, g, x, h => by
    simp only [chkE] at h
    split at h
    · simp only [Bool.and_eq_true, Bool.not_eq_true'] at h
      have k := fun pos => ok_or (pos := pos) (evL_ok es g h.1) h.2
      have f : ev Γ C (.or es) = evO Γ C es := by funext ρ st; rw [ev]
      rw [f]
      exact ⟨(k _).1, (k _).2.pt⟩
    · cases h
  | .not a, X, g, x, h => by
    simp only [chkE] at h
    split at h
    · exact ok_not (ev_ok a g h)
    · cases h
  | .ife c a b, X, g, x, h => by
    simp only [chkE] at h
    split at h
    · simp only [Bool.and_eq_true] at h
      exact ok_ife (ev_ok c g h.1.1) (ev_ok a g h.1.2) (ev_ok b g h.2)
    · cases h
  | .tup es, X, g, x, h => by
    simp only [chkE] at h
    split at h
    · exact .at (ok_tup (evL_ok es g h))
    · cases h
  | .lst es, X, g, x, h => by
    simp only [chkE] at h
    split at h
    · exact .at (ok_lst (evL_ok es g h))
    · cases h
  | .dct0, X, g, x, h => by
    simp only [chkE] at h
    split at h
    · exact .at ok_dct0
    · cases h
  | .call f es, X, g, x, h => by
    simp only [chkE] at h
    split at h
    · simp only [Bool.and_eq_true] at h
      exact .at (ok_call g h.1.1.1 h.1.1.2 h.1.2 (evL_ok es g h.2))
    · cases h
  | .callk f np ks perm es, X, g, x, h => by
    simp only [chkE] at h
    split at h
    · simp only [Bool.and_eq_true, decide_eq_true_eq] at h
      obtain ⟨⟨⟨⟨⟨⟨⟨h1, h2⟩, h3⟩, h4⟩, h5⟩, h6⟩, h7⟩, h8⟩ := h
      exact .at (ok_callk g h1 h2 h3 h4 h5 h6 h7 (evL_ok es g h8))
    · cases h
  | .bi b es, X, g, x, h => by
    simp only [chkE] at h
    split at h
    · simp only [Bool.and_eq_true] at h
      exact .at (ok_bi g h.1.1.1 h.1.1.2 h.1.2 (evL_ok es g h.2))
    · cases h
  | .isi ts tp a, X, g, x, h => by
    simp only [chkE] at h
    split at h
    · simp only [Bool.and_eq_true] at h
      exact .at (ok_isi g h.1.1.1.1 h.1.1.1.2 h.1.1.2 (chk_plain h.1.2) (ev_ok a g h.1.2).pe h.2)
    · cases h
  | .lrg1 a, X, g, x, h => by
    simp only [chkE] at h
    split at h
    · simp only [Bool.and_eq_true] at h
      exact .at (ok_lrg1 g h.1.1.1.1 h.1.1.1.2 h.1.1.2 h.1.2 (chk_plain h.2) (ev_ok a g h.2).pe)
    · cases h
  | .lrg2 a b, X, g, x, h => by
    simp only [chkE] at h
    split at h
    · simp only [Bool.and_eq_true] at h
      exact .at (ok_lrg2 g h.1.1.1.1.1 h.1.1.1.1.2 h.1.1.1.2 h.1.1.2 (chk_plain h.1.2) (chk_plain h.2) (ev_ok a g h.1.2).pe (ev_ok b g h.2).pe)
    · cases h
  | .trg1 a, X, g, x, h => by
    simp only [chkE] at h
    split at h
    · simp only [Bool.and_eq_true] at h
      exact .at (ok_trg1 g h.1.1.1.1 h.1.1.1.2 h.1.1.2 h.1.2 (chk_plain h.2) (ev_ok a g h.2).pe)
    · cases h
  | .idx a b, X, g, x, h => by
    simp only [chkE] at h
    split at h
    · simp only [Bool.and_eq_true] at h
      exact .at (ok_idx (ev_ok a g h.1.2).pe (ev_ok b g h.2).pe h.1.1)
    · cases h
  | .len a, X, g, x, h => by
    simp only [chkE] at h
    split at h
    · simp only [Bool.and_eq_true] at h
      exact .at (ok_len g h.1.1.1 h.1.1.2 h.1.2 (chk_plain h.2) (ev_ok a g h.2).pe)
    · cases h
  | .sl a lo hi, X, g, x, h => by
    simp only [chkE] at h
    split at h
    · simp only [Bool.and_eq_true] at h
      refine .at (ok_sl (ev_ok a g h.1.1).pe (po_ok ?_) (po_ok ?_))
      · exact evO_ok lo g h.1.2
      · exact evO_ok hi g h.2
    · cases h
  | .lc own elt tg fl it cs, X, g, x, h => by
    obtain ⟨y, t, i, ifs, scope, pos, rfl, hp⟩ := lc_mk g h (fun h => evI_ok it g h) (fun g' _ h => evL_ok cs g' h) (fun g' _ h => ev_ok elt g' h)
    exact .at (hp.pe g)
  | .me m i es, X, g, x, h => by
    simp only [chkE] at h
    split at h
    · simp only [Bool.and_eq_true, decide_eq_true_eq] at h
      obtain ⟨⟨⟨⟨⟨⟨h1, h2⟩, h3⟩, h4⟩, h5⟩, h6⟩, h7⟩ := h
      exact .at (ok_me g h1 h2 h3 h4 h5 (evL_ok es g h6) h7)
    · cases h
  | .gcd a b, X, g, x, h => by
    simp only [chkE] at h
    split at h
    · simp only [Bool.and_eq_true, decide_eq_true_eq] at h
      obtain ⟨⟨⟨⟨⟨⟨h1, h2⟩, h3⟩, h4⟩, h5⟩, h6⟩, h7⟩ := h
      exact .at (ok_gcd g h1 h2 h3 h4 h5 (ev_ok a g h6).pe (ev_ok b g h7).pe)
    · cases h
  | .tzs a, X, g, x, h => by
    simp only [chkE] at h
    split at h
    · simp only [Bool.and_eq_true, decide_eq_true_eq] at h
      obtain ⟨⟨⟨⟨h1, h2⟩, h3⟩, h4⟩, h5⟩ := h
      exact .at (ok_tzs g h1 h2 h3 h4 (ev_ok a g h5).pe)
    · cases h
  | .lens a, X, g, x, h => by
    simp only [chkE] at h
    split at h
    · simp only [Bool.and_eq_true, decide_eq_true_eq] at h
      obtain ⟨⟨⟨⟨⟨h1, h2⟩, h3⟩, h4⟩, h5⟩, h6⟩ := h
      exact .at (ok_lens g h1 h2 h3 h4 h5 (ev_ok a g h6).pe)
    · cases h
  | .rpl es, X, g, x, h => by
    simp only [chkE] at h
    split at h
    · simp only [Bool.and_eq_true, decide_eq_true_eq] at h
      obtain ⟨⟨⟨h1, h2⟩, h3⟩, h4⟩ := h
      exact .at (ok_rpl g h1 h2 h3 (evL_ok es g h4))
    · cases h
  | .rpx a, X, g, x, h => by
    simp only [chkE] at h
    split at h
    · simp only [Bool.and_eq_true, decide_eq_true_eq] at h
      obtain ⟨⟨⟨⟨h1, h2⟩, h3⟩, h4⟩, h5⟩ := h
      exact .at (ok_rpx g h1 h2 h3 h4 (ev_ok a g h5).pe)
    · cases h
  | .lcs es, X, g, x, h => by
    simp only [chkE] at h
    split at h
    · exact .at (ok_lcs (evL_ok es g h))
    · cases h
  | .idl a b, X, g, x, h => by
    simp only [chkE] at h
    split at h
    · simp only [Bool.and_eq_true] at h
      exact .at (ok_idl (ev_ok a g h.1.2).pe (ev_ok b g h.2).pe h.1.1)
    · cases h
  | .lcat a b, X, g, x, h => by
    simp only [chkE] at h
    split at h
    · simp only [Bool.and_eq_true] at h
      exact .at (ok_lcat (ev_ok a g h.1).pe (ev_ok b g h.2).pe)
    · cases h
  | .mex m a es, X, g, x, h => by
    simp only [chkE] at h
    split at h
    · simp only [Bool.and_eq_true, decide_eq_true_eq] at h
      obtain ⟨⟨⟨⟨⟨⟨h1, h2⟩, h3⟩, h4⟩, h5⟩, h6⟩, h7⟩ := h
      exact .at (ok_mex g h1 h2 h3 (ev_ok a g h4).pe (evL_ok es g h5) h6 h7)
    · cases h
  | .lcc own elt tg fl it, X, g, x, h => by
    obtain ⟨y, t, i, ifs, scope, pos, rfl, hp⟩ := lc_mk g (chk_lcc h) (fun hI => evI_ok it g hI) (fun g' xs hC => by
      cases xs with
      | nil => rw [LOk]
      | cons _ _ => simp [chkL] at hC) (fun g' _ hE => ev_ok elt g' hE)
    exact .at (hp.peC g)
theorem evL_ok : ∀ (es : Es) {X : L2.Cx} (g : Good T Γ C X) {xs : List Expr}, chkL T X.N es X.env.scope xs = true → LOk X Γ C es xs
  | .nil, X, g, xs, h => by
    cases xs with
    | nil => rw [LOk]
    | cons _ _ => simp [chkL] at h
  | .cons e r, X, g, xs, h => by
    cases xs with
    | nil => simp [chkL] at h
    | cons x xs =>
      simp only [chkL, Bool.and_eq_true] at h
      rw [LOk]
      exact ⟨x, xs, rfl, h.1.1, ev_ok e g h.1.2, evL_ok r g h.2⟩
theorem evO_ok : ∀ (es : Es) {X : L2.Cx} (g : Good T Γ C X) {o : Option Expr}, chkO T X.N es X.env.scope o = true → (es = .nil ∧ o = none) ∨ ∃ e x, es = .cons e .nil ∧ o = some x ∧ L2.PE X x (tEv X.K (ev Γ C e))
  | .nil, X, g, o, h => by
    cases o with
    | none => exact .inl ⟨rfl, rfl⟩
    | some _ => simp [chkO] at h
  | .cons e r, X, g, o, h => by
    cases o with
    | none => cases r <;> simp [chkO] at h
    | some x =>
      cases r with
      | nil =>
        simp only [chkO] at h
        exact .inr ⟨e, x, rfl, rfl, (ev_ok e g h).pe⟩
      | cons _ _ => simp [chkO] at h
theorem evI_ok : ∀ (it : It) {X : L2.Cx} (g : Good T Γ C X) {x t : Expr}, chkI T X.N it X.env.scope x t = true → L2.PI X t x (tIv X.K (evI Γ C it))
  | .val e, X, g, x, t, h => by
    simp only [chkI] at h
    exact io_val (ev_ok e g h).pe
  | .rng es, X, g, x, t, h => by
    simp only [chkI] at h
    split at h
    · rename_i n p ys pos
      simp only [Bool.and_eq_true, Bool.or_eq_true, decide_eq_true_eq] at h
      obtain ⟨⟨⟨h1, h2⟩, h3⟩, h4⟩ := h
      have hl := evL_ok es g h3
      rcases h4 with h4 | h4
      · match ys, h4, hl with
        | [y], _, hl => exact io_rng1 g h1 h2 hl
      · match ys, h4, hl with
        | [y, z], _, hl => exact io_rng2 g h1 h2 hl
    · cases h
  | .zip a b, X, g, x, t, h => by
    simp only [chkI] at h
    split at h
    · simp only [Bool.and_eq_true] at h
      obtain ⟨⟨⟨⟨⟨h1, h2⟩, h3⟩, h4⟩, h5⟩, h6⟩ := h
      exact io_zip g h1 h2 (.two (ev_ok a g h5) h3 (ev_ok b g h6) h4)
    · cases h
  | .enum a, X, g, x, t, h => by
    simp only [chkI] at h
    split at h
    · simp only [Bool.and_eq_true] at h
      obtain ⟨⟨⟨h1, h2⟩, h3⟩, h4⟩ := h
      exact io_enum g h1 h2 (.one (ev_ok a g h4) h3)
    · cases h
end
theorem lc_parts {X : L2.Cx} (g : Good T Γ C X) {own : List Nat} {elt : E} {tg : List Nat} {fl : Bool} {it : It} {cs : Es} {x : Expr} (h : chkE T X.N (.lc own elt tg fl it cs) X.env.scope x = true) :
    ∃ y t i ifs scope pos, x = .ListComp y [⟨t, i, ifs, 0⟩] scope pos ∧ LcP X Γ C own elt tg fl it cs y t i ifs scope :=
  lc_mk g h (fun h => evI_ok T Γ C it g h) (fun g' _ h => evL_ok T Γ C cs g' h) (fun g' _ h => ev_ok T Γ C elt g' h)
end
end Z
/-! ZSt: the statements, one by one. -/
set_option linter.all false
set_option autoImplicit false
set_option maxHeartbeats 4000000
set_option maxRecDepth 4000
namespace Z
open PySem
open L2 (V Hp HO upd upd_same upd_ne ne_of_none)
def EndsOk (K : PySem.W.Frag) (st : Store) (ι P : List Addr) (H : Hp) (o : Out) (D : L2.Ends) : Prop :=
  match o with
  | .nx ρ' st' => ∀ σ' H' ι', Rel K ρ' st' ι' P σ' H' → Step st ι H st' ι' H' → D.nx σ' H'
  | .bk ρ' st' => ∀ σ' H' ι', Rel K ρ' st' ι' P σ' H' → Step st ι H st' ι' H' → D.bk σ' H'
  | .ct ρ' st' => ∀ σ' H' ι', Rel K ρ' st' ι' P σ' H' → Step st ι H st' ι' H' → D.ct σ' H'
  | .rt w st' => ∀ v H' ι' p, Rel K [] st' ι' (p ++ P) [] H' → Step st ι H st' ι' H' → (∀ a ∈ p, H a = none) → RV K st' ι' (p ++ P) H' p w v → D.rt v H'
abbrev StF := Slots → Store → Option Out
def tSv (K : PySem.W.Frag) (f : StF) : L2.TS := fun D σ H => ∃ ρ st ι P o, Rel K ρ st ι P σ H ∧ f ρ st = some o ∧ EndsOk K st ι P H o D
section
variable {X : L2.Cx}
theorem PS.weak {s : Stmt} {t t' : L2.TS} (h : L2.PS X s t) (k : ∀ D σ H, t' D σ H → t D σ H) : L2.PS X s t' := ⟨fun pins s σ H D I q => h.run pins s σ H D I (k D σ H q)⟩
theorem PSs.weak {s : List Stmt} {t t' : L2.TS} (h : L2.PSs X s t) (k : ∀ D σ H, t' D σ H → t D σ H) : L2.PSs X s t' := ⟨fun pins s σ H D I q => h.run pins s σ H D I (k D σ H q)⟩
end
section
variable {K : PySem.W.Frag} {ρ ρ2 : Slots} {σ σ2 : L2.St} {st st1 st2 : Store} {ι ι1 ι2 P p q : List Addr} {H H1 H2 : Hp} {D : L2.Ends} {o : Out}
theorem EndsOk.step (h : EndsOk K st ι P H o D) (s : Step st ι H st1 ι1 H1) : EndsOk K st1 ι1 P H1 o D := by
  cases o with
  | nx ρ' st' => exact fun σ' H' ι' R s' => h σ' H' ι' R (s.trans s')
  | bk ρ' st' => exact fun σ' H' ι' R s' => h σ' H' ι' R (s.trans s')
  | ct ρ' st' => exact fun σ' H' ι' R s' => h σ' H' ι' R (s.trans s')
  | rt w st' => exact fun v H' ι' p R s' n V => h v H' ι' p R (s.trans s') (fun a ha => s.new (n a ha)) V
/-- a name stored -/
theorem setW_ok {i : Nat} {mk : Bool} {w : W} {v : V} (A : Aft K ρ σ st ι P H st1 ι1 p H1) (h : RV K st1 ι1 (p ++ P) H1 p w v) :
    ∃ ι', Rel K (setW ρ st1 i mk w).1 (setW ρ st1 i mk w).2 ι' P (σ.set i (some v)) H1 ∧ Step st ι H (setW ρ st1 i mk w).2 ι' H1 := by
  cases w with
  | d x =>
    obtain ⟨rfl, h⟩ := h
    exact ⟨ι1, A.rel.slot (w := .d x) h, A.step⟩
  | c n =>
    obtain ⟨rfl, h⟩ := h
    exact ⟨ι1, A.rel.slot (w := .c n) h, A.step⟩
  | s ns =>
    obtain ⟨rfl, h⟩ := h
    exact ⟨ι1, A.rel.slot (w := .s ns) h, A.step⟩
  | l ns =>
    obtain ⟨rfl, h⟩ := h
    exact ⟨ι1, A.rel.slot (w := .l ns) h, A.step⟩
  | f xs =>
    cases mk with
    | false =>
      obtain ⟨B, hd⟩ := A.fix h (show fix st1 (.f xs) = some (.list xs, st1) from rfl)
      exact ⟨ι1, B.rel.slot (w := .d (.list xs)) hd, B.step⟩
    | true =>
      obtain ⟨a, vs, rfl, ha, rfl, h1, h2⟩ := h
      have R := A.rel.push h1 h2
      refine ⟨ι1 ++ [a], R.slot (w := .c st1.length) ⟨by simp, a, ?_, rfl⟩, A.step.push A.rel.len (A.new a (by simp))⟩
      rw [← A.rel.len]; simp
end
section
variable {T : Tab} {Γ : Calls} {C : Str → Option D} {X : L2.Cx} {wf : Nat}
theorem sw_false {x : Expr} {t : Option Expr} {l : Nat} {env : Env} (h : isLc x = false) : swapsWith x t l env = pure false := by
  cases x <;> first | rfl | (simp [isLc] at h)
theorem sw_cell {x : Expr} {n : Str} {np : Pos} {l : Nat} {env : Env} (h : cellB env.scope n = true) : swapsWith x (some (.Name n np)) l env = pure false := by
  have h : env.scope.names.lookup n = some .cell := by simpa [cellB] using h
  have ky : env.kindOf n = some .cell := h
  cases x <;> first | rfl | (unfold swapsWith; simp only [ky]; cases (env.blockKind == ScopeKind.function) <;> rfl)
theorem st_exp {e : E} {x : Expr} {pos : Pos} (hx : isLc x = false) (h : L2.PE X x (tEv X.K (ev Γ C e))) : L2.PS X (.Expr x pos) (tSv X.K (evS Γ C wf (.exp e))) := by
  refine PS.weak (L2.ps_expr h (sw_false hx)) fun D σ H ⟨ρ, st, ι, P, o, R, e0, hQ⟩ => ?_
  rw [evS] at e0
  simp only [Option.map_eq_some_iff] at e0
  obtain ⟨p, e1, e2⟩ := e0
  cases e2
  exact one R e1 fun v1 H1 ι1 p1 A V => hQ σ H1 ι1 A.drop.rel A.step
theorem st_ret {e : E} {x : Expr} {pos : Pos} (h : L2.PE X x (tEv X.K (ev Γ C e))) : L2.PS X (.Return (some x) pos) (tSv X.K (evS Γ C wf (.ret e))) := by
  refine PS.weak (L2.ps_ret h) fun D σ H ⟨ρ, st, ι, P, o, R, e0, hQ⟩ => ?_
  rw [evS] at e0
  simp only [Option.map_eq_some_iff] at e0
  obtain ⟨p, e1, e2⟩ := e0
  cases e2
  exact one R e1 fun v1 H1 ι1 p1 A V => hQ v1 H1 ι1 p1 A.rel.bare A.step A.new V
theorem st_retN {pos : Pos} : L2.PS X (.Return none pos) (tSv X.K (evS Γ C wf .retN)) := by
  refine PS.weak L2.ps_retN fun D σ H ⟨ρ, st, ι, P, o, R, e0, hQ⟩ => ?_
  rw [evS] at e0
  cases e0
  exact hQ .non H ι [] R.bare .refl (fun _ h => nomatch h) ⟨rfl, by rw [RD]⟩
theorem nm_t {i : Nat} {mk : Bool} {e : E} {D : L2.Ends} {σ : L2.St} {H : Hp} (h : tSv X.K (evS Γ C wf (.asg (.nm i mk) e)) D σ H) : L2.tAsg (tEv X.K (ev Γ C e)) (L2.gName i) D σ H := by
  obtain ⟨ρ, st, ι, P, o, R, e0, hQ⟩ := h
  rw [evS] at e0
  simp only [Option.map_eq_some_iff] at e0
  obtain ⟨p, e1, e2⟩ := e0
  cases e2
  refine one R e1 fun v1 H1 ι1 p1 A V => ?_
  obtain ⟨ι', R', s⟩ := setW_ok (i := i) (mk := mk) A V
  exact hQ _ H1 ι' R' s
theorem st_nm (g : Good T Γ C X) (hf : ∀ x, X.fn x = true) {i : Nat} {mk : Bool} {e : E} {n : Str} {x : Expr} {np pos : Pos} (h1 : slotB X.N i n = true) (h2 : locB X.env.scope n = true) (h3 : isLc x = false ∨ cellB X.env.scope n = true) (h : L2.PE X x (tEv X.K (ev Γ C e))) :
    L2.PS X (.Assign [.Name n np] x pos) (tSv X.K (evS Γ C wf (.asg (.nm i mk) e))) :=
  PS.weak (L2.ps_set g.nd (slotB_ok h1) (locB_ok h2) h (h3.elim sw_false sw_cell) (.inl (hf n))) fun D σ H h => nm_t h
theorem fnB_ok {sc : Scope} (h : fnB sc = true) : sc.kind = .function := by
  unfold fnB at h
  split at h
  · assumption
  · cases h
theorem st_nmLc (g : Good T Γ C X) {i : Nat} {mk : Bool} {e : E} {n : Str} {x : Expr} {np pos : Pos} (h1 : slotB X.N i n = true) (h2 : sameLn X.env.scope n np x = true) (h3 : isLcE e = true) (h : chkE T X.N e X.env.scope x = true) :
    L2.PS X (.Assign [.Name n np] x pos) (tSv X.K (evS Γ C wf (.asg (.nm i mk) e))) := by
  cases e with
  | lc own elt tg fl it cs =>
    obtain ⟨y, t, i', ifs, scope, lpos, rfl, hp⟩ := lc_parts T Γ C g h
    simp only [sameLn, Bool.and_eq_true, Bool.not_eq_true'] at h2
    obtain ⟨⟨⟨k1, k2⟩, k3⟩, k4⟩ := h2
    refine PS.weak (L2.ps_setLc g.calm g.nd (slotB_ok h1) (onlyL_ok k2) (L2.sw_true (fnB_ok k1) (onlyL_ok k2) k3 k4) hp.hi hp.ok hp.hg hp.ht hp.he hp.hs) fun D σ H z => ?_
    rw [own_map]
    exact lc_t hp.sub (nm_t z)
  | _ => cases h3
theorem asg_sub {u z : Expr} {p : Pos} {env : Env} (h : plainX z = true) : ∀ v, assign (.Subscript u z p) env v = (do
      let ov ← holding [v] (eval u env)
      let iv ← holding [v, ov] (eval z env)
      standAt p
      holding [v, ov, iv] (setItem ov iv v)
      release [v, ov, iv] []) := by
  intro v
  cases z <;> first | rfl | (simp [plainX] at h)
theorem no_swap1 {u z : Expr} {p : Pos} {y : Expr} {env : Env} : swappedStores [.Subscript u z p] y env = pure none := by
  cases y <;> rfl
theorem ix_t {o i : E} {x : D} {v : V} {ρ : Slots} {σ : L2.St} {st : Store} {ι P : List Addr} {H : Hp} {Q : L2.St → Hp → Prop} {ρ' : Slots} {st' : Store} (R : Rel X.K ρ st ι P σ H) (hv : RD (Mt st ι P) H x v) (e : tgt Γ C ρ st (.ix o i) x = some (ρ', st'))
    (k : ∀ H' ι', Aft X.K ρ σ st ι P H st' ι' [] H' → ρ' = ρ → Q σ H') : L2.gSub (tEv X.K (ev Γ C o)) (tEv X.K (ev Γ C i)) L2.rSetL v σ H Q := by
  simp only [tgt, Option.bind_eq_some_iff] at e
  obtain ⟨p, e1, q, e2, kd, e3, e4⟩ := e
  obtain ⟨w1, s1⟩ := p
  cases w1 with
  | c n =>
    simp only [Option.map_eq_some_iff] at e4
    obtain ⟨s2, e5, e6⟩ := e4
    cases e6
    refine two R e1 e2 fun v1 v2 H2 ι2 pp q1 q2 A V1 V2 => ?_
    obtain ⟨_, hn, a, ha, rfl⟩ := V1
    unfold ixSet at e5
    simp only [Option.bind_eq_some_iff] at e5
    obtain ⟨c, f1, f2⟩ := e5
    split at f2
    · rename_i kk
      simp only [Option.bind_eq_some_iff] at f2
      obtain ⟨j, f3, f4⟩ := f2
      split at f4
      · rename_i hz
        cases f4
        have ek := rd_int V2 e3
        subst ek
        obtain ⟨us, g1, g2⟩ := A.drop.rel.cell f1 ha
        refine ⟨a, us, kk, j, rfl, rfl, g1, by rw [← g2.length]; exact f3, k _ ι2 (A.drop.write f1 hz ha (g2.set j ?_)) rfl⟩
        exact RD.mono (A.drop.step.keeps (p := []) fun _ h => nomatch h) _ _ hv
      · cases f4
    · cases f2
  | _ => cases e4
theorem st_ix (g : Good T Γ C X) {o i e : E} {u z y : Expr} {p pos : Pos} (h3 : isLc y = false) (hz : plainX z = true) (ho : L2.PE X u (tEv X.K (ev Γ C o))) (hi : L2.PE X z (tEv X.K (ev Γ C i))) (h : L2.PE X y (tEv X.K (ev Γ C e))) :
    L2.PS X (.Assign [.Subscript u z p] y pos) (tSv X.K (evS Γ C wf (.asg (.ix o i) e))) := by
  refine PS.weak (L2.ps_asg h (L2.pg_sub ho hi L2.set_list (asg_sub hz)) (by rw [swapsWithSole]; exact sw_false h3) no_swap1) fun D σ H ⟨ρ, st, ι, P, oo, R, e0, hQ⟩ => ?_
  rw [evS] at e0
  · simp only [Option.bind_eq_some_iff, Option.map_eq_some_iff] at e0
    obtain ⟨q, e1, x, e2, r, e3, e4⟩ := e0
    cases e4
    refine one R e1 fun v1 H1 ι1 p1 A V => ?_
    obtain ⟨B, hd⟩ := A.fix V e2
    refine ix_t B.rel hd e3 fun H2 ι2 A2 er => ?_
    have := B.seq A2
    rw [er] at hQ
    exact hQ σ H2 ι2 this.rel this.step
  · intro _ _ h; cases h
/-! ### several targets -/
def gTs (K : PySem.W.Frag) (Γ : Calls) (C : Str → Option D) : List Tg → L2.TGs
  | [] => L2.gNil
  | .nm i _ :: r => L2.gCons (L2.gName i) (gTs K Γ C r)
  | .ix o i :: r => L2.gCons (L2.gSub (tEv K (ev Γ C o)) (tEv K (ev Γ C i)) L2.rSetL) (gTs K Γ C r)
theorem pgs_tg (g : Good T Γ C X) (hf : ∀ x, X.fn x = true) : ∀ {ts : List Tg} {es : List Expr}, chkTs T X.N X.env.scope ts es = true → L2.PGs X es (gTs X.K Γ C ts) ∧ (assignEach es X.env).length = ts.length ∧ (assignEach es X.env).findIdx? (·.1) = none
  | [], [], _ => ⟨L2.pgs_nil, rfl, rfl⟩
  | [], _ :: _, h => by cases h
  | _ :: _, [], h => by cases h
  | .nm i mk :: r, e :: es, h => by
    rw [chkTs, Bool.and_eq_true] at h
    obtain ⟨h1, h2⟩ := h
    cases e with
    | Name n p =>
      simp only [chkT, Bool.and_eq_true] at h1
      obtain ⟨i1, i2, i3⟩ := pgs_tg g hf h2
      refine ⟨L2.pgs_cons (L2.pg_name g.nd (slotB_ok h1.1) (locB_ok h1.2) (.inl (hf n))) i1, ?_, ?_⟩
      · show (assignEach es X.env).length + 1 = _
        rw [i2]; rfl
      · show ((false, assign (.Name n p) X.env) :: assignEach es X.env).findIdx? (·.1) = none
        rw [List.findIdx?_cons, i3]; rfl
    | _ => simp [chkT] at h1
  | .ix o i :: r, e :: es, h => by
    rw [chkTs, Bool.and_eq_true] at h
    obtain ⟨h1, h2⟩ := h
    cases e with
    | Subscript u z p =>
      simp only [chkT, Bool.and_eq_true] at h1
      obtain ⟨i1, i2, i3⟩ := pgs_tg g hf h2
      refine ⟨L2.pgs_cons (L2.pg_sub (ev_ok T Γ C o g h1.1.2).pe (ev_ok T Γ C i g h1.2).pe L2.set_list (asg_sub h1.1.1)) i1, ?_, ?_⟩
      · show (assignEach es X.env).length + 1 = _
        rw [i2]; rfl
      · show ((false, assign (.Subscript u z p) X.env) :: assignEach es X.env).findIdx? (·.1) = none
        rw [List.findIdx?_cons, i3]; rfl
    | _ => simp [chkT] at h1
theorem tgs_t : ∀ {ts : List Tg} {xs : List D} {vs : List V} {ρ ρ' : Slots} {σ : L2.St} {st st' : Store} {ι P : List Addr} {H : Hp} {Q : L2.St → Hp → Prop}, tgts Γ C ρ st ts xs = some (ρ', st') → Rel X.K ρ st ι P σ H → RDs (Mt st ι P) H xs vs →
    (∀ σ' H' ι', Rel X.K ρ' st' ι' P σ' H' → Step st ι H st' ι' H' → Q σ' H') → gTs X.K Γ C ts vs σ H Q
  | [], xs, vs, ρ, ρ', σ, st, st', ι, P, H, Q, e, R, h, k => by
    cases xs with
    | cons _ _ => cases e
    | nil =>
      cases e
      rw [RDs] at h
      exact ⟨h, k σ H ι R .refl⟩
  | t :: ts, xs, vs, ρ, ρ', σ, st, st', ι, P, H, Q, e, R, h, k => by
    cases xs with
    | nil => cases e
    | cons x xs =>
      rw [RDs] at h
      obtain ⟨v, us, rfl, h1, h2⟩ := h
      simp only [tgts, Option.bind_eq_some_iff] at e
      obtain ⟨p, e1, e2⟩ := e
      cases t with
      | nm i mk =>
        cases e1
        exact ⟨v, us, rfl, tgs_t e2 (R.slot (w := .d x) h1) h2 k⟩
      | ix o i =>
        refine ⟨v, us, rfl, ix_t R h1 (show tgt Γ C ρ st (.ix o i) x = some (p.1, p.2) from e1) fun H' ι' A er => ?_⟩
        rw [er] at e2
        exact tgs_t e2 A.rel (RDs.mono (A.step.keeps (p := []) fun _ h => nomatch h) _ _ h2) fun σ2 H2 ι2 R2 s2 => k σ2 H2 ι2 R2 (A.step.trans s2)
theorem no_swapT {es : List Expr} {k : Nat} {p : Pos} {y : Expr} {env : Env} (h : isTup y = false) : swappedStores [.Tuple es k p] y env = pure none := by
  cases y <;> first | rfl | (simp [isTup] at h)
theorem tgts_len : ∀ {ts : List Tg} {xs : List D} {ρ : Slots} {st : Store} {r : Slots × Store}, tgts Γ C ρ st ts xs = some r → xs.length = ts.length
  | [], [], _, _, _, _ => rfl
  | [], _ :: _, _, _, _, h => by cases h
  | _ :: _, [], _, _, _, h => by cases h
  | t :: ts, x :: xs, ρ, st, r, h => by
    simp only [tgts, Option.bind_eq_some_iff] at h
    obtain ⟨p, _, h⟩ := h
    simp [tgts_len h]
theorem st_tup (g : Good T Γ C X) (hf : ∀ x, X.fn x = true) {ts : List Tg} {es : List Expr} {e : E} {y : Expr} {k : Nat} {p pos : Pos} (h1 : chkTs T X.N X.env.scope ts es = true) (h2 : isLc y = false) (h3 : isTup y = false) (h : L2.PE X y (tEv X.K (ev Γ C e))) :
    L2.PS X (.Assign [.Tuple es k p] y pos) (tSv X.K (evS Γ C wf (.asgT ts e))) := by
  obtain ⟨i1, i2, i3⟩ := pgs_tg g hf h1
  refine PS.weak (L2.ps_asg h (L2.pg_tup g.calm i1 i2 i3) (by rw [swapsWithSole]; exact sw_false h2) (no_swapT h3)) fun D σ H ⟨ρ, st, ι, P, oo, R, e0, hQ⟩ => ?_
  rw [evS] at e0
  simp only [Option.bind_eq_some_iff] at e0
  obtain ⟨q, e1, x, e2, e3⟩ := e0
  split at e3
  · rename_i xs
    simp only [Option.map_eq_some_iff] at e3
    obtain ⟨r, e4, e5⟩ := e3
    cases e5
    refine one R e1 fun v1 H1 ι1 p1 A V => ?_
    obtain ⟨_, a, vs, rfl, k1, k2⟩ := rd_tup V e2
    refine ⟨a, vs, rfl, .of k1, by rw [← k2.length, tgts_len e4], ?_⟩
    exact tgs_t e4 A.drop.rel (A.rds k2) fun σ' H' ι' R' s' => hQ σ' H' ι' R' (A.step.trans s')
  · cases e3
theorem st_aug (g : Good T Γ C X) (hf : ∀ x, X.fn x = true) {i : Nat} {o : BOp} {e : E} {n : Str} {y : Expr} {np pos : Pos} (h1 : slotB X.N i n = true) (h2 : locB X.env.scope n = true) (h : L2.PE X y (tEv X.K (ev Γ C e))) :
    L2.PS X (.AugAssign (.Name n np) (opOf o) y pos) (tSv X.K (evS Γ C wf (.aug i o e))) := by
  have fin : ∀ {D : L2.Ends} {σ : L2.St} {H : Hp} (f : Int → Int → Int), (∃ ρ st ι P a b r, Rel X.K ρ st ι P σ H ∧ ρ[i]? = some (some (.d (.int a))) ∧ ev Γ C e ρ st = some r ∧ rd r.2 r.1 = some (.int b) ∧
      EndsOk X.K st ι P H (.nx (ρ.set i (some (.d (.int (f a b))))) r.2) D) → L2.tAug i (tEv X.K (ev Γ C e)) (L2.ipI f) D σ H := by
    intro D σ H f ⟨ρ, st, ι, P, a, b, r, R, e1, e2, e3, hQ⟩
    obtain ⟨v, s1, hv⟩ := R.sl i _ e1
    have hv : RD (Mt st ι P) H (.int a) v := hv
    rw [RD] at hv
    subst hv
    refine ⟨_, s1, one R e2 fun v1 H1 ι1 p1 A V => ⟨a, b, rfl, rd_int V e3, hQ _ H1 ι1 (A.drop.rel.slot (w := .d (.int (f a b))) (by show RD _ _ _ _; rw [RD])) A.step⟩⟩
  by_cases ho : o = .add
  · subst ho
    refine PS.weak (L2.ps_aug g.nd (slotB_ok h1) (locB_ok h2) h L2.ip_add (.inl (hf n))) fun D σ H ⟨ρ, st, ι, P, oo, R, e0, hQ⟩ => fin _ ?_
    rw [evS] at e0
    split at e0
    · rename_i x ex
      simp only [Option.bind_eq_some_iff] at e0
      obtain ⟨r, e1, yy, e2, e3⟩ := e0
      split at e3
      · cases e3
        exact ⟨ρ, st, ι, P, _, _, r, R, ex, e1, e2, hQ⟩
      · rename_i hh; cases hh
      · cases e3
    · cases e0
  by_cases ho : o = .sub
  · subst ho
    refine PS.weak (L2.ps_aug g.nd (slotB_ok h1) (locB_ok h2) h L2.ip_sub (.inl (hf n))) fun D σ H ⟨ρ, st, ι, P, oo, R, e0, hQ⟩ => fin _ ?_
    rw [evS] at e0
    split at e0
    · rename_i x ex
      simp only [Option.bind_eq_some_iff] at e0
      obtain ⟨r, e1, yy, e2, e3⟩ := e0
      split at e3
      · rename_i hh; cases hh
      · cases e3
        exact ⟨ρ, st, ι, P, _, _, r, R, ex, e1, e2, hQ⟩
      · cases e3
    · cases e0
  · refine ⟨fun pins s σ H D I ⟨ρ, st, ι, P, oo, R, e0, hQ⟩ => ?_⟩
    rw [evS] at e0
    split at e0
    · rename_i x ex
      simp only [Option.bind_eq_some_iff] at e0
      obtain ⟨r, e1, yy, e2, e3⟩ := e0
      cases o with
      | add => exact absurd rfl ‹_›
      | sub => exact absurd rfl ‹_›
      | _ => cases x <;> cases yy <;> cases e3
    · cases e0
end
end Z
/-! ZPar: names stored out of a written tuple. -/
set_option linter.all false
set_option autoImplicit false
set_option maxHeartbeats 4000000
set_option maxRecDepth 4000
namespace Z
open PySem
open L2 (V Hp HO upd upd_same upd_ne ne_of_none)
/-! ### slots -/
def setVs : L2.St → List Nat → List V → L2.St
  | σ, i :: r, v :: vs => setVs (σ.set i (some v)) r vs
  | σ, _, _ => σ
theorem setVs_out {j : Nat} : ∀ {is : List Nat} {vs : List V} {σ : L2.St}, j ∉ is → (setVs σ is vs)[j]? = σ[j]?
  | [], vs, σ, _ => by cases vs <;> rfl
  | i :: r, [], σ, _ => rfl
  | i :: r, v :: vs, σ, h => by
    rw [List.mem_cons, not_or] at h
    rw [setVs, setVs_out h.2, List.getElem?_set_ne (Ne.symm h.1)]
theorem setVs_len : ∀ {is : List Nat} {vs : List V} {σ : L2.St}, (setVs σ is vs).length = σ.length
  | [], vs, σ => by cases vs <;> rfl
  | i :: r, [], σ => rfl
  | i :: r, v :: vs, σ => by rw [setVs, setVs_len]; simp
theorem setVs_snoc {i : Nat} {v : V} : ∀ {is : List Nat} {vs : List V} {σ : L2.St}, is.length = vs.length → setVs σ (is ++ [i]) (vs ++ [v]) = (setVs σ is vs).set i (some v)
  | [], [], σ, _ => rfl
  | [], _ :: _, σ, h => by cases h
  | _ :: _, [], σ, h => by cases h
  | j :: r, u :: vs, σ, h => by
    show setVs (σ.set j (some u)) (r ++ [i]) (vs ++ [v]) = (setVs (σ.set j (some u)) r vs).set i (some v)
    exact setVs_snoc (by simpa using h)
theorem setVs_set {i : Nat} {v : V} : ∀ {is : List Nat} {vs : List V} {σ : L2.St}, i ∉ is → setVs (σ.set i (some v)) is vs = (setVs σ is vs).set i (some v)
  | [], vs, σ, _ => by cases vs <;> rfl
  | j :: r, [], σ, _ => rfl
  | j :: r, u :: vs, σ, h => by
    rw [List.mem_cons, not_or] at h
    show setVs ((σ.set i (some v)).set j (some u)) r vs = (setVs (σ.set j (some u)) r vs).set i (some v)
    rw [List.set_comm _ _ h.1]
    exact setVs_set h.2
/-- from the right is from the left -/
theorem setVs_rev : ∀ {is : List Nat} {vs : List V} {σ : L2.St}, is.Nodup → is.length = vs.length → setVs σ is.reverse vs.reverse = setVs σ is vs
  | [], [], σ, _, _ => rfl
  | [], _ :: _, σ, _, h => by cases h
  | _ :: _, [], σ, _, h => by cases h
  | i :: r, v :: vs, σ, nd, h => by
    rw [List.nodup_cons] at nd
    have hl : r.length = vs.length := by simpa using h
    rw [List.reverse_cons, List.reverse_cons, setVs_snoc (by simpa using hl), setVs_rev nd.2 hl]
    exact (setVs_set nd.1).symm
/-! ### the stores -/
section
open PySem.Spec PyProof.Rows
variable {X : L2.Cx}
def gNms : List Nat → L2.TGs
  | [] => L2.gNil
  | i :: r => L2.gCons (L2.gName i) (gNms r)
theorem gNms_t : ∀ {is : List Nat} {vs : List V} {σ : L2.St} {H : Hp} {Q : L2.St → Hp → Prop}, is.length = vs.length → Q (setVs σ is vs) H → gNms is vs σ H Q
  | [], [], σ, H, Q, _, h => ⟨rfl, h⟩
  | [], _ :: _, σ, H, Q, h, _ => by cases h
  | _ :: _, [], σ, H, Q, h, _ => by cases h
  | i :: r, v :: vs, σ, H, Q, hl, h => ⟨v, vs, rfl, gNms_t (by simpa using hl) h⟩
theorem pgs_nms (g : X.N.Nodup) (hf : ∀ x, X.fn x = true) : ∀ {is : List Nat} {es : List Expr}, chkNms X.N (locB X.env.scope) is es = true → L2.PGs X es (gNms is) ∧ (assignEach es X.env).length = is.length ∧ (assignEach es X.env).findIdx? (·.1) = none
  | [], [], _ => ⟨L2.pgs_nil, rfl, rfl⟩
  | [], _ :: _, h => by cases h
  | _ :: _, [], h => by cases h
  | i :: r, e :: es, h => by
    cases e with
    | Name n p =>
      simp only [chkNms, Bool.and_eq_true] at h
      obtain ⟨i1, i2, i3⟩ := pgs_nms g hf h.2
      refine ⟨L2.pgs_cons (L2.pg_name g (slotB_ok h.1.1) (locB_ok h.1.2) (.inl (hf n))) i1, ?_, ?_⟩
      · show (assignEach es X.env).length + 1 = _
        rw [i2]; rfl
      · show ((false, assign (.Name n p) X.env) :: assignEach es X.env).findIdx? (·.1) = none
        rw [List.findIdx?_cons, i3]; rfl
    | _ => cases h
theorem nms_slots {N : List Str} {ok : Str → Bool} : ∀ {is : List Nat} {es : List Expr}, chkNms N ok is es = true → (nmsOf es).length = is.length ∧ is.length = es.length ∧ ∀ p ∈ is.zip (nmsOf es), N[p.1]? = some p.2
  | [], [], _ => ⟨rfl, rfl, fun _ h => nomatch h⟩
  | [], _ :: _, h => by cases h
  | _ :: _, [], h => by cases h
  | i :: r, e :: es, h => by
    cases e with
    | Name n p =>
      simp only [chkNms, Bool.and_eq_true] at h
      obtain ⟨h1, h2, h3⟩ := nms_slots h.2
      refine ⟨by simp [nmsOf, h1], by simp [h2], fun q hq => ?_⟩
      rcases List.mem_cons.mp (show q ∈ (i, n) :: r.zip (nmsOf es) from hq) with z | z
      · rw [z]; exact slotB_ok h.1.1
      · exact h3 q z
    | _ => cases h
theorem stores_ok {pins : List (Addr × Obj)} {H : Hp} {E : Value → Shared → Prop} (hN : X.N.Nodup) : ∀ {l : List (Nat × Str)} {vs : List V} {us : List Value} {σ : L2.St} {s : Shared} {Q : Unit → Shared → Prop}, L2.Vals vs us → l.length = vs.length → (∀ p ∈ l, X.N[p.1]? = some p.2 ∧ X.env.scope.names.lookup p.2 = some .local) →
    L2.Inv X pins σ H s → (∀ s', L2.Inv X pins (setVs σ (l.map (·.1)) vs) H s' → Q () s') → wpAny (model X.prog X.w) X.A (assignInOrder (l.map fun p => bindName X.env p.2) us) Q E s
  | [], [], _, σ, s, Q, .nil, _, _, I, h => assignInOrder_nil (h s I)
  | [], _ :: _, _, σ, s, Q, _, hl, _, _, _ => by cases hl
  | _ :: _, [], _, σ, s, Q, _, hl, _, _, _ => by cases hl
  | p :: l, v :: vs, _, σ, s, Q, .cons r rr, hl, hp, I, h => by
    obtain ⟨h1, h2⟩ := hp p List.mem_cons_self
    refine assignInOrder_cons (wpAny_bindName (L2.store_ok I hN h1 (.inl h2) r (fun s2 I2 => ?_) (.inr h2)))
    exact stores_ok hN rr (by simpa using hl) (fun q hq => hp q (List.mem_cons_of_mem _ hq)) I2 h
end
theorem swP_ok {env : Env} {ts vs : List Expr} {k k2 : Nat} {p p2 : Pos} {r : Option (List Str)} (hk : env.scope.kind = .function) (h : swP env.scope ts vs = some r) : swappedStores [.Tuple ts k p] (.Tuple vs k2 p2) env = pure r := by
  have hb : env.blockKind = .function := by unfold Env.blockKind; rw [hk]; rfl
  have hs : ∀ {l : List Expr}, plainXs l = true → (l.any fun | .Starred .. => true | _ => false) = false := by
    intro l
    induction l with
    | nil => intro _; rfl
    | cons x l ih =>
      intro hx
      rw [plainXs, Bool.and_eq_true] at hx
      rw [List.any_cons, ih hx.2, Bool.or_false]
      cases x <;> first | rfl | exact absurd hx.1 Bool.false_ne_true
  have hu : swappedStores [.Tuple ts k p] (.Tuple vs k2 p2) env = (
      if !(ts.length == 2 || ts.length == 3) || vs.length != ts.length || env.blockKind != .function then pure none else
      if (vs.any fun | .Starred .. => true | _ => false) then pure none else
      let line := (ts.head?.map (·.pos.line)).getD 0
      let names := ts.filterMap (nmIf env.scope line)
      if names.length != ts.length || names.eraseDups.length != names.length then pure none else
      if vs.all (foldedForSure 8) then pure none else
      if vs.all (constantsAlone 8) then unsupported "assign.tuple-of-constant-expressions:order-of-the-stores" else pure (some names)) := by
    unfold swappedStores
    rfl
  rw [hu]
  unfold swP at h
  split at h
  · rename_i h1
    cases h
    rw [if_pos]
    rw [h1]; rfl
  rename_i h1
  rw [if_neg (by
    rw [hb]
    simp only [Bool.not_eq_true] at h1
    rw [h1]
    simp)]
  split at h
  · cases h
  rename_i h2
  rw [if_neg (by rw [hs (by simpa using h2)]; simp)]
  simp only at h ⊢
  split at h
  · rename_i h3
    cases h
    rw [if_pos h3]
  rename_i h3
  rw [if_neg h3]
  split at h
  · rename_i h4
    cases h
    rw [if_pos h4]
  rename_i h4
  rw [if_neg h4]
  split at h
  · cases h
  rename_i h5
  cases h
  rw [if_neg h5]

section
variable {K : PySem.W.Frag} {P : List Addr} {H : Hp}
theorem setWs_ok : ∀ {ts : List (Nat × Bool)} {ws : List W} {vs : List V} {p : List Addr} {ρ ρ' : Slots} {σ : L2.St} {st st' : Store} {ι : List Addr}, setWs ρ st ts ws = some (ρ', st') → Rel K ρ st ι (p ++ P) σ H → RVs K st ι (p ++ P) H p ws vs →
    ∃ ι', Rel K ρ' st' ι' P (setVs σ (ts.map (·.1)) vs) H ∧ Ent st ι p st' ι'
  | [], [], vs, p, ρ, ρ', σ, st, st', ι, e, R, h => by
    obtain ⟨rfl, rfl⟩ := h
    cases e
    exact ⟨ι, R, .refl⟩
  | [], _ :: _, vs, p, ρ, ρ', σ, st, st', ι, e, R, h => by cases e
  | _ :: _, [], vs, p, ρ, ρ', σ, st, st', ι, e, R, h => by cases e
  | t :: ts, w :: ws, vs, p, ρ, ρ', σ, st, st', ι, e, R, h => by
    obtain ⟨p1, p2, v, us, rfl, rfl, h1, h2⟩ := h
    have pm : ((p2 ++ p1) ++ P).Perm (p1 ++ (p2 ++ P)) := by
      rw [← List.append_assoc]
      exact List.perm_append_comm.append_right P
    have R1 : Rel K ρ st ι (p1 ++ (p2 ++ P)) σ H := R.perm pm
    have k1 := keeps_perm (st := st) (ι := ι) (H := H) pm
    have V1 : RV K st ι (p1 ++ (p2 ++ P)) H p1 w v := h1.keeps k1 (Nat.le_refl _) (fun _ _ z => z) fun a ha => ⟨by simp [ha], rfl⟩
    have V2 : RVs K st ι (p1 ++ (p2 ++ P)) H p2 ws us := RVs.keeps k1 (Nat.le_refl _) (fun _ _ z => z) h2 fun a ha => ⟨by simp [ha], rfl⟩
    have go : ∀ {ρ1 : Slots} {s1 : Store} {ι1 : List Addr}, setW ρ st t.1 t.2 w = (ρ1, s1) → Rel K ρ1 s1 ι1 (p2 ++ P) (σ.set t.1 (some v)) H → Keeps (Mt st ι (p1 ++ (p2 ++ P))) H (Mt s1 ι1 (p2 ++ P)) H → Ent st ι p1 s1 ι1 →
        ∃ ι', Rel K ρ' st' ι' P (setVs σ ((t :: ts).map (·.1)) (v :: us)) H ∧ Ent st ι (p2 ++ p1) st' ι' := by
      intro ρ1 s1 ι1 es R' k E
      have e2 : setWs ρ1 s1 ts ws = some (ρ', st') := by
        have : setWs (setW ρ st t.1 t.2 w).1 (setW ρ st t.1 t.2 w).2 ts ws = some (ρ', st') := e
        rw [es] at this
        exact this
      have V3 : RVs K s1 ι1 (p2 ++ P) H p2 ws us := RVs.keeps k E.le E.pre V2 fun a ha => ⟨by simp [ha], rfl⟩
      obtain ⟨ι', R3, E3⟩ := setWs_ok e2 R' V3
      exact ⟨ι', R3, E.trans E3⟩
    have ks : Keeps (Mt st ι (p1 ++ (p2 ++ P))) H (Mt st ι (p2 ++ P)) H := keeps_shrink
    cases w with
    | d x =>
      obtain ⟨rfl, hd⟩ := V1
      exact go rfl (R1.slot (w := .d x) hd) ks .refl
    | c n =>
      obtain ⟨rfl, hd⟩ := V1
      exact go rfl (R1.slot (w := .c n) hd) ks .refl
    | s ns =>
      obtain ⟨rfl, hd⟩ := V1
      exact go rfl (R1.slot (w := .s ns) hd) ks .refl
    | l ns =>
      obtain ⟨rfl, hd⟩ := V1
      exact go rfl (R1.slot (w := .l ns) hd) ks .refl
    | f xs =>
      cases ht : t.2 with
      | false =>
        obtain ⟨R2, hd, _⟩ := R1.fix V1 (show fix st (.f xs) = some (.list xs, st) from rfl)
        exact go (ρ1 := ρ.set t.1 (some (.d (.list xs)))) (by rw [ht]; rfl) (R2.slot (w := .d (.list xs)) hd) ks .refl
      | true =>
        obtain ⟨a, zs, rfl, ha, rfl, f1, f2⟩ := V1
        have R2 := R1.push f1 f2
        refine go (ρ1 := ρ.set t.1 (some (.c st.length))) (s1 := st ++ [⟨false, xs⟩]) (by rw [ht]; rfl) (R2.slot (w := .c st.length) ⟨by simp, a, ?_, rfl⟩) (keeps_push R.len) (.push R.len)
        rw [← R.len]; simp
theorem setWs_len : ∀ {ts : List (Nat × Bool)} {ws : List W} {ρ : Slots} {st : Store} {r : Slots × Store}, setWs ρ st ts ws = some r → ts.length = ws.length
  | [], [], _, _, _, _ => rfl
  | [], _ :: _, _, _, _, h => by cases h
  | _ :: _, [], _, _, _, h => by cases h
  | t :: ts, w :: ws, ρ, st, r, h => by
    have := setWs_len (show setWs (setW ρ st t.1 t.2 w).1 (setW ρ st t.1 t.2 w).2 ts ws = some r from h)
    simp [this]
end
section
open PySem.Spec PyProof.Rows
variable {T : Tab} {Γ : Calls} {C : Str → Option D} {X : L2.Cx} {wf : Nat}
theorem ps_swap {xs ys : List Expr} {ta : L2.TA} {k k2 : Nat} {tp tp2 pos : Pos} {l : List (Nat × Str)} (hc : X.calm = true) (hN : X.N.Nodup) (ha : L2.PA X ys ta) (hw : swappedStores [.Tuple xs k tp] (.Tuple ys k2 tp2) X.env = pure (some (l.map (·.2))))
    (hp : ∀ p ∈ l, X.N[p.1]? = some p.2 ∧ X.env.scope.names.lookup p.2 = some .local) (hd : (l.map (·.1)).Nodup) (hl : l.length ≤ 99) :
    L2.PS X (.Assign [.Tuple xs k tp] (.Tuple ys k2 tp2) pos) (fun D σ H => ta σ H fun vs H1 => l.length = vs.length ∧ D.nx (setVs σ (l.map (·.1)) vs) H1) := by
  constructor
  intro pins s σ H D I h
  refine Assign_Tuple_swapped (Tuple_ (L2.thn (ha.run _ pins s σ H _ I h) ?_)) (by rw [swapsWithSole]; rfl) hw
  rintro us s1 ⟨vs, H1, I1, r1, q1, q2⟩
  have hul : us.length = l.length := by rw [q1]; exact r1.length.symm
  refine wpAny_newObj_type ?_ (by show us.toArray.size ≤ sizeLine; rw [List.size_toArray, hul]; exact Nat.le_trans hl (by decide))
  have I2 : L2.Inv X pins σ H1 { s1 with heap := s1.heap.push { cls := .type "tuple", data := .seq us.toArray } } := I1.kept (t' := s1.toks) fun _ _ e => Heap.get?_push_of_some _ e
  have hz : (l.map (·.2)).length = us.toArray.size := by rw [List.length_map, List.size_toArray, hul]
  rw [hz]
  refine unpackItems_tuple (I1.ok.hd hc) (IsTup.new s1.heap _) fun h' hx => ?_
  have I3 := I2.kept (h' := h') (t' := s1.toks) fun b o e => hx b o (Nat.ne_of_lt (Heap.lt_size e)) e
  have hr : (l.map (·.2)).reverse.map (fun n => bindName X.env n) = l.reverse.map fun p => bindName X.env p.2 := by
    rw [← List.map_reverse, List.map_map]; rfl
  rw [hr]
  refine stores_ok hN (L2.Vals.reverse r1) (by simpa using q1) (fun p hp' => hp p (by simpa using hp')) I3 fun s2 I4 => ⟨_, H1, I4, ?_⟩
  rw [List.map_reverse, setVs_rev hd (by simpa using q1)]
  exact q2
theorem zip_fst {α β : Type} : ∀ {l : List α} {m : List β}, l.length = m.length → (l.zip m).map (·.1) = l
  | [], [], _ => rfl
  | [], _ :: _, h => by cases h
  | _ :: _, [], h => by cases h
  | a :: l, b :: m, h => by simp [zip_fst (show l.length = m.length by simpa using h)]
theorem zip_snd {α β : Type} : ∀ {l : List α} {m : List β}, l.length = m.length → (l.zip m).map (·.2) = m
  | [], [], _ => rfl
  | [], _ :: _, h => by cases h
  | _ :: _, [], h => by cases h
  | a :: l, b :: m, h => by simp [zip_snd (show l.length = m.length by simpa using h)]
theorem st_par (g : Good T Γ C X) (hf : ∀ x, X.fn x = true) {ts : List (Nat × Bool)} {es : Es} {xs ys : List Expr} {k k2 : Nat} {tp tp2 pos : Pos} (h1 : fnB X.env.scope = true) (h2 : chkNms X.N (locB X.env.scope) (ts.map (·.1)) xs = true) (h3 : (ts.map (·.1)).Nodup) (h4 : LOk X Γ C es ys)
    (h5 : ys.length = ts.length ∧ ts.length ≤ 99) (h6 : (match swP X.env.scope xs ys with
      | some none => true
      | some (some names) => decide (names = nmsOf xs) && names.all (onlyL X.env.scope)
      | none => false) = true) : L2.PS X (.Assign [.Tuple xs k tp] (.Tuple ys k2 tp2) pos) (tSv X.K (evS Γ C wf (.par ts es))) := by
  have hk := fnB_ok h1
  obtain ⟨l1, l2, l3⟩ := nms_slots h2
  split at h6
  · rename_i hsw
    obtain ⟨i1, i2, i3⟩ := pgs_nms g.nd hf h2
    refine PS.weak (L2.ps_asg (L2.pe_tup (pa_v h4)) (L2.pg_tup g.calm i1 i2 i3) (by rw [swapsWithSole]; rfl) (swP_ok hk hsw)) fun D σ H ⟨ρ, st, ι, P, oo, R, e0, hQ⟩ => ?_
    rw [evS] at e0
    simp only [Option.bind_eq_some_iff, Option.map_eq_some_iff] at e0
    obtain ⟨q, e1, r, e2, e3⟩ := e0
    cases e3
    refine ⟨ρ, st, ι, P, q.1, q.2, R, e1, fun vs H1 ι1 p A V => ?_⟩
    have hl := setWs_len e2
    have hv : vs.length = ts.length := by rw [← V.length, hl]
    refine ⟨Nat.le_trans (by rw [hv]; exact h5.2) (by decide), fun a hn => ?_⟩
    have B := A.also (o := .tup vs) hn
    have V2 : RVs X.K q.2 ι1 (p ++ P) (upd H1 a (.tup vs)) p q.1 vs := RVs.keeps (keeps_alloc hn) (Nat.le_refl _) (fun _ _ z => z) V fun b hb => ⟨by simp [hb], upd_ne fun z => A.rel.pe b (by simp [hb]) (z ▸ hn)⟩
    obtain ⟨ι', R', E⟩ := setWs_ok (show setWs ρ q.2 ts q.1 = some (r.1, r.2) from e2) B.rel V2
    refine ⟨a, vs, rfl, .of upd_same, by rw [List.length_map, hv], gNms_t (by rw [List.length_map, hv]) (hQ _ _ ι' R' (B.step.ent B.new E))⟩
  · rename_i names hsw
    simp only [Bool.and_eq_true, decide_eq_true_eq, List.all_eq_true] at h6
    obtain ⟨en, h6⟩ := h6
    subst en
    have lz : (ts.map (·.1)).length = (nmsOf xs).length := l1.symm
    have hw := swP_ok (k := k) (p := tp) (k2 := k2) (p2 := tp2) hk hsw
    have zs := zip_snd lz
    have zf := zip_fst lz
    refine PS.weak (ps_swap (l := (ts.map (·.1)).zip (nmsOf xs)) g.calm g.nd (pa_v h4) (by rw [zs]; exact hw) (fun p hp => ⟨l3 p hp, onlyL_ok (h6 p.2 (List.of_mem_zip hp).2)⟩) (by rw [zf]; exact h3) (by rw [List.length_zip, ← lz, Nat.min_self, List.length_map]; exact h5.2)) fun D σ H ⟨ρ, st, ι, P, oo, R, e0, hQ⟩ => ?_
    rw [evS] at e0
    simp only [Option.bind_eq_some_iff, Option.map_eq_some_iff] at e0
    obtain ⟨q, e1, r, e2, e3⟩ := e0
    cases e3
    refine ⟨ρ, st, ι, P, q.1, q.2, R, e1, fun vs H1 ι1 p A V => ?_⟩
    have hl := setWs_len e2
    have hv : vs.length = ts.length := by rw [← V.length, hl]
    obtain ⟨ι', R', E⟩ := setWs_ok (show setWs ρ q.2 ts q.1 = some (r.1, r.2) from e2) A.rel V
    refine ⟨by rw [List.length_zip, ← lz, Nat.min_self, List.length_map, hv], ?_⟩
    rw [zf]
    exact hQ _ _ ι' R' (A.step.ent A.new E)
  · cases h6
end
end Z
/-! ZSu: pairs, loops, blocks; every statement. -/
set_option linter.all false
set_option autoImplicit false
set_option maxHeartbeats 4000000
set_option maxRecDepth 4000
namespace Z
open PySem
open L2 (V Hp HO upd upd_same upd_ne ne_of_none)
section
variable {T : Tab} {Γ : Calls} {C : Str → Option D} {X : L2.Cx} {wf : Nat}
theorem st_if {c : E} {a b : Ss} {x : Expr} {y z : List Stmt} {pos : Pos} (hc : EOk X (ev Γ C c) x) (ha : L2.PSs X y (tSv X.K (evSs Γ C wf a))) (hb : L2.PSs X z (tSv X.K (evSs Γ C wf b))) : L2.PS X (.If x y z pos) (tSv X.K (evS Γ C wf (.ifs c a b))) := by
  refine PS.weak (L2.ps_if hc.tst ha hb) fun D σ H ⟨ρ, st, ι, P, oo, R, e0, hQ⟩ => ?_
  rw [evS] at e0
  simp only [Option.bind_eq_some_iff] at e0
  obtain ⟨p, e1, k, ⟨y, e2, e3⟩, e4⟩ := e0
  refine ⟨ρ, st, ι, P, k, p.2, R, tst_iff.mpr ⟨p.1, y, e1, e2, e3⟩, fun H1 ι1 A => ?_⟩
  cases k with
  | true => exact ⟨ρ, p.2, ι1, P, oo, A.rel, e4, hQ.step A.step⟩
  | false => exact ⟨ρ, p.2, ι1, P, oo, A.rel, e4, hQ.step A.step⟩
theorem st_whl (g : Good T Γ C X) {c : E} {b : Ss} {x : Expr} {y : List Stmt} {pos : Pos} (hc : EOk X (ev Γ C c) x) (hb : L2.PSs X y (tSv X.K (evSs Γ C wf b))) : L2.PS X (.While x y [] pos) (tSv X.K (evS Γ C wf (.whl c b))) := by
  refine PS.weak (L2.ps_while (by rw [g.xe]; exact .never) hc.tst hb) fun D σ H ⟨ρ, st, ι, P, oo, R, e0, hQ⟩ => ?_
  rw [evS] at e0
  generalize ht : (fun (ρ : Slots) (st : Store) => (ev Γ C c ρ st).bind fun p => ((rd p.2 p.1).bind truth).map fun k => (k, p.2)) = test at e0
  have ht2 : tst (ev Γ C c) = test := ht
  generalize hs : (fun (ρ : Slots) (st : Store) => evSs Γ C wf b ρ st) = stp at e0
  have hs2 : evSs Γ C wf b = stp := hs
  rw [ht2, hs2]
  refine ⟨fun m σ' H' => ∃ ρi si ιi, Rel X.K ρi si ιi P σ' H' ∧ Step st ι H si ιi H' ∧ loopW test stp m ρi si = some oo, ⟨wf, ρ, st, ι, R, .refl, e0⟩, ?_⟩
  rintro m σ' H' ⟨ρi, si, ιi, Ri, Si, ei⟩
  cases m with
  | zero => cases ei
  | succ m =>
    simp only [loopW, Option.bind_eq_some_iff] at ei
    obtain ⟨q, f1, f2⟩ := ei
    refine ⟨ρi, si, ιi, P, q.1, q.2, Ri, f1, fun H1 ι1 A => ?_⟩
    cases hk : q.1 with
    | false =>
      rw [hk] at f2
      simp only [Bool.false_eq_true, if_false, Option.some.injEq] at f2 ⊢
      subst f2
      exact hQ σ' H1 ι1 A.rel (Si.trans A.step)
    | true =>
      rw [hk] at f2
      simp only [if_true, Option.bind_eq_some_iff] at f2 ⊢
      obtain ⟨o1, f3, f4⟩ := f2
      refine ⟨fun σ2 H2 => ∃ ρi si ιi, Rel X.K ρi si ιi P σ2 H2 ∧ Step st ι H si ιi H2 ∧ loopW test stp m ρi si = some oo, fun σ2 H2 h => ⟨m, by omega, h⟩, ρi, q.2, ι1, P, o1, A.rel, f3, ?_⟩
      have S1 := Si.trans A.step
      cases o1 with
      | nx ρ' s' => exact fun σ2 H2 ι2 R2 s2 => ⟨ρ', s', ι2, R2, S1.trans s2, f4⟩
      | ct ρ' s' => exact fun σ2 H2 ι2 R2 s2 => ⟨ρ', s', ι2, R2, S1.trans s2, f4⟩
      | bk ρ' s' =>
        cases f4
        exact fun σ2 H2 ι2 R2 s2 => hQ σ2 H2 ι2 R2 (S1.trans s2)
      | rt w s' =>
        cases f4
        exact EndsOk.step (o := .rt w s') hQ S1
theorem st_for (g : Good T Γ C X) {tg : List Nat} {fl : Bool} {it : It} {b : Ss} {t i : Expr} {y : List Stmt} {pos : Pos} (hi : L2.PI X t i (tIv X.K (evI Γ C it))) (hg : L2.PG X t (tgG X.K tg fl)) (hb : L2.PSs X y (tSv X.K (evSs Γ C wf b))) (hf : plainX i = true) :
    L2.PS X (.For t i y [] pos) (tSv X.K (evS Γ C wf (.fors tg fl it b))) := by
  refine PS.weak (L2.ps_for (by rw [g.xe]; exact .never) g.calm hi hg hb (fold_of hf)) fun D σ H ⟨ρ, st, ι, P, oo, R, e0, hQ⟩ => ?_
  rw [evS] at e0
  simp only [Option.bind_eq_some_iff] at e0
  obtain ⟨p, e1, e2⟩ := e0
  generalize hs : (fun (x : Z.D) (ρ : Slots) (st : Store) => (bindD ρ tg fl x).bind fun ρ' => evSs Γ C wf b ρ' st) = stp at e2
  refine ⟨ρ, st, ι, P, p.1, p.2, R, e1, fun J H1 ι1 A S => ?_⟩
  let Pv : Nat → L2.St → Hp → Prop := fun i σ' H' => ∃ ρi si ιi, Rel X.K ρi si ιi P σ' H' ∧ Step p.2 ι1 H1 si ιi H' ∧ loopF stp (p.1.drop i) ρi si = some oo
  have kp : ∀ {si ιi H'}, Step p.2 ι1 H1 si ιi H' → Keeps (Mt p.2 ι1 P) H1 (Mt si ιi P) H' := fun s => s.keeps (p := []) fun _ h => nomatch h
  refine ⟨fun i m σ' H' => m = p.1.length - i ∧ i ≤ p.1.length ∧ Pv i σ' H', ⟨p.1.length, rfl, Nat.zero_le _, ρ, p.2, ι1, A.rel, .refl, e2⟩, ?_⟩
  rintro i m σ' H' ⟨rfl, hi, ρi, si, ιi, Ri, Si, ei⟩
  by_cases hlt : i < p.1.length
  rotate_left
  · have hin : i = p.1.length := by omega
    subst hin
    rw [List.drop_length] at ei
    cases ei
    exact .inl ⟨S.stop _ _ (kp Si), hQ σ' H' ιi Ri (A.step.trans Si)⟩
  refine .inr ⟨S.go _ _ _ (kp Si) hlt, Pv (i + 1), fun σ2 H2 p' => ⟨p.1.length - (i + 1), by omega, rfl, hlt, p'⟩, fun x H2 y => ?_⟩
  obtain ⟨d, f1, f2, f3⟩ := S.yld _ _ _ _ _ (kp Si) (fun b hb => Ri.mt_ne hb) hlt y
  have gr : Grow H' H2 := f3
  have S2 := Si.trans (.grow gr)
  have hd : p.1.drop i = d :: p.1.drop (i + 1) := by
    obtain ⟨h1, h2⟩ := List.getElem?_eq_some_iff.mp f1
    rw [← h2]
    exact List.drop_eq_getElem_cons h1
  rw [hd] at ei
  simp only [loopF, Option.bind_eq_some_iff] at ei
  obtain ⟨o1, g1, g2⟩ := ei
  rw [← hs] at g1
  simp only [Option.bind_eq_some_iff] at g1
  obtain ⟨ρ', g4, g5⟩ := g1
  refine bind_ok g4 (Ri.grow gr) f2 fun σ2 R3 hl ho => ⟨ρ', si, ιi, P, o1, R3, g5, ?_⟩
  have S3 := A.step.trans S2
  cases o1 with
  | nx ρ2 s2 => exact fun σ3 H3 ι3 R4 s4 => ⟨ρ2, s2, ι3, R4, S2.trans s4, g2⟩
  | ct ρ2 s2 => exact fun σ3 H3 ι3 R4 s4 => ⟨ρ2, s2, ι3, R4, S2.trans s4, g2⟩
  | bk ρ2 s2 =>
    cases g2
    exact fun σ3 H3 ι3 R4 s4 => hQ σ3 H3 ι3 R4 (S3.trans s4)
  | rt w s2 =>
    cases g2
    exact EndsOk.step (o := .rt w s2) hQ S3
theorem st_forl (g : Good T Γ C X) (hf : ∀ x, X.fn x = true) {k : Nat} {e : E} {b : Ss} {n : Str} {np pos : Pos} {x : Expr} {y : List Stmt} (h1 : slotB X.N k n = true) (h2 : locB X.env.scope n = true) (hx : plainX x = true) (he : L2.PE X x (tEv X.K (ev Γ C e))) (hb : L2.PSs X y (tSv X.K (evSs Γ C wf b))) :
    L2.PS X (.For (.Name n np) x y [] pos) (tSv X.K (evS Γ C wf (.forl k e b))) := by
  refine PS.weak (L2.ps_for (by rw [g.xe]; exact .never) g.calm (pi_lt he) (L2.pg_name g.nd (slotB_ok h1) (locB_ok h2) (.inl (hf n))) hb (fold_of hx)) fun D σ H ⟨ρ, st, ι, P, oo, R, e0, hQ⟩ => ?_
  rw [evS] at e0
  simp only [Option.bind_eq_some_iff] at e0
  obtain ⟨p, e1, e2⟩ := e0
  obtain ⟨w1, s1⟩ := p
  cases w1 with
  | l ns =>
    refine one R e1 fun v1 H1 ι1 p1 A0 V => ?_
    obtain ⟨rfl, a, vs, rfl, k1, k2, k3⟩ := V
    refine ⟨a, rfl, .inl ⟨vs, k1, ?_⟩⟩
    have A : Aft X.K ρ σ st ι P H s1 ι1 [] H1 := A0
    have W := L2.walk_list (K := X.K) (a := a) (xs := vs)
    have k2 : ¬ Mt s1 ι1 P a := k2
    simp only at e2
    generalize hs : (fun (n : Nat) (ρ : Slots) (st : Store) => evSs Γ C wf b (ρ.set k (some (.c n))) st) = stp at e2
    let Pv : Nat → L2.St → Hp → Prop := fun i σ' H' => ∃ ρi si ιi, Rel X.K ρi si ιi P σ' H' ∧ Step s1 ι1 H1 si ιi H' ∧ loopC stp (ns.drop i) ρi si = some oo
    have kp : ∀ {si ιi H'}, Step s1 ι1 H1 si ιi H' → H' a = some (.lst vs) := fun s => keeps_obj (s.keeps (p := []) (P := P) fun _ h => nomatch h) k1 k2
    refine ⟨fun i m σ' H' => m = ns.length - i ∧ i ≤ ns.length ∧ Pv i σ' H', ⟨ns.length, rfl, Nat.zero_le _, ρ, s1, ι1, A.rel, .refl, e2⟩, ?_⟩
    rintro i m σ' H' ⟨rfl, hi, ρi, si, ιi, Ri, Si, ei⟩
    by_cases hlt : i < ns.length
    rotate_left
    · have hin : i = ns.length := by omega
      subst hin
      rw [List.drop_length] at ei
      cases ei
      exact .inl ⟨by rw [k3.length]; exact W.stops H' (.of (kp Si)), hQ σ' H' ιi Ri (A.step.trans Si)⟩
    have hlv : i < vs.length := by rw [← k3.length]; exact hlt
    refine .inr ⟨W.goes i H' hlv (.of (kp Si)), Pv (i + 1), fun σ2 H2 p' => ⟨ns.length - (i + 1), by omega, rfl, hlt, p'⟩, fun x H2 y => ?_⟩
    obtain ⟨rfl, f1⟩ := W.yields i H' x H2 hlv (.of (kp Si)) y
    obtain ⟨b', f2, f3, f4⟩ := k3.get (List.getElem?_eq_getElem hlt)
    rw [f1] at f2
    cases f2
    have hd : ns.drop i = ns[i] :: ns.drop (i + 1) := List.drop_eq_getElem_cons hlt
    rw [hd] at ei
    simp only [loopC, Option.bind_eq_some_iff] at ei
    obtain ⟨o1, g1, g2⟩ := ei
    rw [← hs] at g1
    have R3 := Ri.slot (i := k) (w := .c ns[i]) (v := .ref b') ⟨Nat.lt_of_lt_of_le f3 Si.le, b', Si.pre _ _ f4, rfl⟩
    refine ⟨_, si, ιi, P, o1, R3, g1, ?_⟩
    have S3 := A.step.trans Si
    cases o1 with
    | nx ρ2 s2 => exact fun σ3 H3 ι3 R4 s4 => ⟨ρ2, s2, ι3, R4, Si.trans s4, g2⟩
    | ct ρ2 s2 => exact fun σ3 H3 ι3 R4 s4 => ⟨ρ2, s2, ι3, R4, Si.trans s4, g2⟩
    | bk ρ2 s2 =>
      cases g2
      exact fun σ3 H3 ι3 R4 s4 => hQ σ3 H3 ι3 R4 (S3.trans s4)
    | rt w s2 =>
      cases g2
      exact EndsOk.step (o := .rt w s2) hQ S3
  | _ => cases e2
theorem ss_cons {s : S} {r : Ss} {x : Stmt} {xs : List Stmt} (h : L2.PS X x (tSv X.K (evS Γ C wf s))) (k : L2.PSs X xs (tSv X.K (evSs Γ C wf r))) : L2.PSs X (x :: xs) (tSv X.K (evSs Γ C wf (.cons s r))) := by
  refine PSs.weak (L2.pss_cons h k) fun D σ H ⟨ρ, st, ι, P, oo, R, e0, hQ⟩ => ?_
  rw [evSs] at e0
  simp only [Option.bind_eq_some_iff] at e0
  obtain ⟨o1, e1, e2⟩ := e0
  refine ⟨ρ, st, ι, P, o1, R, e1, ?_⟩
  cases o1 with
  | nx ρ' s' => exact fun σ' H' ι' R' s2 => ⟨ρ', s', ι', P, oo, R', e2, hQ.step s2⟩
  | bk ρ' s' => cases e2; exact hQ
  | ct ρ' s' => cases e2; exact hQ
  | rt w s' => cases e2; exact hQ
theorem ss_nil : L2.PSs X [] (tSv X.K (evSs Γ C wf .nil)) := by
  refine PSs.weak L2.pss_nil fun D σ H ⟨ρ, st, ι, P, oo, R, e0, hQ⟩ => ?_
  rw [evSs] at e0
  cases e0
  exact hQ σ H ι R .refl
theorem st_brk {pos : Pos} : L2.PS X (.Break pos) (tSv X.K (evS Γ C wf .brk)) := PS.weak L2.ps_break fun D σ H ⟨ρ, st, ι, P, oo, R, e0, hQ⟩ => by
  rw [evS] at e0
  cases e0
  exact hQ σ H ι R .refl
theorem st_cnt {pos : Pos} : L2.PS X (.Continue pos) (tSv X.K (evS Γ C wf .cnt)) := PS.weak L2.ps_continue fun D σ H ⟨ρ, st, ι, P, oo, R, e0, hQ⟩ => by
  rw [evS] at e0
  cases e0
  exact hQ σ H ι R .refl
theorem st_pas {pos : Pos} : L2.PS X (.Pass pos) (tSv X.K (evS Γ C wf .pas)) := PS.weak L2.ps_pass fun D σ H ⟨ρ, st, ι, P, oo, R, e0, hQ⟩ => by
  rw [evS] at e0
  cases e0
  exact hQ σ H ι R .refl
theorem st_doc {x : Str} {j : Nat} {pos pos' : Pos} : L2.PS X (.Expr (.Constant (.str x) j pos) pos') (tSv X.K (evS Γ C wf .pas)) := PS.weak L2.ps_doc fun D σ H ⟨ρ, st, ι, P, oo, R, e0, hQ⟩ => by
  rw [evS] at e0
  cases e0
  exact hQ σ H ι R .refl
theorem st_never {s : Stmt} : L2.PS X s (tSv X.K (evS Γ C wf .never)) := PS.weak L2.ps_never fun D σ H ⟨ρ, st, ι, P, oo, R, e0, hQ⟩ => by
  rw [evS] at e0
  cases e0
end
section
variable (T : Tab) (Γ : Calls) (C : Str → Option D) (wf : Nat)
mutual
theorem evS_ok : ∀ (s : S) {X : L2.Cx} (g : Good T Γ C X) (hf : ∀ x, X.fn x = true) {x : Stmt}, chkS T X.N s X.env.scope x = true → L2.PS X x (tSv X.K (evS Γ C wf s))
  | .exp e, X, g, hf, x, h => by
    simp only [chkS] at h
    split at h
    · simp only [Bool.and_eq_true, Bool.not_eq_true'] at h
      exact st_exp h.1 (ev_ok T Γ C e g h.2).pe
    · cases h
  | .ret e, X, g, hf, x, h => by
    simp only [chkS] at h
    split at h
    · exact st_ret (ev_ok T Γ C e g h).pe
    · cases h
  | .retN, X, g, hf, x, h => by
    simp only [chkS] at h
    split at h
    · exact st_retN
    · cases h
  | .asg t e, X, g, hf, x, h => by
    simp only [chkS] at h
    split at h
    · rename_i x y pos
      rw [Bool.and_eq_true] at h
      obtain ⟨h, he⟩ := h
      split at h
      · simp only [Bool.and_eq_true, Bool.or_eq_true, Bool.not_eq_true'] at h
        obtain ⟨⟨h1, h2⟩, h3⟩ := h
        rcases h3 with (h3 | h3) | h3
        · exact st_nm g hf h1 h2 (.inl h3) (ev_ok T Γ C e g he).pe
        · exact st_nmLc g h1 h3.1 h3.2 he
        · exact st_nm g hf h1 h2 (.inr h3) (ev_ok T Γ C e g he).pe
      · simp only [Bool.and_eq_true, Bool.not_eq_true'] at h
        obtain ⟨⟨⟨h1, h2⟩, h3⟩, h4⟩ := h
        exact st_ix g h4 h1 (ev_ok T Γ C _ g h2).pe (ev_ok T Γ C _ g h3).pe (ev_ok T Γ C e g he).pe
      · cases h
    · cases h
  | .asgT ts e, X, g, hf, x, h => by
    simp only [chkS] at h
    split at h
    · simp only [Bool.and_eq_true, Bool.not_eq_true'] at h
      obtain ⟨⟨⟨h1, h2⟩, h3⟩, h4⟩ := h
      exact st_tup g hf h1 h2 h3 (ev_ok T Γ C e g h4).pe
    · cases h
  | .par ts es, X, g, hf, x, h => by
    simp only [chkS] at h
    split at h
    · simp only [Bool.and_eq_true, Bool.not_eq_true', decide_eq_true_eq] at h
      obtain ⟨⟨⟨⟨⟨h1, h2⟩, h3⟩, h4⟩, h5⟩, h6⟩ := h
      exact st_par g hf h1 h2 h3 (evL_ok T Γ C es g h4) h5 h6
    · cases h
  | .aug i o e, X, g, hf, x, h => by
    simp only [chkS] at h
    split at h
    · simp only [Bool.and_eq_true, decide_eq_true_eq] at h
      obtain ⟨⟨⟨h1, h2⟩, rfl⟩, h3⟩ := h
      exact st_aug g hf h1 h2 (ev_ok T Γ C e g h3).pe
    · cases h
  | .ifs c a b, X, g, hf, x, h => by
    simp only [chkS] at h
    split at h
    · simp only [Bool.and_eq_true] at h
      exact st_if (ev_ok T Γ C c g h.1.1) (evSs_ok a g hf h.1.2) (evSs_ok b g hf h.2)
    · cases h
  | .whl c b, X, g, hf, x, h => by
    simp only [chkS] at h
    split at h
    · simp only [Bool.and_eq_true] at h
      exact st_whl g (ev_ok T Γ C c g h.1) (evSs_ok b g hf h.2)
    · cases h
  | .fors tg fl it b, X, g, hf, x, h => by
    simp only [chkS] at h
    split at h
    · simp only [Bool.and_eq_true] at h
      obtain ⟨⟨⟨h1, h2⟩, h3⟩, h4⟩ := h
      exact st_for g (evI_ok T Γ C it g h2) (pg_of g.calm g.nd (fun n hn => ⟨locB_ok hn, .inl (hf n)⟩) h3) (evSs_ok b g hf h4) h1
    · cases h
  | .forl i e b, X, g, hf, x, h => by
    simp only [chkS] at h
    split at h
    · simp only [Bool.and_eq_true] at h
      obtain ⟨⟨⟨⟨h1, h2⟩, h3⟩, h4⟩, h5⟩ := h
      exact st_forl g hf h1 h2 h3 (ev_ok T Γ C e g h4).pe (evSs_ok b g hf h5)
    · cases h
  | .brk, X, g, hf, x, h => by
    simp only [chkS] at h
    split at h
    · exact st_brk
    · cases h
  | .cnt, X, g, hf, x, h => by
    simp only [chkS] at h
    split at h
    · exact st_cnt
    · cases h
  | .pas, X, g, hf, x, h => by
    simp only [chkS] at h
    split at h
    · exact st_pas
    · exact st_doc
    · cases h
  | .never, X, g, hf, x, h => st_never
theorem evSs_ok : ∀ (s : Ss) {X : L2.Cx} (g : Good T Γ C X) (hf : ∀ x, X.fn x = true) {xs : List Stmt}, chkSs T X.N s X.env.scope xs = true → L2.PSs X xs (tSv X.K (evSs Γ C wf s))
  | .nil, X, g, hf, xs, h => by
    cases xs with
    | nil => exact ss_nil
    | cons _ _ => simp [chkSs] at h
  | .cons s r, X, g, hf, xs, h => by
    cases xs with
    | nil => simp [chkSs] at h
    | cons x xs =>
      simp only [chkSs, Bool.and_eq_true] at h
      exact ss_cons (evS_ok s g hf h.1) (evSs_ok r g hf h.2)
end
end
end Z
/-! ZFn: a def by its text: what comes in, what goes out, level by level. -/
set_option linter.all false
set_option autoImplicit false
set_option maxHeartbeats 4000000
set_option maxRecDepth 4000
namespace Z
open PySem
open L2 (V Hp HO upd upd_same upd_ne ne_of_none)
section
variable {K : PySem.W.Frag} {ρ ρ2 : Slots} {σ σ2 : L2.St} {st st1 st2 : Store} {ι ι1 ι2 P P2 p q : List Addr} {H H1 H2 : Hp}
theorem enter_ok : ∀ {bs : List Bool} {ws : List W} {vs : List V} {st st1 : Store} {ws' : List W} {ι p : List Addr} {ρ : Slots} {σ : L2.St}, enter bs ws st = some (ws', st1) → Rel K ρ st ι (p ++ P) σ H → RVs K st ι (p ++ P) H p ws vs →
    ∃ ι1, Rel K (ρ ++ ws'.map some) st1 ι1 P (σ ++ vs.map some) H ∧ Ent st ι p st1 ι1
  | [], [], vs, st, st1, ws', ι, p, ρ, σ, e, R, h => by
    obtain ⟨rfl, rfl⟩ := h
    cases e
    exact ⟨ι, by simpa using R, .refl⟩
  | [], _ :: _, vs, st, st1, ws', ι, p, ρ, σ, e, R, h => by cases e
  | _ :: _, [], vs, st, st1, ws', ι, p, ρ, σ, e, R, h => by cases e
  | b :: bs, w :: ws, vs, st, st1, ws', ι, p, ρ, σ, e, R, h => by
    obtain ⟨p1, p2, v, us, rfl, rfl, h1, h2⟩ := h
    have pm : ((p2 ++ p1) ++ P).Perm (p1 ++ (p2 ++ P)) := by
      rw [← List.append_assoc]
      exact List.perm_append_comm.append_right P
    have R1 : Rel K ρ st ι (p1 ++ (p2 ++ P)) σ H := R.perm pm
    have k1 := keeps_perm (st := st) (ι := ι) (H := H) pm
    have V1 : RV K st ι (p1 ++ (p2 ++ P)) H p1 w v := h1.keeps k1 (Nat.le_refl _) (fun _ _ z => z) fun a ha => ⟨by simp [ha], rfl⟩
    have V2 : RVs K st ι (p1 ++ (p2 ++ P)) H p2 ws us := RVs.keeps k1 (Nat.le_refl _) (fun _ _ z => z) h2 fun a ha => ⟨by simp [ha], rfl⟩
    -- the first argument comes in
    have go : ∀ {w' : W} {s' : Store} {ι' : List Addr} {rest : List W}, Rel K ρ s' ι' (p2 ++ P) σ H → RW K s' ι' (p2 ++ P) H w' v → Keeps (Mt st ι (p1 ++ (p2 ++ P))) H (Mt s' ι' (p2 ++ P)) H → Ent st ι p1 s' ι' → enter bs ws s' = some (rest, st1) → ws' = w' :: rest →
        ∃ ι1, Rel K (ρ ++ ws'.map some) st1 ι1 P (σ ++ (v :: us).map some) H ∧ Ent st ι (p2 ++ p1) st1 ι1 := by
      intro w' s' ι' rest R' hw k E er ew
      have V3 : RVs K s' ι' (p2 ++ P) H p2 ws us := RVs.keeps k E.le E.pre V2 fun a ha => ⟨by simp [ha], rfl⟩
      obtain ⟨ι1, R3, E3⟩ := enter_ok er (R'.snoc hw) V3
      refine ⟨ι1, ?_, E.trans E3⟩
      rw [ew]
      simpa using R3
    have kn : ∀ {s' : Store}, (∀ H : Hp, Step st ι H s' ι H) → Keeps (Mt st ι (p1 ++ (p2 ++ P))) H (Mt s' ι (p2 ++ P)) H := fun s a ha n => by
      have s2 := s H
      refine ⟨rfl, fun z => ?_⟩
      rcases z with z | z
      · exact n (.inl (List.mem_append_right _ z))
      · exact s2.safe a ha (fun y => n (.inr y)) z
    have data : ((fix st w).bind fun y => (enter bs ws y.2).map fun p => (W.d y.1 :: p.1, p.2)) = some (ws', st1) → ∃ ι1, Rel K (ρ ++ ws'.map some) st1 ι1 P (σ ++ (v :: us).map some) H ∧ Ent st ι (p2 ++ p1) st1 ι1 := by
      intro e
      simp only [Option.bind_eq_some_iff, Option.map_eq_some_iff] at e
      obtain ⟨y, e1, r, e2, e3⟩ := e
      cases e3
      obtain ⟨R2, hd, _⟩ := R1.fix V1 (show fix st w = some (y.1, y.2) from e1)
      have fs := fix_step (ι := ι) (show fix st w = some (y.1, y.2) from e1)
      exact go (w' := .d y.1) R2 hd (kn fs) (.of fs) e2 rfl
    cases w with
    | d x => cases b <;> exact data e
    | l ns => cases b <;> exact data e
    | s ns =>
      have e2 : (enter bs ws st).map (fun p => (W.s ns :: p.1, p.2)) = some (ws', st1) := by cases b <;> exact e
      simp only [Option.map_eq_some_iff] at e2
      obtain ⟨r, e3, e4⟩ := e2
      cases e4
      obtain ⟨rfl, hs⟩ := V1
      exact go (w' := .s ns) R1 hs (kn fun _ => .refl) .refl e3 rfl
    | c n =>
      cases b with
      | false => exact data e
      | true =>
        have e2 : (enter bs ws st).map (fun p => (W.c n :: p.1, p.2)) = some (ws', st1) := e
        simp only [Option.map_eq_some_iff] at e2
        obtain ⟨r, e3, e4⟩ := e2
        cases e4
        obtain ⟨rfl, hs⟩ := V1
        exact go (w' := .c n) R1 hs (kn fun _ => .refl) .refl e3 rfl
    | f xs =>
      cases b with
      | false => exact data e
      | true =>
        have e2 : (enter bs ws (st ++ [⟨false, xs⟩])).map (fun p => (W.c st.length :: p.1, p.2)) = some (ws', st1) := e
        simp only [Option.map_eq_some_iff] at e2
        obtain ⟨r, e3, e4⟩ := e2
        cases e4
        obtain ⟨a, vs, rfl, ha, rfl, f1, f2⟩ := V1
        have R2 := R1.push f1 f2
        refine go (w' := .c st.length) R2 ⟨by simp, a, by rw [← R.len]; simp, rfl⟩ (keeps_push R.len) (.push R.len) e3 rfl
end
end Z
/-! ZFo: what goes out of a def; the levels. -/
set_option linter.all false
set_option autoImplicit false
set_option maxHeartbeats 4000000
set_option maxRecDepth 4000
namespace Z
open PySem
open L2 (V Hp HO upd upd_same upd_ne ne_of_none)
section
variable {K : PySem.W.Frag} {ρ ρ2 : Slots} {σ σ2 : L2.St} {st st1 st2 st3 : Store} {ι ι1 ι2 P P2 p q : List Addr} {H H1 H2 : Hp}
theorem take_get {α : Type} {l : List α} {k n : Nat} {x : α} : (l.take k)[n]? = some x ↔ n < k ∧ l[n]? = some x := by
  rw [List.getElem?_take]
  split
  · rename_i h
    exact ⟨fun e => ⟨h, e⟩, fun e => e.2⟩
  · rename_i h
    exact ⟨fun e => (nomatch e), fun e => absurd e.1 h⟩
theorem mc_take {k : Nat} {a : Addr} (h : Mc (st.take k) (ι.take k) a) : Mc st ι a := by
  obtain ⟨n, c, e1, e2, e3⟩ := h
  exact ⟨n, c, (take_get.mp e1).2, e2, (take_get.mp e3).2⟩
theorem Rel.cut {k : Nat} (R : Rel K [] st ι (p ++ P) [] H) (hk : k ≤ st.length) (hq : ∀ a ∈ q, Mt st ι p a ∧ a ∉ ι.take k ∧ a ∉ P) (hn : q.Nodup) : Rel K [] (st.take k) (ι.take k) (q ++ P) [] H := by
  have mtq : ∀ a, Mt (st.take k) (ι.take k) (q ++ P) a → Mt st ι (p ++ P) a := fun a z => by
    rcases z with z | z
    · rcases List.mem_append.mp z with z | z
      · exact (hq a z).1.imp (List.mem_append_left _) id
      · exact .inl (List.mem_append_right _ z)
    · exact .inr (mc_take z)
  refine ⟨?_, rfl, ?_, fun i w e => by simp at e, fun n c e => ?_, fun a ha => ?_⟩
  · rw [List.length_take, List.length_take, R.len]
  · have nd : (P ++ ι.take k).Nodup := by
      have h := R.nd
      rw [List.append_assoc] at h
      exact (List.nodup_append.mp h).2.1.sublist ((List.Sublist.refl P).append (List.take_sublist k ι))
    rw [List.append_assoc]
    refine List.nodup_append.mpr ⟨hn, nd, fun a ha b hb z => ?_⟩
    subst z
    rcases List.mem_append.mp hb with h | h
    · exact (hq a ha).2.2 h
    · exact (hq a ha).2.1 h
  · obtain ⟨h1, h2⟩ := take_get.mp e
    obtain ⟨a, vs, e1, e2, e3⟩ := R.ce n c h2
    exact ⟨a, vs, take_get.mpr ⟨h1, e1⟩, e2, RDs.mono (fun b _ nb => ⟨rfl, fun z => nb (mtq b z)⟩) _ _ e3⟩
  · exact R.mt_ne (mtq a (.inl ha))
/-- a call's end -/
theorem leave_ok {w r : W} {v : V} (hl : ι.length = st.length) (E : Ent st ι p st1 ι1) (hl1 : ι1.length = st1.length) (hnd : ι1.Nodup) (S : Step st1 ι1 H st2 ι2 H1) (R : Rel K [] st2 ι2 (q ++ P) [] H1) (hq : ∀ a ∈ q, H a = none) (V : RV K st2 ι2 (q ++ P) H1 q w v)
    (hP : ∀ a ∈ P, H a ≠ none) (e : leave st.length w st2 = some (r, st3)) : ∃ ι3 q3, CAft K st ι P p H st3 ι3 q3 H1 ∧ RV K st3 ι3 (q3 ++ P) H1 q3 r v := by
  have hk : st.length ≤ st2.length := Nat.le_trans E.le S.le
  have nd := R.nd
  rw [List.append_assoc] at nd
  have ndι : ι2.Nodup := R.ndι
  -- what every case has
  have gen : ∀ q3 : List Addr, Rel K [] (st2.take st.length) (ι2.take st.length) (q3 ++ P) [] H1 → (∀ a ∈ q3, H a = none ∨ a ∈ p) → CAft K st ι P p H (st2.take st.length) (ι2.take st.length) q3 H1 := fun q3 R3 hn => by
    refine ⟨R3, fun a ha np nm => S.keep a ha (E.safe a np nm), fun a ha np nm z => S.safe a ha (E.safe a np nm) (mc_take z), ?_, fun n a h => ?_, S.all, hn⟩
    · rw [List.length_take]; omega
    · have h1 := (List.getElem?_eq_some_iff.mp h).1
      exact take_get.mpr ⟨by omega, S.pre n a (E.pre n a h)⟩
  have kd : ∀ {x : D}, q = [] → RD (Mt st2 ι2 (q ++ P)) H1 x v → ∃ ι3 q3, CAft K st ι P p H (st2.take st.length) ι3 q3 H1 ∧ RV K (st2.take st.length) ι3 (q3 ++ P) H1 q3 (.d x) v := fun {x} e0 hx => by
    subst e0
    refine ⟨_, [], gen [] (R.cut hk (fun _ h => nomatch h) .nil) (fun _ h => nomatch h), rfl, ?_⟩
    exact RD.mono (fun b _ nb => ⟨rfl, fun z => nb (z.imp id mc_take)⟩) _ _ hx
  cases w with
  | s ns => cases e
  | l ns => cases e
  | d x =>
    cases e
    exact kd V.1 V.2
  | f xs =>
    cases e
    obtain ⟨a, vs, rfl, ha, rfl, h1, h2⟩ := V
    have R3 : Rel K [] (st2.take st.length) (ι2.take st.length) ([a] ++ P) [] H1 := R.cut hk (fun b hb => by
      rw [List.mem_singleton] at hb
      subst hb
      have n2 := (List.nodup_append.mp nd).2.2 b (by simp)
      exact ⟨.inl (by simp), fun z => n2 b (List.mem_append_right _ (List.mem_of_mem_take z)) rfl, fun z => n2 b (List.mem_append_left _ z) rfl⟩) (by simp)
    refine ⟨_, [a], gen _ R3 fun b hb => .inl (hq b hb), a, vs, rfl, by simp, rfl, h1, ?_⟩
    exact RDs.mono (fun b _ nb => ⟨rfl, fun z => nb (z.imp id mc_take)⟩) _ _ h2
  | c n =>
    obtain ⟨e0, hn, a, ha, rfl⟩ := V
    subst e0
    simp only [leave] at e
    split at e
    · rename_i hlt
      cases e
      refine ⟨_, [], gen [] (R.cut hk (fun _ h => nomatch h) .nil) (fun _ h => nomatch h), rfl, ?_, a, take_get.mpr ⟨hlt, ha⟩, rfl⟩
      rw [List.length_take]; omega
    · rename_i hge
      simp only [Option.map_eq_some_iff] at e
      obtain ⟨c, hc, e2⟩ := e
      obtain ⟨vs, h1, h2⟩ := R.cell hc ha
      have naP : a ∉ P := fun z => (List.nodup_append.mp R.nd).2.2 a (by simpa using z) a (List.mem_of_getElem? ha) rfl
      have nat : a ∉ ι2.take st.length := fun z => by
        obtain ⟨m, hm⟩ := List.getElem?_of_mem z
        obtain ⟨m1, m2⟩ := take_get.mp hm
        obtain ⟨x1, y1⟩ := List.getElem?_eq_some_iff.mp m2
        obtain ⟨x2, y2⟩ := List.getElem?_eq_some_iff.mp ha
        have := (List.getElem_inj ndι).mp (y1.trans y2.symm)
        omega
      cases hz : c.fz with
      | true =>
        rw [hz] at e2
        simp only [if_true, Prod.mk.injEq] at e2
        obtain ⟨rfl, rfl⟩ := e2
        refine kd rfl ?_
        rw [RD]
        refine ⟨a, vs, rfl, h1, fun z => ?_, h2⟩
        rcases z with z | ⟨m, d, f1, f2, f3⟩
        · exact naP (by simpa using z)
        · obtain ⟨x1, y1⟩ := List.getElem?_eq_some_iff.mp f3
          obtain ⟨x2, y2⟩ := List.getElem?_eq_some_iff.mp ha
          have := (List.getElem_inj ndι).mp (y1.trans y2.symm)
          subst this
          rw [hc] at f1
          cases f1
          rw [hz] at f2
          cases f2
      | false =>
        rw [hz] at e2
        simp only [Bool.false_eq_true, if_false, Prod.mk.injEq] at e2
        obtain ⟨rfl, rfl⟩ := e2
        have mc : Mc st2 ι2 a := ⟨n, c, hc, hz, ha⟩
        have R3 : Rel K [] (st2.take st.length) (ι2.take st.length) ([a] ++ P) [] H1 := R.cut hk (fun b hb => by
          rw [List.mem_singleton] at hb
          subst hb
          exact ⟨.inr mc, nat, naP⟩) (by simp)
        refine ⟨_, [a], gen _ R3 fun b hb => ?_, a, vs, rfl, by simp, rfl, h1, ?_⟩
        · rw [List.mem_singleton] at hb
          subst hb
          cases hH : H b with
          | none => exact .inl rfl
          | some o =>
            refine .inr ?_
            have hb : H b ≠ none := by rw [hH]; exact fun z => nomatch z
            have m1 : Mc st1 ι1 b := Classical.byContradiction fun nm => S.safe b hb nm mc
            obtain ⟨m, d, f1, f2, f3⟩ := m1
            have f4 := S.pre m b f3
            obtain ⟨x1, y1⟩ := List.getElem?_eq_some_iff.mp f4
            obtain ⟨x2, y2⟩ := List.getElem?_eq_some_iff.mp ha
            have := (List.getElem_inj ndι).mp (y1.trans y2.symm)
            subst this
            rcases E.new m b f3 with z | z
            · omega
            · exact z
        · exact RDs.mono (fun b hb nb => ⟨rfl, fun z => nb (by
            rcases z with z | z
            · rcases List.mem_append.mp z with z | z
              · rw [List.mem_singleton] at z
                rw [z]; exact .inr mc
              · exact .inl z
            · exact .inr (mc_take z))⟩) _ _ h2
end

/-! ### the defs of a text -/
/-- a def as it stands in the module, and its text in the small language -/
structure DefAt (T : Tab) (Fs : List (Nat × Fn)) (K : PySem.W.Frag) (mg : Str → Option Value) (f : Nat) (n : Str) (fa : Addr) (fd : FuncData) (ps : List Str) : Prop where
  is : ∃ (name qual : Str) (params : Arguments) (body : List Stmt) (scope : Scope) (dV kV doc pm cdv ct oc : Value) (an od : Option Addr) (osl : Array (Option Value)) (N : List Str) (F : Fn),
    fd = PySem.W.fnOf name qual params body scope dV kV doc pm an cdv ct ∧ K.lookup fa = some ⟨oc, od, .func fd, osl⟩ ∧ PySem.W.codeIn K cdv qual = true ∧ L2.FnScope N ps scope ∧
    Fs.lookup f = some F ∧ F.cps.length = ps.length ∧ F.ns = N.length ∧ chkSs T N F.body scope body = true
  mgn : mg n = some (.ref fa)
  kp : PySem.W.keepIn K (.ref fa) = true
  bd : L2.Binds K fd ps []
  kw : ∀ np ks perm, (f, np, ks, perm) ∈ T.kwt → KwB K fd ps np ks perm
structure ModOk (T : Tab) (Fs : List (Nat × Fn)) (C : Str → Option D) (K : PySem.W.Frag) (mg : Str → Option Value) : Prop where
  blt : ∀ x ∈ bltAll, mg x = none
  bfn : ∀ x i, (x, i) ∈ T.bf → mg x = some (.builtin i)
  cst : ∀ x d, x ∈ T.gl → C x = some d → ∃ u v, mg x = some u ∧ L2.RelV v u ∧ ∀ N H, RD N H d v
  def_ : ∀ f n, T.nm.lookup f = some n → ∃ fa fd ps, DefAt T Fs K mg f n fa fd ps
theorem enter_len : ∀ {bs : List Bool} {ws : List W} {st : Store} {r : List W × Store}, enter bs ws st = some r → ws.length = bs.length ∧ r.1.length = bs.length
  | [], [], st, r, e => by cases e; exact ⟨rfl, rfl⟩
  | [], _ :: _, st, r, e => by cases e
  | _ :: _, [], st, r, e => by cases e
  | b :: bs, w :: ws, st, r, e => by
    have data : ((fix st w).bind fun y => (enter bs ws y.2).map fun p => (W.d y.1 :: p.1, p.2)) = some r → (w :: ws).length = (b :: bs).length ∧ r.1.length = (b :: bs).length := fun e => by
      simp only [Option.bind_eq_some_iff, Option.map_eq_some_iff] at e
      obtain ⟨y, e1, r, e2, e3⟩ := e
      cases e3
      obtain ⟨h1, h2⟩ := enter_len e2
      exact ⟨by simp [h1], by simp [h2]⟩
    have easy : ∀ {s' : Store} {w' : W}, (enter bs ws s').map (fun p => (w' :: p.1, p.2)) = some r → (w :: ws).length = (b :: bs).length ∧ r.1.length = (b :: bs).length := fun {s' w'} e => by
      simp only [Option.map_eq_some_iff] at e
      obtain ⟨r, e2, e3⟩ := e
      cases e3
      obtain ⟨h1, h2⟩ := enter_len e2
      exact ⟨by simp [h1], by simp [h2]⟩
    cases w with
    | d x => cases b <;> exact data e
    | l ns => cases b <;> exact data e
    | s ns => cases b <;> exact easy e
    | c n => cases b <;> first | exact data e | exact easy e
    | f xs => cases b <;> first | exact data e | exact easy e
section
variable {T : Tab} {Fs : List (Nat × Fn)} {C : Str → Option D} {K : PySem.W.Frag} {mg : Str → Option Value}
/-- every def, at every level -/
theorem fn_lvl (M : ModOk T Fs C K mg) (prg : Program) (w : World) (base : Heap) (wf : Nat) : ∀ (n f : Nat) (nm : Str) (fa : Addr) (fd : FuncData) (ps : List Str), DefAt T Fs K mg f nm fa fd ps → FnG prg w K mg base n fa fd ps (spG K (evCall C wf Fs n f))
  | 0, f, nm, fa, fd, ps, d => by
    refine ⟨fun vs H Q h => ?_, fun A outer s H args us vs Q hgd hr e0 b r h => ?_⟩
    · obtain ⟨ws, st, ι, P, p, r, st', _, _, e, _⟩ := h
      simp [evCall] at e
    · obtain ⟨ws, st, ι, P, p, r, st', _, _, e, _⟩ := h
      simp [evCall] at e
  | n + 1, f, nm, fa, fd, ps, d => by
    obtain ⟨name, qual, params, body, scope, dV, kV, doc, pm, cdv, ct, oc, an, od, osl, N, F, rfl, lk, hcd, S, hF, hc, hns, hch⟩ := d.is
    have ih := fn_lvl M prg w base wf n
    refine fn_G lk hcd S (fun vs H Q h => ?_) fun X vs H Q h1 h2 h3 h4 h5 h6 h7 h8 h9 h10 h11 h12 hsp => ?_
    · obtain ⟨ws, st, ι, P, p, r, st', R, V, e, _⟩ := h
      simp only [evCall, hF, Option.bind_some, Option.bind_eq_some_iff] at e
      obtain ⟨q, e1, _⟩ := e
      have := (enter_len e1).1
      rw [← V.length, this, hc]
    · obtain ⟨ws, st, ι, P, p, r, st', R, V, e, hQ⟩ := hsp
      have g : Good T (evCall C wf Fs n) C X := by
        subst h1 h2 h3 h4 h5
        exact ⟨h8, by rw [h6]; exact S.nd, h11, h10, by have := h12.un; omega, M.blt, M.bfn, M.cst, fun f' n' hf' => by
          obtain ⟨fa', fd', ps', d'⟩ := M.def_ f' n' hf'
          exact ⟨fa', fd', ps', n, d'.mgn, d'.kp, h12, d'.bd, d'.kw, ih f' n' fa' fd' ps' d'⟩⟩
      refine ⟨_, evSs_ok T (evCall C wf Fs n) C wf F.body g (fun x => by rw [h9]) (by rw [h6, h7]; exact hch), ?_⟩
      simp only [evCall, hF, Option.bind_some, Option.bind_eq_some_iff] at e
      obtain ⟨en, e1, o, e2, e3⟩ := e
      have hvl := V.length
      obtain ⟨l1, l2⟩ := enter_len e1
      obtain ⟨ι1, R1, E⟩ := enter_ok (show enter F.cps ws st = some (en.1, en.2) from e1) R V
      rw [List.nil_append, List.nil_append] at R1
      have R2 := R1.pad (N.length - vs.length)
      have he : F.ns - en.1.length = N.length - vs.length := by rw [hns, l2, ← l1, hvl]
      rw [he] at e2
      rw [h3]
      refine ⟨_, en.2, ι1, P, o, R2, e2, ?_⟩
      have fin : ∀ {wr : W} {sr : Store}, leave st.length wr sr = some (r, st') → ∀ v H' ι' q, Rel K [] sr ι' (q ++ P) [] H' → Step en.2 ι1 H sr ι' H' → (∀ a ∈ q, H a = none) → RV K sr ι' (q ++ P) H' q wr v → Q v H' := by
        intro wr sr el v H' ι' q Rq Sq nq Vq
        obtain ⟨ι3, q3, A3, V3⟩ := leave_ok R.len E R1.len R1.ndι Sq Rq nq Vq R1.pe el
        exact hQ v H' ι3 q3 A3 V3
      cases o with
      | nx ρ' sr => exact fun σ' H' ι' R' S' => fin e3 .non H' ι' [] R'.bare S' (fun _ h => nomatch h) ⟨rfl, by rw [RD]⟩
      | rt wr sr => exact fun v H' ι' q Rq Sq nq Vq => fin e3 v H' ι' q Rq Sq nq Vq
      | bk _ _ => cases e3
      | ct _ _ => cases e3
end
end Z
/-! ZEnd: the end of a law whose def keeps its promise where nothing is guarded. -/
set_option linter.all false
set_option autoImplicit false
set_option maxHeartbeats 4000000
set_option maxRecDepth 100000
namespace Z
open PySem
open L2 (V Hp HO upd upd_same upd_ne ne_of_none)
open PySem.Spec PyProof.Rows
section
variable {prg : Program} {w : World} {K : PySem.W.Frag} {mg mb : Str → Option Value} {k : Nat} {fa a : Addr} {fd : FuncData} {x : Str} {sp : SpG} {s : Shared} {its : List Value} {ns : List Int}
/-- the call, the script tracked as H says -/
theorem end_at (KX : K.In s.heap) (gl : s.heap.Ns mainGlobals mg) (bl : s.heap.Ns builtinsNs mb) (bb : ∀ x : Str, x ≠ "__name__" → mb x = bootBuiltins x) (nl : s.heap.NoLimit) (gg : s.gens = #[])
    (ha : s.heap.get? a = some { cls := .type "list", data := .seq its.toArray }) (hr : L2.Room k callerA) (F : ∀ base : Heap, K.In base → base.Ns mainGlobals mg → FnG prg w K mg base k fa fd [x] sp)
    (bd : ∀ (s : Shared) (u : Value), BindsTo s fd ⟨[u], []⟩ [(x, u)]) {H : Hp} (hO : L2.Only H) (hok : L2.HOk prg w H s.heap) (one : ∀ b, H b ≠ none → b = a) (out : H a ≠ none → K.lookup a = none)
    (hsp : sp [.ref a] H (fun v _ => v = .bl true)) :
    codeAny (model prg w) callerA (.call (.ref fa) ⟨[.ref a], []⟩) (fun r s' => r = .ok (.ret (.bool true)) ∧ OldK s.heap s'.heap ∧ s'.os = s.os ∧ AllBare s'.gens) s := by
  have un : ∀ {b : Addr}, b ≠ a → H b = none := fun {b} nb => Classical.byContradiction fun z => nb (one b z)
  have far : ∀ {b : Addr} {o : Obj} {es : Array DictEntry} {e : Nat}, s.heap.get? b = some o → o.data = .dict es e → H b = none := by
    intro b o es e ob od
    refine un fun z => ?_
    rw [z, ha] at ob
    have od2 := od
    rw [← Option.some.inj ob] at od2
    exact nomatch (od2 : Data.seq its.toArray _ = Data.dict es e)
  have seen : ∀ {b : Addr} {m : Str → Option Value}, s.heap.Ns b m → (L2.hidT s.heap H).Ns b m := by
    rintro b m ⟨o, es, e, ob, od, r⟩
    exact ⟨o, es, e, L2.hidT_get ob (far ob od), od, r⟩
  have kin : K.In (L2.hidT s.heap H) := by
    intro b o hb
    refine L2.hidT_get (KX b o hb) (Classical.byContradiction fun z => ?_)
    obtain rfl := one b z
    exact nomatch (hb.symm.trans (out z))
  have modk : L2.Mod K mg (L2.hidT s.heap H) := by
    obtain ⟨mc, n1, n2⟩ := nl
    exact ⟨kin, seen gl, ⟨mb, seen bl, bb⟩, mc, seen n1, n2⟩
  have env : L2.Env0 prg w K mg (L2.hidT s.heap H) callerA [] s H := by
    refine ⟨rfl, modk, fun b o e => L2.of_hidT e, Nat.le_of_eq (L2.hidT_size _ _), trivial, fun b hb => ?_, hok, .of_eq gg⟩
    exact nomatch hb
  have run := (F (L2.hidT s.heap H) kin (seen gl)).run callerA [] s H ⟨[.ref a], []⟩ [.ref a] [.ref a] (fun v _ => v = .bl true) rfl hr env (bd s _) (.cons rfl .nil) hsp
  refine codeAny_mono run ?_
  intro r s' h
  match r, h with
  | .error _, h => exact False.elim h
  | .ok .next, h => exact False.elim h
  | .ok .brk, h => exact False.elim h
  | .ok .cont, h => exact False.elim h
  | .ok (.ret u), h =>
    obtain ⟨v, H', os, bare, rest, ok2, rv, q⟩ := h
    have q2 : v = .bl true := q
    rw [q2] at rv
    have rv2 : u = Value.bool true := rv
    rw [rv2]
    refine ⟨rfl, OldK.of_keep ?_, os, bare⟩
    intro b o ob
    by_cases hb : H b = none
    · exact rest.keep b o ob hb (fun z => nomatch z) (fun z => by simp at z)
    · rcases hO b with z | ⟨oo, xs, z⟩
      · exact absurd z hb
      · obtain ⟨f1, _⟩ := hok b _ z
        obtain ⟨f2, _⟩ := ok2 b _ (rest.frzs b oo _ z)
        exact (Option.some.inj (f1.symm.trans ob)) ▸ f2
/-- the law's script: an object of the module, or known by its object -/
theorem end_of (KX : K.In s.heap) (gl : s.heap.Ns mainGlobals mg) (bl : s.heap.Ns builtinsNs mb) (bb : ∀ x : Str, x ≠ "__name__" → mb x = bootBuiltins x) (nl : s.heap.NoLimit) (gg : s.gens = #[])
    (ha : s.heap.get? a = some { cls := .type "list", data := .seq its.toArray }) (hi : IntsAre its ns) (hz : ns.length ≤ sizeLine) (hr : L2.Room k callerA) (F : ∀ base : Heap, K.In base → base.Ns mainGlobals mg → FnG prg w K mg base k fa fd [x] sp)
    (bd : ∀ (s : Shared) (u : Value), BindsTo s fd ⟨[u], []⟩ [(x, u)]) (hsp : ∀ H : Hp, L2.Only H → Scr K (fun _ => False) H ns (.ref a) → sp [.ref a] H (fun v _ => v = .bl true)) :
    codeAny (model prg w) callerA (.call (.ref fa) ⟨[.ref a], []⟩) (fun r s' => r = .ok (.ret (.bool true)) ∧ OldK s.heap s'.heap ∧ s'.os = s.os ∧ AllBare s'.gens) s := by
  have vals := L2.vals_ints hi
  have hlen : its.length = ns.length := hi.length
  cases inK : K.lookup a with
  | some o =>
    obtain rfl : _ = o := Option.some.inj (ha.symm.trans (KX a o inK))
    have sq : ∀ H' : Hp, L2.SqL K H' a (ns.map V.int) := fun H' => .inr ⟨_, its.toArray, _, inK, rfl, rfl, rfl, by simpa [hlen] using hz, by simpa using vals⟩
    refine end_at KX gl bl bb nl gg ha hr F bd (H := fun _ => none) (fun b => .inl rfl) (fun b u z => nomatch z) (fun b z => absurd rfl z) (fun z => absurd rfl z) ?_
    exact hsp _ (fun b => .inl rfl) ⟨a, rfl, .inr sq⟩
  | none =>
    let T : Hp := upd (fun _ => none) a (.frz { cls := .type "list", data := .seq its.toArray } (.lst (ns.map V.int)))
    have at_ : T a = some (.frz { cls := .type "list", data := .seq its.toArray } (.lst (ns.map V.int))) := upd_same
    have off : ∀ b, b ≠ a → T b = none := fun b nb => upd_ne nb
    have only : L2.Only T := fun b => by
      by_cases nb : b = a
      · exact .inr ⟨_, _, by rw [nb]; exact at_⟩
      · exact .inl (off b nb)
    refine end_at KX gl bl bb nl gg ha hr F bd (H := T) only ?_ (fun b z => Classical.byContradiction fun nb => z (off b nb)) (fun _ => inK) (hsp T only ⟨a, rfl, .inl ⟨_, at_, id⟩⟩)
    intro b u hb
    by_cases nb : b = a
    · subst nb
      rw [at_] at hb
      cases hb
      exact ⟨ha, by simpa using hz, its, _, vals, ha⟩
    · rw [off b nb] at hb
      cases hb
end
/-- a law's end -/
theorem walkG {l : PySem.W.OpenLaw} {n k : Nat} {q : Program} {loose : List Str} {XP : (Str → Option Value) → Heap → Prop} {YP : World → Heap → Prop} {d : DefRec} {x : Str}
    (hn : l.most = some n) (hz : n ≤ sizeLine) (hdf : d.params.defaults = []) (hr : L2.Room k callerA)
    (F : ∀ (w : World) (mg : Str → Option Value) (fa : Addr) (h : Heap), YP w h → h.Ns mainGlobals mg → mg d.name = some (.ref fa) →
      ∃ (K : PySem.W.Frag) (fd : FuncData) (sp : SpG), K.In h ∧ (∀ (s : Shared) (u : Value), BindsTo s fd ⟨[u], []⟩ [(x, u)]) ∧
        (∀ (H : Hp) (a : Addr) (ns : List Int), ns.length ≤ n → L2.Only H → Scr K (fun _ => False) H ns (.ref a) → sp [.ref a] H fun v _ => v = .bl true) ∧
        ∀ base : Heap, K.In base → base.Ns mainGlobals mg → FnG l.prog w K mg base k fa fd [x] sp) :
    PySem.W.WalkO q loose XP YP l.row.toRowW d [] (fun f vs => PySem.call f vs) := by
  refine Att.attach_call hn hdf ?_
  intro w s0 s1 mg mb fa o pm cd doc a its ns G Y ho hd hcd hmg hobj hints hlen hg
  obtain ⟨K, fd, sp, KX, bd, hsp, hF⟩ := F w mg fa _ Y G.T.g hmg
  exact end_of KX G.T.g G.T.b G.T.builtins G.T.nolimit hg hobj hints (Nat.le_trans hlen hz) hr hF bd fun H hO hS => hsp H a ns hlen hO hS
end Z
/-! ZBnd: plain parameters bind. -/
set_option linter.all false
set_option autoImplicit false
set_option maxHeartbeats 4000000
set_option maxRecDepth 4000
namespace Z
open PySem
def plainP (p : Arguments) (ps : List Str) : Bool := p.posonlyargs.isEmpty && p.kwonlyargs.isEmpty && p.kw_defaults.isEmpty && p.defaults.isEmpty && p.vararg.isNone && p.kwarg.isNone && decide (p.args.map (·.arg) = ps) && decide ps.Nodup
theorem zip_lookup {us : List Value} : ∀ {ps : List Str}, ps.Nodup → us.length = ps.length → ∀ n ∈ ps, ((ps.zip us).lookup n).isSome = true := by
  intro ps
  induction ps generalizing us with
  | nil => intro _ _ n h; cases h
  | cons p ps ih =>
    intro nd hl n hn
    cases us with
    | nil => cases hl
    | cons u us =>
      rw [List.zip_cons_cons, List.lookup_cons]
      cases hb : n == p with
      | true => rfl
      | false =>
        have ne : n ≠ p := fun z => by rw [z] at hb; simp at hb
        rcases List.mem_cons.mp hn with h | h
        · exact absurd h ne
        · exact ih (List.nodup_cons.mp nd).2 (by simpa using hl) n h
theorem fm_congr {α β : Type} {f g : α → Option β} : ∀ {l : List α}, (∀ x ∈ l, f x = g x) → l.filterMap f = l.filterMap g
  | [], _ => rfl
  | x :: l, h => by
    rw [List.filterMap_cons, List.filterMap_cons, h x (by simp), fm_congr fun y hy => h y (by simp [hy])]
theorem zip_filterMap {us : List Value} : ∀ {ps : List Str}, ps.Nodup → us.length = ps.length → ps.filterMap (fun n => ((ps.zip us).lookup n).map (n, ·)) = ps.zip us := by
  intro ps
  induction ps generalizing us with
  | nil => intro _ _; rfl
  | cons p ps ih =>
    intro nd hl
    cases us with
    | nil => cases hl
    | cons u us =>
      have h0 := ih (us := us) (List.nodup_cons.mp nd).2 (by simpa using hl)
      have e1 : (((p :: ps).zip (u :: us)).lookup p).map (fun v => (p, v)) = some (p, u) := by
        rw [List.zip_cons_cons, List.lookup_cons]; simp
      have e2 : ps.filterMap (fun n => (((p :: ps).zip (u :: us)).lookup n).map (n, ·)) = ps.filterMap (fun n => ((ps.zip us).lookup n).map (n, ·)) := by
        refine fm_congr fun n hn => ?_
        have ne : n ≠ p := fun z => (List.nodup_cons.mp nd).1 (z ▸ hn)
        rw [List.zip_cons_cons, List.lookup_cons]
        rw [show (n == p) = false from beq_eq_false_iff_ne.mpr ne]
      rw [List.filterMap_cons, e1, e2, h0, List.zip_cons_cons]
theorem bind_plain {x qual : Str} {params : Arguments} {body : List Stmt} {scope : Scope} {kV doc pm cdv ct : Value} {an : Option Addr} {ps : List Str} {us : List Value} (h : plainP params ps = true) (hl : us.length = ps.length) :
    bindArgs (PySem.W.fnOf x qual params body scope .none kV doc pm an cdv ct) ⟨us, []⟩ = pure (ps.zip us) := by
  obtain ⟨po, ar, va, ko, kd, kw, df⟩ := params
  simp only [plainP, Bool.and_eq_true, decide_eq_true_eq, List.isEmpty_iff, Option.isNone_iff_eq_none] at h
  obtain ⟨⟨⟨⟨⟨⟨⟨rfl, rfl⟩, rfl⟩, rfl⟩, rfl⟩, rfl⟩, hp⟩, hn⟩ := h
  have hp : ar.map (·.arg) = ps := hp
  have miss : ps.filter (fun n => ((ps.zip us).lookup n).isNone) = [] := by
    rw [List.filter_eq_nil_iff]
    intro n hm hc
    have := zip_lookup hn hl n hm
    rw [Option.isNone_iff_eq_none.mp hc] at this
    cases this
  have fm := zip_filterMap hn hl
  unfold bindArgs
  simp only [PySem.W.fnOf, hp, List.map_nil, List.nil_append, List.append_nil, List.forIn_nil, pure_bind, seqItems?, Option.getD_none, List.length_nil, List.drop_nil, Nat.sub_zero, hl, Nat.lt_irrefl, decide_false, Bool.false_and, List.take_length, miss, fm]
  simp [hl, miss, fm]
  rfl
end Z
/-! ZLaw: a text by its list of defs. -/
set_option linter.all false
set_option autoImplicit false
set_option maxHeartbeats 4000000
set_option maxRecDepth 100000
namespace Z
open PySem
open L2 (V Hp HO)
/-- a def of the text: its number, its name, its statement, its names, its parameters, its text in the small language -/
structure Pt where
  id : Nat
  n : Str
  st : Stmt
  N : List Str
  ps : List Str
  F : Fn
def Pt.d (p : Pt) : He.DefD := ⟨(p.n, none), p.n, p.n, L2.defArgs p.st, L2.defBody p.st, L2.defScope p.st, [], []⟩
def scopeB (N ps : List Str) (sc : Scope) : Bool := fnB sc && !sc.isCoroutine && !sc.isGenerator && decide N.Nodup && decide (N.take ps.length = ps) && ps.all (fun x => locB sc x) && sc.names.all (fun y => match y.2 with | .free => false | _ => true)
def Pt.ok (T : Tab) (p : Pt) : Bool := scopeB p.N p.ps (L2.defScope p.st) && plainP (L2.defArgs p.st) p.ps && decide (p.F.cps.length = p.ps.length) && decide (p.F.ns = p.N.length) && chkSs T p.N p.F.body (L2.defScope p.st) (L2.defBody p.st)
theorem scopeB_ok {N ps : List Str} {sc : Scope} (h : scopeB N ps sc = true) : L2.FnScope N ps sc := by
  simp only [scopeB, Bool.and_eq_true, Bool.not_eq_true', decide_eq_true_eq, List.all_eq_true] at h
  obtain ⟨⟨⟨⟨⟨⟨h1, h2⟩, h3⟩, h4⟩, h5⟩, h6⟩, h7⟩ := h
  refine ⟨fnB_ok h1, h2, h3, h4, h5, fun x hx => locB_ok (h6 x hx), fun y hy e => ?_⟩
  have := h7 y hy
  rw [e] at this
  cases this
/-- a constant of the module -/
inductive Cst where
  | int (i : Int)
  | str (x : Str)
  | bf (i : String)
def Cst.d : Cst → Option D
  | .int i => some (.int i)
  | .str x => some (.str x)
  | .bf _ => none
def Cst.fa (x : Str) : Cst → Option He.Fa
  | .int i => some (.int x i)
  | .str z => some (.str x z)
  | .bf _ => none
def cOf (cs : List (Str × Cst)) (x : Str) : Option D := (cs.lookup x).bind Cst.d
/-- what is looked at beside the library's own facts: a module's name for a built-in function -/
inductive XF where
  | bf (x : Str) (i : String)
def XF.ok (K : PySem.W.Frag) : XF → Bool
  | .bf x i => He.eqO (PySem.W.nsIn K mainGlobals x) (some (some (.builtin i)))
def Cst.xf (x : Str) : Cst → Option XF
  | .bf i => some (.bf x i)
  | _ => none
def Cst.bfs (x : Str) : Cst → Option (Str × String)
  | .bf i => some (x, i)
  | _ => none
def xfOf (cs : List (Str × Cst)) : List XF := cs.filterMap fun c => c.2.xf c.1
abbrev AlX : Type := He.AlD × Bool
def obsX (fa : List He.Fa) (fn : List He.DefD) (xf : List XF) (K : PySem.W.Frag) : AlX := (He.obsD fa fn K, xf.all (XF.ok K))
def obsXG (n : Nat) (fa : List He.Fa) (fn : List He.DefD) (xf : List XF) (g : Addr → Option Obj) : AlX := obsX fa fn xf (He.frG g (He.asD g n))
def SaysX (fa : List He.Fa) (fn : List He.DefD) (xf : List XF) (K : PySem.W.Frag) : Prop := obsX fa fn xf K = (He.valD fn, true)
def hookX (n : Nat) (fa : List He.Fa) (fn : List He.DefD) (xf : List XF) : PySem.W.Hook where
  α := AlX
  obs := fun s => obsXG n fa fn xf s.heap.get?
  val := fun _ => (He.valD fn, true)
  says := fun _ h => ∃ K : PySem.W.Frag, K.In h ∧ SaysX fa fn xf K
  of := fun _ _ e => ⟨_, He.frG_in, e⟩
  keeps := fun _ _ _ ⟨K, hK, c⟩ k => ⟨K, PySem.W.Frag.In.keeps hK k, c⟩
theorem obsXG_eq {n : Nat} {fa : List He.Fa} {fn : List He.DefD} {xf : List XF} {g : Addr → Option Obj} {s : Shared} (h : ∀ a, g a = s.heap.get? a) : obsXG n fa fn xf g = (hookX n fa fn xf).obs s := by
  have e : g = s.heap.get? := funext h
  rw [e] <;> rfl
theorem SaysX.d {fa : List He.Fa} {fn : List He.DefD} {xf : List XF} {K : PySem.W.Frag} (c : SaysX fa fn xf K) : He.SaysD fa fn K := congrArg (fun z : AlX => z.1) c
theorem SaysX.x {fa : List He.Fa} {fn : List He.DefD} {xf : List XF} {K : PySem.W.Frag} (c : SaysX fa fn xf K) {f : XF} (h : f ∈ xf) : f.ok K = true :=
  List.all_eq_true.mp (congrArg (fun z : AlX => z.2) c) f h
def faOf (pts : List Pt) (cs : List (Str × Cst)) : List He.Fa := pts.map (fun p => .glo p.n) ++ (bltAll.map .free ++ cs.filterMap fun c => c.2.fa c.1)
def tabOf (pts : List Pt) (cs : List (Str × Cst)) (kwt : List (Nat × Nat × List Str × List Nat)) : Tab := ⟨pts.map fun p => (p.id, p.n), cs.map (·.1), kwt, cs.filterMap fun c => c.2.bfs c.1⟩
def fsOf (pts : List Pt) : List (Nat × Fn) := pts.map fun p => (p.id, p.F)
def KwE (p : Pt) (np : Nat) (ks : List Str) (perm : List Nat) : Prop :=
  ∀ (K : PySem.W.Frag) (kV doc pm : Value) (an : Option Addr) (cdv ct : Value), KwB K (PySem.W.fnOf p.n p.n (L2.defArgs p.st) (L2.defBody p.st) (L2.defScope p.st) .none kV doc pm an cdv ct) p.ps np ks perm
def KwOk (pts : List Pt) : List (Nat × Nat × List Str × List Nat) → Prop
  | [] => True
  | e :: r => (∀ p, pts.find? (fun p => e.1 == p.id) = some p → KwE p e.2.1 e.2.2.1 e.2.2.2) ∧ KwOk pts r
theorem KwOk.get {pts : List Pt} : ∀ {l : List (Nat × Nat × List Str × List Nat)}, KwOk pts l → ∀ {f np ks perm}, (f, np, ks, perm) ∈ l → ∀ p, pts.find? (fun p => f == p.id) = some p → KwE p np ks perm
  | [], _, _, _, _, _, h, _, _ => nomatch h
  | e :: r, k, f, np, ks, perm, h, p, hp => by
    rcases List.mem_cons.mp h with z | z
    · subst z
      exact k.1 p hp
    · exact KwOk.get k.2 z p hp
theorem map_lookup {β : Type} {g : Pt → β} {f : Nat} : ∀ {pts : List Pt}, (pts.map fun p => (p.id, g p)).lookup f = (pts.find? (fun p => f == p.id)).map g
  | [] => rfl
  | p :: r => by
    rw [List.map_cons, List.lookup_cons, List.find?_cons]
    cases h : f == p.id with
    | true => rfl
    | false => exact map_lookup
theorem says_fact {fa : List He.Fa} {fn : List He.DefD} {K : PySem.W.Frag} (c : He.SaysD fa fn K) {f : He.Fa} (h : f ∈ fa) : f.ok K = true := by
  obtain ⟨i, hi⟩ := List.getElem?_of_mem h
  exact c.fact i hi
section
variable {pts : List Pt} {cs : List (Str × Cst)} {kwt : List (Nat × Nat × List Str × List Nat)} {K : PySem.W.Frag} {mg : Str → Option Value} {h : Heap}
theorem pt_at (KX : K.In h) (G : h.Ns mainGlobals mg) (c : SaysX (faOf pts cs) (pts.map Pt.d) (xfOf cs) K) (ok : pts.all (Pt.ok (tabOf pts cs kwt)) = true) (kw : KwOk pts kwt) {f : Nat} {p : Pt} (hp : pts.find? (fun p => f == p.id) = some p) :
    ∃ fd, DefAt (tabOf pts cs kwt) (fsOf pts) K mg f p.n (He.ga K p.n) fd p.ps ∧ ∀ (s : Shared) (us : List Value), us.length = p.ps.length → BindsTo s fd ⟨us, []⟩ (p.ps.zip us) := by
  have hm := List.mem_of_find?_eq_some hp
  have hk := List.all_eq_true.mp ok p hm
  simp only [Pt.ok, Bool.and_eq_true, decide_eq_true_eq] at hk
  obtain ⟨⟨⟨⟨k1, k2⟩, k3⟩, k4⟩, k5⟩ := hk
  obtain ⟨i, hi⟩ := List.getElem?_of_mem hm
  obtain ⟨fd, F⟩ := c.d.def_ i (d := p.d) (by rw [List.getElem?_map, hi]; rfl)
  obtain ⟨oc, od, dV, kV, doc, pm, an, cdv, ct, osl, rfl, lk, hcd, hD, _⟩ := F.ex
  rcases hD with ⟨_, rfl⟩ | ⟨e, _⟩
  · refine ⟨_, ⟨⟨p.n, p.n, L2.defArgs p.st, L2.defBody p.st, L2.defScope p.st, .none, kV, doc, pm, cdv, ct, oc, an, od, osl, p.N, p.F, rfl, lk, hcd, scopeB_ok k1, ?_, k3, k4, k5⟩, He.glo_ok KX G (says_fact c.d ?_), F.kp, .all fun us hl => bind_plain k2 hl, fun np ks perm hz => ?_⟩, fun s us hl => .of_eq (bind_plain k2 hl)⟩
    · unfold fsOf
      rw [map_lookup, hp]; rfl
    · exact List.mem_append_left _ (List.mem_map.mpr ⟨p, hm, rfl⟩)
    · exact kw.get hz p hp K kV doc pm an cdv ct
  · exact absurd rfl e
theorem mod_of (KX : K.In h) (G : h.Ns mainGlobals mg) (c : SaysX (faOf pts cs) (pts.map Pt.d) (xfOf cs) K) (ok : pts.all (Pt.ok (tabOf pts cs kwt)) = true) (kw : KwOk pts kwt) : ModOk (tabOf pts cs kwt) (fsOf pts) (cOf cs) K mg := by
  refine ⟨fun x hx => He.free_ok KX G (says_fact c.d ?_), fun x i hx => ?_, fun x d _ hd => ?_, fun f n hf => ?_⟩
  · exact List.mem_append_right _ (List.mem_append_left _ (List.mem_map.mpr ⟨x, hx, rfl⟩))
  · obtain ⟨⟨y, z⟩, hm, hz⟩ := List.mem_filterMap.mp hx
    cases z with
    | bf j =>
      obtain ⟨e1, e2⟩ : y = x ∧ j = i := by simpa [Cst.bfs] using hz
      rw [e1, e2] at hm
      have hf : (XF.bf x i).ok K = true := c.x (List.mem_filterMap.mpr ⟨(x, .bf i), hm, rfl⟩)
      exact PySem.W.mg_of KX G (He.eqO_ok hf)
    | int j => cases hz
    | str j => cases hz
  · unfold cOf at hd
    rw [Option.bind_eq_some_iff] at hd
    obtain ⟨z, hz, hzd⟩ := hd
    have hmem : ∀ q, z.fa x = some q → q ∈ faOf pts cs := by
      intro q hq
      refine List.mem_append_right _ (List.mem_append_right _ (List.mem_filterMap.mpr ⟨(x, z), ?_, hq⟩))
      have : ∀ {l : List (Str × Cst)}, l.lookup x = some z → (x, z) ∈ l := by
        intro l
        induction l with
        | nil => intro h; cases h
        | cons a r ih =>
          intro h
          rw [List.lookup_cons] at h
          cases hb : x == a.1 with
          | true =>
            rw [hb] at h
            cases h
            obtain ⟨a1, a2⟩ := a
            have : x = a1 := by simpa using hb
            rw [this]
            exact List.mem_cons_self
          | false =>
            rw [hb] at h
            exact List.mem_cons_of_mem _ (ih h)
      exact this hz
    cases z with
    | bf j => cases hzd
    | int i =>
      cases hzd
      obtain ⟨t, e⟩ := He.int_ok KX G (says_fact c.d (hmem _ rfl))
      exact ⟨_, .int i, e, ⟨t, rfl⟩, fun N H => by show RD N H (.int i) _; rw [RD]⟩
    | str s =>
      cases hzd
      obtain ⟨t, e⟩ := He.str_ok KX G (says_fact c.d (hmem _ rfl))
      exact ⟨_, .str s, e, ⟨t, rfl⟩, fun N H => by show RD N H (.str s) _; rw [RD]⟩
  · have hf' : (pts.map fun p => (p.id, p.n)).lookup f = some n := hf
    rw [map_lookup, Option.map_eq_some_iff] at hf'
    obtain ⟨p, hp, rfl⟩ := hf'
    obtain ⟨fd, hd, _⟩ := pt_at KX G c ok kw hp
    exact ⟨_, fd, p.ps, hd⟩
/-- what the law's end asks -/
theorem law_facts {prg : Program} {w : World} {wf lvl f n : Nat}  {p : Pt} {fa : Addr} (KX : K.In h) (G : h.Ns mainGlobals mg) (c : SaysX (faOf pts cs) (pts.map Pt.d) (xfOf cs) K) (ok : pts.all (Pt.ok (tabOf pts cs kwt)) = true) (kw : KwOk pts kwt)
    (hp : pts.find? (fun p => f == p.id) = some p) (hps : p.ps = ([("script" : Str)] : List Str)) (hfa : mg p.n = some (.ref fa)) (holds : ∀ ns : List Int, ns.length ≤ n → ∃ st', evCall (cOf cs) wf (fsOf pts) lvl f [.s ns] [] = some (.d (.bool true), st')) :
    ∃ (K : PySem.W.Frag) (fd : FuncData) (sp : SpG), K.In h ∧ (∀ (s : Shared) (u : Value), BindsTo s fd ⟨[u], []⟩ [(("script" : Str), u)]) ∧
        (∀ (H : Hp) (a : Addr) (ns : List Int), ns.length ≤ n → L2.Only H → Scr K (fun _ => False) H ns (.ref a) → sp [.ref a] H fun v _ => v = .bl true) ∧
        ∀ base : Heap, K.In base → base.Ns mainGlobals mg → FnG prg w K mg base lvl fa fd [("script" : Str)] sp := by
  have M := mod_of KX G c ok kw
  obtain ⟨fd, hd, hb⟩ := pt_at KX G c ok kw hp
  have e : He.ga K p.n = fa := by
    have := hd.mgn.symm.trans hfa
    cases this
    rfl
  rw [e] at hd
  rw [hps] at hd hb
  refine ⟨K, fd, spG K (evCall (cOf cs) wf (fsOf pts) lvl f), KX, fun s u => hb s [u] rfl, fun H a ns hl hO hS => ?_, fun base _ _ => fn_lvl M prg w base wf lvl f p.n fa fd [("script" : Str)] hd⟩
  obtain ⟨st', hr⟩ := holds ns hl
  refine ⟨[.s ns], [], [], [], [], _, st', ⟨rfl, rfl, .nil, fun i w e => by simp at e, fun i c e => by simp at e, fun _ h => nomatch h⟩, ⟨[], [], .ref a, [], rfl, rfl, ⟨rfl, ?_⟩, rfl, rfl⟩, hr, fun v H' ι' q A V => ?_⟩
  · obtain ⟨b, hb, hS⟩ := hS
    refine ⟨b, hb, hS.imp (fun ⟨o, h1, _⟩ => ⟨o, h1, fun z => ?_⟩) id⟩
    rcases z with z | ⟨i, c, z, _⟩
    · exact nomatch z
    · simp at z
  · have V := V.2
    rw [RD] at V
    exact V
end
end Z
/-! ZPln: plain words about what the evaluator gives: the pot of draws, loops, comprehensions. -/
set_option linter.all false
set_option autoImplicit false
set_option maxHeartbeats 4000000
set_option maxRecDepth 100000
namespace Z
open PySem
/-! ### the pot stands as the store's first list -/
def PotOk (c : Cell) : Prop := ∃ a b : Int, c = ⟨false, [.int a, .int b]⟩ ∧ 0 ≤ a ∧ 0 ≤ b ∧ b < 4294967296
def Pot (st : Store) : Prop := ∃ c, st[0]? = some c ∧ PotOk c
structure Same (st st' : Store) : Prop where
  len : st'.length = st.length
  off : ∀ i, i ≠ 0 → st'[i]? = st[i]?
  pot : Pot st'
theorem Same.refl {st : Store} (h : Pot st) : Same st st := ⟨rfl, fun _ _ => rfl, h⟩
theorem Same.trans {a b c : Store} (h : Same a b) (k : Same b c) : Same a c := ⟨k.len.trans h.len, fun i hi => (k.off i hi).trans (h.off i hi), k.pot⟩
theorem Same.set {st : Store} {c : Cell} (h : Pot st) (hc : PotOk c) : Same st (st.set 0 c) := by
  obtain ⟨d, h1, _⟩ := h
  have hl := (List.getElem?_eq_some_iff.mp h1).1
  exact ⟨by simp, fun i hi => List.getElem?_set_ne (Ne.symm hi), c, by rw [List.getElem?_set_self hl], hc⟩
theorem take_all {st st' : Store} (h : st'.length = st.length) : st'.take st.length = st' := List.take_of_length_le (by omega)
/-! ### draws -/
def drawF (a b c d e : Int) : Fn := ⟨[true, false], 3,
  .cons (.ifs (.cmp .gt (.idx (.var 0) (.int 0)) (.int 0)) (.cons (.asgT [.ix (.var 0) (.int 0), .nm 2 false] (.bi .divmod (.cons (.idx (.var 0) (.int 0)) (.cons (.var 1) (.nil))))) (.cons (.ret (.var 2)) (.nil))) (.nil))
    (.cons (.asg (.ix (.var 0) (.int 1)) (.bin .mod (.bi .int (.cons (.bin .add (.bin .mul (.idx (.var 0) (.int 1)) (.int a)) (.int b)) (.nil))) (.int c)))
    (.cons (.ret (.bin .mod (.bi .int (.cons (.bin .fdiv (.bin .mod (.bi .int (.cons (.bin .mul (.idx (.var 0) (.int 1)) (.idx (.var 0) (.int 1))) (.nil))) (.int d)) (.int e)) (.nil))) (.var 1))) (.nil)))⟩
section
variable {C : Str → Option D} {wf n f : Nat} {Fs : List (Nat × Fn)} {st : Store}
theorem draw_ok {a b c d e m : Int} (h : Fs.lookup f = some (drawF a b c d e)) (ha : 0 ≤ a ∧ a < 2 ^ 64) (hc : 0 < c ∧ c < 4294967296) (hd : 0 < d) (he : 0 < e ∧ e < 1073741824) (hm : 0 < m ∧ m < 1073741824) (hp : Pot st) :
    ∃ r st', evCall C wf Fs (n + 1) f [.c 0, .d (.int m)] st = some (.d (.int r), st') ∧ 0 ≤ r ∧ r < m ∧ Same st st' := by
  have hp0 := hp
  obtain ⟨_, h0, x, y, rfl, hx, hy, hy2⟩ := hp
  have hl := (List.getElem?_eq_some_iff.mp h0).1
  rw [evCall, h]
  by_cases hx0 : 0 < x
  · refine ⟨x % m, st.set 0 ⟨false, [.int (x / m), .int y]⟩, ?_, Int.emod_nonneg _ (by omega), Int.emod_lt_of_pos _ hm.1, Same.set hp0 ⟨_, _, rfl, Int.ediv_nonneg hx (by omega), hy, hy2⟩⟩
    simp [drawF, enter, Z.fix, evSs, evS, ev, evs, rds, rd, truth, cmpF, idxF, itemAt, L2.atI, L2.ixN, h0, hx0, biF, hm, tgts, tgt, ixSet, leave, List.replicate]
    rw [take_all (by simp)]
  · have hx1 : x = 0 := by omega
    subst hx1
    have hy3 : 0 ≤ (y * a + b) % c := Int.emod_nonneg _ (by omega)
    have hy4 : (y * a + b) % c < c := Int.emod_lt_of_pos _ hc.1
    refine ⟨((y * a + b) % c * ((y * a + b) % c)) % d / e % m, st.set 0 ⟨false, [.int 0, .int ((y * a + b) % c)]⟩, ?_, Int.emod_nonneg _ (by omega), Int.emod_lt_of_pos _ hm.1, Same.set hp0 ⟨_, _, rfl, by omega, hy3, by omega⟩⟩
    have hs : ∀ z : Cell, (st.set 0 z)[0]? = some z := fun z => List.getElem?_set_self hl
    have l1 : lit64 a = true := by
      simp only [lit64, Bool.and_eq_true, decide_eq_true_eq]
      omega
    have l2 : lit64 ((y * a + b) % c) = true := by
      simp only [lit64, Bool.and_eq_true, decide_eq_true_eq]
      omega
    simp [drawF, enter, Z.fix, evSs, evS, ev, evs, rds, rd, truth, cmpF, idxF, itemAt, L2.atI, L2.ixN, h0, biF, binF, hm, hc, hd, he, l1, l2, tgts, tgt, ixSet, leave, List.replicate, hs]
    rw [take_all (by simp)]
end
/-! ### the pot of a script's cell -/
def potF (p q m1 a b c m2 : Int) : Fn := ⟨[false, false], 3,
  .cons (.asg (.nm 2 false) (.ife (.cmp .lt (.var 1) (.len (.var 0))) (.bi .abs (.cons (.idx (.var 0) (.var 1)) (.nil))) (.bin .add (.bin .mul (.int p) (.var 1)) (.int q))))
    (.cons (.ret (.lst (.cons (.bi .max (.cons (.int 0) (.cons (.bin .sub (.var 2) (.bin .pow (.int 10) (.int 18))) (.nil))))
      (.cons (.bin .add (.bin .mod (.bi .int (.cons (.bin .add (.bin .add (.bin .mul (.bin .mod (.bi .int (.cons (.var 2) (.nil))) (.int m1)) (.int a)) (.bin .mul (.int b) (.var 1))) (.int c)) (.nil))) (.int m2)) (.int 1)) (.nil))))) (.nil))⟩
/-- a law: all of its cells -/
def lawF (cap : Int) (right pot : Nat) : Fn := ⟨[false], 2,
  .cons (.ret (.bi .all (.cons (.lc [1] (.call right (.cons (.call pot (.cons (.var 0) (.cons (.var 1) (.nil)))) (.nil))) [1] true
    (.rng (.cons (.bi .max (.cons (.int 1) (.cons (.bi .min (.cons (.int cap) (.cons (.len (.var 0)) (.nil)))) (.nil)))) (.nil))) (.nil)) (.nil)))) (.nil)⟩
theorem szl : sizeLine = 16777216 := by decide
theorem lit_ok {i : Int} (h : -18446744073709551616 < i ∧ i < 18446744073709551616) : lit64 i = true := by
  simp only [lit64, Bool.and_eq_true, decide_eq_true_eq]
  omega
section
variable {C : Str → Option D} {wf n f : Nat} {Fs : List (Nat × Fn)} {st : Store}
theorem pot_ok {p q m1 a b c m2 : Int} (h : Fs.lookup f = some (potF p q m1 a b c m2)) (hp : 0 ≤ p ∧ p < 1000000) (ha : 0 ≤ a ∧ a < 1000000) (hb : 0 ≤ b ∧ b < 1000000) (h1 : 0 < m1) (h2 : 0 < m2 ∧ m2 < 4294967295) (ns : List Int) (k : Nat) :
    ∃ x y : Int, evCall C wf Fs (n + 1) f [.s ns, .d (.int k)] st = some (.f [.int x, .int y], st) ∧ 0 ≤ x ∧ 0 ≤ y ∧ y < 4294967296 := by
  have l1 := lit_ok (i := p) (by omega)
  have l2 := lit_ok (i := a) (by omega)
  have l3 := lit_ok (i := b) (by omega)
  -- the two values of cell
  have key : ∀ cell : Int, ∃ x y : Int, evSs (evCall C wf Fs n) C wf (.cons (.ret (.lst (.cons (.bi .max (.cons (.int 0) (.cons (.bin .sub (.var 2) (.bin .pow (.int 10) (.int 18))) (.nil))))
      (.cons (.bin .add (.bin .mod (.bi .int (.cons (.bin .add (.bin .add (.bin .mul (.bin .mod (.bi .int (.cons (.var 2) (.nil))) (.int m1)) (.int a)) (.bin .mul (.int b) (.var 1))) (.int c)) (.nil))) (.int m2)) (.int 1)) (.nil))))) (.nil))
      [some (.s ns), some (.d (.int k)), some (.d (.int cell))] st = some (.rt (.f [.int x, .int y]) st) ∧ 0 ≤ x ∧ 0 ≤ y ∧ y < 4294967296 := by
    intro cell
    have e1 := Int.emod_nonneg ((cell % m1 * a + b * k) + c) (show m2 ≠ 0 by omega)
    have e2 := Int.emod_lt_of_pos ((cell % m1 * a + b * k) + c) h2.1
    refine ⟨if cell - 10 ^ 18 > 0 then cell - 10 ^ 18 else 0, ((cell % m1 * a + b * k) + c) % m2 + 1, ?_, by split <;> omega, by omega, by omega⟩
    simp [evSs, evS, ev, evs, evD, rds, rd, Z.fix, biF, binF, h1, h2, l2, l3, szl]
  rw [evCall, h]
  by_cases hk : (k : Int) < ns.length
  · have hk' : k < ns.length := by omega
    obtain ⟨x, y, hx, r⟩ := key (if ns[k] < 0 then -ns[k] else ns[k])
    refine ⟨x, y, ?_, r⟩
    have hi : (if (k : Int) < ns.length then some k else none) = some k := if_pos hk
    simp only [potF, enter, Z.fix, Option.map_some, Option.bind_some, List.map_cons, List.map_nil, List.length_cons, List.length_nil, List.cons_append, List.nil_append, List.replicate]
    rw [evSs]
    simp [evS, ev, evs, rds, rd, truth, cmpF, idxF, itemAt, L2.atI, L2.ixN, biF, hk, hk', setW, hx, leave]
  · obtain ⟨x, y, hx, r⟩ := key (p * k + q)
    refine ⟨x, y, ?_, r⟩
    simp only [potF, enter, Z.fix, Option.map_some, Option.bind_some, List.map_cons, List.map_nil, List.length_cons, List.length_nil, List.cons_append, List.nil_append, List.replicate]
    rw [evSs]
    simp [evS, ev, evs, rds, rd, truth, cmpF, binF, hk, l1, setW, hx, leave]
end
/-! ### comprehensions, loops -/
theorem compL_map {body : D → Store → Option (Option D × Store)} {g : D → D} {st : Store} : ∀ {xs : List D}, (∀ x ∈ xs, body x st = some (some (g x), st)) → xs.length ≤ sizeLine → compL body xs st = some (xs.map g, st)
  | [], _, _ => rfl
  | x :: xs, h, hl => by
    have h2 := compL_map (g := g) (xs := xs) (fun y hy => h y (List.mem_cons_of_mem _ hy)) (by simp at hl; omega)
    rw [compL, h x List.mem_cons_self]
    simp only [Option.bind_some, h2, List.length_map]
    rw [if_pos (by simp at hl; omega)]
    rfl
theorem compL_fm {body : D → Store → Option (Option D × Store)} {g : D → Option D} {st : Store} : ∀ {xs : List D}, (∀ x ∈ xs, body x st = some (g x, st)) → xs.length ≤ sizeLine → compL body xs st = some (xs.filterMap g, st)
  | [], _, _ => rfl
  | x :: xs, h, hl => by
    have h2 := compL_fm (g := g) (xs := xs) (fun y hy => h y (List.mem_cons_of_mem _ hy)) (by simp at hl; omega)
    have h3 : (xs.filterMap g).length ≤ xs.length := List.length_filterMap_le ..
    rw [compL, h x List.mem_cons_self]
    simp only [Option.bind_some, h2]
    rw [List.filterMap_cons]
    cases g x with
    | none => rfl
    | some y => simp only; rw [if_pos (by simp at hl; omega)]
/-- .. whose parts draw -/
theorem compL_ex {body : D → Store → Option (Option D × Store)} {P : D → Prop} {I : Store → Prop} : ∀ {xs : List D} {st : Store}, I st → (∀ x ∈ xs, ∀ st, I st → ∃ y st', body x st = some (some y, st') ∧ P y ∧ I st') → xs.length ≤ sizeLine →
    ∃ ys st', compL body xs st = some (ys, st') ∧ ys.length = xs.length ∧ (∀ y ∈ ys, P y) ∧ I st'
  | [], st, hi, _, _ => ⟨[], st, rfl, rfl, (fun _ h => nomatch h), hi⟩
  | x :: xs, st, hi, h, hl => by
    obtain ⟨y, s1, e1, py, h1⟩ := h x List.mem_cons_self st hi
    obtain ⟨ys, s2, e2, ly, pys, h2⟩ := compL_ex (xs := xs) h1 (fun z hz => h z (List.mem_cons_of_mem _ hz)) (by simp at hl; omega)
    refine ⟨y :: ys, s2, ?_, by simp [ly], fun z hz => ?_, h2⟩
    · rw [compL, e1]
      simp only [Option.bind_some, e2]
      rw [if_pos (by rw [ly]; simp at hl; omega)]
    · rcases List.mem_cons.mp hz with e | e
      · rw [e]; exact py
      · exact pys z e
/-- a for that may return at the first item that g tells; R stays true of the names -/
theorem loopF_first {stp : D → Slots → Store → Option Out} {g : D → Option W} {R : Slots → Prop} {st : Store} : ∀ {xs : List D} {ρ : Slots}, R ρ → (∀ x ∈ xs, ∀ ρ, R ρ → (∃ w, g x = some w ∧ stp x ρ st = some (.rt w st)) ∨ (g x = none ∧ ∃ ρ', R ρ' ∧ stp x ρ st = some (.nx ρ' st))) →
    (∃ w, xs.findSome? g = some w ∧ loopF stp xs ρ st = some (.rt w st)) ∨ (xs.findSome? g = none ∧ ∃ ρ', R ρ' ∧ loopF stp xs ρ st = some (.nx ρ' st))
  | [], ρ, hr, _ => .inr ⟨rfl, ρ, hr, rfl⟩
  | x :: xs, ρ, hr, h => by
    rcases h x List.mem_cons_self ρ hr with ⟨w, h1, h2⟩ | ⟨h1, ρ', h2, h3⟩
    · exact .inl ⟨w, by rw [List.findSome?_cons, h1], by rw [loopF, h2]; rfl⟩
    · rcases loopF_first (xs := xs) h2 (fun y hy => h y (List.mem_cons_of_mem _ hy)) with ⟨w, h4, h5⟩ | ⟨h4, ρ2, h5, h6⟩
      · exact .inl ⟨w, by rw [List.findSome?_cons, h1]; exact h4, by rw [loopF, h3]; exact h5⟩
      · exact .inr ⟨by rw [List.findSome?_cons, h1]; exact h4, ρ2, h5, by rw [loopF, h3]; exact h6⟩
/-- a for with its invariant -/
theorem loopF_inv {stp : D → Slots → Store → Option Out} {I : Nat → Slots → Store → Prop} : ∀ {xs : List D} {ρ : Slots} {st : Store} {i : Nat}, I i ρ st → (∀ j x ρ st, xs[j]? = some x → I (i + j) ρ st → ∃ ρ' st', stp x ρ st = some (.nx ρ' st') ∧ I (i + j + 1) ρ' st') →
    ∃ ρ' st', loopF stp xs ρ st = some (.nx ρ' st') ∧ I (i + xs.length) ρ' st'
  | [], ρ, st, i, h, _ => ⟨ρ, st, rfl, h⟩
  | x :: xs, ρ, st, i, h, k => by
    obtain ⟨ρ1, s1, e1, h1⟩ := k 0 x ρ st rfl h
    have k2 : ∀ j y ρ st, xs[j]? = some y → I (i + 1 + j) ρ st → ∃ ρ' st', stp y ρ st = some (.nx ρ' st') ∧ I (i + 1 + j + 1) ρ' st' := by
      intro j y ρ st hj hI
      have z : i + 1 + j = i + (j + 1) := by omega
      rw [z] at hI ⊢
      exact k (j + 1) y ρ st (by simpa using hj) hI
    obtain ⟨ρ2, s2, e2, h2⟩ := loopF_inv (xs := xs) (i := i + 1) (I := I) h1 k2
    refine ⟨ρ2, s2, by rw [loopF, e1]; exact e2, ?_⟩
    have : i + (x :: xs).length = i + 1 + xs.length := by simp; omega
    rw [this]; exact h2
section
variable {C : Str → Option D} {wf n f : Nat} {Fs : List (Nat × Fn)} {st : Store}
theorem boolsD_map : ∀ bs : List Bool, boolsD (bs.map PyData.bool) = some bs
  | [] => rfl
  | b :: bs => by simp [boolsD, boolsD_map bs]
theorem boolsD_true : ∀ {ds : List D}, (∀ d ∈ ds, d = .bool true) → boolsD ds = some (ds.map fun _ => true)
  | [], _ => rfl
  | d :: ds, h => by
    rw [h d List.mem_cons_self, boolsD, boolsD_true fun x hx => h x (List.mem_cons_of_mem _ hx)]
    rfl
theorem law_ok {cap : Int} {right pot : Nat} {p q m1 a b c m2 : Int} (h : Fs.lookup f = some (lawF cap right pot)) (hcap : 1 ≤ cap ∧ cap ≤ 100) (h2 : Fs.lookup pot = some (potF p q m1 a b c m2)) (hp : 0 ≤ p ∧ p < 1000000) (ha : 0 ≤ a ∧ a < 1000000) (hb : 0 ≤ b ∧ b < 1000000) (h3 : 0 < m1) (h4 : 0 < m2 ∧ m2 < 4294967295)
    (hr : ∀ x y : Int, 0 ≤ x → 0 ≤ y → y < 4294967296 → evCall C wf Fs (n + 1) right [.f [.int x, .int y]] [] = some (.d (.bool true), [])) (ns : List Int) : ∃ st', evCall C wf Fs (n + 2) f [.s ns] [] = some (.d (.bool true), st') := by
  refine ⟨[], ?_⟩
  generalize hK : (if (1 : Int) < (if (ns.length : Int) < cap then (ns.length : Int) else cap) then (if (ns.length : Int) < cap then (ns.length : Int) else cap) else 1) = K
  have hK1 : 1 ≤ K ∧ K ≤ 100 := by
    subst hK
    split <;> (split <;> omega)
  obtain ⟨bd, hbd⟩ : ∃ bd : D → Store → Option (Option D × Store), bd = (fun (x : D) (st : Store) => (bindD (wipeW [some (.s ns), none] [1]) [1] true x).bind fun ρ' => (evC (evCall C wf Fs (n + 1)) C .nil ρ' st).bind fun q =>
        if q.1 then (ev (evCall C wf Fs (n + 1)) C (.call right (.cons (.call pot (.cons (.var 0) (.cons (.var 1) (.nil)))) (.nil))) ρ' q.2).bind fun r => (fix r.2 r.1).map fun y => (some y.1, y.2) else some (none, q.2)) := ⟨_, rfl⟩
  have body : ∀ x ∈ rangeD 0 K.toNat, bd x [] = some (some ((fun _ => PyData.bool true) x), []) := by
    intro x hx
    unfold rangeD at hx
    rw [List.mem_map] at hx
    obtain ⟨i, _, rfl⟩ := hx
    obtain ⟨u, v, e1, r1, r2, r3⟩ := pot_ok (C := C) (wf := wf) (n := n) (st := []) h2 hp ha hb h3 h4 ns i
    have e2 := hr u v r1 r2 r3
    simp only [Int.zero_add, hbd]
    simp [bindD, wipeW, evC, ev, evs, e1, e2, Z.fix]
  have cl := compL_map (body := bd) (xs := rangeD 0 K.toNat) body (by rw [range_len, szl]; omega)
  rw [hbd] at cl
  have hb2 := boolsD_true (ds := (rangeD 0 K.toNat).map fun _ => PyData.bool true) (by simp)
  have rg : rgOk 0 K = true := by
    simp only [rgOk, Bool.and_eq_true, decide_eq_true_eq]
    omega
  rw [evCall, h]
  simp only [lawF, enter, Option.map_some, Option.bind_some, List.map_cons, List.map_nil, List.length_cons, List.length_nil, List.cons_append, List.nil_append, List.replicate, Nat.reduceAdd, Nat.reduceSub]
  rw [evSs, evS, ev, evs, ev]
  have ei : evI (evCall C wf Fs (n + 1)) C (.rng (.cons (.bi .max (.cons (.int 1) (.cons (.bi .min (.cons (.int cap) (.cons (.len (.var 0)) (.nil)))) (.nil)))) (.nil))) [some (.s ns), none] [] = some (rangeD 0 K.toNat, []) := by
    rw [evI]
    simp [evD, ev, evs, rds, rd, biF, Z.fix]
    rw [hK]
    simp [rg]
  rw [ei]
  simp only [Option.bind_some, cl, Option.map_some, evs, rds, rd, biF, hb2]
  simp [evSs, leave]
end
end Z
/-! ZSim: the evaluator, form by form, for simp; comprehensions and loops stay whole. -/
set_option linter.all false
set_option autoImplicit false
set_option maxHeartbeats 4000000
set_option maxRecDepth 100000
namespace Z
open PySem
section
variable {st : Store} {Γ : Calls} {C : Str → Option D} {wf : Nat} {ρ : Slots}
@[simp] theorem fix_d {x : D} : fix st (.d x) = some (x, st) := rfl
@[simp] theorem fix_f {xs : List D} : fix st (.f xs) = some (.list xs, st) := rfl
@[simp] theorem fix_c {n : Nat} : fix st (.c n) = (st[n]?).map fun c => (.list c.xs, st.set n ⟨true, c.xs⟩) := rfl
@[simp] theorem rd_d {x : D} : rd st (.d x) = some x := rfl
@[simp] theorem rd_f {xs : List D} : rd st (.f xs) = some (.list xs) := rfl
@[simp] theorem rd_c {n : Nat} : rd st (.c n) = (st[n]?).map fun c => .list c.xs := rfl
@[simp] theorem rds_nil : rds st [] = some [] := rfl
@[simp] theorem rds_cons {w : W} {r : List W} : rds st (w :: r) = (rd st w).bind fun x => (rds st r).map (x :: ·) := rfl
@[simp] theorem truth_none : truth .none = some false := rfl
@[simp] theorem truth_bool {b : Bool} : truth (.bool b) = some b := rfl
@[simp] theorem truth_int {i : Int} : truth (.int i) = some (i != 0) := rfl
@[simp] theorem truth_list {xs : List D} : truth (.list xs) = some (!xs.isEmpty) := rfl
@[simp] theorem truth_tuple {xs : List D} : truth (.tuple xs) = some (!xs.isEmpty) := rfl
@[simp] theorem biF_lenL {xs : List D} : biF .len [.list xs] = some (.d (.int xs.length)) := rfl
@[simp] theorem biF_lenT {xs : List D} : biF .len [.tuple xs] = some (.d (.int xs.length)) := rfl
@[simp] theorem biF_all {xs : List D} : biF .all [.list xs] = (boolsD xs).map fun bs => .d (.bool (bs.all id)) := rfl
@[simp] theorem biF_any {xs : List D} : biF .any [.list xs] = (boolsD xs).map fun bs => .d (.bool (bs.any id)) := rfl
@[simp] theorem biF_tupL {xs : List D} : biF .tuple [.list xs] = some (.d (.tuple xs)) := rfl
@[simp] theorem biF_tupT {xs : List D} : biF .tuple [.tuple xs] = some (.d (.tuple xs)) := rfl
@[simp] theorem biF_lstL {xs : List D} : biF .list [.list xs] = some (.f xs) := rfl
@[simp] theorem biF_lstT {xs : List D} : biF .list [.tuple xs] = some (.f xs) := rfl
@[simp] theorem biF_max2 {i j : Int} : biF .max [.int i, .int j] = some (.d (.int (if j > i then j else i))) := rfl
@[simp] theorem biF_min2 {i j : Int} : biF .min [.int i, .int j] = some (.d (.int (if j < i then j else i))) := rfl
@[simp] theorem biF_abs {i : Int} : biF .abs [.int i] = some (.d (.int (if i < 0 then -i else i))) := rfl
@[simp] theorem biF_int {i : Int} : biF .int [.int i] = some (.d (.int i)) := rfl
@[simp] theorem biF_repr {x : D} : biF .repr [x] = if reprOk x then some (.d (.str x.shown)) else none := rfl
@[simp] theorem binF_addI {i j : Int} : binF .add (.int i) (.int j) = some (.d (.int (i + j))) := rfl
@[simp] theorem binF_addL {xs ys : List D} : binF .add (.list xs) (.list ys) = if xs.length + ys.length ≤ sizeLine then some (.f (xs ++ ys)) else none := rfl
@[simp] theorem binF_addT {xs ys : List D} : binF .add (.tuple xs) (.tuple ys) = if xs ≠ [] ∧ xs.length + ys.length ≤ sizeLine then some (.d (.tuple (xs ++ ys))) else none := rfl
@[simp] theorem binF_subI {i j : Int} : binF .sub (.int i) (.int j) = some (.d (.int (i - j))) := rfl
@[simp] theorem binF_mulI {i j : Int} : binF .mul (.int i) (.int j) = if lit64 i || lit64 j then some (.d (.int (i * j))) else if i.natAbs < wideB ∧ j.natAbs < wideB then some (.d (.int (i * j))) else none := rfl
@[simp] theorem binF_mulT {xs : List D} {j : Int} : binF .mul (.tuple xs) (.int j) = if xs ≠ [] ∧ 2 ≤ j ∧ j ≤ 1000 ∧ xs.length ≤ 1000 then some (.d (.tuple (List.replicate j.toNat xs).flatten)) else if j = 1 then some (.d (.tuple xs)) else none := rfl
@[simp] theorem binF_mulL {xs : List D} {j : Int} : binF .mul (.list xs) (.int j) = if -(2 ^ 63) ≤ j ∧ j < 2 ^ 63 ∧ xs.length * j.toNat ≤ sizeLine then some (.f (List.replicate j.toNat xs).flatten) else none := rfl
@[simp] theorem binF_div {i j : Int} : binF .fdiv (.int i) (.int j) = if 0 < j ∧ j < 1073741824 then some (.d (.int (i / j))) else if 0 < j ∧ j.natAbs < wideB then some (.d (.int (i / j))) else none := rfl
@[simp] theorem binF_mod {i j : Int} : binF .mod (.int i) (.int j) = if 0 < j then some (.d (.int (i % j))) else none := rfl
@[simp] theorem binF_pow {i j : Int} : binF .pow (.int i) (.int j) = if 0 ≤ j ∧ j ≤ 1000000 ∧ i.natAbs < 2 ^ 64 then some (.d (.int (i ^ j.toNat))) else none := rfl
@[simp] theorem cmpF_eqI {a b : Int} : cmpF .eq (.int a) (.int b) = some (decide (a = b)) := by
  by_cases h : a = b <;> simp [cmpF, SeqAt.shaped, PyData.eqv, PyData.canLay0, PyData.depth, h]
@[simp] theorem cmpF_neI {a b : Int} : cmpF .ne (.int a) (.int b) = some (!decide (a = b)) := by
  by_cases h : a = b <;> simp [cmpF, SeqAt.shaped, PyData.eqv, PyData.canLay0, PyData.depth, h]
@[simp] theorem cmpF_eqS {a b : Str} : cmpF .eq (.str a) (.str b) = some (decide (a = b)) := rfl
@[simp] theorem cmpF_neS {a b : Str} : cmpF .ne (.str a) (.str b) = some (!decide (a = b)) := rfl
@[simp] theorem cmpF_lt {i j : Int} : cmpF .lt (.int i) (.int j) = some (decide (i < j)) := rfl
@[simp] theorem cmpF_le {i j : Int} : cmpF .le (.int i) (.int j) = some (decide (i ≤ j)) := rfl
@[simp] theorem cmpF_gt {i j : Int} : cmpF .gt (.int i) (.int j) = some (decide (j < i)) := rfl
@[simp] theorem cmpF_ge {i j : Int} : cmpF .ge (.int i) (.int j) = some (decide (j ≤ i)) := rfl
@[simp] theorem cmpF_is {x : D} : cmpF .isN x .none = some (isNone x) := rfl
@[simp] theorem cmpF_isn {x : D} : cmpF .isnotN x .none = some (!isNone x) := rfl
@[simp] theorem isNone_none : isNone .none = true := rfl
@[simp] theorem isNone_int {i : Int} : isNone (.int i) = false := rfl
@[simp] theorem isNone_tup {xs : List D} : isNone (.tuple xs) = false := rfl
@[simp] theorem isNone_lst {xs : List D} : isNone (.list xs) = false := rfl
@[simp] theorem isNone_str {x : Str} : isNone (.str x) = false := rfl
@[simp] theorem isNone_dict {x : List (D × D)} : isNone (.dict x) = false := rfl
@[simp] theorem isNone_bool {x : Bool} : isNone (.bool x) = false := rfl
@[simp] theorem idxF_L {xs : List D} {i : Int} : idxF (.list xs) (.int i) = itemAt xs i := rfl
@[simp] theorem idxF_T {xs : List D} {i : Int} : idxF (.tuple xs) (.int i) = itemAt xs i := rfl
@[simp] theorem itemsOf_L {xs : List D} : itemsOf (.list xs) = some xs := rfl
@[simp] theorem itemsOf_T {xs : List D} : itemsOf (.tuple xs) = some xs := rfl
@[simp] theorem enumK_L {xs : List D} : enumK (.list xs) = some (enumD 0 xs) := rfl
@[simp] theorem enumK_T {xs : List D} : enumK (.tuple xs) = some (enumD 0 xs) := rfl
@[simp] theorem zipK_L {xs ys : List D} : zipK (.list xs) (.list ys) = some (zipD xs ys) := rfl
@[simp] theorem zipK_LT {xs ys : List D} : zipK (.list xs) (.tuple ys) = some (zipD xs ys) := rfl
@[simp] theorem zipK_TL {xs ys : List D} : zipK (.tuple xs) (.list ys) = some (zipD xs ys) := rfl
@[simp] theorem zipK_T {xs ys : List D} : zipK (.tuple xs) (.tuple ys) = some (zipD xs ys) := rfl
@[simp] theorem sliceF_L {xs : List D} {l h : Option Int} : sliceF (.list xs) l h = some (.f (cutD xs l h)) := rfl
@[simp] theorem sliceF_T {xs : List D} {l h : Option Int} : sliceF (.tuple xs) l h = some (.d (.tuple (cutD xs l h))) := rfl
@[simp] theorem part_nil : part [] = some none := rfl
@[simp] theorem part_one {i : Int} : part [.int i] = some (some i) := rfl
theorem item_nat {xs : List D} {i : Nat} (h : i < xs.length) : itemAt xs (i : Int) = some xs[i] := by
  unfold itemAt
  rw [L2.atI_nat (List.getElem?_eq_getElem h)]
@[simp] theorem item_zero {x : D} {xs : List D} : itemAt (x :: xs) 0 = some x := item_nat (xs := x :: xs) (i := 0) (by simp)
/-! ### expressions -/
@[simp] theorem ev_var {i : Nat} : ev Γ C (.var i) ρ st = match ρ[i]? with
    | some (some w) => some (w, st)
    | _ => none := by rw [ev] <;> rfl
@[simp] theorem ev_non : ev Γ C .non ρ st = some (.d .none, st) := by rw [ev] <;> rfl
@[simp] theorem ev_bl {b : Bool} : ev Γ C (.bl b) ρ st = some (.d (.bool b), st) := by rw [ev] <;> rfl
@[simp] theorem ev_int {b : Int} : ev Γ C (.int b) ρ st = some (.d (.int b), st) := by rw [ev] <;> rfl
@[simp] theorem ev_str {b : Str} : ev Γ C (.str b) ρ st = some (.d (.str b), st) := by rw [ev] <;> rfl
@[simp] theorem ev_glo {x : Str} : ev Γ C (.glo x) ρ st = (C x).map fun d => (.d d, st) := by rw [ev] <;> rfl
@[simp] theorem ev_neg {a : E} : ev Γ C (.neg a) ρ st = (ev Γ C a ρ st).bind fun p => match p.1 with
    | .d (.int i) => some (.d (.int (-i)), p.2)
    | _ => none := by rw [ev] <;> rfl
@[simp] theorem ev_bin {o : BOp} {a b : E} : ev Γ C (.bin o a b) ρ st = (ev Γ C a ρ st).bind fun p => (ev Γ C b ρ p.2).bind fun q =>
      (rd q.2 p.1).bind fun x => (rd q.2 q.1).bind fun y => (binF o x y).map fun w => (w, q.2) := by rw [ev] <;> rfl
@[simp] theorem ev_cmp {o : COp} {a b : E} : ev Γ C (.cmp o a b) ρ st = (ev Γ C a ρ st).bind fun p => (ev Γ C b ρ p.2).bind fun q =>
      (rd q.2 p.1).bind fun x => (rd q.2 q.1).bind fun y => (cmpF o x y).map fun k => (.d (.bool k), q.2) := by rw [ev] <;> rfl
@[simp] theorem ev_chain {o o' : COp} {a b c : E} : ev Γ C (.chain o o' a b c) ρ st = (ev Γ C a ρ st).bind fun p => (ev Γ C b ρ p.2).bind fun q =>
      (rd q.2 p.1).bind fun x => (rd q.2 q.1).bind fun y => (cmpF o x y).bind fun k =>
        if k then (ev Γ C c ρ q.2).bind fun r => (rd r.2 q.1).bind fun y' => (rd r.2 r.1).bind fun z => (cmpF o' y' z).map fun k' => (.d (.bool k'), r.2)
        else some (.d (.bool false), q.2) := by rw [ev] <;> rfl
@[simp] theorem ev_and {es : Es} : ev Γ C (.and es) ρ st = evA Γ C es ρ st := by rw [ev] <;> rfl
@[simp] theorem ev_or {es : Es} : ev Γ C (.or es) ρ st = evO Γ C es ρ st := by rw [ev] <;> rfl
@[simp] theorem ev_not {a : E} : ev Γ C (.not a) ρ st = (ev Γ C a ρ st).bind fun p => ((rd p.2 p.1).bind truth).map fun k => (.d (.bool (!k)), p.2) := by rw [ev] <;> rfl
@[simp] theorem ev_ife {c a b : E} : ev Γ C (.ife c a b) ρ st = (ev Γ C c ρ st).bind fun p => ((rd p.2 p.1).bind truth).bind fun k => if k then ev Γ C a ρ p.2 else ev Γ C b ρ p.2 := by rw [ev] <;> rfl
@[simp] theorem ev_tup {es : Es} : ev Γ C (.tup es) ρ st = (evD Γ C es ρ st).bind fun p => if p.1.length ≤ sizeLine then some (.d (.tuple p.1), p.2) else none := by rw [ev] <;> rfl
@[simp] theorem ev_lst {es : Es} : ev Γ C (.lst es) ρ st = (evD Γ C es ρ st).bind fun p => if p.1.length ≤ sizeLine then some (.f p.1, p.2) else none := by rw [ev] <;> rfl
@[simp] theorem ev_dct0 : ev Γ C .dct0 ρ st = some (.d (.dict []), st) := by rw [ev] <;> rfl
@[simp] theorem ev_call {f : Nat} {es : Es} : ev Γ C (.call f es) ρ st = (evs Γ C es ρ st).bind fun p => Γ f p.1 p.2 := by rw [ev] <;> rfl
@[simp] theorem ev_callk {f np : Nat} {ks : List Str} {perm : List Nat} {es : Es} : ev Γ C (.callk f np ks perm es) ρ st = (evD Γ C es ρ st).bind fun p => Γ f (perm.filterMap fun i => (p.1[i]?).map W.d) p.2 := by rw [ev] <;> rfl
@[simp] theorem ev_bi {b : Bi} {es : Es} : ev Γ C (.bi b es) ρ st = (evs Γ C es ρ st).bind fun p => (rds p.2 p.1).bind fun xs => (biF b xs).map fun w => (w, p.2) := by rw [ev] <;> rfl
@[simp] theorem ev_isi {ts : List Ty} {tp : Bool} {a : E} : ev Γ C (.isi ts tp a) ρ st = (ev Γ C a ρ st).bind fun p => (rd p.2 p.1).map fun x => (.d (.bool (ts.any (tyOf x))), p.2) := by rw [ev] <;> rfl
@[simp] theorem ev_idx {a b : E} : ev Γ C (.idx a b) ρ st = (ev Γ C a ρ st).bind fun p => (ev Γ C b ρ p.2).bind fun q => (rd q.2 q.1).bind fun y => match p.1 with
      | .s ns => (idxF (.list (ns.map PyData.int)) y).map fun d => (.d d, q.2)
      | w => (rd q.2 w).bind fun x => (idxF x y).map fun d => (.d d, q.2) := by rw [ev] <;> rfl
@[simp] theorem ev_len {a : E} : ev Γ C (.len a) ρ st = (ev Γ C a ρ st).bind fun p => match p.1 with
      | .s ns => some (.d (.int ns.length), p.2)
      | w => (rd p.2 w).bind fun x => (biF .len [x]).map fun w => (w, p.2) := by rw [ev] <;> rfl
@[simp] theorem ev_sl {a : E} {lo hi : Es} : ev Γ C (.sl a lo hi) ρ st = (ev Γ C a ρ st).bind fun p => (evD Γ C lo ρ p.2).bind fun q => (evD Γ C hi ρ q.2).bind fun r =>
      (part q.1).bind fun l => (part r.1).bind fun h => (rd r.2 p.1).bind fun x => (sliceF x l h).map fun w => (w, r.2) := by rw [ev] <;> rfl
@[simp] theorem ev_me {m : Me} {i : Nat} {es : Es} : ev Γ C (.me m i es) ρ st = match ρ[i]? with
    | some (some (.c n)) => (evs Γ C es ρ st).bind fun q => meF q.2 n m q.1
    | _ => none := by rw [ev] <;> rfl
@[simp] theorem ev_lrg1 {a : E} : ev Γ C (.lrg1 a) ρ st = (ev Γ C a ρ st).bind fun p => (rd p.2 p.1).bind fun x => match x with
    | .int n => if rgOk 0 n then some (.f (rangeD 0 n.toNat), p.2) else none
    | _ => none := by rw [ev] <;> rfl
@[simp] theorem gcdF_i {i j : Int} : gcdF (.int i) (.int j) = some (.int ((Nat.gcd i.natAbs j.natAbs : Nat) : Int)) := rfl
@[simp] theorem ev_gcd {a b : E} : ev Γ C (.gcd a b) ρ st = (ev Γ C a ρ st).bind fun p => (ev Γ C b ρ p.2).bind fun q => (rd q.2 p.1).bind fun x => (rd q.2 q.1).bind fun y => (gcdF x y).map fun d => (.d d, q.2) := by rw [ev] <;> rfl
@[simp] theorem rdx_d {x : D} : rdx st (.d x) = some x := rfl
@[simp] theorem rdx_f {xs : List D} : rdx st (.f xs) = some (.list xs) := rfl
@[simp] theorem rdx_c {n : Nat} : rdx st (.c n) = (st[n]?).map fun c => .list c.xs := rfl
@[simp] theorem rdx_l {ns : List Nat} : rdx st (.l ns) = (cellsD st ns).map .list := rfl
@[simp] theorem rdxs_nil : rdxs st [] = some [] := rfl
@[simp] theorem rdxs_cons {w : W} {r : List W} : rdxs st (w :: r) = (rdx st w).bind fun x => (rdxs st r).map (x :: ·) := rfl
@[simp] theorem cellsD_nil : cellsD st [] = some [] := rfl
@[simp] theorem cellsD_cons {n : Nat} {r : List Nat} : cellsD st (n :: r) = (st[n]?).bind fun c => (cellsD st r).map fun q => .list c.xs :: q := rfl
@[simp] theorem cells_nil : cells st [] = some ([], st) := rfl
@[simp] theorem cells_c {n : Nat} {r : List W} : cells st (.c n :: r) = (cells st r).map fun q => (n :: q.1, q.2) := rfl
@[simp] theorem cells_f {xs : List D} {r : List W} : cells st (.f xs :: r) = (cells (st ++ [⟨false, xs⟩]) r).map fun q => (st.length :: q.1, q.2) := rfl
@[simp] theorem ev_rpl {es : Es} : ev Γ C (.rpl es) ρ st = (evs Γ C es ρ st).bind fun q => (rdxs q.2 q.1).bind fun xs => if reprOk (.list xs) = true ∧ xs.length ≤ sizeLine then some (.d (.str (PyData.shown (.list xs))), q.2) else none := by rw [ev] <;> rfl
@[simp] theorem ev_rpx {a : E} : ev Γ C (.rpx a) ρ st = (ev Γ C a ρ st).bind fun p => (rdx p.2 p.1).bind fun x => if reprOk x = true ∧ isD0 x = false then some (.d (.str (PyData.shown x)), p.2) else none := by rw [ev] <;> rfl
@[simp] theorem ev_lcs {es : Es} : ev Γ C (.lcs es) ρ st = (evs Γ C es ρ st).bind fun q => (cells q.2 q.1).bind fun r => if r.1.length ≤ sizeLine then some (.l r.1, r.2) else none := by rw [ev] <;> rfl
@[simp] theorem ev_idl {a b : E} : ev Γ C (.idl a b) ρ st = (ev Γ C a ρ st).bind fun p => (ev Γ C b ρ p.2).bind fun q => (rd q.2 q.1).bind fun y => match p.1, y with
      | .l ns, .int i => (L2.atI ns i).map fun n => (.c n, q.2)
      | _, _ => none := by rw [ev] <;> rfl
@[simp] theorem ev_lcat {a b : E} : ev Γ C (.lcat a b) ρ st = (ev Γ C a ρ st).bind fun p => (ev Γ C b ρ p.2).bind fun q => match p.1, q.1 with
      | .l ns, .l ms => if ns.length + ms.length ≤ sizeLine then some (.l (ns ++ ms), q.2) else none
      | _, _ => none := by rw [ev] <;> rfl
@[simp] theorem ev_mex {m : Me} {a : E} {es : Es} : ev Γ C (.mex m a es) ρ st = (ev Γ C a ρ st).bind fun p => match p.1 with
      | .c n => (evs Γ C es ρ p.2).bind fun q => meF q.2 n m q.1
      | _ => none := by rw [ev] <;> rfl
@[simp] theorem ev_lens {a : E} : ev Γ C (.lens a) ρ st = (ev Γ C a ρ st).bind fun p => (rd p.2 p.1).bind fun x => (lensF x).map fun d => (.d d, p.2) := by rw [ev] <;> rfl
@[simp] theorem ev_tzs {a : E} : ev Γ C (.tzs a) ρ st = (ev Γ C a ρ st).bind fun p => (rd p.2 p.1).bind fun x => (transF x).map fun d => (.d d, p.2) := by rw [ev] <;> rfl
@[simp] theorem evs_nil : evs Γ C .nil ρ st = some ([], st) := by rw [evs]
@[simp] theorem evs_cons {e : E} {r : Es} : evs Γ C (.cons e r) ρ st = (ev Γ C e ρ st).bind fun p => (evs Γ C r ρ p.2).map fun q => (p.1 :: q.1, q.2) := by rw [evs]
@[simp] theorem evD_nil : evD Γ C .nil ρ st = some ([], st) := by rw [evD]
@[simp] theorem evD_cons {e : E} {r : Es} : evD Γ C (.cons e r) ρ st = (ev Γ C e ρ st).bind fun p => (fix p.2 p.1).bind fun y => (evD Γ C r ρ y.2).map fun q => (y.1 :: q.1, q.2) := by rw [evD]
@[simp] theorem evA_one {e : E} : evA Γ C (.cons e .nil) ρ st = ev Γ C e ρ st := by
  rw [evA]
  cases ev Γ C e ρ st <;> rfl
@[simp] theorem evA_cons {e e2 : E} {r : Es} : evA Γ C (.cons e (.cons e2 r)) ρ st = (ev Γ C e ρ st).bind fun p => ((rd p.2 p.1).bind truth).bind fun k => if k then evA Γ C (.cons e2 r) ρ p.2 else some p := by rw [evA]
@[simp] theorem evO_one {e : E} : evO Γ C (.cons e .nil) ρ st = ev Γ C e ρ st := by
  rw [evO]
  cases ev Γ C e ρ st <;> rfl
@[simp] theorem evO_cons {e e2 : E} {r : Es} : evO Γ C (.cons e (.cons e2 r)) ρ st = (ev Γ C e ρ st).bind fun p => ((rd p.2 p.1).bind truth).bind fun k => if k then some p else evO Γ C (.cons e2 r) ρ p.2 := by rw [evO]
@[simp] theorem evC_nil : evC Γ C .nil ρ st = some (true, st) := by rw [evC]
@[simp] theorem evC_one {e : E} {r : Es} : evC Γ C (.cons e r) ρ st = (ev Γ C e ρ st).bind fun p => ((rd p.2 p.1).bind truth).bind fun k => if k then evC Γ C r ρ p.2 else some (false, p.2) := by rw [evC]
@[simp] theorem evI_val {e : E} : evI Γ C (.val e) ρ st = (ev Γ C e ρ st).bind fun p => (fix p.2 p.1).bind fun y => (itemsOf y.1).map fun xs => (xs, y.2) := by rw [evI] <;> rfl
def rngF : List D → Option (List D)
  | [.int n] => if rgOk 0 n then some (rangeD 0 n.toNat) else none
  | [.int a, .int b] => if rgOk a b then some (rangeD a (b - a).toNat) else none
  | _ => none
theorem rngF_one {n : Int} (h : rgOk 0 n = true) : rngF [.int n] = some (rangeD 0 n.toNat) := by
  show (if rgOk 0 n = true then some (rangeD 0 n.toNat) else none) = _
  rw [if_pos h]
theorem rngF_two {a b : Int} (h : rgOk a b = true) : rngF [.int a, .int b] = some (rangeD a (b - a).toNat) := by
  show (if rgOk a b = true then some (rangeD a (b - a).toNat) else none) = _
  rw [if_pos h]
@[simp] theorem evI_rng {es : Es} : evI Γ C (.rng es) ρ st = (evD Γ C es ρ st).bind fun p => (rngF p.1).map fun xs => (xs, p.2) := by
  rw [evI]
  congr 1
  funext p
  obtain ⟨l, s⟩ := p
  have one : ∀ n : Int, (if rgOk 0 n = true then some (rangeD 0 n.toNat, s) else none) = (if rgOk 0 n = true then some (rangeD 0 n.toNat) else none).map fun xs => (xs, s) := fun n => by split <;> rfl
  have two : ∀ a b : Int, (if rgOk a b = true then some (rangeD a (b - a).toNat, s) else none) = (if rgOk a b = true then some (rangeD a (b - a).toNat) else none).map fun xs => (xs, s) := fun a b => by split <;> rfl
  rcases l with _ | ⟨x, _ | ⟨y, _ | ⟨z, t⟩⟩⟩
  · rfl
  · cases x <;> first | exact one _ | rfl
  · cases x <;> first | rfl | (cases y <;> first | exact two _ _ | rfl)
  · cases x <;> first | rfl | (cases y <;> rfl)
@[simp] theorem evI_zip {a b : E} : evI Γ C (.zip a b) ρ st = (ev Γ C a ρ st).bind fun p => (fix p.2 p.1).bind fun y => (ev Γ C b ρ y.2).bind fun q => (fix q.2 q.1).bind fun z =>
      (zipK y.1 z.1).map fun xs => (xs, z.2) := by rw [evI] <;> rfl
@[simp] theorem evI_enum {e : E} : evI Γ C (.enum e) ρ st = (ev Γ C e ρ st).bind fun p => (fix p.2 p.1).bind fun y => (enumK y.1).map fun xs => (xs, y.2) := by rw [evI] <;> rfl
/-! ### statements -/
@[simp] theorem evS_exp {e : E} : evS Γ C wf (.exp e) ρ st = (ev Γ C e ρ st).map fun p => .nx ρ p.2 := by rw [evS]
@[simp] theorem evS_ret {e : E} : evS Γ C wf (.ret e) ρ st = (ev Γ C e ρ st).map fun p => .rt p.1 p.2 := by rw [evS]
@[simp] theorem evS_retN : evS Γ C wf .retN ρ st = some (.rt (.d .none) st) := by rw [evS]
@[simp] theorem evS_nm {i : Nat} {mk : Bool} {e : E} : evS Γ C wf (.asg (.nm i mk) e) ρ st = (ev Γ C e ρ st).map fun p => .nx (setW ρ p.2 i mk p.1).1 (setW ρ p.2 i mk p.1).2 := by rw [evS]
@[simp] theorem evS_ix {o i e : E} : evS Γ C wf (.asg (.ix o i) e) ρ st = (ev Γ C e ρ st).bind fun p => (fix p.2 p.1).bind fun y => (tgt Γ C ρ y.2 (.ix o i) y.1).map fun q => .nx q.1 q.2 := by
  rw [evS]
  intro _ _ h; cases h
@[simp] theorem evS_par {ts : List (Nat × Bool)} {es : Es} : evS Γ C wf (.par ts es) ρ st = (evs Γ C es ρ st).bind fun p => (setWs ρ p.2 ts p.1).map fun q => .nx q.1 q.2 := by rw [evS]
@[simp] theorem evS_ifs {c : E} {a b : Ss} : evS Γ C wf (.ifs c a b) ρ st = (ev Γ C c ρ st).bind fun p => ((rd p.2 p.1).bind truth).bind fun k => if k then evSs Γ C wf a ρ p.2 else evSs Γ C wf b ρ p.2 := by rw [evS]
@[simp] theorem evS_forl {i : Nat} {e : E} {b : Ss} : evS Γ C wf (.forl i e b) ρ st = (ev Γ C e ρ st).bind fun p => match p.1 with
      | .l ns => loopC (fun n ρ st => evSs Γ C wf b (ρ.set i (some (.c n))) st) ns ρ p.2
      | _ => none := by rw [evS] <;> rfl
@[simp] theorem setW_l {i : Nat} {mk : Bool} {ns : List Nat} : setW ρ st i mk (.l ns) = (ρ.set i (some (.l ns)), st) := rfl
@[simp] theorem evS_pas : evS Γ C wf .pas ρ st = some (.nx ρ st) := by rw [evS]
@[simp] theorem evS_brk : evS Γ C wf .brk ρ st = some (.bk ρ st) := by rw [evS]
@[simp] theorem evS_cnt : evS Γ C wf .cnt ρ st = some (.ct ρ st) := by rw [evS]
@[simp] theorem evSs_nil : evSs Γ C wf .nil ρ st = some (.nx ρ st) := by rw [evSs]
/-- what comes behind a statement -/
def behind (Γ : Calls) (C : Str → Option D) (wf : Nat) (r : Ss) : Out → Option Out
  | .nx ρ' st' => evSs Γ C wf r ρ' st'
  | o => some o
@[simp] theorem evSs_cons {s : S} {r : Ss} : evSs Γ C wf (.cons s r) ρ st = (evS Γ C wf s ρ st).bind (behind Γ C wf r) := by
  rw [evSs]
  congr 1
@[simp] theorem behind_nx {r : Ss} {ρ' : Slots} {st' : Store} : behind Γ C wf r (.nx ρ' st') = evSs Γ C wf r ρ' st' := rfl
@[simp] theorem behind_rt {r : Ss} {w : W} {st' : Store} : behind Γ C wf r (.rt w st') = some (.rt w st') := rfl
@[simp] theorem behind_bk {r : Ss} {ρ' : Slots} {st' : Store} : behind Γ C wf r (.bk ρ' st') = some (.bk ρ' st') := rfl
@[simp] theorem behind_ct {r : Ss} {ρ' : Slots} {st' : Store} : behind Γ C wf r (.ct ρ' st') = some (.ct ρ' st') := rfl
@[simp] theorem setW_d {i : Nat} {mk : Bool} {x : D} : setW ρ st i mk (.d x) = (ρ.set i (some (.d x)), st) := rfl
@[simp] theorem setW_c {i : Nat} {mk : Bool} {x : Nat} : setW ρ st i mk (.c x) = (ρ.set i (some (.c x)), st) := rfl
@[simp] theorem setW_f {i : Nat} {xs : List D} : setW ρ st i false (.f xs) = (ρ.set i (some (.d (.list xs))), st) := rfl
@[simp] theorem setW_m {i : Nat} {xs : List D} : setW ρ st i true (.f xs) = (ρ.set i (some (.c st.length)), st ++ [⟨false, xs⟩]) := rfl
@[simp] theorem setWs_nil : setWs ρ st [] [] = some (ρ, st) := rfl
@[simp] theorem setWs_cons {t : Nat × Bool} {ts : List (Nat × Bool)} {w : W} {ws : List W} : setWs ρ st (t :: ts) (w :: ws) = setWs (setW ρ st t.1 t.2 w).1 (setW ρ st t.1 t.2 w).2 ts ws := rfl
@[simp] theorem enter_nil : enter [] [] st = some ([], st) := rfl
@[simp] theorem enter_d {b : Bool} {bs : List Bool} {x : D} {ws : List W} : enter (b :: bs) (.d x :: ws) st = (enter bs ws st).map fun p => (.d x :: p.1, p.2) := by
  cases b <;> rfl
@[simp] theorem enter_c {bs : List Bool} {n : Nat} {ws : List W} : enter (true :: bs) (.c n :: ws) st = (enter bs ws st).map fun p => (.c n :: p.1, p.2) := rfl
@[simp] theorem enter_f {bs : List Bool} {xs : List D} {ws : List W} : enter (false :: bs) (.f xs :: ws) st = (enter bs ws st).map fun p => (.d (.list xs) :: p.1, p.2) := rfl
@[simp] theorem enter_m {bs : List Bool} {xs : List D} {ws : List W} : enter (true :: bs) (.f xs :: ws) st = (enter bs ws (st ++ [⟨false, xs⟩])).map fun p => (.c st.length :: p.1, p.2) := rfl
@[simp] theorem leave_d {k : Nat} {x : D} : leave k (.d x) st = some (.d x, st.take k) := rfl
@[simp] theorem leave_f {k : Nat} {xs : List D} : leave k (.f xs) st = some (.f xs, st.take k) := rfl
/-! ### comprehensions, whole -/
theorem lc_map {own tg : List Nat} {fl : Bool} {elt : E} {it : It} {xs : List D} {st1 : Store} {g : D → D} (hi : evI Γ C it ρ st = some (xs, st1)) (hl : xs.length ≤ sizeLine)
    (hb : ∀ x ∈ xs, ∃ ρ' w, bindD (wipeW ρ own) tg fl x = some ρ' ∧ ev Γ C elt ρ' st1 = some (w, st1) ∧ fix st1 w = some (g x, st1)) : ev Γ C (.lc own elt tg fl it .nil) ρ st = some (.f (xs.map g), st1) := by
  rw [ev, hi]
  show Option.map _ _ = _
  rw [compL_map (g := g) (fun x hx => ?_) hl]
  · rfl
  · obtain ⟨ρ', w, e1, e2, e3⟩ := hb x hx
    rw [e1]
    simp [e2, e3]
theorem lc_fm {own tg : List Nat} {fl : Bool} {elt c : E} {it : It} {xs : List D} {st1 : Store} {g : D → Option D} (hi : evI Γ C it ρ st = some (xs, st1)) (hl : xs.length ≤ sizeLine)
    (hb : ∀ x ∈ xs, ∃ ρ' y k, bindD (wipeW ρ own) tg fl x = some ρ' ∧ ev Γ C c ρ' st1 = some (y, st1) ∧ (rd st1 y).bind truth = some k ∧ (k = false → g x = none) ∧ (k = true → ∃ w d, ev Γ C elt ρ' st1 = some (w, st1) ∧ fix st1 w = some (d, st1) ∧ g x = some d)) :
    ev Γ C (.lc own elt tg fl it (.cons c .nil)) ρ st = some (.f (xs.filterMap g), st1) := by
  rw [ev, hi]
  show Option.map _ _ = _
  rw [compL_fm (g := g) (fun x hx => ?_) hl]
  · rfl
  · obtain ⟨ρ', y, k, e1, e2, e3, e4, e5⟩ := hb x hx
    rw [e1]
    cases k with
    | false => simp [e2, e3, e4 rfl]
    | true =>
      obtain ⟨w, d, f1, f2, f3⟩ := e5 rfl
      simp [e2, e3, f1, f2, f3]
theorem lc_ex {own tg : List Nat} {fl : Bool} {elt : E} {it : It} {xs : List D} {st1 : Store} {P : D → Prop} {I : Store → Prop} (hi : evI Γ C it ρ st = some (xs, st1)) (hl : xs.length ≤ sizeLine) (h0 : I st1)
    (hb : ∀ x ∈ xs, ∀ s, I s → ∃ ρ' w s1 y s2, bindD (wipeW ρ own) tg fl x = some ρ' ∧ ev Γ C elt ρ' s = some (w, s1) ∧ fix s1 w = some (y, s2) ∧ P y ∧ I s2) :
    ∃ ys st', ev Γ C (.lc own elt tg fl it .nil) ρ st = some (.f ys, st') ∧ ys.length = xs.length ∧ (∀ y ∈ ys, P y) ∧ I st' := by
  obtain ⟨bd, hbd⟩ : ∃ bd : D → Store → Option (Option D × Store), bd = (fun x st => (bindD (wipeW ρ own) tg fl x).bind fun ρ' => (evC Γ C .nil ρ' st).bind fun q =>
        if q.1 then (ev Γ C elt ρ' q.2).bind fun r => (fix r.2 r.1).map fun y => (some y.1, y.2) else some (none, q.2)) := ⟨_, rfl⟩
  obtain ⟨ys, st', e, h1, h2, h3⟩ := compL_ex (body := bd) (P := P) (I := I) (xs := xs) h0 (fun x hx s hs => by
    obtain ⟨ρ', w, s1, y, s2, e1, e2, e3, e4, e5⟩ := hb x hx s hs
    refine ⟨y, s2, ?_, e4, e5⟩
    rw [hbd]
    simp only
    rw [e1]
    simp [e2, e3]) hl
  refine ⟨ys, st', ?_, h1, h2, h3⟩
  rw [hbd] at e
  rw [ev, hi]
  show Option.map _ _ = _
  rw [e]
  rfl
/-! ### loops, whole -/
theorem fors_first {tg : List Nat} {fl : Bool} {it : It} {body : Ss} {xs : List D} {g : D → Option W} {R : Slots → Prop} {st1 : Store} (hi : evI Γ C it ρ st = some (xs, st1)) (hr : R ρ)
    (hb : ∀ x ∈ xs, ∀ ρ, R ρ → ∃ ρ1, bindD ρ tg fl x = some ρ1 ∧ ((∃ w, g x = some w ∧ evSs Γ C wf body ρ1 st1 = some (.rt w st1)) ∨ (g x = none ∧ ∃ ρ', R ρ' ∧ evSs Γ C wf body ρ1 st1 = some (.nx ρ' st1)))) :
    (∃ w, xs.findSome? g = some w ∧ evS Γ C wf (.fors tg fl it body) ρ st = some (.rt w st1)) ∨ (xs.findSome? g = none ∧ ∃ ρ', R ρ' ∧ evS Γ C wf (.fors tg fl it body) ρ st = some (.nx ρ' st1)) := by
  have h := loopF_first (stp := fun x ρ st => (bindD ρ tg fl x).bind fun ρ' => evSs Γ C wf body ρ' st) (g := g) (R := R) (st := st1) (xs := xs) hr (fun x hx ρ hr => by
    obtain ⟨ρ1, e1, h⟩ := hb x hx ρ hr
    rcases h with ⟨w, h1, h2⟩ | ⟨h1, ρ', h2, h3⟩
    · exact .inl ⟨w, h1, by simp only [e1, Option.bind_some]; exact h2⟩
    · exact .inr ⟨h1, ρ', h2, by simp only [e1, Option.bind_some]; exact h3⟩)
  rw [evS, hi]
  exact h
theorem fors_inv {tg : List Nat} {fl : Bool} {it : It} {body : Ss} {xs : List D} {I : Nat → Slots → Store → Prop} {st1 : Store} (hi : evI Γ C it ρ st = some (xs, st1)) (h0 : I 0 ρ st1)
    (hb : ∀ j x ρ s, xs[j]? = some x → I j ρ s → ∃ ρ1, bindD ρ tg fl x = some ρ1 ∧ ∃ ρ' s', evSs Γ C wf body ρ1 s = some (.nx ρ' s') ∧ I (j + 1) ρ' s') :
    ∃ ρ' st', evS Γ C wf (.fors tg fl it body) ρ st = some (.nx ρ' st') ∧ I xs.length ρ' st' := by
  obtain ⟨ρ', st', e, h⟩ := loopF_inv (stp := fun x ρ st => (bindD ρ tg fl x).bind fun ρ' => evSs Γ C wf body ρ' st) (I := I) (xs := xs) (i := 0) h0 (fun j x ρ s hj hI => by
    rw [Nat.zero_add] at hI ⊢
    obtain ⟨ρ1, e1, ρ', s', e2, h⟩ := hb j x ρ s hj hI
    exact ⟨ρ', s', by simp only [e1, Option.bind_some]; exact e2, h⟩)
  rw [Nat.zero_add] at h
  refine ⟨ρ', st', ?_, h⟩
  rw [evS, hi]
  exact e
theorem enum_mem {x : D} : ∀ {n : Nat} {xs : List D}, x ∈ enumD n xs → ∃ (i : Nat) (y : D), x = .tuple [.int i, y] ∧ y ∈ xs
  | n, [], h => nomatch h
  | n, y :: xs, h => by
    rcases List.mem_cons.mp (show x ∈ PyData.tuple [.int n, y] :: enumD (n + 1) xs from h) with e | e
    · exact ⟨n, y, e, List.mem_cons_self⟩
    · obtain ⟨i, z, e1, e2⟩ := enum_mem e
      exact ⟨i, z, e1, List.mem_cons_of_mem _ e2⟩
end
end Z
/-! ZCom: defs that many laws share. -/
set_option linter.all false
set_option autoImplicit false
set_option maxHeartbeats 4000000
set_option maxRecDepth 100000
namespace Z
open PySem
/-! ### what they tell -/
def within (v : D) (lo hi : Int) : Bool := match v with
  | .int i => decide (lo ≤ i) && decide (i ≤ hi)
  | _ => false
def isInt : D → Bool
  | .int _ => true
  | _ => false
def entB (v : D) : Bool := match v with
  | .none => true
  | v => within v (-99) 99
def timB (v : D) : Bool := match v with
  | .none => true
  | v => within v (-1000000000) 1000000000
def itemsT : D → List D
  | .tuple xs => xs
  | _ => []
def rowB : D → Bool
  | .tuple xs => decide (1 ≤ xs.length) && decide (xs.length ≤ 8)
  | _ => false
def tabB : D → Bool
  | .tuple rows => decide (1 ≤ rows.length) && decide (rows.length ≤ 8) && rows.all rowB && rows.all fun r => decide ((itemsT r).length = (itemsT (rows.headD .none)).length) && (itemsT r).all entB
  | _ => false
def vecB : D → Bool
  | .tuple xs => decide (1 ≤ xs.length) && decide (xs.length ≤ 8) && xs.all timB
  | _ => false
@[simp] theorem itemsT_tup {xs : List D} : itemsT (.tuple xs) = xs := rfl
/-! ### their texts -/
def F_is_integer : Fn := ⟨[false], 1,
  .cons (.ret (.and (.cons (.isi [.int] false (.var 0)) (.cons (.not (.isi [.bool] false (.var 0))) (.nil))))) (.nil)⟩
def F_is_within : Fn := ⟨[false, false, false], 3,
  .cons (.ret (.and (.cons (.call 2 (.cons (.var 0) (.nil))) (.cons (.chain .le .le (.var 1) (.var 0) (.var 2)) (.nil))))) (.nil)⟩
def F_is_tuple : Fn := ⟨[false, false], 2,
  .cons (.ret (.and (.cons (.isi [.tuple] false (.var 0)) (.cons (.cmp .eq (.len (.var 0)) (.var 1)) (.nil))))) (.nil)⟩
def F_is_entry : Fn := ⟨[false], 1,
  .cons (.ret (.or (.cons (.cmp .isN (.var 0) (.non)) (.cons (.call 3 (.cons (.var 0) (.cons (.neg (.glo "MOST_ENTRY")) (.cons (.glo "MOST_ENTRY") (.nil))))) (.nil))))) (.nil)⟩
def F_is_table_any : Fn := ⟨[false], 3,
  .cons (.ifs (.or (.cons (.not (.isi [.tuple] false (.var 0))) (.cons (.not (.chain .le .le (.int 1) (.len (.var 0)) (.glo "MOST_SIDE"))) (.nil)))) (.cons (.ret (.bl false)) (.nil)) (.nil))
  (.cons (.ifs (.not (.bi .all (.cons (.lc [1] (.and (.cons (.isi [.tuple] false (.var 1)) (.cons (.chain .le .le (.int 1) (.len (.var 1)) (.glo "MOST_SIDE")) (.nil)))) [1] true (.val (.var 0)) (.nil)) (.nil)))) (.cons (.ret (.bl false)) (.nil)) (.nil))
  (.cons (.ret (.bi .all (.cons (.lc [1] (.and (.cons (.cmp .eq (.len (.var 1)) (.len (.idx (.var 0) (.int 0)))) (.cons (.bi .all (.cons (.lc [2] (.call 6 (.cons (.var 2) (.nil))) [2] true (.val (.var 1)) (.nil)) (.nil))) (.nil)))) [1] true (.val (.var 0)) (.nil)) (.nil)))) (.nil)))⟩
/-! ### they tell it -/
@[simp] theorem tyOf_tup {xs : List D} {t : Ty} : tyOf (.tuple xs) t = (match t with | .tuple => true | _ => false) := by cases t <;> rfl
theorem all_map {xs : List D} {g : D → Bool} : boolsD (xs.map fun x => PyData.bool (g x)) = some (xs.map g) := by
  induction xs with
  | nil => rfl
  | cons x xs ih => simp [boolsD, ih]
theorem all_id {xs : List D} {g : D → Bool} : (xs.map g).all id = xs.all g := by
  induction xs with
  | nil => rfl
  | cons x xs ih => simp [ih]
section
variable {C : Str → Option D} {wf n f : Nat} {Fs : List (Nat × Fn)} {st : Store}
theorem is_integer_ok (h : Fs.lookup 2 = some F_is_integer) (v : D) : evCall C wf Fs (n + 1) 2 [.d v] st = some (.d (.bool (isInt v)), st) := by
  rw [evCall, h]
  cases v <;> simp [F_is_integer, tyOf, isInt, List.replicate]
theorem is_within_ok (h2 : Fs.lookup 2 = some F_is_integer) (h3 : Fs.lookup 3 = some F_is_within) (v : D) (lo hi : Int) : evCall C wf Fs (n + 2) 3 [.d v, .d (.int lo), .d (.int hi)] st = some (.d (.bool (within v lo hi)), st) := by
  have e := is_integer_ok (C := C) (wf := wf) (n := n) (st := st) h2 v
  rw [evCall, h3]
  cases v with
  | int i =>
    simp [F_is_within, e, isInt, within, List.replicate]
    by_cases k : lo ≤ i <;> simp [k]
  | _ => simp [F_is_within, e, isInt, within, List.replicate]
theorem is_tuple_ok (h : Fs.lookup 8 = some F_is_tuple) (v : D) (m : Int) : evCall C wf Fs (n + 1) 8 [.d v, .d (.int m)] st = some (.d (.bool (match v with | .tuple xs => decide ((xs.length : Int) = m) | _ => false)), st) := by
  rw [evCall, h]
  cases v <;> simp [F_is_tuple, tyOf, List.replicate]
theorem is_entry_ok (h2 : Fs.lookup 2 = some F_is_integer) (h3 : Fs.lookup 3 = some F_is_within) (h6 : Fs.lookup 6 = some F_is_entry) (hc : C "MOST_ENTRY" = some (.int 99)) (v : D) : evCall C wf Fs (n + 3) 6 [.d v] st = some (.d (.bool (entB v)), st) := by
  have e := is_within_ok (C := C) (wf := wf) (n := n) (st := st) h2 h3 v (-99) 99
  rw [evCall, h6]
  cases v <;> simp [F_is_entry, e, entB, hc, List.replicate]
theorem row_size {r : D} (h : rowB r = true) : (itemsT r).length ≤ 8 ∧ 1 ≤ (itemsT r).length ∧ r = .tuple (itemsT r) := by
  cases r <;> simp [rowB] at h
  simp only [itemsT]
  exact ⟨h.2, h.1, trivial⟩
theorem is_table_any_ok (h2 : Fs.lookup 2 = some F_is_integer) (h3 : Fs.lookup 3 = some F_is_within) (h6 : Fs.lookup 6 = some F_is_entry) (h7 : Fs.lookup 7 = some F_is_table_any) (hc : C "MOST_ENTRY" = some (.int 99)) (hs : C "MOST_SIDE" = some (.int 8)) (v : D) :
    evCall C wf Fs (n + 4) 7 [.d v] st = some (.d (.bool (tabB v)), st) := by
  have e6 := fun v => is_entry_ok (C := C) (wf := wf) (n := n) (st := st) h2 h3 h6 hc v
  rw [evCall, h7]
  cases v with
  | tuple rows =>
    by_cases h1 : 1 ≤ rows.length ∧ rows.length ≤ 8
    rotate_left
    · have q : tabB (.tuple rows) = false := by
        simp only [tabB]
        by_cases k1 : 1 ≤ rows.length
        · have k2 : ¬ rows.length ≤ 8 := fun z => h1 ⟨k1, z⟩
          simp [k2]
        · simp [k1]
      rw [q]
      by_cases k1 : 1 ≤ rows.length
      · have k2 : ¬ rows.length ≤ 8 := fun z => h1 ⟨k1, z⟩
        have k3 : ¬ (rows.length : Int) ≤ 8 := by omega
        have k4 : (1 : Int) ≤ rows.length := by omega
        simp [F_is_table_any, hs, k3, k4, List.replicate]
      · have k3 : ¬ (1 : Int) ≤ rows.length := by omega
        simp [F_is_table_any, hs, k3, List.replicate]
    have k1 : (1 : Int) ≤ rows.length := by omega
    have k2 : (rows.length : Int) ≤ 8 := by omega
    have hl : rows.length ≤ sizeLine := by rw [szl]; omega
    obtain ⟨r0, rs, hrs⟩ : ∃ r0 rs, rows = r0 :: rs := by
      cases rows with
      | nil => simp at h1
      | cons a b => exact ⟨a, b, rfl⟩
    have c1 := lc_map (Γ := evCall C wf Fs (n + 3)) (C := C) (ρ := [some (.d (.tuple rows)), none, none]) (st := st) (own := [1]) (tg := [1]) (fl := true) (elt := .and (.cons (.isi [.tuple] false (.var 1)) (.cons (.chain .le .le (.int 1) (.len (.var 1)) (.glo "MOST_SIDE")) (.nil))))
      (it := .val (.var 0)) (g := fun r => .bool (rowB r)) (st1 := st) (by simp) hl (fun r hr => by
        refine ⟨[some (.d (.tuple rows)), some (.d r), none], .d (.bool (rowB r)), rfl, ?_, rfl⟩
        cases r with
        | tuple xs =>
          simp [hs, rowB]
          by_cases k : (1 : Int) ≤ xs.length
          · have k' : 1 ≤ xs.length := by omega
            by_cases l : (xs.length : Int) ≤ 8
            · have l' : xs.length ≤ 8 := by omega
              simp [k, k', l, l']
            · have l' : ¬ xs.length ≤ 8 := by omega
              simp [k, k', l, l']
          · have k' : ¬ 1 ≤ xs.length := by omega
            simp [k, k']
        | _ => simp [tyOf, rowB])
    by_cases h4 : rows.all rowB = true
    rotate_left
    · have q : tabB (.tuple rows) = false := by
        simp only [tabB]
        simp [h4]
      rw [q]
      simp only [Bool.not_eq_true] at h4
      simp [F_is_table_any, hs, k1, k2, List.replicate, c1, all_map, all_id, h4]
    have c2 := lc_map (Γ := evCall C wf Fs (n + 3)) (C := C) (ρ := [some (.d (.tuple rows)), none, none]) (st := st) (own := [1]) (tg := [1]) (fl := true) (elt := .and (.cons (.cmp .eq (.len (.var 1)) (.len (.idx (.var 0) (.int 0)))) (.cons (.bi .all (.cons (.lc [2] (.call 6 (.cons (.var 2) (.nil))) [2] true (.val (.var 1)) (.nil)) (.nil))) (.nil))))
      (it := .val (.var 0)) (g := fun r => .bool (decide ((itemsT r).length = (itemsT (rows.headD .none)).length) && (itemsT r).all entB)) (st1 := st) (by simp) hl (fun r hr => by
        refine ⟨[some (.d (.tuple rows)), some (.d r), none], .d (.bool _), rfl, ?_, rfl⟩
        obtain ⟨s1, s2, s3⟩ := row_size (List.all_eq_true.mp h4 r hr)
        obtain ⟨t1, t2, t3⟩ := row_size (List.all_eq_true.mp h4 r0 (by simp [hrs]))
        have c3 := lc_map (Γ := evCall C wf Fs (n + 3)) (C := C) (ρ := [some (.d (.tuple rows)), some (.d r), none]) (st := st) (own := [2]) (tg := [2]) (fl := true) (elt := .call 6 (.cons (.var 2) (.nil)))
          (it := .val (.var 1)) (g := fun x => .bool (entB x)) (st1 := st) (xs := itemsT r) (by rw [s3]; simp [itemsT]) (by rw [szl]; omega) (fun x hx => ⟨[some (.d (.tuple rows)), some (.d r), some (.d x)], .d (.bool (entB x)), rfl, by simp [e6], rfl⟩)
        have lr : ∀ r : D, r = .tuple (itemsT r) → biF .len [r] = some (.d (.int (itemsT r).length)) := fun r e => by rw [e]; rfl
        have i0 : itemAt rows 0 = some r0 := by rw [hrs]; simp
        have d0 : rows.headD .none = r0 := by rw [hrs]; rfl
        simp [c3, all_map, all_id, i0, d0, lr r s3, lr r0 t3, -List.headD_eq_head?_getD]
        by_cases k : (itemsT r).length = (itemsT r0).length
        · have k' : ((itemsT r).length : Int) = (itemsT r0).length := by omega
          simp [k, k']
        · have k' : ¬ ((itemsT r).length : Int) = (itemsT r0).length := by omega
          simp [k, k'])
    have q : tabB (.tuple rows) = rows.all fun r => decide ((itemsT r).length = (itemsT (rows.headD .none)).length) && (itemsT r).all entB := by
      simp only [tabB, h1.1, h1.2, h4, decide_true, Bool.true_and]
    rw [q]
    simp [F_is_table_any, hs, k1, k2, List.replicate, c1, c2, all_map, all_id, h4]
  | _ => simp [F_is_table_any, tyOf, tabB, List.replicate]
end
end Z
/-! ZRep: how long a value is when it is shown. -/
set_option linter.all false
set_option autoImplicit false
set_option maxHeartbeats 4000000
set_option maxRecDepth 100000
namespace Z
open PySem
def okD (w b : Nat) : Nat → D → Prop
  | _, .none => True
  | _, .bool _ => True
  | _, .int i => i.natAbs.log2 < 1920 ∧ (PyData.shown (.int i)).length ≤ b
  | _, .str x => (PyData.shown (.str x)).length ≤ b
  | k + 1, .list xs => xs.length ≤ w ∧ ∀ x ∈ xs, okD w b k x
  | k + 1, .tuple xs => xs.length ≤ w ∧ ∀ x ∈ xs, okD w b k x
  | _, _ => False
def lim (w b : Nat) : Nat → Nat
  | 0 => b
  | k + 1 => w * (lim w b k + 2) + b + 4
theorem lim_mono (w b k : Nat) : b ≤ lim w b k := by
  cases k <;> simp [lim]; omega
theorem textFrom_le : ∀ (ts : List Str) (k : Nat) (acc : Str) (L : Nat), (∀ t ∈ ts, t.length ≤ L) → (textFrom k acc ts).length ≤ acc.length + ts.length * (L + 2)
  | [], k, acc, L, _ => by simp [textFrom]
  | t :: r, k, acc, L, h => by
    have ih := textFrom_le r (k + 1) (acc ++ (if k > 0 then ", " else "" : String) ++ t) L fun x hx => h x (List.mem_cons_of_mem _ hx)
    have e : (acc ++ (if k > 0 then ", " else "" : String) ++ t).length ≤ acc.length + 2 + t.length := by
      rw [strLen_append, strLen_append]
      have : ((if k > 0 then ", " else "" : String) : Str).length ≤ 2 := by split <;> decide
      omega
    have ht := h t List.mem_cons_self
    have e2 : textFrom k acc (t :: r) = textFrom (k + 1) (acc ++ (if k > 0 then ", " else "" : String) ++ t) r := rfl
    rw [e2, List.length_cons, Nat.add_mul]
    omega
theorem piled_le : ∀ (ts : List Str) (L : Nat), (∀ t ∈ ts, t.length ≤ L) → piled ts ≤ ts.length * (L + 2)
  | [], L, _ => by simp [piled]
  | t :: r, L, h => by
    have ih := piled_le r L fun x hx => h x (List.mem_cons_of_mem _ hx)
    have ht := h t List.mem_cons_self
    rw [piled_cons, List.length_cons, Nat.add_mul]
    omega
theorem shownAll_mem {t : Str} : ∀ {xs : List D}, t ∈ PyData.shownAll xs → ∃ x ∈ xs, t = PyData.shown x
  | [], h => by rw [PyData.shownAll] at h; cases h
  | x :: xs, h => by
    rw [PyData.shownAll] at h
    rcases List.mem_cons.mp h with e | e
    · exact ⟨x, List.mem_cons_self, e⟩
    · obtain ⟨y, h1, h2⟩ := shownAll_mem e
      exact ⟨y, List.mem_cons_of_mem _ h1, h2⟩
theorem shownAll_len : ∀ {xs : List D}, (PyData.shownAll xs).length = xs.length
  | [] => by rw [PyData.shownAll]; rfl
  | x :: xs => by rw [PyData.shownAll, List.length_cons, List.length_cons, shownAll_len]
theorem listText_le {ts : List Str} {L : Nat} (h : ∀ t ∈ ts, t.length ≤ L) : (listText ts).length ≤ ts.length * (L + 2) + 2 := by
  unfold listText
  rw [strLen_append]
  have h1 := textFrom_le ts 0 "[" L h
  have h2 : (("[" : String) : Str).length = 1 := by decide
  have h3 : (("]" : String) : Str).length = 1 := by decide
  omega
theorem tupleText_le {ts : List Str} {L : Nat} (h : ∀ t ∈ ts, t.length ≤ L) : (tupleText ts).length ≤ ts.length * (L + 2) + 3 := by
  unfold tupleText
  rw [strLen_append, strLen_append]
  have h2 : (("(" : String) : Str).length = 1 := by decide
  have h3 : ((if ts.length == 1 then ",)" else ")" : String) : Str).length ≤ 2 := by split <;> decide
  cases ts with
  | nil =>
    have : (Str.join ", " []).length = 0 := by decide
    simp only [List.length_nil] at *
    omega
  | cons t r =>
    have h4 := join_length_add (t :: r) (by simp)
    have h5 := piled_le (t :: r) L h
    omega
theorem shown_le {w b : Nat} (hb : 5 ≤ b) : ∀ (k : Nat) (v : D), okD w b k v → (PyData.shown v).length ≤ lim w b k
  | k, .none, _ => by
    have := lim_mono w b k
    have z : (PyData.shown .none).length = 4 := by rw [PyData.shown]; decide
    omega
  | k, .bool x, _ => by
    have := lim_mono w b k
    have z : (PyData.shown (.bool x)).length ≤ 5 := by rw [PyData.shown]; cases x <;> decide
    omega
  | k, .int i, h => by
    have := lim_mono w b k
    have h2 : i.natAbs.log2 < 1920 ∧ (PyData.shown (.int i)).length ≤ b := by cases k <;> exact h
    omega
  | k, .str i, h => by
    have := lim_mono w b k
    have h2 : (PyData.shown (.str i)).length ≤ b := by cases k <;> exact h
    omega
  | k, .dict _, h => by cases k <;> exact h.elim
  | 0, .list _, h => h.elim
  | 0, .tuple _, h => h.elim
  | k + 1, .list xs, h => by
    have h2 := listText_le (ts := PyData.shownAll xs) (L := lim w b k) fun t ht => by
      obtain ⟨x, hx, rfl⟩ := shownAll_mem ht
      exact shown_le hb k x (h.2 x hx)
    rw [PyData.shown, lim]
    rw [shownAll_len] at h2
    have h3 : xs.length * (lim w b k + 2) ≤ w * (lim w b k + 2) := Nat.mul_le_mul_right _ h.1
    omega
  | k + 1, .tuple xs, h => by
    have h2 := tupleText_le (ts := PyData.shownAll xs) (L := lim w b k) fun t ht => by
      obtain ⟨x, hx, rfl⟩ := shownAll_mem ht
      exact shown_le hb k x (h.2 x hx)
    rw [PyData.shown, lim]
    rw [shownAll_len] at h2
    have h3 : xs.length * (lim w b k + 2) ≤ w * (lim w b k + 2) := Nat.mul_le_mul_right _ h.1
    omega
theorem all_show {xs : List D} (h : ∀ x ∈ xs, PyData.showable x = true ∧ PyData.hasDict x = false) : PyData.showableAll xs = true ∧ PyData.hasDictAll xs = false := by
  induction xs with
  | nil => simp [PyData.showableAll, PyData.hasDictAll]
  | cons x xs ih =>
    obtain ⟨h1, h2⟩ := h x List.mem_cons_self
    obtain ⟨h3, h4⟩ := ih fun y hy => h y (List.mem_cons_of_mem _ hy)
    simp [PyData.showableAll, PyData.hasDictAll, h1, h2, h3, h4]
theorem all_depth {m : Nat} : ∀ {xs : List D}, (∀ x ∈ xs, PyData.depth x ≤ m) → PyData.depthAll xs ≤ m
  | [], _ => by simp [PyData.depthAll]
  | x :: xs, h => by
    have h1 := h x List.mem_cons_self
    have h2 := all_depth (xs := xs) fun y hy => h y (List.mem_cons_of_mem _ hy)
    simp only [PyData.depthAll]
    omega
theorem ok_show {w b : Nat} : ∀ (k : Nat) (v : D), okD w b k v → PyData.showable v = true ∧ PyData.hasDict v = false ∧ PyData.depth v ≤ k
  | k, .none, _ => by simp [PyData.showable, PyData.hasDict, PyData.depth]
  | k, .bool x, _ => by simp [PyData.showable, PyData.hasDict, PyData.depth]
  | k, .int i, h => by
    have h2 : i.natAbs.log2 < 1920 ∧ (PyData.shown (.int i)).length ≤ b := by cases k <;> exact h
    simp [PyData.showable, PyData.hasDict, PyData.depth, h2.1]
  | k, .str i, h => by simp [PyData.showable, PyData.hasDict, PyData.depth]
  | k, .dict _, h => by cases k <;> exact h.elim
  | 0, .list _, h => h.elim
  | 0, .tuple _, h => h.elim
  | k + 1, .list xs, h => by
    have hx := fun x hx => ok_show k x (h.2 x hx)
    have h1 := all_show (xs := xs) fun x hm => ⟨(hx x hm).1, (hx x hm).2.1⟩
    have h2 := all_depth (xs := xs) (m := k) fun x hm => (hx x hm).2.2
    have h3 : PyData.depth (.list xs) = PyData.depthAll xs + 1 := by rw [PyData.depth]
    refine ⟨by simp only [PyData.showable]; exact h1.1, by simp only [PyData.hasDict]; exact h1.2, by omega⟩
  | k + 1, .tuple xs, h => by
    have hx := fun x hx => ok_show k x (h.2 x hx)
    have h1 := all_show (xs := xs) fun x hm => ⟨(hx x hm).1, (hx x hm).2.1⟩
    have h2 := all_depth (xs := xs) (m := k) fun x hm => (hx x hm).2.2
    have h3 : PyData.depth (.tuple xs) = PyData.depthAll xs + 1 := by rw [PyData.depth]
    refine ⟨by simp only [PyData.showable]; exact h1.1, by simp only [PyData.hasDict]; exact h1.2, by omega⟩
/-- what may be shown -/
theorem repr_ok {w b k : Nat} {v : D} (h : okD w b k v) (hb : 5 ≤ b) (hk : k ≤ 100) (hl : lim w b k ≤ 16777216) : reprOk v = true := by
  obtain ⟨h1, h2, h3⟩ := ok_show k v h
  have h4 := shown_le hb k v h
  have h5 : decide (PyData.depth v ≤ 100) = true := decide_eq_true (by omega)
  have h6 : decide ((PyData.shown v).length ≤ sizeLine) = true := decide_eq_true (by rw [szl]; omega)
  simp only [reprOk, h1, h2, h5, Bool.not_false, Bool.and_true, Bool.true_and, Bool.or_eq_true]
  exact .inr h6
theorem ok_up {w b : Nat} : ∀ (k : Nat) (v : D), okD w b k v → okD w b (k + 1) v
  | k, .none, _ => trivial
  | k, .bool x, _ => trivial
  | k, .int i, h => by cases k <;> exact h
  | k, .str i, h => by cases k <;> exact h
  | k, .dict _, h => by cases k <;> exact h.elim
  | 0, .list _, h => h.elim
  | 0, .tuple _, h => h.elim
  | k + 1, .list xs, h => ⟨h.1, fun x hx => ok_up k x (h.2 x hx)⟩
  | k + 1, .tuple xs, h => ⟨h.1, fun x hx => ok_up k x (h.2 x hx)⟩
theorem ok_int {w b k : Nat} {i : Int} (h : -10000000000 ≤ i ∧ i ≤ 10000000000) (hb : 13 ≤ b) : okD w b k (.int i) := by
  have key : i.natAbs.log2 < 1920 ∧ (PyData.shown (.int i)).length ≤ b := by
    constructor
    · have h1 : i.natAbs < 2 ^ 40 := by omega
      have h2 : i.natAbs.log2 < 40 := by
        by_cases h0 : i.natAbs = 0
        · rw [h0]; decide
        · exact (Nat.log2_lt h0).mpr h1
      omega
    · rw [PyData.shown]
      have h1 := int_text_length_le10 (a := i) (k := 11) (by decide) (by omega)
      show (Str.ofString (toString i)).length ≤ b
      rw [ofString_length]
      omega
  cases k <;> exact key
end Z
/-! ZDrw: what is drawn: one of some, entries, tables. -/
set_option linter.all false
set_option autoImplicit false
set_option maxHeartbeats 4000000
set_option maxRecDepth 100000
namespace Z
open PySem
def pickF (dr : Nat) : Fn := ⟨[true, false], 2, .cons (.ret (.idx (.var 1) (.call dr (.cons (.var 0) (.cons (.len (.var 1)) (.nil)))))) (.nil)⟩
/-- f draws from the pot, below 2^30 -/
def Draws (C : Str → Option D) (wf : Nat) (Fs : List (Nat × Fn)) (n f : Nat) : Prop := ∀ (st : Store) (m : Int), Pot st → 0 < m ∧ m < 1073741824 → ∃ r st', evCall C wf Fs n f [.c 0, .d (.int m)] st = some (.d (.int r), st') ∧ 0 ≤ r ∧ r < m ∧ Same st st'
section
variable {C : Str → Option D} {wf n : Nat} {Fs : List (Nat × Fn)} {st : Store}
theorem draws_of {a b c d e : Int} {f : Nat} (h : Fs.lookup f = some (drawF a b c d e)) (ha : 0 ≤ a ∧ a < 2 ^ 64) (hc : 0 < c ∧ c < 4294967296) (hd : 0 < d) (he : 0 < e ∧ e < 1073741824) (n : Nat) : Draws C wf Fs (n + 1) f :=
  fun st m hp hm => draw_ok h ha hc hd he hm hp
theorem pick_ok {dr f : Nat} (hd : Draws C wf Fs n dr) (h : Fs.lookup f = some (pickF dr)) (hp : Pot st) {xs : List D} (hx : 1 ≤ xs.length ∧ xs.length < 1073741824) {w : W} (hw : w = .f xs ∨ w = .d (.list xs) ∨ w = .d (.tuple xs)) :
    ∃ x st', evCall C wf Fs (n + 1) f [.c 0, w] st = some (.d x, st') ∧ x ∈ xs ∧ Same st st' := by
  obtain ⟨r, st', e, r0, r1, hs⟩ := hd st xs.length hp (by omega)
  have hr : r.toNat < xs.length := by omega
  have hi : itemAt xs r = some xs[r.toNat] := by
    have z := item_nat hr
    rwa [show ((r.toNat : Nat) : Int) = r by omega] at z
  refine ⟨xs[r.toNat], st', ?_, List.getElem_mem hr, hs⟩
  rw [evCall, h]
  rcases hw with rfl | rfl | rfl
  · simp [pickF, e, hi, List.replicate]
    exact take_all hs.len
  · simp [pickF, e, hi, List.replicate]
    exact take_all hs.len
  · simp [pickF, e, hi, List.replicate]
    exact take_all hs.len
/-- an entry -/
def entV (x : D) : Prop := x = .none ∨ ∃ i : Int, x = .int i ∧ -99 ≤ i ∧ i ≤ 99
def entryF (dr pk : Nat) : Fn := ⟨[true], 2,
  .cons (.asg (.nm 1 false) (.call dr (.cons (.var 0) (.cons (.int 8) (.nil))))) (.cons (.ifs (.cmp .lt (.var 1) (.int 3)) (.cons (.ret (.non)) (.nil)) (.nil)) (.cons (.ret (.ife (.and (.cons (.cmp .eq (.var 1) (.int 7)) (.cons (.cmp .eq (.call dr (.cons (.var 0) (.cons (.int 3) (.nil)))) (.int 0)) (.nil)))) (.call pk (.cons (.var 0) (.cons (.lst (.cons (.int 99) (.cons (.neg (.int 99)) (.cons (.int 50) (.nil))))) (.nil)))) (.bin .sub (.call dr (.cons (.var 0) (.cons (.int 9) (.nil)))) (.int 4)))) (.nil)))⟩
theorem szl9 : ∀ k : Nat, k ≤ 100 → k ≤ sizeLine := fun k h => by rw [szl]; omega
theorem entry_ok {dr pk f : Nat} (hd : Draws C wf Fs (n + 1) dr) (hd0 : Draws C wf Fs n dr) (h5 : Fs.lookup pk = some (pickF dr)) (h : Fs.lookup f = some (entryF dr pk)) (hp : Pot st) :
    ∃ x st', evCall C wf Fs (n + 2) f [.c 0] st = some (.d x, st') ∧ entV x ∧ Same st st' := by
  obtain ⟨k, s1, e1, k0, k1, hs1⟩ := hd st 8 hp (by omega)
  by_cases hk : k < 3
  · refine ⟨.none, s1, ?_, .inl rfl, hs1⟩
    rw [evCall, h]
    simp [entryF, e1, hk, List.replicate]
    exact take_all hs1.len
  by_cases h7 : k = 7
  · subst h7
    obtain ⟨z, s2, e2, z0, z1, hs2⟩ := hd s1 3 hs1.pot (by omega)
    by_cases hz : z = 0
    · subst hz
      obtain ⟨x, s3, e3, hx, hs3⟩ := pick_ok (C := C) (wf := wf) (n := n) (st := s2) hd0 h5 hs2.pot (xs := [.int 99, .int (-99), .int 50]) (by simp) (.inl rfl)
      refine ⟨x, s3, ?_, ?_, (hs1.trans hs2).trans hs3⟩
      · rw [evCall, h]
        simp [entryF, e1, List.replicate, e2, szl9, e3]
        exact take_all ((hs1.trans hs2).trans hs3).len
      · right
        simp only [List.mem_cons, List.not_mem_nil, or_false] at hx
        rcases hx with rfl | rfl | rfl
        · exact ⟨99, rfl, by omega, by omega⟩
        · exact ⟨-99, rfl, by omega, by omega⟩
        · exact ⟨50, rfl, by omega, by omega⟩
    · obtain ⟨q, s3, e3, q0, q1, hs3⟩ := hd s2 9 hs2.pot (by omega)
      refine ⟨.int (q - 4), s3, ?_, .inr ⟨_, rfl, by omega, by omega⟩, (hs1.trans hs2).trans hs3⟩
      rw [evCall, h]
      simp [entryF, e1, List.replicate, e2, hz, e3]
      exact take_all ((hs1.trans hs2).trans hs3).len
  · obtain ⟨q, s3, e3, q0, q1, hs3⟩ := hd s1 9 hs1.pot (by omega)
    refine ⟨.int (q - 4), s3, ?_, .inr ⟨_, rfl, by omega, by omega⟩, hs1.trans hs3⟩
    rw [evCall, h]
    simp [entryF, e1, hk, h7, List.replicate, e3]
    exact take_all (hs1.trans hs3).len
theorem rg_nat {r : Nat} (h : r ≤ 1000) : rgOk 0 (r : Int) = true := by
  have h1 : (r : Int) ≤ 1000 := by omega
  have h2 : (0 : Int) ≤ r := by omega
  have h3 : ((r : Int) - 0).toNat ≤ 2 ^ 24 := Nat.le_trans (by omega : ((r : Int) - 0).toNat ≤ 1000) (by decide)
  simp only [rgOk, Bool.and_eq_true, decide_eq_true_eq]
  exact ⟨⟨⟨⟨by decide, by decide⟩, Int.le_trans (by decide) h2⟩, Int.lt_of_le_of_lt h1 (by decide)⟩, h3⟩
theorem rng_var {Γ : Calls} {ρ : Slots} {i k : Nat} (h : ρ[i]? = some (some (.d (.int (k : Int))))) (hk : k ≤ 1000) : evI Γ C (.rng (.cons (.var i) .nil)) ρ st = some (rangeD 0 k, st) := by
  have e : evD Γ C (.cons (.var i) .nil) ρ st = some ([.int (k : Int)], st) := by
    rw [evD_cons, ev_var, h]
    simp only [Option.bind_some, fix_d, evD_nil, Option.map_some]
  rw [evI_rng, e, Option.bind_some, rngF_one (rg_nat hk), Option.map_some, Int.toNat_natCast]
/-- a table of such entries -/
def tabV (r c : Nat) (v : D) : Prop := ∃ rows : List D, v = .tuple rows ∧ rows.length = r ∧ ∀ x ∈ rows, ∃ es : List D, x = .tuple es ∧ es.length = c ∧ ∀ y ∈ es, entV y
def tableF (en : Nat) : Fn := ⟨[true, false, false], 5,
  .cons (.ret (.bi .tuple (.cons (.lc [3] (.bi .tuple (.cons (.lc [4] (.call en (.cons (.var 0) (.nil))) [4] true (.rng (.cons (.var 2) (.nil))) (.nil)) (.nil))) [3] true (.rng (.cons (.var 1) (.nil))) (.nil)) (.nil)))) (.nil)⟩
theorem table_ok {en f : Nat} (he : ∀ st, Pot st → ∃ x st', evCall C wf Fs n en [.c 0] st = some (.d x, st') ∧ entV x ∧ Same st st') (h : Fs.lookup f = some (tableF en)) (hp : Pot st) {r c : Nat} (hr : r ≤ 1000) (hc : c ≤ 1000) :
    ∃ v st', evCall C wf Fs (n + 1) f [.c 0, .d (.int r), .d (.int c)] st = some (.d v, st') ∧ tabV r c v ∧ Same st st' := by
  have l1 : r ≤ sizeLine := by rw [szl]; omega
  have l2 : c ≤ sizeLine := by rw [szl]; omega
  have g1 : rgOk 0 (r : Int) = true := rg_nat hr
  have g2 : rgOk 0 (c : Int) = true := rg_nat hc
  obtain ⟨ys, st', e, hl, hy, hs⟩ := lc_ex (Γ := evCall C wf Fs n) (C := C) (ρ := [some (.c 0), some (.d (.int r)), some (.d (.int c)), none, none]) (st := st) (own := [3]) (tg := [3]) (fl := true) (it := .rng (.cons (.var 1) (.nil)))
    (elt := .bi .tuple (.cons (.lc [4] (.call en (.cons (.var 0) (.nil))) [4] true (.rng (.cons (.var 2) (.nil))) (.nil)) (.nil))) (xs := rangeD 0 r) (st1 := st) (P := fun x => ∃ es : List D, x = .tuple es ∧ es.length = c ∧ ∀ y ∈ es, entV y) (I := Same st)
    (rng_var rfl hr) (by rw [range_len]; exact l1) (.refl hp) (fun x hx s hs => by
      obtain ⟨zs, s2, e2, hl2, hy2, hs2⟩ := lc_ex (Γ := evCall C wf Fs n) (C := C) (ρ := [some (.c 0), some (.d (.int r)), some (.d (.int c)), some (.d x), none]) (st := s) (own := [4]) (tg := [4]) (fl := true) (it := .rng (.cons (.var 2) (.nil)))
        (elt := .call en (.cons (.var 0) (.nil))) (xs := rangeD 0 c) (st1 := s) (P := entV) (I := Same st)
        (rng_var (by simp [wipeW]) hc) (by rw [range_len]; exact l2) hs (fun y hy s3 hs3 => by
          obtain ⟨z, s4, e4, hz, hs4⟩ := he s3 hs3.pot
          exact ⟨_, .d z, s4, z, s4, rfl, by simp [wipeW, e4], rfl, hz, hs3.trans hs4⟩)
      refine ⟨_, .d (.tuple zs), s2, _, s2, rfl, by simp [wipeW, e2], rfl, ⟨zs, rfl, by rw [hl2, range_len], hy2⟩, hs2⟩)
  refine ⟨.tuple ys, st', ?_, ⟨ys, rfl, by rw [hl, range_len], hy⟩, hs⟩
  have e2 : evSs (evCall C wf Fs n) C wf (tableF en).body [some (.c 0), some (.d (.int r)), some (.d (.int c)), none, none] st = some (.rt (.d (.tuple ys)) st') := by
    show evSs (evCall C wf Fs n) C wf (.cons (.ret (.bi .tuple (.cons _ .nil))) .nil) _ st = _
    rw [evSs_cons, evS_ret, ev_bi, evs_cons, e]
    rfl
  have e3 : enter (tableF en).cps [.c 0, .d (.int r), .d (.int c)] st = some ([.c 0, .d (.int r), .d (.int c)], st) := rfl
  rw [evCall, h, Option.bind_some, e3, Option.bind_some]
  show (evSs (evCall C wf Fs n) C wf (tableF en).body [some (.c 0), some (.d (.int r)), some (.d (.int c)), none, none] st).bind _ = _
  rw [e2, Option.bind_some]
  show some (W.d (.tuple ys), st'.take st.length) = _
  rw [take_all hs.len]
end
end Z
/-! ZWk: a def's text, statement by statement; stores with a local list. -/
set_option linter.all false
set_option autoImplicit false
set_option maxHeartbeats 4000000
set_option maxRecDepth 100000
namespace Z
open PySem
section
variable {C : Str → Option D} {wf : Nat} {Γ : Calls} {ρ ρ' : Slots} {st st' : Store}
theorem st_one {s : S} {r : Ss} (h : evS Γ C wf s ρ st = some (.nx ρ' st')) : evSs Γ C wf (.cons s r) ρ st = evSs Γ C wf r ρ' st' := by
  rw [evSs_cons, h]; rfl
theorem st_rt {e : E} {r : Ss} {w : W} (h : ev Γ C e ρ st = some (w, st')) : evSs Γ C wf (.cons (.ret e) r) ρ st = some (.rt w st') := by
  rw [evSs_cons, evS_ret, h]; rfl
theorem asg_mk {e : E} {i : Nat} {xs : List D} (h : ev Γ C e ρ st = some (.f xs, st')) : evS Γ C wf (.asg (.nm i true) e) ρ st = some (.nx (ρ.set i (some (.c st'.length))) (st' ++ [⟨false, xs⟩])) := by
  rw [evS_nm, h]; rfl
theorem asg_d {e : E} {i : Nat} {m : Bool} {x : D} (h : ev Γ C e ρ st = some (.d x, st')) : evS Γ C wf (.asg (.nm i m) e) ρ st = some (.nx (ρ.set i (some (.d x))) st') := by
  rw [evS_nm, h]; rfl
theorem asg_f {e : E} {i : Nat} {xs : List D} (h : ev Γ C e ρ st = some (.f xs, st')) : evS Γ C wf (.asg (.nm i false) e) ρ st = some (.nx (ρ.set i (some (.d (.list xs)))) st') := by
  rw [evS_nm, h]; rfl
theorem exp_one {e : E} {w : W} (h : ev Γ C e ρ st = some (w, st')) : evS Γ C wf (.exp e) ρ st = some (.nx ρ st') := by
  rw [evS_exp, h]; rfl
theorem if_no {c : E} {a : Ss} (h : ev Γ C c ρ st = some (.d (.bool false), st')) : evS Γ C wf (.ifs c a .nil) ρ st = some (.nx ρ st') := by
  rw [evS_ifs, h]; simp
theorem if_yes {c : E} {a b : Ss} {o : Option Out} (h : ev Γ C c ρ st = some (.d (.bool true), st')) (h2 : evSs Γ C wf a ρ st' = o) : evS Γ C wf (.ifs c a b) ρ st = o := by
  rw [evS_ifs, h]; simp [h2]
theorem if_else {c : E} {a b : Ss} {o : Option Out} (h : ev Γ C c ρ st = some (.d (.bool false), st')) (h2 : evSs Γ C wf b ρ st' = o) : evS Γ C wf (.ifs c a b) ρ st = o := by
  rw [evS_ifs, h]; simp [h2]
theorem ext_c {e : E} {i j : Nat} {xs ys : List D} (hi : ρ[i]? = some (some (.c j))) (h : ev Γ C e ρ st = some (.f ys, st')) (hc : st'[j]? = some ⟨false, xs⟩) (hl : xs.length + ys.length ≤ sizeLine) :
    evS Γ C wf (.exp (.me .extend i (.cons e .nil))) ρ st = some (.nx ρ (st'.set j ⟨false, xs ++ ys⟩)) := by
  rw [evS_exp, ev_me, hi]
  simp only [evs_cons, h, evs_nil, Option.bind_some, Option.map_some]
  simp [meF, hc, hl]
theorem app_c {e : E} {i j : Nat} {xs : List D} {w : W} {y : D} {st2 : Store} (hi : ρ[i]? = some (some (.c j))) (h : ev Γ C e ρ st = some (w, st')) (hf : fix st' w = some (y, st2)) (hc : st2[j]? = some ⟨false, xs⟩) (hl : xs.length < sizeLine) :
    evS Γ C wf (.exp (.me .append i (.cons e .nil))) ρ st = some (.nx ρ (st2.set j ⟨false, xs ++ [y]⟩)) := by
  rw [evS_exp, ev_me, hi]
  simp only [evs_cons, h, evs_nil, Option.bind_some, Option.map_some]
  simp only [meF, hf, Option.bind_some, hc]
  simp [hl]
theorem walk_c {i j : Nat} {c : Cell} (hi : ρ[i]? = some (some (.c j))) (hc : st[j]? = some c) :
    evI Γ C (.val (.var i)) ρ st = some (c.xs, st.set j ⟨true, c.xs⟩) := by
  rw [evI_val, ev_var, hi]
  simp [hc]
theorem walk_f {e : E} {xs : List D} (h : ev Γ C e ρ st = some (.f xs, st')) : evI Γ C (.val e) ρ st = some (xs, st') := by
  rw [evI_val, h]; rfl
theorem walk_d {e : E} {x : D} {xs : List D} (h : ev Γ C e ρ st = some (.d x, st')) (hx : itemsOf x = some xs) : evI Γ C (.val e) ρ st = some (xs, st') := by
  rw [evI_val, h]; simp [hx]
theorem call1 {f : Nat} {a : E} {s1 : Store} {w1 : W} {o : Option (W × Store)} (h1 : ev Γ C a ρ st = some (w1, s1)) (h : Γ f [w1] s1 = o) : ev Γ C (.call f (.cons a .nil)) ρ st = o := by
  rw [ev_call]; simp only [evs_cons, h1, evs_nil, Option.bind_some, Option.map_some, h]
theorem call2 {f : Nat} {a b : E} {s1 s2 : Store} {w1 w2 : W} {o : Option (W × Store)} (h1 : ev Γ C a ρ st = some (w1, s1)) (h2 : ev Γ C b ρ s1 = some (w2, s2)) (h : Γ f [w1, w2] s2 = o) : ev Γ C (.call f (.cons a (.cons b .nil))) ρ st = o := by
  rw [ev_call]; simp only [evs_cons, h1, h2, evs_nil, Option.bind_some, Option.map_some, h]
theorem call3 {f : Nat} {a b c : E} {s1 s2 s3 : Store} {w1 w2 w3 : W} {o : Option (W × Store)} (h1 : ev Γ C a ρ st = some (w1, s1)) (h2 : ev Γ C b ρ s1 = some (w2, s2)) (h3 : ev Γ C c ρ s2 = some (w3, s3)) (h : Γ f [w1, w2, w3] s3 = o) : ev Γ C (.call f (.cons a (.cons b (.cons c .nil)))) ρ st = o := by
  rw [ev_call]; simp only [evs_cons, h1, h2, h3, evs_nil, Option.bind_some, Option.map_some, h]
theorem var_at {i : Nat} {w : W} (h : ρ[i]? = some (some w)) : ev Γ C (.var i) ρ st = some (w, st) := by
  rw [ev_var, h]
theorem bin_ii {o : BOp} {a b : E} {s1 s2 : Store} {i j k : Int} (h1 : ev Γ C a ρ st = some (.d (.int i), s1)) (h2 : ev Γ C b ρ s1 = some (.d (.int j), s2)) (h : binF o (.int i) (.int j) = some (.d (.int k))) : ev Γ C (.bin o a b) ρ st = some (.d (.int k), s2) := by
  rw [ev_bin, h1]; simp only [Option.bind_some, h2, rd_d, h, Option.map_some]
theorem bin_any {o : BOp} {a b : E} {s1 s2 : Store} {u v w : W} {x y : D} (h1 : ev Γ C a ρ st = some (u, s1)) (h2 : ev Γ C b ρ s1 = some (v, s2)) (hu : rd s2 u = some x) (hv : rd s2 v = some y) (h : binF o x y = some w) : ev Γ C (.bin o a b) ρ st = some (w, s2) := by
  rw [ev_bin, h1]; simp only [Option.bind_some, h2, hu, hv, h, Option.map_some]
theorem cmp_dd {o : COp} {a b : E} {s1 s2 : Store} {u v : W} {x y : D} {k : Bool} (h1 : ev Γ C a ρ st = some (u, s1)) (h2 : ev Γ C b ρ s1 = some (v, s2)) (hu : rd s2 u = some x) (hv : rd s2 v = some y) (h : cmpF o x y = some k) : ev Γ C (.cmp o a b) ρ st = some (.d (.bool k), s2) := by
  rw [ev_cmp, h1]; simp only [Option.bind_some, h2, hu, hv, h, Option.map_some]
theorem not_b {a : E} {k : Bool} (h : ev Γ C a ρ st = some (.d (.bool k), st')) : ev Γ C (.not a) ρ st = some (.d (.bool (!k)), st') := by
  rw [ev_not, h]; simp
theorem lst_ok {es : Es} {ds : List D} (h : evD Γ C es ρ st = some (ds, st')) (hl : ds.length ≤ sizeLine) : ev Γ C (.lst es) ρ st = some (.f ds, st') := by
  rw [ev_lst, h]; simp [hl]
theorem tup_ok {es : Es} {ds : List D} (h : evD Γ C es ρ st = some (ds, st')) (hl : ds.length ≤ sizeLine) : ev Γ C (.tup es) ρ st = some (.d (.tuple ds), st') := by
  rw [ev_tup, h]; simp [hl]
theorem evD_c {e : E} {r : Es} {w : W} {s1 s2 s3 : Store} {d : D} {ds : List D} (h1 : ev Γ C e ρ st = some (w, s1)) (h2 : fix s1 w = some (d, s2)) (h3 : evD Γ C r ρ s2 = some (ds, s3)) : evD Γ C (.cons e r) ρ st = some (d :: ds, s3) := by
  rw [evD_cons, h1]; simp only [Option.bind_some, h2, h3, Option.map_some]
theorem evs_c {e : E} {r : Es} {w : W} {s1 s3 : Store} {ws : List W} (h1 : ev Γ C e ρ st = some (w, s1)) (h3 : evs Γ C r ρ s1 = some (ws, s3)) : evs Γ C (.cons e r) ρ st = some (w :: ws, s3) := by
  rw [evs_cons, h1]; simp only [Option.bind_some, h3, Option.map_some]
theorem repr_at {e : E} {w : W} {x : D} (h : ev Γ C e ρ st = some (w, st')) (hr : rd st' w = some x) (hx : reprOk x = true) : ev Γ C (.bi .repr (.cons e .nil)) ρ st = some (.d (.str x.shown), st') := by
  rw [ev_bi]; simp [h, hr, hx]
theorem pot_set {j : Nat} {c : Cell} (h : Pot st) (hj : j ≠ 0) : Pot (st.set j c) := by
  obtain ⟨d, h1, h2⟩ := h
  exact ⟨d, by rw [List.getElem?_set_ne (by omega)]; exact h1, h2⟩
theorem pot_len (h : Pot st) : 1 ≤ st.length := by
  obtain ⟨d, h1, h2⟩ := h
  have := (List.getElem?_eq_some_iff.mp h1).1
  omega
end
theorem get1 {s : Store} {a : Cell} : (s ++ [a])[s.length]? = some a := by simp
theorem get2 {s : Store} {a b : Cell} : (s ++ [a] ++ [b])[s.length + 1]? = some b := by
  rw [List.getElem?_append_right (by simp)]
  simp
theorem tk1 {s a : Store} {k : Nat} (h : s.length = k) : (s ++ a).take k = s := by rw [← h]; exact List.take_left
theorem pot_app {s a : Store} (h : Pot s) : Pot (s ++ a) := by
  obtain ⟨c, h1, h2⟩ := h
  exact ⟨c, by rw [List.getElem?_append_left (List.getElem?_eq_some_iff.mp h1).1]; exact h1, h2⟩
/-- what stands behind is dropped -/
theorem same_take {st s : Store} (hp : Pot s) (hl : st.length ≤ s.length) (h0 : 1 ≤ st.length) (h : ∀ i, i ≠ 0 → i < st.length → s[i]? = st[i]?) : Same st (s.take st.length) := by
  refine ⟨by rw [List.length_take]; omega, fun i hi => ?_, ?_⟩
  · by_cases hk : i < st.length
    · rw [List.getElem?_take, if_pos hk, h i hi hk]
    · rw [List.getElem?_eq_none (by rw [List.length_take]; omega), List.getElem?_eq_none (by omega)]
  · obtain ⟨d, h1, h2⟩ := hp
    exact ⟨d, by rw [List.getElem?_take, if_pos (by omega)]; exact h1, h2⟩
theorem Same.pot0 {a b : Store} (h : Same a b) : 1 ≤ a.length := by
  have := pot_len h.pot
  have := h.len
  omega
/-- a local list beside the pot is dropped -/
theorem same_drop {st s3 st4 : Store} {c c' : Cell} (h : Same st s3) (k : Same (s3 ++ [c]) st4) : Same st ((st4.set s3.length c').take st.length) := by
  have hl4 : st4.length = s3.length + 1 := by have := k.len; simpa using this
  have h0 := h.pot0
  refine same_take (pot_set k.pot ?_) ?_ h0 fun i hi hk => ?_
  · have := h.len; omega
  · rw [List.length_set]; have := h.len; omega
  · rw [List.getElem?_set_ne (by have := h.len; omega), k.off i hi, List.getElem?_append_left (by have := h.len; omega), h.off i hi]
theorem ok_wider {w b : Nat} : ∀ (k : Nat) (v : D), okD w b k v → okD (w + 1) b k v := by
  intro k
  induction k with
  | zero => intro v h; cases v <;> first | exact h | exact h.elim
  | succ k ih =>
    intro v h
    cases v with
    | list xs => exact ⟨Nat.le_succ_of_le h.1, fun x hx => ih x (h.2 x hx)⟩
    | tuple xs => exact ⟨Nat.le_succ_of_le h.1, fun x hx => ih x (h.2 x hx)⟩
    | _ => exact h
theorem szk (k : Nat) (h : k ≤ 1000) : k ≤ sizeLine := by rw [szl]; omega
/-- whole numbers of up to eighteen figures may be shown -/
theorem ok_int18 {w b k : Nat} {i : Int} (h : -1000000000000000000 ≤ i ∧ i ≤ 1000000000000000000) (hb : 21 ≤ b) : okD w b k (.int i) := by
  have key : i.natAbs.log2 < 1920 ∧ (PyData.shown (.int i)).length ≤ b := by
    constructor
    · have h1 : i.natAbs < 2 ^ 61 := by omega
      have h2 : i.natAbs.log2 < 61 := by
        by_cases h0 : i.natAbs = 0
        · rw [h0]; decide
        · exact (Nat.log2_lt h0).mpr h1
      omega
    · rw [PyData.shown]
      have h1 := int_text_length_le10 (a := i) (k := 19) (by decide) (by omega)
      show (Str.ofString (toString i)).length ≤ b
      rw [ofString_length]
      omega
  cases k <;> exact key
/-- a value is itself -/
theorem eq_self {x : D} (h : SeqAt.shaped x = true) (hs : ∀ a, x ≠ .str a) : cmpF .eq x x = some true := by
  have e := cmpF_eq_gen (x := x) (y := x) fun a b ha _ => hs a ha
  rw [e, h, Bool.and_self, if_pos rfl, SeqAt.eqv_refl x (SeqAt.canLay_of_shaped h)]
theorem eqB (x y : D) (hx : SeqAt.shaped x = true) (hy : SeqAt.shaped y = true) (hs : ∀ a, x ≠ .str a) : cmpF .eq x y = some (PyData.eqv x y) := by
  rw [cmpF_eq_gen (x := x) (y := y) fun a b ha _ => hs a ha, hx, hy]; rfl
theorem neB (x y : D) (hx : SeqAt.shaped x = true) (hy : SeqAt.shaped y = true) (hs : ∀ a, x ≠ .str a) : cmpF .ne x y = some (!PyData.eqv x y) := by
  rw [cmpF_ne_gen (x := x) (y := y) fun a b ha _ => hs a ha, hx, hy]; rfl
end Z
/-! ZFrc: fractions: their least form, by math.gcd and by the law's own turns. -/
set_option linter.all false
set_option autoImplicit false
set_option maxHeartbeats 4000000
set_option maxRecDepth 100000
namespace Z
open PySem
/-- a fraction's least form; its lower part above 0 -/
def frP (t b : Int) : Int × Int := (t / (Nat.gcd t.natAbs b.natAbs : Nat), b / (Nat.gcd t.natAbs b.natAbs : Nat))
def frD (p : Int × Int) : D := .tuple [.int p.1, .int p.2]
def lessP (p q : Int × Int) : Bool := decide (p.1 * q.2 < q.1 * p.2)
def F_fraction : Fn := ⟨[false, false], 4,
  .cons (.asg (.nm 2 false) (.ife (.cmp .gt (.var 1) (.int 0)) (.int 1) (.neg (.int 1)))) (.cons (.asg (.nm 3 false) (.gcd (.var 0) (.var 1))) (.cons (.ret (.tup (.cons (.bin .fdiv (.bin .mul (.var 2) (.var 0)) (.var 3)) (.cons (.bin .fdiv (.bin .mul (.var 2) (.var 1)) (.var 3)) (.nil))))) (.nil)))⟩
def F_is_less : Fn := ⟨[false, false], 2,
  .cons (.ret (.cmp .lt (.bin .mul (.idx (.var 0) (.int 0)) (.idx (.var 1) (.int 1))) (.bin .mul (.idx (.var 1) (.int 0)) (.idx (.var 0) (.int 1))))) (.nil)⟩
def F_law_low : Fn := ⟨[false, false], 5,
  .cons (.par [(3, false), (4, false)] (.cons (.bi .abs (.cons (.var 0) (.nil))) (.cons (.bi .abs (.cons (.var 1) (.nil))) (.nil)))) (.cons (.whl (.cmp .gt (.var 4) (.int 0)) (.cons (.par [(3, false), (4, false)] (.cons (.var 4) (.cons (.bin .mod (.bi .int (.cons (.var 3) (.nil))) (.var 4)) (.nil)))) (.nil))) (.cons (.asg (.nm 2 false) (.ife (.cmp .gt (.var 1) (.int 0)) (.int 1) (.neg (.int 1)))) (.cons (.ret (.tup (.cons (.bin .fdiv (.bin .mul (.var 2) (.var 0)) (.bi .max (.cons (.int 1) (.cons (.var 3) (.nil))))) (.cons (.bin .fdiv (.bin .mul (.var 2) (.var 1)) (.bi .max (.cons (.int 1) (.cons (.var 3) (.nil))))) (.nil))))) (.nil))))⟩
def F_law_plus : Fn := ⟨[false, false], 2,
  .cons (.ret (.call 101 (.cons (.bin .add (.bin .mul (.idx (.var 0) (.int 0)) (.idx (.var 1) (.int 1))) (.bin .mul (.idx (.var 1) (.int 0)) (.idx (.var 0) (.int 1)))) (.cons (.bin .mul (.idx (.var 0) (.int 1)) (.idx (.var 1) (.int 1))) (.nil))))) (.nil)⟩
/-! ### plain -/
theorem gcd_pos {t b : Int} (hb : 0 < b) : 0 < Nat.gcd t.natAbs b.natAbs := Nat.gcd_pos_of_pos_right _ (by omega)
theorem gcd_le {t b : Int} (hb : 0 < b) : ((Nat.gcd t.natAbs b.natAbs : Nat) : Int) ≤ b := by
  have := Nat.gcd_le_right t.natAbs (n := b.natAbs) (by omega)
  omega
theorem gcd_t (t b : Int) : ((Nat.gcd t.natAbs b.natAbs : Nat) : Int) * (t / (Nat.gcd t.natAbs b.natAbs : Nat)) = t :=
  Int.mul_ediv_cancel' (Int.ofNat_dvd_left.mpr (Nat.gcd_dvd_left _ _))
theorem gcd_b (t b : Int) : ((Nat.gcd t.natAbs b.natAbs : Nat) : Int) * (b / (Nat.gcd t.natAbs b.natAbs : Nat)) = b :=
  Int.mul_ediv_cancel' (Int.ofNat_dvd_left.mpr (Nat.gcd_dvd_right _ _))
theorem fr_pos {t b : Int} (hb : 0 < b) : 0 < (frP t b).2 := by
  have h1 := gcd_b t b
  have h2 := gcd_pos (t := t) hb
  show 0 < b / _
  by_cases h : 0 < b / ((Nat.gcd t.natAbs b.natAbs : Nat) : Int)
  · exact h
  · have h4 : ((Nat.gcd t.natAbs b.natAbs : Nat) : Int) * (b / (Nat.gcd t.natAbs b.natAbs : Nat)) ≤ 0 := Int.mul_nonpos_of_nonneg_of_nonpos (by omega) (by omega)
    omega
theorem fr_le {t b : Int} (hb : 0 < b) : (frP t b).2 ≤ b := Int.ediv_le_self _ (by omega)
theorem fr_top {t b m : Int} (h : -m ≤ t ∧ t ≤ m) : -m ≤ (frP t b).1 ∧ (frP t b).1 ≤ m := by
  have h1 : ((frP t b).1).natAbs ≤ t.natAbs := by
    show (t / ((Nat.gcd t.natAbs b.natAbs : Nat) : Int)).natAbs ≤ t.natAbs
    exact Int.natAbs_ediv_le_natAbs t _
  omega
theorem less_fr {t b t2 : Int} (hb : 0 < b) : lessP (frP t b) (frP t2 b) = decide (t < t2) := by
  have g1 := gcd_pos (t := t) hb
  have g2 := gcd_pos (t := t2) hb
  have a1 := gcd_t t b
  have a2 := gcd_b t b
  have a3 := gcd_t t2 b
  have a4 := gcd_b t2 b
  unfold lessP frP
  simp only
  generalize hG : ((Nat.gcd t.natAbs b.natAbs : Nat) : Int) = G at *
  generalize hK : ((Nat.gcd t2.natAbs b.natAbs : Nat) : Int) = K at *
  have pG : 0 < G := by omega
  have pK : 0 < K := by omega
  generalize hx : t / G = x at *
  generalize hy : b / G = y at *
  generalize hz : t2 / K = z at *
  generalize hw : b / K = w at *
  have e1 : G * K * (x * w) = t * b := by rw [← a1, ← a4]; simp only [Int.mul_assoc, Int.mul_left_comm, Int.mul_comm]
  have e2 : G * K * (z * y) = t2 * b := by rw [← a3]; conv => rhs; rw [← a2]
                                           simp only [Int.mul_assoc, Int.mul_left_comm, Int.mul_comm]
  have pGK : 0 < G * K := Int.mul_pos pG pK
  by_cases h : t < t2
  · rw [decide_eq_true h]
    apply decide_eq_true
    have : t * b < t2 * b := Int.mul_lt_mul_of_pos_right h hb
    rw [← e1, ← e2] at this
    exact Int.lt_of_mul_lt_mul_left this (Int.le_of_lt pGK)
  · rw [decide_eq_false h]
    apply decide_eq_false
    intro k
    have k2 : G * K * (x * w) < G * K * (z * y) := Int.mul_lt_mul_of_pos_left k pGK
    rw [e1, e2] at k2
    exact h (Int.lt_of_mul_lt_mul_right k2 (Int.le_of_lt hb))
/-! ### the texts -/
section
variable {C : Str → Option D} {wf n : Nat} {Fs : List (Nat × Fn)} {st : Store}
theorem tup2 {x y : D} {Γ : Calls} {ρ : Slots} {st1 st2 : Store} {a b : E} (h1 : ev Γ C a ρ st = some (.d x, st1)) (h2 : ev Γ C b ρ st1 = some (.d y, st2)) : ev Γ C (.tup (.cons a (.cons b .nil))) ρ st = some (.d (.tuple [x, y]), st2) :=
  tup_ok (evD_c h1 rfl (evD_c h2 rfl evD_nil)) (szk _ (by simp))
theorem fraction_ok (h : Fs.lookup 22 = some F_fraction) {t b : Int} (hb : 0 < b ∧ b < 1073741824) : evCall C wf Fs (n + 1) 22 [.d (.int t), .d (.int b)] st = some (.d (frD (frP t b)), st) := by
  have g1 := gcd_pos (t := t) hb.1
  have g2 := gcd_le (t := t) hb.1
  have gg : 0 < ((Nat.gcd t.natAbs b.natAbs : Nat) : Int) ∧ ((Nat.gcd t.natAbs b.natAbs : Nat) : Int) < 1073741824 := by omega
  have dv : ∀ x : Int, binF .fdiv (.int x) (.int ((Nat.gcd t.natAbs b.natAbs : Nat) : Int)) = some (.d (.int (x / (Nat.gcd t.natAbs b.natAbs : Nat)))) := fun x => by rw [binF_div, if_pos gg]
  have ml : ∀ x : Int, binF .mul (.int 1) (.int x) = some (.d (.int x)) := fun x => by rw [binF_mulI, lit_ok (i := 1) (by decide), Bool.true_or, if_pos rfl, Int.one_mul]
  rw [evCall, h, Option.bind_some, F_fraction]
  simp only [enter_d, enter_nil, Option.map_some, Option.bind_some, List.map_cons, List.map_nil, List.length_cons, List.length_nil, List.replicate, List.cons_append, List.nil_append, Nat.reduceAdd, Nat.reduceSub]
  rw [st_one (ρ' := [some (.d (.int t)), some (.d (.int b)), some (.d (.int 1)), none]) (st' := st) (by simp [hb.1])]
  rw [st_one (ρ' := [some (.d (.int t)), some (.d (.int b)), some (.d (.int 1)), some (.d (.int ((Nat.gcd t.natAbs b.natAbs : Nat) : Int)))]) (st' := st) (asg_d (by simp))]
  rw [st_rt (tup2 (bin_ii (bin_ii (var_at rfl) (var_at rfl) (ml t)) (var_at rfl) (dv t)) (bin_ii (bin_ii (var_at rfl) (var_at rfl) (ml b)) (var_at rfl) (dv b)))]
  simp only [Option.bind_some, leave_d, List.take_length]
  rfl
theorem idx0 {Γ : Calls} {ρ : Slots} {i : Nat} {p : Int × Int} (h : ρ[i]? = some (some (.d (frD p)))) : ev Γ C (.idx (.var i) (.int 0)) ρ st = some (.d (.int p.1), st) := by
  rw [ev_idx, var_at h]; rfl
theorem idx1 {Γ : Calls} {ρ : Slots} {i : Nat} {p : Int × Int} (h : ρ[i]? = some (some (.d (frD p)))) : ev Γ C (.idx (.var i) (.int 1)) ρ st = some (.d (.int p.2), st) := by
  rw [ev_idx, var_at h]; rfl
theorem mul_r {i j : Int} (h : -18446744073709551616 < j ∧ j < 18446744073709551616) : binF .mul (.int i) (.int j) = some (.d (.int (i * j))) := by
  rw [binF_mulI, lit_ok h, Bool.or_true, if_pos rfl]
theorem mul_l {i j : Int} (h : -18446744073709551616 < i ∧ i < 18446744073709551616) : binF .mul (.int i) (.int j) = some (.d (.int (i * j))) := by
  rw [binF_mulI, lit_ok h, Bool.true_or, if_pos rfl]
abbrev sml (j : Int) : Prop := -18446744073709551616 < j ∧ j < 18446744073709551616
theorem less_ok {f : Nat} (h : Fs.lookup f = some F_is_less) {p q : Int × Int} (hp : sml p.2) (hq : sml q.2) : evCall C wf Fs (n + 1) f [.d (frD p), .d (frD q)] st = some (.d (.bool (lessP p q)), st) := by
  rw [evCall, h, Option.bind_some, F_is_less]
  simp only [enter_d, enter_nil, Option.map_some, Option.bind_some, List.map_cons, List.map_nil, List.length_cons, List.length_nil, List.replicate, List.cons_append, List.nil_append, Nat.reduceAdd, Nat.reduceSub]
  rw [st_rt (cmp_dd (bin_ii (idx0 rfl) (idx1 rfl) (mul_r hq)) (bin_ii (idx0 rfl) (idx1 rfl) (mul_r hp)) rfl rfl rfl)]
  simp only [Option.bind_some, leave_d, List.take_length]
  rfl
/-! ### the law's own turns -/
abbrev euB : Ss := (.cons (.par [(3, false), (4, false)] (.cons (.var 4) (.cons (.bin .mod (.bi .int (.cons (.var 3) (.nil))) (.var 4)) (.nil)))) (.nil))
theorem eu_step {Γ : Calls} {x0 x1 x2 : Option W} {a c : Nat} (hc : 0 < c) : evSs Γ C wf euB [x0, x1, x2, some (.d (.int (a : Int))), some (.d (.int (c : Int)))] st = some (.nx [x0, x1, x2, some (.d (.int (c : Int))), some (.d (.int ((a % c : Nat) : Int)))] st) := by
  have md : binF .mod (.int (a : Int)) (.int (c : Int)) = some (.d (.int ((a % c : Nat) : Int))) := by
    rw [binF_mod, if_pos (by omega)]; rfl
  rw [euB, st_one (ρ' := [x0, x1, x2, some (.d (.int (c : Int))), some (.d (.int ((a % c : Nat) : Int)))]) (st' := st)]
  · simp
  · rw [evS_par, evs_c (var_at rfl) (evs_c (bin_ii (i := (a : Int)) (s1 := st) (by simp) (var_at rfl) md) evs_nil)]
    rfl
def euT (Γ : Calls) (C : Str → Option D) : Slots → Store → Option (Bool × Store) := fun ρ st => (ev Γ C (.cmp .gt (.var 4) (.int 0)) ρ st).bind fun p => ((rd p.2 p.1).bind truth).map fun k => (k, p.2)
theorem eu_test {Γ : Calls} {x0 x1 x2 x3 : Option W} {c : Nat} : euT Γ C [x0, x1, x2, x3, some (.d (.int (c : Int)))] st = some (decide (0 < c), st) := by
  rw [euT, cmp_dd (x := .int (c : Int)) (y := .int 0) (var_at rfl) ev_int rfl rfl rfl]
  simp
theorem eu_loop {Γ : Calls} {x0 x1 x2 : Option W} : ∀ (k a c m : Nat), c ≤ a → a * c < 2 ^ k → loopW (euT Γ C) (fun ρ st => evSs Γ C wf euB ρ st) (k + 1 + m) [x0, x1, x2, some (.d (.int (a : Int))), some (.d (.int (c : Int)))] st
    = some (.nx [x0, x1, x2, some (.d (.int ((Nat.gcd a c : Nat) : Int))), some (.d (.int 0))] st)
  | k, a, c, m, h1, h2 => by
    have e : k + 1 + m = (k + m) + 1 := by omega
    rw [e, loopW, eu_test]
    by_cases hc : 0 < c
    · simp only [Option.bind_some, decide_eq_true hc, if_true, eu_step hc]
      cases k with
      | zero =>
        have : 1 ≤ a * c := Nat.mul_pos (by omega) hc
        simp at h2
        omega
      | succ k =>
        have e2 : k + 1 + m = k + 1 + m := rfl
        have hm : a % c < c := Nat.mod_lt _ hc
        have hd : c + a % c ≤ a := by
          have := Nat.div_add_mod a c
          have h3 : 1 ≤ a / c := Nat.div_pos h1 hc
          have h4 : c * 1 ≤ c * (a / c) := Nat.mul_le_mul_left _ h3
          omega
        have hp : c * (a % c) < 2 ^ k := by
          have h5 : 2 * (a % c) ≤ a := by omega
          have h6 : c * (2 * (a % c)) ≤ c * a := Nat.mul_le_mul_left _ h5
          have h7 : c * (2 * (a % c)) = 2 * (c * (a % c)) := by simp only [Nat.mul_left_comm]
          have h8 : c * a = a * c := Nat.mul_comm _ _
          rw [Nat.pow_succ] at h2
          omega
        have ih := eu_loop (Γ := Γ) (x0 := x0) (x1 := x1) (x2 := x2) k c (a % c) m (by omega) hp
        rw [ih]
        have : Nat.gcd a c = Nat.gcd c (a % c) := by rw [Nat.gcd_comm a c, Nat.gcd_rec c a, Nat.gcd_comm]
        rw [this]
    · have z : c = 0 := by omega
      subst z
      simp
theorem eu_all {Γ : Calls} {x0 x1 x2 : Option W} {a c : Nat} (hw : 100 ≤ wf) (hc : c < 1073741824) : evS Γ C wf (.whl (.cmp .gt (.var 4) (.int 0)) euB) [x0, x1, x2, some (.d (.int (a : Int))), some (.d (.int (c : Int)))] st
    = some (.nx [x0, x1, x2, some (.d (.int ((Nat.gcd a c : Nat) : Int))), some (.d (.int 0))] st) := by
  rw [evS]
  show loopW (euT Γ C) (fun ρ st => evSs Γ C wf euB ρ st) wf _ st = _
  obtain ⟨m, rfl⟩ : ∃ m, wf = (60 + 1 + m) + 1 := ⟨wf - 62, by omega⟩
  by_cases h0 : 0 < c
  · rw [loopW, eu_test]
    simp only [Option.bind_some, decide_eq_true h0, if_true, eu_step h0]
    have hm : a % c < c := Nat.mod_lt _ h0
    have hp : c * (a % c) < 2 ^ 60 := by
      have h1 : c * (a % c) ≤ c * c := Nat.mul_le_mul_left _ (by omega)
      have h2 : c * c ≤ 1073741823 * 1073741823 := Nat.mul_le_mul (by omega) (by omega)
      omega
    rw [eu_loop 60 c (a % c) m (by omega) hp]
    have : Nat.gcd a c = Nat.gcd c (a % c) := by rw [Nat.gcd_comm a c, Nat.gcd_rec c a, Nat.gcd_comm]
    rw [this]
  · have z : c = 0 := by omega
    subst z
    rw [loopW, eu_test]
    simp
theorem low_ok (h : Fs.lookup 101 = some F_law_low) (hw : 100 ≤ wf) {t b : Int} (hb : 0 < b ∧ b < 1073741824) : evCall C wf Fs (n + 1) 101 [.d (.int t), .d (.int b)] st = some (.d (frD (frP t b)), st) := by
  have g1 := gcd_pos (t := t) hb.1
  have g2 := gcd_le (t := t) hb.1
  have gg : 0 < ((Nat.gcd t.natAbs b.natAbs : Nat) : Int) ∧ ((Nat.gcd t.natAbs b.natAbs : Nat) : Int) < 1073741824 := by omega
  have dv : ∀ x : Int, binF .fdiv (.int x) (.int ((Nat.gcd t.natAbs b.natAbs : Nat) : Int)) = some (.d (.int (x / (Nat.gcd t.natAbs b.natAbs : Nat)))) := fun x => by rw [binF_div, if_pos gg]
  have ml : ∀ x : Int, binF .mul (.int 1) (.int x) = some (.d (.int x)) := fun x => by rw [mul_l (by decide), Int.one_mul]
  have ab : ∀ x : Int, (if x < 0 then -x else x) = (x.natAbs : Int) := fun x => by split <;> omega
  rw [evCall, h, Option.bind_some, F_law_low]
  simp only [enter_d, enter_nil, Option.map_some, Option.bind_some, List.map_cons, List.map_nil, List.length_cons, List.length_nil, List.replicate, List.cons_append, List.nil_append, Nat.reduceAdd, Nat.reduceSub]
  rw [st_one (ρ' := [some (.d (.int t)), some (.d (.int b)), none, some (.d (.int (t.natAbs : Int))), some (.d (.int (b.natAbs : Int)))]) (st' := st) (by
    rw [evS_par, evs_c (w := .d (.int (t.natAbs : Int))) (s1 := st) (by simp [ab]) (evs_c (w := .d (.int (b.natAbs : Int))) (s1 := st) (by simp [ab]) evs_nil)]; rfl)]
  rw [st_one (eu_all hw (by omega))]
  rw [st_one (ρ' := [some (.d (.int t)), some (.d (.int b)), some (.d (.int 1)), some (.d (.int ((Nat.gcd t.natAbs b.natAbs : Nat) : Int))), some (.d (.int 0))]) (st' := st) (by simp [hb.1])]
  have mx : ∀ {Γ : Calls}, ev Γ C (.bi .max (.cons (.int 1) (.cons (.var 3) (.nil)))) [some (.d (.int t)), some (.d (.int b)), some (.d (.int 1)), some (.d (.int ((Nat.gcd t.natAbs b.natAbs : Nat) : Int))), some (.d (.int 0))] st = some (.d (.int ((Nat.gcd t.natAbs b.natAbs : Nat) : Int)), st) := by
    intro Γ
    rw [ev_bi, evs_c ev_int (evs_c (var_at rfl) evs_nil)]
    simp only [Option.bind_some, rds_cons, rd_d, rds_nil, Option.map_some, biF_max2]
    have z : (if ((Nat.gcd t.natAbs b.natAbs : Nat) : Int) > 1 then ((Nat.gcd t.natAbs b.natAbs : Nat) : Int) else 1) = ((Nat.gcd t.natAbs b.natAbs : Nat) : Int) := by split <;> omega
    rw [z]
  rw [st_rt (tup2 (bin_ii (bin_ii (var_at rfl) (var_at rfl) (ml t)) mx (dv t)) (bin_ii (bin_ii (var_at rfl) (var_at rfl) (ml b)) mx (dv b)))]
  simp only [Option.bind_some, leave_d, List.take_length]
  rfl
theorem plus_ok (h1 : Fs.lookup 101 = some F_law_low) (h : Fs.lookup 80 = some F_law_plus) (hw : 100 ≤ wf) {p q : Int × Int} (hp : 0 < p.2) (hq : 0 < q.2) (hpq : p.2 * q.2 < 1073741824) (hp3 : p.2 < 1073741824) (hq3 : q.2 < 1073741824) : evCall C wf Fs (n + 2) 80 [.d (frD p), .d (frD q)] st = some (.d (frD (frP (p.1 * q.2 + q.1 * p.2) (p.2 * q.2))), st) := by
  rw [evCall, h, Option.bind_some, F_law_plus]
  simp only [enter_d, enter_nil, Option.map_some, Option.bind_some, List.map_cons, List.map_nil, List.length_cons, List.length_nil, List.replicate, List.cons_append, List.nil_append, Nat.reduceAdd, Nat.reduceSub]
  have hl := low_ok (C := C) (wf := wf) (n := n) (st := st) h1 hw (t := p.1 * q.2 + q.1 * p.2) (b := p.2 * q.2) ⟨Int.mul_pos hp hq, hpq⟩
  rw [st_rt (call2 (bin_ii (bin_ii (idx0 rfl) (idx1 rfl) (mul_r (by omega))) (bin_ii (idx0 rfl) (idx1 rfl) (mul_r (by omega))) rfl) (bin_ii (idx1 rfl) (idx1 rfl) (mul_r (by omega))) hl)]
  simp only [Option.bind_some, leave_d, List.take_length]
end
end Z
/-! ZPol: polynomials: lists of whole numbers and None; their value at a fraction. -/
set_option linter.all false
set_option autoImplicit false
set_option maxHeartbeats 4000000
set_option maxRecDepth 100000
namespace Z
open PySem
def od : Option Int → D
  | none => .none
  | some i => .int i
abbrev dP (P : List (Option Int)) : D := .tuple (P.map od)
def nxtP (f : Option (Int × Int)) (g : Int × Int) : Option (Int × Int) := match f with
  | none => some g
  | some e => if lessP e g then some g else some e
def valL (p : Int × Int) : Nat → List (Option Int) → Option (Int × Int) → Option (Int × Int)
  | _, [], f => f
  | at_, none :: r, f => valL p (at_ + 1) r f
  | at_, some c :: r, f => valL p (at_ + 1) r (nxtP f (frP (c * p.2 + at_ * p.1) p.2))
def oF : Option (Int × Int) → D
  | none => .none
  | some p => frD p
/-- a point -/
def ptOk (p : Int × Int) : Prop := 1 ≤ p.2 ∧ p.2 ≤ 999999999
def finOk (p : Int × Int) (f : Option (Int × Int)) : Prop := ∀ e, f = some e → 0 < e.2 ∧ e.2 ≤ p.2
theorem nxt_ok {p g : Int × Int} {f : Option (Int × Int)} (h : finOk p f) (hg : 0 < g.2 ∧ g.2 ≤ p.2) : finOk p (nxtP f g) := by
  intro e he
  cases f with
  | none => cases he; exact hg
  | some e0 =>
    simp only [nxtP] at he
    split at he
    · cases he; exact hg
    · cases he; exact h _ rfl
theorem fr_fin {t : Int} {p : Int × Int} (h : ptOk p) : 0 < (frP t p.2).2 ∧ (frP t p.2).2 ≤ p.2 := ⟨fr_pos (by have := h.1; omega), fr_le (by have := h.1; omega)⟩
theorem val_fin {p : Int × Int} (hp : ptOk p) : ∀ (P : List (Option Int)) (a : Nat) (f : Option (Int × Int)), finOk p f → finOk p (valL p a P f)
  | [], _, f, h => h
  | none :: r, a, f, h => val_fin hp r (a + 1) f h
  | some c :: r, a, f, h => val_fin hp r (a + 1) _ (nxt_ok h (fr_fin hp))
/-! ### small steps -/
section
variable {C : Str → Option D} {wf n : Nat} {Γ : Calls} {ρ : Slots} {st : Store}
theorem or2 {a b : E} {k1 k2 : Bool} (h1 : ev Γ C a ρ st = some (.d (.bool k1), st)) (h2 : k1 = false → ev Γ C b ρ st = some (.d (.bool k2), st)) : ev Γ C (.or (.cons a (.cons b .nil))) ρ st = some (.d (.bool (k1 || k2)), st) := by
  rw [ev_or, evO_cons, h1]
  cases k1 with
  | true => simp
  | false => simp [h2 rfl]
theorem and2 {a b : E} {k1 k2 : Bool} (h1 : ev Γ C a ρ st = some (.d (.bool k1), st)) (h2 : k1 = true → ev Γ C b ρ st = some (.d (.bool k2), st)) : ev Γ C (.and (.cons a (.cons b .nil))) ρ st = some (.d (.bool (k1 && k2)), st) := by
  rw [ev_and, evA_cons, h1]
  cases k1 with
  | false => simp
  | true => simp [h2 rfl]
theorem ife_b {c a b : E} {k : Bool} {st1 : Store} {o : Option (W × Store)} (h1 : ev Γ C c ρ st = some (.d (.bool k), st1)) (h2 : k = true → ev Γ C a ρ st1 = o) (h3 : k = false → ev Γ C b ρ st1 = o) : ev Γ C (.ife c a b) ρ st = o := by
  rw [ev_ife, h1]
  cases k with
  | true => simp [h2 rfl]
  | false => simp [h3 rfl]
theorem is_none {a : E} {x : D} {st1 : Store} (h : ev Γ C a ρ st = some (.d x, st1)) : ev Γ C (.cmp .isN a .non) ρ st = some (.d (.bool (isNone x)), st1) := cmp_dd h ev_non rfl rfl rfl
theorem isnt_none {a : E} {x : D} {st1 : Store} (h : ev Γ C a ρ st = some (.d x, st1)) : ev Γ C (.cmp .isnotN a .non) ρ st = some (.d (.bool (!isNone x)), st1) := cmp_dd h ev_non rfl rfl rfl
theorem all_lc {e : E} {xs : List D} {g : D → Bool} {st1 : Store} (h : ev Γ C e ρ st = some (.f (xs.map fun x => .bool (g x)), st1)) : ev Γ C (.bi .all (.cons e .nil)) ρ st = some (.d (.bool (xs.all g)), st1) := by
  rw [ev_bi, evs_c h evs_nil]
  simp only [Option.bind_some, rds_cons, rd_f, rds_nil, Option.map_some, biF_all, all_map, all_id]
theorem any_id {xs : List D} {g : D → Bool} : (xs.map g).any id = xs.any g := by
  induction xs with
  | nil => rfl
  | cons x xs ih => simp [ih]
theorem any_lc {e : E} {xs : List D} {g : D → Bool} {st1 : Store} (h : ev Γ C e ρ st = some (.f (xs.map fun x => .bool (g x)), st1)) : ev Γ C (.bi .any (.cons e .nil)) ρ st = some (.d (.bool (xs.any g)), st1) := by
  rw [ev_bi, evs_c h evs_nil]
  simp only [Option.bind_some, rds_cons, rd_f, rds_nil, Option.map_some, biF_any, all_map, any_id]
theorem isNone_oF (f : Option (Int × Int)) : isNone (oF f) = f.isNone := by cases f <;> rfl
theorem isNone_od (f : Option Int) : isNone (od f) = f.isNone := by cases f <;> rfl
/-- found = one if found is None or less(found, one) else found -/
theorem nxt_step {less i j : Nat} {f : Option (Int × Int)} {g : Int × Int} {p : Int × Int} (hl : ∀ e, sml e.2 → Γ less [.d (frD e), .d (frD g)] st = some (.d (.bool (lessP e g)), st)) (hp : ptOk p) (hf : finOk p f)
    (hi : ρ[i]? = some (some (.d (oF f)))) (hj : ρ[j]? = some (some (.d (frD g)))) :
    ev Γ C (.ife (.or (.cons (.cmp .isN (.var i) .non) (.cons (.call less (.cons (.var i) (.cons (.var j) .nil))) .nil))) (.var j) (.var i)) ρ st = some (.d (oF (nxtP f g)), st) := by
  cases f with
  | none =>
    refine ife_b (k := true) (or2 (k2 := true) (is_none (var_at hi)) (fun h => nomatch h)) (fun _ => ?_) (fun h => nomatch h)
    exact var_at hj
  | some e =>
    have he := hf e rfl
    have := hp.2
    refine ife_b (or2 (is_none (var_at hi)) (fun _ => call2 (var_at hi) (var_at hj) (hl e (by omega)))) (fun h => ?_) (fun h => ?_)
    · have h2 : lessP e g = true := h
      rw [var_at hj, nxtP, h2]; rfl
    · have h2 : lessP e g = false := h
      rw [var_at hi, nxtP, h2]; rfl
end
/-! ### the texts -/
def F_terms_of : Fn := ⟨[false], 3,
  .cons (.ret (.lc [1, 2] (.var 1) [1, 2] false (.enum (.var 0)) (.cons (.cmp .isnotN (.var 2) (.non)) (.nil)))) (.nil)⟩
def F_term_at : Fn := ⟨[false, false, false], 3,
  .cons (.ret (.call 22 (.cons (.bin .add (.bin .mul (.idx (.var 0) (.var 1)) (.idx (.var 2) (.int 1))) (.bin .mul (.var 1) (.idx (.var 2) (.int 0)))) (.cons (.idx (.var 2) (.int 1)) (.nil))))) (.nil)⟩
abbrev voB : Ss := (.cons (.asg (.nm 4 false) (.call 159 (.cons (.var 0) (.cons (.var 3) (.cons (.var 1) (.nil)))))) (.cons (.asg (.nm 2 false) (.ife (.or (.cons (.cmp .isN (.var 2) (.non)) (.cons (.call 23 (.cons (.var 2) (.cons (.var 4) (.nil)))) (.nil)))) (.var 4) (.var 2))) (.nil)))
def F_value_of : Fn := ⟨[false, false], 5,
  .cons (.asg (.nm 2 false) (.non)) (.cons (.fors [3] true (.val (.call 112 (.cons (.var 0) (.nil)))) voB) (.cons (.ret (.var 2)) (.nil)))⟩
abbrev lvB : Ss := (.cons (.ifs (.cmp .isnotN (.var 4) (.non)) (.cons (.asg (.nm 5 false) (.call 101 (.cons (.bin .add (.bin .mul (.var 4) (.idx (.var 1) (.int 1))) (.bin .mul (.var 3) (.idx (.var 1) (.int 0)))) (.cons (.idx (.var 1) (.int 1)) (.nil))))) (.cons (.asg (.nm 2 false) (.ife (.or (.cons (.cmp .isN (.var 2) (.non)) (.cons (.call 91 (.cons (.var 2) (.cons (.var 5) (.nil)))) (.nil)))) (.var 5) (.var 2))) (.nil))) (.nil)) (.nil))
def F_law_value : Fn := ⟨[false, false], 6,
  .cons (.asg (.nm 2 false) (.non)) (.cons (.fors [3, 4] false (.enum (.var 0)) lvB) (.cons (.ret (.var 2)) (.nil)))⟩
/-- the places of the terms -/
def trmL : Nat → List (Option Int) → List D
  | _, [] => []
  | a, none :: r => trmL (a + 1) r
  | a, some _ :: r => .int a :: trmL (a + 1) r
def trmG : D → Option D
  | .tuple [i, y] => if isNone y then none else some i
  | _ => none
theorem trm_eq : ∀ (P : List (Option Int)) (a : Nat), (enumD a (P.map od)).filterMap trmG = trmL a P
  | [], a => rfl
  | none :: r, a => by
    show (PyData.tuple [.int a, od none] :: enumD (a + 1) (r.map od)).filterMap trmG = _
    rw [List.filterMap_cons]
    exact trm_eq r (a + 1)
  | some c :: r, a => by
    show (PyData.tuple [.int a, od (some c)] :: enumD (a + 1) (r.map od)).filterMap trmG = _
    rw [List.filterMap_cons, show trmG (PyData.tuple [.int a, od (some c)]) = some (.int a) from rfl]
    simp only [trm_eq r (a + 1)]
    rfl
section
variable {C : Str → Option D} {wf n : Nat} {Fs : List (Nat × Fn)} {st : Store}
theorem terms_ok (h : Fs.lookup 112 = some F_terms_of) {P : List (Option Int)} (hl : P.length ≤ 1000) : evCall C wf Fs (n + 1) 112 [.d (dP P)] st = some (.f (trmL 0 P), st) := by
  rw [evCall, h, Option.bind_some, F_terms_of]
  simp only [enter_d, enter_nil, Option.map_some, Option.bind_some, List.map_cons, List.map_nil, List.length_cons, List.length_nil, List.replicate, List.cons_append, List.nil_append, Nat.reduceAdd, Nat.reduceSub]
  have e := lc_fm (Γ := evCall C wf Fs n) (C := C) (ρ := [some (.d (dP P)), none, none]) (st := st) (own := [1, 2]) (tg := [1, 2]) (fl := false) (elt := .var 1) (c := .cmp .isnotN (.var 2) .non) (it := .enum (.var 0)) (xs := enumD 0 (P.map od)) (g := trmG) (st1 := st)
    (by simp) (by rw [enum_len]; exact szk _ (by simpa using hl)) (fun x hx => by
      obtain ⟨i, y, rfl, hy⟩ := enum_mem hx
      refine ⟨[some (.d (dP P)), some (.d (.int i)), some (.d y)], .d (.bool (!isNone y)), !isNone y, rfl, isnt_none (var_at rfl), rfl, fun h => ?_, fun h => ?_⟩
      · rw [trmG, show isNone y = true by simpa using h]; rfl
      · exact ⟨_, _, var_at rfl, rfl, by rw [trmG, show isNone y = false by simpa using h]; rfl⟩)
  rw [st_rt e, trm_eq]
  simp only [Option.bind_some, leave_f, List.take_length]
theorem term_ok (h1 : Fs.lookup 22 = some F_fraction) (h : Fs.lookup 159 = some F_term_at) {P : List (Option Int)} {a : Nat} {c : Int} {p : Int × Int} (hp : ptOk p) (ha : a ≤ 1000) (hc : P[a]? = some (some c)) :
    evCall C wf Fs (n + 2) 159 [.d (dP P), .d (.int a), .d (frD p)] st = some (.d (frD (frP (c * p.2 + a * p.1) p.2)), st) := by
  obtain ⟨q1, q2⟩ := hp
  rw [evCall, h, Option.bind_some, F_term_at]
  simp only [enter_d, enter_nil, Option.map_some, Option.bind_some, List.map_cons, List.map_nil, List.length_cons, List.length_nil, List.replicate, List.cons_append, List.nil_append, Nat.reduceAdd, Nat.reduceSub]
  have hlen : a < (P.map od).length := by rw [List.length_map]; exact (List.getElem?_eq_some_iff.mp hc).1
  have hx : itemAt (P.map od) (a : Int) = some (.int c) := by
    rw [item_nat hlen]
    have : (P.map od)[a]? = some (od (some c)) := by rw [List.getElem?_map, hc]; rfl
    rw [← List.getElem?_eq_getElem hlen]; exact this
  have ix : ev (evCall C wf Fs (n + 1)) C (.idx (.var 0) (.var 1)) [some (.d (dP P)), some (.d (.int a)), some (.d (frD p))] st = some (.d (.int c), st) := by
    rw [ev_idx, var_at rfl]
    simp only [Option.bind_some]
    rw [var_at rfl]
    simp only [Option.bind_some, rd_d, idxF_T, hx, Option.map_some]
  rw [st_rt (call2 (bin_ii (bin_ii ix (idx1 rfl) (mul_r (by omega))) (bin_ii (var_at rfl) (idx0 rfl) (mul_l (by omega))) rfl) (idx1 rfl) (fraction_ok h1 (by omega)))]
  simp only [Option.bind_some, leave_d, List.take_length]
theorem vo_loop (h1 : Fs.lookup 22 = some F_fraction) (h2 : Fs.lookup 23 = some F_is_less) (h3 : Fs.lookup 159 = some F_term_at) {P : List (Option Int)} {p : Int × Int} (hp : ptOk p) (hl : P.length ≤ 1000) :
    ∀ (Q : List (Option Int)) (a : Nat) (f : Option (Int × Int)) (x3 x4 : Option W), (∀ i, P[a + i]? = Q[i]?) → finOk p f →
      ∃ y3 y4, loopF (fun x ρ st => (bindD ρ [3] true x).bind fun ρ' => evSs (evCall C wf Fs (n + 2)) C wf voB ρ' st) (trmL a Q) [some (.d (dP P)), some (.d (frD p)), some (.d (oF f)), x3, x4] st
        = some (.nx [some (.d (dP P)), some (.d (frD p)), some (.d (oF (valL p a Q f))), y3, y4] st)
  | [], a, f, x3, x4, hq, hf => ⟨x3, x4, rfl⟩
  | none :: r, a, f, x3, x4, hq, hf => vo_loop h1 h2 h3 hp hl r (a + 1) f x3 x4 (fun i => by have := hq (i + 1); rw [List.getElem?_cons_succ] at this; rw [← this]; congr 1; omega) hf
  | some c :: r, a, f, x3, x4, hq, hf => by
    have hc : P[a]? = some (some c) := by have := hq 0; simpa using this
    have ha : a ≤ 1000 := by have := (List.getElem?_eq_some_iff.mp hc).1; omega
    obtain ⟨y3, y4, e⟩ := vo_loop h1 h2 h3 hp hl r (a + 1) (nxtP f (frP (c * p.2 + a * p.1) p.2)) (some (.d (.int a))) (some (.d (frD (frP (c * p.2 + a * p.1) p.2)))) (fun i => by have := hq (i + 1); rw [List.getElem?_cons_succ] at this; rw [← this]; congr 1; omega) (nxt_ok hf (fr_fin hp))
    refine ⟨y3, y4, ?_⟩
    have tn := term_ok (C := C) (wf := wf) (n := n) (st := st) h1 h3 hp ha hc
    have gf := fr_fin (t := c * p.2 + a * p.1) hp
    have := hp.2
    have body : evSs (evCall C wf Fs (n + 2)) C wf voB [some (.d (dP P)), some (.d (frD p)), some (.d (oF f)), some (.d (.int a)), x4] st = some (.nx [some (.d (dP P)), some (.d (frD p)), some (.d (oF (nxtP f (frP (c * p.2 + a * p.1) p.2)))), some (.d (.int a)), some (.d (frD (frP (c * p.2 + a * p.1) p.2)))] st) := by
      refine (st_one (ρ' := [some (.d (dP P)), some (.d (frD p)), some (.d (oF f)), some (.d (.int a)), some (.d (frD (frP (c * p.2 + a * p.1) p.2)))]) (asg_d (call3 (var_at rfl) (var_at rfl) (var_at rfl) tn))).trans ?_
      refine (st_one (ρ' := [some (.d (dP P)), some (.d (frD p)), some (.d (oF (nxtP f (frP (c * p.2 + a * p.1) p.2)))), some (.d (.int a)), some (.d (frD (frP (c * p.2 + a * p.1) p.2)))]) (asg_d (nxt_step (fun e he => less_ok h2 he (by omega)) hp hf rfl rfl))).trans ?_
      rw [evSs_nil]
    rw [trmL, loopF, show bindD [some (.d (dP P)), some (.d (frD p)), some (.d (oF f)), x3, x4] [3] true (.int a) = some [some (.d (dP P)), some (.d (frD p)), some (.d (oF f)), some (.d (.int a)), x4] from rfl]
    simp only [Option.bind_some, body]
    exact e
theorem value_of_ok (h1 : Fs.lookup 22 = some F_fraction) (h2 : Fs.lookup 23 = some F_is_less) (h3 : Fs.lookup 159 = some F_term_at) (h4 : Fs.lookup 112 = some F_terms_of) (h : Fs.lookup 161 = some F_value_of) {P : List (Option Int)} {p : Int × Int} (hp : ptOk p) (hl : P.length ≤ 1000) :
    evCall C wf Fs (n + 3) 161 [.d (dP P), .d (frD p)] st = some (.d (oF (valL p 0 P none)), st) := by
  rw [evCall, h, Option.bind_some, F_value_of]
  simp only [enter_d, enter_nil, Option.map_some, Option.bind_some, List.map_cons, List.map_nil, List.length_cons, List.length_nil, List.replicate, List.cons_append, List.nil_append, Nat.reduceAdd, Nat.reduceSub]
  obtain ⟨y3, y4, e⟩ := vo_loop (C := C) (wf := wf) (n := n) (st := st) h1 h2 h3 hp hl P 0 none none none (fun i => by rw [Nat.zero_add]) (fun e he => nomatch he)
  rw [st_one (ρ' := [some (.d (dP P)), some (.d (frD p)), some (.d (oF none)), none, none]) (st' := st) (asg_d ev_non)]
  rw [st_one (ρ' := [some (.d (dP P)), some (.d (frD p)), some (.d (oF (valL p 0 P none))), y3, y4]) (st' := st) (by
    rw [evS, walk_f (call1 (var_at rfl) (terms_ok h4 hl))]
    exact e)]
  rw [st_rt (var_at rfl)]
  simp only [Option.bind_some, leave_d, List.take_length]
theorem lv_loop (hw : 100 ≤ wf) (h1 : Fs.lookup 101 = some F_law_low) (h2 : Fs.lookup 91 = some F_is_less) {x0 : Option W} {p : Int × Int} (hp : ptOk p) :
    ∀ (Q : List (Option Int)) (a : Nat) (f : Option (Int × Int)) (x3 x4 x5 : Option W), a + Q.length ≤ 1000 → finOk p f →
      ∃ y3 y4 y5, loopF (fun x ρ st => (bindD ρ [3, 4] false x).bind fun ρ' => evSs (evCall C wf Fs (n + 1)) C wf lvB ρ' st) (enumD a (Q.map od)) [x0, some (.d (frD p)), some (.d (oF f)), x3, x4, x5] st
        = some (.nx [x0, some (.d (frD p)), some (.d (oF (valL p a Q f))), y3, y4, y5] st)
  | [], a, f, x3, x4, x5, hq, hf => ⟨x3, x4, x5, rfl⟩
  | none :: r, a, f, x3, x4, x5, hq, hf => by
    obtain ⟨y3, y4, y5, e⟩ := lv_loop hw h1 h2 hp r (a + 1) f (some (.d (.int a))) (some (.d .none)) x5 (by simp at hq; omega) hf
    refine ⟨y3, y4, y5, ?_⟩
    show loopF _ (PyData.tuple [.int a, .none] :: enumD (a + 1) (r.map od)) _ _ = _
    rw [loopF, show bindD [x0, some (.d (frD p)), some (.d (oF f)), x3, x4, x5] [3, 4] false (.tuple [.int a, .none]) = some [x0, some (.d (frD p)), some (.d (oF f)), some (.d (.int a)), some (.d .none), x5] from rfl]
    have body : evSs (evCall C wf Fs (n + 1)) C wf lvB [x0, some (.d (frD p)), some (.d (oF f)), some (.d (.int a)), some (.d .none), x5] st = some (.nx [x0, some (.d (frD p)), some (.d (oF f)), some (.d (.int a)), some (.d .none), x5] st) := by
      rw [st_one (if_no (isnt_none (x := .none) (var_at rfl))), evSs_nil]
    simp only [Option.bind_some, body]
    exact e
  | some c :: r, a, f, x3, x4, x5, hq, hf => by
    have ha : a ≤ 1000 := by simp at hq; omega
    obtain ⟨q1, q2⟩ := id hp
    obtain ⟨y3, y4, y5, e⟩ := lv_loop hw h1 h2 hp r (a + 1) (nxtP f (frP (c * p.2 + a * p.1) p.2)) (some (.d (.int a))) (some (.d (.int c))) (some (.d (frD (frP (c * p.2 + a * p.1) p.2)))) (by simp at hq; omega) (nxt_ok hf (fr_fin hp))
    refine ⟨y3, y4, y5, ?_⟩
    have gf := fr_fin (t := c * p.2 + a * p.1) hp
    show loopF _ (PyData.tuple [.int a, .int c] :: enumD (a + 1) (r.map od)) _ _ = _
    rw [loopF, show bindD [x0, some (.d (frD p)), some (.d (oF f)), x3, x4, x5] [3, 4] false (.tuple [.int a, .int c]) = some [x0, some (.d (frD p)), some (.d (oF f)), some (.d (.int a)), some (.d (.int c)), x5] from rfl]
    have body : evSs (evCall C wf Fs (n + 1)) C wf lvB [x0, some (.d (frD p)), some (.d (oF f)), some (.d (.int a)), some (.d (.int c)), x5] st = some (.nx [x0, some (.d (frD p)), some (.d (oF (nxtP f (frP (c * p.2 + a * p.1) p.2)))), some (.d (.int a)), some (.d (.int c)), some (.d (frD (frP (c * p.2 + a * p.1) p.2)))] st) := by
      refine (st_one (if_yes (isnt_none (x := .int c) (var_at rfl)) ?_)).trans evSs_nil
      refine (st_one (ρ' := [x0, some (.d (frD p)), some (.d (oF f)), some (.d (.int a)), some (.d (.int c)), some (.d (frD (frP (c * p.2 + a * p.1) p.2)))]) (st' := st) (asg_d
        (call2 (bin_ii (bin_ii (var_at rfl) (idx1 rfl) (mul_r (by omega))) (bin_ii (var_at rfl) (idx0 rfl) (mul_l (by omega))) rfl) (idx1 rfl) (low_ok h1 hw (by omega))))).trans ?_
      refine (st_one (ρ' := [x0, some (.d (frD p)), some (.d (oF (nxtP f (frP (c * p.2 + a * p.1) p.2)))), some (.d (.int a)), some (.d (.int c)), some (.d (frD (frP (c * p.2 + a * p.1) p.2)))]) (asg_d (nxt_step (fun e he => less_ok h2 he (by omega)) hp hf rfl rfl))).trans ?_
      rw [evSs_nil]
    simp only [Option.bind_some, body]
    exact e
theorem law_value_ok (hw : 100 ≤ wf) (h1 : Fs.lookup 101 = some F_law_low) (h2 : Fs.lookup 91 = some F_is_less) (h : Fs.lookup 243 = some F_law_value) {P : List (Option Int)} {p : Int × Int} (hp : ptOk p) (hl : P.length ≤ 1000) :
    evCall C wf Fs (n + 2) 243 [.d (dP P), .d (frD p)] st = some (.d (oF (valL p 0 P none)), st) := by
  rw [evCall, h, Option.bind_some, F_law_value]
  simp only [enter_d, enter_nil, Option.map_some, Option.bind_some, List.map_cons, List.map_nil, List.length_cons, List.length_nil, List.replicate, List.cons_append, List.nil_append, Nat.reduceAdd, Nat.reduceSub]
  obtain ⟨y3, y4, y5, e⟩ := lv_loop (C := C) (wf := wf) (n := n) (st := st) (x0 := some (.d (dP P))) hw h1 h2 hp P 0 none none none none (by omega) (fun e he => nomatch he)
  rw [st_one (ρ' := [some (.d (dP P)), some (.d (frD p)), some (.d (oF none)), none, none, none]) (st' := st) (asg_d ev_non)]
  rw [st_one (ρ' := [some (.d (dP P)), some (.d (frD p)), some (.d (oF (valL p 0 P none))), y3, y4, y5]) (st' := st) (by
    rw [evS, evI_enum, var_at rfl]
    simp only [Option.bind_some, fix_d, enumK_T, Option.map_some]
    exact e)]
  rw [st_rt (var_at rfl)]
  simp only [Option.bind_some, leave_d, List.take_length]
end
end Z
/-! ZPoq: what is a polynomial, a fraction; those that are drawn. -/
set_option linter.all false
set_option autoImplicit false
set_option maxHeartbeats 4000000
set_option maxRecDepth 100000
namespace Z
open PySem
def coB (x : D) : Bool := isNone x || within x (-1000000) 1000000
def polB : D → Bool
  | .tuple xs => (decide ((1 : Int) ≤ xs.length) && decide ((xs.length : Int) ≤ 13)) && (xs.all coB && xs.any fun x => !isNone x)
  | _ => false
/-- it can be compared -/
def layE (x : D) : Prop := PyData.canLay0 x = true ∧ PyData.depth x ≤ 60
theorem lay_all {xs : List D} (h : ∀ x ∈ xs, layE x) : PyData.canLayAll0 xs = true ∧ PyData.depthAll xs ≤ 60 := by
  induction xs with
  | nil => simp [PyData.canLayAll0, PyData.depthAll]
  | cons x xs ih =>
    obtain ⟨h1, h2⟩ := h x List.mem_cons_self
    obtain ⟨h3, h4⟩ := ih fun y hy => h y (List.mem_cons_of_mem _ hy)
    simp only [PyData.canLayAll0, PyData.depthAll, h1, h3, Bool.and_self, true_and]
    omega
theorem shaped_list {xs : List D} (h : ∀ x ∈ xs, layE x) : SeqAt.shaped (.list xs) = true := by
  obtain ⟨h1, h2⟩ := lay_all h
  have : PyData.depth (.list xs) = PyData.depthAll xs + 1 := by rw [PyData.depth]
  unfold SeqAt.shaped
  rw [PyData.canLay0, h1, decide_eq_true (by omega)]; rfl
theorem shaped_tup {xs : List D} (h : ∀ x ∈ xs, layE x) : SeqAt.shaped (.tuple xs) = true := by
  obtain ⟨h1, h2⟩ := lay_all h
  have : PyData.depth (.tuple xs) = PyData.depthAll xs + 1 := by rw [PyData.depth]
  unfold SeqAt.shaped
  rw [PyData.canLay0, h1, decide_eq_true (by omega)]; rfl
theorem eqv_nil (xs : List D) : PyData.eqv (.list xs) (.list []) = xs.isEmpty := by
  rw [PyData.eqv]
  cases xs <;> simp [PyData.eqvAll]
theorem lay_int (i : Int) : layE (.int i) := ⟨by rw [PyData.canLay0], by rw [PyData.depth]; omega⟩
theorem lay_none : layE .none := ⟨by rw [PyData.canLay0], by rw [PyData.depth]; omega⟩
def F_is_fraction_any : Fn := ⟨[false], 1,
  .cons (.ifs (.or (.cons (.not (.call 8 (.cons (.var 0) (.cons (.int 2) (.nil))))) (.cons (.not (.call 3 (.cons (.idx (.var 0) (.int 0)) (.cons (.bin .sub (.int 1) (.glo "MOST_TIME")) (.cons (.bin .sub (.glo "MOST_TIME") (.int 1)) (.nil)))))) (.nil)))) (.cons (.ret (.bl false)) (.nil)) (.nil)) (.cons (.ret (.and (.cons (.call 3 (.cons (.idx (.var 0) (.int 1)) (.cons (.int 1) (.cons (.bin .sub (.glo "MOST_TIME") (.int 1)) (.nil))))) (.cons (.cmp .eq (.gcd (.idx (.var 0) (.int 0)) (.idx (.var 0) (.int 1))) (.int 1)) (.nil))))) (.nil))⟩
def F_is_polynomial_any : Fn := ⟨[false], 2,
  .cons (.ifs (.or (.cons (.not (.isi [.tuple] false (.var 0))) (.cons (.not (.chain .le .le (.int 1) (.len (.var 0)) (.glo "MOST_TERMS"))) (.nil)))) (.cons (.ret (.bl false)) (.nil)) (.nil)) (.cons (.ifs (.not (.bi .all (.cons (.lc [1] (.or (.cons (.cmp .isN (.var 1) (.non)) (.cons (.call 3 (.cons (.var 1) (.cons (.neg (.glo "MOST_COEFFICIENT")) (.cons (.glo "MOST_COEFFICIENT") (.nil))))) (.nil)))) [1] true (.val (.var 0)) (.nil)) (.nil)))) (.cons (.ret (.bl false)) (.nil)) (.nil)) (.cons (.ret (.bi .any (.cons (.lc [1] (.cmp .isnotN (.var 1) (.non)) [1] true (.val (.var 0)) (.nil)) (.nil)))) (.nil)))⟩
def F_want_poly : Fn := ⟨[false], 1,
  .cons (.ifs (.not (.call 84 (.cons (.var 0) (.nil)))) (.cons (.never) (.nil)) (.nil)) (.nil)⟩
def F_want_point : Fn := ⟨[false], 1,
  .cons (.ifs (.not (.call 38 (.cons (.var 0) (.nil)))) (.cons (.never) (.nil)) (.nil)) (.nil)⟩
def F_value_at : Fn := ⟨[false, false], 2,
  .cons (.exp (.call 113 (.cons (.var 0) (.nil)))) (.cons (.exp (.call 202 (.cons (.var 1) (.nil)))) (.cons (.ret (.call 161 (.cons (.var 0) (.cons (.var 1) (.nil))))) (.nil)))⟩
def F_law_is_poly : Fn := ⟨[false], 3,
  .cons (.ifs (.or (.cons (.not (.isi [.tuple] false (.var 0))) (.cons (.not (.chain .le .le (.int 1) (.len (.var 0)) (.int 13))) (.nil)))) (.cons (.ret (.bl false)) (.nil)) (.nil)) (.cons (.asg (.nm 1 false) (.lc [2] (.var 2) [2] true (.val (.var 0)) (.cons (.cmp .isnotN (.var 2) (.non)) (.nil)))) (.cons (.ret (.and (.cons (.cmp .ne (.var 1) (.lst (.nil))) (.cons (.bi .all (.cons (.lc [2] (.and (.cons (.isi [.int] false (.var 2)) (.cons (.not (.isi [.bool] false (.var 2))) (.cons (.cmp .le (.bi .abs (.cons (.var 2) (.nil))) (.bin .pow (.int 10) (.int 6))) (.nil))))) [2] true (.val (.var 1)) (.nil)) (.nil))) (.nil))))) (.nil)))⟩
def keepG (x : D) : Option D := if isNone x then none else some x
section
variable {C : Str → Option D} {wf n : Nat} {Fs : List (Nat × Fn)} {st : Store} {Γ : Calls} {ρ : Slots}
theorem isi_at {i : Nat} {x : D} {ts : List Ty} {tp : Bool} (h : ρ[i]? = some (some (.d x))) : ev Γ C (.isi ts tp (.var i)) ρ st = some (.d (.bool (ts.any (tyOf x))), st) := by
  rw [ev_isi, var_at h]; rfl
theorem chain_len {i : Nat} {m : Int} {e : E} {xs : List D} (h : ρ[i]? = some (some (.d (.tuple xs)))) (he : ev Γ C e ρ st = some (.d (.int m), st)) : ev Γ C (.chain .le .le (.int 1) (.len (.var i)) e) ρ st = some (.d (.bool (decide ((1 : Int) ≤ xs.length) && decide ((xs.length : Int) ≤ m))), st) := by
  rw [ev_chain]
  by_cases k : (1 : Int) ≤ xs.length
  · simp [h, he, k]
  · simp [h, he, k]
theorem glo_at {x : Str} {d : D} (h : C x = some d) : ev Γ C (.glo x) ρ st = some (.d d, st) := by
  rw [ev_glo, h]; rfl
theorem neg_at {e : E} {i : Int} (h : ev Γ C e ρ st = some (.d (.int i), st)) : ev Γ C (.neg e) ρ st = some (.d (.int (-i)), st) := by
  rw [ev_neg, h]; rfl
/-- the first look: a tuple of 1 to 13 -/
theorem frame_no {e : E} {v : D} {m : Int} (hv : (∃ xs, v = .tuple xs ∧ (decide ((1 : Int) ≤ xs.length) && decide ((xs.length : Int) ≤ m)) = false) ∨ (∀ xs, v ≠ .tuple xs)) (h : ρ[0]? = some (some (.d v))) (he : ev Γ C e ρ st = some (.d (.int m), st)) :
    ev Γ C (.or (.cons (.not (.isi [.tuple] false (.var 0))) (.cons (.not (.chain .le .le (.int 1) (.len (.var 0)) e)) .nil))) ρ st = some (.d (.bool true), st) := by
  rcases hv with ⟨xs, rfl, hx⟩ | hv
  · have := or2 (k2 := true) (not_b (isi_at (ts := [.tuple]) (tp := false) h)) (fun _ => by have := not_b (chain_len h he); rw [hx] at this; exact this)
    rw [this]; rfl
  · have : ([Ty.tuple].any (tyOf v)) = false := by
      cases v <;> first | rfl | exact absurd rfl (hv _)
    have h2 := or2 (C := C) (Γ := Γ) (st := st) (k2 := true) (b := .not (.chain .le .le (.int 1) (.len (.var 0)) e)) (not_b (isi_at (ts := [.tuple]) (tp := false) h)) (fun z => by rw [this] at z; cases z)
    rw [h2, this]; rfl
theorem frame_yes {e : E} {xs : List D} {m : Int} (hx : (decide ((1 : Int) ≤ xs.length) && decide ((xs.length : Int) ≤ m)) = true) (h : ρ[0]? = some (some (.d (.tuple xs)))) (he : ev Γ C e ρ st = some (.d (.int m), st)) :
    ev Γ C (.or (.cons (.not (.isi [.tuple] false (.var 0))) (.cons (.not (.chain .le .le (.int 1) (.len (.var 0)) e)) .nil))) ρ st = some (.d (.bool false), st) := by
  have := or2 (k2 := false) (not_b (isi_at (ts := [.tuple]) (tp := false) h)) (fun _ => by have := not_b (chain_len h he); rw [hx] at this; exact this)
  rw [this]; rfl
theorem tup_or (v : D) (m : Int) : (∃ xs, v = .tuple xs ∧ (decide ((1 : Int) ≤ xs.length) && decide ((xs.length : Int) ≤ m)) = true) ∨ ((∃ xs, v = .tuple xs ∧ (decide ((1 : Int) ≤ xs.length) && decide ((xs.length : Int) ≤ m)) = false) ∨ (∀ xs, v ≠ .tuple xs)) := by
  by_cases h : ∃ xs, v = .tuple xs
  · obtain ⟨xs, rfl⟩ := h
    cases k : (decide ((1 : Int) ≤ xs.length) && decide ((xs.length : Int) ≤ m)) with
    | true => exact .inl ⟨xs, rfl, k⟩
    | false => exact .inr (.inl ⟨xs, rfl, k⟩)
  · exact .inr (.inr fun xs e => h ⟨xs, e⟩)
theorem polB_no {v : D} (hv : (∃ xs, v = .tuple xs ∧ (decide ((1 : Int) ≤ xs.length) && decide ((xs.length : Int) ≤ 13)) = false) ∨ (∀ xs, v ≠ .tuple xs)) : polB v = false := by
  rcases hv with ⟨xs, rfl, hx⟩ | hv
  · rw [polB, hx]; rfl
  · cases v <;> first | rfl | exact absurd rfl (hv _)
theorem poly_any_ok (h2 : Fs.lookup 2 = some F_is_integer) (h3 : Fs.lookup 3 = some F_is_within) (h : Fs.lookup 84 = some F_is_polynomial_any) (ht : C "MOST_TERMS" = some (.int 13)) (hc : C "MOST_COEFFICIENT" = some (.int 1000000)) (v : D) :
    evCall C wf Fs (n + 3) 84 [.d v] st = some (.d (.bool (polB v)), st) := by
  rw [evCall, h, Option.bind_some, F_is_polynomial_any]
  simp only [enter_d, enter_nil, Option.map_some, Option.bind_some, List.map_cons, List.map_nil, List.length_cons, List.length_nil, List.replicate, List.cons_append, List.nil_append, Nat.reduceAdd, Nat.reduceSub]
  rcases tup_or v 13 with ⟨xs, rfl, hx⟩ | hv
  · rw [st_one (if_no (frame_yes hx rfl (glo_at ht)))]
    have hl : xs.length ≤ sizeLine := szk _ (by simp only [Bool.and_eq_true, decide_eq_true_eq] at hx; omega)
    have c1 := lc_map (Γ := evCall C wf Fs (n + 2)) (C := C) (ρ := [some (.d (.tuple xs)), none]) (st := st) (own := [1]) (tg := [1]) (fl := true) (elt := .or (.cons (.cmp .isN (.var 1) (.non)) (.cons (.call 3 (.cons (.var 1) (.cons (.neg (.glo "MOST_COEFFICIENT")) (.cons (.glo "MOST_COEFFICIENT") (.nil))))) (.nil))))
      (it := .val (.var 0)) (g := fun x => .bool (coB x)) (st1 := st) (walk_d (var_at rfl) rfl) hl (fun x hx => ⟨[some (.d (.tuple xs)), some (.d x)], _, rfl, or2 (is_none (var_at rfl)) (fun _ => call3 (var_at rfl) (neg_at (glo_at hc)) (glo_at hc) (is_within_ok h2 h3 x _ _)), rfl⟩)
    have c2 := lc_map (Γ := evCall C wf Fs (n + 2)) (C := C) (ρ := [some (.d (.tuple xs)), none]) (st := st) (own := [1]) (tg := [1]) (fl := true) (elt := .cmp .isnotN (.var 1) (.non))
      (it := .val (.var 0)) (g := fun x => .bool (!isNone x)) (st1 := st) (walk_d (var_at rfl) rfl) hl (fun x hx => ⟨[some (.d (.tuple xs)), some (.d x)], _, rfl, isnt_none (var_at rfl), rfl⟩)
    have a1 := not_b (all_lc c1)
    have a2 := any_lc c2
    rw [polB, hx, Bool.true_and]
    cases hk : xs.all coB with
    | false =>
      rw [hk] at a1
      have : evSs (evCall C wf Fs (n + 2)) C wf (.cons (.ret (.bl false)) (.nil)) [some (.d (.tuple xs)), none] st = some (.rt (.d (.bool false)) st) := st_rt ev_bl
      rw [evSs_cons, if_yes a1 this]
      simp only [Option.bind_some, behind_rt, leave_d, List.take_length, Bool.false_and]
    | true =>
      rw [hk] at a1
      rw [st_one (if_no a1), st_rt a2]
      simp only [Option.bind_some, leave_d, List.take_length, Bool.true_and]
  · rw [evSs_cons, if_yes (frame_no hv rfl (glo_at ht)) (st_rt ev_bl), polB_no hv]
    simp only [Option.bind_some, behind_rt, leave_d, List.take_length]
theorem is_poly_ok (h : Fs.lookup 940 = some F_law_is_poly) (v : D) (hv : ∀ xs, v = .tuple xs → ∀ x ∈ xs, layE x) : evCall C wf Fs (n + 1) 940 [.d v] st = some (.d (.bool (polB v)), st) := by
  rw [evCall, h, Option.bind_some, F_law_is_poly]
  simp only [enter_d, enter_nil, Option.map_some, Option.bind_some, List.map_cons, List.map_nil, List.length_cons, List.length_nil, List.replicate, List.cons_append, List.nil_append, Nat.reduceAdd, Nat.reduceSub]
  rcases tup_or v 13 with ⟨xs, rfl, hx⟩ | hn
  · rw [st_one (if_no (frame_yes hx rfl ev_int))]
    have hl : xs.length ≤ sizeLine := szk _ (by simp only [Bool.and_eq_true, decide_eq_true_eq] at hx; omega)
    have c1 := lc_fm (Γ := evCall C wf Fs n) (C := C) (ρ := [some (.d (.tuple xs)), none, none]) (st := st) (own := [2]) (tg := [2]) (fl := true) (elt := .var 2) (c := .cmp .isnotN (.var 2) .non) (it := .val (.var 0)) (xs := xs) (g := keepG) (st1 := st)
      (walk_d (var_at rfl) rfl) hl (fun x hx => ⟨[some (.d (.tuple xs)), none, some (.d x)], .d (.bool (!isNone x)), !isNone x, rfl, isnt_none (var_at rfl), rfl, fun z => by rw [keepG, show isNone x = true by simpa using z]; rfl, fun z => ⟨_, _, var_at rfl, rfl, by rw [keepG, show isNone x = false by simpa using z]; rfl⟩⟩)
    rw [st_one (ρ' := [some (.d (.tuple xs)), some (.d (.list (xs.filterMap keepG))), none]) (st' := st) (asg_f c1)]
    have hs : SeqAt.shaped (.list (xs.filterMap keepG)) = true := shaped_list fun y hy => by
      obtain ⟨x, hx, e⟩ := List.mem_filterMap.mp hy
      unfold keepG at e
      split at e
      · cases e
      · cases e; exact hv xs rfl _ hx
    have hl2 : (xs.filterMap keepG).length ≤ sizeLine := Nat.le_trans (List.length_filterMap_le ..) hl
    have a1 : ev (evCall C wf Fs n) C (.cmp .ne (.var 1) (.lst .nil)) [some (.d (.tuple xs)), some (.d (.list (xs.filterMap keepG))), none] st = some (.d (.bool (!(xs.filterMap keepG).isEmpty)), st) :=
      cmp_dd (x := .list (xs.filterMap keepG)) (y := .list []) (var_at rfl) (lst_ok evD_nil (szk _ (by simp))) rfl rfl (by rw [neB _ _ hs (by decide +kernel) (fun _ e => nomatch e), eqv_nil])
    have c2 := lc_map (Γ := evCall C wf Fs n) (C := C) (ρ := [some (.d (.tuple xs)), some (.d (.list (xs.filterMap keepG))), none]) (st := st) (own := [2]) (tg := [2]) (fl := true) (elt := .and (.cons (.isi [.int] false (.var 2)) (.cons (.not (.isi [.bool] false (.var 2))) (.cons (.cmp .le (.bi .abs (.cons (.var 2) (.nil))) (.bin .pow (.int 10) (.int 6))) (.nil)))))
      (it := .val (.var 1)) (g := fun x => .bool (within x (-1000000) 1000000)) (st1 := st) (walk_d (var_at rfl) rfl) hl2 (fun x hx => by
        refine ⟨[some (.d (.tuple xs)), some (.d (.list (xs.filterMap keepG))), some (.d x)], .d (.bool (within x (-1000000) 1000000)), rfl, ?_, rfl⟩
        cases x with
        | int i =>
          have z : (decide ((if i < 0 then -i else i) ≤ 1000000)) = within (.int i) (-1000000) 1000000 := by
            simp only [within]
            rw [← Bool.decide_and]
            congr 1
            apply propext
            split <;> omega
          rw [← z]
          simp [tyOf]
        | _ => simp [tyOf, within])
    have a2 := all_lc c2
    rw [st_rt (and2 a1 (fun _ => a2)), polB, hx, Bool.true_and]
    simp only [Option.bind_some, leave_d, List.take_length]
    congr 3
    congr 1
    clear c1 c2 a1 a2 hs hl hl2 hx hv
    induction xs with
    | nil => rfl
    | cons x xs ih =>
      have kt : ∀ y, isNone y = true → keepG y = none := fun y h => by simp [keepG, h]
      have kf : ∀ y, isNone y = false → keepG y = some y := fun y h => by simp [keepG, h]
      rw [List.all_cons, List.any_cons]
      cases hk : isNone x with
      | true =>
        rw [List.filterMap_cons_none (kt x hk), ih, coB, hk]
        simp
      | false =>
        have e : (xs.filterMap keepG).all (fun x => within x (-1000000) 1000000) = xs.all coB := by
          clear ih
          induction xs with
          | nil => rfl
          | cons y ys ih2 =>
            rw [List.all_cons, ← ih2]
            cases hy : isNone y with
            | true => rw [List.filterMap_cons_none (kt y hy)]; simp [coB, hy]
            | false => rw [List.filterMap_cons_some (kf y hy)]; simp [coB, hy]
        rw [List.filterMap_cons_some (kf x hk)]
        have e2 : coB x = within x (-1000000) 1000000 := by rw [coB, hk, Bool.false_or]
        simp only [List.isEmpty_cons, Bool.not_false, Bool.true_and, List.all_cons, Bool.true_or, Bool.and_true, e, e2]
  · rw [evSs_cons, if_yes (frame_no hn rfl ev_int) (st_rt ev_bl), polB_no hn]
    simp only [Option.bind_some, behind_rt, leave_d, List.take_length]
theorem want_ok {w f : Nat} {v : D} (h : Fs.lookup w = some ⟨[false], 1, .cons (.ifs (.not (.call f (.cons (.var 0) (.nil)))) (.cons (.never) (.nil)) (.nil)) (.nil)⟩) (hv : evCall C wf Fs n f [.d v] st = some (.d (.bool true), st)) : evCall C wf Fs (n + 1) w [.d v] st = some (.d .none, st) := by
  rw [evCall, h, Option.bind_some]
  simp only [enter_d, enter_nil, Option.map_some, Option.bind_some, List.map_cons, List.map_nil, List.length_cons, List.length_nil, List.replicate, List.cons_append, List.nil_append, Nat.reduceAdd, Nat.reduceSub]
  rw [st_one (if_no (not_b (call1 (var_at rfl) hv))), evSs_nil]
  simp only [Option.bind_some, leave_d, List.take_length]
theorem fraction_any_ok (h2 : Fs.lookup 2 = some F_is_integer) (h3 : Fs.lookup 3 = some F_is_within) (h8 : Fs.lookup 8 = some F_is_tuple) (h : Fs.lookup 38 = some F_is_fraction_any) (ht : C "MOST_TIME" = some (.int 1000000000)) {p : Int × Int} (h1 : -999999999 ≤ p.1 ∧ p.1 ≤ 999999999) (hp : ptOk p) (hg : Nat.gcd p.1.natAbs p.2.natAbs = 1) :
    evCall C wf Fs (n + 3) 38 [.d (frD p)] st = some (.d (.bool true), st) := by
  obtain ⟨q1, q2⟩ := hp
  rw [evCall, h, Option.bind_some, F_is_fraction_any]
  simp only [enter_d, enter_nil, Option.map_some, Option.bind_some, List.map_cons, List.map_nil, List.length_cons, List.length_nil, List.replicate, List.cons_append, List.nil_append, Nat.reduceAdd, Nat.reduceSub]
  have e8 := is_tuple_ok (C := C) (wf := wf) (n := n + 1) (st := st) h8 (frD p) 2
  have s1 : ∀ {Γ : Calls} {ρ : Slots}, ev Γ C (.bin .sub (.int 1) (.glo "MOST_TIME")) ρ st = some (.d (.int (-999999999)), st) := fun {Γ ρ} => bin_ii ev_int (glo_at ht) rfl
  have s2 : ∀ {Γ : Calls} {ρ : Slots}, ev Γ C (.bin .sub (.glo "MOST_TIME") (.int 1)) ρ st = some (.d (.int 999999999), st) := fun {Γ ρ} => bin_ii (glo_at ht) ev_int rfl
  have w1 : within (.int p.1) (-999999999) 999999999 = true := by simp only [within]; rw [decide_eq_true h1.1, decide_eq_true h1.2]; rfl
  have w2 : within (.int p.2) 1 999999999 = true := by simp only [within]; rw [decide_eq_true q1, decide_eq_true q2]; rfl
  have a := or2 (not_b (call2 (Γ := evCall C wf Fs (n + 2)) (ρ := [some (.d (frD p))]) (var_at (i := 0) rfl) ev_int e8)) (fun _ => not_b (call3 (idx0 (p := p) (i := 0) rfl) s1 s2 (is_within_ok h2 h3 _ _ _)))
  rw [w1] at a
  have gt : ev (evCall C wf Fs (n + 2)) C (.gcd (.idx (.var 0) (.int 0)) (.idx (.var 0) (.int 1))) [some (.d (frD p))] st = some (.d (.int 1), st) := by
    rw [ev_gcd, idx0 (p := p) rfl]
    simp only [Option.bind_some]
    rw [idx1 (p := p) rfl]
    simp only [Option.bind_some, rd_d, gcdF_i, hg, Option.map_some]
    rfl
  have b := and2 (Γ := evCall C wf Fs (n + 2)) (call3 (ρ := [some (.d (frD p))]) (idx1 (p := p) (i := 0) rfl) ev_int s2 (is_within_ok h2 h3 (.int p.2) 1 999999999)) (b := .cmp .eq (.gcd (.idx (.var 0) (.int 0)) (.idx (.var 0) (.int 1))) (.int 1)) (k2 := true) (fun _ => cmp_dd gt ev_int rfl rfl cmpF_eqI)
  rw [w2] at b
  rw [st_one (if_no a), st_rt b]
  simp only [Option.bind_some, leave_d, List.take_length]
  rfl
theorem value_at_ok (h2 : Fs.lookup 2 = some F_is_integer) (h3 : Fs.lookup 3 = some F_is_within) (h8 : Fs.lookup 8 = some F_is_tuple) (h38 : Fs.lookup 38 = some F_is_fraction_any) (ht : C "MOST_TIME" = some (.int 1000000000)) (h84 : Fs.lookup 84 = some F_is_polynomial_any) (hT : C "MOST_TERMS" = some (.int 13)) (hc : C "MOST_COEFFICIENT" = some (.int 1000000))
    (h113 : Fs.lookup 113 = some F_want_poly) (h202 : Fs.lookup 202 = some F_want_point) (h1 : Fs.lookup 22 = some F_fraction) (h23 : Fs.lookup 23 = some F_is_less) (h159 : Fs.lookup 159 = some F_term_at) (h112 : Fs.lookup 112 = some F_terms_of) (h161 : Fs.lookup 161 = some F_value_of) (h : Fs.lookup 197 = some F_value_at)
    {P : List (Option Int)} {p : Int × Int} (hP : polB (dP P) = true) (hp : ptOk p) (hp1 : -999999999 ≤ p.1 ∧ p.1 ≤ 999999999) (hg : Nat.gcd p.1.natAbs p.2.natAbs = 1) : evCall C wf Fs (n + 5) 197 [.d (dP P), .d (frD p)] st = some (.d (oF (valL p 0 P none)), st) := by
  have hl : P.length ≤ 1000 := by
    simp only [polB, dP, Bool.and_eq_true, decide_eq_true_eq, List.length_map] at hP
    omega
  rw [evCall, h, Option.bind_some, F_value_at]
  simp only [enter_d, enter_nil, Option.map_some, Option.bind_some, List.map_cons, List.map_nil, List.length_cons, List.length_nil, List.replicate, List.cons_append, List.nil_append, Nat.reduceAdd, Nat.reduceSub]
  have w1 := want_ok (n := n + 3) (st := st) h113 (by rw [poly_any_ok (C := C) (wf := wf) (n := n) (st := st) h2 h3 h84 hT hc (dP P), hP])
  have w2 := want_ok (n := n + 3) (st := st) h202 (fraction_any_ok (C := C) (wf := wf) (n := n) (st := st) h2 h3 h8 h38 ht hp1 hp hg)
  rw [st_one (exp_one (call1 (var_at rfl) w1)), st_one (exp_one (call1 (var_at rfl) w2)), st_rt (call2 (var_at rfl) (var_at rfl) (value_of_ok (n := n + 1) h1 h23 h159 h112 h161 hp hl))]
  simp only [Option.bind_some, leave_d, List.take_length]
end
end Z
/-! ZMat: tables as functions of row and column; the later of sums. -/
set_option linter.all false
set_option autoImplicit false
set_option maxHeartbeats 4000000
set_option maxRecDepth 100000
namespace Z
open PySem
/-! ### times -/
def stepO : Option Int → Option Int → Option Int
  | none, o => o
  | some a, none => some a
  | some a, some b => if b > a then some b else some a
def laterO (xs : List (Option Int)) : Option Int := xs.foldl stepO none
def thenO : Option Int → Option Int → Option Int
  | some a, some b => some (a + b)
  | _, _ => none
def supR (k : Nat) (h : Nat → Option Int) : Option Int := laterO ((List.range k).map h)
def mulF (k : Nat) (f g : Nat → Nat → Option Int) : Nat → Nat → Option Int := fun i j => supR k fun l => thenO (f i l) (g l j)
def leO : Option Int → Option Int → Prop
  | none, _ => True
  | some _, none => False
  | some a, some b => a ≤ b
theorem leO_eq {a b : Option Int} (h : ∀ z, leO a z ↔ leO b z) : a = b := by
  have refl : ∀ x, leO x x := fun x => by cases x <;> simp [leO]
  have h1 := (h b).mpr (refl b)
  have h2 := (h a).mp (refl a)
  cases a <;> cases b <;> simp [leO] at *
  omega
theorem le_step {a b z : Option Int} : leO (stepO a b) z ↔ leO a z ∧ leO b z := by
  cases a with
  | none => simp [stepO, leO]
  | some a =>
    cases b with
    | none => simp [stepO, leO]
    | some b =>
      cases z with
      | none =>
        simp only [stepO]
        split <;> simp [leO]
      | some z =>
        simp only [stepO]
        split <;> simp [leO] <;> omega
theorem le_fold {z : Option Int} : ∀ (xs : List (Option Int)) (a : Option Int), leO (xs.foldl stepO a) z ↔ leO a z ∧ ∀ x ∈ xs, leO x z
  | [], a => by simp
  | x :: xs, a => by
    rw [List.foldl_cons, le_fold xs, le_step]
    simp [and_assoc]
theorem le_later {xs : List (Option Int)} {z : Option Int} : leO (laterO xs) z ↔ ∀ x ∈ xs, leO x z := by
  rw [laterO, le_fold]
  simp [leO]
theorem le_sup {k : Nat} {h : Nat → Option Int} {z : Option Int} : leO (supR k h) z ↔ ∀ l, l < k → leO (h l) z := by
  rw [supR, le_later]
  simp
theorem then_step_l {a b c z : Option Int} : leO (thenO (stepO a b) c) z ↔ leO (thenO a c) z ∧ leO (thenO b c) z := by
  cases a with
  | none => simp [stepO, thenO, leO]
  | some a =>
    cases c with
    | none => cases b <;> simp [stepO, thenO, leO]
    | some c =>
      cases b with
      | none => simp [stepO, thenO, leO]
      | some b =>
        simp only [stepO]
        split <;> cases z <;> simp [thenO, leO] <;> omega
theorem then_comm (a b : Option Int) : thenO a b = thenO b a := by
  cases a <;> cases b <;> simp [thenO]
  omega
theorem then_assoc (a b c : Option Int) : thenO (thenO a b) c = thenO a (thenO b c) := by
  cases a <;> cases b <;> cases c <;> simp [thenO]
  omega
theorem then_fold_l {c z : Option Int} : ∀ (xs : List (Option Int)) (a : Option Int), leO (thenO (xs.foldl stepO a) c) z ↔ leO (thenO a c) z ∧ ∀ x ∈ xs, leO (thenO x c) z
  | [], a => by simp
  | x :: xs, a => by
    rw [List.foldl_cons, then_fold_l xs, then_step_l]
    simp [and_assoc]
theorem then_sup_l {k : Nat} {h : Nat → Option Int} {c z : Option Int} : leO (thenO (supR k h) c) z ↔ ∀ l, l < k → leO (thenO (h l) c) z := by
  rw [supR, laterO, then_fold_l]
  simp [thenO, leO]
theorem then_sup_r {k : Nat} {h : Nat → Option Int} {c z : Option Int} : leO (thenO c (supR k h)) z ↔ ∀ l, l < k → leO (thenO c (h l)) z := by
  rw [then_comm, then_sup_l]
  constructor
  · intro q l hl; rw [then_comm]; exact q l hl
  · intro q l hl; rw [then_comm]; exact q l hl
theorem mul_assoc {k m : Nat} (f g h : Nat → Nat → Option Int) (i j : Nat) : mulF m (mulF k f g) h i j = mulF k f (mulF m g h) i j := by
  apply leO_eq
  intro z
  show leO (supR m fun l => thenO (supR k fun q => thenO (f i q) (g q l)) (h l j)) z ↔ leO (supR k fun q => thenO (f i q) (supR m fun l => thenO (g q l) (h l j))) z
  rw [le_sup, le_sup]
  constructor
  · intro a q hq
    rw [then_sup_r]
    intro l hl
    have := (then_sup_l.mp (a l hl)) q hq
    rw [then_assoc] at this
    exact this
  · intro a l hl
    rw [then_sup_l]
    intro q hq
    have := (then_sup_r.mp (a q hq)) l hl
    rw [← then_assoc] at this
    exact this
def unitF : Nat → Nat → Option Int := fun i j => if i = j then some 0 else none
theorem then_zero (a : Option Int) : thenO (some 0) a = a := by cases a <;> simp [thenO]
theorem then_none (a : Option Int) : thenO none a = none := by cases a <;> rfl
theorem unit_mul {k : Nat} (f : Nat → Nat → Option Int) {i j : Nat} (hi : i < k) : mulF k unitF f i j = f i j := by
  apply leO_eq
  intro z
  show leO (supR k fun l => thenO (unitF i l) (f l j)) z ↔ _
  rw [le_sup]
  constructor
  · intro a
    have := a i hi
    simp only [unitF, if_true, then_zero] at this
    exact this
  · intro a l hl
    by_cases h : i = l
    · subst h; simp only [unitF, if_true, then_zero]; exact a
    · simp only [unitF, if_neg h, then_none]; trivial
theorem mul_unit {k : Nat} (f : Nat → Nat → Option Int) {i j : Nat} (hj : j < k) : mulF k f unitF i j = f i j := by
  apply leO_eq
  intro z
  show leO (supR k fun l => thenO (f i l) (unitF l j)) z ↔ _
  rw [le_sup]
  constructor
  · intro a
    have := a j hj
    rw [then_comm] at this
    simp only [unitF, if_true, then_zero] at this
    exact this
  · intro a l hl
    rw [then_comm]
    by_cases h : l = j
    · subst h; simp only [unitF, if_true, then_zero]; exact a
    · simp only [unitF, if_neg h, then_none]; trivial
theorem sup_congr {k : Nat} {h g : Nat → Option Int} (e : ∀ l, l < k → h l = g l) : supR k h = supR k g := by
  rw [supR, supR]
  congr 1
  exact List.map_congr_left fun l hl => e l (List.mem_range.mp hl)
theorem mul_congr {k : Nat} {f f' g g' : Nat → Nat → Option Int} {i j : Nat} (h1 : ∀ l, l < k → f i l = f' i l) (h2 : ∀ l, l < k → g l j = g' l j) : mulF k f g i j = mulF k f' g' i j :=
  sup_congr fun l hl => by rw [h1 l hl, h2 l hl]
/-! ### tables of data -/
def dVec (n : Nat) (v : Nat → Option Int) : D := .tuple ((List.range n).map fun i => od (v i))
def dMat (r c : Nat) (f : Nat → Nat → Option Int) : D := .tuple ((List.range r).map fun i => dVec c (f i))
theorem vec_congr {n : Nat} {v u : Nat → Option Int} (h : ∀ i, i < n → v i = u i) : dVec n v = dVec n u := by
  rw [dVec, dVec]
  congr 1
  exact List.map_congr_left fun i hi => by rw [h i (List.mem_range.mp hi)]
theorem mat_congr {r c : Nat} {f g : Nat → Nat → Option Int} (h : ∀ i j, i < r → j < c → f i j = g i j) : dMat r c f = dMat r c g := by
  rw [dMat, dMat]
  congr 1
  exact List.map_congr_left fun i hi => vec_congr fun j hj => h i j (List.mem_range.mp hi) hj
theorem lay_od (o : Option Int) : layE (od o) := by
  cases o with
  | none => exact lay_none
  | some i => exact lay_int i
theorem lay_vec {n : Nat} {v : Nat → Option Int} : layE (dVec n v) := by
  have h : ∀ x ∈ (List.range n).map fun i => od (v i), PyData.canLay0 x = true ∧ PyData.depth x ≤ 0 := fun x hx => by
    obtain ⟨i, _, rfl⟩ := List.mem_map.mp hx
    cases v i <;> simp [od, PyData.canLay0, PyData.depth]
  have h1 : PyData.canLayAll0 ((List.range n).map fun i => od (v i)) = true := (lay_all fun x hx => ⟨(h x hx).1, Nat.le_trans (h x hx).2 (by omega)⟩).1
  have h2 := all_depth (xs := (List.range n).map fun i => od (v i)) (m := 0) fun x hx => (h x hx).2
  refine ⟨by rw [dVec, PyData.canLay0]; exact h1, ?_⟩
  rw [dVec, PyData.depth]; omega
theorem vec_shaped {n : Nat} {v : Nat → Option Int} : SeqAt.shaped (dVec n v) = true := shaped_tup fun x hx => by
  obtain ⟨i, _, rfl⟩ := List.mem_map.mp hx
  exact lay_od _
theorem mat_shaped {r c : Nat} {f : Nat → Nat → Option Int} : SeqAt.shaped (dMat r c f) = true := shaped_tup fun x hx => by
  obtain ⟨i, _, rfl⟩ := List.mem_map.mp hx
  exact lay_vec
theorem mat_eq {r c : Nat} {f : Nat → Nat → Option Int} : cmpF .eq (dMat r c f) (dMat r c f) = some true := eq_self mat_shaped (fun _ e => nomatch e)
theorem mat_ne {r c : Nat} {f : Nat → Nat → Option Int} : cmpF .ne (dMat r c f) (dMat r c f) = some false := by
  rw [neB _ _ mat_shaped mat_shaped (fun _ e => nomatch e), SeqAt.eqv_refl _ (SeqAt.canLay_of_shaped mat_shaped)]; rfl
/-! ### comprehensions, item by item -/
theorem compL_two {body : D → Store → Option (Option D × Store)} {st : Store} : ∀ {xs ys : List D}, xs.length = ys.length → (∀ (j : Nat) (x y : D), xs[j]? = some x → ys[j]? = some y → body x st = some (some y, st)) → xs.length ≤ sizeLine → compL body xs st = some (ys, st)
  | [], [], _, _, _ => rfl
  | [], _ :: _, h, _, _ => by cases h
  | _ :: _, [], h, _, _ => by cases h
  | x :: xs, y :: ys, h, hb, hl => by
    have ih := compL_two (xs := xs) (ys := ys) (by simpa using h) (fun j a b h1 h2 => hb (j + 1) a b (by simpa using h1) (by simpa using h2)) (by simp at hl; omega)
    rw [compL, hb 0 x y rfl rfl]
    simp only [Option.bind_some, ih]
    rw [if_pos (by simp at hl h; omega)]
section
variable {C : Str → Option D} {wf n : Nat} {Fs : List (Nat × Fn)} {st : Store} {Γ : Calls} {ρ : Slots}
theorem lc_two {own tg : List Nat} {fl : Bool} {elt : E} {it : It} {xs ys : List D} {st1 : Store} (hi : evI Γ C it ρ st = some (xs, st1)) (hl : xs.length ≤ sizeLine) (hy : xs.length = ys.length)
    (hb : ∀ (j : Nat) (x y : D), xs[j]? = some x → ys[j]? = some y → ∃ ρ' w, bindD (wipeW ρ own) tg fl x = some ρ' ∧ ev Γ C elt ρ' st1 = some (w, st1) ∧ fix st1 w = some (y, st1)) : ev Γ C (.lc own elt tg fl it .nil) ρ st = some (.f ys, st1) := by
  rw [ev, hi]
  show Option.map _ _ = _
  rw [compL_two (ys := ys) hy (fun j x y h1 h2 => ?_) hl]
  · rfl
  · obtain ⟨ρ', w, e1, e2, e3⟩ := hb j x y h1 h2
    rw [e1]
    simp [e2, e3]
/-- .. whose items come of places -/
theorem lc_rng {own tg : List Nat} {fl : Bool} {elt : E} {it : It} {N : Nat} {h e : Nat → D} {st1 : Store} (hi : evI Γ C it ρ st = some ((List.range N).map h, st1)) (hl : N ≤ 1000)
    (hb : ∀ q, q < N → ∃ ρ' w, bindD (wipeW ρ own) tg fl (h q) = some ρ' ∧ ev Γ C elt ρ' st1 = some (w, st1) ∧ fix st1 w = some (e q, st1)) : ev Γ C (.lc own elt tg fl it .nil) ρ st = some (.f ((List.range N).map e), st1) := by
  refine lc_two hi (szk _ (by simpa using hl)) (by simp) fun j x y h1 h2 => ?_
  rw [List.getElem?_map, Option.map_eq_some_iff] at h1 h2
  obtain ⟨j1, a1, rfl⟩ := h1
  obtain ⟨j2, a2, rfl⟩ := h2
  obtain ⟨l1, b1⟩ := List.getElem?_eq_some_iff.mp a1
  obtain ⟨l2, b2⟩ := List.getElem?_eq_some_iff.mp a2
  rw [List.getElem_range] at b1 b2
  subst b1 b2
  rw [List.length_range] at l1
  exact hb j l1
theorem zip_rng {N : Nat} {a b : Nat → D} : zipD ((List.range N).map a) ((List.range N).map b) = (List.range N).map fun l => .tuple [a l, b l] := by
  have : ∀ (l : List Nat), zipD (l.map a) (l.map b) = l.map fun l => .tuple [a l, b l] := by
    intro l
    induction l with
    | nil => rfl
    | cons x l ih => simp only [List.map_cons, zipD, ih]
  exact this _
theorem rng_map (N : Nat) : rangeD 0 N = (List.range N).map fun i => PyData.int (i : Nat) := by
  rw [rangeD]
  exact List.map_congr_left fun i _ => by simp
end
end Z
/-! ZMau: the texts about tables: latest, then, products, units. -/
set_option linter.all false
set_option autoImplicit false
set_option maxHeartbeats 4000000
set_option maxRecDepth 100000
namespace Z
open PySem
def F_latest : Fn := ⟨[false], 3,
  .cons (.asg (.nm 1 false) (.lc [2] (.var 2) [2] true (.val (.var 0)) (.cons (.cmp .isnotN (.var 2) (.non)) (.nil)))) (.cons (.ret (.ife (.cmp .ne (.var 1) (.lst (.nil))) (.bi .max (.cons (.var 1) (.nil))) (.non))) (.nil))⟩
def F_then : Fn := ⟨[false, false], 2,
  .cons (.ret (.ife (.or (.cons (.cmp .isN (.var 0) (.non)) (.cons (.cmp .isN (.var 1) (.non)) (.nil)))) (.non) (.bin .add (.var 0) (.var 1)))) (.nil)⟩
def F_columns_of : Fn := ⟨[false], 1,
  .cons (.ret (.tzs (.var 0))) (.nil)⟩
abbrev prB : Ss := (.cons (.exp (.me .append 2 (.cons (.lc [4] (.call 11 (.cons (.lc [5, 6] (.call 9 (.cons (.var 5) (.cons (.var 6) (.nil)))) [5, 6] false (.zip (.var 3) (.var 4)) (.nil)) (.nil))) [4] true (.val (.call 21 (.cons (.var 1) (.nil)))) (.nil)) (.nil)))) (.nil))
def F_product : Fn := ⟨[false, false], 7,
  .cons (.asg (.nm 2 true) (.lst (.nil))) (.cons (.fors [3] true (.val (.var 0)) prB) (.cons (.ret (.bi .tuple (.cons (.lc [3] (.bi .tuple (.cons (.var 3) (.nil))) [3] true (.val (.var 2)) (.nil)) (.nil)))) (.nil)))⟩
def F_law_later : Fn := ⟨[false], 3,
  .cons (.asg (.nm 1 false) (.non)) (.cons (.fors [2] true (.val (.var 0)) (.cons (.asg (.nm 1 false) (.ife (.or (.cons (.cmp .isN (.var 1) (.non)) (.cons (.and (.cons (.cmp .isnotN (.var 2) (.non)) (.cons (.cmp .gt (.var 2) (.var 1)) (.nil)))) (.nil)))) (.var 2) (.var 1))) (.nil))) (.cons (.ret (.var 1)) (.nil)))⟩
abbrev lpI : Ss := (.cons (.exp (.me .append 4 (.cons (.call 145 (.cons (.lc [6, 7] (.call 76 (.cons (.var 6) (.cons (.idx (.var 7) (.var 5)) (.nil)))) [6, 7] false (.zip (.var 3) (.var 1)) (.nil)) (.nil))) (.nil)))) (.nil))
abbrev lpB : Ss := (.cons (.asg (.nm 4 true) (.lst (.nil))) (.cons (.fors [5] true (.rng (.cons (.len (.idx (.var 1) (.int 0))) (.nil))) lpI) (.cons (.exp (.me .append 2 (.cons (.bi .tuple (.cons (.var 4) (.nil))) (.nil)))) (.nil))))
def F_law_product : Fn := ⟨[false, false], 8,
  .cons (.asg (.nm 2 true) (.lst (.nil))) (.cons (.fors [3] true (.val (.var 0)) lpB) (.cons (.ret (.bi .tuple (.cons (.var 2) (.nil)))) (.nil)))⟩
def F_unit_of : Fn := ⟨[false], 3,
  .cons (.ret (.bi .tuple (.cons (.lc [1] (.bi .tuple (.cons (.lc [2] (.ife (.cmp .eq (.var 1) (.var 2)) (.int 0) (.non)) [2] true (.rng (.cons (.var 0) (.nil))) (.nil)) (.nil))) [1] true (.rng (.cons (.var 0) (.nil))) (.nil)) (.nil)))) (.nil)⟩
section
variable {C : Str → Option D} {wf n : Nat} {Fs : List (Nat × Fn)} {st : Store} {Γ : Calls} {ρ : Slots}
theorem then_ok {f : Nat} (h : Fs.lookup f = some F_then) (a b : Option Int) : evCall C wf Fs (n + 1) f [.d (od a), .d (od b)] st = some (.d (od (thenO a b)), st) := by
  rw [evCall, h, Option.bind_some, F_then]
  simp only [enter_d, enter_nil, Option.map_some, Option.bind_some, List.map_cons, List.map_nil, List.length_cons, List.length_nil, List.replicate, List.cons_append, List.nil_append, Nat.reduceAdd, Nat.reduceSub]
  have c := or2 (Γ := evCall C wf Fs n) (C := C) (ρ := [some (.d (od a)), some (.d (od b))]) (st := st) (is_none (x := od a) (var_at (i := 0) rfl)) (fun _ => is_none (x := od b) (var_at (i := 1) rfl))
  have r : ev (evCall C wf Fs n) C (.ife (.or (.cons (.cmp .isN (.var 0) (.non)) (.cons (.cmp .isN (.var 1) (.non)) (.nil)))) (.non) (.bin .add (.var 0) (.var 1))) [some (.d (od a)), some (.d (od b))] st = some (.d (od (thenO a b)), st) := by
    refine ife_b c (fun h => ?_) (fun h => ?_)
    · rw [ev_non]
      cases a <;> cases b <;> first | rfl | cases h
    · cases a with
      | none => cases h
      | some a =>
        cases b with
        | none => cases h
        | some b => exact bin_ii (var_at rfl) (var_at rfl) rfl
  rw [st_rt r]
  simp only [Option.bind_some, leave_d, List.take_length]
theorem maxI_fold : ∀ (ns : List Int) (a : Int), some (maxI a ns) = (ns.map some).foldl stepO (some a)
  | [], a => rfl
  | n :: ns, a => by
    rw [maxI, List.map_cons, List.foldl_cons, maxI_fold ns]
    congr 1
    show _ = (if n > a then some n else some a)
    split <;> rfl
theorem fold_filter : ∀ (xs : List (Option Int)) (a : Option Int), ((xs.filterMap id).map some).foldl stepO a = xs.foldl stepO a
  | [], a => rfl
  | none :: xs, a => by
    rw [List.filterMap_cons_none rfl, List.foldl_cons, fold_filter xs]
    cases a <;> rfl
  | some x :: xs, a => by
    rw [List.filterMap_cons_some (f := id) (b := x) rfl, List.map_cons, List.foldl_cons, List.foldl_cons, fold_filter xs]
theorem ints_map : ∀ ns : List Int, intsD (ns.map PyData.int) = some ns
  | [] => rfl
  | n :: ns => by rw [List.map_cons, intsD, ints_map ns]; rfl
theorem keep_od : ∀ xs : List (Option Int), (xs.map od).filterMap keepG = (xs.filterMap id).map PyData.int
  | [] => rfl
  | none :: xs => by
    rw [List.map_cons, List.filterMap_cons_none rfl, List.filterMap_cons_none rfl, keep_od xs]
  | some x :: xs => by
    rw [List.map_cons, List.filterMap_cons_some (f := keepG) (b := PyData.int x) rfl, List.filterMap_cons_some (f := id) (b := x) rfl, List.map_cons, keep_od xs]
theorem latest_ok {l : Nat} (h : Fs.lookup l = some F_latest) {xs : List (Option Int)} (hl : xs.length ≤ 1000) : evCall C wf Fs (n + 1) l [.f (xs.map od)] st = some (.d (od (laterO xs)), st) := by
  rw [evCall, h, Option.bind_some, F_latest]
  simp only [enter_f, enter_nil, Option.map_some, Option.bind_some, List.map_cons, List.map_nil, List.length_cons, List.length_nil, List.replicate, List.cons_append, List.nil_append, Nat.reduceAdd, Nat.reduceSub]
  have c1 := lc_fm (Γ := evCall C wf Fs n) (C := C) (ρ := [some (.d (.list (xs.map od))), none, none]) (st := st) (own := [2]) (tg := [2]) (fl := true) (elt := .var 2) (c := .cmp .isnotN (.var 2) .non) (it := .val (.var 0)) (xs := xs.map od) (g := keepG) (st1 := st)
    (walk_d (var_at rfl) rfl) (szk _ (by simpa using hl)) (fun x hx => ⟨[some (.d (.list (xs.map od))), none, some (.d x)], .d (.bool (!isNone x)), !isNone x, rfl, isnt_none (var_at rfl), rfl, fun z => by rw [keepG, show isNone x = true by simpa using z]; rfl, fun z => ⟨_, _, var_at rfl, rfl, by rw [keepG, show isNone x = false by simpa using z]; rfl⟩⟩)
  rw [keep_od] at c1
  rw [st_one (ρ' := [some (.d (.list (xs.map od))), some (.d (.list ((xs.filterMap id).map PyData.int))), none]) (st' := st) (asg_f c1)]
  have hs : SeqAt.shaped (.list ((xs.filterMap id).map PyData.int)) = true := shaped_list fun y hy => by
    obtain ⟨i, _, rfl⟩ := List.mem_map.mp hy
    exact lay_int i
  have a1 : ev (evCall C wf Fs n) C (.cmp .ne (.var 1) (.lst .nil)) [some (.d (.list (xs.map od))), some (.d (.list ((xs.filterMap id).map PyData.int))), none] st = some (.d (.bool (!((xs.filterMap id).map PyData.int).isEmpty)), st) :=
    cmp_dd (x := .list ((xs.filterMap id).map PyData.int)) (y := .list []) (var_at rfl) (lst_ok evD_nil (szk _ (by simp))) rfl rfl (by rw [neB _ _ hs (by decide +kernel) (fun _ e => nomatch e), eqv_nil])
  have key : laterO xs = (match xs.filterMap id with
      | [] => none
      | a :: r => some (maxI a r)) := by
    rw [laterO, ← fold_filter]
    cases xs.filterMap id with
    | nil => rfl
    | cons a r => simp only [List.map_cons, List.foldl_cons, maxI_fold]; rfl
  have r : ev (evCall C wf Fs n) C (.ife (.cmp .ne (.var 1) (.lst (.nil))) (.bi .max (.cons (.var 1) (.nil))) (.non)) [some (.d (.list (xs.map od))), some (.d (.list ((xs.filterMap id).map PyData.int))), none] st = some (.d (od (laterO xs)), st) := by
    rw [key]
    refine ife_b a1 (fun z => ?_) (fun z => ?_)
    · cases hf : xs.filterMap id with
      | nil => rw [hf] at z; simp at z
      | cons a r =>
        rw [ev_bi, evs_c (var_at rfl) evs_nil]
        simp only [Option.bind_some, rds_cons, rd_d, rds_nil, Option.map_some]
        show Option.map _ ((intsD ((a :: r).map PyData.int)).bind _) = _
        rw [ints_map]
        rfl
    · rw [ev_non]
      cases hf : xs.filterMap id with
      | nil => rfl
      | cons a r => rw [hf] at z; simp at z
  rw [st_rt r]
  simp only [Option.bind_some, leave_d, List.take_length]
theorem later_loop {x0 : Option W} : ∀ (xs : List (Option Int)) (f : Option Int) (x2 : Option W), ∃ y2, loopF (fun x ρ st => (bindD ρ [2] true x).bind fun ρ' => evSs Γ C wf (.cons (.asg (.nm 1 false) (.ife (.or (.cons (.cmp .isN (.var 1) (.non)) (.cons (.and (.cons (.cmp .isnotN (.var 2) (.non)) (.cons (.cmp .gt (.var 2) (.var 1)) (.nil)))) (.nil)))) (.var 2) (.var 1))) (.nil)) ρ' st) (xs.map od) [x0, some (.d (od f)), x2] st
      = some (.nx [x0, some (.d (od (xs.foldl stepO f))), y2] st)
  | [], f, x2 => ⟨x2, rfl⟩
  | o :: xs, f, x2 => by
    obtain ⟨y2, e⟩ := later_loop xs (stepO f o) (some (.d (od o)))
    refine ⟨y2, ?_⟩
    rw [List.map_cons, loopF, show bindD [x0, some (.d (od f)), x2] [2] true (od o) = some [x0, some (.d (od f)), some (.d (od o))] from rfl]
    have body : evSs Γ C wf (.cons (.asg (.nm 1 false) (.ife (.or (.cons (.cmp .isN (.var 1) (.non)) (.cons (.and (.cons (.cmp .isnotN (.var 2) (.non)) (.cons (.cmp .gt (.var 2) (.var 1)) (.nil)))) (.nil)))) (.var 2) (.var 1))) (.nil)) [x0, some (.d (od f)), some (.d (od o))] st = some (.nx [x0, some (.d (od (stepO f o))), some (.d (od o))] st) := by
      refine (st_one (ρ' := [x0, some (.d (od (stepO f o))), some (.d (od o))]) (st' := st) (asg_d ?_)).trans evSs_nil
      cases f with
      | none =>
        refine ife_b (or2 (k2 := true) (is_none (x := .none) (var_at rfl)) (fun h => nomatch h)) (fun _ => ?_) (fun h => nomatch h)
        exact var_at rfl
      | some a =>
        cases o with
        | none =>
          refine ife_b (or2 (k1 := false) (k2 := false) (is_none (x := .int a) (var_at rfl)) (fun _ => ?_)) (fun h => nomatch h) (fun _ => var_at rfl)
          exact and2 (k1 := false) (k2 := true) (isnt_none (x := .none) (var_at rfl)) (fun h => nomatch h)
        | some b =>
          refine ife_b (or2 (k1 := false) (k2 := decide (a < b)) (is_none (x := .int a) (var_at rfl)) (fun _ => ?_)) (fun h => ?_) (fun h => ?_)
          · exact and2 (k1 := true) (k2 := decide (a < b)) (isnt_none (x := .int b) (var_at rfl)) (fun _ => cmp_dd (x := .int b) (y := .int a) (var_at rfl) (var_at rfl) rfl rfl rfl)
          · have h : a < b := by simpa using h
            rw [var_at rfl, stepO, if_pos h]
          · have h : ¬ a < b := by simpa using h
            rw [var_at rfl, stepO, if_neg h]
    simp only [Option.bind_some, body]
    exact e
theorem law_later_ok (h : Fs.lookup 145 = some F_law_later) {xs : List (Option Int)} : evCall C wf Fs (n + 1) 145 [.f (xs.map od)] st = some (.d (od (laterO xs)), st) := by
  rw [evCall, h, Option.bind_some, F_law_later]
  simp only [enter_f, enter_nil, Option.map_some, Option.bind_some, List.map_cons, List.map_nil, List.length_cons, List.length_nil, List.replicate, List.cons_append, List.nil_append, Nat.reduceAdd, Nat.reduceSub]
  obtain ⟨y2, e⟩ := later_loop (Γ := evCall C wf Fs n) (C := C) (wf := wf) (st := st) (x0 := some (.d (.list (xs.map od)))) xs none none
  rw [st_one (ρ' := [some (.d (.list (xs.map od))), some (.d .none), none]) (st' := st) (asg_d ev_non)]
  rw [st_one (ρ' := [some (.d (.list (xs.map od))), some (.d (od (laterO xs))), y2]) (st' := st) (by
    rw [evS, walk_d (x := .list (xs.map od)) (xs := xs.map od) (var_at rfl) rfl]
    exact e)]
  rw [st_rt (var_at rfl)]
  simp only [Option.bind_some, leave_d, List.take_length]
theorem allT_map {N : Nat} {h : Nat → List D} : allT ((List.range N).map fun i => PyData.tuple (h i)) = some ((List.range N).map h) := by
  have : ∀ l : List Nat, allT (l.map fun i => PyData.tuple (h i)) = some (l.map h) := by
    intro l
    induction l with
    | nil => rfl
    | cons x l ih => rw [List.map_cons, allT, ih]; rfl
  exact this _
theorem trans_mat {r c : Nat} {g : Nat → Nat → Option Int} (hr : 1 ≤ r ∧ r ≤ 8) (hc : 1 ≤ c ∧ c ≤ 1000) : transF (dMat r c g) = some (dMat c r fun j i => g i j) := by
  rw [dMat, transF, show ((List.range r).map fun i => dVec c (g i)) = (List.range r).map fun i => PyData.tuple ((List.range c).map fun j => od (g i j)) from rfl, allT_map]
  obtain ⟨m, rfl⟩ : ∃ m, r = m + 1 := ⟨r - 1, by omega⟩
  have e : (List.range (m + 1)).map (fun i => (List.range c).map fun j => od (g i j)) = ((List.range c).map fun j => od (g 0 j)) :: (List.range m).map (fun i => (List.range c).map fun j => od (g (i + 1) j)) := by
    rw [List.range_succ_eq_map, List.map_cons, List.map_map]; rfl
  rw [Option.bind_some, e]
  simp only [List.length_map, List.length_range]
  rw [if_pos ⟨by omega, by omega, by omega, by rw [List.all_eq_true]; intro ys hy; obtain ⟨i, _, rfl⟩ := List.mem_map.mp hy; simp⟩, ← e, dMat, colsD]
  congr 2
  refine List.map_congr_left fun j hj => ?_
  have hj := List.mem_range.mp hj
  rw [List.map_map, dVec]
  congr 1
  refine List.map_congr_left fun i hi => ?_
  simp only [Function.comp]
  rw [List.getD_eq_getElem?_getD, List.getElem?_map, List.getElem?_range hj]
  rfl
theorem columns_ok (h : Fs.lookup 21 = some F_columns_of) {r c : Nat} {g : Nat → Nat → Option Int} (hr : 1 ≤ r ∧ r ≤ 8) (hc : 1 ≤ c ∧ c ≤ 1000) : evCall C wf Fs (n + 1) 21 [.d (dMat r c g)] st = some (.d (dMat c r fun j i => g i j), st) := by
  rw [evCall, h, Option.bind_some, F_columns_of]
  simp only [enter_d, enter_nil, Option.map_some, Option.bind_some, List.map_cons, List.map_nil, List.length_cons, List.length_nil, List.replicate, List.cons_append, List.nil_append, Nat.reduceAdd, Nat.reduceSub]
  have r : ev (evCall C wf Fs n) C (.tzs (.var 0)) [some (.d (dMat r c g))] st = some (.d (dMat c r fun j i => g i j), st) := by
    rw [ev_tzs, var_at rfl]
    simp only [Option.bind_some, rd_d, trans_mat hr hc, Option.map_some]
  rw [st_rt r]
  simp only [Option.bind_some, leave_d, List.take_length]
theorem itemsOf_mat {r c : Nat} {g : Nat → Nat → Option Int} : itemsOf (dMat r c g) = some ((List.range r).map fun i => dVec c (g i)) := rfl
theorem itemsOf_vec {c : Nat} {v : Nat → Option Int} : itemsOf (dVec c v) = some ((List.range c).map fun i => od (v i)) := rfl
end
end Z
/-! ZMav: products of tables, units. -/
set_option linter.all false
set_option autoImplicit false
set_option maxHeartbeats 4000000
set_option maxRecDepth 100000
namespace Z
open PySem
section
variable {C : Str → Option D} {wf n : Nat} {Fs : List (Nat × Fn)} {st : Store} {Γ : Calls} {ρ : Slots}
theorem tuple_of {e : E} {st1 : Store} {w : W} {xs : List D} (h : ev Γ C e ρ st = some (w, st1)) (hr : rd st1 w = some (.list xs)) : ev Γ C (.bi .tuple (.cons e .nil)) ρ st = some (.d (.tuple xs), st1) := by
  rw [ev_bi, evs_c h evs_nil]
  simp only [Option.bind_some, rds_cons, hr, rds_nil, Option.map_some, biF_tupL]
theorem len_of {e : E} {st1 : Store} {xs : List D} (h : ev Γ C e ρ st = some (.d (.tuple xs), st1)) : ev Γ C (.len e) ρ st = some (.d (.int xs.length), st1) := by
  rw [ev_len, h]; simp
theorem rng_of {e : E} {k : Nat} {st1 : Store} (h : ev Γ C e ρ st = some (.d (.int (k : Int)), st1)) (hk : k ≤ 1000) : evI Γ C (.rng (.cons e .nil)) ρ st = some (rangeD 0 k, st1) := by
  have e2 : evD Γ C (.cons e .nil) ρ st = some ([.int (k : Int)], st1) := evD_c h rfl evD_nil
  rw [evI_rng, e2, Option.bind_some, rngF_one (rg_nat hk), Option.map_some, Int.toNat_natCast]
theorem range_snoc {N : Nat} {h : Nat → D} : (List.range (N + 1)).map h = (List.range N).map h ++ [h N] := by
  rw [List.range_succ, List.map_append]; rfl
/-- then, latest over one row and one column -/
theorem unit_in {m i : Nat} (hm : m ≤ 1000) {x2 : Option W} : ev Γ C (.lc [2] (.ife (.cmp .eq (.var 1) (.var 2)) (.int 0) (.non)) [2] true (.rng (.cons (.var 0) (.nil))) (.nil)) [some (.d (.int (m : Int))), some (.d (.int (i : Nat))), x2] st = some (.f ((List.range m).map fun j => od (unitF i j)), st) :=
  lc_rng (h := fun i => .int (i : Nat)) (st1 := st) ((rng_var (i := 0) rfl hm).trans (by rw [rng_map])) hm (fun j hj => by
    refine ⟨[some (.d (.int (m : Int))), some (.d (.int (i : Nat))), some (.d (.int (j : Nat)))], .d (od (unitF i j)), rfl, ?_, rfl⟩
    refine ife_b (k := decide ((i : Int) = (j : Int))) (cmp_dd (x := .int (i : Nat)) (y := .int (j : Nat)) (var_at rfl) (var_at rfl) rfl rfl cmpF_eqI) (fun z => ?_) (fun z => ?_)
    · have z := of_decide_eq_true z
      have z2 : i = j := by omega
      rw [ev_int, unitF, if_pos z2]; rfl
    · have z := of_decide_eq_false z
      have z2 : ¬ i = j := by omega
      rw [ev_non, unitF, if_neg z2]; rfl)
theorem unit_out {m : Nat} (hm : m ≤ 1000) {x1 x2 : Option W} : ev Γ C (.lc [1] (.bi .tuple (.cons (.lc [2] (.ife (.cmp .eq (.var 1) (.var 2)) (.int 0) (.non)) [2] true (.rng (.cons (.var 0) (.nil))) (.nil)) (.nil))) [1] true (.rng (.cons (.var 0) (.nil))) (.nil)) [some (.d (.int (m : Int))), x1, x2] st = some (.f ((List.range m).map fun i => dVec m (unitF i)), st) :=
  lc_rng (h := fun i => .int (i : Nat)) (st1 := st) ((rng_var (i := 0) rfl hm).trans (by rw [rng_map])) hm (fun i hi => ⟨[some (.d (.int (m : Int))), some (.d (.int (i : Nat))), x2], .d (dVec m (unitF i)), rfl, tuple_of (unit_in hm) rfl, rfl⟩)
theorem call_rt {F : Fn} {f : Nat} {ws ws' : List W} {ρ0 : Slots} {st0 st' : Store} {w : W} {o : Option (W × Store)} (h : Fs.lookup f = some F) (he : enter F.cps ws st = some (ws', st0)) (hρ : ws'.map some ++ List.replicate (F.ns - ws'.length) none = ρ0) (hb : evSs (evCall C wf Fs n) C wf F.body ρ0 st0 = some (.rt w st')) (hl : leave st.length w st' = o) :
    evCall C wf Fs (n + 1) f ws st = o := by
  rw [evCall, h, Option.bind_some, he, Option.bind_some, hρ, hb, Option.bind_some]
  exact hl
theorem leave_same {x : D} : leave st.length (.d x) st = some (.d x, st) := by rw [leave_d, List.take_length]
theorem unit_ok (h : Fs.lookup 34 = some F_unit_of) {m : Nat} (hm : m ≤ 1000) : evCall C wf Fs (n + 1) 34 [.d (.int (m : Int))] st = some (.d (dMat m m unitF), st) :=
  call_rt h (ρ0 := [some (.d (.int (m : Int))), none, none]) (st0 := st) rfl rfl (st_rt (tuple_of (unit_out hm) rfl)) leave_same
/-! ### the product -/
theorem pr_row (h9 : Fs.lookup 9 = some F_then) (h11 : Fs.lookup 11 = some F_latest) (h21 : Fs.lookup 21 = some F_columns_of) {r k c : Nat} {f g : Nat → Nat → Option Int} (hk : 1 ≤ k ∧ k ≤ 8) (hc : 1 ≤ c ∧ c ≤ 1000) (i : Nat) {x0 x2 x4 x5 x6 : Option W} :
    ev (evCall C wf Fs (n + 1)) C (.lc [4] (.call 11 (.cons (.lc [5, 6] (.call 9 (.cons (.var 5) (.cons (.var 6) (.nil)))) [5, 6] false (.zip (.var 3) (.var 4)) (.nil)) (.nil))) [4] true (.val (.call 21 (.cons (.var 1) (.nil)))) (.nil)) [x0, some (.d (dMat k c g)), x2, some (.d (dVec k (f i))), x4, x5, x6] st
      = some (.f ((List.range c).map fun j => od (mulF k f g i j)), st) := by
  refine lc_rng (h := fun j => dVec k fun l => g l j) (st1 := st) (walk_d (call1 (var_at rfl) (columns_ok h21 hk hc)) rfl) hc.2 (fun j hj => ?_)
  have c2 := lc_rng (Γ := evCall C wf Fs (n + 1)) (C := C) (ρ := [x0, some (.d (dMat k c g)), x2, some (.d (dVec k (f i))), some (.d (dVec k fun l => g l j)), x5, x6]) (st := st) (own := [5, 6]) (tg := [5, 6]) (fl := false) (N := k) (h := fun l => .tuple [od (f i l), od (g l j)]) (e := fun l => od (thenO (f i l) (g l j))) (it := .zip (.var 3) (.var 4)) (elt := .call 9 (.cons (.var 5) (.cons (.var 6) (.nil))))
    (st1 := st) (by
      rw [evI_zip, var_at rfl]
      simp only [Option.bind_some, fix_d]
      rw [var_at rfl]
      simp only [Option.bind_some, fix_d]
      show Option.map _ (some (zipD ((List.range k).map fun l => od (f i l)) ((List.range k).map fun l => od (g l j)))) = _
      rw [zip_rng]; rfl) (by omega) (fun l hl => ⟨[x0, some (.d (dMat k c g)), x2, some (.d (dVec k (f i))), some (.d (dVec k fun l => g l j)), some (.d (od (f i l))), some (.d (od (g l j)))], _, rfl, call2 (var_at rfl) (var_at rfl) (then_ok h9 _ _), rfl⟩)
  have e2 : ((List.range k).map fun l => od (thenO (f i l) (g l j))) = ((List.range k).map fun l => thenO (f i l) (g l j)).map od := by rw [List.map_map]; rfl
  rw [e2] at c2
  exact ⟨_, _, rfl, call1 c2 (latest_ok h11 (by simp; omega)), rfl⟩
theorem product_ok (h9 : Fs.lookup 9 = some F_then) (h11 : Fs.lookup 11 = some F_latest) (h21 : Fs.lookup 21 = some F_columns_of) (h : Fs.lookup 26 = some F_product) {r k c : Nat} {f g : Nat → Nat → Option Int} (hr : r ≤ 1000) (hk : 1 ≤ k ∧ k ≤ 8) (hc : 1 ≤ c ∧ c ≤ 1000) :
    evCall C wf Fs (n + 2) 26 [.d (dMat r k f), .d (dMat k c g)] st = some (.d (dMat r c (mulF k f g)), st) := by
  rw [evCall, h, Option.bind_some, F_product]
  simp only [enter_d, enter_nil, Option.map_some, Option.bind_some, List.map_cons, List.map_nil, List.length_cons, List.length_nil, List.replicate, List.cons_append, List.nil_append, Nat.reduceAdd, Nat.reduceSub]
  rw [st_one (ρ' := [some (.d (dMat r k f)), some (.d (dMat k c g)), some (.c st.length), none, none, none, none]) (st' := st ++ [⟨false, []⟩]) (asg_mk (lst_ok evD_nil (szk _ (by simp))))]
  obtain ⟨ρ', st', e, x3, x4, x5, x6, hρ, hst⟩ := fors_inv (wf := wf) (Γ := evCall C wf Fs (n + 1)) (C := C) (ρ := [some (.d (dMat r k f)), some (.d (dMat k c g)), some (.c st.length), none, none, none, none]) (st := st ++ [⟨false, []⟩]) (st1 := st ++ [⟨false, []⟩]) (tg := [3]) (fl := true) (body := prB) (it := .val (.var 0)) (xs := (List.range r).map fun i => dVec k (f i))
    (I := fun j ρ s => ∃ x3 x4 x5 x6, ρ = [some (.d (dMat r k f)), some (.d (dMat k c g)), some (.c st.length), x3, x4, x5, x6] ∧ s = st ++ [⟨false, (List.range j).map fun i => PyData.list ((List.range c).map fun q => od (mulF k f g i q))⟩])
    (walk_d (var_at rfl) itemsOf_mat) ⟨none, none, none, none, rfl, rfl⟩ (fun j x ρ s hj ⟨x3, x4, x5, x6, hρ, hs⟩ => by
      subst hρ hs
      rw [List.getElem?_map, Option.map_eq_some_iff] at hj
      obtain ⟨j1, a1, rfl⟩ := hj
      obtain ⟨l1, b1⟩ := List.getElem?_eq_some_iff.mp a1
      rw [List.getElem_range] at b1
      subst b1
      rw [List.length_range] at l1
      refine ⟨[some (.d (dMat r k f)), some (.d (dMat k c g)), some (.c st.length), some (.d (dVec k (f j))), x4, x5, x6], rfl, [some (.d (dMat r k f)), some (.d (dMat k c g)), some (.c st.length), some (.d (dVec k (f j))), x4, x5, x6], (st ++ [(⟨false, (List.range j).map fun i => PyData.list ((List.range c).map fun q => od (mulF k f g i q))⟩ : Cell)] : Store).set st.length ⟨false, ((List.range j).map fun i => PyData.list ((List.range c).map fun q => od (mulF k f g i q))) ++ [PyData.list ((List.range c).map fun q => od (mulF k f g j q))]⟩,
        (st_one (app_c (j := st.length) rfl (pr_row h9 h11 h21 (r := r) hk hc j) rfl get1 (by rw [List.length_map, List.length_range, szl]; omega))).trans evSs_nil, _, _, _, _, rfl, ?_⟩
      rw [range_snoc]
      simp)
  subst hρ hst
  rw [List.length_map, List.length_range] at e
  rw [st_one e]
  have c2 := lc_rng (Γ := evCall C wf Fs (n + 1)) (C := C) (ρ := [some (.d (dMat r k f)), some (.d (dMat k c g)), some (.c st.length), x3, x4, x5, x6]) (st := st ++ [⟨false, (List.range r).map fun i => PyData.list ((List.range c).map fun q => od (mulF k f g i q))⟩]) (own := [3]) (tg := [3]) (fl := true) (N := r)
    (h := fun i => PyData.list ((List.range c).map fun q => od (mulF k f g i q))) (e := fun i => dVec c (mulF k f g i)) (it := .val (.var 2)) (elt := .bi .tuple (.cons (.var 3) (.nil)))
    (st1 := (st ++ [(⟨false, (List.range r).map fun i => PyData.list ((List.range c).map fun q => od (mulF k f g i q))⟩ : Cell)]).set st.length ⟨true, (List.range r).map fun i => PyData.list ((List.range c).map fun q => od (mulF k f g i q))⟩)
    (walk_c rfl get1) hr (fun i hi => ⟨_, _, rfl, tuple_of (var_at rfl) rfl, rfl⟩)
  rw [st_rt (tuple_of c2 rfl)]
  simp only [Option.bind_some, leave_d]
  have : ((st ++ [(⟨false, (List.range r).map fun i => PyData.list ((List.range c).map fun q => od (mulF k f g i q))⟩ : Cell)]).set st.length ⟨true, (List.range r).map fun i => PyData.list ((List.range c).map fun q => od (mulF k f g i q))⟩ : Store).take st.length = st := by
    rw [List.set_append_right (h := Nat.le_refl _)]
    exact List.take_left
  rw [this]
  rfl
/-! ### the law's own product -/
theorem lp_row (h76 : Fs.lookup 76 = some F_then) (h145 : Fs.lookup 145 = some F_law_later) {r k c : Nat} {f g : Nat → Nat → Option Int} (hk : k ≤ 1000) (i : Nat) {j : Nat} (hj : j < c) {x0 x2 x4 x6 x7 : Option W} :
    ev (evCall C wf Fs (n + 1)) C (.call 145 (.cons (.lc [6, 7] (.call 76 (.cons (.var 6) (.cons (.idx (.var 7) (.var 5)) (.nil)))) [6, 7] false (.zip (.var 3) (.var 1)) (.nil)) (.nil))) [x0, some (.d (dMat k c g)), x2, some (.d (dVec k (f i))), x4, some (.d (.int (j : Nat))), x6, x7] st
      = some (.d (od (mulF k f g i j)), st) := by
  have c2 := lc_rng (Γ := evCall C wf Fs (n + 1)) (C := C) (ρ := [x0, some (.d (dMat k c g)), x2, some (.d (dVec k (f i))), x4, some (.d (.int (j : Nat))), x6, x7]) (st := st) (own := [6, 7]) (tg := [6, 7]) (fl := false) (N := k) (h := fun l => .tuple [od (f i l), dVec c (g l)]) (e := fun l => od (thenO (f i l) (g l j))) (it := .zip (.var 3) (.var 1)) (elt := .call 76 (.cons (.var 6) (.cons (.idx (.var 7) (.var 5)) (.nil))))
    (st1 := st) (by
      rw [evI_zip, var_at rfl]
      simp only [Option.bind_some, fix_d]
      rw [var_at rfl]
      simp only [Option.bind_some, fix_d]
      show Option.map _ (some (zipD ((List.range k).map fun l => od (f i l)) ((List.range k).map fun l => dVec c (g l)))) = _
      rw [zip_rng]; rfl) hk (fun l hl => by
        refine ⟨[x0, some (.d (dMat k c g)), x2, some (.d (dVec k (f i))), x4, some (.d (.int (j : Nat))), some (.d (od (f i l))), some (.d (dVec c (g l)))], _, rfl, call2 (w2 := .d (od (g l j))) (s2 := st) (var_at rfl) ?_ (then_ok h76 _ _), rfl⟩
        have it := item_nat (xs := (List.range c).map fun i => od (g l i)) (i := j) (by rw [List.length_map, List.length_range]; exact hj)
        rw [ev_idx, var_at (w := .d (dVec c (g l))) rfl, Option.bind_some, var_at (w := .d (.int (j : Nat))) rfl, Option.bind_some, rd_d, Option.bind_some]
        show Option.bind (rd _ (.d (dVec c (g l)))) _ = _
        rw [rd_d, Option.bind_some, dVec, idxF_T, it, Option.map_some, List.getElem_map, List.getElem_range])
  have e2 : ((List.range k).map fun l => od (thenO (f i l) (g l j))) = ((List.range k).map fun l => thenO (f i l) (g l j)).map od := by rw [List.map_map]; rfl
  rw [e2] at c2
  exact call1 c2 (law_later_ok h145)
theorem set_at {s t : Store} {a b : Cell} {m : Nat} (hm : s.length = m) : (s ++ a :: t).set m b = s ++ b :: t := by
  subst hm
  rw [List.set_append_right (h := Nat.le_refl _), Nat.sub_self, List.set_cons_zero]
theorem get_at {s t : Store} {a : Cell} {m : Nat} (hm : s.length = m) : (s ++ a :: t)[m]? = some a := by
  subst hm
  simp
theorem lp_inner (h76 : Fs.lookup 76 = some F_then) (h145 : Fs.lookup 145 = some F_law_later) {r k c : Nat} {f g : Nat → Nat → Option Int} (hk : 1 ≤ k ∧ k ≤ 1000) (hc : c ≤ 1000) (i : Nat) {x0 x2 x5 x6 x7 : Option W} {s : Store} :
    ∃ y5 y6 y7, evS (evCall C wf Fs (n + 1)) C wf (.fors [5] true (.rng (.cons (.len (.idx (.var 1) (.int 0))) (.nil))) lpI) [x0, some (.d (dMat k c g)), x2, some (.d (dVec k (f i))), some (.c s.length), x5, x6, x7] (s ++ [⟨false, []⟩])
      = some (.nx [x0, some (.d (dMat k c g)), x2, some (.d (dVec k (f i))), some (.c s.length), y5, y6, y7] (s ++ [⟨false, (List.range c).map fun q => od (mulF k f g i q)⟩])) := by
  have ln : evI (evCall C wf Fs (n + 1)) C (.rng (.cons (.len (.idx (.var 1) (.int 0))) (.nil))) [x0, some (.d (dMat k c g)), x2, some (.d (dVec k (f i))), some (.c s.length), x5, x6, x7] (s ++ [⟨false, []⟩]) = some ((List.range c).map fun q => PyData.int (q : Nat), s ++ [⟨false, []⟩]) := by
    have ix : ev (evCall C wf Fs (n + 1)) C (.idx (.var 1) (.int 0)) [x0, some (.d (dMat k c g)), x2, some (.d (dVec k (f i))), some (.c s.length), x5, x6, x7] (s ++ [⟨false, []⟩]) = some (.d (dVec c (g 0)), s ++ [⟨false, []⟩]) := by
      rw [ev_idx, var_at rfl]
      have := item_nat (xs := (List.range k).map fun i => dVec c (g i)) (i := 0) (by rw [List.length_map, List.length_range]; omega)
      rw [show ((0 : Nat) : Int) = 0 from rfl] at this
      rw [Option.bind_some, ev_int, Option.bind_some, rd_d, Option.bind_some]
      show Option.bind (rd _ (.d (dMat k c g))) _ = _
      rw [rd_d, Option.bind_some, dMat, idxF_T, this, Option.map_some, List.getElem_map, List.getElem_range]
    have lx := len_of (xs := (List.range c).map fun q => od (g 0 q)) ix
    have hlen : ((List.range c).map fun q => od (g 0 q)).length = c := by rw [List.length_map, List.length_range]
    rw [hlen] at lx
    rw [rng_of lx hc, rng_map]
  obtain ⟨ρ', st', e, y5, y6, y7, hρ, hst⟩ := fors_inv (wf := wf) (Γ := evCall C wf Fs (n + 1)) (C := C) (tg := [5]) (fl := true) (body := lpI)
    (I := fun j ρ t => ∃ y5 y6 y7, ρ = [x0, some (.d (dMat k c g)), x2, some (.d (dVec k (f i))), some (.c s.length), y5, y6, y7] ∧ t = s ++ [⟨false, (List.range j).map fun q => od (mulF k f g i q)⟩])
    ln ⟨_, _, _, rfl, rfl⟩ (fun j x ρ t hj ⟨y5, y6, y7, hρ, hs⟩ => by
      subst hρ hs
      rw [List.getElem?_map, Option.map_eq_some_iff] at hj
      obtain ⟨j1, a1, rfl⟩ := hj
      obtain ⟨l1, b1⟩ := List.getElem?_eq_some_iff.mp a1
      rw [List.getElem_range] at b1
      subst b1
      rw [List.length_range] at l1
      refine ⟨_, rfl, _, _, (st_one (app_c (j := s.length) rfl (lp_row h76 h145 (r := r) hk.2 i l1) rfl get1 (by rw [List.length_map, List.length_range, szl]; omega))).trans evSs_nil, _, _, _, rfl, ?_⟩
      rw [range_snoc]
      simp)
  subst hρ hst
  rw [List.length_map, List.length_range] at e
  exact ⟨y5, y6, y7, e⟩
theorem law_product_ok (h76 : Fs.lookup 76 = some F_then) (h145 : Fs.lookup 145 = some F_law_later) (h : Fs.lookup 114 = some F_law_product) {r k c : Nat} {f g : Nat → Nat → Option Int} (hr : r ≤ 1000) (hk : 1 ≤ k ∧ k ≤ 1000) (hc : c ≤ 1000) :
    evCall C wf Fs (n + 2) 114 [.d (dMat r k f), .d (dMat k c g)] st = some (.d (dMat r c (mulF k f g)), st) := by
  rw [evCall, h, Option.bind_some, F_law_product]
  simp only [enter_d, enter_nil, Option.map_some, Option.bind_some, List.map_cons, List.map_nil, List.length_cons, List.length_nil, List.replicate, List.cons_append, List.nil_append, Nat.reduceAdd, Nat.reduceSub]
  rw [st_one (ρ' := [some (.d (dMat r k f)), some (.d (dMat k c g)), some (.c st.length), none, none, none, none, none]) (st' := st ++ [⟨false, []⟩]) (asg_mk (lst_ok evD_nil (szk _ (by simp))))]
  obtain ⟨ρ', st', e, x3, x4, x5, x6, x7, hρ, tl, hst⟩ := fors_inv (wf := wf) (Γ := evCall C wf Fs (n + 1)) (C := C) (ρ := [some (.d (dMat r k f)), some (.d (dMat k c g)), some (.c st.length), none, none, none, none, none]) (st := st ++ [⟨false, []⟩]) (st1 := st ++ [⟨false, []⟩]) (tg := [3]) (fl := true) (body := lpB) (it := .val (.var 0)) (xs := (List.range r).map fun i => dVec k (f i))
    (I := fun j ρ s => ∃ x3 x4 x5 x6 x7, ρ = [some (.d (dMat r k f)), some (.d (dMat k c g)), some (.c st.length), x3, x4, x5, x6, x7] ∧ ∃ tl : Store, s = st ++ ⟨false, (List.range j).map fun i => dVec c (mulF k f g i)⟩ :: tl)
    (walk_d (var_at rfl) itemsOf_mat) ⟨none, none, none, none, none, rfl, [], rfl⟩ (fun j x ρ s hj ⟨x3, x4, x5, x6, x7, hρ, tl, hs⟩ => by
      subst hρ hs
      rw [List.getElem?_map, Option.map_eq_some_iff] at hj
      obtain ⟨j1, a1, rfl⟩ := hj
      obtain ⟨l1, b1⟩ := List.getElem?_eq_some_iff.mp a1
      rw [List.getElem_range] at b1
      subst b1
      rw [List.length_range] at l1
      obtain ⟨y5, y6, y7, ei⟩ := lp_inner (C := C) (wf := wf) (n := n) (Fs := Fs) (f := f) (g := g) h76 h145 (r := r) hk hc j (x0 := some (.d (dMat r k f))) (x2 := some (.c st.length)) (x5 := x5) (x6 := x6) (x7 := x7) (s := st ++ ⟨false, (List.range j).map fun i => dVec c (mulF k f g i)⟩ :: tl)
      refine ⟨_, rfl, [some (.d (dMat r k f)), some (.d (dMat k c g)), some (.c st.length), some (.d (dVec k (f j))), some (.c (st ++ ⟨false, (List.range j).map fun i => dVec c (mulF k f g i)⟩ :: tl).length), y5, y6, y7], _, ?_, ⟨_, _, _, _, _, rfl, tl ++ [⟨false, (List.range c).map fun q => od (mulF k f g j q)⟩], rfl⟩⟩
      refine (st_one (ρ' := [some (.d (dMat r k f)), some (.d (dMat k c g)), some (.c st.length), some (.d (dVec k (f j))), some (.c (st ++ ⟨false, (List.range j).map fun i => dVec c (mulF k f g i)⟩ :: tl).length), x5, x6, x7]) (asg_mk (lst_ok evD_nil (szk _ (by simp))))).trans ?_
      refine (st_one ei).trans ?_
      have tp : ev (evCall C wf Fs (n + 1)) C (.bi .tuple (.cons (.var 4) (.nil))) [some (.d (dMat r k f)), some (.d (dMat k c g)), some (.c st.length), some (.d (dVec k (f j))), some (.c (st ++ ⟨false, (List.range j).map fun i => dVec c (mulF k f g i)⟩ :: tl).length), y5, y6, y7] ((st ++ ⟨false, (List.range j).map fun i => dVec c (mulF k f g i)⟩ :: tl) ++ [⟨false, (List.range c).map fun q => od (mulF k f g j q)⟩])
          = some (.d (dVec c (mulF k f g j)), (st ++ ⟨false, (List.range j).map fun i => dVec c (mulF k f g i)⟩ :: tl) ++ [⟨false, (List.range c).map fun q => od (mulF k f g j q)⟩]) := tuple_of (var_at rfl) (by rw [rd_c, get1]; rfl)
      refine (st_one (app_c (j := st.length) rfl tp rfl (by rw [List.append_assoc, List.cons_append]; exact get_at rfl) (by rw [List.length_map, List.length_range, szl]; omega))).trans ?_
      rw [evSs_nil, List.append_assoc, List.cons_append, set_at rfl, ← range_snoc])
  subst hρ hst
  rw [List.length_map, List.length_range] at e
  rw [st_one e, st_rt (tuple_of (var_at rfl) (by rw [rd_c, get_at rfl]; rfl))]
  simp only [Option.bind_some, leave_d, List.take_left]
  rfl
end
end Z
/-! ZPow: powers of a square table. -/
set_option linter.all false
set_option autoImplicit false
set_option maxHeartbeats 4000000
set_option maxRecDepth 100000
namespace Z
open PySem
/-- the power, turn by turn -/
def pwF (s : Nat) (f : Nat → Nat → Option Int) : Nat → Nat → Nat → Option Int
  | 0 => unitF
  | m + 1 => mulF s (pwF s f m) f
theorem pw_add {s : Nat} (f : Nat → Nat → Option Int) (a : Nat) : ∀ (b i j : Nat), i < s → j < s → mulF s (pwF s f a) (pwF s f b) i j = pwF s f (a + b) i j
  | 0, i, j, hi, hj => mul_unit _ hj
  | b + 1, i, j, hi, hj => by
    show mulF s (pwF s f a) (mulF s (pwF s f b) f) i j = mulF s (pwF s f (a + b)) f i j
    rw [← mul_assoc]
    exact mul_congr (fun l hl => pw_add f a b i l hi hl) fun l hl => rfl
theorem pw_one {s : Nat} (f : Nat → Nat → Option Int) {i j : Nat} (hi : i < s) : pwF s f 1 i j = f i j := unit_mul f hi
theorem pw_mat {s : Nat} {f : Nat → Nat → Option Int} {a b m : Nat} (h : a + b = m) : dMat s s (mulF s (pwF s f a) (pwF s f b)) = dMat s s (pwF s f m) := by
  subst h
  exact mat_congr fun i j hi hj => pw_add f a b i j hi hj
/-- bounds -/
def bdO (M : Int) (o : Option Int) : Prop := ∀ v, o = some v → -M ≤ v ∧ v ≤ M
theorem fold_mem : ∀ (xs : List (Option Int)) (a : Option Int) (v : Int), xs.foldl stepO a = some v → a = some v ∨ some v ∈ xs
  | [], a, v, h => .inl h
  | x :: xs, a, v, h => by
    rw [List.foldl_cons] at h
    rcases fold_mem xs _ v h with e | e
    · have : stepO a x = a ∨ stepO a x = x := by
        cases a with
        | none => exact .inr (by cases x <;> rfl)
        | some a =>
          cases x with
          | none => exact .inl rfl
          | some b =>
            simp only [stepO]
            split
            · exact .inr rfl
            · exact .inl rfl
      rcases this with t | t
      · rw [t] at e; exact .inl e
      · rw [t] at e; exact .inr (e ▸ List.mem_cons_self)
    · exact .inr (List.mem_cons_of_mem _ e)
theorem sup_mem {k : Nat} {h : Nat → Option Int} {v : Int} (e : supR k h = some v) : ∃ l, l < k ∧ h l = some v := by
  rcases fold_mem _ _ v e with z | z
  · cases z
  · obtain ⟨l, hl, e2⟩ := List.mem_map.mp z
    exact ⟨l, List.mem_range.mp hl, e2⟩
theorem mul_bd {k : Nat} {f g : Nat → Nat → Option Int} {M N : Int} {i j : Nat} (h1 : ∀ l, l < k → bdO M (f i l)) (h2 : ∀ l, l < k → bdO N (g l j)) : bdO (M + N) (mulF k f g i j) := fun v e => by
  obtain ⟨l, hl, e2⟩ := sup_mem e
  cases hf : f i l with
  | none => rw [hf] at e2; cases e2
  | some a =>
    cases hg : g l j with
    | none => rw [hf, hg] at e2; cases e2
    | some b =>
      rw [hf, hg] at e2
      cases e2
      have := h1 l hl a hf
      have := h2 l hl b hg
      omega
theorem pw_bd {s : Nat} {f : Nat → Nat → Option Int} {M : Int} (h : ∀ i j, i < s → j < s → bdO M (f i j)) (hM : 0 ≤ M) : ∀ (m i j : Nat), i < s → j < s → bdO (m * M) (pwF s f m i j)
  | 0, i, j, hi, hj => fun v e => by
    have : v = 0 := by
      simp only [pwF, unitF] at e
      split at e
      · cases e; rfl
      · cases e
    simp [this]
  | m + 1, i, j, hi, hj => by
    have := mul_bd (f := pwF s f m) (g := f) (i := i) (j := j) (k := s) (fun l hl => pw_bd h hM m i l hi hl) fun l hl => h l j hl hj
    have e : ((m + 1 : Nat) : Int) * M = m * M + M := by rw [Int.natCast_add, Int.add_mul]; simp
    rw [e]
    exact this
def F_is_square_any : Fn := ⟨[false], 1,
  .cons (.ret (.and (.cons (.call 7 (.cons (.var 0) (.nil))) (.cons (.cmp .eq (.len (.var 0)) (.len (.idx (.var 0) (.int 0)))) (.nil))))) (.nil)⟩
abbrev poB : Ss := (.cons (.ifs (.cmp .eq (.bin .mod (.var 1) (.int 2)) (.int 1)) (.cons (.asg (.nm 2 false) (.call 26 (.cons (.var 2) (.cons (.var 3) (.nil))))) (.nil)) (.nil)) (.cons (.asg (.nm 1 false) (.bin .fdiv (.var 1) (.int 2))) (.cons (.asg (.nm 3 false) (.ife (.cmp .gt (.var 1) (.int 0)) (.call 26 (.cons (.var 3) (.cons (.var 3) (.nil)))) (.var 3))) (.nil))))
def F_power_of : Fn := ⟨[false, false], 4,
  .cons (.par [(2, false), (3, false)] (.cons (.call 34 (.cons (.len (.var 0)) (.nil))) (.cons (.var 0) (.nil)))) (.cons (.whl (.cmp .gt (.var 1) (.int 0)) poB) (.cons (.ret (.var 2)) (.nil)))⟩
def F_power : Fn := ⟨[false, false], 2,
  .cons (.exp (.call 16 (.cons (.var 0) (.nil)))) (.cons (.ifs (.not (.call 3 (.cons (.var 1) (.cons (.int 0) (.cons (.glo "MOST_POWER") (.nil)))))) (.cons (.never) (.nil)) (.nil)) (.cons (.ret (.call 31 (.cons (.var 0) (.cons (.var 1) (.nil))))) (.nil)))⟩
theorem tabB_mat {r c : Nat} {f : Nat → Nat → Option Int} (hr : 1 ≤ r ∧ r ≤ 8) (hc : 1 ≤ c ∧ c ≤ 8) (h : ∀ i j, i < r → j < c → bdO 99 (f i j)) : tabB (dMat r c f) = true := by
  have h1 : ((List.range r).map fun i => dVec c (f i)).all rowB = true := by
    rw [List.all_eq_true]
    intro x hx
    obtain ⟨i, _, rfl⟩ := List.mem_map.mp hx
    simp only [dVec, rowB, List.length_map, List.length_range]
    rw [decide_eq_true hc.1, decide_eq_true hc.2]; rfl
  have h2 : (((List.range r).map fun i => dVec c (f i)).all fun x => decide ((itemsT x).length = (itemsT (((List.range r).map fun i => dVec c (f i)).headD .none)).length) && (itemsT x).all entB) = true := by
    rw [List.all_eq_true]
    intro x hx
    obtain ⟨i, hi, rfl⟩ := List.mem_map.mp hx
    have hi := List.mem_range.mp hi
    have hd : ((List.range r).map fun i => dVec c (f i)).headD .none = dVec c (f 0) := by
      obtain ⟨m, rfl⟩ : ∃ m, r = m + 1 := ⟨r - 1, by omega⟩
      rw [List.range_succ_eq_map, List.map_cons]; rfl
    rw [hd]
    have e3 : (itemsT (dVec c (f i))).all entB = true := by
      rw [List.all_eq_true]
      intro y hy
      obtain ⟨j, hj, rfl⟩ := List.mem_map.mp hy
      have hb := h i j hi (List.mem_range.mp hj)
      cases e : f i j with
      | none => rfl
      | some v =>
        have := hb v e
        show within (.int v) (-99) 99 = true
        simp only [within]
        rw [decide_eq_true this.1, decide_eq_true this.2]; rfl
    rw [e3, Bool.and_true]
    apply decide_eq_true
    simp [dVec]
  rw [dMat, tabB, h1, h2, List.length_map, List.length_range, decide_eq_true hr.1, decide_eq_true hr.2]; rfl
section
variable {C : Str → Option D} {wf n : Nat} {Fs : List (Nat × Fn)} {st : Store} {Γ : Calls} {ρ : Slots}
theorem row0 {i r c : Nat} {f : Nat → Nat → Option Int} (hr : 1 ≤ r) (h : ρ[i]? = some (some (.d (dMat r c f)))) : ev Γ C (.idx (.var i) (.int 0)) ρ st = some (.d (dVec c (f 0)), st) := by
  have := item_nat (xs := (List.range r).map fun i => dVec c (f i)) (i := 0) (by rw [List.length_map, List.length_range]; omega)
  rw [show ((0 : Nat) : Int) = 0 from rfl] at this
  rw [ev_idx, var_at h, Option.bind_some, ev_int, Option.bind_some, rd_d, Option.bind_some]
  show Option.bind (rd _ (.d (dMat r c f))) _ = _
  rw [rd_d, Option.bind_some, dMat, idxF_T, this, Option.map_some, List.getElem_map, List.getElem_range]
theorem len_mat {e : E} {r c : Nat} {f : Nat → Nat → Option Int} (h : ev Γ C e ρ st = some (.d (dMat r c f), st)) : ev Γ C (.len e) ρ st = some (.d (.int (r : Int)), st) := by
  have := len_of (xs := (List.range r).map fun i => dVec c (f i)) h
  rw [List.length_map, List.length_range] at this
  exact this
theorem len_vec {e : E} {c : Nat} {v : Nat → Option Int} (h : ev Γ C e ρ st = some (.d (dVec c v), st)) : ev Γ C (.len e) ρ st = some (.d (.int (c : Int)), st) := by
  have := len_of (xs := (List.range c).map fun i => od (v i)) h
  rw [List.length_map, List.length_range] at this
  exact this
theorem square_ok (h2 : Fs.lookup 2 = some F_is_integer) (h3 : Fs.lookup 3 = some F_is_within) (h6 : Fs.lookup 6 = some F_is_entry) (h7 : Fs.lookup 7 = some F_is_table_any) (hc : C "MOST_ENTRY" = some (.int 99)) (hs : C "MOST_SIDE" = some (.int 8)) (h : Fs.lookup 13 = some F_is_square_any) {s : Nat} {f : Nat → Nat → Option Int} (h1 : 1 ≤ s ∧ s ≤ 8) (hb : ∀ i j, i < s → j < s → bdO 99 (f i j)) :
    evCall C wf Fs (n + 5) 13 [.d (dMat s s f)] st = some (.d (.bool true), st) := by
  have e7 := is_table_any_ok (C := C) (wf := wf) (n := n) (st := st) h2 h3 h6 h7 hc hs (dMat s s f)
  rw [tabB_mat h1 h1 hb] at e7
  have e := and2 (Γ := evCall C wf Fs (n + 4)) (C := C) (ρ := [some (.d (dMat s s f))]) (st := st) (call1 (var_at (i := 0) rfl) e7) (k2 := true) (b := .cmp .eq (.len (.var 0)) (.len (.idx (.var 0) (.int 0)))) (fun _ => cmp_dd (len_mat (var_at rfl)) (len_vec (row0 h1.1 rfl)) rfl rfl (by rw [cmpF_eqI]; simp))
  exact call_rt h (ρ0 := [some (.d (dMat s s f))]) (st0 := st) rfl rfl (st_rt e) leave_same
/-- one turn of the power's loop, and all -/
theorem po_step (h9 : Fs.lookup 9 = some F_then) (h11 : Fs.lookup 11 = some F_latest) (h21 : Fs.lookup 21 = some F_columns_of) (h26 : Fs.lookup 26 = some F_product) {s : Nat} {f : Nat → Nat → Option Int} (h1 : 1 ≤ s ∧ s ≤ 8) {m a b : Nat} {x0 : Option W} :
    evSs (evCall C wf Fs (n + 2)) C wf poB [x0, some (.d (.int (m : Int))), some (.d (dMat s s (pwF s f a))), some (.d (dMat s s (pwF s f b)))] st
      = some (.nx [x0, some (.d (.int ((m / 2 : Nat) : Int))), some (.d (dMat s s (pwF s f (a + b * (m % 2))))), some (.d (dMat s s (pwF s f (if 0 < m / 2 then b + b else b))))] st) := by
  have md : ev (evCall C wf Fs (n + 2)) C (.bin .mod (.var 1) (.int 2)) [x0, some (.d (.int (m : Int))), some (.d (dMat s s (pwF s f a))), some (.d (dMat s s (pwF s f b)))] st = some (.d (.int ((m % 2 : Nat) : Int)), st) := bin_ii (var_at rfl) ev_int (by rw [binF_mod, if_pos (by decide)]; rfl)
  have tt : ev (evCall C wf Fs (n + 2)) C (.cmp .eq (.bin .mod (.var 1) (.int 2)) (.int 1)) [x0, some (.d (.int (m : Int))), some (.d (dMat s s (pwF s f a))), some (.d (dMat s s (pwF s f b)))] st = some (.d (.bool (decide (((m % 2 : Nat) : Int) = 1))), st) := cmp_dd md ev_int rfl rfl cmpF_eqI
  have hs1 : s ≤ 1000 := by omega
  have first : evS (evCall C wf Fs (n + 2)) C wf (.ifs (.cmp .eq (.bin .mod (.var 1) (.int 2)) (.int 1)) (.cons (.asg (.nm 2 false) (.call 26 (.cons (.var 2) (.cons (.var 3) (.nil))))) (.nil)) (.nil)) [x0, some (.d (.int (m : Int))), some (.d (dMat s s (pwF s f a))), some (.d (dMat s s (pwF s f b)))] st
      = some (.nx [x0, some (.d (.int (m : Int))), some (.d (dMat s s (pwF s f (a + b * (m % 2))))), some (.d (dMat s s (pwF s f b)))] st) := by
    rcases Nat.mod_two_eq_zero_or_one m with z | z
    · have q : decide (((m % 2 : Nat) : Int) = 1) = false := decide_eq_false (by omega)
      rw [q] at tt
      rw [if_no tt, z, Nat.mul_zero, Nat.add_zero]
    · have q : decide (((m % 2 : Nat) : Int) = 1) = true := decide_eq_true (by omega)
      rw [q] at tt
      have e := product_ok (C := C) (wf := wf) (n := n) (st := st) (f := pwF s f a) (g := pwF s f b) h9 h11 h21 h26 hs1 h1 ⟨h1.1, hs1⟩
      rw [pw_mat (m := a + b) rfl] at e
      rw [if_yes tt ((st_one (ρ' := [x0, some (.d (.int (m : Int))), some (.d (dMat s s (pwF s f (a + b)))), some (.d (dMat s s (pwF s f b)))]) (asg_d (call2 (var_at rfl) (var_at rfl) e))).trans evSs_nil), z, Nat.mul_one]
  refine (st_one first).trans ?_
  have dv : ev (evCall C wf Fs (n + 2)) C (.bin .fdiv (.var 1) (.int 2)) [x0, some (.d (.int (m : Int))), some (.d (dMat s s (pwF s f (a + b * (m % 2))))), some (.d (dMat s s (pwF s f b)))] st = some (.d (.int ((m / 2 : Nat) : Int)), st) := bin_ii (var_at rfl) ev_int (by rw [binF_div, if_pos (by decide)]; rfl)
  refine (st_one (ρ' := [x0, some (.d (.int ((m / 2 : Nat) : Int))), some (.d (dMat s s (pwF s f (a + b * (m % 2))))), some (.d (dMat s s (pwF s f b)))]) (asg_d dv)).trans ?_
  refine (st_one (ρ' := [x0, some (.d (.int ((m / 2 : Nat) : Int))), some (.d (dMat s s (pwF s f (a + b * (m % 2))))), some (.d (dMat s s (pwF s f (if 0 < m / 2 then b + b else b))))]) (st' := st) (asg_d ?_)).trans evSs_nil
  refine ife_b (k := decide (0 < m / 2)) (cmp_dd (x := .int ((m / 2 : Nat) : Int)) (y := .int 0) (var_at rfl) ev_int rfl rfl (by rw [cmpF_gt]; congr 1; apply decide_eq_decide.mpr; omega)) (fun z => ?_) (fun z => ?_)
  · have e := product_ok (C := C) (wf := wf) (n := n) (st := st) (f := pwF s f b) (g := pwF s f b) h9 h11 h21 h26 hs1 h1 ⟨h1.1, hs1⟩
    rw [pw_mat (m := b + b) rfl] at e
    rw [if_pos (of_decide_eq_true z)]
    exact call2 (var_at rfl) (var_at rfl) e
  · rw [if_neg (of_decide_eq_false z)]
    exact var_at rfl
def poT (Γ : Calls) (C : Str → Option D) : Slots → Store → Option (Bool × Store) := fun ρ st => (ev Γ C (.cmp .gt (.var 1) (.int 0)) ρ st).bind fun p => ((rd p.2 p.1).bind truth).map fun k => (k, p.2)
theorem po_test {m : Nat} {x0 x2 x3 : Option W} : poT Γ C [x0, some (.d (.int (m : Int))), x2, x3] st = some (decide (0 < m), st) := by
  have e := cmp_dd (Γ := Γ) (C := C) (o := .gt) (a := .var 1) (b := .int 0) (st := st) (ρ := [x0, some (.d (.int (m : Int))), x2, x3]) (x := .int (m : Int)) (y := .int 0) (k := decide (0 < m)) (var_at rfl) ev_int rfl rfl (by rw [cmpF_gt]; congr 1; apply decide_eq_decide.mpr; omega)
  rw [poT, e]; rfl
theorem po_loop (h9 : Fs.lookup 9 = some F_then) (h11 : Fs.lookup 11 = some F_latest) (h21 : Fs.lookup 21 = some F_columns_of) (h26 : Fs.lookup 26 = some F_product) {s : Nat} {f : Nat → Nat → Option Int} (h1 : 1 ≤ s ∧ s ≤ 8) {x0 : Option W} :
    ∀ (k m a b x : Nat), m < 2 ^ k → ∃ y, loopW (poT (evCall C wf Fs (n + 2)) C) (fun ρ st => evSs (evCall C wf Fs (n + 2)) C wf poB ρ st) (k + 1 + x) [x0, some (.d (.int (m : Int))), some (.d (dMat s s (pwF s f a))), some (.d (dMat s s (pwF s f b)))] st
      = some (.nx [x0, some (.d (.int ((0 : Nat) : Int))), some (.d (dMat s s (pwF s f (a + b * m)))), y] st)
  | k, m, a, b, x, hm => by
    have e : k + 1 + x = (k + x) + 1 := by omega
    rw [e, loopW, po_test]
    by_cases h0 : 0 < m
    · simp only [Option.bind_some, decide_eq_true h0, if_true, po_step h9 h11 h21 h26 h1]
      cases k with
      | zero => simp at hm; omega
      | succ k =>
        obtain ⟨y, ih⟩ := po_loop h9 h11 h21 h26 h1 (x0 := x0) k (m / 2) (a + b * (m % 2)) (if 0 < m / 2 then b + b else b) x (by rw [Nat.pow_succ] at hm; omega)
        refine ⟨y, ?_⟩
        have e2 : k + 1 + x = k + 1 + x := rfl
        rw [ih]
        have e3 : a + b * (m % 2) + (if 0 < m / 2 then b + b else b) * (m / 2) = a + b * m := by
          have hd := Nat.div_add_mod m 2
          by_cases q : 0 < m / 2
          · rw [if_pos q]
            have : b * m = b * (2 * (m / 2) + m % 2) := by rw [hd]
            rw [this, Nat.mul_add, Nat.add_mul, Nat.two_mul, Nat.mul_add]
            omega
          · have z : m / 2 = 0 := by omega
            rw [z, Nat.mul_zero]
            have z2 : m % 2 = m := by omega
            rw [z2, Nat.add_zero]
        rw [e3]
    · have z : m = 0 := by omega
      subst z
      refine ⟨some (.d (dMat s s (pwF s f b))), ?_⟩
      simp only [Option.bind_some, Nat.lt_irrefl, decide_false, Bool.false_eq_true, if_false, Nat.mul_zero, Nat.add_zero]
theorem power_of_ok (hw : 100 ≤ wf) (h9 : Fs.lookup 9 = some F_then) (h11 : Fs.lookup 11 = some F_latest) (h21 : Fs.lookup 21 = some F_columns_of) (h26 : Fs.lookup 26 = some F_product) (h34 : Fs.lookup 34 = some F_unit_of) (h : Fs.lookup 31 = some F_power_of) {s : Nat} {f : Nat → Nat → Option Int} (h1 : 1 ≤ s ∧ s ≤ 8) {m : Nat} (hm : m < 2 ^ 60) :
    evCall C wf Fs (n + 3) 31 [.d (dMat s s f), .d (.int (m : Int))] st = some (.d (dMat s s (pwF s f m)), st) := by
  have hs1 : s ≤ 1000 := by omega
  have e1 : dMat s s f = dMat s s (pwF s f 1) := mat_congr fun i j hi hj => (pw_one f hi).symm
  have u := unit_ok (C := C) (wf := wf) (n := n + 1) (st := st) h34 hs1
  obtain ⟨x, rfl⟩ : ∃ x, wf = 60 + 1 + x := ⟨wf - 61, by omega⟩
  obtain ⟨y, lp⟩ := po_loop (C := C) (wf := 60 + 1 + x) (n := n) (Fs := Fs) (st := st) (f := f) h9 h11 h21 h26 h1 (x0 := some (.d (dMat s s f))) 60 m 0 1 x hm
  rw [Nat.zero_add, Nat.one_mul] at lp
  refine call_rt h (ρ0 := [some (.d (dMat s s f)), some (.d (.int (m : Int))), none, none]) (st0 := st) rfl rfl (st' := st) (w := .d (dMat s s (pwF s f m))) ?_ leave_same
  refine (st_one (ρ' := [some (.d (dMat s s f)), some (.d (.int (m : Int))), some (.d (dMat s s (pwF s f 0))), some (.d (dMat s s (pwF s f 1)))]) (st' := st) ?_).trans ?_
  · rw [evS_par, evs_c (call1 (len_mat (var_at rfl)) u) (evs_c (w := .d (dMat s s (pwF s f 1))) (s1 := st) (by rw [← e1]; exact var_at rfl) evs_nil)]; rfl
  · refine (st_one (ρ' := [some (.d (dMat s s f)), some (.d (.int ((0 : Nat) : Int))), some (.d (dMat s s (pwF s f m))), y]) (st' := st) ?_).trans ?_
    · rw [evS]; exact lp
    · exact st_rt (var_at rfl)
theorem power_ok (hw : 100 ≤ wf) (h2 : Fs.lookup 2 = some F_is_integer) (h3 : Fs.lookup 3 = some F_is_within) (h6 : Fs.lookup 6 = some F_is_entry) (h7 : Fs.lookup 7 = some F_is_table_any) (hc : C "MOST_ENTRY" = some (.int 99)) (hs : C "MOST_SIDE" = some (.int 8)) (hp : C "MOST_POWER" = some (.int 1000000000000000000)) (h13 : Fs.lookup 13 = some F_is_square_any)
    (h16 : Fs.lookup 16 = some ⟨[false], 1, .cons (.ifs (.not (.call 13 (.cons (.var 0) (.nil)))) (.cons (.never) (.nil)) (.nil)) (.nil)⟩) (h9 : Fs.lookup 9 = some F_then) (h11 : Fs.lookup 11 = some F_latest) (h21 : Fs.lookup 21 = some F_columns_of) (h26 : Fs.lookup 26 = some F_product) (h34 : Fs.lookup 34 = some F_unit_of) (h31 : Fs.lookup 31 = some F_power_of) (h : Fs.lookup 477 = some F_power)
    {s : Nat} {f : Nat → Nat → Option Int} (h1 : 1 ≤ s ∧ s ≤ 8) (hb : ∀ i j, i < s → j < s → bdO 99 (f i j)) {m : Nat} (hm : m ≤ 1000000000000000000) :
    evCall C wf Fs (n + 7) 477 [.d (dMat s s f), .d (.int (m : Int))] st = some (.d (dMat s s (pwF s f m)), st) := by
  have w1 := want_ok (n := n + 5) (st := st) h16 (square_ok (C := C) (wf := wf) (n := n) (st := st) h2 h3 h6 h7 hc hs h13 h1 hb)
  have iw := is_within_ok (C := C) (wf := wf) (n := n + 4) (st := st) h2 h3 (.int (m : Int)) 0 1000000000000000000
  have wt : within (.int (m : Int)) 0 1000000000000000000 = true := by
    simp only [within]
    rw [decide_eq_true (by omega), decide_eq_true (by omega)]; rfl
  rw [wt] at iw
  have po := power_of_ok (C := C) (wf := wf) (n := n + 3) (Fs := Fs) (st := st) (f := f) hw h9 h11 h21 h26 h34 h31 h1 (m := m) (by omega)
  refine call_rt h (ρ0 := [some (.d (dMat s s f)), some (.d (.int (m : Int)))]) (st0 := st) rfl rfl (st' := st) (w := .d (dMat s s (pwF s f m))) ?_ leave_same
  refine (st_one (exp_one (call1 (var_at rfl) w1))).trans ?_
  refine (st_one (if_no (not_b (call3 (var_at rfl) ev_int (glo_at hp) iw)))).trans ?_
  exact st_rt (call2 (var_at rfl) (var_at rfl) po)
end
end Z
/-! ZMaw: tables joined, applied to vectors; what is asked of tables. -/
set_option linter.all false
set_option autoImplicit false
set_option maxHeartbeats 4000000
set_option maxRecDepth 100000
namespace Z
open PySem
def apF (c : Nat) (f : Nat → Nat → Option Int) (v : Nat → Option Int) : Nat → Option Int := fun i => supR c fun l => thenO (f i l) (v l)
def joF (f g : Nat → Nat → Option Int) : Nat → Nat → Option Int := fun i j => stepO (f i j) (g i j)
def noneF : Nat → Nat → Option Int := fun _ _ => none
def leB : Option Int → Option Int → Bool
  | none, _ => true
  | some _, none => false
  | some a, some b => decide (a ≤ b)
theorem leB_iff {a b : Option Int} : leB a b = true ↔ leO a b := by
  cases a <;> cases b <;> simp [leB, leO]
def F_is_vector_of : Fn := ⟨[false, false], 3,
  .cons (.ret (.and (.cons (.call 8 (.cons (.var 1) (.cons (.var 0) (.nil)))) (.cons (.bi .all (.cons (.lc [2] (.or (.cons (.cmp .isN (.var 2) (.non)) (.cons (.call 3 (.cons (.var 2) (.cons (.neg (.glo "MOST_TIME")) (.cons (.glo "MOST_TIME") (.nil))))) (.nil)))) [2] true (.val (.var 1)) (.nil)) (.nil))) (.nil))))) (.nil)⟩
def F_is_like : Fn := ⟨[false, false], 2,
  .cons (.ret (.and (.cons (.call 7 (.cons (.var 1) (.nil))) (.cons (.cmp .eq (.len (.var 1)) (.len (.var 0))) (.cons (.cmp .eq (.len (.idx (.var 1) (.int 0))) (.len (.idx (.var 0) (.int 0)))) (.nil)))))) (.nil)⟩
def F_applied : Fn := ⟨[false, false], 5,
  .cons (.ret (.bi .tuple (.cons (.lc [2] (.call 11 (.cons (.lc [3, 4] (.call 9 (.cons (.var 3) (.cons (.var 4) (.nil)))) [3, 4] false (.zip (.var 2) (.var 1)) (.nil)) (.nil))) [2] true (.val (.var 0)) (.nil)) (.nil)))) (.nil)⟩
def F_joined : Fn := ⟨[false, false], 4,
  .cons (.ret (.bi .tuple (.cons (.lc [2, 3] (.call 11 (.cons (.lst (.cons (.var 2) (.cons (.var 3) (.nil)))) (.nil))) [2, 3] false (.zip (.var 0) (.var 1)) (.nil)) (.nil)))) (.nil)⟩
def F_want_other : Fn := ⟨[false, false], 2,
  .cons (.ifs (.not (.call 35 (.cons (.var 0) (.cons (.var 1) (.nil))))) (.cons (.never) (.nil)) (.nil)) (.nil)⟩
def F_want_vector : Fn := ⟨[false, false], 2,
  .cons (.ifs (.not (.call 14 (.cons (.len (.idx (.var 0) (.int 0))) (.cons (.var 1) (.nil))))) (.cons (.never) (.nil)) (.nil)) (.nil)⟩
def F_want_side : Fn := ⟨[false], 1,
  .cons (.ifs (.not (.call 3 (.cons (.var 0) (.cons (.int 1) (.cons (.glo "MOST_SIDE") (.nil)))))) (.cons (.never) (.nil)) (.nil)) (.nil)⟩
def F_later_of : Fn := ⟨[false, false], 4,
  .cons (.exp (.call 19 (.cons (.var 0) (.nil)))) (.cons (.exp (.call 51 (.cons (.var 0) (.cons (.var 1) (.nil))))) (.cons (.ret (.bi .tuple (.cons (.lc [2, 3] (.call 41 (.cons (.var 2) (.cons (.var 3) (.nil)))) [2, 3] false (.zip (.var 0) (.var 1)) (.nil)) (.nil)))) (.nil)))⟩
def F_applied_to : Fn := ⟨[false, false], 2,
  .cons (.exp (.call 19 (.cons (.var 0) (.nil)))) (.cons (.exp (.call 62 (.cons (.var 0) (.cons (.var 1) (.nil))))) (.cons (.ret (.call 20 (.cons (.var 0) (.cons (.var 1) (.nil))))) (.nil)))⟩
def F_product_of : Fn := ⟨[false, false], 2,
  .cons (.exp (.call 19 (.cons (.var 0) (.nil)))) (.cons (.ifs (.or (.cons (.not (.call 7 (.cons (.var 1) (.nil)))) (.cons (.cmp .ne (.len (.var 1)) (.len (.idx (.var 0) (.int 0)))) (.nil)))) (.cons (.never) (.nil)) (.nil)) (.cons (.ret (.call 26 (.cons (.var 0) (.cons (.var 1) (.nil))))) (.nil)))⟩
def F_unit_table : Fn := ⟨[false], 1,
  .cons (.exp (.call 236 (.cons (.var 0) (.nil)))) (.cons (.ret (.call 34 (.cons (.var 0) (.nil)))) (.nil))⟩
def F_asleep_table : Fn := ⟨[false, false], 2,
  .cons (.exp (.call 236 (.cons (.var 0) (.nil)))) (.cons (.ifs (.not (.call 3 (.cons (.var 1) (.cons (.int 1) (.cons (.glo "MOST_SIDE") (.nil)))))) (.cons (.never) (.nil)) (.nil)) (.cons (.ret (.bin .mul (.tup (.cons (.bin .mul (.tup (.cons (.non) (.nil))) (.var 1)) (.nil))) (.var 0))) (.nil)))⟩
def F_law_applied : Fn := ⟨[false, false], 5,
  .cons (.ret (.bi .tuple (.cons (.lc [2] (.call 145 (.cons (.lc [3, 4] (.call 76 (.cons (.var 3) (.cons (.var 4) (.nil)))) [3, 4] false (.zip (.var 2) (.var 1)) (.nil)) (.nil))) [2] true (.val (.var 0)) (.nil)) (.nil)))) (.nil)⟩
def F_law_is_not_later : Fn := ⟨[false, false], 4,
  .cons (.ret (.bi .all (.cons (.lc [2, 3] (.or (.cons (.cmp .isN (.var 2) (.non)) (.cons (.and (.cons (.cmp .isnotN (.var 3) (.non)) (.cons (.cmp .le (.var 2) (.var 3)) (.nil)))) (.nil)))) [2, 3] false (.zip (.var 0) (.var 1)) (.nil)) (.nil)))) (.nil)⟩
def F_law_both : Fn := ⟨[false, false], 6,
  .cons (.ret (.bi .tuple (.cons (.lc [2, 3] (.bi .tuple (.cons (.lc [4, 5] (.call 145 (.cons (.lst (.cons (.var 4) (.cons (.var 5) (.nil)))) (.nil))) [4, 5] false (.zip (.var 2) (.var 3)) (.nil)) (.nil))) [2, 3] false (.zip (.var 0) (.var 1)) (.nil)) (.nil)))) (.nil)⟩
section
variable {C : Str → Option D} {wf n : Nat} {Fs : List (Nat × Fn)} {st : Store} {Γ : Calls} {ρ : Slots}
theorem zip_at {i j N : Nat} {a b : Nat → D} (h1 : ρ[i]? = some (some (.d (.tuple ((List.range N).map a))))) (h2 : ρ[j]? = some (some (.d (.tuple ((List.range N).map b))))) : evI Γ C (.zip (.var i) (.var j)) ρ st = some ((List.range N).map fun l => .tuple [a l, b l], st) := by
  rw [evI_zip, var_at h1]
  simp only [Option.bind_some, fix_d]
  rw [var_at h2]
  simp only [Option.bind_some, fix_d]
  show Option.map _ (some (zipD ((List.range N).map a) ((List.range N).map b))) = _
  rw [zip_rng]; rfl
theorem all_rng {e : E} {N : Nat} {g : Nat → Bool} {st1 : Store} (h : ev Γ C e ρ st = some (.f ((List.range N).map fun i => .bool (g i)), st1)) (hg : ∀ i, i < N → g i = true) : ev Γ C (.bi .all (.cons e .nil)) ρ st = some (.d (.bool true), st1) := by
  have e1 : ((List.range N).map fun i => PyData.bool (g i)) = ((List.range N).map fun i => PyData.bool (g i)).map fun x => .bool true := by
    rw [List.map_map]
    exact List.map_congr_left fun i hi => by simp [hg i (List.mem_range.mp hi)]
  rw [e1] at h
  have := all_lc (g := fun _ => true) h
  rw [this]
  simp
theorem and3 {a b c : E} {k1 k2 k3 : Bool} (h1 : ev Γ C a ρ st = some (.d (.bool k1), st)) (h2 : k1 = true → ev Γ C b ρ st = some (.d (.bool k2), st)) (h3 : k1 = true → k2 = true → ev Γ C c ρ st = some (.d (.bool k3), st)) : ev Γ C (.and (.cons a (.cons b (.cons c .nil)))) ρ st = some (.d (.bool (k1 && k2 && k3)), st) := by
  rw [ev_and, evA_cons, h1]
  cases k1 with
  | false => simp
  | true =>
    cases k2 with
    | false => simp [h2 rfl]
    | true => simp [h2 rfl, h3 rfl rfl]
theorem call_nx {F : Fn} {f : Nat} {ws ws' : List W} {ρ0 ρ1 : Slots} {st0 st' : Store} {o : Option (W × Store)} (h : Fs.lookup f = some F) (he : enter F.cps ws st = some (ws', st0)) (hρ : ws'.map some ++ List.replicate (F.ns - ws'.length) none = ρ0) (hb : evSs (evCall C wf Fs n) C wf F.body ρ0 st0 = some (.nx ρ1 st')) (hl : leave st.length (.d .none) st' = o) :
    evCall C wf Fs (n + 1) f ws st = o := by
  rw [evCall, h, Option.bind_some, he, Option.bind_some, hρ, hb, Option.bind_some]
  exact hl
def ThenAt (Γ : Calls) (t : Nat) : Prop := ∀ a b st, Γ t [.d (od a), .d (od b)] st = some (.d (od (thenO a b)), st)
def LateAt (Γ : Calls) (l : Nat) : Prop := ∀ (xs : List (Option Int)) st, xs.length ≤ 1000 → Γ l [.f (xs.map od)] st = some (.d (od (laterO xs)), st)
theorem then9 (h9 : Fs.lookup 9 = some F_then) : ThenAt (evCall C wf Fs (n + 1)) 9 := fun a b st => then_ok h9 a b
theorem then76 (h9 : Fs.lookup 76 = some F_then) : ThenAt (evCall C wf Fs (n + 1)) 76 := fun a b st => then_ok h9 a b
theorem late11 (h : Fs.lookup 11 = some F_latest) : LateAt (evCall C wf Fs (n + 1)) 11 := fun xs st hl => latest_ok h hl
theorem late145 (h : Fs.lookup 145 = some F_law_later) : LateAt (evCall C wf Fs (n + 1)) 145 := fun xs st hl => law_later_ok h
theorem applied_gen {t l : Nat} (ht : ThenAt Γ t) (hl : LateAt Γ l) {r c : Nat} {f : Nat → Nat → Option Int} {v : Nat → Option Int} (hr : r ≤ 1000) (hc : c ≤ 1000) {x2 x3 x4 : Option W} :
    ev Γ C (.bi .tuple (.cons (.lc [2] (.call l (.cons (.lc [3, 4] (.call t (.cons (.var 3) (.cons (.var 4) (.nil)))) [3, 4] false (.zip (.var 2) (.var 1)) (.nil)) (.nil))) [2] true (.val (.var 0)) (.nil)) (.nil))) [some (.d (dMat r c f)), some (.d (dVec c v)), x2, x3, x4] st
      = some (.d (dVec r (apF c f v)), st) := by
  refine tuple_of (w := .f ((List.range r).map fun i => od (apF c f v i))) (lc_rng (h := fun i => dVec c (f i)) (st1 := st) (walk_d (var_at rfl) itemsOf_mat) hr (fun i hi => ?_)) rfl
  have c2 := lc_rng (Γ := Γ) (C := C) (ρ := [some (.d (dMat r c f)), some (.d (dVec c v)), some (.d (dVec c (f i))), x3, x4]) (st := st) (own := [3, 4]) (tg := [3, 4]) (fl := false) (N := c) (h := fun l => .tuple [od (f i l), od (v l)]) (e := fun l => od (thenO (f i l) (v l))) (it := .zip (.var 2) (.var 1)) (elt := .call t (.cons (.var 3) (.cons (.var 4) (.nil))))
    (st1 := st) (zip_at (N := c) (a := fun l => od (f i l)) (b := fun l => od (v l)) rfl rfl) hc (fun l hl => ⟨[some (.d (dMat r c f)), some (.d (dVec c v)), some (.d (dVec c (f i))), some (.d (od (f i l))), some (.d (od (v l)))], _, rfl, call2 (var_at rfl) (var_at rfl) (ht _ _ _), rfl⟩)
  have e2 : ((List.range c).map fun l => od (thenO (f i l) (v l))) = ((List.range c).map fun l => thenO (f i l) (v l)).map od := by rw [List.map_map]; rfl
  rw [e2] at c2
  exact ⟨[some (.d (dMat r c f)), some (.d (dVec c v)), some (.d (dVec c (f i))), x3, x4], _, rfl, call1 c2 (hl _ _ (by simpa using hc)), rfl⟩
theorem applied_ok (h9 : Fs.lookup 9 = some F_then) (h11 : Fs.lookup 11 = some F_latest) (h : Fs.lookup 20 = some F_applied) {r c : Nat} {f : Nat → Nat → Option Int} {v : Nat → Option Int} (hr : r ≤ 1000) (hc : c ≤ 1000) :
    evCall C wf Fs (n + 2) 20 [.d (dMat r c f), .d (dVec c v)] st = some (.d (dVec r (apF c f v)), st) :=
  call_rt h (ρ0 := [some (.d (dMat r c f)), some (.d (dVec c v)), none, none, none]) (st0 := st) rfl rfl (st_rt (applied_gen (then9 h9) (late11 h11) hr hc)) leave_same
theorem law_applied_ok (h9 : Fs.lookup 76 = some F_then) (h11 : Fs.lookup 145 = some F_law_later) (h : Fs.lookup 48 = some F_law_applied) {r c : Nat} {f : Nat → Nat → Option Int} {v : Nat → Option Int} (hr : r ≤ 1000) (hc : c ≤ 1000) :
    evCall C wf Fs (n + 2) 48 [.d (dMat r c f), .d (dVec c v)] st = some (.d (dVec r (apF c f v)), st) :=
  call_rt h (ρ0 := [some (.d (dMat r c f)), some (.d (dVec c v)), none, none, none]) (st0 := st) rfl rfl (st_rt (applied_gen (then76 h9) (late145 h11) hr hc)) leave_same
theorem pair_late {l : Nat} (hl : LateAt Γ l) {a b : E} {u v : Option Int} (h1 : ev Γ C a ρ st = some (.d (od u), st)) (h2 : ev Γ C b ρ st = some (.d (od v), st)) : ev Γ C (.call l (.cons (.lst (.cons a (.cons b .nil))) .nil)) ρ st = some (.d (od (stepO u v)), st) := by
  refine call1 (lst_ok (evD_c h1 rfl (evD_c h2 rfl evD_nil)) (szk _ (by simp))) ?_
  have := hl [u, v] st (by simp)
  exact this
theorem joined_ok (h11 : Fs.lookup 11 = some F_latest) (h : Fs.lookup 41 = some F_joined) {c : Nat} {u v : Nat → Option Int} (hc : c ≤ 1000) :
    evCall C wf Fs (n + 2) 41 [.d (dVec c u), .d (dVec c v)] st = some (.d (dVec c fun j => stepO (u j) (v j)), st) := by
  refine call_rt h (ρ0 := [some (.d (dVec c u)), some (.d (dVec c v)), none, none]) (st0 := st) rfl rfl (st' := st) (w := .d (dVec c fun j => stepO (u j) (v j))) (st_rt ?_) leave_same
  refine tuple_of (w := .f ((List.range c).map fun j => od (stepO (u j) (v j)))) (lc_rng (h := fun l => .tuple [od (u l), od (v l)]) (st1 := st) (zip_at (N := c) (a := fun l => od (u l)) (b := fun l => od (v l)) rfl rfl) hc (fun l hl => ?_)) rfl
  exact ⟨[some (.d (dVec c u)), some (.d (dVec c v)), some (.d (od (u l))), some (.d (od (v l)))], _, rfl, pair_late (late11 h11) (var_at rfl) (var_at rfl), rfl⟩
theorem both_ok (h145 : Fs.lookup 145 = some F_law_later) (h : Fs.lookup 741 = some F_law_both) {r c : Nat} {f g : Nat → Nat → Option Int} (hr : r ≤ 1000) (hc : c ≤ 1000) :
    evCall C wf Fs (n + 2) 741 [.d (dMat r c f), .d (dMat r c g)] st = some (.d (dMat r c (joF f g)), st) := by
  refine call_rt h (ρ0 := [some (.d (dMat r c f)), some (.d (dMat r c g)), none, none, none, none]) (st0 := st) rfl rfl (st' := st) (w := .d (dMat r c (joF f g))) (st_rt ?_) leave_same
  refine tuple_of (w := .f ((List.range r).map fun i => dVec c (joF f g i))) (lc_rng (h := fun i => .tuple [dVec c (f i), dVec c (g i)]) (st1 := st) (zip_at (N := r) (a := fun i => dVec c (f i)) (b := fun i => dVec c (g i)) rfl rfl) hr (fun i hi => ?_)) rfl
  refine ⟨[some (.d (dMat r c f)), some (.d (dMat r c g)), some (.d (dVec c (f i))), some (.d (dVec c (g i))), none, none], .d (dVec c (joF f g i)), rfl, ?_, rfl⟩
  refine tuple_of (w := .f ((List.range c).map fun j => od (joF f g i j))) (lc_rng (h := fun l => .tuple [od (f i l), od (g i l)]) (st1 := st) (zip_at (N := c) (a := fun l => od (f i l)) (b := fun l => od (g i l)) rfl rfl) hc (fun l hl => ?_)) rfl
  exact ⟨[some (.d (dMat r c f)), some (.d (dMat r c g)), some (.d (dVec c (f i))), some (.d (dVec c (g i))), some (.d (od (f i l))), some (.d (od (g i l)))], _, rfl, pair_late (late145 h145) (var_at rfl) (var_at rfl), rfl⟩
theorem notlater_ok (h : Fs.lookup 460 = some F_law_is_not_later) {c : Nat} {u v : Nat → Option Int} (hc : c ≤ 1000) (hle : ∀ j, j < c → leO (u j) (v j)) :
    evCall C wf Fs (n + 1) 460 [.d (dVec c u), .d (dVec c v)] st = some (.d (.bool true), st) := by
  refine call_rt h (ρ0 := [some (.d (dVec c u)), some (.d (dVec c v)), none, none]) (st0 := st) rfl rfl (st' := st) (w := .d (.bool true)) (st_rt ?_) leave_same
  refine all_rng (N := c) (g := fun j => leB (u j) (v j)) (lc_rng (h := fun l => .tuple [od (u l), od (v l)]) (st1 := st) (zip_at (N := c) (a := fun l => od (u l)) (b := fun l => od (v l)) rfl rfl) hc (fun l hl => ?_)) (fun j hj => leB_iff.mpr (hle j hj))
  refine ⟨[some (.d (dVec c u)), some (.d (dVec c v)), some (.d (od (u l))), some (.d (od (v l)))], .d (.bool (leB (u l) (v l))), rfl, ?_, rfl⟩
  generalize u l = a
  generalize v l = b
  have e := or2 (Γ := evCall C wf Fs n) (C := C) (ρ := [some (.d (dVec c u)), some (.d (dVec c v)), some (.d (od a)), some (.d (od b))]) (st := st) (a := .cmp .isN (.var 2) .non) (b := .and (.cons (.cmp .isnotN (.var 3) (.non)) (.cons (.cmp .le (.var 2) (.var 3)) (.nil)))) (k1 := isNone (od a)) (k2 := leB a b) (is_none (var_at rfl)) (fun z => by
    cases a with
    | none => cases z
    | some a =>
      cases b with
      | none => exact and2 (k1 := false) (k2 := true) (isnt_none (x := .none) (var_at rfl)) (fun h => nomatch h)
      | some b => exact and2 (k1 := true) (k2 := decide (a ≤ b)) (isnt_none (x := .int b) (var_at rfl)) (fun _ => cmp_dd (x := .int a) (y := .int b) (var_at rfl) (var_at rfl) rfl rfl rfl))
  rw [e]
  cases a <;> cases b <;> rfl
/-! ### what is asked -/
theorem is_vector_ok (h2 : Fs.lookup 2 = some F_is_integer) (h3 : Fs.lookup 3 = some F_is_within) (h8 : Fs.lookup 8 = some F_is_tuple) (hT : C "MOST_TIME" = some (.int 1000000000)) (h : Fs.lookup 14 = some F_is_vector_of) {c : Nat} {v : Nat → Option Int} (hc : c ≤ 1000) (hv : ∀ j, j < c → bdO 1000000000 (v j)) :
    evCall C wf Fs (n + 3) 14 [.d (.int (c : Int)), .d (dVec c v)] st = some (.d (.bool true), st) := by
  have e8 := is_tuple_ok (C := C) (wf := wf) (n := n + 1) (st := st) h8 (dVec c v) (c : Int)
  have e3 := fun x => is_within_ok (C := C) (wf := wf) (n := n) (st := st) h2 h3 x (-1000000000) 1000000000
  refine call_rt h (ρ0 := [some (.d (.int (c : Int))), some (.d (dVec c v)), none]) (st0 := st) rfl rfl (st' := st) (w := .d (.bool true)) (st_rt ?_) leave_same
  have a1 : ev (evCall C wf Fs (n + 2)) C (.call 8 (.cons (.var 1) (.cons (.var 0) (.nil)))) [some (.d (.int (c : Int))), some (.d (dVec c v)), none] st = some (.d (.bool true), st) := by
    refine call2 (var_at rfl) (var_at rfl) (e8.trans ?_)
    simp [dVec]
  refine and2 (k1 := true) (k2 := true) a1 (fun _ => ?_)
  refine all_rng (N := c) (g := fun j => true) (lc_rng (h := fun l => od (v l)) (st1 := st) (walk_d (var_at rfl) itemsOf_vec) hc (fun l hl => ?_)) (fun j hj => rfl)
  refine ⟨[some (.d (.int (c : Int))), some (.d (dVec c v)), some (.d (od (v l)))], .d (.bool true), rfl, ?_, rfl⟩
  have hb := hv l hl
  generalize v l = a at hb ⊢
  have e := or2 (Γ := evCall C wf Fs (n + 2)) (C := C) (ρ := [some (.d (.int (c : Int))), some (.d (dVec c v)), some (.d (od a))]) (st := st) (a := .cmp .isN (.var 2) .non) (b := .call 3 (.cons (.var 2) (.cons (.neg (.glo "MOST_TIME")) (.cons (.glo "MOST_TIME") (.nil))))) (k1 := isNone (od a)) (k2 := within (od a) (-1000000000) 1000000000) (is_none (var_at rfl)) (fun z => call3 (var_at rfl) (neg_at (glo_at hT)) (glo_at hT) (e3 _))
  rw [e]
  cases a with
  | none => rfl
  | some a =>
    have := hb a rfl
    have w : within (od (some a)) (-1000000000) 1000000000 = true := by
      show within (.int a) _ _ = true
      simp only [within]
      rw [decide_eq_true this.1, decide_eq_true this.2]; rfl
    rw [w, Bool.or_true]
/-- the defs that a table is asked by -/
structure TabAt (C : Str → Option D) (Fs : List (Nat × Fn)) : Prop where
  h2 : Fs.lookup 2 = some F_is_integer
  h3 : Fs.lookup 3 = some F_is_within
  h6 : Fs.lookup 6 = some F_is_entry
  h7 : Fs.lookup 7 = some F_is_table_any
  hc : C "MOST_ENTRY" = some (.int 99)
  hs : C "MOST_SIDE" = some (.int 8)
theorem table_at (t : TabAt C Fs) {r c : Nat} {f : Nat → Nat → Option Int} (hr : 1 ≤ r ∧ r ≤ 8) (hc : 1 ≤ c ∧ c ≤ 8) (hb : ∀ i j, i < r → j < c → bdO 99 (f i j)) :
    evCall C wf Fs (n + 4) 7 [.d (dMat r c f)] st = some (.d (.bool true), st) := by
  have e7 := is_table_any_ok (C := C) (wf := wf) (n := n) (st := st) t.h2 t.h3 t.h6 t.h7 t.hc t.hs (dMat r c f)
  rw [tabB_mat hr hc hb] at e7
  exact e7
theorem is_like_ok (t : TabAt C Fs) (h : Fs.lookup 35 = some F_is_like) {r c : Nat} {f g : Nat → Nat → Option Int} (hr : 1 ≤ r ∧ r ≤ 8) (hc : 1 ≤ c ∧ c ≤ 8) (hb : ∀ i j, i < r → j < c → bdO 99 (g i j)) :
    evCall C wf Fs (n + 5) 35 [.d (dMat r c f), .d (dMat r c g)] st = some (.d (.bool true), st) := by
  refine call_rt h (ρ0 := [some (.d (dMat r c f)), some (.d (dMat r c g))]) (st0 := st) rfl rfl (st' := st) (w := .d (.bool true)) (st_rt ?_) leave_same
  exact and3 (k1 := true) (k2 := true) (k3 := true) (call1 (var_at rfl) (table_at t hr hc hb)) (fun _ => cmp_dd (len_mat (var_at rfl)) (len_mat (var_at rfl)) rfl rfl (by rw [cmpF_eqI]; simp)) (fun _ _ => cmp_dd (len_vec (row0 hr.1 rfl)) (len_vec (row0 hr.1 rfl)) rfl rfl (by rw [cmpF_eqI]; simp))
theorem want2_ok {w f : Nat} {u v : D} (h : Fs.lookup w = some ⟨[false, false], 2, .cons (.ifs (.not (.call f (.cons (.var 0) (.cons (.var 1) .nil)))) (.cons (.never) (.nil)) (.nil)) (.nil)⟩) (hv : evCall C wf Fs n f [.d u, .d v] st = some (.d (.bool true), st)) : evCall C wf Fs (n + 1) w [.d u, .d v] st = some (.d .none, st) := by
  exact call_nx h (ρ0 := [some (.d u), some (.d v)]) (st0 := st) rfl rfl ((st_one (if_no (not_b (call2 (var_at rfl) (var_at rfl) hv)))).trans evSs_nil) leave_same
theorem side_at (t : TabAt C Fs) (h : Fs.lookup 236 = some F_want_side) {m : Nat} (hm : 1 ≤ m ∧ m ≤ 8) : evCall C wf Fs (n + 3) 236 [.d (.int (m : Int))] st = some (.d .none, st) := by
  have iw := is_within_ok (C := C) (wf := wf) (n := n) (st := st) t.h2 t.h3 (.int (m : Int)) 1 8
  have wt : within (.int (m : Int)) 1 8 = true := by
    simp only [within]
    rw [decide_eq_true (by omega), decide_eq_true (by omega)]; rfl
  rw [wt] at iw
  exact call_nx h (ρ0 := [some (.d (.int (m : Int)))]) (st0 := st) rfl rfl ((st_one (if_no (not_b (call3 (var_at rfl) ev_int (glo_at t.hs) iw)))).trans evSs_nil) leave_same
theorem vector_at (t : TabAt C Fs) (h8 : Fs.lookup 8 = some F_is_tuple) (hT : C "MOST_TIME" = some (.int 1000000000)) (h14 : Fs.lookup 14 = some F_is_vector_of) (h : Fs.lookup 62 = some F_want_vector) {r c : Nat} {f : Nat → Nat → Option Int} {v : Nat → Option Int} (hr : 1 ≤ r) (hc : c ≤ 1000) (hv : ∀ j, j < c → bdO 1000000000 (v j)) :
    evCall C wf Fs (n + 4) 62 [.d (dMat r c f), .d (dVec c v)] st = some (.d .none, st) := by
  have iv := is_vector_ok (C := C) (wf := wf) (n := n) (st := st) t.h2 t.h3 h8 hT h14 hc hv
  exact call_nx h (ρ0 := [some (.d (dMat r c f)), some (.d (dVec c v))]) (st0 := st) rfl rfl ((st_one (if_no (not_b (call2 (len_vec (row0 hr rfl)) (var_at rfl) iv)))).trans evSs_nil) leave_same
/-! ### the methods -/
theorem later_of_ok (t : TabAt C Fs) (h19 : Fs.lookup 19 = some ⟨[false], 1, .cons (.ifs (.not (.call 7 (.cons (.var 0) (.nil)))) (.cons (.never) (.nil)) (.nil)) (.nil)⟩) (h35 : Fs.lookup 35 = some F_is_like) (h51 : Fs.lookup 51 = some F_want_other) (h11 : Fs.lookup 11 = some F_latest) (h41 : Fs.lookup 41 = some F_joined) (h : Fs.lookup 184 = some F_later_of)
    {r c : Nat} {f g : Nat → Nat → Option Int} (hr : 1 ≤ r ∧ r ≤ 8) (hc : 1 ≤ c ∧ c ≤ 8) (hf : ∀ i j, i < r → j < c → bdO 99 (f i j)) (hg : ∀ i j, i < r → j < c → bdO 99 (g i j)) :
    evCall C wf Fs (n + 7) 184 [.d (dMat r c f), .d (dMat r c g)] st = some (.d (dMat r c (joF f g)), st) := by
  have w1 := want_ok (n := n + 5) (st := st) h19 (table_at (C := C) (wf := wf) (n := n + 1) (st := st) t hr hc hf)
  have w2 := want2_ok (n := n + 5) (st := st) h51 (is_like_ok (C := C) (wf := wf) (n := n) (st := st) (f := f) t h35 hr hc hg)
  refine call_rt h (ρ0 := [some (.d (dMat r c f)), some (.d (dMat r c g)), none, none]) (st0 := st) rfl rfl (st' := st) (w := .d (dMat r c (joF f g))) ?_ leave_same
  refine (st_one (exp_one (call1 (var_at rfl) w1))).trans ?_
  refine (st_one (exp_one (call2 (var_at rfl) (var_at rfl) w2))).trans ?_
  refine st_rt (tuple_of (w := .f ((List.range r).map fun i => dVec c (joF f g i))) (lc_rng (h := fun i => .tuple [dVec c (f i), dVec c (g i)]) (st1 := st) (zip_at (N := r) (a := fun i => dVec c (f i)) (b := fun i => dVec c (g i)) rfl rfl) (by omega) (fun i hi => ?_)) rfl)
  exact ⟨[some (.d (dMat r c f)), some (.d (dMat r c g)), some (.d (dVec c (f i))), some (.d (dVec c (g i)))], .d (dVec c (joF f g i)), rfl, call2 (var_at rfl) (var_at rfl) (joined_ok (n := n + 4) h11 h41 (by omega)), rfl⟩
theorem applied_to_ok (t : TabAt C Fs) (h19 : Fs.lookup 19 = some ⟨[false], 1, .cons (.ifs (.not (.call 7 (.cons (.var 0) (.nil)))) (.cons (.never) (.nil)) (.nil)) (.nil)⟩) (h8 : Fs.lookup 8 = some F_is_tuple) (hT : C "MOST_TIME" = some (.int 1000000000)) (h14 : Fs.lookup 14 = some F_is_vector_of) (h62 : Fs.lookup 62 = some F_want_vector) (h9 : Fs.lookup 9 = some F_then) (h11 : Fs.lookup 11 = some F_latest) (h20 : Fs.lookup 20 = some F_applied) (h : Fs.lookup 124 = some F_applied_to)
    {r c : Nat} {f : Nat → Nat → Option Int} {v : Nat → Option Int} (hr : 1 ≤ r ∧ r ≤ 8) (hc : 1 ≤ c ∧ c ≤ 8) (hf : ∀ i j, i < r → j < c → bdO 99 (f i j)) (hv : ∀ j, j < c → bdO 1000000000 (v j)) :
    evCall C wf Fs (n + 7) 124 [.d (dMat r c f), .d (dVec c v)] st = some (.d (dVec r (apF c f v)), st) := by
  have w1 := want_ok (n := n + 5) (st := st) h19 (table_at (C := C) (wf := wf) (n := n + 1) (st := st) t hr hc hf)
  have w2 := vector_at (C := C) (wf := wf) (n := n + 2) (st := st) (f := f) t h8 hT h14 h62 hr.1 (by omega) hv
  refine call_rt h (ρ0 := [some (.d (dMat r c f)), some (.d (dVec c v))]) (st0 := st) rfl rfl (st' := st) (w := .d (dVec r (apF c f v))) ?_ leave_same
  refine (st_one (exp_one (call1 (var_at rfl) w1))).trans ?_
  refine (st_one (exp_one (call2 (var_at rfl) (var_at rfl) w2))).trans ?_
  exact st_rt (call2 (var_at rfl) (var_at rfl) (applied_ok (n := n + 4) h9 h11 h20 (by omega) (by omega)))
theorem product_of_ok (t : TabAt C Fs) (h19 : Fs.lookup 19 = some ⟨[false], 1, .cons (.ifs (.not (.call 7 (.cons (.var 0) (.nil)))) (.cons (.never) (.nil)) (.nil)) (.nil)⟩) (h9 : Fs.lookup 9 = some F_then) (h11 : Fs.lookup 11 = some F_latest) (h21 : Fs.lookup 21 = some F_columns_of) (h26 : Fs.lookup 26 = some F_product) (h : Fs.lookup 121 = some F_product_of)
    {r k c : Nat} {f g : Nat → Nat → Option Int} (hr : 1 ≤ r ∧ r ≤ 8) (hk : 1 ≤ k ∧ k ≤ 8) (hc : 1 ≤ c ∧ c ≤ 8) (hf : ∀ i j, i < r → j < k → bdO 99 (f i j)) (hg : ∀ i j, i < k → j < c → bdO 99 (g i j)) :
    evCall C wf Fs (n + 6) 121 [.d (dMat r k f), .d (dMat k c g)] st = some (.d (dMat r c (mulF k f g)), st) := by
  have w1 := want_ok (n := n + 4) (st := st) h19 (table_at (C := C) (wf := wf) (n := n) (st := st) t hr hk hf)
  refine call_rt h (ρ0 := [some (.d (dMat r k f)), some (.d (dMat k c g))]) (st0 := st) rfl rfl (st' := st) (w := .d (dMat r c (mulF k f g))) ?_ leave_same
  refine (st_one (exp_one (call1 (var_at rfl) w1))).trans ?_
  refine (st_one (if_no (or2 (k1 := false) (k2 := false) (not_b (k := true) (call1 (var_at rfl) (table_at (n := n + 1) t hk hc hg))) (fun _ => cmp_dd (len_mat (var_at rfl)) (len_vec (row0 hr.1 rfl)) rfl rfl (by rw [cmpF_neI]; simp))))).trans ?_
  exact st_rt (call2 (var_at rfl) (var_at rfl) (product_ok (n := n + 3) h9 h11 h21 h26 (by omega) hk (by omega)))
theorem unit_table_ok (t : TabAt C Fs) (h236 : Fs.lookup 236 = some F_want_side) (h34 : Fs.lookup 34 = some F_unit_of) (h : Fs.lookup 231 = some F_unit_table) {m : Nat} (hm : 1 ≤ m ∧ m ≤ 8) : evCall C wf Fs (n + 4) 231 [.d (.int (m : Int))] st = some (.d (dMat m m unitF), st) := by
  refine call_rt h (ρ0 := [some (.d (.int (m : Int)))]) (st0 := st) rfl rfl (st' := st) (w := .d (dMat m m unitF)) ?_ leave_same
  refine (st_one (exp_one (call1 (var_at rfl) (side_at (n := n) t h236 hm)))).trans ?_
  exact st_rt (call1 (var_at rfl) (unit_ok (n := n + 2) h34 (by omega)))
end
end Z
/-! ZTab: drawn tables; comprehensions that draw, place by place; the algebra of joined tables. -/
set_option linter.all false
set_option autoImplicit false
set_option maxHeartbeats 4000000
set_option maxRecDepth 100000
namespace Z
open PySem
/-! ### algebra -/
theorem leO_refl (a : Option Int) : leO a a := by cases a <;> simp [leO]
theorem leO_trans {a b c : Option Int} (h : leO a b) (k : leO b c) : leO a c := by
  cases a <;> cases b <;> cases c <;> simp [leO] at *
  omega
theorem le_of_sup {k : Nat} {h : Nat → Option Int} {l : Nat} (hl : l < k) : leO (h l) (supR k h) := (le_sup.mp (leO_refl _)) l hl
theorem then_mono_r {a b c : Option Int} (h : leO b c) : leO (thenO a b) (thenO a c) := by
  cases a <;> cases b <;> cases c <;> simp [leO, thenO] at *
  omega
theorem mul_jo {k : Nat} (f g h : Nat → Nat → Option Int) (i j : Nat) : mulF k (joF f g) h i j = stepO (mulF k f h i j) (mulF k g h i j) := by
  apply leO_eq
  intro z
  show leO (supR k fun l => thenO (stepO (f i l) (g i l)) (h l j)) z ↔ _
  rw [le_sup, le_step]
  show _ ↔ leO (supR k _) z ∧ leO (supR k _) z
  rw [le_sup, le_sup]
  constructor
  · intro a
    exact ⟨fun l hl => (then_step_l.mp (a l hl)).1, fun l hl => (then_step_l.mp (a l hl)).2⟩
  · intro a l hl
    exact then_step_l.mpr ⟨a.1 l hl, a.2 l hl⟩
theorem ap_mono {c : Nat} {f : Nat → Nat → Option Int} {u v : Nat → Option Int} (h : ∀ j, j < c → leO (u j) (v j)) (i : Nat) : leO (apF c f u i) (apF c f v i) := by
  show leO (supR c _) _
  rw [le_sup]
  intro l hl
  exact leO_trans (then_mono_r (h l hl)) (le_of_sup (h := fun l => thenO (f i l) (v l)) hl)
theorem mul_none {k : Nat} {f : Nat → Nat → Option Int} {i j : Nat} : mulF k f noneF i j = none := by
  apply leO_eq
  intro z
  show leO (supR k fun l => thenO (f i l) none) z ↔ _
  rw [le_sup]
  constructor
  · intro _; trivial
  · intro _ l hl
    rw [then_comm]; trivial
theorem bd_step {M : Int} {a b : Option Int} (h1 : bdO M a) (h2 : bdO M b) : bdO M (stepO a b) := by
  cases a with
  | none => exact h2
  | some a =>
    cases b with
    | none => exact h1
    | some b =>
      simp only [stepO]
      split
      · exact h2
      · exact h1
theorem bd_unit {M : Int} (h : 0 ≤ M) (i j : Nat) : bdO M (unitF i j) := fun v e => by
  simp only [unitF] at e
  split at e
  · cases e; omega
  · cases e
theorem bd_none {M : Int} : bdO M none := fun v e => nomatch e
theorem bd_up {M N : Int} {o : Option Int} (h : bdO M o) (hl : M ≤ N) : bdO N o := fun v e => by have := h v e; omega
theorem ap_bd {c : Nat} {f : Nat → Nat → Option Int} {v : Nat → Option Int} {M N : Int} {i : Nat} (h1 : ∀ l, l < c → bdO M (f i l)) (h2 : ∀ l, l < c → bdO N (v l)) : bdO (M + N) (apF c f v i) :=
  mul_bd (g := fun l _ => v l) (j := 0) h1 h2
/-! ### drawn tables -/
theorem ent_od {y : D} (h : entV y) : ∃ o, y = od o ∧ bdO 99 o := by
  rcases h with rfl | ⟨i, rfl, a, b⟩
  · exact ⟨none, rfl, fun v e => nomatch e⟩
  · exact ⟨some i, rfl, fun v e => by cases e; exact ⟨a, b⟩⟩
/-- what holds place by place is told by a function -/
theorem pick_fn {N : Nat} {α : Type} [Inhabited α] {e : Nat → D} {mk : α → D} {P : Nat → α → Prop} (h : ∀ q, q < N → ∃ o, e q = mk o ∧ P q o) : ∃ v : Nat → α, (List.range N).map e = (List.range N).map (fun q => mk (v q)) ∧ ∀ q, q < N → P q (v q) := by
  refine ⟨fun q => if hq : q < N then Classical.choose (h q hq) else default, ?_, fun q hq => ?_⟩
  · refine List.map_congr_left fun q hq => ?_
    have hq := List.mem_range.mp hq
    simp only [dif_pos hq]
    exact (Classical.choose_spec (h q hq)).1
  · simp only [dif_pos hq]
    exact (Classical.choose_spec (h q hq)).2
theorem list_rng {xs : List D} : xs = (List.range xs.length).map fun i => xs.getD i .none := by
  apply List.ext_getElem (by simp)
  intro i h1 h2
  simp [h1]
theorem row_of {es : List D} {P : Option Int → Prop} (h : ∀ y ∈ es, ∃ o, y = od o ∧ P o) : ∃ v : Nat → Option Int, es = (List.range es.length).map (fun i => od (v i)) ∧ ∀ i, i < es.length → P (v i) := by
  obtain ⟨v, e, hv⟩ := pick_fn (N := es.length) (e := fun i => es.getD i .none) (mk := od) (P := fun _ o => P o) (fun q hq => by
    have := h es[q] (List.getElem_mem hq)
    simpa [hq] using this)
  exact ⟨v, list_rng.trans e, hv⟩
theorem rows_mat {P : Option Int → Prop} {r c : Nat} {rows : List D} (hl : rows.length = r) (h : ∀ x ∈ rows, ∃ es : List D, x = .tuple es ∧ es.length = c ∧ ∀ y ∈ es, ∃ o, y = od o ∧ P o) : ∃ f : Nat → Nat → Option Int, PyData.tuple rows = dMat r c f ∧ ∀ i j, i < r → j < c → P (f i j) := by
  subst hl
  obtain ⟨f, e, hf⟩ := pick_fn (N := rows.length) (e := fun i => rows.getD i .none) (mk := fun v : Nat → Option Int => dVec c v) (P := fun _ v => ∀ j, j < c → P (v j)) (fun q hq => by
    obtain ⟨es, e1, e2, e3⟩ := h rows[q] (List.getElem_mem hq)
    obtain ⟨v, ev, hv⟩ := row_of e3
    refine ⟨v, ?_, fun j hj => hv j (by omega)⟩
    have : rows.getD q .none = rows[q] := by simp [hq]
    rw [this, e1, dVec, ← e2, ← ev])
  exact ⟨f, by rw [dMat, ← e, ← list_rng], fun i j hi hj => hf i hi j hj⟩
section
variable {C : Str → Option D} {wf n : Nat} {Fs : List (Nat × Fn)} {st : Store} {Γ : Calls} {ρ : Slots}
theorem tableM_ok (hd : ∀ m, Draws C wf Fs (m + 1) 0) (h5 : Fs.lookup 5 = some (pickF 0)) (h12 : Fs.lookup 12 = some (entryF 0 5)) (h17 : Fs.lookup 17 = some (tableF 12)) (hp : Pot st) {r c : Nat} (hr : r ≤ 1000) (hc : c ≤ 1000) :
    ∃ f st', evCall C wf Fs (n + 5) 17 [.c 0, .d (.int r), .d (.int c)] st = some (.d (dMat r c f), st') ∧ (∀ i j, i < r → j < c → bdO 99 (f i j)) ∧ Same st st' := by
  obtain ⟨v, st', e, ⟨rows, rfl, h1, h2⟩, h3⟩ := table_ok (C := C) (wf := wf) (n := n + 4) (en := 12) (f := 17) (fun s hs => entry_ok (n := n + 2) (hd (n + 2)) (hd (n + 1)) h5 h12 hs) h17 hp (r := r) (c := c) hr hc
  obtain ⟨f, ef, hf⟩ := rows_mat h1 (fun x hx => by
    obtain ⟨es, e1, e2, e3⟩ := h2 x hx
    exact ⟨es, e1, e2, fun y hy => ent_od (e3 y hy)⟩)
  rw [ef] at e
  exact ⟨f, st', e, hf, h3⟩
abbrev sideF : Fn := ⟨[true], 1, .cons (.ret (.call 5 (.cons (.var 0) (.cons (.lst (.cons (.int 1) (.cons (.int 2) (.cons (.int 2) (.cons (.int 3) (.cons (.int 3) (.cons (.int 4) (.nil)))))))) (.nil))))) (.nil)⟩
theorem side_ok {sd : Nat} (hd : ∀ m, Draws C wf Fs (m + 1) 0) (h5 : Fs.lookup 5 = some (pickF 0)) (h : Fs.lookup sd = some sideF) (hp : Pot st) : ∃ (r : Nat) (st' : Store), evCall C wf Fs (n + 3) sd [.c 0] st = some (.d (.int (r : Int)), st') ∧ 1 ≤ r ∧ r ≤ 4 ∧ Same st st' := by
  obtain ⟨x, st', e, hx, hs⟩ := pick_ok (C := C) (wf := wf) (n := n + 1) (st := st) (hd n) (f := 5) h5 hp (xs := [.int 1, .int 2, .int 2, .int 3, .int 3, .int 4]) (by decide) (.inl rfl)
  have hr : ∃ r : Nat, x = .int (r : Int) ∧ 1 ≤ r ∧ r ≤ 4 := by
    simp only [List.mem_cons, List.not_mem_nil, or_false] at hx
    rcases hx with rfl | rfl | rfl | rfl | rfl | rfl
    · exact ⟨1, rfl, by decide⟩
    · exact ⟨2, rfl, by decide⟩
    · exact ⟨2, rfl, by decide⟩
    · exact ⟨3, rfl, by decide⟩
    · exact ⟨3, rfl, by decide⟩
    · exact ⟨4, rfl, by decide⟩
  obtain ⟨r, rfl, h1, h8⟩ := hr
  refine ⟨r, st', ?_, h1, h8, hs⟩
  exact call_rt h (ρ0 := [some (.c 0)]) (st0 := st) rfl rfl (st_rt (call2 (var_at rfl) (lst_ok (evD_c ev_int rfl (evD_c ev_int rfl (evD_c ev_int rfl (evD_c ev_int rfl (evD_c ev_int rfl (evD_c ev_int rfl evD_nil)))))) (szk _ (by simp))) e)) (by rw [leave_d, take_all hs.len])
/-! ### comprehensions that draw, place by place -/
theorem compL_pl {body : D → Store → Option (Option D × Store)} {R : Nat → D → Prop} {I : Store → Prop} : ∀ {xs : List D} {st : Store} {b : Nat}, I st → (∀ (j : Nat) (x : D), xs[j]? = some x → ∀ s, I s → ∃ y s', body x s = some (some y, s') ∧ R (b + j) y ∧ I s') → xs.length ≤ sizeLine → ∃ ys st', compL body xs st = some (ys, st') ∧ ys.length = xs.length ∧ (∀ (j : Nat) (y : D), ys[j]? = some y → R (b + j) y) ∧ I st'
  | [], st, b, hs, _, _ => ⟨[], st, rfl, rfl, fun j y h => by simp at h, hs⟩
  | x :: xs, st, b, hs, hb, hl => by
    obtain ⟨y, s1, e1, r1, i1⟩ := hb 0 x rfl st hs
    obtain ⟨ys, s2, e2, l2, r2, i2⟩ := compL_pl (xs := xs) (st := s1) (b := b + 1) i1 (fun j z hz s h => by
      have := hb (j + 1) z (by simpa using hz) s h
      rwa [show b + (j + 1) = b + 1 + j by omega] at this) (by simp at hl; omega)
    refine ⟨y :: ys, s2, ?_, by simp [l2], fun j z hz => ?_, i2⟩
    · rw [compL, e1]
      simp only [Option.bind_some, e2]
      rw [if_pos (by simp at hl; omega)]
    · cases j with
      | zero => simp at hz; subst hz; exact r1
      | succ j =>
        have := r2 j z (by simpa using hz)
        rwa [show b + (j + 1) = b + 1 + j by omega]
theorem lc_pl {own tg : List Nat} {fl : Bool} {elt : E} {it : It} {N : Nat} {h : Nat → D} {st1 : Store} {R : Nat → D → Prop} {I : Store → Prop} (hi : evI Γ C it ρ st = some ((List.range N).map h, st1)) (hl : N ≤ 1000) (h0 : I st1)
    (hb : ∀ q, q < N → ∀ s, I s → ∃ ρ' w s1 y s2, bindD (wipeW ρ own) tg fl (h q) = some ρ' ∧ ev Γ C elt ρ' s = some (w, s1) ∧ fix s1 w = some (y, s2) ∧ R q y ∧ I s2) :
    ∃ (e : Nat → D) (st' : Store), ev Γ C (.lc own elt tg fl it .nil) ρ st = some (.f ((List.range N).map e), st') ∧ (∀ q, q < N → R q (e q)) ∧ I st' := by
  obtain ⟨bd, hbd⟩ : ∃ bd : D → Store → Option (Option D × Store), bd = (fun x st => (bindD (wipeW ρ own) tg fl x).bind fun ρ' => (evC Γ C .nil ρ' st).bind fun q =>
        if q.1 then (ev Γ C elt ρ' q.2).bind fun r => (fix r.2 r.1).map fun y => (some y.1, y.2) else some (none, q.2)) := ⟨_, rfl⟩
  obtain ⟨ys, st', e, h1, h2, h3⟩ := compL_pl (body := bd) (R := R) (I := I) (xs := (List.range N).map h) (st := st1) (b := 0) h0 (fun j x hx s hs => by
    rw [List.getElem?_map, Option.map_eq_some_iff] at hx
    obtain ⟨j1, a1, rfl⟩ := hx
    obtain ⟨l1, b1⟩ := List.getElem?_eq_some_iff.mp a1
    rw [List.getElem_range] at b1
    subst b1
    rw [List.length_range] at l1
    obtain ⟨ρ', w, s1, y, s2, e1, e2, e3, e4, e5⟩ := hb j l1 s hs
    refine ⟨y, s2, ?_, by rwa [Nat.zero_add], e5⟩
    rw [hbd]
    simp only
    rw [e1]
    simp [e2, e3]) (szk _ (by simpa using hl))
  rw [List.length_map, List.length_range] at h1
  refine ⟨fun i => ys.getD i .none, st', ?_, fun q hq => ?_, h3⟩
  · rw [hbd] at e
    rw [ev, hi]
    show Option.map _ _ = _
    rw [e]
    show some (W.f ys, st') = some (W.f ((List.range N).map fun i => ys.getD i .none), st')
    rw [← h1, ← list_rng]
  · have := h2 q ys[q] (List.getElem?_eq_getElem (by omega))
    rw [Nat.zero_add] at this
    have e2 : ys.getD q .none = ys[q] := by simp [show q < ys.length by omega]
    show R q (ys.getD q .none)
    rw [e2]
    exact this
/-! ### small steps -/
theorem ne_self {a b : E} {x : Str} {s1 s2 : Store} (h1 : ev Γ C a ρ st = some (.d (.str x), s1)) (h2 : ev Γ C b ρ s1 = some (.d (.str x), s2)) : ev Γ C (.cmp .ne a b) ρ st = some (.d (.bool false), s2) := by
  have := cmp_dd (o := .ne) (k := !decide (x = x)) h1 h2 rfl rfl rfl
  rw [this]; simp
theorem eq_strs {a b : E} {x : Str} {s1 s2 : Store} (h1 : ev Γ C a ρ st = some (.d (.str x), s1)) (h2 : ev Γ C b ρ s1 = some (.d (.str x), s2)) : ev Γ C (.cmp .eq a b) ρ st = some (.d (.bool true), s2) := by
  have := cmp_dd (o := .eq) (k := decide (x = x)) h1 h2 rfl rfl rfl
  rw [this]; simp
theorem or_f {a b : E} {s1 s2 : Store} {k : Bool} (h1 : ev Γ C a ρ st = some (.d (.bool false), s1)) (h2 : ev Γ C b ρ s1 = some (.d (.bool k), s2)) : ev Γ C (.or (.cons a (.cons b .nil))) ρ st = some (.d (.bool k), s2) := by
  rw [ev_or, evO_cons, h1]; simp [h2]
theorem or_t {a b : E} {s1 : Store} (h1 : ev Γ C a ρ st = some (.d (.bool true), s1)) : ev Γ C (.or (.cons a (.cons b .nil))) ρ st = some (.d (.bool true), s1) := by
  rw [ev_or, evO_cons, h1]; simp
theorem and_t {a b : E} {s1 s2 : Store} {k : Bool} (h1 : ev Γ C a ρ st = some (.d (.bool true), s1)) (h2 : ev Γ C b ρ s1 = some (.d (.bool k), s2)) : ev Γ C (.and (.cons a (.cons b .nil))) ρ st = some (.d (.bool k), s2) := by
  rw [ev_and, evA_cons, h1]; simp [h2]
theorem idx_L {a b : E} {xs : List D} {i : Nat} {y : D} {s1 s2 : Store} (h1 : ev Γ C a ρ st = some (.d (.list xs), s1)) (h2 : ev Γ C b ρ s1 = some (.d (.int (i : Int)), s2)) (h : xs[i]? = some y) : ev Γ C (.idx a b) ρ st = some (.d y, s2) := by
  obtain ⟨hl, e⟩ := List.getElem?_eq_some_iff.mp h
  rw [ev_idx, h1, Option.bind_some, h2, Option.bind_some, rd_d, Option.bind_some]
  show Option.bind (rd _ (.d (.list xs))) _ = _
  rw [rd_d, Option.bind_some, idxF_L, item_nat hl, Option.map_some, e]
theorem idx_T {a b : E} {xs : List D} {i : Nat} {y : D} {s1 s2 : Store} (h1 : ev Γ C a ρ st = some (.d (.tuple xs), s1)) (h2 : ev Γ C b ρ s1 = some (.d (.int (i : Int)), s2)) (h : xs[i]? = some y) : ev Γ C (.idx a b) ρ st = some (.d y, s2) := by
  obtain ⟨hl, e⟩ := List.getElem?_eq_some_iff.mp h
  rw [ev_idx, h1, Option.bind_some, h2, Option.bind_some, rd_d, Option.bind_some]
  show Option.bind (rd _ (.d (.tuple xs))) _ = _
  rw [rd_d, Option.bind_some, idxF_T, item_nat hl, Option.map_some, e]
/-! ### what may be shown -/
theorem ok_vec {w c : Nat} {v : Nat → Option Int} (hc : c ≤ w) (h : ∀ j, j < c → bdO 1000000000000000000 (v j)) : okD w 22 1 (dVec c v) := ⟨by simpa using hc, fun x hx => by
  obtain ⟨j, hj, rfl⟩ := List.mem_map.mp hx
  have hb := h j (List.mem_range.mp hj)
  cases e : v j with
  | none => trivial
  | some i => exact ok_int18 (hb i e) (by decide)⟩
theorem ok_mat {w r c : Nat} {f : Nat → Nat → Option Int} (hr : r ≤ w) (hc : c ≤ w) (h : ∀ i j, i < r → j < c → bdO 1000000000000000000 (f i j)) : okD w 22 2 (dMat r c f) := ⟨by simpa using hr, fun x hx => by
  obtain ⟨i, hi, rfl⟩ := List.mem_map.mp hx
  exact ok_vec hc fun j hj => h i j (List.mem_range.mp hi) hj⟩
theorem lay_mat {r c : Nat} {f : Nat → Nat → Option Int} : layE (dMat r c f) := by
  have h : ∀ x ∈ (List.range r).map fun i => dVec c (f i), layE x ∧ PyData.depth x ≤ 1 := fun x hx => by
    obtain ⟨i, _, rfl⟩ := List.mem_map.mp hx
    refine ⟨lay_vec, ?_⟩
    have h2 := all_depth (xs := (List.range c).map fun j => od (f i j)) (m := 0) fun y hy => by
      obtain ⟨j, _, rfl⟩ := List.mem_map.mp hy
      cases f i j <;> simp [od, PyData.depth]
    rw [dVec, PyData.depth]; omega
  have h1 := (lay_all fun x hx => (h x hx).1).1
  have h2 := all_depth (xs := (List.range r).map fun i => dVec c (f i)) (m := 1) fun x hx => (h x hx).2
  refine ⟨by rw [dMat, PyData.canLay0]; exact h1, ?_⟩
  rw [dMat, PyData.depth]; omega
theorem vec_eq {c : Nat} {v : Nat → Option Int} : cmpF .eq (dVec c v) (dVec c v) = some true := eq_self vec_shaped (fun _ e => nomatch e)
/-- a grid of drawn entries -/
abbrev gridE (elt : E) : E := .bi .tuple (.cons (.lc [3] (.bi .tuple (.cons (.lc [4] elt [4] true (.rng (.cons (.var 2) (.nil))) (.nil)) (.nil))) [3] true (.rng (.cons (.var 1) (.nil))) (.nil)) (.nil))
theorem grid_ok {elt : E} {P : Option Int → Prop} {r c : Nat} (hr : r ≤ 1000) (hc : c ≤ 1000) (hp : Pot st) (he : ∀ (i j : Nat) s, Same st s → ∃ o s', ev Γ C elt [some (.c 0), some (.d (.int (r : Int))), some (.d (.int (c : Int))), some (.d (.int (i : Nat))), some (.d (.int (j : Nat)))] s = some (.d (od o), s') ∧ P o ∧ Same st s') :
    ∃ f s', ev Γ C (gridE elt) [some (.c 0), some (.d (.int (r : Int))), some (.d (.int (c : Int))), none, none] st = some (.d (dMat r c f), s') ∧ (∀ i j, i < r → j < c → P (f i j)) ∧ Same st s' := by
  obtain ⟨e, s', h1, h2, h3⟩ := lc_pl (Γ := Γ) (C := C) (st := st) (ρ := [some (.c 0), some (.d (.int (r : Int))), some (.d (.int (c : Int))), none, none]) (own := [3]) (tg := [3]) (fl := true) (elt := .bi .tuple (.cons (.lc [4] elt [4] true (.rng (.cons (.var 2) (.nil))) (.nil)) (.nil)))
    (it := .rng (.cons (.var 1) .nil)) (h := fun i => .int (i : Nat)) (st1 := st) (R := fun _ y => ∃ v : Nat → Option Int, y = dVec c v ∧ ∀ j, j < c → P (v j)) (I := fun s => Same st s) ((rng_var (i := 1) rfl hr).trans (by rw [rng_map])) hr (.refl hp) (fun q hq s hs => by
      obtain ⟨e, s', h1, h2, h3⟩ := lc_pl (Γ := Γ) (C := C) (st := s) (ρ := [some (.c 0), some (.d (.int (r : Int))), some (.d (.int (c : Int))), some (.d (.int (q : Nat))), none]) (own := [4]) (tg := [4]) (fl := true) (elt := elt)
        (it := .rng (.cons (.var 2) .nil)) (h := fun i => .int (i : Nat)) (st1 := s) (R := fun _ y => ∃ o, y = od o ∧ P o) (I := fun s => Same st s) ((rng_var (i := 2) rfl hc).trans (by rw [rng_map])) hc hs (fun j hj s hs => by
          obtain ⟨o, s', a1, a2, a3⟩ := he q j s hs
          exact ⟨_, _, _, _, _, rfl, a1, rfl, ⟨o, rfl, a2⟩, a3⟩)
      obtain ⟨v, ev, hv⟩ := pick_fn (mk := od) (P := fun _ o => P o) h2
      rw [ev] at h1
      exact ⟨_, .d (dVec c v), s', dVec c v, s', rfl, tuple_of h1 rfl, rfl, ⟨v, rfl, hv⟩, h3⟩)
  obtain ⟨f, ef, hf⟩ := pick_fn (mk := fun v : Nat → Option Int => dVec c v) (P := fun _ v => ∀ j, j < c → P (v j)) h2
  rw [ef] at h1
  exact ⟨f, s', tuple_of h1 rfl, fun i j hi hj => hf i hi j hj, h3⟩
theorem pick_ev {i : Nat} {es : Es} {xs : List D} {s1 : Store} (hd : ∀ m, Draws C wf Fs (m + 1) 0) (h5 : Fs.lookup 5 = some (pickF 0)) (h0 : ρ[i]? = some (some (.c 0))) (he : evD (evCall C wf Fs (n + 2)) C es ρ st = some (xs, s1)) (hx : 1 ≤ xs.length ∧ xs.length ≤ 1000) (hp : Pot s1) :
    ∃ x s', ev (evCall C wf Fs (n + 2)) C (.call 5 (.cons (.var i) (.cons (.lst es) .nil))) ρ st = some (.d x, s') ∧ x ∈ xs ∧ Same s1 s' := by
  obtain ⟨x, s', e, h1, h2⟩ := pick_ok (C := C) (wf := wf) (n := n + 1) (st := s1) (hd n) (f := 5) h5 hp (xs := xs) ⟨hx.1, by omega⟩ (.inl rfl)
  exact ⟨x, s', call2 (var_at h0) (lst_ok he (szk _ hx.2)) e, h1, h2⟩
theorem call4 {f : Nat} {a b c d : E} {s1 s2 s3 s4 : Store} {w1 w2 w3 w4 : W} {o : Option (W × Store)} (h1 : ev Γ C a ρ st = some (w1, s1)) (h2 : ev Γ C b ρ s1 = some (w2, s2)) (h3 : ev Γ C c ρ s2 = some (w3, s3)) (h4 : ev Γ C d ρ s3 = some (w4, s4)) (h : Γ f [w1, w2, w3, w4] s4 = o) : ev Γ C (.call f (.cons a (.cons b (.cons c (.cons d .nil))))) ρ st = o := by
  rw [ev_call]; simp only [evs_cons, h1, h2, h3, h4, evs_nil, Option.bind_some, Option.map_some, h]
theorem rep_flat {x : D} : ∀ c : Nat, (List.replicate c [x]).flatten = (List.range c).map fun _ => x
  | 0 => rfl
  | c + 1 => by
    rw [List.replicate_succ, List.flatten_cons, rep_flat c, List.range_succ_eq_map, List.map_cons, List.map_map]
    rfl
theorem mul_tup {x : D} {c : Nat} (hc : 1 ≤ c ∧ c ≤ 1000) : binF .mul (.tuple [x]) (.int (c : Int)) = some (.d (.tuple ((List.range c).map fun _ => x))) := by
  rw [binF_mulT]
  by_cases h : c = 1
  · subst h; rfl
  · rw [if_pos ⟨by simp, by omega, by omega, by simp⟩, Int.toNat_natCast, rep_flat]
theorem asleep_ok (t : TabAt C Fs) (h236 : Fs.lookup 236 = some F_want_side) (h : Fs.lookup 801 = some F_asleep_table) {r c : Nat} (hr : 1 ≤ r ∧ r ≤ 8) (hc : 1 ≤ c ∧ c ≤ 8) : evCall C wf Fs (n + 4) 801 [.d (.int (r : Int)), .d (.int (c : Int))] st = some (.d (dMat r c noneF), st) := by
  have iw := is_within_ok (C := C) (wf := wf) (n := n + 1) (st := st) t.h2 t.h3 (.int (c : Int)) 1 8
  have wt : within (.int (c : Int)) 1 8 = true := by
    simp only [within]
    rw [decide_eq_true (by omega), decide_eq_true (by omega)]; rfl
  rw [wt] at iw
  refine call_rt h (ρ0 := [some (.d (.int (r : Int))), some (.d (.int (c : Int)))]) (st0 := st) rfl rfl (st' := st) (w := .d (dMat r c noneF)) ?_ leave_same
  refine (st_one (exp_one (call1 (var_at rfl) (side_at (n := n) t h236 hr)))).trans ?_
  refine (st_one (if_no (not_b (call3 (var_at rfl) ev_int (glo_at t.hs) iw)))).trans ?_
  have m1 := bin_any (Γ := evCall C wf Fs (n + 3)) (C := C) (o := .mul) (a := .tup (.cons .non .nil)) (b := .var 1) (ρ := [some (.d (.int (r : Int))), some (.d (.int (c : Int)))]) (st := st) (tup_ok (evD_c ev_non rfl evD_nil) (szk _ (by simp))) (var_at rfl) rfl rfl (mul_tup (x := .none) (c := c) ⟨hc.1, by omega⟩)
  refine st_rt (bin_any (tup_ok (evD_c m1 rfl evD_nil) (szk _ (by simp))) (var_at rfl) rfl rfl (mul_tup (c := r) ⟨hr.1, by omega⟩))
end
end Z
/-! ZShw: how long a value is when it is shown, part by part; loops that append to a local list. -/
set_option linter.all false
set_option autoImplicit false
set_option maxHeartbeats 4000000
set_option maxRecDepth 100000
namespace Z
open PySem
structure Shw (d n : Nat) (v : D) : Prop where
  show_ : PyData.showable v = true
  nodict : PyData.hasDict v = false
  deep : PyData.depth v ≤ d
  long : (PyData.shown v).length ≤ n
theorem Shw.up {d n d' n' : Nat} {v : D} (h : Shw d n v) (hd : d ≤ d') (hn : n ≤ n') : Shw d' n' v := ⟨h.1, h.2, Nat.le_trans h.3 hd, Nat.le_trans h.4 hn⟩
theorem Shw.of {w b k : Nat} {v : D} (h : okD w b k v) (hb : 5 ≤ b) : Shw k (lim w b k) v := by
  obtain ⟨h1, h2, h3⟩ := ok_show k v h
  exact ⟨h1, h2, h3, shown_le hb k v h⟩
theorem Shw.ok {d n : Nat} {v : D} (h : Shw d n v) (hd : d ≤ 100) (hn : n ≤ 16777216) : reprOk v = true := by
  have h5 : decide (PyData.depth v ≤ 100) = true := decide_eq_true (Nat.le_trans h.3 hd)
  have h6 : decide ((PyData.shown v).length ≤ sizeLine) = true := decide_eq_true (by rw [szl]; exact Nat.le_trans h.4 hn)
  simp only [reprOk, h.1, h.2, h5, h6, Bool.not_false, Bool.and_true, Bool.true_and, Bool.or_true]
theorem Shw.list {d n w : Nat} {xs : List D} (hl : xs.length ≤ w) (h : ∀ x ∈ xs, Shw d n x) : Shw (d + 1) (w * (n + 2) + 3) (.list xs) := by
  have h1 := all_show (xs := xs) fun x hm => ⟨(h x hm).1, (h x hm).2⟩
  have h2 := all_depth (xs := xs) (m := d) fun x hm => (h x hm).3
  have h3 : PyData.depth (.list xs) = PyData.depthAll xs + 1 := by rw [PyData.depth]
  refine ⟨by simp only [PyData.showable]; exact h1.1, by simp only [PyData.hasDict]; exact h1.2, by omega, ?_⟩
  have h4 := listText_le (ts := PyData.shownAll xs) (L := n) fun t ht => by
    obtain ⟨x, hx, rfl⟩ := shownAll_mem ht
    exact (h x hx).4
  rw [PyData.shown]
  rw [shownAll_len] at h4
  have h5 : xs.length * (n + 2) ≤ w * (n + 2) := Nat.mul_le_mul_right _ hl
  omega
theorem Shw.tup {d n w : Nat} {xs : List D} (hl : xs.length ≤ w) (h : ∀ x ∈ xs, Shw d n x) : Shw (d + 1) (w * (n + 2) + 3) (.tuple xs) := by
  have h1 := all_show (xs := xs) fun x hm => ⟨(h x hm).1, (h x hm).2⟩
  have h2 := all_depth (xs := xs) (m := d) fun x hm => (h x hm).3
  have h3 : PyData.depth (.tuple xs) = PyData.depthAll xs + 1 := by rw [PyData.depth]
  refine ⟨by simp only [PyData.showable]; exact h1.1, by simp only [PyData.hasDict]; exact h1.2, by omega, ?_⟩
  have h4 := tupleText_le (ts := PyData.shownAll xs) (L := n) fun t ht => by
    obtain ⟨x, hx, rfl⟩ := shownAll_mem ht
    exact (h x hx).4
  rw [PyData.shown]
  rw [shownAll_len] at h4
  have h5 : xs.length * (n + 2) ≤ w * (n + 2) := Nat.mul_le_mul_right _ hl
  omega
theorem Shw.int {i : Int} (h : -1000000000000000000000000 ≤ i ∧ i ≤ 1000000000000000000000000) : Shw 0 26 (.int i) := by
  have key : i.natAbs.log2 < 1920 := by
    have h1 : i.natAbs < 2 ^ 81 := by omega
    have h2 : i.natAbs.log2 < 81 := by
      by_cases h0 : i.natAbs = 0
      · rw [h0]; decide
      · exact (Nat.log2_lt h0).mpr h1
    omega
  refine ⟨by simp [PyData.showable, key], by simp [PyData.hasDict], by simp [PyData.depth], ?_⟩
  rw [PyData.shown]
  have h1 := int_text_length_le10 (a := i) (k := 25) (by decide) (by omega)
  show (Str.ofString (toString i)).length ≤ 26
  rw [ofString_length]
  omega
theorem Shw.none : Shw 0 26 .none := ⟨by simp [PyData.showable], by simp [PyData.hasDict], by simp [PyData.depth], by rw [PyData.shown]; decide⟩
theorem Shw.bool {b : Bool} : Shw 0 26 (.bool b) := ⟨by simp [PyData.showable], by simp [PyData.hasDict], by simp [PyData.depth], by rw [PyData.shown]; cases b <;> decide⟩
theorem Shw.od {o : Option Int} (h : bdO 1000000000000000000000000 o) : Shw 0 26 (od o) := by
  cases o with
  | none => exact .none
  | some i => exact .int (h i rfl)
theorem Shw.vec {c : Nat} {v : Nat → Option Int} (hc : c ≤ 8) (h : ∀ j, j < c → bdO 1000000000000000000000000 (v j)) : Shw 1 227 (dVec c v) :=
  (Shw.tup (w := 8) (by simpa using hc) (fun x hx => by
    obtain ⟨j, hj, rfl⟩ := List.mem_map.mp hx
    exact Shw.od (h j (List.mem_range.mp hj)))).up (by decide) (by decide)
theorem Shw.mat {r c : Nat} {f : Nat → Nat → Option Int} (hr : r ≤ 8) (hc : c ≤ 8) (h : ∀ i j, i < r → j < c → bdO 1000000000000000000000000 (f i j)) : Shw 2 1835 (dMat r c f) :=
  (Shw.tup (w := 8) (by simpa using hr) (fun x hx => by
    obtain ⟨i, hi, rfl⟩ := List.mem_map.mp hx
    exact Shw.vec hc fun j hj => h i j (List.mem_range.mp hi) hj)).up (by decide) (by decide)
theorem snoc_fn {α : Type} {j : Nat} {mk : α → D} (f : Nat → α) (v : α) : ∃ f' : Nat → α, (List.range j).map (fun i => mk (f i)) ++ [mk v] = (List.range (j + 1)).map (fun i => mk (f' i)) ∧ (∀ i, i < j → f' i = f i) ∧ f' j = v := by
  refine ⟨fun i => if i < j then f i else v, ?_, fun i hi => if_pos hi, if_neg (by omega)⟩
  rw [range_snoc]
  simp only [Nat.lt_irrefl, if_false]
  congr 1
  exact List.map_congr_left fun i hi => by rw [if_pos (List.mem_range.mp hi)]
/-! ### a local list on top of the store -/
structure Loc (st s : Store) (c : Cell) : Prop where
  len : s.length = st.length + 1
  top : s[st.length]? = some c
  off : ∀ i, i ≠ 0 → i < st.length → s[i]? = st[i]?
  pot : Pot s
theorem Loc.new {st st1 : Store} {c : Cell} (h : Same st st1) : Loc st (st1 ++ [c]) c :=
  ⟨by simp [h.len], by rw [← h.len]; simp, fun i hi hk => by rw [List.getElem?_append_left (by rw [h.len]; exact hk), h.off i hi], pot_app h.pot⟩
theorem Loc.same {st s s2 : Store} {c : Cell} (h : Loc st s c) (h0 : 1 ≤ st.length) (k : Same s s2) : Loc st s2 c :=
  ⟨k.len.trans h.len, (k.off _ (by omega)).trans h.top, fun i hi hk => (k.off i hi).trans (h.off i hi hk), k.pot⟩
theorem Loc.set {st s : Store} {c d : Cell} (h : Loc st s c) (h0 : 1 ≤ st.length) : Loc st (s.set st.length d) d :=
  ⟨by rw [List.length_set]; exact h.len, by rw [List.getElem?_set_self (by rw [h.len]; omega)], fun i hi hk => by rw [List.getElem?_set_ne (by omega)]; exact h.off i hi hk, pot_set h.pot (by omega)⟩
theorem Loc.drop {st s : Store} {c : Cell} (h : Loc st s c) (h0 : 1 ≤ st.length) : Same st (s.take st.length) :=
  same_take h.pot (by rw [h.len]; omega) h0 h.off
section
variable {C : Str → Option D} {wf : Nat} {Γ : Calls}
/-- for x in ..: xs.append(e) -/
theorem app_loop {st : Store} (h0 : 1 ≤ st.length) {tg : List Nat} {fl : Bool} {i : Nat} {elt : E} {K : Slots → Prop} {J : Nat → List D → Prop} (hi : ∀ ρ, K ρ → ρ[i]? = some (some (.c st.length))) :
    ∀ {xs : List D} {ρ : Slots} {s : Store} {ys : List D} {b : Nat}, K ρ → J b ys → Loc st s ⟨false, ys⟩ → ys.length + xs.length ≤ 1000000 →
    (∀ (j : Nat) (x : D) (ρ : Slots) (s : Store) (ys : List D), xs[j]? = some x → K ρ → J (b + j) ys → Loc st s ⟨false, ys⟩ → ∃ ρ1 w s1 y s2, bindD ρ tg fl x = some ρ1 ∧ K ρ1 ∧ ev Γ C elt ρ1 s = some (w, s1) ∧ fix s1 w = some (y, s2) ∧ J (b + j + 1) (ys ++ [y]) ∧ Loc st s2 ⟨false, ys⟩) →
    ∃ ρ' ys' s', loopF (fun x ρ st => (bindD ρ tg fl x).bind fun ρ' => evSs Γ C wf (.cons (.exp (.me .append i (.cons elt .nil))) .nil) ρ' st) xs ρ s = some (.nx ρ' s') ∧ K ρ' ∧ J (b + xs.length) ys' ∧ Loc st s' ⟨false, ys'⟩
  | [], ρ, s, ys, b, hK, hJ, hs, _, _ => ⟨ρ, ys, s, rfl, hK, hJ, hs⟩
  | x :: xs, ρ, s, ys, b, hK, hJ, hs, hl, hb => by
    obtain ⟨ρ1, w, s1, y, s2, e1, k1, e2, e3, j1, l2⟩ := hb 0 x ρ s ys rfl hK hJ hs
    have e4 : evSs Γ C wf (.cons (.exp (.me .append i (.cons elt .nil))) .nil) ρ1 s = some (.nx ρ1 (s2.set st.length ⟨false, ys ++ [y]⟩)) := by
      rw [evSs_cons, app_c (hi ρ1 k1) e2 e3 l2.top (by rw [szl]; omega), Option.bind_some, behind_nx, evSs_nil]
    obtain ⟨ρ', ys', s', e5, k2, j2, l3⟩ := app_loop h0 hi (xs := xs) (ρ := ρ1) (s := s2.set st.length ⟨false, ys ++ [y]⟩) (ys := ys ++ [y]) (b := b + 1) k1 j1 (l2.set h0) (by simp at hl ⊢; omega) (fun j x ρ s ys hj hK hJ hs => by
      have z : b + 1 + j = b + (j + 1) := by omega
      rw [z] at hJ ⊢
      exact hb (j + 1) x ρ s ys (by simpa using hj) hK hJ hs)
    refine ⟨ρ', ys', s', ?_, k2, ?_, l3⟩
    · rw [loopF, e1, Option.bind_some, e4]; exact e5
    · have : b + (x :: xs).length = b + 1 + xs.length := by simp; omega
      rw [this]; exact j2
end
end Z
/-! ZOrb: vectors driven by a square table, step by step and by powers. -/
set_option linter.all false
set_option autoImplicit false
set_option maxHeartbeats 4000000
set_option maxRecDepth 100000
namespace Z
open PySem
/-! ### algebra -/
theorem sup_then {k : Nat} {h : Nat → Option Int} {c : Option Int} : supR k (fun l => thenO (h l) c) = thenO (supR k h) c := by
  apply leO_eq
  intro z
  rw [le_sup, then_sup_l]
theorem step_none (a : Option Int) : stepO none a = a := by cases a <;> rfl
theorem sup_one {h : Nat → Option Int} : supR 1 h = h 0 := by
  show laterO [h 0] = h 0
  exact step_none _
def orF (s : Nat) (f : Nat → Nat → Option Int) (v : Nat → Option Int) : Nat → Nat → Option Int
  | 0 => v
  | k + 1 => apF s f (orF s f v k)
theorem ap_mul {k m : Nat} (f g : Nat → Nat → Option Int) (v : Nat → Option Int) (i : Nat) : apF m (mulF k f g) v i = apF k f (apF m g v) i := mul_assoc f g (fun l _ => v l) i 0
theorem ap_unit {s : Nat} (v : Nat → Option Int) {i : Nat} (hi : i < s) : apF s unitF v i = v i := unit_mul (fun l _ => v l) (j := 0) hi
theorem or_shift (s : Nat) (f : Nat → Nat → Option Int) (v : Nat → Option Int) : ∀ m, orF s f (apF s f v) m = orF s f v (m + 1)
  | 0 => rfl
  | m + 1 => by rw [orF, or_shift s f v m]; rfl
theorem ap_pw {s : Nat} (f : Nat → Nat → Option Int) : ∀ (m : Nat) (v : Nat → Option Int) (i : Nat), i < s → apF s (pwF s f m) v i = orF s f v m i
  | 0, v, i, hi => ap_unit v hi
  | m + 1, v, i, hi => by
    show apF s (mulF s (pwF s f m) f) v i = _
    rw [ap_mul, ap_pw f m (apF s f v) i hi, or_shift]
theorem or_bd {s : Nat} {f : Nat → Nat → Option Int} {v : Nat → Option Int} {N : Int} (hf : ∀ i j, i < s → j < s → bdO 99 (f i j)) (hv : ∀ i, i < s → bdO N (v i)) : ∀ (m i : Nat), i < s → bdO (m * 99 + N) (orF s f v m i)
  | 0, i, hi => bd_up (hv i hi) (by omega)
  | m + 1, i, hi => bd_up (ap_bd (M := 99) (N := m * 99 + N) (fun l hl => hf i l hi hl) (fun l hl => or_bd hf hv m l hl)) (by omega)
theorem or_congr {s : Nat} {f : Nat → Nat → Option Int} {v u : Nat → Option Int} (h : ∀ i, i < s → v i = u i) : ∀ (m i : Nat), i < s → orF s f v m i = orF s f u m i
  | 0, i, hi => h i hi
  | m + 1, i, hi => sup_congr fun l hl => by rw [or_congr h m l hl]
theorem or_by {s : Nat} (f : Nat → Nat → Option Int) (v : Nat → Option Int) (c : Option Int) : ∀ (m i : Nat), orF s f (fun i => thenO (v i) c) m i = thenO (orF s f v m i) c
  | 0, i => rfl
  | m + 1, i => by
    show supR s (fun l => thenO (f i l) (orF s f (fun i => thenO (v i) c) m l)) = thenO (supR s fun l => thenO (f i l) (orF s f v m l)) c
    rw [← sup_then]
    refine sup_congr fun l hl => ?_
    rw [or_by f v c m l, then_assoc]
theorem ap_jo {c : Nat} (f : Nat → Nat → Option Int) (u v : Nat → Option Int) (i : Nat) : apF c f (fun j => stepO (u j) (v j)) i = stepO (apF c f u i) (apF c f v i) := by
  apply leO_eq
  intro z
  show leO (supR c fun l => thenO (f i l) (stepO (u l) (v l))) z ↔ _
  rw [le_sup, le_step]
  show _ ↔ leO (supR c _) z ∧ leO (supR c _) z
  rw [le_sup, le_sup]
  constructor
  · intro a
    refine ⟨fun l hl => ?_, fun l hl => ?_⟩
    · have := a l hl
      rw [then_comm] at this
      rw [then_comm]
      exact (then_step_l.mp this).1
    · have := a l hl
      rw [then_comm] at this
      rw [then_comm]
      exact (then_step_l.mp this).2
  · intro a l hl
    rw [then_comm]
    refine then_step_l.mpr ⟨?_, ?_⟩
    · rw [then_comm]; exact a.1 l hl
    · rw [then_comm]; exact a.2 l hl
theorem or_jo {s : Nat} (f : Nat → Nat → Option Int) (u v : Nat → Option Int) : ∀ (m i : Nat), orF s f (fun j => stepO (u j) (v j)) m i = stepO (orF s f u m i) (orF s f v m i)
  | 0, i => rfl
  | m + 1, i => by
    show apF s f (orF s f (fun j => stepO (u j) (v j)) m) i = stepO (apF s f (orF s f u m) i) (apF s f (orF s f v m) i)
    rw [← ap_jo]
    exact sup_congr fun l hl => by rw [or_jo f u v m l]
/-! ### loops that append, the rest of the store as it is -/
section
variable {C : Str → Option D} {wf : Nat} {Γ : Calls}
theorem fix_top {st : Store} {x : D} {c : Cell} : fix (st ++ [c]) (.d x) = some (x, st ++ [c]) := rfl
theorem app_pure {st : Store} {tg : List Nat} {fl : Bool} {i : Nat} {elt : E} {K : Slots → Prop} {J : Nat → List D → Prop} (hi : ∀ ρ, K ρ → ρ[i]? = some (some (.c st.length))) :
    ∀ {xs : List D} {ρ : Slots} {ys : List D} {b : Nat}, K ρ → J b ys → ys.length + xs.length ≤ 1000000 →
    (∀ (j : Nat) (x : D) (ρ : Slots) (ys : List D), xs[j]? = some x → K ρ → J (b + j) ys → ∃ ρ1 w y, bindD ρ tg fl x = some ρ1 ∧ K ρ1 ∧ ev Γ C elt ρ1 (st ++ [⟨false, ys⟩]) = some (w, st ++ [⟨false, ys⟩]) ∧ fix (st ++ [⟨false, ys⟩]) w = some (y, st ++ [⟨false, ys⟩]) ∧ J (b + j + 1) (ys ++ [y])) →
    ∃ ρ' ys', loopF (fun x ρ st => (bindD ρ tg fl x).bind fun ρ' => evSs Γ C wf (.cons (.exp (.me .append i (.cons elt .nil))) .nil) ρ' st) xs ρ (st ++ [⟨false, ys⟩]) = some (.nx ρ' (st ++ [⟨false, ys'⟩])) ∧ K ρ' ∧ J (b + xs.length) ys'
  | [], ρ, ys, b, hK, hJ, _, _ => ⟨ρ, ys, rfl, hK, hJ⟩
  | x :: xs, ρ, ys, b, hK, hJ, hl, hb => by
    obtain ⟨ρ1, w, y, e1, k1, e2, e3, j1⟩ := hb 0 x ρ ys rfl hK hJ
    have e4 : evSs Γ C wf (.cons (.exp (.me .append i (.cons elt .nil))) .nil) ρ1 (st ++ [⟨false, ys⟩]) = some (.nx ρ1 (st ++ [⟨false, ys ++ [y]⟩])) := by
      rw [evSs_cons, app_c (hi ρ1 k1) e2 e3 get1 (by rw [szl]; omega), Option.bind_some, behind_nx, evSs_nil, set_at (t := []) rfl]
    obtain ⟨ρ', ys', e5, k2, j2⟩ := app_pure hi (xs := xs) (ρ := ρ1) (ys := ys ++ [y]) (b := b + 1) k1 j1 (by simp at hl ⊢; omega) (fun j x ρ ys hj hK hJ => by
      have z : b + 1 + j = b + (j + 1) := by omega
      rw [z] at hJ ⊢
      exact hb (j + 1) x ρ ys (by simpa using hj) hK hJ)
    refine ⟨ρ', ys', ?_, k2, ?_⟩
    · rw [loopF, e1, Option.bind_some, e4]; exact e5
    · have : b + (x :: xs).length = b + 1 + xs.length := by simp; omega
      rw [this]; exact j2
theorem enum_rng {N : Nat} {a : Nat → D} : enumD 0 ((List.range N).map a) = (List.range N).map fun l => .tuple [.int (l : Nat), a l] := by
  have gen : ∀ (xs : List D) (k : Nat), enumD k xs = (List.range xs.length).map fun l => .tuple [.int ((k + l : Nat) : Int), xs.getD l .none] := by
    intro xs
    induction xs with
    | nil => intro k; rfl
    | cons x xs ih =>
      intro k
      rw [enumD, ih, List.length_cons, List.range_succ_eq_map, List.map_cons, List.map_map]
      congr 1
      refine List.map_congr_left fun l _ => ?_
      simp only [Function.comp]
      rw [show k + 1 + l = k + (l + 1) by omega]
      rfl
  rw [gen, List.length_map, List.length_range]
  refine List.map_congr_left fun l hl => ?_
  have hl := List.mem_range.mp hl
  rw [Nat.zero_add]
  simp [hl]
theorem item_last {ys : List D} {y : D} : itemAt (ys ++ [y]) (-1) = some y := by
  have e : L2.ixN (ys ++ [y]).length (-1) = some ys.length := by
    have hl : (ys ++ [y]).length = ys.length + 1 := by simp
    unfold L2.ixN
    rw [if_neg (by decide), hl, if_pos (by omega)]
    congr 1
    omega
  unfold itemAt L2.atI
  rw [e, Option.bind_some, List.getElem?_append_right (Nat.le_refl _)]
  simp
theorem range_last {N : Nat} {h : Nat → D} : itemAt ((List.range (N + 1)).map h) (-1) = some (h N) := by rw [range_snoc, item_last]
end
/-! ### the defs -/
def F_unit_ofR : Fn := ⟨[false], 3,
  .cons (.ret (.bi .tuple (.cons (.lc [1] (.bi .tuple (.cons (.lc [2] (.ife (.cmp .eq (.var 2) (.var 1)) (.int 0) (.non)) [2] true (.rng (.cons (.var 0) (.nil))) (.nil)) (.nil))) [1] true (.rng (.cons (.var 0) (.nil))) (.nil)) (.nil)))) (.nil)⟩
abbrev prR : Ss := (.cons (.ifs (.cmp .eq (.bin .mod (.var 1) (.int 2)) (.int 1)) (.cons (.asg (.nm 2 false) (.call 26 (.cons (.var 3) (.cons (.var 2) (.nil))))) (.nil)) (.nil)) (.cons (.par [(3, false), (1, false)] (.cons (.call 26 (.cons (.var 3) (.cons (.var 3) (.nil)))) (.cons (.bin .fdiv (.var 1) (.int 2)) (.nil)))) (.nil)))
def F_power_ofR : Fn := ⟨[false, false], 4,
  .cons (.par [(2, false), (3, false)] (.cons (.call 34 (.cons (.len (.var 0)) (.nil))) (.cons (.var 0) (.nil)))) (.cons (.whl (.cmp .gt (.var 1) (.int 0)) prR) (.cons (.ret (.var 2)) (.nil)))⟩
def F_orbit_of : Fn := ⟨[false, false, false], 5,
  .cons (.asg (.nm 3 true) (.lst (.cons (.var 1) (.nil)))) (.cons (.fors [4] true (.rng (.cons (.var 2) (.nil))) (.cons (.exp (.me .append 3 (.cons (.call 20 (.cons (.var 0) (.cons (.idx (.var 3) (.neg (.int 1))) (.nil)))) (.nil)))) (.nil))) (.cons (.ret (.var 3)) (.nil)))⟩
def F_behind : Fn := ⟨[false, false, false], 3,
  .cons (.ret (.call 20 (.cons (.call 31 (.cons (.var 0) (.cons (.var 2) (.nil)))) (.cons (.var 1) (.nil))))) (.nil)⟩
def F_want_up_to : Fn := ⟨[false, false], 2,
  .cons (.ifs (.not (.call 3 (.cons (.var 0) (.cons (.int 0) (.cons (.var 1) (.nil)))))) (.cons (.never) (.nil)) (.nil)) (.nil)⟩
def F_orbit : Fn := ⟨[false, false, false], 3,
  .cons (.exp (.call 16 (.cons (.var 0) (.nil)))) (.cons (.exp (.call 62 (.cons (.var 0) (.cons (.var 1) (.nil))))) (.cons (.exp (.call 205 (.cons (.var 2) (.cons (.glo "MOST_ORBIT") (.nil))))) (.cons (.ret (.call 665 (.cons (.var 0) (.cons (.var 1) (.cons (.var 2) (.nil)))))) (.nil))))⟩
def F_times_behind : Fn := ⟨[false, false, false], 3,
  .cons (.exp (.call 16 (.cons (.var 0) (.nil)))) (.cons (.exp (.call 62 (.cons (.var 0) (.cons (.var 1) (.nil))))) (.cons (.exp (.call 205 (.cons (.var 2) (.cons (.glo "MOST_MANY") (.nil))))) (.cons (.ret (.call 40 (.cons (.var 0) (.cons (.var 1) (.cons (.var 2) (.nil)))))) (.nil))))⟩
/-- the defs that stage 4 is made of -/
structure RndAt (C : Str → Option D) (Fs : List (Nat × Fn)) : Prop where
  t : TabAt C Fs
  h8 : Fs.lookup 8 = some F_is_tuple
  hT : C "MOST_TIME" = some (.int 1000000000)
  h14 : Fs.lookup 14 = some F_is_vector_of
  h62 : Fs.lookup 62 = some F_want_vector
  h9 : Fs.lookup 9 = some F_then
  h11 : Fs.lookup 11 = some F_latest
  h20 : Fs.lookup 20 = some F_applied
  h21 : Fs.lookup 21 = some F_columns_of
  h26 : Fs.lookup 26 = some F_product
  h34 : Fs.lookup 34 = some F_unit_ofR
  h31 : Fs.lookup 31 = some F_power_ofR
  h13 : Fs.lookup 13 = some F_is_square_any
  h16 : Fs.lookup 16 = some (⟨[false], 1, .cons (.ifs (.not (.call 13 (.cons (.var 0) (.nil)))) (.cons (.never) (.nil)) (.nil)) (.nil)⟩ : Fn)
section
variable {C : Str → Option D} {wf n : Nat} {Fs : List (Nat × Fn)} {st : Store} {Γ : Calls} {ρ : Slots}
theorem unitR_ok (h : Fs.lookup 34 = some F_unit_ofR) {m : Nat} (hm : m ≤ 1000) : evCall C wf Fs (n + 1) 34 [.d (.int (m : Int))] st = some (.d (dMat m m unitF), st) := by
  refine call_rt h (ρ0 := [some (.d (.int (m : Int))), none, none]) (st0 := st) rfl rfl (st_rt (tuple_of (w := .f ((List.range m).map fun i => dVec m (unitF i))) ?_ rfl)) leave_same
  refine lc_rng (h := fun i => .int (i : Nat)) (st1 := st) ((rng_var (i := 0) rfl hm).trans (by rw [rng_map])) hm (fun i hi => ⟨[some (.d (.int (m : Int))), some (.d (.int (i : Nat))), none], .d (dVec m (unitF i)), rfl, tuple_of (w := .f ((List.range m).map fun j => od (unitF i j))) ?_ rfl, rfl⟩)
  refine lc_rng (h := fun i => .int (i : Nat)) (st1 := st) ((rng_var (i := 0) rfl hm).trans (by rw [rng_map])) hm (fun j hj => ?_)
  refine ⟨[some (.d (.int (m : Int))), some (.d (.int (i : Nat))), some (.d (.int (j : Nat)))], .d (od (unitF i j)), rfl, ?_, rfl⟩
  refine ife_b (k := decide ((j : Int) = (i : Int))) (cmp_dd (x := .int (j : Nat)) (y := .int (i : Nat)) (var_at rfl) (var_at rfl) rfl rfl cmpF_eqI) (fun z => ?_) (fun z => ?_)
  · have z := of_decide_eq_true z
    have z2 : i = j := by omega
    rw [ev_int, unitF, if_pos z2]; rfl
  · have z := of_decide_eq_false z
    have z2 : ¬ i = j := by omega
    rw [ev_non, unitF, if_neg z2]; rfl
theorem pr_step (q : RndAt C Fs) {s : Nat} {f : Nat → Nat → Option Int} (h1 : 1 ≤ s ∧ s ≤ 8) {m a b : Nat} {x0 : Option W} :
    evSs (evCall C wf Fs (n + 2)) C wf prR [x0, some (.d (.int (m : Int))), some (.d (dMat s s (pwF s f a))), some (.d (dMat s s (pwF s f b)))] st
      = some (.nx [x0, some (.d (.int ((m / 2 : Nat) : Int))), some (.d (dMat s s (pwF s f (a + b * (m % 2))))), some (.d (dMat s s (pwF s f (b + b))))] st) := by
  have md : ev (evCall C wf Fs (n + 2)) C (.bin .mod (.var 1) (.int 2)) [x0, some (.d (.int (m : Int))), some (.d (dMat s s (pwF s f a))), some (.d (dMat s s (pwF s f b)))] st = some (.d (.int ((m % 2 : Nat) : Int)), st) := bin_ii (var_at rfl) ev_int (by rw [binF_mod, if_pos (by decide)]; rfl)
  have tt : ev (evCall C wf Fs (n + 2)) C (.cmp .eq (.bin .mod (.var 1) (.int 2)) (.int 1)) [x0, some (.d (.int (m : Int))), some (.d (dMat s s (pwF s f a))), some (.d (dMat s s (pwF s f b)))] st = some (.d (.bool (decide (((m % 2 : Nat) : Int) = 1))), st) := cmp_dd md ev_int rfl rfl cmpF_eqI
  have hs1 : s ≤ 1000 := by omega
  have first : evS (evCall C wf Fs (n + 2)) C wf (.ifs (.cmp .eq (.bin .mod (.var 1) (.int 2)) (.int 1)) (.cons (.asg (.nm 2 false) (.call 26 (.cons (.var 3) (.cons (.var 2) (.nil))))) (.nil)) (.nil)) [x0, some (.d (.int (m : Int))), some (.d (dMat s s (pwF s f a))), some (.d (dMat s s (pwF s f b)))] st
      = some (.nx [x0, some (.d (.int (m : Int))), some (.d (dMat s s (pwF s f (a + b * (m % 2))))), some (.d (dMat s s (pwF s f b)))] st) := by
    rcases Nat.mod_two_eq_zero_or_one m with z | z
    · have q : decide (((m % 2 : Nat) : Int) = 1) = false := decide_eq_false (by omega)
      rw [q] at tt
      rw [if_no tt, z, Nat.mul_zero, Nat.add_zero]
    · have q2 : decide (((m % 2 : Nat) : Int) = 1) = true := decide_eq_true (by omega)
      rw [q2] at tt
      have e := product_ok (C := C) (wf := wf) (n := n) (st := st) (f := pwF s f b) (g := pwF s f a) q.h9 q.h11 q.h21 q.h26 hs1 h1 ⟨h1.1, hs1⟩
      rw [pw_mat (m := a + b) (Nat.add_comm b a)] at e
      rw [if_yes tt ((st_one (ρ' := [x0, some (.d (.int (m : Int))), some (.d (dMat s s (pwF s f (a + b)))), some (.d (dMat s s (pwF s f b)))]) (asg_d (call2 (var_at rfl) (var_at rfl) e))).trans evSs_nil), z, Nat.mul_one]
  refine (st_one first).trans ?_
  have e := product_ok (C := C) (wf := wf) (n := n) (st := st) (f := pwF s f b) (g := pwF s f b) q.h9 q.h11 q.h21 q.h26 hs1 h1 ⟨h1.1, hs1⟩
  rw [pw_mat (m := b + b) rfl] at e
  refine (st_one (ρ' := [x0, some (.d (.int ((m / 2 : Nat) : Int))), some (.d (dMat s s (pwF s f (a + b * (m % 2))))), some (.d (dMat s s (pwF s f (b + b))))]) (st' := st) ?_).trans evSs_nil
  rw [evS_par, evs_c (call2 (var_at rfl) (var_at rfl) e) (evs_c (bin_ii (k := ((m / 2 : Nat) : Int)) (var_at rfl) ev_int (by rw [binF_div, if_pos (by decide)]; rfl)) evs_nil)]; rfl
theorem pr_loop (q : RndAt C Fs) {s : Nat} {f : Nat → Nat → Option Int} (h1 : 1 ≤ s ∧ s ≤ 8) {x0 : Option W} :
    ∀ (k m a b x : Nat), m < 2 ^ k → ∃ y, loopW (poT (evCall C wf Fs (n + 2)) C) (fun ρ st => evSs (evCall C wf Fs (n + 2)) C wf prR ρ st) (k + 1 + x) [x0, some (.d (.int (m : Int))), some (.d (dMat s s (pwF s f a))), some (.d (dMat s s (pwF s f b)))] st
      = some (.nx [x0, some (.d (.int ((0 : Nat) : Int))), some (.d (dMat s s (pwF s f (a + b * m)))), y] st)
  | k, m, a, b, x, hm => by
    have e : k + 1 + x = (k + x) + 1 := by omega
    rw [e, loopW, po_test]
    by_cases h0 : 0 < m
    · simp only [Option.bind_some, decide_eq_true h0, if_true, pr_step q h1]
      cases k with
      | zero => simp at hm; omega
      | succ k =>
        obtain ⟨y, ih⟩ := pr_loop q h1 (x0 := x0) k (m / 2) (a + b * (m % 2)) (b + b) x (by rw [Nat.pow_succ] at hm; omega)
        refine ⟨y, ?_⟩
        rw [ih]
        have e3 : a + b * (m % 2) + (b + b) * (m / 2) = a + b * m := by
          have hd := Nat.div_add_mod m 2
          have : b * m = b * (2 * (m / 2) + m % 2) := by rw [hd]
          rw [this, Nat.mul_add, Nat.add_mul, Nat.two_mul, Nat.mul_add]
          omega
        rw [e3]
    · have z : m = 0 := by omega
      subst z
      refine ⟨some (.d (dMat s s (pwF s f b))), ?_⟩
      simp only [Option.bind_some, Nat.lt_irrefl, decide_false, Bool.false_eq_true, if_false, Nat.mul_zero, Nat.add_zero]
theorem powerR_ok (hw : 100 ≤ wf) (q : RndAt C Fs) {s : Nat} {f : Nat → Nat → Option Int} (h1 : 1 ≤ s ∧ s ≤ 8) {m : Nat} (hm : m < 2 ^ 60) :
    evCall C wf Fs (n + 3) 31 [.d (dMat s s f), .d (.int (m : Int))] st = some (.d (dMat s s (pwF s f m)), st) := by
  have hs1 : s ≤ 1000 := by omega
  have e1 : dMat s s f = dMat s s (pwF s f 1) := mat_congr fun i j hi hj => (pw_one f hi).symm
  have u := unitR_ok (C := C) (wf := wf) (n := n + 1) (st := st) q.h34 hs1
  obtain ⟨x, rfl⟩ : ∃ x, wf = 60 + 1 + x := ⟨wf - 61, by omega⟩
  obtain ⟨y, lp⟩ := pr_loop (C := C) (wf := 60 + 1 + x) (n := n) (Fs := Fs) (st := st) (f := f) q h1 (x0 := some (.d (dMat s s f))) 60 m 0 1 x hm
  rw [Nat.zero_add, Nat.one_mul] at lp
  refine call_rt q.h31 (ρ0 := [some (.d (dMat s s f)), some (.d (.int (m : Int))), none, none]) (st0 := st) rfl rfl (st' := st) (w := .d (dMat s s (pwF s f m))) ?_ leave_same
  refine (st_one (ρ' := [some (.d (dMat s s f)), some (.d (.int (m : Int))), some (.d (dMat s s (pwF s f 0))), some (.d (dMat s s (pwF s f 1)))]) (st' := st) ?_).trans ?_
  · rw [evS_par, evs_c (call1 (len_mat (var_at rfl)) u) (evs_c (w := .d (dMat s s (pwF s f 1))) (s1 := st) (by rw [← e1]; exact var_at rfl) evs_nil)]; rfl
  · refine (st_one (ρ' := [some (.d (dMat s s f)), some (.d (.int ((0 : Nat) : Int))), some (.d (dMat s s (pwF s f m))), y]) (st' := st) ?_).trans ?_
    · rw [evS]; exact lp
    · exact st_rt (var_at rfl)
theorem behind_ok (hw : 100 ≤ wf) (q : RndAt C Fs) (h : Fs.lookup 40 = some F_behind) {s : Nat} {f : Nat → Nat → Option Int} {v : Nat → Option Int} (h1 : 1 ≤ s ∧ s ≤ 8) {m : Nat} (hm : m < 2 ^ 60) :
    evCall C wf Fs (n + 4) 40 [.d (dMat s s f), .d (dVec s v), .d (.int (m : Int))] st = some (.d (dVec s (orF s f v m)), st) := by
  have e := applied_ok (C := C) (wf := wf) (n := n + 1) (st := st) (f := pwF s f m) (v := v) q.h9 q.h11 q.h20 (r := s) (c := s) (by omega) (by omega)
  rw [vec_congr fun i hi => ap_pw f m v i hi] at e
  exact call_rt h (ρ0 := [some (.d (dMat s s f)), some (.d (dVec s v)), some (.d (.int (m : Int)))]) (st0 := st) rfl rfl (st_rt (call2 (call2 (var_at rfl) (var_at rfl) (powerR_ok hw q h1 hm)) (var_at rfl) e)) leave_same
theorem up_to_ok (t : TabAt C Fs) (h : Fs.lookup 205 = some F_want_up_to) {m M : Nat} (hm : m ≤ M) : evCall C wf Fs (n + 3) 205 [.d (.int (m : Int)), .d (.int (M : Int))] st = some (.d .none, st) := by
  have iw := is_within_ok (C := C) (wf := wf) (n := n) (st := st) t.h2 t.h3 (.int (m : Int)) 0 (M : Int)
  have wt : within (.int (m : Int)) 0 (M : Int) = true := by
    simp only [within]
    rw [decide_eq_true (by omega), decide_eq_true (by omega)]; rfl
  rw [wt] at iw
  exact call_nx h (ρ0 := [some (.d (.int (m : Int))), some (.d (.int (M : Int)))]) (st0 := st) rfl rfl ((st_one (if_no (not_b (call3 (var_at rfl) ev_int (var_at rfl) iw)))).trans evSs_nil) leave_same
theorem times_behind_ok (hw : 100 ≤ wf) (q : RndAt C Fs) (hM : C "MOST_MANY" = some (.int 1000000000000000000)) (h205 : Fs.lookup 205 = some F_want_up_to) (h40 : Fs.lookup 40 = some F_behind) (h : Fs.lookup 196 = some F_times_behind) {s : Nat} {f : Nat → Nat → Option Int} {v : Nat → Option Int} (h1 : 1 ≤ s ∧ s ≤ 8)
    (hf : ∀ i j, i < s → j < s → bdO 99 (f i j)) (hv : ∀ i, i < s → bdO 1000000000 (v i)) {m : Nat} (hm : m ≤ 1000000000000000000) :
    evCall C wf Fs (n + 7) 196 [.d (dMat s s f), .d (dVec s v), .d (.int (m : Int))] st = some (.d (dVec s (orF s f v m)), st) := by
  have w1 := want_ok (n := n + 5) (st := st) q.h16 (square_ok (C := C) (wf := wf) (n := n) (st := st) q.t.h2 q.t.h3 q.t.h6 q.t.h7 q.t.hc q.t.hs q.h13 h1 hf)
  have w2 := vector_at (C := C) (wf := wf) (n := n + 2) (st := st) (r := s) (f := f) q.t q.h8 q.hT q.h14 q.h62 h1.1 (by omega) hv
  have w3 := up_to_ok (C := C) (wf := wf) (n := n + 3) (st := st) q.t h205 (m := m) (M := 1000000000000000000) hm
  refine call_rt h (ρ0 := [some (.d (dMat s s f)), some (.d (dVec s v)), some (.d (.int (m : Int)))]) (st0 := st) rfl rfl (st' := st) (w := .d (dVec s (orF s f v m))) ?_ leave_same
  refine (st_one (exp_one (call1 (var_at rfl) w1))).trans ?_
  refine (st_one (exp_one (call2 (var_at rfl) (var_at rfl) w2))).trans ?_
  refine (st_one (exp_one (call2 (var_at rfl) (glo_at hM) w3))).trans ?_
  exact st_rt (call3 (var_at rfl) (var_at rfl) (var_at rfl) (behind_ok (n := n + 2) hw q h40 h1 (by omega)))
theorem orbit_of_ok (q : RndAt C Fs) (h : Fs.lookup 665 = some F_orbit_of) {s : Nat} {f : Nat → Nat → Option Int} {v : Nat → Option Int} (hs : s ≤ 1000) {m : Nat} (hm : m ≤ 1000) :
    evCall C wf Fs (n + 3) 665 [.d (dMat s s f), .d (dVec s v), .d (.int (m : Int))] st = some (.f ((List.range (m + 1)).map fun k => dVec s (orF s f v k)), st) := by
  obtain ⟨ρ', ys, e, ⟨x4, rfl⟩, hy⟩ := app_pure (Γ := evCall C wf Fs (n + 2)) (C := C) (wf := wf) (st := st) (tg := [4]) (fl := true) (i := 3) (elt := .call 20 (.cons (.var 0) (.cons (.idx (.var 3) (.neg (.int 1))) (.nil))))
    (K := fun ρ => ∃ x4, ρ = [some (.d (dMat s s f)), some (.d (dVec s v)), some (.d (.int (m : Int))), some (.c st.length), x4]) (J := fun j ys => ys = (List.range (j + 1)).map fun k => dVec s (orF s f v k)) (fun ρ hρ => by obtain ⟨x4, rfl⟩ := hρ; rfl)
    (xs := rangeD 0 m) (ρ := [some (.d (dMat s s f)), some (.d (dVec s v)), some (.d (.int (m : Int))), some (.c st.length), none]) (ys := [dVec s v]) (b := 0) ⟨none, rfl⟩ rfl (by rw [range_len]; simp; omega) (fun j x ρ ys hj hK hJ => by
      obtain ⟨x4, rfl⟩ := hK
      subst hJ
      refine ⟨[some (.d (dMat s s f)), some (.d (dVec s v)), some (.d (.int (m : Int))), some (.c st.length), some (.d x)], .d (dVec s (orF s f v (0 + j + 1))), _, rfl, ⟨_, rfl⟩, ?_, rfl, ?_⟩
      · refine call2 (var_at rfl) (w2 := .d (dVec s (orF s f v (0 + j)))) ?_ (applied_ok (n := n) q.h9 q.h11 q.h20 hs hs)
        rw [ev_idx, var_at rfl, Option.bind_some, neg_at ev_int]
        simp only [Option.bind_some, rd_d, rd_c, get1, Option.map_some, idxF_L]
        rw [range_last]; rfl
      · rw [range_snoc (N := 0 + j + 1)])
  rw [range_len, Nat.zero_add] at hy
  subst hy
  refine call_rt h (ρ0 := [some (.d (dMat s s f)), some (.d (dVec s v)), some (.d (.int (m : Int))), none, none]) (st0 := st) rfl rfl (st' := st ++ [⟨false, (List.range (m + 1)).map fun k => dVec s (orF s f v k)⟩]) (w := .c st.length) ?_ ?_
  · rw [F_orbit_of]
    refine (st_one (ρ' := [some (.d (dMat s s f)), some (.d (dVec s v)), some (.d (.int (m : Int))), some (.c st.length), none]) (asg_mk (lst_ok (evD_c (var_at rfl) rfl evD_nil) (szk _ (by simp))))).trans ?_
    refine (st_one (ρ' := [some (.d (dMat s s f)), some (.d (dVec s v)), some (.d (.int (m : Int))), some (.c st.length), x4]) (st' := st ++ [⟨false, (List.range (m + 1)).map fun k => dVec s (orF s f v k)⟩]) ?_).trans (st_rt (var_at rfl))
    rw [evS, rng_var (k := m) rfl hm, Option.bind_some]
    exact e
  · rw [leave, if_neg (by omega), get1, Option.map_some]
    simp
theorem orbit_ok (q : RndAt C Fs) (hO : C "MOST_ORBIT" = some (.int 200)) (h205 : Fs.lookup 205 = some F_want_up_to) (h665 : Fs.lookup 665 = some F_orbit_of) (h : Fs.lookup 664 = some F_orbit) {s : Nat} {f : Nat → Nat → Option Int} {v : Nat → Option Int} (h1 : 1 ≤ s ∧ s ≤ 8)
    (hf : ∀ i j, i < s → j < s → bdO 99 (f i j)) (hv : ∀ i, i < s → bdO 1000000000 (v i)) {m : Nat} (hm : m ≤ 200) :
    evCall C wf Fs (n + 7) 664 [.d (dMat s s f), .d (dVec s v), .d (.int (m : Int))] st = some (.f ((List.range (m + 1)).map fun k => dVec s (orF s f v k)), st) := by
  have w1 := want_ok (n := n + 5) (st := st) q.h16 (square_ok (C := C) (wf := wf) (n := n) (st := st) q.t.h2 q.t.h3 q.t.h6 q.t.h7 q.t.hc q.t.hs q.h13 h1 hf)
  have w2 := vector_at (C := C) (wf := wf) (n := n + 2) (st := st) (r := s) (f := f) q.t q.h8 q.hT q.h14 q.h62 h1.1 (by omega) hv
  have w3 := up_to_ok (C := C) (wf := wf) (n := n + 3) (st := st) q.t h205 (m := m) (M := 200) hm
  refine call_rt h (ρ0 := [some (.d (dMat s s f)), some (.d (dVec s v)), some (.d (.int (m : Int)))]) (st0 := st) rfl rfl (st' := st) (w := .f ((List.range (m + 1)).map fun k => dVec s (orF s f v k))) ?_ (by rw [leave_f, List.take_length])
  refine (st_one (exp_one (call1 (var_at rfl) w1))).trans ?_
  refine (st_one (exp_one (call2 (var_at rfl) (var_at rfl) w2))).trans ?_
  refine (st_one (exp_one (call2 (var_at rfl) (glo_at hO) w3))).trans ?_
  exact st_rt (call3 (var_at rfl) (var_at rfl) (var_at rfl) (orbit_of_ok (n := n + 3) q h665 (by omega) (by omega)))
end
end Z
/-! ZRnd: squares and vectors that the laws of stage 4 draw; their own product. -/
set_option linter.all false
set_option autoImplicit false
set_option maxHeartbeats 4000000
set_option maxRecDepth 100000
namespace Z
open PySem
abbrev sqE : E := .ife (.cmp .eq (.call 0 (.cons (.var 0) (.cons (.int 3) (.nil)))) (.int 0)) (.non) (.bin .sub (.call 0 (.cons (.var 0) (.cons (.bin .add (.bin .mul (.int 2) (.var 2)) (.int 1)) (.nil)))) (.var 2))
def F_law_squareR : Fn := ⟨[true, false], 6,
  .cons (.asg (.nm 2 false) (.call 5 (.cons (.var 0) (.cons (.lst (.cons (.int 1) (.cons (.int 2) (.cons (.int 4) (.cons (.int 4) (.cons (.int 4) (.cons (.int 99) (.nil)))))))) (.nil))))) (.cons (.asg (.nm 3 true) (.lst (.nil))) (.cons (.fors [4] true (.rng (.cons (.var 1) (.nil))) (.cons (.exp (.me .append 3 (.cons (.bi .tuple (.cons (.lc [5] sqE [5] true (.rng (.cons (.var 1) (.nil))) (.nil)) (.nil))) (.nil)))) (.nil))) (.cons (.ret (.bi .tuple (.cons (.var 3) (.nil)))) (.nil))))⟩
abbrev vcE : E := .ife (.and (.cons (.not (.var 2)) (.cons (.cmp .eq (.call 0 (.cons (.var 0) (.cons (.int 4) (.nil)))) (.int 0)) (.nil)))) (.non) (.bin .sub (.call 0 (.cons (.var 0) (.cons (.int 19) (.nil)))) (.int 9))
def F_law_vectorR : Fn := ⟨[true, false, false], 4,
  .cons (.ret (.bi .tuple (.cons (.lc [3] vcE [3] true (.rng (.cons (.var 1) (.nil))) (.nil)) (.nil)))) (.nil)⟩
def F_law_appliedR : Fn := ⟨[false, false], 5,
  .cons (.ret (.bi .tuple (.cons (.lc [2] (.call 24 (.cons (.lc [3, 4] (.call 76 (.cons (.var 4) (.cons (.idx (.var 1) (.var 3)) (.nil)))) [3, 4] false (.enum (.var 2)) (.nil)) (.nil))) [2] true (.val (.var 0)) (.nil)) (.nil)))) (.nil)⟩
section
variable {C : Str → Option D} {wf n : Nat} {Fs : List (Nat × Fn)} {st : Store} {Γ : Calls} {ρ : Slots}
theorem and_no {a b : E} {s1 : Store} (h1 : ev Γ C a ρ st = some (.d (.bool false), s1)) : ev Γ C (.and (.cons a (.cons b .nil))) ρ st = some (.d (.bool false), s1) := by
  rw [ev_and, evA_cons, h1]; rfl
/-- a digit drawn -/
theorem dg {m : Int} (hd : Draws C wf Fs n 0) (h0 : ρ[0]? = some (some (.c 0))) {e : E} (he : ev (evCall C wf Fs n) C e ρ st = some (.d (.int m), st)) (hp : Pot st) (hm : 0 < m ∧ m < 1073741824) :
    ∃ r s', ev (evCall C wf Fs n) C (.call 0 (.cons (.var 0) (.cons e .nil))) ρ st = some (.d (.int r), s') ∧ 0 ≤ r ∧ r < m ∧ Same st s' := by
  obtain ⟨r, s', e1, r0, r1, h⟩ := hd st m hp hm
  exact ⟨r, s', call2 (var_at h0) he e1, r0, r1, h⟩
theorem sq_entry (hd : Draws C wf Fs n 0) {most : Int} (h1 : 1 ≤ most ∧ most ≤ 99) (h0 : ρ[0]? = some (some (.c 0))) (h2 : ρ[2]? = some (some (.d (.int most)))) (hp : Pot st) :
    ∃ o s', ev (evCall C wf Fs n) C sqE ρ st = some (.d (od o), s') ∧ bdO 99 o ∧ Same st s' := by
  obtain ⟨a, s1, e1, a0, a1, k1⟩ := dg (m := 3) hd h0 ev_int hp (by decide)
  by_cases hz : a = 0
  · exact ⟨none, s1, ife_b (k := true) (cmp_dd (x := .int a) (y := .int 0) e1 ev_int rfl rfl (by rw [cmpF_eqI, hz]; rfl)) (fun _ => ev_non) (fun h => nomatch h), bd_none, k1⟩
  · have mm : ev (evCall C wf Fs n) C (.bin .add (.bin .mul (.int 2) (.var 2)) (.int 1)) ρ s1 = some (.d (.int (2 * most + 1)), s1) := bin_ii (bin_ii ev_int (var_at h2) (mul_l (by decide))) ev_int rfl
    obtain ⟨b, s2, e2, b0, b1, k2⟩ := dg (m := 2 * most + 1) hd h0 mm k1.pot (by omega)
    refine ⟨some (b - most), s2, ife_b (k := false) (cmp_dd (x := .int a) (y := .int 0) e1 ev_int rfl rfl (by rw [cmpF_eqI, decide_eq_false hz])) (fun h => nomatch h) (fun _ => bin_ii e2 (var_at h2) rfl), fun v hv => ?_, k1.trans k2⟩
    cases hv
    omega
theorem squareR_ok (hd : ∀ m, Draws C wf Fs (m + 1) 0) (h5 : Fs.lookup 5 = some (pickF 0)) (h : Fs.lookup 27 = some F_law_squareR) (hp : Pot st) {s : Nat} (hs : s ≤ 1000) :
    ∃ f st', evCall C wf Fs (n + 3) 27 [.c 0, .d (.int (s : Int))] st = some (.d (dMat s s f), st') ∧ (∀ i j, i < s → j < s → bdO 99 (f i j)) ∧ Same st st' := by
  have hp1 := pot_len hp
  obtain ⟨x, s1, e1, hx, k1⟩ := pick_ev (C := C) (wf := wf) (Fs := Fs) (n := n) (i := 0) (ρ := [some (.c 0), some (.d (.int (s : Int))), none, none, none, none]) (st := st) (es := .cons (.int 1) (.cons (.int 2) (.cons (.int 4) (.cons (.int 4) (.cons (.int 4) (.cons (.int 99) (.nil)))))))
    (xs := [.int 1, .int 2, .int 4, .int 4, .int 4, .int 99]) (s1 := st) hd h5 rfl (evD_c ev_int rfl (evD_c ev_int rfl (evD_c ev_int rfl (evD_c ev_int rfl (evD_c ev_int rfl (evD_c ev_int rfl evD_nil)))))) (by simp) hp
  obtain ⟨most, rfl, hm⟩ : ∃ most : Int, x = .int most ∧ 1 ≤ most ∧ most ≤ 99 := by
    simp only [List.mem_cons, List.not_mem_nil, or_false] at hx
    rcases hx with rfl | rfl | rfl | rfl | rfl | rfl <;> exact ⟨_, rfl, by omega⟩
  obtain ⟨ρ', ys, s2, e2, ⟨x4, rfl⟩, ⟨f, hy, hf⟩, l2⟩ := app_loop (Γ := evCall C wf Fs (n + 2)) (C := C) (wf := wf) (st := st) hp1 (tg := [4]) (fl := true) (i := 3) (elt := .bi .tuple (.cons (.lc [5] sqE [5] true (.rng (.cons (.var 1) (.nil))) (.nil)) (.nil)))
    (K := fun ρ => ∃ x4, ρ = [some (.c 0), some (.d (.int (s : Int))), some (.d (.int most)), some (.c st.length), x4, none]) (J := fun j ys => ∃ f : Nat → Nat → Option Int, ys = ((List.range j).map fun i => dVec s (f i)) ∧ ∀ i k, i < j → k < s → bdO 99 (f i k)) (fun ρ hρ => by obtain ⟨x4, rfl⟩ := hρ; rfl)
    (xs := rangeD 0 s) (ρ := [some (.c 0), some (.d (.int (s : Int))), some (.d (.int most)), some (.c st.length), none, none]) (s := s1 ++ [⟨false, []⟩]) (ys := []) (b := 0) ⟨none, rfl⟩ ⟨fun _ _ => none, rfl, fun i k h => absurd h (by omega)⟩ (.new k1) (by rw [range_len]; simp; omega) (fun j x ρ s0 ys hj hK hJ hL => by
      obtain ⟨x4, rfl⟩ := hK
      obtain ⟨f, rfl, hf⟩ := hJ
      obtain ⟨e, s', c1, c2, c3⟩ := lc_pl (Γ := evCall C wf Fs (n + 2)) (C := C) (st := s0) (ρ := [some (.c 0), some (.d (.int (s : Int))), some (.d (.int most)), some (.c st.length), some (.d x), none]) (own := [5]) (tg := [5]) (fl := true) (elt := sqE) (it := .rng (.cons (.var 1) .nil)) (h := fun i => .int (i : Nat)) (st1 := s0)
        (R := fun _ y => ∃ o, y = od o ∧ bdO 99 o) (I := fun s => Same s0 s) ((rng_var (k := s) rfl hs).trans (by rw [rng_map])) hs (.refl hL.pot) (fun q hq s' hs' => by
          obtain ⟨o, s'', a1, a2, a3⟩ := sq_entry (C := C) (wf := wf) (Fs := Fs) (n := n + 2) (st := s') (ρ := [some (.c 0), some (.d (.int (s : Int))), some (.d (.int most)), some (.c st.length), some (.d x), some (.d (.int (q : Nat)))]) (hd (n + 1)) hm rfl rfl hs'.pot
          exact ⟨_, _, _, _, _, rfl, a1, rfl, ⟨o, rfl, a2⟩, hs'.trans a3⟩)
      obtain ⟨v, ev, hv⟩ := pick_fn (mk := od) (P := fun _ o => bdO 99 o) c2
      rw [ev] at c1
      obtain ⟨f', g1, g2, g3⟩ := snoc_fn (j := 0 + j) (mk := fun v => dVec s v) f v
      refine ⟨_, .d (dVec s v), s', dVec s v, s', rfl, ⟨_, rfl⟩, tuple_of c1 rfl, rfl, ⟨f', g1, fun i k hi hk => ?_⟩, hL.same hp1 c3⟩
      by_cases hj2 : i < 0 + j
      · rw [g2 i hj2]; exact hf i k hj2 hk
      · rw [show i = 0 + j by omega, g3]; exact hv k hk)
  rw [range_len, Nat.zero_add] at hy hf
  subst hy
  refine ⟨f, s2.take st.length, ?_, fun i j hi hj => hf i j hi hj, l2.drop hp1⟩
  refine call_rt h (ρ0 := [some (.c 0), some (.d (.int (s : Int))), none, none, none, none]) (st0 := st) rfl rfl (st' := s2) (w := .d (dMat s s f)) ?_ rfl
  rw [F_law_squareR]
  refine (st_one (asg_d e1)).trans ?_
  refine (st_one (ρ' := [some (.c 0), some (.d (.int (s : Int))), some (.d (.int most)), some (.c st.length), none, none]) (st' := s1 ++ [⟨false, []⟩]) ?_).trans ?_
  · rw [asg_mk (lst_ok evD_nil (szk _ (by simp))), k1.len]; rfl
  refine (st_one (ρ' := [some (.c 0), some (.d (.int (s : Int))), some (.d (.int most)), some (.c st.length), x4, none]) (st' := s2) ?_).trans ?_
  · rw [evS, rng_var (k := s) rfl hs, Option.bind_some]
    exact e2
  · exact st_rt (tuple_of (var_at rfl) (by rw [rd_c, l2.top]; rfl))
theorem vectorR_ok (hd : ∀ m, Draws C wf Fs (m + 1) 0) (h : Fs.lookup 69 = some F_law_vectorR) (hp : Pot st) {s : Nat} (hs : s ≤ 1000) {b : Bool} :
    ∃ v st', evCall C wf Fs (n + 2) 69 [.c 0, .d (.int (s : Int)), .d (.bool b)] st = some (.d (dVec s v), st') ∧ (∀ i, i < s → bdO 9 (v i) ∧ (b = true → v i ≠ none)) ∧ Same st st' := by
  obtain ⟨e, s', c1, c2, c3⟩ := lc_pl (Γ := evCall C wf Fs (n + 1)) (C := C) (st := st) (ρ := [some (.c 0), some (.d (.int (s : Int))), some (.d (.bool b)), none]) (own := [3]) (tg := [3]) (fl := true) (elt := vcE) (it := .rng (.cons (.var 1) .nil)) (h := fun i => .int (i : Nat)) (st1 := st)
    (R := fun _ y => ∃ o, y = od o ∧ (bdO 9 o ∧ (b = true → o ≠ none))) (I := fun s => Same st s) ((rng_var (k := s) rfl hs).trans (by rw [rng_map])) hs (.refl hp) (fun q hq s0 hs0 => by
      have last : ∀ {s1 : Store}, Same st s1 → ∃ (o : Option Int) (s2 : Store), ev (evCall C wf Fs (n + 1)) C (.bin .sub (.call 0 (.cons (.var 0) (.cons (.int 19) (.nil)))) (.int 9)) [some (.c 0), some (.d (.int (s : Int))), some (.d (.bool b)), some (.d (.int (q : Nat)))] s1 = some (.d (od o), s2) ∧ bdO 9 o ∧ o ≠ none ∧ Same st s2 := fun {s1} k => by
        obtain ⟨r, s2, e2, r0, r1, k2⟩ := dg (C := C) (wf := wf) (Fs := Fs) (n := n + 1) (m := 19) (ρ := [some (.c 0), some (.d (.int (s : Int))), some (.d (.bool b)), some (.d (.int (q : Nat)))]) (hd n) rfl ev_int k.pot (by decide)
        exact ⟨some (r - 9), s2, bin_ii e2 ev_int rfl, fun v hv => by cases hv; omega, fun h => (nomatch h), k.trans k2⟩
      cases b with
      | true =>
        obtain ⟨o, s2, a1, a2, a3, a4⟩ := last hs0
        exact ⟨[some (.c 0), some (.d (.int (s : Int))), some (.d (.bool true)), some (.d (.int (q : Nat)))], _, _, _, _, rfl, ife_b (k := false) (and_no (not_b (k := true) (var_at rfl))) (fun h => nomatch h) (fun _ => a1), rfl, ⟨o, rfl, a2, fun _ => a3⟩, a4⟩
      | false =>
        obtain ⟨r, s1, e1, r0, r1, k1⟩ := dg (C := C) (wf := wf) (Fs := Fs) (n := n + 1) (m := 4) (ρ := [some (.c 0), some (.d (.int (s : Int))), some (.d (.bool false)), some (.d (.int (q : Nat)))]) (hd n) rfl ev_int hs0.pot (by decide)
        have t := and_t (not_b (Γ := evCall C wf Fs (n + 1)) (C := C) (st := s0) (a := .var 2) (k := false) (ρ := [some (.c 0), some (.d (.int (s : Int))), some (.d (.bool false)), some (.d (.int (q : Nat)))]) (var_at rfl)) (cmp_dd (o := .eq) (x := .int r) (y := .int 0) e1 (ev_int (b := 0)) rfl rfl cmpF_eqI)
        by_cases hz : r = 0
        · rw [decide_eq_true hz] at t
          exact ⟨_, _, _, _, _, rfl, ife_b (k := true) t (fun _ => ev_non) (fun h => nomatch h), rfl, ⟨none, rfl, bd_none, fun h => nomatch h⟩, hs0.trans k1⟩
        · rw [decide_eq_false hz] at t
          obtain ⟨o, s2, a1, a2, a3, a4⟩ := last (hs0.trans k1)
          exact ⟨_, _, _, _, _, rfl, ife_b (k := false) t (fun h => nomatch h) (fun _ => a1), rfl, ⟨o, rfl, a2, fun _ => a3⟩, a4⟩)
  obtain ⟨v, ev, hv⟩ := pick_fn (mk := od) (P := fun _ o => bdO 9 o ∧ (b = true → o ≠ none)) c2
  rw [ev] at c1
  refine ⟨v, s', ?_, hv, c3⟩
  exact call_rt h (ρ0 := [some (.c 0), some (.d (.int (s : Int))), some (.d (.bool b)), none]) (st0 := st) rfl rfl (st' := s') (w := .d (dVec s v)) (st_rt (tuple_of c1 rfl)) (by rw [leave_d, take_all c3.len])
theorem late24 (h : Fs.lookup 24 = some F_latest) : LateAt (evCall C wf Fs (n + 1)) 24 := fun xs st hl => latest_ok h hl
theorem enum_at {i N : Nat} {a : Nat → D} (h1 : ρ[i]? = some (some (.d (.tuple ((List.range N).map a))))) : evI Γ C (.enum (.var i)) ρ st = some ((List.range N).map fun l => .tuple [.int (l : Nat), a l], st) := by
  rw [evI_enum, var_at h1]
  simp only [Option.bind_some, fix_d, enumK_T, Option.map_some, enum_rng]
theorem appliedR_ok (h76 : Fs.lookup 76 = some F_then) (h24 : Fs.lookup 24 = some F_latest) (h : Fs.lookup 48 = some F_law_appliedR) {r c : Nat} {f : Nat → Nat → Option Int} {v : Nat → Option Int} (hr : r ≤ 1000) (hc : c ≤ 1000) :
    evCall C wf Fs (n + 2) 48 [.d (dMat r c f), .d (dVec c v)] st = some (.d (dVec r (apF c f v)), st) := by
  refine call_rt h (ρ0 := [some (.d (dMat r c f)), some (.d (dVec c v)), none, none, none]) (st0 := st) rfl rfl (st_rt ?_) leave_same
  refine tuple_of (w := .f ((List.range r).map fun i => od (apF c f v i))) (lc_rng (h := fun i => dVec c (f i)) (st1 := st) (walk_d (var_at rfl) itemsOf_mat) hr (fun i hi => ?_)) rfl
  have c2 := lc_rng (Γ := evCall C wf Fs (n + 1)) (C := C) (ρ := [some (.d (dMat r c f)), some (.d (dVec c v)), some (.d (dVec c (f i))), none, none]) (st := st) (own := [3, 4]) (tg := [3, 4]) (fl := false) (N := c) (h := fun l => .tuple [.int (l : Nat), od (f i l)]) (e := fun l => od (thenO (f i l) (v l))) (it := .enum (.var 2)) (elt := .call 76 (.cons (.var 4) (.cons (.idx (.var 1) (.var 3)) (.nil))))
    (st1 := st) (enum_at (N := c) (a := fun l => od (f i l)) rfl) hc (fun l hl => ⟨[some (.d (dMat r c f)), some (.d (dVec c v)), some (.d (dVec c (f i))), some (.d (.int (l : Nat))), some (.d (od (f i l)))], _, rfl, call2 (var_at rfl) (idx_T (i := l) (xs := (List.range c).map fun l => od (v l)) (var_at rfl) (var_at rfl) (by simp [hl])) (then_ok h76 _ _), rfl⟩)
  have e2 : ((List.range c).map fun l => od (thenO (f i l) (v l))) = ((List.range c).map fun l => thenO (f i l) (v l)).map od := by rw [List.map_map]; rfl
  rw [e2] at c2
  exact ⟨[some (.d (dMat r c f)), some (.d (dVec c v)), some (.d (dVec c (f i))), none, none], _, rfl, call1 c2 (late24 h24 _ _ (by simpa using hc)), rfl⟩
end
end Z
/-! ZCk: small steps: calls by names, displays, what is shown of lists that change. -/
set_option linter.all false
set_option autoImplicit false
set_option maxHeartbeats 4000000
set_option maxRecDepth 100000
namespace Z
open PySem
section
variable {C : Str → Option D} {wf n : Nat} {Fs : List (Nat × Fn)} {st : Store} {Γ : Calls} {ρ : Slots}
theorem callk_of {f np : Nat} {ks : List Str} {perm : List Nat} {es : Es} {ds : List D} {s1 : Store} {o : Option (W × Store)} (h : evD Γ C es ρ st = some (ds, s1)) (h2 : Γ f (perm.filterMap fun i => (ds[i]?).map W.d) s1 = o) : ev Γ C (.callk f np ks perm es) ρ st = o := by
  rw [ev_callk, h]
  exact h2
theorem lst1 {a : E} {x : D} {w : W} {s1 s2 : Store} (h1 : ev Γ C a ρ st = some (w, s1)) (k1 : fix s1 w = some (x, s2)) : ev Γ C (.lst (.cons a .nil)) ρ st = some (.f [x], s2) :=
  lst_ok (evD_c h1 k1 evD_nil) (szk _ (by simp))
theorem lst2 {a b : E} {x y : D} {s1 s2 : Store} (h1 : ev Γ C a ρ st = some (.d x, s1)) (h2 : ev Γ C b ρ s1 = some (.d y, s2)) : ev Γ C (.lst (.cons a (.cons b .nil))) ρ st = some (.f [x, y], s2) :=
  lst_ok (evD_c h1 rfl (evD_c h2 rfl evD_nil)) (szk _ (by simp))
theorem lst3 {a b c : E} {x y z : D} {s1 s2 s3 : Store} (h1 : ev Γ C a ρ st = some (.d x, s1)) (h2 : ev Γ C b ρ s1 = some (.d y, s2)) (h3 : ev Γ C c ρ s2 = some (.d z, s3)) : ev Γ C (.lst (.cons a (.cons b (.cons c .nil)))) ρ st = some (.f [x, y, z], s3) :=
  lst_ok (evD_c h1 rfl (evD_c h2 rfl (evD_c h3 rfl evD_nil))) (szk _ (by simp))
theorem tup1 {a : E} {x : D} {s1 : Store} (h1 : ev Γ C a ρ st = some (.d x, s1)) : ev Γ C (.tup (.cons a .nil)) ρ st = some (.d (.tuple [x]), s1) :=
  tup_ok (evD_c h1 rfl evD_nil) (szk _ (by simp))
theorem rpx_at {a : E} {w : W} {x : D} {s1 : Store} (h : ev Γ C a ρ st = some (w, s1)) (hr : rdx s1 w = some x) (hx : reprOk x = true) (hd : isD0 x = false) : ev Γ C (.rpx a) ρ st = some (.d (.str x.shown), s1) := by
  rw [ev_rpx, h, Option.bind_some, hr, Option.bind_some, if_pos ⟨hx, hd⟩]
theorem rpl_at {es : Es} {ws : List W} {xs : List D} {s1 : Store} (h : evs Γ C es ρ st = some (ws, s1)) (hr : rdxs s1 ws = some xs) (hx : reprOk (.list xs) = true) (hl : xs.length ≤ 1000) : ev Γ C (.rpl es) ρ st = some (.d (.str (PyData.shown (.list xs))), s1) := by
  rw [ev_rpl, h, Option.bind_some, hr, Option.bind_some, if_pos ⟨hx, szk _ hl⟩]
theorem idx_c {a b : E} {j i : Nat} {c : Cell} {y : D} {s1 s2 : Store} (h1 : ev Γ C a ρ st = some (.c j, s1)) (h2 : ev Γ C b ρ s1 = some (.d (.int (i : Int)), s2)) (hc : s2[j]? = some c) (h : c.xs[i]? = some y) : ev Γ C (.idx a b) ρ st = some (.d y, s2) := by
  rw [ev_idx, h1, Option.bind_some, h2]
  simp only [Option.bind_some, rd_d, rd_c, hc, Option.map_some, idxF_L]
  unfold itemAt
  rw [L2.atI_nat h]; rfl
theorem idx_last {a b : E} {xs : List D} {y : D} {w : W} {s1 s2 : Store} (h1 : ev Γ C a ρ st = some (w, s1)) (h2 : ev Γ C b ρ s1 = some (.d (.int (-1)), s2)) (hw : rd s2 w = some (.list xs)) (h : itemAt xs (-1) = some y) : ev Γ C (.idx a b) ρ st = some (.d y, s2) := by
  rw [ev_idx, h1, Option.bind_some, h2]
  simp only [Option.bind_some, rd_d]
  cases w with
  | s ns => cases hw
  | _ => simp only [hw, Option.bind_some, idxF_L, h, Option.map_some]
theorem eq_vec {c : Nat} {u v : Nat → Option Int} {a b : E} {s1 s2 : Store} (h1 : ev Γ C a ρ st = some (.d (dVec c u), s1)) (h2 : ev Γ C b ρ s1 = some (.d (dVec c v), s2)) (h : ∀ i, i < c → u i = v i) : ev Γ C (.cmp .eq a b) ρ st = some (.d (.bool true), s2) := by
  rw [vec_congr h] at h1
  exact cmp_dd h1 h2 rfl rfl vec_eq
theorem vec_ne {c : Nat} {v : Nat → Option Int} : cmpF .ne (dVec c v) (dVec c v) = some false := by
  rw [neB _ _ vec_shaped vec_shaped (fun _ e => nomatch e), SeqAt.eqv_refl _ (SeqAt.canLay_of_shaped vec_shaped)]; rfl
theorem ne_vec {c : Nat} {u v : Nat → Option Int} {a b : E} {s1 s2 : Store} (h1 : ev Γ C a ρ st = some (.d (dVec c u), s1)) (h2 : ev Γ C b ρ s1 = some (.d (dVec c v), s2)) (h : ∀ i, i < c → u i = v i) : ev Γ C (.cmp .ne a b) ρ st = some (.d (.bool false), s2) := by
  rw [vec_congr h] at h1
  exact cmp_dd h1 h2 rfl rfl vec_ne
theorem eq_mat {r c : Nat} {f g : Nat → Nat → Option Int} {a b : E} {s1 s2 : Store} (h1 : ev Γ C a ρ st = some (.d (dMat r c f), s1)) (h2 : ev Γ C b ρ s1 = some (.d (dMat r c g), s2)) (h : ∀ i j, i < r → j < c → f i j = g i j) : ev Γ C (.cmp .eq a b) ρ st = some (.d (.bool true), s2) := by
  rw [mat_congr h] at h1
  exact cmp_dd h1 h2 rfl rfl mat_eq
theorem ne_mat {r c : Nat} {f g : Nat → Nat → Option Int} {a b : E} {s1 s2 : Store} (h1 : ev Γ C a ρ st = some (.d (dMat r c f), s1)) (h2 : ev Γ C b ρ s1 = some (.d (dMat r c g), s2)) (h : ∀ i j, i < r → j < c → f i j = g i j) : ev Γ C (.cmp .ne a b) ρ st = some (.d (.bool false), s2) := by
  rw [mat_congr h] at h1
  exact cmp_dd h1 h2 rfl rfl mat_ne
theorem zip_ev {N : Nat} {a b : Nat → D} {x y : E} {s1 s2 : Store} (h1 : ev Γ C x ρ st = some (.d (.tuple ((List.range N).map a)), s1)) (h2 : ev Γ C y ρ s1 = some (.d (.tuple ((List.range N).map b)), s2)) : evI Γ C (.zip x y) ρ st = some ((List.range N).map fun l => .tuple [a l, b l], s2) := by
  rw [evI_zip, h1]
  simp only [Option.bind_some, fix_d]
  rw [h2]
  simp only [Option.bind_some, fix_d]
  show Option.map _ (some (zipD ((List.range N).map a) ((List.range N).map b))) = _
  rw [zip_rng]; rfl
theorem div_any {i j : Int} (h : 0 < j ∧ j < 4611686018427387904) : binF .fdiv (.int i) (.int j) = some (.d (.int (i / j))) := by
  rw [binF_div]
  by_cases k : j < 1073741824
  · rw [if_pos ⟨h.1, k⟩]
  · have hw : j.natAbs < wideB := Nat.lt_of_lt_of_le (show j.natAbs < 2 ^ 63 by omega) (Nat.pow_le_pow_right (by decide) (by decide))
    rw [if_neg (fun z => k z.2), if_pos ⟨h.1, hw⟩]
theorem bi_min2 {a b : E} {i j : Int} {s1 s2 : Store} (h1 : ev Γ C a ρ st = some (.d (.int i), s1)) (h2 : ev Γ C b ρ s1 = some (.d (.int j), s2)) : ev Γ C (.bi .min (.cons a (.cons b .nil))) ρ st = some (.d (.int (if j < i then j else i)), s2) := by
  rw [ev_bi, evs_c h1 (evs_c h2 evs_nil), Option.bind_some]
  simp only [rds_cons, rd_d, rds_nil, Option.bind_some, Option.map_some, biF_min2]
theorem bi_max2 {a b : E} {i j : Int} {s1 s2 : Store} (h1 : ev Γ C a ρ st = some (.d (.int i), s1)) (h2 : ev Γ C b ρ s1 = some (.d (.int j), s2)) : ev Γ C (.bi .max (.cons a (.cons b .nil))) ρ st = some (.d (.int (if j > i then j else i)), s2) := by
  rw [ev_bi, evs_c h1 (evs_c h2 evs_nil), Option.bind_some]
  simp only [rds_cons, rd_d, rds_nil, Option.bind_some, Option.map_some, biF_max2]
theorem call_end {F : Fn} {f : Nat} {ws ws' : List W} {ρ0 : Slots} {st0 : Store} {x : D} (h : Fs.lookup f = some F) (he : enter F.cps ws [] = some (ws', st0)) (hρ : ws'.map some ++ List.replicate (F.ns - ws'.length) none = ρ0) (hb : ∃ st', evSs (evCall C wf Fs n) C wf F.body ρ0 st0 = some (.rt (.d x) st')) :
    evCall C wf Fs (n + 1) f ws [] = some (.d x, []) := by
  obtain ⟨st', hb⟩ := hb
  exact call_rt h he hρ hb (by rw [leave_d]; rfl)
theorem ex_one {s : S} {r : Ss} {w : W} {ρ' : Slots} {st' : Store} (h : evS Γ C wf s ρ st = some (.nx ρ' st')) (k : ∃ t, evSs Γ C wf r ρ' st' = some (.rt w t)) : ∃ t, evSs Γ C wf (.cons s r) ρ st = some (.rt w t) := by
  obtain ⟨t, k⟩ := k
  exact ⟨t, (st_one h).trans k⟩
theorem ex_rt {e : E} {r : Ss} {w : W} {st' : Store} (h : ev Γ C e ρ st = some (w, st')) : ∃ t, evSs Γ C wf (.cons (.ret e) r) ρ st = some (.rt w t) := ⟨st', st_rt h⟩
theorem par_n {ts : List (Nat × Bool)} {es : Es} {ws : List W} {s1 s2 : Store} {ρ' : Slots} (h : evs Γ C es ρ st = some (ws, s1)) (h2 : setWs ρ s1 ts ws = some (ρ', s2)) : evS Γ C wf (.par ts es) ρ st = some (.nx ρ' s2) := by
  rw [evS_par, h, Option.bind_some, h2]; rfl
theorem asg_l {e : E} {i : Nat} {m : Bool} {ns : List Nat} {st' : Store} (h : ev Γ C e ρ st = some (.l ns, st')) : evS Γ C wf (.asg (.nm i m) e) ρ st = some (.nx (ρ.set i (some (.l ns))) st') := by
  rw [evS_nm, h]; rfl
theorem lcs_ff {es : Es} {xs ys : List D} {s1 : Store} (h : evs Γ C es ρ st = some ([.f xs, .f ys], s1)) : ev Γ C (.lcs es) ρ st = some (.l [s1.length, s1.length + 1], s1 ++ [⟨false, xs⟩] ++ [⟨false, ys⟩]) := by
  rw [ev_lcs, h, Option.bind_some]
  simp only [cells_f, cells_nil, Option.map_some, Option.bind_some, List.length_append, List.length_cons, List.length_nil]
  rw [if_pos (szk _ (by simp))]
theorem idl_at {a b : E} {ns : List Nat} {i k : Nat} {s1 s2 : Store} (h1 : ev Γ C a ρ st = some (.l ns, s1)) (h2 : ev Γ C b ρ s1 = some (.d (.int (i : Int)), s2)) (h : ns[i]? = some k) : ev Γ C (.idl a b) ρ st = some (.c k, s2) := by
  rw [ev_idl, h1, Option.bind_some, h2]
  simp only [Option.bind_some, rd_d]
  rw [L2.atI_nat h]; rfl
theorem mex_app {a e : E} {j : Nat} {xs : List D} {x : D} {s1 s2 : Store} (h1 : ev Γ C a ρ st = some (.c j, s1)) (h2 : ev Γ C e ρ s1 = some (.d x, s2)) (hc : s2[j]? = some ⟨false, xs⟩) (hl : xs.length ≤ 1000000) : ev Γ C (.mex .append a (.cons e .nil)) ρ st = some (.d .none, s2.set j ⟨false, xs ++ [x]⟩) := by
  rw [ev_mex, h1]
  simp only [Option.bind_some, evs_cons, h2, evs_nil, Option.map_some]
  simp only [meF, fix_d, Option.bind_some, hc]
  rw [if_pos ⟨trivial, by rw [szl]; omega⟩]
end
end Z
/-! the defs of the text, in the small language (printed by gen.py) -/
namespace Z.L
open PySem Z
/-- 2: value -/
def F_is_integer : Fn := ⟨[false], 1,
  .cons (.ret (.and (.cons (.isi [.int] false (.var 0)) (.cons (.not (.isi [.bool] false (.var 0))) (.nil))))) (.nil)⟩
/-- 3: value, least, most -/
def F_is_within : Fn := ⟨[false, false, false], 3,
  .cons (.ret (.and (.cons (.call 2 (.cons (.var 0) (.nil))) (.cons (.chain .le .le (.var 1) (.var 0) (.var 2)) (.nil))))) (.nil)⟩
/-- 8: value, many -/
def F_is_tuple : Fn := ⟨[false, false], 2,
  .cons (.ret (.and (.cons (.isi [.tuple] false (.var 0)) (.cons (.cmp .eq (.len (.var 0)) (.var 1)) (.nil))))) (.nil)⟩
/-- 11: times, some, one -/
def F_latest : Fn := ⟨[false], 3,
  .cons (.asg (.nm 1 false) (.lc [2] (.var 2) [2] true (.val (.var 0)) (.cons (.cmp .isnotN (.var 2) (.non)) (.nil)))) (.cons (.ret (.ife (.cmp .ne (.var 1) (.lst (.nil))) (.bi .max (.cons (.var 1) (.nil))) (.non))) (.nil))⟩
/-- 9: one, other -/
def F_then : Fn := ⟨[false, false], 2,
  .cons (.ret (.ife (.or (.cons (.cmp .isN (.var 0) (.non)) (.cons (.cmp .isN (.var 1) (.non)) (.nil)))) (.non) (.bin .add (.var 0) (.var 1)))) (.nil)⟩
/-- 6: value -/
def F_is_entry : Fn := ⟨[false], 1,
  .cons (.ret (.or (.cons (.cmp .isN (.var 0) (.non)) (.cons (.call 3 (.cons (.var 0) (.cons (.neg (.glo "MOST_ENTRY")) (.cons (.glo "MOST_ENTRY") (.nil))))) (.nil))))) (.nil)⟩
/-- 7: value, row, one -/
def F_is_table_any : Fn := ⟨[false], 3,
  .cons (.ifs (.or (.cons (.not (.isi [.tuple] false (.var 0))) (.cons (.not (.chain .le .le (.int 1) (.len (.var 0)) (.glo "MOST_SIDE"))) (.nil)))) (.cons (.ret (.bl false)) (.nil)) (.nil)) (.cons (.ifs (.not (.bi .all (.cons (.lc [1] (.and (.cons (.isi [.tuple] false (.var 1)) (.cons (.chain .le .le (.int 1) (.len (.var 1)) (.glo "MOST_SIDE")) (.nil)))) [1] true (.val (.var 0)) (.nil)) (.nil)))) (.cons (.ret (.bl false)) (.nil)) (.nil)) (.cons (.ret (.bi .all (.cons (.lc [1] (.and (.cons (.cmp .eq (.len (.var 1)) (.len (.idx (.var 0) (.int 0)))) (.cons (.bi .all (.cons (.lc [2] (.call 6 (.cons (.var 2) (.nil))) [2] true (.val (.var 1)) (.nil)) (.nil))) (.nil)))) [1] true (.val (.var 0)) (.nil)) (.nil)))) (.nil)))⟩
/-- 13: value -/
def F_is_square_any : Fn := ⟨[false], 1,
  .cons (.ret (.and (.cons (.call 7 (.cons (.var 0) (.nil))) (.cons (.cmp .eq (.len (.var 0)) (.len (.idx (.var 0) (.int 0)))) (.nil))))) (.nil)⟩
/-- 14: many, value, one -/
def F_is_vector_of : Fn := ⟨[false, false], 3,
  .cons (.ret (.and (.cons (.call 8 (.cons (.var 1) (.cons (.var 0) (.nil)))) (.cons (.bi .all (.cons (.lc [2] (.or (.cons (.cmp .isN (.var 2) (.non)) (.cons (.call 3 (.cons (.var 2) (.cons (.neg (.glo "MOST_TIME")) (.cons (.glo "MOST_TIME") (.nil))))) (.nil)))) [2] true (.val (.var 1)) (.nil)) (.nil))) (.nil))))) (.nil)⟩
/-- 20: table, vector, row, one, other -/
def F_applied : Fn := ⟨[false, false], 5,
  .cons (.ret (.bi .tuple (.cons (.lc [2] (.call 11 (.cons (.lc [3, 4] (.call 9 (.cons (.var 3) (.cons (.var 4) (.nil)))) [3, 4] false (.zip (.var 2) (.var 1)) (.nil)) (.nil))) [2] true (.val (.var 0)) (.nil)) (.nil)))) (.nil)⟩
/-- 21: table -/
def F_columns_of : Fn := ⟨[false], 1,
  .cons (.ret (.tzs (.var 0))) (.nil)⟩
/-- 26: table, other, rows, row, column, one, late -/
def F_product : Fn := ⟨[false, false], 7,
  .cons (.asg (.nm 2 true) (.lst (.nil))) (.cons (.fors [3] true (.val (.var 0)) (.cons (.exp (.me .append 2 (.cons (.lc [4] (.call 11 (.cons (.lc [5, 6] (.call 9 (.cons (.var 5) (.cons (.var 6) (.nil)))) [5, 6] false (.zip (.var 3) (.var 4)) (.nil)) (.nil))) [4] true (.val (.call 21 (.cons (.var 1) (.nil)))) (.nil)) (.nil)))) (.nil))) (.cons (.ret (.bi .tuple (.cons (.lc [3] (.bi .tuple (.cons (.var 3) (.nil))) [3] true (.val (.var 2)) (.nil)) (.nil)))) (.nil)))⟩
/-- 16: square -/
def F_want_square : Fn := ⟨[false], 1,
  .cons (.ifs (.not (.call 13 (.cons (.var 0) (.nil)))) (.cons (.never) (.nil)) (.nil)) (.nil)⟩
/-- 62: table, vector -/
def F_want_vector : Fn := ⟨[false, false], 2,
  .cons (.ifs (.not (.call 14 (.cons (.len (.idx (.var 0) (.int 0))) (.cons (.var 1) (.nil))))) (.cons (.never) (.nil)) (.nil)) (.nil)⟩
/-- 34: many, near, far -/
def F_unit_of : Fn := ⟨[false], 3,
  .cons (.ret (.bi .tuple (.cons (.lc [1] (.bi .tuple (.cons (.lc [2] (.ife (.cmp .eq (.var 2) (.var 1)) (.int 0) (.non)) [2] true (.rng (.cons (.var 0) (.nil))) (.nil)) (.nil))) [1] true (.rng (.cons (.var 0) (.nil))) (.nil)) (.nil)))) (.nil)⟩
/-- 31: square, many, found, here -/
def F_power_of : Fn := ⟨[false, false], 4,
  .cons (.par [(2, false), (3, false)] (.cons (.call 34 (.cons (.len (.var 0)) (.nil))) (.cons (.var 0) (.nil)))) (.cons (.whl (.cmp .gt (.var 1) (.int 0)) (.cons (.ifs (.cmp .eq (.bin .mod (.var 1) (.int 2)) (.int 1)) (.cons (.asg (.nm 2 false) (.call 26 (.cons (.var 3) (.cons (.var 2) (.nil))))) (.nil)) (.nil)) (.cons (.par [(3, false), (1, false)] (.cons (.call 26 (.cons (.var 3) (.cons (.var 3) (.nil)))) (.cons (.bin .fdiv (.var 1) (.int 2)) (.nil)))) (.nil)))) (.cons (.ret (.var 2)) (.nil)))⟩
/-- 665: square, vector, many, found, turn -/
def F_orbit_of : Fn := ⟨[false, false, false], 5,
  .cons (.asg (.nm 3 true) (.lst (.cons (.var 1) (.nil)))) (.cons (.fors [4] true (.rng (.cons (.var 2) (.nil))) (.cons (.exp (.me .append 3 (.cons (.call 20 (.cons (.var 0) (.cons (.idx (.var 3) (.neg (.int 1))) (.nil)))) (.nil)))) (.nil))) (.cons (.ret (.var 3)) (.nil)))⟩
/-- 40: square, vector, many -/
def F_behind : Fn := ⟨[false, false, false], 3,
  .cons (.ret (.call 20 (.cons (.call 31 (.cons (.var 0) (.cons (.var 2) (.nil)))) (.cons (.var 1) (.nil))))) (.nil)⟩
/-- 205: many, most -/
def F_want_up_to : Fn := ⟨[false, false], 2,
  .cons (.ifs (.not (.call 3 (.cons (.var 0) (.cons (.int 0) (.cons (.var 1) (.nil)))))) (.cons (.never) (.nil)) (.nil)) (.nil)⟩
/-- 664: square, vector, many -/
def F_orbit : Fn := ⟨[false, false, false], 3,
  .cons (.exp (.call 16 (.cons (.var 0) (.nil)))) (.cons (.exp (.call 62 (.cons (.var 0) (.cons (.var 1) (.nil))))) (.cons (.exp (.call 205 (.cons (.var 2) (.cons (.glo "MOST_ORBIT") (.nil))))) (.cons (.ret (.call 665 (.cons (.var 0) (.cons (.var 1) (.cons (.var 2) (.nil)))))) (.nil))))⟩
/-- 196: square, vector, many -/
def F_times_behind : Fn := ⟨[false, false, false], 3,
  .cons (.exp (.call 16 (.cons (.var 0) (.nil)))) (.cons (.exp (.call 62 (.cons (.var 0) (.cons (.var 1) (.nil))))) (.cons (.exp (.call 205 (.cons (.var 2) (.cons (.glo "MOST_MANY") (.nil))))) (.cons (.ret (.call 40 (.cons (.var 0) (.cons (.var 1) (.cons (.var 2) (.nil)))))) (.nil))))⟩
/-- 1: script, k, cell -/
def F_law_pot : Fn := ⟨[false, false], 3,
  .cons (.asg (.nm 2 false) (.ife (.cmp .lt (.var 1) (.len (.var 0))) (.bi .abs (.cons (.idx (.var 0) (.var 1)) (.nil))) (.bin .add (.bin .mul (.int 3943) (.var 1)) (.int 2753)))) (.cons (.ret (.lst (.cons (.bi .max (.cons (.int 0) (.cons (.bin .sub (.var 2) (.bin .pow (.int 10) (.int 18))) (.nil)))) (.cons (.bin .add (.bin .mod (.bi .int (.cons (.bin .add (.bin .add (.bin .mul (.bin .mod (.bi .int (.cons (.var 2) (.nil))) (.int 2147483549)) (.int 40014)) (.bin .mul (.int 1933) (.var 1))) (.int 3547)) (.nil))) (.int 2147483563)) (.int 1)) (.nil))))) (.nil))⟩
/-- 0: pot, many, digit -/
def F_law_draw : Fn := ⟨[true, false], 3,
  .cons (.ifs (.cmp .gt (.idx (.var 0) (.int 0)) (.int 0)) (.cons (.asgT [.ix (.var 0) (.int 0), .nm 2 false] (.bi .divmod (.cons (.idx (.var 0) (.int 0)) (.cons (.var 1) (.nil))))) (.cons (.ret (.var 2)) (.nil))) (.nil)) (.cons (.asg (.ix (.var 0) (.int 1)) (.bin .mod (.bi .int (.cons (.bin .add (.bin .mul (.idx (.var 0) (.int 1)) (.int 40692)) (.int 5657)) (.nil))) (.int 2147483587))) (.cons (.ret (.bin .mod (.bi .int (.cons (.bin .fdiv (.bin .mod (.bi .int (.cons (.bin .mul (.idx (.var 0) (.int 1)) (.idx (.var 0) (.int 1))) (.nil))) (.int 2147483549)) (.int 17)) (.nil))) (.var 1))) (.nil)))⟩
/-- 5: pot, some -/
def F_law_pick : Fn := ⟨[true, false], 2,
  .cons (.ret (.idx (.var 1) (.call 0 (.cons (.var 0) (.cons (.len (.var 1)) (.nil)))))) (.nil)⟩
/-- 76: one, other -/
def F_law_then : Fn := ⟨[false, false], 2,
  .cons (.ret (.ife (.or (.cons (.cmp .isN (.var 0) (.non)) (.cons (.cmp .isN (.var 1) (.non)) (.nil)))) (.non) (.bin .add (.var 0) (.var 1)))) (.nil)⟩
/-- 24: times, some, one -/
def F_law_latest : Fn := ⟨[false], 3,
  .cons (.asg (.nm 1 false) (.lc [2] (.var 2) [2] true (.val (.var 0)) (.cons (.cmp .isnotN (.var 2) (.non)) (.nil)))) (.cons (.ret (.ife (.cmp .ne (.var 1) (.lst (.nil))) (.bi .max (.cons (.var 1) (.nil))) (.non))) (.nil))⟩
/-- 48: table, vector, row, at, entry -/
def F_law_applied : Fn := ⟨[false, false], 5,
  .cons (.ret (.bi .tuple (.cons (.lc [2] (.call 24 (.cons (.lc [3, 4] (.call 76 (.cons (.var 4) (.cons (.idx (.var 1) (.var 3)) (.nil)))) [3, 4] false (.enum (.var 2)) (.nil)) (.nil))) [2] true (.val (.var 0)) (.nil)) (.nil)))) (.nil)⟩
/-- 27: pot, many, most, rows, near, far -/
def F_law_square : Fn := ⟨[true, false], 6,
  .cons (.asg (.nm 2 false) (.call 5 (.cons (.var 0) (.cons (.lst (.cons (.int 1) (.cons (.int 2) (.cons (.int 4) (.cons (.int 4) (.cons (.int 4) (.cons (.int 99) (.nil)))))))) (.nil))))) (.cons (.asg (.nm 3 true) (.lst (.nil))) (.cons (.fors [4] true (.rng (.cons (.var 1) (.nil))) (.cons (.exp (.me .append 3 (.cons (.bi .tuple (.cons (.lc [5] (.ife (.cmp .eq (.call 0 (.cons (.var 0) (.cons (.int 3) (.nil)))) (.int 0)) (.non) (.bin .sub (.call 0 (.cons (.var 0) (.cons (.bin .add (.bin .mul (.int 2) (.var 2)) (.int 1)) (.nil)))) (.var 2))) [5] true (.rng (.cons (.var 1) (.nil))) (.nil)) (.nil))) (.nil)))) (.nil))) (.cons (.ret (.bi .tuple (.cons (.var 3) (.nil)))) (.nil))))⟩
/-- 69: pot, many, is_awake, place -/
def F_law_vector : Fn := ⟨[true, false, false], 4,
  .cons (.ret (.bi .tuple (.cons (.lc [3] (.ife (.and (.cons (.not (.var 2)) (.cons (.cmp .eq (.call 0 (.cons (.var 0) (.cons (.int 4) (.nil)))) (.int 0)) (.nil)))) (.non) (.bin .sub (.call 0 (.cons (.var 0) (.cons (.int 19) (.nil)))) (.int 9))) [3] true (.rng (.cons (.var 1) (.nil))) (.nil)) (.nil)))) (.nil)⟩
/-- 783: vector, by, one -/
def F_law_shifted : Fn := ⟨[false, false], 3,
  .cons (.ret (.bi .tuple (.cons (.lc [2] (.call 76 (.cons (.var 2) (.cons (.var 1) (.nil)))) [2] true (.val (.var 0)) (.nil)) (.nil)))) (.nil)⟩
/-- 492: pot, most, found, turn -/
def F_law_number : Fn := ⟨[true], 4,
  .cons (.asg (.nm 1 false) (.call 5 (.cons (.var 0) (.cons (.lst (.cons (.int 10) (.cons (.int 200) (.cons (.bin .pow (.int 10) (.int 6)) (.cons (.bin .pow (.int 10) (.int 18)) (.nil)))))) (.nil))))) (.cons (.asg (.nm 2 false) (.int 0)) (.cons (.fors [3] true (.rng (.cons (.int 6) (.nil))) (.cons (.asg (.nm 2 false) (.bin .add (.bin .mul (.var 2) (.int 1009)) (.call 0 (.cons (.var 0) (.cons (.int 1009) (.nil)))))) (.nil))) (.cons (.ret (.bin .sub (.var 2) (.bin .mul (.bin .fdiv (.var 2) (.bin .add (.var 1) (.int 1))) (.bin .add (.var 1) (.int 1))))) (.nil))))⟩
/-- 10: pot, many, due, turn, told, at, number, by, both, entry, square, vector, other, shown, far, near, late, one, two -/
def F_law_right : Fn := ⟨[true], 19,
  .cons (.asg (.nm 1 false) (.bin .add (.int 1) (.call 0 (.cons (.var 0) (.cons (.int 5) (.nil)))))) (.cons (.par [(10, false), (11, false), (12, false)] (.cons (.call 27 (.cons (.var 0) (.cons (.var 1) (.nil)))) (.cons (.call 69 (.cons (.var 0) (.cons (.var 1) (.cons (.bl false) (.nil))))) (.cons (.call 69 (.cons (.var 0) (.cons (.var 1) (.cons (.bl false) (.nil))))) (.nil))))) (.cons (.par [(13, false), (14, false)] (.cons (.bi .repr (.cons (.lst (.cons (.var 10) (.cons (.var 11) (.nil)))) (.nil))) (.cons (.call 0 (.cons (.var 0) (.cons (.int 201) (.nil)))) (.nil)))) (.cons (.asg (.nm 2 true) (.lst (.cons (.var 11) (.nil)))) (.cons (.fors [3] true (.rng (.cons (.var 14) (.nil))) (.cons (.exp (.me .append 2 (.cons (.call 48 (.cons (.var 10) (.cons (.idx (.var 2) (.neg (.int 1))) (.nil)))) (.nil)))) (.nil))) (.cons (.asg (.nm 4 false) (.lcs (.cons (.call 664 (.cons (.var 10) (.cons (.var 11) (.cons (.var 14) (.nil))))) (.cons (.callk 664 0 ["many", "vector", "square"] [2, 1, 0] (.cons (.var 14) (.cons (.var 11) (.cons (.var 10) (.nil))))) (.nil))))) (.cons (.ifs (.cmp .ne (.rpx (.var 4)) (.rpl (.cons (.var 2) (.cons (.var 2) (.nil))))) (.cons (.ret (.bl false)) (.nil)) (.nil)) (.cons (.exp (.mex .append (.idl (.var 4) (.int 0)) (.cons (.non) (.nil)))) (.cons (.asg (.nm 5 false) (.call 0 (.cons (.var 0) (.cons (.bin .add (.var 14) (.int 1)) (.nil))))) (.cons (.ifs (.cmp .ne (.bi .repr (.cons (.lst (.cons (.call 196 (.cons (.var 10) (.cons (.var 11) (.cons (.var 5) (.nil))))) (.cons (.callk 196 0 ["many", "vector", "square"] [2, 1, 0] (.cons (.var 14) (.cons (.var 11) (.cons (.var 10) (.nil))))) (.nil)))) (.nil))) (.bi .repr (.cons (.lst (.cons (.idx (.var 2) (.var 5)) (.cons (.idx (.var 2) (.var 14)) (.nil)))) (.nil)))) (.cons (.ret (.bl false)) (.nil)) (.nil)) (.cons (.asg (.nm 6 false) (.bi .min (.cons (.bin .sub (.bin .pow (.int 10) (.int 18)) (.int 1)) (.cons (.call 492 (.cons (.var 0) (.nil))) (.nil))))) (.cons (.par [(15, false), (16, false)] (.cons (.call 196 (.cons (.var 10) (.cons (.var 11) (.cons (.var 6) (.nil))))) (.cons (.call 196 (.cons (.var 10) (.cons (.var 11) (.cons (.bin .add (.var 6) (.int 1)) (.nil))))) (.nil)))) (.cons (.ifs (.or (.cons (.cmp .ne (.bi .repr (.cons (.var 16) (.nil))) (.bi .repr (.cons (.call 48 (.cons (.var 10) (.cons (.var 15) (.nil)))) (.nil)))) (.cons (.cmp .ne (.len (.var 15)) (.var 1)) (.nil)))) (.cons (.ret (.bl false)) (.nil)) (.nil)) (.cons (.asg (.nm 7 false) (.bin .sub (.call 0 (.cons (.var 0) (.cons (.int 2001) (.nil)))) (.int 1000))) (.cons (.ifs (.cmp .ne (.call 196 (.cons (.var 10) (.cons (.call 783 (.cons (.var 11) (.cons (.var 7) (.nil)))) (.cons (.var 6) (.nil))))) (.call 783 (.cons (.var 15) (.cons (.var 7) (.nil))))) (.cons (.ret (.bl false)) (.nil)) (.nil)) (.cons (.asg (.nm 8 false) (.bi .tuple (.cons (.lc [17, 18] (.call 24 (.cons (.lst (.cons (.var 17) (.cons (.var 18) (.nil)))) (.nil))) [17, 18] false (.zip (.var 11) (.var 12)) (.nil)) (.nil)))) (.cons (.ifs (.cmp .ne (.call 196 (.cons (.var 10) (.cons (.var 8) (.cons (.var 6) (.nil))))) (.bi .tuple (.cons (.lc [17, 18] (.call 24 (.cons (.lst (.cons (.var 17) (.cons (.var 18) (.nil)))) (.nil))) [17, 18] false (.zip (.var 15) (.call 196 (.cons (.var 10) (.cons (.var 12) (.cons (.var 6) (.nil)))))) (.nil)) (.nil)))) (.cons (.ret (.bl false)) (.nil)) (.nil)) (.cons (.ifs (.and (.cons (.cmp .le (.var 6) (.int 200)) (.cons (.cmp .ne (.bi .repr (.cons (.call 196 (.cons (.var 10) (.cons (.var 11) (.cons (.var 6) (.nil))))) (.nil))) (.bi .repr (.cons (.idx (.call 664 (.cons (.var 10) (.cons (.var 11) (.cons (.var 6) (.nil))))) (.neg (.int 1))) (.nil)))) (.nil)))) (.cons (.ret (.bl false)) (.nil)) (.nil)) (.cons (.asg (.nm 9 false) (.bin .sub (.call 0 (.cons (.var 0) (.cons (.int 199) (.nil)))) (.int 99))) (.cons (.ifs (.or (.cons (.cmp .ne (.call 196 (.cons (.tup (.cons (.tup (.cons (.var 9) (.nil))) (.nil))) (.cons (.tup (.cons (.var 7) (.nil))) (.cons (.var 6) (.nil))))) (.tup (.cons (.bin .add (.var 7) (.bin .mul (.var 6) (.var 9))) (.nil)))) (.cons (.cmp .ne (.call 196 (.cons (.tup (.cons (.tup (.cons (.non) (.nil))) (.nil))) (.cons (.tup (.cons (.var 7) (.nil))) (.cons (.var 6) (.nil))))) (.ife (.cmp .eq (.var 6) (.int 0)) (.tup (.cons (.var 7) (.nil))) (.tup (.cons (.non) (.nil))))) (.nil)))) (.cons (.ret (.bl false)) (.nil)) (.nil)) (.cons (.ret (.and (.cons (.cmp .eq (.bi .repr (.cons (.call 664 (.cons (.var 10) (.cons (.var 11) (.cons (.var 14) (.nil))))) (.nil))) (.bi .repr (.cons (.var 2) (.nil)))) (.cons (.cmp .eq (.bi .repr (.cons (.lst (.cons (.var 10) (.cons (.var 11) (.nil)))) (.nil))) (.var 13)) (.nil))))) (.nil)))))))))))))))))))))⟩
/-- 4: script, k -/
def F_law : Fn := ⟨[false], 2,
  .cons (.ret (.bi .all (.cons (.lc [1] (.call 10 (.cons (.call 1 (.cons (.var 0) (.cons (.var 1) (.nil)))) (.nil))) [1] true (.rng (.cons (.bi .max (.cons (.int 1) (.cons (.bi .min (.cons (.int 2) (.cons (.len (.var 0)) (.nil)))) (.nil)))) (.nil))) (.nil)) (.nil)))) (.nil)⟩
abbrev top (i : Nat) : Stmt := PySem.Challenge.pw_laterthen_k43_whole_orbits_and_times_beh.main.body.getD i (.Pass ⟨0, 0, 0, 0⟩)
def pts : List Pt := [
  ⟨2, "is_integer", top 1, ["value"], ["value"], F_is_integer⟩,
  ⟨3, "is_within", top 2, ["value", "least", "most"], ["value", "least", "most"], F_is_within⟩,
  ⟨8, "is_tuple", top 3, ["value", "many"], ["value", "many"], F_is_tuple⟩,
  ⟨11, "latest", top 12, ["times", "some", "one"], ["times"], F_latest⟩,
  ⟨9, "then", top 13, ["one", "other"], ["one", "other"], F_then⟩,
  ⟨6, "is_entry", top 16, ["value"], ["value"], F_is_entry⟩,
  ⟨7, "is_table_any", top 17, ["value", "row", "one"], ["value"], F_is_table_any⟩,
  ⟨13, "is_square_any", top 18, ["value"], ["value"], F_is_square_any⟩,
  ⟨14, "is_vector_of", top 19, ["many", "value", "one"], ["many", "value"], F_is_vector_of⟩,
  ⟨20, "applied", top 20, ["table", "vector", "row", "one", "other"], ["table", "vector"], F_applied⟩,
  ⟨21, "columns_of", top 21, ["table"], ["table"], F_columns_of⟩,
  ⟨26, "product", top 22, ["table", "other", "rows", "row", "column", "one", "late"], ["table", "other"], F_product⟩,
  ⟨16, "want_square", top 23, ["square"], ["square"], F_want_square⟩,
  ⟨62, "want_vector", top 24, ["table", "vector"], ["table", "vector"], F_want_vector⟩,
  ⟨34, "unit_of", top 26, ["many", "near", "far"], ["many"], F_unit_of⟩,
  ⟨31, "power_of", top 27, ["square", "many", "found", "here"], ["square", "many"], F_power_of⟩,
  ⟨665, "orbit_of", top 31, ["square", "vector", "many", "found", "turn"], ["square", "vector", "many"], F_orbit_of⟩,
  ⟨40, "behind", top 32, ["square", "vector", "many"], ["square", "vector", "many"], F_behind⟩,
  ⟨205, "want_up_to", top 33, ["many", "most"], ["many", "most"], F_want_up_to⟩,
  ⟨664, "orbit", top 34, ["square", "vector", "many"], ["square", "vector", "many"], F_orbit⟩,
  ⟨196, "times_behind", top 35, ["square", "vector", "many"], ["square", "vector", "many"], F_times_behind⟩,
  ⟨1, "_law_pot", top 37, ["script", "k", "cell"], ["script", "k"], F_law_pot⟩,
  ⟨0, "_law_draw", top 38, ["pot", "many", "digit"], ["pot", "many"], F_law_draw⟩,
  ⟨5, "_law_pick", top 39, ["pot", "some"], ["pot", "some"], F_law_pick⟩,
  ⟨76, "_law_then", top 40, ["one", "other"], ["one", "other"], F_law_then⟩,
  ⟨24, "_law_latest", top 41, ["times", "some", "one"], ["times"], F_law_latest⟩,
  ⟨48, "_law_applied", top 42, ["table", "vector", "row", "at", "entry"], ["table", "vector"], F_law_applied⟩,
  ⟨27, "_law_square", top 43, ["pot", "many", "most", "rows", "near", "far"], ["pot", "many"], F_law_square⟩,
  ⟨69, "_law_vector", top 44, ["pot", "many", "is_awake", "place"], ["pot", "many", "is_awake"], F_law_vector⟩,
  ⟨783, "_law_shifted", top 45, ["vector", "by", "one"], ["vector", "by"], F_law_shifted⟩,
  ⟨492, "_law_number", top 46, ["pot", "most", "found", "turn"], ["pot"], F_law_number⟩,
  ⟨10, "_law_right", top 47, ["pot", "many", "due", "turn", "told", "at", "number", "by", "both", "entry", "square", "vector", "other", "shown", "far", "near", "late", "one", "two"], ["pot"], F_law_right⟩,
  ⟨4, "law", top 48, ["script", "k"], ["script"], F_law⟩]
def cs : List (Str × Cst) := [("MOST_ENTRY", .int 99), ("MOST_SIDE", .int 8), ("MOST_TIME", .int 1000000000), ("MOST_ORBIT", .int 200), ("MOST_MANY", .int 1000000000000000000)]
def kwt : List (Nat × Nat × List Str × List Nat) := [(196, 0, ["many", "vector", "square"], [2, 1, 0]), (664, 0, ["many", "vector", "square"], [2, 1, 0])]
abbrev tab : Tab := tabOf pts cs kwt
abbrev fs : List (Nat × Fn) := fsOf pts
end Z.L
/-! K43: orbits, times behind: the law's own defs. -/
set_option linter.all false
set_option autoImplicit false
set_option maxHeartbeats 4000000
set_option maxRecDepth 100000
namespace Z.L
open PySem Z
abbrev c0 : Str → Option D := cOf cs
variable {n : Nat} {st : Store} {Γ : Calls} {ρ : Slots}
abbrev wf : Nat := 100000
theorem dr (m : Nat) : Draws c0 wf fs (m + 1) 0 := draws_of (a := 40692) (b := 5657) (c := 2147483587) (d := 2147483549) (e := 17) rfl (by omega) (by omega) (by omega) (by omega) m
theorem T : TabAt c0 fs := ⟨rfl, rfl, rfl, rfl, rfl, rfl⟩
theorem Q : RndAt c0 fs := ⟨T, rfl, rfl, rfl, rfl, rfl, rfl, rfl, rfl, rfl, rfl, rfl, rfl, rfl⟩
section
variable {s : Nat} {f : Nat → Nat → Option Int} {v : Nat → Option Int}
theorem q196 (h1 : 1 ≤ s ∧ s ≤ 8) (hf : ∀ i j, i < s → j < s → bdO 99 (f i j)) (hv : ∀ i, i < s → bdO 1000000000 (v i)) {m : Nat} (hm : m ≤ 1000000000000000000) : evCall c0 wf fs (n + 8) 196 [.d (dMat s s f), .d (dVec s v), .d (.int (m : Int))] st = some (.d (dVec s (orF s f v m)), st) :=
  times_behind_ok (n := n + 1) (by decide) Q rfl rfl rfl rfl h1 hf hv hm
theorem q664 (h1 : 1 ≤ s ∧ s ≤ 8) (hf : ∀ i j, i < s → j < s → bdO 99 (f i j)) (hv : ∀ i, i < s → bdO 1000000000 (v i)) {m : Nat} (hm : m ≤ 200) : evCall c0 wf fs (n + 8) 664 [.d (dMat s s f), .d (dVec s v), .d (.int (m : Int))] st = some (.f ((List.range (m + 1)).map fun k => dVec s (orF s f v k)), st) :=
  orbit_ok (n := n + 1) Q rfl rfl rfl rfl h1 hf hv hm
theorem q48 (hs : s ≤ 1000) : evCall c0 wf fs (n + 8) 48 [.d (dMat s s f), .d (dVec s v)] st = some (.d (dVec s (apF s f v)), st) := appliedR_ok (n := n + 6) rfl rfl rfl hs hs
theorem q783 (hs : s ≤ 1000) (by_ : Int) : evCall c0 wf fs (n + 8) 783 [.d (dVec s v), .d (.int by_)] st = some (.d (dVec s fun i => thenO (v i) (some by_)), st) := by
  refine call_rt (F := F_law_shifted) rfl (ρ0 := [some (.d (dVec s v)), some (.d (.int by_)), none]) (st0 := st) rfl rfl (st_rt (tuple_of (w := .f ((List.range s).map fun i => od (thenO (v i) (some by_)))) ?_ rfl)) leave_same
  exact lc_rng (h := fun i => od (v i)) (st1 := st) (walk_d (var_at rfl) itemsOf_vec) hs fun i hi => ⟨[some (.d (dVec s v)), some (.d (.int by_)), some (.d (od (v i)))], _, rfl, call2 (var_at rfl) (var_at rfl) (then_ok (n := n + 6) rfl (v i) (some by_)), rfl⟩
theorem q27 (hp : Pot st) (hs : s ≤ 1000) : ∃ f st', evCall c0 wf fs (n + 8) 27 [.c 0, .d (.int (s : Int))] st = some (.d (dMat s s f), st') ∧ (∀ i j, i < s → j < s → bdO 99 (f i j)) ∧ Same st st' := squareR_ok (n := n + 5) dr rfl rfl hp hs
theorem q69 (hp : Pot st) (hs : s ≤ 1000) {b : Bool} : ∃ v st', evCall c0 wf fs (n + 8) 69 [.c 0, .d (.int (s : Int)), .d (.bool b)] st = some (.d (dVec s v), st') ∧ (∀ i, i < s → bdO 9 (v i) ∧ (b = true → v i ≠ none)) ∧ Same st st' := vectorR_ok (n := n + 6) dr rfl hp hs
theorem l24 : LateAt (evCall c0 wf fs (n + 8)) 24 := late24 (n := n + 7) rfl
end
/-- the number of steps drawn -/
theorem q492 (hp : Pot st) : ∃ (r : Int) (st' : Store), evCall c0 wf fs (n + 8) 492 [.c 0] st = some (.d (.int r), st') ∧ 0 ≤ r ∧ Same st st' := by
  obtain ⟨x, s1, e1, hx, k1⟩ := pick_ev (C := c0) (wf := wf) (Fs := fs) (n := n + 5) (i := 0) (ρ := [some (.c 0), none, none, none]) (st := st) (es := .cons (.int 10) (.cons (.int 200) (.cons (.bin .pow (.int 10) (.int 6)) (.cons (.bin .pow (.int 10) (.int 18)) (.nil)))))
    (xs := [.int 10, .int 200, .int (10 ^ 6), .int (10 ^ 18)]) (s1 := st) dr rfl rfl (evD_c ev_int rfl (evD_c ev_int rfl (evD_c (bin_ii ev_int ev_int (by rw [binF_pow, if_pos (by decide)]; rfl)) rfl (evD_c (bin_ii ev_int ev_int (by rw [binF_pow, if_pos (by decide)]; rfl)) rfl evD_nil)))) (by simp) hp
  obtain ⟨most, rfl, hm⟩ : ∃ most : Int, x = .int most ∧ 1 ≤ most ∧ most ≤ 1000000000000000000 := by
    simp only [List.mem_cons, List.not_mem_nil, or_false] at hx
    rcases hx with rfl | rfl | rfl | rfl <;> exact ⟨_, rfl, by omega⟩
  obtain ⟨ρ', s2, e2, v, x3, rfl, v0, k2⟩ := fors_inv (Γ := evCall c0 wf fs (n + 7)) (C := c0) (wf := wf) (st := s1) (ρ := [some (.c 0), some (.d (.int most)), some (.d (.int 0)), none]) (tg := [3]) (fl := true) (it := .rng (.cons (.int 6) .nil)) (xs := rangeD 0 6) (st1 := s1)
    (body := .cons (.asg (.nm 2 false) (.bin .add (.bin .mul (.var 2) (.int 1009)) (.call 0 (.cons (.var 0) (.cons (.int 1009) (.nil)))))) (.nil))
    (I := fun _ ρ s => ∃ (v : Int) (x3 : Option W), ρ = [some (.c 0), some (.d (.int most)), some (.d (.int v)), x3] ∧ 0 ≤ v ∧ Same st s) (rng_of (k := 6) ev_int (by decide)) ⟨0, none, rfl, Int.le_refl _, k1⟩ (fun j x ρ s hj hI => by
      obtain ⟨v, x3, rfl, v0, k⟩ := hI
      obtain ⟨r, s', a1, a2, a3, a4⟩ := dg (C := c0) (wf := wf) (Fs := fs) (n := n + 7) (m := 1009) (ρ := [some (.c 0), some (.d (.int most)), some (.d (.int v)), some (.d x)]) (st := s) (dr (n + 6)) rfl ev_int k.pot (by decide)
      exact ⟨_, rfl, _, s', (st_one (asg_d (bin_ii (bin_ii (var_at rfl) ev_int (mul_r (by decide))) a1 rfl))).trans evSs_nil, v * 1009 + r, some (.d x), rfl, by omega, k.trans a4⟩)
  have m1 : ev (evCall c0 wf fs (n + 7)) c0 (.bin .add (.var 1) (.int 1)) [some (.c 0), some (.d (.int most)), some (.d (.int v)), x3] s2 = some (.d (.int (most + 1)), s2) := bin_ii (var_at rfl) ev_int rfl
  have d1 : ev (evCall c0 wf fs (n + 7)) c0 (.bin .mul (.bin .fdiv (.var 2) (.bin .add (.var 1) (.int 1))) (.bin .add (.var 1) (.int 1))) [some (.c 0), some (.d (.int most)), some (.d (.int v)), x3] s2 = some (.d (.int (v / (most + 1) * (most + 1))), s2) :=
    bin_ii (bin_ii (var_at rfl) m1 (div_any (by omega))) m1 (mul_r ⟨by omega, by omega⟩)
  refine ⟨v - v / (most + 1) * (most + 1), s2, ?_, ?_, k2⟩
  · refine call_rt (F := F_law_number) rfl (ρ0 := [some (.c 0), none, none, none]) (st0 := st) rfl rfl (st' := s2) (w := .d (.int (v - v / (most + 1) * (most + 1)))) ?_ (by rw [leave_d, take_all k2.len])
    rw [F_law_number]
    refine (st_one (asg_d e1)).trans ?_
    refine (st_one (asg_d ev_int)).trans ?_
    refine (st_one e2).trans ?_
    exact st_rt (bin_ii (var_at rfl) d1 rfl)
  · have h1 := Int.emod_nonneg v (show most + 1 ≠ 0 by omega)
    rw [Int.emod_def, Int.mul_comm] at h1
    exact h1
/-! ### tables of one place -/
theorem or_one (e b : Int) : ∀ m : Nat, orF 1 (fun _ _ => some e) (fun _ => some b) m 0 = some (b + m * e)
  | 0 => by simp [orF]
  | m + 1 => by
    show supR 1 (fun l => thenO (some e) (orF 1 (fun _ _ => some e) (fun _ => some b) m l)) = _
    rw [sup_one, or_one e b m]
    simp only [thenO, Option.some.injEq]
    rw [Int.natCast_add, Int.add_mul]
    omega
theorem or_nil (v : Nat → Option Int) : ∀ m : Nat, orF 1 (fun _ _ => none) v m 0 = if m = 0 then v 0 else none
  | 0 => rfl
  | m + 1 => by
    show supR 1 (fun l => thenO none (orF 1 (fun _ _ => none) v m l)) = _
    rw [sup_one, if_neg (by omega)]; rfl
end Z.L
/-! K43b: the law. -/
set_option linter.all false
set_option autoImplicit false
set_option maxHeartbeats 800000
set_option maxRecDepth 100000
namespace Z.L
open PySem Z
variable {n : Nat} {st : Store} {Γ : Calls} {ρ : Slots}
abbrev orL (s : Nat) (f : Nat → Nat → Option Int) (v : Nat → Option Int) (m : Nat) : List D := (List.range (m + 1)).map fun k => dVec s (orF s f v k)
theorem orL_get {s : Nat} {f : Nat → Nat → Option Int} {v : Nat → Option Int} {m i : Nat} (h : i ≤ m) : (orL s f v m)[i]? = some (dVec s (orF s f v i)) := by
  simp [orL, show i < m + 1 by omega]
/-- due: step by step -/
theorem due_loop {s m : Nat} {f : Nat → Nat → Option Int} {v : Nat → Option Int} (hs : s ≤ 1000) (hm : m ≤ 1000) {a1 a4 a5 a6 a7 a8 a9 a12 a13 a15 a16 a17 a18 : Option W} :
    ∃ x3, evS (evCall c0 wf fs (n + 8)) c0 wf (.fors [3] true (.rng (.cons (.var 14) (.nil))) (.cons (.exp (.me .append 2 (.cons (.call 48 (.cons (.var 10) (.cons (.idx (.var 2) (.neg (.int 1))) (.nil)))) (.nil)))) (.nil)))
      [some (.c 0), a1, some (.c st.length), none, a4, a5, a6, a7, a8, a9, some (.d (dMat s s f)), some (.d (dVec s v)), a12, a13, some (.d (.int (m : Int))), a15, a16, a17, a18] (st ++ [⟨false, [dVec s v]⟩])
      = some (.nx [some (.c 0), a1, some (.c st.length), x3, a4, a5, a6, a7, a8, a9, some (.d (dMat s s f)), some (.d (dVec s v)), a12, a13, some (.d (.int (m : Int))), a15, a16, a17, a18] (st ++ [⟨false, orL s f v m⟩])) := by
  obtain ⟨ρ', ys, e, ⟨x3, rfl⟩, hy⟩ := app_pure (Γ := evCall c0 wf fs (n + 8)) (C := c0) (wf := wf) (st := st) (tg := [3]) (fl := true) (i := 2) (elt := .call 48 (.cons (.var 10) (.cons (.idx (.var 2) (.neg (.int 1))) (.nil))))
    (K := fun ρ => ∃ x3, ρ = [some (.c 0), a1, some (.c st.length), x3, a4, a5, a6, a7, a8, a9, some (.d (dMat s s f)), some (.d (dVec s v)), a12, a13, some (.d (.int (m : Int))), a15, a16, a17, a18]) (J := fun j ys => ys = orL s f v j) (fun ρ hρ => by obtain ⟨x3, rfl⟩ := hρ; rfl)
    (xs := rangeD 0 m) (ρ := [some (.c 0), a1, some (.c st.length), none, a4, a5, a6, a7, a8, a9, some (.d (dMat s s f)), some (.d (dVec s v)), a12, a13, some (.d (.int (m : Int))), a15, a16, a17, a18]) (ys := [dVec s v]) (b := 0) ⟨none, rfl⟩ rfl (by rw [range_len]; simp; omega) (fun j x ρ ys hj hK hJ => by
      obtain ⟨x3, rfl⟩ := hK
      subst hJ
      refine ⟨[some (.c 0), a1, some (.c st.length), some (.d x), a4, a5, a6, a7, a8, a9, some (.d (dMat s s f)), some (.d (dVec s v)), a12, a13, some (.d (.int (m : Int))), a15, a16, a17, a18], .d (dVec s (orF s f v (0 + j + 1))), _, rfl, ⟨_, rfl⟩, ?_, rfl, ?_⟩
      · exact call2 (var_at rfl) (idx_last (xs := orL s f v (0 + j)) (y := dVec s (orF s f v (0 + j))) (var_at rfl) (neg_at ev_int) (by rw [rd_c, get1]; rfl) (range_last (N := 0 + j) (h := fun k => dVec s (orF s f v k)))) (q48 (f := f) (v := orF s f v (0 + j)) hs)
      · show orL s f v (0 + j) ++ [dVec s (orF s f v (0 + j + 1))] = orL s f v (0 + j + 1)
        unfold orL
        rw [range_snoc (N := 0 + j + 1)])
  rw [range_len, Nat.zero_add] at hy
  subst hy
  refine ⟨x3, ?_⟩
  rw [evS, rng_var (k := m) rfl hm, Option.bind_some]
  exact e
theorem late2 {s : Nat} {u v : Nat → Option Int} (hs : s ≤ 1000) {x y : E} {ρ : Slots} (h1 : ev (evCall c0 wf fs (n + 8)) c0 x ρ st = some (.d (dVec s u), st)) (h2 : ev (evCall c0 wf fs (n + 8)) c0 y ρ st = some (.d (dVec s v), st))
    (hw : ∀ a b, ∃ ρ', bindD (wipeW ρ [17, 18]) [17, 18] false (.tuple [a, b]) = some ρ' ∧ ρ'[17]? = some (some (.d a)) ∧ ρ'[18]? = some (some (.d b))) :
    ev (evCall c0 wf fs (n + 8)) c0 (.bi .tuple (.cons (.lc [17, 18] (.call 24 (.cons (.lst (.cons (.var 17) (.cons (.var 18) (.nil)))) (.nil))) [17, 18] false (.zip x y) (.nil)) (.nil))) ρ st = some (.d (dVec s fun i => stepO (u i) (v i)), st) := by
  refine tuple_of (w := .f ((List.range s).map fun i => od (stepO (u i) (v i)))) (lc_rng (h := fun i => .tuple [od (u i), od (v i)]) (st1 := st) (zip_ev (N := s) (a := fun i => od (u i)) (b := fun i => od (v i)) h1 h2) hs (fun i hi => ?_)) rfl
  obtain ⟨ρ', b1, b2, b3⟩ := hw (od (u i)) (od (v i))
  exact ⟨ρ', _, b1, pair_late l24 (var_at b2) (var_at b3), rfl⟩
theorem e_right (x y : Int) (hx : 0 ≤ x) (hy : 0 ≤ y) (hy2 : y < 4294967296) : evCall c0 wf fs (n + 9) 10 [.f [.int x, .int y]] [] = some (.d (.bool true), []) := by
  have p0 : Pot [⟨false, [.int x, .int y]⟩] := ⟨_, rfl, x, y, rfl, hx, hy, hy2⟩
  obtain ⟨d1, s1, e1, d10, d11, h1⟩ := dr (n + 7) _ 5 p0 (by decide)
  obtain ⟨s, hs⟩ : ∃ s : Nat, (s : Int) = 1 + d1 := ⟨(1 + d1).toNat, by omega⟩
  have hs8 : 1 ≤ s ∧ s ≤ 8 := by omega
  have hs1 : s ≤ 1000 := by omega
  obtain ⟨f, s2, e2, bf, h2⟩ := q27 (n := n) h1.pot hs1
  obtain ⟨v, s3, e3, bv, h3⟩ := q69 (n := n) (b := false) h2.pot hs1
  obtain ⟨u, s4, e4, bu, h4⟩ := q69 (n := n) (b := false) h3.pot hs1
  obtain ⟨d5, s5, e5, d50, d51, h5⟩ := dr (n + 7) s4 201 h4.pot (by decide)
  obtain ⟨m, rfl⟩ : ∃ m : Nat, d5 = (m : Int) := ⟨d5.toNat, by omega⟩
  have hm : m ≤ 200 := by omega
  have bv9 : ∀ i, i < s → bdO 1000000000 (v i) := fun i hi => bd_up (bv i hi).1 (by decide)
  have bu9 : ∀ i, i < s → bdO 1000000000 (u i) := fun i hi => bd_up (bu i hi).1 (by decide)
  -- the store with its three lists
  generalize hS : s5 ++ [⟨false, orL s f v m⟩] ++ [⟨false, orL s f v m⟩] ++ [⟨false, orL s f v m⟩] = S0
  obtain ⟨x3, lp⟩ := due_loop (n := n) (st := s5) (s := s) (m := m) (f := f) (v := v) hs1 (by omega) (a1 := some (.d (.int (s : Int)))) (a4 := none) (a5 := none) (a6 := none) (a7 := none) (a8 := none) (a9 := none) (a12 := some (.d (dVec s u))) (a13 := some (.d (.str (PyData.shown (.list [dMat s s f, dVec s v]))))) (a15 := none) (a16 := none) (a17 := none) (a18 := none)
  have hl5 : s5.length = 1 := by rw [h5.len, h4.len, h3.len, h2.len, h1.len]; rfl
  rw [hl5] at lp
  have hp5 : Pot s5 := h5.pot
  -- sizes
  have zor : ∀ k i : Nat, i < s → bdO (k * 99 + 9) (orF s f v k i) := fun k i hi => or_bd bf (fun i hi => (bv i hi).1) k i hi
  have sv : ∀ k : Nat, k ≤ 1000000000000000001 → Shw 1 227 (dVec s (orF s f v k)) := fun k hk => Shw.vec hs8.2 fun i hi => bd_up (zor k i hi) (by omega)
  have so : Shw 2 46032 (.list (orL s f v m)) := (Shw.list (w := 201) (n := 227) (d := 1) (by simp [orL]; omega) (fun z hz => by
    obtain ⟨k, hk, rfl⟩ := List.mem_map.mp hz
    have := List.mem_range.mp hk
    exact sv k (by omega))).up (by decide) (by decide)
  have so2 : reprOk (.list [.list (orL s f v m), .list (orL s f v m)]) = true := (Shw.list (w := 2) (by simp) (fun z hz => by
    simp only [List.mem_cons, List.not_mem_nil, or_false, or_self] at hz
    subst hz; exact so)).ok (by decide) (by decide)
  have sfv : reprOk (.list [dMat s s f, dVec s v]) = true := (Shw.list (w := 2) (d := 2) (n := 1835) (by simp) (fun z hz => by
    simp only [List.mem_cons, List.not_mem_nil, or_false] at hz
    rcases hz with rfl | rfl
    · exact Shw.mat hs8.2 hs8.2 fun i j hi hj => bd_up (bf i j hi hj) (by decide)
    · exact (Shw.vec hs8.2 fun i hi => bd_up (bv i hi).1 (by decide)).up (by decide) (by decide))).ok (by decide) (by decide)
  have spair : ∀ a b : Nat, a ≤ 200 → b ≤ 200 → reprOk (.list [dVec s (orF s f v a), dVec s (orF s f v b)]) = true := fun a b ha hb => (Shw.list (w := 2) (d := 1) (n := 227) (by simp) (fun z hz => by
    simp only [List.mem_cons, List.not_mem_nil, or_false] at hz
    rcases hz with rfl | rfl
    · exact sv a (by omega)
    · exact sv b (by omega))).ok (by decide) (by decide)
  have hl6 : (s5 ++ ([⟨false, orL s f v m⟩] : Store)).length = 2 := by simp [hl5]
  have hl7 : (s5 ++ ([⟨false, orL s f v m⟩] : Store) ++ ([⟨false, orL s f v m⟩] : Store)).length = 3 := by simp [hl5]
  have g1 : S0[1]? = some ⟨false, orL s f v m⟩ := by
    rw [← hS, List.append_assoc, List.append_assoc, List.getElem?_append_right (by omega), hl5]; rfl
  have g2 : S0[2]? = some ⟨false, orL s f v m⟩ := by
    rw [← hS, List.append_assoc, List.getElem?_append_right (by omega), hl6]; rfl
  have g3 : S0[3]? = some ⟨false, orL s f v m⟩ := by
    rw [← hS, List.getElem?_append_right (by omega), hl7]; rfl
  have pS : Pot (S0.set 2 ⟨false, orL s f v m ++ [.none]⟩) := pot_set (by rw [← hS]; exact pot_app (pot_app (pot_app hp5))) (by decide)
  obtain ⟨a0, s9, e9, a00, a01, h9⟩ := dr (n + 7) _ ((m + 1 : Nat) : Int) pS (by omega)
  obtain ⟨a, rfl⟩ : ∃ a : Nat, a0 = (a : Int) := ⟨a0.toNat, by omega⟩
  have ha : a ≤ m := by omega
  have g9 : s9[1]? = some ⟨false, orL s f v m⟩ := by rw [h9.off 1 (by decide), List.getElem?_set_ne (by decide), g1]
  obtain ⟨r10, s10, e10, r100, h10⟩ := q492 (n := n) h9.pot
  obtain ⟨N, hN⟩ : ∃ N : Nat, (N : Int) = if r10 < 999999999999999999 then r10 else 999999999999999999 := ⟨(if r10 < 999999999999999999 then r10 else 999999999999999999).toNat, by split <;> omega⟩
  have hN9 : N ≤ 999999999999999999 := by split at hN <;> omega
  obtain ⟨b, s11, e11, b0, b1, h11⟩ := dr (n + 7) s10 2001 h10.pot (by decide)
  have sby : ∀ i, i < s → bdO 1000000000 (thenO (v i) (some (b - 1000))) := fun i hi z hz => by
    cases hv : v i with
    | none => rw [hv] at hz; cases hz
    | some y =>
      rw [hv] at hz
      cases hz
      have := (bv i hi).1 y hv
      omega
  obtain ⟨c, s12, e12, c00, c01, h12⟩ := dr (n + 7) s11 199 h11.pot (by decide)
  have g12 : s12[1]? = some ⟨false, orL s f v m⟩ := by rw [((h10.trans h11).trans h12).off 1 (by decide), g9]
  refine call_end (F := F_law_right) rfl (ρ0 := [some (.c 0), none, none, none, none, none, none, none, none, none, none, none, none, none, none, none, none, none, none]) (st0 := [⟨false, [.int x, .int y]⟩]) rfl rfl ?_
  rw [F_law_right]
  refine ex_one (ρ' := [some (.c 0), some (.d (.int (s : Int))), none, none, none, none, none, none, none, none, none, none, none, none, none, none, none, none, none]) (asg_d (bin_ii (k := (s : Int)) ev_int (call2 (var_at rfl) ev_int e1) (by rw [hs]; rfl))) ?_
  refine ex_one (ρ' := [some (.c 0), some (.d (.int (s : Int))), none, none, none, none, none, none, none, none, some (.d (dMat s s f)), some (.d (dVec s v)), some (.d (dVec s u)), none, none, none, none, none, none]) (st' := s4) (par_n (evs_c (call2 (var_at rfl) (var_at rfl) e2) (evs_c (call3 (var_at rfl) (var_at rfl) ev_bl e3) (evs_c (call3 (var_at rfl) (var_at rfl) ev_bl e4) evs_nil))) rfl) ?_
  refine ex_one (ρ' := [some (.c 0), some (.d (.int (s : Int))), none, none, none, none, none, none, none, none, some (.d (dMat s s f)), some (.d (dVec s v)), some (.d (dVec s u)), some (.d (.str (PyData.shown (.list [dMat s s f, dVec s v])))), some (.d (.int (m : Int))), none, none, none, none]) (st' := s5) (par_n (evs_c (repr_at (lst2 (var_at rfl) (var_at rfl)) rfl sfv) (evs_c (call2 (var_at rfl) ev_int e5) evs_nil)) rfl) ?_
  refine ex_one (ρ' := [some (.c 0), some (.d (.int (s : Int))), some (.c 1), none, none, none, none, none, none, none, some (.d (dMat s s f)), some (.d (dVec s v)), some (.d (dVec s u)), some (.d (.str (PyData.shown (.list [dMat s s f, dVec s v])))), some (.d (.int (m : Int))), none, none, none, none]) (st' := s5 ++ [⟨false, [dVec s v]⟩]) (by rw [asg_mk (lst1 (var_at rfl) rfl), hl5]; rfl) ?_
  refine ex_one (ρ' := [some (.c 0), some (.d (.int (s : Int))), some (.c 1), x3, none, none, none, none, none, none, some (.d (dMat s s f)), some (.d (dVec s v)), some (.d (dVec s u)), some (.d (.str (PyData.shown (.list [dMat s s f, dVec s v])))), some (.d (.int (m : Int))), none, none, none, none]) (lp) ?_
  refine ex_one (ρ' := [some (.c 0), some (.d (.int (s : Int))), some (.c 1), x3, some (.l [2, 3]), none, none, none, none, none, some (.d (dMat s s f)), some (.d (dVec s v)), some (.d (dVec s u)), some (.d (.str (PyData.shown (.list [dMat s s f, dVec s v])))), some (.d (.int (m : Int))), none, none, none, none]) (st' := S0) (by rw [asg_l (lcs_ff (evs_c (call3 (var_at rfl) (var_at rfl) (var_at rfl) (q664 hs8 bf bv9 hm)) (evs_c (callk_of (evD_c (var_at rfl) rfl (evD_c (var_at rfl) rfl (evD_c (var_at rfl) rfl evD_nil))) (q664 hs8 bf bv9 hm)) evs_nil))), hl6, hS]; rfl) ?_
  refine ex_one (ρ' := [some (.c 0), some (.d (.int (s : Int))), some (.c 1), x3, some (.l [2, 3]), none, none, none, none, none, some (.d (dMat s s f)), some (.d (dVec s v)), some (.d (dVec s u)), some (.d (.str (PyData.shown (.list [dMat s s f, dVec s v])))), some (.d (.int (m : Int))), none, none, none, none]) (if_no (ne_self (rpx_at (var_at rfl) (by rw [rdx_l]; simp only [cellsD_cons, cellsD_nil, g2, g3, Option.bind_some, Option.map_some]) so2 rfl) (rpl_at (evs_c (var_at rfl) (evs_c (var_at rfl) evs_nil)) (by simp only [rdxs_cons, rdxs_nil, rdx_c, g1, Option.bind_some, Option.map_some]) so2 (by simp)))) ?_
  refine ex_one (ρ' := [some (.c 0), some (.d (.int (s : Int))), some (.c 1), x3, some (.l [2, 3]), none, none, none, none, none, some (.d (dMat s s f)), some (.d (dVec s v)), some (.d (dVec s u)), some (.d (.str (PyData.shown (.list [dMat s s f, dVec s v])))), some (.d (.int (m : Int))), none, none, none, none]) (st' := S0.set 2 ⟨false, orL s f v m ++ [.none]⟩) (exp_one (mex_app (idl_at (i := 0) (var_at rfl) ev_int rfl) ev_non g2 (by simp [orL]; omega))) ?_
  refine ex_one (ρ' := [some (.c 0), some (.d (.int (s : Int))), some (.c 1), x3, some (.l [2, 3]), some (.d (.int (a : Int))), none, none, none, none, some (.d (dMat s s f)), some (.d (dVec s v)), some (.d (dVec s u)), some (.d (.str (PyData.shown (.list [dMat s s f, dVec s v])))), some (.d (.int (m : Int))), none, none, none, none]) (st' := s9) (asg_d (call2 (var_at rfl) (bin_ii (k := ((m + 1 : Nat) : Int)) (var_at rfl) ev_int rfl) e9)) ?_
  refine ex_one (ρ' := [some (.c 0), some (.d (.int (s : Int))), some (.c 1), x3, some (.l [2, 3]), some (.d (.int (a : Int))), none, none, none, none, some (.d (dMat s s f)), some (.d (dVec s v)), some (.d (dVec s u)), some (.d (.str (PyData.shown (.list [dMat s s f, dVec s v])))), some (.d (.int (m : Int))), none, none, none, none]) (if_no (ne_self (repr_at (lst2 (call3 (var_at rfl) (var_at rfl) (var_at rfl) (q196 hs8 bf bv9 (by omega))) (callk_of (evD_c (var_at rfl) rfl (evD_c (var_at rfl) rfl (evD_c (var_at rfl) rfl evD_nil))) (q196 hs8 bf bv9 (by omega)))) rfl (spair a m (by omega) hm)) (repr_at (lst2 (idx_c (i := a) (var_at rfl) (var_at rfl) g9 (orL_get ha)) (idx_c (i := m) (var_at rfl) (var_at rfl) g9 (orL_get (Nat.le_refl m)))) rfl (spair a m (by omega) hm)))) ?_
  refine ex_one (ρ' := [some (.c 0), some (.d (.int (s : Int))), some (.c 1), x3, some (.l [2, 3]), some (.d (.int (a : Int))), some (.d (.int (N : Int))), none, none, none, some (.d (dMat s s f)), some (.d (dVec s v)), some (.d (dVec s u)), some (.d (.str (PyData.shown (.list [dMat s s f, dVec s v])))), some (.d (.int (m : Int))), none, none, none, none]) (st' := s10) (asg_d (by rw [hN]; exact bi_min2 (i := 999999999999999999) (bin_ii (i := 1000000000000000000) (bin_ii ev_int ev_int (by rw [binF_pow, if_pos (by decide)]; rfl)) ev_int rfl) (call1 (var_at rfl) e10))) ?_
  refine ex_one (ρ' := [some (.c 0), some (.d (.int (s : Int))), some (.c 1), x3, some (.l [2, 3]), some (.d (.int (a : Int))), some (.d (.int (N : Int))), none, none, none, some (.d (dMat s s f)), some (.d (dVec s v)), some (.d (dVec s u)), some (.d (.str (PyData.shown (.list [dMat s s f, dVec s v])))), some (.d (.int (m : Int))), some (.d (dVec s (orF s f v N))), some (.d (dVec s (orF s f v (N + 1)))), none, none]) (par_n (evs_c (call3 (var_at rfl) (var_at rfl) (var_at rfl) (q196 hs8 bf bv9 (by omega))) (evs_c (call3 (var_at rfl) (var_at rfl) (bin_ii (k := ((N + 1 : Nat) : Int)) (var_at rfl) ev_int rfl) (q196 hs8 bf bv9 (by omega))) evs_nil)) rfl) ?_
  refine ex_one (ρ' := [some (.c 0), some (.d (.int (s : Int))), some (.c 1), x3, some (.l [2, 3]), some (.d (.int (a : Int))), some (.d (.int (N : Int))), none, none, none, some (.d (dMat s s f)), some (.d (dVec s v)), some (.d (dVec s u)), some (.d (.str (PyData.shown (.list [dMat s s f, dVec s v])))), some (.d (.int (m : Int))), some (.d (dVec s (orF s f v N))), some (.d (dVec s (orF s f v (N + 1)))), none, none]) (if_no (or_f (ne_self (repr_at (var_at rfl) rfl ((sv (N + 1) (by omega)).ok (by decide) (by decide))) (repr_at (x := dVec s (orF s f v (N + 1))) (call2 (var_at rfl) (var_at rfl) (q48 (f := f) (v := orF s f v N) hs1)) rfl ((sv (N + 1) (by omega)).ok (by decide) (by decide)))) (cmp_dd (len_vec (var_at rfl)) (var_at rfl) rfl rfl (by rw [cmpF_neI, decide_eq_true rfl]; rfl)))) ?_
  refine ex_one (ρ' := [some (.c 0), some (.d (.int (s : Int))), some (.c 1), x3, some (.l [2, 3]), some (.d (.int (a : Int))), some (.d (.int (N : Int))), some (.d (.int (b - 1000))), none, none, some (.d (dMat s s f)), some (.d (dVec s v)), some (.d (dVec s u)), some (.d (.str (PyData.shown (.list [dMat s s f, dVec s v])))), some (.d (.int (m : Int))), some (.d (dVec s (orF s f v N))), some (.d (dVec s (orF s f v (N + 1)))), none, none]) (st' := s11) (asg_d (bin_ii (call2 (var_at rfl) ev_int e11) ev_int rfl)) ?_
  refine ex_one (ρ' := [some (.c 0), some (.d (.int (s : Int))), some (.c 1), x3, some (.l [2, 3]), some (.d (.int (a : Int))), some (.d (.int (N : Int))), some (.d (.int (b - 1000))), none, none, some (.d (dMat s s f)), some (.d (dVec s v)), some (.d (dVec s u)), some (.d (.str (PyData.shown (.list [dMat s s f, dVec s v])))), some (.d (.int (m : Int))), some (.d (dVec s (orF s f v N))), some (.d (dVec s (orF s f v (N + 1)))), none, none]) (if_no (ne_vec (call3 (var_at rfl) (call2 (var_at rfl) (var_at rfl) (q783 hs1 _)) (var_at rfl) (q196 hs8 bf (fun i hi => sby i hi) (by omega))) (call2 (var_at rfl) (var_at rfl) (q783 hs1 _)) fun i hi => or_by f v _ N i)) ?_
  refine ex_one (ρ' := [some (.c 0), some (.d (.int (s : Int))), some (.c 1), x3, some (.l [2, 3]), some (.d (.int (a : Int))), some (.d (.int (N : Int))), some (.d (.int (b - 1000))), some (.d (dVec s fun i => stepO (v i) (u i))), none, some (.d (dMat s s f)), some (.d (dVec s v)), some (.d (dVec s u)), some (.d (.str (PyData.shown (.list [dMat s s f, dVec s v])))), some (.d (.int (m : Int))), some (.d (dVec s (orF s f v N))), some (.d (dVec s (orF s f v (N + 1)))), none, none]) (asg_d (late2 hs1 (var_at rfl) (var_at rfl) fun a b => ⟨_, rfl, rfl, rfl⟩)) ?_
  refine ex_one (ρ' := [some (.c 0), some (.d (.int (s : Int))), some (.c 1), x3, some (.l [2, 3]), some (.d (.int (a : Int))), some (.d (.int (N : Int))), some (.d (.int (b - 1000))), some (.d (dVec s fun i => stepO (v i) (u i))), none, some (.d (dMat s s f)), some (.d (dVec s v)), some (.d (dVec s u)), some (.d (.str (PyData.shown (.list [dMat s s f, dVec s v])))), some (.d (.int (m : Int))), some (.d (dVec s (orF s f v N))), some (.d (dVec s (orF s f v (N + 1)))), none, none]) (if_no (ne_vec (call3 (var_at rfl) (var_at rfl) (var_at rfl) (q196 hs8 bf (fun i hi => bd_step (bv9 i hi) (bu9 i hi)) (by omega))) (late2 hs1 (var_at rfl) (call3 (var_at rfl) (var_at rfl) (var_at rfl) (q196 hs8 bf bu9 (by omega))) fun a b => ⟨_, rfl, rfl, rfl⟩) fun i hi => or_jo f v u N i)) ?_
  refine ex_one (ρ' := [some (.c 0), some (.d (.int (s : Int))), some (.c 1), x3, some (.l [2, 3]), some (.d (.int (a : Int))), some (.d (.int (N : Int))), some (.d (.int (b - 1000))), some (.d (dVec s fun i => stepO (v i) (u i))), none, some (.d (dMat s s f)), some (.d (dVec s v)), some (.d (dVec s u)), some (.d (.str (PyData.shown (.list [dMat s s f, dVec s v])))), some (.d (.int (m : Int))), some (.d (dVec s (orF s f v N))), some (.d (dVec s (orF s f v (N + 1)))), none, none]) (if_no (by rw [and2 (k1 := decide ((N : Int) ≤ 200)) (k2 := false) (cmp_dd (x := .int (N : Int)) (y := .int 200) (var_at rfl) ev_int rfl rfl rfl) (fun z => ne_self (repr_at (call3 (var_at rfl) (var_at rfl) (var_at rfl) (q196 hs8 bf bv9 (by omega))) rfl ((sv N (by omega)).ok (by decide) (by decide))) (repr_at (idx_last (call3 (var_at rfl) (var_at rfl) (var_at rfl) (q664 hs8 bf bv9 (m := N) (by have := of_decide_eq_true z; omega))) (neg_at ev_int) rfl (range_last (N := N) (h := fun k => dVec s (orF s f v k)))) rfl ((sv N (by omega)).ok (by decide) (by decide)))), Bool.and_false])) ?_
  refine ex_one (ρ' := [some (.c 0), some (.d (.int (s : Int))), some (.c 1), x3, some (.l [2, 3]), some (.d (.int (a : Int))), some (.d (.int (N : Int))), some (.d (.int (b - 1000))), some (.d (dVec s fun i => stepO (v i) (u i))), some (.d (.int (c - 99))), some (.d (dMat s s f)), some (.d (dVec s v)), some (.d (dVec s u)), some (.d (.str (PyData.shown (.list [dMat s s f, dVec s v])))), some (.d (.int (m : Int))), some (.d (dVec s (orF s f v N))), some (.d (dVec s (orF s f v (N + 1)))), none, none]) (st' := s12) (asg_d (bin_ii (call2 (var_at rfl) ev_int e12) ev_int rfl)) ?_
  refine ex_one (ρ' := [some (.c 0), some (.d (.int (s : Int))), some (.c 1), x3, some (.l [2, 3]), some (.d (.int (a : Int))), some (.d (.int (N : Int))), some (.d (.int (b - 1000))), some (.d (dVec s fun i => stepO (v i) (u i))), some (.d (.int (c - 99))), some (.d (dMat s s f)), some (.d (dVec s v)), some (.d (dVec s u)), some (.d (.str (PyData.shown (.list [dMat s s f, dVec s v])))), some (.d (.int (m : Int))), some (.d (dVec s (orF s f v N))), some (.d (dVec s (orF s f v (N + 1)))), none, none]) (if_no (or_f
    (ne_vec (c := 1) (u := orF 1 (fun _ _ => some (c - 99)) (fun _ => some (b - 1000)) N) (v := fun _ => some (b - 1000 + N * (c - 99))) (call3 (w1 := .d (dMat 1 1 fun _ _ => some (c - 99))) (w2 := .d (dVec 1 fun _ => some (b - 1000))) (tup1 (tup1 (var_at rfl))) (tup1 (var_at rfl)) (var_at rfl) (q196 (by decide) (fun i j hi hj z hz => by cases hz; omega) (fun i hi z hz => by cases hz; omega) (by omega)))
      (tup1 (bin_ii (var_at rfl) (bin_ii (var_at rfl) (var_at rfl) (mul_l (by omega))) rfl)) fun i hi => by rw [show i = 0 by omega]; exact or_one _ _ N)
    (ne_vec (c := 1) (u := orF 1 (fun _ _ => none) (fun _ => some (b - 1000)) N) (v := fun _ => if N = 0 then some (b - 1000) else none) (call3 (w1 := .d (dMat 1 1 fun _ _ => none)) (w2 := .d (dVec 1 fun _ => some (b - 1000))) (tup1 (tup1 ev_non)) (tup1 (var_at rfl)) (var_at rfl) (q196 (by decide) (fun i j hi hj z hz => by cases hz) (fun i hi z hz => by cases hz; omega) (by omega)))
      (ife_b (k := decide ((N : Int) = 0)) (cmp_dd (x := .int (N : Int)) (y := .int 0) (var_at rfl) ev_int rfl rfl cmpF_eqI) (fun z => by
        have z := of_decide_eq_true z
        rw [show N = 0 by omega]; exact tup1 (var_at rfl)) (fun z => by
        have z := of_decide_eq_false z
        rw [show dVec 1 (fun _ => if N = 0 then some (b - 1000) else none) = .tuple [.none] by simp [dVec, show ¬ N = 0 by omega]; rfl]
        exact tup1 ev_non)) fun i hi => by rw [show i = 0 by omega]; exact or_nil _ N))) ?_
  exact ex_rt (and2 (k1 := true) (k2 := true) (eq_strs (repr_at (call3 (var_at rfl) (var_at rfl) (var_at rfl) (q664 hs8 bf bv9 hm)) rfl (so.ok (by decide) (by decide))) (repr_at (var_at rfl) (by rw [rd_c, g12]; rfl) (so.ok (by decide) (by decide)))) (fun _ => eq_strs (repr_at (lst2 (var_at rfl) (var_at rfl)) rfl sfv) (var_at rfl)))
theorem holds (ns : List Int) : ∃ st', evCall (cOf cs) 100000 fs 40 4 [.s ns] [] = some (.d (.bool true), st') :=
  law_ok (n := 38) (cap := 2) (right := 10) (pot := 1) (p := 3943) (q := 2753) (m1 := 2147483549) (a := 40014) (b := 1933) (c := 3547) (m2 := 2147483563) rfl (by decide) rfl (by decide) (by decide) (by decide) (by decide) (by decide)
    (fun x y h1 h2 h3 => e_right (n := 30) x y h1 h2 h3) ns
end Z.L
set_option linter.all false
set_option autoImplicit false
namespace Z.L
open PySem Z
set_option maxRecDepth 100000
set_option maxHeartbeats 0
theorem ok : pts.all (Pt.ok tab) = true := by decide +kernel
theorem kwok : KwOk pts kwt := ⟨fun p hp => by
    cases (show some _ = some p from hp)
    intro K kV doc pm an cdv ct s us ws _ h1 h2
    match us, ws, h1, h2 with
    | [], [_, _, _], _, _ => exact .of_eq rfl, ⟨fun p hp => by
    cases (show some _ = some p from hp)
    intro K kV doc pm an cdv ct s us ws _ h1 h2
    match us, ws, h1, h2 with
    | [], [_, _, _], _, _ => exact .of_eq rfl, trivial⟩⟩
abbrev Rw : PySem.W.OpenRow := PySem.W.OpenLaw.row PySem.Challenge.rw_laterthen_k43_whole_orbits_and_times_beh
abbrev loose : List Str := (["is_integer", "is_within", "is_tuple", "TableError", "InvalidSquare", "InvalidVector", "InvalidMany", "MOST_ENTRY", "MOST_TIME", "latest", "then", "MOST_SIDE", "is_entry", "is_table_any", "is_square_any", "is_vector_of", "applied", "columns_of", "product", "want_square", "want_vector", "unit_of", "power_of", "MOST_ORBIT", "MOST_MANY", "orbit_of", "behind", "want_up_to", "orbit", "times_behind"] : List Str) ++ (["_law_pot", "_law_draw", "_law_pick", "_law_then", "_law_latest", "_law_applied", "_law_square", "_law_vector", "_law_shifted", "_law_number", "_law_right"] : List Str)
abbrev fa : List He.Fa := faOf pts cs
abbrev dd : List He.DefD := pts.map Pt.d
abbrev xf : List XF := xfOf cs
abbrev hk : PySem.W.Hook := hookX 4 fa dd xf
def ob (s : PySem.W.SharedT) : AlX := obsXG 4 fa dd xf (HandSHeadRun.getT s)
theorem ob_eq (s : PySem.W.SharedT) : ob s = hk.obs s.abs := obsXG_eq (HandSHeadRun.getT_eq s)
theorem run (w : World) : HandSHeadRun.RunEq Rw (PySem.W.view Rw.prog [48]) hk ob 4000 loose w := by
  intro os
  kernel_rfl
end Z.L
open PySem PySem.W PySem.Calls PyProof.Rows
set_option maxRecDepth 100000 in
set_option maxHeartbeats 0 in
theorem Z.L.the_end (holds : ∀ ns : List Int, ns.length ≤ 63 → ∃ st', Z.evCall (Z.cOf Z.L.cs) 100000 Z.L.fs 40 4 [.s ns] [] = some (.d (.bool true), st')) : PySem.Challenge.rw_laterthen_k43_whole_orbits_and_times_beh.Holds := by
  w_on; o_law
  refine HandSHeadRun.head_any (r := Z.L.Rw) (q := view Z.L.Rw.prog [48]) (H := Z.L.hk) (ob := Z.L.ob) (M := 4000) (loose := Z.L.loose) (d := HandSHeadRun.topDef Z.L.Rw.prog 48) (kwd := []) Z.L.ob_eq
    (by kernel_rfl) (fun s => by kernel_rfl) Z.L.run (by kernel_rfl) (by kernel_rfl) (by kernel_rfl) (by rfl) (by first | assumption | decide +kernel) (by decide +kernel) ⟨rfl, rfl, rfl, rfl, rfl, by decide +kernel⟩ ?hw ?hc
  case hw => w_witness2
  case hc =>
    refine Z.walkG (l := PySem.Challenge.rw_laterthen_k43_whole_orbits_and_times_beh) (n := 63) (k := 40) (x := "script") rfl (by decide) (by kernel_rfl) ⟨rfl, by decide, by decide⟩ ?F
    intro w mg fa h Y G hmg0
    obtain ⟨K, KX, c⟩ := Y
    have hmg : mg ("law" : PySem.Str) = some (.ref fa) := by
      have e : (HandSHeadRun.topDef Z.L.Rw.prog 48).name = ("law" : PySem.Str) := by kernel_rfl
      rw [← e]
      exact hmg0
    exact Z.law_facts (f := 4) (p := Z.L.pts.getLast (by decide)) KX G c Z.L.ok Z.L.kwok rfl rfl hmg holds
theorem PySem.Challenge.cw_laterthen_k43_whole_orbits_and_times_beh_holds : PySem.Challenge.rw_laterthen_k43_whole_orbits_and_times_beh.Holds := by
  exact Z.L.the_end fun ns _ => Z.L.holds ns

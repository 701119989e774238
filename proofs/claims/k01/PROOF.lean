import PyProof.Rows.All
import Wide.All
import OpenK.AllK
import Wide.FinOn
import PySem.Syntax
import HandS.ForMost
import HandS.Exc
import HandS.ExcOwn
import HandS.WordsExc
import HandS.HeadHook1
import KE.KDictKeyed
import HandS.Style
import HandS.Deep
import HandS.DictEq
import KE.KDictWalk
import KE.KDictCopyH
import KE.DataCmp
import KE.SortData
import PyProof.NeKinds
import KE.DatumOrd
import KE.KDictPairs
import HandS.IsInst
import HandS.Zip
import HandS.Rev
import HandS.Walk
import HandS.HeadWalk
import HandS.ExcInit
import HandS.ExcIs
import HandS.TupLen
import HandS.More
import HandS.NoneIn
import HandS.TryMany
import HandS.ExcField
import HandS.HeadEnd
import HandS.Head0
import HandS.Head1
import HandS.Head2
import KE.KStateDown
import PySem.Challenge.RW_moonseat_k01_rules_told
/-! MP0 -/
set_option Elab.async false
set_option linter.all false
/-! MP0: the small language: values D, owned values O, expressions E, statements S, and what they compute. No program, no heap. -/
namespace MP
open PySem (Str)
/-! ### values -/
/-- a value as a tree; what it holds is never changed -/
inductive D where
  | non | bl (b : Bool) | int (i : Int) | str (s : Str)
  | tup (l : List D) | lst (l : List D)
  | dct (t : Bool) (ks vs : List D)
  | ins (c : Str) (ns : List Str) (fs : List D)
  | scr (l : List Int)
  | cell (n : Nat)
  deriving Inhabited
/-- an expression's value: shared, or a container that nobody else holds -/
inductive O where
  | sh (d : D) | ol (l : List O) | od (t : Bool) (ks : List D) (vs : List O) | oi (c : Str) (ns : List Str) (fs : List O) | ot (l : List O)
  deriving Inhabited
/-- what a name holds -/
inductive Sl where
  | no | va (d : D) | ow (o : O)
  deriving Inhabited
mutual
/-- the value, from now on unchanged -/
def fz : O → D
  | .sh d => d
  | .ol l => .lst (fzs l)
  | .od t ks vs => .dct t ks (fzs vs)
  | .oi c ns fs => .ins c ns (fzs fs)
  | .ot l => .tup (fzs l)
def fzs : List O → List D
  | [] => []
  | o :: r => fz o :: fzs r
end
theorem fzs_map (l : List O) : fzs l = l.map fz := by
  induction l with
  | nil => rfl
  | cons a r ih => simp [fzs, ih]
@[simp] theorem fzs_sh (l : List D) : fzs (l.map O.sh) = l := by
  induction l with
  | nil => rfl
  | cons a r ih => simp [fzs, fz, ih]
@[simp] theorem fz_sh (d : D) : fz (.sh d) = d := rfl
@[simp] theorem fz_ol_sh (l : List D) : fz (.ol (l.map O.sh)) = .lst l := by simp [fz]
mutual
/-- no list, dict or instance in it -/
def noL : D → Bool
  | .non => true | .bl _ => true | .int _ => true | .str _ => true | .cell _ => true
  | .tup l => noLs l
  | _ => false
def noLs : List D → Bool
  | [] => true
  | d :: r => noL d && noLs r
end
mutual
/-- what may leave while own lists are lent -/
def okB : O → Bool
  | .sh d => noL d
  | .ol l => okBs l
  | .od _ ks vs => noLs ks && okBs vs
  | .oi _ _ fs => okBs fs
  | .ot _ => false
def okBs : List O → Bool
  | [] => true
  | o :: r => okB o && okBs r
end
/-- a text of code points -/
def sOk (s : Str) : Bool := s.cps.all (· < 0x110000)
mutual
/-- data that == can be asked of, to a depth -/
def wf : Nat → D → Bool
  | _, .non => true | _, .bl _ => true | _, .int _ => true | _, .str s => sOk s
  | n + 1, .tup l => wfs n l
  | n + 1, .lst l => wfs n l
  | _, _ => false
def wfs : Nat → List D → Bool
  | _, [] => true
  | n, d :: r => wf n d && wfs n r
end
def b2i (b : Bool) : Int := if b then 1 else 0
mutual
/-- Python's == -/
def deq : D → D → Bool
  | .non, .non => true
  | .bl a, .bl b => a == b
  | .bl a, .int b => b2i a == b
  | .int a, .bl b => a == b2i b
  | .int a, .int b => a == b
  | .str a, .str b => a == b
  | .tup a, .tup b => deqs a b
  | .lst a, .lst b => deqs a b
  | _, _ => false
def deqs : List D → List D → Bool
  | [], [] => true
  | a :: r, b :: s => deq a b && deqs r s
  | _, _ => false
end
mutual
/-- what may be a key among tuples -/
def keyT : Nat → D → Bool
  | _, .non => true | _, .bl _ => true | _, .int _ => true
  | n + 1, .tup l => keyTs n l
  | _, _ => false
def keyTs : Nat → List D → Bool
  | _, [] => true
  | n, d :: r => keyT n d && keyTs n r
end
/-- a key of a dict of tuples (t), or of one of texts -/
def isKey (t : Bool) : D → Bool
  | .tup l => t && keyTs 6 l
  | .str _ => !t
  | _ => false
def LIM : Nat := 16777216
/-! ### results -/
inductive Rs (α : Type) where
  | ok (a : α) (μ : List O)
  | er (c : Str) (fs : List D) (μ : List O)
  | bad
def Rs.bind {α β : Type} (r : Rs α) (f : α → List O → Rs β) : Rs β := match r with
  | .ok a μ => f a μ
  | .er c fs μ => .er c fs μ
  | .bad => .bad
@[simp] theorem Rs.bind_ok {α β : Type} (a : α) (μ : List O) (f : α → List O → Rs β) : (Rs.ok a μ).bind f = f a μ := rfl
@[simp] theorem Rs.bind_er {α β : Type} (c : Str) (fs : List D) (μ : List O) (f : α → List O → Rs β) : (Rs.er c fs μ : Rs α).bind f = .er c fs μ := rfl
@[simp] theorem Rs.bind_bad {α β : Type} (f : α → List O → Rs β) : (Rs.bad : Rs α).bind f = .bad := rfl
def lift {α : Type} (o : Option α) (μ : List O) : Rs α := match o with
  | some a => .ok a μ
  | none => .bad
@[simp] theorem lift_some {α : Type} (a : α) (μ : List O) : lift (some a) μ = .ok a μ := rfl
@[simp] theorem lift_none {α : Type} (μ : List O) : lift (none : Option α) μ = .bad := rfl
/-! ### operators -/
inductive BO where
  | add | sub | mul | fdiv | mod | pow
  deriving DecidableEq
def B64 : Int := 18446744073709551616
def binD : BO → D → D → Option O
  | .add, .int i, .int j => some (.sh (.int (i + j)))
  | .add, .str x, .str y => if x.length + y.length ≤ LIM then some (.sh (.str (x ++ y))) else none
  | .add, .lst a, .lst b => if a.length + b.length ≤ LIM then some (.ol ((a ++ b).map .sh)) else none
  | .add, .tup a, .tup b => if a ≠ [] ∧ a.length + b.length ≤ LIM then some (.sh (.tup (a ++ b))) else none
  | .sub, .int i, .int j => some (.sh (.int (i - j)))
  | .mul, .int i, .int j => if (-B64 < i ∧ i < B64) ∨ (-B64 < j ∧ j < B64) then some (.sh (.int (i * j))) else none
  | .fdiv, .int i, .int j => if 0 < j ∧ j < 1073741824 then some (.sh (.int (i / j))) else none
  | .mod, .int i, .int j => if 0 < j then some (.sh (.int (i % j))) else none
  | .pow, .int i, .int j => if 0 ≤ j ∧ j ≤ 1000000 ∧ -B64 < i ∧ i < B64 then some (.sh (.int (i ^ j.toNat))) else none
  | _, _, _ => none
def augD (op : BO) : D → D → Option Int
  | .int a, .int b => (match op with
    | .add => some (a + b)
    | .sub => some (a - b)
    | _ => none)
  | _, _ => none
inductive CO where
  | eq | ne | lt | le | gt | ge | isin | notin | is | isnot
  deriving DecidableEq
/-- in a list: equal to one of them -/
def inD (d : D) (l : List D) : Bool := l.any fun z => deq z d
def lookD (k : D) : List D → List D → Option D
  | a :: r, v :: s => if deq a k then some v else lookD k r s
  | _, _ => none
def isD (x y : D) : Option Bool := match y with
  | .non => some (match x with
    | .non => true
    | _ => false)
  | .bl b => (match x with
    | .bl a => some (a == b)
    | _ => none)
  | _ => none
def eqD (x y : D) : Option Bool := match x, y with
  | .str a, .str b => some (a == b)
  | .dct true ks _, .dct true [] _ => some ks.isEmpty
  | _, _ => if wf 8 x && wf 8 y then some (deq x y) else match x, y with
    | .lst a, .lst [] => some a.isEmpty
    | _, _ => none
def memD (x y : D) : Option Bool := match y with
  | .lst l => if wf 8 x && wfs 8 l then some (inD x l) else none
  | .tup l => if wf 0 x && wfs 0 l then some (inD x l) else none
  | .str s => (match x with
    | .str c => if c.length = 1 then some (decide (c.cps.getD 0 0 ∈ s.cps.toList)) else none
    | _ => none)
  | .dct true ks vs => if isKey true x then some (lookD x ks vs).isSome else none
  | _ => none
def allInt : List D → Option (List Int)
  | [] => some []
  | .int i :: r => (allInt r).map (i :: ·)
  | _ :: _ => none
def allRows : List D → Option (List (List Int))
  | [] => some []
  | .lst l :: r => (match allInt l, allRows r with
    | some ns, some rs => some (ns :: rs)
    | _, _ => none)
  | _ :: _ => none
def minR (a y : List Int) : List Int := if y < a then y else a
def keyPut (k : D) (o : O) : List D → List O → List D × List O
  | a :: r, v :: s => if deq a k then (a :: r, o :: s) else let q := keyPut k o r s; (a :: q.1, v :: q.2)
  | _, _ => ([k], [o])
/-- a dict of pairs, put in one by one -/
def dictF : List (D × D) → List D × List O → List D × List O
  | [], a => a
  | p :: ps, a => dictF ps (keyPut p.1 (.sh p.2) a.1 a.2)
def allPairs : List D → Option (List (D × D))
  | [] => some []
  | .tup [k, v] :: r => (allPairs r).map ((k, v) :: ·)
  | _ :: _ => none
def cmpD (c : CO) (x y : D) : Option Bool := match c with
  | .eq => eqD x y
  | .ne => (eqD x y).map (!·)
  | .lt => (match x, y with
    | .int i, .int j => some (decide (i < j))
    | .lst a, .lst b => (match allInt a, allInt b with
      | some ns, some ms => some (decide (ns < ms))
      | _, _ => none)
    | _, _ => none)
  | .le => (match x, y with
    | .int i, .int j => some (decide (i ≤ j))
    | _, _ => none)
  | .gt => (match x, y with
    | .int i, .int j => some (decide (j < i))
    | _, _ => none)
  | .ge => (match x, y with
    | .int i, .int j => some (decide (j ≤ i))
    | _, _ => none)
  | .isin => memD x y
  | .notin => (memD x y).map (!·)
  | .is => isD x y
  | .isnot => (isD x y).map (!·)
/-- the place of an index, from the left or from the right -/
def ixN (n : Nat) (i : Int) : Option Nat := if 0 ≤ i then (if i < n then some i.toNat else none) else if -(n : Int) ≤ i then some (i + n).toNat else none
def atI {α : Type} (xs : List α) (i : Int) : Option α := (ixN xs.length i).bind fun j => xs[j]?
def sIx (n d : Nat) : Option Int → Nat
  | none => d
  | some v => if v < 0 then (v + n).toNat else min v.toNat n
def cut {α : Type} (xs : List α) (lo hi : Option Int) : List α := (xs.drop (sIx xs.length 0 lo)).take (sIx xs.length xs.length hi - sIx xs.length 0 lo)
def ixD (x i : D) : Option D := match x, i with
  | .lst l, .int k => atI l k
  | .tup l, .int k => atI l k
  | .str s, .int k => if s.length ≤ LIM then (atI s.cps.toList k).map fun c => D.str ⟨#[c]⟩ else none
  | .dct true ks vs, k => if isKey true k then lookD k ks vs else none
  | _, _ => none
def cutD (x : D) (lo hi : Option Int) : Option O := match x with
  | .lst l => some (.ol ((cut l lo hi).map .sh))
  | .tup l => if sIx l.length 0 lo = 0 ∧ sIx l.length l.length hi = l.length then none else some (.sh (.tup (cut l lo hi)))
  | .scr l => some (.ol ((cut l lo hi).map fun i => .sh (.int i)))
  | .str s => if s.length ≤ LIM then some (.sh (.str ⟨(cut s.cps.toList lo hi).toArray⟩)) else none
  | _ => none
def fldD (c : Str) (x : D) (f : Str) : Option D := match x with
  | .ins c' ns fs => if c' = c then (ns.zip fs).lookup f else none
  | _ => none
/-! ### built-ins -/
inductive Bi where
  | len | list | tuple | sum | min1 | min2 | max2 | all | any | int1 | str1 | sorted | dict1 | isLst | isTup | isSeq | isBool | isStr | isInt
  | split | join | index | get | replace
  | rng1 | rng2 | rng3 | enum | zip | rev | items
  deriving DecidableEq
def allBl : List D → Option (List Bool)
  | [] => some []
  | .bl i :: r => (allBl r).map (i :: ·)
  | _ :: _ => none
def zipD : List D → List D → List D
  | a :: r, b :: s => .tup [a, b] :: zipD r s
  | _, _ => []
def enumD : Int → List D → List D
  | _, [] => []
  | n, d :: r => .tup [.int n, d] :: enumD (n + 1) r
def rngD (lo : Int) : Nat → List D
  | 0 => []
  | n + 1 => .int lo :: rngD (lo + 1) n
/-- range(lo, hi, -1) -/
def rngN (lo : Int) : Nat → List D
  | 0 => []
  | n + 1 => .int lo :: rngN (lo - 1) n
def seqD : D → Option (List D)
  | .lst l => some l
  | .tup l => some l
  | _ => none
/-- what a loop walks -/
def itD : D → Option (List D)
  | .lst l => some l
  | .tup l => some l
  | .str s => some (s.cps.toList.map fun c => .str ⟨#[c]⟩)
  | _ => none
def B62 : Int := 4611686018427387904
def fit (i : Int) : Bool := decide (-B62 ≤ i ∧ i < B62)
def biD (b : Bi) (xs : List D) : Option O := match b, xs with
  | .len, [.lst l] => some (.sh (.int l.length))
  | .len, [.tup l] => some (.sh (.int l.length))
  | .len, [.str s] => if s.length ≤ LIM then some (.sh (.int s.length)) else none
  | .len, [.dct true ks _] => some (.sh (.int ks.length))
  | .list, [.lst l] => some (.ol (l.map .sh))
  | .list, [.tup l] => some (.ol (l.map .sh))
  | .list, [.dct true ks _] => some (.ol (ks.map .sh))
  | .tuple, [.lst l] => some (.sh (.tup l))
  | .tuple, [.tup l] => some (.sh (.tup l))
  | .sum, [.lst l] => (allInt l).map fun ns => .sh (.int ns.sum)
  | .min1, [.lst l] => (match allInt l with
    | some (n :: ns) => some (.sh (.int (ns.foldl min n)))
    | _ => (match allRows l with
      | some (r :: rs) => some (.sh (.lst ((rs.foldl minR r).map .int)))
      | _ => none))
  | .dict1, [.lst l] => (match allPairs l with
    | some ps => if ps.all (fun p => isKey true p.1) && decide (ps.length ≤ LIM) then some (.od true (dictF ps ([], [])).1 (dictF ps ([], [])).2) else none
    | none => none)
  | .min2, [.int i, .int j] => some (.sh (.int (if j < i then j else i)))
  | .max2, [.int i, .int j] => some (.sh (.int (if i < j then j else i)))
  | .all, [.lst l] => (allBl l).map fun bs => .sh (.bl (bs.all id))
  | .any, [.lst l] => (allBl l).map fun bs => .sh (.bl (bs.any id))
  | .int1, [.bl c] => some (.sh (.int (b2i c)))
  | .int1, [.int i] => some (.sh (.int i))
  | .isLst, [d] => (match d with
    | .lst _ => some (.sh (.bl true))
    | .cell _ => none | .scr _ => none | .ins _ _ _ => none | .dct _ _ _ => none
    | _ => some (.sh (.bl false)))
  | .isTup, [d] => (match d with
    | .tup _ => some (.sh (.bl true))
    | .cell _ => none | .scr _ => none | .ins _ _ _ => none | .dct _ _ _ => none
    | _ => some (.sh (.bl false)))
  | .isSeq, [d] => (match d with
    | .tup _ => some (.sh (.bl true))
    | .lst _ => some (.sh (.bl true))
    | .cell _ => none | .scr _ => none | .ins _ _ _ => none | .dct _ _ _ => none
    | _ => some (.sh (.bl false)))
  | .isBool, [d] => (match d with
    | .bl _ => some (.sh (.bl true))
    | .cell _ => none | .scr _ => none | .ins _ _ _ => none | .dct _ _ _ => none
    | _ => some (.sh (.bl false)))
  | .isStr, [d] => (match d with
    | .str _ => some (.sh (.bl true))
    | .cell _ => none | .scr _ => none | .ins _ _ _ => none | .dct _ _ _ => none
    | _ => some (.sh (.bl false)))
  | .isInt, [d] => (match d with
    | .int _ => some (.sh (.bl true))
    | .bl _ => some (.sh (.bl true))
    | .cell _ => none | .scr _ => none | .ins _ _ _ => none | .dct _ _ _ => none
    | _ => some (.sh (.bl false)))
  | .rng1, [.int j] => if fit j then some (.ol ((rngD 0 j.toNat).map .sh)) else none
  | .rng2, [.int i, .int j] => if fit i && fit j then some (.ol ((rngD i (j - i).toNat).map .sh)) else none
  | .rng3, [.int i, .int j, .int k] => if fit i && fit j && decide (k = -1) then some (.ol ((rngN i (i - j).toNat).map .sh)) else none
  | .enum, [.lst l] => some (.ol ((enumD 0 l).map .sh))
  | .zip, [x, y] => (match seqD x, seqD y with
    | some a, some b => some (.ol ((zipD a b).map .sh))
    | _, _ => none)
  | .get, [.dct true ks vs, k, v] => if isKey true k then some (.sh ((lookD k ks vs).getD v)) else none
  | .index, [.lst l, x] => if wf 8 x && wfs 8 l then (l.findIdx? fun z => deq z x).map (fun j : Nat => O.sh (.int (j : Int))) else none
  | .rev, [.lst l] => some (.ol (l.reverse.map .sh))
  | _, _ => none
/-- a value that has the method -/
def bmOk : Bi → D → Bool
  | .get, .dct true _ _ => true
  | .index, .lst _ => true
  | _, _ => false
/-! ### places: a slot (one's own, or a common cell), then items and fields, the outermost first -/
inductive Ix where
  | c (i : Int) | v (j : Nat) | s (j : Nat) (n : Int)
inductive Stp where
  | ix (x : Ix) | fl (c f : Str)
structure Pl where
  i : Nat
  rs : List Stp
/-! ### the syntax -/
/-- a target: names by their places -/
inductive T where
  | nm (i : Nat)
  | tp (l : List T)
inductive E where
  | bad | non | bl (b : Bool) | int (i : Int) | str (s : Str)
  | var (i : Nat)
  | glI (x : Str) (i : Int) | glS (x : Str) (s : Str)
  | bin (op : BO) (a b : E)
  | neg (a : E) | nt (a : E)
  | and (a b : E) | or (a b : E)
  | cmp (c : CO) (a b : E)
  | chn (c c' : CO) (a b d : E)
  | chn3 (c c' c'' : CO) (a b d e : E)
  | ife (t a b : E)
  | ix (a i : E)
  | sl (a : E) (lo hi : Option E)
  | fld (c : Str) (a : E) (f : Str)
  | lst (es : List E)
  | tup (es : List E)
  | dnew (t : Bool)
  | lc (elt : E) (tg : T) (it : E) (cd : Option E)
  | call (f : Str) (es : List E)
  | mk (c : Str) (es : List E)
  | meth (c : Str) (a : E) (m : Str) (es : List E)
  | bi (b : Bi) (es : List E)
  | bm (b : Bi) (a : E) (es : List E)
  | bor (is : List Nat) (e : E)
  | oix (i : Nat) (e : E)
  | shl (e : E)
  | rvs (e : E)
  | lcO (elt : E) (tg : T) (it : E)
  | prd (pl : Pl)
  | plen (pl : Pl)
  | pnil (neg : Bool) (pl : Pl)
  | plist (pl : Pl)
  | psl (pl : Pl) (lo hi : Option Ix)
  | plc (elt : E) (tg : T) (pl : Pl)
/-- a mark of a caught error: is it of this class (one of these)? or as written -/
inductive HF where
  | is (y : Str) (cl : List Str) | lit (b : Bool) | fd (f : Str)
def hfV (c : Str) : HF → Bool
  | .is _ cl => cl.contains c
  | .lit b => b
  | .fd _ => false
/-- the fields that an error's own __init__ stores, in order -/
def xNames (c : Str) : List Str := if c = "Broken" then ["place", "word"] else if c = "Stranded" then ["name"] else if c = "BadRow" then ["at"] else []
def fdL : List Str → List D → Str → Option D
  | n :: ns, d :: ds, f => if n = f then some d else fdL ns ds f
  | _, _, _ => none
def hfD (c : Str) (fs : List D) : HF → Option D
  | .is _ cl => some (.bl (cl.contains c))
  | .lit b => some (.bl b)
  | .fd f => fdL (xNames c) fs f
def hfDs (c : Str) (fs : List D) : List HF → Option (List D)
  | [] => some []
  | h :: r => (hfD c fs h).bind fun d => (hfDs c fs r).map fun ds => d :: ds
/-- what a clause does: j = [..], j = (..), j = e.f -/
inductive HA where
  | ls (j : Nat) (l : List HF) | tp (j : Nat) (l : List HF) | on (j : Nat) (f : Str)
def HA.j : HA → Nat
  | .ls j _ => j | .tp j _ => j | .on j _ => j
def HA.d (c : Str) (fs : List D) : HA → Option D
  | .ls _ l => (hfDs c fs l).map .lst
  | .tp _ l => (hfDs c fs l).map .tup
  | .on _ f => fdL (xNames c) fs f
/-- a clause: its class, which of the known ones it takes, its name's slot, what it does -/
structure HC where
  y : Str
  cs : List Str
  ie : Nat
  acts : List HA
inductive S where
  | asg (tg : T) (e : E)
  | own (i : Nat) (e : E)
  | aug (i : Nat) (op : BO) (e : E)
  | ex (e : E)
  | app (i : Nat) (e : E)
  | ins (i : Nat) (k e : E)
  | setx (i : Nat) (k e : E)
  | appx (i : Nat) (k e : E)
  | setxx (i : Nat) (k1 k2 e : E)
  | fset (c : Str) (i : Nat) (f : Str) (e : E)
  | ifs (t : E) (a b : List S)
  | whl (n : Nat) (t : E) (b : List S)
  | for (tg : T) (it : E) (b : List S)
  | ret (e : E) | retN | retO (i : Nat)
  | rais (c : Str) (es : List E)
  | brk | cnt | pass | unk
  | frz (i : Nat) (drop : List Nat)
  | try (b : List S) (y : Str) (all cs : List Str) (ie j : Nat) (l : List HF)
  | tryM (b : List S) (all : List Str) (hs : List HC)
  | papp (pl : Pl) (own : Bool) (e : E)
  | pins (pl : Pl) (own : Bool) (k e : E)
  | pset (pl : Pl) (x : Ix) (own : Bool) (e : E)
  | pfld (pl : Pl) (c f : Str) (own : Bool) (e : E)
  | pclr (pl : Pl)
  | pdel (pl : Pl) (x : Ix)
  | pappS (pl : Pl) (ats : List (Nat ⊕ Pl))
  | ppop (tg : T) (pl : Pl)
  | pmov (pl pl2 : Pl)
  | forO (tg : T) (pl : Pl) (b : List S)
  | retC (i : Nat)
  | retT (l : List (Nat ⊕ E))
  | unpT (is : List Nat) (i : Nat)
  | celN (i : Nat)
  | frzC (i : Nat)
  | resl (i : Nat) (e : E)
  | cutL (i : Nat)
  | forI (tg : T) (i : Nat) (b : List S)
  | unc (i : Nat)
  | wth (i : Nat) (b : List S)
  | fsetO (c : Str) (i : Nat) (f : Str) (e : E)
  | forC (t : Nat) (i : Nat) (es : List E) (b : List S)
/-! ### environments -/
def getV (ρ : List Sl) (i : Nat) : Option D := match ρ[i]? with
  | some (.va d) => some d
  | _ => none
mutual
def setT : T → D → List Sl → Option (List Sl)
  | .nm i, d, ρ => some (ρ.set i (.va d))
  | .tp ts, d, ρ => match d with
    | .tup ds => setTs ts ds ρ
    | .lst ds => setTs ts ds ρ
    | _ => none
def setTs : List T → List D → List Sl → Option (List Sl)
  | [], [], ρ => some ρ
  | t :: ts, d :: ds, ρ => (setT t d ρ).bind fun ρ' => setTs ts ds ρ'
  | _, _, _ => none
end
/-- own containers lent: read as values -/
def lend (ρ : List Sl) : List Nat → List Sl
  | [] => ρ
  | i :: r => match (lend ρ r)[i]? with
    | some (.ow o) => (lend ρ r).set i (.va (fz o))
    | _ => lend ρ r
/-- forgotten -/
def drops (ρ : List Sl) : List Nat → List Sl
  | [] => ρ
  | i :: r => (drops ρ r).set i .no
mutual
/-- the names that a target stores -/
def tgN : T → List Nat
  | .nm i => [i]
  | .tp ts => tgNs ts
def tgNs : List T → List Nat
  | [] => []
  | t :: ts => tgN t ++ tgNs ts
end
def ownL (ρ : List Sl) (i : Nat) : Option (List O) := match ρ[i]? with
  | some (.ow (.ol l)) => some l
  | _ => none
/-- a shared item of an own list -/
def oixO (l : List O) : D → Option O
  | .int j => (match atI l j with
    | some (.sh d) => some (.sh d)
    | _ => none)
  | _ => none
/-- an instance of the class, without an attribute of that name -/
def metO (c m : Str) : D → Bool
  | .ins c' ns _ => decide (c' = c) && decide (m ∉ ns)
  | _ => false
mutual
/-- no common cell in it -/
def noC : D → Bool
  | .cell _ => false
  | .tup l => noCs l
  | .lst l => noCs l
  | .dct _ ks vs => noCs ks && noCs vs
  | .ins _ _ fs => noCs fs
  | _ => true
def noCs : List D → Bool
  | [] => true
  | d :: r => noC d && noCs r
end
/-- slots that hold no cell -/
def dropC : List Sl → List Sl
  | [] => []
  | .va d :: r => (if noC d then .va d else .no) :: dropC r
  | _ :: r => .no :: dropC r
/-- lent; the common cells out of sight -/
def borE (ρ : List Sl) (is : List Nat) : List O → List Sl
  | [] => lend ρ is
  | _ :: _ => dropC (lend ρ is)
def ixV (ρ : List Sl) : Ix → Option Int
  | .c i => some i
  | .v j => (match getV ρ j with
    | some (.int i) => some i
    | _ => none)
  | .s j n => (match getV ρ j with
    | some (.int i) => some (i + n)
    | _ => none)
def ixO (ρ : List Sl) : Option Ix → Option (Option Int)
  | none => some none
  | some x => (ixV ρ x).map some
def idxF : List Str → Str → Option Nat
  | [], _ => none
  | n :: ns, f => if n = f then some 0 else (idxF ns f).map (· + 1)
def kidsO : O → List O
  | .sh _ => []
  | .ol l => l
  | .ot l => l
  | .oi _ _ fs => fs
  | .od _ _ vs => vs
def setK : O → List O → O
  | .sh d, _ => .sh d
  | .ol _, l => .ol l
  | .ot _, l => .ot l
  | .oi c ns _, l => .oi c ns l
  | .od t ks _, l => .od t ks l
/-- the place of a part -/
def kidN (ρ : List Sl) : Stp → O → Option Nat
  | .ix x, .ol l => (ixV ρ x).bind (ixN l.length)
  | .ix x, .ot l => (ixV ρ x).bind (ixN l.length)
  | .fl c f, .oi c' ns _ => if c' = c then idxF ns f else none
  | _, _ => none
def rootO (ρ : List Sl) (μ : List O) (i : Nat) : Option O := match ρ[i]? with
  | some (.ow o) => some o
  | some (.va (.cell n)) => μ[n]?
  | _ => none
/-- is it a common cell? -/
def rootC (ρ : List Sl) (i : Nat) : Bool := match ρ[i]? with
  | some (.va _) => true
  | _ => false
/-- the way down, and what lies there -/
def locP (ρ : List Sl) (μ : List O) (i : Nat) : List Stp → Option (List Nat × O)
  | [] => (rootO ρ μ i).map fun o => ([], o)
  | s :: rs => (locP ρ μ i rs).bind fun q => (kidN ρ s q.2).bind fun n => (kidsO q.2)[n]?.map fun o => (q.1 ++ [n], o)
def putP : O → List Nat → O → O
  | _, [], x => x
  | o, n :: p, x => match (kidsO o)[n]? with
    | some c => setK o ((kidsO o).set n (putP c p x))
    | none => o
def putE (ρ : List Sl) (μ : List O) (i : Nat) (p : List Nat) (x : O) : List Sl := match ρ[i]? with
  | some (.ow o) => ρ.set i (.ow (putP o p x))
  | _ => ρ
def putM (ρ : List Sl) (μ : List O) (i : Nat) (p : List Nat) (x : O) : List O := match ρ[i]? with
  | some (.va (.cell n)) => (match μ[n]? with
    | some o => μ.set n (putP o p x)
    | none => μ)
  | _ => μ
def allSh : List O → Option (List D)
  | [] => some []
  | .sh d :: r => (allSh r).map (d :: ·)
  | _ :: _ => none
def itm (own : Bool) (x : O) : O := if own then x else .sh (fz x)
/-- a place whose root does not move while expressions are reckoned -/
def firm (ρ : List Sl) (pl : Pl) : Bool := !rootC ρ pl.i || pl.rs.isEmpty
/-- names and places, read -/
def atD (ρ : List Sl) (μ : List O) : List (Nat ⊕ Pl) → Option (List D)
  | [] => some []
  | .inl j :: r => (getV ρ j).bind fun d => (atD ρ μ r).map fun ds => d :: ds
  | .inr pl :: r => (match locP ρ μ pl.i pl.rs with
    | some (_, .sh d) => (atD ρ μ r).map fun ds => d :: ds
    | _ => none)
def fldO (c : Str) (x : O) (f : Str) (o : O) : Option O := match x with
  | .oi c' ns fs => if c' = c then (match idxF ns f with
    | some n => if fs.length = ns.length then some (.oi c ns (fs.set n o)) else none
    | none => none) else none
  | _ => none
/-- without its last -/
def lastO (x : O) : Option (O × D) := match x with
  | .ol l => (match l.getLast? with
    | some (.sh d) => some (.ol l.dropLast, d)
    | _ => none)
  | _ => none
def ownT (ρ : List Sl) (i : Nat) : Option (List O) := match ρ[i]? with
  | some (.ow (.ot l)) => some l
  | _ => none
def slotO : O → Sl
  | .sh d => .va d
  | o => .ow o
def putSl : List Nat → List O → List Sl → List Sl
  | i :: is, o :: os, ρ => putSl is os (ρ.set i (slotO o))
  | _, _, ρ => ρ
/-! ### what an expression computes -/
abbrev Fns := Str → List D → List O → Rs O
/-- the items of a comprehension -/
def lcRun (f : D → List O → Rs (Option D)) : List D → List O → Rs (List D)
  | [], μ => .ok [] μ
  | d :: r, μ => (f d μ).bind fun x μ1 => (lcRun f r μ1).bind fun xs μ2 => .ok (match x with
    | some y => y :: xs
    | none => xs) μ2
/-- the items of a comprehension, one's own -/
def lcRunO (f : D → List O → Rs O) : List D → List O → Rs (List O)
  | [], μ => .ok [] μ
  | d :: r, μ => (f d μ).bind fun x μ1 => (lcRunO f r μ1).bind fun xs μ2 => .ok (x :: xs) μ2
/-- turned about -/
def rvsD (d : D) : Option O := match d with
  | .lst l => some (.ol (l.reverse.map .sh))
  | _ => none
def asB (o : O) : Option Bool := match o with
  | .sh (.bl b) => some b
  | _ => none
/-- what must not raise -/
def Rs.calm {α : Type} (r : Rs α) : Rs α := match r with
  | .ok a μ => .ok a μ
  | _ => .bad
def optI (d : D) : Option (Option Int) := match d with
  | .int i => some (some i)
  | _ => none
section
variable (Φ : Fns)
mutual
def evE : E → List Sl → List O → Rs O
  | .bad, _, _ => .bad
  | .non, _, μ => .ok (.sh .non) μ
  | .bl b, _, μ => .ok (.sh (.bl b)) μ
  | .int i, _, μ => .ok (.sh (.int i)) μ
  | .str s, _, μ => .ok (.sh (.str s)) μ
  | .var i, ρ, μ => lift ((getV ρ i).map O.sh) μ
  | .glI _ i, _, μ => .ok (.sh (.int i)) μ
  | .glS _ s, _, μ => .ok (.sh (.str s)) μ
  | .bin op a b, ρ, μ => (evE a ρ μ).bind fun x μ1 => (evE b ρ μ1).bind fun y μ2 => lift (binD op (fz x) (fz y)) μ2
  | .neg a, ρ, μ => (evE a ρ μ).bind fun x μ1 => (match fz x with
    | .int i => .ok (.sh (.int (-i))) μ1
    | _ => .bad)
  | .nt a, ρ, μ => (evE a ρ μ).bind fun x μ1 => lift ((asB x).map fun b => .sh (.bl (!b))) μ1
  | .and a b, ρ, μ => (evE a ρ μ).bind fun x μ1 => (match asB x with
    | some true => (evE b ρ μ1).bind fun y μ2 => lift ((asB y).map fun c => .sh (.bl c)) μ2
    | some false => .ok (.sh (.bl false)) μ1
    | none => .bad)
  | .or a b, ρ, μ => (evE a ρ μ).bind fun x μ1 => (match asB x with
    | some false => (evE b ρ μ1).bind fun y μ2 => lift ((asB y).map fun c => .sh (.bl c)) μ2
    | some true => .ok (.sh (.bl true)) μ1
    | none => .bad)
  | .cmp c a b, ρ, μ => (evE a ρ μ).bind fun x μ1 => (evE b ρ μ1).bind fun y μ2 => lift ((cmpD c (fz x) (fz y)).map fun b => .sh (.bl b)) μ2
  | .chn c c' a b d, ρ, μ => (evE a ρ μ).bind fun x μ1 => (evE b ρ μ1).bind fun y μ2 => (match cmpD c (fz x) (fz y) with
    | some true => (evE d ρ μ2).bind fun z μ3 => lift ((cmpD c' (fz y) (fz z)).map fun b => .sh (.bl b)) μ3
    | some false => .ok (.sh (.bl false)) μ2
    | none => .bad)
  | .chn3 c c' c'' a b d e, ρ, μ => (evE a ρ μ).bind fun x μ1 => (evE b ρ μ1).bind fun y μ2 => (match cmpD c (fz x) (fz y) with
    | some true => (evE d ρ μ2).bind fun z μ3 => (match cmpD c' (fz y) (fz z) with
      | some true => (evE e ρ μ3).bind fun u μ4 => lift ((cmpD c'' (fz z) (fz u)).map fun b => .sh (.bl b)) μ4
      | some false => .ok (.sh (.bl false)) μ3
      | none => .bad)
    | some false => .ok (.sh (.bl false)) μ2
    | none => .bad)
  | .ife t a b, ρ, μ => (evE t ρ μ).bind fun x μ1 => (match asB x with
    | some true => evE a ρ μ1
    | some false => evE b ρ μ1
    | none => .bad)
  | .ix a i, ρ, μ => (evE a ρ μ).bind fun x μ1 => (evE i ρ μ1).bind fun y μ2 => lift ((ixD (fz x) (fz y)).map .sh) μ2
  | .sl a lo hi, ρ, μ => (evE a ρ μ).bind fun x μ1 => (evO lo ρ μ1).bind fun l μ2 => (evO hi ρ μ2).bind fun h μ3 => lift (cutD (fz x) l h) μ3
  | .fld c a f, ρ, μ => (evE a ρ μ).bind fun x μ1 => lift ((fldD c (fz x) f).map .sh) μ1
  | .lst es, ρ, μ => (evEs es ρ μ).bind fun xs μ1 => if xs.length ≤ LIM then .ok (.ol xs) μ1 else .bad
  | .tup es, ρ, μ => (evEs es ρ μ).bind fun xs μ1 => if xs.length ≤ LIM then .ok (.sh (.tup (fzs xs))) μ1 else .bad
  | .dnew t, _, μ => .ok (.od t [] []) μ
  | .lc elt tg it cd, ρ, μ => (evE it ρ μ).bind fun x μ1 => (match itD (fz x) with
    | some ds => if ds.length ≤ LIM then (lcRun (fun d μ => match setT tg d (drops ρ (tgN tg)) with
        | some ρ1 => (evC cd ρ1 μ).bind fun c μ2 => if c then ((evE elt ρ1 μ2).calm).bind fun y μ3 => .ok (some (fz y)) μ3 else .ok none μ2
        | none => .bad) ds μ1).bind fun xs μ2 => .ok (.ol (xs.map .sh)) μ2 else .bad
    | none => .bad)
  | .call f es, ρ, μ => (evEs es ρ μ).bind fun xs μ1 => Φ f (fzs xs) μ1
  | .mk c es, ρ, μ => (evEs es ρ μ).bind fun xs μ1 => Φ c (fzs xs) μ1
  | .meth c a m es, ρ, μ => (evE a ρ μ).bind fun x μ1 => if metO c m (fz x) then (evEs es ρ μ1).bind fun xs μ2 => Φ (c ++ "." ++ m) (fz x :: fzs xs) μ2 else .bad
  | .bi b es, ρ, μ => (evEs es ρ μ).bind fun xs μ1 => lift (biD b (fzs xs)) μ1
  | .bm b a es, ρ, μ => (evE a ρ μ).bind fun x μ1 => if bmOk b (fz x) then (evEs es ρ μ1).bind fun xs μ2 => lift (biD b (fz x :: fzs xs)) μ2 else .bad
  | .bor is e, ρ, μ => (match evE e (borE ρ is μ) [] with
    | .ok o μ1 => if okB o && μ1.isEmpty then .ok o μ else .bad
    | .er c fs μ1 => if noLs fs && μ1.isEmpty then .er c fs μ else .bad
    | .bad => .bad)
  | .oix i e, ρ, μ => (match ownL ρ i with
    | some l => (evE e ρ μ).bind fun k μ1 => lift (oixO l (fz k)) μ1
    | none => .bad)
  | .rvs e, ρ, μ => (evE e ρ μ).bind fun x μ1 => lift (rvsD (fz x)) μ1
  | .lcO elt tg it, ρ, μ => (evE it ρ μ).bind fun x μ1 => (match itD (fz x) with
    | some ds => if ds.length ≤ LIM then (lcRunO (fun d μ => match setT tg d (drops ρ (tgN tg)) with
        | some ρ1 => (evE elt ρ1 μ).calm
        | none => .bad) ds μ1).bind fun xs μ2 => .ok (.ol xs) μ2 else .bad
    | none => .bad)
  | .shl e, ρ, μ => (evE e ρ μ).bind fun x μ1 => (match x with
    | .ol l => .ok (.ol ((l.map fz).map .sh)) μ1
    | _ => .bad)
  | .prd pl, ρ, μ => (match locP ρ μ pl.i pl.rs with
    | some (_, .sh d) => .ok (.sh d) μ
    | _ => .bad)
  | .plen pl, ρ, μ => (match locP ρ μ pl.i pl.rs with
    | some (_, .ol l) => .ok (.sh (.int l.length)) μ
    | _ => .bad)
  | .pnil neg pl, ρ, μ => (match locP ρ μ pl.i pl.rs with
    | some (_, .ol l) => .ok (.sh (.bl (l.isEmpty != neg))) μ
    | _ => .bad)
  | .plist pl, ρ, μ => (match locP ρ μ pl.i pl.rs with
    | some (_, .ol l) => (match allSh l with
      | some ds => .ok (.ol (ds.map .sh)) μ
      | none => .bad)
    | _ => .bad)
  | .psl pl lo hi, ρ, μ => (match locP ρ μ pl.i pl.rs with
    | some (_, .ol l) => (match allSh l with
      | some ds => (match ixO ρ lo, ixO ρ hi with
        | some a, some b => .ok (.ol ((cut ds a b).map .sh)) μ
        | _, _ => .bad)
      | none => .bad)
    | _ => .bad)
  | .plc elt tg pl, ρ, μ => (match locP ρ μ pl.i pl.rs with
    | some (_, .ol l) => (match allSh l with
      | some ds => if ds.length ≤ LIM then (if rootC ρ pl.i then (if noCs ds then
          (match lcRun (fun d μ => match setT tg d (drops (dropC ρ) (tgN tg)) with
            | some ρ1 => ((evE elt ρ1 μ).calm).bind fun y μ3 => .ok (some (fz y)) μ3
            | none => .bad) ds [] with
          | .ok xs [] => .ok (.ol (xs.map .sh)) μ
          | _ => .bad) else .bad)
        else (lcRun (fun d μ => match setT tg d (drops ρ (tgN tg)) with
            | some ρ1 => ((evE elt ρ1 μ).calm).bind fun y μ3 => .ok (some (fz y)) μ3
            | none => .bad) ds μ).bind fun xs μ2 => .ok (.ol (xs.map .sh)) μ2) else .bad
      | none => .bad)
    | _ => .bad)
def evEs : List E → List Sl → List O → Rs (List O)
  | [], _, μ => .ok [] μ
  | e :: es, ρ, μ => (evE e ρ μ).bind fun x μ1 => (evEs es ρ μ1).bind fun xs μ2 => .ok (x :: xs) μ2
def evO : Option E → List Sl → List O → Rs (Option Int)
  | none, _, μ => .ok none μ
  | some e, ρ, μ => (evE e ρ μ).bind fun x μ1 => lift (optI (fz x)) μ1
def evC : Option E → List Sl → List O → Rs Bool
  | none, _, μ => .ok true μ
  | some e, ρ, μ => ((evE e ρ μ).calm).bind fun x μ1 => lift (asB x) μ1
end
/-! ### what a statement does -/
inductive Fl where
  | nx (ρ : List Sl) (μ : List O) | rt (o : O) (μ : List O) | bk (ρ : List Sl) (μ : List O) | ct (ρ : List Sl) (μ : List O)
  | er (c : Str) (fs : List D) (ρ : List Sl) (μ : List O) | bad
def Rs.go {α : Type} (r : Rs α) (ρ : List Sl) (f : α → List O → Fl) : Fl := match r with
  | .ok a μ => f a μ
  | .er c fs μ => .er c fs ρ μ
  | .bad => .bad
@[simp] theorem Rs.go_ok {α : Type} (a : α) (μ : List O) (ρ : List Sl) (f : α → List O → Fl) : (Rs.ok a μ).go ρ f = f a μ := rfl
@[simp] theorem Rs.go_er {α : Type} (c : Str) (fs : List D) (μ : List O) (ρ : List Sl) (f : α → List O → Fl) : (Rs.er c fs μ : Rs α).go ρ f = .er c fs ρ μ := rfl
@[simp] theorem Rs.go_bad {α : Type} (ρ : List Sl) (f : α → List O → Fl) : (Rs.bad : Rs α).go ρ f = .bad := rfl
def Fl.then (r : Fl) (f : List Sl → List O → Fl) : Fl := match r with
  | .nx ρ μ => f ρ μ
  | r => r
@[simp] theorem Fl.then_nx (ρ : List Sl) (μ : List O) (f : List Sl → List O → Fl) : (Fl.nx ρ μ).then f = f ρ μ := rfl
@[simp] theorem Fl.then_rt (o : O) (μ : List O) (f : List Sl → List O → Fl) : (Fl.rt o μ).then f = .rt o μ := rfl
@[simp] theorem Fl.then_bk (ρ : List Sl) (μ : List O) (f : List Sl → List O → Fl) : (Fl.bk ρ μ).then f = .bk ρ μ := rfl
@[simp] theorem Fl.then_ct (ρ : List Sl) (μ : List O) (f : List Sl → List O → Fl) : (Fl.ct ρ μ).then f = .ct ρ μ := rfl
@[simp] theorem Fl.then_er (c : Str) (fs : List D) (ρ : List Sl) (μ : List O) (f : List Sl → List O → Fl) : (Fl.er c fs ρ μ).then f = .er c fs ρ μ := rfl
@[simp] theorem Fl.then_bad (f : List Sl → List O → Fl) : Fl.bad.then f = .bad := rfl
/-- for: the body's turn over each item -/
def forRun (tg : T) (f : List Sl → List O → Fl) : List D → List Sl → List O → Fl
  | [], ρ, μ => .nx ρ μ
  | d :: r, ρ, μ => match setT tg d ρ with
    | none => .bad
    | some ρ1 => match f ρ1 μ with
      | .nx ρ2 μ2 => forRun tg f r ρ2 μ2
      | .ct ρ2 μ2 => forRun tg f r ρ2 μ2
      | .bk ρ2 μ2 => .nx ρ2 μ2
      | r => r
/-- for over a list of one's own that nobody else knows: each item one's own -/
def forRunO (t : Nat) (f : List Sl → List O → Fl) : List O → List Sl → List O → Fl
  | [], ρ, μ => .nx ρ μ
  | o :: r, ρ, μ => match f (ρ.set t (.ow o)) μ with
      | .nx ρ2 μ2 => forRunO t f r ρ2 μ2
      | _ => .bad
/-- while, at most so many turns -/
def whlRun (t : List Sl → List O → Rs O) (f : List Sl → List O → Fl) : Nat → List Sl → List O → Fl
  | 0, _, _ => .bad
  | n + 1, ρ, μ => (t ρ μ).go ρ fun x μ1 => match asB x with
    | some false => .nx ρ μ1
    | some true => (match f ρ μ1 with
      | .nx ρ2 μ2 => whlRun t f n ρ2 μ2
      | .ct ρ2 μ2 => whlRun t f n ρ2 μ2
      | .bk ρ2 μ2 => .nx ρ2 μ2
      | r => r)
    | none => .bad
/-- an error of the body, caught: the marks stored -/
def tryF (all cs : List Str) (ie j : Nat) (l : List HF) : Fl → Fl
  | .er c fs ρ μ => if all.contains c && decide (ie < ρ.length) then (if cs.contains c then .nx ((ρ.set ie .no).set j (.va (.lst (l.map fun h => .bl (hfV c h))))) μ else .er c fs ρ μ) else .bad
  | .nx ρ μ => .nx ρ μ
  | .rt o μ => .rt o μ
  | .bk ρ μ => .bk ρ μ
  | .ct ρ μ => .ct ρ μ
  | .bad => .bad
def actsF (c : Str) (fs : List D) : List HA → List Sl → List O → Fl
  | [], ρ, μ => .nx ρ μ
  | a :: r, ρ, μ => match a.d c fs with
    | some d => actsF c fs r (ρ.set a.j (.va d)) μ
    | none => .bad
def tryM (all : List Str) (hs : List HC) : Fl → Fl
  | .er c fs ρ μ => if all.contains c && hs.all (fun h => decide (h.ie < ρ.length)) then (match hs.find? (fun h => h.cs.contains c) with
    | some h => actsF c fs h.acts (ρ.set h.ie .no) μ
    | none => .er c fs ρ μ) else .bad
  | .nx ρ μ => .nx ρ μ
  | .rt o μ => .rt o μ
  | .bk ρ μ => .bk ρ μ
  | .ct ρ μ => .ct ρ μ
  | .bad => .bad
/-- x[k] = o of an own container -/
def setO (x : O) (k : D) (o : O) : Option O := match x, k with
  | .ol l, .int i => (ixN l.length i).map fun j => .ol (l.set j o)
  | .od true ks vs, k => if isKey true k && decide (ks.length < LIM) then some (.od true (keyPut k o ks vs).1 (keyPut k o ks vs).2) else none
  | _, _ => none
/-- the list of one's own at a place -/
def inOwn (l : List O) (k : D) : Option (Nat × List O) := match k with
  | .int j => (ixN l.length j).bind fun n => match l[n]? with
    | some (.ol m) => some (n, m)
    | _ => none
  | _ => none
def fputO (c : Str) (x : O) (f : Str) (o : O) : Option O := match x with
  | .oi c' ns fs => if c' = c ∧ f ∉ ns ∧ ns.length < 900 then some (.oi c (ns ++ [f]) (fs ++ [o])) else none
  | _ => none
def evRT : List (Nat ⊕ E) → List Sl → List O → Rs (List O)
  | [], _, μ => .ok [] μ
  | .inl i :: r, ρ, μ => (match ρ[i]? with
    | some (.ow o) => (evRT r (ρ.set i .no) μ).bind fun xs μ1 => .ok (o :: xs) μ1
    | _ => .bad)
  | .inr e :: r, ρ, μ => (evE Φ e ρ μ).bind fun x μ1 => (evRT r ρ μ1).bind fun xs μ2 => .ok (x :: xs) μ2
mutual
def evS : S → List Sl → List O → Fl
  | .asg tg e, ρ, μ => (evE Φ e ρ μ).go ρ fun x μ1 => (match setT tg (fz x) ρ with
    | some ρ1 => .nx ρ1 μ1
    | none => .bad)
  | .own i e, ρ, μ => (evE Φ e ρ μ).go ρ fun x μ1 => .nx (ρ.set i (.ow x)) μ1
  | .aug i op e, ρ, μ => (match getV ρ i with
    | some d => (evE Φ e ρ μ).go ρ fun x μ1 => (match augD op d (fz x) with
      | some z => .nx (ρ.set i (.va (.int z))) μ1
      | none => .bad)
    | none => .bad)
  | .ex e, ρ, μ => (evE Φ e ρ μ).go ρ fun _ μ1 => .nx ρ μ1
  | .app i e, ρ, μ => (match ownL ρ i with
    | some l => (evE Φ e ρ μ).go ρ fun x μ1 => if l.length < LIM then .nx (ρ.set i (.ow (.ol (l ++ [.sh (fz x)])))) μ1 else .bad
    | none => .bad)
  | .appx i k e, ρ, μ => (match ownL ρ i with
    | some l => (evE Φ k ρ μ).go ρ fun y μ1 => (match inOwn l (fz y) with
      | some p => (evE Φ e ρ μ1).go ρ fun x μ2 => if p.2.length < LIM then .nx (ρ.set i (.ow (.ol (l.set p.1 (.ol (p.2 ++ [.sh (fz x)])))))) μ2 else .bad
      | none => .bad)
    | none => .bad)
  | .setxx i k1 k2 e, ρ, μ => (evE Φ e ρ μ).go ρ fun x μ1 => (match ρ[i]? with
    | some (.ow (.ol l)) => (evE Φ k1 ρ μ1).go ρ fun y μ2 => (match inOwn l (fz y) with
      | some p => (evE Φ k2 ρ μ2).go ρ fun u μ3 => (match fz u with
        | .int j => (match ixN p.2.length j with
          | some n => .nx (ρ.set i (.ow (.ol (l.set p.1 (.ol (p.2.set n (.sh (fz x)))))))) μ3
          | none => .bad)
        | _ => .bad)
      | none => .bad)
    | _ => .bad)
  | .ins i k e, ρ, μ => (match ownL ρ i with
    | some l => (evE Φ k ρ μ).go ρ fun y μ1 => (evE Φ e ρ μ1).go ρ fun x μ2 => (match fz y with
      | .int j => if (0 ≤ j ∧ j < 9223372036854775808) ∧ l.length < LIM then .nx (ρ.set i (.ow (.ol (l.take j.toNat ++ [.sh (fz x)] ++ l.drop j.toNat)))) μ2 else .bad
      | _ => .bad)
    | none => .bad)
  | .setx i k e, ρ, μ => (evE Φ e ρ μ).go ρ fun x μ1 => (match ρ[i]? with
    | some (.ow o) => (evE Φ k ρ μ1).go ρ fun y μ2 => (match setO o (fz y) (.sh (fz x)) with
      | some o1 => .nx (ρ.set i (.ow o1)) μ2
      | none => .bad)
    | _ => .bad)
  | .fset c i f e, ρ, μ => (evE Φ e ρ μ).go ρ fun x μ1 => (match ρ[i]? with
    | some (.ow o) => (match fputO c o f (.sh (fz x)) with
      | some o1 => .nx (ρ.set i (.ow o1)) μ1
      | none => .bad)
    | _ => .bad)
  | .fsetO c i f e, ρ, μ => (evE Φ e ρ μ).go ρ fun x μ1 => (match ρ[i]? with
    | some (.ow o) => (match fputO c o f x with
      | some o1 => .nx (ρ.set i (.ow o1)) μ1
      | none => .bad)
    | _ => .bad)
  | .forC t i es b, ρ, μ => (match ownL ρ i with
    | some l => (evEs Φ es ρ μ).go ρ fun xs μ1 => if l.length + xs.length ≤ LIM then forRunO t (evSs b) (l ++ xs) (ρ.set i .no) μ1 else .bad
    | none => .bad)
  | .ifs t a b, ρ, μ => (evE Φ t ρ μ).go ρ fun x μ1 => (match asB x with
    | some true => evSs a ρ μ1
    | some false => evSs b ρ μ1
    | none => .bad)
  | .whl n t b, ρ, μ => whlRun (evE Φ t) (evSs b) n ρ μ
  | .for tg it b, ρ, μ => (evE Φ it ρ μ).go ρ fun x μ1 => (match itD (fz x) with
    | some ds => forRun tg (evSs b) ds ρ μ1
    | none => .bad)
  | .ret e, ρ, μ => (evE Φ e ρ μ).go ρ fun x μ1 => .rt x μ1
  | .retN, _, μ => .rt (.sh .non) μ
  | .retO i, ρ, μ => (match ρ[i]? with
    | some (.ow o) => .rt o μ
    | _ => .bad)
  | .rais c es, ρ, μ => (evEs Φ es ρ μ).go ρ fun xs μ1 => .er c (fzs xs) ρ μ1
  | .brk, ρ, μ => .bk ρ μ
  | .cnt, ρ, μ => .ct ρ μ
  | .pass, ρ, μ => .nx ρ μ
  | .unk, _, _ => .bad
  | .frz i dr, ρ, μ => .nx (drops (lend ρ [i]) dr) μ
  | .try b _ all cs ie j l, ρ, μ => tryF all cs ie j l (evSs b ρ μ)
  | .tryM b all hs, ρ, μ => tryM all hs (evSs b ρ μ)
  | .papp pl own e, ρ, μ => (match locP ρ μ pl.i pl.rs with
    | some (_, .ol _) => if firm ρ pl then (evE Φ e ρ μ).go ρ fun x μ1 => (match locP ρ μ1 pl.i pl.rs with
      | some (p, .ol l) => if l.length < LIM then .nx (putE ρ μ1 pl.i p (.ol (l ++ [itm own x]))) (putM ρ μ1 pl.i p (.ol (l ++ [itm own x]))) else .bad
      | _ => .bad) else .bad
    | _ => .bad)
  | .pins pl own k e, ρ, μ => (match locP ρ μ pl.i pl.rs with
    | some (_, .ol _) => if firm ρ pl then (evE Φ k ρ μ).go ρ fun y μ1 => (evE Φ e ρ μ1).go ρ fun x μ2 => (match locP ρ μ2 pl.i pl.rs, fz y with
      | some (p, .ol l), .int j => if (0 ≤ j ∧ j < 9223372036854775808) ∧ l.length < LIM then .nx (putE ρ μ2 pl.i p (.ol (l.take j.toNat ++ [itm own x] ++ l.drop j.toNat))) (putM ρ μ2 pl.i p (.ol (l.take j.toNat ++ [itm own x] ++ l.drop j.toNat))) else .bad
      | _, _ => .bad) else .bad
    | _ => .bad)
  | .pset pl ix own e, ρ, μ => (evE Φ e ρ μ).go ρ fun x μ1 => (match locP ρ μ1 pl.i pl.rs with
    | some (p, .ol l) => (match (ixV ρ ix).bind (ixN l.length) with
      | some n => .nx (putE ρ μ1 pl.i p (.ol (l.set n (itm own x)))) (putM ρ μ1 pl.i p (.ol (l.set n (itm own x))))
      | none => .bad)
    | _ => .bad)
  | .pfld pl c f own e, ρ, μ => (evE Φ e ρ μ).go ρ fun x μ1 => (match locP ρ μ1 pl.i pl.rs with
    | some (p, o) => (match fldO c o f (itm own x) with
      | some o1 => .nx (putE ρ μ1 pl.i p o1) (putM ρ μ1 pl.i p o1)
      | none => .bad)
    | _ => .bad)
  | .pclr pl, ρ, μ => (match locP ρ μ pl.i pl.rs with
    | some (p, .ol _) => .nx (putE ρ μ pl.i p (.ol [])) (putM ρ μ pl.i p (.ol []))
    | _ => .bad)
  | .pdel pl x, ρ, μ => (match locP ρ μ pl.i pl.rs with
    | some (p, .ol l) => (match (ixV ρ x).bind (ixN l.length) with
      | some n => if l.length ≤ LIM then .nx (putE ρ μ pl.i p (.ol (l.eraseIdx n))) (putM ρ μ pl.i p (.ol (l.eraseIdx n))) else .bad
      | none => .bad)
    | _ => .bad)
  | .pappS pl ats, ρ, μ => (match atD ρ μ ats, locP ρ μ pl.i pl.rs with
    | some ds, some (p, .ol l) => if l.length < LIM ∧ ds.length ≤ LIM then .nx (putE ρ μ pl.i p (.ol (l ++ [.sh (.tup ds)]))) (putM ρ μ pl.i p (.ol (l ++ [.sh (.tup ds)]))) else .bad
    | _, _ => .bad)
  | .ppop tg pl, ρ, μ => (match locP ρ μ pl.i pl.rs with
    | some (p, o) => (match lastO o with
      | some (o1, d) => (match setT tg d (putE ρ μ pl.i p o1) with
        | some ρ1 => .nx ρ1 (putM ρ μ pl.i p o1)
        | none => .bad)
      | none => .bad)
    | _ => .bad)
  | .pmov pl pl2, ρ, μ => (match locP ρ μ pl.i pl.rs, locP ρ μ pl2.i pl2.rs with
    | some (_, .ol _), some (p2, o2) => if (pl.rs.isEmpty && pl2.rs.isEmpty) && decide (pl.i ≠ pl2.i) then (match lastO o2 with
      | some (o3, d) => (match locP (putE ρ μ pl2.i p2 o3) (putM ρ μ pl2.i p2 o3) pl.i pl.rs with
        | some (p, .ol l) => if l.length < LIM then .nx (putE (putE ρ μ pl2.i p2 o3) (putM ρ μ pl2.i p2 o3) pl.i p (.ol (l ++ [.sh d]))) (putM (putE ρ μ pl2.i p2 o3) (putM ρ μ pl2.i p2 o3) pl.i p (.ol (l ++ [.sh d]))) else .bad
        | _ => .bad)
      | none => .bad) else .bad
    | _, _ => .bad)
  | .forO tg pl b, ρ, μ => (match ρ[pl.i]?, locP ρ μ pl.i pl.rs with
    | some (.ow o), some (_, .ol l) => (match allSh l with
      | some ds => (match forRun tg (evSs b) ds (ρ.set pl.i .no) μ with
        | .nx ρ1 μ1 => (match ρ1[pl.i]? with
          | some .no => .nx (ρ1.set pl.i (.ow o)) μ1
          | _ => .bad)
        | .rt x μ1 => .rt x μ1
        | .er c fs ρ1 μ1 => .er c fs ρ1 μ1
        | _ => .bad)
      | none => .bad)
    | _, _ => .bad)
  | .retC i, ρ, μ => (match ownL ρ i with
    | some l => .rt (.ol l.dropLast) μ
    | none => .bad)
  | .retT l, ρ, μ => (evRT Φ l ρ μ).go ρ fun xs μ1 => if xs.length ≤ LIM then .rt (.ot xs) μ1 else .bad
  | .unpT is i, ρ, μ => (match ownT ρ i with
    | some l => if is.length = l.length ∧ (i :: is).Nodup then .nx (putSl is l (ρ.set i .no)) μ else .bad
    | none => .bad)
  | .celN i, ρ, μ => (match ρ[i]? with
    | some (.ow (.ol l)) => .nx (ρ.set i (.va (.cell μ.length))) (μ ++ [.ol l])
    | some (.ow (.oi c ns fs)) => .nx (ρ.set i (.va (.cell μ.length))) (μ ++ [.oi c ns fs])
    | _ => .bad)
  | .frzC i, ρ, μ => (match getV ρ i with
    | some (.cell n) => (match μ[n]? with
      | some o => .nx (ρ.set i (.va (fz o))) (μ.set n (.sh (fz o)))
      | none => .bad)
    | _ => .bad)
  | .forI tg i b, ρ, μ => (match ρ[i]? with
    | some (.va (.dct true ks vs)) => (match forRun tg (evSs b) (zipD ks vs) ρ μ with
      | .er _ _ _ _ => .bad
      | r => r)
    | _ => .bad)
  | .unc i, ρ, μ => (match getV ρ i with
    | some (.cell n) => (match μ[n]? with
      | some o => .nx (ρ.set i (.ow o)) (μ.set n (.sh (.cell n)))
      | none => .bad)
    | _ => .bad)
  | .wth i b, ρ, μ => (match getV ρ i with
    | some (.cell n) => (match μ[n]? with
      | some o => (match evSs b (ρ.set i (.ow o)) (μ.set n (.sh (.cell n))) with
        | .nx ρ1 μ1 => (match (ρ1 : List Sl)[i]?, (μ1 : List O)[n]? with
          | some (.ow o1), some (.sh _) => .nx (ρ1.set i (.va (.cell n))) (μ1.set n o1)
          | _, _ => .bad)
        | _ => .bad)
      | none => .bad)
    | _ => .bad)
  | .cutL i, ρ, μ => (match ownL ρ i with
    | some l => .nx (ρ.set i (.ow (.ol l.dropLast))) μ
    | none => .bad)
  | .resl i e, ρ, μ => (match ownL ρ i with
    | some l => (evE Φ e ρ μ).go ρ fun x μ1 => if l.length < LIM then .nx (ρ.set i (.ow (.ol (l.dropLast ++ [x])))) μ1 else .bad
    | none => .bad)
def evSs : List S → List Sl → List O → Fl
  | [], ρ, μ => .nx ρ μ
  | s :: r, ρ, μ => (evS s ρ μ).then fun ρ1 μ1 => evSs r ρ1 μ1
end
end
/-! ### functions -/
/-- a function: its name, the count of its parameters and of its names, its body -/
structure Fn where
  name : Str
  pars : Nat
  many : Nat
  body : List S
  init : Bool := false
  open_ : Bool := false
/-- called -/
def Fn.run (Φ : Fns) (f : Fn) (ds : List D) (μ : List O) : Rs O :=
  match f.init with
  | false => if ds.length = f.pars then (match evSs Φ f.body (ds.map Sl.va ++ List.replicate (f.many - f.pars) .no) μ with
    | .nx _ μ1 => .ok (.sh .non) μ1
    | .rt o μ1 => .ok o μ1
    | .er c fs _ μ1 => .er c fs μ1
    | _ => .bad)
    else .bad
  | true => if ds.length + 1 = f.pars then (match evSs Φ f.body (Sl.ow (.oi f.name [] []) :: ds.map Sl.va ++ List.replicate (f.many - f.pars) .no) μ with
    | Fl.nx ρ μ1 => (match (ρ : List Sl)[0]? with
      | some (Sl.ow o) => Rs.ok o μ1
      | _ => .bad)
    | Fl.er c fs _ μ1 => .er c fs μ1
    | _ => .bad)
    else .bad
def noFns : Fns := fun _ _ _ => .bad
/-- with the common cells out of sight -/
def hideR (r : Rs O) (μ : List O) : Rs O := match r with
  | .ok o [] => .ok o μ
  | .er c fs [] => .er c fs μ
  | _ => .bad
def hide (φ : List D → List O → Rs O) : List D → List O → Rs O := fun ds μ => match μ with
  | [] => φ ds []
  | _ :: _ => if noCs ds then hideR (φ ds []) μ else .bad
def Fns.add (Φ : Fns) (f : Fn) : Fns := fun x => if x = f.name then (if f.open_ then f.run Φ else hide (f.run Φ)) else Φ x
end MP
/-! MP1 -/
set_option Elab.async false
set_option linter.all false
set_option maxRecDepth 100000
/-! MP1: what stands in the heap for a value. -/
namespace MP
open PySem PySem.Spec PyProof.Rows L2
/-! ### keys among tuples -/
mutual
def nkey : D → NestedKey
  | .bl b => .num (b2i b)
  | .int i => .num i
  | .str s => .text s
  | .tup l => .tup (nkeys l)
  | _ => .none
def nkeys : List D → List NestedKey
  | [] => []
  | d :: r => nkey d :: nkeys r
end
/-- a dict with tuples as keys, at a: keys, where their tuples stand, values -/
def ndict (P : Program) (w : World) (a : Addr) (xs : List (NestedKey × Addr × Value)) : HO :=
  .ext fun h => ∃ o es ep, h.get? a = some o ∧ o.ExactDict ∧ o.data = .dict es ep ∧ es.toList = xs.map (entryOfKey (nestedKind P w)) ∧ (xs.map (·.1)).Nodup
/-- at a stands u; f: it may be locked -/
def DcH (f : Bool) (H : Hp) (a : Addr) (u : HO) : Prop := H a = some u ∨ (f = true ∧ ∃ od, H a = some (.frz od u))
/-- at a stands a dict; t: its keys are tuples, else texts; kv, vv: its keys and values as they stand -/
def DcAt (P : Program) (w : World) (f : Bool) (H : Hp) (a : Addr) (t : Bool) (ks : List D) (kv vv : List V) : Prop :=
  (a == sysModules) = false ∧ match t with
  | true => ∃ xs : List (NestedKey × Addr × Value), DcH f H a (ndict P w a xs) ∧ xs.map (·.1) = nkeys ks ∧ kv = xs.map (fun x => V.ref x.2.1) ∧ Vals vv (xs.map (·.2.2)) ∧ xs.length ≤ sizeLine ∧ ks.all (isKey true) = true ∧ (xs.map (·.1)).Nodup
  | false => ∃ kvs : List (Key × V), DcH f H a (.dK kvs) ∧ kv = kvs.map (fun p => kV p.1) ∧ vv = kvs.map (·.2) ∧ ks.all (isKey false) = true
/-! ### the ghost: what is never changed; the common cells -/
structure Gh where
  F : Hp
  rt : List Addr
  G : List Addr
/-- the fixed things: the written part, the program, the world -/
structure Env1 where
  K : PySem.W.Frag
  P : Program
  w : World
section
variable (Γ : Env1) (g : Gh)
mutual
/-- v stands for d -/
def Rp : D → V → Prop
  | .non, v => v = .non
  | .bl b, v => v = .bl b
  | .int i, v => v = .int i
  | .str s, v => v = .str s
  | .tup l, v => ∃ a vs, v = .ref a ∧ SqT Γ.K g.F a vs ∧ Rps l vs
  | .lst l, v => ∃ a vs, v = .ref a ∧ g.F a = some (.lst vs) ∧ Rps l vs
  | .dct t ks vs, v => ∃ a kv vv, v = .ref a ∧ DcAt Γ.P Γ.w true g.F a t ks kv vv ∧ Rps ks kv ∧ Rps vs vv
  | .ins c ns fs, v => ∃ a dx vs, v = .ref a ∧ g.F a = some (.ins (He.ga Γ.K c) dx (ns.zip vs)) ∧ ns.length = vs.length ∧ Rps fs vs
  | .scr l, v => ∃ a, v = .ref a ∧ SqL Γ.K g.F a (l.map V.int)
  | .cell n, v => ∃ a, v = .ref a ∧ g.rt[n]? = some a
def Rps : List D → List V → Prop
  | [], vs => vs = []
  | d :: r, vs => ∃ v vs', vs = v :: vs' ∧ Rp d v ∧ Rps r vs'
end
variable (H : Hp)
mutual
/-- v stands for o, and the addresses fp are o's own -/
def Ow : O → V → List Addr → Prop
  | .sh d, v, fp => fp = [] ∧ Rp Γ g d v
  | .ol l, v, fp => ∃ a vs fp', v = .ref a ∧ fp = a :: fp' ∧ H a = some (.lst vs) ∧ Ows l vs fp'
  | .od t ks vs, v, fp => ∃ a kv vv fp', v = .ref a ∧ fp = a :: fp' ∧ DcAt Γ.P Γ.w false H a t ks kv vv ∧ Rps Γ g ks kv ∧ Ows vs vv fp'
  | .oi c ns fs, v, fp => ∃ a dx vs fp', v = .ref a ∧ fp = a :: fp' ∧ H a = some (.ins (He.ga Γ.K c) dx (ns.zip vs)) ∧ ns.length = vs.length ∧ ns.length ≤ 900 ∧ Ows fs vs fp'
  | .ot l, v, fp => ∃ a vs, v = .ref a ∧ g.F a = some (.tup vs) ∧ Ows l vs fp
def Ows : List O → List V → List Addr → Prop
  | [], vs, fp => vs = [] ∧ fp = []
  | o :: r, vs, fp => ∃ v vs' f1 f2, vs = v :: vs' ∧ fp = f1 ++ f2 ∧ Ow o v f1 ∧ Ows r vs' f2
end
/-- what a name holds -/
def SlotR : Sl → Option V → List Addr → Prop
  | .no, _, f => f = []
  | .va d, x, f => f = [] ∧ ∃ v, x = some v ∧ Rp Γ g d v
  | .ow o, x, f => ∃ v, x = some v ∧ Ow Γ g H o v f
def EnvR : List Sl → L2.St → List Addr → Prop
  | [], σ, fp => σ = [] ∧ fp = []
  | s :: r, σ, fp => ∃ x σ' f1 f2, σ = x :: σ' ∧ fp = f1 ++ f2 ∧ SlotR Γ g H s x f1 ∧ EnvR r σ' f2
/-- the common cells -/
structure Cl (μ : List O) : Prop where
  own : Ows Γ g H μ (g.rt.map V.ref) g.G
  nd : g.G.Nodup
  fr : ∀ a ∈ g.G, g.F a = none
end
/-! ### more of the ghost -/
structure Le (g g' : Gh) : Prop where
  F : Same g.F g'.F
  rt : ∀ (n : Nat) a, g.rt[n]? = some a → g'.rt[n]? = some a
theorem Le.refl (g : Gh) : Le g g := ⟨Same.refl _, fun _ _ h => h⟩
theorem Le.trans {g g1 g2 : Gh} (a : Le g g1) (b : Le g1 g2) : Le g g2 := ⟨a.F.trans b.F, fun n x h => b.rt n x (a.rt n x h)⟩
/-- objects are kept -/
def KeepAt (H H' : Hp) (fp : List Addr) : Prop := ∀ a ∈ fp, ∀ u, H a = some u → H' a = some u
theorem KeepAt.mono {H H' : Hp} {f f' : List Addr} (k : KeepAt H H' f) (h : ∀ a ∈ f', a ∈ f) : KeepAt H H' f' := fun a ha => k a (h a ha)
theorem sqT_le {K : PySem.W.Frag} {F F' : Hp} {a : Addr} {vs : List V} (s : Same F F') (h : SqT K F a vs) : SqT K F' a vs := by
  rcases h with (h | ⟨o, h⟩) | h
  · exact .inl (.inl (s _ _ h))
  · exact .inl (.inr ⟨o, s _ _ h⟩)
  · exact .inr h
theorem DcH.keep {f : Bool} {H H' : Hp} {a : Addr} {u : HO} (h : DcH f H a u) (k : ∀ u, H a = some u → H' a = some u) : DcH f H' a u := h.imp (k _) fun ⟨e, od, h⟩ => ⟨e, od, k _ h⟩
theorem DcH.at {f : Bool} {H : Hp} {a : Addr} {u : HO} (h : DcH f H a u) : ∃ u, H a = some u := h.elim (fun e => ⟨_, e⟩) fun ⟨_, _, e⟩ => ⟨_, e⟩
theorem DcH.any {f : Bool} {H : Hp} {a : Addr} {u : HO} (h : DcH f H a u) : DcH true H a u := h.imp id fun ⟨_, od, h⟩ => ⟨rfl, od, h⟩
theorem DcH.own {H : Hp} {a : Addr} {u : HO} (h : DcH false H a u) : H a = some u := h.elim id fun ⟨e, _⟩ => nomatch e
theorem DcAt.any {P : Program} {w : World} {f : Bool} {H : Hp} {a : Addr} {t : Bool} {ks : List D} {kv vv : List V} (h : DcAt P w f H a t ks kv vv) : DcAt P w true H a t ks kv vv := by
  obtain ⟨h1, h2⟩ := h
  cases t with
  | true =>
    obtain ⟨xs, e, r⟩ := h2
    exact ⟨h1, xs, e.any, r⟩
  | false =>
    obtain ⟨kvs, e, r⟩ := h2
    exact ⟨h1, kvs, e.any, r⟩
theorem DcAt.keep {P : Program} {w : World} {f : Bool} {H H' : Hp} {a : Addr} {t : Bool} {ks : List D} {kv vv : List V} (h : DcAt P w f H a t ks kv vv) (k : ∀ u, H a = some u → H' a = some u) : DcAt P w f H' a t ks kv vv := by
  obtain ⟨h1, h2⟩ := h
  cases t with
  | true =>
    obtain ⟨xs, e, r⟩ := h2
    exact ⟨h1, xs, e.keep k, r⟩
  | false =>
    obtain ⟨kvs, e, r⟩ := h2
    exact ⟨h1, kvs, e.keep k, r⟩
theorem DcAt.at {P : Program} {w : World} {f : Bool} {H : Hp} {a : Addr} {t : Bool} {ks : List D} {kv vv : List V} (h : DcAt P w f H a t ks kv vv) : ∃ u, H a = some u := by
  obtain ⟨h1, h2⟩ := h
  cases t with
  | true =>
    obtain ⟨xs, e, r⟩ := h2
    exact e.at
  | false =>
    obtain ⟨kvs, e, r⟩ := h2
    exact e.at
section
variable {Γ : Env1} {g g' : Gh}
mutual
theorem Rp.le (l : Le g g') : ∀ (d : D) (v : V), Rp Γ g d v → Rp Γ g' d v
  | .non, v, h => h
  | .bl b, v, h => h
  | .int i, v, h => h
  | .str s, v, h => h
  | .tup ds, v, h => by
    simp only [Rp] at h ⊢
    obtain ⟨a, vs, e, s, r⟩ := h
    exact ⟨a, vs, e, sqT_le l.F s, Rps.le l ds vs r⟩
  | .lst ds, v, h => by
    simp only [Rp] at h ⊢
    obtain ⟨a, vs, e, s, r⟩ := h
    exact ⟨a, vs, e, l.F _ _ s, Rps.le l ds vs r⟩
  | .dct t ks vs, v, h => by
    simp only [Rp] at h ⊢
    obtain ⟨a, kv, vv, e, s, r, q⟩ := h
    exact ⟨a, kv, vv, e, s.keep (fun u z => l.F _ _ z), Rps.le l ks kv r, Rps.le l vs vv q⟩
  | .ins c ns fs, v, h => by
    simp only [Rp] at h ⊢
    obtain ⟨a, dx, vs, e, s, n, r⟩ := h
    exact ⟨a, dx, vs, e, l.F _ _ s, n, Rps.le l fs vs r⟩
  | .scr ns, v, h => by
    simp only [Rp] at h ⊢
    obtain ⟨a, e, s⟩ := h
    exact ⟨a, e, l.F.seq s⟩
  | .cell n, v, h => by
    simp only [Rp] at h ⊢
    obtain ⟨a, e, s⟩ := h
    exact ⟨a, e, l.rt _ _ s⟩
theorem Rps.le (l : Le g g') : ∀ (ds : List D) (vs : List V), Rps Γ g ds vs → Rps Γ g' ds vs
  | [], vs, h => h
  | d :: ds, vs, h => by
    simp only [Rps] at h ⊢
    obtain ⟨v, vs', e, r, q⟩ := h
    exact ⟨v, vs', e, Rp.le l d v r, Rps.le l ds vs' q⟩
end
variable {H H' : Hp}
mutual
theorem Ow.le (l : Le g g') : ∀ (o : O) (v : V) (fp : List Addr), Ow Γ g H o v fp → KeepAt H H' fp → Ow Γ g' H' o v fp
  | .sh d, v, fp, h, k => by
    simp only [Ow] at h ⊢
    exact ⟨h.1, Rp.le l d v h.2⟩
  | .ol os, v, fp, h, k => by
    simp only [Ow] at h ⊢
    obtain ⟨a, vs, fp', e, ef, s, r⟩ := h
    subst ef
    exact ⟨a, vs, fp', e, rfl, k a List.mem_cons_self _ s, Ows.le l os vs fp' r (k.mono fun b hb => List.mem_cons_of_mem _ hb)⟩
  | .od t ks os, v, fp, h, k => by
    simp only [Ow] at h ⊢
    obtain ⟨a, kv, vv, fp', e, ef, s, r, q⟩ := h
    subst ef
    exact ⟨a, kv, vv, fp', e, rfl, s.keep (k a List.mem_cons_self), Rps.le l ks kv r, Ows.le l os vv fp' q (k.mono fun b hb => List.mem_cons_of_mem _ hb)⟩
  | .oi c ns fs, v, fp, h, k => by
    simp only [Ow] at h ⊢
    obtain ⟨a, dx, vs, fp', e, ef, s, n, n2, r⟩ := h
    subst ef
    exact ⟨a, dx, vs, fp', e, rfl, k a List.mem_cons_self _ s, n, n2, Ows.le l fs vs fp' r (k.mono fun b hb => List.mem_cons_of_mem _ hb)⟩
  | .ot os, v, fp, h, k => by
    simp only [Ow] at h ⊢
    obtain ⟨a, vs, e, s, r⟩ := h
    exact ⟨a, vs, e, l.F _ _ s, Ows.le l os vs fp r k⟩
theorem Ows.le (l : Le g g') : ∀ (os : List O) (vs : List V) (fp : List Addr), Ows Γ g H os vs fp → KeepAt H H' fp → Ows Γ g' H' os vs fp
  | [], vs, fp, h, k => h
  | o :: os, vs, fp, h, k => by
    simp only [Ows] at h ⊢
    obtain ⟨v, vs', f1, f2, e, ef, r, q⟩ := h
    subst ef
    exact ⟨v, vs', f1, f2, e, rfl, Ow.le l o v f1 r (k.mono fun b hb => List.mem_append_left _ hb), Ows.le l os vs' f2 q (k.mono fun b hb => List.mem_append_right _ hb)⟩
end
/-- what can be one's own -/
def ownK : HO → Prop
  | .lst _ => True | .dK _ => True | .ext _ => True | .ins _ _ _ => True
  | _ => False
theorem DcAt.kind {P : Program} {w : World} {H : Hp} {a : Addr} {t : Bool} {ks : List D} {kv vv : List V} (h : DcAt P w false H a t ks kv vv) : ∃ u, H a = some u ∧ ownK u := by
  obtain ⟨h1, h2⟩ := h
  cases t with
  | true =>
    obtain ⟨xs, e, r⟩ := h2
    exact ⟨_, e.own, trivial⟩
  | false =>
    obtain ⟨kvs, e, r⟩ := h2
    exact ⟨_, e.own, trivial⟩
mutual
theorem Ow.kind : ∀ (o : O) (v : V) (fp : List Addr), Ow Γ g H o v fp → ∀ a ∈ fp, ∃ u, H a = some u ∧ ownK u
  | .sh d, v, fp, h, a, ha => by
    simp only [Ow] at h
    rw [h.1] at ha
    cases ha
  | .ol os, v, fp, h, a, ha => by
    simp only [Ow] at h
    obtain ⟨b, vs, fp', e, rfl, s, r⟩ := h
    rcases List.mem_cons.mp ha with rfl | ha
    · exact ⟨_, s, trivial⟩
    · exact Ows.kind os vs fp' r a ha
  | .od t ks os, v, fp, h, a, ha => by
    simp only [Ow] at h
    obtain ⟨b, kv, vv, fp', e, rfl, s, r, q⟩ := h
    rcases List.mem_cons.mp ha with rfl | ha
    · exact s.kind
    · exact Ows.kind os vv fp' q a ha
  | .oi c ns fs, v, fp, h, a, ha => by
    simp only [Ow] at h
    obtain ⟨b, dx, vs, fp', e, rfl, s, n, n2, r⟩ := h
    rcases List.mem_cons.mp ha with rfl | ha
    · exact ⟨_, s, trivial⟩
    · exact Ows.kind fs vs fp' r a ha
  | .ot os, v, fp, h, a, ha => by
    simp only [Ow] at h
    obtain ⟨b, vs, e, s, r⟩ := h
    exact Ows.kind os vs fp r a ha
theorem Ows.kind : ∀ (os : List O) (vs : List V) (fp : List Addr), Ows Γ g H os vs fp → ∀ a ∈ fp, ∃ u, H a = some u ∧ ownK u
  | [], vs, fp, h, a, ha => by
    simp only [Ows] at h
    rw [h.2] at ha
    cases ha
  | o :: os, vs, fp, h, a, ha => by
    simp only [Ows] at h
    obtain ⟨v, vs', f1, f2, e, rfl, r, q⟩ := h
    rcases List.mem_append.mp ha with ha | ha
    · exact Ow.kind o v f1 r a ha
    · exact Ows.kind os vs' f2 q a ha
end
mutual
/-- own addresses are there -/
theorem Ow.there : ∀ (o : O) (v : V) (fp : List Addr), Ow Γ g H o v fp → ∀ a ∈ fp, ∃ u, H a = some u
  | .sh d, v, fp, h, a, ha => by
    simp only [Ow] at h
    rw [h.1] at ha
    cases ha
  | .ol os, v, fp, h, a, ha => by
    simp only [Ow] at h
    obtain ⟨b, vs, fp', e, rfl, s, r⟩ := h
    rcases List.mem_cons.mp ha with rfl | ha
    · exact ⟨_, s⟩
    · exact Ows.there os vs fp' r a ha
  | .od t ks os, v, fp, h, a, ha => by
    simp only [Ow] at h
    obtain ⟨b, kv, vv, fp', e, rfl, s, r, q⟩ := h
    rcases List.mem_cons.mp ha with rfl | ha
    · exact s.at
    · exact Ows.there os vv fp' q a ha
  | .oi c ns fs, v, fp, h, a, ha => by
    simp only [Ow] at h
    obtain ⟨b, dx, vs, fp', e, rfl, s, n, n2, r⟩ := h
    rcases List.mem_cons.mp ha with rfl | ha
    · exact ⟨_, s⟩
    · exact Ows.there fs vs fp' r a ha
  | .ot os, v, fp, h, a, ha => by
    simp only [Ow] at h
    obtain ⟨b, vs, e, s, r⟩ := h
    exact Ows.there os vs fp r a ha
theorem Ows.there : ∀ (os : List O) (vs : List V) (fp : List Addr), Ows Γ g H os vs fp → ∀ a ∈ fp, ∃ u, H a = some u
  | [], vs, fp, h, a, ha => by
    simp only [Ows] at h
    rw [h.2] at ha
    cases ha
  | o :: os, vs, fp, h, a, ha => by
    simp only [Ows] at h
    obtain ⟨v, vs', f1, f2, e, rfl, r, q⟩ := h
    rcases List.mem_append.mp ha with ha | ha
    · exact Ow.there o v f1 r a ha
    · exact Ows.there os vs' f2 q a ha
end
mutual
/-- frozen: its own addresses stand in the ghost -/
theorem Ow.fz (l : Le g g') : ∀ (o : O) (v : V) (fp : List Addr), Ow Γ g H o v fp → KeepAt H g'.F fp → Rp Γ g' (fz o) v
  | .sh d, v, fp, h, k => by
    simp only [Ow] at h
    exact Rp.le l d v h.2
  | .ol os, v, fp, h, k => by
    simp only [Ow] at h
    obtain ⟨a, vs, fp', e, rfl, s, r⟩ := h
    simp only [MP.fz, Rp]
    exact ⟨a, vs, e, k a List.mem_cons_self _ s, Ows.fz l os vs fp' r (k.mono fun b hb => List.mem_cons_of_mem _ hb)⟩
  | .od t ks os, v, fp, h, k => by
    simp only [Ow] at h
    obtain ⟨a, kv, vv, fp', e, rfl, s, r, q⟩ := h
    simp only [MP.fz, Rp]
    exact ⟨a, kv, vv, e, (s.keep (k a List.mem_cons_self)).any, Rps.le l ks kv r, Ows.fz l os vv fp' q (k.mono fun b hb => List.mem_cons_of_mem _ hb)⟩
  | .oi c ns fs, v, fp, h, k => by
    simp only [Ow] at h
    obtain ⟨a, dx, vs, fp', e, rfl, s, n, n2, r⟩ := h
    simp only [MP.fz, Rp]
    exact ⟨a, dx, vs, e, k a List.mem_cons_self _ s, n, Ows.fz l fs vs fp' r (k.mono fun b hb => List.mem_cons_of_mem _ hb)⟩
  | .ot os, v, fp, h, k => by
    simp only [Ow] at h
    obtain ⟨a, vs, e, s, r⟩ := h
    simp only [MP.fz, Rp]
    exact ⟨a, vs, e, .inl (.inl (l.F _ _ s)), Ows.fz l os vs fp r k⟩
theorem Ows.fz (l : Le g g') : ∀ (os : List O) (vs : List V) (fp : List Addr), Ows Γ g H os vs fp → KeepAt H g'.F fp → Rps Γ g' (fzs os) vs
  | [], vs, fp, h, k => by
    simp only [Ows] at h
    exact h.1
  | o :: os, vs, fp, h, k => by
    simp only [Ows] at h
    obtain ⟨v, vs', f1, f2, e, rfl, r, q⟩ := h
    simp only [fzs, Rps]
    exact ⟨v, vs', e, Ow.fz l o v f1 r (k.mono fun b hb => List.mem_append_left _ hb), Ows.fz l os vs' f2 q (k.mono fun b hb => List.mem_append_right _ hb)⟩
end
/-- tuples alone are kept: enough for what has no list in it -/
structure LeT (K : PySem.W.Frag) (g g' : Gh) : Prop where
  F : ∀ a vs, SqT K g.F a vs → SqT K g'.F a vs
  rt : ∀ (n : Nat) a, g.rt[n]? = some a → g'.rt[n]? = some a
mutual
theorem Rp.leT (l : LeT Γ.K g g') : ∀ (d : D) (v : V), noL d = true → Rp Γ g d v → Rp Γ g' d v
  | .non, v, _, h => h
  | .bl b, v, _, h => h
  | .int i, v, _, h => h
  | .str s, v, _, h => h
  | .tup ds, v, n, h => by
    simp only [Rp] at h ⊢
    obtain ⟨a, vs, e, s, r⟩ := h
    exact ⟨a, vs, e, l.F _ _ s, Rps.leT l ds vs (by simpa only [noL] using n) r⟩
  | .lst ds, v, n, h => by simp [noL] at n
  | .dct t ks vs, v, n, h => by simp [noL] at n
  | .ins c ns fs, v, n, h => by simp [noL] at n
  | .scr ns, v, n, h => by simp [noL] at n
  | .cell m, v, n, h => by
    simp only [Rp] at h ⊢
    obtain ⟨a, e, s⟩ := h
    exact ⟨a, e, l.rt _ _ s⟩
theorem Rps.leT (l : LeT Γ.K g g') : ∀ (ds : List D) (vs : List V), noLs ds = true → Rps Γ g ds vs → Rps Γ g' ds vs
  | [], vs, _, h => h
  | d :: ds, vs, n, h => by
    simp only [noLs, Bool.and_eq_true] at n
    simp only [Rps] at h ⊢
    obtain ⟨v, vs', e, r, q⟩ := h
    exact ⟨v, vs', e, Rp.leT l d v n.1 r, Rps.leT l ds vs' n.2 q⟩
end
mutual
theorem Ow.leT (l : LeT Γ.K g g') : ∀ (o : O) (v : V) (fp : List Addr), okB o = true → Ow Γ g H o v fp → Ow Γ g' H o v fp
  | .sh d, v, fp, n, h => by
    simp only [Ow] at h ⊢
    exact ⟨h.1, Rp.leT l d v (by simpa only [okB] using n) h.2⟩
  | .ol os, v, fp, n, h => by
    simp only [Ow] at h ⊢
    obtain ⟨a, vs, fp', e, ef, s, r⟩ := h
    exact ⟨a, vs, fp', e, ef, s, Ows.leT l os vs fp' (by simpa only [okB] using n) r⟩
  | .od t ks os, v, fp, n, h => by
    simp only [okB, Bool.and_eq_true] at n
    simp only [Ow] at h ⊢
    obtain ⟨a, kv, vv, fp', e, ef, s, r, q⟩ := h
    exact ⟨a, kv, vv, fp', e, ef, s, Rps.leT l ks kv n.1 r, Ows.leT l os vv fp' n.2 q⟩
  | .oi c ns fs, v, fp, n, h => by
    simp only [Ow] at h ⊢
    obtain ⟨a, dx, vs, fp', e, ef, s, m, m2, r⟩ := h
    exact ⟨a, dx, vs, fp', e, ef, s, m, m2, Ows.leT l fs vs fp' (by simpa only [okB] using n) r⟩
  | .ot os, v, fp, n, h => by simp [okB] at n
theorem Ows.leT (l : LeT Γ.K g g') : ∀ (os : List O) (vs : List V) (fp : List Addr), okBs os = true → Ows Γ g H os vs fp → Ows Γ g' H os vs fp
  | [], vs, fp, n, h => h
  | o :: os, vs, fp, n, h => by
    simp only [okBs, Bool.and_eq_true] at n
    simp only [Ows] at h ⊢
    obtain ⟨v, vs', f1, f2, e, ef, r, q⟩ := h
    exact ⟨v, vs', f1, f2, e, ef, Ow.leT l o v f1 n.1 r, Ows.leT l os vs' f2 n.2 q⟩
end
theorem Rps.len : ∀ {ds : List D} {vs : List V}, Rps Γ g ds vs → ds.length = vs.length
  | [], vs, h => by
    simp only [Rps] at h
    rw [h]
    rfl
  | d :: ds, vs, h => by
    simp only [Rps] at h
    obtain ⟨v, vs', rfl, r, q⟩ := h
    simp [Rps.len q]
theorem Rps.get : ∀ {ds : List D} {vs : List V} {i : Nat} {d : D}, Rps Γ g ds vs → ds[i]? = some d → ∃ v, vs[i]? = some v ∧ Rp Γ g d v
  | [], vs, i, d, h, e => by simp at e
  | d :: ds, vs, i, d', h, e => by
    simp only [Rps] at h
    obtain ⟨v, vs', rfl, r, q⟩ := h
    cases i with
    | zero =>
      simp at e
      subst e
      exact ⟨v, rfl, r⟩
    | succ i =>
      obtain ⟨u, h1, h2⟩ := Rps.get (i := i) q (by simpa using e)
      exact ⟨u, by simpa using h1, h2⟩
theorem Rps.app : ∀ {ds es : List D} {vs us : List V}, Rps Γ g ds vs → Rps Γ g es us → Rps Γ g (ds ++ es) (vs ++ us)
  | [], es, vs, us, h, q => by
    simp only [Rps] at h
    rw [h]
    exact q
  | d :: ds, es, vs, us, h, q => by
    simp only [Rps] at h
    obtain ⟨v, vs', rfl, r, h⟩ := h
    simp only [List.cons_append, Rps]
    exact ⟨v, vs' ++ us, rfl, r, Rps.app h q⟩
theorem Rps.take : ∀ {ds : List D} {vs : List V} (n : Nat), Rps Γ g ds vs → Rps Γ g (ds.take n) (vs.take n)
  | ds, vs, 0, h => by simp [Rps]
  | [], vs, n + 1, h => by
    simp only [Rps] at h
    rw [h]
    simp [Rps]
  | d :: ds, vs, n + 1, h => by
    simp only [Rps] at h
    obtain ⟨v, vs', rfl, r, h⟩ := h
    simp only [List.take_succ_cons, Rps]
    exact ⟨v, _, rfl, r, Rps.take n h⟩
theorem Rps.drop : ∀ {ds : List D} {vs : List V} (n : Nat), Rps Γ g ds vs → Rps Γ g (ds.drop n) (vs.drop n)
  | ds, vs, 0, h => by simpa using h
  | [], vs, n + 1, h => by
    simp only [Rps] at h
    rw [h]
    simp [Rps]
  | d :: ds, vs, n + 1, h => by
    simp only [Rps] at h
    obtain ⟨v, vs', rfl, r, h⟩ := h
    simpa using Rps.drop n h
theorem Rps.sh : ∀ {ds : List D} {vs : List V}, Rps Γ g ds vs → Ows Γ g H (ds.map O.sh) vs []
  | [], vs, h => by
    simp only [Rps] at h
    simp only [List.map_nil, Ows]
    exact ⟨h, trivial⟩
  | d :: ds, vs, h => by
    simp only [Rps] at h
    obtain ⟨v, vs', e, r, q⟩ := h
    simp only [List.map_cons, Ows]
    exact ⟨v, vs', [], [], e, rfl, by simp only [Ow]; exact ⟨trivial, r⟩, Rps.sh q⟩
/-- ints -/
theorem Rps.ints : ∀ {ds : List D} {vs : List V} {ns : List Int}, Rps Γ g ds vs → allInt ds = some ns → vs = ns.map V.int
  | [], vs, ns, h, e => by
    simp only [Rps] at h
    simp only [allInt, Option.some.injEq] at e
    rw [h, ← e]
    rfl
  | d :: ds, vs, ns, h, e => by
    simp only [Rps] at h
    obtain ⟨v, vs', rfl, r, h⟩ := h
    cases d with
    | int i =>
      simp only [allInt, Option.map_eq_some_iff] at e
      obtain ⟨ms, e1, rfl⟩ := e
      simp only [Rp] at r
      rw [r, Rps.ints h e1]
      rfl
    | _ => simp [allInt] at e
theorem Rps.bls : ∀ {ds : List D} {vs : List V} {ns : List Bool}, Rps Γ g ds vs → allBl ds = some ns → vs = ns.map V.bl
  | [], vs, ns, h, e => by
    simp only [Rps] at h
    simp only [allBl, Option.some.injEq] at e
    rw [h, ← e]
    rfl
  | d :: ds, vs, ns, h, e => by
    simp only [Rps] at h
    obtain ⟨v, vs', rfl, r, h⟩ := h
    cases d with
    | bl i =>
      simp only [allBl, Option.map_eq_some_iff] at e
      obtain ⟨ms, e1, rfl⟩ := e
      simp only [Rp] at r
      rw [r, Rps.bls h e1]
      rfl
    | _ => simp [allBl] at e
/-! ### environments -/
theorem SlotR.le (l : Le g g') {s : Sl} {x : Option V} {f : List Addr} (h : SlotR Γ g H s x f) (k : KeepAt H H' f) : SlotR Γ g' H' s x f := by
  cases s with
  | no => exact h
  | va d =>
    obtain ⟨h1, v, e, r⟩ := h
    exact ⟨h1, v, e, Rp.le l d v r⟩
  | ow o =>
    obtain ⟨v, e, r⟩ := h
    exact ⟨v, e, Ow.le l o v f r k⟩
theorem EnvR.le (l : Le g g') : ∀ {ρ : List Sl} {σ : L2.St} {fp : List Addr}, EnvR Γ g H ρ σ fp → KeepAt H H' fp → EnvR Γ g' H' ρ σ fp
  | [], σ, fp, h, k => h
  | s :: ρ, σ, fp, h, k => by
    obtain ⟨x, σ', f1, f2, e, rfl, r, q⟩ := h
    exact ⟨x, σ', f1, f2, e, rfl, r.le l (k.mono fun b hb => List.mem_append_left _ hb), EnvR.le l q (k.mono fun b hb => List.mem_append_right _ hb)⟩
theorem EnvR.there : ∀ {ρ : List Sl} {σ : L2.St} {fp : List Addr}, EnvR Γ g H ρ σ fp → ∀ a ∈ fp, ∃ u, H a = some u
  | [], σ, fp, h, a, ha => by
    rw [h.2] at ha
    cases ha
  | s :: ρ, σ, fp, h, a, ha => by
    obtain ⟨x, σ', f1, f2, e, rfl, r, q⟩ := h
    rcases List.mem_append.mp ha with ha | ha
    · cases s with
      | no =>
        have r : f1 = [] := r
        rw [r] at ha
        cases ha
      | va d =>
        rw [r.1] at ha
        cases ha
      | ow o =>
        obtain ⟨v, _, r⟩ := r
        exact Ow.there o v f1 r a ha
    · exact EnvR.there q a ha
theorem EnvR.len : ∀ {ρ : List Sl} {σ : L2.St} {fp : List Addr}, EnvR Γ g H ρ σ fp → ρ.length = σ.length
  | [], σ, fp, h => by rw [h.1]; rfl
  | s :: ρ, σ, fp, h => by
    obtain ⟨x, σ', f1, f2, rfl, rfl, r, q⟩ := h
    simp [EnvR.len q]
theorem EnvR.va : ∀ {ρ : List Sl} {σ : L2.St} {fp : List Addr} {i : Nat} {d : D}, EnvR Γ g H ρ σ fp → ρ[i]? = some (.va d) → ∃ v, σ[i]? = some (some v) ∧ Rp Γ g d v
  | [], σ, fp, i, d, h, e => by simp at e
  | s :: ρ, σ, fp, i, d, h, e => by
    obtain ⟨x, σ', f1, f2, rfl, rfl, r, q⟩ := h
    cases i with
    | zero =>
      simp at e
      subst e
      obtain ⟨_, v, rfl, r⟩ := r
      exact ⟨v, rfl, r⟩
    | succ i => 
      obtain ⟨v, e1, e2⟩ := EnvR.va (i := i) q (by simpa using e)
      exact ⟨v, by simpa using e1, e2⟩
/-- a slot taken out: its own addresses, the others' -/
theorem EnvR.split : ∀ {ρ : List Sl} {σ : L2.St} {fp : List Addr} {i : Nat} {s : Sl}, EnvR Γ g H ρ σ fp → ρ[i]? = some s →
    ∃ x f f', σ[i]? = some x ∧ SlotR Γ g H s x f ∧ fp.Perm (f ++ f') ∧ ∀ (g2 : Gh) (H2 : Hp) (s2 : Sl) (x2 : Option V) (f2 : List Addr), Le g g2 → KeepAt H H2 f' → SlotR Γ g2 H2 s2 x2 f2 → ∃ fp2, EnvR Γ g2 H2 (ρ.set i s2) (σ.set i x2) fp2 ∧ fp2.Perm (f2 ++ f')
  | [], σ, fp, i, s, h, e => by simp at e
  | s :: ρ, σ, fp, i, s', h, e => by
    obtain ⟨x, σ', f1, f2, rfl, rfl, r, q⟩ := h
    cases i with
    | zero =>
      simp at e
      subst e
      refine ⟨x, f1, f2, rfl, r, .refl _, fun g2 H2 s2 x2 f3 l k r2 => ⟨f3 ++ f2, ⟨x2, σ', f3, f2, rfl, rfl, r2, q.le l k⟩, .refl _⟩⟩
    | succ i =>
      obtain ⟨y, f, f', e1, r', p, u⟩ := EnvR.split (i := i) q (by simpa using e)
      refine ⟨y, f, f1 ++ f', by simpa using e1, r', ?_, fun g2 H2 s2 x2 f3 l k r2 => ?_⟩
      · refine (List.Perm.append_left f1 p).trans ?_
        rw [← List.append_assoc, ← List.append_assoc]
        exact List.Perm.append_right f' List.perm_append_comm
      · obtain ⟨fp2, q2, p2⟩ := u g2 H2 s2 x2 f3 l (k.mono fun b hb => List.mem_append_right _ hb) r2
        refine ⟨f1 ++ fp2, ⟨x, σ'.set i x2, f1, fp2, rfl, rfl, r.le l (k.mono fun b hb => List.mem_append_left _ hb), q2⟩, ?_⟩
        refine (List.Perm.append_left f1 p2).trans ?_
        rw [← List.append_assoc, ← List.append_assoc]
        exact List.Perm.append_right f' List.perm_append_comm
theorem EnvR.kind : ∀ {ρ : List Sl} {σ : L2.St} {fp : List Addr}, EnvR Γ g H ρ σ fp → ∀ a ∈ fp, ∃ u, H a = some u ∧ ownK u
  | [], σ, fp, h, a, ha => by
    rw [h.2] at ha
    cases ha
  | s :: ρ, σ, fp, h, a, ha => by
    obtain ⟨x, σ', f1, f2, e, rfl, r, q⟩ := h
    rcases List.mem_append.mp ha with ha | ha
    · cases s with
      | no =>
        have r : f1 = [] := r
        rw [r] at ha
        cases ha
      | va d =>
        rw [r.1] at ha
        cases ha
      | ow o =>
        obtain ⟨v, _, r⟩ := r
        exact Ow.kind o v f1 r a ha
    · exact EnvR.kind q a ha
/-- names ahead of a call: the arguments -/
theorem EnvR.start : ∀ {ds : List D} {vs : List V} (n : Nat), Rps Γ g ds vs → EnvR Γ g H (ds.map Sl.va ++ List.replicate n .no) (vs.map some ++ List.replicate n none) []
  | [], vs, n, h => by
    simp only [Rps] at h
    subst h
    induction n with
    | zero => exact ⟨rfl, rfl⟩
    | succ n ih => exact ⟨none, _, [], [], rfl, rfl, rfl, ih⟩
  | d :: ds, vs, n, h => by
    simp only [Rps] at h
    obtain ⟨v, vs', rfl, r, q⟩ := h
    exact ⟨some v, _, [], [], rfl, rfl, ⟨rfl, v, rfl, r⟩, EnvR.start n q⟩
end
/-! ### the state as a whole -/
structure SR (Γ : Env1) (g : Gh) (μ : List O) (H : Hp) (ρ : List Sl) (σ : L2.St) (fp : List Addr) : Prop where
  F : Same g.F H
  cl : Cl Γ g H μ
  env : EnvR Γ g H ρ σ fp
  nd : fp.Nodup
  ap : ∀ a ∈ fp, g.F a = none ∧ a ∉ g.G
/-- new since (g, H), or a part of a common cell -/
def Nw (g : Gh) (H : Hp) (a : Addr) : Prop := a ∈ g.G ∨ H a = none
theorem Nw.no {g : Gh} {H : Hp} {a : Addr} {u : HO} (h : Nw g H a) (e : H a = some u) (n : a ∉ g.G) : False := h.elim n fun z => by rw [e] at z; cases z
/-- from (g, H) to (g', H'): only the common cells are written -/
structure Go (Γ : Env1) (g : Gh) (H : Hp) (g' : Gh) (μ' : List O) (H' : Hp) : Prop where
  le : Le g g'
  keep : ∀ a u, H a = some u → a ∉ g.G → H' a = some u
  there : ∀ a, H a ≠ none → H' a ≠ none
  gF : ∀ a, g'.F a ≠ none → g.F a ≠ none ∨ Nw g H a
  gG : ∀ a ∈ g'.G, a ∈ g.G ∨ H a = none
  F : Same g'.F H'
  cl : Cl Γ g' H' μ'
/-- the value that has come, and its own addresses, which are new -/
structure Got (Γ : Env1) (g : Gh) (H : Hp) (g' : Gh) (μ' : List O) (H' : Hp) (o : O) (v : V) (fo : List Addr) : Prop where
  go : Go Γ g H g' μ' H'
  ow : Ow Γ g' H' o v fo
  nd : fo.Nodup
  new : ∀ a ∈ fo, Nw g H a
  ap : ∀ a ∈ fo, g'.F a = none ∧ a ∉ g'.G
section
variable {Γ : Env1} {g g' g1 g2 : Gh} {H H' H1 H2 : Hp} {μ μ' μ1 μ2 : List O} {ρ : List Sl} {σ : L2.St} {fp : List Addr}
theorem ne_none {H : Hp} {a : Addr} {u : HO} (h : H a = some u) : H a ≠ none := fun z => by rw [h] at z; cases z
theorem some_of_ne {H : Hp} {a : Addr} (h : H a ≠ none) : ∃ u, H a = some u := by
  cases e : H a with
  | none => exact absurd e h
  | some u => exact ⟨u, rfl⟩
theorem Go.refl (F : Same g.F H) (c : Cl Γ g H μ) : Go Γ g H g μ H :=
  ⟨Le.refl _, fun _ _ h _ => h, fun _ h => h, fun _ h => .inl h, fun _ h => .inl h, F, c⟩
theorem Go.nw (a : Go Γ g H g1 μ1 H1) {x : Addr} (h : Nw g1 H1 x) : Nw g H x := by
  rcases h with h | h
  · exact a.gG x h
  · refine .inr ?_
    cases e : H x with
    | none => rfl
    | some u => exact absurd h (a.there x (ne_none e))
theorem Go.trans (a : Go Γ g H g1 μ1 H1) (b : Go Γ g1 H1 g2 μ2 H2) : Go Γ g H g2 μ2 H2 where
  le := a.le.trans b.le
  keep := fun x u h n => b.keep x u (a.keep x u h n) fun z => (a.gG x z).elim n fun q => by rw [h] at q; cases q
  there := fun x h => b.there x (a.there x h)
  gF := fun x h => (b.gF x h).elim (fun z => a.gF x z) fun z => .inr (a.nw z)
  gG := fun x h => (b.gG x h).elim (fun z => a.gG x z) fun z => .inr (by
    cases e : H x with
    | none => rfl
    | some u => exact absurd z (a.there x (ne_none e)))
  F := b.F
  cl := b.cl
theorem Go.keepAt (s : SR Γ g μ H ρ σ fp) (a : Go Γ g H g' μ' H') : KeepAt H H' fp := fun x hx u e => a.keep x u e (s.ap x hx).2
/-- the names stand as they stood -/
theorem SR.go (s : SR Γ g μ H ρ σ fp) (a : Go Γ g H g' μ' H') : SR Γ g' μ' H' ρ σ fp where
  F := a.F
  cl := a.cl
  env := s.env.le a.le (a.keepAt s)
  nd := s.nd
  ap := fun x hx => by
    obtain ⟨u, e⟩ := s.env.there x hx
    obtain ⟨h1, h2⟩ := s.ap x hx
    constructor
    · cases q : g'.F x with
      | none => rfl
      | some z =>
        rcases a.gF x (ne_none q) with y | y | y
        · exact absurd h1 y
        · exact absurd y h2
        · rw [e] at y; cases y
    · intro z
      rcases a.gG x z with y | y
      · exact h2 y
      · rw [e] at y; cases y
theorem Got.sh {d : D} {v : V} (a : Go Γ g H g' μ' H') (r : Rp Γ g' d v) : Got Γ g H g' μ' H' (.sh d) v [] :=
  ⟨a, by simp only [Ow]; exact ⟨trivial, r⟩, .nil, (fun _ h => by cases h), fun _ h => by cases h⟩
/-- more objects in the ghost's part -/
def Gh.put (g : Gh) (H : Hp) (fo : List Addr) : Gh := { g with F := fun b => if b ∈ fo then H b else g.F b }
theorem Gh.put_le {fo : List Addr} (h : ∀ a ∈ fo, g.F a = none) : Le g (g.put H fo) := ⟨fun b u e => by
    show (if b ∈ fo then H b else g.F b) = some u
    by_cases hb : b ∈ fo
    · rw [h b hb] at e; cases e
    · rw [if_neg hb]; exact e, fun _ _ h => h⟩
theorem Gh.put_at {fo : List Addr} {a : Addr} (h : a ∈ fo) : (g.put H fo).F a = H a := if_pos h
theorem Gh.put_ne {fo : List Addr} {a : Addr} (h : a ∉ fo) : (g.put H fo).F a = g.F a := if_neg h
theorem Cl.le (c : Cl Γ g H μ) (l : Le g g') (er : g'.rt = g.rt) (eG : g'.G = g.G) (k : KeepAt H H' g.G) (f : ∀ a ∈ g.G, g'.F a = none) : Cl Γ g' H' μ :=
  ⟨by rw [er, eG]; exact Ows.le l _ _ _ c.own k, by rw [eG]; exact c.nd, by rw [eG]; exact f⟩
theorem Cl.there (c : Cl Γ g H μ) : ∀ a ∈ g.G, ∃ u, H a = some u := Ows.there _ _ _ c.own
/-- own objects frozen -/
theorem Go.put {fo : List Addr} (a : Go Γ g H g' μ' H') (new : ∀ x ∈ fo, Nw g H x) (ap : ∀ x ∈ fo, g'.F x = none ∧ x ∉ g'.G) : Go Γ g H (g'.put H' fo) μ' H' where
  le := a.le.trans (Gh.put_le fun x h => (ap x h).1)
  keep := a.keep
  there := a.there
  gF := fun x h => by
    by_cases hx : x ∈ fo
    · exact .inr (new x hx)
    · rw [Gh.put_ne hx] at h
      exact a.gF x h
  gG := a.gG
  F := fun x u e => by
    by_cases hx : x ∈ fo
    · rw [Gh.put_at hx] at e
      exact e
    · rw [Gh.put_ne hx] at e
      exact a.F x u e
  cl := a.cl.le (Gh.put_le fun x h => (ap x h).1) rfl rfl (fun _ _ _ h => h) fun x hx => by
    rw [Gh.put_ne fun z => (ap x z).2 hx]
    exact a.cl.fr x hx
/-- a value frozen as it has come -/
theorem Got.fz {o : O} {v : V} {fo : List Addr} (a : Got Γ g H g' μ' H' o v fo) : Go Γ g H (g'.put H' fo) μ' H' ∧ Rp Γ (g'.put H' fo) (MP.fz o) v :=
  ⟨a.go.put a.new a.ap, Ow.fz (Gh.put_le fun x h => (a.ap x h).1) o v fo a.ow fun x hx u e => by rw [Gh.put_at hx]; exact e⟩
/-- a new object, frozen at once -/
theorem Go.laid {p : Addr} {u : HO} (F : Same g.F H) (c : Cl Γ g H μ) (np : H p = none) : Go Γ g H { g with F := upd g.F p u } μ (upd H p u) := by
  have hp : g.F p = none := F.free np
  have le : Le g { g with F := upd g.F p u } := ⟨fun b w e => by show upd g.F p u b = some w; rw [upd_ne (ne_of_none e hp)]; exact e, fun _ _ h => h⟩
  refine ⟨le, fun a w e _ => by rw [upd_ne (ne_of_none e np)]; exact e, fun a h => ?_, fun a h => ?_, fun a h => .inl h, fun a w e => ?_, ?_⟩
  · obtain ⟨w, e⟩ := some_of_ne h
    rw [upd_ne (ne_of_none e np)]
    exact h
  · by_cases ha : a = p
    · subst ha; exact .inr (.inr np)
    · have h : upd g.F p u a ≠ none := h
      rw [upd_ne ha] at h
      exact .inl h
  · have e : upd g.F p u a = some w := e
    by_cases ha : a = p
    · subst ha
      rw [upd_same] at e ⊢
      exact e
    · rw [upd_ne ha] at e ⊢
      exact F _ _ e
  · refine c.le le rfl rfl (fun a ha w e => by rw [upd_ne (ne_of_none e np)]; exact e) fun a ha => ?_
    obtain ⟨w, e⟩ := c.there a ha
    show upd g.F p u a = none
    rw [upd_ne (ne_of_none e np)]
    exact c.fr a ha
/-- a new object, one's own -/
theorem Go.made {p : Addr} {u : HO} (F : Same g.F H) (c : Cl Γ g H μ) (np : H p = none) : Go Γ g H g μ (upd H p u) := by
  have kp : ∀ a w, H a = some w → upd H p u a = some w := fun a w e => by rw [upd_ne (ne_of_none e np)]; exact e
  refine ⟨Le.refl _, fun a w e _ => kp a w e, fun a h => ?_, fun a h => .inl h, fun a h => .inl h, fun a w e => kp a w (F a w e), c.le (Le.refl _) rfl rfl (fun a _ w e => kp a w e) c.fr⟩
  obtain ⟨w, e⟩ := some_of_ne h
  rw [kp a w e]
  exact fun z => by cases z
/-- a new list -/
theorem Got.ol {p : Addr} {os : List O} {vs : List V} {fo : List Addr} (F : Same g.F H) (c : Cl Γ g H μ) (np : H p = none) (r : Ows Γ g H os vs fo) (nd : fo.Nodup) (ap : ∀ a ∈ fo, g.F a = none ∧ a ∉ g.G) {H0 : Hp} {g0 : Gh}
    (a0 : Go Γ g0 H0 g μ H) (new : ∀ a ∈ fo, Nw g0 H0 a) : Got Γ g0 H0 g μ (upd H p (.lst vs)) (.ol os) (.ref p) (p :: fo) := by
  have np0 : H0 p = none := by
    cases e : H0 p with
    | none => rfl
    | some u => exact absurd np (a0.there p (ne_none e))
  have pf : p ∉ fo := fun z => by
    obtain ⟨u, e⟩ := Ows.there _ _ _ r p z
    rw [np] at e; cases e
  refine ⟨a0.trans (Go.made F c np), ?_, List.nodup_cons.mpr ⟨pf, nd⟩, fun a ha => ?_, fun a ha => ?_⟩
  · simp only [Ow]
    exact ⟨p, vs, fo, rfl, rfl, upd_same, Ows.le (Le.refl _) os vs fo r fun a ha u e => by rw [upd_ne (ne_of_none e np)]; exact e⟩
  · rcases List.mem_cons.mp ha with rfl | ha
    · exact .inr np0
    · exact new a ha
  · rcases List.mem_cons.mp ha with rfl | ha
    · exact ⟨F.free np, fun z => by
        obtain ⟨u, e⟩ := c.there _ z
        rw [np] at e; cases e⟩
    · exact ap a ha
end
end MP
/-! MPD -/
set_option Elab.async false
set_option linter.all false
set_option maxRecDepth 100000
set_option maxHeartbeats 1000000
/-! MPD: dicts whose keys are tuples: what is asked of the heap, the rules. -/
namespace MP
open PySem PySem.Spec PyProof.Rows L2
/-! ### keys -/
mutual
theorem nkey_deq : ∀ (n m : Nat) (d e : D), keyT n d = true → keyT m e = true → NestedKey.beq (nkey d) (nkey e) = deq d e := by
  intro n m d e w w'
  match d with
  | .str _ => cases n <;> simp [keyT] at w
  | .lst _ => cases n <;> simp [keyT] at w
  | .dct _ _ _ => cases n <;> simp [keyT] at w
  | .ins _ _ _ => cases n <;> simp [keyT] at w
  | .scr _ => cases n <;> simp [keyT] at w
  | .cell _ => cases n <;> simp [keyT] at w
  | .non => cases e <;> first | (simp only [nkey, NestedKey.beq, deq]; done) | (cases m <;> simp [keyT] at w'; done)
  | .bl a => cases e <;> first | (simp only [nkey, NestedKey.beq, deq]; done) | (cases m <;> simp [keyT] at w'; done) | (rename_i b; cases a <;> cases b <;> rfl) | (rename_i b; simp only [nkey, NestedKey.beq, deq]; cases a <;> simp [b2i, Int.beq_eq_decide_eq])
  | .int a => cases e <;> first | (simp only [nkey, NestedKey.beq, deq]; done) | (cases m <;> simp [keyT] at w'; done) | (rename_i b; simp only [nkey, NestedKey.beq, deq]; first | rfl | simp [Int.beq_eq_decide_eq])
  | .tup a =>
    match e with
    | .tup b =>
      cases n with
      | zero => simp [keyT] at w
      | succ n => cases m with
        | zero => simp [keyT] at w'
        | succ m =>
          simp only [nkey, NestedKey.beq, deq]
          exact nkeys_deqs n m a b (by simpa only [keyT] using w) (by simpa only [keyT] using w')
    | .str _ => cases m <;> simp [keyT] at w'
    | .lst _ => cases m <;> simp [keyT] at w'
    | .dct _ _ _ => cases m <;> simp [keyT] at w'
    | .ins _ _ _ => cases m <;> simp [keyT] at w'
    | .scr _ => cases m <;> simp [keyT] at w'
    | .cell _ => cases m <;> simp [keyT] at w'
    | .non => simp only [nkey, NestedKey.beq, deq]
    | .bl _ => simp only [nkey, NestedKey.beq, deq]
    | .int _ => simp only [nkey, NestedKey.beq, deq]
theorem nkeys_deqs : ∀ (n m : Nat) (ds es : List D), keyTs n ds = true → keyTs m es = true → NestedKey.beqAll (nkeys ds) (nkeys es) = deqs ds es
  | n, m, [], [], _, _ => by simp only [nkeys, NestedKey.beqAll, deqs]
  | n, m, [], e :: es, _, _ => by simp only [nkeys, NestedKey.beqAll, deqs]
  | n, m, d :: ds, [], _, _ => by simp only [nkeys, NestedKey.beqAll, deqs]
  | n, m, d :: ds, e :: es, w, w' => by
    simp only [keyTs, Bool.and_eq_true] at w w'
    simp only [nkeys, NestedKey.beqAll, deqs]
    rw [nkey_deq n m d e w.1 w'.1, nkeys_deqs n m ds es w.2 w'.2]
end
theorem isKey_tup {d : D} (h : isKey true d = true) : ∃ l, d = .tup l ∧ keyTs 6 l = true := by
  cases d <;> simp [isKey] at h
  exact ⟨_, rfl, h⟩
theorem nkey_key {d e : D} (h : isKey true d = true) (h' : isKey true e = true) : decide (nkey d = nkey e) = deq d e := by
  obtain ⟨l, rfl, k⟩ := isKey_tup h
  obtain ⟨m, rfl, k'⟩ := isKey_tup h'
  rw [NestedKey.decide_eq]
  exact nkey_deq 7 7 (.tup l) (.tup m) k k'
mutual
theorem nkey_depth : ∀ (n : Nat) (d : D), keyT n d = true → (nkey d).depth ≤ n
  | n, .non, w => by simp [nkey, NestedKey.depth]
  | n, .bl b, w => by simp [nkey, NestedKey.depth]
  | n, .int b, w => by simp [nkey, NestedKey.depth]
  | n, .str b, w => by simp [nkey, NestedKey.depth]
  | n, .tup l, w => by
    cases n with
    | zero => simp [keyT] at w
    | succ n =>
      simp only [nkey, NestedKey.depth]
      have := nkeys_depth n l (by simpa only [keyT] using w)
      omega
  | n, .lst _, w => by cases n <;> simp [keyT] at w
  | n, .dct _ _ _, w => by cases n <;> simp [keyT] at w
  | n, .ins _ _ _, w => by cases n <;> simp [keyT] at w
  | n, .scr _, w => by cases n <;> simp [keyT] at w
  | n, .cell _, w => by cases n <;> simp [keyT] at w
theorem nkeys_depth : ∀ (n : Nat) (ds : List D), keyTs n ds = true → NestedKey.depthAll (nkeys ds) ≤ n
  | n, [], w => by simp [nkeys, NestedKey.depthAll]
  | n, d :: ds, w => by
    simp only [keyTs, Bool.and_eq_true] at w
    simp only [nkeys, NestedKey.depthAll]
    have h1 := nkey_depth n d w.1
    have h2 := nkeys_depth n ds w.2
    omega
end
/-! ### at run -/
/-- y stands for the key k -/
def KeyAt (X : Cx) (H : Hp) (k : NestedKey) (y : V) : Prop := ∀ pins σ s, Inv X pins σ H s → ∀ u, RelV y u → ∃ b, y = .ref b ∧ u = .ref b ∧ (nestedKind X.prog X.w).is s.heap k b
/-- at a stands the dict xs -/
structure NdAt (X : Cx) (H : Hp) (a : Addr) (xs : List (NestedKey × Addr × Value)) : Prop where
  mod : (a == sysModules) = false
  at_ : DcH true H a (ndict X.prog X.w a xs)
  len : xs.length ≤ sizeLine
  keys : ∀ x ∈ xs, KeyAt X H x.1 (.ref x.2.1)
section
variable {X : Cx} {pins : List (Addr × Obj)} {σ : L2.St} {H : Hp} {s : Shared} {a b : Addr} {k : NestedKey} {xs : List (NestedKey × Addr × Value)} {y v : V} {u r : Value} {A : Around} {E : Value → Shared → Prop}
theorem NdAt.ok (n : NdAt X H a xs) (I : Inv X pins σ H s) : ObjOk X.prog X.w H s.heap a (ndict X.prog X.w a xs) := by
  rcases n.at_ with e | ⟨_, od, e⟩
  · exact I.hok _ _ e
  · exact (I.hok _ _ e).2
theorem NdAt.dict (n : NdAt X H a xs) (I : Inv X pins σ H s) : s.heap.DictOfH (nestedKind X.prog X.w) a xs := by
  obtain ⟨⟨o, es, ep, h1, h2, h3, h4, h5⟩, _, _⟩ := n.ok I
  refine ⟨o, es, ep, h1, h2, h3, h4, fun x hx => ?_, h5⟩
  obtain ⟨b, e1, e2, e3⟩ := n.keys x hx pins σ s I (.ref x.2.1) rfl
  cases e2
  exact e3
theorem KeyAt.at (h : KeyAt X H k y) (I : Inv X pins σ H s) (ry : RelV y u) : ∃ b, y = .ref b ∧ u = .ref b ∧ (nestedKind X.prog X.w).is s.heap k b := h pins σ s I u ry
theorem n_getItem {p : Addr × Value} {Q : Value → Shared → Prop} (hu : A.units + 65 < cLine) (I : Inv X pins σ H s) (n : NdAt X H a xs) (hk : KeyAt X H k y) (ry : RelV y u) (hp : atKey xs k = some p) (h : ∀ s', Inv X pins σ H s' → Q p.2 s') :
    wpAny (model X.prog X.w) A (getItem (.ref a) u) Q E s := by
  obtain ⟨b, rfl, rfl, hb⟩ := hk.at I ry
  exact wpAny_getItem_heap (show A.units + 1 + 8 < cLine by omega) hb (n.dict I) hp (h _ (I.tok _))
theorem n_in {Q : Value → Shared → Prop} (hu : A.units + 65 < cLine) (I : Inv X pins σ H s) (n : NdAt X H a xs) (hk : KeyAt X H k y) (ry : RelV y u) (h : ∀ s', Inv X pins σ H s' → Q (.bool (atKey xs k).isSome) s') :
    wpAny (model X.prog X.w) A (compareOp .In u (.ref a)) Q E s := by
  obtain ⟨b, rfl, rfl, hb⟩ := hk.at I ry
  exact wpAny_in_heap (show A.units + 1 + 8 < cLine by omega) hb n.mod (n.dict I) (h _ (I.tok _))
theorem n_notIn {Q : Value → Shared → Prop} (hu : A.units + 65 < cLine) (I : Inv X pins σ H s) (n : NdAt X H a xs) (hk : KeyAt X H k y) (ry : RelV y u) (h : ∀ s', Inv X pins σ H s' → Q (.bool (!(atKey xs k).isSome)) s') :
    wpAny (model X.prog X.w) A (compareOp .NotIn u (.ref a)) Q E s := by
  obtain ⟨b, rfl, rfl, hb⟩ := hk.at I ry
  exact wpAny_notIn_heap (show A.units + 1 + 8 < cLine by omega) hb n.mod (n.dict I) (h _ (I.tok _))
theorem nd_ok {P : Program} {w : World} {H' : Hp} {h' : Heap} {ys : List (NestedKey × Addr × Value)} (d : h'.DictOfH (nestedKind P w) a ys) : ObjOk P w H' h' a (ndict P w a ys) := by
  obtain ⟨o, es, ep, h1, h2, h3, h4, _, h5⟩ := d
  refine ⟨⟨o, es, ep, h1, h2, h3, h4, h5⟩, ⟨o, h1⟩, fun g1 g2 q k => ?_⟩
  obtain ⟨o', es', ep', q1, q2⟩ := q
  exact ⟨o', es', ep', k _ q1, q2⟩
theorem n_setItem {Q : Unit → Shared → Prop} (hu : A.units + 65 < cLine) (I : Inv X pins σ H s) (n : NdAt X H a xs) (na : H a = some (ndict X.prog X.w a xs)) (hk : KeyAt X H k (.ref b))
    (h : ∀ s', Inv X pins σ (upd H a (ndict X.prog X.w a (storedH xs k b r))) s' → Q () s') :
    wpAny (model X.prog X.w) A (setItem (.ref a) (.ref b) r) Q E s := by
  obtain ⟨b', e1, e2, hb⟩ := hk.at I (show RelV (.ref b) (.ref b) from rfl)
  cases e1
  refine wpAny_setItem_heap (hsz := n.len) (show A.units + 1 + 8 < cLine by omega) hb (n.dict I) fun h' dd' hs => h _ ?_
  have he : ∃ q, h'.get? a = some q := let ⟨q, _, _, hq, _⟩ := dd'; ⟨q, hq⟩
  exact d_write I (by rw [na]; exact True.intro) hs he (nd_ok dd')
/-- a new dict -/
def tDNewN (X : Cx) : TE := fun _ H Q => ∀ p, H p = none → (p == sysModules) = false → Q (.ref p) (upd H p (ndict X.prog X.w p []))
theorem pe_dnewN {pos : Pos} : PE X (.Dict [] [] pos) (tDNewN X) := ⟨fun pins s σ H Q I h =>
  wpAny_Dict_empty ⟨.ref s.heap.objs.size, _, I.laid (a := s.heap.objs.size) (t' := s.toks) (fun _ _ q => Heap.get?_push_of_some _ q) (Nat.le_refl _) (nd_ok (Heap.DictOfH.new s.heap)), rfl,
    h _ (I.hok.fresh (Nat.le_refl _)) (beq_eq_false_iff_ne.mpr (Ne.symm (Nat.ne_of_lt I.big)))⟩⟩
theorem vals_of_get : ∀ {xs : List V} {us : List Value}, xs.length = us.length → (∀ (i : Nat) v w, xs[i]? = some v → us[i]? = some w → RelV v w) → Vals xs us
  | [], [], _, _ => .nil
  | [], _ :: _, h, _ => by cases h
  | _ :: _, [], h, _ => by cases h
  | x :: xs, u :: us, h, f => .cons (f 0 x u rfl rfl) (vals_of_get (by simpa using h) fun i v w e1 e2 => f (i + 1) v w (by simpa using e1) (by simpa using e2))
/-! ### the rules -/
/-- d[y] -/
def rNGet (X : Cx) : R2 := fun x y H Q => ∃ a xs k p v, x = .ref a ∧ NdAt X H a xs ∧ KeyAt X H k y ∧ atKey xs k = some p ∧ RelV v p.2 ∧ Q v H
theorem nd_typeIs (I : Inv X pins σ H s) (n : NdAt X H a xs) : s.TypeIs (.ref a) "dict" := (n.dict I).typeIs
theorem ix_nd (hu : X.A.units + 65 < cLine) : IxR X (rNGet X) := by
  intro value slice pins s σ H x y v u Q I rx ry h hs
  obtain ⟨a, xs, k, p, w, rfl, n, hk, hp, rw', q⟩ := h
  obtain rfl : v = Value.ref a := rx
  have hT := nd_typeIs I n
  unfold subscriptTail
  refine wpAny_bind ?_
  rw [getitemInPython_of_ne hT.not_modules]
  refine wpAny_bind (wpAny_specialOf hT PySem.F.slot_dict_getitem.lookup ?_)
  have fin : wpAny (model X.prog X.w) X.A (subscripted slice false (.ref a) u) (fun r s₃ => wpAny (model X.prog X.w) X.A (letTemporaryGo value (.ref a) r >>= fun _ => pure r) (EP X pins σ Q) X.xe s₃) X.xe s := by
    rw [hs]
    refine wpAny_operating (n_getItem hu I n hk ry hp fun s' I' => wpAny_bind (wpAny_letTemporaryGo (wpAny_pure ⟨w, H, I', rw', q⟩)))
  first
    | exact wpAny_pure (wpAny_bind fin)
    | exact wpAny_bind (wpAny_pure (wpAny_bind fin))
    | exact wpAny_bind fin
/-- y in d -/
def rNIn (X : Cx) (neg : Bool) : R2 := fun x y H Q => ∃ a xs k, y = .ref a ∧ NdAt X H a xs ∧ KeyAt X H k x ∧ Q (.bl (if neg then !(atKey xs k).isSome else (atKey xs k).isSome)) H
theorem op_nin (hu : X.A.units + 65 < cLine) : OpR X (compareOp .In) (rNIn X false) := by
  intro pins s σ H x y v u Q I rx ry h
  obtain ⟨a, xs, k, rfl, n, hk, q⟩ := h
  obtain rfl : u = Value.ref a := ry
  exact n_in hu I n hk rx fun s' I' => ⟨.bl _, H, I', rfl, q⟩
theorem op_nnotin (hu : X.A.units + 65 < cLine) : OpR X (compareOp .NotIn) (rNIn X true) := by
  intro pins s σ H x y v u Q I rx ry h
  obtain ⟨a, xs, k, rfl, n, hk, q⟩ := h
  obtain rfl : u = Value.ref a := ry
  exact n_notIn hu I n hk rx fun s' I' => ⟨.bl _, H, I', rfl, q⟩
/-- d[y] = v -/
def rSetN (X : Cx) : V → V → V → Hp → (Hp → Prop) → Prop := fun o i v H Q => ∃ a xs k b, o = .ref a ∧ i = .ref b ∧ NdAt X H a xs ∧ H a = some (ndict X.prog X.w a xs) ∧ KeyAt X H k (.ref b) ∧ ∀ r, RelV v r → Q (upd H a (ndict X.prog X.w a (storedH xs k b r)))
theorem set_nd (hu : X.A.units + 65 < cLine) : PSet X (rSetN X) := by
  intro pins s σ H o i v ov iv u Q I ro ri rv h
  obtain ⟨a, xs, k, b, rfl, rfl, n, na, hk, q⟩ := h
  obtain rfl : ov = Value.ref a := ro
  obtain rfl : iv = Value.ref b := ri
  exact n_setItem hu I n na hk fun s' I' => ⟨_, I', q u rv⟩
theorem PSet.or {t t' : TSet} (h : PSet X t) (h' : PSet X t') : PSet X (fun o i v H Q => t o i v H Q ∨ t' o i v H Q) := by
  intro pins s σ H o i v ov iv u Q I ro ri rv q
  rcases q with q | q
  · exact h pins s σ H o i v ov iv u Q I ro ri rv q
  · exact h' pins s σ H o i v ov iv u Q I ro ri rv q
/-- d == {} -/
theorem same_empty {a b : Addr} {xs : List (NestedKey × Addr × Value)} (I : Inv X pins σ H s) (n : NdAt X H a xs) (m : NdAt X H b []) (nm : String) (E : Value → Shared → Prop) : wpAny (model X.prog X.w) A (Builtin.Dict.samePairs nm a b) (fun r s' => r = xs.isEmpty ∧ s' = s) E s := by
  have da := n.dict I
  have db := m.dict I
  obtain ⟨oa, es, ep, hoa, _, hda, hea, _⟩ := da
  obtain ⟨ob, es', ep', hob, _, hdb, heb, _⟩ := db
  have hla : es.size = xs.length := by rw [← Array.length_toList, hea, List.length_map]
  have hlb : es'.size = 0 := by rw [← Array.length_toList, heb]; rfl
  unfold Builtin.Dict.samePairs Builtin.Dict.showsAll
  rw [if_neg (show ¬ (a == sysModules) = true by rw [n.mod]; exact Bool.false_ne_true), if_neg (show ¬ (b == sysModules) = true by rw [m.mod]; exact Bool.false_ne_true)]
  refine wpAny_bind (wpAny_pure (wpAny_bind (wpAny_pure ?_)))
  refine wpAny_bind (wpAny_dictEntries hoa hda ?_)
  dsimp only
  refine wpAny_bind (wpAny_dictEntries hob hdb ?_)
  by_cases hsz : es.size = es'.size
  · rw [if_neg (by rw [hsz]; simp)]
    refine wpAny_bind (wpAny_dictEpoch hoa hda ?_)
    refine wpAny_bind ?_
    rw [Std.Legacy.Range.forIn_eq_forIn_range']
    simp only [Std.Legacy.Range.size, Nat.sub_zero, Nat.add_sub_cancel, Nat.div_one]
    have h0 : es.size = 0 := by rw [hsz, hlb]
    have hx : xs = [] := List.length_eq_zero_iff.mp (by rw [← hla, h0])
    rw [h0]
    refine wpAny_pure (wpAny_pure ⟨?_, rfl⟩)
    rw [hx]
    rfl
  · rw [if_pos (by simpa using hsz)]
    refine wpAny_bind (wpAny_rule (wpAny_pure ⟨?_, rfl⟩))
    cases xs with
    | nil => exact absurd (by rw [hla, hlb]; rfl) hsz
    | cons _ _ => rfl
theorem rc_empty {a b : Addr} {xs : List (NestedKey × Addr × Value)} {Q : Value → Shared → Prop} (I : Inv X pins σ H s) (n : NdAt X H a xs) (m : NdAt X H b []) (hu : A.units < cLine)
    (h : Q (.bool xs.isEmpty) s) : wpAny (model X.prog X.w) A (compareOp .Eq (.ref a) (.ref b)) Q E s := by
  have da := n.dict I
  have db := m.dict I
  refine wpAny_richCompare_same_room (op := .Eq) da.typeIs db.typeIs PySem.F.slot_dict_eq (wpAny_call_entry PySem.F.slot_dict_eq da.typeIs PySem.F.entry_dict_eq ?_ (PySem.F.args_dict_eq_2 _ _)) hu
  show wpAny _ _ (Builtin.Dict.dictSlotArgs "__eq__" ⟨[.ref a, .ref b], []⟩ >>= _) _ _ s
  refine wpAny_bind ?_
  unfold Builtin.Dict.dictSlotArgs
  refine wpAny_bind (wpAny_notOrdered_dict da.typeIs ?_)
  show wpAny _ _ (pure (Value.ref a, Value.ref b)) _ _ s
  refine wpAny_pure ?_
  refine wpAny_bind (wpAny_isInstance (T := "dict") db.typeIs PySem.F.sub_dict_dict ?_)
  simp only [Bool.not_true, Bool.false_eq_true, if_false]
  refine wpAny_bind (wpAny_pure (wpAny_bind (wpAny_pure ?_)))
  refine wpAny_bind (wpAny_mono (same_empty I n m _ _) (fun r s' hr => ?_) fun _ _ z => z)
  obtain ⟨rfl, rfl⟩ := hr
  refine wpAny_pure ⟨_, rfl, ?_, ?_⟩
  · exact fun x => nomatch x
  · simpa using h
theorem rc_emptyN {a b : Addr} {xs : List (NestedKey × Addr × Value)} {Q : Value → Shared → Prop} (I : Inv X pins σ H s) (n : NdAt X H a xs) (m : NdAt X H b []) (hu : A.units < cLine)
    (h : Q (.bool (!xs.isEmpty)) s) : wpAny (model X.prog X.w) A (compareOp .NotEq (.ref a) (.ref b)) Q E s := by
  have da := n.dict I
  have db := m.dict I
  refine wpAny_richCompare_same_room (op := .NotEq) da.typeIs db.typeIs PySem.F.slot_dict_ne (wpAny_call_entry PySem.F.slot_dict_ne da.typeIs PySem.F.entry_dict_ne ?_ (PySem.F.args_dict_ne_2 _ _)) hu
  show wpAny _ _ (Builtin.Dict.dictSlotArgs "__ne__" ⟨[.ref a, .ref b], []⟩ >>= _) _ _ s
  refine wpAny_bind ?_
  unfold Builtin.Dict.dictSlotArgs
  refine wpAny_bind (wpAny_notOrdered_dict da.typeIs ?_)
  show wpAny _ _ (pure (Value.ref a, Value.ref b)) _ _ s
  refine wpAny_pure ?_
  refine wpAny_bind (wpAny_isInstance (T := "dict") db.typeIs PySem.F.sub_dict_dict ?_)
  simp only [Bool.not_true, Bool.false_eq_true, if_false]
  refine wpAny_bind (wpAny_pure (wpAny_bind (wpAny_pure ?_)))
  refine wpAny_bind (wpAny_mono (same_empty I n m _ _) (fun r s' hr => ?_) fun _ _ z => z)
  obtain ⟨rfl, rfl⟩ := hr
  refine wpAny_pure ⟨_, rfl, ?_, ?_⟩
  · exact fun x => nomatch x
  · simpa using h
def rNEq (X : Cx) : R2 := fun x y H Q => ∃ a b xs, x = .ref a ∧ y = .ref b ∧ NdAt X H a xs ∧ NdAt X H b [] ∧ Q (.bl xs.isEmpty) H
def rNNe (X : Cx) : R2 := fun x y H Q => ∃ a b xs, x = .ref a ∧ y = .ref b ∧ NdAt X H a xs ∧ NdAt X H b [] ∧ Q (.bl (!xs.isEmpty)) H
theorem op_nne (hu : X.A.units + 65 < cLine) : OpR X (compareOp .NotEq) (rNNe X) := by
  intro pins s σ H x y v u Q I rx ry h
  obtain ⟨a, b, xs, rfl, rfl, n, m, q⟩ := h
  obtain rfl : v = Value.ref a := rx
  obtain rfl : u = Value.ref b := ry
  exact rc_emptyN I n m (by omega) ⟨.bl _, H, I, rfl, q⟩
theorem op_neq (hu : X.A.units + 65 < cLine) : OpR X (compareOp .Eq) (rNEq X) := by
  intro pins s σ H x y v u Q I rx ry h
  obtain ⟨a, b, xs, rfl, rfl, n, m, q⟩ := h
  obtain rfl : v = Value.ref a := rx
  obtain rfl : u = Value.ref b := ry
  exact rc_empty I n m (by omega) ⟨.bl _, H, I, rfl, q⟩
/-- list(d) -/
theorem call_list_nd (hc : X.calm = true) : CallR X (.type "list") (fun xs H Q => ∃ a ys, xs = [.ref a] ∧ NdAt X H a ys ∧ ∀ l, H l = none → Q (.ref l) (upd H l (.lst (ys.map fun y => .ref y.2.1)))) := by
  intro pins s σ H xs us Q I r h
  obtain ⟨a, ys, rfl, n, q⟩ := h
  obtain ⟨u, rfl, rx⟩ := vals1 r
  cases rx
  obtain ⟨es, ep, hr, hs, he⟩ := (n.dict I).raw
  have hlen : es.size = ys.length := hs
  refine PySem.W.kdl_call (PySem.KdlSrc.rawDict n.mod) (I.ok.hd hc) hr (by rw [hlen]; exact n.len) fun h' tk acc' c' kp e hacc => ?_
  refine ⟨.ref s.heap.objs.size, _, I.laid (t' := tk) kp (Nat.le_refl _) (show ObjOk X.prog X.w _ h' _ (.lst (ys.map fun y => .ref y.2.1)) from ⟨by rw [List.length_map]; exact n.len, acc'.toList, c', ?_, by simpa using e⟩), rfl, q _ (I.hok.fresh (Nat.le_refl _))⟩
  obtain ⟨h1, h2⟩ := hacc
  refine vals_of_get (by have z : acc'.toList.length = acc'.size := Array.length_toList; rw [List.length_map]; omega) fun i v w e1 e2 => ?_
  rw [List.getElem?_map] at e1
  obtain ⟨hi, ev⟩ := h2 i w (by simpa using e2)
  obtain ⟨y, hy, k1, k2, k3⟩ := he i hi
  rw [hy] at e1
  cases e1
  rw [ev, k1]
  rfl
end
/-! ### what the values say -/
abbrev gm (X : Cx) : Env1 := ⟨X.K, X.prog, X.w⟩
section
variable {X : Cx} {g g' : Gh} {H H' : Hp} {μ : List O}
mutual
theorem key_is (F : Same g.F H) : ∀ (n : Nat) (d : D) (v : V), keyT n d = true → Rp (gm X) g d v → ∀ pins σ s, Inv X pins σ H s → ∀ u, RelV v u → NestedIs s.heap (nkey d) u
  | n, .non, v, w, r, pins, σ, s, I, u, ru => by
    simp only [Rp] at r
    subst r
    cases ru
    exact .none
  | n, .bl b, v, w, r, pins, σ, s, I, u, ru => by
    simp only [Rp] at r
    subst r
    cases ru
    exact .bool rfl
  | n, .int i, v, w, r, pins, σ, s, I, u, ru => by
    simp only [Rp] at r
    subst r
    obtain ⟨t, rfl⟩ := ru
    exact .int _ _
  | n, .str i, v, w, r, pins, σ, s, I, u, ru => by cases n <;> simp [keyT] at w
  | n, .lst i, v, w, r, pins, σ, s, I, u, ru => by cases n <;> simp [keyT] at w
  | n, .dct _ _ _, v, w, r, pins, σ, s, I, u, ru => by cases n <;> simp [keyT] at w
  | n, .ins _ _ _, v, w, r, pins, σ, s, I, u, ru => by cases n <;> simp [keyT] at w
  | n, .scr _, v, w, r, pins, σ, s, I, u, ru => by cases n <;> simp [keyT] at w
  | n, .cell _, v, w, r, pins, σ, s, I, u, ru => by cases n <;> simp [keyT] at w
  | n, .tup l, v, w, r, pins, σ, s, I, u, ru => by
    cases n with
    | zero => simp [keyT] at w
    | succ n =>
      simp only [Rp] at r
      obtain ⟨a, vs, rfl, sq, r⟩ := r
      obtain rfl : u = Value.ref a := ru
      obtain ⟨its, rv, ⟨o, h1, h2, m, h3⟩, _⟩ := I.tuple (sqT_le F sq)
      simp only [nkey]
      exact .tup h1 h2 h3 (keys_is F n l vs (by simpa only [keyT] using w) r pins σ s I its (by simpa using rv))
theorem keys_is (F : Same g.F H) : ∀ (n : Nat) (ds : List D) (vs : List V), keyTs n ds = true → Rps (gm X) g ds vs → ∀ pins σ s, Inv X pins σ H s → ∀ us, Vals vs us → NestedAll s.heap (nkeys ds) us
  | n, [], vs, w, r, pins, σ, s, I, us, ru => by
    simp only [Rps] at r
    subst r
    cases ru
    exact .nil
  | n, d :: ds, vs, w, r, pins, σ, s, I, us, ru => by
    simp only [keyTs, Bool.and_eq_true] at w
    simp only [Rps] at r
    obtain ⟨v, vs', rfl, r, q⟩ := r
    cases ru with
    | cons r1 r2 => exact .cons (key_is F n d v w.1 r pins σ s I _ r1) (keys_is F n ds vs' w.2 q pins σ s I _ r2)
end
theorem key_at (F : Same g.F H) {d : D} {v : V} (k : isKey true d = true) (r : Rp (gm X) g d v) : ∃ b, v = .ref b ∧ KeyAt X H (nkey d) v := by
  obtain ⟨l, rfl, kl⟩ := isKey_tup k
  have r0 := r
  simp only [Rp] at r
  obtain ⟨a, vs, rfl, sq, r⟩ := r
  refine ⟨a, rfl, fun pins σ s I u ru => ?_⟩
  obtain rfl : u = Value.ref a := ru
  refine ⟨a, rfl, rfl, key_is F 7 (.tup l) (.ref a) (by simpa only [keyT] using kl) r0 pins σ s I _ rfl, ?_⟩
  have := nkey_depth 7 (.tup l) (by simpa only [keyT] using kl)
  omega
theorem keys_at (F : Same g.F H) : ∀ (xs : List (NestedKey × Addr × Value)) (ks : List D), xs.map (·.1) = nkeys ks → Rps (gm X) g ks (xs.map fun x => V.ref x.2.1) → ks.all (isKey true) = true → ∀ x ∈ xs, KeyAt X H x.1 (.ref x.2.1)
  | [], ks, e, r, k, x, hx => by cases hx
  | y :: ys, [], e, r, k, x, hx => by cases e
  | y :: ys, d :: ks, e, r, k, x, hx => by
    simp only [List.map_cons, nkeys, List.cons.injEq] at e
    simp only [List.all_cons, Bool.and_eq_true] at k
    simp only [List.map_cons, Rps, List.cons.injEq] at r
    obtain ⟨v, vs', ⟨rfl, rfl⟩, r, q⟩ := r
    rcases List.mem_cons.mp hx with rfl | hx
    · obtain ⟨b, _, h⟩ := key_at F k.1 r
      rw [e.1]
      exact h
    · exact keys_at F ys ks e.2 q k.2 x hx
/-- a dict as the rules want it -/
structure DxAt (X : Cx) (H : Hp) (a : Addr) (ks : List D) (kv vv : List V) (xs : List (NestedKey × Addr × Value)) : Prop where
  nd : NdAt X H a xs
  ek : xs.map (·.1) = nkeys ks
  ev : kv = xs.map fun x => V.ref x.2.1
  vs : Vals vv (xs.map (·.2.2))
  all : ks.all (isKey true) = true
  nod : (xs.map (·.1)).Nodup
theorem DcAt.dxO (F : Same g.F H) {a : Addr} {ks : List D} {kv vv : List V} (h : DcAt X.prog X.w false H a true ks kv vv) (r : Rps (gm X) g ks kv) : ∃ xs, DxAt X H a ks kv vv xs ∧ H a = some (ndict X.prog X.w a xs) := by
  obtain ⟨hm, xs, h1, h2, h3, h4, h5, h6, h7⟩ := h
  subst h3
  exact ⟨xs, ⟨⟨hm, h1.any, h5, keys_at F xs ks h2 r h6⟩, h2, rfl, h4, h6, h7⟩, h1.own⟩
theorem DcAt.dx {f : Bool} (F : Same g.F H) {a : Addr} {ks : List D} {kv vv : List V} (h : DcAt X.prog X.w f H a true ks kv vv) (r : Rps (gm X) g ks kv) : ∃ xs, DxAt X H a ks kv vv xs := by
  obtain ⟨hm, xs, h1, h2, h3, h4, h5, h6, h7⟩ := h
  subst h3
  exact ⟨xs, ⟨hm, h1.any, h5, keys_at F xs ks h2 r h6⟩, h2, rfl, h4, h6, h7⟩
theorem DxAt.dc {a : Addr} {ks : List D} {kv vv : List V} {xs : List (NestedKey × Addr × Value)} (h : DxAt X H a ks kv vv xs) : DcAt X.prog X.w true H a true ks kv vv :=
  ⟨h.nd.mod, xs, h.nd.at_, h.ek, h.ev, h.vs, h.nd.len, h.all, h.nod⟩
theorem atKey_cons (x : NestedKey × Addr × Value) (xs : List (NestedKey × Addr × Value)) (k : NestedKey) : atKey (x :: xs) k = if decide (x.1 = k) = true then some x.2 else atKey xs k := by
  unfold atKey
  rw [List.find?_cons]
  cases decide (x.1 = k) <;> rfl
theorem lookD_at {k : D} (hk : isKey true k = true) : ∀ (xs : List (NestedKey × Addr × Value)) (ks vs : List D) (vv : List V), xs.map (·.1) = nkeys ks → Vals vv (xs.map (·.2.2)) → Rps (gm X) g vs vv → ks.all (isKey true) = true →
    match lookD k ks vs with
    | some d => ∃ p v, atKey xs (nkey k) = some p ∧ RelV v p.2 ∧ Rp (gm X) g d v
    | none => atKey xs (nkey k) = none
  | [], [], vs, vv, e, rv, r, ha => by
    simp only [lookD]
    rfl
  | [], _ :: _, vs, vv, e, rv, r, ha => by simp [nkeys] at e
  | _ :: _, [], vs, vv, e, rv, r, ha => by simp [nkeys] at e
  | x :: xs, c :: ks, vs, vv, e, rv, r, ha => by
    simp only [List.map_cons, nkeys, List.cons.injEq] at e
    simp only [List.all_cons, Bool.and_eq_true] at ha
    cases rv with
    | @cons v1 _ vv' _ r1 r2 =>
      cases vs with
      | nil => simp only [Rps] at r; cases r
      | cons d ds =>
        simp only [Rps, List.cons.injEq] at r
        obtain ⟨v, vs', ⟨rfl, rfl⟩, r, q⟩ := r
        have ih := lookD_at hk xs ks ds vv' e.2 r2 q ha.2
        have hd : decide (x.1 = nkey k) = deq c k := by rw [e.1]; exact nkey_key ha.1 hk
        rw [atKey_cons, hd]
        simp only [lookD]
        cases deq c k with
        | true =>
          simp only [if_true]
          exact ⟨_, _, rfl, r1, r⟩
        | false =>
          simp only [Bool.false_eq_true, if_false]
          exact ih
theorem look_isSome {k : D} (hk : isKey true k = true) {xs : List (NestedKey × Addr × Value)} {ks vs : List D} {vv : List V} (e : xs.map (·.1) = nkeys ks) (rv : Vals vv (xs.map (·.2.2))) (r : Rps (gm X) g vs vv) (ha : ks.all (isKey true) = true) :
    (atKey xs (nkey k)).isSome = (lookD k ks vs).isSome := by
  have h := lookD_at hk xs ks vs vv e rv r ha
  cases e2 : lookD k ks vs with
  | none =>
    rw [e2] at h
    simp only at h
    rw [h]
    rfl
  | some d =>
    rw [e2] at h
    obtain ⟨p, v, h1, _⟩ := h
    rw [h1]
    rfl
/-! ### stored -/
def sto (k : NestedKey) (b : Addr) (r : Value) : List (NestedKey × Addr × Value) → List (NestedKey × Addr × Value)
  | [] => [(k, b, r)]
  | x :: xs => if decide (x.1 = k) = true then (x.1, x.2.1, r) :: xs else x :: sto k b r xs
theorem put_none {k : NestedKey} {r : Value} : ∀ {xs : List (NestedKey × Addr × Value)}, k ∉ xs.map (·.1) → xs.map (putAt k r) = xs
  | [], _ => rfl
  | x :: xs, h => by
    simp only [List.map_cons, List.mem_cons, not_or] at h
    rw [List.map_cons, put_none h.2]
    unfold putAt
    rw [if_neg (fun z => h.1 z.symm)]
theorem sto_eq {k : NestedKey} {b : Addr} {r : Value} : ∀ (xs : List (NestedKey × Addr × Value)), (xs.map (·.1)).Nodup → storedH xs k b r = sto k b r xs
  | [], _ => rfl
  | x :: xs, h => by
    simp only [List.map_cons, List.nodup_cons] at h
    have ih := sto_eq (k := k) (b := b) (r := r) xs h.2
    simp only [sto]
    unfold storedH at ih ⊢
    rw [atKey_cons]
    by_cases e : x.1 = k
    · rw [decide_eq_true e]
      simp only [if_true, Option.isSome_some, List.map_cons]
      rw [put_none (by rw [← e]; exact h.1)]
      unfold putAt
      rw [if_pos e]
    · rw [decide_eq_false e]
      simp only [Bool.false_eq_true, if_false]
      split
      · rename_i hs
        rw [if_pos hs] at ih
        rw [List.map_cons, ih]
        unfold putAt
        rw [if_neg e]
      · rename_i hs
        rw [if_neg hs] at ih
        rw [List.cons_append, ih]
theorem sto_len {k : NestedKey} {b : Addr} {r : Value} : ∀ (xs : List (NestedKey × Addr × Value)), (sto k b r xs).length ≤ xs.length + 1
  | [] => by simp [sto]
  | x :: xs => by
    simp only [sto]
    split
    · simp
    · simp only [List.length_cons]
      have := sto_len (k := k) (b := b) (r := r) xs
      omega
theorem sto_mem {k : NestedKey} {b : Addr} {r : Value} : ∀ (xs : List (NestedKey × Addr × Value)) (z : NestedKey), z ∈ (sto k b r xs).map (·.1) → z ∈ xs.map (·.1) ∨ z = k
  | [], z, h => by
    simp only [sto, List.map_cons, List.map_nil, List.mem_cons, List.not_mem_nil, or_false] at h
    exact .inr h
  | x :: xs, z, h => by
    simp only [sto] at h
    split at h
    · exact .inl (by simpa using h)
    · simp only [List.map_cons, List.mem_cons] at h ⊢
      rcases h with h | h
      · exact .inl (.inl h)
      · rcases sto_mem xs z h with h | h
        · exact .inl (.inr h)
        · exact .inr h
theorem sto_nod {k : NestedKey} {b : Addr} {r : Value} : ∀ (xs : List (NestedKey × Addr × Value)), (xs.map (·.1)).Nodup → ((sto k b r xs).map (·.1)).Nodup
  | [], _ => by simp [sto]
  | x :: xs, h => by
    have h0 := h
    simp only [List.map_cons, List.nodup_cons] at h
    simp only [sto]
    split
    · simpa using h0
    · rename_i e
      simp only [List.map_cons, List.nodup_cons]
      refine ⟨fun z => ?_, sto_nod xs h.2⟩
      rcases sto_mem xs _ z with z | z
      · exact h.1 z
      · exact e (decide_eq_true z)
/-- a value put at a key -/
theorem put_at {k d : D} (hk : isKey true k = true) {b : Addr} {r : Value} {y : V} (rk : Rp (gm X) g k (.ref b)) (ry : RelV y r) (rd : Rp (gm X) g d y) : ∀ (xs : List (NestedKey × Addr × Value)) (ks : List D) (os : List O) (vv : List V) (fp : List Addr),
    xs.map (·.1) = nkeys ks → Rps (gm X) g ks (xs.map fun x => V.ref x.2.1) → Vals vv (xs.map (·.2.2)) → Ows (gm X) g H os vv fp → ks.all (isKey true) = true →
    ∃ vv' fp', (sto (nkey k) b r xs).map (·.1) = nkeys (keyPut k (.sh d) ks os).1 ∧ Rps (gm X) g (keyPut k (.sh d) ks os).1 ((sto (nkey k) b r xs).map fun x => V.ref x.2.1) ∧ Vals vv' ((sto (nkey k) b r xs).map (·.2.2)) ∧
      Ows (gm X) g H (keyPut k (.sh d) ks os).2 vv' fp' ∧ (keyPut k (.sh d) ks os).1.all (isKey true) = true ∧ (∀ a ∈ fp', a ∈ fp) ∧ (fp.Nodup → fp'.Nodup)
  | [], ks, os, vv, fp, e, rk', rv, ro, ha => by
    cases ks with
    | cons _ _ => simp [nkeys] at e
    | nil =>
      cases rv
      cases os with
      | cons o os =>
        simp only [Ows] at ro
        obtain ⟨v, vs', f1, f2, z, _⟩ := ro
        cases z
      | nil =>
        refine ⟨[y], [], rfl, ?_, .cons ry .nil, ?_, ?_, (fun a z => by cases z), fun _ => .nil⟩
        · simp only [keyPut, sto, List.map_cons, List.map_nil, Rps]
          exact ⟨_, _, rfl, rk, rfl⟩
        · simp only [keyPut, Ows]
          exact ⟨_, _, [], [], rfl, rfl, by simp only [Ow]; exact ⟨trivial, rd⟩, rfl, rfl⟩
        · simp only [keyPut, List.all_cons, hk, List.all_nil, Bool.and_true]
  | x :: xs, ks, os, vv, fp, e, rk', rv, ro, ha => by
    cases ks with
    | nil => simp [nkeys] at e
    | cons c ks =>
      simp only [List.map_cons, nkeys, List.cons.injEq] at e
      simp only [List.all_cons, Bool.and_eq_true] at ha
      simp only [List.map_cons, Rps, List.cons.injEq] at rk'
      obtain ⟨w, ws, ⟨rfl, rfl⟩, rc, rcs⟩ := rk'
      cases rv with
      | @cons v1 _ vv' _ r1 r2 =>
        cases os with
        | nil =>
          simp only [Ows] at ro
          cases ro.1
        | cons o os =>
          simp only [Ows, List.cons.injEq] at ro
          obtain ⟨v, vs', f1, f2, ⟨rfl, rfl⟩, rfl, q1, q2⟩ := ro
          have hd : decide (x.1 = nkey k) = deq c k := by rw [e.1]; exact nkey_key ha.1 hk
          obtain ⟨vv2, fp2, k1, k2, k3, k4, k5, k6, k7⟩ := put_at hk rk ry rd xs ks os vv' f2 e.2 rcs r2 q2 ha.2
          simp only [sto, keyPut, hd]
          cases deq c k with
          | true =>
            simp only [if_true]
            refine ⟨y :: vv', f2, ?_, ?_, .cons ry r2, ?_, ?_, fun a z => List.mem_append_right _ z, fun n => (List.nodup_append.mp n).2.1⟩
            · simp only [List.map_cons, nkeys, e.1, e.2]
            · simp only [List.map_cons, Rps]
              exact ⟨_, _, rfl, rc, rcs⟩
            · simp only [Ows]
              exact ⟨_, _, [], f2, rfl, rfl, by simp only [Ow]; exact ⟨trivial, rd⟩, q2⟩
            · simp only [List.all_cons, ha.1, ha.2, Bool.and_true]
          | false =>
            simp only [Bool.false_eq_true, if_false]
            refine ⟨v1 :: vv2, f1 ++ fp2, ?_, ?_, .cons r1 k3, ?_, ?_, fun a z => ?_, fun n => ?_⟩
            · simp only [List.map_cons, nkeys, e.1, k1]
            · simp only [List.map_cons, Rps]
              exact ⟨_, _, rfl, rc, k2⟩
            · simp only [Ows]
              exact ⟨_, _, f1, fp2, rfl, rfl, q1, k4⟩
            · simp only [List.all_cons, ha.1, k5, Bool.and_true]
            · rcases List.mem_append.mp z with z | z
              · exact List.mem_append_left _ z
              · exact List.mem_append_right _ (k6 a z)
            · obtain ⟨n1, n2, n3⟩ := List.nodup_append.mp n
              exact List.nodup_append.mpr ⟨n1, k7 n2, fun a ha b hb => n3 a ha b (k6 b hb)⟩
end
end MP
/-! MP2 -/
set_option Elab.async false
set_option linter.all false
set_option maxRecDepth 100000
set_option maxHeartbeats 1000000
/-! MP2: operators by values: what is asked of V and the heap follows from what D says. -/
namespace MP
open PySem PySem.Spec PyProof.Rows L2
theorem LIM_eq : LIM = sizeLine := by rw [sizeLine_eq]; rfl
section
variable {X : Cx} {Γ : Env1} {g : Gh} {H : Hp} {μ : List O}
/-! ### data for == -/
mutual
def dpy : D → PyData
  | .non => .none | .bl b => .bool b | .int i => .int i | .str s => .str s
  | .tup l => .tuple (dpys l)
  | .lst l => .list (dpys l)
  | _ => .none
def dpys : List D → List PyData
  | [] => []
  | d :: r => dpy d :: dpys r
end
mutual
theorem dpy_at (F : Same g.F H) : ∀ (n : Nat) (d : D) (v : V), wf n d = true → Rp Γ g d v → Dp Γ.K H v (dpy d)
  | n, .non, v, w, h => by
    simp only [Rp] at h; subst h; simp only [dpy]; exact .non
  | n, .bl b, v, w, h => by
    simp only [Rp] at h; subst h; simp only [dpy]; exact .bl b
  | n, .int b, v, w, h => by
    simp only [Rp] at h; subst h; simp only [dpy]; exact .int b
  | n, .str b, v, w, h => by
    simp only [Rp] at h; subst h; simp only [dpy]; exact .str b
  | n, .tup l, v, w, h => by
    cases n with
    | zero => simp [wf] at w
    | succ n =>
      simp only [Rp] at h
      obtain ⟨a, vs, rfl, s, r⟩ := h
      simp only [dpy]
      exact .tup (sqT_le F s) (dpys_at F n l vs (by simpa only [wf] using w) r)
  | n, .lst l, v, w, h => by
    cases n with
    | zero => simp [wf] at w
    | succ n =>
      simp only [Rp] at h
      obtain ⟨a, vs, rfl, s, r⟩ := h
      simp only [dpy]
      exact .lst (SqL.of (F _ _ s)) (dpys_at F n l vs (by simpa only [wf] using w) r)
  | n, .dct _ _ _, v, w, h => by cases n <;> simp [wf] at w
  | n, .ins _ _ _, v, w, h => by cases n <;> simp [wf] at w
  | n, .scr _, v, w, h => by cases n <;> simp [wf] at w
  | n, .cell _, v, w, h => by cases n <;> simp [wf] at w
theorem dpys_at (F : Same g.F H) : ∀ (n : Nat) (ds : List D) (vs : List V), wfs n ds = true → Rps Γ g ds vs → DpAll Γ.K H vs (dpys ds)
  | n, [], vs, w, h => by
    simp only [Rps] at h; subst h; simp only [dpys]; exact .nil
  | n, d :: ds, vs, w, h => by
    simp only [wfs, Bool.and_eq_true] at w
    simp only [Rps] at h
    obtain ⟨v, vs', rfl, r, q⟩ := h
    simp only [dpys]
    exact .cons (dpy_at F n d v w.1 r) (dpys_at F n ds vs' w.2 q)
end
mutual
theorem dpy_lay : ∀ (n : Nat) (d : D), wf n d = true → (dpy d).canLay0 = true ∧ (dpy d).depth ≤ n
  | n, .non, w => by simp [dpy, PyData.canLay0, PyData.depth]
  | n, .bl b, w => by simp [dpy, PyData.canLay0, PyData.depth]
  | n, .int b, w => by simp [dpy, PyData.canLay0, PyData.depth]
  | n, .str b, w => by
    have w : sOk b = true := by cases n <;> simpa [wf] using w
    exact ⟨by simp only [dpy, PyData.canLay0]; exact w, by simp [dpy, PyData.depth]⟩
  | n, .tup l, w => by
    cases n with
    | zero => simp [wf] at w
    | succ n =>
      obtain ⟨h1, h2⟩ := dpys_lay n l (by simpa only [wf] using w)
      simp only [dpy, PyData.canLay0, PyData.depth]
      exact ⟨h1, by omega⟩
  | n, .lst l, w => by
    cases n with
    | zero => simp [wf] at w
    | succ n =>
      obtain ⟨h1, h2⟩ := dpys_lay n l (by simpa only [wf] using w)
      simp only [dpy, PyData.canLay0, PyData.depth]
      exact ⟨h1, by omega⟩
  | n, .dct _ _ _, w => by cases n <;> simp [wf] at w
  | n, .ins _ _ _, w => by cases n <;> simp [wf] at w
  | n, .scr _, w => by cases n <;> simp [wf] at w
  | n, .cell _, w => by cases n <;> simp [wf] at w
theorem dpys_lay : ∀ (n : Nat) (ds : List D), wfs n ds = true → PyData.canLayAll0 (dpys ds) = true ∧ PyData.depthAll (dpys ds) ≤ n
  | n, [], w => by simp [dpys, PyData.canLayAll0, PyData.depthAll]
  | n, d :: ds, w => by
    simp only [wfs, Bool.and_eq_true] at w
    obtain ⟨h1, h2⟩ := dpy_lay n d w.1
    obtain ⟨h3, h4⟩ := dpys_lay n ds w.2
    simp only [dpys, PyData.canLayAll0, PyData.depthAll, h1, h3]
    exact ⟨rfl, by omega⟩
end
theorem dpy_shaped {n : Nat} (hn : n ≤ 64) {d : D} (w : wf n d = true) : SeqAt.shaped (dpy d) = true := by
  obtain ⟨h1, h2⟩ := dpy_lay n d w
  show ((dpy d).canLay0 && decide ((dpy d).depth ≤ 64)) = true
  rw [h1, decide_eq_true (by omega)]
  rfl
mutual
theorem dpy_eqv : ∀ (n m : Nat) (d e : D), wf n d = true → wf m e = true → PyData.eqv (dpy d) (dpy e) = deq d e := by
  intro n m d e w w'
  match d with
  | .dct _ _ _ => cases n <;> simp [wf] at w
  | .ins _ _ _ => cases n <;> simp [wf] at w
  | .scr _ => cases n <;> simp [wf] at w
  | .cell _ => cases n <;> simp [wf] at w
  | .non => cases e <;> first | (simp only [dpy, PyData.eqv, deq]; done) | (cases m <;> simp [wf] at w')
  | .bl a => cases e <;> first | (simp only [dpy, PyData.eqv, deq, b2i]; done) | (cases m <;> simp [wf] at w')
  | .int a => cases e <;> first | (simp only [dpy, PyData.eqv, deq, b2i]; done) | (cases m <;> simp [wf] at w')
  | .str a => cases e <;> first | (simp only [dpy, PyData.eqv, deq, b2i]; done) | (cases m <;> simp [wf] at w')
  | .tup a =>
    match e with
    | .tup b =>
      cases n with
      | zero => simp [wf] at w
      | succ n => cases m with
        | zero => simp [wf] at w'
        | succ m =>
          simp only [dpy, PyData.eqv, deq]
          exact dpys_eqv n m a b (by simpa only [wf] using w) (by simpa only [wf] using w')
    | .dct _ _ _ => cases m <;> simp [wf] at w'
    | .ins _ _ _ => cases m <;> simp [wf] at w'
    | .scr _ => cases m <;> simp [wf] at w'
    | .cell _ => cases m <;> simp [wf] at w'
    | .non => simp only [dpy, PyData.eqv, deq]
    | .bl _ => simp only [dpy, PyData.eqv, deq]
    | .int _ => simp only [dpy, PyData.eqv, deq]
    | .str _ => simp only [dpy, PyData.eqv, deq]
    | .lst _ => simp only [dpy, PyData.eqv, deq]
  | .lst a =>
    match e with
    | .lst b =>
      cases n with
      | zero => simp [wf] at w
      | succ n => cases m with
        | zero => simp [wf] at w'
        | succ m =>
          simp only [dpy, PyData.eqv, deq]
          exact dpys_eqv n m a b (by simpa only [wf] using w) (by simpa only [wf] using w')
    | .dct _ _ _ => cases m <;> simp [wf] at w'
    | .ins _ _ _ => cases m <;> simp [wf] at w'
    | .scr _ => cases m <;> simp [wf] at w'
    | .cell _ => cases m <;> simp [wf] at w'
    | .non => simp only [dpy, PyData.eqv, deq]
    | .bl _ => simp only [dpy, PyData.eqv, deq]
    | .int _ => simp only [dpy, PyData.eqv, deq]
    | .str _ => simp only [dpy, PyData.eqv, deq]
    | .tup _ => simp only [dpy, PyData.eqv, deq]
theorem dpys_eqv : ∀ (n m : Nat) (ds es : List D), wfs n ds = true → wfs m es = true → PyData.eqvAll (dpys ds) (dpys es) = deqs ds es
  | n, m, [], [], _, _ => by simp only [dpys, PyData.eqvAll, deqs]
  | n, m, [], e :: es, _, _ => by simp only [dpys, PyData.eqvAll, deqs]
  | n, m, d :: ds, [], _, _ => by simp only [dpys, PyData.eqvAll, deqs]
  | n, m, d :: ds, e :: es, w, w' => by
    simp only [wfs, Bool.and_eq_true] at w w'
    simp only [dpys, PyData.eqvAll, deqs]
    rw [dpy_eqv n m d e w.1 w'.1, dpys_eqv n m ds es w.2 w'.2]
end
theorem dpys_any {n : Nat} {x : D} {m : Nat} (wx : wf m x = true) : ∀ (ds : List D), wfs n ds = true → ((dpys ds).any fun z => PyData.eqv z (dpy x)) = inD x ds
  | [], _ => rfl
  | d :: ds, w => by
    simp only [wfs, Bool.and_eq_true] at w
    simp only [dpys, List.any_cons, inD]
    rw [dpy_eqv n m d x w.1 wx, dpys_any wx ds w.2]
    rfl
/-! ### binary operators -/
/-- what is wanted of an operator's answer -/
def Ret (Γ : Env1) (g : Gh) (μ : List O) (H : Hp) (o : O) (Q : VK) : Prop := ∀ g' H' v fo, Got Γ g H g' μ H' o v fo → Q v H'
theorem Ret.sh {d : D} {v : V} {Q : VK} (F : Same g.F H) (c : Cl Γ g H μ) (r : Rp Γ g d v) (h : Ret Γ g μ H (.sh d) Q) : Q v H :=
  h g H v [] (Got.sh (Go.refl F c) r)
theorem Ret.int {i : Int} {Q : VK} (F : Same g.F H) (c : Cl Γ g H μ) (h : Ret Γ g μ H (.sh (.int i)) Q) : Q (.int i) H := Ret.sh F c (by simp only [Rp]) h
theorem Ret.bl {i : Bool} {Q : VK} (F : Same g.F H) (c : Cl Γ g H μ) (h : Ret Γ g μ H (.sh (.bl i)) Q) : Q (.bl i) H := Ret.sh F c (by simp only [Rp]) h
theorem Ret.str {i : Str} {Q : VK} (F : Same g.F H) (c : Cl Γ g H μ) (h : Ret Γ g μ H (.sh (.str i)) Q) : Q (.str i) H := Ret.sh F c (by simp only [Rp]) h
theorem Ret.non {Q : VK} (F : Same g.F H) (c : Cl Γ g H μ) (h : Ret Γ g μ H (.sh .non) Q) : Q .non H := Ret.sh F c (by simp only [Rp]) h
/-- a new list of shared items -/
theorem Ret.lst {ds : List D} {vs : List V} {Q : VK} (F : Same g.F H) (c : Cl Γ g H μ) (r : Rps Γ g ds vs) (h : Ret Γ g μ H (.ol (ds.map .sh)) Q) : ∀ p, H p = none → Q (.ref p) (upd H p (.lst vs)) := fun p np =>
  h g _ _ _ (Got.ol F c np r.sh .nil (fun _ z => by cases z) (Go.refl F c) fun _ z => by cases z)
/-- a new tuple -/
theorem Ret.tup {ds : List D} {vs : List V} {Q : VK} (F : Same g.F H) (c : Cl Γ g H μ) (r : Rps Γ g ds vs) (h : Ret Γ g μ H (.sh (.tup ds)) Q) : ∀ p, H p = none → Q (.ref p) (upd H p (.tup vs)) := fun p np => by
  have G := Go.laid (u := .tup vs) F c np
  refine h _ _ _ [] (Got.sh G ?_)
  simp only [Rp]
  exact ⟨p, vs, rfl, SqT.of upd_same, Rps.le G.le _ _ r⟩
def opOf : BO → Operator
  | .add => .Add | .sub => .Sub | .mul => .Mult | .fdiv => .FloorDiv | .mod => .Mod | .pow => .Pow
def rBin (K : PySem.W.Frag) : BO → R2
  | .add => fun x y H Q => (∃ i j, x = .int i ∧ y = .int j ∧ Q (.int (i + j)) H) ∨ ((∃ i j, x = .str i ∧ y = .str j ∧ i.length + j.length ≤ sizeLine ∧ Q (.str (i ++ j)) H) ∨ (rCat x y H Q ∨ rCatT K x y H Q))
  | .sub => rI0 fun i j => .int (i - j)
  | .mul => rI CMul fun i j => .int (i * j)
  | .fdiv => rI CDiv fun i j => .int (i / j)
  | .mod => rI (fun _ j => 0 < j) fun i j => .int (i % j)
  | .pow => rI CPow fun i j => .int (i ^ j.toNat)
theorem opR_bin {X : Cx} : ∀ b : BO, OpR X (binaryOp (opOf b)) (rBin X.K b)
  | .add => op_add.or (op_add_str.or (op_cat.or op_catT))
  | .sub => op_sub
  | .mul => op_mul
  | .fdiv => op_fdiv
  | .mod => op_mod
  | .pow => op_pow
theorem bin_sound {b : BO} {x y : D} {o : O} {v u : V} {Q : VK} (e : binD b x y = some o) (F : Same g.F H) (c : Cl Γ g H μ) (rx : Rp Γ g x v) (ry : Rp Γ g y u) (h : Ret Γ g μ H o Q) : rBin Γ.K b v u H Q := by
  unfold binD at e
  split at e
  · cases e
    simp only [Rp] at rx ry
    exact .inl ⟨_, _, rx, ry, h.int F c⟩
  · split at e
    · cases e
      simp only [Rp] at rx ry
      exact .inr (.inl ⟨_, _, rx, ry, by rw [← LIM_eq]; assumption, h.str F c⟩)
    · cases e
  · split at e
    · cases e
      simp only [Rp] at rx ry
      obtain ⟨a, vs, rfl, s, r⟩ := rx
      obtain ⟨a', vs', rfl, s', r'⟩ := ry
      refine .inr (.inr (.inl ⟨a, a', vs, vs', rfl, rfl, F _ _ s, F _ _ s', ?_, Ret.lst F c (r.app r') h⟩))
      rw [← r.len, ← r'.len, ← LIM_eq]
      assumption
    · cases e
  · split at e
    · rename_i hb
      cases e
      simp only [Rp] at rx ry
      obtain ⟨a, vs, rfl, s, r⟩ := rx
      obtain ⟨a', vs', rfl, s', r'⟩ := ry
      have n1 : vs ≠ [] := fun z => hb.1 (List.length_eq_zero_iff.mp (by rw [r.len, z]; rfl))
      refine .inr (.inr (.inr ⟨a, a', vs, vs', rfl, rfl, sqT_le F s, sqT_le F s', n1, ?_, fun z => ?_, fun _ => Ret.tup F c (r.app r') h⟩))
      · rw [← r.len, ← r'.len, ← LIM_eq]
        exact hb.2
      · rw [z] at r'
        have e0 := r'.len
        simp at e0
        rw [e0, List.append_nil] at h
        exact h.sh F c (by simp only [Rp]; exact ⟨a, vs, rfl, s, r⟩)
    · cases e
  · cases e
    simp only [Rp] at rx ry
    exact ⟨_, _, rx, ry, h.int F c⟩
  · split at e
    · cases e
      rename_i hb
      simp only [Rp] at rx ry
      refine ⟨_, _, rx, ry, ?_, h.int F c⟩
      simp only [B64] at hb
      unfold CMul
      omega
    · cases e
  · split at e
    · cases e
      rename_i hb
      simp only [Rp] at rx ry
      exact ⟨_, _, rx, ry, hb, h.int F c⟩
    · cases e
  · split at e
    · cases e
      rename_i hb
      simp only [Rp] at rx ry
      exact ⟨_, _, rx, ry, hb, h.int F c⟩
    · cases e
  · split at e
    · cases e
      rename_i hb
      simp only [Rp] at rx ry
      refine ⟨_, _, rx, ry, ?_, h.int F c⟩
      simp only [B64] at hb
      unfold CPow
      omega
    · cases e
  · cases e
/-! ### comparisons -/
def cmOf : CO → CmpOp
  | .eq => .Eq | .ne => .NotEq | .lt => .Lt | .le => .LtE | .gt => .Gt | .ge => .GtE | .isin => .In | .notin => .NotIn | .is => .Is | .isnot => .IsNot
def rStrEq (neg : Bool) : R2 := fun x y H Q => ∃ a b : Str, x = .str a ∧ y = .str b ∧ Q (.bl (if neg then !(a == b) else (a == b))) H
theorem op_eqS {X : Cx} : OpR X (compareOp .Eq) (rStrEq false) := by
  intro pins s σ H x y v u Q I rx ry h
  obtain ⟨a, b, rfl, rfl, q⟩ := h
  refine op_eq pins s σ H _ _ v u Q I rx ry ⟨rfl, ?_⟩
  rw [dec_str]
  exact q
theorem op_neS {X : Cx} : OpR X (compareOp .NotEq) (rStrEq true) := by
  intro pins s σ H x y v u Q I rx ry h
  obtain ⟨a, b, rfl, rfl, q⟩ := h
  refine op_ne pins s σ H _ _ v u Q I rx ry ⟨rfl, ?_⟩
  rw [dec_str]
  exact q
/-- rows of whole numbers, by < -/
def rLtL (K : PySem.W.Frag) : R2 := fun x y H Q => ∃ (a b : Addr) (ns ms : List Int), x = .ref a ∧ y = .ref b ∧ SqL K H a (ns.map V.int) ∧ SqL K H b (ms.map V.int) ∧ Q (.bl (decide (ns < ms))) H
theorem dpAll_ints {K : PySem.W.Frag} {H : Hp} : ∀ ns : List Int, DpAll K H (ns.map V.int) (ns.map PyData.int)
  | [] => .nil
  | n :: ns => .cons (.int n) (dpAll_ints ns)
theorem op_ltL {X : Cx} (hu : X.A.units + 64 < cLine) : OpR X (compareOp .Lt) (rLtL X.K) := by
  intro pins s σ H x y v u Q I rx ry h
  obtain ⟨a, b, ns, ms, rfl, rfl, ha, hb, q⟩ := h
  obtain ⟨as, r1⟩ := Dp.reads I _ _ _ (.lst ha (dpAll_ints ns)) rx
  obtain ⟨bs, r2⟩ := Dp.reads I _ _ _ (.lst hb (dpAll_ints ms)) ry
  have hal : PySem.W.alike (.list (ns.map .int)) (.list (ms.map .int)) = true := PySem.W.alike_ints ns ms
  have hdep : ∀ ns : List Int, (PyData.list (ns.map .int)).depth = 1 := fun ns => by
    have h0 := PySem.W.depth_ints ns
    simp [PyData.depth, h0]
  have hlt : PySem.W.dataLt (.list (ns.map .int)) (.list (ms.map .int)) = decide (ns < ms) := by
    rw [PySem.W.dataLt_list]
    exact PySem.W.dataLt_ints ns ms
  refine PySem.W.lt_data r1 r2 hal (fun e => nomatch e) (by rw [hdep, hdep]; omega) ?_
  rw [hlt]
  exact ⟨.bl _, H, I, rfl, q⟩
/-! ### a list against [] -/
def rNil (X : Cx) (neg : Bool) : R2 := fun x y H Q => ∃ a b vs, x = .ref a ∧ y = .ref b ∧ SqL X.K H a vs ∧ SqL X.K H b [] ∧ Q (.bl (vs.isEmpty != neg)) H
theorem op_nil {X : Cx} (hu : X.A.units + 65 < cLine) : ∀ neg : Bool, OpR X (compareOp (if neg then .NotEq else .Eq)) (rNil X neg) := by
  intro neg pins s σ H x y v u Q I rx ry h
  obtain ⟨a, b, vs, rfl, rfl, ha, hb, q⟩ := h
  obtain rfl : v = Value.ref a := rx
  obtain rfl : u = Value.ref b := ry
  obtain ⟨its, rv, pl, hz⟩ := I.list ha
  obtain ⟨its2, rv2, pl2, _⟩ := I.list hb
  have l1 := rv.length
  have l2 := rv2.length
  have e2 : its2 = [] := List.length_eq_zero_iff.mp (by rw [← l2]; rfl)
  subst e2
  cases vs with
  | nil =>
    have e1 : its = [] := List.length_eq_zero_iff.mp (by rw [← l1]; rfl)
    subst e1
    cases neg with
    | false =>
      refine SeqAt.eq_listAt (e := fun _ => true) pl.isList pl2.isList rfl (by omega) (fun j h1 h2 => absurd h1 (by simp)) ⟨.bl _, H, I, rfl, ?_⟩
      simpa using q
    | true =>
      refine SeqAt.RcNeAt.lists (e := fun _ => true) pl.isList pl2.isList rfl (by omega) (fun j h1 h2 => absurd h1 (by simp)) _ _ _ _ ⟨.bl _, H, I, rfl, ?_⟩
      simpa using q
  | cons v0 vs =>
    have hne : (its.toArray.size != ([] : List Value).toArray.size) = true := by
      have : its.length = vs.length + 1 := by rw [← l1]; rfl
      simp [this]
    cases neg with
    | false =>
      refine SeqAt.eq_list_lengthsAt pl.isList pl2.isList hne (by omega) ⟨.bl _, H, I, rfl, ?_⟩
      simpa using q
    | true =>
      refine SeqAt.RcNeAt.lists_lengths pl.isList pl2.isList hne (by omega) _ _ _ _ ⟨.bl _, H, I, rfl, ?_⟩
      simpa using q
def rCmp (X : Cx) (K : PySem.W.Frag) : CO → R2
  | .eq => fun x y H Q => rStrEq false x y H Q ∨ (rEqD K x y H Q ∨ (rNEq X x y H Q ∨ rNil X false x y H Q))
  | .ne => fun x y H Q => rStrEq true x y H Q ∨ (rNeD K x y H Q ∨ (rNNe X x y H Q ∨ rNil X true x y H Q))
  | .lt => fun x y H Q => rI0 (fun i j => .bl (decide (i < j))) x y H Q ∨ rLtL K x y H Q
  | .le => rI0 fun i j => .bl (decide (i ≤ j))
  | .gt => rI0 fun i j => .bl (decide (j < i))
  | .ge => rI0 fun i j => .bl (decide (j ≤ i))
  | .isin => fun x y H Q => rInD K x y H Q ∨ (rIn K false x y H Q ∨ ((∃ (c : Nat) (z : Str), x = .str ⟨#[c]⟩ ∧ y = .str z ∧ Q (.bl (decide (c ∈ z.cps.toList))) H) ∨ rNIn X false x y H Q))
  | .notin => fun x y H Q => rNotInD K x y H Q ∨ (rIn K true x y H Q ∨ ((∃ (c : Nat) (z : Str), x = .str ⟨#[c]⟩ ∧ y = .str z ∧ Q (.bl (!decide (c ∈ z.cps.toList))) H) ∨ rNIn X true x y H Q))
  | .is => fun x y H Q => (y = .non ∧ Q (.bl (decide (x = .non))) H) ∨ rIsB x y H Q
  | .isnot => fun x y H Q => (y = .non ∧ Q (.bl (!decide (x = .non))) H) ∨ rNotB x y H Q
theorem opR_cmp {X : Cx} (hu : X.A.units + 65 < cLine) : ∀ c : CO, OpR X (compareOp (cmOf c)) (rCmp X X.K c)
  | .eq => op_eqS.or ((op_eqD (by omega)).or ((op_neq hu).or (op_nil hu false)))
  | .ne => op_neS.or ((op_neD (by omega)).or ((op_nne hu).or (op_nil hu true)))
  | .lt => op_lt.or (op_ltL (by omega))
  | .le => op_le
  | .gt => op_gt
  | .ge => op_ge
  | .isin => (op_inD hu).or (op_in_seq.or (op_in_sign.or (op_nin hu)))
  | .notin => (op_notInD hu).or (op_notIn_seq.or (op_notIn_sign.or (op_nnotin hu)))
  | .is => op_isN.or op_isBl
  | .isnot => op_notN.or op_notBl
theorem eqD_cases {x y : D} {b : Bool} (e : eqD x y = some b) : (∃ s t, x = .str s ∧ y = .str t ∧ b = (s == t)) ∨ (wf 8 x = true ∧ wf 8 y = true ∧ b = deq x y) ∨ (∃ ks vs us, x = .dct true ks vs ∧ y = .dct true [] us ∧ b = ks.isEmpty) ∨ ∃ l, x = .lst l ∧ y = .lst [] ∧ b = l.isEmpty := by
  unfold eqD at e
  split at e
  · cases e
    exact .inl ⟨_, _, rfl, rfl, rfl⟩
  · cases e
    exact .inr (.inr (.inl ⟨_, _, _, rfl, rfl, rfl⟩))
  · split at e
    · rename_i hw
      cases e
      simp only [Bool.and_eq_true] at hw
      exact .inr (.inl ⟨hw.1, hw.2, rfl⟩)
    · split at e
      · cases e
        exact .inr (.inr (.inr ⟨_, rfl, rfl, rfl⟩))
      · cases e
theorem flat_wf0 {d : D} {v : V} (w : wf 0 d = true) (r : Rp Γ g d v) : flatV v = true := by
  cases d <;> first | (simp only [Rp] at r; subst r; rfl) | simp [wf] at w
theorem flats_wf0 : ∀ {ds : List D} {vs : List V}, wfs 0 ds = true → Rps Γ g ds vs → vs.all flatV = true
  | [], vs, w, r => by
    simp only [Rps] at r
    subst r
    rfl
  | d :: ds, vs, w, r => by
    simp only [wfs, Bool.and_eq_true] at w
    simp only [Rps] at r
    obtain ⟨v, vs', rfl, r, q⟩ := r
    rw [List.all_cons, flat_wf0 w.1 r, flats_wf0 w.2 q]
    rfl
theorem eqV_deq {d e : D} {v u : V} (w : wf 0 d = true) (w' : wf 0 e = true) (r : Rp Γ g d v) (r' : Rp Γ g e u) : eqV v u = deq d e := by
  cases d <;> first | (simp [wf] at w; done) | skip
  all_goals cases e <;> first | (simp [wf] at w'; done) | (simp only [Rp] at r r'; subst r; subst r'; rfl) | (simp only [Rp] at r r'; subst r; subst r'; simp [eqV, deq, b2i])
theorem inV_inD {x : D} {v : V} (w : wf 0 x = true) (r : Rp Γ g x v) : ∀ {ds : List D} {vs : List V}, wfs 0 ds = true → Rps Γ g ds vs → inV v vs = inD x ds
  | [], vs, _, q => by
    simp only [Rps] at q
    subst q
    rfl
  | d :: ds, vs, ws, q => by
    simp only [wfs, Bool.and_eq_true] at ws
    simp only [Rps] at q
    obtain ⟨u, vs', rfl, r', q⟩ := q
    have ih := inV_inD w r ws.2 q
    unfold inV inD at ih ⊢
    rw [List.any_cons, List.any_cons, eqV_deq ws.1 w r' r, ih]
theorem isD_cases {x y : D} {b : Bool} (e : isD x y = some b) {v u : V} (rx : Rp Γ g x v) (ry : Rp Γ g y u) : (u = .non ∧ b = decide (v = .non)) ∨ ∃ a c : Bool, v = .bl a ∧ u = .bl c ∧ b = decide (a = c) := by
  unfold isD at e
  split at e
  · simp only [Rp] at ry
    refine .inl ⟨ry, ?_⟩
    cases x <;> simp only [Option.some.injEq] at e <;> subst e <;> simp only [Rp] at rx
    all_goals first | (subst rx; rfl; done) | (obtain ⟨a, rfl, _⟩ := rx; rfl; done) | (obtain ⟨a, t, rfl, _⟩ := rx; rfl; done) | (obtain ⟨a, vs, s, rfl, _⟩ := rx; rfl; done) | (obtain ⟨a, t, kv, vv, rfl, _⟩ := rx; rfl; done)
  · split at e
    · simp only [Option.some.injEq] at e
      simp only [Rp] at rx ry
      exact .inr ⟨_, _, rx, ry, by rw [← e, Bool.beq_eq_decide_eq]⟩
    · cases e
  · cases e
theorem one_sign {c : Str} (h : c.length = 1) : c = ⟨#[c.cps.getD 0 0]⟩ := by
  obtain ⟨⟨l⟩⟩ := c
  have h : l.length = 1 := h
  match l, h with
  | [a], _ => rfl
theorem nd_mem {x : D} {v u : V} {ks vs : List D} (F : Same g.F H) (hk : isKey true x = true) (rx : Rp (gm X) g x v) (ry : Rp (gm X) g (.dct true ks vs) u) : ∃ a xs, u = .ref a ∧ NdAt X H a xs ∧ KeyAt X H (nkey x) v ∧ (atKey xs (nkey x)).isSome = (lookD x ks vs).isSome := by
  simp only [Rp] at ry
  obtain ⟨a, kv, vv, rfl, dc, rk, rv⟩ := ry
  obtain ⟨xs, dx⟩ := DcAt.dx F (dc.keep fun u e => F _ _ e) rk
  obtain ⟨b, _, hka⟩ := key_at F hk rx
  exact ⟨a, xs, rfl, dx.nd, hka, look_isSome hk dx.ek dx.vs rv dx.all⟩
theorem memD_cases {x y : D} {b : Bool} (e : memD x y = some b) {v u : V} (F : Same g.F H) (rx : Rp (gm X) g x v) (ry : Rp (gm X) g y u) :
    (∃ d ds, Dp X.K H v d ∧ Dp X.K H u (.list ds) ∧ SeqAt.shaped d = true ∧ SeqAt.shaped (.list ds) = true ∧ b = ds.any fun z => PyData.eqv z d) ∨
    (∃ p xs, u = .ref p ∧ (SqL X.K H p xs ∨ SqT X.K H p xs) ∧ flatV v = true ∧ xs.all flatV = true ∧ b = inV v xs) ∨
    (∃ (c : Nat) (z : Str), v = .str ⟨#[c]⟩ ∧ u = .str z ∧ b = decide (c ∈ z.cps.toList)) ∨
    ∃ a xs k, u = .ref a ∧ NdAt X H a xs ∧ KeyAt X H k v ∧ b = (atKey xs k).isSome := by
  unfold memD at e
  split at e
  · split at e
    · rename_i l hw
      simp only [Bool.and_eq_true] at hw
      simp only [Option.some.injEq] at e
      have w2 : wf 9 (.lst l) = true := by simpa only [wf] using hw.2
      have d2 := dpy_at F 9 (.lst l) u w2 ry
      have s2 := dpy_shaped (n := 9) (by decide) w2
      simp only [dpy] at d2 s2
      exact .inl ⟨dpy x, dpys l, dpy_at F 8 x v hw.1 rx, d2, dpy_shaped (by decide) hw.1, s2, by rw [← e, dpys_any hw.1 l hw.2]⟩
    · cases e
  · split at e
    · rename_i l hw
      simp only [Bool.and_eq_true] at hw
      simp only [Option.some.injEq] at e
      simp only [Rp] at ry
      obtain ⟨a, vs, rfl, s, r⟩ := ry
      exact .inr (.inl ⟨a, vs, rfl, .inr (sqT_le F s), flat_wf0 hw.1 rx, flats_wf0 hw.2 r, by rw [← e, inV_inD hw.1 rx hw.2 r]⟩)
    · cases e
  · split at e
    · split at e
      · rename_i hl
        simp only [Option.some.injEq] at e
        simp only [Rp] at rx ry
        exact .inr (.inr (.inl ⟨_, _, by rw [rx, ← one_sign hl], ry, e.symm⟩))
      · cases e
    · cases e
  · split at e
    · rename_i hk
      simp only [Option.some.injEq] at e
      obtain ⟨a, xs, h1, h2, h3, h4⟩ := nd_mem F hk rx ry
      exact .inr (.inr (.inr ⟨a, xs, _, h1, h2, h3, by rw [h4, e]⟩))
    · cases e
  · cases e
theorem cmp_sound {c0 : CO} {x y : D} {b : Bool} {v u : V} {Q : VK} (e : cmpD c0 x y = some b) (F : Same g.F H) (c : Cl (gm X) g H μ) (rx : Rp (gm X) g x v) (ry : Rp (gm X) g y u) (h : Ret (gm X) g μ H (.sh (.bl b)) Q) : rCmp X X.K c0 v u H Q := by
  have q := h.bl F c
  cases c0 with
  | eq =>
    rcases eqD_cases e with ⟨s, t, rfl, rfl, rfl⟩ | ⟨w1, w2, rfl⟩ | ⟨ks, vs, us, rfl, rfl, rfl⟩ | ⟨l, rfl, rfl, rfl⟩
    · simp only [Rp] at rx ry
      exact .inl ⟨s, t, rx, ry, q⟩
    · exact .inr (.inl ⟨_, _, dpy_at F 8 x v w1 rx, dpy_at F 8 y u w2 ry, dpy_shaped (by decide) w1, dpy_shaped (by decide) w2, by rw [dpy_eqv 8 8 x y w1 w2]; exact q⟩)
    · simp only [Rp] at rx ry
      obtain ⟨a, kv, vv, rfl, dc, rk, rv⟩ := rx
      obtain ⟨a', kv', vv', rfl, dc', rk', rv'⟩ := ry
      obtain ⟨xs, dx⟩ := DcAt.dx F (dc.keep fun u e => F _ _ e) rk
      obtain ⟨ys, dy⟩ := DcAt.dx F (dc'.keep fun u e => F _ _ e) rk'
      have hy : ys = [] := List.map_eq_nil_iff.mp dy.ek
      subst hy
      refine .inr (.inr (.inl ⟨a, a', xs, rfl, rfl, dx.nd, dy.nd, ?_⟩))
      have hx : xs.isEmpty = ks.isEmpty := by
        have z := dx.ek
        cases xs <;> cases ks <;> first | rfl | simp [nkeys] at z
      rw [hx]
      exact q
    · simp only [Rp] at rx ry
      obtain ⟨a, vs, rfl, s, r⟩ := rx
      obtain ⟨a', vs', rfl, s', r'⟩ := ry
      simp only [Rps] at r'
      subst r'
      refine .inr (.inr (.inr ⟨a, a', vs, rfl, rfl, SqL.of (F _ _ s), SqL.of (F _ _ s'), ?_⟩))
      have hx : vs.isEmpty = l.isEmpty := by
        have z := r.len
        cases vs <;> cases l <;> first | rfl | simp at z
      rw [hx]
      first
        | exact q
        | (simpa using q)
  | ne =>
    simp only [cmpD, Option.map_eq_some_iff] at e
    obtain ⟨b', e, rfl⟩ := e
    rcases eqD_cases e with ⟨s, t, rfl, rfl, rfl⟩ | ⟨w1, w2, rfl⟩ | ⟨ks, vs, us, rfl, rfl, rfl⟩ | ⟨l, rfl, rfl, rfl⟩
    · simp only [Rp] at rx ry
      exact .inl ⟨s, t, rx, ry, q⟩
    · exact .inr (.inl ⟨_, _, dpy_at F 8 x v w1 rx, dpy_at F 8 y u w2 ry, dpy_shaped (by decide) w1, dpy_shaped (by decide) w2, by rw [dpy_eqv 8 8 x y w1 w2]; exact q⟩)
    · simp only [Rp] at rx ry
      obtain ⟨a, kv, vv, rfl, dc, rk, rv⟩ := rx
      obtain ⟨a', kv', vv', rfl, dc', rk', rv'⟩ := ry
      obtain ⟨xs, dx⟩ := DcAt.dx F (dc.keep fun u e => F _ _ e) rk
      obtain ⟨ys, dy⟩ := DcAt.dx F (dc'.keep fun u e => F _ _ e) rk'
      have hy : ys = [] := List.map_eq_nil_iff.mp dy.ek
      subst hy
      refine .inr (.inr (.inl ⟨a, a', xs, rfl, rfl, dx.nd, dy.nd, ?_⟩))
      have hx : xs.isEmpty = ks.isEmpty := by
        have z := dx.ek
        cases xs <;> cases ks <;> first | rfl | simp [nkeys] at z
      rw [hx]
      exact q
    · simp only [Rp] at rx ry
      obtain ⟨a, vs, rfl, s, r⟩ := rx
      obtain ⟨a', vs', rfl, s', r'⟩ := ry
      simp only [Rps] at r'
      subst r'
      refine .inr (.inr (.inr ⟨a, a', vs, rfl, rfl, SqL.of (F _ _ s), SqL.of (F _ _ s'), ?_⟩))
      have hx : vs.isEmpty = l.isEmpty := by
        have z := r.len
        cases vs <;> cases l <;> first | rfl | simp at z
      rw [hx]
      first
        | exact q
        | (simpa using q)
  | isin =>
    rcases memD_cases e F rx ry with ⟨d, ds, h1, h2, h3, h4, rfl⟩ | ⟨p, xs, h1, h2, h3, h4, rfl⟩ | ⟨z, t, h1, h2, rfl⟩ | ⟨a, xs, k, h1, h2, h3, rfl⟩
    · exact .inl ⟨d, ds, h1, h2, h3, h4, q⟩
    · exact .inr (.inl ⟨p, xs, h1, h2, h3, h4, q⟩)
    · exact .inr (.inr (.inl ⟨z, t, h1, h2, q⟩))
    · exact .inr (.inr (.inr ⟨a, xs, k, h1, h2, h3, q⟩))
  | notin =>
    simp only [cmpD, Option.map_eq_some_iff] at e
    obtain ⟨b', e, rfl⟩ := e
    rcases memD_cases e F rx ry with ⟨d, ds, h1, h2, h3, h4, rfl⟩ | ⟨p, xs, h1, h2, h3, h4, rfl⟩ | ⟨z, t, h1, h2, rfl⟩ | ⟨a, xs, k, h1, h2, h3, rfl⟩
    · exact .inl ⟨d, ds, h1, h2, h3, h4, q⟩
    · exact .inr (.inl ⟨p, xs, h1, h2, h3, h4, q⟩)
    · exact .inr (.inr (.inl ⟨z, t, h1, h2, q⟩))
    · exact .inr (.inr (.inr ⟨a, xs, k, h1, h2, h3, q⟩))
  | is =>
    rcases isD_cases e rx ry with ⟨h1, rfl⟩ | ⟨a, b', h1, h2, rfl⟩
    · exact .inl ⟨h1, q⟩
    · exact .inr ⟨a, b', h1, h2, q⟩
  | isnot =>
    simp only [cmpD, Option.map_eq_some_iff] at e
    obtain ⟨b', e, rfl⟩ := e
    rcases isD_cases e rx ry with ⟨h1, rfl⟩ | ⟨a, b', h1, h2, rfl⟩
    · exact .inl ⟨h1, q⟩
    · exact .inr ⟨a, b', h1, h2, q⟩
  | lt =>
    simp only [cmpD] at e
    split at e
    · cases e
      simp only [Rp] at rx ry
      exact .inl ⟨_, _, rx, ry, q⟩
    · split at e
      · rename_i ns ms e1 e2
        cases e
        simp only [Rp] at rx ry
        obtain ⟨a, vs, rfl, s1, q1⟩ := rx
        obtain ⟨a', vs', rfl, s2, q2⟩ := ry
        have h1 := q1.ints e1
        have h2 := q2.ints e2
        subst h1 h2
        exact .inr ⟨a, a', ns, ms, rfl, rfl, SqL.of (F _ _ s1), SqL.of (F _ _ s2), q⟩
      · cases e
    · cases e
  | le =>
    simp only [cmpD] at e
    split at e
    · cases e
      simp only [Rp] at rx ry
      exact ⟨_, _, rx, ry, q⟩
    · cases e
  | gt =>
    simp only [cmpD] at e
    split at e
    · cases e
      simp only [Rp] at rx ry
      exact ⟨_, _, rx, ry, q⟩
    · cases e
  | ge =>
    simp only [cmpD] at e
    split at e
    · cases e
      simp only [Rp] at rx ry
      exact ⟨_, _, rx, ry, q⟩
    · cases e
/-! ### items, slices, fields -/
theorem atI_at {ds : List D} {vs : List V} {i : Int} {d : D} (r : Rps Γ g ds vs) (e : MP.atI ds i = some d) : ∃ v, L2.atI vs i = some v ∧ Rp Γ g d v := by
  unfold MP.atI at e
  obtain ⟨j, h1, h2⟩ := Option.bind_eq_some_iff.mp e
  obtain ⟨v, h3, h4⟩ := r.get h2
  refine ⟨v, ?_, h4⟩
  unfold L2.atI
  rw [← r.len]
  exact Option.bind_eq_some_iff.mpr ⟨j, h1, h3⟩
def rIxN (X : Cx) : R2 := fun x y H Q => rIx X.K x y H Q ∨ rNGet X x y H Q
theorem ix_all (hu : X.A.units + 65 < cLine) : IxR X (rIxN X) := ix_seq.or (ix_nd hu)
theorem ix_sound {x i d : D} {v u : V} {Q : VK} (e : ixD x i = some d) (F : Same g.F H) (c : Cl (gm X) g H μ) (rx : Rp (gm X) g x v) (ry : Rp (gm X) g i u) (h : Ret (gm X) g μ H (.sh d) Q) : rIxN X v u H Q := by
  unfold ixD at e
  split at e
  · simp only [Rp] at rx ry
    obtain ⟨a, vs, rfl, s, r⟩ := rx
    obtain ⟨w, h1, h2⟩ := atI_at r e
    exact .inl <| .inl ⟨a, vs, _, w, rfl, ry, SqL.of (F _ _ s), h1, h.sh F c h2⟩
  · simp only [Rp] at rx ry
    obtain ⟨a, vs, rfl, s, r⟩ := rx
    obtain ⟨w, h1, h2⟩ := atI_at r e
    exact .inl <| .inr (.inl ⟨a, vs, _, w, rfl, ry, sqT_le F s, h1, h.sh F c h2⟩)
  · split at e
    · rename_i hl
      obtain ⟨k, h1, rfl⟩ := Option.map_eq_some_iff.mp e
      simp only [Rp] at rx ry
      exact .inl <| .inr (.inr ⟨_, _, k, rx, ry, by rw [← LIM_eq]; exact hl, h1, h.str F c⟩)
    · cases e
  · split at e
    · rename_i hk
      simp only [Rp] at rx
      obtain ⟨a, kv, vv, rfl, dc, rk, rv⟩ := rx
      obtain ⟨xs, dx⟩ := DcAt.dx F (dc.keep fun u e => F _ _ e) rk
      obtain ⟨b, _, hka⟩ := key_at F hk ry
      have hl := lookD_at hk _ _ _ _ dx.ek dx.vs rv dx.all
      rw [e] at hl
      obtain ⟨p, w, h1, h2, h3⟩ := hl
      exact .inr ⟨a, xs, _, p, w, rfl, dx.nd, hka, h1, h2, h.sh F c h3⟩
    · cases e
  · cases e
theorem cut_at {ds : List D} {vs : List V} (r : Rps Γ g ds vs) (lo hi : Option Int) : Rps Γ g (cut ds lo hi) (cutV vs lo hi) := by
  unfold cut cutV
  rw [r.len]
  exact (r.drop _).take _
def rCut (K : PySem.W.Frag) : V → Option Int → Option Int → Hp → VK → Prop := fun x lo hi H Q => rSlL K x lo hi H Q ∨ (rSlT K x lo hi H Q ∨ rSlS x lo hi H Q)
theorem sl_cut {X : Cx} : SlR X (rCut X.K) := sl_list.or (sl_tup.or sl_str)
theorem cut_ints (l : List Int) (lo hi : Option Int) : cutV (l.map V.int) lo hi = (cut l lo hi).map V.int := by
  unfold cut cutV
  rw [List.length_map, ← List.map_drop, ← List.map_take]
  rfl
theorem rps_ints : ∀ (l : List Int), Rps Γ g (l.map D.int) (l.map V.int)
  | [] => by simp [Rps]
  | i :: l => by
    simp only [List.map_cons, Rps]
    exact ⟨_, _, rfl, by simp only [Rp], rps_ints l⟩
theorem cut_sound {x : D} {lo hi : Option Int} {o : O} {v : V} {Q : VK} (e : cutD x lo hi = some o) (F : Same g.F H) (c : Cl Γ g H μ) (rx : Rp Γ g x v) (h : Ret Γ g μ H o Q) : rCut Γ.K v lo hi H Q := by
  unfold cutD at e
  split at e
  · cases e
    simp only [Rp] at rx
    obtain ⟨a, vs, rfl, s, r⟩ := rx
    exact .inl ⟨a, vs, rfl, SqL.of (F _ _ s), Ret.lst F c (cut_at r lo hi) h⟩
  · split at e
    · cases e
    · rename_i hw
      cases e
      simp only [Rp] at rx
      obtain ⟨a, vs, rfl, s, r⟩ := rx
      refine .inr (.inl ⟨a, vs, rfl, sqT_le F s, ?_, Ret.tup F c (cut_at r lo hi) h⟩)
      rw [← r.len]
      exact hw
  · cases e
    simp only [Rp] at rx
    obtain ⟨a, rfl, s⟩ := rx
    refine .inl ⟨a, _, rfl, F.seq s, ?_⟩
    rw [cut_ints]
    refine Ret.lst (ds := (cut _ lo hi).map D.int) F c (rps_ints _) ?_
    rw [List.map_map]
    exact h
  · split at e
    · rename_i hl
      cases e
      simp only [Rp] at rx
      exact .inr (.inr ⟨_, rx, by rw [← LIM_eq]; exact hl, h.str F c⟩)
    · cases e
  · cases e
theorem zip_lookup : ∀ {ns : List Str} {fs : List D} {vs : List V} {f : Str} {d : D}, Rps Γ g fs vs → (ns.zip fs).lookup f = some d → ∃ v, (ns.zip vs).lookup f = some v ∧ Rp Γ g d v
  | [], fs, vs, f, d, r, e => by simp at e
  | n :: ns, [], vs, f, d, r, e => by simp at e
  | n :: ns, x :: fs, vs, f, d, r, e => by
    simp only [Rps] at r
    obtain ⟨v, vs', rfl, r, q⟩ := r
    simp only [List.zip_cons_cons, List.lookup_cons] at e ⊢
    cases hb : f == n with
    | true =>
      rw [hb] at e
      cases e
      exact ⟨v, rfl, r⟩
    | false =>
      rw [hb] at e
      exact zip_lookup q e
end
end MP
/-! MPN -/
set_option Elab.async false
set_option linter.all false
set_option maxRecDepth 100000
set_option maxHeartbeats 1000000
/-! MPN: the least of a list of rows of numbers. -/
namespace MP
open PySem PySem.Spec PyProof.Rows L2 PySem.W PySem.SeqAt
def rowD (r : List Int) : PyData := .list (r.map .int)
theorem listLt_lt : ∀ r s : List Int, listLt r s = decide (r < s)
  | [], [] => by simp [listLt]
  | [], b :: s => by simp [listLt]
  | a :: r, [] => by simp [listLt]
  | a :: r, b :: s => by
    have ih := listLt_lt r s
    unfold listLt
    by_cases h : a = b
    · subst h
      rw [if_pos rfl, ih]
      simp [List.cons_lt_cons_iff]
    · rw [if_neg h]
      show decide (a < b) = _
      simp [List.cons_lt_cons_iff, h]
theorem rowD_lt (r s : List Int) : dataLt (rowD r) (rowD s) = decide (r < s) := (DatumOrd.lt_eq r s).trans (listLt_lt r s)
theorem foldl_rowD : ∀ (rs : List (List Int)) (r : List Int), (rs.map rowD).foldl (fun a y => if dataLt y a then y else a) (rowD r) = rowD (rs.foldl minR r)
  | [], r => rfl
  | s :: rs, r => by
    simp only [List.map_cons, List.foldl_cons]
    rw [rowD_lt]
    have : (if decide (s < r) = true then rowD s else rowD r) = rowD (minR r s) := by
      unfold minR
      by_cases h : s < r <;> simp [h]
    rw [this]
    exact foldl_rowD rs _
section
variable {prog : Program} {w : World} {A : Around} {E : Value → Shared → Prop} {s : Shared}
theorem min_rows {l : Addr} {vs : Array Value} {r : List Int} {rs : List (List Int)} {as : List Addr} {Q : Value → Shared → Prop} (hh : A.handled = none) (hl : s.heap.IsList l vs) (hr : ReadsAll s.heap vs.toList ((r :: rs).map rowD) as) (hu : A.units + 60 < cLine)
    (h : ∀ (i : Nat) v h' tk, vs[i]? = some v → (r :: rs)[i]? = some (rs.foldl minR r) → (∀ b o, s.heap.get? b = some o → h'.get? b = some o) → Q v { s with heap := h', toks := tk }) :
    wpAny (model prog w) A (call (.builtin "min") [.ref l]) Q E s := by
  have hn : vs.size = rs.length + 1 := by
    have := readsAll_len hr
    rw [this, List.length_map, List.length_cons]
  have ha : AlikeAll ((r :: rs).map rowD) := ⟨fun x hx y hy => by
    obtain ⟨a, _, rfl⟩ := List.mem_map.mp hx
    obtain ⟨b, _, rfl⟩ := List.mem_map.mp hy
    exact DatumOrd.alike a b, fun x hx e => by
    obtain ⟨a, _, rfl⟩ := List.mem_map.mp hx
    cases e⟩
  have hd : PyData.depthAll ((r :: rs).map rowD) ≤ Datum.depth (List Int) := depthAll_map (r :: rs)
  have hd2 : Datum.depth (List Int) ≤ 50 := by decide
  refine call_min_walkH (iter_listW (A := A.in1) hh hl fun s₂ e W st hfp hw hk => ?_)
  refine ⟨_, _, _, _, _, _, _, s.heap, _, rfl, W, st, hfp, by omega, hw, hk, cmpIn_lt (A := A.in1) hr ha (by show A.units + 1 + _ < _; omega), fun v s' hP m => ?_⟩
  obtain ⟨h', tk, rfl, hk'⟩ := moved_old e rfl m
  have e1 : vs.size - 1 = (rs.map rowD).length := by rw [List.length_map]; omega
  obtain ⟨q1, e2⟩ := argBest_fold dataLt PyData.none (rowD r) (rs.map rowD) (rs.map rowD).length (Nat.le_refl _)
  rw [List.take_length, foldl_rowD] at e2
  rw [e1] at hP
  refine h _ v h' tk hP ?_ hk'
  rw [List.length_map] at q1 e2
  generalize hi : argBest (fun i j => dataLt ((rowD r :: rs.map rowD).getD i PyData.none) ((rowD r :: rs.map rowD).getD j PyData.none)) rs.length = i at q1 e2
  have hi2 : argBest (fun i j => dataLt (((r :: rs).map rowD).getD i PyData.none) (((r :: rs).map rowD).getD j PyData.none)) (rs.map rowD).length = i := by rw [List.length_map]; exact hi
  rw [hi2]
  have hlt : i < (r :: rs).length := by rw [List.length_cons]; omega
  rw [List.getElem?_eq_getElem hlt]
  have e3 : rowD (r :: rs)[i] = rowD (rs.foldl minR r) := by
    rw [← e2]
    show _ = ((r :: rs).map rowD).getD i PyData.none
    rw [List.getD_eq_getElem?_getD, List.getElem?_map, List.getElem?_eq_getElem hlt]
    rfl
  have inj : ∀ a b : List Int, rowD a = rowD b → a = b := fun a b z => by
    have z := PyData.list.inj z
    exact (List.map_inj_right (fun x y q => PyData.int.inj q)).mp z
  rw [inj _ _ e3]
end
def rMinL (K : PySem.W.Frag) : List V → Hp → VK → Prop := fun xs H Q => ∃ (a : Addr) (vs : List V) (r : List Int) (rs : List (List Int)), xs = [.ref a] ∧ SqL K H a vs ∧ DpAll K H vs ((r :: rs).map rowD) ∧ ∀ (i : Nat) v, vs[i]? = some v → (r :: rs)[i]? = some (rs.foldl minR r) → Q v H
theorem cr_minL {X : Cx} (hc : X.calm = true) (hu : X.A.units + 65 < cLine) : CallR X (.builtin "min") (rMinL X.K) := by
  intro pins s σ H vs us Q I r h
  obtain ⟨a, ws, r0, rs, rfl, hs, hd, q⟩ := h
  obtain ⟨its, rv, hl, _⟩ := I.list hs
  rw [Vals.ref1 r]
  obtain ⟨as, hr⟩ := Dp.readsAll I _ _ _ hd rv
  refine min_rows (as := as) (I.ok.hd hc) hl.isList (by simpa using hr) (by omega) fun i v h' tk hv hi hk => ?_
  have hlen := rv.length
  have hv' : its[i]? = some v := by simpa using hv
  have hi' : i < ws.length := by
    have := (List.getElem?_eq_some_iff.mp hv').1
    omega
  have hw : ws[i]? = some ws[i] := List.getElem?_eq_getElem hi'
  obtain ⟨u, hu2, rel⟩ := rv.get hw
  rw [hv'] at hu2
  cases hu2
  exact ⟨ws[i], H, I.kept hk, rel, q i _ hw hi⟩
end MP
/-! MPM -/
set_option Elab.async false
set_option linter.all false
set_option maxRecDepth 100000
set_option maxHeartbeats 1000000
/-! MPM: a dict of a list of pairs, its keys tuples. -/
namespace MP
open PySem PySem.Spec PyProof.Rows L2
section
variable {X : Cx}
def rDictN (X : Cx) : List V → Hp → VK → Prop := fun vs H Q => ∃ (a : Addr) (ts : List Addr) (xs : List (NestedKey × Addr × V)), vs = [.ref a] ∧ SqL X.K H a (ts.map V.ref) ∧ Paired (fun t x => SqT X.K H t [.ref x.2.1, x.2.2] ∧ KeyAt X H x.1 (.ref x.2.1)) ts xs ∧
  ∀ p, H p = none → (p == sysModules) = false → ∀ ys : List (NestedKey × Addr × Value), Paired (fun (x : NestedKey × Addr × V) (y : NestedKey × Addr × Value) => y.1 = x.1 ∧ y.2.1 = x.2.1 ∧ RelV x.2.2 y.2.2) xs ys → Q (.ref p) (upd H p (ndict X.prog X.w p (storedAllH [] ys)))
theorem pairsN_of {pins : List (Addr × Obj)} {σ : L2.St} {H : Hp} {s : Shared} (I : Inv X pins σ H s) : ∀ {ts : List Addr} {xs : List (NestedKey × Addr × V)}, Paired (fun t x => SqT X.K H t [.ref x.2.1, x.2.2] ∧ KeyAt X H x.1 (.ref x.2.1)) ts xs →
    ∃ ys : List (NestedKey × Addr × Value), Paired (fun (x : NestedKey × Addr × V) (y : NestedKey × Addr × Value) => y.1 = x.1 ∧ y.2.1 = x.2.1 ∧ RelV x.2.2 y.2.2) xs ys ∧ ys.length = ts.length ∧ ∀ (j : Nat) (y : NestedKey × Addr × Value), ys[j]? = some y → ∃ b : Addr, ts[j]? = some b ∧ s.heap.IsTuple b #[.ref y.2.1, y.2.2] ∧ (nestedKind X.prog X.w).is s.heap y.1 y.2.1
  | _, _, .nil => ⟨[], .nil, rfl, fun j q e => by simp at e⟩
  | _, _, .cons (a := t) (b := x) h r => by
    obtain ⟨ys, q, hl, hp⟩ := pairsN_of I r
    obtain ⟨its, rv, ht, _⟩ := I.tuple h.1
    obtain ⟨o, ho, hc, n, hd⟩ := ht
    cases rv with
    | @cons _ u1 _ _ r1 rr =>
      cases rr with
      | @cons _ u2 _ _ r2 rn =>
        cases rn
        cases r1
        obtain ⟨b, e1, e2, hb⟩ := h.2 pins σ s I (.ref x.2.1) rfl
        cases e2
        refine ⟨(x.1, x.2.1, u2) :: ys, .cons ⟨rfl, rfl, r2⟩ q, by rw [List.length_cons, List.length_cons, hl], fun j y e => ?_⟩
        cases j with
        | zero =>
          simp at e
          subst e
          exact ⟨t, rfl, ⟨o, ho, hc, n, hd⟩, hb⟩
        | succ j => simpa using hp j y (by simpa using e)
theorem refs_eq : ∀ {ts : List Addr} {us : List Value}, Vals (ts.map V.ref) us → us = ts.map Value.ref
  | [], us, r => by cases r; rfl
  | t :: ts, us, r => by
    cases r with
    | cons h q =>
      cases h
      rw [refs_eq q]
      rfl
theorem call_dictN (hc : X.calm = true) (hu : X.A.units + 65 < cLine) : CallR X (.type "dict") (rDictN X) := by
  intro pins s σ H vs us Q I r h
  obtain ⟨a, ts, xs, rfl, hs, hp, q⟩ := h
  rw [Vals.ref1 r]
  obtain ⟨its, rv, ⟨o, n, ho, hcl, hdd, hdat⟩, hz⟩ := I.list hs
  have ei := refs_eq rv
  obtain ⟨ys, pr, hl, hy⟩ := pairsN_of I hp
  rw [List.length_map] at hz
  have P := PairArg.list (prog := X.prog) (w := X.w) a its.toArray (fun j => ts.getD j 0) (ys.map fun y => ((Value.ref y.2.1 : Value), y.2.2))
  refine call_dict_pairsH (knd := nestedKind X.prog X.w) (ps := ys) P (I.ok.hd hc) (show X.A.units + 1 + 1 + 8 < cLine by omega) ⟨⟨o, n, ho, hcl, hdd, hdat⟩, ?_, fun j k v e => ?_⟩ ⟨(List.length_map _).symm, fun i key v e => ?_⟩ (fun h' hk x hx => ?_) (by rw [List.length_map, hl]; exact hz) fun h' tk hd' hk => ?_
  · rw [List.length_map, hl, ei]
    simp
  · rw [List.getElem?_map] at e
    obtain ⟨y, ey, e⟩ := Option.map_eq_some_iff.mp e
    cases e
    obtain ⟨b, hb, ht, _⟩ := hy j y ey
    have : ts.getD j 0 = b := by rw [List.getD_eq_getElem?_getD, hb]; rfl
    show its.toArray[j]? = some (Value.ref (ts.getD j 0)) ∧ PairAt s.heap (ts.getD j 0) _ _
    rw [this]
    refine ⟨?_, .inl ht⟩
    rw [ei]
    simp [hb]
  · have e : (ys.map fun y => ((Value.ref y.2.1 : Value), y.2.2))[i]? = some (key, v) := e
    rw [List.getElem?_map] at e
    obtain ⟨y, ey, e⟩ := Option.map_eq_some_iff.mp e
    cases e
    exact ⟨y.1, y.2.1, by rw [ey], rfl⟩
  · obtain ⟨j, hj, rfl⟩ := List.getElem_of_mem hx
    obtain ⟨b, _, _, his⟩ := hy j _ (List.getElem?_eq_getElem hj)
    exact (nestedKind_stays (prog := X.prog) (w := X.w)).stays (fun b o vs m e _ => hk b o (Nat.ne_of_lt (Heap.lt_size e)) (fun z => by cases z) e) his
  · have hm : (s.heap.objs.size == sysModules) = false := beq_eq_false_iff_ne.mpr (Nat.ne_of_gt I.big)
    exact ⟨.ref s.heap.objs.size, _, I.laid (t' := tk) (fun b o e => hk b o (fun z => by cases z) e) (Nat.le_refl _) (nd_ok hd'), rfl, q _ (I.hok.fresh (Nat.le_refl _)) hm ys pr⟩
end
end MP
/-! MP3 -/
set_option Elab.async false
set_option linter.all false
set_option maxRecDepth 100000
set_option maxHeartbeats 1000000
/-! MP3: readings of my expressions; calls. -/
namespace MP
open PySem PySem.Spec PyProof.Rows L2
/-- an error as it lies: its class, its own dict -/
def XR (Γ : Env1) (g : Gh) (H : Hp) (c : Str) (fs : List D) (cls : Value) (d : Option Addr) : Prop :=
  cls = .ref (He.ga Γ.K c) ∧ ((fs = [] ∧ d = none) ∨ ∃ dd flds vs, d = some dd ∧ H dd = some (.xd flds) ∧ Rps Γ g fs vs ∧ vs.length = (xNames c).length ∧ (∀ (i : Nat) n, (xNames c)[i]? = some n → flds.lookup n = vs[i]?) ∧ fs ≠ [])
/-- what leaves by an error is as wished; nothing goes wrong -/
def ErOk {α : Type} (Γ : Env1) (W : WX) (σ : L2.St) (g : Gh) (H : Hp) (r : Rs α) : Prop := match r with
  | .ok _ _ => True
  | .er c fs μ' => ∀ g' H' cls d, Go Γ g H g' μ' H' → XR Γ g' H' c fs cls d → W cls d σ H'
  | .bad => False
section
variable {α β : Type} {Γ : Env1} {W : WX} {σ : L2.St} {g g1 : Gh} {H H1 : Hp} {μ1 : List O}
theorem ErOk.of_bind {r : Rs α} {k : α → List O → Rs β} (h : ErOk Γ W σ g H (r.bind k)) : ErOk Γ W σ g H r := by
  cases r with
  | ok a μ => trivial
  | er c fs μ => exact h
  | bad => exact h
theorem ErOk.to {r : Rs α} (h : ErOk Γ W σ g H r) (G : Go Γ g H g1 μ1 H1) : ErOk Γ W σ g1 H1 r := by
  cases r with
  | ok a μ => trivial
  | er c fs μ => exact fun g' H' cls d G' x => h g' H' cls d (G.trans G') x
  | bad => exact h
theorem ErOk.bind_to {r : Rs α} {k : α → List O → Rs β} {a : α} (h : ErOk Γ W σ g H (r.bind k)) (e : r = .ok a μ1) (G : Go Γ g H g1 μ1 H1) : ErOk Γ W σ g1 H1 (k a μ1) := by
  subst e
  exact ErOk.to h G
theorem ErOk.calm {r : Rs α} (h : ErOk Γ W σ g H r.calm) : ErOk Γ (fun _ _ _ _ => False) σ g H r := by
  cases r with
  | ok a μ => trivial
  | er c fs μ => exact h.elim
  | bad => exact h
theorem lift_some_of {o : Option α} {μ : List O} (h : ErOk Γ W σ g H (lift o μ)) : ∃ a, o = some a := by
  cases o with
  | none => exact h.elim
  | some a => exact ⟨a, rfl⟩
end
/-- several values, new each, as they have come -/
structure Gots (Γ : Env1) (g : Gh) (H : Hp) (g' : Gh) (μ' : List O) (H' : Hp) (os : List O) (vs : List V) (fo : List Addr) : Prop where
  go : Go Γ g H g' μ' H'
  ow : Ows Γ g' H' os vs fo
  nd : fo.Nodup
  new : ∀ a ∈ fo, Nw g H a
  ap : ∀ a ∈ fo, g'.F a = none ∧ a ∉ g'.G
section
variable {Γ : Env1} {g g1 g2 : Gh} {H H1 H2 : Hp} {μ1 μ2 : List O} {o : O} {v : V} {fo : List Addr} {os : List O} {vs : List V}
theorem none_back (G : Go Γ g H g1 μ1 H1) {a : Addr} (h : H1 a = none) : H a = none := by
  cases e : H a with
  | none => rfl
  | some u => exact absurd h (G.there a (ne_none e))
theorem ap_keep (G : Go Γ g1 H1 g2 μ2 H2) {a : Addr} {u : HO} (e : H1 a = some u) (h : g1.F a = none ∧ a ∉ g1.G) : g2.F a = none ∧ a ∉ g2.G := by
  constructor
  · cases q : g2.F a with
    | none => rfl
    | some z =>
      rcases G.gF a (ne_none q) with y | y | y
      · exact absurd h.1 y
      · exact absurd y h.2
      · rw [e] at y; cases y
  · intro z
    rcases G.gG a z with y | y
    · exact h.2 y
    · rw [e] at y; cases y
theorem Got.after (G : Go Γ g H g1 μ1 H1) (a : Got Γ g1 H1 g2 μ2 H2 o v fo) : Got Γ g H g2 μ2 H2 o v fo :=
  ⟨G.trans a.go, a.ow, a.nd, fun x hx => G.nw (a.new x hx), a.ap⟩
theorem Got.keep (a : Got Γ g H g1 μ1 H1 o v fo) (G : Go Γ g1 H1 g2 μ2 H2) : Got Γ g H g2 μ2 H2 o v fo where
  go := a.go.trans G
  ow := Ow.le G.le o v fo a.ow fun x hx u e => G.keep x u e (a.ap x hx).2
  nd := a.nd
  new := a.new
  ap := fun x hx => by
    obtain ⟨u, e⟩ := Ow.there o v fo a.ow x hx
    exact ap_keep G e (a.ap x hx)
theorem Gots.fz (a : Gots Γ g H g1 μ1 H1 os vs fo) : Go Γ g H (g1.put H1 fo) μ1 H1 ∧ Rps Γ (g1.put H1 fo) (fzs os) vs :=
  ⟨a.go.put a.new a.ap, Ows.fz (Gh.put_le fun x h => (a.ap x h).1) os vs fo a.ow fun x hx u e => by rw [Gh.put_at hx]; exact e⟩
theorem Gots.nil (F : Same g.F H) (c : Cl Γ g H μ1) : Gots Γ g H g μ1 H [] [] [] :=
  ⟨Go.refl F c, by simp only [Ows]; exact ⟨trivial, trivial⟩, .nil, (fun _ h => by cases h), fun _ h => by cases h⟩
theorem Gots.cons {fo' : List Addr} (a : Got Γ g H g1 μ1 H1 o v fo) (b : Gots Γ g1 H1 g2 μ2 H2 os vs fo') : Gots Γ g H g2 μ2 H2 (o :: os) (v :: vs) (fo ++ fo') := by
  have a' := a.keep b.go
  refine ⟨a'.go, ?_, List.nodup_append.mpr ⟨a.nd, b.nd, fun x hx y hy e => ?_⟩, fun x hx => ?_, fun x hx => ?_⟩
  · simp only [Ows]
    exact ⟨v, vs, fo, fo', rfl, rfl, a'.ow, b.ow⟩
  · subst e
    obtain ⟨u, e⟩ := Ow.there o v fo a.ow x hx
    rcases b.new x hy with z | z
    · exact (a.ap x hx).2 z
    · rw [z] at e
      cases e
  · rcases List.mem_append.mp hx with hx | hx
    · exact a.new x hx
    · exact a.go.nw (b.new x hx)
  · rcases List.mem_append.mp hx with hx | hx
    · exact a'.ap x hx
    · exact b.ap x hx
end
/-! ### readings -/
section
variable (Γ : Env1) (W : WX)
def RdE (f : List Sl → List O → Rs O) : TE := fun σ H Q => ∃ ρ μ g fp, SR Γ g μ H ρ σ fp ∧ ErOk Γ W σ g H (f ρ μ) ∧ ∀ o μ', f ρ μ = .ok o μ' → ∀ g' H' v fo, Got Γ g H g' μ' H' o v fo → Q v H'
def RdA (f : List Sl → List O → Rs (List O)) : TA := fun σ H Q => ∃ ρ μ g fp, SR Γ g μ H ρ σ fp ∧ ErOk Γ W σ g H (f ρ μ) ∧ ∀ o μ', f ρ μ = .ok o μ' → ∀ g' H' v fo, Gots Γ g H g' μ' H' o v fo → Q v H'
def RdO (f : List Sl → List O → Rs (Option Int)) : TO := fun σ H Q => ∃ ρ μ g fp, SR Γ g μ H ρ σ fp ∧ ErOk Γ W σ g H (f ρ μ) ∧ ∀ o μ', f ρ μ = .ok o μ' → ∀ g' H', Go Γ g H g' μ' H' → Q o H'
/-- .. to a truth value -/
def fB (f : List Sl → List O → Rs O) : List Sl → List O → Rs O := fun ρ μ => (f ρ μ).bind fun x μ1 => lift ((asB x).map fun b => O.sh (.bl b)) μ1
abbrev RdT (f : List Sl → List O → Rs O) : TT := tTest (RdE Γ W (fB f))
end
theorem PE.imp {X : Cx} {e : Expr} {t t' : TE} (h : PE X e t) (i : ∀ σ H Q, t' σ H Q → t σ H Q) : PE X e t' := ⟨fun pins s σ H Q I q => h.run pins s σ H Q I (i σ H Q q)⟩
theorem PT.imp {X : Cx} {e : Expr} {t t' : TT} (h : PT X e t) (i : ∀ σ H Q, t' σ H Q → t σ H Q) : PT X e t' := ⟨fun pins s σ H Q I q => h.run pins s σ H Q I (i σ H Q q)⟩
theorem PA.imp {X : Cx} {e : List Expr} {t t' : TA} (h : PA X e t) (i : ∀ σ H Q, t' σ H Q → t σ H Q) : PA X e t' := ⟨fun pos pins s σ H Q I q => h.run pos pins s σ H Q I (i σ H Q q)⟩
theorem PO.imp {X : Cx} {e : Option Expr} {t t' : TO} (h : PO X e t) (i : ∀ σ H Q, t' σ H Q → t σ H Q) : PO X e t' := ⟨fun pins s σ H Q I q => h.run pins s σ H Q I (i σ H Q q)⟩
theorem PS.imp {X : Cx} {e : Stmt} {t t' : TS} (h : PS X e t) (i : ∀ D σ H, t' D σ H → t D σ H) : PS X e t' := ⟨fun pins s σ H D I q => h.run pins s σ H D I (i D σ H q)⟩
theorem PSs.imp {X : Cx} {e : List Stmt} {t t' : TS} (h : PSs X e t) (i : ∀ D σ H, t' D σ H → t D σ H) : PSs X e t' := ⟨fun pins s σ H D I q => h.run pins s σ H D I (i D σ H q)⟩
section
variable {Γ : Env1} {W : WX} {σ : L2.St} {H : Hp} {Q : VK}
/-- one operand, frozen -/
theorem rd1 {fa : List Sl → List O → Rs O} {k : List Sl → O → List O → Rs O} {R : V → Hp → Prop} (h : RdE Γ W (fun ρ μ => (fa ρ μ).bind (k ρ)) σ H Q)
    (s : ∀ ρ x μ1 g1 H1 fp v, SR Γ g1 μ1 H1 ρ σ fp → Rp Γ g1 (fz x) v → ErOk Γ W σ g1 H1 (k ρ x μ1) → (∀ o μ2, k ρ x μ1 = .ok o μ2 → Ret Γ g1 μ2 H1 o Q) → R v H1) : RdE Γ W fa σ H R := by
  obtain ⟨ρ, μ, g, fp, sr, er, ok⟩ := h
  refine ⟨ρ, μ, g, fp, sr, er.of_bind, fun x μ1 e g1 H1 v fo G => ?_⟩
  obtain ⟨G1, r1⟩ := G.fz
  refine s ρ x μ1 _ H1 fp v (sr.go G1) r1 (ErOk.bind_to er e G1) fun o μ2 e2 g' H' v' fo' G' => ?_
  exact ok o μ2 (by show (fa ρ μ).bind (k ρ) = _; rw [e]; exact e2) g' H' v' fo' (G'.after G1)
/-- two operands -/
theorem rd2 {fa fb : List Sl → List O → Rs O} {k : O → O → List O → Rs O} {R : V → V → Hp → Prop} (h : RdE Γ W (fun ρ μ => (fa ρ μ).bind fun x μ1 => (fb ρ μ1).bind fun y μ2 => k x y μ2) σ H Q)
    (s : ∀ x y μ2 g2 H2 v u, Same g2.F H2 → Cl Γ g2 H2 μ2 → Rp Γ g2 (fz x) v → Rp Γ g2 (fz y) u → ErOk Γ W σ g2 H2 (k x y μ2) → (∀ o μ3, k x y μ2 = .ok o μ3 → Ret Γ g2 μ3 H2 o Q) → R v u H2) :
    RdE Γ W fa σ H fun v H1 => RdE Γ W fb σ H1 fun u H2 => R v u H2 := by
  refine rd1 (k := fun ρ x μ1 => (fb ρ μ1).bind fun y μ2 => k x y μ2) h fun ρ x μ1 g1 H1 fp v sr r1 er ok => ?_
  refine ⟨ρ, μ1, g1, fp, sr, er.of_bind, fun y μ2 e g2 H2 u fo G => ?_⟩
  obtain ⟨G2, r2⟩ := G.fz
  refine s x y μ2 _ H2 v u G2.F G2.cl (Rp.le G2.le _ _ r1) r2 (ErOk.bind_to er e G2) fun o μ3 e3 g' H' v' fo' G' => ?_
  exact ok o μ3 (by rw [e]; exact e3) g' H' v' fo' (G'.after G2)
/-- a pure answer of one operand -/
theorem rd1l {fa : List Sl → List O → Rs O} {k : O → Option O} {R : V → Hp → Prop} (h : RdE Γ W (fun ρ μ => (fa ρ μ).bind fun x μ1 => lift (k x) μ1) σ H Q)
    (s : ∀ x o μ g1 H1 v, Same g1.F H1 → Cl Γ g1 H1 μ → Rp Γ g1 (fz x) v → k x = some o → Ret Γ g1 μ H1 o Q → R v H1) : RdE Γ W fa σ H R :=
  rd1 (k := fun _ x μ1 => lift (k x) μ1) h fun ρ x μ1 g1 H1 fp v sr r1 er ok => by
    cases e : k x with
    | none => rw [e] at er; exact er.elim
    | some o => exact s x o μ1 g1 H1 v sr.F sr.cl r1 e (ok o μ1 (by rw [e]; rfl))
theorem rd2l {fa fb : List Sl → List O → Rs O} {k : O → O → Option O} {R : V → V → Hp → Prop} (h : RdE Γ W (fun ρ μ => (fa ρ μ).bind fun x μ1 => (fb ρ μ1).bind fun y μ2 => lift (k x y) μ2) σ H Q)
    (s : ∀ x y o μ g2 H2 v u, Same g2.F H2 → Cl Γ g2 H2 μ → Rp Γ g2 (fz x) v → Rp Γ g2 (fz y) u → k x y = some o → Ret Γ g2 μ H2 o Q → R v u H2) :
    RdE Γ W fa σ H fun v H1 => RdE Γ W fb σ H1 fun u H2 => R v u H2 :=
  rd2 h fun x y μ2 g2 H2 v u F c r1 r2 er ok => by
    cases e : k x y with
    | none => rw [e] at er; exact er.elim
    | some o => exact s x y o μ2 g2 H2 v u F c r1 r2 e (ok o μ2 (by rw [e]; rfl))
/-- all arguments, frozen -/
theorem rdA1 {fa : List Sl → List O → Rs (List O)} {k : List O → List O → Rs O} {R : List V → Hp → Prop} (h : RdE Γ W (fun ρ μ => (fa ρ μ).bind k) σ H Q)
    (s : ∀ xs μ1 g1 H1 vs, Same g1.F H1 → Cl Γ g1 H1 μ1 → Rps Γ g1 (fzs xs) vs → ErOk Γ W σ g1 H1 (k xs μ1) → (∀ o μ2, k xs μ1 = .ok o μ2 → Ret Γ g1 μ2 H1 o Q) → R vs H1) : RdA Γ W fa σ H R := by
  obtain ⟨ρ, μ, g, fp, sr, er, ok⟩ := h
  refine ⟨ρ, μ, g, fp, sr, er.of_bind, fun x μ1 e g1 H1 v fo G => ?_⟩
  obtain ⟨G1, r1⟩ := G.fz
  refine s x μ1 _ H1 v G1.F G1.cl r1 (ErOk.bind_to er e G1) fun o μ2 e2 g' H' v' fo' G' => ?_
  exact ok o μ2 (by show (fa ρ μ).bind k = _; rw [e]; exact e2) g' H' v' fo' (G'.after G1)
theorem rdA1l {fa : List Sl → List O → Rs (List O)} {k : List O → Option O} {R : List V → Hp → Prop} (h : RdE Γ W (fun ρ μ => (fa ρ μ).bind fun xs μ1 => lift (k xs) μ1) σ H Q)
    (s : ∀ xs o μ g1 H1 vs, Same g1.F H1 → Cl Γ g1 H1 μ → Rps Γ g1 (fzs xs) vs → k xs = some o → Ret Γ g1 μ H1 o Q → R vs H1) : RdA Γ W fa σ H R :=
  rdA1 h fun xs μ1 g1 H1 vs F c r er ok => by
    cases e : k xs with
    | none => rw [e] at er; exact er.elim
    | some o => exact s xs o μ1 g1 H1 vs F c r e (ok o μ1 (by rw [e]; rfl))
theorem RdE.fB {f : List Sl → List O → Rs O} (h : RdE Γ W (fB f) σ H Q) : RdE Γ W f σ H Q := by
  obtain ⟨ρ, μ, g, fp, sr, er, ok⟩ := h
  refine ⟨ρ, μ, g, fp, sr, er.of_bind, fun o μ1 e g1 H1 v fo G => ?_⟩
  have er' := ErOk.bind_to er e G.go
  have ok' := ok
  unfold MP.fB at ok'
  rw [e] at ok'
  cases o with
  | sh d =>
    cases d with
    | bl b => exact ok' (.sh (.bl b)) μ1 rfl g1 H1 v fo G
    | _ => exact er'.elim
  | _ => exact er'.elim
end
end MP
/-! MP4 -/
set_option Elab.async false
set_option linter.all false
set_option maxRecDepth 100000
set_option maxHeartbeats 1000000
/-! MP4: the looks at the program's syntax; what a def promises; calls; built-ins. -/
namespace MP
open PySem PySem.Spec PyProof.Rows L2
/-! ### what is known of the program where an expression stands -/
structure Ck where
  N : List Str
  sc : Scope
  lv : Nat
  cl : List Str
  fs : List Str
  cs : List Str
  ms : List (Str × Str)
  fl : List (Str × Str)
  bl : List Str
  gi : List (Str × Int)
  gs : List (Str × Str)
  xp : List Str
  xi : List Str := []
  xf : List (Str × Str) := []
  xc : List Str := []
  xm : List (Str × Str × Bool) := []
  xk : List (Str × Str × Bool) := []
def okName (x : Str) : Bool := !(x == ("__debug__" : Str)) && (!(x == ("__classdict__" : Str)) && !(x == ("__name__" : Str)))
def Ck.vis (k : Ck) (i : Nat) (x : Str) : Bool := decide (k.N[i]? = some x) && ((match k.sc.names.lookup x with
  | some .local => true
  | some .cell => true
  | some .free => true
  | _ => false) && okName x)
def Ck.loc (k : Ck) (i : Nat) (x : Str) : Bool := decide (k.N[i]? = some x) && (match k.sc.names.lookup x with
  | some .local => true
  | some .cell => k.cl.contains x
  | _ => false)
def Ck.gl (k : Ck) (x : Str) : Bool := decide (k.sc.names.lookup x = some .globalImplicit) && okName x
/-! ### what a def promises -/
def spF (Γ : Env1) (φ : List D → List O → Rs O) : Sp := fun vs H Q E => ∃ ds μ g, Rps Γ g ds vs ∧ Same g.F H ∧ Cl Γ g H μ ∧ match φ ds μ with
  | .ok o μ' => Ret Γ g μ' H o Q
  | .er c fs μ' => ∀ g' H' cls d, Go Γ g H g' μ' H' → XR Γ g' H' c fs cls d → E cls d H'
  | .bad => False
/-- a class's __init__ -/
def spI (Γ : Env1) (c : Str) (φ : List D → List O → Rs O) : Sp := fun vs H Q E => ∃ x dx vs' H0 ds μ g, vs = .ref x :: vs' ∧ H = upd (upd H0 dx (.own x)) x (.ins (He.ga Γ.K c) dx []) ∧ H0 x = none ∧ H0 dx = none ∧ dx ≠ x ∧
  Rps Γ g ds vs' ∧ Same g.F H0 ∧ Cl Γ g H0 μ ∧ match φ ds μ with
  | .ok o μ' => ∀ g' H' fo, Got Γ g H0 g' μ' H' o (.ref x) fo → Q .non H'
  | .er c fs μ' => ∀ g' H' cls d, Go Γ g H0 g' μ' H' → XR Γ g' H' c fs cls d → E cls d H'
  | .bad => False
/-- an error's __init__: its fields, in their order -/
def spX (K : PySem.W.Frag) (c : Str) : Sp := fun vs H Q _ => ∃ a vals, vs = .ref a :: vals ∧ vals.length = (xNames c).length ∧ H a = some (exo a (He.ga K c) none) ∧
  ∀ d flds, H d = none → d ≠ a → (∀ (i : Nat) n, (xNames c)[i]? = some n → flds.lookup n = vals[i]?) → Q .non (upd (upd H d (exd d flds)) a (exo a (He.ga K c) (some d)))
structure Stat (P : Program) (w : World) (K : PySem.W.Frag) (mg : Str → Option Value) (base : Heap) (ck : Ck) (Φ : Fns) : Prop where
  fn : ∀ p ∈ ck.fs, ∃ fa fd ps, mg p = some (.ref fa) ∧ PySem.W.keepIn K (.ref fa) = true ∧ Binds K fd ps [] ∧ FnOk P w K mg base (L2.CX P w) ck.lv fa fd ps (spF ⟨K, P, w⟩ (Φ p))
  mc : ∀ c ∈ ck.cs, ∃ f fd ps, mg c = some (.ref (He.ga K c)) ∧ Mk K (He.ga K c) f ∧ Binds K fd ps [] ∧ FnOk P w K mg base (L2.CX P w) ck.lv f fd ps (spI ⟨K, P, w⟩ c (Φ c))
  ms : ∀ p ∈ ck.ms, ∃ f fd ps, Cls K (He.ga K p.1) ∧ Meth K (He.ga K p.1) p.2 f ∧ Binds K fd ps [] ∧ FnOk P w K mg base (L2.CX P w) ck.lv f fd ps (spF ⟨K, P, w⟩ (Φ (p.1 ++ "." ++ p.2)))
  fl : ∀ p ∈ ck.fl, Cls K (He.ga K p.1) ∧ NoAttr K (He.ga K p.1) p.2
  bl : ∀ x ∈ ck.bl, mg x = none
  gi : ∀ p ∈ ck.gi, ∃ t, mg p.1 = some (.int p.2 t)
  gs : ∀ p ∈ ck.gs, ∃ t, mg p.1 = some (.str p.2 t)
  xp : ∀ c ∈ ck.xp, mg c = some (.ref (He.ga K c)) ∧ PySem.W.excIn K (He.ga K c) [.type "ValueError", .type "Exception", .type "BaseException", .type "object"] "ValueError.__new__" = true ∧ PySem.W.keepIn K (.ref (He.ga K c)) = true ∧
    PySem.W.subIn K (.ref (He.ga K c)) (.type "BaseException") = some true ∧ PySem.W.typeIn K (.ref (He.ga K c)) = some (.type "type")
  xi : ∀ c ∈ ck.xi, mg c = some (.ref (He.ga K c)) ∧ OexC K (He.ga K c) ∧ ∃ fI fd ps, PySem.W.findIn K (.ref (He.ga K c)) "__init__" = some (some (.ref fI)) ∧ PySem.W.typeIn K (.ref fI) = some (.type "function") ∧ Binds K fd ps [] ∧ FnOk P w K mg base (L2.CX P w) 2 fI fd ps (spX K c)
  xc : ∀ c ∈ ck.xc, mg c = some (.ref (He.ga K c))
  xm : ∀ p ∈ ck.xm, PySem.W.exmOne K (.ref (He.ga K p.1)) (.ref (He.ga K p.2.1)) = some p.2.2
  xk : ∀ p ∈ ck.xk, ExcC K (He.ga K p.1) ∧ ((p.2.1 ∈ ck.xc ∧ PySem.W.kitOne K (.ref (He.ga K p.1)) (.ref (He.ga K p.2.1)) = some p.2.2) ∨ (p.2.1 = "ValueError" ∧ ("ValueError" : Str) ∈ ck.bl ∧ PySem.W.kitOne K (.ref (He.ga K p.1)) (.type "ValueError") = some p.2.2))
  xf : ∀ p ∈ ck.xf, NoAttr K (He.ga K p.1) p.2
/-- where an expression stands -/
structure At (X : Cx) (ck : Ck) (Φ : Fns) (W : WX) : Prop where
  N : X.N = ck.N
  sc : X.env.scope = ck.sc
  nd : ck.N.Nodup
  calm : X.calm = true
  tk : Takes X W
  room : Room (ck.lv + 1) X.A
  cl : ∀ x ∈ ck.cl, X.fn x = true
  st : Stat X.prog X.w X.K X.mg X.base ck Φ
section
variable {X : Cx} {ck : Ck} {Φ : Fns} {W : WX}
theorem At.hu (c : At X ck Φ W) : X.A.units + 65 < cLine := by have := c.room.un; omega
theorem okName_db {x : Str} (h : okName x = true) : (x == ("__debug__" : Str)) = false := by
  unfold okName at h
  simp only [Bool.and_eq_true, Bool.not_eq_true'] at h
  exact h.1
theorem okName_cd {x : Str} (h : okName x = true) : (x == ("__classdict__" : Str)) = false := by
  unfold okName at h
  simp only [Bool.and_eq_true, Bool.not_eq_true'] at h
  exact h.2.1
theorem okName_nm {x : Str} (h : okName x = true) : x ≠ "__name__" := by
  unfold okName at h
  simp only [Bool.and_eq_true, Bool.not_eq_true'] at h
  exact fun e => by rw [e] at h; exact absurd h.2.2 (by decide)
theorem At.pv (c : At X ck Φ W) {i : Nat} {x : Str} {pos : Pos} (h : ck.vis i x = true) : PE X (.Name x pos) (tVar i) := by
  unfold Ck.vis at h
  simp only [Bool.and_eq_true, decide_eq_true_eq] at h
  obtain ⟨h1, h2, h3⟩ := h
  refine pe_var (by rw [c.N]; exact h1) ?_ (okName_db h3) (okName_cd h3)
  rw [c.sc]
  split at h2
  · exact .inl (by assumption)
  · exact .inr (.inl (by assumption))
  · exact .inr (.inr (by assumption))
  · cases h2
theorem At.gl (c : At X ck Φ W) {x : Str} (h : ck.gl x = true) : Gl X x := by
  unfold Ck.gl at h
  simp only [Bool.and_eq_true, decide_eq_true_eq] at h
  show X.env.scope.names.lookup x = some .globalImplicit
  rw [c.sc]
  exact h.1
theorem Ck.okN {x : Str} (h : ck.gl x = true) : okName x = true := by
  unfold Ck.gl at h
  simp only [Bool.and_eq_true] at h
  exact h.2
/-! ### arguments have no star -/
def noStar : Expr → Bool
  | .Starred _ _ => false
  | _ => true
theorem star_cons {e : Expr} {es : List Expr} {env : Env} (h : noStar e = true) : starEach (e :: es) env = (false, eval e env) :: starEach es env := by
  cases e <;> first | rfl | cases h
theorem star_none : ∀ {es : List Expr} {env : Env} {pos : Pos}, es.all noStar = true → (backTo pos (starEach es env)).any (·.1) = false
  | [], env, pos, _ => rfl
  | e :: es, env, pos, h => by
    simp only [List.all_cons, Bool.and_eq_true] at h
    rw [star_cons h.1]
    exact star_none (es := es) h.2
theorem star_form : ∀ {es : List Expr} {env : Env} {pos : Pos}, es.all noStar = true → (backTo pos (starEach es env)).all (!·.1) = true
  | [], env, pos, _ => rfl
  | e :: es, env, pos, h => by
    simp only [List.all_cons, Bool.and_eq_true] at h
    rw [star_cons h.1]
    exact star_form (es := es) h.2
end
/-! ### calls whose errors are wished for at the slots -/
section
variable {X : Cx} {CX : CXT} {k : Nat} {f C : Addr} {fd : FuncData} {ps : List Str} {sp : Sp} {E : L2.St → XK} {x m : Str} {p pos apos : Pos} {e o : Expr} {es : List Expr} {ta : TE} {t : TA}
theorem pe_callS0 (F : FnOk X.prog X.w X.K X.mg X.base CX k f fd ps sp) (hr : Room k X.A) (hg : Gl X x) (hm : X.mg x = some (.ref f)) (hk : PySem.W.keepIn X.K (.ref f) = true) (hb : Binds X.K fd ps []) (hx : ∀ σ, PassesAt CX X σ (E σ))
    (hdb : (x == ("__debug__" : Str)) = false) : PE X (.Call (.Name x p) [] [] pos) (tCallS sp E tNil) :=
  ⟨fun pins s σ H Q I h => wpAny_Call_Name_kw (ld_glob I hg hm (PySem.W.callWith_K0 I.kIn hk (run_fnS (us := []) F hr hb (hx σ) I .nil h)) hdb)⟩
def tMethS (C : Addr) (m : Str) (sp : Sp) (E : L2.St → XK) (ta : TE) (t : TA) : TE := fun σ H Q => ta σ H fun x H1 => ∃ a dx fs, x = .ref a ∧ H1 a = some (.ins C dx fs) ∧ fs.lookup m = none ∧ t σ H1 fun vs H2 => sp (x :: vs) H2 Q (E σ)
theorem meth_tree {env : Env} (hl : (apos.endLine == pos.line) = true) (hs : es.all noStar = true) (hn : es.length < 30) (hb : attributeBase o m env (eval o env) = eval o env) : eval (.Call (.Attribute o m apos) es [] pos) env = (do
      let ov ← eval o env
      standAt apos.atName
      let (f, first) ← holding [ov] (getMethod ov m (plainOf o env))
      callWith pos f first (backTo pos (starEach es env)) (backToKw pos (keywordEach [] env))) := by
  have e1 : eval (.Call (.Attribute o m apos) es [] pos) env = (do
      let ov ← attributeBase o m env (eval o env)
      standAt apos.atName
      methodCall o m apos pos env ov (es.length + 0) (backTo pos (starEach es env)) (backToKw pos (keywordEach [] env))) := rfl
  rw [e1, hb]
  refine congrArg (fun z => eval o env >>= z) (funext fun ov => congrArg (fun z => standAt apos.atName >>= z) (funext fun _ => ?_))
  refine mcall_line ?_ hl
  unfold methodCallForm
  rw [star_form hs]
  simp [backToKw, keywordEach]
  omega
theorem pe_methS (he : PE X o ta) (c : Cls X.K C) (hm : Meth X.K C m f) (F : FnOk X.prog X.w X.K X.mg X.base CX k f fd ps sp) (hr : Room k X.A) (hb : Binds X.K fd ps []) (hx : ∀ σ, PassesAt CX X σ (E σ)) (ha : PA X (e :: es) t)
    (hl : (apos.endLine == pos.line) = true) (hs : (e :: es).all noStar = true) (hn : (e :: es).length < 30) (hba : attributeBase o m X.env (eval o X.env) = eval o X.env) : PE X (.Call (.Attribute o m apos) (e :: es) [] pos) (tMethS C m sp E ta t) := by
  refine ⟨fun pins s σ H Q I h => ?_⟩
  refine PySem.W.methodCall_KW (pl := plainOf o X.env) (thn (he.run pins s σ H _ I h) fun u s1 ⟨x, H1, I1, rx, a, dx, fs, ex, ea, l, q⟩ => ?_) (meth_tree hl hs hn hba)
  subst ex
  obtain rfl : u = Value.ref a := rx
  refine getmeth_ok I1 ea c hm l ?_
  simp only [List.all_cons, Bool.and_eq_true] at hs
  refine PySem.W.callWith_K (first := [.ref a]) (h₀ := X.base) I1.ok.mod.kin hm.kp (thn (ha.run pos pins s1 σ H1 _ I1 q) fun us s2 ⟨vs, H2, I2, r, q2⟩ => ⟨I2.kIn, ?_⟩) (star_cons hs.1) (star_none hs.2)
  exact run_fnS (us := .ref a :: us) (vs := .ref a :: vs) F hr hb (hx σ) I2 (.cons rfl r) q2
theorem pe_methS0 (he : PE X o ta) (c : Cls X.K C) (hm : Meth X.K C m f) (F : FnOk X.prog X.w X.K X.mg X.base CX k f fd ps sp) (hr : Room k X.A) (hb : Binds X.K fd ps []) (hx : ∀ σ, PassesAt CX X σ (E σ))
    (hl : (apos.endLine == pos.line) = true) (hba : attributeBase o m X.env (eval o X.env) = eval o X.env) : PE X (.Call (.Attribute o m apos) [] [] pos) (tMethS C m sp E ta tNil) := by
  refine ⟨fun pins s σ H Q I h => ?_⟩
  refine PySem.W.methodCall_KW (pl := plainOf o X.env) (thn (he.run pins s σ H _ I h) fun u s1 ⟨x, H1, I1, rx, a, dx, fs, ex, ea, l, q⟩ => ?_) (meth_tree hl rfl (by decide) hba)
  subst ex
  obtain rfl : u = Value.ref a := rx
  refine getmeth_ok I1 ea c hm l ?_
  exact PySem.W.callWith_K0 (first := [.ref a]) I1.kIn hm.kp (run_fnS (us := [.ref a]) (vs := [.ref a]) F hr hb (hx σ) I1 (.cons rfl .nil) q)
def tMakeS (C : Addr) (sp : Sp) (E : L2.St → XK) (t : TA) : TE := fun σ H Q => t σ H fun vs H1 => ∀ x dx, H1 x = none → H1 dx = none → dx ≠ x → sp (.ref x :: vs) (upd (upd H1 dx (.own x)) x (.ins C dx [])) (fun v H2 => v = .non ∧ Q (.ref x) H2) (E σ)
theorem run_makeS {pins : List (Addr × Obj)} {σ : L2.St} {H : Hp} {s : Shared} {Q : VK} {us : List Value} {vs : List V} (M : Mk X.K C f) (F : FnOk X.prog X.w X.K X.mg X.base CX k f fd ps sp) (hr : Room (k + 1) X.A) (hb : Binds X.K fd ps []) (hx : PassesAt CX X σ (E σ))
    (I : Inv X pins σ H s) (r : Vals vs us) (h : ∀ x dx, H x = none → H dx = none → dx ≠ x → sp (.ref x :: vs) (upd (upd H dx (.own x)) x (.ins C dx [])) (fun v H2 => v = .non ∧ Q (.ref x) H2) (E σ)) :
    wpAny (model X.prog X.w) X.A (call (.ref C) us) (EP X pins σ Q) X.xe s := by
  have hq := h (s.heap.objs.size + 1) s.heap.objs.size (I.hok.fresh (Nat.le_succ _)) (I.hok.fresh (Nat.le_refl _)) (Nat.ne_of_lt (Nat.lt_succ_self _))
  have J := Inv.made (C := C) I
  have rr : Vals (V.ref (s.heap.objs.size + 1) :: vs) (Value.ref (s.heap.objs.size + 1) :: us) := .cons rfl r
  have hl : (Value.ref (s.heap.objs.size + 1) :: us ++ []).length = ps.length := by
    rw [List.append_nil, ← rr.length]
    exact F.len _ _ _ _ hq
  have bd := hb _ (Value.ref (s.heap.objs.size + 1) :: us) J.kIn hl
  rw [List.append_nil] at bd
  refine wpAny_call (make_map (f := f) I.kIn M.makes M.init (beq_iff_eq.mp M.fn) (codeAny_mono (F.run _ X.stack _ _ ⟨Value.ref (s.heap.objs.size + 1) :: us, []⟩ (Value.ref (s.heap.objs.size + 1) :: us) _ _ (E σ) (hr.make C us [])
    (J.env0.make C us []) bd rr hq) fun r s' z => ?_))
  match r, z with
  | .error e, z => exact hx pins _ _ e s' J z
  | .ok (.ret u), z =>
    obtain ⟨v, H', I3, rv, ev, q3⟩ := J.after z
    subst ev
    exact ⟨rv, V.ref (s.heap.objs.size + 1), H', I3, rfl, q3⟩
  | .ok .next, z => exact False.elim z
  | .ok .brk, z => exact False.elim z
  | .ok .cont, z => exact False.elim z
theorem pe_makeS (M : Mk X.K C f) (F : FnOk X.prog X.w X.K X.mg X.base CX k f fd ps sp) (hr : Room (k + 1) X.A) (hg : Gl X x) (hm : X.mg x = some (.ref C)) (hb : Binds X.K fd ps []) (hx : ∀ σ, PassesAt CX X σ (E σ))
    (ha : PA X (e :: es) t) (hdb : (x == ("__debug__" : Str)) = false) (hs : (e :: es).all noStar = true) : PE X (.Call (.Name x p) (e :: es) [] pos) (tMakeS C sp E t) := by
  simp only [List.all_cons, Bool.and_eq_true] at hs
  refine ⟨fun pins s σ H Q I h => wpAny_Call_Name_kw (ld_glob I hg hm ?_ hdb)⟩
  refine PySem.W.callWith_K (h₀ := X.base) I.ok.mod.kin M.kp (thn (ha.run pos pins s σ H _ I h) fun us s1 ⟨vs, H1, I1, r, q⟩ => ⟨I1.kIn, ?_⟩) (star_cons hs.1) (star_none hs.2)
  exact run_makeS M F hr hb (hx σ) I1 r q
end
end MP
/-! MPB -/
set_option Elab.async false
set_option linter.all false
set_option maxRecDepth 100000
set_option maxHeartbeats 1000000
/-! MPB: methods of built-in values: len(d), d.get(k, x), l.index(x), l.insert(i, x). -/
namespace MP
open PySem PySem.Spec PyProof.Rows L2
section
variable {X : Cx}
theorem call_len_nd : CallR X (.builtin "len") (fun xs H Q => ∃ a ys, xs = [.ref a] ∧ NdAt X H a ys ∧ Q (.int ys.length) H) := by
  intro pins s σ H xs us Q I r h
  obtain ⟨a, ys, rfl, n, q⟩ := h
  obtain ⟨u, rfl, rx⟩ := vals1 r
  cases rx
  have h1 := n.len
  have h2 := line63
  exact call_len_dictH n.mod (n.dict I) (by omega) ⟨.int _, H, (I.tok _).tok _, ⟨_, rfl⟩, q⟩
/-- d.get(y, z) -/
def rNGetD (X : Cx) : V → List V → Hp → VK → Prop := fun x vs H Q => ∃ a xs k y d w, x = .ref a ∧ vs = [y, d] ∧ NdAt X H a xs ∧ KeyAt X H k y ∧ (match atKey xs k with
    | some p => RelV w p.2
    | none => w = d) ∧ Q w H
theorem mt_nget (hu : X.A.units + 65 < cLine) : MtR X "dict.get" (rNGetD X) := by
  intro pins s σ H x vs v us Q I rx rv h
  obtain ⟨a, xs, k, y, d, w, rfl, rfl, n, hk, hw, q⟩ := h
  obtain rfl : v = Value.ref a := rx
  obtain ⟨u1, u2, rfl, r1, r2⟩ := rv.two
  obtain ⟨b, rfl, rfl, hb⟩ := hk.at I r1
  refine getOr_keyed (kvs := pairsH xs) (show X.A.units + 1 + 8 < cLine by omega) hb n.mod ⟨xs, n.dict I, rfl⟩ ?_
  rw [valueAt_pairsH]
  refine ⟨w, H, I.tok _, ?_, q⟩
  cases e : atKey xs k with
  | none =>
    rw [e] at hw
    subst hw
    exact r2
  | some p =>
    rw [e] at hw
    exact hw
theorem nd_base {pins : List (Addr × Obj)} {σ : L2.St} {H : Hp} {s : Shared} {a : Addr} {xs : List (NestedKey × Addr × Value)} (I : Inv X pins σ H s) (n : NdAt X H a xs) : s.TypeIs (.ref a) "dict" ∧ ∀ b, Value.ref a = .ref b → ∃ ob, s.heap.get? b = some ob ∧ ob.dict = none := by
  refine ⟨nd_typeIs I n, fun b e => ?_⟩
  cases e
  obtain ⟨⟨o, es, ep, h1, h2, h3, h4, h5⟩, _, _⟩ := n.ok I
  exact ⟨o, h1, h2.2.1⟩
def tNM (X : Cx) (r : V → List V → Hp → VK → Prop) (to : TE) (t : TA) : TE := fun σ H Q => to σ H fun x H1 => (∃ a xs, x = .ref a ∧ NdAt X H1 a xs) ∧ t σ H1 fun xs H2 => r x xs H2 Q
variable {o e : Expr} {es : List Expr} {to : TE} {t : TA} {apos cpos : Pos} {r : V → List V → Hp → VK → Prop}
theorem pe_nm (hm : MtR X "dict.get" r) (ho : PE X o to) (ha : PA X (e :: es) t)
    (hbase : attributeBase o "get" X.env (eval o X.env) = eval o X.env)
    (hfew : ((backTo cpos (starEach (e :: es) X.env)).all (fun x => !x.1) && (backToKw cpos (keywordEach [] X.env)).all (fun x => x.1.isSome)
      && decide ((e :: es).length + ([] : List Keyword).length + (if ([] : List Keyword).isEmpty then 0 else 1) < 30)) = true)
    (hline : (apos.endLine == cpos.line) = true) (hs : starEach (e :: es) X.env = (false, eval e X.env) :: starEach es X.env) (hplain : (backTo cpos (starEach es X.env)).any (·.1) = false) :
    PE X (.Call (.Attribute o "get" apos) (e :: es) [] cpos) (tNM X r to t) := by
  refine ⟨fun pins s σ H Q I h => ?_⟩
  refine wpAny_Call_method_late hbase hfew hline rfl (thn (ho.run pins s σ H _ I h) fun v s1 ⟨x, H1, I1, r1, ⟨a, xs, ex, n⟩, q1⟩ => ?_)
  subst ex
  obtain rfl : v = Value.ref a := r1
  obtain ⟨h1, h2⟩ := nd_base I1 n
  refine ⟨"dict", "dict.get", PySem.F.plainAttrs_dict, PySem.F.slot_dict_get, PySem.F.type_dict_get, h1, h2, ?_⟩
  have hA := ha.run cpos pins s1 σ H1 _ I1 q1
  rw [hs] at hA ⊢
  refine Calls.callWith_builtin (by show (false || (backTo cpos (starEach es X.env)).any (·.1)) = false; rw [hplain] <;> rfl) (Calls.evalArgs_plain ?_)
  exact thn hA fun us s2 ⟨vs, H2, I2, r2, q2⟩ => hm pins s2 σ H2 (.ref a) vs (.ref a) us Q I2 rfl r2 q2
end
end MP
/-! MPH -/
set_option Elab.async false
set_option linter.all false
set_option maxRecDepth 100000
set_option maxHeartbeats 1000000
/-! MPH: with the common cells out of sight. -/
namespace MP
open PySem PySem.Spec PyProof.Rows L2
section
variable {Γ : Env1} {g g' : Gh} {H H' : Hp} {μ : List O}
mutual
theorem Rp.noC (l : g.F = g'.F) : ∀ (d : D) (v : V), MP.noC d = true → Rp Γ g d v → Rp Γ g' d v
  | .non, v, _, h => h
  | .bl b, v, _, h => h
  | .int i, v, _, h => h
  | .str s, v, _, h => h
  | .tup ds, v, n, h => by
    simp only [Rp] at h ⊢
    obtain ⟨a, vs, e, s, r⟩ := h
    exact ⟨a, vs, e, by rw [← l]; exact s, Rps.noC l ds vs (by simpa only [MP.noC] using n) r⟩
  | .lst ds, v, n, h => by
    simp only [Rp] at h ⊢
    obtain ⟨a, vs, e, s, r⟩ := h
    exact ⟨a, vs, e, by rw [← l]; exact s, Rps.noC l ds vs (by simpa only [MP.noC] using n) r⟩
  | .dct t ks vs, v, n, h => by
    simp only [MP.noC, Bool.and_eq_true] at n
    simp only [Rp] at h ⊢
    obtain ⟨a, kv, vv, e, s, r, q⟩ := h
    exact ⟨a, kv, vv, e, by rw [← l]; exact s, Rps.noC l ks kv n.1 r, Rps.noC l vs vv n.2 q⟩
  | .ins c ns fs, v, n, h => by
    simp only [Rp] at h ⊢
    obtain ⟨a, dx, vs, e, s, m, r⟩ := h
    exact ⟨a, dx, vs, e, by rw [← l]; exact s, m, Rps.noC l fs vs (by simpa only [MP.noC] using n) r⟩
  | .scr ns, v, n, h => by
    simp only [Rp] at h ⊢
    obtain ⟨a, e, s⟩ := h
    exact ⟨a, e, by rw [← l]; exact s⟩
  | .cell m, v, n, h => by simp [MP.noC] at n
theorem Rps.noC (l : g.F = g'.F) : ∀ (ds : List D) (vs : List V), noCs ds = true → Rps Γ g ds vs → Rps Γ g' ds vs
  | [], vs, _, h => h
  | d :: ds, vs, n, h => by
    simp only [noCs, Bool.and_eq_true] at n
    simp only [Rps] at h ⊢
    obtain ⟨v, vs', e, r, q⟩ := h
    exact ⟨v, vs', e, Rp.noC l d v n.1 r, Rps.noC l ds vs' n.2 q⟩
end
/-- without the common cells -/
def Gh.hid (g : Gh) : Gh := { F := g.F, rt := [], G := [] }
/-- with those of another one -/
def Gh.shown (g g0 : Gh) : Gh := { F := g.F, rt := g0.rt, G := g0.G }
theorem Cl.hid : Cl Γ g.hid H [] := ⟨by simp only [Gh.hid, List.map_nil, Ows]; exact ⟨trivial, trivial⟩, .nil, fun _ h => by cases h⟩
theorem cl_rt (c : Cl Γ g H []) : g.rt = [] := by
  have h := c.own
  simp only [Ows] at h
  exact List.map_eq_nil_iff.mp h.1
theorem Go.shown (c : Cl Γ g H μ) (a : Go Γ g.hid H g' [] H') : Go Γ g H (g'.shown g) μ H' := by
  have kG : KeepAt H H' g.G := fun x hx u e => a.keep x u e (fun z => by cases z)
  have le : Le g (g'.shown g) := ⟨a.le.F, fun _ _ h => h⟩
  refine ⟨le, fun x u e _ => a.keep x u e (fun z => by cases z), a.there, fun x h => (a.gF x h).imp id fun z => z.elim (fun z => nomatch z) .inr, fun x h => .inl h, a.F, ?_⟩
  refine ⟨Ows.le le _ _ _ c.own kG, c.nd, fun x hx => ?_⟩
  obtain ⟨u, e⟩ := c.there x hx
  cases q : g'.F x with
  | none => exact q
  | some w =>
    rcases a.gF x (ne_none q) with y | y | y
    · exact absurd (c.fr x hx) y
    · cases y
    · rw [e] at y; cases y
theorem le_shown (c : Cl Γ g' H' []) : Le g' (g'.shown g) := ⟨fun _ _ h => h, fun n a h => by rw [cl_rt c] at h; simp at h⟩
theorem Got.shown {o : O} {v : V} {fo : List Addr} (c : Cl Γ g H μ) (a : Got Γ g.hid H g' [] H' o v fo) : Got Γ g H (g'.shown g) μ H' o v fo := by
  refine ⟨a.go.shown c, Ow.le (le_shown a.go.cl) o v fo a.ow (fun _ _ _ h => h), a.nd, fun x hx => (a.new x hx).elim (fun z => nomatch z) .inr, fun x hx => ⟨(a.ap x hx).1, fun z => ?_⟩⟩
  obtain ⟨u, e⟩ := c.there x z
  rcases a.new x hx with y | y
  · cases y
  · rw [y] at e
    cases e
theorem XR.shown {c : Str} {fs : List D} {cls : Value} {d : Option Addr} (cl : Cl Γ g' H' []) (h : XR Γ g' H' c fs cls d) : XR Γ (g'.shown g) H' c fs cls d := by
  obtain ⟨e, h⟩ := h
  refine ⟨e, ?_⟩
  rcases h with h | ⟨dd, flds, vs, h1, h2, h3, h4⟩
  · exact .inl h
  · exact .inr ⟨dd, flds, vs, h1, h2, Rps.le (le_shown cl) _ _ h3, h4⟩
end
theorem hide_cons {φ : List D → List O → Rs O} {ds : List D} {x : O} {μ : List O} : hide φ ds (x :: μ) = if noCs ds then hideR (φ ds []) (x :: μ) else .bad := rfl
theorem spF_hide {Γ : Env1} {φ : List D → List O → Rs O} {vs : List V} {H : Hp} {Q : VK} {E : XK} (h : spF Γ (hide φ) vs H Q E) : spF Γ φ vs H Q E := by
  obtain ⟨ds, μ, g, r, F, c, ok⟩ := h
  cases μ with
  | nil => exact ⟨ds, [], g, r, F, c, ok⟩
  | cons x μ =>
    rw [hide_cons] at ok
    by_cases hn : noCs ds = true
    · rw [if_pos hn] at ok
      refine ⟨ds, [], g.hid, Rps.noC (g := g) (g' := g.hid) rfl ds vs hn r, F, Cl.hid, ?_⟩
      cases e : φ ds [] with
      | bad => rw [e] at ok; exact ok
      | ok o μ1 =>
        rw [e] at ok
        cases μ1 with
        | nil => exact fun g' H' v fo G => ok _ H' v fo (G.shown c)
        | cons _ _ => exact ok.elim
      | er cc fs μ1 =>
        rw [e] at ok
        cases μ1 with
        | nil => exact fun g' H' cls d G x => ok _ H' cls d (G.shown c) (x.shown G.cl)
        | cons _ _ => exact ok.elim
    · rw [if_neg hn] at ok
      exact ok.elim
theorem spI_hide {Γ : Env1} {c : Str} {φ : List D → List O → Rs O} {vs : List V} {H : Hp} {Q : VK} {E : XK} (h : spI Γ c (hide φ) vs H Q E) : spI Γ c φ vs H Q E := by
  obtain ⟨x, dx, vs', H0, ds, μ, g, e1, e2, nx, nd, ne, r, F, cl, ok⟩ := h
  cases μ with
  | nil => exact ⟨x, dx, vs', H0, ds, [], g, e1, e2, nx, nd, ne, r, F, cl, ok⟩
  | cons y μ =>
    rw [hide_cons] at ok
    by_cases hn : noCs ds = true
    · rw [if_pos hn] at ok
      refine ⟨x, dx, vs', H0, ds, [], g.hid, e1, e2, nx, nd, ne, Rps.noC (g := g) (g' := g.hid) rfl ds vs' hn r, F, Cl.hid, ?_⟩
      cases e : φ ds [] with
      | bad => rw [e] at ok; exact ok
      | ok o μ1 =>
        rw [e] at ok
        cases μ1 with
        | nil => exact fun g' H' fo G => ok _ H' fo (G.shown cl)
        | cons _ _ => exact ok.elim
      | er cc fs μ1 =>
        rw [e] at ok
        cases μ1 with
        | nil => exact fun g' H' cls d G x => ok _ H' cls d (G.shown cl) (x.shown G.cl)
        | cons _ _ => exact ok.elim
    · rw [if_neg hn] at ok
      exact ok.elim
end MP
/-! MPZ -/
set_option Elab.async false
set_option linter.all false
set_option maxRecDepth 100000
set_option maxHeartbeats 2000000
/-! MPZ: zip of two, each a list or a tuple (the library has two of one kind; the steps follow it, over both kinds at once). -/
namespace MP
open PySem PySem.Spec PyProof.Rows L2 PySem.W
/-- a list (true) or a tuple (false), as it lies; its iterator -/
def sqB (t : Bool) (h : Heap) (a : Addr) (xs : Array Value) : Prop := if t then h.IsList a xs else h.IsTuple a xs
def itB (t : Bool) (h : Heap) (a l : Addr) (i : Nat) : Prop := if t then h.IsListIter a l i else h.IsTupleIter a l i
theorem sqB_ext {t : Bool} {h h' : Heap} {a b : Addr} {xs : Array Value} (x : sqB t h a xs) (hs : Heap.ExtBut b h h') (n : a ≠ b) : sqB t h' a xs := by
  cases t
  · exact Heap.IsTuple.extBut (show h.IsTuple a xs from x) hs n
  · exact Heap.IsList.extBut (show h.IsList a xs from x) hs n
theorem itB_ext {t : Bool} {h h' : Heap} {a b l : Addr} {i : Nat} (x : itB t h a l i) (hs : Heap.ExtBut b h h') (n : a ≠ b) : itB t h' a l i := by
  cases t
  · exact Heap.IsTupleIter.extBut (show h.IsTupleIter a l i from x) hs n
  · exact Heap.IsListIter.extBut (show h.IsListIter a l i from x) hs n
theorem itB_at {t : Bool} {h h' : Heap} {a l : Addr} {i : Nat} (x : itB t h a l i) (e : ∀ o, h.get? a = some o → h'.get? a = some o) : itB t h' a l i := by
  cases t
  · exact Heap.IsTupleIter.at (show h.IsTupleIter a l i from x) e
  · exact Heap.IsListIter.at (show h.IsListIter a l i from x) e
theorem itB_obj {t : Bool} {h : Heap} {a l : Addr} {i : Nat} (x : itB t h a l i) : ∃ o, h.get? a = some o ∧ o.data = .fields #[.ref l, .int i 0] := by
  cases t
  · obtain ⟨o, e, _, d⟩ := (show h.IsTupleIter a l i from x); exact ⟨o, e, d⟩
  · obtain ⟨o, e, _, d⟩ := (show h.IsListIter a l i from x); exact ⟨o, e, d⟩
section
variable {prog : Program} {w : World} {A : Around} {E : Value → Shared → Prop} {s : Shared} {t1 t2 : Bool}
theorem nextB_item {t : Bool} {it l : Addr} {i : Nat} {items : Array Value} {x : Value} {Q : Value → Shared → Prop} (hit : itB t s.heap it l i) (hl : sqB t s.heap l items) (hx : items[i]? = some x)
    (hQ : ∀ h', itB t h' it l (i + 1) → Heap.SameBut it s.heap h' → Q x { s with heap := h' }) : wpAny (model prog w) A (Builtin.SmallTypes.nextOf (.ref it)) Q E s := by
  cases t
  · exact RZ.nextOf_tuple_item hit hl hx hQ
  · exact wpAny_nextOf_list_item hit hl hx hQ
theorem nextB_end {t : Bool} {it l : Addr} {i : Nat} {items : Array Value} {Q : Value → Shared → Prop} (hh : A.handled = none) (hit : itB t s.heap it l i) (hl : sqB t s.heap l items) (hx : items[i]? = none)
    (hE : ∀ h' e, Heap.ExtBut it s.heap h' → (∃ o, h'.get? e = some o ∧ o.cls = .type "StopIteration") → E (.ref e) { s with heap := h' }) : wpAny (model prog w) A (Builtin.SmallTypes.nextOf (.ref it)) Q E s := by
  cases t
  · exact RZ.nextOf_tuple_end hh hit hl hx hE
  · exact wpAny_nextOf_list_end hh hit hl hx hE
variable {z TI TO i1 i2 l1 l2 : Addr} {k1 k2 : Nat} {xs ys : Array Value} {x y a b : Value}
theorem zipB_item {Q : Value → Shared → Prop} (D : ZipApart z TI TO i1 i2 l1 l2) (hz : IsZip s.heap z TI TO .none) (hTI : IsPair s.heap TI (.ref i1) (.ref i2)) (hTO : IsPair s.heap TO a b)
    (h1 : itB t1 s.heap i1 l1 k1) (h2 : itB t2 s.heap i2 l2 k2) (hl1 : sqB t1 s.heap l1 xs) (hl2 : sqB t2 s.heap l2 ys) (hx : xs[k1]? = some x) (hy : ys[k2]? = some y)
    (hQ : ∀ h', IsZip h' z TI TO (rawInt s.heap.objs.size) → IsPair h' TO x y → itB t1 h' i1 l1 (k1 + 1) → itB t2 h' i2 l2 (k2 + 1) → IsPair h' s.heap.objs.size x y → h'.objs.size = s.heap.objs.size + 1 →
      (∀ c o, c ≠ z → c ≠ TO → c ≠ i1 → c ≠ i2 → s.heap.get? c = some o → h'.get? c = some o) → Q (.ref s.heap.objs.size) { s with heap := h' }) :
    wpAny (model prog w) A (Builtin.«zip.__next__» ⟨[.ref z], []⟩) (fun fin s' => ∃ v, fin = .done (.ret v) ∧ Q v s') E s := by
  show wpAny _ _ (field (.ref z) 2 >>= _) _ _ _
  refine wpAny_bind (wpAny_field hz rfl (x := .bool false) rfl ?_)
  show wpAny _ _ (field (.ref z) 3 >>= _) _ _ _
  refine wpAny_bind (wpAny_field hz rfl (x := .ref TI) rfl ?_)
  refine wpAny_bind (wpAny_seqItems hTI rfl ?_)
  show wpAny _ _ (Builtin.SmallTypes.ownedTupleIsFree (.ref z) >>= _) _ _ _
  refine wpAny_bind ?_
  unfold Builtin.SmallTypes.ownedTupleIsFree
  refine wpAny_bind (wpAny_field hz rfl (x := .none) rfl (wpAny_pure ?_))
  simp only [if_true]
  refine wpAny_bind (wpAny_rule ?_)
  refine wpAny_bind (wpAny_field hz rfl (x := .ref TO) rfl ?_)
  refine wpAny_bind (wpAny_setField_rec hz (by simp) fun g1 z1 e1 => ?_)
  replace z1 : IsZip g1 z TI TO .ellipsis := z1
  refine wpAny_bind ?_
  simp only [List.zipIdx_cons, List.zipIdx_nil, List.forIn_cons, List.forIn_nil]
  refine wpAny_bind (wpAny_bind (wpAny_onRaise ?_))
  show wpAny _ _ (Builtin.SmallTypes.nextOf (.ref i1) >>= _) _ _ _
  refine wpAny_bind (nextB_item (itB_ext h1 e1.extBut D.i1z) (sqB_ext hl1 e1.extBut D.l1z) hx fun g2 j1 e2 => wpAny_pure ?_)
  have o2 : IsPair g2 TO a b := e2.extBut _ _ D.TOi1 (e1.extBut _ _ D.TOz hTO)
  refine wpAny_bind (wpAny_seqItems o2 rfl ?_)
  refine wpAny_bind (wpAny_updateSeq_pair o2 fun g3 o3 e3 => ?_)
  replace o3 : IsPair g3 TO x b := o3
  refine wpAny_bind (wpAny_letGo (wpAny_pure ?_))
  refine wpAny_bind (wpAny_bind (wpAny_onRaise ?_))
  show wpAny _ _ (Builtin.SmallTypes.nextOf (.ref i2) >>= _) _ _ _
  refine wpAny_bind (nextB_item (itB_ext (itB_ext (itB_ext h2 e1.extBut D.i2z) e2.extBut D.i12.symm) e3.extBut D.TOi2.symm) (sqB_ext (sqB_ext (sqB_ext hl2 e1.extBut D.l2z) e2.extBut D.l2i1) e3.extBut D.l2TO) hy fun g4 j2 e4 => wpAny_pure ?_)
  have o4 : IsPair g4 TO x b := e4.extBut _ _ D.TOi2 o3
  refine wpAny_bind (wpAny_seqItems o4 rfl ?_)
  refine wpAny_bind (wpAny_updateSeq_pair o4 fun g5 o5 e5 => ?_)
  replace o5 : IsPair g5 TO x y := o5
  refine wpAny_bind (wpAny_letGo (wpAny_pure (wpAny_pure ?_)))
  refine wpAny_bind (wpAny_seqItems o5 rfl ?_)
  refine wpAny_bind (wpAny_newTuple ?_)
  have hsz : g5.objs.size = s.heap.objs.size := by rw [e5.1, e4.1, e3.1, e2.1, e1.1]
  have z5 : IsZip g5 z TI TO .ellipsis := e5.extBut _ _ D.TOz.symm (e4.extBut _ _ D.i2z.symm (e3.extBut _ _ D.TOz.symm (e2.extBut _ _ D.i1z.symm z1)))
  have kp : ∀ c o, c ≠ z → c ≠ TO → c ≠ i1 → c ≠ i2 → s.heap.get? c = some o → g5.get? c = some o := fun c o c1 c2 c3 c4 e =>
    e5.extBut _ _ c2 (e4.extBut _ _ c4 (e3.extBut _ _ c2 (e2.extBut _ _ c3 (e1.extBut _ _ c1 e))))
  have j1' : itB t1 g5 i1 l1 (k1 + 1) := itB_ext (itB_ext (itB_ext j1 e3.extBut D.TOi1.symm) e4.extBut D.i12) e5.extBut D.TOi1.symm
  have j2' : itB t2 g5 i2 l2 (k2 + 1) := itB_ext j2 e5.extBut D.TOi2.symm
  have lz : z < g5.objs.size := Heap.lt_size z5
  show wpAny _ _ (Builtin.SmallTypes.ownedTupleHandOut (.ref z) (.ref g5.objs.size) >>= _) _ _ _
  refine wpAny_bind ?_
  unfold Builtin.SmallTypes.ownedTupleHandOut
  have z6 : IsZip (g5.push { cls := .type "tuple", data := .seq #[x, y] }) z TI TO .ellipsis := Heap.get?_push_of_some _ z5
  refine wpAny_bind (wpAny_setField_rec z6 (by simp) fun g7 z7 e7 => ?_)
  replace z7 : IsZip g7 z TI TO (rawInt g5.objs.size) := z7
  refine wpAny_setField_rec z7 (by simp) fun g8 z8 e8 => ?_
  replace z8 : IsZip g8 z TI TO (rawInt g5.objs.size) := z8
  have up : ∀ c o, c ≠ z → g5.get? c = some o → g8.get? c = some o := fun c o c1 e => e8.extBut _ _ c1 (e7.extBut _ _ c1 (Heap.get?_push_of_some _ e))
  have pT : IsPair g8 g5.objs.size x y := e8.extBut _ _ (Nat.ne_of_gt lz) (e7.extBut _ _ (Nat.ne_of_gt lz) (Heap.get?_push_size _ rfl))
  have s8 : g8.objs.size = g5.objs.size + 1 := by rw [e8.1, e7.1, Heap.size_push]
  rw [hsz] at z8 pT s8
  refine wpAny_pure ⟨_, rfl, ?_⟩
  show Q (.ref g5.objs.size) _
  rw [hsz]
  exact hQ g8 z8 (up _ _ D.TOz o5) (itB_at j1' fun o e => up _ o D.i1z e) (itB_at j2' fun o e => up _ o D.i2z e) pT s8 fun c o c1 c2 c3 c4 e => up c o c1 (kp c o c1 c2 c3 c4 e)
theorem zipB_end {Q : Fin → Shared → Prop} (hh : A.handled = none) (D : ZipApart z TI TO i1 i2 l1 l2) (hz : IsZip s.heap z TI TO .none) (hTI : IsPair s.heap TI (.ref i1) (.ref i2)) (hTO : IsPair s.heap TO a b)
    (h1 : itB t1 s.heap i1 l1 k1) (h2 : itB t2 s.heap i2 l2 k2) (hl1 : sqB t1 s.heap l1 xs) (hl2 : sqB t2 s.heap l2 ys) (hend : xs[k1]? = none ∨ ys[k2]? = none)
    (hE : ∀ h' e, (∀ c o, c ≠ z → c ≠ TO → c ≠ i1 → c ≠ i2 → s.heap.get? c = some o → h'.get? c = some o) → (∃ o, h'.get? e = some o ∧ o.cls = .type "StopIteration") → E (.ref e) { s with heap := h' }) :
    wpAny (model prog w) A (Builtin.«zip.__next__» ⟨[.ref z], []⟩) Q E s := by
  show wpAny _ _ (field (.ref z) 2 >>= _) _ _ _
  refine wpAny_bind (wpAny_field hz rfl (x := .bool false) rfl ?_)
  show wpAny _ _ (field (.ref z) 3 >>= _) _ _ _
  refine wpAny_bind (wpAny_field hz rfl (x := .ref TI) rfl ?_)
  refine wpAny_bind (wpAny_seqItems hTI rfl ?_)
  show wpAny _ _ (Builtin.SmallTypes.ownedTupleIsFree (.ref z) >>= _) _ _ _
  refine wpAny_bind ?_
  unfold Builtin.SmallTypes.ownedTupleIsFree
  refine wpAny_bind (wpAny_field hz rfl (x := .none) rfl (wpAny_pure ?_))
  simp only [if_true]
  refine wpAny_bind (wpAny_rule ?_)
  refine wpAny_bind (wpAny_field hz rfl (x := .ref TO) rfl ?_)
  refine wpAny_bind (wpAny_setField_rec hz (by simp) fun g1 z1 e1 => ?_)
  replace z1 : IsZip g1 z TI TO .ellipsis := z1
  refine wpAny_bind ?_
  simp only [List.zipIdx_cons, List.zipIdx_nil, List.forIn_cons, List.forIn_nil]
  refine wpAny_bind (wpAny_bind (wpAny_onRaise ?_))
  show wpAny _ _ (Builtin.SmallTypes.nextOf (.ref i1) >>= _) _ _ _
  cases hx : xs[k1]? with
  | none =>
    refine wpAny_bind (nextB_end hh (itB_ext h1 e1.extBut D.i1z) (sqB_ext hl1 e1.extBut D.l1z) hx fun g2 e e2 ⟨oe, ho, hc⟩ => ?_)
    have z2 : IsZip g2 z TI TO .ellipsis := e2 _ _ D.i1z.symm z1
    have ne : e ≠ z := fun q => by subst q; rw [z2] at ho; cases ho; simp at hc
    exact wpAny_setField_rec z2 (by simp) fun g3 _ e3 => hE g3 e (fun c o c1 _ c3 _ q => e3.extBut _ _ c1 (e2 _ _ c3 (e1.extBut _ _ c1 q))) ⟨oe, e3.extBut _ _ ne ho, hc⟩
  | some x =>
    have hy : ys[k2]? = none := by rcases hend with h | h; rw [hx] at h; cases h; exact h
    refine wpAny_bind (nextB_item (itB_ext h1 e1.extBut D.i1z) (sqB_ext hl1 e1.extBut D.l1z) hx fun g2 j1 e2 => wpAny_pure ?_)
    have o2 : IsPair g2 TO a b := e2.extBut _ _ D.TOi1 (e1.extBut _ _ D.TOz hTO)
    refine wpAny_bind (wpAny_seqItems o2 rfl ?_)
    refine wpAny_bind (wpAny_updateSeq_pair o2 fun g3 o3 e3 => ?_)
    refine wpAny_bind (wpAny_letGo (wpAny_pure ?_))
    refine wpAny_bind (wpAny_bind (wpAny_onRaise ?_))
    show wpAny _ _ (Builtin.SmallTypes.nextOf (.ref i2) >>= _) _ _ _
    refine wpAny_bind (nextB_end hh (itB_ext (itB_ext (itB_ext h2 e1.extBut D.i2z) e2.extBut D.i12.symm) e3.extBut D.TOi2.symm) (sqB_ext (sqB_ext (sqB_ext hl2 e1.extBut D.l2z) e2.extBut D.l2i1) e3.extBut D.l2TO) hy fun g4 e e4 ⟨oe, ho, hc⟩ => ?_)
    have z4 : IsZip g4 z TI TO .ellipsis := e4 _ _ D.i2z.symm (e3.extBut _ _ D.TOz.symm (e2.extBut _ _ D.i1z.symm z1))
    have ne : e ≠ z := fun q => by subst q; rw [z4] at ho; cases ho; simp at hc
    exact wpAny_setField_rec z4 (by simp) fun g5 _ e5 => hE g5 e (fun c o c1 c2 c3 c4 q => e5.extBut _ _ c1 (e4 _ _ c4 (e3.extBut _ _ c2 (e2.extBut _ _ c3 (e1.extBut _ _ c1 q))))) ⟨oe, e5.extBut _ _ ne ho, hc⟩
theorem pyNext_zipB_item {Q : Option Value → Shared → Prop} (D : ZipApart z TI TO i1 i2 l1 l2) (hz : IsZip s.heap z TI TO .none) (hTI : IsPair s.heap TI (.ref i1) (.ref i2)) (hTO : IsPair s.heap TO a b)
    (h1 : itB t1 s.heap i1 l1 k1) (h2 : itB t2 s.heap i2 l2 k2) (hl1 : sqB t1 s.heap l1 xs) (hl2 : sqB t2 s.heap l2 ys) (hx : xs[k1]? = some x) (hy : ys[k2]? = some y)
    (hQ : ∀ h', IsZip h' z TI TO (rawInt s.heap.objs.size) → IsPair h' TO x y → itB t1 h' i1 l1 (k1 + 1) → itB t2 h' i2 l2 (k2 + 1) → IsPair h' s.heap.objs.size x y → h'.objs.size = s.heap.objs.size + 1 →
      (∀ c o, c ≠ z → c ≠ TO → c ≠ i1 → c ≠ i2 → s.heap.get? c = some o → h'.get? c = some o) → Q (some (.ref s.heap.objs.size)) { s with heap := h' }) :
    wpAny (model prog w) A (pyNext (.ref z)) Q E s := by
  have hT : s.TypeIs (.ref z) "zip" := ⟨_, hz, rfl⟩
  unfold pyNext
  exact wpAny_bind (wpAny_attempt (wpAny_callSpecial?_slot (name := Str.ofString "__next__") hT F.slot_zip_next
    (wpAny_call_entry F.slot_zip_next hT F.entry_zip_next (zipB_item D hz hTI hTO h1 h2 hl1 hl2 hx hy fun h' a1 a2 a3 a4 a5 a6 a7 => wpAny_pure (hQ h' a1 a2 a3 a4 a5 a6 a7)) (F.args_zip_next_1 _))))
theorem pyNext_zipB_end {Q : Option Value → Shared → Prop} (hh : A.handled = none) (D : ZipApart z TI TO i1 i2 l1 l2) (hz : IsZip s.heap z TI TO .none) (hTI : IsPair s.heap TI (.ref i1) (.ref i2)) (hTO : IsPair s.heap TO a b)
    (h1 : itB t1 s.heap i1 l1 k1) (h2 : itB t2 s.heap i2 l2 k2) (hl1 : sqB t1 s.heap l1 xs) (hl2 : sqB t2 s.heap l2 ys) (hend : xs[k1]? = none ∨ ys[k2]? = none)
    (hQ : ∀ h', (∀ c o, c ≠ z → c ≠ TO → c ≠ i1 → c ≠ i2 → s.heap.get? c = some o → h'.get? c = some o) → Q none { s with heap := h' }) : wpAny (model prog w) A (pyNext (.ref z)) Q E s := by
  have hT : s.TypeIs (.ref z) "zip" := ⟨_, hz, rfl⟩
  unfold pyNext
  refine wpAny_bind (wpAny_attempt (wpAny_callSpecial?_slot (name := Str.ofString "__next__") hT F.slot_zip_next
    (wpAny_call_entry F.slot_zip_next hT F.entry_zip_next (zipB_end hh D hz hTI hTO h1 h2 hl1 hl2 hend fun h' e hk ⟨o, ho, hc⟩ => ?_) (F.args_zip_next_1 _))))
  exact wpAny_bind (wpAny_isInstance (T := "StopIteration") (b := true) ⟨o, ho, hc⟩ isSubtype_stop (wpAny_pure (hQ _ hk)))
end
abbrev zh1 (c1 : String) (h : Heap) (l1 : Addr) : Heap := h.push { cls := .type c1, data := .fields #[.ref l1, .int 0 0] }
abbrev zh2 (c1 c2 : String) (h : Heap) (l1 l2 : Addr) : Heap := (zh1 c1 h l1).push { cls := .type c2, data := .fields #[.ref l2, .int 0 0] }
abbrev zh3 (c1 c2 : String) (h : Heap) (l1 l2 : Addr) : Heap := (zh2 c1 c2 h l1 l2).push { cls := .type "tuple", data := .seq #[.ref h.objs.size, .ref (zh1 c1 h l1).objs.size] }
abbrev zh4 (c1 c2 : String) (h : Heap) (l1 l2 : Addr) : Heap := (zh3 c1 c2 h l1 l2).push { cls := .type "tuple", data := .seq #[.none, .none] }
abbrev zh5 (c1 c2 : String) (h : Heap) (l1 l2 : Addr) : Heap := (zh4 c1 c2 h l1 l2).push { cls := .type "zip", data := .fields #[.none, .bool false, .bool false, .ref (zh2 c1 c2 h l1 l2).objs.size, .ref (zh3 c1 c2 h l1 l2).objs.size] }
theorem meets_tl (l1 l2 : Addr) (xs ys : Array Value) :
    Meets (Builtin.«zip.__new__» ⟨[.type "zip", .ref l1, .ref l2], []⟩) (fun _ R s => s.heap.IsTuple l1 xs ∧ s.heap.IsList l2 ys ∧
      R (.ok (.ret (.ref (zh4 "tuple_iterator" "list_iterator" s.heap l1 l2).objs.size))) { s with heap := zh5 "tuple_iterator" "list_iterator" s.heap l1 l2 }) :=
  .of_wp fun prog w A R s h => by
    obtain ⟨hp, g, d, tk, os⟩ := s; obtain ⟨hl1, hl2, h⟩ := h
    have hsub := sub_zip
    have hL1 : Heap.IsTuple (Shared.heap ⟨hp, g, d, tk, os⟩) l1 xs := hl1
    have hL2 : Heap.IsList (Shared.heap ⟨hp.push { cls := .type "tuple_iterator", data := .fields #[.ref l1, .int 0 0] }, g, d, tk, os⟩) l2 ys := Heap.IsList.push hl2 _
    wp_walk using wpAny_pyIter_tuple hL1, wpAny_pyIter_list hL2
    exact ⟨_, rfl, h⟩
theorem meets_lt (l1 l2 : Addr) (xs ys : Array Value) :
    Meets (Builtin.«zip.__new__» ⟨[.type "zip", .ref l1, .ref l2], []⟩) (fun _ R s => s.heap.IsList l1 xs ∧ s.heap.IsTuple l2 ys ∧
      R (.ok (.ret (.ref (zh4 "list_iterator" "tuple_iterator" s.heap l1 l2).objs.size))) { s with heap := zh5 "list_iterator" "tuple_iterator" s.heap l1 l2 }) :=
  .of_wp fun prog w A R s h => by
    obtain ⟨hp, g, d, tk, os⟩ := s; obtain ⟨hl1, hl2, h⟩ := h
    have hsub := sub_zip
    have hL1 : Heap.IsList (Shared.heap ⟨hp, g, d, tk, os⟩) l1 xs := hl1
    have hL2 : Heap.IsTuple (Shared.heap ⟨hp.push { cls := .type "list_iterator", data := .fields #[.ref l1, .int 0 0] }, g, d, tk, os⟩) l2 ys := Heap.IsTuple.push hl2 _
    wp_walk using wpAny_pyIter_list hL1, wpAny_pyIter_tuple hL2
    exact ⟨_, rfl, h⟩
section
variable {prog : Program} {w : World} {A : Around} {E : Value → Shared → Prop} {s : Shared} {t1 t2 : Bool}
/-- what stands behind the making -/
def ZMade (t1 t2 : Bool) (h : Heap) (l1 l2 : Addr) (h' : Heap) : Prop := IsZip h' (h.objs.size + 4) (h.objs.size + 2) (h.objs.size + 3) .none ∧ IsPair h' (h.objs.size + 2) (.ref h.objs.size) (.ref (h.objs.size + 1)) ∧
  IsPair h' (h.objs.size + 3) .none .none ∧ itB t1 h' h.objs.size l1 0 ∧ itB t2 h' (h.objs.size + 1) l2 0 ∧ ∀ c o, h.get? c = some o → h'.get? c = some o
theorem made_zh {c1 c2 : String} {h : Heap} {l1 l2 : Addr} : IsZip (zh5 c1 c2 h l1 l2) (h.objs.size + 4) (h.objs.size + 2) (h.objs.size + 3) .none ∧ IsPair (zh5 c1 c2 h l1 l2) (h.objs.size + 2) (.ref h.objs.size) (.ref (h.objs.size + 1)) ∧
  IsPair (zh5 c1 c2 h l1 l2) (h.objs.size + 3) .none .none ∧ (zh5 c1 c2 h l1 l2).get? h.objs.size = some { cls := .type c1, data := .fields #[.ref l1, .int 0 0] } ∧ (zh5 c1 c2 h l1 l2).get? (h.objs.size + 1) = some { cls := .type c2, data := .fields #[.ref l2, .int 0 0] } ∧
  (zh4 c1 c2 h l1 l2).objs.size = h.objs.size + 4 ∧ ∀ c o, h.get? c = some o → (zh5 c1 c2 h l1 l2).get? c = some o := by
  have z1 : (zh1 c1 h l1).objs.size = h.objs.size + 1 := Heap.size_push ..
  have z2 : (zh2 c1 c2 h l1 l2).objs.size = h.objs.size + 2 := by rw [Heap.size_push, z1]
  have z3 : (zh3 c1 c2 h l1 l2).objs.size = h.objs.size + 3 := by rw [Heap.size_push, z2]
  have z4 : (zh4 c1 c2 h l1 l2).objs.size = h.objs.size + 4 := by rw [Heap.size_push, z3]
  have up : ∀ {g : Heap} {o o' : Obj} {a : Addr}, g.get? a = some o → (g.push o').get? a = some o := fun e => Heap.get?_push_of_some _ e
  have g5 : (zh5 c1 c2 h l1 l2).get? (zh4 c1 c2 h l1 l2).objs.size = some _ := Heap.get?_push_size _ rfl
  have g4 : (zh5 c1 c2 h l1 l2).get? (zh3 c1 c2 h l1 l2).objs.size = some _ := up (Heap.get?_push_size _ rfl)
  have g3 : (zh5 c1 c2 h l1 l2).get? (zh2 c1 c2 h l1 l2).objs.size = some _ := up (up (Heap.get?_push_size _ rfl))
  have g2 : (zh5 c1 c2 h l1 l2).get? (zh1 c1 h l1).objs.size = some _ := up (up (up (Heap.get?_push_size _ rfl)))
  have g1 : (zh5 c1 c2 h l1 l2).get? h.objs.size = some _ := up (up (up (up (Heap.get?_push_size _ rfl))))
  rw [z2, z3, z4] at g5
  rw [z1, z2] at g3
  rw [z3] at g4
  rw [z1] at g2
  exact ⟨g5, g3, g4, g1, g2, z4, fun c o x => up (up (up (up (up x))))⟩
theorem call_zipB {l1 l2 : Addr} {xs ys : Array Value} {Q : Value → Shared → Prop} (hl1 : sqB t1 s.heap l1 xs) (hl2 : sqB t2 s.heap l2 ys)
    (h : ∀ h', ZMade t1 t2 s.heap l1 l2 h' → Q (.ref (s.heap.objs.size + 4)) { s with heap := h' }) : wpAny (model prog w) A (call (.type "zip") [.ref l1, .ref l2]) Q E s := by
  cases t1 <;> cases t2
  · exact RZ.call_zipT (show s.heap.IsTuple l1 xs from hl1) (show s.heap.IsTuple l2 ys from hl2) fun h' a b c d e _ k => h h' ⟨a, b, c, d, e, k⟩
  · refine callType_new F.called_zip (by decide) (F.typeCall_zip_2 _ _) (F.newCall_zip_2 _ _) (fun obj => F.args_object_init_3 obj _ _) F.entry_zip_new (meets_tl l1 l2 xs ys) ⟨hl1, hl2, ?_⟩
    obtain ⟨a, b, c, d, e, z, k⟩ := made_zh (c1 := "tuple_iterator") (c2 := "list_iterator") (h := s.heap) (l1 := l1) (l2 := l2)
    show _ ∧ _
    rw [z]
    exact ⟨⟨_, a, rfl⟩, h _ ⟨a, b, c, ⟨_, d, rfl, rfl⟩, ⟨_, e, rfl, rfl⟩, k⟩⟩
  · refine callType_new F.called_zip (by decide) (F.typeCall_zip_2 _ _) (F.newCall_zip_2 _ _) (fun obj => F.args_object_init_3 obj _ _) F.entry_zip_new (meets_lt l1 l2 xs ys) ⟨hl1, hl2, ?_⟩
    obtain ⟨a, b, c, d, e, z, k⟩ := made_zh (c1 := "list_iterator") (c2 := "tuple_iterator") (h := s.heap) (l1 := l1) (l2 := l2)
    show _ ∧ _
    rw [z]
    exact ⟨⟨_, a, rfl⟩, h _ ⟨a, b, c, ⟨_, d, rfl, rfl⟩, ⟨_, e, rfl, rfl⟩, k⟩⟩
  · exact call_zip_2 (show s.heap.IsList l1 xs from hl1) (show s.heap.IsList l2 ys from hl2) fun h' a b c d e _ k => h h' ⟨a, b, c, d, e, k⟩
end
/-- tracked -/
def SqB (t : Bool) (K : PySem.W.Frag) (H : Hp) (a : Addr) (xs : List V) : Prop := if t then SqL K H a xs else SqT K H a xs
section
variable {X : Cx} {pins : List (Addr × Obj)} {σ : L2.St} {H : Hp} {s : Shared} {a : Addr} {xs ys : List V} {t : Bool}
theorem SqB.at (I : Inv X pins σ H s) (h : SqB t X.K H a xs) : ∃ its : List Value, Vals xs its ∧ sqB t s.heap a its.toArray ∧ a < s.heap.objs.size := by
  cases t
  · obtain ⟨its, r, p, _⟩ := I.tuple (show SqT X.K H a xs from h)
    obtain ⟨o, e, _⟩ := id p
    exact ⟨its, r, p, Heap.lt_size e⟩
  · obtain ⟨its, r, p, _⟩ := I.list (show SqL X.K H a xs from h)
    exact ⟨its, r, p.isList, p.lt⟩
theorem SqB.inj (I : Inv X pins σ H s) (h : SqB t X.K H a xs) (h' : SqB t X.K H a ys) : xs = ys := by
  cases t
  · exact I.tuple_inj h h'
  · exact I.list_inj h h'
end
def ItzB (t1 t2 : Bool) (K : PySem.W.Frag) (a b : Addr) : It :=
  ⟨fun i H => ∃ (xs ys : List V) (x y : V), SqB t1 K H a xs ∧ SqB t2 K H b ys ∧ xs[i]? = some x ∧ ys[i]? = some y,
    fun i H v H' => ∃ T x y, v = .ref T ∧ H T = none ∧ H' = upd H T (.tup [x, y]) ∧ (∀ xs, SqB t1 K H a xs → xs[i]? = some x) ∧ ∀ ys, SqB t2 K H b ys → ys[i]? = some y,
    fun i H => ∃ xs ys : List V, SqB t1 K H a xs ∧ SqB t2 K H b ys ∧ (xs.length ≤ i ∨ ys.length ≤ i)⟩
theorem turn_zipB {t1 t2 : Bool} {P : Program} {w : World} {K : PySem.W.Frag} {elts : List Expr} {kk : Nat} {tpos : Pos} {a b z TI TO i1 i2 : Addr} (D : ZipApart z TI TO i1 i2 a b) :
    Turn P w K (.Tuple elts kk tpos) (ItzB t1 t2 K a b) [z, TI, TO, i1, i2] z (fun i h => IsZip h z TI TO .none ∧ IsPair h TI (.ref i1) (.ref i2) ∧ (∃ x y, IsPair h TO x y) ∧ itB t1 h i1 a i ∧ itB t2 h i2 b i) where
  mem := by simp
  obj := fun i h st c hc => by
    obtain ⟨hz, hTI, ⟨x, y, hTO⟩, h1, h2⟩ := st
    obtain ⟨o1, e1, d1⟩ := itB_obj h1
    obtain ⟨o2, e2, d2⟩ := itB_obj h2
    have e' : c = z ∨ c = TI ∨ c = TO ∨ c = i1 ∨ c = i2 := by simpa using hc
    rcases e' with q | q | q | q | q <;> subst q
    · exact ⟨_, hz, fun v q => nomatch q⟩
    · exact ⟨_, hTI, fun v q => nomatch q⟩
    · exact ⟨_, hTO, fun v q => nomatch q⟩
    · exact ⟨o1, e1, fun v q => by rw [d1] at q; cases q⟩
    · exact ⟨o2, e2, fun v q => by rw [d2] at q; cases q⟩
  keep := fun i h h' ⟨hz, hTI, ⟨x, y, hTO⟩, h1, h2⟩ k => ⟨k z (by simp) _ hz, k TI (by simp) _ hTI, ⟨x, y, k TO (by simp) _ hTO⟩, itB_at h1 fun o q => k i1 (by simp) o q, itB_at h2 fun o q => k i2 (by simp) o q⟩
  item := by
    intro X hP hw hK hc i pins s σ H E I hf st hg
    subst hP hw hK
    obtain ⟨hz, hTI, ⟨x0, y0, hTO⟩, h1, h2⟩ := st
    obtain ⟨xs, ys, x, y, hqx, hqy, hx, hy⟩ := hg
    obtain ⟨its, rv, p, _⟩ := hqx.at I
    obtain ⟨its2, rv2, p2, _⟩ := hqy.at I
    obtain ⟨u, hu, ru⟩ := rv.get hx
    obtain ⟨u2, hu2, ru2⟩ := rv2.get hy
    have hzl : z < s.heap.objs.size := Heap.lt_size hz
    refine pyNext_zipB_item D hz hTI hTO h1 h2 p p2 (x := u) (y := u2) (by simpa using hu) (by simpa using hu2) fun h' z' TO' h1' h2' hT hsz hk => ⟨_, rfl, wpAny_letOwnedTupleGo_zip (s := { s with heap := h' }) z' fun h'' z'' sb => ?_⟩
    have hT2 : h''.get? s.heap.objs.size = some { cls := .type "tuple", data := .seq #[u, u2] } := (sb.2 _ (Nat.ne_of_gt hzl)).trans hT
    have new : ObjOk X.prog X.w (upd H s.heap.objs.size (.tup [x, y])) h'' s.heap.objs.size (.tup [x, y]) := ⟨by show 2 ≤ sizeLine; decide, [u, u2], .cons ru (.cons ru2 .nil), ⟨_, hT2, rfl, _, rfl⟩⟩
    have I1 : Inv X pins σ (upd H s.heap.objs.size (.tup [x, y])) { s with heap := h'' } :=
      I.turnedNew (t' := s.toks) (ch := [z, TI, TO, i1, i2]) (fun c o hb q => (sb.2 c (fun q' => hb (by simp [q']))).trans (hk c o (fun q' => hb (by simp [q'])) (fun q' => hb (by simp [q'])) (fun q' => hb (by simp [q'])) (fun q' => hb (by simp [q'])) q)) hf (Nat.le_refl _) new
    refine ⟨.ref s.heap.objs.size, _, I1, rfl, ⟨_, x, y, rfl, I.hok.fresh (Nat.le_refl _), rfl, fun l hl => by rw [hl.inj I hqx]; exact hx, fun l hl => by rw [hl.inj I hqy]; exact hy⟩, ⟨z'', ?_, ⟨u, u2, ?_⟩, ?_, ?_⟩, fun c hcm => ?_⟩
    · exact (sb.2 _ D.TIz).trans (hk _ _ D.TIz D.TITO D.TIi1 D.TIi2 hTI)
    · exact (sb.2 _ D.TOz).trans TO'
    · exact itB_at h1' fun o q => (sb.2 _ D.i1z).trans q
    · exact itB_at h2' fun o q => (sb.2 _ D.i2z).trans q
    · have hlt : c < s.heap.objs.size := by
        obtain ⟨o1, e1, _⟩ := itB_obj h1
        obtain ⟨o2, e2, _⟩ := itB_obj h2
        have e' : c = z ∨ c = TI ∨ c = TO ∨ c = i1 ∨ c = i2 := by simpa using hcm
        rcases e' with q | q | q | q | q <;> subst q
        · exact hzl
        · exact Heap.lt_size hTI
        · exact Heap.lt_size hTO
        · exact Heap.lt_size e1
        · exact Heap.lt_size e2
      rw [upd_ne (Nat.ne_of_lt hlt)]
      exact (hf c hcm).1
  done := by
    intro X hP hw hK hc i pins s σ H E I hf st hg
    subst hP hw hK
    obtain ⟨hz, hTI, ⟨x0, y0, hTO⟩, h1, h2⟩ := st
    obtain ⟨xs, ys, hqx, hqy, hend⟩ := hg
    obtain ⟨its, rv, p, _⟩ := hqx.at I
    obtain ⟨its2, rv2, p2, _⟩ := hqy.at I
    have n1 := rv.length
    have n2 := rv2.length
    have he : its.toArray[i]? = none ∨ its2.toArray[i]? = none := by
      rcases hend with q | q
      · exact .inl (by simp; omega)
      · exact .inr (by simp; omega)
    exact pyNext_zipB_end (I.ok.hd hc) D hz hTI hTO h1 h2 p p2 he fun h' hk => ⟨rfl, I.turnedL (t' := s.toks) (ch := [z, TI, TO, i1, i2]) (fun c o hb q =>
      hk c o (fun q' => hb (by simp [q'])) (fun q' => hb (by simp [q'])) (fun q' => hb (by simp [q'])) (fun q' => hb (by simp [q'])) q) hf⟩
  self := fun A i s Q E st h => wpAny_pyIter_zip st.1 h
def iZipB (K : PySem.W.Frag) (ta : TA) : TI := fun σ H R => ta σ H fun vs H1 => ∃ t1 t2 a b xs ys, vs = [.ref a, .ref b] ∧ SqB t1 K H1 a xs ∧ SqB t2 K H1 b ys ∧ R (ItzB t1 t2 K a b) H1
theorem pi_zipB {X : Cx} {e e2 : Expr} {ta : TA} {p pos tpos : Pos} {elts : List Expr} {kk : Nat} (hg : Gl X "zip") (hm : X.mg "zip" = none) (ha : PA X [e, e2] ta)
    (hs : starEach [e, e2] X.env = (false, eval e X.env) :: starEach [e2] X.env) (hpl : (backTo pos (starEach [e2] X.env)).any (·.1) = false) :
    PI X (.Tuple elts kk tpos) (.Call (.Name "zip" p) [e, e2] [] pos) (iZipB X.K ta) := by
  refine ⟨fun pins s σ H R I h => Call_ (ld_blt I hg hm PyProof.Rows.boot_zip (PyProof.Rows.callWith_type1 (thn (ha.run pos pins s σ H _ I h) fun us s1 ⟨vs, H1, I1, r1, q1⟩ => ?_) hs hpl))⟩
  obtain ⟨t1, t2, a, b, xs, ys, ex, hqx, hqy, q⟩ := q1
  subst ex
  cases r1 with
  | cons r rr =>
    cases rr with
    | cons r' rr =>
      cases rr
      cases r
      cases r'
      obtain ⟨its, rv, p1, l1⟩ := hqx.at I1
      obtain ⟨its2, rv2, p2, l2⟩ := hqy.at I1
      refine call_zipB p1 p2 fun h' ⟨hz, hTI, hTO, h1, h2, hk⟩ => wpAny_pyIter_zip hz ?_
      have I2 : Inv X pins σ H1 { s1 with heap := h' } := I1.kept (t' := s1.toks) hk
      refine ⟨s1.heap.objs.size + 4, [s1.heap.objs.size + 4, s1.heap.objs.size + 2, s1.heap.objs.size + 3, s1.heap.objs.size, s1.heap.objs.size + 1], _, _, H1, rfl, I2, turn_zipB (PySem.W.ktu_apart s1.heap.objs.size a b l1 l2), ⟨hz, hTI, ⟨_, _, hTO⟩, h1, h2⟩, fun c hcm => ?_, q⟩
      have hle : s1.heap.objs.size ≤ c := by
        simp only [List.mem_cons, List.mem_nil_iff, or_false] at hcm
        rcases hcm with z | z | z | z | z <;> rw [z] <;> first | exact Nat.le_add_right _ _ | exact Nat.le_refl _
      exact I1.fpOk hle (I1.hok.fresh hle)
end MP
/-! MP5 -/
set_option Elab.async false
set_option linter.all false
set_option maxRecDepth 100000
set_option maxHeartbeats 1000000
/-! MP5: built-ins by values; what a loop walks. -/
namespace MP
open PySem PySem.Spec PyProof.Rows L2
section
variable {X : Cx} {Γ : Env1} {g : Gh} {H : Hp} {μ : List O}
/-! ### isinstance -/
/-- the type of a plain value -/
def tyD : D → Option String
  | .non => some "NoneType" | .bl _ => some "bool" | .int _ => some "int" | .str _ => some "str" | .tup _ => some "tuple" | .lst _ => some "list"
  | _ => none
theorem tyD_at {d : D} {v : V} {t : String} (e : tyD d = some t) (F : Same g.F H) (r : Rp Γ g d v) : TyX Γ.K H v (.type t) := by
  cases d with
  | non => cases e; simp only [Rp] at r; subst r; exact .base .non
  | bl b => cases e; simp only [Rp] at r; subst r; exact .base (.bl _)
  | int b => cases e; simp only [Rp] at r; subst r; exact .base (.int _)
  | str b => cases e; simp only [Rp] at r; subst r; exact .base (.str _)
  | tup l =>
    cases e
    simp only [Rp] at r
    obtain ⟨a, vs, rfl, s, _⟩ := r
    rcases s with (s | ⟨o, s⟩) | ⟨o, its, n, h1, h2, _⟩
    · exact .base (.tup (F _ _ s))
    · exact .fTuple (F _ _ s)
    · exact .kTuple h1 h2
  | lst l =>
    cases e
    simp only [Rp] at r
    obtain ⟨a, vs, rfl, s, _⟩ := r
    exact .base (.lst (F _ _ s))
  | _ => cases e
def isCls : Bi → Option String
  | .isLst => some "list" | .isTup => some "tuple" | .isBool => some "bool" | .isStr => some "str" | .isInt => some "int"
  | _ => none
theorem kit_all : (["NoneType", "bool", "int", "str", "tuple", "list"].all fun t => ["list", "tuple", "bool", "str", "int"].all fun c => kitB t c == some (decide (t = c) || (decide (t = "bool") && decide (c = "int")))) = true := by decide +kernel
theorem kit_at {t c : String} (ht : t ∈ ["NoneType", "bool", "int", "str", "tuple", "list"]) (hc : c ∈ ["list", "tuple", "bool", "str", "int"]) : kitB t c = some (decide (t = c) || (decide (t = "bool") && decide (c = "int"))) := by
  have h := List.all_eq_true.mp (List.all_eq_true.mp kit_all t ht) c hc
  exact eq_of_beq h
theorem tyD_mem {d : D} {t : String} (e : tyD d = some t) : t ∈ ["NoneType", "bool", "int", "str", "tuple", "list"] := by
  cases d <;> cases e <;> decide
theorem isCls_mem {b : Bi} {c : String} (e : isCls b = some c) : c ∈ ["list", "tuple", "bool", "str", "int"] := by
  cases b <;> cases e <;> decide
theorem is_val {b : Bi} {c : String} (hb : isCls b = some c) {d : D} {o : O} (e : biD b [d] = some o) : ∃ t, tyD d = some t ∧ o = .sh (.bl (decide (t = c) || (decide (t = "bool") && decide (c = "int")))) := by
  cases b <;> cases hb <;> cases d <;> simp only [biD] at e <;> cases e <;> exact ⟨_, rfl, by simp <;> decide⟩
theorem isSeq_val {d : D} {o : O} (e : biD .isSeq [d] = some o) : ∃ t, tyD d = some t ∧ o = .sh (.bl (decide (t = "list") || decide (t = "tuple"))) := by
  cases d <;> simp only [biD] at e <;> cases e <;> exact ⟨_, rfl, by simp <;> decide⟩
/-! ### the plain ones -/
/-- a built-in function or class by its name -/
def biName : Bi → Option (Str × Value)
  | .len => some ("len", .builtin "len")
  | .list => some ("list", .type "list")
  | .tuple => some ("tuple", .type "tuple")
  | .sum => some ("sum", .builtin "sum")
  | .min1 => some ("min", .builtin "min")
  | .min2 => some ("min", .builtin "min")
  | .max2 => some ("max", .builtin "max")
  | .all => some ("all", .builtin "all")
  | .any => some ("any", .builtin "any")
  | .int1 => some ("int", .type "int")
  | .dict1 => some ("dict", .type "dict")
  | _ => none
def rBi (X : Cx) (K : PySem.W.Frag) : Bi → List V → Hp → VK → Prop
  | .len => fun xs H Q => (∃ p ys, xs = [.ref p] ∧ (SqL K H p ys ∨ SqT K H p ys) ∧ Q (.int ys.length) H) ∨ (∃ z, xs = [.str z] ∧ z.length ≤ sizeLine ∧ Q (.int z.length) H) ∨ ∃ a ys, xs = [.ref a] ∧ NdAt X H a ys ∧ Q (.int ys.length) H
  | .list => fun xs H Q => (∃ p ys, xs = [.ref p] ∧ (SqL K H p ys ∨ SqT K H p ys) ∧ ∀ l, H l = none → Q (.ref l) (upd H l (.lst ys))) ∨ ∃ a ys, xs = [.ref a] ∧ NdAt X H a ys ∧ ∀ l, H l = none → Q (.ref l) (upd H l (.lst (ys.map fun y => .ref y.2.1)))
  | .tuple => fun xs H Q => ∃ p ys, xs = [.ref p] ∧ ((SqL K H p ys ∧ ∀ l, H l = none → Q (.ref l) (upd H l (.tup ys))) ∨ (SqT K H p ys ∧ Q (.ref p) H))
  | .sum => rSum K
  | .min1 => fun xs H Q => rMin K xs H Q ∨ rMinL K xs H Q
  | .min2 => fun xs H Q => ∃ i j, xs = [.int i, .int j] ∧ Q (.int (if j < i then j else i)) H
  | .max2 => fun xs H Q => ∃ i j, xs = [.int i, .int j] ∧ Q (.int (if j > i then j else i)) H
  | .all => rAll K
  | .any => rAny K
  | .int1 => fun xs H Q => (∃ i, xs = [.int i] ∧ Q (.int i) H) ∨ ∃ k, xs = [.bl k] ∧ Q (.int (if k then 1 else 0)) H
  | .dict1 => rDictN X
  | _ => fun _ _ _ => False
theorem bi_rule {X : Cx} (hc : X.calm = true) (hu : X.A.units + 65 < cLine) {b : Bi} {n : Str} {f : Value} (e : biName b = some (n, f)) : CallR X f (rBi X X.K b) := by
  cases b <;> cases e
  · exact call_len_seq.or (call_len_str.or call_len_nd)
  · exact call_list_of.or (call_list_nd hc)
  · exact call_tuple_of
  · exact cr_sum hc
  · exact (cr_min hc).or (cr_minL hc hu)
  · exact call_min2 hc
  · exact call_max2 hc
  · exact cr_all hc
  · exact cr_any hc
  · exact call_int1
  · exact call_dictN hc hu
theorem bi_boot {b : Bi} {n : Str} {f : Value} (e : biName b = some (n, f)) : bootBuiltins n = some f := by
  cases b <;> cases e <;> decide +kernel
theorem bi_kind {b : Bi} {n : Str} {f : Value} (e : biName b = some (n, f)) : (∃ id, f = .builtin id) ∨ ∃ T, f = .type T := by
  cases b <;> cases e <;> first | exact .inl ⟨_, rfl⟩ | exact .inr ⟨_, rfl⟩
theorem rps1 {d : D} {vs : List V} (h : Rps Γ g [d] vs) : ∃ v, vs = [v] ∧ Rp Γ g d v := by
  simp only [Rps] at h
  obtain ⟨v, vs', rfl, r, rfl⟩ := h
  exact ⟨v, rfl, r⟩
theorem rps2 {d e : D} {vs : List V} (h : Rps Γ g [d, e] vs) : ∃ v u, vs = [v, u] ∧ Rp Γ g d v ∧ Rp Γ g e u := by
  simp only [Rps] at h
  obtain ⟨v, vs', rfl, r, u, vs'', rfl, r', rfl⟩ := h
  exact ⟨v, u, rfl, r, r'⟩
theorem rp_seq {l : List D} {v : V} {d : D} (hd : d = .lst l ∨ d = .tup l) (F : Same g.F H) (r : Rp Γ g d v) : ∃ a vs, v = .ref a ∧ (SqL Γ.K H a vs ∨ SqT Γ.K H a vs) ∧ Rps Γ g l vs := by
  rcases hd with rfl | rfl
  · simp only [Rp] at r
    obtain ⟨a, vs, rfl, s, q⟩ := r
    exact ⟨a, vs, rfl, .inl (SqL.of (F _ _ s)), q⟩
  · simp only [Rp] at r
    obtain ⟨a, vs, rfl, s, q⟩ := r
    exact ⟨a, vs, rfl, .inr (sqT_le F s), q⟩
theorem nkeys_len : ∀ l : List D, (nkeys l).length = l.length
  | [] => rfl
  | a :: l => by simp [nkeys, nkeys_len l]
theorem foldl_min : ∀ (ns : List Int) (n : Int), ns.foldl min n ≤ n ∧ (∀ y ∈ ns, ns.foldl min n ≤ y) ∧ ns.foldl min n ∈ n :: ns
  | [], n => by simp
  | a :: ns, n => by
    obtain ⟨h1, h2, h3⟩ := foldl_min ns (min n a)
    simp only [List.foldl_cons]
    refine ⟨by omega, fun y hy => ?_, ?_⟩
    · rcases List.mem_cons.mp hy with rfl | hy
      · omega
      · exact h2 y hy
    · rcases List.mem_cons.mp h3 with h | h
      · rw [h]
        rcases (by omega : min n a = n ∨ min n a = a) with q | q <;> rw [q] <;> simp
      · simp [h]
theorem min_of {n m : Int} {ns : List Int} (hm : m ∈ n :: ns) (h : ∀ y, y ∈ n :: ns → m ≤ y) : m = ns.foldl min n := by
  obtain ⟨h1, h2, h3⟩ := foldl_min ns n
  have k1 := h _ h3
  rcases List.mem_cons.mp hm with rfl | hm
  · omega
  · have := h2 m hm
    omega
/-- no dict among the arguments -/
theorem ints_dp {H : Hp} {K : PySem.W.Frag} : ∀ ns : List Int, DpAll K H (ns.map V.int) (ns.map PyData.int)
  | [] => .nil
  | n :: ns => .cons (.int n) (ints_dp ns)
theorem allInt_eq : ∀ (l : List D) (ns : List Int), allInt l = some ns → l = ns.map D.int
  | [], ns, e => by
    simp only [allInt] at e
    cases e
    rfl
  | d :: l, ns, e => by
    cases d <;> simp only [allInt] at e <;> first | (cases e; done) | skip
    obtain ⟨ms, e1, rfl⟩ := Option.map_eq_some_iff.mp e
    rw [allInt_eq l ms e1]
    rfl
theorem rows_cons {d : D} {ds : List D} {rows : List (List Int)} (e : allRows (d :: ds) = some rows) : ∃ l ns rs, d = .lst l ∧ allInt l = some ns ∧ allRows ds = some rs ∧ rows = ns :: rs := by
  cases d <;> simp only [allRows] at e <;> first | (cases e; done) | skip
  split at e
  · rename_i ns rs e1 e2
    cases e
    exact ⟨_, ns, rs, rfl, e1, e2, rfl⟩
  · cases e
theorem rows_dp (F : Same g.F H) : ∀ (ds : List D) (vs : List V) (rows : List (List Int)), allRows ds = some rows → Rps Γ g ds vs → DpAll Γ.K H vs (rows.map rowD)
  | [], vs, rows, e, q => by
    simp only [allRows] at e
    cases e
    simp only [Rps] at q
    subst q
    exact .nil
  | d :: ds, vs, rows, e, q => by
    obtain ⟨l, ns, rs, rfl, e1, e2, rfl⟩ := rows_cons e
    simp only [Rps] at q
    obtain ⟨v, vs', rfl, r, q⟩ := q
    simp only [Rp] at r
    obtain ⟨a, xs, rfl, s, r⟩ := r
    rw [r.ints e1] at s
    exact .cons (.lst (SqL.of (F _ _ s)) (ints_dp ns)) (rows_dp F ds vs' rs e2 q)
theorem rows_at : ∀ (ds : List D) (vs : List V) (rows : List (List Int)), allRows ds = some rows → Rps Γ g ds vs → ∀ (i : Nat) (v : V) (r : List Int), vs[i]? = some v → rows[i]? = some r → Rp Γ g (.lst (r.map .int)) v
  | [], vs, rows, e, q, i, v, r, hv, hr => by
    simp only [allRows] at e
    cases e
    simp at hr
  | d :: ds, vs, rows, e, q, i, v, r, hv, hr => by
    obtain ⟨l, ns, rs, rfl, e1, e2, rfl⟩ := rows_cons e
    simp only [Rps] at q
    obtain ⟨v0, vs', rfl, r0, q⟩ := q
    cases i with
    | zero =>
      simp at hv hr
      subst hv hr
      have : l = ns.map D.int := allInt_eq l ns e1
      rw [← this]
      exact r0
    | succ i => exact rows_at ds vs' rs e2 q i v r (by simpa using hv) (by simpa using hr)
theorem pairs_cons {d : D} {ds : List D} {ps : List (D × D)} (e : allPairs (d :: ds) = some ps) : ∃ k v ps', d = .tup [k, v] ∧ allPairs ds = some ps' ∧ ps = (k, v) :: ps' := by
  unfold allPairs at e
  split at e
  · cases ‹d :: ds = []›
  · rename_i k v r e1
    cases e1
    obtain ⟨ps', e2, rfl⟩ := Option.map_eq_some_iff.mp e
    exact ⟨k, v, ps', rfl, e2, rfl⟩
  · cases e
theorem pairs_rp (F : Same g.F H) : ∀ (ds : List D) (ps : List (D × D)) (vs : List V), allPairs ds = some ps → (ps.all fun p => isKey true p.1) = true → Rps (gm X) g ds vs →
    ∃ (ts : List Addr) (xs : List (NestedKey × Addr × V)), vs = ts.map V.ref ∧ Paired (fun t (x : NestedKey × Addr × V) => SqT X.K H t [.ref x.2.1, x.2.2] ∧ KeyAt X H x.1 (.ref x.2.1)) ts xs ∧ Paired (fun (p : D × D) (x : NestedKey × Addr × V) => x.1 = nkey p.1 ∧ isKey true p.1 = true ∧ Rp (gm X) g p.1 (.ref x.2.1) ∧ Rp (gm X) g p.2 x.2.2) ps xs
  | [], ps, vs, e, ha, q => by
    simp only [allPairs] at e
    cases e
    simp only [Rps] at q
    subst q
    exact ⟨[], [], rfl, .nil, .nil⟩
  | d :: ds, ps, vs, e, ha, q => by
    obtain ⟨k, v, ps', rfl, e2, rfl⟩ := pairs_cons e
    simp only [List.all_cons, Bool.and_eq_true] at ha
    simp only [Rps] at q
    obtain ⟨w, ws, rfl, r, q⟩ := q
    obtain ⟨ts, xs, rfl, h1, h2⟩ := pairs_rp F ds ps' ws e2 ha.2 q
    simp only [Rp] at r
    obtain ⟨t, us, rfl, s, r⟩ := r
    simp only [Rps] at r
    obtain ⟨vk, _, rfl, rk, vv, _, rfl, rv, rfl⟩ := r
    obtain ⟨b, rfl, hk⟩ := key_at F ha.1 rk
    exact ⟨t :: ts, (nkey k, b, vv) :: xs, rfl, .cons ⟨sqT_le F s, hk⟩ h1, .cons ⟨rfl, ha.1, rk, rv⟩ h2⟩
theorem dict_fold : ∀ (ps : List (D × D)) (xs : List (NestedKey × Addr × V)) (ys zs : List (NestedKey × Addr × Value)) (ks : List D) (os : List O) (vv : List V), Paired (fun (p : D × D) (x : NestedKey × Addr × V) => x.1 = nkey p.1 ∧ isKey true p.1 = true ∧ Rp (gm X) g p.1 (.ref x.2.1) ∧ Rp (gm X) g p.2 x.2.2) ps xs →
    Paired (fun (x : NestedKey × Addr × V) (y : NestedKey × Addr × Value) => y.1 = x.1 ∧ y.2.1 = x.2.1 ∧ RelV x.2.2 y.2.2) xs ys →
    zs.map (·.1) = nkeys ks → Rps (gm X) g ks (zs.map fun x => V.ref x.2.1) → Vals vv (zs.map (·.2.2)) → Ows (gm X) g H os vv [] → ks.all (isKey true) = true → (zs.map (·.1)).Nodup →
    ∃ vv', (storedAllH zs ys).map (·.1) = nkeys (dictF ps (ks, os)).1 ∧ Rps (gm X) g (dictF ps (ks, os)).1 ((storedAllH zs ys).map fun x => V.ref x.2.1) ∧ Vals vv' ((storedAllH zs ys).map (·.2.2)) ∧ Ows (gm X) g H (dictF ps (ks, os)).2 vv' [] ∧ (dictF ps (ks, os)).1.all (isKey true) = true ∧ ((storedAllH zs ys).map (·.1)).Nodup
  | [], _, _, zs, ks, os, vv, .nil, .nil, i1, i2, i3, i4, i5, i6 => ⟨vv, i1, i2, i3, i4, i5, i6⟩
  | p :: ps, x :: xs, y :: ys, zs, ks, os, vv, .cons a1 r1, .cons a2 r2, i1, i2, i3, i4, i5, i6 => by
    obtain ⟨k, b, r⟩ := y
    obtain ⟨c1, c2, c3⟩ := a2
    obtain ⟨d1, d2, d3, d4⟩ := a1
    have c1 : k = x.1 := c1
    have c2 : b = x.2.1 := c2
    subst c1 c2
    obtain ⟨vv', fp', k1, k2, k3, k4, k5, k6, k7⟩ := put_at (H := H) d2 d3 c3 d4 zs ks os vv [] i1 i2 i3 i4 i5
    obtain rfl : fp' = [] := List.eq_nil_iff_forall_not_mem.mpr fun a ha => by cases k6 a ha
    rw [← d1, ← sto_eq zs i6] at k1 k2 k3
    have nod := sto_nod (k := x.1) (b := x.2.1) (r := r) zs i6
    rw [← sto_eq zs i6] at nod
    exact dict_fold ps xs ys (storedH zs x.1 x.2.1 r) _ _ vv' r1 r2 k1 k2 k3 k4 k5 nod
theorem paired_len {α β : Type} {F : α → β → Prop} : ∀ {l : List α} {m : List β}, Paired F l m → l.length = m.length
  | _, _, .nil => rfl
  | _, _, .cons _ r => by rw [List.length_cons, List.length_cons, paired_len r]
theorem bi_sound {b : Bi} {n : Str} {f : Value} {ds : List D} {o : O} {vs : List V} {Q : VK} (hb : biName b = some (n, f)) (e : biD b ds = some o) (F : Same g.F H) (c : Cl (gm X) g H μ) (r : Rps (gm X) g ds vs) (h : Ret (gm X) g μ H o Q) : rBi X X.K b vs H Q := by
  unfold biD at e
  split at e <;> first | (cases hb; done) | skip
  · cases e
    obtain ⟨v, rfl, q0⟩ := rps1 r
    obtain ⟨a, xs, rfl, s, q⟩ := rp_seq (.inl rfl) F q0
    exact .inl ⟨a, xs, rfl, s, by rw [← q.len]; exact h.int F c⟩
  · cases e
    obtain ⟨v, rfl, q0⟩ := rps1 r
    obtain ⟨a, xs, rfl, s, q⟩ := rp_seq (.inr rfl) F q0
    exact .inl ⟨a, xs, rfl, s, by rw [← q.len]; exact h.int F c⟩
  · split at e
    · cases e
      obtain ⟨v, rfl, q0⟩ := rps1 r
      simp only [Rp] at q0
      subst q0
      exact .inr (.inl ⟨_, rfl, by rw [← LIM_eq]; assumption, h.int F c⟩)
    · cases e
  · cases e
    obtain ⟨v, rfl, q0⟩ := rps1 r
    simp only [Rp] at q0
    obtain ⟨a, kv, vv, rfl, dc, rk, rv⟩ := q0
    obtain ⟨xs, dx⟩ := DcAt.dx F (dc.keep fun u e => F _ _ e) rk
    refine .inr (.inr ⟨a, xs, rfl, dx.nd, ?_⟩)
    have hlx := congrArg List.length dx.ek
    rw [List.length_map, nkeys_len] at hlx
    rw [hlx]
    exact h.int F c
  · cases e
    obtain ⟨v, rfl, q0⟩ := rps1 r
    obtain ⟨a, xs, rfl, s, q⟩ := rp_seq (.inl rfl) F q0
    exact .inl ⟨a, xs, rfl, s, Ret.lst F c q h⟩
  · cases e
    obtain ⟨v, rfl, q0⟩ := rps1 r
    obtain ⟨a, xs, rfl, s, q⟩ := rp_seq (.inr rfl) F q0
    exact .inl ⟨a, xs, rfl, s, Ret.lst F c q h⟩
  · cases e
    obtain ⟨v, rfl, q0⟩ := rps1 r
    simp only [Rp] at q0
    obtain ⟨a, kv, vv, rfl, dc, rk, rv⟩ := q0
    obtain ⟨xs, dx⟩ := DcAt.dx F (dc.keep fun u e => F _ _ e) rk
    refine .inr ⟨a, xs, rfl, dx.nd, ?_⟩
    have z := Ret.lst F c rk h
    rw [dx.ev] at z
    exact z
  · cases e
    obtain ⟨v, rfl, q0⟩ := rps1 r
    simp only [Rp] at q0
    obtain ⟨a, xs, rfl, s, q⟩ := q0
    exact ⟨a, xs, rfl, .inl ⟨SqL.of (F _ _ s), Ret.tup F c q h⟩⟩
  · cases e
    obtain ⟨v, rfl, q0⟩ := rps1 r
    have r' := q0
    simp only [Rp] at q0
    obtain ⟨a, xs, rfl, s, q⟩ := q0
    exact ⟨a, xs, rfl, .inr ⟨sqT_le F s, h.sh F c r'⟩⟩
  · obtain ⟨ns, e1, rfl⟩ := Option.map_eq_some_iff.mp e
    obtain ⟨v, rfl, q0⟩ := rps1 r
    simp only [Rp] at q0
    obtain ⟨a, xs, rfl, s, q⟩ := q0
    exact ⟨a, ns, rfl, by rw [← q.ints e1]; exact SqL.of (F _ _ s), h.int F c⟩
  · split at e
    · rename_i n ns e1
      cases e
      obtain ⟨v, rfl, q0⟩ := rps1 r
      simp only [Rp] at q0
      obtain ⟨a, xs, rfl, s, q⟩ := q0
      refine .inl ⟨a, n :: ns, rfl, by rw [← q.ints e1]; exact SqL.of (F _ _ s), by simp, fun m hm hall => ?_⟩
      rw [min_of hm hall]
      exact h.int F c
    · split at e
      · rename_i r0 rs e1
        cases e
        obtain ⟨v, rfl, q0⟩ := rps1 r
        simp only [Rp] at q0
        obtain ⟨a, xs, rfl, s, q⟩ := q0
        refine .inr ⟨a, xs, r0, rs, rfl, SqL.of (F _ _ s), rows_dp F _ _ _ e1 q, fun i v hv hi => ?_⟩
        exact h.sh F c (rows_at _ _ _ e1 q i v _ hv hi)
      · cases e
  · split at e
    · rename_i ps e1
      split at e
      · rename_i hc
        cases e
        simp only [Bool.and_eq_true, decide_eq_true_eq] at hc
        obtain ⟨v, rfl, q0⟩ := rps1 r
        simp only [Rp] at q0
        obtain ⟨a, xs0, rfl, s, q⟩ := q0
        obtain ⟨ts, xs, rfl, h1, h2⟩ := pairs_rp F _ ps _ e1 hc.1 q
        refine ⟨a, ts, xs, rfl, SqL.of (F _ _ s), h1, fun p np hm ys hy => ?_⟩
        obtain ⟨vv', k1, k2, k3, k4, k5, k6⟩ := dict_fold (H := H) ps xs ys [] [] [] [] h2 hy rfl (by simp only [List.map_nil, Rps]) .nil (by simp only [Ows]; exact ⟨trivial, trivial⟩) rfl .nil
        have hlen : (storedAllH [] ys).length ≤ sizeLine := by
          have z1 := storedAllH_length ys []
          have z2 := paired_len h2
          have z3 := paired_len hy
          rw [List.length_nil] at z1
          rw [← LIM_eq]
          omega
        have G := Go.made (u := ndict X.prog X.w p (storedAllH [] ys)) F c np
        refine h g _ _ [p] ⟨G, ?_, List.nodup_cons.mpr ⟨by simp, .nil⟩, fun a ha => ?_, fun a ha => ?_⟩
        · simp only [Ow]
          exact ⟨p, _, vv', [], rfl, rfl, ⟨hm, _, .inl upd_same, k1, rfl, k3, hlen, k5, k6⟩, k2, Ows.le (Le.refl _) _ _ _ k4 (fun x hx => by cases hx)⟩
        · rcases List.mem_cons.mp ha with rfl | ha
          · exact .inr np
          · cases ha
        · rcases List.mem_cons.mp ha with rfl | ha
          · exact ⟨F.free np, fun z => by
              obtain ⟨u, e⟩ := c.there _ z
              rw [np] at e; cases e⟩
          · cases ha
      · cases e
    · cases e
  · cases e
    obtain ⟨v, u, rfl, r1, r2⟩ := rps2 r
    simp only [Rp] at r1 r2
    subst r1 r2
    exact ⟨_, _, rfl, h.int F c⟩
  · cases e
    obtain ⟨v, u, rfl, r1, r2⟩ := rps2 r
    simp only [Rp] at r1 r2
    subst r1 r2
    exact ⟨_, _, rfl, h.int F c⟩
  · obtain ⟨ns, e1, rfl⟩ := Option.map_eq_some_iff.mp e
    obtain ⟨v, rfl, q0⟩ := rps1 r
    simp only [Rp] at q0
    obtain ⟨a, xs, rfl, s, q⟩ := q0
    exact ⟨a, ns, rfl, by rw [← q.bls e1]; exact SqL.of (F _ _ s), h.bl F c⟩
  · obtain ⟨ns, e1, rfl⟩ := Option.map_eq_some_iff.mp e
    obtain ⟨v, rfl, q0⟩ := rps1 r
    simp only [Rp] at q0
    obtain ⟨a, xs, rfl, s, q⟩ := q0
    exact ⟨a, ns, rfl, by rw [← q.bls e1]; exact SqL.of (F _ _ s), h.bl F c⟩
  · cases e
    obtain ⟨v, rfl, q0⟩ := rps1 r
    simp only [Rp] at q0
    subst q0
    exact .inr ⟨_, rfl, h.int F c⟩
  · cases e
    obtain ⟨v, rfl, q0⟩ := rps1 r
    simp only [Rp] at q0
    subst q0
    exact .inl ⟨_, rfl, h.int F c⟩
  · cases e
/-! ### walks -/
/-- the i-th item comes: as it stands, or as a new pair -/
def YD (Γ : Env1) (g : Gh) (ds : List D) : Nat → Hp → V → Hp → Prop := fun i H x H' => ∃ d, ds[i]? = some d ∧
  ((H' = H ∧ Rp Γ g d x) ∨ ∃ T x1 x2 d1 d2, d = .tup [d1, d2] ∧ x = .ref T ∧ H T = none ∧ H' = upd H T (.tup [x1, x2]) ∧ Rp Γ g d1 x1 ∧ Rp Γ g d2 x2)
abbrev WalkD (Γ : Env1) (g : Gh) (J : It) (ds : List D) : Prop := Walk J ds.length (fun H => Same g.F H) (YD Γ g ds)
theorem get_some {α : Type} {l : List α} {i : Nat} (h : i < l.length) : ∃ a, l[i]? = some a := ⟨l[i], List.getElem?_eq_getElem h⟩
theorem Rps.get' {ds : List D} {vs : List V} {i : Nat} {v : V} (r : Rps Γ g ds vs) (e : vs[i]? = some v) : ∃ d, ds[i]? = some d ∧ Rp Γ g d v := by
  have hi : i < ds.length := by rw [r.len]; exact (List.getElem?_eq_some_iff.mp e).1
  obtain ⟨d, hd⟩ := get_some hi
  obtain ⟨u, h1, h2⟩ := r.get hd
  rw [e] at h1
  cases h1
  exact ⟨d, hd, h2⟩
theorem walkD_list {a : Addr} {vs : List V} {ds : List D} (s : g.F a = some (.lst vs)) (r : Rps Γ g ds vs) : WalkD Γ g (Itl Γ.K a) ds := by
  have w := walk_list (K := Γ.K) (a := a) (xs := vs)
  rw [← r.len] at w
  refine w.mono (fun H F => SqL.of (F _ _ s)) fun i H x H' _ F y => ?_
  obtain ⟨rfl, e⟩ := y
  obtain ⟨d, h1, h2⟩ := r.get' e
  exact ⟨d, h1, .inl ⟨rfl, h2⟩⟩
theorem walkD_tup {a : Addr} {vs : List V} {ds : List D} (s : SqT Γ.K g.F a vs) (r : Rps Γ g ds vs) : WalkD Γ g (Itt Γ.K a) ds := by
  have w := walk_tup (K := Γ.K) (a := a) (xs := vs)
  rw [← r.len] at w
  refine w.mono (fun H F => sqT_le F s) fun i H x H' _ F y => ?_
  obtain ⟨rfl, e⟩ := y
  obtain ⟨d, h1, h2⟩ := r.get' e
  exact ⟨d, h1, .inl ⟨rfl, h2⟩⟩
theorem walkD_str {z : Str} : WalkD Γ g (Its z) (z.cps.toList.map fun c => D.str ⟨#[c]⟩) := by
  have w := walk_str (z := z)
  have hl : (z.cps.toList.map fun c => D.str ⟨#[c]⟩).length = z.cps.size := by simp
  unfold WalkD
  rw [hl]
  refine w.mono (fun _ _ => trivial) fun i H x H' _ F y => ?_
  obtain ⟨rfl, c, e, rfl⟩ := y
  refine ⟨.str ⟨#[c]⟩, ?_, .inl ⟨rfl, by simp only [Rp]⟩⟩
  rw [List.getElem?_map]
  simp [e]
theorem rngD_get : ∀ (n : Nat) (lo : Int) (i : Nat), i < n → (rngD lo n)[i]? = some (.int (lo + i))
  | 0, lo, i, h => by omega
  | n + 1, lo, 0, h => by simp [rngD]
  | n + 1, lo, i + 1, h => by
    have q := rngD_get n (lo + 1) i (by omega)
    simp only [rngD, List.getElem?_cons_succ]
    rw [q]
    congr 2
    omega
theorem rngD_len : ∀ (n : Nat) (lo : Int), (rngD lo n).length = n
  | 0, lo => rfl
  | n + 1, lo => by simp [rngD, rngD_len n]
theorem rngN_get : ∀ (n : Nat) (lo : Int) (i : Nat), i < n → (rngN lo n)[i]? = some (.int (lo + (i : Nat) * (-1)))
  | 0, lo, i, h => by omega
  | n + 1, lo, 0, h => by simp [rngN]
  | n + 1, lo, i + 1, h => by
    have q := rngN_get n (lo - 1) i (by omega)
    simp only [rngN, List.getElem?_cons_succ]
    rw [q]
    congr 2
    omega
theorem rngN_len : ∀ (n : Nat) (lo : Int), (rngN lo n).length = n
  | 0, lo => rfl
  | n + 1, lo => by simp [rngN, rngN_len n]
theorem walkD_rng {lo : Int} {n : Nat} : WalkD Γ g (Itr lo n) (rngD lo n) := by
  have w := walk_range (lo := lo) (n := n)
  unfold WalkD
  rw [rngD_len]
  refine w.mono (fun _ _ => trivial) fun i H x H' hi F y => ?_
  obtain ⟨rfl, rfl⟩ := y
  exact ⟨_, rngD_get n lo i hi, .inl ⟨rfl, by simp only [Rp]⟩⟩
theorem walkD_rngN {lo : Int} {n : Nat} : WalkD Γ g (Itc lo (-1) n) (rngN lo n) := by
  have w := walk_rangeC (lo := lo) (c := -1) (n := n)
  unfold WalkD
  rw [rngN_len]
  refine w.mono (fun _ _ => trivial) fun i H x H' hi F y => ?_
  obtain ⟨rfl, rfl⟩ := y
  exact ⟨_, rngN_get n lo i hi, .inl ⟨rfl, by simp only [Rp]⟩⟩
theorem enumD_get : ∀ (l : List D) (n : Int) (i : Nat) (d : D), l[i]? = some d → (enumD n l)[i]? = some (.tup [.int (n + i), d])
  | [], n, i, d, h => by simp at h
  | x :: l, n, 0, d, h => by
    simp at h
    subst h
    simp [enumD]
  | x :: l, n, i + 1, d, h => by
    have q := enumD_get l (n + 1) i d (by simpa using h)
    simp only [enumD, List.getElem?_cons_succ]
    rw [q]
    congr 4
    omega
theorem enumD_len : ∀ (l : List D) (n : Int), (enumD n l).length = l.length
  | [], n => rfl
  | x :: l, n => by simp [enumD, enumD_len l]
theorem walkD_enum {a : Addr} {vs : List V} {ds : List D} (s : g.F a = some (.lst vs)) (r : Rps Γ g ds vs) : WalkD Γ g (Ite Γ.K a) (enumD 0 ds) := by
  have w := walk_enum (K := Γ.K) (a := a) (xs := vs)
  unfold WalkD
  rw [enumD_len, r.len]
  refine w.mono (fun H F => SqL.of (F _ _ s)) fun i H x H' _ F y => ?_
  obtain ⟨T, x1, x2, e1, e2, e3, e4, e5⟩ := y
  cases e4
  obtain ⟨d, h1, h2⟩ := r.get' e5
  refine ⟨_, enumD_get ds 0 i d h1, .inr ⟨T, _, x2, .int (0 + i), d, rfl, e1, e2, e3, by simp only [Rp]; rw [Int.zero_add], h2⟩⟩
theorem zipD_get : ∀ (l m : List D) (i : Nat) (d e : D), l[i]? = some d → m[i]? = some e → (zipD l m)[i]? = some (.tup [d, e])
  | [], m, i, d, e, h, _ => by simp at h
  | x :: l, [], i, d, e, _, h => by simp at h
  | x :: l, y :: m, 0, d, e, h, h' => by
    simp at h h'
    subst h h'
    simp [zipD]
  | x :: l, y :: m, i + 1, d, e, h, h' => by
    have q := zipD_get l m i d e (by simpa using h) (by simpa using h')
    simpa [zipD] using q
theorem zipD_len : ∀ (l m : List D), (zipD l m).length = min l.length m.length
  | [], m => by simp [zipD]
  | x :: l, [] => by simp [zipD]
  | x :: l, y :: m => by
    simp only [zipD, List.length_cons, zipD_len l m]
    omega
theorem walk_zipB {t1 t2 : Bool} {K : PySem.W.Frag} {a b : Addr} {xs ys : List V} {n : Nat} (hn : n = min xs.length ys.length) : Walk (ItzB t1 t2 K a b) n (fun H => SqB t1 K H a xs ∧ SqB t2 K H b ys) (YPair (fun i => xs[i]?) (fun i => ys[i]?)) := by
  subst hn
  refine ⟨fun i _ hi q => ?_, fun _ q => ⟨xs, ys, q.1, q.2, by omega⟩, fun i H v H' _ q y => ?_⟩
  · have h1 : i < xs.length := by omega
    have h2 : i < ys.length := by omega
    exact ⟨xs, ys, xs[i], ys[i], q.1, q.2, by simp [h1], by simp [h2]⟩
  · obtain ⟨T, x, z, h1, h2, h3, h4, h5⟩ := y
    exact ⟨T, x, z, h1, h2, h3, h4 xs q.1, h5 ys q.2⟩
/-- a list or a tuple that is never changed -/
theorem rp_sqB {d : D} {l : List D} {v : V} (h : seqD d = some l) (r : Rp Γ g d v) : ∃ t a vs, v = .ref a ∧ Rps Γ g l vs ∧ ∀ H, Same g.F H → SqB t Γ.K H a vs := by
  cases d <;> cases h
  · simp only [Rp] at r
    obtain ⟨a, vs, rfl, s, q⟩ := r
    exact ⟨false, a, vs, rfl, q, fun H F => sqT_le F s⟩
  · simp only [Rp] at r
    obtain ⟨a, vs, rfl, s, q⟩ := r
    exact ⟨true, a, vs, rfl, q, fun H F => SqL.of (F _ _ s)⟩
theorem walkD_zipB {t1 t2 : Bool} {a b : Addr} {vs us : List V} {l m : List D} (s : ∀ H, Same g.F H → SqB t1 Γ.K H a vs) (s2 : ∀ H, Same g.F H → SqB t2 Γ.K H b us) (r : Rps Γ g l vs) (r2 : Rps Γ g m us) : WalkD Γ g (ItzB t1 t2 Γ.K a b) (zipD l m) := by
  have w := walk_zipB (t1 := t1) (t2 := t2) (K := Γ.K) (a := a) (b := b) (xs := vs) (ys := us) (n := min l.length m.length) (by rw [r.len, r2.len])
  unfold WalkD
  rw [zipD_len]
  refine w.mono (fun H F => ⟨s H F, s2 H F⟩) fun i H x H' hi F y => ?_
  obtain ⟨T, x1, x2, e1, e2, e3, e4, e5⟩ := y
  obtain ⟨d1, h1, h2⟩ := r.get' e4
  obtain ⟨d2, h3, h4⟩ := r2.get' e5
  exact ⟨_, zipD_get l m i d1 d2 h1 h3, .inr ⟨T, x1, x2, d1, d2, rfl, e1, e2, e3, h2, h4⟩⟩
theorem walkD_rev {a : Addr} {vs : List V} {ds : List D} (s : g.F a = some (.lst vs)) (r : Rps Γ g ds vs) : WalkD Γ g (Itv Γ.K a vs.length) ds.reverse := by
  have w := walk_rev (K := Γ.K) (a := a) (xs := vs)
  unfold WalkD
  rw [List.length_reverse, r.len]
  refine w.mono (fun H F => SqL.of (F _ _ s)) fun i H x H' hi F y => ?_
  obtain ⟨rfl, e⟩ := y
  obtain ⟨d, h1, h2⟩ := r.get' e
  refine ⟨d, ?_, .inl ⟨rfl, h2⟩⟩
  rw [List.getElem?_reverse (by rw [r.len]; exact hi), r.len]
  exact h1
end
end MP
/-! MP6 -/
set_option Elab.async false
set_option linter.all false
set_option maxRecDepth 100000
set_option maxHeartbeats 1000000
/-! MP6: the looks okE, okT, okG, okI. -/
namespace MP
open PySem PySem.Spec PyProof.Rows L2
def isCO : CO → CmpOp → Bool
  | .eq, .Eq => true | .ne, .NotEq => true | .lt, .Lt => true | .le, .LtE => true | .gt, .Gt => true | .ge, .GtE => true
  | .isin, .In => true | .notin, .NotIn => true | .is, .Is => true | .isnot, .IsNot => true
  | _, _ => false
def isBO : BO → Operator → Bool
  | .add, .Add => true | .sub, .Sub => true | .mul, .Mult => true | .fdiv, .FloorDiv => true | .mod, .Mod => true | .pow, .Pow => true
  | _, _ => false
/-- not asked for its truth in an own way, no star, no slice, no display whose marks go -/
def plain : Expr → Bool
  | .UnaryOp .Not _ _ => false
  | .BoolOp _ _ _ => false
  | .IfExp _ _ _ _ => false
  | .Compare _ _ _ _ => false
  | _ => true
def simple : Expr → Bool
  | .Starred _ _ => false
  | .Slice _ _ _ _ => false
  | .Set _ _ _ => false
  | _ => true
/-- no comprehension -/
def noLC : Expr → Bool
  | .ListComp _ _ _ _ => false
  | .SetComp _ _ _ _ => false
  | .DictComp _ _ _ _ _ => false
  | _ => true
def notTup : Expr → Bool
  | .Tuple _ _ _ => false
  | .List _ _ => false
  | _ => true
/-- o.attr is plainly got -/
def notCall0 : Expr → Bool
  | .Call (.Name _ _) [] [] _ => false
  | _ => true
/-- how a class is named in isinstance -/
def clsOk (k : Ck) (c : Str) : Expr → Bool
  | .Name x _ => decide (x = c) && (k.gl x && k.bl.contains x)
  | _ => false
mutual
/-- targets -/
def okG (k : Ck) : T → Expr → Bool
  | .nm i, .Name x _ => k.loc i x
  | .tp ts, .Tuple es _ _ => okGs k ts es
  | _, _ => false
def okGs (k : Ck) : List T → List Expr → Bool
  | [], [] => true
  | t :: ts, e :: es => okG k t e && okGs k ts es
  | _, _ => false
end
/-- within a comprehension's block -/
def Ck.blk (k : Ck) (scope : Scope) : Ck := { k with sc := relS scope k.sc, cl := scope.names.filterMap fun p => if p.2 == .cell then some p.1 else none }
/-- its own names by their places -/
def ownOf (k : Ck) (is : List Nat) : List (Str × Nat) := is.filterMap fun i => (k.N[i]?).map fun x => (x, i)
/-- a method's name -/
def bmN : Bi → Str → Bool
  | .get, x => decide (x = "get")
  | .index, x => decide (x = "index")
  | _, _ => false
def okIx (k : Ck) : Option Ix → Option Expr → Bool
  | none, none => true
  | some (.c n), some (.Constant (.int m) _ _) => decide (m = n)
  | some (.c n), some (.UnaryOp .USub (.Constant (.int m) _ _) _) => decide (-m = n)
  | some (.v j), some (.Name y _) => k.vis j y
  | some (.s j n), some (.BinOp (.Name y _) .Add (.Constant (.int m) _ _) _) => k.vis j y && decide (m = n)
  | _, _ => false
def okPl (k : Ck) (i : Nat) : List Stp → Expr → Bool
  | [], .Name x _ => k.vis i x
  | .ix (.c n) :: rs, .Subscript p (.Constant (.int m) _ _) _ => decide (m = n) && okPl k i rs p
  | .ix (.c n) :: rs, .Subscript p (.UnaryOp .USub (.Constant (.int m) _ _) _) _ => decide (-m = n) && okPl k i rs p
  | .ix (.v j) :: rs, .Subscript p (.Name y _) _ => k.vis j y && okPl k i rs p
  | .fl c f :: rs, .Attribute p f' _ => decide (f = f') && (k.fl.contains (c, f) && okPl k i rs p)
  | _, _ => false
theorem okPl_call {k : Ck} {i : Nat} {rs : List Stp} {p : Expr} (h : okPl k i rs p = true) : notCall0 p = true := by
  unfold okPl at h
  split at h <;> first | rfl | cases h
mutual
def okE : Nat → Ck → E → Expr → Bool
  | 0, _, _, _ => false
  | n + 1, k, .bad, _ => true
  | n + 1, k, .non, .Constant .none _ _ => true
  | n + 1, k, .bl b, .Constant (.bool c) _ _ => b == c
  | n + 1, k, .int i, .Constant (.int j) _ _ => decide (i = j)
  | n + 1, k, .str s, .Constant (.str t) _ _ => decide (s = t)
  | n + 1, k, .var i, .Name x _ => k.vis i x
  | n + 1, k, .glI x i, .Name y _ => decide (x = y) && (k.gl x && k.gi.contains (x, i))
  | n + 1, k, .glS x i, .Name y _ => decide (x = y) && (k.gl x && k.gs.contains (x, i))
  | n + 1, k, .bin op a b, .BinOp p o q _ => isBO op o && (okE n k a p && okE n k b q)
  | n + 1, k, .neg a, .UnaryOp .USub p _ => okE n k a p
  | n + 1, k, .nt a, .UnaryOp .Not p _ => okE n k a p
  | n + 1, k, .and a b, .BoolOp .And ps _ => okAnds n k a b ps
  | n + 1, k, .or a b, .BoolOp .Or ps _ => okOrs n k a b ps
  | n + 1, k, .cmp c a b, .Compare p [o] [q] _ => isCO c o && (simple q && (okE n k a p && okE n k b q))
  | n + 1, k, .chn c c' a b d, .Compare p [o, o'] [q, r] _ => (isCO c o && isCO c' o') && ((simple q && simple r) && (okE n k a p && (okE n k b q && okE n k d r)))
  | n + 1, k, .chn3 c c' c'' a b d e, .Compare p [o, o', o''] [q, r, u] _ => (isCO c o && (isCO c' o' && isCO c'' o'')) && ((simple q && (simple r && simple u)) && (okE n k a p && (okE n k b q && (okE n k d r && okE n k e u))))
  | n + 1, k, .ife t a b, .IfExp p q r _ => okT n k t p && (okE n k a q && okE n k b r)
  | n + 1, k, .ix a i, .Subscript p q _ => simple q && (okE n k a p && okE n k i q)
  | n + 1, k, .sl a lo hi, .Subscript p (.Slice l h none _) _ => okE n k a p && (okO n k lo l && okO n k hi h)
  | n + 1, k, .fld c a f, .Attribute p x _ => decide (f = x) && (k.fl.contains (c, f) && (notCall0 p && okE n k a p))
  | n + 1, k, .lst es, .List ps _ => okEs n k es ps
  | n + 1, k, .tup es, .Tuple ps _ _ => okEs n k es ps
  | n + 1, k, .dnew true, .Dict [] [] _ => true
  | n + 1, k, .lc elt tg it cd, .ListComp p [⟨tp, ip, cs, 0⟩] scope _ => okI n k it tp ip && (simple ip && (blkC k.N k.sc scope (ownOf k (tgN tg)) && (okG (k.blk scope) tg tp && (okE n (k.blk scope) elt p && okC n (k.blk scope) cd cs))))
  | n + 1, k, .call f es, .Call (.Name x _) ps [] _ => decide (f = x) && (k.gl x && (k.fs.contains x && okEs n k es ps))
  | n + 1, k, .mk c es, .Call (.Name x _) (p :: ps) [] _ => decide (c = x) && (k.gl x && (k.cs.contains x && okEs n k es (p :: ps)))
  | n + 1, k, .meth c a m es, .Call (.Attribute o x ap) ps [] pos => decide (m = x) && (k.ms.contains (c, m) && (notCall0 o && ((ap.endLine == pos.line) && (decide (ps.length < 30) && (okE n k a o && okEs n k es ps)))))
  | n + 1, k, .bi b es, .Call (.Name x _) (p :: ps) [] _ => k.gl x && (k.bl.contains x && ((match biName b with
    | some (z, _) => decide (z = x) && okEs n k es (p :: ps)
    | none => false) || (decide (x = "isinstance") && (match es, ps with
      | [e], [c] => okE n k e p && (noStar p && (match b, c with
        | .isSeq, .Tuple [c1, c2] _ _ => clsOk k "list" c1 && clsOk k "tuple" c2
        | .isLst, c => clsOk k "list" c
        | .isTup, c => clsOk k "tuple" c
        | .isBool, c => clsOk k "bool" c
        | .isStr, c => clsOk k "str" c
        | .isInt, c => clsOk k "int" c
        | _, _ => false))
      | _, _ => false))))
  | n + 1, k, .bm b a es, .Call (.Attribute o x ap) (p :: ps) [] pos => bmN b x && (notCall0 o && ((ap.endLine == pos.line) && (decide ((p :: ps).length < 30) && (okE n k a o && okEs n k es (p :: ps)))))
  | n + 1, k, .bor _ e, p => okE n k e p
  | n + 1, k, .shl e, p => okE n k e p
  | n + 1, k, .rvs e, .Subscript p (.Slice none none (some (.UnaryOp .USub (.Constant (.int 1) _ _) _)) _) _ => okE n k e p
  | n + 1, k, .lcO elt tg it, .ListComp p [⟨tp, ip, [], 0⟩] scope _ => okI n k it tp ip && (simple ip && (blkC k.N k.sc scope (ownOf k (tgN tg)) && (okG (k.blk scope) tg tp && okE n (k.blk scope) elt p)))
  | n + 1, k, .oix i e, .Subscript (.Name x _) q _ => k.vis i x && (simple q && okE n k e q)
  | n + 1, k, .prd pl, p => okPl k pl.i pl.rs p
  | n + 1, k, .plen pl, .Call (.Name x _) [p] [] _ => decide (x = "len") && (k.gl x && (k.bl.contains x && (noStar p && okPl k pl.i pl.rs p)))
  | n + 1, k, .plist pl, .Call (.Name x _) [p] [] _ => decide (x = "list") && (k.gl x && (k.bl.contains x && (noStar p && okPl k pl.i pl.rs p)))
  | n + 1, k, .pnil neg pl, .Compare p [o] [.List [] _] _ => isCO (if neg then .ne else .eq) o && okPl k pl.i pl.rs p
  | n + 1, k, .psl pl lo hi, .Subscript p (.Slice l h none _) _ => okPl k pl.i pl.rs p && (okIx k lo l && okIx k hi h)
  | n + 1, k, .plc elt tg pl, .ListComp p [⟨tp, ip, [], 0⟩] scope _ => okPl k pl.i pl.rs ip && (simple ip && (blkC k.N k.sc scope (ownOf k (tgN tg)) && (okG (k.blk scope) tg tp && (okE n (k.blk scope) elt p && okC n (k.blk scope) none []))))
  | _ + 1, _, _, _ => false
def okEs : Nat → Ck → List E → List Expr → Bool
  | 0, _, _, _ => false
  | n + 1, k, [], [] => true
  | n + 1, k, e :: es, p :: ps => noStar p && (okE n k e p && okEs n k es ps)
  | _ + 1, _, _, _ => false
def okO : Nat → Ck → Option E → Option Expr → Bool
  | 0, _, _, _ => false
  | n + 1, k, none, none => true
  | n + 1, k, some e, some p => okE n k e p
  | _ + 1, _, _, _ => false
def okC : Nat → Ck → Option E → List Expr → Bool
  | 0, _, _, _ => false
  | n + 1, k, none, [] => true
  | n + 1, k, some e, [p] => okT n k e p
  | _ + 1, _, _, _ => false
/-- in a test's place -/
def okT : Nat → Ck → E → Expr → Bool
  | 0, _, _, _ => false
  | n + 1, k, .nt a, .UnaryOp .Not p _ => okT n k a p
  | n + 1, k, .and a b, .BoolOp .And ps _ => okAnd n k a b ps
  | n + 1, k, .or a b, .BoolOp .Or ps _ => okOr n k a b ps
  | n + 1, k, .cmp c a b, .Compare p [o] [q] _ => isCO c o && (simple q && (okE n k a p && okE n k b q))
  | n + 1, k, .chn c c' a b d, .Compare p [o, o'] [q, r] _ => (isCO c o && isCO c' o') && ((simple q && simple r) && (okE n k a p && (okE n k b q && okE n k d r)))
  | n + 1, k, .chn3 c c' c'' a b d e, .Compare p [o, o', o''] [q, r, u] _ => (isCO c o && (isCO c' o' && isCO c'' o'')) && ((simple q && (simple r && simple u)) && (okE n k a p && (okE n k b q && (okE n k d r && okE n k e u))))
  | n + 1, k, .pnil neg pl, .Compare p [o] [.List [] _] _ => isCO (if neg then .ne else .eq) o && okPl k pl.i pl.rs p
  | n + 1, k, .bor is e, p => okT n k e p
  | n + 1, k, e, p => plain p && okE n k e p
def okAnd : Nat → Ck → E → E → List Expr → Bool
  | 0, _, _, _, _ => false
  | n + 1, k, a, b, [p, q] => okT n k a p && okT n k b q
  | n + 1, k, a, .and b c, p :: q :: ps => okT n k a p && okAnd n k b c (q :: ps)
  | _ + 1, _, _, _, _ => false
def okOr : Nat → Ck → E → E → List Expr → Bool
  | 0, _, _, _, _ => false
  | n + 1, k, a, b, [p, q] => okT n k a p && okT n k b q
  | n + 1, k, a, .or b c, p :: q :: ps => okT n k a p && okOr n k b c (q :: ps)
  | _ + 1, _, _, _, _ => false
def okAnds : Nat → Ck → E → E → List Expr → Bool
  | 0, _, _, _, _ => false
  | n + 1, k, a, b, [p, q] => okE n k a p && okE n k b q
  | n + 1, k, a, .and b c, p :: q :: ps => okE n k a p && okAnds n k b c (q :: ps)
  | _ + 1, _, _, _, _ => false
def okOrs : Nat → Ck → E → E → List Expr → Bool
  | 0, _, _, _, _ => false
  | n + 1, k, a, b, [p, q] => okE n k a p && okE n k b q
  | n + 1, k, a, .or b c, p :: q :: ps => okE n k a p && okOrs n k b c (q :: ps)
  | _ + 1, _, _, _, _ => false
/-- what a loop walks; tp: its target -/
def okI : Nat → Ck → E → Expr → Expr → Bool
  | 0, _, _, _, _ => false
  | n + 1, k, .bi .rng1 [e], _, .Call (.Name x _) [p] [] _ => decide (x = "range") && (k.gl x && (k.bl.contains x && (noStar p && okE n k e p)))
  | n + 1, k, .bi .rng2 [a, b], _, .Call (.Name x _) [p, q] [] _ => decide (x = "range") && (k.gl x && (k.bl.contains x && ((noStar p && noStar q) && (okE n k a p && okE n k b q))))
  | n + 1, k, .bi .rng3 [a, b, c], _, .Call (.Name x _) [p, q, r] [] _ => decide (x = "range") && (k.gl x && (k.bl.contains x && ((noStar p && (noStar q && noStar r)) && (okE n k a p && (okE n k b q && okE n k c r)))))
  | n + 1, k, .bi .enum [e], .Tuple _ _ _, .Call (.Name x _) [p] [] _ => decide (x = "enumerate") && (k.gl x && (k.bl.contains x && (noStar p && okE n k e p)))
  | n + 1, k, .bi .zip [a, b], .Tuple _ _ _, .Call (.Name x _) [p, q] [] _ => decide (x = "zip") && (k.gl x && (k.bl.contains x && ((noStar p && noStar q) && (okE n k a p && okE n k b q))))
  | n + 1, k, .bi .rev [e], _, .Call (.Name x _) [p] [] _ => decide (x = "reversed") && (k.gl x && (k.bl.contains x && (noStar p && okE n k e p)))
  | n + 1, k, e, _, p => okE n k e p
end
end MP
/-! MP7 -/
set_option Elab.async false
set_option linter.all false
set_option maxRecDepth 100000
set_option maxHeartbeats 1000000
/-! MP7: each form of expression, by its parts. -/
namespace MP
open PySem PySem.Spec PyProof.Rows L2
theorem SR.pure {Γ : Env1} {g : Gh} {μ : List O} {H : Hp} {ρ : List Sl} {σ : L2.St} {fp : List Addr} (s : SR Γ g μ H ρ σ fp) : Go Γ g H g μ H := Go.refl s.F s.cl
theorem simple_mark {o : CmpOp} {e : Expr} (h : simple e = true) : behindInMarks o e = false := by
  cases e <;> first | rfl | cases h
theorem simple_ix {e : Expr} (h : simple e = true) : PlainIx e := by
  cases e <;> first | exact fun _ _ => rfl | cases h
theorem simple_fold {e : Expr} (h : simple e = true) (env : Env) (x : Value) : foldedSetIterable e env x = pure x := by
  cases e <;> first | rfl | cases h
theorem isCO_eq {c : CO} {o : CmpOp} (h : isCO c o = true) : o = cmOf c := by
  cases c <;> cases o <;> first | rfl | cases h
theorem isBO_eq {c : BO} {o : Operator} (h : isBO c o = true) : o = opOf c := by
  cases c <;> cases o <;> first | rfl | cases h
theorem base_call0 {e : Expr} {f : Str} {env : Env} (h : notCall0 e = true) : attributeBase e f env (eval e env) = eval e env := by
  cases e with
  | Call fn args kws pos =>
    cases fn <;> first | rfl | skip
    cases args with
    | nil => cases kws with
      | nil => cases h
      | cons _ _ => rfl
    | cons _ _ => rfl
  | _ => rfl
section
variable {X : Cx} {ck : Ck} {Φ : Fns} {W : WX} {pos pos' : Pos} {p q r u : Expr} {a b d e : E}
abbrev RE (X : Cx) (W : WX) (Φ : Fns) (e : E) : TE := RdE (gm X) W (evE Φ e)
theorem rd_const {σ : L2.St} {H : Hp} {Q : VK} {dd : D} {v : V} (hv : ∀ g, Rp (gm X) g dd v) (h : RdE (gm X) W (fun _ μ => .ok (.sh dd) μ) σ H Q) : Q v H := by
  obtain ⟨ρ, μ, g, fp, sr, er, ok⟩ := h
  exact ok _ μ rfl g H v [] (Got.sh sr.pure (hv g))
theorem s_bad : PE X p (RE X W Φ .bad) := ⟨fun pins s σ H Q I h => by
  obtain ⟨ρ, μ, g, fp, sr, er, ok⟩ := h
  exact er.elim⟩
theorem s_non {j} : PE X (.Constant .none j pos) (RE X W Φ .non) := PE.imp pe_non fun σ H Q h => rd_const (dd := .non) (v := .non) (fun _ => by simp only [Rp]) h
theorem s_bl {j} {c : Bool} : PE X (.Constant (.bool c) j pos) (RE X W Φ (.bl c)) := PE.imp pe_bl fun σ H Q h => rd_const (dd := .bl c) (v := .bl c) (fun _ => by simp only [Rp]) h
theorem s_int {j} {i : Int} : PE X (.Constant (.int i) j pos) (RE X W Φ (.int i)) := PE.imp pe_int fun σ H Q h => rd_const (dd := .int i) (v := .int i) (fun _ => by simp only [Rp]) h
theorem s_str {j} {s : Str} : PE X (.Constant (.str s) j pos) (RE X W Φ (.str s)) := PE.imp pe_str fun σ H Q h => rd_const (dd := .str s) (v := .str s) (fun _ => by simp only [Rp]) h
theorem s_var (c : At X ck Φ W) {i : Nat} {x : Str} (h : ck.vis i x = true) : PE X (.Name x pos) (RE X W Φ (.var i)) := PE.imp (c.pv h) fun σ H Q q => by
  obtain ⟨ρ, μ, g, fp, sr, er, ok⟩ := q
  simp only [evE] at er ok
  cases e : ρ[i]? with
  | none => simp [getV, e, lift] at er; exact er.elim
  | some s =>
    cases s with
    | va dd =>
      obtain ⟨v, h1, h2⟩ := sr.env.va e
      exact ⟨v, h1, ok (.sh dd) μ (by simp [getV, e, lift]) g H v [] (Got.sh sr.pure h2)⟩
    | no => simp [getV, e, lift] at er; exact er.elim
    | ow o => simp [getV, e, lift] at er; exact er.elim
theorem s_glI (c : At X ck Φ W) {i : Int} {x : Str} (h : ck.gl x = true) (hm : (x, i) ∈ ck.gi) : PE X (.Name x pos) (RE X W Φ (.glI x i)) := by
  obtain ⟨t, ht⟩ := c.st.gi _ hm
  exact PE.imp (pe_glob (v := .int i) (c.gl h) ht ⟨t, rfl⟩ (okName_db (Ck.okN h))) fun σ H Q q => rd_const (dd := .int i) (v := .int i) (fun _ => by simp only [Rp]) q
theorem s_glS (c : At X ck Φ W) {i : Str} {x : Str} (h : ck.gl x = true) (hm : (x, i) ∈ ck.gs) : PE X (.Name x pos) (RE X W Φ (.glS x i)) := by
  obtain ⟨t, ht⟩ := c.st.gs _ hm
  exact PE.imp (pe_glob (v := .str i) (c.gl h) ht ⟨t, rfl⟩ (okName_db (Ck.okN h))) fun σ H Q q => rd_const (dd := .str i) (v := .str i) (fun _ => by simp only [Rp]) q
theorem s_bin {o : BO} (ha : PE X p (RE X W Φ a)) (hb : PE X q (RE X W Φ b)) : PE X (.BinOp p (opOf o) q pos) (RE X W Φ (.bin o a b)) :=
  PE.imp (pe_op (opR_bin o) ha hb) fun σ H Q h => rd2l (fa := evE Φ a) (fb := evE Φ b) (k := fun x y => binD o (fz x) (fz y)) h
    fun x y oo μ g2 H2 v w F c r1 r2 e ret => bin_sound e F c r1 r2 ret
theorem s_neg (ha : PE X p (RE X W Φ a)) : PE X (.UnaryOp .USub p pos) (RE X W Φ (.neg a)) :=
  PE.imp (pe_un un_neg ha) fun σ H Q h => rd1 (fa := evE Φ a) (k := fun _ x μ1 => match fz x with
    | .int i => .ok (.sh (.int (-i))) μ1
    | _ => .bad) h fun ρ x μ1 g1 H1 fp v sr r1 er ok => by
    cases e : fz x <;> simp only [e] at er ok r1 <;> first | exact er.elim | skip
    simp only [Rp] at r1
    exact ⟨_, r1, (ok _ _ rfl).int sr.F sr.cl⟩
/-- the answer of a part is a truth value -/
theorem asB_at {Γ : Env1} {g : Gh} {o : O} {v : V} {c : Bool} (e : asB o = some c) (r : Rp Γ g (fz o) v) : v = .bl c := by
  cases o with
  | sh dd => cases dd <;> cases e; simpa only [fz, Rp] using r
  | _ => cases e
theorem s_nt (ha : PE X p (RE X W Φ a)) : PE X (.UnaryOp .Not p pos) (RE X W Φ (.nt a)) :=
  PE.imp (pe_not ha) fun σ H Q h => rd1l (fa := evE Φ a) (k := fun x => (asB x).map fun b => .sh (.bl (!b))) h
    fun x o μ g1 H1 v F c r1 e ret => by
    obtain ⟨c', e', rfl⟩ := Option.map_eq_some_iff.mp e
    exact ⟨c', asB_at e' r1, ret.bl F c⟩
theorem s_and {ps : List Expr} (ha : PE X p (RE X W Φ a)) (hb : PE X (.BoolOp .And (q :: ps) pos) (RE X W Φ b)) : PE X (.BoolOp .And (p :: q :: ps) pos) (RE X W Φ (.and a b)) :=
  PE.imp (pe_and ha hb) fun σ H Q h => rd1 (fa := evE Φ a) (k := fun ρ x μ1 => match asB x with
    | some true => (evE Φ b ρ μ1).bind fun y μ2 => lift ((asB y).map fun c => .sh (.bl c)) μ2
    | some false => .ok (.sh (.bl false)) μ1
    | none => .bad) h fun ρ x μ1 g1 H1 fp v sr r1 er ok => by
    cases e : asB x with
    | none => simp only [e] at er; exact er.elim
    | some c =>
      refine ⟨c, asB_at e r1, ?_⟩
      cases c with
      | false =>
        simp only [e] at ok
        exact iteF ((ok _ _ rfl).bl sr.F sr.cl)
      | true =>
        simp only [e] at er ok
        refine iteT (RdE.fB ⟨ρ, μ1, g1, fp, sr, er, fun o μ' e' g' H' v' fo G => ?_⟩)
        exact ok o μ' e' g' H' v' fo G
theorem s_or {ps : List Expr} (ha : PE X p (RE X W Φ a)) (hb : PE X (.BoolOp .Or (q :: ps) pos) (RE X W Φ b)) : PE X (.BoolOp .Or (p :: q :: ps) pos) (RE X W Φ (.or a b)) :=
  PE.imp (pe_or ha hb) fun σ H Q h => rd1 (fa := evE Φ a) (k := fun ρ x μ1 => match asB x with
    | some false => (evE Φ b ρ μ1).bind fun y μ2 => lift ((asB y).map fun c => .sh (.bl c)) μ2
    | some true => .ok (.sh (.bl true)) μ1
    | none => .bad) h fun ρ x μ1 g1 H1 fp v sr r1 er ok => by
    cases e : asB x with
    | none => simp only [e] at er; exact er.elim
    | some c =>
      refine ⟨c, asB_at e r1, ?_⟩
      cases c with
      | true =>
        simp only [e] at ok
        exact iteT ((ok _ _ rfl).bl sr.F sr.cl)
      | false =>
        simp only [e] at er ok
        refine iteF (RdE.fB ⟨ρ, μ1, g1, fp, sr, er, fun o μ' e' g' H' v' fo G => ?_⟩)
        exact ok o μ' e' g' H' v' fo G
theorem rd_cmp {σ : L2.St} {H : Hp} {Q : VK} {c : CO} (h : RE X W Φ (.cmp c a b) σ H Q) : tOp (rCmp X X.K c) (RE X W Φ a) (RE X W Φ b) σ H Q :=
  rd2l (fa := evE Φ a) (fb := evE Φ b) (k := fun x y => (cmpD c (fz x) (fz y)).map fun b => .sh (.bl b)) h
    fun x y o μ g2 H2 v w F cl r1 r2 e ret => by
    obtain ⟨c', e', rfl⟩ := Option.map_eq_some_iff.mp e
    exact cmp_sound (X := X) e' F cl r1 r2 ret
theorem s_cmp (c : At X ck Φ W) {o : CO} (hs : simple q = true) (ha : PE X p (RE X W Φ a)) (hb : PE X q (RE X W Φ b)) : PE X (.Compare p [cmOf o] [q] pos) (RE X W Φ (.cmp o a b)) :=
  PE.imp (pe_cmpR (opR_cmp c.hu o) ha hb (simple_mark hs)) fun σ H Q h => rd_cmp h
/-- a truth value has come: it is that -/
theorem got_bl {Γ : Env1} {g g' : Gh} {H H' : Hp} {μ : List O} {k : Bool} {v : V} {fo : List Addr} (G : Got Γ g H g' μ H' (.sh (.bl k)) v fo) : v = .bl k ∧ fo = [] := by
  have hv := G.ow
  simp only [Ow, Rp] at hv
  exact ⟨hv.2, hv.1⟩
/-- one more link of a chain -/
theorem rd_link {σ : L2.St} {Q : VK} {c : CO} {ρ : List Sl} {x : O} {μ : List O} {g : Gh} {H : Hp} {fp : List Addr} {v : V} {k : O → Bool → List O → Rs O} {R' : V → V → Hp → Prop}
    (sr : SR (gm X) g μ H ρ σ fp) (r1 : Rp (gm X) g (fz x) v) (er : ErOk (gm X) W σ g H ((evE Φ b ρ μ).bind fun y μ2 => match cmpD c (fz x) (fz y) with
      | some t => k y t μ2
      | none => .bad)) (ok : ∀ o μ', ((evE Φ b ρ μ).bind fun y μ2 => match cmpD c (fz x) (fz y) with
      | some t => k y t μ2
      | none => .bad) = .ok o μ' → Ret (gm X) g μ' H o Q)
    (s : ∀ y t μ2 g2 H2 w, SR (gm X) g2 μ2 H2 ρ σ fp → Rp (gm X) g2 (fz y) w → ErOk (gm X) W σ g2 H2 (k y t μ2) → (∀ o μ', k y t μ2 = .ok o μ' → Ret (gm X) g2 μ' H2 o Q) → R' w (.bl t) H2) :
    RE X W Φ b σ H fun w H2 => rCmp X X.K c v w H2 fun z H3 => R' w z H3 := by
  refine ⟨ρ, μ, g, fp, sr, er.of_bind, fun y μ2 e2 g2 H2 w fo G => ?_⟩
  obtain ⟨G2, r2⟩ := G.fz
  have er2 := ErOk.bind_to er e2 G2
  rw [e2, Rs.bind_ok] at ok
  have sr2 := sr.go G2
  cases e : cmpD c (fz x) (fz y) with
  | none => simp only [e] at er2; exact er2.elim
  | some t =>
    simp only [e] at er2 ok
    refine cmp_sound (X := X) e sr2.F sr2.cl (Rp.le G2.le _ _ r1) r2 fun g3 H3 v3 fo3 G3 => ?_
    obtain ⟨rfl, rfl⟩ := got_bl G3
    exact s y t μ2 g3 H3 w (sr2.go G3.go) (Rp.le G3.go.le _ _ r2) (er2.to G3.go) fun o μ' e' g' H' v' fo' G' => ok o μ' e' g' H' v' fo' ((G'.after G3.go).after G2)
theorem opt_match {α : Type} {c : Option Bool} {A B C : α} : (match c with
    | some true => A
    | some false => B
    | none => C) = (match c with
    | some t => if t then A else B
    | none => C) := by
  cases c with
  | none => rfl
  | some t => cases t <;> rfl
/-- the last link -/
theorem rd_last {σ : L2.St} {Q : VK} {c : CO} {ρ : List Sl} {x : O} {μ : List O} {g : Gh} {H : Hp} {fp : List Addr} {v : V}
    (sr : SR (gm X) g μ H ρ σ fp) (r1 : Rp (gm X) g (fz x) v) (er : ErOk (gm X) W σ g H ((evE Φ b ρ μ).bind fun y μ2 => lift ((cmpD c (fz x) (fz y)).map fun t => O.sh (.bl t)) μ2))
    (ok : ∀ o μ', ((evE Φ b ρ μ).bind fun y μ2 => lift ((cmpD c (fz x) (fz y)).map fun t => .sh (.bl t)) μ2) = .ok o μ' → Ret (gm X) g μ' H o Q) :
    RE X W Φ b σ H fun w H2 => rCmp X X.K c v w H2 Q := by
  refine ⟨ρ, μ, g, fp, sr, er.of_bind, fun y μ2 e2 g2 H2 w fo G => ?_⟩
  obtain ⟨G2, r2⟩ := G.fz
  have er2 := ErOk.bind_to er e2 G2
  rw [e2, Rs.bind_ok] at ok
  have sr2 := sr.go G2
  cases e : cmpD c (fz x) (fz y) with
  | none => simp only [e] at er2; exact er2.elim
  | some t =>
    simp only [e] at er2 ok
    exact cmp_sound (X := X) e sr2.F sr2.cl (Rp.le G2.le _ _ r1) r2 fun g3 H3 v3 fo3 G3 => ok _ _ rfl g3 H3 v3 fo3 (G3.after G2)
theorem rd_chn {σ : L2.St} {H : Hp} {Q : VK} {c c' : CO} (h : RE X W Φ (.chn c c' a b d) σ H Q) : tChain (rCmp X X.K c) (rCmp X X.K c') (RE X W Φ a) (RE X W Φ b) (RE X W Φ d) σ H Q := by
  refine rd1 (fa := evE Φ a) (k := fun ρ x μ1 => (evE Φ b ρ μ1).bind fun y μ2 => (match cmpD c (fz x) (fz y) with
    | some true => (evE Φ d ρ μ2).bind fun z μ3 => lift ((cmpD c' (fz y) (fz z)).map fun b => .sh (.bl b)) μ3
    | some false => .ok (.sh (.bl false)) μ2
    | none => .bad)) h fun ρ x μ1 g1 H1 fp v sr r1 er ok => ?_
  simp only [opt_match] at er ok
  refine rd_link (k := fun y t μ2 => if t then (evE Φ d ρ μ2).bind fun z μ3 => lift ((cmpD c' (fz y) (fz z)).map fun b => .sh (.bl b)) μ3 else .ok (.sh (.bl false)) μ2) sr r1 er ok fun y t μ2 g2 H2 w sr2 r2 er2 ok2 => ⟨t, rfl, ?_⟩
  cases t with
  | false => exact iteF ((ok2 _ _ rfl).bl sr2.F sr2.cl)
  | true => exact iteT (rd_last sr2 r2 er2 ok2)
theorem marks2 {o o' : CmpOp} {q r : Expr} (hq : simple q = true) (hr : simple r = true) : lastMarks [o, o'] [q, r] = false := by
  show behindInMarks o' r = false
  exact simple_mark hr
theorem s_chn (c : At X ck Φ W) {o o' : CO} (hq : simple q = true) (hr : simple r = true) (ha : PE X p (RE X W Φ a)) (hb : PE X q (RE X W Φ b)) (hd : PE X r (RE X W Φ d)) :
    PE X (.Compare p [cmOf o, cmOf o'] [q, r] pos) (RE X W Φ (.chn o o' a b d)) :=
  PE.imp (pe_chain (opR_cmp c.hu o) (opR_cmp c.hu o') ha hb hd (marks2 hq hr)) fun σ H Q h => rd_chn h
/-- three comparisons in a row -/
def tChain3 (r r' r'' : R2) (ta tb tc td : TE) : TE := fun σ H Q => ta σ H fun x H1 => tb σ H1 fun y H2 => r x y H2 fun z H3 => ∃ k, z = .bl k ∧
  (if k = true then tc σ H3 fun w H4 => r' y w H4 fun z' H5 => ∃ k', z' = .bl k' ∧ (if k' = true then td σ H5 fun w' H6 => r'' w w' H6 Q else Q (.bl false) H5) else Q (.bl false) H3)
theorem pe_chain3 {o o' o'' : CmpOp} {r1 r2 r3 : R2} {ta tb tc td : TE} (ho : OpR X (compareOp o) r1) (ho' : OpR X (compareOp o') r2) (ho'' : OpR X (compareOp o'') r3) (ha : PE X p ta) (hb : PE X q tb) (hc : PE X r tc) (hd : PE X u td)
    (hm : lastMarks [o, o', o''] [q, r, u] = false) : PE X (.Compare p [o, o', o''] [q, r, u] pos) (tChain3 r1 r2 r3 ta tb tc td) := by
  refine ⟨fun pins s σ H Q I h => Compare_chain (thn (ha.run pins s σ H _ I h) fun v1 s1 ⟨x1, H1, I1, e1, q1⟩ => chain_link (thn (hb.run pins s1 σ H1 _ I1 q1) fun v2 s2 ⟨x2, H2, I2, e2, q2⟩ =>
    thn (ho pins s2 σ H2 x1 x2 v1 v2 _ I2 e1 e2 q2) fun c s3 ⟨z, H3, I3, e3, k, ek, q3⟩ => ?_)) hm⟩
  subst ek
  cases e3
  refine wpAny_truthy_bool ?_
  cases k with
  | false => exact ite_ff ⟨.bl false, H3, I3, rfl, q3⟩
  | true =>
    refine ite_tt (chain_link (thn (hc.run pins s3 σ H3 _ I3 q3) fun v4 s4 ⟨x4, H4, I4, e4, q4⟩ => thn (ho' pins s4 σ H4 x2 x4 v2 v4 _ I4 e2 e4 q4) fun c s5 ⟨z', H5, I5, e5, k', ek', q5⟩ => ?_))
    subst ek'
    cases e5
    refine wpAny_truthy_bool ?_
    cases k' with
    | false => exact ite_ff ⟨.bl false, H5, I5, rfl, q5⟩
    | true => exact ite_tt (chain_last (thn (hd.run pins s5 σ H5 _ I5 q5) fun v6 s6 ⟨x6, H6, I6, e6, q6⟩ => ho'' pins s6 σ H6 x4 x6 v4 v6 Q I6 e4 e6 q6))
theorem pt_chain3 {o o' o'' : CmpOp} {r1 r2 r3 : R2} {ta tb tc td : TE} (ho : OpR X (compareOp o) r1) (ho' : OpR X (compareOp o') r2) (ho'' : OpR X (compareOp o'') r3) (ha : PE X p ta) (hb : PE X q tb) (hc : PE X r tc) (hd : PE X u td)
    (hm : lastMarks [o, o', o''] [q, r, u] = false) : PT X (.Compare p [o, o', o''] [q, r, u] pos) (tTest (tChain3 r1 r2 r3 ta tb tc td)) := by
  refine ⟨fun pins s σ H Q I h => isTrue_chain (thn (ha.run pins s σ H _ I h) fun v1 s1 ⟨x1, H1, I1, e1, q1⟩ => test_link (thn (hb.run pins s1 σ H1 _ I1 q1) fun v2 s2 ⟨x2, H2, I2, e2, q2⟩ =>
    thn (ho pins s2 σ H2 x1 x2 v1 v2 _ I2 e1 e2 q2) fun c s3 ⟨z, H3, I3, e3, k, ek, q3⟩ => ?_)) hm⟩
  subst ek
  cases e3
  refine wpAny_truthy_bool ?_
  cases k with
  | false =>
    obtain ⟨k2, ee, q'⟩ := q3
    cases ee
    exact ite_ff ⟨H3, I3, q'⟩
  | true =>
    refine ite_tt (test_link (thn (hc.run pins s3 σ H3 _ I3 q3) fun v4 s4 ⟨x4, H4, I4, e4, q4⟩ => thn (ho' pins s4 σ H4 x2 x4 v2 v4 _ I4 e2 e4 q4) fun c s5 ⟨z', H5, I5, e5, k', ek', q5⟩ => ?_))
    subst ek'
    cases e5
    refine wpAny_truthy_bool ?_
    cases k' with
    | false =>
      obtain ⟨k2, ee, q'⟩ := q5
      cases ee
      exact ite_ff ⟨H5, I5, q'⟩
    | true =>
      refine ite_tt (test_last (thn (hd.run pins s5 σ H5 _ I5 q5) fun v6 s6 ⟨x6, H6, I6, e6, q6⟩ => thn (ho'' pins s6 σ H6 x4 x6 v4 v6 _ I6 e4 e6 q6) fun c s7 ⟨z'', H7, I7, e7, k3, ek3, q7⟩ => ?_))
      subst ek3
      cases e7
      exact wpAny_truthy_bool ⟨H7, I7, q7⟩
theorem rd_chn3 {σ : L2.St} {H : Hp} {Q : VK} {c c' c'' : CO} (h : RE X W Φ (.chn3 c c' c'' a b d e) σ H Q) : tChain3 (rCmp X X.K c) (rCmp X X.K c') (rCmp X X.K c'') (RE X W Φ a) (RE X W Φ b) (RE X W Φ d) (RE X W Φ e) σ H Q := by
  refine rd1 (fa := evE Φ a) (k := fun ρ x μ1 => (evE Φ b ρ μ1).bind fun y μ2 => (match cmpD c (fz x) (fz y) with
    | some true => (evE Φ d ρ μ2).bind fun z μ3 => (match cmpD c' (fz y) (fz z) with
      | some true => (evE Φ e ρ μ3).bind fun u μ4 => lift ((cmpD c'' (fz z) (fz u)).map fun b => .sh (.bl b)) μ4
      | some false => .ok (.sh (.bl false)) μ3
      | none => .bad)
    | some false => .ok (.sh (.bl false)) μ2
    | none => .bad)) h fun ρ x μ1 g1 H1 fp v sr r1 er ok => ?_
  simp only [opt_match] at er ok
  refine rd_link (k := fun y t μ2 => if t then (evE Φ d ρ μ2).bind fun z μ3 => (match cmpD c' (fz y) (fz z) with
      | some t => if t then (evE Φ e ρ μ3).bind fun u μ4 => lift ((cmpD c'' (fz z) (fz u)).map fun b => .sh (.bl b)) μ4 else .ok (.sh (.bl false)) μ3
      | none => .bad) else .ok (.sh (.bl false)) μ2) sr r1 er ok fun y t μ2 g2 H2 w sr2 r2 er2 ok2 => ⟨t, rfl, ?_⟩
  cases t with
  | false => exact iteF ((ok2 _ _ rfl).bl sr2.F sr2.cl)
  | true =>
    refine iteT (rd_link (k := fun z t μ3 => if t then (evE Φ e ρ μ3).bind fun u μ4 => lift ((cmpD c'' (fz z) (fz u)).map fun b => .sh (.bl b)) μ4 else .ok (.sh (.bl false)) μ3) sr2 r2 er2 ok2 fun y t μ2 g2 H2 w sr2 r2 er2 ok2 => ⟨t, rfl, ?_⟩)
    cases t with
    | false => exact iteF ((ok2 _ _ rfl).bl sr2.F sr2.cl)
    | true => exact iteT (rd_last sr2 r2 er2 ok2)
theorem s_chn3 (c : At X ck Φ W) {o o' o'' : CO} (hu : simple u = true) (ha : PE X p (RE X W Φ a)) (hb : PE X q (RE X W Φ b)) (hd : PE X r (RE X W Φ d)) (he : PE X u (RE X W Φ e)) :
    PE X (.Compare p [cmOf o, cmOf o', cmOf o''] [q, r, u] pos) (RE X W Φ (.chn3 o o' o'' a b d e)) :=
  PE.imp (pe_chain3 (opR_cmp c.hu o) (opR_cmp c.hu o') (opR_cmp c.hu o'') ha hb hd he (show behindInMarks (cmOf o'') u = false from simple_mark hu)) fun σ H Q h => rd_chn3 h
end
end MP
/-! MP8 -/
set_option Elab.async false
set_option linter.all false
set_option maxRecDepth 100000
set_option maxHeartbeats 1000000
/-! MP8: tests, items, displays, calls. -/
namespace MP
open PySem PySem.Spec PyProof.Rows L2
section
variable {X : Cx} {ck : Ck} {Φ : Fns} {W : WX} {pos pos' : Pos} {p q r u : Expr} {a b d e : E} {es : List E} {ps : List Expr}
abbrev RT (X : Cx) (W : WX) (Φ : Fns) (e : E) : TT := RdT (gm X) W (evE Φ e)
abbrev RA (X : Cx) (W : WX) (Φ : Fns) (es : List E) : TA := RdA (gm X) W (evEs Φ es)
/-! ### tests -/
/-- a truth value's reading serves the test -/
theorem rt_of {t : TE} {f : List Sl → List O → Rs O} {σ : L2.St} {H : Hp} {Q : Bool → Hp → Prop} (i : ∀ Q', RdE (gm X) W f σ H Q' → t σ H Q') (h : RdT (gm X) W f σ H Q) : tTest t σ H Q := i _ h.fB
theorem t_plain (hp : plain p = true) (h : PE X p (RE X W Φ a)) : PT X p (RT X W Φ a) := by
  refine PT.imp (pt_val h (fun whole => ?_)) fun σ H Q q => (show tTest (RE X W Φ a) σ H Q from rt_of (fun _ z => z) q)
  cases p <;> first | rfl | (cases hp; done) | skip
  rename_i op x ps
  cases op <;> first | rfl | cases hp
theorem t_cmp (c : At X ck Φ W) {o : CO} (hs : simple q = true) (ha : PE X p (RE X W Φ a)) (hb : PE X q (RE X W Φ b)) : PT X (.Compare p [cmOf o] [q] pos) (RT X W Φ (.cmp o a b)) :=
  PT.imp (pt_cmpR (opR_cmp c.hu o) ha hb (simple_mark hs)) fun σ H Q h => rt_of (fun _ => rd_cmp) h
theorem t_chn (c : At X ck Φ W) {o o' : CO} (hq : simple q = true) (hr : simple r = true) (ha : PE X p (RE X W Φ a)) (hb : PE X q (RE X W Φ b)) (hd : PE X r (RE X W Φ d)) :
    PT X (.Compare p [cmOf o, cmOf o'] [q, r] pos) (RT X W Φ (.chn o o' a b d)) :=
  PT.imp (pt_chain (opR_cmp c.hu o) (opR_cmp c.hu o') ha hb hd (marks2 hq hr)) fun σ H Q h => rt_of (fun _ => rd_chn) h
theorem t_chn3 (c : At X ck Φ W) {o o' o'' : CO} (hu : simple u = true) (ha : PE X p (RE X W Φ a)) (hb : PE X q (RE X W Φ b)) (hd : PE X r (RE X W Φ d)) (he : PE X u (RE X W Φ e)) :
    PT X (.Compare p [cmOf o, cmOf o', cmOf o''] [q, r, u] pos) (RT X W Φ (.chn3 o o' o'' a b d e)) :=
  PT.imp (pt_chain3 (opR_cmp c.hu o) (opR_cmp c.hu o') (opR_cmp c.hu o'') ha hb hd he (show behindInMarks (cmOf o'') u = false from simple_mark hu)) fun σ H Q h => rt_of (fun _ => rd_chn3) h
/-- a part's test, then what follows from its answer -/
theorem rt1 {σ : L2.St} {H : Hp} {fa : List Sl → List O → Rs O} {Q : VK} {k : List Sl → Bool → List O → Rs O} {R : Bool → Hp → Prop} (h : RdE (gm X) W (fun ρ μ => (fa ρ μ).bind fun x μ1 => match asB x with
    | some c => k ρ c μ1
    | none => .bad) σ H Q)
    (s : ∀ ρ c μ1 g1 H1 fp, SR (gm X) g1 μ1 H1 ρ σ fp → ErOk (gm X) W σ g1 H1 (k ρ c μ1) → (∀ o μ2, k ρ c μ1 = .ok o μ2 → Ret (gm X) g1 μ2 H1 o Q) → R c H1) : RdT (gm X) W fa σ H R := by
  obtain ⟨ρ, μ, g, fp, sr, er, ok⟩ := h
  refine ⟨ρ, μ, g, fp, sr, ?_, fun o μ1 e g1 H1 v fo G => ?_⟩
  · unfold fB
    cases e : fa ρ μ with
    | bad => simp only [e] at er; exact er
    | er cc fs μ1 => simp only [e] at er; exact er
    | ok x μ1 =>
      simp only [e, Rs.bind_ok] at er ⊢
      cases e2 : asB x with
      | none => simp only [e2] at er; exact er.elim
      | some t => trivial
  · unfold fB at e
    cases e1 : fa ρ μ with
    | bad => simp only [e1] at e; cases e
    | er cc fs μ1 => simp only [e1] at e; cases e
    | ok x μ2 =>
      simp only [e1, Rs.bind_ok] at e
      cases e2 : asB x with
      | none => simp only [e2] at e; cases e
      | some t =>
        simp only [e2, Option.map_some, lift_some] at e
        cases e
        obtain ⟨rfl, rfl⟩ := got_bl G
        refine ⟨t, rfl, s ρ t _ g1 H1 fp (sr.go G.go) ?_ fun o μ3 e3 g' H' v' fo' G' => ok o μ3 ?_ g' H' v' fo' (G'.after G.go)⟩
        · have er' := er.to G.go
          simp only [e1, Rs.bind_ok, e2] at er'
          exact er'
        · show (fa ρ μ).bind _ = _
          simp only [e1, Rs.bind_ok, e2]
          exact e3
theorem fB_and : fB (evE Φ (.and a b)) = fun ρ μ => (evE Φ a ρ μ).bind fun x μ1 => match asB x with
    | some c => (if c then fB (evE Φ b) ρ μ1 else .ok (.sh (.bl false)) μ1)
    | none => .bad := by
  funext ρ μ
  show ((evE Φ a ρ μ).bind _).bind _ = _
  cases evE Φ a ρ μ with
  | bad => rfl
  | er c fs μ1 => rfl
  | ok x μ1 =>
    simp only [Rs.bind_ok]
    cases asB x with
    | none => rfl
    | some c =>
      cases c with
      | false => rfl
      | true =>
        unfold fB
        show ((evE Φ b ρ μ1).bind _).bind _ = (evE Φ b ρ μ1).bind _
        cases evE Φ b ρ μ1 with
        | bad => rfl
        | er c fs μ2 => rfl
        | ok y μ2 =>
          simp only [Rs.bind_ok]
          cases asB y <;> rfl
theorem fB_or : fB (evE Φ (.or a b)) = fun ρ μ => (evE Φ a ρ μ).bind fun x μ1 => match asB x with
    | some c => (if c then .ok (.sh (.bl true)) μ1 else fB (evE Φ b) ρ μ1)
    | none => .bad := by
  funext ρ μ
  show ((evE Φ a ρ μ).bind _).bind _ = _
  cases evE Φ a ρ μ with
  | bad => rfl
  | er c fs μ1 => rfl
  | ok x μ1 =>
    simp only [Rs.bind_ok]
    cases asB x with
    | none => rfl
    | some c =>
      cases c with
      | true => rfl
      | false =>
        unfold fB
        show ((evE Φ b ρ μ1).bind _).bind _ = (evE Φ b ρ μ1).bind _
        cases evE Φ b ρ μ1 with
        | bad => rfl
        | er c fs μ2 => rfl
        | ok y μ2 =>
          simp only [Rs.bind_ok]
          cases asB y <;> rfl
theorem t_and {ps : List Expr} (ha : PT X p (RT X W Φ a)) (hb : PW X (.BoolOp .And (q :: ps) pos) (RT X W Φ b)) : PW X (.BoolOp .And (p :: q :: ps) pos) (RT X W Φ (.and a b)) := by
  refine ⟨fun wh pins s σ H Q I h => (pw_and ha hb).run wh pins s σ H Q I ?_⟩
  have h : RdE (gm X) W (fB (evE Φ (.and a b))) σ H (fun x H' => ∃ k, x = .bl k ∧ Q k H') := h
  rw [fB_and] at h
  refine rt1 h fun ρ c μ1 g1 H1 fp sr er ok => ?_
  cases c with
  | false =>
    obtain ⟨k, e, hq⟩ := (ok _ _ rfl).bl sr.F sr.cl
    cases e
    exact iteF hq
  | true => exact iteT ⟨ρ, μ1, g1, fp, sr, er, ok⟩
theorem t_or {ps : List Expr} (ha : PT X p (RT X W Φ a)) (hb : PW X (.BoolOp .Or (q :: ps) pos) (RT X W Φ b)) : PW X (.BoolOp .Or (p :: q :: ps) pos) (RT X W Φ (.or a b)) := by
  refine ⟨fun wh pins s σ H Q I h => (pw_or ha hb).run wh pins s σ H Q I ?_⟩
  have h : RdE (gm X) W (fB (evE Φ (.or a b))) σ H (fun x H' => ∃ k, x = .bl k ∧ Q k H') := h
  rw [fB_or] at h
  refine rt1 h fun ρ c μ1 g1 H1 fp sr er ok => ?_
  cases c with
  | true =>
    obtain ⟨k, e, hq⟩ := (ok _ _ rfl).bl sr.F sr.cl
    cases e
    exact iteT hq
  | false => exact iteF ⟨ρ, μ1, g1, fp, sr, er, ok⟩
theorem t_nt (ha : PT X p (RT X W Φ a)) : PT X (.UnaryOp .Not p pos) (RT X W Φ (.nt a)) := PT.imp (pt_not ha) fun σ H Q h => by
  have e0 : fB (evE Φ (.nt a)) = fun ρ μ => (evE Φ a ρ μ).bind fun x μ1 => match asB x with
    | some c => .ok (.sh (.bl (!c))) μ1
    | none => .bad := by
    funext ρ μ
    show ((evE Φ a ρ μ).bind _).bind _ = _
    cases evE Φ a ρ μ with
    | bad => rfl
    | er c fs μ1 => rfl
    | ok x μ1 =>
      simp only [Rs.bind_ok]
      cases asB x <;> rfl
  have h : RdE (gm X) W (fB (evE Φ (.nt a))) σ H (fun x H' => ∃ k, x = .bl k ∧ Q k H') := h
  rw [e0] at h
  refine rt1 h fun ρ c μ1 g1 H1 fp sr er ok => ?_
  obtain ⟨k, e, hq⟩ := (ok _ _ rfl).bl sr.F sr.cl
  cases e
  exact hq
theorem s_ife (ht : PT X p (RT X W Φ a)) (hb : PE X q (RE X W Φ b)) (hd : PE X r (RE X W Φ d)) : PE X (.IfExp p q r pos) (RE X W Φ (.ife a b d)) := PE.imp (pe_ifExp ht hb hd) fun σ H Q h => by
  have e0 : evE Φ (.ife a b d) = fun ρ μ => (evE Φ a ρ μ).bind fun x μ1 => match asB x with
    | some c => if c then evE Φ b ρ μ1 else evE Φ d ρ μ1
    | none => .bad := by
    funext ρ μ
    show (evE Φ a ρ μ).bind _ = _
    cases evE Φ a ρ μ with
    | bad => rfl
    | er c fs μ1 => rfl
    | ok x μ1 =>
      simp only [Rs.bind_ok]
      cases asB x with
      | none => rfl
      | some c => cases c <;> rfl
  have h : RdE (gm X) W (evE Φ (.ife a b d)) σ H Q := h
  rw [e0] at h
  refine rt1 h fun ρ c μ1 g1 H1 fp sr er ok => ?_
  cases c with
  | true => exact iteT ⟨ρ, μ1, g1, fp, sr, er, ok⟩
  | false => exact iteF ⟨ρ, μ1, g1, fp, sr, er, ok⟩
/-! ### items, slices, fields -/
theorem s_ix (hu : X.A.units + 65 < cLine) (hs : simple q = true) (ha : PE X p (RE X W Φ a)) (hb : PE X q (RE X W Φ b)) : PE X (.Subscript p q pos) (RE X W Φ (.ix a b)) :=
  PE.imp (pe_ix (ix_all hu) ha hb (simple_ix hs)) fun σ H Q h => rd2l (fa := evE Φ a) (fb := evE Φ b) (k := fun x y => (ixD (fz x) (fz y)).map .sh) h
    fun x y o μ g2 H2 v w F c r1 r2 e ret => by
    obtain ⟨dd, e', rfl⟩ := Option.map_eq_some_iff.mp e
    exact ix_sound (X := X) e' F c r1 r2 ret
abbrev RO (X : Cx) (W : WX) (Φ : Fns) (e : Option E) : TO := RdO (gm X) W (evO Φ e)
theorem o_none : PO X none (RO X W Φ none) := PO.imp po_none fun σ H Q h => by
  obtain ⟨ρ, μ, g, fp, sr, er, ok⟩ := h
  exact ok none μ rfl g H sr.pure
theorem o_some (ha : PE X p (RE X W Φ a)) : PO X (some p) (RO X W Φ (some a)) := PO.imp (po_some ha) fun σ H Q h => by
  obtain ⟨ρ, μ, g, fp, sr, er, ok⟩ := h
  have er : ErOk (gm X) W σ g H ((evE Φ a ρ μ).bind fun x μ1 => lift (optI (fz x)) μ1) := er
  have ok : ∀ o μ', ((evE Φ a ρ μ).bind fun x μ1 => lift (optI (fz x)) μ1) = .ok o μ' → ∀ g' H', Go (gm X) g H g' μ' H' → Q o H' := ok
  refine ⟨ρ, μ, g, fp, sr, er.of_bind, fun x μ1 e1 g1 H1 v fo G => ?_⟩
  obtain ⟨G1, r1⟩ := G.fz
  rw [e1, Rs.bind_ok] at er ok
  cases e2 : fz x <;> simp only [e2, optI, lift] at er ok r1 <;> first | exact er.elim | skip
  simp only [Rp] at r1
  exact ⟨_, r1, ok _ _ rfl _ _ G1⟩
theorem s_sl {lo hi : Option E} {l h : Option Expr} {p2 : Pos} (ha : PE X p (RE X W Φ a)) (hl : PO X l (RO X W Φ lo)) (hh : PO X h (RO X W Φ hi)) : PE X (.Subscript p (.Slice l h none p2) pos) (RE X W Φ (.sl a lo hi)) :=
  PE.imp (pe_slice sl_cut ha hl hh) fun σ H Q hq => rd1 (fa := evE Φ a) (k := fun ρ x μ1 => (evO Φ lo ρ μ1).bind fun l μ2 => (evO Φ hi ρ μ2).bind fun h μ3 => lift (cutD (fz x) l h) μ3) hq fun ρ x μ1 g1 H1 fp v sr r1 er ok => by
    refine ⟨ρ, μ1, g1, fp, sr, er.of_bind, fun i μ2 e2 g2 H2 G2 => ?_⟩
    have er2 := ErOk.bind_to er e2 G2
    rw [e2, Rs.bind_ok] at ok
    refine ⟨ρ, μ2, g2, fp, sr.go G2, er2.of_bind, fun j μ3 e3 g3 H3 G3 => ?_⟩
    have er3 := ErOk.bind_to er2 e3 G3
    rw [e3, Rs.bind_ok] at ok
    obtain ⟨o, eo⟩ := lift_some_of er3
    have G := G2.trans G3
    exact cut_sound (Γ := gm X) eo G.F G.cl (Rp.le G.le _ _ r1) fun g' H' v' fo' G' => ok o μ3 (by rw [eo]; rfl) g' H' v' fo' (G'.after G)
theorem s_fld (c : At X ck Φ W) {cl f : Str} (hm : (cl, f) ∈ ck.fl) (hb : notCall0 p = true) (ha : PE X p (RE X W Φ a)) : PE X (.Attribute p f pos) (RE X W Φ (.fld cl a f)) :=
  PE.imp (pe_fld ha (base_call0 hb)) fun σ H Q h => rd1l (fa := evE Φ a) (k := fun x => (fldD cl (fz x) f).map .sh) h fun x o μ g1 H1 v F cc r1 e ret => by
    obtain ⟨dd, e', rfl⟩ := Option.map_eq_some_iff.mp e
    unfold fldD at e'
    split at e'
    · split at e'
      · rename_i ex ec
        rw [ex] at r1
        simp only [Rp] at r1
        obtain ⟨ad, dx, vs, rfl, s, n, rs⟩ := r1
        obtain ⟨w, h1, h2⟩ := zip_lookup rs e'
        obtain ⟨k1, k2⟩ := c.st.fl _ hm
        subst ec
        exact ⟨ad, _, dx, _, w, rfl, F _ _ s, k1, k2, h1, ret.sh F cc h2⟩
      · cases e'
    · cases e'
/-! ### displays -/
theorem a_nil : PA X [] (RA X W Φ []) := PA.imp pa_nil fun σ H Q h => by
  obtain ⟨ρ, μ, g, fp, sr, er, ok⟩ := h
  exact ok [] μ rfl g H [] [] (Gots.nil sr.F sr.cl)
theorem a_cons (hs : noStar p = true) (ha : PE X p (RE X W Φ a)) (hr : PA X ps (RA X W Φ es)) : PA X (p :: ps) (RA X W Φ (a :: es)) := PA.imp (pa_cons ha hr (star_cons hs)) fun σ H Q h => by
  obtain ⟨ρ, μ, g, fp, sr, er, ok⟩ := h
  have er : ErOk (gm X) W σ g H ((evE Φ a ρ μ).bind fun x μ1 => (evEs Φ es ρ μ1).bind fun xs μ2 => .ok (x :: xs) μ2) := er
  have ok : ∀ o μ', ((evE Φ a ρ μ).bind fun x μ1 => (evEs Φ es ρ μ1).bind fun xs μ2 => .ok (x :: xs) μ2) = .ok o μ' → ∀ g' H' v fo, Gots (gm X) g H g' μ' H' o v fo → Q v H' := ok
  refine ⟨ρ, μ, g, fp, sr, er.of_bind, fun x μ1 e1 g1 H1 v fo G => ?_⟩
  have er1 := ErOk.bind_to er e1 G.go
  rw [e1, Rs.bind_ok] at ok
  refine ⟨ρ, μ1, g1, fp, sr.go G.go, er1.of_bind, fun xs μ2 e2 g2 H2 vs fo' G2 => ?_⟩
  rw [e2, Rs.bind_ok] at ok
  exact ok _ _ rfl g2 H2 _ _ (Gots.cons G G2)
theorem s_lst (ha : PA X ps (RA X W Φ es)) : PE X (.List ps pos) (RE X W Φ (.lst es)) := PE.imp (pe_lst ha) fun σ H Q h => by
  obtain ⟨ρ, μ, g, fp, sr, er, ok⟩ := h
  have er : ErOk (gm X) W σ g H ((evEs Φ es ρ μ).bind fun xs μ1 => if xs.length ≤ LIM then .ok (O.ol xs) μ1 else .bad) := er
  have ok : ∀ o μ', ((evEs Φ es ρ μ).bind fun xs μ1 => if xs.length ≤ LIM then .ok (O.ol xs) μ1 else .bad) = .ok o μ' → ∀ g' H' v fo, Got (gm X) g H g' μ' H' o v fo → Q v H' := ok
  refine ⟨ρ, μ, g, fp, sr, er.of_bind, fun xs μ1 e1 g1 H1 vs fo G => ?_⟩
  have er1 := ErOk.bind_to er e1 G.go
  rw [e1, Rs.bind_ok] at ok
  by_cases hl : xs.length ≤ LIM
  · rw [if_pos hl] at ok
    have hz : ∀ {l : List O} {v : List V} {f : List Addr}, Ows (gm X) g1 H1 l v f → l.length = v.length := fun {l} => by
      induction l with
      | nil => intro v f z; simp only [Ows] at z; rw [z.1]; rfl
      | cons o l ih =>
        intro v f z
        simp only [Ows] at z
        obtain ⟨v1, v2, f1, f2, rfl, rfl, _, z⟩ := z
        simp [ih z]
    refine ⟨by rw [← hz G.ow, ← LIM_eq]; exact hl, fun pp np => ?_⟩
    exact ok _ _ rfl _ _ _ _ (Got.ol G.go.F G.go.cl np G.ow G.nd G.ap G.go G.new)
  · rw [if_neg hl] at er1
    exact er1.elim
theorem s_tup {k : Nat} (ha : PA X ps (RA X W Φ es)) : PE X (.Tuple ps k pos) (RE X W Φ (.tup es)) := PE.imp (pe_tup ha) fun σ H Q h =>
  rdA1 (fa := evEs Φ es) (k := fun xs μ1 => if xs.length ≤ LIM then .ok (.sh (.tup (fzs xs))) μ1 else .bad) h fun xs μ1 g1 H1 vs F c r er ok => by
    by_cases hl : xs.length ≤ LIM
    · rw [if_pos hl] at ok
      refine ⟨?_, Ret.tup F c r (ok _ _ rfl)⟩
      rw [← r.len, fzs_map, List.length_map, ← LIM_eq]
      exact hl
    · rw [if_neg hl] at er
      exact er.elim
/-- the items of a new list frozen -/
theorem Got.shl {Γ : Env1} {g g' : Gh} {H H' : Hp} {μ' : List O} {l : List O} {v : V} {fo : List Addr} (G : Got Γ g H g' μ' H' (.ol l) v fo) : ∃ g2 fo2, Got Γ g H g2 μ' H' (.ol ((l.map MP.fz).map .sh)) v fo2 := by
  have ow := G.ow
  simp only [Ow] at ow
  obtain ⟨a, vs, fp', rfl, rfl, ha, r⟩ := ow
  obtain ⟨n1, n2⟩ := List.nodup_cons.mp G.nd
  have sub : ∀ x ∈ fp', x ∈ a :: fp' := fun x hx => List.mem_cons_of_mem _ hx
  have le := Gh.put_le (g := g') (H := H') (fo := fp') fun x h => (G.ap x (sub x h)).1
  refine ⟨g'.put H' fp', [a], G.go.put (fun x hx => G.new x (sub x hx)) (fun x hx => G.ap x (sub x hx)), ?_, List.nodup_cons.mpr ⟨by simp, .nil⟩, fun x hx => ?_, fun x hx => ?_⟩
  · simp only [Ow]
    refine ⟨a, vs, [], rfl, rfl, ha, ?_⟩
    have q := Ows.fz le l vs fp' r fun x hx u e => by rw [Gh.put_at hx]; exact e
    rw [fzs_map] at q
    exact q.sh
  · rcases List.mem_cons.mp hx with rfl | hx
    · exact G.new _ List.mem_cons_self
    · cases hx
  · rcases List.mem_cons.mp hx with rfl | hx
    · obtain ⟨k1, k2⟩ := G.ap x List.mem_cons_self
      exact ⟨by rw [Gh.put_ne n1]; exact k1, k2⟩
    · cases hx
theorem Rps.reverse {Γ : Env1} {g : Gh} : ∀ {ds : List D} {vs : List V}, Rps Γ g ds vs → Rps Γ g ds.reverse vs.reverse
  | [], vs, r => by
    simp only [Rps] at r
    rw [r]
    simp [Rps]
  | d :: ds, vs, r => by
    simp only [Rps] at r
    obtain ⟨v, vs', rfl, r1, r2⟩ := r
    rw [List.reverse_cons, List.reverse_cons]
    exact (Rps.reverse r2).app (by simp only [Rps]; exact ⟨v, [], rfl, r1, rfl⟩)
theorem s_rvs {k : Nat} {p1 p2 p3 : Pos} (ha : PE X p (RE X W Φ a)) : PE X (.Subscript p (.Slice none none (some (.UnaryOp .USub (.Constant (.int 1) k p1) p2)) p3) pos) (RE X W Φ (.rvs a)) :=
  PE.imp (pe_revL ha) fun σ H Q h => rd1l (fa := evE Φ a) (k := fun x => rvsD (fz x)) h fun x o μ g1 H1 v F cc r1 e ret => by
    unfold rvsD at e
    split at e
    · rename_i l ex
      cases e
      rw [ex] at r1
      simp only [Rp] at r1
      obtain ⟨ad, vs, rfl, s, r⟩ := r1
      exact ⟨ad, vs, rfl, SqL.of (F _ _ s), Ret.lst F cc r.reverse ret⟩
    · cases e
theorem s_shl (ha : PE X p (RE X W Φ a)) : PE X p (RE X W Φ (.shl a)) := PE.imp ha fun σ H Q h => by
  obtain ⟨ρ, μ, g, fp, sr, er, ok⟩ := h
  have er : ErOk (gm X) W σ g H ((evE Φ a ρ μ).bind fun x μ1 => (match x with
    | .ol l => .ok (O.ol ((l.map fz).map .sh)) μ1
    | _ => .bad)) := er
  have ok : ∀ o μ', ((evE Φ a ρ μ).bind fun x μ1 => (match x with
    | .ol l => .ok (O.ol ((l.map fz).map .sh)) μ1
    | _ => .bad)) = .ok o μ' → ∀ g' H' v fo, Got (gm X) g H g' μ' H' o v fo → Q v H' := ok
  refine ⟨ρ, μ, g, fp, sr, er.of_bind, fun o μ1 e1 g1 H1 v fo G => ?_⟩
  have er1 := ErOk.bind_to er e1 G.go
  rw [e1, Rs.bind_ok] at ok
  cases o with
  | ol l =>
    obtain ⟨g2, fo2, G2⟩ := G.shl
    exact ok _ _ rfl g2 H1 _ _ G2
  | _ => exact er1.elim
/-- a new dict -/
theorem s_dnew : PE X (.Dict [] [] pos) (RE X W Φ (.dnew true)) := PE.imp pe_dnewN fun σ H Q h => by
  obtain ⟨ρ, μ, g, fp, sr, er, ok⟩ := h
  intro p np hm
  have G := Go.made (u := ndict X.prog X.w p []) sr.F sr.cl np
  refine ok _ μ rfl g _ _ [p] ⟨G, ?_, List.nodup_cons.mpr ⟨by simp, .nil⟩, fun a ha => ?_, fun a ha => ?_⟩
  · simp only [Ow]
    exact ⟨p, [], [], [], rfl, rfl, ⟨hm, [], .inl upd_same, rfl, rfl, .nil, Nat.zero_le _, rfl, .nil⟩, by simp only [Rps], by simp only [Ows]; exact ⟨trivial, trivial⟩⟩
  · rcases List.mem_cons.mp ha with rfl | ha
    · exact .inr np
    · cases ha
  · rcases List.mem_cons.mp ha with rfl | ha
    · exact ⟨sr.F.free np, fun z => by
        obtain ⟨u, e⟩ := sr.cl.there _ z
        rw [np] at e; cases e⟩
    · cases ha
/-! ### calls -/
theorem call_end {Q : VK} {σ : L2.St} {g1 : Gh} {H1 : Hp} {μ1 : List O} {ds : List D} {vs : List V} {φ : List D → List O → Rs O} (F : Same g1.F H1) (c : Cl (gm X) g1 H1 μ1) (r : Rps (gm X) g1 ds vs) (er : ErOk (gm X) W σ g1 H1 (φ ds μ1))
    (ok : ∀ o μ2, φ ds μ1 = .ok o μ2 → Ret (gm X) g1 μ2 H1 o Q) : spF (gm X) φ vs H1 Q (WE W σ) := by
  refine ⟨ds, μ1, g1, r, F, c, ?_⟩
  cases e : φ ds μ1 with
  | ok o μ2 => exact ok o μ2 e
  | er cc fs μ2 => rw [e] at er; exact er
  | bad => rw [e] at er; exact er
theorem s_call0 (c : At X ck Φ W) {f : Str} (hg : ck.gl f = true) (hf : f ∈ ck.fs) : PE X (.Call (.Name f pos') [] [] pos) (RE X W Φ (.call f [])) := by
  obtain ⟨fa, fd, pr, hm, hk, hb, F⟩ := c.st.fn f hf
  have hr : Room ck.lv X.A := c.room.mono (Nat.le_succ _)
  refine PE.imp (pe_callS0 F hr (c.gl hg) hm hk hb (fun σ => passAt c.tk σ) (okName_db (Ck.okN hg))) fun σ H Q h => ?_
  obtain ⟨ρ, μ, g, fp, sr, er, ok⟩ := h
  exact call_end (ds := []) (φ := Φ f) (μ1 := μ) sr.F sr.cl (by simp only [Rps]) er ok
theorem s_call (c : At X ck Φ W) {f : Str} (hg : ck.gl f = true) (hf : f ∈ ck.fs) (hs : (p :: ps).all noStar = true) (ha : PA X (p :: ps) (RA X W Φ es)) : PE X (.Call (.Name f pos') (p :: ps) [] pos) (RE X W Φ (.call f es)) := by
  obtain ⟨fa, fd, pr, hm, hk, hb, F⟩ := c.st.fn f hf
  have hr : Room ck.lv X.A := c.room.mono (Nat.le_succ _)
  simp only [List.all_cons, Bool.and_eq_true] at hs
  refine PE.imp (pe_callS F hr (c.gl hg) hm hk hb (fun σ => passAt c.tk σ) ha (okName_db (Ck.okN hg)) (star_cons hs.1) (star_none hs.2)) fun σ H Q h => ?_
  exact rdA1 (fa := evEs Φ es) (k := fun xs μ1 => Φ f (fzs xs) μ1) h fun xs μ1 g1 H1 vs F1 cl r er ok => call_end F1 cl r er ok
theorem s_mk (c : At X ck Φ W) {f : Str} (hg : ck.gl f = true) (hf : f ∈ ck.cs) (hs : (p :: ps).all noStar = true) (ha : PA X (p :: ps) (RA X W Φ es)) : PE X (.Call (.Name f pos') (p :: ps) [] pos) (RE X W Φ (.mk f es)) := by
  obtain ⟨fa, fd, pr, hm, M, hb, F⟩ := c.st.mc f hf
  refine PE.imp (pe_makeS M F c.room (c.gl hg) hm hb (fun σ => passAt c.tk σ) ha (okName_db (Ck.okN hg)) hs) fun σ H Q h => ?_
  refine rdA1 (fa := evEs Φ es) (k := fun xs μ1 => Φ f (fzs xs) μ1) h fun xs μ1 g1 H1 vs F1 cl r er ok x dx nx nd ne => ?_
  refine ⟨x, dx, vs, H1, fzs xs, μ1, g1, rfl, rfl, nx, nd, ne, r, F1, cl, ?_⟩
  cases e : Φ f (fzs xs) μ1 with
  | ok o μ2 => exact fun g' H' fo G => ⟨rfl, ok o μ2 e g' H' _ fo G⟩
  | er cc fs μ2 => rw [e] at er; exact er
  | bad => rw [e] at er; exact er
theorem zip_none {ns : List Str} {vs : List V} {m : Str} (h : m ∉ ns) : (ns.zip vs).lookup m = none := by
  induction ns generalizing vs with
  | nil => rfl
  | cons n ns ih =>
    cases vs with
    | nil => rfl
    | cons v vs =>
      rw [List.zip_cons_cons, List.lookup_cons]
      have h1 : (m == n) = false := beq_eq_false_iff_ne.mpr fun z => h (by rw [z]; exact List.mem_cons_self)
      rw [h1]
      exact ih fun z => h (List.mem_cons_of_mem _ z)
/-- the receiver's reading, then what the arguments want -/
theorem rd_meth {σ : L2.St} {H : Hp} {Q : VK} {cl m : Str} {t : TA} (h : RE X W Φ (.meth cl a m es) σ H Q)
    (ht : ∀ σ H (R : List V → Hp → Prop), RA X W Φ es σ H R → t σ H R) : tMethS (He.ga X.K cl) m (spF (gm X) (Φ (cl ++ "." ++ m))) (WE W) (RE X W Φ a) t σ H Q :=
  rd1 (fa := evE Φ a) (k := fun ρ x μ1 => if metO cl m (fz x) then (evEs Φ es ρ μ1).bind fun xs μ2 => Φ (cl ++ "." ++ m) (fz x :: fzs xs) μ2 else .bad) h fun ρ x μ1 g1 H1 fp v sr r1 er ok => by
    cases em : metO cl m (fz x) with
    | false => rw [em] at er; exact er.elim
    | true =>
      rw [em, if_pos rfl] at er ok
      have r2 := r1
      unfold metO at em
      split at em
      · rename_i c' ns fs ex
        simp only [Bool.and_eq_true, decide_eq_true_eq] at em
        obtain ⟨rfl, hn⟩ := em
        rw [ex] at r1
        simp only [Rp] at r1
        obtain ⟨ad, dx, vs, rfl, s, n, rs⟩ := r1
        refine ⟨ad, dx, _, rfl, sr.F _ _ s, zip_none hn, ht _ _ _ ⟨ρ, μ1, g1, fp, sr, er.of_bind, fun xs μ2 e2 g2 H2 us fo G => ?_⟩⟩
        obtain ⟨G2, r3⟩ := G.fz
        have er2 := ErOk.bind_to er e2 G2
        rw [e2, Rs.bind_ok] at ok
        refine call_end (ds := fz x :: fzs xs) (φ := Φ (c' ++ "." ++ m)) G2.F G2.cl (by simp only [Rps]; exact ⟨_, _, rfl, Rp.le G2.le _ _ r2, r3⟩) er2 fun o μ3 e3 g' H' v' fo' G' => ok o μ3 e3 g' H' v' fo' (G'.after G2)
      · cases em
theorem s_meth (c : At X ck Φ W) {cl m : Str} {o : Expr} {ap : Pos} (hm : (cl, m) ∈ ck.ms) (hb : notCall0 o = true) (hl : (ap.endLine == pos.line) = true) (hn : (p :: ps).length < 30) (hs : (p :: ps).all noStar = true) (ho : PE X o (RE X W Φ a))
    (ha : PA X (p :: ps) (RA X W Φ es)) : PE X (.Call (.Attribute o m ap) (p :: ps) [] pos) (RE X W Φ (.meth cl a m es)) := by
  obtain ⟨f, fd, pr, C, M, b, F⟩ := c.st.ms _ hm
  exact PE.imp (pe_methS ho C M F (c.room.mono (Nat.le_succ _)) b (fun σ => passAt c.tk σ) ha hl hs hn (base_call0 hb)) fun σ H Q h => rd_meth h fun _ _ _ z => z
theorem s_meth0 (c : At X ck Φ W) {cl m : Str} {o : Expr} {ap : Pos} (hm : (cl, m) ∈ ck.ms) (hb : notCall0 o = true) (hl : (ap.endLine == pos.line) = true) (ho : PE X o (RE X W Φ a)) : PE X (.Call (.Attribute o m ap) [] [] pos) (RE X W Φ (.meth cl a m [])) := by
  obtain ⟨f, fd, pr, C, M, b, F⟩ := c.st.ms _ hm
  refine PE.imp (pe_methS0 ho C M F (c.room.mono (Nat.le_succ _)) b (fun σ => passAt c.tk σ) hl (base_call0 hb)) fun σ H Q h => rd_meth h fun σ H R z => ?_
  obtain ⟨ρ, μ, g, fp, sr, er, ok⟩ := z
  exact ok [] μ rfl g H [] [] (Gots.nil sr.F sr.cl)
/-! ### built-ins -/
theorem s_bi (c : At X ck Φ W) {bb : Bi} {n : Str} {f : Value} (e : biName bb = some (n, f)) (hg : ck.gl n = true) (hf : n ∈ ck.bl) (hs : (p :: ps).all noStar = true) (ha : PA X (p :: ps) (RA X W Φ es)) :
    PE X (.Call (.Name n pos') (p :: ps) [] pos) (RE X W Φ (.bi bb es)) := by
  simp only [List.all_cons, Bool.and_eq_true] at hs
  have im : ∀ σ H Q, RE X W Φ (.bi bb es) σ H Q → tCB (rBi X X.K bb) (RA X W Φ es) σ H Q := fun σ H Q h =>
    rdA1l (fa := evEs Φ es) (k := fun xs => biD bb (fzs xs)) h fun xs o μ g1 H1 vs F cl r e' ret => bi_sound (X := X) e e' F cl r ret
  rcases bi_kind e with ⟨id, rfl⟩ | ⟨T, rfl⟩
  · exact PE.imp (pe_callB (bi_rule c.calm c.hu e) (c.gl hg) (c.st.bl _ hf) (bi_boot e) ha (okName_nm (Ck.okN hg)) (okName_db (Ck.okN hg)) (star_cons hs.1) (star_none hs.2)) im
  · exact PE.imp (pe_callTy (bi_rule c.calm c.hu e) (c.gl hg) (c.st.bl _ hf) (bi_boot e) ha (okName_nm (Ck.okN hg)) (okName_db (Ck.okN hg)) (star_cons hs.1) (star_none hs.2)) im
/-- a built-in class, named -/
theorem s_cls (c : At X ck Φ W) {n : Str} {T : String} (h : clsOk ck n p = true) (hv : bootBuiltins n = some (.type T)) : PE X p (tC (.ty T)) := by
  unfold clsOk at h
  split at h
  · simp only [Bool.and_eq_true, decide_eq_true_eq] at h
    obtain ⟨rfl, hg, hb⟩ := h
    exact pe_bltn (v := .ty T) (c.gl hg) (c.st.bl _ (by simpa using hb)) hv rfl (okName_nm (Ck.okN hg)) (okName_db (Ck.okN hg))
  · cases h
theorem clsOk_star {n : Str} (h : clsOk ck n p = true) : noStar p = true := by
  cases p <;> first | rfl | cases h
theorem s_isi1 (c : At X ck Φ W) {bb : Bi} {n : Str} {T : String} (e : isCls bb = some T) (hv : bootBuiltins n = some (.type T)) (hg : ck.gl "isinstance" = true) (hf : ("isinstance" : Str) ∈ ck.bl) (hs : noStar p = true) (hq : clsOk ck n q = true)
    (ha : PE X p (RE X W Φ a)) : PE X (.Call (.Name "isinstance" pos') [p, q] [] pos) (RE X W Φ (.bi bb [a])) := by
  have hp : PA X [p, q] (tCons (RE X W Φ a) (tCons (tC (.ty T)) tNil)) := pa_cons ha (pa_cons (s_cls c hq hv) pa_nil (star_cons (clsOk_star hq))) (star_cons hs)
  refine PE.imp (pe_callB call_isi (c.gl hg) (c.st.bl _ hf) (by decide +kernel) hp (okName_nm (Ck.okN hg)) (okName_db (Ck.okN hg)) (star_cons hs) (star_none (by simp [clsOk_star hq]))) fun σ H Q h => ?_
  refine rd1l (fa := evE Φ a) (k := fun x => biD bb [fz x]) (Q := Q) ?_ fun x o μ g1 H1 v F cl r1 e' ret => ?_
  · have e0 : evE Φ (.bi bb [a]) = fun ρ μ => (evE Φ a ρ μ).bind fun x μ1 => lift (biD bb [fz x]) μ1 := by
      funext ρ μ
      show (((evE Φ a ρ μ).bind fun x μ1 => (Rs.ok [] μ1 : Rs (List O)).bind fun xs μ2 => .ok (x :: xs) μ2)).bind _ = _
      cases evE Φ a ρ μ <;> rfl
    have h : RdE (gm X) W (evE Φ (.bi bb [a])) σ H Q := h
    rw [e0] at h
    exact h
  · obtain ⟨t, ht, rfl⟩ := is_val e e'
    exact ⟨v, .ty T, .type t, .type T, _, rfl, .ty T, tyD_at (Γ := gm X) ht F r1, kit_ty (kit_at (tyD_mem ht) (isCls_mem e)), ret.bl F cl⟩
theorem s_isi2 (c : At X ck Φ W) {k : Nat} {tp : Pos} (hg : ck.gl "isinstance" = true) (hf : ("isinstance" : Str) ∈ ck.bl) (hs : noStar p = true) (hq : clsOk ck "list" q = true) (hr : clsOk ck "tuple" r = true)
    (ha : PE X p (RE X W Φ a)) : PE X (.Call (.Name "isinstance" pos') [p, .Tuple [q, r] k tp] [] pos) (RE X W Φ (.bi .isSeq [a])) := by
  have hT : PE X (.Tuple [q, r] k tp) (tTup (tCons (tC (.ty "list")) (tCons (tC (.ty "tuple")) tNil))) := pe_tup (pa_cons (s_cls c hq (by decide +kernel)) (pa_cons (s_cls c hr (by decide +kernel)) pa_nil (star_cons (clsOk_star hr))) (star_cons (clsOk_star hq)))
  have hp : PA X [p, .Tuple [q, r] k tp] (tCons (RE X W Φ a) (tCons (tTup (tCons (tC (.ty "list")) (tCons (tC (.ty "tuple")) tNil))) tNil)) := pa_cons ha (pa_cons hT pa_nil (star_cons rfl)) (star_cons hs)
  refine PE.imp (pe_callB call_isiT (c.gl hg) (c.st.bl _ hf) (by decide +kernel) hp (okName_nm (Ck.okN hg)) (okName_db (Ck.okN hg)) (star_cons hs) (star_none rfl)) fun σ H Q h => ?_
  refine rd1l (fa := evE Φ a) (k := fun x => biD .isSeq [fz x]) (Q := Q) ?_ fun x o μ g1 H1 v F cl r1 e' ret => ⟨by decide, fun T nT => ?_⟩
  · have e0 : evE Φ (.bi .isSeq [a]) = fun ρ μ => (evE Φ a ρ μ).bind fun x μ1 => lift (biD .isSeq [fz x]) μ1 := by
      funext ρ μ
      show (((evE Φ a ρ μ).bind fun x μ1 => (Rs.ok [] μ1 : Rs (List O)).bind fun xs μ2 => .ok (x :: xs) μ2)).bind _ = _
      cases evE Φ a ρ μ <;> rfl
    have h : RdE (gm X) W (evE Φ (.bi .isSeq [a])) σ H Q := h
    rw [e0] at h
    exact h
  · obtain ⟨t, ht, rfl⟩ := isSeq_val e'
    have G := Go.laid (u := .tup [.ty "list", .ty "tuple"]) F cl nT
    have k1 := kit_ty (K := X.K) (kit_at (c := "list") (tyD_mem ht) (by decide))
    have k2 := kit_ty (K := X.K) (kit_at (c := "tuple") (tyD_mem ht) (by decide))
    refine ⟨v, T, [.ty "list", .ty "tuple"], .type t, [.type "list", .type "tuple"], decide (t = "list") || decide (t = "tuple"), rfl, upd_same, .cons (.ty _) (.cons (.ty _) .nil), tyD_at (Γ := gm X) ht G.F (Rp.le G.le _ _ r1), ?_, ?_⟩
    · have h1 : decide ("list" = "int") = false := by decide
      have h2 : decide ("tuple" = "int") = false := by decide
      rw [h1, Bool.and_false, Bool.or_false] at k1
      rw [h2, Bool.and_false, Bool.or_false] at k2
      refine kitAny_cons k1 (fun e1 => kitAny_cons k2 (fun e2 => ?_) fun e2 => ?_) fun e1 => ?_
      · rw [e1, e2]; rfl
      · rw [e1, e2]; rfl
      · rw [e1]; rfl
    · exact Ret.bl G.F G.cl fun g' H' v' fo G' => ret g' H' v' fo (G'.after G)
/-! ### methods of built-in values -/
theorem few_all {p : Expr} {ps : List Expr} {cpos : Pos} {env : Env} (hs : (p :: ps).all noStar = true) (hn : (p :: ps).length < 30) : ((backTo cpos (starEach (p :: ps) env)).all (fun x => !x.1) && (backToKw cpos (keywordEach [] env)).all (fun x => x.1.isSome)
      && decide ((p :: ps).length + ([] : List Keyword).length + (if ([] : List Keyword).isEmpty then 0 else 1) < 30)) = true := by
  rw [star_form hs]
  simp [backToKw, keywordEach]
  simpa using hn
theorem rd_bm {σ : L2.St} {H : Hp} {Q : VK} {bb : Bi} {t : TA} {c : V → Hp → Prop} {r : V → List V → Hp → VK → Prop} (h : RE X W Φ (.bm bb a es) σ H Q)
    (ht : ∀ σ H (R : List V → Hp → Prop), RA X W Φ es σ H R → t σ H R)
    (hc : ∀ (d : D) (g : Gh) (H : Hp) (v : V), bmOk bb d = true → Same g.F H → Rp (gm X) g d v → c v H)
    (hr : ∀ (d : D) (ds : List D) (o : O) (g : Gh) (μ : List O) (H : Hp) (v : V) (vs : List V) (Q : VK), biD bb (d :: ds) = some o → Same g.F H → Cl (gm X) g H μ → Rp (gm X) g d v → Rps (gm X) g ds vs → Ret (gm X) g μ H o Q → r v vs H Q) :
    RE X W Φ a σ H fun x H1 => c x H1 ∧ t σ H1 fun xs H2 => r x xs H2 Q :=
  rd1 (fa := evE Φ a) (k := fun ρ x μ1 => if bmOk bb (fz x) then (evEs Φ es ρ μ1).bind fun xs μ2 => lift (biD bb (fz x :: fzs xs)) μ2 else .bad) h fun ρ x μ1 g1 H1 fp v sr r1 er ok => by
    cases em : bmOk bb (fz x) with
    | false => rw [em] at er; exact er.elim
    | true =>
      rw [em, if_pos rfl] at er ok
      refine ⟨hc _ _ _ _ em sr.F r1, ht _ _ _ ⟨ρ, μ1, g1, fp, sr, er.of_bind, fun xs μ2 e2 g2 H2 us fo G => ?_⟩⟩
      obtain ⟨G2, r3⟩ := G.fz
      have er2 := ErOk.bind_to er e2 G2
      rw [e2, Rs.bind_ok] at ok
      cases e3 : biD bb (fz x :: fzs xs) with
      | none => rw [e3] at er2; exact er2.elim
      | some o =>
        rw [e3] at ok
        exact hr (fz x) (fzs xs) o _ μ2 H2 v us Q e3 G2.F G2.cl (Rp.le G2.le _ _ r1) r3 fun g' H' v' fo' G' => ok o μ2 rfl g' H' v' fo' (G'.after G2)
theorem type_index : typeOf (.builtin "list.index") = pure (.type "method_descriptor") := by kernel_rfl
theorem dpys_get : ∀ (l : List D) (i : Nat), (dpys l)[i]? = (l[i]?).map dpy
  | [], i => by simp [dpys]
  | d :: l, 0 => by simp [dpys]
  | d :: l, i + 1 => by simp [dpys, dpys_get l i]
theorem wfs_get {n : Nat} : ∀ {l : List D} {i : Nat} {d : D}, wfs n l = true → l[i]? = some d → wf n d = true
  | [], i, d, _, h => by simp at h
  | x :: l, 0, d, w, h => by
    simp only [wfs, Bool.and_eq_true] at w
    simp at h
    subst h
    exact w.1
  | x :: l, i + 1, d, w, h => by
    simp only [wfs, Bool.and_eq_true] at w
    exact wfs_get w.2 (by simpa using h)
theorem index_sound {d : D} {ds : List D} {o : O} {g : Gh} {μ : List O} {H : Hp} {v : V} {vs : List V} {Q : VK} (e : biD .index (d :: ds) = some o) (F : Same g.F H) (c : Cl (gm X) g H μ) (r : Rp (gm X) g d v) (rs : Rps (gm X) g ds vs) (h : Ret (gm X) g μ H o Q) : rIndexD X.K v vs H Q := by
  cases d with
  | lst l =>
    match ds, e with
    | [x], e =>
      have e : (if wf 8 x && wfs 8 l then (l.findIdx? fun z => deq z x).map fun j : Nat => O.sh (.int j) else none) = some o := e
      split at e
      · rename_i hw
        simp only [Bool.and_eq_true] at hw
        obtain ⟨j, hj, rfl⟩ := Option.map_eq_some_iff.mp e
        obtain ⟨hlt, hd, hno⟩ := List.findIdx?_eq_some_iff_getElem.mp hj
        obtain ⟨y, rfl, ry⟩ := rps1 rs
        have r0 := r
        simp only [Rp] at r0
        obtain ⟨ad, us, rfl, _, _⟩ := r0
        have w2 : wf 9 (.lst l) = true := by simpa only [wf] using hw.2
        have d2 := dpy_at F 9 (.lst l) (.ref ad) w2 r
        have s2 := dpy_shaped (n := 9) (by decide) w2
        simp only [dpy] at d2 s2
        have hget : l[j]? = some l[j] := List.getElem?_eq_getElem hlt
        refine ⟨ad, y, dpy x, dpys l, j, dpy l[j], rfl, rfl, d2, dpy_at F 8 x y hw.1 ry, s2, dpy_shaped (by decide) hw.1, by rw [dpys_get, hget]; rfl, by rw [dpy_eqv 8 8 _ _ (wfs_get hw.2 hget) hw.1]; exact hd, fun m z' hm hz => ?_, h.int F c⟩
        rw [dpys_get] at hz
        obtain ⟨u, hu, rfl⟩ := Option.map_eq_some_iff.mp hz
        rw [dpy_eqv 8 8 _ _ (wfs_get hw.2 hu) hw.1]
        have := hno m hm
        have hu2 := (List.getElem?_eq_some_iff.mp hu).2
        rw [hu2] at this
        simpa using this
      · cases e
    | [], e => cases e
    | _ :: _ :: _, e => cases e
  | _ => rcases ds with _ | ⟨x, _ | ⟨y, _ | ⟨z, _⟩⟩⟩ <;> cases e
theorem get_sound {d : D} {ds : List D} {o : O} {g : Gh} {μ : List O} {H : Hp} {v : V} {vs : List V} {Q : VK} (e : biD .get (d :: ds) = some o) (F : Same g.F H) (c : Cl (gm X) g H μ) (r : Rp (gm X) g d v) (rs : Rps (gm X) g ds vs) (h : Ret (gm X) g μ H o Q) : rNGetD X v vs H Q := by
  cases d with
  | dct t ks us =>
    cases t with
    | false => rcases ds with _ | ⟨x, _ | ⟨y, _ | ⟨z, _⟩⟩⟩ <;> cases e
    | true =>
      match ds, e with
      | [k, dv], e =>
        have e : (if isKey true k then some (O.sh ((lookD k ks us).getD dv)) else none) = some o := e
        split at e
        · rename_i hk
          cases e
          obtain ⟨y, z, rfl, r1, r2⟩ := rps2 rs
          simp only [Rp] at r
          obtain ⟨a, kv, vv, rfl, dc, rk, rv⟩ := r
          obtain ⟨xs, dx⟩ := DcAt.dx F (dc.keep fun u e => F _ _ e) rk
          obtain ⟨b, _, hka⟩ := key_at F hk r1
          have hl := lookD_at hk _ _ _ _ dx.ek dx.vs rv dx.all
          cases el : lookD k ks us with
          | none =>
            rw [el] at hl h
            refine ⟨a, xs, _, y, z, z, rfl, rfl, dx.nd, hka, ?_, h.sh F c r2⟩
            rw [show atKey xs (nkey k) = none from hl]
          | some d =>
            rw [el] at hl h
            obtain ⟨p, w, h1, h2, h3⟩ := hl
            refine ⟨a, xs, _, y, z, w, rfl, rfl, dx.nd, hka, ?_, h.sh F c h3⟩
            rw [h1]
            exact h2
        · cases e
      | [], e => cases e
      | [_], e => cases e
      | _ :: _ :: _ :: _, e => cases e
  | _ => rcases ds with _ | ⟨x, _ | ⟨y, _ | ⟨z, _⟩⟩⟩ <;> cases e
theorem s_bm (c : At X ck Φ W) {bb : Bi} {m : Str} {o : Expr} {ap : Pos} (hm : bmN bb m = true) (hb : notCall0 o = true) (hl : (ap.endLine == pos.line) = true) (hn : (p :: ps).length < 30) (hs : (p :: ps).all noStar = true) (ho : PE X o (RE X W Φ a)) (ha : PA X (p :: ps) (RA X W Φ es)) :
    PE X (.Call (.Attribute o m ap) (p :: ps) [] pos) (RE X W Φ (.bm bb a es)) := by
  have hs' := hs
  simp only [List.all_cons, Bool.and_eq_true] at hs'
  cases bb with
  | get =>
    obtain rfl := of_decide_eq_true hm
    refine PE.imp (pe_nm (mt_nget c.hu) ho ha (base_call0 hb) (few_all hs hn) hl (star_cons hs'.1) (star_none hs'.2)) fun σ H Q h => ?_
    refine rd_bm (bb := .get) (c := fun x H1 => ∃ a xs, x = .ref a ∧ NdAt X H1 a xs) (r := rNGetD X) h (fun _ _ _ z => z) (fun d g H v hd F r => ?_) fun d ds o g μ H v vs Q e F cl r rs ret => get_sound e F cl r rs ret
    cases d with
    | dct t ks us =>
      cases t with
      | true =>
        simp only [Rp] at r
        obtain ⟨a, kv, vv, rfl, dc, rk, rv⟩ := r
        obtain ⟨xs, dx⟩ := DcAt.dx F (dc.keep fun u e => F _ _ e) rk
        exact ⟨a, xs, rfl, dx.nd⟩
      | false => cases hd
    | _ => cases hd
  | index =>
    obtain rfl := of_decide_eq_true hm
    refine PE.imp (pe_bm (name := "index") F.plainAttrs_list F.slot_list_index type_index (mt_indexD c.hu) ho ha (base_call0 hb) (few_all hs hn) hl (star_cons hs'.1) (star_none hs'.2)) fun σ H Q h => ?_
    refine rd_bm (bb := .index) (c := fun x H1 => tyV X.K "list" x H1) (r := rIndexD X.K) h (fun _ _ _ z => z) (fun d g H v hd F r => ?_) fun d ds o g μ H v vs Q e F cl r rs ret => index_sound e F cl r rs ret
    cases d with
    | lst l =>
      simp only [Rp] at r
      obtain ⟨a, vs, rfl, s, q⟩ := r
      exact .inl ⟨rfl, vs, SqL.of (F _ _ s)⟩
    | _ => cases hd
  | _ => cases hm
end
end MP
/-! MP9 -/
set_option Elab.async false
set_option linter.all false
set_option maxRecDepth 100000
set_option maxHeartbeats 1000000
/-! MP9: lent containers, targets, what a loop walks, comprehensions. -/
namespace MP
open PySem PySem.Spec PyProof.Rows L2
section
variable {Γ : Env1} {g g' g1 g2 : Gh} {H H' H1 H2 : Hp} {μ μ' μ1 : List O} {ρ : List Sl} {σ : L2.St} {fp : List Addr}
/-! ### names stored, forgotten, lent -/
theorem set_long {α : Type} {l : List α} {i : Nat} {a : α} (h : l.length ≤ i) : l.set i a = l := List.set_eq_of_length_le h
theorem nodup_sub {f f' fp fp2 : List Addr} (p : fp.Perm (f ++ f')) (p2 : fp2.Perm f') (nd : fp.Nodup) : fp2.Nodup :=
  p2.nodup_iff.mpr (List.nodup_append.mp (p.nodup_iff.mp nd)).2.1
theorem wipe_set {σ : L2.St} {i : Nat} {x : Option V} : ∀ {is : List Nat}, i ∈ is → wipe (σ.set i x) is = wipe σ is
  | [], h => by cases h
  | j :: r, h => by
    unfold wipe
    by_cases hr : i ∈ r
    · rw [wipe_set hr]
    · have hj : i = j := by
        rcases List.mem_cons.mp h with h | h
        · exact h
        · exact absurd h hr
      subst hj
      have e : ∀ {r : List Nat}, i ∉ r → wipe (σ.set i x) r = (wipe σ r).set i x := fun {r} => by
        induction r with
        | nil => intro _; rfl
        | cons k r ih =>
          intro hn
          simp only [List.mem_cons, not_or] at hn
          unfold wipe
          rw [ih hn.2, List.set_comm _ _ (fun q => hn.1 q)]
      rw [e hr, List.set_set]
theorem setTs_len : ∀ {ts : List T} {ds : List D} {ρ ρ' : List Sl}, setTs ts ds ρ = some ρ' → ts.length = ds.length
  | [], [], ρ, ρ', e => rfl
  | [], _ :: _, ρ, ρ', e => by simp [setTs] at e
  | _ :: _, [], ρ, ρ', e => by simp [setTs] at e
  | t :: ts, d :: ds, ρ, ρ', e => by
    simp only [setTs] at e
    obtain ⟨ρ1, e1, e2⟩ := Option.bind_eq_some_iff.mp e
    simp [setTs_len e2]
theorem SR.set (s : SR Γ g μ H ρ σ fp) {i : Nat} {d : D} {v : V} (r : Rp Γ g d v) : ∃ fp', SR Γ g μ H (ρ.set i (.va d)) (σ.set i (some v)) fp' ∧ ∀ a ∈ fp', a ∈ fp := by
  by_cases hi : i < ρ.length
  · obtain ⟨x, f, f', e1, r', p, u⟩ := s.env.split (i := i) (s := ρ[i]) (by simp [hi])
    obtain ⟨fp2, q2, p2⟩ := u g H (.va d) (some v) [] (Le.refl _) (fun _ _ _ h => h) ⟨rfl, v, rfl, r⟩
    rw [List.nil_append] at p2
    refine ⟨fp2, ⟨s.F, s.cl, q2, nodup_sub p p2 s.nd, fun a ha => s.ap a (p.mem_iff.mpr (List.mem_append_right _ (p2.mem_iff.mp ha)))⟩, fun a ha => p.mem_iff.mpr (List.mem_append_right _ (p2.mem_iff.mp ha))⟩
  · rw [set_long (by omega), set_long (by have := s.env.len; omega)]
    exact ⟨fp, s, fun _ h => h⟩
theorem SR.drop (s : SR Γ g μ H ρ σ fp) {i : Nat} {x : Option V} : ∃ fp', SR Γ g μ H (ρ.set i .no) (σ.set i x) fp' ∧ ∀ a ∈ fp', a ∈ fp := by
  by_cases hi : i < ρ.length
  · obtain ⟨x', f, f', e1, r', p, u⟩ := s.env.split (i := i) (s := ρ[i]) (by simp [hi])
    obtain ⟨fp2, q2, p2⟩ := u g H .no x [] (Le.refl _) (fun _ _ _ h => h) rfl
    rw [List.nil_append] at p2
    refine ⟨fp2, ⟨s.F, s.cl, q2, nodup_sub p p2 s.nd, fun a ha => s.ap a (p.mem_iff.mpr (List.mem_append_right _ (p2.mem_iff.mp ha)))⟩, fun a ha => p.mem_iff.mpr (List.mem_append_right _ (p2.mem_iff.mp ha))⟩
  · rw [set_long (by omega), set_long (by have := s.env.len; omega)]
    exact ⟨fp, s, fun _ h => h⟩
theorem SR.drops (s : SR Γ g μ H ρ σ fp) : ∀ is : List Nat, ∃ fp', SR Γ g μ H (drops ρ is) (wipe σ is) fp' ∧ ∀ a ∈ fp', a ∈ fp
  | [] => ⟨fp, s, fun _ h => h⟩
  | i :: r => by
    obtain ⟨fp1, s1, b1⟩ := SR.drops s r
    obtain ⟨fp2, s2, b2⟩ := s1.drop (i := i) (x := none)
    exact ⟨fp2, s2, fun a h => b1 a (b2 a h)⟩
/-- the same, the slots as they are -/
theorem SR.drops0 (s : SR Γ g μ H ρ σ fp) : ∀ is : List Nat, ∃ fp', SR Γ g μ H (MP.drops ρ is) σ fp' ∧ ∀ a ∈ fp', a ∈ fp
  | [] => ⟨fp, s, fun _ h => h⟩
  | i :: r => by
    obtain ⟨fp1, s1, b1⟩ := SR.drops0 s r
    by_cases hi : i < σ.length
    · obtain ⟨fp2, s2, b2⟩ := s1.drop (i := i) (x := σ[i])
      rw [show σ.set i σ[i] = σ from List.set_getElem_self hi] at s2
      exact ⟨fp2, s2, fun a h => b1 a (b2 a h)⟩
    · obtain ⟨fp2, s2, b2⟩ := s1.drop (i := i) (x := none)
      rw [set_long (a := (none : Option V)) (by omega)] at s2
      exact ⟨fp2, s2, fun a h => b1 a (b2 a h)⟩
/-- a value of one's own stored -/
theorem SR.setO (s : SR Γ g μ H ρ σ fp) (G : Got Γ g H g' μ' H' o v fo) {i : Nat} : ∃ fp', SR Γ g' μ' H' (ρ.set i (.ow o)) (σ.set i (some v)) fp' ∧ ∀ a ∈ fp', a ∈ fp ∨ a ∈ fo := by
  have s' := s.go G.go
  by_cases hi : i < ρ.length
  · obtain ⟨x, f, f', e1, r', p, u⟩ := s'.env.split (i := i) (s := ρ[i]) (by simp [hi])
    obtain ⟨fp2, q2, p2⟩ := u g' H' (.ow o) (some v) fo (Le.refl _) (fun _ _ _ h => h) ⟨v, rfl, G.ow⟩
    have sub : ∀ a ∈ f', a ∈ fp := fun a ha => p.mem_iff.mpr (List.mem_append_right _ ha)
    refine ⟨fp2, ⟨s'.F, s'.cl, q2, p2.nodup_iff.mpr (List.nodup_append.mpr ⟨G.nd, (List.nodup_append.mp (p.nodup_iff.mp s.nd)).2.1, fun a ha b hb e => ?_⟩), fun a ha => ?_⟩, fun a ha => ?_⟩
    · subst e
      obtain ⟨w, hw⟩ := s.env.there a (sub a hb)
      rcases G.new a ha with z | z
      · exact (s.ap a (sub a hb)).2 z
      · rw [z] at hw
        cases hw
    · rcases List.mem_append.mp (p2.mem_iff.mp ha) with ha | ha
      · exact G.ap a ha
      · exact s'.ap a (sub a ha)
    · rcases List.mem_append.mp (p2.mem_iff.mp ha) with ha | ha
      · exact .inr ha
      · exact .inl (sub a ha)
  · rw [set_long (by omega), set_long (by have := s.env.len; omega)]
    exact ⟨fp, s', fun _ h => .inl h⟩
/-- lent: one's own container stands in the ghost -/
theorem SR.lend (s : SR Γ g μ H ρ σ fp) : ∀ is : List Nat, ∃ L fp', SR Γ (g.put H L) μ H (lend ρ is) σ fp' ∧ (∀ a ∈ L, a ∈ fp) ∧ ∀ a ∈ fp', a ∈ fp
  | [] => ⟨[], fp, by
      have e : g.put H [] = g := by
        unfold Gh.put
        simp
      rw [e]
      exact s, (fun _ h => by cases h), fun _ h => h⟩
  | i :: r => by
    obtain ⟨L, f1, s1, subL, sub1⟩ := SR.lend s r
    unfold MP.lend
    split
    · rename_i o e
      obtain ⟨x, f, f', e1, ⟨v, rfl, ow⟩, p, u⟩ := s1.env.split e
      have hnd := p.nodup_iff.mp s1.nd
      have inF : ∀ a ∈ f, a ∈ f1 := fun a ha => p.mem_iff.mpr (List.mem_append_left _ ha)
      have inF' : ∀ a ∈ f', a ∈ f1 := fun a ha => p.mem_iff.mpr (List.mem_append_right _ ha)
      have eput : (g.put H L).put H f = g.put H (f ++ L) := by
        unfold Gh.put
        congr 1
        funext b
        by_cases h1 : b ∈ f
        · simp [h1]
        · by_cases h2 : b ∈ L <;> simp [h1, h2]
      have hfree : ∀ a ∈ f, (g.put H L).F a = none := fun a ha => (s1.ap a (inF a ha)).1
      have lq : Le (g.put H L) ((g.put H L).put H f) := Gh.put_le hfree
      have rf : Rp Γ ((g.put H L).put H f) (fz o) v := Ow.fz lq o v f ow fun x hx w ew => by rw [Gh.put_at hx]; exact ew
      obtain ⟨fp2, q2, p2⟩ := u ((g.put H L).put H f) H (.va (fz o)) (some v) [] lq (fun _ _ _ h => h) ⟨rfl, v, rfl, rf⟩
      rw [List.nil_append] at p2
      have es : σ.set i (some v) = σ := by
        have hi : i < σ.length := (List.getElem?_eq_some_iff.mp e1).1
        have := (List.getElem?_eq_some_iff.mp e1).2
        rw [← this, List.set_getElem_self hi]
      rw [es] at q2
      refine ⟨f ++ L, fp2, ?_, fun a ha => ?_, fun a ha => sub1 a (inF' a (p2.mem_iff.mp ha))⟩
      · rw [← eput]
        refine ⟨fun a w h => ?_, s1.cl.le lq rfl rfl (fun _ _ _ h => h) fun a ha => ?_, q2, nodup_sub p p2 s1.nd, fun a ha => ?_⟩
        · by_cases ha : a ∈ f
          · rw [Gh.put_at ha] at h
            exact h
          · rw [Gh.put_ne ha] at h
            exact s1.F _ _ h
        · rw [Gh.put_ne fun z => (s1.ap a (inF a z)).2 ha]
          exact s1.cl.fr a ha
        · have hf' := p2.mem_iff.mp ha
          have hn : a ∉ f := fun z => (List.nodup_append.mp hnd).2.2 a z a hf' rfl
          rw [Gh.put_ne hn]
          exact s1.ap a (inF' a hf')
      · rcases List.mem_append.mp ha with ha | ha
        · exact sub1 a (inF a ha)
        · exact subL a ha
    · exact ⟨L, f1, s1, subL, sub1⟩
/-- the ghost without what was lent -/
def Gh.cutF (g : Gh) (L : List Addr) : Gh := { g with F := fun b => if b ∈ L then none else g.F b }
theorem Gh.cut_in {L : List Addr} {a : Addr} (h : a ∈ L) : (g.cutF L).F a = none := if_pos h
theorem Gh.cut_ne {L : List Addr} {a : Addr} (h : a ∉ L) : (g.cutF L).F a = g.F a := if_neg h
/-- given back; the common cells were out of sight -/
theorem Go.back {L : List Addr} (s : SR Γ g μ H ρ σ fp) (sub : ∀ a ∈ L, a ∈ fp) (a : Go Γ (g.put H L).hid H g' [] H') : Go Γ g H ((g'.cutF L).shown g) μ H' := by
  have cf : ∀ x, (g'.cutF L).F x ≠ none → g.F x ≠ none ∨ H x = none := fun x h => by
    have hb : x ∉ L := fun z => h (Gh.cut_in z)
    rw [Gh.cut_ne hb] at h
    rcases a.gF x h with y | y | y
    · have y : (g.put H L).F x ≠ none := y
      rw [Gh.put_ne hb] at y
      exact .inl y
    · cases y
    · exact .inr y
  have kG : KeepAt H H' g.G := fun x hx u e => a.keep x u e (fun z => by cases z)
  have le : Le g ((g'.cutF L).shown g) := ⟨fun b u e => by
    have hb : b ∉ L := fun z => by rw [(s.ap b (sub b z)).1] at e; cases e
    show (g'.cutF L).F b = some u
    rw [Gh.cut_ne hb]
    exact a.le.F b u (by show (g.put H L).F b = some u; rw [Gh.put_ne hb]; exact e), fun n x h => h⟩
  refine ⟨le, fun x u e n => a.keep x u e (fun z => by cases z), a.there, fun x h => (cf x h).imp id .inr, fun x h => .inl h, fun x u e => ?_, ?_⟩
  · have e : (g'.cutF L).F x = some u := e
    by_cases hb : x ∈ L
    · rw [Gh.cut_in hb] at e; cases e
    · rw [Gh.cut_ne hb] at e
      exact a.F x u e
  · refine ⟨Ows.le le _ _ _ s.cl.own kG, s.cl.nd, fun x hx => ?_⟩
    obtain ⟨u, e⟩ := s.cl.there x hx
    cases q : (g'.cutF L).F x with
    | none => exact q
    | some w =>
      rcases cf x (ne_none q) with y | y
      · exact absurd (s.cl.fr x hx) y
      · rw [e] at y; cases y
theorem cl_nil (c : Cl Γ g H []) : g.G = [] ∧ g.rt = [] := by
  have h := c.own
  simp only [Ows] at h
  exact ⟨h.2, List.map_eq_nil_iff.mp h.1⟩
theorem leT_cut {L : List Addr} (s : SR Γ g μ H ρ σ fp) (sub : ∀ a ∈ L, a ∈ fp) (l : Same (g.put H L).F g'.F) : LeT Γ.K g' (g'.cutF L) where
  F := fun a vs h => by
    have no : ∀ u, g'.F a = some u → ¬ ownK u → a ∉ L := fun u e nk z => by
      obtain ⟨w, hw, kw⟩ := s.env.kind a (sub a z)
      have e2 := l a w (by rw [Gh.put_at z]; exact hw)
      rw [e] at e2
      cases e2
      exact nk kw
    rcases h with (h | ⟨o, h⟩) | h
    · have hn := no _ h (fun z => z)
      exact .inl (.inl (by rw [Gh.cut_ne hn]; exact h))
    · have hn := no _ h (fun z => z)
      exact .inl (.inr ⟨o, by rw [Gh.cut_ne hn]; exact h⟩)
    · exact .inr h
  rt := fun _ _ h => h
end
/-! ### environments without common cells -/
theorem EnvR.hid {Γ : Env1} {g : Gh} {H : Hp} : ∀ {ρ : List Sl} {σ : L2.St} {fp : List Addr}, EnvR Γ g H ρ σ fp → EnvR Γ g.hid H (dropC ρ) σ []
  | [], σ, fp, h => ⟨h.1, rfl⟩
  | s :: ρ, σ, fp, h => by
    obtain ⟨x, σ', f1, f2, e, rfl, r, q⟩ := h
    have ih := EnvR.hid q
    cases s with
    | no => exact ⟨x, σ', [], [], e, rfl, rfl, ih⟩
    | ow o => exact ⟨x, σ', [], [], e, rfl, rfl, ih⟩
    | va d =>
      by_cases hn : noC d = true
      · have : dropC (.va d :: ρ) = .va d :: dropC ρ := by simp [dropC, hn]
        rw [this]
        obtain ⟨_, v, e2, r2⟩ := r
        exact ⟨x, σ', [], [], e, rfl, ⟨rfl, v, e2, Rp.noC (g := g) (g' := g.hid) rfl d v hn r2⟩, ih⟩
      · have : dropC (.va d :: ρ) = .no :: dropC ρ := by simp [dropC, hn]
        rw [this]
        exact ⟨x, σ', [], [], e, rfl, rfl, ih⟩
theorem SR.hid {Γ : Env1} {g : Gh} {μ : List O} {H : Hp} {ρ : List Sl} {σ : L2.St} {fp : List Addr} (s : SR Γ g μ H ρ σ fp) : SR Γ g.hid [] H (dropC ρ) σ [] :=
  ⟨s.F, Cl.hid, s.env.hid, .nil, fun _ h => by cases h⟩
section
variable {X : Cx} {ck : Ck} {Φ : Fns} {W : WX} {pos pos' : Pos} {p q r u : Expr} {a b d e : E} {es : List E} {ps : List Expr}
theorem SR.bor {Γ : Env1} {g : Gh} {H : Hp} {μ : List O} {ρ : List Sl} {σ : L2.St} {fp : List Addr} (sr : SR Γ g μ H ρ σ fp) (is : List Nat) : ∃ L fp1, SR Γ (g.put H L).hid [] H (borE ρ is μ) σ fp1 ∧ ∀ a ∈ L, a ∈ fp := by
  obtain ⟨L, fp1, s1, sub, _⟩ := sr.lend is
  cases μ with
  | nil =>
    have e1 := cl_nil s1.cl
    have eg : (g.put H L).hid = g.put H L := by
      unfold Gh.hid
      have h1 := e1.1
      have h2 := e1.2
      cases hg : g.put H L with
      | mk F rt G => rw [hg] at h1 h2; simp only at h1 h2; rw [h1, h2]
    exact ⟨L, fp1, by rw [eg]; exact s1, sub⟩
  | cons y ys => exact ⟨L, [], s1.hid, sub⟩
/-- an expression with containers lent -/
theorem rd_bor {f : List Sl → List O → Rs O} {is : List Nat} {σ : L2.St} {H : Hp} {Q : VK} (h : RdE (gm X) W (fun ρ μ => match f (borE ρ is μ) [] with
    | .ok o μ1 => if okB o && μ1.isEmpty then .ok o μ else .bad
    | .er c fs μ1 => if noLs fs && μ1.isEmpty then .er c fs μ else .bad
    | .bad => .bad) σ H Q) : RdE (gm X) W f σ H Q := by
  obtain ⟨ρ, μ, g, fp, sr, er, ok⟩ := h
  obtain ⟨L, fp1, s1, sub⟩ := sr.bor is
  have leS : ∀ {g1 : Gh} {H1 : Hp}, Cl (gm X) g1 H1 [] → Le (g1.cutF L) ((g1.cutF L).shown g) := fun {g1 H1} c => ⟨fun _ _ h => h, fun n a h => by
    have h : g1.rt[n]? = some a := h
    rw [cl_rt c] at h
    simp at h⟩
  refine ⟨borE ρ is μ, [], (g.put H L).hid, fp1, s1, ?_, fun o μ1 e g1 H1 v fo G => ?_⟩
  · cases e : f (borE ρ is μ) [] with
    | ok o μ1 => trivial
    | bad => simp only [e] at er; exact er
    | er cc fs μ1 =>
      simp only [e] at er
      split at er
      · rename_i hn
        simp only [Bool.and_eq_true, List.isEmpty_iff] at hn
        obtain ⟨hn, rfl⟩ := hn
        intro g' H' cls dd G' x
        obtain ⟨rfl, x⟩ := x
        refine er ((g'.cutF L).shown g) H' _ dd (Go.back sr sub G') ⟨rfl, ?_⟩
        rcases x with x | ⟨d2, flds, vs, h1, h2, h3, h4⟩
        · exact .inl x
        · exact .inr ⟨d2, flds, vs, h1, h2, Rps.le (leS G'.cl) _ _ (Rps.leT (leT_cut sr sub G'.le.F) _ _ hn h3), h4⟩
      · exact er.elim
  · simp only [e] at ok er
    split at er
    · rename_i hn
      rw [if_pos hn] at ok
      simp only [Bool.and_eq_true, List.isEmpty_iff] at hn
      obtain ⟨hn, rfl⟩ := hn
      refine ok o μ rfl ((g1.cutF L).shown g) H1 v fo ⟨Go.back sr sub G.go, Ow.le (leS G.go.cl) _ _ _ (Ow.leT (leT_cut sr sub G.go.le.F) o v fo hn G.ow) (fun _ _ _ h => h), G.nd, fun x hx => (G.new x hx).elim (fun z => nomatch z) .inr, fun x hx => ?_⟩
      obtain ⟨h1, h2⟩ := G.ap x hx
      refine ⟨?_, fun z => ?_⟩
      · show (g1.cutF L).F x = none
        by_cases hx2 : x ∈ L
        · exact Gh.cut_in hx2
        · rw [Gh.cut_ne hx2]
          exact h1
      · obtain ⟨u, eu⟩ := sr.cl.there x z
        exact (G.new x hx).no eu (fun z => by cases z)
    · exact er.elim
theorem s_bor {is : List Nat} (h : PE X p (RE X W Φ a)) : PE X p (RE X W Φ (.bor is a)) := PE.imp h fun σ H Q z => rd_bor z
theorem t_bor {is : List Nat} (h : PT X p (RT X W Φ a)) : PT X p (RT X W Φ (.bor is a)) := PT.imp h fun σ H Q z => by
  have z : RdE (gm X) W (fB (evE Φ (.bor is a))) σ H (fun x H' => ∃ k, x = .bl k ∧ Q k H') := z
  refine rd_bor (is := is) (f := fB (evE Φ a)) ?_
  have e : fB (evE Φ (.bor is a)) = fun ρ μ => match fB (evE Φ a) (borE ρ is μ) [] with
    | .ok o μ1 => if okB o && μ1.isEmpty then .ok o μ else .bad
    | .er c fs μ1 => if noLs fs && μ1.isEmpty then .er c fs μ else .bad
    | .bad => .bad := by
    funext ρ μ
    unfold fB
    show Rs.bind (match evE Φ a (borE ρ is μ) [] with
      | .ok o μ1 => if okB o && μ1.isEmpty then .ok o μ else .bad
      | .er c fs μ1 => if noLs fs && μ1.isEmpty then .er c fs μ else .bad
      | .bad => .bad) _ = _
    cases e1 : evE Φ a (borE ρ is μ) [] with
    | bad => rfl
    | er c fs μ1 =>
      simp only [Rs.bind_er]
      split <;> rfl
    | ok o μ1 =>
      simp only [Rs.bind_ok]
      cases o with
      | sh dd =>
        cases dd with
        | bl c => 
          simp only [asB, okB, noL, Option.map_some, lift_some, Bool.true_and]
          split <;> rfl
        | _ => simp only [asB, Option.map_none, lift_none]; split <;> rfl
      | _ => simp only [asB, Option.map_none, lift_none]; split <;> rfl
  rw [← e]
  exact z
theorem ows_get {Γ : Env1} {g : Gh} {H : Hp} : ∀ {os : List O} {vs : List V} {fp : List Addr} {i : Nat} {o : O}, Ows Γ g H os vs fp → os[i]? = some o → ∃ v f, vs[i]? = some v ∧ Ow Γ g H o v f
  | [], vs, fp, i, o, h, e => by simp at e
  | o :: os, vs, fp, i, o', h, e => by
    simp only [Ows] at h
    obtain ⟨v, vs', f1, f2, rfl, rfl, r, q⟩ := h
    cases i with
    | zero =>
      simp at e
      subst e
      exact ⟨v, f1, rfl, r⟩
    | succ i =>
      obtain ⟨u, f, h1, h2⟩ := ows_get (i := i) q (by simpa using e)
      exact ⟨u, f, by simpa using h1, h2⟩
theorem ows_len {Γ : Env1} {g : Gh} {H : Hp} : ∀ {os : List O} {vs : List V} {fp : List Addr}, Ows Γ g H os vs fp → os.length = vs.length
  | [], vs, fp, h => by
    simp only [Ows] at h
    rw [h.1]
    rfl
  | o :: os, vs, fp, h => by
    simp only [Ows] at h
    obtain ⟨v, vs', f1, f2, rfl, rfl, r, q⟩ := h
    simp [ows_len q]
theorem ownL_at {ρ : List Sl} {i : Nat} {l : List O} (e0 : ownL ρ i = some l) : ρ[i]? = some (.ow (.ol l)) := by
  unfold ownL at e0
  split at e0
  · rename_i e1
    cases e0
    exact e1
  · cases e0
/-- a slot of one's own -/
theorem EnvR.ow {Γ : Env1} {g : Gh} {H : Hp} {ρ : List Sl} {σ : L2.St} {fp : List Addr} {i : Nat} {o : O} (h : EnvR Γ g H ρ σ fp) (e : ρ[i]? = some (.ow o)) : ∃ v f, σ[i]? = some (some v) ∧ Ow Γ g H o v f := by
  obtain ⟨x, f, f', e1, ⟨v, rfl, ow⟩, p, u⟩ := h.split e
  exact ⟨v, f, e1, ow⟩
theorem s_oix (c : At X ck Φ W) {i : Nat} {x : Str} (h : ck.vis i x = true) (hs : simple q = true) (hb : PE X q (RE X W Φ b)) : PE X (.Subscript (.Name x pos') q pos) (RE X W Φ (.oix i b)) :=
  PE.imp (pe_ix ix_seq (c.pv h) hb (simple_ix hs)) fun σ H Q z => by
    obtain ⟨ρ, μ, g, fp, sr, er, ok⟩ := z
    cases e0 : ownL ρ i with
    | none =>
      have er : ErOk (gm X) W σ g H (match ownL ρ i with
        | some l => (evE Φ b ρ μ).bind fun k μ1 => lift (oixO l (fz k)) μ1
        | none => .bad) := er
      rw [e0] at er
      exact er.elim
    | some l =>
      have er : ErOk (gm X) W σ g H (match ownL ρ i with
        | some l => (evE Φ b ρ μ).bind fun k μ1 => lift (oixO l (fz k)) μ1
        | none => .bad) := er
      have ok : ∀ o μ', (match ownL ρ i with
        | some l => (evE Φ b ρ μ).bind fun k μ1 => lift (oixO l (fz k)) μ1
        | none => .bad) = .ok o μ' → ∀ g' H' v fo, Got (gm X) g H g' μ' H' o v fo → Q v H' := ok
      rw [e0] at er ok
      have er : ErOk (gm X) W σ g H ((evE Φ b ρ μ).bind fun k μ1 => lift (oixO l (fz k)) μ1) := er
      have ok : ∀ o μ', ((evE Φ b ρ μ).bind fun k μ1 => lift (oixO l (fz k)) μ1) = .ok o μ' → ∀ g' H' v fo, Got (gm X) g H g' μ' H' o v fo → Q v H' := ok
      have hi : ρ[i]? = some (.ow (.ol l)) := by
        unfold ownL at e0
        split at e0
        · rename_i e1
          cases e0
          exact e1
        · cases e0
      obtain ⟨v, f, hv, _⟩ := sr.env.ow hi
      refine ⟨v, hv, ρ, μ, g, fp, sr, er.of_bind, fun k μ1 e1 g1 H1 w fo G => ?_⟩
      obtain ⟨G1, r1⟩ := G.fz
      have er1 := ErOk.bind_to er e1 G1
      rw [e1, Rs.bind_ok] at ok
      have sr1 := sr.go G1
      obtain ⟨v1, f1, hv1, ow1⟩ := sr1.env.ow hi
      rw [hv] at hv1
      cases hv1
      obtain ⟨o, eo⟩ := lift_some_of er1
      have eo2 := eo
      unfold oixO at eo
      split at eo
      · rename_i j ej
        split at eo
        · rename_i d ed
          cases eo
          rw [ej] at r1
          simp only [Rp] at r1
          simp only [Ow] at ow1
          obtain ⟨ad, vs, fp', rfl, _, ha, ows⟩ := ow1
          unfold MP.atI at ed
          obtain ⟨jj, h1, h2⟩ := Option.bind_eq_some_iff.mp ed
          obtain ⟨vv, ff, h3, h4⟩ := ows_get ows h2
          simp only [Ow] at h4
          refine .inl ⟨ad, vs, j, vv, rfl, r1, SqL.of ha, ?_, ?_⟩
          · unfold L2.atI
            rw [← ows_len ows]
            exact Option.bind_eq_some_iff.mpr ⟨jj, h1, h3⟩
          · exact ok _ μ1 (by rw [eo2]; rfl) _ _ _ [] (Got.sh G1 h4.2)
        · cases eo
      · cases eo
/-! ### targets -/
/-- by the one rule or by the other -/
def gEi (a b : TG) : TG := fun v σ H Q => a v σ H Q ∨ b v σ H Q
theorem pg_ei {X : Cx} {e : Expr} {a b : TG} (h1 : PG X e a) (h2 : PG X e b) : PG X e (gEi a b) := ⟨fun pins s σ H v u Q I r h => h.elim (h1.run pins s σ H v u Q I r) (h2.run pins s σ H v u Q I r)⟩
mutual
def gT (K : PySem.W.Frag) : T → TG
  | .nm i => gName i
  | .tp ts => gEi (gTup K ts.length (gTs K ts)) (gUnl K ts.length (gTs K ts))
def gTs (K : PySem.W.Frag) : List T → TGs
  | [] => gNil
  | t :: ts => gCons (gT K t) (gTs K ts)
end
theorem asg_cons {e : Expr} {es : List Expr} {env : Env} (h : noStar e = true) : assignEach (e :: es) env = (false, assign e env) :: assignEach es env := by
  cases e <;> first | rfl | cases h
theorem asg_none : ∀ {es : List Expr} {env : Env}, es.all noStar = true → (assignEach es env).findIdx? (·.1) = none ∧ (assignEach es env).length = es.length
  | [], env, _ => ⟨rfl, rfl⟩
  | e :: es, env, h => by
    simp only [List.all_cons, Bool.and_eq_true] at h
    obtain ⟨h1, h2⟩ := asg_none (es := es) (env := env) h.2
    rw [asg_cons h.1]
    exact ⟨by rw [List.findIdx?_cons, h1]; rfl, by simp [h2]⟩
theorem okG_star {k : Ck} : ∀ {t : T} {e : Expr}, okG k t e = true → noStar e = true
  | .nm i, e, h => by cases e <;> first | rfl | (simp [okG] at h)
  | .tp ts, e, h => by cases e <;> first | rfl | (simp [okG] at h)
theorem okGs_star {k : Ck} : ∀ {ts : List T} {es : List Expr}, okGs k ts es = true → es.all noStar = true ∧ ts.length = es.length
  | [], [], h => ⟨rfl, rfl⟩
  | [], _ :: _, h => by simp [okGs] at h
  | _ :: _, [], h => by simp [okGs] at h
  | t :: ts, e :: es, h => by
    simp only [okGs, Bool.and_eq_true] at h
    obtain ⟨h1, h2⟩ := okGs_star (ts := ts) (es := es) h.2
    simp [okG_star h.1, h1, h2]
mutual
theorem g_ok (c : At X ck Φ W) : ∀ (t : T) (e : Expr), okG ck t e = true → PG X e (gT X.K t)
  | .nm i, e, h => by
    cases e with
    | Name x pos =>
      simp only [okG, Ck.loc, Bool.and_eq_true, decide_eq_true_eq] at h
      obtain ⟨h1, h2⟩ := h
      simp only [gT]
      cases e1 : ck.sc.names.lookup x with
      | none => rw [e1] at h2; cases h2
      | some kd =>
        cases kd with
        | «local» => exact pg_name (by rw [c.N]; exact c.nd) (by rw [c.N]; exact h1) (.inl (by rw [c.sc]; exact e1)) (.inr (by rw [c.sc]; exact e1))
        | cell =>
          rw [e1] at h2
          exact pg_name (by rw [c.N]; exact c.nd) (by rw [c.N]; exact h1) (.inr (by rw [c.sc]; exact e1)) (.inl (c.cl x (by simpa using h2)))
        | _ => rw [e1] at h2; cases h2
    | _ => simp [okG] at h
  | .tp ts, e, h => by
    cases e with
    | Tuple es k pos =>
      simp only [okG] at h
      obtain ⟨h1, h2⟩ := okGs_star h
      obtain ⟨h3, h4⟩ := asg_none (env := X.env) h1
      simp only [gT]
      exact pg_ei (pg_tup c.calm (gs_ok c ts es h) (by rw [h4, h2]) h3) (pg_unl c.calm (gs_ok c ts es h) (by rw [h4, h2]) h3)
    | _ => simp [okG] at h
theorem gs_ok (c : At X ck Φ W) : ∀ (ts : List T) (es : List Expr), okGs ck ts es = true → PGs X es (gTs X.K ts)
  | [], [], h => by simp only [gTs]; exact pgs_nil
  | [], _ :: _, h => by simp [okGs] at h
  | _ :: _, [], h => by simp [okGs] at h
  | t :: ts, e :: es, h => by
    simp only [okGs, Bool.and_eq_true] at h
    simp only [gTs]
    exact pgs_cons (g_ok c t e h.1) (gs_ok c ts es h.2) (by rw [asg_cons (okG_star h.1)]; rfl)
end
mutual
/-- what a target stores -/
theorem gT_at {Γ : Env1} : ∀ (t : T) (d : D) (v : V) {g : Gh} {μ : List O} {H : Hp} {ρ ρ' : List Sl} {σ : L2.St} {fp : List Addr} {R : L2.St → Hp → Prop}, SR Γ g μ H ρ σ fp → Rp Γ g d v → setT t d ρ = some ρ' →
    (∀ σ' fp', SR Γ g μ H ρ' σ' fp' → (∀ a ∈ fp', a ∈ fp) → (∀ is, (∀ i ∈ tgN t, i ∈ is) → wipe σ' is = wipe σ is) → R σ' H) → gT Γ.K t v σ H R
  | .nm i, d, v, g, μ, H, ρ, ρ', σ, fp, R, s, r, e, k => by
    simp only [setT, Option.some.injEq] at e
    subst e
    obtain ⟨fp', s', b'⟩ := s.set (i := i) r
    simp only [gT]
    refine k _ fp' s' b' fun is hi => ?_
    have hmem : i ∈ is := hi i (by simp [tgN])
    exact wipe_set hmem
  | .tp ts, d, v, g, μ, H, ρ, ρ', σ, fp, R, s, r, e, k => by
    cases d with
    | tup ds =>
      simp only [setT] at e
      simp only [Rp] at r
      obtain ⟨ad, vs, rfl, sq, rs⟩ := r
      simp only [gT]
      refine .inl ⟨ad, vs, rfl, sqT_le s.F sq, ?_, gTs_at ts ds vs s rs e fun σ' fp' s' b' hw => k σ' fp' s' b' fun is hi => hw is (by simpa only [tgN] using hi)⟩
      rw [← rs.len]
      exact (setTs_len e).symm
    | lst ds =>
      simp only [setT] at e
      simp only [Rp] at r
      obtain ⟨ad, vs, rfl, sq, rs⟩ := r
      simp only [gT]
      refine .inr ⟨ad, vs, rfl, SqL.of (s.F ad _ sq), ?_, gTs_at ts ds vs s rs e fun σ' fp' s' b' hw => k σ' fp' s' b' fun is hi => hw is (by simpa only [tgN] using hi)⟩
      rw [← rs.len]
      exact (setTs_len e).symm
    | _ => simp [setT] at e
theorem gTs_at {Γ : Env1} : ∀ (ts : List T) (ds : List D) (vs : List V) {g : Gh} {μ : List O} {H : Hp} {ρ ρ' : List Sl} {σ : L2.St} {fp : List Addr} {R : L2.St → Hp → Prop}, SR Γ g μ H ρ σ fp → Rps Γ g ds vs → setTs ts ds ρ = some ρ' →
    (∀ σ' fp', SR Γ g μ H ρ' σ' fp' → (∀ a ∈ fp', a ∈ fp) → (∀ is, (∀ i ∈ tgNs ts, i ∈ is) → wipe σ' is = wipe σ is) → R σ' H) → gTs Γ.K ts vs σ H R
  | [], [], vs, g, μ, H, ρ, ρ', σ, fp, R, s, r, e, k => by
    simp only [setTs, Option.some.injEq] at e
    subst e
    simp only [Rps] at r
    simp only [gTs]
    exact ⟨r, k σ fp s (fun _ h => h) fun _ _ => rfl⟩
  | [], _ :: _, vs, g, μ, H, ρ, ρ', σ, fp, R, s, r, e, k => by simp [setTs] at e
  | _ :: _, [], vs, g, μ, H, ρ, ρ', σ, fp, R, s, r, e, k => by simp [setTs] at e
  | t :: ts, d :: ds, vs, g, μ, H, ρ, ρ', σ, fp, R, s, r, e, k => by
    simp only [setTs] at e
    obtain ⟨ρ1, e1, e2⟩ := Option.bind_eq_some_iff.mp e
    simp only [Rps] at r
    obtain ⟨v, vs', rfl, r1, r2⟩ := r
    simp only [gTs]
    refine ⟨v, vs', rfl, gT_at t d v s r1 e1 fun σ1 fp1 s1 b1 w1 => gTs_at ts ds vs' s1 r2 e2 fun σ2 fp2 s2 b2 w2 => k σ2 fp2 s2 (fun a h => b1 a (b2 a h)) fun is hi => ?_⟩
    rw [w2 is fun i h => hi i (by simp only [tgNs]; exact List.mem_append_right _ h), w1 is fun i h => hi i (by simp only [tgNs]; exact List.mem_append_left _ h)]
end
end
end MP
/-! MP10 -/
set_option Elab.async false
set_option linter.all false
set_option maxRecDepth 100000
set_option maxHeartbeats 1000000
/-! MP10: what a loop walks; comprehensions. -/
namespace MP
open PySem PySem.Spec PyProof.Rows L2
theorem PI.imp {X : Cx} {tg it : Expr} {t t' : TI} (h : PI X tg it t) (i : ∀ σ H Q, t' σ H Q → t σ H Q) : PI X tg it t' := ⟨fun pins s σ H Q I q => h.run pins s σ H Q I (i σ H Q q)⟩
/-- to be walked: the items ds by J, from a ghost on -/
def RdI (Γ : Env1) (W : WX) (f : List Sl → List O → Rs O) : TI := fun σ H Q => ∃ ρ μ g fp, SR Γ g μ H ρ σ fp ∧ ErOk Γ W σ g H (f ρ μ) ∧ ∀ o μ', f ρ μ = .ok o μ' → ∃ ds, itD (fz o) = some ds ∧ ∀ g' H' J, Go Γ g H g' μ' H' → WalkD Γ g' J ds → Q J H'
/-- a list, a tuple, a text: walked as it is -/
def iAny (K : PySem.W.Frag) (te : TE) : TI := fun σ H Q => te σ H fun x H1 => (∃ a xs, x = .ref a ∧ ((SqL K H1 a xs ∧ Q (Itl K a) H1) ∨ (SqT K H1 a xs ∧ Q (Itt K a) H1))) ∨ ∃ z, x = .str z ∧ Q (Its z) H1
theorem pi_any {X : Cx} {tg e : Expr} {te : TE} (he : PE X e te) : PI X tg e (iAny X.K te) := by
  refine ⟨fun pins s σ H Q I h => thn (he.run pins s σ H _ I h) fun v s1 ⟨x, H1, I1, r1, q1⟩ => ?_⟩
  have sole : ∀ b ∈ [s1.heap.objs.size], FpOk X pins H1 b := fun b hb => by
    obtain rfl : b = s1.heap.objs.size := by simpa using hb
    exact I1.fpOk (Nat.le_refl _) (I1.hok.fresh (Nat.le_refl _))
  rcases q1 with ⟨a, xs, rfl, ⟨hq, q⟩ | ⟨hq, q⟩⟩ | ⟨z, rfl, q⟩
  · cases r1
    obtain ⟨its, rv, pl, hz⟩ := I1.list hq
    exact wpAny_pyIter_list pl.isList ⟨_, _, _, _, H1, rfl, I1.kept (t' := s1.toks) fun b o e => Heap.get?_push_of_some _ e, turn_list a _, ⟨_, Heap.get?_push_size _ rfl, rfl, rfl⟩, sole, q⟩
  · cases r1
    obtain ⟨its, rv, pl, hz⟩ := I1.tuple hq
    exact wpAny_pyIter_tuple (show s1.heap.IsTuple a its.toArray from pl) ⟨_, _, _, _, H1, rfl, I1.kept (t' := s1.toks) fun b o e => Heap.get?_push_of_some _ e, turn_tuple a _, ⟨_, Heap.get?_push_size _ rfl, rfl, rfl⟩, sole, q⟩
  · obtain ⟨t, rfl⟩ := r1
    cases ha : z.cps.all (· < 128)
    · exact wpAny_pyIter_wide ha (pi_one (tk := s1.toks) I1 _ (turn_str _ z t "str_iterator" (.inr rfl)) ⟨_, Heap.get?_push_size _ rfl, rfl, rfl⟩ q)
    · exact wpAny_pyIter_ascii ha (pi_one (tk := s1.toks) I1 _ (turn_str _ z t "str_ascii_iterator" (.inl rfl)) ⟨_, Heap.get?_push_size _ rfl, rfl, rfl⟩ q)
section
variable {X : Cx} {ck : Ck} {Φ : Fns} {W : WX} {pos pos' : Pos} {p q r u tg : Expr} {a b d e : E} {es : List E} {ps : List Expr}
abbrev RI (X : Cx) (W : WX) (Φ : Fns) (e : E) : TI := RdI (gm X) W (evE Φ e)
theorem i_any (ha : PE X p (RE X W Φ a)) : PI X tg p (RI X W Φ a) := PI.imp (pi_any ha) fun σ H Q h => by
  obtain ⟨ρ, μ, g, fp, sr, er, ok⟩ := h
  refine ⟨ρ, μ, g, fp, sr, er, fun o μ' e g' H' v fo G => ?_⟩
  obtain ⟨ds, hd, k⟩ := ok o μ' e
  obtain ⟨G1, r1⟩ := G.fz
  unfold itD at hd
  split at hd
  · cases hd
    rename_i ex
    rw [ex] at r1
    simp only [Rp] at r1
    obtain ⟨ad, vs, rfl, s, rs⟩ := r1
    exact .inl ⟨ad, vs, rfl, .inl ⟨SqL.of (G1.F _ _ s), k _ _ _ G1 (walkD_list (Γ := gm X) s rs)⟩⟩
  · cases hd
    rename_i ex
    rw [ex] at r1
    simp only [Rp] at r1
    obtain ⟨ad, vs, rfl, s, rs⟩ := r1
    exact .inl ⟨ad, vs, rfl, .inr ⟨sqT_le G1.F s, k _ _ _ G1 (walkD_tup (Γ := gm X) s rs)⟩⟩
  · cases hd
    rename_i ex
    rw [ex] at r1
    simp only [Rp] at r1
    exact .inr ⟨_, r1, k _ _ _ G1 walkD_str⟩
  · cases hd
/-- arguments, then a walk -/
theorem rdI_args {σ : L2.St} {H : Hp} {bb : Bi} {Q : It → Hp → Prop} {R : List V → Hp → Prop} (h : RI X W Φ (.bi bb es) σ H Q)
    (s : ∀ ds o μ g1 H1 vs, Same g1.F H1 → Cl (gm X) g1 H1 μ → Rps (gm X) g1 ds vs → biD bb ds = some o → (∀ ds', itD (fz o) = some ds' → ∀ J, WalkD (gm X) g1 J ds' → Q J H1) → R vs H1) : RA X W Φ es σ H R := by
  obtain ⟨ρ, μ, g, fp, sr, er, ok⟩ := h
  have er : ErOk (gm X) W σ g H ((evEs Φ es ρ μ).bind fun xs μ1 => lift (biD bb (fzs xs)) μ1) := er
  have ok : ∀ o μ', ((evEs Φ es ρ μ).bind fun xs μ1 => lift (biD bb (fzs xs)) μ1) = .ok o μ' → ∃ ds, itD (fz o) = some ds ∧ ∀ g' H' J, Go (gm X) g H g' μ' H' → WalkD (gm X) g' J ds → Q J H' := ok
  refine ⟨ρ, μ, g, fp, sr, er.of_bind, fun xs μ1 e1 g1 H1 vs fo G => ?_⟩
  obtain ⟨G1, r1⟩ := G.fz
  have er1 := ErOk.bind_to er e1 G1
  rw [e1, Rs.bind_ok] at ok
  obtain ⟨o, eo⟩ := lift_some_of er1
  refine s _ o μ1 _ H1 vs G1.F G1.cl r1 eo fun ds' hd J w => ?_
  obtain ⟨ds, hd2, k⟩ := ok o μ1 (by rw [eo]; rfl)
  rw [hd] at hd2
  cases hd2
  exact k _ _ _ G1 w
theorem fit_at {i : Int} (h : fit i = true) : -(2 ^ 62) ≤ i ∧ i < 2 ^ 62 := by
  unfold fit B62 at h
  simp only [decide_eq_true_eq] at h
  omega
theorem inv_rng1 {ds : List D} {o : O} (e : biD .rng1 ds = some o) : ∃ j, ds = [.int j] ∧ fit j = true ∧ o = .ol ((rngD 0 j.toNat).map .sh) := by
  rcases ds with _ | ⟨d1, _ | ⟨d2, ds⟩⟩
  · simp [biD] at e
  · cases d1 <;> simp only [biD] at e <;> first | (cases e; done) | skip
    split at e
    · cases e
      exact ⟨_, rfl, by assumption, rfl⟩
    · cases e
  · cases d1 <;> simp [biD] at e
theorem inv_rng2 {ds : List D} {o : O} (e : biD .rng2 ds = some o) : ∃ i j, ds = [.int i, .int j] ∧ fit i = true ∧ fit j = true ∧ o = .ol ((rngD i (j - i).toNat).map .sh) := by
  rcases ds with _ | ⟨d1, _ | ⟨d2, _ | ⟨d3, ds⟩⟩⟩
  · simp [biD] at e
  · cases d1 <;> simp [biD] at e
  · cases d1 <;> cases d2 <;> simp only [biD] at e <;> first | (cases e; done) | skip
    split at e
    · cases e
      rename_i h
      simp only [Bool.and_eq_true] at h
      exact ⟨_, _, rfl, h.1, h.2, rfl⟩
    · cases e
  · cases d1 <;> cases d2 <;> cases d3 <;> cases ds <;> simp [biD] at e
theorem inv_rng3 {ds : List D} {o : O} (e : biD .rng3 ds = some o) : ∃ i j, ds = [.int i, .int j, .int (-1)] ∧ fit i = true ∧ fit j = true ∧ o = .ol ((rngN i (i - j).toNat).map .sh) := by
  rcases ds with _ | ⟨d1, _ | ⟨d2, _ | ⟨d3, _ | ⟨d4, ds⟩⟩⟩⟩
  · simp [biD] at e
  · cases d1 <;> simp [biD] at e
  · cases d1 <;> cases d2 <;> simp [biD] at e
  · cases d1 <;> try (simp only [biD] at e; cases e; done)
    cases d2 <;> simp only [biD] at e <;> first | (cases e; done) | skip
    cases d3 <;> simp only [biD] at e <;> first | (cases e; done) | skip
    split at e
    · cases e
      rename_i h
      simp only [Bool.and_eq_true, decide_eq_true_eq] at h
      obtain ⟨⟨h1, h2⟩, rfl⟩ := h
      exact ⟨_, _, rfl, h1, h2, rfl⟩
    · cases e
  · cases d1 <;> simp [biD] at e
theorem inv_enum {ds : List D} {o : O} (e : biD .enum ds = some o) : ∃ l, ds = [.lst l] ∧ o = .ol ((enumD 0 l).map .sh) := by
  rcases ds with _ | ⟨d1, _ | ⟨d2, ds⟩⟩
  · simp [biD] at e
  · cases d1 <;> simp only [biD] at e <;> first | (cases e; done) | skip
    cases e
    exact ⟨_, rfl, rfl⟩
  · cases d1 <;> simp [biD] at e
theorem inv_rev {ds : List D} {o : O} (e : biD .rev ds = some o) : ∃ l, ds = [.lst l] ∧ o = .ol (l.reverse.map .sh) := by
  rcases ds with _ | ⟨d1, _ | ⟨d2, ds⟩⟩
  · simp [biD] at e
  · cases d1 <;> simp only [biD] at e <;> first | (cases e; done) | skip
    cases e
    exact ⟨_, rfl, rfl⟩
  · cases d1 <;> simp [biD] at e
theorem inv_zip {ds : List D} {o : O} (e : biD .zip ds = some o) : ∃ x y a b, ds = [x, y] ∧ seqD x = some a ∧ seqD y = some b ∧ o = .ol ((zipD a b).map .sh) := by
  rcases ds with _ | ⟨d1, _ | ⟨d2, _ | ⟨d3, ds⟩⟩⟩
  · simp [biD] at e
  · simp [biD] at e
  · simp only [biD] at e
    split at e
    · cases e
      exact ⟨_, _, _, _, rfl, by assumption, by assumption, rfl⟩
    · cases e
  · simp [biD] at e
theorem rps_ints2 {Γ : Env1} {g : Gh} : ∀ {l : List Int} {vs : List V}, Rps Γ g (l.map .int) vs → vs = l.map .int
  | [], vs, h => by simpa only [List.map_nil, Rps] using h
  | i :: l, vs, h => by
    simp only [List.map_cons, Rps] at h
    obtain ⟨v, vs', rfl, r, q⟩ := h
    simp only [Rp] at r
    rw [r, rps_ints2 q]
    rfl
theorem i_rng1 (c : At X ck Φ W) (hg : ck.gl "range" = true) (hb : ("range" : Str) ∈ ck.bl) (hs : noStar p = true) (ha : PE X p (RE X W Φ a)) : PI X tg (.Call (.Name "range" pos') [p] [] pos) (RI X W Φ (.bi .rng1 [a])) :=
  PI.imp (pi_range1 (c.gl hg) (c.st.bl _ hb) (a_cons hs ha a_nil) (star_cons hs)) fun σ H Q h => rdI_args h fun ds o μ g1 H1 vs F cl r e k => by
    obtain ⟨j, rfl, hf, rfl⟩ := inv_rng1 e
    obtain ⟨h1, h2⟩ := fit_at hf
    exact ⟨j, rps_ints2 (l := [j]) r, h1, h2, k _ (by simp only [fz_ol_sh, itD]) _ walkD_rng⟩
theorem i_rng2 (c : At X ck Φ W) (hg : ck.gl "range" = true) (hb : ("range" : Str) ∈ ck.bl) (hs : noStar p = true) (hs2 : noStar q = true) (ha : PE X p (RE X W Φ a)) (hb2 : PE X q (RE X W Φ b)) :
    PI X tg (.Call (.Name "range" pos') [p, q] [] pos) (RI X W Φ (.bi .rng2 [a, b])) :=
  PI.imp (pi_range2 (c.gl hg) (c.st.bl _ hb) (a_cons hs ha (a_cons hs2 hb2 a_nil)) (by rw [star_cons hs, star_cons hs2]; rfl) (star_cons hs2)) fun σ H Q h => rdI_args h fun ds o μ g1 H1 vs F cl r e k => by
    obtain ⟨i, j, rfl, hf, hf2, rfl⟩ := inv_rng2 e
    obtain ⟨h1, h2⟩ := fit_at hf
    obtain ⟨h3, h4⟩ := fit_at hf2
    exact ⟨i, j, rps_ints2 (l := [i, j]) r, ⟨h1, h2, h3, h4⟩, k _ (by simp only [fz_ol_sh, itD]) _ walkD_rng⟩
theorem i_rng3 (c : At X ck Φ W) (hg : ck.gl "range" = true) (hb : ("range" : Str) ∈ ck.bl) (hs : noStar p = true) (hs2 : noStar q = true) (hs3 : noStar r = true) (ha : PE X p (RE X W Φ a)) (hb2 : PE X q (RE X W Φ b)) (hd : PE X r (RE X W Φ d)) :
    PI X tg (.Call (.Name "range" pos') [p, q, r] [] pos) (RI X W Φ (.bi .rng3 [a, b, d])) :=
  PI.imp (pi_range3 (c.gl hg) (c.st.bl _ hb) (a_cons hs ha (a_cons hs2 hb2 (a_cons hs3 hd a_nil))) (by rw [star_cons hs, star_cons hs2, star_cons hs3]) (by rw [star_cons hs2, star_cons hs3]; rfl)) fun σ H Q h => rdI_args h fun ds o μ g1 H1 vs F cl r e k => by
    obtain ⟨i, j, rfl, hf, hf2, rfl⟩ := inv_rng3 e
    obtain ⟨h1, h2⟩ := fit_at hf
    obtain ⟨h3, h4⟩ := fit_at hf2
    exact ⟨i, j, -1, _, rps_ints2 (l := [i, j, -1]) r, RgC.neg h1 h2 h3 h4, k _ (by simp only [fz_ol_sh, itD]) _ walkD_rngN⟩
theorem i_enum {k : Nat} {tp : Pos} {ts : List Expr} (c : At X ck Φ W) (hg : ck.gl "enumerate" = true) (hb : ("enumerate" : Str) ∈ ck.bl) (hs : noStar p = true) (ha : PE X p (RE X W Φ a)) :
    PI X (.Tuple ts k tp) (.Call (.Name "enumerate" pos') [p] [] pos) (RI X W Φ (.bi .enum [a])) :=
  PI.imp (pi_enum (c.gl hg) (c.st.bl _ hb) (a_cons hs ha a_nil) (star_cons hs)) fun σ H Q h => rdI_args h fun ds o μ g1 H1 vs F cl r e k => by
    obtain ⟨l, rfl, rfl⟩ := inv_enum e
    obtain ⟨v, rfl, q0⟩ := rps1 r
    simp only [Rp] at q0
    obtain ⟨ad, vs, rfl, s, rs⟩ := q0
    exact ⟨ad, vs, rfl, SqL.of (F _ _ s), k _ (by simp only [fz_ol_sh, itD]) _ (walkD_enum (Γ := gm X) s rs)⟩
theorem i_zip {k : Nat} {tp : Pos} {ts : List Expr} (c : At X ck Φ W) (hg : ck.gl "zip" = true) (hb : ("zip" : Str) ∈ ck.bl) (hs : noStar p = true) (hs2 : noStar q = true) (ha : PE X p (RE X W Φ a)) (hb2 : PE X q (RE X W Φ b)) :
    PI X (.Tuple ts k tp) (.Call (.Name "zip" pos') [p, q] [] pos) (RI X W Φ (.bi .zip [a, b])) :=
  PI.imp (pi_zipB (c.gl hg) (c.st.bl _ hb) (a_cons hs ha (a_cons hs2 hb2 a_nil)) (star_cons hs) (by rw [star_cons hs2]; rfl)) fun σ H Q h => rdI_args h fun ds o μ g1 H1 vs F cl r e k => by
    obtain ⟨x, y, l, m, rfl, h1, h2, rfl⟩ := inv_zip e
    obtain ⟨v, u, rfl, q1, q2⟩ := rps2 r
    obtain ⟨t1, ad, vs, rfl, rs, s⟩ := rp_sqB h1 q1
    obtain ⟨t2, ad2, vs2, rfl, rs2, s2⟩ := rp_sqB h2 q2
    exact ⟨t1, t2, ad, ad2, vs, vs2, rfl, s _ F, s2 _ F, k _ (by simp only [fz_ol_sh, itD]) _ (walkD_zipB (Γ := gm X) s s2 rs rs2)⟩
theorem i_rev (c : At X ck Φ W) (hg : ck.gl "reversed" = true) (hb : ("reversed" : Str) ∈ ck.bl) (hs : noStar p = true) (ha : PE X p (RE X W Φ a)) : PI X tg (.Call (.Name "reversed" pos') [p] [] pos) (RI X W Φ (.bi .rev [a])) :=
  PI.imp (pi_reversed (c.gl hg) (c.st.bl _ hb) (a_cons hs ha a_nil) (star_cons hs)) fun σ H Q h => rdI_args h fun ds o μ g1 H1 vs F cl r e k => by
    obtain ⟨l, rfl, rfl⟩ := inv_rev e
    obtain ⟨v, rfl, q0⟩ := rps1 r
    simp only [Rp] at q0
    obtain ⟨ad, vs, rfl, s, rs⟩ := q0
    exact ⟨ad, vs, rfl, SqL.of (F _ _ s), k _ (by simp only [fz_ol_sh, itD]) _ (walkD_rev (Γ := gm X) s rs)⟩
/-! ### comprehensions -/
/-- one turn of a comprehension, as my evaluator takes it -/
def lcF (Φ : Fns) (ρ : List Sl) (elt : E) (tg : T) (cd : Option E) (dd : D) (μ : List O) : Rs (Option D) := match setT tg dd (drops ρ (tgN tg)) with
  | some ρ1 => (evC Φ cd ρ1 μ).bind fun c μ2 => if c then ((evE Φ elt ρ1 μ2).calm).bind fun y μ3 => .ok (some (fz y)) μ3 else .ok none μ2
  | none => .bad
/-- the clause's test -/
def RC (X : Cx) (Φ : Fns) (cd : Option E) : TT := fun σ H Q => ∃ ρ μ g fp, SR (gm X) g μ H ρ σ fp ∧ (∃ c μ', evC Φ cd ρ μ = .ok c μ') ∧ ∀ c μ', evC Φ cd ρ μ = .ok c μ' → ∀ g' H', Go (gm X) g H g' μ' H' → Q c H'
theorem c_none : PTs X [] (RC X Φ none) := ⟨fun pins s σ H Q I h => pts_nil.run pins s σ H Q I (by
  obtain ⟨ρ, μ, g, fp, sr, er, ok⟩ := h
  exact ok true μ rfl g H sr.pure)⟩
theorem c_some (h : PT X p (RT X (fun _ _ _ _ => False) Φ a)) : PTs X [p] (RC X Φ (some a)) := ⟨fun pins s σ H Q I h0 => (pts_one h).run pins s σ H Q I (by
  obtain ⟨ρ, μ, g, fp, sr, ⟨cc, μc, er⟩, ok⟩ := h0
  have er : ((evE Φ a ρ μ).calm).bind (fun x μ1 => lift (asB x) μ1) = .ok cc μc := er
  have ok : ∀ c μ', ((evE Φ a ρ μ).calm).bind (fun x μ1 => lift (asB x) μ1) = .ok c μ' → ∀ g' H', Go (gm X) g H g' μ' H' → Q c H' := ok
  cases e : evE Φ a ρ μ with
  | bad => rw [e] at er; cases er
  | er c fs μ1 => rw [e] at er; cases er
  | ok x μ1 =>
    simp only [e, Rs.calm, Rs.bind_ok] at er ok
    cases e2 : asB x with
    | none => simp only [e2, lift_none] at er; cases er
    | some t =>
      simp only [e2, lift_some] at er ok
      refine ⟨ρ, μ, g, fp, sr, ?_, fun o μ' e' g' H' v fo G => ?_⟩
      · unfold fB
        simp only [e, Rs.bind_ok, e2, Option.map_some, lift_some]
        trivial
      · unfold fB at e'
        simp only [e, Rs.bind_ok, e2, Option.map_some, lift_some] at e'
        cases e'
        obtain ⟨rfl, rfl⟩ := got_bl G
        exact ⟨t, rfl, ok t _ rfl g' H' G.go⟩)⟩
end
end MP
/-! MP11 -/
set_option Elab.async false
set_option linter.all false
set_option maxRecDepth 100000
set_option maxHeartbeats 1000000
/-! MP11: list comprehensions. -/
namespace MP
open PySem PySem.Spec PyProof.Rows L2
section
variable {Γ : Env1} {g g' g1 g2 : Gh} {H H' H1 H2 : Hp} {μ μ' μ1 μ2 : List O} {ρ : List Sl} {σ : L2.St} {fp : List Addr}
/-- what is new since H is written -/
theorem Go.wnew {D : Addr} {u : HO} (a : Go Γ g H g' μ' H') (n : Nw g H D) (f : g'.F D = none) (nG : D ∉ g'.G) : Go Γ g H g' μ' (upd H' D u) where
  le := a.le
  keep := fun x w e ng => by rw [upd_ne (fun z => n.no (by rw [← z]; exact e) (by rw [← z]; exact ng))]; exact a.keep x w e ng
  there := fun x h => by
    by_cases hx : x = D
    · subst hx; rw [upd_same]; exact fun z => by cases z
    · rw [upd_ne hx]; exact a.there x h
  gF := a.gF
  gG := a.gG
  F := fun x w e => by
    rw [upd_ne (ne_of_none e f)]
    exact a.F x w e
  cl := a.cl.le (Le.refl _) rfl rfl (fun x hx w e => by
    rw [upd_ne (fun z => nG (by rw [← z]; exact hx))]
    exact e) a.cl.fr
theorem Rps.snoc : ∀ {ds : List D} {vs : List V} {d : D} {v : V}, Rps Γ g ds vs → Rp Γ g d v → Rps Γ g (ds ++ [d]) (vs ++ [v]) := fun r q => r.app (by simp only [Rps]; exact ⟨_, [], rfl, q, rfl⟩)
/-- an item of a walk: the step to it -/
theorem YD.go {ds : List D} {i : Nat} {x : V} {g0 : Gh} (l : Le g0 g) (F : Same g.F H) (c : Cl Γ g H μ) (y : YD Γ g0 ds i H x H') : ∃ d g', ds[i]? = some d ∧ Go Γ g H g' μ H' ∧ Rp Γ g' d x := by
  obtain ⟨d, h1, h2⟩ := y
  rcases h2 with ⟨rfl, r⟩ | ⟨T, x1, x2, d1, d2, rfl, rfl, nT, rfl, r1, r2⟩
  · exact ⟨d, g, h1, Go.refl F c, Rp.le l d x r⟩
  · have G := Go.laid (u := .tup [x1, x2]) F c nT
    refine ⟨_, _, h1, G, ?_⟩
    simp only [Rp]
    refine ⟨T, [x1, x2], rfl, .inl (.inl upd_same), ?_⟩
    simp only [Rps]
    exact ⟨x1, [x2], rfl, Rp.le (l.trans G.le) _ _ r1, x2, [], rfl, Rp.le (l.trans G.le) _ _ r2, rfl⟩
end
theorem set_wipe : ∀ (is : List Nat) (σ : L2.St) (i : Nat), (wipe σ is).set i none = wipe (σ.set i none) is
  | [], σ, i => rfl
  | j :: is, σ, i => by
    unfold wipe
    rw [← set_wipe is σ i]
    by_cases h : i = j
    · subst h; rw [List.set_set]
    · rw [List.set_comm _ _ (fun q => h q.symm)]
theorem wipe_wipe : ∀ (is : List Nat) (σ : L2.St), wipe (wipe σ is) is = wipe σ is
  | [], σ => rfl
  | j :: is, σ => by
    have e : wipe (wipe σ (j :: is)) (j :: is) = (wipe ((wipe σ is).set j none) is).set j none := rfl
    rw [e, ← set_wipe, List.set_set, wipe_wipe is σ]
    rfl
theorem evC_calm {Φ : Fns} {cd : Option E} {ρ : List Sl} {μ : List O} : ∀ {c fs μ'}, evC Φ cd ρ μ ≠ .er c fs μ' := by
  intro c fs μ' h
  cases cd with
  | none => cases h
  | some e =>
    have h : ((evE Φ e ρ μ).calm).bind (fun x μ1 => lift (asB x) μ1) = .er c fs μ' := h
    cases e1 : evE Φ e ρ μ with
    | bad => rw [e1] at h; cases h
    | er _ _ _ => rw [e1] at h; cases h
    | ok x μ1 =>
      simp only [e1, Rs.calm, Rs.bind_ok] at h
      cases e2 : asB x <;> rw [e2] at h <;> cases h
theorem lcF_calm {Φ : Fns} {ρ : List Sl} {elt : E} {tg : T} {cd : Option E} {d : D} {μ : List O} {c fs μ'} : lcF Φ ρ elt tg cd d μ ≠ .er c fs μ' := by
  intro h
  unfold lcF at h
  split at h
  · rename_i ρ1 _
    cases e1 : evC Φ cd ρ1 μ with
    | bad => rw [e1] at h; cases h
    | er _ _ _ => exact evC_calm e1
    | ok t μ2 =>
      rw [e1, Rs.bind_ok] at h
      cases t with
      | false => cases h
      | true =>
        simp only [if_true] at h
        cases e2 : evE Φ elt ρ1 μ2 <;> rw [e2] at h <;> cases h
  · cases h
theorem lcRun_calm {f : D → List O → Rs (Option D)} (hf : ∀ d μ c fs μ', f d μ ≠ .er c fs μ') : ∀ {ds : List D} {μ : List O} {c fs μ'}, lcRun f ds μ ≠ .er c fs μ'
  | [], μ, c, fs, μ', h => by cases h
  | d :: ds, μ, c, fs, μ', h => by
    unfold lcRun at h
    cases e : f d μ with
    | bad => rw [e] at h; cases h
    | er _ _ _ => exact hf _ _ _ _ _ e
    | ok x μ1 =>
      rw [e, Rs.bind_ok] at h
      cases e2 : lcRun f ds μ1 with
      | bad => rw [e2] at h; cases h
      | er _ _ _ => exact lcRun_calm hf e2
      | ok xs μ2 => rw [e2] at h; cases h
section
variable {X : Cx} {ck : Ck} {Φ : Fns} {W : WX} {pos pos' : Pos} {p q r u tp ip : Expr} {a b d e : E} {es : List E} {ps cs : List Expr} {elt it : E} {tg : T} {cd : Option E}
/-- what stands after i turns -/
def LcP (X : Cx) (Φ : Fns) (ρ : List Sl) (elt : E) (tg : T) (cd : Option E) (ds xsF : List D) (μF : List O) (g1 : Gh) (H1 : Hp) (D : Addr) : Nat → Hp → Prop := fun i H => ∃ acc rest vs gi μi, Go (gm X) g1 H1 gi μi H ∧ H D = some (.lst vs) ∧ gi.F D = none ∧ D ∉ gi.G ∧ Rps (gm X) gi acc vs ∧
  lcRun (lcF Φ ρ elt tg cd) (ds.drop i) μi = .ok rest μF ∧ acc ++ rest = xsF ∧ acc.length ≤ i
/-- what tLc asks behind the iterator -/
def LcTail (J : It) (H1 : Hp) (g : TG) (tt : TT) (te : TE) (vs : List Nat) (σ : L2.St) (Q : VK) (D : Addr) : Prop := ∃ W : Nat → Nat → Hp → Prop, (∃ m, W 0 m (upd H1 D (.lst []))) ∧ ∀ i m H, W i m H →
  (J.stop i H ∧ Q (.ref D) H) ∨ (J.go i H ∧ ∃ Nx : Hp → Prop, (∀ H', Nx H' → ∃ m', m' < m ∧ W (i + 1) m' H') ∧ ∀ x H', J.yld i H x H' → g x (wipe σ vs) H' fun σ2 H2 => wipe σ2 vs = wipe σ vs ∧ tt σ2 H2 fun b H3 =>
    if b = true then te σ2 H3 fun y H4 => ∃ acc, H4 D = some (.lst acc) ∧ acc.length < sizeLine ∧ Nx (upd H4 D (.lst (acc ++ [y]))) else Nx H3)
theorem lc_body {σ : L2.St} {H1 : Hp} {Q : VK} {J : It} {A : Hp → Prop} {ds xsF : List D} {μ1 μF : List O} {g1 : Gh} {ρ : List Sl} {fpd : List Addr} {D : Addr} (srd : SR (gm X) g1 μ1 H1 (drops ρ (tgN tg)) (wipe σ (tgN tg)) fpd)
    (w : Walk J ds.length A (YD (gm X) g1 ds)) (hA : ∀ gi μi Hi, Go (gm X) g1 H1 gi μi Hi → A Hi) (hlim : ds.length ≤ LIM) (e3 : lcRun (lcF Φ ρ elt tg cd) ds μ1 = .ok xsF μF) (nD : H1 D = none)
    (fin : ∀ gi Hi vs, Go (gm X) g1 H1 gi μF Hi → Hi D = some (.lst vs) → gi.F D = none → D ∉ gi.G → Rps (gm X) gi xsF vs → Q (.ref D) Hi) :
    LcTail J H1 (gT X.K tg) (RC X Φ cd) (RE X (fun _ _ _ _ => False) Φ elt) (tgN tg) σ Q D := by
  have F1 := srd.F
  have C1 := srd.cl
  have hlim' : ds.length ≤ sizeLine := by rw [← LIM_eq]; exact hlim
  have nF1 : g1.F D = none := F1.free nD
  have nG1 : D ∉ g1.G := fun z => by
    obtain ⟨w, e⟩ := C1.there D z
    rw [nD] at e; cases e
  refine lc_it w (LcP X Φ ρ elt tg cd ds xsF μF g1 H1 D) ?_ ?_ ?_ ?_
  · exact ⟨[], xsF, [], g1, μ1, Go.made F1 C1 nD, upd_same, nF1, nG1, by simp only [Rps], by simpa using e3, rfl, Nat.le_refl _⟩
  · rintro i Hi _ ⟨acc, rest, vs, gi, μi, Gi, _⟩
    exact hA gi μi Hi Gi
  · rintro i x Hi Hi' hi ⟨acc, rest, vs, gi, μi, Gi, hD, nF, nG, ra, run, eF, hl⟩ y
    obtain ⟨d, g2, hd, G2, r2⟩ := YD.go Gi.le Gi.F Gi.cl y
    have hdrop : ds.drop i = d :: ds.drop (i + 1) := by
      rw [List.drop_eq_getElem_cons hi]
      congr 1
      have := List.getElem?_eq_getElem hi
      rw [hd] at this
      exact (Option.some.inj this).symm
    rw [hdrop] at run
    unfold lcRun at run
    have sr2 := srd.go (Gi.trans G2)
    cases ef : lcF Φ ρ elt tg cd d μi with
    | bad => rw [ef] at run; cases run
    | er _ _ _ => exact absurd ef lcF_calm
    | ok xo μx =>
      rw [ef, Rs.bind_ok] at run
      cases er2 : lcRun (lcF Φ ρ elt tg cd) (ds.drop (i + 1)) μx with
      | bad => rw [er2] at run; cases run
      | er _ _ _ => exact absurd er2 (lcRun_calm fun _ _ _ _ _ => lcF_calm)
      | ok rest2 μy =>
        rw [er2, Rs.bind_ok] at run
        cases run
        unfold lcF at ef
        cases eT : setT tg d (drops ρ (tgN tg)) with
        | none => rw [eT] at ef; cases ef
        | some ρ1 =>
          simp only [eT] at ef
          refine gT_at (Γ := gm X) tg d x sr2 r2 eT fun σ3 fp3 sr3 _ hw => ⟨by rw [hw (tgN tg) fun _ h => h, wipe_wipe], ?_⟩
          cases ec : evC Φ cd ρ1 μi with
          | bad => rw [ec] at ef; cases ef
          | er _ _ _ => exact absurd ec evC_calm
          | ok t μc =>
            rw [ec, Rs.bind_ok] at ef
            refine ⟨ρ1, μi, g2, fp3, sr3, ⟨t, μc, ec⟩, fun c μ' ec' g3 H3 G3 => ?_⟩
            rw [ec] at ec'
            cases ec'
            have hD2 := G2.keep D _ hD nG
            have ap2 := ap_keep G2 hD ⟨nF, nG⟩
            have hD3 := G3.keep D _ hD2 ap2.2
            have ap3 := ap_keep G3 hD2 ap2
            have G03 := Gi.trans (G2.trans G3)
            have ra3 := Rps.le (G2.trans G3).le _ _ ra
            cases t with
            | false =>
              simp only [Bool.false_eq_true, if_false] at ef ⊢
              cases ef
              exact ⟨acc, rest2, vs, g3, μx, G03, hD3, ap3.1, ap3.2, ra3, er2, eF, Nat.le_succ_of_le hl⟩
            | true =>
              simp only [if_true] at ef ⊢
              cases ee : evE Φ elt ρ1 μc with
              | bad => rw [ee] at ef; cases ef
              | er _ _ _ => rw [ee] at ef; cases ef
              | ok o μo =>
                simp only [ee, Rs.calm, Rs.bind_ok] at ef
                cases ef
                refine ⟨ρ1, μc, g3, fp3, sr3.go G3, by rw [ee]; trivial, fun o' μ' ee' g4 H4 v fo G4 => ?_⟩
                rw [ee] at ee'
                cases ee'
                obtain ⟨G4', r4⟩ := G4.fz
                have hD4 := G4'.keep D _ hD3 ap3.2
                have ap4 := ap_keep G4' hD3 ap3
                have hvl := ra3.len
                refine ⟨vs, hD4, by omega, acc ++ [fz o], rest2, vs ++ [v], _, μx, (G03.trans G4').wnew (.inr nD) ap4.1 ap4.2, upd_same, ap4.1, ap4.2, (Rps.le G4'.le _ _ ra3).snoc r4, er2, by rw [← eF]; simp, by simp; omega⟩
  · rintro Hn ⟨acc, rest, vs, gi, μi, Gi, hD, nF, nG, ra, run, eF, hl⟩
    rw [List.drop_length] at run
    cases run
    rw [List.append_nil] at eF
    subst eF
    exact fin gi Hn vs Gi hD nF nG ra
theorem rd_lc {σ : L2.St} {H : Hp} {Q : VK} (h : RE X W Φ (.lc elt tg it cd) σ H Q) : tLc (RI X W Φ it) (gT X.K tg) (RC X Φ cd) (RE X (fun _ _ _ _ => False) Φ elt) (tgN tg) σ H Q := by
  obtain ⟨ρ, μ, g, fp, sr, er, ok⟩ := h
  have er : ErOk (gm X) W σ g H ((evE Φ it ρ μ).bind fun x μ1 => (match itD (fz x) with
    | some ds => if ds.length ≤ LIM then (lcRun (lcF Φ ρ elt tg cd) ds μ1).bind fun xs μ2 => .ok (O.ol (xs.map .sh)) μ2 else .bad
    | none => .bad)) := er
  have ok : ∀ o μ', ((evE Φ it ρ μ).bind fun x μ1 => (match itD (fz x) with
    | some ds => if ds.length ≤ LIM then (lcRun (lcF Φ ρ elt tg cd) ds μ1).bind fun xs μ2 => .ok (.ol (xs.map .sh)) μ2 else .bad
    | none => .bad)) = .ok o μ' → ∀ g' H' v fo, Got (gm X) g H g' μ' H' o v fo → Q v H' := ok
  refine ⟨ρ, μ, g, fp, sr, er.of_bind, fun x μ1 e1 => ?_⟩
  rw [e1, Rs.bind_ok] at ok er
  cases e2 : itD (fz x) with
  | none => simp only [e2] at er; exact er.elim
  | some ds =>
    simp only [e2] at er ok
    split at er
    · rename_i hlim
      rw [if_pos hlim] at ok
      cases e3 : lcRun (lcF Φ ρ elt tg cd) ds μ1 with
      | bad => rw [e3] at er; exact er.elim
      | er c fs μ' => exact absurd e3 (lcRun_calm fun _ _ _ _ _ => lcF_calm)
      | ok xsF μF =>
        rw [e3, Rs.bind_ok] at ok
        refine ⟨ds, rfl, fun g1 H1 J G1 w D nD => ?_⟩
        obtain ⟨fpd, srd, _⟩ := (sr.go G1).drops (tgN tg)
        refine lc_body srd w (fun gi μi Hi G => ?_) hlim e3 nD fun gi Hn vs Gi hD nF nG ra => ?_
        · exact G.le.F.trans G.F
        · refine ok _ _ rfl gi Hn (.ref D) [D] ⟨G1.trans Gi, ?_, List.nodup_cons.mpr ⟨by simp, .nil⟩, fun x hx => ?_, fun x hx => ?_⟩
          · simp only [Ow]
            exact ⟨D, vs, [], rfl, rfl, hD, ra.sh⟩
          · obtain rfl : x = D := by simpa using hx
            exact .inr (none_back G1 nD)
          · obtain rfl : x = D := by simpa using hx
            exact ⟨nF, nG⟩
    · exact er.elim
theorem s_lc {scope : Scope} {own : List (Str × Nat)} (c : At X ck Φ W) (hi : PI X tp ip (RI X W Φ it)) (bo : BlkOk X.N X.env.scope scope own) (ho : own.map (·.2) = tgN tg)
    (hg : ∀ (s : Shared) (H : Hp) (C : Addr) (cl : List (Str × Addr)) (fp : List Addr), PG (X.blk s H scope (compEnvC scope cl C X.env) fp) tp (gT X.K tg)) (ht : ∀ (s : Shared) (H : Hp) (C : Addr) (cl : List (Str × Addr)) (fp : List Addr), PTs (X.blk s H scope (compEnvC scope cl C X.env) fp) cs (RC X Φ cd))
    (he : ∀ (s : Shared) (H : Hp) (C : Addr) (cl : List (Str × Addr)) (fp : List Addr), PE (X.blk s H scope (compEnvC scope cl C X.env) fp) p (RE X (fun _ _ _ _ => False) Φ elt)) (hs : simple ip = true) :
    PE X (.ListComp p [⟨tp, ip, cs, 0⟩] scope pos) (RE X W Φ (.lc elt tg it cd)) :=
  PE.imp (pe_lc c.calm (by rw [c.N]; exact c.nd) hi bo hg ht he (simple_fold hs X.env)) fun σ H Q h => by rw [ho]; exact rd_lc h
/-! ### a comprehension whose items are one's own -/
theorem lcRunO_calm {f : D → List O → Rs O} (hf : ∀ d μ c fs μ', f d μ ≠ .er c fs μ') : ∀ {ds : List D} {μ : List O} {c fs μ'}, lcRunO f ds μ ≠ .er c fs μ'
  | [], μ, c, fs, μ', h => by cases h
  | d :: ds, μ, c, fs, μ', h => by
    unfold lcRunO at h
    cases e : f d μ with
    | bad => rw [e] at h; cases h
    | er _ _ _ => exact hf _ _ _ _ _ e
    | ok x μ1 =>
      rw [e, Rs.bind_ok] at h
      cases e2 : lcRunO f ds μ1 with
      | bad => rw [e2] at h; cases h
      | er _ _ _ => exact lcRunO_calm hf e2
      | ok xs μ2 => rw [e2] at h; cases h
def lcFO (Φ : Fns) (ρ : List Sl) (elt : E) (tg : T) (d : D) (μ : List O) : Rs O := match setT tg d (drops ρ (tgN tg)) with
  | some ρ1 => (evE Φ elt ρ1 μ).calm
  | none => .bad
theorem lcFO_calm {Φ : Fns} {ρ : List Sl} {elt : E} {tg : T} {d : D} {μ : List O} {c fs μ'} : lcFO Φ ρ elt tg d μ ≠ .er c fs μ' := by
  intro h
  unfold lcFO at h
  split at h
  · rename_i ρ1 _
    cases e : evE Φ elt ρ1 μ <;> rw [e] at h <;> cases h
  · cases h
theorem ows_app1 {Γ : Env1} {g : Gh} {H : Hp} {x : O} {w : V} {fo : List Addr} (r : Ow Γ g H x w fo) : ∀ {os : List O} {vs : List V} {fp : List Addr}, Ows Γ g H os vs fp → Ows Γ g H (os ++ [x]) (vs ++ [w]) (fp ++ fo)
  | [], vs, fp, h => by
    simp only [Ows] at h
    obtain ⟨rfl, rfl⟩ := h
    simp only [List.nil_append, Ows]
    exact ⟨w, [], fo, [], rfl, by simp, r, rfl, rfl⟩
  | o :: os, vs, fp, h => by
    simp only [Ows] at h
    obtain ⟨v, vs', f1, f2, rfl, rfl, q, z⟩ := h
    simp only [List.cons_append, Ows]
    exact ⟨v, _, f1, f2 ++ fo, rfl, by rw [List.append_assoc], q, ows_app1 r z⟩
theorem rd_lcO {σ : L2.St} {H : Hp} {Q : VK} (h : RE X W Φ (.lcO elt tg it) σ H Q) : tLc (RI X W Φ it) (gT X.K tg) (RC X Φ none) (RE X (fun _ _ _ _ => False) Φ elt) (tgN tg) σ H Q := by
  obtain ⟨ρ, μ, g, fp, sr, er, ok⟩ := h
  have er : ErOk (gm X) W σ g H ((evE Φ it ρ μ).bind fun x μ1 => (match itD (fz x) with
    | some ds => if ds.length ≤ LIM then (lcRunO (lcFO Φ ρ elt tg) ds μ1).bind fun xs μ2 => .ok (O.ol xs) μ2 else .bad
    | none => .bad)) := er
  have ok : ∀ o μ', ((evE Φ it ρ μ).bind fun x μ1 => (match itD (fz x) with
    | some ds => if ds.length ≤ LIM then (lcRunO (lcFO Φ ρ elt tg) ds μ1).bind fun xs μ2 => .ok (.ol xs) μ2 else .bad
    | none => .bad)) = .ok o μ' → ∀ g' H' v fo, Got (gm X) g H g' μ' H' o v fo → Q v H' := ok
  refine ⟨ρ, μ, g, fp, sr, er.of_bind, fun x μ1 e1 => ?_⟩
  rw [e1, Rs.bind_ok] at ok er
  cases e2 : itD (fz x) with
  | none => simp only [e2] at er; exact er.elim
  | some ds =>
    simp only [e2] at er ok
    split at er
    · rename_i hlim
      rw [if_pos hlim] at ok
      cases e3 : lcRunO (lcFO Φ ρ elt tg) ds μ1 with
      | bad => rw [e3] at er; exact er.elim
      | er c fs μ' => exact absurd e3 (lcRunO_calm fun _ _ _ _ _ => lcFO_calm)
      | ok xsF μF =>
        rw [e3, Rs.bind_ok] at ok
        refine ⟨ds, rfl, fun g1 H1 J G1 w D nD => ?_⟩
        obtain ⟨fpd, srd, _⟩ := (sr.go G1).drops (tgN tg)
        have F1 := srd.F
        have C1 := srd.cl
        have hlim' : ds.length ≤ sizeLine := by rw [← LIM_eq]; exact hlim
        have nF1 : g1.F D = none := F1.free nD
        have nG1 : D ∉ g1.G := fun z => by
          obtain ⟨w, e⟩ := C1.there D z
          rw [nD] at e; cases e
        refine lc_it w (fun i H => ∃ acc rest vs fo gi μi, Go (gm X) g1 H1 gi μi H ∧ H D = some (.lst vs) ∧ gi.F D = none ∧ D ∉ gi.G ∧ Ows (gm X) gi H acc vs fo ∧ fo.Nodup ∧ D ∉ fo ∧ (∀ a ∈ fo, Nw g1 H1 a ∧ gi.F a = none ∧ a ∉ gi.G) ∧
          lcRunO (lcFO Φ ρ elt tg) (ds.drop i) μi = .ok rest μF ∧ acc ++ rest = xsF ∧ acc.length ≤ i) ?_ ?_ ?_ ?_
        · exact ⟨[], xsF, [], [], g1, μ1, Go.made F1 C1 nD, upd_same, nF1, nG1, by simp only [Ows]; exact ⟨trivial, trivial⟩, .nil, by simp, (fun _ h => by cases h), by simpa using e3, rfl, Nat.le_refl _⟩
        · rintro i Hi _ ⟨acc, rest, vs, fo, gi, μi, Gi, _⟩
          exact Gi.le.F.trans Gi.F
        · rintro i x Hi Hi' hi ⟨acc, rest, vs, fo, gi, μi, Gi, hD, nF, nG, ra, nd, hDf, hfo, run, eF, hl⟩ y
          obtain ⟨d, g2, hd, G2, r2⟩ := YD.go Gi.le Gi.F Gi.cl y
          have hdrop : ds.drop i = d :: ds.drop (i + 1) := by
            rw [List.drop_eq_getElem_cons hi]
            congr 1
            have := List.getElem?_eq_getElem hi
            rw [hd] at this
            exact (Option.some.inj this).symm
          rw [hdrop] at run
          unfold lcRunO at run
          have sr2 := srd.go (Gi.trans G2)
          cases ef : lcFO Φ ρ elt tg d μi with
          | bad => rw [ef] at run; cases run
          | er _ _ _ => exact absurd ef lcFO_calm
          | ok xo μx =>
            rw [ef, Rs.bind_ok] at run
            cases er2 : lcRunO (lcFO Φ ρ elt tg) (ds.drop (i + 1)) μx with
            | bad => rw [er2] at run; cases run
            | er _ _ _ => exact absurd er2 (lcRunO_calm fun _ _ _ _ _ => lcFO_calm)
            | ok rest2 μy =>
              rw [er2, Rs.bind_ok] at run
              cases run
              unfold lcFO at ef
              cases eT : setT tg d (drops ρ (tgN tg)) with
              | none => rw [eT] at ef; cases ef
              | some ρ1 =>
                simp only [eT] at ef
                refine gT_at (Γ := gm X) tg d x sr2 r2 eT fun σ3 fp3 sr3 _ hw => ⟨by rw [hw (tgN tg) fun _ h => h, wipe_wipe], ?_⟩
                have ec : evC Φ none ρ1 μi = .ok true μi := rfl
                refine ⟨ρ1, μi, g2, fp3, sr3, ⟨true, μi, ec⟩, fun c μ' ec' g3 H3 G3 => ?_⟩
                rw [ec] at ec'
                cases ec'
                have hD2 := G2.keep D _ hD nG
                have ap2 := ap_keep G2 hD ⟨nF, nG⟩
                have hD3 := G3.keep D _ hD2 ap2.2
                have ap3 := ap_keep G3 hD2 ap2
                have G03 := Gi.trans (G2.trans G3)
                have G23 := G2.trans G3
                have ra3 : Ows (gm X) g3 H3 acc vs fo := Ows.le G23.le _ _ _ ra fun b hb u eb => G23.keep b u eb (hfo b hb).2.2
                have hfo3 : ∀ a ∈ fo, g3.F a = none ∧ a ∉ g3.G := fun a ha => by
                  obtain ⟨u, eu⟩ := Ows.there _ _ _ ra a ha
                  exact ap_keep G23 eu (hfo a ha).2
                simp only [if_true]
                cases ee : evE Φ elt ρ1 μi with
                | bad => rw [ee] at ef; cases ef
                | er _ _ _ => rw [ee] at ef; cases ef
                | ok o μo =>
                  simp only [ee, Rs.calm] at ef
                  cases ef
                  refine ⟨ρ1, μi, g3, fp3, sr3.go G3, by rw [ee]; trivial, fun o' μ' ee' g4 H4 v fv G4 => ?_⟩
                  rw [ee] at ee'
                  cases ee'
                  have hD4 := G4.go.keep D _ hD3 ap3.2
                  have ap4 := ap_keep G4.go hD3 ap3
                  have hvl := ows_len ra3
                  have hDv : D ∉ fv := fun z => (G4.new D z).no hD3 ap3.2
                  have ra4 : Ows (gm X) g4 H4 acc vs fo := Ows.le G4.go.le _ _ _ ra3 fun b hb u eb => G4.go.keep b u eb (hfo3 b hb).2
                  have ra5 := ows_app1 G4.ow ra4
                  refine ⟨vs, hD4, by omega, acc ++ [xo], rest2, vs ++ [v], fo ++ fv, g4, μx, (G03.trans G4.go).wnew (.inr nD) ap4.1 ap4.2, upd_same, ap4.1, ap4.2, ?_, ?_, ?_, fun a ha => ?_, er2, by rw [← eF]; simp, by simp; omega⟩
                  · exact Ows.le (Le.refl _) _ _ _ ra5 fun b hb u eb => by
                      rw [upd_ne (fun z => by
                        rw [z] at hb
                        exact (List.mem_append.mp hb).elim hDf hDv)]
                      exact eb
                  · refine List.nodup_append.mpr ⟨nd, G4.nd, fun a ha b hb eab => ?_⟩
                    subst eab
                    obtain ⟨u, eu⟩ := Ows.there _ _ _ ra3 a ha
                    exact (G4.new a hb).no eu (hfo3 a ha).2
                  · exact fun z => (List.mem_append.mp z).elim hDf hDv
                  · rcases List.mem_append.mp ha with ha | ha
                    · obtain ⟨u, eu⟩ := Ows.there _ _ _ ra3 a ha
                      exact ⟨(hfo a ha).1, ap_keep G4.go eu (hfo3 a ha)⟩
                    · exact ⟨G03.nw (G4.new a ha), G4.ap a ha⟩
        · rintro Hn ⟨acc, rest, vs, fo, gi, μi, Gi, hD, nF, nG, ra, nd, hDf, hfo, run, eF, hl⟩
          rw [List.drop_length] at run
          cases run
          rw [List.append_nil] at eF
          subst eF
          refine ok _ _ rfl gi Hn (.ref D) (D :: fo) ⟨G1.trans Gi, ?_, List.nodup_cons.mpr ⟨hDf, nd⟩, fun x hx => ?_, fun x hx => ?_⟩
          · simp only [Ow]
            exact ⟨D, vs, fo, rfl, rfl, hD, ra⟩
          · rcases List.mem_cons.mp hx with rfl | hx
            · exact .inr (none_back G1 nD)
            · exact G1.nw (hfo x hx).1
          · rcases List.mem_cons.mp hx with rfl | hx
            · exact ⟨nF, nG⟩
            · exact (hfo x hx).2
    · exact er.elim
theorem s_lcO {scope : Scope} {own : List (Str × Nat)} (c : At X ck Φ W) (hi : PI X tp ip (RI X W Φ it)) (bo : BlkOk X.N X.env.scope scope own) (ho : own.map (·.2) = tgN tg)
    (hg : ∀ (s : Shared) (H : Hp) (C : Addr) (cl : List (Str × Addr)) (fp : List Addr), PG (X.blk s H scope (compEnvC scope cl C X.env) fp) tp (gT X.K tg)) (ht : ∀ (s : Shared) (H : Hp) (C : Addr) (cl : List (Str × Addr)) (fp : List Addr), PTs (X.blk s H scope (compEnvC scope cl C X.env) fp) [] (RC X Φ none))
    (he : ∀ (s : Shared) (H : Hp) (C : Addr) (cl : List (Str × Addr)) (fp : List Addr), PE (X.blk s H scope (compEnvC scope cl C X.env) fp) p (RE X (fun _ _ _ _ => False) Φ elt)) (hs : simple ip = true) :
    PE X (.ListComp p [⟨tp, ip, [], 0⟩] scope pos) (RE X W Φ (.lcO elt tg it)) :=
  PE.imp (pe_lc c.calm (by rw [c.N]; exact c.nd) hi bo hg ht he (simple_fold hs X.env)) fun σ H Q h => by rw [ho]; exact rd_lcO h
/-- within the block -/
theorem At.blk (c : At X ck Φ W) {scope : Scope} {own : List (Str × Nat)} (bo : BlkOk X.N X.env.scope scope own) (s : Shared) (H : Hp) (C : Addr) (cl : List (Str × Addr)) (fp : List Addr) :
    At (X.blk s H scope (compEnvC scope cl C X.env) fp) (ck.blk scope) Φ (fun _ _ _ _ => False) where
  N := c.N
  sc := by
    show relS scope X.env.scope = relS scope ck.sc
    rw [c.sc]
  nd := c.nd
  calm := c.calm
  tk := takes0
  room := c.room
  cl := fun x hx => by
    show (scope.names.lookup x == some NameKind.cell) = true
    obtain ⟨y, hy, e⟩ := List.mem_filterMap.mp hx
    split at e
    · rename_i hk
      cases e
      rw [bo.uniq y hy]
      have : y.2 = NameKind.cell := by simpa using hk
      rw [this]
      rfl
    · cases e
  st := ⟨c.st.fn, c.st.mc, c.st.ms, c.st.fl, c.st.bl, c.st.gi, c.st.gs, c.st.xp, c.st.xi, c.st.xc, c.st.xm, c.st.xk, c.st.xf⟩
mutual
theorem okG_own {k : Ck} : ∀ {t : T} {e : Expr}, okG k t e = true → ∀ i ∈ tgN t, ∃ x, k.N[i]? = some x
  | .nm i, e, h, j, hj => by
    cases e with
    | Name x pos =>
      simp only [okG, Ck.loc, Bool.and_eq_true, decide_eq_true_eq] at h
      obtain rfl : j = i := by simpa [tgN] using hj
      exact ⟨x, h.1⟩
    | _ => simp [okG] at h
  | .tp ts, e, h, j, hj => by
    cases e with
    | Tuple es n pos =>
      simp only [okG] at h
      exact okGs_own (ts := ts) h j (by simpa only [tgN] using hj)
    | _ => simp [okG] at h
theorem okGs_own {k : Ck} : ∀ {ts : List T} {es : List Expr}, okGs k ts es = true → ∀ i ∈ tgNs ts, ∃ x, k.N[i]? = some x
  | [], es, h, j, hj => by simp [tgNs] at hj
  | t :: ts, [], h, j, hj => by simp [okGs] at h
  | t :: ts, e :: es, h, j, hj => by
    simp only [okGs, Bool.and_eq_true] at h
    simp only [tgNs] at hj
    rcases List.mem_append.mp hj with hj | hj
    · exact okG_own h.1 j hj
    · exact okGs_own h.2 j hj
end
theorem ownOf_eq {k : Ck} : ∀ {is : List Nat}, (∀ i ∈ is, ∃ x, k.N[i]? = some x) → (ownOf k is).map (·.2) = is
  | [], h => rfl
  | i :: is, h => by
    obtain ⟨x, hx⟩ := h i List.mem_cons_self
    have ih := ownOf_eq (k := k) (is := is) fun j hj => h j (List.mem_cons_of_mem _ hj)
    unfold ownOf at ih ⊢
    simp only [List.filterMap_cons, hx, Option.map_some, List.map_cons]
    rw [ih]
end
end MP
/-! MPP -/
set_option Elab.async false
set_option linter.all false
set_option maxRecDepth 100000
set_option maxHeartbeats 1000000
/-! MPP: places: the way to a part of one's own, or of a common cell; that part written. -/
namespace MP
open PySem PySem.Spec PyProof.Rows L2
/-- the state within a def that began at (g0, H0) -/
structure ST (Γ : Env1) (pn : List (Nat × V)) (gb g0 : Gh) (H0 : Hp) (g : Gh) (μ : List O) (H : Hp) (ρ : List Sl) (σ : L2.St) (fp : List Addr) : Prop where
  sr : SR Γ g μ H ρ σ fp
  go : Go Γ g0 H0 g μ H
  new : ∀ a ∈ fp, Nw g0 H0 a
  lb : Le gb g
  pin : ∀ q ∈ pn, σ[q.1]? = some (some q.2)
/-! ### a part of one's own -/
theorem ows_mut2 {Γ : Env1} {g : Gh} {H : Hp} : ∀ {os : List O} {vs : List V} {fp : List Addr} {n : Nat} {o : O}, Ows Γ g H os vs fp → fp.Nodup → os[n]? = some o → ∃ v f, vs[n]? = some v ∧ Ow Γ g H o v f ∧ (∀ b ∈ f, b ∈ fp) ∧ f.Nodup ∧
    ∀ (a : Addr) (u : HO) (o' : O) (f2 fo : List Addr), a ∈ f → Ow Γ g (upd H a u) o' v f2 → (∀ b ∈ f2, b ∈ f ∨ b ∈ fo) → f2.Nodup → (∀ b ∈ fo, b ∉ fp) → ∃ fp2, Ows Γ g (upd H a u) (os.set n o') vs fp2 ∧ (∀ b ∈ fp2, b ∈ fp ∨ b ∈ fo) ∧ fp2.Nodup
  | [], vs, fp, n, o, h, nd, e => by simp at e
  | o :: os, vs, fp, 0, o0, h, nd, e => by
    simp only [Ows] at h
    obtain ⟨v, vs', f1, f2, rfl, rfl, q, z⟩ := h
    cases e
    obtain ⟨n1, n2, n3⟩ := List.nodup_append.mp nd
    refine ⟨v, f1, rfl, q, fun b hb => List.mem_append_left _ hb, n1, fun a u o' f3 fo ha w sub nd3 hfo => ?_⟩
    refine ⟨f3 ++ f2, ?_, fun b hb => ?_, List.nodup_append.mpr ⟨nd3, n2, fun x hx y hy => ?_⟩⟩
    · simp only [List.set_cons_zero, Ows]
      exact ⟨v, vs', f3, f2, rfl, rfl, w, Ows.le (Le.refl _) _ _ _ z fun b hb x ex => by rw [upd_ne (fun y => n3 a ha b hb y.symm)]; exact ex⟩
    · rcases List.mem_append.mp hb with hb | hb
      · exact (sub b hb).imp (List.mem_append_left _) id
      · exact .inl (List.mem_append_right _ hb)
    · rcases sub x hx with hx | hx
      · exact n3 x hx y hy
      · rintro rfl
        exact hfo _ hx (List.mem_append_right _ hy)
  | o :: os, vs, fp, n + 1, o0, h, nd, e => by
    simp only [Ows] at h
    obtain ⟨v, vs', f1, f2, rfl, rfl, q, z⟩ := h
    obtain ⟨n1, n2, n3⟩ := List.nodup_append.mp nd
    obtain ⟨v0, f, hv, w, sub, nf, k⟩ := ows_mut2 (n := n) z n2 (by simpa using e)
    refine ⟨v0, f, by simpa using hv, w, fun b hb => List.mem_append_right _ (sub b hb), nf, fun a u o' f3 fo ha w' sub3 nd3 hfo => ?_⟩
    obtain ⟨fp2, k1, k2, k3⟩ := k a u o' f3 fo ha w' sub3 nd3 fun b hb z => hfo b hb (List.mem_append_right _ z)
    refine ⟨f1 ++ fp2, ?_, fun b hb => ?_, List.nodup_append.mpr ⟨n1, k3, fun x hx y hy => ?_⟩⟩
    · simp only [List.set_cons_succ, Ows]
      exact ⟨v, vs', f1, fp2, rfl, rfl, Ow.le (Le.refl _) _ _ _ q fun b hb x ex => by rw [upd_ne (fun y => n3 b hb a (sub a ha) y)]; exact ex, k1⟩
    · rcases List.mem_append.mp hb with hb | hb
      · exact .inl (List.mem_append_left _ hb)
      · exact (k2 b hb).imp (List.mem_append_right _) id
    · rcases k2 y hy with hy | hy
      · exact n3 x hx y hy
      · rintro rfl
        exact hfo _ hy (List.mem_append_left _ hx)
/-- how a part lies in its whole -/
def KidR (Γ : Env1) (g : Gh) (H : Hp) (o : O) (v : V) (n : Nat) (vc : V) : Prop := match o with
  | .ol l => ∃ a vs, v = .ref a ∧ H a = some (.lst vs) ∧ vs.length = l.length ∧ vs[n]? = some vc
  | .ot l => ∃ a vs, v = .ref a ∧ g.F a = some (.tup vs) ∧ vs.length = l.length ∧ vs[n]? = some vc
  | .oi c ns _ => ∃ a dx vs, v = .ref a ∧ H a = some (.ins (He.ga Γ.K c) dx (ns.zip vs)) ∧ ns.length = vs.length ∧ vs[n]? = some vc
  | _ => True
theorem ow_kid {Γ : Env1} {g : Gh} {H : Hp} {o c : O} {v : V} {fp : List Addr} {n : Nat} (h : Ow Γ g H o v fp) (nd : fp.Nodup) (e : (kidsO o)[n]? = some c) : ∃ vc f, KidR Γ g H o v n vc ∧ Ow Γ g H c vc f ∧ (∀ b ∈ f, b ∈ fp) ∧ f.Nodup ∧
    ∀ (a : Addr) (u : HO) (o' : O) (f2 fo : List Addr), a ∈ f → Ow Γ g (upd H a u) o' vc f2 → (∀ b ∈ f2, b ∈ f ∨ b ∈ fo) → f2.Nodup → (∀ b ∈ fo, b ∉ fp) → ∃ fp2, Ow Γ g (upd H a u) (setK o ((kidsO o).set n o')) v fp2 ∧ (∀ b ∈ fp2, b ∈ fp ∨ b ∈ fo) ∧ fp2.Nodup := by
  have out : ∀ {x : Addr} {fp' fp2 fo : List Addr}, (x :: fp').Nodup → fp2.Nodup → (∀ b ∈ fp2, b ∈ fp' ∨ b ∈ fo) → (∀ b ∈ fo, b ∉ x :: fp') → (∀ b ∈ x :: fp2, b ∈ x :: fp' ∨ b ∈ fo) ∧ (x :: fp2).Nodup := fun {x fp' fp2 fo} n1 n2 s hfo => by
    refine ⟨fun b hb => ?_, List.nodup_cons.mpr ⟨fun z => ?_, n2⟩⟩
    · rcases List.mem_cons.mp hb with rfl | hb
      · exact .inl List.mem_cons_self
      · exact (s b hb).imp (List.mem_cons_of_mem _) id
    · rcases s x z with z | z
      · exact (List.nodup_cons.mp n1).1 z
      · exact hfo x z List.mem_cons_self
  cases o with
  | sh d => simp [kidsO] at e
  | ol l =>
    simp only [kidsO] at e
    simp only [Ow] at h
    obtain ⟨x, vs, fp', rfl, rfl, hx, q⟩ := h
    obtain ⟨vc, f, h1, h2, h3, h4, k⟩ := ows_mut2 q (List.nodup_cons.mp nd).2 e
    refine ⟨vc, f, ⟨x, vs, rfl, hx, (ows_len q).symm, h1⟩, h2, fun b hb => List.mem_cons_of_mem _ (h3 b hb), h4, fun a u o' f2 fo ha w sub nd2 hfo => ?_⟩
    obtain ⟨fp2, k1, k2, k3⟩ := k a u o' f2 fo ha w sub nd2 fun b hb z => hfo b hb (List.mem_cons_of_mem _ z)
    obtain ⟨o1, o2⟩ := out nd k3 k2 hfo
    have hne : x ≠ a := fun z => (List.nodup_cons.mp nd).1 (by rw [z]; exact h3 a ha)
    refine ⟨x :: fp2, ?_, o1, o2⟩
    simp only [kidsO, setK, Ow]
    exact ⟨x, vs, fp2, rfl, rfl, by rw [upd_ne hne]; exact hx, k1⟩
  | ot l =>
    simp only [kidsO] at e
    simp only [Ow] at h
    obtain ⟨x, vs, rfl, hx, q⟩ := h
    obtain ⟨vc, f, h1, h2, h3, h4, k⟩ := ows_mut2 q nd e
    refine ⟨vc, f, ⟨x, vs, rfl, hx, (ows_len q).symm, h1⟩, h2, h3, h4, fun a u o' f2 fo ha w sub nd2 hfo => ?_⟩
    obtain ⟨fp2, k1, k2, k3⟩ := k a u o' f2 fo ha w sub nd2 hfo
    refine ⟨fp2, ?_, k2, k3⟩
    simp only [kidsO, setK, Ow]
    exact ⟨x, vs, rfl, hx, k1⟩
  | oi cc ns fs =>
    simp only [kidsO] at e
    simp only [Ow] at h
    obtain ⟨x, dx, vs, fp', rfl, rfl, hx, hl, hl2, q⟩ := h
    obtain ⟨vc, f, h1, h2, h3, h4, k⟩ := ows_mut2 q (List.nodup_cons.mp nd).2 e
    refine ⟨vc, f, ⟨x, dx, vs, rfl, hx, hl, h1⟩, h2, fun b hb => List.mem_cons_of_mem _ (h3 b hb), h4, fun a u o' f2 fo ha w sub nd2 hfo => ?_⟩
    obtain ⟨fp2, k1, k2, k3⟩ := k a u o' f2 fo ha w sub nd2 fun b hb z => hfo b hb (List.mem_cons_of_mem _ z)
    obtain ⟨o1, o2⟩ := out nd k3 k2 hfo
    have hne : x ≠ a := fun z => (List.nodup_cons.mp nd).1 (by rw [z]; exact h3 a ha)
    refine ⟨x :: fp2, ?_, o1, o2⟩
    simp only [kidsO, setK, Ow]
    exact ⟨x, dx, vs, fp2, rfl, rfl, by rw [upd_ne hne]; exact hx, hl, hl2, k1⟩
  | od t ks os =>
    simp only [kidsO] at e
    simp only [Ow] at h
    obtain ⟨x, kv, vv, fp', rfl, rfl, dc, rk, q⟩ := h
    obtain ⟨vc, f, h1, h2, h3, h4, k⟩ := ows_mut2 q (List.nodup_cons.mp nd).2 e
    refine ⟨vc, f, trivial, h2, fun b hb => List.mem_cons_of_mem _ (h3 b hb), h4, fun a u o' f2 fo ha w sub nd2 hfo => ?_⟩
    obtain ⟨fp2, k1, k2, k3⟩ := k a u o' f2 fo ha w sub nd2 fun b hb z => hfo b hb (List.mem_cons_of_mem _ z)
    obtain ⟨o1, o2⟩ := out nd k3 k2 hfo
    have hne : x ≠ a := fun z => (List.nodup_cons.mp nd).1 (by rw [z]; exact h3 a ha)
    refine ⟨x :: fp2, ?_, o1, o2⟩
    simp only [kidsO, setK, Ow]
    exact ⟨x, kv, vv, fp2, rfl, rfl, dc.keep fun w ew => by rw [upd_ne hne]; exact ew, rk, k1⟩
/-! ### the way, as it is read -/
def ixRun (σ : L2.St) : Ix → Option Int
  | .c i => some i
  | .v j => (match σ[j]? with
    | some (some (.int i)) => some i
    | _ => none)
  | .s j n => (match σ[j]? with
    | some (some (.int i)) => some (i + n)
    | _ => none)
def RdV (K : PySem.W.Frag) (σ : L2.St) (H : Hp) (i : Nat) : List Stp → V → Prop
  | [], v => σ[i]? = some (some v)
  | .ix x :: rs, v => ∃ a vs k, RdV K σ H i rs (.ref a) ∧ ixRun σ x = some k ∧ (H a = some (.lst vs) ∨ H a = some (.tup vs)) ∧ L2.atI vs k = some v
  | .fl c f :: rs, v => ∃ a dx fl, RdV K σ H i rs (.ref a) ∧ H a = some (.ins (He.ga K c) dx fl) ∧ fl.lookup f = some v
theorem RdV.inj {K : PySem.W.Frag} {σ : L2.St} {H : Hp} {i : Nat} : ∀ {rs : List Stp} {v w : V}, RdV K σ H i rs v → RdV K σ H i rs w → v = w
  | [], v, w, h, k => by
    have h : σ[i]? = some (some v) := h
    have k : σ[i]? = some (some w) := k
    rw [h] at k
    cases k
    rfl
  | .ix x :: rs, v, w, ⟨a, vs, n, h1, h2, h3, h4⟩, ⟨b, us, m, k1, k2, k3, k4⟩ => by
    cases RdV.inj h1 k1
    rw [h2] at k2
    cases k2
    have : vs = us := by
      rcases h3 with h3 | h3 <;> rcases k3 with k3 | k3 <;> rw [h3] at k3 <;> cases k3 <;> rfl
    subst this
    rw [h4] at k4
    cases k4
    rfl
  | .fl c f :: rs, v, w, ⟨a, dx, fl, h1, h2, h3⟩, ⟨b, dy, gl, k1, k2, k3⟩ => by
    cases RdV.inj h1 k1
    rw [h2] at k2
    cases k2
    rw [h3] at k3
    cases k3
    rfl
def tPl (K : PySem.W.Frag) (i : Nat) (rs : List Stp) : TE := fun σ H Q => ∃ v, RdV K σ H i rs v ∧ Q v H
section
variable {X : Cx} {ck : Ck} {Φ : Fns} {W : WX} {i : Nat}
theorem pe_pl (c : At X ck Φ W) : ∀ (rs : List Stp) (p : Expr), okPl ck i rs p = true → PE X p (tPl X.K i rs)
  | [], p, h => by
    cases p <;> first | (cases h; done) | skip
    exact PE.imp (c.pv h) fun σ H Q ⟨v, h1, h2⟩ => ⟨v, h1, h2⟩
  | .ix (.c n) :: rs, p, h => by
    have key : ∀ {q e : Expr} {pos : Pos}, okPl ck i rs q = true → PE X e (tC (.int n)) → PlainIx e → PE X (.Subscript q e pos) (tPl X.K i (.ix (.c n) :: rs)) := fun {q e pos} hq he hs => by
      refine PE.imp (pe_ix ix_seq (pe_pl c rs q hq) he hs) fun σ H Q ⟨v, ⟨a, vs, k, h1, h2, h3, h4⟩, q⟩ => ⟨.ref a, h1, ?_⟩
      cases h2
      rcases h3 with h3 | h3
      · exact .inl ⟨a, vs, _, v, rfl, rfl, SqL.of h3, h4, q⟩
      · exact .inr (.inl ⟨a, vs, _, v, rfl, rfl, SqT.of h3, h4, q⟩)
    unfold okPl at h
    split at h <;> first | (cases h; done) | (rename_i e; cases e)
    · simp only [Bool.and_eq_true, decide_eq_true_eq] at h
      obtain ⟨rfl, h⟩ := h
      exact key h pe_int (simple_ix rfl)
    · simp only [Bool.and_eq_true, decide_eq_true_eq] at h
      obtain ⟨rfl, h⟩ := h
      exact key h (PE.imp (pe_un un_neg pe_int) fun σ H Q q => ⟨_, rfl, q⟩) (simple_ix rfl)
  | .ix (.v j) :: rs, p, h => by
    unfold okPl at h
    split at h <;> first | (cases h; done) | (rename_i e; cases e)
    · simp only [Bool.and_eq_true] at h
      refine PE.imp (pe_ix ix_seq (pe_pl c rs _ h.2) (c.pv h.1) (simple_ix rfl)) fun σ H Q ⟨v, ⟨a, vs, k, h1, h2, h3, h4⟩, q⟩ => ⟨.ref a, h1, ?_⟩
      have h2 : (match σ[j]? with
        | some (some (.int i)) => some i
        | _ => none) = some k := h2
      split at h2
      · rename_i k' e
        cases h2
        refine ⟨_, e, ?_⟩
        rcases h3 with h3 | h3
        · exact .inl ⟨a, vs, _, v, rfl, rfl, SqL.of h3, h4, q⟩
        · exact .inr (.inl ⟨a, vs, _, v, rfl, rfl, SqT.of h3, h4, q⟩)
      · cases h2
  | .ix (.s j n) :: rs, p, h => by
    unfold okPl at h
    cases h
  | .fl cl f :: rs, p, h => by
    cases p <;> first | (cases h; done) | skip
    simp only [okPl, Bool.and_eq_true, decide_eq_true_eq, List.contains_iff_mem] at h
    obtain ⟨rfl, h1, h2⟩ := h
    refine PE.imp (pe_fld (pe_pl c rs _ h2) (base_call0 (okPl_call h2))) fun σ H Q ⟨v, ⟨a, dx, fl, k1, k2, k3⟩, q⟩ => ⟨.ref a, k1, ?_⟩
    obtain ⟨e1, e2⟩ := c.st.fl _ h1
    exact ⟨a, _, dx, fl, v, rfl, k2, e1, e2, k3, q⟩
end
/-! ### the way, as it is reckoned -/
def getP : O → List Nat → Option O
  | o, [] => some o
  | o, n :: p => (kidsO o)[n]?.bind fun c => getP c p
theorem getP_snoc {n : Nat} : ∀ {p : List Nat} {r : O}, getP r (p ++ [n]) = (getP r p).bind fun o => (kidsO o)[n]?
  | [], r => by
    show ((kidsO r)[n]?.bind fun c => getP c []) = (kidsO r)[n]?
    cases (kidsO r)[n]? <;> rfl
  | m :: p, r => by
    show ((kidsO r)[m]?.bind fun c => getP c (p ++ [n])) = ((kidsO r)[m]?.bind fun c => getP c p).bind fun o => (kidsO o)[n]?
    cases (kidsO r)[m]? with
    | none => rfl
    | some c =>
      simp only [Option.bind_some]
      exact getP_snoc (p := p) (r := c)
theorem putP_nil (o x : O) : putP o [] x = x := by cases o <;> rfl
theorem putP_cons (o : O) (n : Nat) (p : List Nat) (x : O) : putP o (n :: p) x = match (kidsO o)[n]? with
    | some c => setK o ((kidsO o).set n (putP c p x))
    | none => o := by cases o <;> rfl
theorem putP_snoc {n : Nat} {o c x : O} (hc : (kidsO o)[n]? = some c) : ∀ {p : List Nat} {r : O}, getP r p = some o → putP r (p ++ [n]) x = putP r p (setK o ((kidsO o).set n x))
  | [], r, h => by
    cases h
    show putP _ [n] x = _
    rw [putP_cons, hc]
    simp only [putP_nil]
  | m :: p, r, h => by
    show putP r (m :: (p ++ [n])) x = _
    rw [putP_cons, putP_cons]
    have h : ((kidsO r)[m]?.bind fun c => getP c p) = some o := h
    cases e : (kidsO r)[m]? with
    | none => rfl
    | some c' =>
      rw [e] at h
      simp only [putP_snoc hc (p := p) (r := c') h]
theorem loc_getP {ρ : List Sl} {μ : List O} {i : Nat} : ∀ {rs : List Stp} {p : List Nat} {o : O}, locP ρ μ i rs = some (p, o) → ∃ r, rootO ρ μ i = some r ∧ getP r p = some o
  | [], p, o, h => by
    obtain ⟨r, h1, h2⟩ := Option.map_eq_some_iff.mp (show (rootO ρ μ i).map (fun o => (([] : List Nat), o)) = some (p, o) from h)
    cases h2
    exact ⟨_, h1, rfl⟩
  | s :: rs, p, o, h => by
    obtain ⟨q, h1, h2⟩ := Option.bind_eq_some_iff.mp (show ((locP ρ μ i rs).bind fun q => (kidN ρ s q.2).bind fun n => (kidsO q.2)[n]?.map fun o => (q.1 ++ [n], o)) = some (p, o) from h)
    obtain ⟨n, h3, h4⟩ := Option.bind_eq_some_iff.mp h2
    obtain ⟨o', h5, h6⟩ := Option.map_eq_some_iff.mp h4
    cases h6
    obtain ⟨r, k1, k2⟩ := loc_getP (rs := rs) (p := q.1) (o := q.2) h1
    exact ⟨r, k1, by rw [getP_snoc, k2]; exact h5⟩
section
variable {Γ : Env1} {pn : List (Nat × V)} {gb g0 g : Gh} {H0 H : Hp} {μ : List O} {ρ : List Sl} {σ : L2.St} {fp : List Addr} {i : Nat}
/-- new, of nobody's -/
def NewA (g0 : Gh) (H0 : Hp) (g : Gh) (fp fo : List Addr) : Prop := ∀ b ∈ fo, Nw g0 H0 b ∧ g.F b = none ∧ b ∉ g.G ∧ b ∉ fp
theorem ST.wr2 (s : ST Γ pn gb g0 H0 g μ H ρ σ fp) {o : O} (e : ρ[i]? = some (.ow o)) : ∃ v f, σ[i]? = some (some v) ∧ Ow Γ g H o v f ∧ f.Nodup ∧ (∀ b ∈ f, b ∈ fp) ∧
    ∀ (a : Addr) (u : HO) (o' : O) (f2 fo : List Addr), a ∈ f → Ow Γ g (upd H a u) o' v f2 → (∀ b ∈ f2, b ∈ f ∨ b ∈ fo) → f2.Nodup → NewA g0 H0 g fp fo → ∃ fp', ST Γ pn gb g0 H0 g μ (upd H a u) (ρ.set i (.ow o')) σ fp' := by
  obtain ⟨x, f, f', e1, ⟨v, rfl, ow⟩, p, up⟩ := s.sr.env.split e
  have nd := List.nodup_append.mp (p.nodup_iff.mp s.sr.nd)
  refine ⟨v, f, e1, ow, nd.1, fun b hb => p.mem_iff.mpr (List.mem_append_left _ hb), fun a u o' f2 fo ha ow' sub2 nd2 hfo => ?_⟩
  have inP : a ∈ fp := p.mem_iff.mpr (List.mem_append_left _ ha)
  obtain ⟨apF, apG⟩ := s.sr.ap a inP
  have keep : ∀ {l : List Addr}, a ∉ l → KeepAt H (upd H a u) l := fun {l} hn b hb w ew => by
    rw [upd_ne (fun z => hn (by rw [← z]; exact hb))]
    exact ew
  have hnf' : a ∉ f' := fun z => nd.2.2 a ha a z rfl
  obtain ⟨fp2, q2, p2⟩ := up g (upd H a u) (.ow o') (some v) f2 (Le.refl _) (keep hnf') ⟨v, rfl, ow'⟩
  have es : σ.set i (some v) = σ := by
    have hi : i < σ.length := (List.getElem?_eq_some_iff.mp e1).1
    have := (List.getElem?_eq_some_iff.mp e1).2
    rw [← this, List.set_getElem_self hi]
  rw [es] at q2
  have hsub : ∀ b ∈ fp2, b ∈ fp ∨ b ∈ fo := fun b hb => by
    rcases List.mem_append.mp (p2.mem_iff.mp hb) with z | z
    · exact (sub2 b z).imp (fun z => p.mem_iff.mpr (List.mem_append_left _ z)) id
    · exact .inl (p.mem_iff.mpr (List.mem_append_right _ z))
  refine ⟨fp2, ⟨fun b w ew => ?_, s.sr.cl.le (Le.refl _) rfl rfl (keep apG) s.sr.cl.fr, q2, p2.nodup_iff.mpr (List.nodup_append.mpr ⟨nd2, nd.2.1, fun x hx y hy => ?_⟩), fun b hb => ?_⟩, s.go.wnew (s.new a inP) apF apG, (fun b hb => (hsub b hb).elim (s.new b) fun z => (hfo b z).1), s.lb, s.pin⟩
  · rw [upd_ne (ne_of_none ew apF)]
    exact s.sr.F b w ew
  · rcases sub2 x hx with z | z
    · exact nd.2.2 x z y hy
    · rintro rfl
      exact (hfo _ z).2.2.2 (p.mem_iff.mpr (List.mem_append_right _ hy))
  · exact (hsub b hb).elim (s.sr.ap b) fun z => ⟨(hfo b z).2.1, (hfo b z).2.2.1⟩
/-- a common cell, written -/
theorem ST.wrC (s : ST Γ pn gb g0 H0 g μ H ρ σ fp) {n : Nat} {o : O} (e : ρ[i]? = some (.va (.cell n))) (hm : μ[n]? = some o) : ∃ v f, σ[i]? = some (some v) ∧ Ow Γ g H o v f ∧ f.Nodup ∧ (∀ b ∈ f, b ∈ g.G) ∧
    ∀ (a : Addr) (u : HO) (o' : O) (f2 fo : List Addr), a ∈ f → Ow Γ g (upd H a u) o' v f2 → (∀ b ∈ f2, b ∈ f ∨ b ∈ fo) → f2.Nodup → NewA g0 H0 g fp fo → ∃ G2, ST Γ pn gb g0 H0 { g with G := G2 } (μ.set n o') (upd H a u) ρ σ fp := by
  obtain ⟨v, e1, r⟩ := s.sr.env.va e
  simp only [Rp] at r
  obtain ⟨ad, rfl, hr⟩ := r
  obtain ⟨v', f, h1, h2, h3, h4, k⟩ := ows_mut2 s.sr.cl.own s.sr.cl.nd hm
  have hv : v' = .ref ad := by
    rw [List.getElem?_map, hr] at h1
    cases h1
    rfl
  subst hv
  refine ⟨.ref ad, f, e1, h2, h4, h3, fun a u o' f2 fo ha w sub nd2 hfo => ?_⟩
  obtain ⟨G2, k1, k2, k3⟩ := k a u o' f2 fo ha w sub nd2 fun b hb => (hfo b hb).2.2.1
  have haG := h3 a ha
  have apF := s.sr.cl.fr a haG
  have le : Le g { g with G := G2 } := ⟨fun _ _ h => h, fun _ _ h => h⟩
  have hF : Same g.F (upd H a u) := fun b w ew => by
    rw [upd_ne (ne_of_none ew apF)]
    exact s.sr.F b w ew
  have cl : Cl Γ { g with G := G2 } (upd H a u) (μ.set n o') := ⟨Ows.le le _ _ _ k1 (fun _ _ _ h => h), k3, fun b hb => (k2 b hb).elim (s.sr.cl.fr b) fun z => (hfo b z).2.1⟩
  have hafp : a ∉ fp := fun z => (s.sr.ap a z).2 haG
  refine ⟨G2, ⟨hF, cl, s.sr.env.le le fun b hb w ew => ?_, s.sr.nd, fun b hb => ⟨(s.sr.ap b hb).1, fun z => ?_⟩⟩, ⟨⟨s.go.le.F, s.go.le.rt⟩, fun x w ew hx => ?_, fun x hx => ?_, s.go.gF, fun x hx => ?_, hF, cl⟩, s.new, ⟨s.lb.F, s.lb.rt⟩, s.pin⟩
  · rw [upd_ne (fun z => hafp (by rw [← z]; exact hb))]
    exact ew
  · rcases k2 b z with z | z
    · exact (s.sr.ap b hb).2 z
    · exact (hfo b z).2.2.2 hb
  · have hne : x ≠ a := fun z => by
      subst z
      rcases s.go.gG x haG with y | y
      · exact hx y
      · rw [ew] at y; cases y
    rw [upd_ne hne]
    exact s.go.keep x w ew hx
  · by_cases hxa : x = a
    · subst hxa
      rw [upd_same]
      exact fun z => by cases z
    · rw [upd_ne hxa]
      exact s.go.there x hx
  · rcases k2 x hx with y | y
    · exact s.go.gG x y
    · exact (hfo x y).1
theorem ix_run (s : SR Γ g μ H ρ σ fp) {x : Ix} {k : Int} (h : ixV ρ x = some k) : ixRun σ x = some k := by
  cases x with
  | c n => exact h
  | v j =>
    unfold ixV at h
    simp only at h
    split at h
    · rename_i k' e
      cases h
      unfold getV at e
      split at e
      · rename_i d e2
        cases e
        obtain ⟨v, h1, h2⟩ := s.env.va e2
        simp only [Rp] at h2
        subst h2
        show (match σ[j]? with
          | some (some (.int i)) => some i
          | _ => none) = some k
        rw [h1]
      · cases e
    · cases h
  | s j n =>
    unfold ixV at h
    simp only at h
    split at h
    · rename_i k' e
      cases h
      unfold getV at e
      split at e
      · rename_i d e2
        cases e
        obtain ⟨v, h1, h2⟩ := s.env.va e2
        simp only [Rp] at h2
        subst h2
        show (match σ[j]? with
          | some (some (.int i)) => some (i + n)
          | _ => none) = some (k' + n)
        rw [h1]
      · cases e
    · cases h
theorem idxF_at {f : Str} : ∀ {ns : List Str} {n : Nat} {vs : List V} {v : V}, idxF ns f = some n → ns.length = vs.length → vs[n]? = some v → (ns.zip vs).lookup f = some v
  | [], n, vs, v, h, hl, hv => by cases h
  | m :: ns, n, [], v, h, hl, hv => by cases hl
  | m :: ns, n, u :: vs, v, h, hl, hv => by
    unfold idxF at h
    rw [List.zip_cons_cons, List.lookup_cons]
    by_cases hm : m = f
    · rw [if_pos hm] at h
      cases h
      cases hv
      have : (f == m) = true := by rw [hm]; simp
      rw [this]
    · rw [if_neg hm] at h
      obtain ⟨n', h1, rfl⟩ := Option.map_eq_some_iff.mp h
      have : (f == m) = false := by
        rw [beq_eq_false_iff_ne]
        exact fun z => hm z.symm
      rw [this]
      exact idxF_at h1 (by simpa using hl) (by simpa using hv)
def regn (ρ : List Sl) (i : Nat) (g : Gh) (fp : List Addr) : List Addr := if rootC ρ i then g.G else fp
theorem ST.loc (s : ST Γ pn gb g0 H0 g μ H ρ σ fp) : ∀ {rs : List Stp} {p : List Nat} {o : O}, locP ρ μ i rs = some (p, o) → ∃ v f,
    (∀ H1, KeepAt H H1 (regn ρ i g fp) → Same g.F H1 → RdV Γ.K σ H1 i rs v) ∧ Ow Γ g H o v f ∧ f.Nodup ∧ (∀ b ∈ f, b ∈ regn ρ i g fp) ∧
    ∀ (a : Addr) (u : HO) (o2 : O) (f2 fo : List Addr), a ∈ f → Ow Γ g (upd H a u) o2 v f2 → (∀ b ∈ f2, b ∈ f ∨ b ∈ fo) → f2.Nodup → NewA g0 H0 g fp fo → ∃ g2 fp', ST Γ pn gb g0 H0 g2 (putM ρ μ i p o2) (upd H a u) (putE ρ μ i p o2) σ fp' ∧ g2.F = g.F ∧ g2.rt = g.rt
  | [], p, o, h => by
    obtain ⟨r, h1, h2⟩ := Option.map_eq_some_iff.mp (show (rootO ρ μ i).map (fun o => (([] : List Nat), o)) = some (p, o) from h)
    cases h2
    unfold rootO at h1
    split at h1
    · rename_i o' e
      cases h1
      obtain ⟨v, f, k1, k2, k3, k4, k⟩ := s.wr2 e
      have hC : rootC ρ i = false := by unfold rootC; rw [e]
      have hR : regn ρ i g fp = fp := by unfold regn; rw [hC]; rfl
      rw [hR]
      refine ⟨v, f, fun _ _ _ => k1, k2, k3, k4, fun a u o2 f2 fo ha w sub nd2 hfo => ?_⟩
      obtain ⟨fp', s'⟩ := k a u o2 f2 fo ha w sub nd2 hfo
      have hE : putE ρ μ i [] o2 = ρ.set i (.ow o2) := by unfold putE; rw [e]; simp only [putP_nil]
      have hM : putM ρ μ i [] o2 = μ := by unfold putM; rw [e]
      rw [hE, hM]
      exact ⟨g, fp', s', rfl, rfl⟩
    · rename_i n e
      obtain ⟨v, f, k1, k2, k3, k4, k⟩ := s.wrC e h1
      have hC : rootC ρ i = true := by unfold rootC; rw [e]
      have hR : regn ρ i g fp = g.G := by unfold regn; rw [hC]; rfl
      rw [hR]
      refine ⟨v, f, fun _ _ _ => k1, k2, k3, k4, fun a u o2 f2 fo ha w sub nd2 hfo => ?_⟩
      obtain ⟨G2, s'⟩ := k a u o2 f2 fo ha w sub nd2 hfo
      have hE : putE ρ μ i [] o2 = ρ := by unfold putE; rw [e]
      have hM : putM ρ μ i [] o2 = μ.set n o2 := by unfold putM; rw [e]; simp only [h1, putP_nil]
      rw [hE, hM]
      exact ⟨_, fp, s', rfl, rfl⟩
    · cases h1
  | st :: rs, p, o, h => by
    obtain ⟨q, h1, h2⟩ := Option.bind_eq_some_iff.mp (show ((locP ρ μ i rs).bind fun q => (kidN ρ st q.2).bind fun n => (kidsO q.2)[n]?.map fun o => (q.1 ++ [n], o)) = some (p, o) from h)
    obtain ⟨n, h3, h4⟩ := Option.bind_eq_some_iff.mp h2
    obtain ⟨o', h5, h6⟩ := Option.map_eq_some_iff.mp h4
    cases h6
    obtain ⟨v, f, k1, k2, k3, k4, k⟩ := ST.loc s (rs := rs) (p := q.1) (o := q.2) h1
    obtain ⟨vc, fc, hk, j1, j2, j3, j⟩ := ow_kid k2 k3 h5
    have hres : rs.length = rs.length := rfl
    refine ⟨vc, fc, fun H1 kp sm => ?_, j1, j3, fun b hb => k4 b (j2 b hb), fun a u o2 f2 fo ha w sub nd2 hfo => ?_⟩
    · have rd := k1 H1 kp sm
      have kf : KeepAt H H1 f := kp.mono k4
      cases st with
      | ix x =>
        obtain ⟨qp, qo⟩ := q
        simp only at h3 hk h5 k2
        cases qo with
        | ol l =>
          simp only [kidN] at h3
          obtain ⟨kk, e1, e2⟩ := Option.bind_eq_some_iff.mp h3
          obtain ⟨ad, vs, rfl, ha, hl, hv⟩ := hk
          have hin : ad ∈ f := by
            simp only [Ow] at k2
            obtain ⟨_, _, _, e3, rfl, _⟩ := k2
            cases e3
            exact List.mem_cons_self
          refine ⟨ad, vs, kk, rd, ix_run s.sr e1, .inl (kf ad hin _ ha), ?_⟩
          unfold L2.atI
          exact Option.bind_eq_some_iff.mpr ⟨n, by rw [hl]; exact e2, hv⟩
        | ot l =>
          simp only [kidN] at h3
          obtain ⟨kk, e1, e2⟩ := Option.bind_eq_some_iff.mp h3
          obtain ⟨ad, vs, rfl, ha, hl, hv⟩ := hk
          refine ⟨ad, vs, kk, rd, ix_run s.sr e1, .inr (sm _ _ ha), ?_⟩
          unfold L2.atI
          exact Option.bind_eq_some_iff.mpr ⟨n, by rw [hl]; exact e2, hv⟩
        | _ => cases h3
      | fl c ff =>
        obtain ⟨qp, qo⟩ := q
        simp only at h3 hk h5 k2
        cases qo with
        | oi c' ns fs =>
          simp only [kidN] at h3
          split at h3
          · rename_i hc
            subst hc
            obtain ⟨ad, dx, vs, rfl, ha, hl, hv⟩ := hk
            have hin : ad ∈ f := by
              simp only [Ow] at k2
              obtain ⟨_, _, _, _, e3, rfl, _⟩ := k2
              cases e3
              exact List.mem_cons_self
            exact ⟨ad, dx, _, rd, kf ad hin _ ha, idxF_at h3 hl hv⟩
          · cases h3
        | _ => cases h3
    · have dis : ∀ b ∈ fo, b ∉ f := fun b hb z => by
        have := k4 b z
        unfold regn at this
        split at this
        · exact (hfo b hb).2.2.1 this
        · exact (hfo b hb).2.2.2 this
      obtain ⟨f3, w3, s3, n3⟩ := j a u o2 f2 fo ha w sub nd2 dis
      obtain ⟨g2, fp', s', e1, e2⟩ := k a u _ f3 fo (j2 a ha) w3 s3 n3 hfo
      obtain ⟨r, r1, r2⟩ := loc_getP h1
      have hE : putE ρ μ i (q.1 ++ [n]) o2 = putE ρ μ i q.1 (setK q.2 ((kidsO q.2).set n o2)) := by
        unfold putE
        unfold rootO at r1
        split
        · rename_i o3 e
          rw [e] at r1
          cases r1
          rw [putP_snoc h5 r2]
        · rfl
      have hM : putM ρ μ i (q.1 ++ [n]) o2 = putM ρ μ i q.1 (setK q.2 ((kidsO q.2).set n o2)) := by
        unfold putM
        unfold rootO at r1
        split
        · rename_i m e
          rw [e] at r1
          simp only at r1
          rw [r1]
          simp only [putP_snoc h5 r2]
        · rfl
      rw [hE, hM]
      exact ⟨g2, fp', s', e1, e2⟩
/-- the ghost, the other names' own objects among what may be changed -/
def Gh.more (g : Gh) (f' : List Addr) : Gh := { g with G := g.G ++ f' }
theorem go_less {f' : List Addr} (F : Same g.F H) (c : Cl Γ g H μ) : Go Γ (g.more f') H g μ H :=
  ⟨⟨fun _ _ h => h, fun _ _ h => h⟩, fun x u e _ => e, fun x h => h, fun _ h => .inl h, fun x h => .inl (List.mem_append_left _ h), F, c⟩
/-- a state within an expression, seen as one's own beginning -/
theorem SR.st (s : SR Γ g μ H ρ σ fp) : ST Γ [] g (g.more fp) H g μ H ρ σ fp :=
  ⟨s, go_less s.F s.cl, fun a h => .inl (List.mem_append_right _ h), Le.refl _, fun _ h => by cases h⟩
theorem SR.loc (s : SR Γ g μ H ρ σ fp) {rs : List Stp} {p : List Nat} {o : O} (h : locP ρ μ i rs = some (p, o)) : ∃ v f, RdV Γ.K σ H i rs v ∧ Ow Γ g H o v f ∧ f.Nodup ∧ (∀ b ∈ f, b ∈ regn ρ i g fp) := by
  obtain ⟨v, f, h1, h2, h3, h4, _⟩ := s.st.loc h
  exact ⟨v, f, h1 H (fun _ _ _ e => e) s.F, h2, h3, h4⟩
end
end MP
/-! MPQ -/
set_option Elab.async false
set_option linter.all false
set_option maxRecDepth 100000
set_option maxHeartbeats 1000000
/-! MPQ: places read. -/
namespace MP
open PySem PySem.Spec PyProof.Rows L2
theorem allSh_rps {Γ : Env1} {g : Gh} {H : Hp} : ∀ {l : List O} {ds : List D} {vs : List V} {fp : List Addr}, allSh l = some ds → Ows Γ g H l vs fp → Rps Γ g ds vs ∧ l = ds.map .sh
  | [], ds, vs, fp, e, h => by
    cases e
    simp only [Ows] at h
    exact ⟨by simp only [Rps]; exact h.1, rfl⟩
  | o :: l, ds, vs, fp, e, h => by
    simp only [Ows] at h
    obtain ⟨v, vs', f1, f2, rfl, rfl, r, q⟩ := h
    cases o with
    | sh d =>
      obtain ⟨ds', e1, rfl⟩ := Option.map_eq_some_iff.mp (show (allSh l).map (d :: ·) = some ds from e)
      obtain ⟨h1, h2⟩ := allSh_rps e1 q
      simp only [Ow] at r
      exact ⟨by simp only [Rps]; exact ⟨v, vs', rfl, r.2, h1⟩, by rw [h2]; rfl⟩
    | _ => cases e
section
variable {X : Cx} {ck : Ck} {Φ : Fns} {W : WX} {pos pos' p2 : Pos} {p q r u tp ip : Expr} {elt : E} {tg : T} {pl : Pl}
theorem s_prd (c : At X ck Φ W) (h : okPl ck pl.i pl.rs p = true) : PE X p (RE X W Φ (.prd pl)) := PE.imp (pe_pl c _ _ h) fun σ H Q hh => by
  obtain ⟨ρ, μ, g, fp, s, er, ok⟩ := hh
  have er : ErOk (gm X) W σ g H (match locP ρ μ pl.i pl.rs with
    | some (_, .sh d) => Rs.ok (O.sh d) μ
    | _ => .bad) := er
  have ok : ∀ o μ', (match locP ρ μ pl.i pl.rs with
    | some (_, .sh d) => Rs.ok (O.sh d) μ
    | _ => .bad) = .ok o μ' → ∀ g' H' v fo, Got (gm X) g H g' μ' H' o v fo → Q v H' := ok
  split at er
  · rename_i pp d hl
    rw [hl] at ok
    obtain ⟨v, fo, h1, h2, _, _⟩ := s.loc hl
    simp only [Ow] at h2
    exact ⟨v, h1, ok _ _ rfl g H v [] (Got.sh s.pure h2.2)⟩
  · exact er.elim
theorem s_plen (c : At X ck Φ W) (hg : ck.gl "len" = true) (hf : ("len" : Str) ∈ ck.bl) (hs : noStar p = true) (h : okPl ck pl.i pl.rs p = true) : PE X (.Call (.Name "len" pos') [p] [] pos) (RE X W Φ (.plen pl)) := by
  refine PE.imp (pe_callB (bi_rule (b := .len) c.calm c.hu rfl) (c.gl hg) (c.st.bl _ hf) rfl (pa_cons (pe_pl c _ _ h) pa_nil (star_cons hs)) (okName_nm (Ck.okN hg)) (okName_db (Ck.okN hg)) (star_cons hs) (star_none (es := []) rfl)) fun σ H Q hh => ?_
  obtain ⟨ρ, μ, g, fp, s, er, ok⟩ := hh
  have er : ErOk (gm X) W σ g H (match locP ρ μ pl.i pl.rs with
    | some (_, .ol l) => Rs.ok (O.sh (.int l.length)) μ
    | _ => .bad) := er
  have ok : ∀ o μ', (match locP ρ μ pl.i pl.rs with
    | some (_, .ol l) => Rs.ok (O.sh (.int l.length)) μ
    | _ => .bad) = .ok o μ' → ∀ g' H' v fo, Got (gm X) g H g' μ' H' o v fo → Q v H' := ok
  split at er
  · rename_i pp l hl
    rw [hl] at ok
    obtain ⟨v, fo, h1, h2, _, _⟩ := s.loc hl
    simp only [Ow] at h2
    obtain ⟨a, vs, fp', rfl, rfl, ha, ows⟩ := h2
    refine ⟨.ref a, h1, .inl ⟨a, vs, rfl, .inl (SqL.of ha), ?_⟩⟩
    rw [← ows_len ows]
    exact ok _ _ rfl g H _ [] (Got.sh s.pure (by simp only [Rp]))
  · exact er.elim
theorem s_plist (c : At X ck Φ W) (hg : ck.gl "list" = true) (hf : ("list" : Str) ∈ ck.bl) (hs : noStar p = true) (h : okPl ck pl.i pl.rs p = true) : PE X (.Call (.Name "list" pos') [p] [] pos) (RE X W Φ (.plist pl)) := by
  refine PE.imp (pe_callTy (bi_rule (b := .list) c.calm c.hu rfl) (c.gl hg) (c.st.bl _ hf) rfl (pa_cons (pe_pl c _ _ h) pa_nil (star_cons hs)) (okName_nm (Ck.okN hg)) (okName_db (Ck.okN hg)) (star_cons hs) (star_none (es := []) rfl)) fun σ H Q hh => ?_
  obtain ⟨ρ, μ, g, fp, s, er, ok⟩ := hh
  have er : ErOk (gm X) W σ g H (match locP ρ μ pl.i pl.rs with
    | some (_, .ol l) => (match allSh l with
      | some ds => Rs.ok (O.ol (ds.map .sh)) μ
      | none => .bad)
    | _ => .bad) := er
  have ok : ∀ o μ', (match locP ρ μ pl.i pl.rs with
    | some (_, .ol l) => (match allSh l with
      | some ds => Rs.ok (O.ol (ds.map .sh)) μ
      | none => .bad)
    | _ => .bad) = .ok o μ' → ∀ g' H' v fo, Got (gm X) g H g' μ' H' o v fo → Q v H' := ok
  split at er
  · rename_i pp l hl
    rw [hl] at ok
    simp only at ok
    obtain ⟨v, fo, h1, h2, _, _⟩ := s.loc hl
    simp only [Ow] at h2
    obtain ⟨a, vs, fp', rfl, rfl, ha, ows⟩ := h2
    cases e : allSh l with
    | none => rw [e] at er; exact er.elim
    | some ds =>
      rw [e] at ok
      obtain ⟨rp, _⟩ := allSh_rps e ows
      exact ⟨.ref a, h1, .inl ⟨a, vs, rfl, .inl (SqL.of ha), Ret.lst s.F s.cl rp fun g' H' v' fo' G' => ok _ _ rfl g' H' v' fo' G'⟩⟩
  · exact er.elim
theorem rd_pnil {neg : Bool} {σ : L2.St} {H : Hp} {Q : VK} (hh : RE X W Φ (.pnil neg pl) σ H Q) : tOp (rNil X neg) (tPl X.K pl.i pl.rs) (tLst tNil) σ H Q := by
  obtain ⟨ρ, μ, g, fp, s, er, ok⟩ := hh
  have er : ErOk (gm X) W σ g H (match locP ρ μ pl.i pl.rs with
    | some (_, .ol l) => Rs.ok (O.sh (.bl (l.isEmpty != neg))) μ
    | _ => .bad) := er
  have ok : ∀ o μ', (match locP ρ μ pl.i pl.rs with
    | some (_, .ol l) => Rs.ok (O.sh (.bl (l.isEmpty != neg))) μ
    | _ => .bad) = .ok o μ' → ∀ g' H' v fo, Got (gm X) g H g' μ' H' o v fo → Q v H' := ok
  split at er
  · rename_i pp l hl
    rw [hl] at ok
    simp only at ok
    obtain ⟨v, fo, h1, h2, _, _⟩ := s.loc hl
    simp only [Ow] at h2
    obtain ⟨a, vs, fp', rfl, rfl, ha, ows⟩ := h2
    refine ⟨.ref a, h1, Nat.zero_le _, fun q nq => ?_⟩
    have G := Go.made (u := .lst []) s.F s.cl nq
    refine ⟨a, q, vs, rfl, rfl, SqL.of (by rw [upd_ne (ne_of_none ha nq)]; exact ha), SqL.of upd_same, ?_⟩
    have e2 : l.isEmpty = vs.isEmpty := by
      have := ows_len ows
      cases l <;> cases vs <;> first | rfl | simp at this
    rw [← e2]
    exact ok _ _ rfl g _ _ [] (Got.sh G (by simp only [Rp]))
  · exact er.elim
theorem pnil_op {neg : Bool} {co : CmpOp} (ho : isCO (if neg then .ne else .eq) co = true) : co = if neg then .NotEq else .Eq := by
  have := isCO_eq ho
  cases neg <;> exact this
theorem s_pnil (c : At X ck Φ W) {neg : Bool} {pe : Pos} {co : CmpOp} (ho : isCO (if neg then .ne else .eq) co = true) (h : okPl ck pl.i pl.rs p = true) : PE X (.Compare p [co] [.List [] pe] pos) (RE X W Φ (.pnil neg pl)) := by
  rw [pnil_op ho]
  exact PE.imp (pe_cmpR (op_nil c.hu neg) (pe_pl c _ _ h) (pe_lst pa_nil) (simple_mark rfl)) fun σ H Q hh => rd_pnil hh
theorem t_pnil (c : At X ck Φ W) {neg : Bool} {pe : Pos} {co : CmpOp} (ho : isCO (if neg then .ne else .eq) co = true) (h : okPl ck pl.i pl.rs p = true) : PT X (.Compare p [co] [.List [] pe] pos) (RT X W Φ (.pnil neg pl)) := by
  rw [pnil_op ho]
  exact PT.imp (pt_cmpR (op_nil c.hu neg) (pe_pl c _ _ h) (pe_lst pa_nil) (simple_mark rfl)) fun σ H Q hh => rt_of (fun _ => rd_pnil) hh
def tIx (x : Option Ix) : TO := fun σ H Q => match x with
  | none => Q none H
  | some x => ∃ k, ixRun σ x = some k ∧ Q (some k) H
theorem po_ix (c : At X ck Φ W) {x : Option Ix} {l : Option Expr} (h : okIx ck x l = true) : PO X l (tIx x) := by
  unfold okIx at h
  split at h
  · exact PO.imp po_none fun σ H Q hh => hh
  · have h := of_decide_eq_true h
    subst h
    exact PO.imp (po_some pe_int) fun σ H Q ⟨k, e, hh⟩ => ⟨k, by cases e; rfl, hh⟩
  · have h := of_decide_eq_true h
    subst h
    exact PO.imp (po_some (pe_un un_neg pe_int)) fun σ H Q ⟨k, e, hh⟩ => ⟨_, rfl, k, by cases e; rfl, hh⟩
  · refine PO.imp (po_some (c.pv h)) fun σ H Q ⟨k, e, hh⟩ => ?_
    simp only [ixRun] at e
    split at e
    · rename_i k' e2
      cases e
      exact ⟨_, e2, _, rfl, hh⟩
    · cases e
  · rename_i j n y _ m _ _ _
    simp only [Bool.and_eq_true, decide_eq_true_eq] at h
    obtain ⟨h, rfl⟩ := h
    refine PO.imp (po_some (pe_op (opR_bin .add) (c.pv h) pe_int)) fun σ H Q ⟨k, e, hh⟩ => ?_
    simp only [ixRun] at e
    split at e
    · rename_i k' e2
      cases e
      exact ⟨_, e2, .inl ⟨_, _, rfl, rfl, _, rfl, hh⟩⟩
    · cases e
  · cases h
theorem ixO_run {Γ : Env1} {g : Gh} {μ : List O} {H : Hp} {ρ : List Sl} {σ : L2.St} {fp : List Addr} (s : SR Γ g μ H ρ σ fp) {x : Option Ix} {a : Option Int} (h : ixO ρ x = some a) {R : Option Int → Hp → Prop} {H2 : Hp} (hr : R a H2) : tIx x σ H2 R := by
  cases x with
  | none =>
    cases h
    exact hr
  | some x =>
    obtain ⟨k, h1, rfl⟩ := Option.map_eq_some_iff.mp (show (ixV ρ x).map some = some a from h)
    exact ⟨k, ix_run s h1, hr⟩
theorem s_psl (c : At X ck Φ W) {lo hi : Option Ix} {l h : Option Expr} (hp : okPl ck pl.i pl.rs p = true) (hl : okIx ck lo l = true) (hh : okIx ck hi h = true) : PE X (.Subscript p (.Slice l h none p2) pos) (RE X W Φ (.psl pl lo hi)) := by
  refine PE.imp (pe_slice sl_list (pe_pl c _ _ hp) (po_ix c hl) (po_ix c hh)) fun σ H Q hq => ?_
  obtain ⟨ρ, μ, g, fp, s, er, ok⟩ := hq
  have er : ErOk (gm X) W σ g H (match locP ρ μ pl.i pl.rs with
    | some (_, .ol l) => (match allSh l with
      | some ds => (match ixO ρ lo, ixO ρ hi with
        | some a, some b => Rs.ok (O.ol ((cut ds a b).map .sh)) μ
        | _, _ => .bad)
      | none => .bad)
    | _ => .bad) := er
  have ok : ∀ o μ', (match locP ρ μ pl.i pl.rs with
    | some (_, .ol l) => (match allSh l with
      | some ds => (match ixO ρ lo, ixO ρ hi with
        | some a, some b => Rs.ok (O.ol ((cut ds a b).map .sh)) μ
        | _, _ => .bad)
      | none => .bad)
    | _ => .bad) = .ok o μ' → ∀ g' H' v fo, Got (gm X) g H g' μ' H' o v fo → Q v H' := ok
  split at er
  · rename_i pp ll hl
    rw [hl] at ok
    simp only at ok
    obtain ⟨v, fo, h1, h2, _, _⟩ := s.loc hl
    simp only [Ow] at h2
    obtain ⟨a, vs, fp', rfl, rfl, ha, ows⟩ := h2
    cases e : allSh ll with
    | none => rw [e] at er; exact er.elim
    | some ds =>
      rw [e] at ok er
      simp only at ok er
      obtain ⟨rp, _⟩ := allSh_rps e ows
      cases e1 : ixO ρ lo with
      | none => rw [e1] at er; exact er.elim
      | some x =>
        cases e2 : ixO ρ hi with
        | none => rw [e1, e2] at er; exact er.elim
        | some y =>
          rw [e1, e2] at ok
          refine ⟨.ref a, h1, ixO_run s e1 (ixO_run s e2 ⟨a, vs, rfl, SqL.of ha, ?_⟩)⟩
          exact Ret.lst s.F s.cl (cut_at rp x y) fun g' H' v' fo' G' => ok _ _ rfl g' H' v' fo' G'
  · exact er.elim
theorem plc_fun {Φ : Fns} {ρ : List Sl} : (fun (d : D) (μ : List O) => match setT tg d (drops ρ (tgN tg)) with
    | some ρ1 => ((evE Φ elt ρ1 μ).calm).bind fun y μ3 => Rs.ok (some (fz y)) μ3
    | none => .bad) = lcF Φ ρ elt tg none := by
  funext d μ
  unfold lcF
  cases setT tg d (drops ρ (tgN tg)) with
  | none => rfl
  | some ρ1 =>
    show _ = (evC Φ none ρ1 μ).bind _
    have : evC Φ none ρ1 μ = .ok true μ := by simp only [evC]
    rw [this]
    rfl
theorem walk_own {Γ : Env1} {g : Gh} {a : Addr} {vs : List V} {ds : List D} (r : Rps Γ g ds vs) : Walk (Itl Γ.K a) ds.length (fun H => H a = some (.lst vs)) (YD Γ g ds) := by
  have w := walk_list (K := Γ.K) (a := a) (xs := vs)
  rw [← r.len] at w
  refine w.mono (fun H F => SqL.of F) fun i H x H' _ F y => ?_
  obtain ⟨rfl, e⟩ := y
  obtain ⟨d, h1, h2⟩ := r.get' e
  exact ⟨d, h1, .inl ⟨rfl, h2⟩⟩
theorem s_plc {scope : Scope} {own : List (Str × Nat)} (c : At X ck Φ W) (hp : okPl ck pl.i pl.rs ip = true) (bo : BlkOk X.N X.env.scope scope own) (ho : own.map (·.2) = tgN tg)
    (hg : ∀ (s : Shared) (H : Hp) (C : Addr) (cl : List (Str × Addr)) (fp : List Addr), PG (X.blk s H scope (compEnvC scope cl C X.env) fp) tp (gT X.K tg)) (ht : ∀ (s : Shared) (H : Hp) (C : Addr) (cl : List (Str × Addr)) (fp : List Addr), PTs (X.blk s H scope (compEnvC scope cl C X.env) fp) [] (RC X Φ none))
    (he : ∀ (s : Shared) (H : Hp) (C : Addr) (cl : List (Str × Addr)) (fp : List Addr), PE (X.blk s H scope (compEnvC scope cl C X.env) fp) p (RE X (fun _ _ _ _ => False) Φ elt)) (hs : simple ip = true) :
    PE X (.ListComp p [⟨tp, ip, [], 0⟩] scope pos) (RE X W Φ (.plc elt tg pl)) := by
  refine PE.imp (pe_lc c.calm (by rw [c.N]; exact c.nd) (pi_any (pe_pl c _ _ hp)) bo hg ht he (simple_fold hs X.env)) fun σ H Q hq => ?_
  rw [ho]
  obtain ⟨ρ, μ, g, fp, s, er, ok⟩ := hq
  have e0 : evE Φ (.plc elt tg pl) ρ μ = (match locP ρ μ pl.i pl.rs with
    | some (_, .ol l) => (match allSh l with
      | some ds => if ds.length ≤ LIM then (if rootC ρ pl.i then (if noCs ds then
          (match lcRun (lcF Φ (dropC ρ) elt tg none) ds [] with
          | .ok xs [] => Rs.ok (O.ol (xs.map .sh)) μ
          | _ => .bad) else .bad)
        else (lcRun (lcF Φ ρ elt tg none) ds μ).bind fun xs μ2 => .ok (.ol (xs.map .sh)) μ2) else .bad
      | none => .bad)
    | _ => .bad) := by
    rw [← plc_fun, ← plc_fun]
    rfl
  rw [e0] at er ok
  split at er
  · rename_i pp ll hl
    rw [hl] at ok
    simp only at ok
    obtain ⟨v, fo, h1, h2, _, h4⟩ := s.loc hl
    simp only [Ow] at h2
    obtain ⟨a, vs, fp', rfl, rfl, ha, ows⟩ := h2
    cases e : allSh ll with
    | none => rw [e] at er; exact er.elim
    | some ds =>
      rw [e] at ok er
      simp only at ok er
      obtain ⟨rp, _⟩ := allSh_rps e ows
      split at er
      · rename_i hlim
        rw [if_pos hlim] at ok
        refine ⟨.ref a, h1, .inl ⟨a, vs, rfl, .inl ⟨SqL.of ha, fun D nD => ?_⟩⟩⟩
        show LcTail (Itl X.K a) H (gT X.K tg) (RC X Φ none) (RE X (fun _ _ _ _ => False) Φ elt) (tgN tg) σ Q D
        cases hC : rootC ρ pl.i with
        | true =>
          rw [hC] at er ok
          simp only [if_true] at er ok
          split at er
          · rename_i hn
            rw [if_pos hn] at ok
            cases e3 : lcRun (lcF Φ (dropC ρ) elt tg none) ds [] with
            | bad => rw [e3] at er; exact er.elim
            | er _ _ _ => rw [e3] at er; exact er.elim
            | ok xs μF =>
              rw [e3] at er ok
              cases μF with
              | cons _ _ => exact er.elim
              | nil =>
                simp only at ok
                obtain ⟨fpd, srd, _⟩ := s.hid.drops (tgN tg)
                refine lc_body srd (walk_own (Γ := gm X) (g := g.hid) (a := a) (Rps.noC (g := g) (g' := g.hid) rfl ds vs hn rp)) (fun gi μi Hi G => G.keep a _ ha (fun z => by cases z)) hlim e3 nD fun gi Hn us Gi hD nF nG ra => ?_
                have Gs := Gi.shown s.cl
                refine ok _ _ rfl _ Hn (.ref D) [D] ⟨Gs, ?_, List.nodup_cons.mpr ⟨by simp, .nil⟩, fun x hx => ?_, fun x hx => ?_⟩
                · simp only [Ow]
                  exact ⟨D, us, [], rfl, rfl, hD, (Rps.le (le_shown Gi.cl) _ _ ra).sh⟩
                · obtain rfl : x = D := by simpa using hx
                  exact .inr nD
                · obtain rfl : x = D := by simpa using hx
                  exact ⟨nF, fun z => by
                    obtain ⟨u, e⟩ := s.cl.there _ z
                    rw [nD] at e
                    cases e⟩
          · exact er.elim
        | false =>
          rw [hC] at er ok
          simp only [Bool.false_eq_true, if_false] at er ok
          cases e3 : lcRun (lcF Φ ρ elt tg none) ds μ with
          | bad => rw [e3] at er; exact er.elim
          | er cc fs μ' => exact absurd e3 (lcRun_calm fun _ _ _ _ _ => lcF_calm)
          | ok xs μF =>
            rw [e3, Rs.bind_ok] at ok
            have hin : a ∈ fp := by
              have := h4 a List.mem_cons_self
              unfold regn at this
              rw [hC] at this
              exact this
            obtain ⟨fpd, srd, _⟩ := s.drops (tgN tg)
            refine lc_body srd (walk_own (Γ := gm X) (g := g) (a := a) rp) (fun gi μi Hi G => G.keep a _ ha (s.ap a hin).2) hlim e3 nD fun gi Hn us Gi hD nF nG ra => ?_
            refine ok _ _ rfl gi Hn (.ref D) [D] ⟨Gi, ?_, List.nodup_cons.mpr ⟨by simp, .nil⟩, fun x hx => ?_, fun x hx => ?_⟩
            · simp only [Ow]
              exact ⟨D, us, [], rfl, rfl, hD, ra.sh⟩
            · obtain rfl : x = D := by simpa using hx
              exact .inr nD
            · obtain rfl : x = D := by simpa using hx
              exact ⟨nF, nG⟩
      · exact er.elim
  · exact er.elim
end
end MP
/-! MP12 -/
set_option Elab.async false
set_option linter.all false
set_option maxRecDepth 100000
set_option maxHeartbeats 4000000
/-! MP12: every expression that passes the looks computes as my evaluator says. -/
namespace MP
open PySem PySem.Spec PyProof.Rows L2
theorem okC_nil {n : Nat} {k k' : Ck} {e : E} {p : Expr} (h : okE n k e p = true) : okC n k' none [] = true := by
  cases n with
  | zero => simp [okE] at h
  | succ n => simp only [okC]
structure All (Φ : Fns) (n : Nat) : Prop where
  E : ∀ {X ck W a p}, At X ck Φ W → okE n ck a p = true → PE X p (RE X W Φ a)
  Es : ∀ {X ck W a p}, At X ck Φ W → okEs n ck a p = true → PA X p (RA X W Φ a) ∧ p.all noStar = true
  O : ∀ {X ck W a p}, At X ck Φ W → okO n ck a p = true → PO X p (RO X W Φ a)
  C : ∀ {X ck a p}, At X ck Φ (fun _ _ _ _ => False) → okC n ck a p = true → PTs X p (RC X Φ a)
  T : ∀ {X ck W a p}, At X ck Φ W → okT n ck a p = true → PT X p (RT X W Φ a)
  And : ∀ {X ck W a b p pos}, At X ck Φ W → okAnd n ck a b p = true → PW X (.BoolOp .And p pos) (RT X W Φ (.and a b))
  Or : ∀ {X ck W a b p pos}, At X ck Φ W → okOr n ck a b p = true → PW X (.BoolOp .Or p pos) (RT X W Φ (.or a b))
  Ands : ∀ {X ck W a b p pos}, At X ck Φ W → okAnds n ck a b p = true → PE X (.BoolOp .And p pos) (RE X W Φ (.and a b))
  Ors : ∀ {X ck W a b p pos}, At X ck Φ W → okOrs n ck a b p = true → PE X (.BoolOp .Or p pos) (RE X W Φ (.or a b))
  I : ∀ {X ck W a tp p}, At X ck Φ W → okI n ck a tp p = true → PI X tp p (RI X W Φ a)
theorem all0 (Φ : Fns) : All Φ 0 := by
  constructor <;> intros <;> rename_i h <;> simp [okE, okEs, okO, okC, okT, okAnd, okOr, okAnds, okOrs, okI] at h
section
variable {Φ : Fns} {n : Nat} {X : Cx} {ck : Ck} {W : WX}
theorem okEs_nil {k : Ck} {es : List E} {ps : List Expr} (h : okEs n k es ps = true) : ps = [] → es = [] := by
  rintro rfl
  cases n with
  | zero => simp [okEs] at h
  | succ n =>
    cases es with
    | nil => rfl
    | cons _ _ => simp [okEs] at h
theorem s_callA (c : At X ck Φ W) {f : Str} {es : List E} {ps : List Expr} {pos pos' : Pos} (hg : ck.gl f = true) (hf : f ∈ ck.fs) (hs : ps.all noStar = true) (ha : PA X ps (RA X W Φ es)) (hz : ps = [] → es = []) : PE X (.Call (.Name f pos') ps [] pos) (RE X W Φ (.call f es)) := by
  cases ps with
  | nil => rw [hz rfl]; exact s_call0 c hg hf
  | cons q ps => exact s_call c hg hf hs ha
theorem s_methA (c : At X ck Φ W) {a : E} {cl m : Str} {es : List E} {ps : List Expr} {pos ap : Pos} {o : Expr} (hm : (cl, m) ∈ ck.ms) (hb : notCall0 o = true) (hl : (ap.endLine == pos.line) = true) (hn : ps.length < 30) (hs : ps.all noStar = true) (ho : PE X o (RE X W Φ a))
    (ha : PA X ps (RA X W Φ es)) (hz : ps = [] → es = []) : PE X (.Call (.Attribute o m ap) ps [] pos) (RE X W Φ (.meth cl a m es)) := by
  cases ps with
  | nil => rw [hz rfl]; exact s_meth0 c hm hb hl ho
  | cons q ps => exact s_meth c hm hb hl hn hs ho ha
theorem allEs (ih : All Φ n) {a : List E} {p : List Expr} (c : At X ck Φ W) (h : okEs (n + 1) ck a p = true) : PA X p (RA X W Φ a) ∧ p.all noStar = true := by
  unfold okEs at h
  split at h <;> first | (cases ‹n + 1 = 0›; done) | cases ‹n + 1 = Nat.succ _›
  · exact ⟨a_nil, rfl⟩
  · simp only [Bool.and_eq_true] at h
    obtain ⟨h1, h2, h3⟩ := h
    obtain ⟨i1, i2⟩ := ih.Es c h3
    exact ⟨a_cons h1 (ih.E c h2) i1, by rw [List.all_cons, h1, i2]; rfl⟩
  · cases h
theorem allO (ih : All Φ n) {a : Option E} {p : Option Expr} (c : At X ck Φ W) (h : okO (n + 1) ck a p = true) : PO X p (RO X W Φ a) := by
  unfold okO at h
  split at h <;> first | (cases ‹n + 1 = 0›; done) | cases ‹n + 1 = Nat.succ _›
  · exact o_none
  · exact o_some (ih.E c h)
  · cases h
theorem allC (ih : All Φ n) {a : Option E} {p : List Expr} (c : At X ck Φ (fun _ _ _ _ => False)) (h : okC (n + 1) ck a p = true) : PTs X p (RC X Φ a) := by
  unfold okC at h
  split at h <;> first | (cases ‹n + 1 = 0›; done) | cases ‹n + 1 = Nat.succ _›
  · exact c_none
  · exact c_some (ih.T c h)
  · cases h
theorem allAnd (ih : All Φ n) {a b : E} {p : List Expr} {pos : Pos} (c : At X ck Φ W) (h : okAnd (n + 1) ck a b p = true) : PW X (.BoolOp .And p pos) (RT X W Φ (.and a b)) := by
  unfold okAnd at h
  split at h <;> first | (cases ‹n + 1 = 0›; done) | cases ‹n + 1 = Nat.succ _›
  · simp only [Bool.and_eq_true] at h
    exact t_and (ih.T c h.1) (pw_and1 (ih.T c h.2))
  · simp only [Bool.and_eq_true] at h
    exact t_and (ih.T c h.1) (ih.And c h.2)
  · cases h
theorem allOr (ih : All Φ n) {a b : E} {p : List Expr} {pos : Pos} (c : At X ck Φ W) (h : okOr (n + 1) ck a b p = true) : PW X (.BoolOp .Or p pos) (RT X W Φ (.or a b)) := by
  unfold okOr at h
  split at h <;> first | (cases ‹n + 1 = 0›; done) | cases ‹n + 1 = Nat.succ _›
  · simp only [Bool.and_eq_true] at h
    exact t_or (ih.T c h.1) (pw_or1 (ih.T c h.2))
  · simp only [Bool.and_eq_true] at h
    exact t_or (ih.T c h.1) (ih.Or c h.2)
  · cases h
theorem allAnds (ih : All Φ n) {a b : E} {p : List Expr} {pos : Pos} (c : At X ck Φ W) (h : okAnds (n + 1) ck a b p = true) : PE X (.BoolOp .And p pos) (RE X W Φ (.and a b)) := by
  unfold okAnds at h
  split at h <;> first | (cases ‹n + 1 = 0›; done) | cases ‹n + 1 = Nat.succ _›
  · simp only [Bool.and_eq_true] at h
    exact s_and (ih.E c h.1) (pe_one (ih.E c h.2))
  · simp only [Bool.and_eq_true] at h
    exact s_and (ih.E c h.1) (ih.Ands c h.2)
  · cases h
theorem allOrs (ih : All Φ n) {a b : E} {p : List Expr} {pos : Pos} (c : At X ck Φ W) (h : okOrs (n + 1) ck a b p = true) : PE X (.BoolOp .Or p pos) (RE X W Φ (.or a b)) := by
  unfold okOrs at h
  split at h <;> first | (cases ‹n + 1 = 0›; done) | cases ‹n + 1 = Nat.succ _›
  · simp only [Bool.and_eq_true] at h
    exact s_or (ih.E c h.1) (pe_one (ih.E c h.2))
  · simp only [Bool.and_eq_true] at h
    exact s_or (ih.E c h.1) (ih.Ors c h.2)
  · cases h
theorem allI (ih : All Φ n) {a : E} {tp p : Expr} (c : At X ck Φ W) (h : okI (n + 1) ck a tp p = true) : PI X tp p (RI X W Φ a) := by
  unfold okI at h
  split at h <;> first | (cases ‹n + 1 = 0›; done) | cases ‹n + 1 = Nat.succ _›
  · simp only [Bool.and_eq_true, decide_eq_true_eq] at h
    obtain ⟨rfl, h1, h2, h3, h4⟩ := h
    exact i_rng1 c h1 (by simpa using h2) h3 (ih.E c h4)
  · simp only [Bool.and_eq_true, decide_eq_true_eq] at h
    obtain ⟨rfl, h1, h2, ⟨h3, h4⟩, h5, h6⟩ := h
    exact i_rng2 c h1 (by simpa using h2) h3 h4 (ih.E c h5) (ih.E c h6)
  · simp only [Bool.and_eq_true, decide_eq_true_eq] at h
    obtain ⟨rfl, h1, h2, ⟨h3, h4, h5⟩, h6, h7, h8⟩ := h
    exact i_rng3 c h1 (by simpa using h2) h3 h4 h5 (ih.E c h6) (ih.E c h7) (ih.E c h8)
  · simp only [Bool.and_eq_true, decide_eq_true_eq] at h
    obtain ⟨rfl, h1, h2, h3, h4⟩ := h
    exact i_enum c h1 (by simpa using h2) h3 (ih.E c h4)
  · simp only [Bool.and_eq_true, decide_eq_true_eq] at h
    obtain ⟨rfl, h1, h2, ⟨h3, h4⟩, h5, h6⟩ := h
    exact i_zip c h1 (by simpa using h2) h3 h4 (ih.E c h5) (ih.E c h6)
  · simp only [Bool.and_eq_true, decide_eq_true_eq] at h
    obtain ⟨rfl, h1, h2, h3, h4⟩ := h
    exact i_rev c h1 (by simpa using h2) h3 (ih.E c h4)
  · exact i_any (ih.E c h)
theorem allT (ih : All Φ n) {a : E} {p : Expr} (c : At X ck Φ W) (h : okT (n + 1) ck a p = true) : PT X p (RT X W Φ a) := by
  unfold okT at h
  split at h <;> first | (cases ‹n + 1 = 0›; done) | cases ‹n + 1 = Nat.succ _›
  · exact t_nt (ih.T c h)
  · exact (ih.And c h).pt
  · exact (ih.Or c h).pt
  · simp only [Bool.and_eq_true] at h
    obtain ⟨h1, h2, h3, h4⟩ := h
    rw [isCO_eq h1]
    exact t_cmp c h2 (ih.E c h3) (ih.E c h4)
  · simp only [Bool.and_eq_true] at h
    obtain ⟨⟨h1, h1'⟩, ⟨h2, h2'⟩, h3, h4, h5⟩ := h
    rw [isCO_eq h1, isCO_eq h1']
    exact t_chn c h2 h2' (ih.E c h3) (ih.E c h4) (ih.E c h5)
  · simp only [Bool.and_eq_true] at h
    obtain ⟨⟨h1, h1', h1''⟩, ⟨h2, h2', h2''⟩, h3, h4, h5, h6⟩ := h
    rw [isCO_eq h1, isCO_eq h1', isCO_eq h1'']
    exact t_chn3 c h2'' (ih.E c h3) (ih.E c h4) (ih.E c h5) (ih.E c h6)
  · simp only [Bool.and_eq_true] at h
    exact t_pnil c h.1 h.2
  · exact t_bor (ih.T c h)
  · simp only [Bool.and_eq_true] at h
    exact t_plain h.1 (ih.E c h.2)
theorem allE (ih : All Φ n) {a : E} {p : Expr} (c : At X ck Φ W) (h : okE (n + 1) ck a p = true) : PE X p (RE X W Φ a) := by
  unfold okE at h
  split at h <;> first | (cases ‹n + 1 = 0›; done) | cases ‹n + 1 = Nat.succ _›
  · exact s_bad
  · exact s_non
  · rw [eq_of_beq h]; exact s_bl
  · rw [of_decide_eq_true h]; exact s_int
  · rw [of_decide_eq_true h]; exact s_str
  · exact s_var c h
  · simp only [Bool.and_eq_true, decide_eq_true_eq] at h
    obtain ⟨rfl, h1, h2⟩ := h
    exact s_glI c h1 (by simpa using h2)
  · simp only [Bool.and_eq_true, decide_eq_true_eq] at h
    obtain ⟨rfl, h1, h2⟩ := h
    exact s_glS c h1 (by simpa using h2)
  · simp only [Bool.and_eq_true] at h
    obtain ⟨h1, h2, h3⟩ := h
    rw [isBO_eq h1]
    exact s_bin (ih.E c h2) (ih.E c h3)
  · exact s_neg (ih.E c h)
  · exact s_nt (ih.E c h)
  · exact ih.Ands c h
  · exact ih.Ors c h
  · simp only [Bool.and_eq_true] at h
    obtain ⟨h1, h2, h3, h4⟩ := h
    rw [isCO_eq h1]
    exact s_cmp c h2 (ih.E c h3) (ih.E c h4)
  · simp only [Bool.and_eq_true] at h
    obtain ⟨⟨h1, h1'⟩, ⟨h2, h2'⟩, h3, h4, h5⟩ := h
    rw [isCO_eq h1, isCO_eq h1']
    exact s_chn c h2 h2' (ih.E c h3) (ih.E c h4) (ih.E c h5)
  · simp only [Bool.and_eq_true] at h
    obtain ⟨⟨h1, h1', h1''⟩, ⟨h2, h2', h2''⟩, h3, h4, h5, h6⟩ := h
    rw [isCO_eq h1, isCO_eq h1', isCO_eq h1'']
    exact s_chn3 c h2'' (ih.E c h3) (ih.E c h4) (ih.E c h5) (ih.E c h6)
  · simp only [Bool.and_eq_true] at h
    obtain ⟨h1, h2, h3⟩ := h
    exact s_ife (ih.T c h1) (ih.E c h2) (ih.E c h3)
  · simp only [Bool.and_eq_true] at h
    obtain ⟨h1, h2, h3⟩ := h
    exact s_ix c.hu h1 (ih.E c h2) (ih.E c h3)
  · simp only [Bool.and_eq_true] at h
    obtain ⟨h1, h2, h3⟩ := h
    exact s_sl (ih.E c h1) (ih.O c h2) (ih.O c h3)
  · simp only [Bool.and_eq_true, decide_eq_true_eq] at h
    obtain ⟨rfl, h1, h2, h3⟩ := h
    exact s_fld c (by simpa using h1) h2 (ih.E c h3)
  · exact s_lst (ih.Es c h).1
  · exact s_tup (ih.Es c h).1
  · exact s_dnew
  · simp only [Bool.and_eq_true] at h
    obtain ⟨h1, h2, h3, h4, h5, h6⟩ := h
    have bo := blkOk_by h3
    rw [← c.sc, ← c.N] at bo
    exact s_lc c (ih.I c h1) bo (ownOf_eq (by exact fun i hi => okG_own h4 i hi)) (fun s H C cl fp => g_ok (c.blk bo s H C cl fp) _ _ h4) (fun s H C cl fp => ih.C (c.blk bo s H C cl fp) h6) (fun s H C cl fp => ih.E (c.blk bo s H C cl fp) h5) h2
  · simp only [Bool.and_eq_true, decide_eq_true_eq] at h
    obtain ⟨rfl, h1, h2, h3⟩ := h
    obtain ⟨i1, i2⟩ := ih.Es c h3
    exact s_callA c h1 (by simpa using h2) i2 i1 (okEs_nil h3)
  · simp only [Bool.and_eq_true, decide_eq_true_eq] at h
    obtain ⟨rfl, h1, h2, h3⟩ := h
    obtain ⟨i1, i2⟩ := ih.Es c h3
    exact s_mk c h1 (by simpa using h2) i2 i1
  · simp only [Bool.and_eq_true, decide_eq_true_eq] at h
    obtain ⟨rfl, h1, h2, h3, h4, h5, h6⟩ := h
    obtain ⟨i1, i2⟩ := ih.Es c h6
    exact s_methA c (by simpa using h1) h2 h3 h4 i2 (ih.E c h5) i1 (okEs_nil h6)
  · simp only [Bool.and_eq_true, Bool.or_eq_true, decide_eq_true_eq] at h
    obtain ⟨h1, h2, h3⟩ := h
    have h2 := List.contains_iff_mem.mp h2
    rcases h3 with h3 | h3
    · split at h3
      · rename_i e
        simp only [Bool.and_eq_true, decide_eq_true_eq] at h3
        obtain ⟨rfl, h3⟩ := h3
        obtain ⟨i1, i2⟩ := ih.Es c h3
        exact s_bi c e h1 h2 i2 i1
      · cases h3
    · obtain ⟨rfl, h3⟩ := h3
      split at h3
      · simp only [Bool.and_eq_true] at h3
        obtain ⟨h4, h5, h6⟩ := h3
        split at h6
        · simp only [Bool.and_eq_true] at h6
          exact s_isi2 c h1 h2 h5 h6.1 h6.2 (ih.E c h4)
        · exact s_isi1 c rfl (by decide +kernel) h1 h2 h5 h6 (ih.E c h4)
        · exact s_isi1 c rfl (by decide +kernel) h1 h2 h5 h6 (ih.E c h4)
        · exact s_isi1 c rfl (by decide +kernel) h1 h2 h5 h6 (ih.E c h4)
        · exact s_isi1 c rfl (by decide +kernel) h1 h2 h5 h6 (ih.E c h4)
        · exact s_isi1 c rfl (by decide +kernel) h1 h2 h5 h6 (ih.E c h4)
        · cases h6
      · cases h3
  · simp only [Bool.and_eq_true, decide_eq_true_eq] at h
    obtain ⟨h1, h2, h3, h4, h5, h6⟩ := h
    obtain ⟨i1, i2⟩ := ih.Es c h6
    exact s_bm c h1 h2 h3 h4 i2 (ih.E c h5) i1
  · exact s_bor (ih.E c h)
  · exact s_shl (ih.E c h)
  · exact s_rvs (ih.E c h)
  · simp only [Bool.and_eq_true] at h
    obtain ⟨h1, h2, h3, h4, h5⟩ := h
    have bo := blkOk_by h3
    rw [← c.sc, ← c.N] at bo
    exact s_lcO c (ih.I c h1) bo (ownOf_eq (by exact fun i hi => okG_own h4 i hi)) (fun s H C cl fp => g_ok (c.blk bo s H C cl fp) _ _ h4) (fun s H C cl fp => (ih.C (c.blk bo s H C cl fp) (a := none) (p := []) (okC_nil h5))) (fun s H C cl fp => ih.E (c.blk bo s H C cl fp) h5) h2
  · simp only [Bool.and_eq_true] at h
    obtain ⟨h1, h2, h3⟩ := h
    exact s_oix c h1 h2 (ih.E c h3)
  · exact s_prd c h
  · simp only [Bool.and_eq_true, decide_eq_true_eq] at h
    obtain ⟨rfl, h1, h2, h3, h4⟩ := h
    exact s_plen c h1 (List.contains_iff_mem.mp h2) h3 h4
  · simp only [Bool.and_eq_true, decide_eq_true_eq] at h
    obtain ⟨rfl, h1, h2, h3, h4⟩ := h
    exact s_plist c h1 (List.contains_iff_mem.mp h2) h3 h4
  · simp only [Bool.and_eq_true] at h
    exact s_pnil c h.1 h.2
  · simp only [Bool.and_eq_true] at h
    exact s_psl c h.1 h.2.1 h.2.2
  · simp only [Bool.and_eq_true] at h
    obtain ⟨h1, h2, h3, h4, h5, h6⟩ := h
    have bo := blkOk_by h3
    rw [← c.sc, ← c.N] at bo
    exact s_plc c h1 bo (ownOf_eq (by exact fun i hi => okG_own h4 i hi)) (fun s H C cl fp => g_ok (c.blk bo s H C cl fp) _ _ h4) (fun s H C cl fp => ih.C (c.blk bo s H C cl fp) h6) (fun s H C cl fp => ih.E (c.blk bo s H C cl fp) h5) h2
  · cases h
theorem all (Φ : Fns) : ∀ n, All Φ n
  | 0 => all0 Φ
  | n + 1 => ⟨allE (all Φ n), allEs (all Φ n), allO (all Φ n), allC (all Φ n), allT (all Φ n), allAnd (all Φ n), allOr (all Φ n), allAnds (all Φ n), allOrs (all Φ n), allI (all Φ n)⟩
end
end MP
/-! MP13 -/
set_option Elab.async false
set_option linter.all false
set_option maxRecDepth 100000
set_option maxHeartbeats 1000000
/-! MP13: statements: the reading, each form. -/
namespace MP
open PySem PySem.Spec PyProof.Rows L2
section
variable {Γ : Env1} {pn : List (Nat × V)} {gb g0 g g' g1 g2 : Gh} {H0 H H' H1 H2 : Hp} {μ μ' μ1 μ2 : List O} {ρ : List Sl} {σ : L2.St} {fp : List Addr}
theorem ST.to (s : ST Γ pn gb g0 H0 g μ H ρ σ fp) (a : Go Γ g H g' μ' H') : ST Γ pn gb g0 H0 g' μ' H' ρ σ fp := ⟨s.sr.go a, s.go.trans a, s.new, s.lb.trans a.le, s.pin⟩
theorem set_pin {pn : List (Nat × V)} {σ : L2.St} {i : Nat} {x : Option V} (hz : ∀ q ∈ pn, q.1 ≠ i) (h : ∀ q ∈ pn, σ[q.1]? = some (some q.2)) : ∀ q ∈ pn, (σ.set i x)[q.1]? = some (some q.2) := fun q e => by
  rw [List.getElem?_set_ne (fun y => hz q e y.symm)]; exact h q e
theorem ST.set (s : ST Γ pn gb g0 H0 g μ H ρ σ fp) {i : Nat} (hz : ∀ q ∈ pn, q.1 ≠ i) {d : D} {v : V} (r : Rp Γ g d v) : ∃ fp', ST Γ pn gb g0 H0 g μ H (ρ.set i (.va d)) (σ.set i (some v)) fp' := by
  obtain ⟨fp', s', b⟩ := s.sr.set (i := i) r
  exact ⟨fp', s', s.go, (fun a h => s.new a (b a h)), s.lb, set_pin hz s.pin⟩
theorem ST.setO (s : ST Γ pn gb g0 H0 g μ H ρ σ fp) {o : O} {v : V} {fo : List Addr} (G : Got Γ g H g' μ' H' o v fo) {i : Nat} (hz : ∀ q ∈ pn, q.1 ≠ i) : ∃ fp', ST Γ pn gb g0 H0 g' μ' H' (ρ.set i (.ow o)) (σ.set i (some v)) fp' := by
  obtain ⟨fp', s', b⟩ := s.sr.setO G (i := i)
  exact ⟨fp', s', s.go.trans G.go, (fun a h => (b a h).elim (fun z => s.new a z) fun z => s.go.nw (G.new a z)), s.lb.trans G.go.le, set_pin hz s.pin⟩
theorem ST.drops (s : ST Γ pn gb g0 H0 g μ H ρ σ fp) (is : List Nat) : ∃ fp', ST Γ pn gb g0 H0 g μ H (drops ρ is) σ fp' := by
  obtain ⟨fp', s', b⟩ := s.sr.drops0 is
  exact ⟨fp', s', s.go, (fun a h => s.new a (b a h)), s.lb, s.pin⟩
theorem ST.lend (s : ST Γ pn gb g0 H0 g μ H ρ σ fp) (is : List Nat) : ∃ L fp', ST Γ pn gb g0 H0 (g.put H L) μ H (lend ρ is) σ fp' := by
  obtain ⟨L, fp', s', b, b'⟩ := s.sr.lend is
  exact ⟨L, fp', s', s.go.put (fun x h => s.new x (b x h)) (fun x h => s.sr.ap x (b x h)), (fun a h => s.new a (b' a h)), s.lb.trans (Gh.put_le fun x h => (s.sr.ap x (b x h)).1), s.pin⟩
/-- a container of one's own, written -/
theorem ST.wr (s : ST Γ pn gb g0 H0 g μ H ρ σ fp) {i : Nat} {o : O} (e : ρ[i]? = some (.ow o)) : ∃ v f, σ[i]? = some (some v) ∧ Ow Γ g H o v f ∧ f.Nodup ∧
    ∀ (a : Addr) (u : HO) (o' : O) (f2 : List Addr), a ∈ f → Ow Γ g (upd H a u) o' v f2 → (∀ b ∈ f2, b ∈ f) → f2.Nodup → ∃ fp', ST Γ pn gb g0 H0 g μ (upd H a u) (ρ.set i (.ow o')) σ fp' := by
  obtain ⟨x, f, f', e1, ⟨v, rfl, ow⟩, p, up⟩ := s.sr.env.split e
  have nd := List.nodup_append.mp (p.nodup_iff.mp s.sr.nd)
  refine ⟨v, f, e1, ow, nd.1, fun a u o' f2 ha ow' sub2 nd2 => ?_⟩
  have inP : a ∈ fp := p.mem_iff.mpr (List.mem_append_left _ ha)
  obtain ⟨apF, apG⟩ := s.sr.ap a inP
  have keep : ∀ {l : List Addr}, a ∉ l → KeepAt H (upd H a u) l := fun {l} hn b hb w ew => by
    rw [upd_ne (fun z => hn (by rw [← z]; exact hb))]
    exact ew
  have hnf' : a ∉ f' := fun z => nd.2.2 a ha a z rfl
  obtain ⟨fp2, q2, p2⟩ := up g (upd H a u) (.ow o') (some v) f2 (Le.refl _) (keep hnf') ⟨v, rfl, ow'⟩
  have es : σ.set i (some v) = σ := by
    have hi : i < σ.length := (List.getElem?_eq_some_iff.mp e1).1
    have := (List.getElem?_eq_some_iff.mp e1).2
    rw [← this, List.set_getElem_self hi]
  rw [es] at q2
  have hsub : ∀ b ∈ fp2, b ∈ fp := fun b hb => p.mem_iff.mpr (by
    rcases List.mem_append.mp (p2.mem_iff.mp hb) with z | z
    · exact List.mem_append_left _ (sub2 b z)
    · exact List.mem_append_right _ z)
  refine ⟨fp2, ⟨fun b w ew => ?_, s.sr.cl.le (Le.refl _) rfl rfl (keep apG) s.sr.cl.fr, q2, p2.nodup_iff.mpr (List.nodup_append.mpr ⟨nd2, nd.2.1, fun x hx y hy => nd.2.2 x (sub2 x hx) y hy⟩), fun b hb => s.sr.ap b (hsub b hb)⟩, s.go.wnew (s.new a inP) apF apG, (fun b hb => s.new b (hsub b hb)), s.lb, s.pin⟩
  rw [upd_ne (ne_of_none ew apF)]
  exact s.sr.F b w ew
/-- what is one's own, returned -/
theorem ST.got (s : ST Γ pn gb g0 H0 g μ H ρ σ fp) {i : Nat} {o : O} (e : ρ[i]? = some (.ow o)) : ∃ v f, σ[i]? = some (some v) ∧ Got Γ g0 H0 g μ H o v f := by
  obtain ⟨x, f, f', e1, ⟨v, rfl, ow⟩, p, up⟩ := s.sr.env.split e
  have nd := List.nodup_append.mp (p.nodup_iff.mp s.sr.nd)
  have inP : ∀ a ∈ f, a ∈ fp := fun a ha => p.mem_iff.mpr (List.mem_append_left _ ha)
  exact ⟨v, f, e1, s.go, ow, nd.1, fun a ha => s.new a (inP a ha), fun a ha => s.sr.ap a (inP a ha)⟩
end
/-- what an end is to bring -/
def FlOk (Γ : Env1) (W : WX) (pn : List (Nat × V)) (gb g0 : Gh) (H0 : Hp) (D : Ends) : Fl → Prop
  | .nx ρ μ => ∀ g H σ fp, ST Γ pn gb g0 H0 g μ H ρ σ fp → D.nx σ H
  | .bk ρ μ => ∀ g H σ fp, ST Γ pn gb g0 H0 g μ H ρ σ fp → D.bk σ H
  | .ct ρ μ => ∀ g H σ fp, ST Γ pn gb g0 H0 g μ H ρ σ fp → D.ct σ H
  | .rt o μ => ∀ g H v fo, Got Γ g0 H0 g μ H o v fo → D.rt v H
  | .er c fs ρ μ => ∀ g H σ fp cls d, ST Γ pn gb g0 H0 g μ H ρ σ fp → XR Γ g H c fs cls d → W cls d σ H
  | .bad => False
def RdS (Γ : Env1) (W : WX) (z : List Nat) (f : List Sl → List O → Fl) : TS := fun D σ H => ∃ (pn : List (Nat × V)) (gb g0 : Gh) (H0 : Hp), (∀ q ∈ pn, q.1 ∈ z) ∧ ∃ ρ μ g fp, ST Γ pn gb g0 H0 g μ H ρ σ fp ∧ FlOk Γ W pn gb g0 H0 D (f ρ μ)
section
variable {Γ : Env1} {W : WX} {z : List Nat} {D : Ends} {σ : L2.St} {H : Hp} {pn : List (Nat × V)} {gb g0 : Gh} {H0 : Hp}
theorem FlOk.er_of {α : Type} {r : Rs α} {ρ : List Sl} {k : α → List O → Fl} {g : Gh} {μ : List O} {fp : List Addr} (s : ST Γ pn gb g0 H0 g μ H ρ σ fp) (h : FlOk Γ W pn gb g0 H0 D (r.go ρ k)) : ErOk Γ W σ g H r := by
  cases r with
  | ok a μ1 => trivial
  | er c fs μ1 => exact fun g' H' cls d G x => h g' H' σ fp cls d (s.to G) x
  | bad => exact h
/-- an expression, then the rest -/
theorem rdS_e {fe : List Sl → List O → Rs O} {k : List Sl → O → List O → Fl} {R : V → Hp → Prop} (h : RdS Γ W z (fun ρ μ => (fe ρ μ).go ρ (k ρ)) D σ H)
    (n : ∀ pn gb g0 H0 (hpn : ∀ q ∈ pn, q.1 ∈ z) ρ x μ1 g g1 H1 fp v fo μ, ST Γ pn gb g0 H0 g μ H ρ σ fp → Got Γ g H g1 μ1 H1 x v fo → FlOk Γ W pn gb g0 H0 D (k ρ x μ1) → R v H1) : RdE Γ W fe σ H R := by
  obtain ⟨pn, gb, g0, H0, hpn, ρ, μ, g, fp, s, ok⟩ := h
  refine ⟨ρ, μ, g, fp, s.sr, FlOk.er_of s ok, fun o μ1 e g1 H1 v fo G => ?_⟩
  have ok : FlOk Γ W pn gb g0 H0 D ((fe ρ μ).go ρ (k ρ)) := ok
  rw [e] at ok
  exact n pn gb g0 H0 hpn ρ o μ1 g g1 H1 fp v fo μ s G ok
end
section
variable {X : Cx} {z : List Nat} {ck : Ck} {Φ : Fns} {W : WX} {pos pos' ap : Pos} {p q r u tp ip : Expr} {a b d e kx it : E} {es : List E} {ps cs : List Expr} {tg : T} {i : Nat}
abbrev RS (X : Cx) (z : List Nat) (W : WX) (Φ : Fns) (s : S) : TS := RdS (gm X) W z (evS Φ s)
abbrev RSs (X : Cx) (z : List Nat) (W : WX) (Φ : Fns) (s : List S) : TS := RdS (gm X) W z (evSs Φ s)
theorem ss_nil : PSs X [] (RSs X z W Φ []) := PSs.imp pss_nil fun D σ H h => by
  obtain ⟨pn, gb, g0, H0, hpn, ρ, μ, g, fp, s, ok⟩ := h
  exact ok g H σ fp s
theorem rdS_seq {f : List Sl → List O → Fl} {k : List Sl → List O → Fl} {D : Ends} {σ : L2.St} {H : Hp} (h : RdS (gm X) W z (fun ρ μ => (f ρ μ).then k) D σ H) : tSeq (RdS (gm X) W z f) (RdS (gm X) W z k) D σ H := by
  obtain ⟨pn, gb, g0, H0, hpn, ρ, μ, g, fp, s, ok⟩ := h
  refine ⟨pn, gb, g0, H0, hpn, ρ, μ, g, fp, s, ?_⟩
  have ok : FlOk (gm X) W pn gb g0 H0 D ((f ρ μ).then k) := ok
  cases e : f ρ μ <;> rw [e] at ok <;> first | exact ok | skip
  exact fun g' H' σ' fp' s' => ⟨pn, gb, g0, H0, hpn, _, _, g', fp', s', ok⟩
theorem ss_cons {st : Stmt} {sts : List Stmt} {s : S} {ss : List S} (h1 : PS X st (RS X z W Φ s)) (h2 : PSs X sts (RSs X z W Φ ss)) : PSs X (st :: sts) (RSs X z W Φ (s :: ss)) :=
  PSs.imp (pss_cons h1 h2) fun D σ H h => rdS_seq (f := evS Φ s) (k := evSs Φ ss) h
theorem st_pass : PS X (.Pass pos) (RS X z W Φ .pass) := PS.imp ps_pass fun D σ H h => by
  obtain ⟨pn, gb, g0, H0, hpn, ρ, μ, g, fp, s, ok⟩ := h
  exact ok g H σ fp s
theorem st_brk : PS X (.Break pos) (RS X z W Φ .brk) := PS.imp ps_break fun D σ H h => by
  obtain ⟨pn, gb, g0, H0, hpn, ρ, μ, g, fp, s, ok⟩ := h
  exact ok g H σ fp s
theorem st_cnt : PS X (.Continue pos) (RS X z W Φ .cnt) := PS.imp ps_continue fun D σ H h => by
  obtain ⟨pn, gb, g0, H0, hpn, ρ, μ, g, fp, s, ok⟩ := h
  exact ok g H σ fp s
theorem st_retN : PS X (.Return none pos) (RS X z W Φ .retN) := PS.imp ps_retN fun D σ H h => by
  obtain ⟨pn, gb, g0, H0, hpn, ρ, μ, g, fp, s, ok⟩ := h
  exact ok g H .non [] (Got.sh s.go (by simp only [Rp]))
theorem st_ret (he : PE X p (RE X W Φ a)) : PS X (.Return (some p) pos) (RS X z W Φ (.ret a)) := PS.imp (ps_ret he) fun D σ H h =>
  rdS_e (fe := evE Φ a) (k := fun _ x μ1 => .rt x μ1) h fun pn gb g0 H0 hpn ρ x μ1 g g1 H1 fp v fo μ s G ok => ok g1 H1 v fo (G.after s.go)
theorem st_retO (c : At X ck Φ W) {x : Str} (h : ck.vis i x = true) : PS X (.Return (some (.Name x pos')) pos) (RS X z W Φ (.retO i)) := PS.imp (ps_ret (c.pv h)) fun D σ H hh => by
  obtain ⟨pn, gb, g0, H0, hpn, ρ, μ, g, fp, s, ok⟩ := hh
  have ok : FlOk (gm X) W pn gb g0 H0 D (match ρ[i]? with
    | some (.ow o) => .rt o μ
    | _ => .bad) := ok
  split at ok
  · rename_i o e
    obtain ⟨v, f, hv, G⟩ := s.got e
    exact ⟨v, hv, ok g H v f G⟩
  · exact ok.elim
theorem st_ex (he : PE X p (RE X W Φ a)) (hs : swapsWith p none pos.line X.env = pure false) : PS X (.Expr p pos) (RS X z W Φ (.ex a)) := PS.imp (ps_expr he hs) fun D σ H h =>
  rdS_e (fe := evE Φ a) (k := fun ρ x μ1 => .nx ρ μ1) h fun pn gb g0 H0 hpn ρ x μ1 g g1 H1 fp v fo μ s G ok => ok g1 H1 σ fp (s.to G.go)
/-- a value frozen and stored -/
theorem pin_or {pn : List (Nat × V)} {P : Nat → Prop} (hpn : ∀ q ∈ pn, q.1 ∈ z) (h : ∀ j ∈ z, P j) : ∀ q ∈ pn, P q.1 := fun q hq => h _ (hpn q hq)
theorem wipe_pin {pn : List (Nat × V)} {σ σ' : L2.St} {is : List Nat} (hz : ∀ q ∈ pn, q.1 ∉ is) (hw : wipe σ' is = wipe σ is) (h : ∀ q ∈ pn, σ[q.1]? = some (some q.2)) : ∀ q ∈ pn, σ'[q.1]? = some (some q.2) := fun q e => by
  rw [← wipe_out (hz q e), hw, wipe_out (hz q e)]; exact h q e
theorem rd_asg (hz : ∀ j ∈ z, j ∉ tgN tg) {D : Ends} {σ : L2.St} {H : Hp} (h : RS X z W Φ (.asg tg a) D σ H) : tAsg (RE X W Φ a) (gT X.K tg) D σ H :=
  rdS_e (fe := evE Φ a) (k := fun ρ x μ1 => match setT tg (fz x) ρ with
    | some ρ1 => .nx ρ1 μ1
    | none => .bad) h fun pn gb g0 H0 hpn ρ x μ1 g g1 H1 fp v fo μ s G ok => by
    obtain ⟨G1, r1⟩ := G.fz
    have s1 := s.to G1
    cases e : setT tg (fz x) ρ with
    | none => simp only [e] at ok; exact ok.elim
    | some ρ1 =>
      simp only [e] at ok
      exact gT_at (Γ := gm X) tg (fz x) v s1.sr r1 e fun σ' fp' s' b' hw => ok _ _ σ' fp' ⟨s', s1.go, (fun a h => s1.new a (b' a h)), s1.lb, wipe_pin (pin_or hpn hz) (hw _ fun _ h => h) s1.pin⟩
theorem rd_own (hz : ∀ j ∈ z, j ≠ i) {D : Ends} {σ : L2.St} {H : Hp} (h : RS X z W Φ (.own i a) D σ H) : tAsg (RE X W Φ a) (gName i) D σ H :=
  rdS_e (fe := evE Φ a) (k := fun ρ x μ1 => .nx (ρ.set i (.ow x)) μ1) h fun pn gb g0 H0 hpn ρ x μ1 g g1 H1 fp v fo μ s G ok => by
    obtain ⟨fp', s'⟩ := s.setO G (i := i) (pin_or hpn hz)
    exact ok g1 H1 _ fp' s'
theorem sw_no {t : Option Expr} {l : Nat} {env : Env} (h : noLC p = true) : swapsWith p t l env = pure false := by
  cases p <;> first | rfl | cases h
theorem sole_no {l : Nat} {env : Env} (h : noLC p = true) : swapsWithSole [q] p l env = pure false := by
  cases p <;> first | rfl | cases h
theorem stores_no {env : Env} (h : notTup p = true ∨ notTup q = true) : swappedStores [q] p env = pure none := by
  rcases h with h | h
  · cases p <;> first | (cases h; done) | (cases q <;> rfl)
  · cases q <;> first | (cases h; done) | (cases p <;> rfl)
theorem asg_one {env : Env} (h : noStar q = true) : (assignEach [q] env).map (·.2) = [assign q env] := by rw [asg_cons h]; rfl
theorem st_aug (c : At X ck Φ W) (hz : ∀ j ∈ z, j ≠ i) {o : BO} {oo : Operator} {x : Str} (ho : (o = .add ∧ oo = .Add) ∨ (o = .sub ∧ oo = .Sub)) (hN : ck.N[i]? = some x) (hx : Loc X.env.scope x) (hf : X.fn x = true ∨ X.env.scope.names.lookup x = some .local) (he : PE X p (RE X W Φ a)) :
    PS X (.AugAssign (.Name x pos') oo p pos) (RS X z W Φ (.aug i o a)) := by
  have hN' : X.N[i]? = some x := by rw [c.N]; exact hN
  have nd : X.N.Nodup := by rw [c.N]; exact c.nd
  have core : ∀ (op : Int → Int → Int), (∀ m n : Int, augD o (.int m) (.int n) = some (op m n)) → ∀ D σ H, RS X z W Φ (.aug i o a) D σ H → tAug i (RE X W Φ a) (ipI op) D σ H := fun op hop D σ H h => by
    obtain ⟨pn, gb, g0, H0, hpn, ρ, μ, g, fp, s, ok⟩ := h
    have ok : FlOk (gm X) W pn gb g0 H0 D (match getV ρ i with
      | some d => (evE Φ a ρ μ).go ρ fun x μ1 => (match augD o d (fz x) with
        | some z => .nx (ρ.set i (.va (.int z))) μ1
        | none => .bad)
      | none => .bad) := ok
    cases e0 : getV ρ i with
    | none => rw [e0] at ok; exact ok.elim
    | some d =>
      rw [e0] at ok
      simp only at ok
      have e1 : ρ[i]? = some (.va d) := by
        unfold getV at e0
        split at e0
        · cases e0; assumption
        · cases e0
      obtain ⟨v, hv, rv⟩ := s.sr.env.va e1
      refine ⟨v, hv, ρ, μ, g, fp, s.sr, FlOk.er_of s ok, fun x μ1 e2 g1 H1 w fo G => ?_⟩
      rw [e2] at ok
      simp only [Rs.go_ok] at ok
      obtain ⟨G1, r1⟩ := G.fz
      have s1 := s.to G1
      cases d with
      | int m =>
        cases e3 : fz x with
        | int n =>
          rw [e3] at r1 ok
          simp only [Rp] at rv r1
          refine ⟨m, n, rv, r1, ?_⟩
          obtain ⟨fp', s2⟩ := s1.set (i := i) (pin_or hpn hz) (d := .int (op m n)) (v := .int (op m n)) (by simp only [Rp])
          rw [hop m n] at ok
          exact ok _ _ _ fp' s2
        | _ => rw [e3] at ok; exact ok.elim
      | _ => exact ok.elim
  rcases ho with ⟨rfl, rfl⟩ | ⟨rfl, rfl⟩
  · exact PS.imp (ps_aug nd hN' hx he ip_add hf) (core _ fun m n => rfl)
  · exact PS.imp (ps_aug nd hN' hx he ip_sub hf) (core _ fun m n => rfl)
/-- a test, then the rest -/
theorem rdS_t {D : Ends} {σ : L2.St} {H : Hp} {k : List Sl → Bool → List O → Fl} {R : Bool → Hp → Prop} (h : RdS (gm X) W z (fun ρ μ => (evE Φ a ρ μ).go ρ fun x μ1 => match asB x with
    | some t => k ρ t μ1
    | none => .bad) D σ H)
    (n : ∀ pn gb g0 H0 (hpn : ∀ q ∈ pn, q.1 ∈ z) ρ t μ1 g1 H1 fp, ST (gm X) pn gb g0 H0 g1 μ1 H1 ρ σ fp → FlOk (gm X) W pn gb g0 H0 D (k ρ t μ1) → R t H1) : RT X W Φ a σ H R := by
  obtain ⟨pn, gb, g0, H0, hpn, ρ, μ, g, fp, s, ok⟩ := h
  have ok : FlOk (gm X) W pn gb g0 H0 D ((evE Φ a ρ μ).go ρ fun x μ1 => match asB x with
    | some t => k ρ t μ1
    | none => .bad) := ok
  refine ⟨ρ, μ, g, fp, s.sr, ?_, fun o μ1 e g1 H1 v fo G => ?_⟩
  · have er := FlOk.er_of s ok
    unfold fB
    cases e : evE Φ a ρ μ with
    | bad => rw [e] at er; exact er
    | er c fs μ1 => rw [e] at er; exact er
    | ok x μ1 =>
      rw [e] at ok
      simp only [Rs.go_ok] at ok
      cases e2 : asB x with
      | none => rw [e2] at ok; exact ok.elim
      | some t => simp only [Rs.bind_ok, e2, Option.map_some, lift_some]; trivial
  · unfold fB at e
    cases e1 : evE Φ a ρ μ with
    | bad => rw [e1] at e; cases e
    | er c fs μ1 => rw [e1] at e; cases e
    | ok x μx =>
      rw [e1] at ok e
      simp only [Rs.go_ok] at ok
      simp only [Rs.bind_ok] at e
      cases e2 : asB x with
      | none => rw [e2] at ok; exact ok.elim
      | some t =>
        simp only [e2, Option.map_some, lift_some] at e ok
        cases e
        obtain ⟨rfl, rfl⟩ := got_bl G
        exact ⟨t, rfl, n pn gb g0 H0 hpn ρ t _ g1 H1 fp (s.to G.go) ok⟩
theorem opt_if {α : Type} {c : Option Bool} {A B C : α} : (match c with
    | some true => A
    | some false => B
    | none => C) = (match c with
    | some t => if t then A else B
    | none => C) := by
  cases c with
  | none => rfl
  | some t => cases t <;> rfl
theorem st_ifs {x y : List Stmt} {ss tt : List S} (hc : PT X p (RT X W Φ a)) (h1 : PSs X x (RSs X z W Φ ss)) (h2 : PSs X y (RSs X z W Φ tt)) : PS X (.If p x y pos) (RS X z W Φ (.ifs a ss tt)) :=
  PS.imp (ps_if hc h1 h2) fun D σ H h => by
    have e0 : evS Φ (.ifs a ss tt) = fun ρ μ => (evE Φ a ρ μ).go ρ fun x μ1 => match asB x with
      | some t => if t then evSs Φ ss ρ μ1 else evSs Φ tt ρ μ1
      | none => .bad := by
      funext ρ μ
      show (evE Φ a ρ μ).go ρ _ = _
      cases evE Φ a ρ μ with
      | bad => rfl
      | er c fs μ1 => rfl
      | ok x μ1 => simp only [Rs.go_ok]; exact opt_if
    have h : RdS (gm X) W z (evS Φ (.ifs a ss tt)) D σ H := h
    rw [e0] at h
    refine rdS_t (k := fun ρ t μ1 => if t then evSs Φ ss ρ μ1 else evSs Φ tt ρ μ1) h fun pn gb g0 H0 hpn ρ t μ1 g1 H1 fp s ok => ?_
    cases t with
    | true => exact iteT ⟨pn, gb, g0, H0, hpn, ρ, μ1, g1, fp, s, ok⟩
    | false => exact iteF ⟨pn, gb, g0, H0, hpn, ρ, μ1, g1, fp, s, ok⟩
end
end MP
/-! MP14 -/
set_option Elab.async false
set_option linter.all false
set_option maxRecDepth 100000
set_option maxHeartbeats 1000000
/-! MP14: statements: loops, own containers, stores of comprehensions. -/
namespace MP
open PySem PySem.Spec PyProof.Rows L2
section
variable {X : Cx} {z : List Nat} {ck : Ck} {Φ : Fns} {W : WX} {pos pos' ap u_pos : Pos} {p q r u tp ip : Expr} {a b d e kx it : E} {es : List E} {ps cs : List Expr} {tg : T} {i : Nat}
/-! ### loops -/
def whlGo (Φ : Fns) (a : E) (ss : List S) (n : Nat) (ρ : List Sl) (t : Bool) (μ : List O) : Fl := if t then (match evSs Φ ss ρ μ with
  | .nx ρ2 μ2 => whlRun (evE Φ a) (evSs Φ ss) n ρ2 μ2
  | .ct ρ2 μ2 => whlRun (evE Φ a) (evSs Φ ss) n ρ2 μ2
  | .bk ρ2 μ2 => .nx ρ2 μ2
  | r => r) else .nx ρ μ
theorem whl_eq {ss : List S} {n : Nat} {ρ : List Sl} {μ : List O} : whlRun (evE Φ a) (evSs Φ ss) (n + 1) ρ μ = (evE Φ a ρ μ).go ρ fun x μ1 => match asB x with
    | some t => whlGo Φ a ss n ρ t μ1
    | none => .bad := by
  show (evE Φ a ρ μ).go ρ _ = _
  cases evE Φ a ρ μ with
  | bad => rfl
  | er c fs μ1 => rfl
  | ok x μ1 =>
    simp only [Rs.go_ok]
    cases asB x with
    | none => rfl
    | some t => cases t <;> rfl
theorem st_whl {x : List Stmt} {ss : List S} {n : Nat} (hp : PassesOwn (model X.prog X.w) X.A X.env X.xe) (hc : PT X p (RT X W Φ a)) (h1 : PSs X x (RSs X z W Φ ss)) : PS X (.While p x [] pos) (RS X z W Φ (.whl n a ss)) :=
  PS.imp (ps_while hp hc h1) fun D σ H h => by
    refine ⟨fun m σ H => RdS (gm X) W z (whlRun (evE Φ a) (evSs Φ ss) m) D σ H, ⟨n, h⟩, fun m σ H hm => ?_⟩
    cases m with
    | zero =>
      obtain ⟨pn, gb, g0, H0, hpn, ρ, μ, g, fp, s, ok⟩ := hm
      exact ok.elim
    | succ m =>
      have hm : RdS (gm X) W z (fun ρ μ => (evE Φ a ρ μ).go ρ fun x μ1 => match asB x with
        | some t => whlGo Φ a ss m ρ t μ1
        | none => .bad) D σ H := by
        have e : whlRun (evE Φ a) (evSs Φ ss) (m + 1) = fun ρ μ => (evE Φ a ρ μ).go ρ fun x μ1 => match asB x with
          | some t => whlGo Φ a ss m ρ t μ1
          | none => .bad := by funext ρ μ; exact whl_eq
        rw [← e]
        exact hm
      refine rdS_t (k := whlGo Φ a ss m) hm fun pn gb g0 H0 hpn ρ t μ1 g1 H1 fp s ok => ?_
      cases t with
      | false => exact iteF (ok g1 H1 σ fp s)
      | true =>
        refine iteT ⟨fun σ' H' => RdS (gm X) W z (whlRun (evE Φ a) (evSs Φ ss) m) D σ' H', fun σ' H' z => ⟨m, Nat.lt_succ_self _, z⟩, pn, gb, g0, H0, hpn, ρ, μ1, g1, fp, s, ?_⟩
        unfold whlGo at ok
        simp only [if_true] at ok
        cases e : evSs Φ ss ρ μ1 with
        | bad => rw [e] at ok; exact ok
        | rt o μ2 => rw [e] at ok; exact ok
        | er c fs ρ2 μ2 => rw [e] at ok; exact ok
        | bk ρ2 μ2 => rw [e] at ok; exact ok
        | nx ρ2 μ2 => rw [e] at ok; exact fun g' H' σ' fp' s' => ⟨pn, gb, g0, H0, hpn, ρ2, μ2, g', fp', s', ok⟩
        | ct ρ2 μ2 => rw [e] at ok; exact fun g' H' σ' fp' s' => ⟨pn, gb, g0, H0, hpn, ρ2, μ2, g', fp', s', ok⟩
theorem st_for (hz : ∀ j ∈ z, j ∉ tgN tg) {x : List Stmt} {ss : List S} (c : At X ck Φ W) (hp : PassesOwn (model X.prog X.w) X.A X.env X.xe) (hi : PI X tp ip (RI X W Φ it)) (hg : PG X tp (gT X.K tg)) (h1 : PSs X x (RSs X z W Φ ss)) (hs : simple ip = true) : PS X (.For tp ip x [] pos) (RS X z W Φ (.for tg it ss)) :=
  PS.imp (ps_for hp c.calm hi hg h1 (simple_fold hs X.env)) fun D σ H h => by
    obtain ⟨pn, gb, g0, H0, hpn, ρ, μ, g, fp, s, ok⟩ := h
    have s_ := s
    have ok : FlOk (gm X) W pn gb g0 H0 D ((evE Φ it ρ μ).go ρ fun x μ1 => (match itD (fz x) with
      | some ds => forRun tg (evSs Φ ss) ds ρ μ1
      | none => .bad)) := ok
    refine ⟨ρ, μ, g, fp, s.sr, FlOk.er_of s ok, fun x μ1 e1 => ?_⟩
    rw [e1] at ok
    simp only [Rs.go_ok] at ok
    cases e2 : itD (fz x) with
    | none => rw [e2] at ok; exact ok.elim
    | some ds =>
      rw [e2] at ok
      simp only at ok
      refine ⟨ds, rfl, fun gJ HJ J GJ w => ?_⟩
      refine for_it w (fun i σ H => ∃ ρ μ g fp, ST (gm X) pn gJ g0 H0 g μ H ρ σ fp ∧ FlOk (gm X) W pn gb g0 H0 D (forRun tg (evSs Φ ss) (ds.drop i) ρ μ)) ?_ ?_ ?_ ?_
      · have sJ := s.to GJ
        exact ⟨ρ, μ1, gJ, fp, ⟨sJ.sr, sJ.go, sJ.new, Le.refl _, sJ.pin⟩, by simpa using ok⟩
      · rintro i σ H _ ⟨ρ, μ, g, fp, s, _⟩
        exact s.lb.F.trans s.sr.F
      · rintro i v σ H H' hi ⟨ρ, μ, g, fp, s, ok⟩ y
        obtain ⟨dd, g2, hd, G2, r2⟩ := YD.go s.lb s.sr.F s.sr.cl y
        have hdrop : ds.drop i = dd :: ds.drop (i + 1) := by
          rw [List.drop_eq_getElem_cons hi]
          congr 1
          have := List.getElem?_eq_getElem hi
          rw [hd] at this
          exact (Option.some.inj this).symm
        rw [hdrop] at ok
        have s2 := s.to G2
        unfold forRun at ok
        cases eT : setT tg dd ρ with
        | none => rw [eT] at ok; exact ok.elim
        | some ρ1 =>
          simp only [eT] at ok
          refine gT_at (Γ := gm X) tg dd v s2.sr r2 eT fun σ3 fp3 sr3 b3 hw => ⟨pn, gJ, g0, H0, hpn, ρ1, μ, g2, fp3, ⟨sr3, s2.go, (fun a h => s2.new a (b3 a h)), s2.lb, wipe_pin (pin_or hpn hz) (hw _ fun _ h => h) s2.pin⟩, ?_⟩
          have lb : Le gb gJ := s_.lb.trans GJ.le
          have wk : ∀ {g μ H ρ σ fp}, ST (gm X) pn gJ g0 H0 g μ H ρ σ fp → ST (gm X) pn gb g0 H0 g μ H ρ σ fp := fun z => ⟨z.sr, z.go, z.new, lb.trans z.lb, z.pin⟩
          cases e : evSs Φ ss ρ1 μ with
          | bad => rw [e] at ok; exact ok
          | rt o μ2 => rw [e] at ok; exact ok
          | er c fs ρ2 μ2 => rw [e] at ok; exact fun g' H' σ' fp' cls d s' x => ok g' H' σ' fp' cls d (wk s') x
          | bk ρ2 μ2 => rw [e] at ok; exact fun g' H' σ' fp' s' => ok g' H' σ' fp' (wk s')
          | nx ρ2 μ2 => rw [e] at ok; exact fun g' H' σ' fp' s' => ⟨ρ2, μ2, g', fp', s', ok⟩
          | ct ρ2 μ2 => rw [e] at ok; exact fun g' H' σ' fp' s' => ⟨ρ2, μ2, g', fp', s', ok⟩
      · rintro σ H ⟨ρ, μ, g, fp, s, ok⟩
        rw [List.drop_length] at ok
        exact ok g H σ fp ⟨s.sr, s.go, s.new, (s_.lb.trans GJ.le).trans s.lb, s.pin⟩
/-! ### own containers -/
theorem type_append : typeOf (.builtin "list.append") = pure (.type "method_descriptor") := by kernel_rfl
theorem few_of {cpos : Pos} {env : Env} (hs : noStar p = true) : ((backTo cpos (starEach [p] env)).all (fun x => !x.1) && (backToKw cpos (keywordEach [] env)).all (fun x => x.1.isSome)
      && decide ([p].length + ([] : List Keyword).length + (if ([] : List Keyword).isEmpty then 0 else 1) < 30)) = true := by
  rw [star_form (es := [p]) (by simp [hs])]
  simp [backToKw, keywordEach]
theorem ows_snoc {Γ : Env1} {g : Gh} {H : Hp} {d : D} {y : V} (r : Rp Γ g d y) : ∀ {os : List O} {vs : List V} {fp : List Addr}, Ows Γ g H os vs fp → Ows Γ g H (os ++ [.sh d]) (vs ++ [y]) fp
  | [], vs, fp, h => by
    simp only [Ows] at h
    obtain ⟨rfl, rfl⟩ := h
    simp only [List.nil_append, Ows]
    exact ⟨y, [], [], [], rfl, rfl, by simp only [Ow]; exact ⟨trivial, r⟩, rfl, rfl⟩
  | o :: os, vs, fp, h => by
    simp only [Ows] at h
    obtain ⟨v, vs', f1, f2, rfl, rfl, q, z⟩ := h
    simp only [List.cons_append, Ows]
    exact ⟨v, _, f1, f2, rfl, rfl, q, ows_snoc r z⟩
theorem st_app (c : At X ck Φ W) {x : Str} (hv : ck.vis i x = true) (hl : (ap.endLine == pos'.line) = true) (hs : noStar p = true) (he : PE X p (RE X W Φ a)) :
    PS X (.Expr (.Call (.Attribute (.Name x u_pos) "append" ap) [p] [] pos') pos) (RS X z W Φ (.app i a)) := by
  have hpe := pe_bm (X := X) (cpos := pos') (apos := ap) (name := "append") F.plainAttrs_list F.slot_list_append type_append mt_append (c.pv (pos := u_pos) hv) (pa_cons he pa_nil (star_cons hs)) (base_call0 rfl) (few_of hs) hl (star_cons hs) (star_none (es := []) rfl)
  refine PS.imp (ps_expr hpe rfl) fun D σ H h => ?_
  obtain ⟨pn, gb, g0, H0, hpn, ρ, μ, g, fp, s, ok⟩ := h
  have ok : FlOk (gm X) W pn gb g0 H0 D (match ownL ρ i with
    | some l => (evE Φ a ρ μ).go ρ fun x μ1 => if l.length < LIM then .nx (ρ.set i (.ow (.ol (l ++ [.sh (fz x)])))) μ1 else .bad
    | none => .bad) := ok
  cases e0 : ownL ρ i with
  | none => rw [e0] at ok; exact ok.elim
  | some l =>
    rw [e0] at ok
    simp only at ok
    have hi := ownL_at e0
    obtain ⟨v, f, hv, ow, _, _⟩ := s.wr hi
    have ow0 := ow
    simp only [Ow] at ow
    obtain ⟨ad, vs, fp', rfl, rfl, ha, ows⟩ := ow
    refine ⟨.ref ad, hv, .inl ⟨rfl, vs, SqL.of ha⟩, ρ, μ, g, fp, s.sr, FlOk.er_of s ok, fun x μ1 e1 g1 H1 w fo G => ?_⟩
    rw [e1] at ok
    simp only [Rs.go_ok] at ok
    obtain ⟨G1, r1⟩ := G.fz
    have s1 := s.to G1
    obtain ⟨v1, f1, hv1, ow1, nd1, wr⟩ := s1.wr hi
    rw [hv] at hv1
    cases hv1
    simp only [Ow] at ow1
    obtain ⟨ad', vs1, fp1, e2, rfl, ha1, ows1⟩ := ow1
    cases e2
    split at ok
    · rename_i hlen
      have hvl := ows_len ows1
      refine ⟨ad, vs1, w, rfl, rfl, ha1, by rw [← hvl, ← LIM_eq]; exact hlen, ?_⟩
      have hn : ad ∉ fp1 := (List.nodup_cons.mp nd1).1
      obtain ⟨fp2, s2⟩ := wr ad (.lst (vs1 ++ [w])) (.ol (l ++ [.sh (fz x)])) _ List.mem_cons_self (by
        simp only [Ow]
        exact ⟨ad, _, fp1, rfl, rfl, upd_same, ows_snoc r1 (Ows.le (Le.refl _) _ _ _ ows1 fun b hb u eb => by rw [upd_ne (fun z => hn (by rw [← z]; exact hb))]; exact eb)⟩) (fun _ h => h) nd1
      exact ok _ _ σ fp2 s2
    · exact ok.elim
theorem ows_ins {Γ : Env1} {g : Gh} {H : Hp} {d : D} {y : V} (r : Rp Γ g d y) : ∀ {os : List O} {vs : List V} {fp : List Addr} (n : Nat), Ows Γ g H os vs fp → Ows Γ g H (os.take n ++ [.sh d] ++ os.drop n) (vs.take n ++ [y] ++ vs.drop n) fp
  | os, vs, fp, 0, h => by
    simp only [List.take_zero, List.nil_append, List.drop_zero, List.cons_append, Ows]
    exact ⟨y, vs, [], fp, rfl, rfl, by simp only [Ow]; exact ⟨trivial, r⟩, h⟩
  | [], vs, fp, n + 1, h => by
    simp only [Ows] at h
    obtain ⟨rfl, rfl⟩ := h
    simp only [List.take_nil, List.drop_nil, List.nil_append, List.append_nil, Ows]
    exact ⟨y, [], [], [], rfl, rfl, by simp only [Ow]; exact ⟨trivial, r⟩, rfl, rfl⟩
  | o :: os, vs, fp, n + 1, h => by
    simp only [Ows] at h
    obtain ⟨v, vs', f1, f2, rfl, rfl, q, z⟩ := h
    simp only [List.take_succ_cons, List.drop_succ_cons, List.cons_append, Ows]
    exact ⟨v, _, f1, f2, rfl, rfl, q, ows_ins r n z⟩
theorem type_insert : typeOf (.builtin "list.insert") = pure (.type "method_descriptor") := by kernel_rfl
theorem st_ins (c : At X ck Φ W) {x : Str} (hv : ck.vis i x = true) (hl : (ap.endLine == pos'.line) = true) (hsq : noStar q = true) (hsp : noStar p = true) (hk : PE X q (RE X W Φ kx)) (he : PE X p (RE X W Φ a)) :
    PS X (.Expr (.Call (.Attribute (.Name x u_pos) "insert" ap) [q, p] [] pos') pos) (RS X z W Φ (.ins i kx a)) := by
  have hpe := pe_bm (X := X) (cpos := pos') (apos := ap) (name := "insert") F.plainAttrs_list F.slot_list_insert type_insert mt_insert (c.pv (pos := u_pos) hv) (pa_cons hk (pa_cons he pa_nil (star_cons hsp)) (star_cons hsq)) (base_call0 rfl) (few_all (by simp [hsq, hsp]) (by simp)) hl (star_cons hsq) (star_none (es := [p]) (by simp [hsp]))
  refine PS.imp (ps_expr hpe rfl) fun D σ H h => ?_
  obtain ⟨pn, gb, g0, H0, hpn, ρ, μ, g, fp, s, ok⟩ := h
  have ok : FlOk (gm X) W pn gb g0 H0 D (match ownL ρ i with
    | some l => (evE Φ kx ρ μ).go ρ fun y μ1 => (evE Φ a ρ μ1).go ρ fun x μ2 => (match fz y with
      | .int j => if (0 ≤ j ∧ j < 9223372036854775808) ∧ l.length < LIM then .nx (ρ.set i (.ow (.ol (l.take j.toNat ++ [.sh (fz x)] ++ l.drop j.toNat)))) μ2 else .bad
      | _ => .bad)
    | none => .bad) := ok
  cases e0 : ownL ρ i with
  | none => rw [e0] at ok; exact ok.elim
  | some l =>
    rw [e0] at ok
    simp only at ok
    have hi := ownL_at e0
    obtain ⟨v, f, hv, ow, _, _⟩ := s.wr hi
    simp only [Ow] at ow
    obtain ⟨ad, vs, fp', rfl, rfl, ha, ows⟩ := ow
    refine ⟨.ref ad, hv, .inl ⟨rfl, vs, SqL.of ha⟩, ρ, μ, g, fp, s.sr, FlOk.er_of s ok, fun y μ1 e1 g1 H1 w fo G => ?_⟩
    rw [e1] at ok
    simp only [Rs.go_ok] at ok
    obtain ⟨G1, r1⟩ := G.fz
    have s1 := s.to G1
    refine ⟨ρ, μ1, _, fp, s1.sr, FlOk.er_of s1 ok, fun x μ2 e2 g2 H2 u fo2 G2' => ?_⟩
    rw [e2] at ok
    simp only [Rs.go_ok] at ok
    obtain ⟨G2, r2⟩ := G2'.fz
    have s2 := s1.to G2
    obtain ⟨v2, f2, hv2, ow2, nd2, wr⟩ := s2.wr hi
    rw [hv] at hv2
    cases hv2
    simp only [Ow] at ow2
    obtain ⟨ad', vs2, fp2, e3, rfl, ha2, ows2⟩ := ow2
    cases e3
    have r1' := Rp.le G2.le _ _ r1
    cases ey : fz y with
    | int j =>
      rw [ey] at r1' ok
      simp only at ok
      split at ok
      · rename_i hc
        simp only [Rp] at r1'
        have hvl := ows_len ows2
        refine ⟨ad, vs2, j, u, rfl, by rw [r1'], ha2, by rw [← hvl, ← LIM_eq]; exact hc.2, hc.1.1, by have := hc.1.2; omega, ?_⟩
        have hn : ad ∉ fp2 := (List.nodup_cons.mp nd2).1
        obtain ⟨fp4, s4⟩ := wr ad (.lst (vs2.take j.toNat ++ [u] ++ vs2.drop j.toNat)) (.ol (l.take j.toNat ++ [.sh (fz x)] ++ l.drop j.toNat)) _ List.mem_cons_self (by
          simp only [Ow]
          exact ⟨ad, _, fp2, rfl, rfl, upd_same, ows_ins r2 j.toNat (Ows.le (Le.refl _) _ _ _ ows2 fun b hb u eb => by rw [upd_ne (fun z => hn (by rw [← z]; exact hb))]; exact eb)⟩) (fun _ h => h) nd2
        exact ok _ _ σ fp4 s4
      · exact ok.elim
    | _ => rw [ey] at ok; exact ok.elim
/-- the item at a place, replaced -/
theorem ows_set {Γ : Env1} {g : Gh} {H : Hp} {d : D} {y : V} (r : Rp Γ g d y) : ∀ {os : List O} {vs : List V} {fp : List Addr} {i : Nat}, Ows Γ g H os vs fp → i < os.length → ∃ fp', Ows Γ g H (os.set i (.sh d)) (vs.set i y) fp' ∧ (∀ a ∈ fp', a ∈ fp) ∧ (fp.Nodup → fp'.Nodup)
  | [], vs, fp, i, h, hi => by simp at hi
  | o :: os, vs, fp, 0, h, hi => by
    simp only [Ows] at h
    obtain ⟨v, vs', f1, f2, rfl, rfl, q, z⟩ := h
    refine ⟨f2, ?_, fun a ha => List.mem_append_right _ ha, fun n => (List.nodup_append.mp n).2.1⟩
    simp only [List.set_cons_zero, Ows]
    exact ⟨y, vs', [], f2, rfl, rfl, by simp only [Ow]; exact ⟨trivial, r⟩, z⟩
  | o :: os, vs, fp, i + 1, h, hi => by
    simp only [Ows] at h
    obtain ⟨v, vs', f1, f2, rfl, rfl, q, z⟩ := h
    obtain ⟨f2', z', sub, nd⟩ := ows_set r (i := i) z (by simpa using hi)
    refine ⟨f1 ++ f2', ?_, fun a ha => ?_, fun n => ?_⟩
    · simp only [List.set_cons_succ, Ows]
      exact ⟨v, _, f1, f2', rfl, rfl, q, z'⟩
    · rcases List.mem_append.mp ha with ha | ha
      · exact List.mem_append_left _ ha
      · exact List.mem_append_right _ (sub a ha)
    · obtain ⟨n1, n2, n3⟩ := List.nodup_append.mp n
      exact List.nodup_append.mpr ⟨n1, nd n2, fun a ha b hb => n3 a ha b (sub b hb)⟩
theorem sole_sub {o q' p : Expr} {sp : Pos} {l : Nat} {env : Env} : swapsWithSole [.Subscript o q' sp] p l env = pure false := by
  cases p <;> rfl
/-- o[k] = v of a list of one's own -/
theorem st_setx (c : At X ck Φ W) {x : Str} {tpos : Pos} (hv : ck.vis i x = true) (hq : simple q = true) (he : PE X p (RE X W Φ a)) (hk : PE X q (RE X W Φ kx)) :
    PS X (.Assign [.Subscript (.Name x u_pos) q tpos] p pos) (RS X z W Φ (.setx i kx a)) := by
  refine PS.imp (ps_asg he (pg_sub (c.pv (pos := u_pos) hv) hk (PSet.or set_list (set_nd c.hu)) (fun v => by cases q <;> first | rfl | cases hq)) sole_sub (stores_no (.inr rfl)) (asg_one rfl)) fun D σ H h => ?_
  refine rdS_e (fe := evE Φ a) (k := fun ρ x μ1 => (match ρ[i]? with
    | some (.ow o) => (evE Φ kx ρ μ1).go ρ fun y μ2 => (match setO o (fz y) (.sh (fz x)) with
      | some o1 => .nx (ρ.set i (.ow o1)) μ2
      | none => .bad)
    | _ => .bad)) h fun pn gb g0 H0 hpn ρ x μ1 g g1 H1 fp w fo μ s G ok => ?_
  obtain ⟨G1, r1⟩ := G.fz
  have s1 := s.to G1
  split at ok
  · rename_i o hi
    obtain ⟨v, f, hvv, ow, _, _⟩ := s1.wr hi
    refine ⟨v, hvv, ρ, μ1, _, fp, s1.sr, FlOk.er_of s1 ok, fun y μ2 e2 g2 H2 u fo2 G2' => ?_⟩
    rw [e2] at ok
    simp only [Rs.go_ok] at ok
    obtain ⟨G2, r2⟩ := G2'.fz
    have s2 := s1.to G2
    obtain ⟨v2, f2, hv2, ow2, nd2, wr⟩ := s2.wr hi
    rw [hvv] at hv2
    cases hv2
    cases o with
    | ol l =>
      cases ey : fz y with
      | int j =>
        rw [ey] at r2 ok
        simp only [setO] at ok
        cases en : MP.ixN l.length j with
        | none => rw [en] at ok; exact ok.elim
        | some n =>
          rw [en] at ok
          simp only [Option.map_some] at ok
          simp only [Ow] at ow2
          obtain ⟨ad, vs, fp', rfl, rfl, ha, ows⟩ := ow2
          simp only [Rp] at r2
          have hvl := ows_len ows
          have en2 : L2.ixN vs.length j = some n := by rw [← hvl]; exact en
          refine .inl ⟨ad, vs, j, n, rfl, r2, ha, en2, ?_⟩
          have hn : ad ∉ fp' := (List.nodup_cons.mp nd2).1
          have hlt : n < l.length := by rw [hvl]; exact (ixN_seq en2).2.1
          obtain ⟨fp3, ows3, sub3, nd3⟩ := ows_set (Rp.le G2.le _ _ r1) ows hlt
          obtain ⟨fp4, s4⟩ := wr ad (.lst (vs.set n w)) (.ol (l.set n (.sh (fz x)))) (ad :: fp3) List.mem_cons_self (by
            simp only [Ow]
            exact ⟨ad, _, fp3, rfl, rfl, upd_same, Ows.le (Le.refl _) _ _ _ ows3 fun b hb u eb => by rw [upd_ne (fun z => hn (by rw [← z]; exact sub3 b hb))]; exact eb⟩) (fun b hb => by
              rcases List.mem_cons.mp hb with z | z
              · rw [z]; exact List.mem_cons_self
              · exact List.mem_cons_of_mem _ (sub3 b z)) (List.nodup_cons.mpr ⟨fun z => hn (sub3 ad z), nd3 (List.nodup_cons.mp nd2).2⟩)
          exact ok _ _ σ fp4 s4
      | _ => rw [ey] at ok; exact ok.elim
    | od t ks os =>
      cases t with
      | false => cases ey : fz y <;> rw [ey] at ok <;> exact ok.elim
      | true =>
        have e0 : setO (.od true ks os) (fz y) (.sh (fz x)) = if isKey true (fz y) && decide (ks.length < LIM) then some (.od true (keyPut (fz y) (.sh (fz x)) ks os).1 (keyPut (fz y) (.sh (fz x)) ks os).2) else none := by
          cases fz y <;> rfl
        rw [e0] at ok
        by_cases hc : (isKey true (fz y) && decide (ks.length < LIM)) = true
        · rw [if_pos hc] at ok
          simp only [Bool.and_eq_true, decide_eq_true_eq] at hc
          simp only [Ow] at ow2
          obtain ⟨ad, kv, vv, fp', rfl, rfl, dc, rk, ows⟩ := ow2
          obtain ⟨xs, dx, own⟩ := DcAt.dxO s2.sr.F dc rk
          obtain ⟨b, eb, hka⟩ := key_at s2.sr.F hc.1 r2
          subst eb
          refine .inr ⟨ad, xs, _, b, rfl, rfl, dx.nd, own, hka, fun r hr => ?_⟩
          have hn : ad ∉ fp' := (List.nodup_cons.mp nd2).1
          have hlx : xs.length = ks.length := by
            have z := congrArg List.length dx.ek
            have z2 : ∀ l : List MP.D, (nkeys l).length = l.length := fun l => by induction l with
              | nil => rfl
              | cons a l ih => simp [nkeys, ih]
            rw [List.length_map, z2] at z
            exact z
          rw [sto_eq xs dx.nod]
          obtain ⟨vv', fp3, k1, k2, k3, k4, k5, sub3, nd3⟩ := put_at hc.1 r2 hr (Rp.le G2.le _ _ r1) xs ks os vv fp' dx.ek (by rw [← dx.ev]; exact rk) dx.vs ows dx.all
          obtain ⟨fp4, s4⟩ := wr ad (ndict X.prog X.w ad (sto (nkey (fz y)) b r xs)) (.od true (keyPut (fz y) (.sh (fz x)) ks os).1 (keyPut (fz y) (.sh (fz x)) ks os).2) (ad :: fp3) List.mem_cons_self (by
            simp only [Ow]
            refine ⟨ad, _, vv', fp3, rfl, rfl, ⟨dx.nd.mod, _, .inl upd_same, k1, rfl, k3, ?_, k5, sto_nod _ dx.nod⟩, k2, Ows.le (Le.refl _) _ _ _ k4 fun b hb u eb => by rw [upd_ne (fun z => hn (by rw [← z]; exact sub3 b hb))]; exact eb⟩
            have z := sto_len (k := nkey (fz y)) (b := b) (r := r) xs
            rw [← LIM_eq]
            omega) (fun b hb => by
              rcases List.mem_cons.mp hb with z | z
              · rw [z]; exact List.mem_cons_self
              · exact List.mem_cons_of_mem _ (sub3 b z)) (List.nodup_cons.mpr ⟨fun z => hn (sub3 ad z), nd3 (List.nodup_cons.mp nd2).2⟩)
          exact ok _ _ σ fp4 s4
        · rw [if_neg hc] at ok
          exact ok.elim
    | _ => cases ey : fz y <;> rw [ey] at ok <;> exact ok.elim
  · exact ok.elim
theorem putF_zip {f : Str} {y : V} : ∀ {ns : List Str} {vs : List V}, ns.length = vs.length → f ∉ ns → putF f y (ns.zip vs) = (ns ++ [f]).zip (vs ++ [y])
  | [], [], _, _ => rfl
  | [], _ :: _, h, _ => by cases h
  | _ :: _, [], h, _ => by cases h
  | n :: ns, v :: vs, h, hn => by
    simp only [List.mem_cons, not_or] at hn
    have ih := putF_zip (f := f) (y := y) (ns := ns) (vs := vs) (by simpa using h) hn.2
    simp only [List.zip_cons_cons, putF, List.cons_append]
    rw [if_neg (fun z => hn.1 z.symm), ih]
theorem st_fset (c : At X ck Φ W) {cl f x : Str} {tpos : Pos} (hm : (cl, f) ∈ ck.fl) (hv : ck.vis i x = true) (hs : swapsWith p (some (.Attribute (.Name x u_pos) f tpos)) pos.line X.env = pure false) (he : PE X p (RE X W Φ a)) :
    PS X (.Assign [.Attribute (.Name x u_pos) f tpos] p pos) (RS X z W Φ (.fset cl i f a)) := by
  refine PS.imp (ps_fld (c.pv (pos := u_pos) hv) he hs) fun D σ H h => ?_
  refine rdS_e (fe := evE Φ a) (k := fun ρ x μ1 => (match ρ[i]? with
    | some (.ow o) => (match fputO cl o f (.sh (fz x)) with
      | some o1 => .nx (ρ.set i (.ow o1)) μ1
      | none => .bad)
    | _ => .bad)) h fun pn gb g0 H0 hpn ρ x μ1 g g1 H1 fp w fo μ s G ok => ?_
  obtain ⟨G1, r1⟩ := G.fz
  have s1 := s.to G1
  split at ok
  · rename_i o hi
    obtain ⟨v, ff, hvv, ow, nd, wr⟩ := s1.wr hi
    cases o with
    | oi c' ns fs =>
      simp only [fputO] at ok
      split at ok
      · rename_i o1 eo
        split at eo
        · rename_i hc
          obtain ⟨rfl, hf, hlen⟩ := hc
          cases eo
          simp only [Ow] at ow
          obtain ⟨ad, dx, vs, fp', rfl, rfl, ha, hl, hl2, ows⟩ := ow
          obtain ⟨k1, k2⟩ := c.st.fl _ hm
          refine ⟨.ref ad, hvv, ad, _, dx, _, rfl, ha, k1, k2, ?_, ?_⟩
          · rw [List.length_zip]; omega
          · rw [putF_zip hl hf]
            have hn : ad ∉ fp' := (List.nodup_cons.mp nd).1
            obtain ⟨fp4, s4⟩ := wr ad (.ins (He.ga X.K c') dx ((ns ++ [f]).zip (vs ++ [w]))) (.oi c' (ns ++ [f]) (fs ++ [.sh (fz x)])) _ List.mem_cons_self (by
              simp only [Ow]
              refine ⟨ad, dx, _, fp', rfl, rfl, upd_same, by simp [hl], by simp; omega, ?_⟩
              exact ows_snoc r1 (Ows.le (Le.refl _) _ _ _ ows fun b hb u eb => by rw [upd_ne (fun z => hn (by rw [← z]; exact hb))]; exact eb)) (fun _ h => h) nd
            exact ok _ _ σ fp4 s4
        · cases eo
      · exact ok.elim
    | _ => exact ok.elim
  · exact ok.elim
/-! ### a comprehension stored at once -/
theorem rd_lcB {is : List Nat} {elt : E} {cd : Option E} {σ : L2.St} {H : Hp} {Q : VK} (h : RE X W Φ (.bor is (.lc elt tg it cd)) σ H Q) : tLc (RI X W Φ it) (gT X.K tg) (RC X Φ cd) (RE X (fun _ _ _ _ => False) Φ elt) (tgN tg) σ H Q := rd_lc (rd_bor h)
theorem st_lc {t : S} {y : Str} {py : Pos} {cd : Option E} {scope : Scope} {own : List (Str × Nat)} {elt : E} {pp : Expr} (c : At X ck Φ W) (hN : ck.N[i]? = some y) (hyl : X.env.scope.names.lookup y = some .local)
    (hsw : swapsWith (.ListComp pp [⟨tp, ip, cs, 0⟩] scope pos') (some (.Name y py)) pos.line X.env = pure true) (hi : PI X tp ip (RI X W Φ it)) (bo : BlkOk X.N X.env.scope scope own) (ho : own.map (·.2) = tgN tg)
    (hg : ∀ (s : Shared) (H : Hp) (C : Addr) (cl : List (Str × Addr)) (fp : List Addr), PG (X.blk s H scope (compEnvC scope cl C X.env) fp) tp (gT X.K tg)) (ht : ∀ (s : Shared) (H : Hp) (C : Addr) (cl : List (Str × Addr)) (fp : List Addr), PTs (X.blk s H scope (compEnvC scope cl C X.env) fp) cs (RC X Φ cd))
    (he : ∀ (s : Shared) (H : Hp) (C : Addr) (cl : List (Str × Addr)) (fp : List Addr), PE (X.blk s H scope (compEnvC scope cl C X.env) fp) pp (RE X (fun _ _ _ _ => False) Φ elt)) (hs : simple ip = true)
    (hr : ∀ D σ H, RS X z W Φ t D σ H → tAsg (tLc (RI X W Φ it) (gT X.K tg) (RC X Φ cd) (RE X (fun _ _ _ _ => False) Φ elt) (tgN tg)) (gName i) D σ H) :
    PS X (.Assign [.Name y py] (.ListComp pp [⟨tp, ip, cs, 0⟩] scope pos') pos) (RS X z W Φ t) :=
  PS.imp (ps_setLc c.calm (by rw [c.N]; exact c.nd) (by rw [c.N]; exact hN) hyl hsw hi bo hg ht he (simple_fold hs X.env)) fun D σ H h => by rw [ho]; exact hr D σ H h
end
end MP
/-! MPE -/
set_option Elab.async false
set_option linter.all false
set_option maxRecDepth 100000
set_option maxHeartbeats 4000000
/-! MPE: try with many clauses, each with a name or without (after the kit's ps_try_as and ps_try_many). -/
namespace MP
open PySem PySem.Spec PyProof.Rows L2
/-- a clause: its class, the slot of its name, what its suite wishes -/
abbrev HN : Type := Value × Option Nat × (Addr → Value → Option Addr → TS)
def Ends.off (D : Ends) (i : Nat) : Ends := { nx := fun σ' H' => D.nx (σ'.set i none) H', rt := D.rt, bk := fun σ' H' => D.bk (σ'.set i none) H', ct := fun σ' H' => D.ct (σ'.set i none) H' }
def wNm (K : PySem.W.Frag) (Wout : WX) (D : Ends) : List HN → WX
  | [] => Wout
  | (c, none, ts) :: r => fun cls d σ H => ∃ b, PySem.W.exmOne K cls c = some b ∧ (b = true → ∀ a, H a = none → ts a cls d D σ H) ∧ (b = false → wNm K Wout D r cls d σ H)
  | (c, some i, ts) :: r => fun cls d σ H => ∃ b, PySem.W.exmOne K cls c = some b ∧ (b = true → ∀ a, H a = none → ts a cls d (Ends.off D i) (σ.set i (some (.ref a))) H) ∧ (b = false → wNm K Wout D r cls d σ H)
inductive HdsN (X : Cx) : List ExceptHandler → List HN → Prop
  | nil : HdsN X [] []
  | un {x : Str} {c : Value} {ts : Addr → Value → Option Addr → TS} {b₀ : Stmt} {suite : List Stmt} {np pos' : Pos} {hds : List ExceptHandler} {l : List HN} (hc : Names X x c)
      (hsu : ∀ (a : Addr) (oe : Obj) (cls : Value) (d : Option Addr) (pn : List (Addr × Obj)), Zc cls d oe → (∃ vs, oe.data = .fields vs) → PSs (X.suite a ((a, oe) :: pn)) (b₀ :: suite) (ts a cls d)) (r : HdsN X hds l) :
      HdsN X (.ExceptHandler (some (.Name x np)) none (b₀ :: suite) pos' :: hds) ((c, none, ts) :: l)
  | nm {x n : Str} {i : Nat} {c : Value} {ts : Addr → Value → Option Addr → TS} {b₀ : Stmt} {suite : List Stmt} {np pos' : Pos} {hds : List ExceptHandler} {l : List HN} (hc : Names X x c) (hi : X.N[i]? = some n) (hln : X.env.kindOf n = some .local)
      (hsu : ∀ (a : Addr) (oe : Obj) (cls : Value) (d : Option Addr) (pn : List (Addr × Obj)), Zc cls d oe → (∃ vs, oe.data = .fields vs) → PSs (X.suite a ((a, oe) :: pn)) (b₀ :: suite) (ts a cls d)) (r : HdsN X hds l) :
      HdsN X (.ExceptHandler (some (.Name x np)) (some n) (b₀ :: suite) pos' :: hds) ((c, some i, ts) :: l)
section
variable {X : Cx} {body : List Stmt} {h₀ : ExceptHandler} {hds : List ExceptHandler} {l : List HN} {pos : Pos} {tb : WX → TS} {Wout : WX}
theorem ps_try_named (hs : X.stack = X.env :: X.outer) (hf : X.env.frame = some X.env.locals) (hN : X.N.Nodup) (tk : Takes X Wout)
    (hb : ∀ (W : WX) (pn : List (Addr × Obj)) (xe : Value → Shared → Prop), Takes (X.tr pn xe) W → PassesOwn (model X.prog X.w) X.A X.env xe → PSs (X.tr pn xe) body (tb W))
    (hh : HdsN X (h₀ :: hds) l) : PS X (.Try body (h₀ :: hds) [] [] pos) (fun D σ H => tb (wNm X.K Wout D l) D σ H) := by
  refine ⟨fun pins s σ H D I h => ?_⟩
  have ok := I.ok
  have hfr : X.A.frames = some (X.env :: X.outer) := by rw [ok.frames, hs]
  refine wpAny_Try_except ?_
  refine wpAny_mono ((hb (wNm X.K Wout D l) (X.pn ++ pins) (fun e s₁ => wpAny (model X.prog X.w) X.A (noteFrame e X.env) (fun _ s₂ => wpAny (model X.prog X.w) X.A (setFlight e none) (fun _ s₃ =>
    wpAny (model X.prog X.w) X.A (handleBy e X.env (h₀ :: hds)) (SP X pins D) X.xe s₃) X.xe s₂) X.xe s₁) (fun u s' xx => ?_) PassesOwn.looking).run [] s σ H D (I.toTry _) h) (fun f s1 hsp => ?_) (fun e s1 he => he)
  · obtain ⟨a, B, sI, pins', σ', H', cls, d, rfl, J', nb, up, sky, na, os, ag, w⟩ := xx
    have J : Inv X pins σ' H' sI := J'.ofTry ok
    have sky' : Sky B (X.env :: X.outer) a (Zc cls d) X.env.locals s'.heap := by rw [← hs]; exact sky
    show wpAny (model X.prog X.w) X.A (noteFrame (.ref a) X.env) _ _ _
    refine Sky.land Zc.steady hfr hf sky' fun h3 fl3 up3 => ?_
    have J3 : Inv X pins σ' H' { s' with heap := h3 } := J.landed nb fl3.1 (up.trans up3) os ag
    obtain ⟨oe3, vs3, he3, hz3, hd3⟩ := fl3.there
    have notFr : ∀ {h : Heap} {o : Obj} {vs : Array Value}, h.FunFrames B (X.env :: X.outer) → h.get? a = some o → o.data = .fields vs → a ∉ frs (X.env :: X.outer) := fun {h o vs} ff e dd hm => by
      obtain ⟨_, o', e', hnf⟩ := ff.mem hm
      rw [e] at e'; cases e'
      exact hnf _ dd
    have nfr := notFr fl3.2.2.1 he3 hd3
    have nL : a ≠ X.env.locals := fun z => nfr (List.mem_filterMap.mpr ⟨X.env, List.mem_cons_self, by rw [hf, z]⟩)
    have nF : a ∉ X.fs := fun hm => by
      obtain ⟨e, he, q⟩ := List.mem_filterMap.mp hm
      exact nfr (List.mem_filterMap.mpr ⟨e, List.mem_cons_of_mem _ he, q⟩)
    have S3 := J3.suite he3 hd3 na nL nF
    have LT : PySem.W.Looks (model X.prog X.w) h3 (typeOf (.ref a)) cls := fun A Q E s k q => wpAny_typeOf_ref (k _ _ he3) (by rw [hz3.1]; exact q)
    have test : ∀ {x : Str} {c : Value} {np : Pos} {Q : Value → Shared → Prop} {E : Value → Shared → Prop}, Names X x c → Q c { s' with heap := h3 } → wpAny (model X.prog X.w) (X.A.mark (some (.ref a))) (eval (.Name x np) X.env) Q E { s' with heap := h3 } := fun {x c np Q E} hc q => by
      obtain ⟨hg, hdbg, hm | ⟨hm, hv, hnn⟩⟩ := hc
      · exact ld_glob (X := X.suite a ((a, oe3) :: (X.pn ++ pins))) S3 hg hm q hdbg
      · exact ld_blt (X := X.suite a ((a, oe3) :: (X.pn ++ pins))) S3 hg hm hv q hnn hdbg
    have go : ∀ {hds' : List ExceptHandler} {l' : List HN}, HdsN X hds' l' → wNm X.K Wout D l' cls d σ' H' →
        wpAny (model X.prog X.w) X.A (handleBy (.ref a) X.env hds') (SP X pins D) X.xe { s' with heap := h3 } := by
      intro hds' l' hk
      induction hk with
      | nil =>
        intro w
        refine wpAny_handleBy_nil ?_
        obtain ⟨k1, k2, k3, oe, vs, T, oT, ts', he, hz, hd, h1, hr⟩ := id fl3
        unfold PySem.passOn
        refine wpAny_bind (wpAny_field he hd h1 ?_)
        rw [if_neg (show ¬ ((Value.ref T == Value.none) = true) from by simp)]
        have fin : wpAny (model X.prog X.w) X.A (setFlight (.ref a) X.env.frame) (fun _ s4 => wpAny (model X.prog X.w) X.A (throw (.ref a) : Sem Flow) (SP X pins D) X.xe s4) X.xe { s' with heap := h3 } := by
          rw [hf]
          refine HandSPX.setFlight_upZ fl3 fun h4 hh4 up4 => wpAny_throw (tk _ _ ?_)
          exact ⟨a, B, sI, pins, σ', H', cls, d, rfl, J, nb, (up.trans up3).trans up4, .inr (.inr (by rw [hs]; exact hh4)), na, os, ag, w⟩
        first
          | exact wpAny_bind (wpAny_pure (wpAny_bind fin))
          | exact wpAny_bind fin
      | @un x c ts b₀ suite np pos' hds2 l2 hc hsu r ih =>
        intro w
        obtain ⟨b, hb1, hyes, hno⟩ := w
        refine wpAny_handleBy_cons (codeAny_handlers_test ?_) (by intro q; cases q)
        have LM := PySem.W.exm_one (M := model X.prog X.w) (J3.kIn) LT hb1
        refine test hc (LM.here ?_)
        cases b with
        | true =>
          refine codeAny_handlers_suite ?_
          refine HandSPX.lands_againZ fl3 fun h4 fl4 up4 => ?_
          have J4 : Inv X pins σ' H' { s' with heap := h4 } := J.landed nb fl4.1 ((up.trans up3).trans up4) os ag
          obtain ⟨oe4, vs4, he4, hz4, hd4⟩ := fl4.there
          have S4 := J4.suite he4 hd4 na nL nF
          refine wpAny_mono ((hsu a oe4 cls d (X.pn ++ pins) hz4 ⟨_, hd4⟩).run [] _ _ H' _ S4 (hyes rfl a na)) (fun f s6 hsp => ?_) (fun _ _ z => False.elim z)
          cases f with
          | next =>
            obtain ⟨σ6, H6, S6, q6⟩ := hsp
            exact ⟨_, _, S6.unsuite ok, q6⟩
          | brk =>
            obtain ⟨σ6, H6, S6, q6⟩ := hsp
            exact ⟨_, _, S6.unsuite ok, q6⟩
          | cont =>
            obtain ⟨σ6, H6, S6, q6⟩ := hsp
            exact ⟨_, _, S6.unsuite ok, q6⟩
          | ret u =>
            obtain ⟨v6, σ6, H6, S6, r6, q6⟩ := hsp
            exact ⟨_, _, _, S6.unsuite ok, r6, q6⟩
        | false =>
          show wpAny _ X.A (handleBy (.ref a) X.env hds2) _ _ _
          exact ih (hno rfl)
      | @nm x n i c ts b₀ suite np pos' hds2 l2 hc hi hln hsu r ih =>
        intro w
        obtain ⟨b, hb1, hyes, hno⟩ := w
        have hloc : Loc X.env.scope n := .inl hln
        refine wpAny_handleBy_cons (codeAny_handlers_test ?_) (by intro q; cases q)
        have LM := PySem.W.exm_one (M := model X.prog X.w) (J3.kIn) LT hb1
        refine test hc (LM.here ?_)
        cases b with
        | true =>
          refine codeAny_handlers_suite_as ?_
          refine HandSPX.lands_againZ fl3 fun h4 fl4 up4 => ?_
          have J4 : Inv X pins σ' H' { s' with heap := h4 } := J.landed nb fl4.1 ((up.trans up3).trans up4) os ag
          obtain ⟨oe4, vs4, he4, hz4, hd4⟩ := fl4.there
          have S4 := J4.suite he4 hd4 na nL nF
          refine store_ok (X := X.suite a ((a, oe4) :: (X.pn ++ pins))) (v := .ref a) S4 hN hi hloc rfl (fun s5 S5 => ?_) (.inr hln)
          refine wpAny_mono ((hsu a oe4 cls d (X.pn ++ pins) hz4 ⟨_, hd4⟩).run [] s5 _ H' _ S5 (hyes rfl a na)) (fun f s6 hsp => ?_) (fun _ _ z => False.elim z)
          have end_ : ∀ {σ6 : L2.St} {H6 : Hp} {Q : Shared → Prop}, Inv (X.suite a ((a, oe4) :: (X.pn ++ pins))) [] σ6 H6 s6 → (∀ s7, Inv X pins (σ6.set i none) H6 s7 → Q s7) →
              wpAny (model X.prog X.w) X.A (do bindName X.env n .none; unbindBehindTheSuite X.env n pos') (fun _ s7 => Q s7) X.xe s6 := fun {σ6 H6 Q} S6 hq => gone_ok (S6.unsuite ok) hN hi hln hq
          cases f with
          | next =>
            obtain ⟨σ6, H6, S6, q6⟩ := hsp
            exact end_ S6 fun s7 J7 => ⟨_, _, J7, q6⟩
          | brk =>
            obtain ⟨σ6, H6, S6, q6⟩ := hsp
            exact end_ S6 fun s7 J7 => ⟨_, _, J7, q6⟩
          | cont =>
            obtain ⟨σ6, H6, S6, q6⟩ := hsp
            exact end_ S6 fun s7 J7 => ⟨_, _, J7, q6⟩
          | ret u =>
            obtain ⟨v6, σ6, H6, S6, r6, q6⟩ := hsp
            exact end_ S6 fun s7 J7 => ⟨_, _, _, J7, r6, q6⟩
        | false =>
          show wpAny _ X.A (handleBy (.ref a) X.env hds2) _ _ _
          exact ih (hno rfl)
    exact go hh w
  · cases f with
    | next =>
      obtain ⟨σ', H', J', q⟩ := hsp
      exact wpAny_execs_nil ⟨σ', H', J'.ofTry ok, q⟩
    | brk =>
      obtain ⟨σ', H', J', q⟩ := hsp
      exact ⟨σ', H', J'.ofTry ok, q⟩
    | cont =>
      obtain ⟨σ', H', J', q⟩ := hsp
      exact ⟨σ', H', J'.ofTry ok, q⟩
    | ret u =>
      obtain ⟨v, σ', H', J', r, q⟩ := hsp
      exact ⟨v, σ', H', J'.ofTry ok, r, q⟩
end
end MP
/-! MPG -/
set_option Elab.async false
set_option linter.all false
set_option maxRecDepth 100000
set_option maxHeartbeats 1000000
/-! MPG: a list within a list of one's own, changed. -/
namespace MP
open PySem PySem.Spec PyProof.Rows L2
/-- an item of one's own, written where it lies -/
theorem ows_mut {Γ : Env1} {g : Gh} {H : Hp} : ∀ {os : List O} {vs : List V} {fp : List Addr} {n : Nat} {o : O}, Ows Γ g H os vs fp → fp.Nodup → os[n]? = some o → ∃ v f, vs[n]? = some v ∧ Ow Γ g H o v f ∧ (∀ b ∈ f, b ∈ fp) ∧ f.Nodup ∧
    ∀ (a : Addr) (u : HO) (o' : O) (f2 : List Addr), a ∈ f → Ow Γ g (upd H a u) o' v f2 → (∀ b ∈ f2, b ∈ f) → f2.Nodup → ∃ fp2, Ows Γ g (upd H a u) (os.set n o') vs fp2 ∧ (∀ b ∈ fp2, b ∈ fp) ∧ fp2.Nodup
  | [], vs, fp, n, o, h, nd, e => by simp at e
  | o :: os, vs, fp, 0, o0, h, nd, e => by
    simp only [Ows] at h
    obtain ⟨v, vs', f1, f2, rfl, rfl, q, z⟩ := h
    cases e
    obtain ⟨n1, n2, n3⟩ := List.nodup_append.mp nd
    refine ⟨v, f1, rfl, q, fun b hb => List.mem_append_left _ hb, n1, fun a u o' f3 ha w sub nd3 => ?_⟩
    refine ⟨f3 ++ f2, ?_, fun b hb => ?_, List.nodup_append.mpr ⟨nd3, n2, fun x hx y hy => n3 x (sub x hx) y hy⟩⟩
    · simp only [List.set_cons_zero, Ows]
      exact ⟨v, vs', f3, f2, rfl, rfl, w, Ows.le (Le.refl _) _ _ _ z fun b hb x ex => by rw [upd_ne (fun y => n3 a ha b hb y.symm)]; exact ex⟩
    · rcases List.mem_append.mp hb with hb | hb
      · exact List.mem_append_left _ (sub b hb)
      · exact List.mem_append_right _ hb
  | o :: os, vs, fp, n + 1, o0, h, nd, e => by
    simp only [Ows] at h
    obtain ⟨v, vs', f1, f2, rfl, rfl, q, z⟩ := h
    obtain ⟨n1, n2, n3⟩ := List.nodup_append.mp nd
    obtain ⟨v0, f, hv, w, sub, nf, k⟩ := ows_mut (n := n) z n2 (by simpa using e)
    refine ⟨v0, f, by simpa using hv, w, fun b hb => List.mem_append_right _ (sub b hb), nf, fun a u o' f3 ha w' sub3 nd3 => ?_⟩
    obtain ⟨fp2, k1, k2, k3⟩ := k a u o' f3 ha w' sub3 nd3
    refine ⟨f1 ++ fp2, ?_, fun b hb => ?_, List.nodup_append.mpr ⟨n1, k3, fun x hx y hy => n3 x hx y (k2 y hy)⟩⟩
    · simp only [List.set_cons_succ, Ows]
      exact ⟨v, vs', f1, fp2, rfl, rfl, Ow.le (Le.refl _) _ _ _ q fun b hb x ex => by rw [upd_ne (fun y => n3 b hb a (sub a ha) y)]; exact ex, k1⟩
    · rcases List.mem_append.mp hb with hb | hb
      · exact List.mem_append_left _ hb
      · exact List.mem_append_right _ (k2 b hb)
theorem inOwn_at {l : List O} {k : D} {p : Nat × List O} (h : inOwn l k = some p) : ∃ j, k = .int j ∧ MP.ixN l.length j = some p.1 ∧ l[p.1]? = some (.ol p.2) := by
  unfold inOwn at h
  split at h
  · rename_i j
    obtain ⟨n, h1, h2⟩ := Option.bind_eq_some_iff.mp h
    split at h2
    · rename_i m hm
      cases h2
      exact ⟨j, rfl, h1, hm⟩
    · cases h2
  · cases h
section
variable {X : Cx} {z : List Nat} {ck : Ck} {Φ : Fns} {W : WX} {pos pos' ap u_pos tpos : Pos} {p q : Expr} {a kx : E} {i : Nat}
/-- x[k].append(e) -/
def appxF (Φ : Fns) (i : Nat) (kx a : E) (ρ : List Sl) (μ : List O) : Fl := match ownL ρ i with
  | some l => (evE Φ kx ρ μ).go ρ fun y μ1 => (match inOwn l (fz y) with
    | some p => (evE Φ a ρ μ1).go ρ fun x μ2 => if p.2.length < LIM then .nx (ρ.set i (.ow (.ol (l.set p.1 (.ol (p.2 ++ [.sh (fz x)])))))) μ2 else .bad
    | none => .bad)
  | none => .bad
theorem st_appx (c : At X ck Φ W) {x : Str} (hv : ck.vis i x = true) (hq : simple q = true) (hl : (ap.endLine == pos'.line) = true) (hs : noStar p = true) (hk : PE X q (RE X W Φ kx)) (he : PE X p (RE X W Φ a)) :
    PS X (.Expr (.Call (.Attribute (.Subscript (.Name x u_pos) q tpos) "append" ap) [p] [] pos') pos) (RdS (gm X) W z (appxF Φ i kx a)) := by
  have hpe := pe_bm (X := X) (cpos := pos') (apos := ap) (name := "append") F.plainAttrs_list F.slot_list_append type_append mt_append (pe_ix (pos := tpos) ix_seq (c.pv (pos := u_pos) hv) hk (simple_ix hq)) (pa_cons he pa_nil (star_cons hs)) (base_call0 rfl) (few_of hs) hl (star_cons hs) (star_none (es := []) rfl)
  refine PS.imp (ps_expr hpe rfl) fun D σ H h => ?_
  obtain ⟨pn, gb, g0, H0, hpn, ρ, μ, g, fp, s, ok⟩ := h
  unfold appxF at ok
  cases e0 : ownL ρ i with
  | none => rw [e0] at ok; exact ok.elim
  | some l =>
    rw [e0] at ok
    simp only at ok
    have hi := ownL_at e0
    obtain ⟨v, f, hv, ow, _, _⟩ := s.wr hi
    refine ⟨v, hv, ρ, μ, g, fp, s.sr, FlOk.er_of s ok, fun y μ1 e1 g1 H1 w1 fo1 G1' => ?_⟩
    rw [e1] at ok
    simp only [Rs.go_ok] at ok
    obtain ⟨G1, r1⟩ := G1'.fz
    have s1 := s.to G1
    cases en : inOwn l (fz y) with
    | none => rw [en] at ok; exact ok.elim
    | some q =>
      rw [en] at ok
      simp only at ok
      obtain ⟨j, ej, hn, hm⟩ := inOwn_at en
      obtain ⟨v1, f1, hv1, ow1, nd1, _⟩ := s1.wr hi
      rw [hv] at hv1
      cases hv1
      simp only [Ow] at ow1
      obtain ⟨ad, vs, fp1, rfl, rfl, ha, ows⟩ := ow1
      rw [ej] at r1
      simp only [Rp] at r1
      obtain ⟨v0, f0, h0, ow0, _, _, _⟩ := ows_mut ows (List.nodup_cons.mp nd1).2 hm
      simp only [Ow] at ow0
      obtain ⟨ad0, vs0, fp0, rfl, rfl, ha0, ows0⟩ := ow0
      refine .inl ⟨ad, vs, j, .ref ad0, rfl, r1, SqL.of ha, ?_, .inl ⟨rfl, vs0, SqL.of ha0⟩, ρ, μ1, _, fp, s1.sr, FlOk.er_of s1 ok, fun x μ2 e2 g2 H2 w fo G2' => ?_⟩
      · unfold L2.atI
        rw [← ows_len ows]
        exact Option.bind_eq_some_iff.mpr ⟨q.1, hn, h0⟩
      · rw [e2] at ok
        simp only [Rs.go_ok] at ok
        obtain ⟨G2, r2⟩ := G2'.fz
        have s2 := s1.to G2
        obtain ⟨v2, f2, hv2, ow2, nd2, wr⟩ := s2.wr hi
        rw [hv] at hv2
        cases hv2
        simp only [Ow] at ow2
        obtain ⟨ad', vs2, fp2, e3, rfl, ha2, ows2⟩ := ow2
        cases e3
        have hin : ad ∈ fp := by
          obtain ⟨xx, ff, ff', e5, ⟨v5, rfl, ow5⟩, pp, _⟩ := s1.sr.env.split hi
          rw [hv] at e5
          cases e5
          simp only [Ow] at ow5
          obtain ⟨ad5, vs5, fp5, e6, rfl, _, _⟩ := ow5
          cases e6
          exact pp.mem_iff.mpr (List.mem_append_left _ List.mem_cons_self)
        have hvs : vs2 = vs := by
          have k1 := G2.keep ad _ ha (s1.sr.ap ad hin).2
          rw [ha2] at k1
          cases k1
          rfl
        subst hvs
        obtain ⟨v3, f3, h3, ow3, sub3, nd3, wr3⟩ := ows_mut ows2 (List.nodup_cons.mp nd2).2 hm
        rw [h0] at h3
        cases h3
        simp only [Ow] at ow3
        obtain ⟨ad3, vs3, fp3, e7, rfl, ha3, ows3⟩ := ow3
        cases e7
        split at ok
        · rename_i hlen
          have hvl := ows_len ows3
          refine ⟨ad0, vs3, w, rfl, rfl, ha3, by rw [← hvl, ← LIM_eq]; exact hlen, ?_⟩
          have hn0 : ad0 ∉ fp3 := (List.nodup_cons.mp nd3).1
          have hn : ad ∉ fp2 := (List.nodup_cons.mp nd2).1
          have hne : ad ≠ ad0 := fun y => hn (by rw [y]; exact sub3 ad0 List.mem_cons_self)
          obtain ⟨fp4, k1, k2, k3⟩ := wr3 ad0 (.lst (vs3 ++ [w])) (.ol (q.2 ++ [.sh (fz x)])) (ad0 :: fp3) List.mem_cons_self (by
            simp only [Ow]
            exact ⟨ad0, _, fp3, rfl, rfl, upd_same, ows_snoc r2 (Ows.le (Le.refl _) _ _ _ ows3 fun b hb u eb => by rw [upd_ne (fun y => hn0 (by rw [← y]; exact hb))]; exact eb)⟩) (fun _ h => h) nd3
          obtain ⟨fp5, s3⟩ := wr ad0 (.lst (vs3 ++ [w])) (.ol (l.set q.1 (.ol (q.2 ++ [.sh (fz x)])))) (ad :: fp4) (List.mem_cons_of_mem _ (sub3 ad0 List.mem_cons_self)) (by
            simp only [Ow]
            exact ⟨ad, _, fp4, rfl, rfl, by rw [upd_ne hne]; exact ha2, k1⟩) (fun b hb => by
              rcases List.mem_cons.mp hb with y | y
              · rw [y]; exact List.mem_cons_self
              · exact List.mem_cons_of_mem _ (k2 b y)) (List.nodup_cons.mpr ⟨fun y => hn (k2 ad y), k3⟩)
          exact ok _ _ σ fp5 s3
        · exact ok.elim
/-- x[k1][k2] = e -/
def setxxF (Φ : Fns) (i : Nat) (k1 k2 a : E) (ρ : List Sl) (μ : List O) : Fl := (evE Φ a ρ μ).go ρ fun x μ1 => (match ρ[i]? with
  | some (.ow (.ol l)) => (evE Φ k1 ρ μ1).go ρ fun y μ2 => (match inOwn l (fz y) with
    | some p => (evE Φ k2 ρ μ2).go ρ fun u μ3 => (match fz u with
      | .int j => (match MP.ixN p.2.length j with
        | some n => .nx (ρ.set i (.ow (.ol (l.set p.1 (.ol (p.2.set n (.sh (fz x)))))))) μ3
        | none => .bad)
      | _ => .bad)
    | none => .bad)
  | _ => .bad)
theorem st_setxx (c : At X ck Φ W) {x : Str} {q2 : Expr} {k1 k2 : E} (hv : ck.vis i x = true) (hq : simple q = true) (hq2 : simple q2 = true) (he : PE X p (RE X W Φ a)) (hk : PE X q (RE X W Φ k1)) (hk2 : PE X q2 (RE X W Φ k2)) :
    PS X (.Assign [.Subscript (.Subscript (.Name x u_pos) q tpos) q2 pos'] p pos) (RdS (gm X) W z (setxxF Φ i k1 k2 a)) := by
  refine PS.imp (ps_asg he (pg_sub (pe_ix (pos := tpos) ix_seq (c.pv (pos := u_pos) hv) hk (simple_ix hq)) hk2 set_list (fun v => by cases q2 <;> first | rfl | cases hq2)) sole_sub (stores_no (.inr rfl)) (asg_one rfl)) fun D σ H h => ?_
  refine rdS_e (fe := evE Φ a) (k := fun ρ x μ1 => (match ρ[i]? with
    | some (.ow (.ol l)) => (evE Φ k1 ρ μ1).go ρ fun y μ2 => (match inOwn l (fz y) with
      | some p => (evE Φ k2 ρ μ2).go ρ fun u μ3 => (match fz u with
        | .int j => (match MP.ixN p.2.length j with
          | some n => .nx (ρ.set i (.ow (.ol (l.set p.1 (.ol (p.2.set n (.sh (fz x)))))))) μ3
          | none => .bad)
        | _ => .bad)
      | none => .bad)
    | _ => .bad)) h fun pn gb g0 H0 hpn ρ x μ1 g g1 H1 fp w fo μ s G ok => ?_
  obtain ⟨G1, r1⟩ := G.fz
  have s1 := s.to G1
  split at ok
  · rename_i l hi
    obtain ⟨v, f, hvv, _, _, _⟩ := s1.wr hi
    refine ⟨v, hvv, ρ, μ1, _, fp, s1.sr, FlOk.er_of s1 ok, fun y μ2 e2 g2 H2 u2 fo2 G2' => ?_⟩
    rw [e2] at ok
    simp only [Rs.go_ok] at ok
    obtain ⟨G2, r2⟩ := G2'.fz
    have s2 := s1.to G2
    cases en : inOwn l (fz y) with
    | none => rw [en] at ok; exact ok.elim
    | some q =>
      rw [en] at ok
      simp only at ok
      obtain ⟨j, ej, hn, hm⟩ := inOwn_at en
      obtain ⟨v1, f1, hv1, ow1, nd1, _⟩ := s2.wr hi
      rw [hvv] at hv1
      cases hv1
      simp only [Ow] at ow1
      obtain ⟨ad, vs, fp1, rfl, rfl, ha, ows⟩ := ow1
      rw [ej] at r2
      simp only [Rp] at r2
      obtain ⟨v0, f0, h0, ow0, _, _, _⟩ := ows_mut ows (List.nodup_cons.mp nd1).2 hm
      simp only [Ow] at ow0
      obtain ⟨ad0, vs0, fp0, rfl, rfl, ha0, ows0⟩ := ow0
      refine .inl ⟨ad, vs, j, .ref ad0, rfl, r2, SqL.of ha, ?_, ρ, μ2, _, fp, s2.sr, FlOk.er_of s2 ok, fun t μ3 e3 g3 H3 u3 fo3 G3' => ?_⟩
      · unfold L2.atI
        rw [← ows_len ows]
        exact Option.bind_eq_some_iff.mpr ⟨q.1, hn, h0⟩
      · rw [e3] at ok
        simp only [Rs.go_ok] at ok
        obtain ⟨G3, r3⟩ := G3'.fz
        have s3 := s2.to G3
        obtain ⟨v2, f2, hv2, ow2, nd2, wr⟩ := s3.wr hi
        rw [hvv] at hv2
        cases hv2
        simp only [Ow] at ow2
        obtain ⟨ad', vs2, fp2, e5, rfl, ha2, ows2⟩ := ow2
        cases e5
        have hin : ad ∈ fp := by
          obtain ⟨xx, ff, ff', e5, ⟨v5, rfl, ow5⟩, pp, _⟩ := s2.sr.env.split hi
          rw [hvv] at e5
          cases e5
          simp only [Ow] at ow5
          obtain ⟨ad5, vs5, fp5, e6, rfl, _, _⟩ := ow5
          cases e6
          exact pp.mem_iff.mpr (List.mem_append_left _ List.mem_cons_self)
        have hvs : vs2 = vs := by
          have k1 := G3.keep ad _ ha (s2.sr.ap ad hin).2
          rw [ha2] at k1
          cases k1
          rfl
        subst hvs
        obtain ⟨v3, f3, h3, ow3, sub3, nd3, wr3⟩ := ows_mut ows2 (List.nodup_cons.mp nd2).2 hm
        rw [h0] at h3
        cases h3
        simp only [Ow] at ow3
        obtain ⟨ad3, vs3, fp3, e7, rfl, ha3, ows3⟩ := ow3
        cases e7
        cases eu : fz t with
        | int j2 =>
          rw [eu] at ok r3
          simp only at ok
          cases en2 : MP.ixN q.2.length j2 with
          | none => rw [en2] at ok; exact ok.elim
          | some n =>
            rw [en2] at ok
            simp only [Rp] at r3
            have hvl := ows_len ows3
            have en3 : L2.ixN vs3.length j2 = some n := by rw [← hvl]; exact en2
            refine ⟨ad0, vs3, j2, n, rfl, r3, ha3, en3, ?_⟩
            have hn0 : ad0 ∉ fp3 := (List.nodup_cons.mp nd3).1
            have hn : ad ∉ fp2 := (List.nodup_cons.mp nd2).1
            have hne : ad ≠ ad0 := fun y => hn (by rw [y]; exact sub3 ad0 List.mem_cons_self)
            have hlt : n < q.2.length := by rw [hvl]; exact (ixN_seq en3).2.1
            obtain ⟨fp6, ows6, sub6, nd6⟩ := ows_set (Rp.le (G2.le.trans G3.le) _ _ r1) ows3 hlt
            obtain ⟨fp4, k1, k2, k3⟩ := wr3 ad0 (.lst (vs3.set n w)) (.ol (q.2.set n (.sh (fz x)))) (ad0 :: fp6) List.mem_cons_self (by
              simp only [Ow]
              exact ⟨ad0, _, fp6, rfl, rfl, upd_same, Ows.le (Le.refl _) _ _ _ ows6 fun b hb u eb => by rw [upd_ne (fun y => hn0 (by rw [← y]; exact sub6 b hb))]; exact eb⟩) (fun b hb => by
                rcases List.mem_cons.mp hb with y | y
                · rw [y]; exact List.mem_cons_self
                · exact List.mem_cons_of_mem _ (sub6 b y)) (List.nodup_cons.mpr ⟨fun y => hn0 (sub6 ad0 y), nd6 (List.nodup_cons.mp nd3).2⟩)
            obtain ⟨fp5, s4⟩ := wr ad0 (.lst (vs3.set n w)) (.ol (l.set q.1 (.ol (q.2.set n (.sh (fz x)))))) (ad :: fp4) (List.mem_cons_of_mem _ (sub3 ad0 List.mem_cons_self)) (by
              simp only [Ow]
              exact ⟨ad, _, fp4, rfl, rfl, by rw [upd_ne hne]; exact ha2, k1⟩) (fun b hb => by
                rcases List.mem_cons.mp hb with y | y
                · rw [y]; exact List.mem_cons_self
                · exact List.mem_cons_of_mem _ (k2 b y)) (List.nodup_cons.mpr ⟨fun y => hn (k2 ad y), k3⟩)
            exact ok _ _ σ fp5 s4
        | _ => rw [eu] at ok; exact ok.elim
  · exact ok.elim
theorem appx_eq (Φ : Fns) (i : Nat) (kx a : E) : evS Φ (.appx i kx a) = appxF Φ i kx a := by
  funext ρ μ
  rfl
theorem setxx_eq (Φ : Fns) (i : Nat) (k1 k2 a : E) : evS Φ (.setxx i k1 k2 a) = setxxF Φ i k1 k2 a := by
  funext ρ μ
  rfl
end
end MP
/-! MPR -/
set_option Elab.async false
set_option linter.all false
set_option maxRecDepth 100000
set_option maxHeartbeats 1000000
/-! MPR: places written. -/
namespace MP
open PySem PySem.Spec PyProof.Rows L2
section
variable {Γ : Env1} {pn : List (Nat × V)} {gb g0 g g1 : Gh} {H0 H H1 : Hp} {μ μ1 : List O} {ρ : List Sl} {σ : L2.St} {fp : List Addr} {i : Nat}
/-- an item to be stored: kept as one's own, or frozen -/
theorem itm_at (s : ST Γ pn gb g0 H0 g μ H ρ σ fp) {x : O} {w : V} {fo : List Addr} (G : Got Γ g H g1 μ1 H1 x w fo) (own : Bool) : ∃ g2 fo2, Go Γ g H g2 μ1 H1 ∧ ST Γ pn gb g0 H0 g2 μ1 H1 ρ σ fp ∧ NewA g0 H0 g2 fp fo2 ∧ fo2.Nodup ∧ Ow Γ g2 H1 (itm own x) w fo2 := by
  cases own with
  | false =>
    obtain ⟨G1, r1⟩ := G.fz
    exact ⟨_, [], G1, s.to G1, (fun _ h => by cases h), .nil, by simp only [itm, Bool.false_eq_true, if_false, Ow]; exact ⟨trivial, r1⟩⟩
  | true =>
    refine ⟨g1, fo, G.go, s.to G.go, fun b hb => ⟨s.go.nw (G.new b hb), (G.ap b hb).1, (G.ap b hb).2, fun z => ?_⟩, G.nd, G.ow⟩
    obtain ⟨u, e⟩ := s.sr.env.there b z
    exact (G.new b hb).no e (s.sr.ap b z).2
theorem ows_snocO {x : O} {w : V} {fo : List Addr} (r : Ow Γ g H x w fo) : ∀ {os : List O} {vs : List V} {fp : List Addr}, Ows Γ g H os vs fp → Ows Γ g H (os ++ [x]) (vs ++ [w]) (fp ++ fo)
  | [], vs, fp, h => by
    simp only [Ows] at h
    obtain ⟨rfl, rfl⟩ := h
    simp only [List.nil_append, Ows]
    exact ⟨w, [], fo, [], rfl, by simp, r, rfl, rfl⟩
  | o :: os, vs, fp, h => by
    simp only [Ows] at h
    obtain ⟨v, vs', f1, f2, rfl, rfl, q, z⟩ := h
    simp only [List.cons_append, Ows]
    exact ⟨v, _, f1, f2 ++ fo, rfl, by rw [List.append_assoc], q, ows_snocO r z⟩
theorem ows_insO {x : O} {w : V} {fo : List Addr} (r : Ow Γ g H x w fo) : ∀ {os : List O} {vs : List V} {fp : List Addr} (n : Nat), Ows Γ g H os vs fp → ∃ fp', Ows Γ g H (os.take n ++ [x] ++ os.drop n) (vs.take n ++ [w] ++ vs.drop n) fp' ∧ fp'.Perm (fp ++ fo)
  | os, vs, fp, 0, h => by
    refine ⟨fo ++ fp, ?_, List.perm_append_comm⟩
    simp only [List.take_zero, List.nil_append, List.drop_zero, List.cons_append, Ows]
    exact ⟨w, vs, fo, fp, rfl, rfl, r, h⟩
  | [], vs, fp, n + 1, h => by
    simp only [Ows] at h
    obtain ⟨rfl, rfl⟩ := h
    refine ⟨fo ++ [], ?_, by simp⟩
    simp only [List.take_nil, List.drop_nil, List.nil_append, List.append_nil, Ows]
    exact ⟨w, [], fo, [], rfl, by simp, r, rfl, rfl⟩
  | o :: os, vs, fp, n + 1, h => by
    simp only [Ows] at h
    obtain ⟨v, vs', f1, f2, rfl, rfl, q, z⟩ := h
    obtain ⟨f3, k1, k2⟩ := ows_insO r n z
    refine ⟨f1 ++ f3, ?_, by rw [List.append_assoc]; exact List.Perm.append_left f1 k2⟩
    simp only [List.take_succ_cons, List.drop_succ_cons, List.cons_append, Ows]
    exact ⟨v, _, f1, f3, rfl, rfl, q, by simpa using k1⟩
theorem ows_setO {x : O} {w : V} {fo : List Addr} (r : Ow Γ g H x w fo) : ∀ {os : List O} {vs : List V} {fp : List Addr} (n : Nat), Ows Γ g H os vs fp → n < os.length → ∃ f1 f2 f3, fp = f1 ++ (f2 ++ f3) ∧ Ows Γ g H (os.set n x) (vs.set n w) (f1 ++ (fo ++ f3))
  | [], vs, fp, n, h, hn => by simp at hn
  | o :: os, vs, fp, 0, h, hn => by
    simp only [Ows] at h
    obtain ⟨v, vs', f1, f2, rfl, rfl, q, z⟩ := h
    refine ⟨[], f1, f2, rfl, ?_⟩
    simp only [List.set_cons_zero, Ows]
    exact ⟨w, vs', fo, f2, rfl, by simp, r, z⟩
  | o :: os, vs, fp, n + 1, h, hn => by
    simp only [Ows] at h
    obtain ⟨v, vs', f1, f2, rfl, rfl, q, z⟩ := h
    obtain ⟨f3, f4, f5, rfl, k⟩ := ows_setO r n z (by simpa using hn)
    refine ⟨f1 ++ f3, f4, f5, by simp, ?_⟩
    simp only [List.set_cons_succ, Ows]
    exact ⟨v, _, f1, _, rfl, by simp, q, k⟩
theorem ows_del : ∀ {os : List O} {vs : List V} {fp : List Addr} (n : Nat), Ows Γ g H os vs fp → n < os.length → ∃ f1 f2 f3, fp = f1 ++ (f2 ++ f3) ∧ Ows Γ g H (os.eraseIdx n) (vs.eraseIdx n) (f1 ++ f3)
  | [], vs, fp, n, h, hn => by simp at hn
  | o :: os, vs, fp, 0, h, hn => by
    simp only [Ows] at h
    obtain ⟨v, vs', f1, f2, rfl, rfl, q, z⟩ := h
    exact ⟨[], f1, f2, rfl, by simpa using z⟩
  | o :: os, vs, fp, n + 1, h, hn => by
    simp only [Ows] at h
    obtain ⟨v, vs', f1, f2, rfl, rfl, q, z⟩ := h
    obtain ⟨f3, f4, f5, rfl, k⟩ := ows_del n z (by simpa using hn)
    refine ⟨f1 ++ f3, f4, f5, by simp, ?_⟩
    simp only [List.eraseIdx_cons_succ, Ows]
    exact ⟨v, _, f1, _, rfl, by simp, q, k⟩
/-- a list at a place, written anew -/
theorem list_put (s : ST Γ pn gb g0 H0 g μ H ρ σ fp) {rs : List Stp} {p : List Nat} {l : List O} (hl : locP ρ μ i rs = some (p, .ol l)) : ∃ a vs fp1,
    (∀ H1, KeepAt H H1 (regn ρ i g fp) → Same g.F H1 → RdV Γ.K σ H1 i rs (.ref a)) ∧ H a = some (.lst vs) ∧ Ows Γ g H l vs fp1 ∧ fp1.Nodup ∧ (∀ b ∈ a :: fp1, b ∈ regn ρ i g fp) ∧ a ∉ fp1 ∧
    ∀ (l' : List O) (vs' : List V) (fp2 fo : List Addr), Ows Γ g H l' vs' fp2 → (∀ b ∈ fp2, b ∈ fp1 ∨ b ∈ fo) → fp2.Nodup → NewA g0 H0 g fp fo → ∃ g2 fp', ST Γ pn gb g0 H0 g2 (putM ρ μ i p (.ol l')) (upd H a (.lst vs')) (putE ρ μ i p (.ol l')) σ fp' ∧ g2.F = g.F ∧ g2.rt = g.rt := by
  obtain ⟨v, f, h1, h2, h3, h4, k⟩ := s.loc hl
  simp only [Ow] at h2
  obtain ⟨a, vs, fp1, rfl, rfl, ha, ows⟩ := h2
  obtain ⟨n1, n2⟩ := List.nodup_cons.mp h3
  refine ⟨a, vs, fp1, h1, ha, ows, n2, h4, n1, fun l' vs' fp2 fo w sub nd2 hfo => ?_⟩
  have hna : a ∉ fp2 := fun z => by
    rcases sub a z with y | y
    · exact n1 y
    · have := h4 a List.mem_cons_self
      unfold regn at this
      split at this
      · exact (hfo a y).2.2.1 this
      · exact (hfo a y).2.2.2 this
  refine k a (.lst vs') (.ol l') (a :: fp2) fo List.mem_cons_self ?_ (fun b hb => ?_) (List.nodup_cons.mpr ⟨hna, nd2⟩) hfo
  · simp only [Ow]
    exact ⟨a, vs', fp2, rfl, rfl, upd_same, Ows.le (Le.refl _) _ _ _ w fun b hb u eb => by rw [upd_ne (fun y => hna (by rw [← y]; exact hb))]; exact eb⟩
  · rcases List.mem_cons.mp hb with rfl | hb
    · exact .inl List.mem_cons_self
    · exact (sub b hb).imp (List.mem_cons_of_mem _) id
theorem newA_nil : NewA g0 H0 g fp [] := fun _ h => by cases h
/-- a place that stands firm is the same one later -/
theorem rd_firm (s : ST Γ pn gb g0 H0 g μ H ρ σ fp) {pl : Pl} (hf : firm ρ pl = true) (G : Go Γ g H g1 μ1 H1) {v : V} (h : ∀ H1, KeepAt H H1 (regn ρ pl.i g fp) → Same g.F H1 → RdV Γ.K σ H1 pl.i pl.rs v) : RdV Γ.K σ H1 pl.i pl.rs v := by
  have h0 := h H (fun _ _ _ e => e) s.sr.F
  have hF : Same g.F H1 := G.le.F.trans G.F
  unfold firm at hf
  cases hC : rootC ρ pl.i with
  | false =>
    refine h H1 ?_ hF
    have : regn ρ pl.i g fp = fp := by unfold regn; rw [hC]; rfl
    rw [this]
    exact G.keepAt s.sr
  | true =>
    rw [hC] at hf
    simp only [Bool.not_true, Bool.false_or, List.isEmpty_iff] at hf
    rw [hf] at h0 ⊢
    exact h0
theorem nodup_app {f1 fo : List Addr} (h1 : f1.Nodup) (h2 : fo.Nodup) (d : ∀ b ∈ fo, b ∉ f1) : (f1 ++ fo).Nodup := List.nodup_append.mpr ⟨h1, h2, fun x hx y hy => fun z => d y hy (by rw [← z]; exact hx)⟩
theorem newA_out (s : ST Γ pn gb g0 H0 g μ H ρ σ fp) {fo f1 : List Addr} (h : NewA g0 H0 g fp fo) (hs : ∀ b ∈ f1, b ∈ regn ρ i g fp) : ∀ b ∈ fo, b ∉ f1 := fun b hb z => by
  have := hs b z
  unfold regn at this
  split at this
  · exact (h b hb).2.2.1 this
  · exact (h b hb).2.2.2 this
end
section
variable {X : Cx} {z : List Nat} {ck : Ck} {Φ : Fns} {W : WX} {pos pos' ap tpos : Pos} {o p q r : Expr} {a kx : E} {pl : Pl}
theorem st_papp (c : At X ck Φ W) {own : Bool} (hp : okPl ck pl.i pl.rs o = true) (hl : (ap.endLine == pos'.line) = true) (hs : noStar p = true) (he : PE X p (RE X W Φ a)) :
    PS X (.Expr (.Call (.Attribute o "append" ap) [p] [] pos') pos) (RS X z W Φ (.papp pl own a)) := by
  have hpe := pe_bm (X := X) (cpos := pos') (apos := ap) (name := "append") F.plainAttrs_list F.slot_list_append type_append mt_append (pe_pl c _ _ hp) (pa_cons he pa_nil (star_cons hs)) (base_call0 (okPl_call hp)) (few_of hs) hl (star_cons hs) (star_none (es := []) rfl)
  refine PS.imp (ps_expr hpe rfl) fun D σ H h => ?_
  obtain ⟨pn, gb, g0, H0, hpn, ρ, μ, g, fp, s, ok⟩ := h
  have ok : FlOk (gm X) W pn gb g0 H0 D (match locP ρ μ pl.i pl.rs with
    | some (_, .ol _) => if firm ρ pl then (evE Φ a ρ μ).go ρ fun x μ1 => (match locP ρ μ1 pl.i pl.rs with
      | some (p, .ol l) => if l.length < LIM then .nx (putE ρ μ1 pl.i p (.ol (l ++ [itm own x]))) (putM ρ μ1 pl.i p (.ol (l ++ [itm own x]))) else .bad
      | _ => .bad) else .bad
    | _ => .bad) := ok
  split at ok
  · rename_i p0 l0 hl0
    split at ok
    · rename_i hf
      obtain ⟨ad, vs, fp1, rd, ha, ows, _⟩ := list_put s hl0
      refine ⟨.ref ad, rd H (fun _ _ _ e => e) s.sr.F, .inl ⟨rfl, vs, SqL.of ha⟩, ρ, μ, g, fp, s.sr, FlOk.er_of s ok, fun x μ1 e1 g1 H1 w fo G => ?_⟩
      rw [e1] at ok
      simp only [Rs.go_ok] at ok
      obtain ⟨g2, fo2, G2, s2, nw, nd, ow⟩ := itm_at s G own
      split at ok
      · rename_i p1 l1 hl1
        split at ok
        · rename_i hlen
          obtain ⟨ad', vs', fp2, rd', ha', ows', n2, hs2, hna, put⟩ := list_put s2 hl1
          have e := RdV.inj (rd_firm s hf G2 rd) (rd' H1 (fun _ _ _ e => e) s2.sr.F)
          cases e
          have hvl := ows_len ows'
          refine ⟨ad, vs', w, rfl, rfl, ha', by rw [← hvl, ← LIM_eq]; exact hlen, ?_⟩
          obtain ⟨g3, fp', s3, _⟩ := put (l1 ++ [itm own x]) (vs' ++ [w]) (fp2 ++ fo2) fo2 (ows_snocO ow ows') (fun b hb => List.mem_append.mp hb) (nodup_app n2 nd (newA_out (i := pl.i) s2 nw fun b hb => hs2 b (List.mem_cons_of_mem _ hb))) nw
          exact ok _ _ σ fp' s3
        · exact ok.elim
      · exact ok.elim
    · exact ok.elim
  · exact ok.elim
theorem st_pins (c : At X ck Φ W) {own : Bool} (hp : okPl ck pl.i pl.rs o = true) (hl : (ap.endLine == pos'.line) = true) (hsq : noStar q = true) (hsp : noStar p = true) (hk : PE X q (RE X W Φ kx)) (he : PE X p (RE X W Φ a)) :
    PS X (.Expr (.Call (.Attribute o "insert" ap) [q, p] [] pos') pos) (RS X z W Φ (.pins pl own kx a)) := by
  have hpe := pe_bm (X := X) (cpos := pos') (apos := ap) (name := "insert") F.plainAttrs_list F.slot_list_insert type_insert mt_insert (pe_pl c _ _ hp) (pa_cons hk (pa_cons he pa_nil (star_cons hsp)) (star_cons hsq)) (base_call0 (okPl_call hp)) (few_all (by simp [hsq, hsp]) (by simp)) hl (star_cons hsq) (star_none (es := [p]) (by simp [hsp]))
  refine PS.imp (ps_expr hpe rfl) fun D σ H h => ?_
  obtain ⟨pn, gb, g0, H0, hpn, ρ, μ, g, fp, s, ok⟩ := h
  have ok : FlOk (gm X) W pn gb g0 H0 D (match locP ρ μ pl.i pl.rs with
    | some (_, .ol _) => if firm ρ pl then (evE Φ kx ρ μ).go ρ fun y μ1 => (evE Φ a ρ μ1).go ρ fun x μ2 => (match locP ρ μ2 pl.i pl.rs, fz y with
      | some (p, .ol l), .int j => if (0 ≤ j ∧ j < 9223372036854775808) ∧ l.length < LIM then .nx (putE ρ μ2 pl.i p (.ol (l.take j.toNat ++ [itm own x] ++ l.drop j.toNat))) (putM ρ μ2 pl.i p (.ol (l.take j.toNat ++ [itm own x] ++ l.drop j.toNat))) else .bad
      | _, _ => .bad) else .bad
    | _ => .bad) := ok
  split at ok
  · rename_i p0 l0 hl0
    split at ok
    · rename_i hf
      obtain ⟨ad, vs, fp1, rd, ha, ows, _⟩ := list_put s hl0
      refine ⟨.ref ad, rd H (fun _ _ _ e => e) s.sr.F, .inl ⟨rfl, vs, SqL.of ha⟩, ρ, μ, g, fp, s.sr, FlOk.er_of s ok, fun y μ1 e1 g1 H1 w fo G => ?_⟩
      rw [e1] at ok
      simp only [Rs.go_ok] at ok
      obtain ⟨G1, r1⟩ := G.fz
      have s1 := s.to G1
      refine ⟨ρ, μ1, _, fp, s1.sr, FlOk.er_of s1 ok, fun x μ2 e2 g2 H2 u fo2 G2' => ?_⟩
      rw [e2] at ok
      simp only [Rs.go_ok] at ok
      obtain ⟨g3, fo3, G3, s3, nw, nd, ow⟩ := itm_at s1 G2' own
      split at ok
      · rename_i p1 l1 j hl1 ey
        rw [ey] at r1
        split at ok
        · rename_i hc
          obtain ⟨ad', vs', fp2, rd', ha', ows', n2, hs2, hna, put⟩ := list_put s3 hl1
          have e := RdV.inj (rd_firm s hf (G1.trans G3) rd) (rd' H2 (fun _ _ _ e => e) s3.sr.F)
          cases e
          simp only [Rp] at r1
          have hvl := ows_len ows'
          refine ⟨ad, vs', j, u, rfl, by rw [r1], ha', by rw [← hvl, ← LIM_eq]; exact hc.2, hc.1.1, by have := hc.1.2; omega, ?_⟩
          obtain ⟨fp3, k1, k2⟩ := ows_insO ow j.toNat ows'
          obtain ⟨g4, fp', s4, _⟩ := put _ _ fp3 fo3 k1 (fun b hb => List.mem_append.mp (k2.mem_iff.mp hb)) (k2.nodup_iff.mpr (nodup_app n2 nd (newA_out (i := pl.i) s3 nw fun b hb => hs2 b (List.mem_cons_of_mem _ hb)))) nw
          exact ok _ _ σ fp' s4
        · exact ok.elim
      · exact ok.elim
    · exact ok.elim
  · exact ok.elim
/-- an index, read -/
def tIxE (x : Ix) : TE := fun σ H Q => ∃ k, ixRun σ x = some k ∧ Q (.int k) H
theorem pe_ixE (c : At X ck Φ W) {x : Ix} (h : okIx ck (some x) (some q) = true) : PE X q (tIxE x) ∧ simple q = true ∧ noStar q = true := by
  unfold okIx at h
  split at h
  · rename_i e _
    cases e
  · rename_i e1 e2
    cases e1
    cases e2
    have h := of_decide_eq_true h
    subst h
    exact ⟨PE.imp pe_int fun σ H Q ⟨k, e, hh⟩ => by cases e; exact hh, rfl, rfl⟩
  · rename_i e1 e2
    cases e1
    cases e2
    have h := of_decide_eq_true h
    subst h
    exact ⟨PE.imp (pe_un un_neg pe_int) fun σ H Q ⟨k, e, hh⟩ => by cases e; exact ⟨_, rfl, hh⟩, rfl, rfl⟩
  · rename_i e1 e2
    cases e1
    cases e2
    refine ⟨PE.imp (c.pv h) fun σ H Q ⟨k, e, hh⟩ => ?_, rfl, rfl⟩
    simp only [ixRun] at e
    split at e
    · rename_i k' e2
      cases e
      exact ⟨_, e2, hh⟩
    · cases e
  · rename_i e1 e2
    cases e1
    cases e2
    simp only [Bool.and_eq_true, decide_eq_true_eq] at h
    obtain ⟨h, rfl⟩ := h
    refine ⟨PE.imp (pe_op (opR_bin .add) (c.pv h) pe_int) fun σ H Q ⟨k, e, hh⟩ => ?_, rfl, rfl⟩
    simp only [ixRun] at e
    split at e
    · rename_i k' e2
      cases e
      exact ⟨_, e2, .inl ⟨_, _, rfl, rfl, hh⟩⟩
    · cases e
  · cases h
theorem st_pset (c : At X ck Φ W) {x : Ix} {own : Bool} (hp : okPl ck pl.i pl.rs o = true) (hq : okIx ck (some x) (some q) = true) (he : PE X p (RE X W Φ a)) :
    PS X (.Assign [.Subscript o q tpos] p pos) (RS X z W Φ (.pset pl x own a)) := by
  obtain ⟨hk, hsimp, _⟩ := pe_ixE c hq
  refine PS.imp (ps_asg he (pg_sub (pe_pl c _ _ hp) hk set_list (fun v => by cases q <;> first | rfl | cases hsimp)) sole_sub (stores_no (.inr rfl)) (asg_one rfl)) fun D σ H h => ?_
  refine rdS_e (fe := evE Φ a) (k := fun ρ x1 μ1 => (match locP ρ μ1 pl.i pl.rs with
    | some (p, .ol l) => (match (ixV ρ x).bind (MP.ixN l.length) with
      | some n => .nx (putE ρ μ1 pl.i p (.ol (l.set n (itm own x1)))) (putM ρ μ1 pl.i p (.ol (l.set n (itm own x1))))
      | none => .bad)
    | _ => .bad)) h fun pn gb g0 H0 hpn ρ x1 μ1 g g1 H1 fp w fo μ s G ok => ?_
  obtain ⟨g2, fo2, G2, s2, nw, nd, ow⟩ := itm_at s G own
  split at ok
  · rename_i p1 l1 hl1
    obtain ⟨ad, vs, fp1, rd, ha, ows, n2, hs2, hna, put⟩ := list_put s2 hl1
    split at ok
    · rename_i n en
      obtain ⟨k, e1, e2⟩ := Option.bind_eq_some_iff.mp en
      have hvl := ows_len ows
      have en2 : L2.ixN vs.length k = some n := by rw [← hvl]; exact e2
      have hlt : n < l1.length := by rw [hvl]; exact (ixN_seq en2).2.1
      obtain ⟨f1, f2, f3, rfl, k1⟩ := ows_setO ow n ows hlt
      refine ⟨.ref ad, rd H1 (fun _ _ _ e => e) s2.sr.F, k, ix_run s2.sr e1, ad, vs, k, n, rfl, rfl, ha, en2, ?_⟩
      obtain ⟨m1, m2, m3⟩ := List.nodup_append.mp n2
      obtain ⟨m4, m5, m6⟩ := List.nodup_append.mp m2
      have out := newA_out (i := pl.i) s2 nw fun b hb => hs2 b (List.mem_cons_of_mem _ hb)
      obtain ⟨g3, fp', s3, _⟩ := put _ _ _ fo2 k1 (fun b hb => by
        rcases List.mem_append.mp hb with hb | hb
        · exact .inl (List.mem_append_left _ hb)
        · rcases List.mem_append.mp hb with hb | hb
          · exact .inr hb
          · exact .inl (List.mem_append_right _ (List.mem_append_right _ hb))) (List.nodup_append.mpr ⟨m1, List.nodup_append.mpr ⟨nd, m5, fun x hx y hy e => out x hx (by rw [e]; exact List.mem_append_right _ (List.mem_append_right _ hy))⟩, fun x hx y hy e => by
          rcases List.mem_append.mp hy with hy | hy
          · exact out y hy (by rw [← e]; exact List.mem_append_left _ hx)
          · exact m3 x hx y (List.mem_append_right _ hy) e⟩) nw
      exact ok _ _ σ fp' s3
    · exact ok.elim
  · exact ok.elim
theorem putF_set {f : Str} {y : V} : ∀ {ns : List Str} {vs : List V} {n : Nat}, idxF ns f = some n → ns.length = vs.length → putF f y (ns.zip vs) = ns.zip (vs.set n y)
  | [], vs, n, h, hl => by cases h
  | m :: ns, [], n, h, hl => by cases hl
  | m :: ns, u :: vs, n, h, hl => by
    unfold idxF at h
    simp only [List.zip_cons_cons, putF]
    by_cases hm : m = f
    · rw [if_pos hm] at h
      cases h
      rw [if_pos hm]
      simp
    · rw [if_neg hm] at h
      obtain ⟨n', h1, rfl⟩ := Option.map_eq_some_iff.mp h
      rw [if_neg hm, putF_set h1 (by simpa using hl)]
      simp
theorem idxF_lt {f : Str} : ∀ {ns : List Str} {n : Nat}, idxF ns f = some n → n < ns.length
  | [], n, h => by cases h
  | m :: ns, n, h => by
    unfold idxF at h
    by_cases hm : m = f
    · rw [if_pos hm] at h
      cases h
      simp
    · rw [if_neg hm] at h
      obtain ⟨n', h1, rfl⟩ := Option.map_eq_some_iff.mp h
      have := idxF_lt h1
      simp
      omega
theorem st_pfld (c : At X ck Φ W) {cl f : Str} {own : Bool} (hm : (cl, f) ∈ ck.fl) (hp : okPl ck pl.i pl.rs o = true) (hs : swapsWith p (some (.Attribute o f tpos)) pos.line X.env = pure false) (he : PE X p (RE X W Φ a)) :
    PS X (.Assign [.Attribute o f tpos] p pos) (RS X z W Φ (.pfld pl cl f own a)) := by
  refine PS.imp (ps_fld (pe_pl c _ _ hp) he hs) fun D σ H h => ?_
  refine rdS_e (fe := evE Φ a) (k := fun ρ x1 μ1 => (match locP ρ μ1 pl.i pl.rs with
    | some (p, o) => (match fldO cl o f (itm own x1) with
      | some o1 => .nx (putE ρ μ1 pl.i p o1) (putM ρ μ1 pl.i p o1)
      | none => .bad)
    | _ => .bad)) h fun pn gb g0 H0 hpn ρ x1 μ1 g g1 H1 fp w fo μ s G ok => ?_
  obtain ⟨g2, fo2, G2, s2, nw, nd, ow⟩ := itm_at s G own
  split at ok
  · rename_i p1 o1 hl1
    split at ok
    · rename_i o2 eo
      obtain ⟨v, ff, rd, h2, h3, h4, k⟩ := s2.loc hl1
      unfold fldO at eo
      split at eo
      · rename_i c' ns fs
        split at eo
        · rename_i hc
          subst hc
          split at eo
          · rename_i n en
            split at eo
            · rename_i hl
              cases eo
              simp only [Ow] at h2
              obtain ⟨ad, dx, vs, fp1, rfl, rfl, ha, hlen, hl9, ows⟩ := h2
              obtain ⟨k1, k2⟩ := c.st.fl _ hm
              have hlt : n < fs.length := by rw [hl]; exact idxF_lt en
              obtain ⟨f1, f2, f3, rfl, ws⟩ := ows_setO ow n ows hlt
              obtain ⟨m0, m1⟩ := List.nodup_cons.mp h3
              obtain ⟨m1, m2, m3⟩ := List.nodup_append.mp m1
              obtain ⟨m4, m5, m6⟩ := List.nodup_append.mp m2
              have out := newA_out (i := pl.i) s2 nw h4
              refine ⟨.ref ad, rd H1 (fun _ _ _ e => e) s2.sr.F, ad, _, dx, _, rfl, ha, k1, k2, ?_, ?_⟩
              · rw [List.length_zip]; omega
              · rw [putF_set en hlen]
                have hna : ad ∉ f1 ++ (fo2 ++ f3) := fun z => by
                  rcases List.mem_append.mp z with z | z
                  · exact m0 (List.mem_append_left _ z)
                  · rcases List.mem_append.mp z with z | z
                    · exact out ad z List.mem_cons_self
                    · exact m0 (List.mem_append_right _ (List.mem_append_right _ z))
                obtain ⟨g3, fp', s3, _⟩ := k ad (.ins (He.ga X.K c') dx (ns.zip (vs.set n w))) (.oi c' ns (fs.set n (itm own x1))) (ad :: (f1 ++ (fo2 ++ f3))) fo2 List.mem_cons_self (by
                  simp only [Ow]
                  exact ⟨ad, dx, vs.set n w, _, rfl, rfl, upd_same, by rw [List.length_set]; exact hlen, hl9, Ows.le (Le.refl _) _ _ _ ws fun b hb u eb => by rw [upd_ne (fun y => hna (by rw [← y]; exact hb))]; exact eb⟩) (fun b hb => by
                  rcases List.mem_cons.mp hb with rfl | hb
                  · exact .inl List.mem_cons_self
                  · rcases List.mem_append.mp hb with hb | hb
                    · exact .inl (List.mem_cons_of_mem _ (List.mem_append_left _ hb))
                    · rcases List.mem_append.mp hb with hb | hb
                      · exact .inr hb
                      · exact .inl (List.mem_cons_of_mem _ (List.mem_append_right _ (List.mem_append_right _ hb)))) (List.nodup_cons.mpr ⟨hna, List.nodup_append.mpr ⟨m1, List.nodup_append.mpr ⟨nd, m5, fun x hx y hy e => out x hx (by rw [e]; exact List.mem_cons_of_mem _ (List.mem_append_right _ (List.mem_append_right _ hy)))⟩, fun x hx y hy e => by
                    rcases List.mem_append.mp hy with hy | hy
                    · exact out y hy (by rw [← e]; exact List.mem_cons_of_mem _ (List.mem_append_left _ hx))
                    · exact m3 x hx y (List.mem_append_right _ hy) e⟩⟩) nw
                exact ok _ _ σ fp' s3
            · cases eo
          · cases eo
        · cases eo
      · cases eo
    · exact ok.elim
  · exact ok.elim
theorem type_clear : typeOf (.builtin "list.clear") = pure (.type "method_descriptor") := by kernel_rfl
theorem type_pop : typeOf (.builtin "list.pop") = pure (.type "method_descriptor") := by kernel_rfl
theorem st_pclr (c : At X ck Φ W) (hp : okPl ck pl.i pl.rs o = true) (hl : (ap.endLine == pos'.line) = true) :
    PS X (.Expr (.Call (.Attribute o "clear" ap) [] [] pos') pos) (RS X z W Φ (.pclr pl)) := by
  have hpe := pe_bm0 (X := X) (cpos := pos') (apos := ap) (name := "clear") F.plainAttrs_list F.slot_list_clear type_clear mt_clear (pe_pl c _ _ hp) (base_call0 (okPl_call hp)) hl
  refine PS.imp (ps_expr hpe rfl) fun D σ H h => ?_
  obtain ⟨pn, gb, g0, H0, hpn, ρ, μ, g, fp, s, ok⟩ := h
  have ok : FlOk (gm X) W pn gb g0 H0 D (match locP ρ μ pl.i pl.rs with
    | some (p, .ol _) => .nx (putE ρ μ pl.i p (.ol [])) (putM ρ μ pl.i p (.ol []))
    | _ => .bad) := ok
  split at ok
  · rename_i p0 l0 hl0
    obtain ⟨ad, vs, fp1, rd, ha, ows, n2, hs2, hna, put⟩ := list_put s hl0
    refine ⟨.ref ad, rd H (fun _ _ _ e => e) s.sr.F, .inl ⟨rfl, vs, SqL.of ha⟩, ad, vs, rfl, rfl, ha, ?_⟩
    obtain ⟨g3, fp', s3, _⟩ := put [] [] [] [] (by simp only [Ows]; exact ⟨trivial, trivial⟩) (fun _ h => by cases h) .nil newA_nil
    exact ok _ _ σ fp' s3
  · exact ok.elim
theorem st_pdel (c : At X ck Φ W) {x : Ix} (hp : okPl ck pl.i pl.rs o = true) (hq : okIx ck (some x) (some q) = true) (hl : (ap.endLine == pos'.line) = true) :
    PS X (.Expr (.Call (.Attribute o "pop" ap) [q] [] pos') pos) (RS X z W Φ (.pdel pl x)) := by
  obtain ⟨hk, _, hs⟩ := pe_ixE c hq
  have hpe := pe_bm (X := X) (cpos := pos') (apos := ap) (name := "pop") F.plainAttrs_list F.slot_list_pop type_pop mt_popAt (pe_pl c _ _ hp) (pa_cons hk pa_nil (star_cons hs)) (base_call0 (okPl_call hp)) (few_of hs) hl (star_cons hs) (star_none (es := []) rfl)
  refine PS.imp (ps_expr hpe rfl) fun D σ H h => ?_
  obtain ⟨pn, gb, g0, H0, hpn, ρ, μ, g, fp, s, ok⟩ := h
  have ok : FlOk (gm X) W pn gb g0 H0 D (match locP ρ μ pl.i pl.rs with
    | some (p, .ol l) => (match (ixV ρ x).bind (MP.ixN l.length) with
      | some n => if l.length ≤ LIM then .nx (putE ρ μ pl.i p (.ol (l.eraseIdx n))) (putM ρ μ pl.i p (.ol (l.eraseIdx n))) else .bad
      | none => .bad)
    | _ => .bad) := ok
  split at ok
  · rename_i p0 l0 hl0
    obtain ⟨ad, vs, fp1, rd, ha, ows, n2, hs2, hna, put⟩ := list_put s hl0
    split at ok
    · rename_i n en
      obtain ⟨k, e1, e2⟩ := Option.bind_eq_some_iff.mp en
      have hvl := ows_len ows
      have en2 : L2.ixN vs.length k = some n := by rw [← hvl]; exact e2
      obtain ⟨q1, q2, _⟩ := ixN_seq en2
      have hlt : n < l0.length := by rw [hvl]; exact q2
      split at ok
      · rename_i hlim
        unfold LIM at hlim
        obtain ⟨f1, f2, f3, rfl, k1⟩ := ows_del n ows hlt
        obtain ⟨q3, q4⟩ := (ixN_seq en2).2.2
        obtain ⟨y, hy⟩ := get_some q2
        refine ⟨.ref ad, rd H (fun _ _ _ e => e) s.sr.F, .inl ⟨rfl, vs, SqL.of ha⟩, k, ix_run s.sr e1, ad, vs, k, n, y, rfl, rfl, ha, by omega, by omega, q1, hy, ?_⟩
        obtain ⟨m1, m2, m3⟩ := List.nodup_append.mp n2
        obtain ⟨m4, m5, m6⟩ := List.nodup_append.mp m2
        obtain ⟨g3, fp', s3, _⟩ := put _ _ _ [] k1 (fun b hb => .inl (by
          rcases List.mem_append.mp hb with hb | hb
          · exact List.mem_append_left _ hb
          · exact List.mem_append_right _ (List.mem_append_right _ hb))) (List.nodup_append.mpr ⟨m1, m5, fun x hx y hy => m3 x hx y (List.mem_append_right _ hy)⟩) newA_nil
        exact ok _ _ σ fp' s3
      · exact ok.elim
    · exact ok.elim
  · exact ok.elim
theorem dropLast_erase {α : Type} : ∀ l : List α, l.dropLast = l.eraseIdx (l.length - 1)
  | [] => rfl
  | [a] => rfl
  | a :: b :: l => by
    have h := dropLast_erase (b :: l)
    have e : (a :: b :: l).length - 1 = ((b :: l).length - 1) + 1 := by simp
    rw [e, List.eraseIdx_cons_succ, ← h]
    rfl
/-- the last item, taken -/
theorem last_at {Γ : Env1} {g : Gh} {H : Hp} {l : List O} {vs : List V} {fp : List Addr} {d : MP.D} (h : Ows Γ g H l vs fp) (e : l.getLast? = some (.sh d)) : ∃ y f1 f2 f3, vs[vs.length - 1]? = some y ∧ Rp Γ g d y ∧ fp = f1 ++ (f2 ++ f3) ∧ Ows Γ g H l.dropLast vs.dropLast (f1 ++ f3) := by
  have hl := ows_len h
  have hpos : 0 < l.length := by
    cases l with
    | nil => cases e
    | cons _ _ => simp
  have e1 : l[l.length - 1]? = some (.sh d) := by rw [← List.getLast?_eq_getElem?]; exact e
  obtain ⟨y, f, hy, ow⟩ := ows_get h e1
  simp only [Ow] at ow
  obtain ⟨f1, f2, f3, e2, k⟩ := ows_del (l.length - 1) h (by omega)
  refine ⟨y, f1, f2, f3, by rw [← hl]; exact hy, ow.2, e2, ?_⟩
  rw [dropLast_erase l, dropLast_erase vs, ← hl]
  exact k
theorem Rp.eqg {Γ : Env1} {g g2 : Gh} (e1 : g2.F = g.F) (e2 : g2.rt = g.rt) {d : MP.D} {y : V} (h : Rp Γ g d y) : Rp Γ g2 d y := Rp.le ⟨by rw [e1]; exact Same.refl _, by rw [e2]; exact fun _ _ h => h⟩ _ _ h
theorem st_ppop (c : At X ck Φ W) {tg : T} (hz : ∀ j ∈ z, j ∉ tgN tg) (hp : okPl ck pl.i pl.rs o = true) (hl : (ap.endLine == pos'.line) = true) (hs : noStar q = true) (hg : PG X q (gT X.K tg)) :
    PS X (.Assign [q] (.Call (.Attribute o "pop" ap) [] [] pos') pos) (RS X z W Φ (.ppop tg pl)) := by
  have hpe := pe_bm0 (X := X) (cpos := pos') (apos := ap) (name := "pop") F.plainAttrs_list F.slot_list_pop type_pop mt_pop (pe_pl c _ _ hp) (base_call0 (okPl_call hp)) hl
  refine PS.imp (ps_asg hpe hg (sole_no rfl) (stores_no (.inl rfl)) (asg_one hs)) fun D σ H h => ?_
  obtain ⟨pn, gb, g0, H0, hpn, ρ, μ, g, fp, s, ok⟩ := h
  have ok : FlOk (gm X) W pn gb g0 H0 D (match locP ρ μ pl.i pl.rs with
    | some (p, o) => (match lastO o with
      | some (o1, d) => (match setT tg d (putE ρ μ pl.i p o1) with
        | some ρ1 => .nx ρ1 (putM ρ μ pl.i p o1)
        | none => .bad)
      | none => .bad)
    | _ => .bad) := ok
  split at ok
  · rename_i p0 o0 hl0
    split at ok
    · rename_i o1 d e1
      unfold lastO at e1
      split at e1
      · rename_i l0
        split at e1
        · rename_i d' e2
          cases e1
          obtain ⟨ad, vs, fp1, rd, ha, ows, n2, hs2, hna, put⟩ := list_put s hl0
          obtain ⟨y, f1, f2, f3, hy, ry, rfl, k1⟩ := last_at ows e2
          refine ⟨.ref ad, rd H (fun _ _ _ e => e) s.sr.F, .inl ⟨rfl, vs, SqL.of ha⟩, ad, vs, y, rfl, rfl, ha, hy, ?_⟩
          obtain ⟨m1, m2, m3⟩ := List.nodup_append.mp n2
          obtain ⟨m4, m5, m6⟩ := List.nodup_append.mp m2
          obtain ⟨g3, fp', s3, e3, e4⟩ := put _ _ _ [] k1 (fun b hb => .inl (by
            rcases List.mem_append.mp hb with hb | hb
            · exact List.mem_append_left _ hb
            · exact List.mem_append_right _ (List.mem_append_right _ hb))) (List.nodup_append.mpr ⟨m1, m5, fun x hx y hy => m3 x hx y (List.mem_append_right _ hy)⟩) newA_nil
          split at ok
          · rename_i ρ1 eT
            exact gT_at (Γ := gm X) tg d y s3.sr (Rp.eqg e3 e4 ry) eT fun σ' fp' s' b' hw => ok _ _ σ' fp' ⟨s', s3.go, (fun a h => s3.new a (b' a h)), s3.lb, wipe_pin (pin_or hpn hz) (hw _ fun _ h => h) s3.pin⟩
          · exact ok.elim
        · cases e1
      · cases e1
    · exact ok.elim
  · exact ok.elim
theorem st_pmov (c : At X ck Φ W) {pl2 : Pl} {o2 : Expr} {ap2 pos2 : Pos} (hp : okPl ck pl.i pl.rs o = true) (hp2 : okPl ck pl2.i pl2.rs o2 = true) (hl : (ap.endLine == pos'.line) = true) (hl2 : (ap2.endLine == pos2.line) = true) :
    PS X (.Expr (.Call (.Attribute o "append" ap) [.Call (.Attribute o2 "pop" ap2) [] [] pos2] [] pos') pos) (RS X z W Φ (.pmov pl pl2)) := by
  have hpop := pe_bm0 (X := X) (cpos := pos2) (apos := ap2) (name := "pop") F.plainAttrs_list F.slot_list_pop type_pop mt_pop (pe_pl c _ _ hp2) (base_call0 (okPl_call hp2)) hl2
  have hpe := pe_bm (X := X) (cpos := pos') (apos := ap) (name := "append") F.plainAttrs_list F.slot_list_append type_append mt_append (pe_pl c _ _ hp) (pa_cons hpop pa_nil (star_cons rfl)) (base_call0 (okPl_call hp)) (few_of rfl) hl (star_cons rfl) (star_none (es := []) rfl)
  refine PS.imp (ps_expr hpe rfl) fun D σ H h => ?_
  obtain ⟨pn, gb, g0, H0, hpn, ρ, μ, g, fp, s, ok⟩ := h
  have ok : FlOk (gm X) W pn gb g0 H0 D (match locP ρ μ pl.i pl.rs, locP ρ μ pl2.i pl2.rs with
    | some (_, .ol _), some (p2, o2) => if (pl.rs.isEmpty && pl2.rs.isEmpty) && decide (pl.i ≠ pl2.i) then (match lastO o2 with
      | some (o3, d) => (match locP (putE ρ μ pl2.i p2 o3) (putM ρ μ pl2.i p2 o3) pl.i pl.rs with
        | some (p, .ol l) => if l.length < LIM then .nx (putE (putE ρ μ pl2.i p2 o3) (putM ρ μ pl2.i p2 o3) pl.i p (.ol (l ++ [.sh d]))) (putM (putE ρ μ pl2.i p2 o3) (putM ρ μ pl2.i p2 o3) pl.i p (.ol (l ++ [.sh d]))) else .bad
        | _ => .bad)
      | none => .bad) else .bad
    | _, _ => .bad) := ok
  split at ok
  · rename_i p1 l1 p2 x2 hl1 hl02
    split at ok
    · rename_i hc
      simp only [Bool.and_eq_true, List.isEmpty_iff, decide_eq_true_eq] at hc
      obtain ⟨⟨hr1, hr2⟩, hne⟩ := hc
      split at ok
      · rename_i o3 d e1
        unfold lastO at e1
        split at e1
        · rename_i l2
          split at e1
          · rename_i d' e2
            cases e1
            obtain ⟨ad, vs, fp1, rd, ha, _⟩ := list_put s hl1
            obtain ⟨ad2, vs2, fp2, rd2, ha2, ows2, n2, hs2, hna, put⟩ := list_put s hl02
            obtain ⟨y, f1, f2, f3, hy, ry, rfl, k1⟩ := last_at ows2 e2
            obtain ⟨m1, m2, m3⟩ := List.nodup_append.mp n2
            obtain ⟨m4, m5, m6⟩ := List.nodup_append.mp m2
            obtain ⟨g3, fp', s3, e3, e4⟩ := put _ _ _ [] k1 (fun b hb => .inl (by
              rcases List.mem_append.mp hb with hb | hb
              · exact List.mem_append_left _ hb
              · exact List.mem_append_right _ (List.mem_append_right _ hb))) (List.nodup_append.mpr ⟨m1, m5, fun x hx y hy => m3 x hx y (List.mem_append_right _ hy)⟩) newA_nil
            have rd0 := rd H (fun _ _ _ e => e) s.sr.F
            refine ⟨.ref ad, rd0, .inl ⟨rfl, vs, SqL.of ha⟩, .ref ad2, rd2 H (fun _ _ _ e => e) s.sr.F, .inl ⟨rfl, vs2, SqL.of ha2⟩, ad2, vs2, y, rfl, rfl, ha2, hy, ?_⟩
            split at ok
            · rename_i p3 l3 hl3
              split at ok
              · rename_i hlen
                obtain ⟨ad', vs', fp4, rd', ha', ows', n4, hs4, hna4, put4⟩ := list_put s3 hl3
                have rd1 := rd' _ (fun _ _ _ e => e) s3.sr.F
                rw [hr1] at rd0 rd1
                have rd0 : σ[pl.i]? = some (some (.ref ad)) := rd0
                have rd1 : σ[pl.i]? = some (some (.ref ad')) := rd1
                rw [rd0] at rd1
                cases rd1
                have hvl := ows_len ows'
                refine ⟨ad, vs', y, rfl, rfl, ha', by rw [← hvl, ← LIM_eq]; exact hlen, ?_⟩
                obtain ⟨g5, fp5, s5, _⟩ := put4 (l3 ++ [.sh d]) (vs' ++ [y]) fp4 [] (ows_snoc (Rp.eqg e3 e4 ry) ows') (fun b hb => .inl hb) n4 newA_nil
                exact ok _ _ σ fp5 s5
              · exact ok.elim
            · exact ok.elim
          · cases e1
        · cases e1
      · exact ok.elim
    · exact ok.elim
  · exact ok.elim
/-! ### a loop over a list of one's own -/
section
variable {Γ : Env1} {pn : List (Nat × V)} {gb g0 g g' : Gh} {H0 H H' : Hp} {μ μ1 : List O} {ρ ρ1 : List Sl} {σ σ' : L2.St} {fp fp' f f' : List Addr} {i : Nat}
theorem nw_more (s : ST Γ pn gb g0 H0 g μ H ρ σ fp) (sub : ∀ a ∈ f', a ∈ fp) {x : Addr} (h : Nw (g.more f') H x) : Nw g0 H0 x := by
  rcases h with h | h
  · rcases List.mem_append.mp h with h | h
    · exact s.go.nw (.inl h)
    · exact s.new x (sub x h)
  · exact s.go.nw (.inr h)
theorem go_over (s : ST Γ pn gb g0 H0 g μ H ρ σ fp) (sub : ∀ a ∈ f', a ∈ fp) (G : Go Γ (g.more f') H g' μ1 H') : Go Γ g0 H0 g' μ1 H' := by
  refine ⟨s.go.le.trans ⟨G.le.F, G.le.rt⟩, fun x u e n => ?_, fun x h => G.there x (s.go.there x h), fun x h => ?_, fun x h => nw_more s sub (G.gG x h), G.F, G.cl⟩
  · refine G.keep x u (s.go.keep x u e n) fun z => ?_
    rcases List.mem_append.mp z with z | z
    · exact (Nw.no (s.go.nw (.inl z)) e n)
    · exact (s.new x (sub x z)).no e n
  · rcases G.gF x h with y | y
    · exact s.go.gF x y
    · exact .inr (nw_more s sub y)
theorem st_over (s : ST Γ pn gb g0 H0 g μ H ρ σ fp) (sub : ∀ a ∈ f', a ∈ fp) {pn' : List (Nat × V)} (hpn : ∀ q ∈ pn, q ∈ pn') (s' : ST Γ pn' g (g.more f') H g' μ1 H' ρ1 σ' fp') : ST Γ pn gb g0 H0 g' μ1 H' ρ1 σ' fp' :=
  ⟨s'.sr, go_over s sub s'.go, fun b hb => nw_more s sub (s'.new b hb), s.lb.trans s'.lb, fun q hq => s'.pin q (hpn q hq)⟩
/-- the hidden slot is back -/
theorem st_back (s : ST Γ pn gb g0 H0 g μ H ρ σ fp) {o : O} {v : V} (ow : Ow Γ g H o v f) (nf : f.Nodup) (subf : ∀ a ∈ f, a ∈ fp) (sub : ∀ a ∈ f', a ∈ fp) (dis : ∀ a ∈ f, a ∉ f') {pn' : List (Nat × V)} (hpn : ∀ q ∈ pn, q ∈ pn') (hi : (i, v) ∈ pn')
    (hno : ρ1[i]? = some .no) (s' : ST Γ pn' g (g.more f') H g' μ1 H' ρ1 σ' fp') : ∃ fp2, ST Γ pn gb g0 H0 g' μ1 H' (ρ1.set i (.ow o)) σ' fp2 := by
  have s1 := st_over s sub hpn s'
  have inB : ∀ a ∈ f, ∃ u, H a = some u ∧ a ∉ (g.more f').G := fun a ha => by
    obtain ⟨u, e⟩ := Ow.there _ _ _ ow a ha
    exact ⟨u, e, fun z => (List.mem_append.mp z).elim (s.sr.ap a (subf a ha)).2 (dis a ha)⟩
  have ap : ∀ a ∈ f, g'.F a = none ∧ a ∉ g'.G := fun a ha => by
    obtain ⟨u, e, eb⟩ := inB a ha
    obtain ⟨h1, h2⟩ := s.sr.ap a (subf a ha)
    refine ⟨?_, fun z => ?_⟩
    · cases q : g'.F a with
      | none => rfl
      | some w =>
        rcases s'.go.gF a (ne_none q) with y | y
        · exact absurd h1 y
        · exact (y.no e eb).elim
    · exact Nw.no (s'.go.gG a z) e eb
  have kp : KeepAt H H' f := fun a ha u e => by
    obtain ⟨u', e', eb⟩ := inB a ha
    rw [e'] at e
    cases e
    exact s'.go.keep a _ e' eb
  obtain ⟨x, fx, fr, e1, rx, pm, up⟩ := s1.sr.env.split hno
  have hfx : fx = [] := rx
  subst hfx
  have hv : σ'[i]? = some (some v) := s'.pin (i, v) hi
  rw [hv] at e1
  cases e1
  obtain ⟨fp2, q2, p2⟩ := up g' H' (.ow o) (some v) f (Le.refl _) (fun _ _ _ e => e) ⟨v, rfl, Ow.le (g := g) ⟨s'.go.le.F, s'.go.le.rt⟩ _ _ _ ow kp⟩
  have es : σ'.set i (some v) = σ' := by
    have hi : i < σ'.length := (List.getElem?_eq_some_iff.mp hv).1
    have := (List.getElem?_eq_some_iff.mp hv).2
    rw [← this, List.set_getElem_self hi]
  rw [es] at q2
  have hfr : ∀ a ∈ fr, a ∈ fp' := fun a ha => pm.mem_iff.mpr (List.mem_append_right _ ha)
  have hsub : ∀ b ∈ fp2, b ∈ f ∨ b ∈ fp' := fun b hb => (List.mem_append.mp (p2.mem_iff.mp hb)).imp id (hfr b)
  refine ⟨fp2, ⟨s1.sr.F, s1.sr.cl, q2, p2.nodup_iff.mpr (List.nodup_append.mpr ⟨nf, (List.nodup_append.mp (pm.nodup_iff.mp s1.sr.nd)).2.1, fun a ha b hb e => ?_⟩), fun b hb => (hsub b hb).elim (ap b) (s1.sr.ap b)⟩, s1.go, fun b hb => (hsub b hb).elim (fun z => s.new b (subf b z)) (s1.new b), s1.lb, s1.pin⟩
  subst e
  obtain ⟨u, e, eb⟩ := inB a ha
  exact (s'.new a (hfr a hb)).no e eb
end
theorem loc_rd {Γ : Env1} {pn : List (Nat × V)} {gb g0 g : Gh} {H0 H : Hp} {μ : List O} {ρ : List Sl} {σ : L2.St} {fp : List Addr} {i : Nat} (s : ST Γ pn gb g0 H0 g μ H ρ σ fp) {root : O} {v0 : V} {f0 : List Addr} (hσ : σ[i]? = some (some v0)) (ow0 : Ow Γ g H root v0 f0) (nd0 : f0.Nodup) (hroot : rootO ρ μ i = some root) :
    ∀ {rs : List Stp} {p : List Nat} {o : O}, locP ρ μ i rs = some (p, o) → ∃ v f, (∀ H1, KeepAt H H1 f0 → Same g.F H1 → RdV Γ.K σ H1 i rs v) ∧ Ow Γ g H o v f ∧ f.Nodup ∧ ∀ b ∈ f, b ∈ f0
  | [], p, o, h => by
    obtain ⟨r, h1, h2⟩ := Option.map_eq_some_iff.mp (show (rootO ρ μ i).map (fun o => (([] : List Nat), o)) = some (p, o) from h)
    cases h2
    rw [hroot] at h1
    cases h1
    exact ⟨v0, f0, fun _ _ _ => hσ, ow0, nd0, fun _ h => h⟩
  | st :: rs, p, o, h => by
    obtain ⟨q, h1, h2⟩ := Option.bind_eq_some_iff.mp (show ((locP ρ μ i rs).bind fun q => (kidN ρ st q.2).bind fun n => (kidsO q.2)[n]?.map fun o => (q.1 ++ [n], o)) = some (p, o) from h)
    obtain ⟨n, h3, h4⟩ := Option.bind_eq_some_iff.mp h2
    obtain ⟨o', h5, h6⟩ := Option.map_eq_some_iff.mp h4
    cases h6
    obtain ⟨v, f, k1, k2, k3, k4⟩ := loc_rd s hσ ow0 nd0 hroot (rs := rs) (p := q.1) (o := q.2) h1
    obtain ⟨vc, fc, hk, j1, j2, j3, j⟩ := ow_kid k2 k3 h5
    refine ⟨vc, fc, fun H1 kp sm => ?_, j1, j3, fun b hb => k4 b (j2 b hb)⟩
    have rd := k1 H1 kp sm
    have kf : KeepAt H H1 f := kp.mono k4
    cases st with
    | ix x =>
      obtain ⟨qp, qo⟩ := q
      simp only at h3 hk h5 k2
      cases qo with
      | ol l =>
        simp only [kidN] at h3
        obtain ⟨kk, e1, e2⟩ := Option.bind_eq_some_iff.mp h3
        obtain ⟨ad, vs, rfl, ha, hl, hv⟩ := hk
        have hin : ad ∈ f := by
          simp only [Ow] at k2
          obtain ⟨_, _, _, e3, rfl, _⟩ := k2
          cases e3
          exact List.mem_cons_self
        refine ⟨ad, vs, kk, rd, ix_run s.sr e1, .inl (kf ad hin _ ha), ?_⟩
        unfold L2.atI
        exact Option.bind_eq_some_iff.mpr ⟨n, by rw [hl]; exact e2, hv⟩
      | ot l =>
        simp only [kidN] at h3
        obtain ⟨kk, e1, e2⟩ := Option.bind_eq_some_iff.mp h3
        obtain ⟨ad, vs, rfl, ha, hl, hv⟩ := hk
        refine ⟨ad, vs, kk, rd, ix_run s.sr e1, .inr (sm _ _ ha), ?_⟩
        unfold L2.atI
        exact Option.bind_eq_some_iff.mpr ⟨n, by rw [hl]; exact e2, hv⟩
      | _ => cases h3
    | fl c ff =>
      obtain ⟨qp, qo⟩ := q
      simp only at h3 hk h5 k2
      cases qo with
      | oi c' ns fs =>
        simp only [kidN] at h3
        split at h3
        · rename_i hc
          subst hc
          obtain ⟨ad, dx, vs, rfl, ha, hl, hv⟩ := hk
          have hin : ad ∈ f := by
            simp only [Ow] at k2
            obtain ⟨_, _, _, _, e3, rfl, _⟩ := k2
            cases e3
            exact List.mem_cons_self
          exact ⟨ad, dx, _, rd, kf ad hin _ ha, idxF_at h3 hl hv⟩
        · cases h3
      | _ => cases h3
theorem st_forO {tp ip : Expr} {x : List Stmt} {ss : List S} {tg : T} (c : At X ck Φ W) (hz : ∀ j ∈ z, j ∉ tgN tg) (hzi : pl.i ∉ tgN tg) (hp : PassesOwn (model X.prog X.w) X.A X.env X.xe) (hpl : okPl ck pl.i pl.rs ip = true) (hg : PG X tp (gT X.K tg))
    (h1 : PSs X x (RSs X (pl.i :: z) W Φ ss)) (hs : simple ip = true) : PS X (.For tp ip x [] pos) (RS X z W Φ (.forO tg pl ss)) :=
  PS.imp (ps_for hp c.calm (pi_any (pe_pl c _ _ hpl)) hg h1 (simple_fold hs X.env)) fun D σ H h => by
    obtain ⟨pn, gb, g0, H0, hpn, ρ, μ, g, fp, s, ok⟩ := h
    have ok : FlOk (gm X) W pn gb g0 H0 D (match ρ[pl.i]?, locP ρ μ pl.i pl.rs with
      | some (.ow o), some (_, .ol l) => (match allSh l with
        | some ds => (match forRun tg (evSs Φ ss) ds (ρ.set pl.i .no) μ with
          | .nx ρ1 μ1 => (match ρ1[pl.i]? with
            | some .no => .nx (ρ1.set pl.i (.ow o)) μ1
            | _ => .bad)
          | .rt x μ1 => .rt x μ1
          | .er c fs ρ1 μ1 => .er c fs ρ1 μ1
          | _ => .bad)
        | none => .bad)
      | _, _ => .bad) := ok
    split at ok
    · rename_i o p l hi hl
      split at ok
      · rename_i ds eds
        obtain ⟨xv, f, f', e1, ⟨v0, rfl, ow0⟩, pm, up⟩ := s.sr.env.split hi
        obtain ⟨nf, nf', ndis⟩ := List.nodup_append.mp (pm.nodup_iff.mp s.sr.nd)
        have subf : ∀ a ∈ f, a ∈ fp := fun a ha => pm.mem_iff.mpr (List.mem_append_left _ ha)
        have sub' : ∀ a ∈ f', a ∈ fp := fun a ha => pm.mem_iff.mpr (List.mem_append_right _ ha)
        have dis : ∀ a ∈ f, a ∉ f' := fun a ha z => ndis a ha a z rfl
        have hroot : rootO ρ μ pl.i = some o := by unfold rootO; rw [hi]
        obtain ⟨v, fl, rd, owl, ndl, subl⟩ := loc_rd s e1 ow0 nf hroot hl
        simp only [Ow] at owl
        obtain ⟨ad, vs, fp1, rfl, rfl, ha, ows⟩ := owl
        obtain ⟨rp, _⟩ := allSh_rps eds ows
        have hadf : ad ∈ f := subl ad List.mem_cons_self
        refine ⟨.ref ad, rd H (fun _ _ _ e => e) s.sr.F, .inl ⟨ad, vs, rfl, .inl ⟨SqL.of ha, ?_⟩⟩⟩
        have rb : FlOk (gm X) W ((pl.i, v0) :: pn) g (g.more f') H D (forRun tg (evSs Φ ss) ds (ρ.set pl.i .no) μ) := by
          cases er : forRun tg (evSs Φ ss) ds (ρ.set pl.i .no) μ with
          | nx ρ1 μ1 =>
            rw [er] at ok
            simp only at ok
            split at ok
            · rename_i hno
              intro g' H' σ' fp' s'
              obtain ⟨fp2, s2⟩ := st_back s ow0 nf subf sub' dis (fun q hq => List.mem_cons_of_mem _ hq) List.mem_cons_self hno s'
              exact ok g' H' σ' fp2 s2
            · exact ok.elim
          | rt x μ1 =>
            rw [er] at ok
            intro g' H' v fo G
            exact ok g' H' v fo ⟨go_over s sub' G.go, G.ow, G.nd, fun a ha => nw_more s sub' (G.new a ha), G.ap⟩
          | er cc fs ρ1 μ1 =>
            rw [er] at ok
            intro g' H' σ' fp' cls d s' xr
            exact ok g' H' σ' fp' cls d (st_over s sub' (fun q hq => List.mem_cons_of_mem _ hq) s') xr
          | bk _ _ => rw [er] at ok; exact ok.elim
          | ct _ _ => rw [er] at ok; exact ok.elim
          | bad => rw [er] at ok; exact ok.elim
        have hadG : ad ∉ (g.more f').G := fun z => (List.mem_append.mp z).elim (s.sr.ap ad (subf ad hadf)).2 (dis ad hadf)
        have st0 : ∃ fp2, ST (gm X) ((pl.i, v0) :: pn) g (g.more f') H g μ H (ρ.set pl.i .no) σ fp2 := by
          obtain ⟨fp2, q2, p2⟩ := up g H .no (some v0) [] (Le.refl _) (fun _ _ _ e => e) rfl
          have es : σ.set pl.i (some v0) = σ := by
            have hi : pl.i < σ.length := (List.getElem?_eq_some_iff.mp e1).1
            have := (List.getElem?_eq_some_iff.mp e1).2
            rw [← this, List.set_getElem_self hi]
          rw [es] at q2
          rw [List.nil_append] at p2
          refine ⟨fp2, ⟨s.sr.F, s.sr.cl, q2, p2.nodup_iff.mpr nf', fun a ha => s.sr.ap a (sub' a (p2.mem_iff.mp ha))⟩, go_less s.sr.F s.sr.cl, fun a ha => .inl (List.mem_append_right _ (p2.mem_iff.mp ha)), Le.refl _, fun q hq => ?_⟩
          rcases List.mem_cons.mp hq with rfl | hq
          · exact e1
          · exact s.pin q hq
        have hpn' : ∀ q ∈ (pl.i, v0) :: pn, q.1 ∈ pl.i :: z := fun q hq => by
          rcases List.mem_cons.mp hq with rfl | hq
          · exact List.mem_cons_self
          · exact List.mem_cons_of_mem _ (hpn q hq)
        have hz' : ∀ j ∈ pl.i :: z, j ∉ tgN tg := fun j hj => by
          rcases List.mem_cons.mp hj with rfl | hj
          · exact hzi
          · exact hz j hj
        generalize g.more f' = gB at rb hadG st0
        generalize (pl.i, v0) :: pn = pn' at rb st0 hpn'
        refine for_it (walk_own (Γ := gm X) (g := g) (a := ad) rp) (fun i σ H1 => ∃ ρ μ g2 fp, ST (gm X) pn' g gB H g2 μ H1 ρ σ fp ∧ FlOk (gm X) W pn' g gB H D (forRun tg (evSs Φ ss) (ds.drop i) ρ μ)) ?_ ?_ ?_ ?_
        · obtain ⟨fp2, s2⟩ := st0
          exact ⟨_, μ, g, fp2, s2, by simpa using rb⟩
        · rintro i σ H2 _ ⟨ρ, μ, g2, fp, s2, _⟩
          exact s2.go.keep ad _ ha hadG
        · rintro i v σ H2 H' hi ⟨ρ, μ, g2, fp, s2, ok⟩ y
          obtain ⟨dd, g3, hd, G2, r2⟩ := YD.go s2.lb s2.sr.F s2.sr.cl y
          have hdrop : ds.drop i = dd :: ds.drop (i + 1) := by
            rw [List.drop_eq_getElem_cons hi]
            congr 1
            have := List.getElem?_eq_getElem hi
            rw [hd] at this
            exact (Option.some.inj this).symm
          rw [hdrop] at ok
          have s3 := s2.to G2
          unfold forRun at ok
          cases eT : setT tg dd ρ with
          | none => rw [eT] at ok; exact ok.elim
          | some ρ1 =>
            simp only [eT] at ok
            refine gT_at (Γ := gm X) tg dd v s3.sr r2 eT fun σ3 fp3 sr3 b3 hw => ⟨pn', g, gB, H, hpn', ρ1, μ, g3, fp3, ⟨sr3, s3.go, (fun a h => s3.new a (b3 a h)), s3.lb, wipe_pin (pin_or hpn' hz') (hw _ fun _ h => h) s3.pin⟩, ?_⟩
            cases e : evSs Φ ss ρ1 μ with
            | bad => rw [e] at ok; exact ok
            | rt o μ2 => rw [e] at ok; exact ok
            | er c fs ρ2 μ2 => rw [e] at ok; exact ok
            | bk ρ2 μ2 => rw [e] at ok; exact fun g' H' σ' fp' s' => ok g' H' σ' fp' s'
            | nx ρ2 μ2 => rw [e] at ok; exact fun g' H' σ' fp' s' => ⟨ρ2, μ2, g', fp', s', ok⟩
            | ct ρ2 μ2 => rw [e] at ok; exact fun g' H' σ' fp' s' => ⟨ρ2, μ2, g', fp', s', ok⟩
        · rintro σ H2 ⟨ρ, μ, g2, fp, s2, ok⟩
          rw [List.drop_length] at ok
          exact ok g2 H2 σ fp s2
      · exact ok.elim
    · exact ok.elim
/-- one's own turned into a common cell -/
theorem ST.cel {Γ : Env1} {pn : List (Nat × V)} {gb g0 g : Gh} {H0 H : Hp} {μ : List O} {ρ : List Sl} {σ : L2.St} {fp : List Addr} {i : Nat} (s : ST Γ pn gb g0 H0 g μ H ρ σ fp) {o : O} (e : ρ[i]? = some (.ow o)) (ho : ∀ v f, Ow Γ g H o v f → ∃ a, v = .ref a) : ∃ g2 fp2, ST Γ pn gb g0 H0 g2 (μ ++ [o]) H (ρ.set i (.va (.cell μ.length))) σ fp2 := by
  obtain ⟨xv, f, f', e1, ⟨v0, rfl, ow0⟩, pm, up⟩ := s.sr.env.split e
  obtain ⟨nf, nf', ndis⟩ := List.nodup_append.mp (pm.nodup_iff.mp s.sr.nd)
  have subf : ∀ a ∈ f, a ∈ fp := fun a ha => pm.mem_iff.mpr (List.mem_append_left _ ha)
  have sub' : ∀ a ∈ f', a ∈ fp := fun a ha => pm.mem_iff.mpr (List.mem_append_right _ ha)
  obtain ⟨a, rfl⟩ := ho _ _ ow0
  have le : Le g { F := g.F, rt := g.rt ++ [a], G := g.G ++ f } := ⟨Same.refl _, fun n x h => by
    show (g.rt ++ [a])[n]? = some x
    rw [List.getElem?_append_left (List.getElem?_eq_some_iff.mp h).1]
    exact h⟩
  have cl : Cl Γ { F := g.F, rt := g.rt ++ [a], G := g.G ++ f } H (μ ++ [o]) := ⟨by
    show Ows Γ _ H (μ ++ [o]) ((g.rt ++ [a]).map V.ref) (g.G ++ f)
    rw [List.map_append]
    exact ows_snocO (Ow.le le _ _ _ ow0 (fun _ _ _ h => h)) (Ows.le le _ _ _ s.sr.cl.own (fun _ _ _ h => h)), nodup_app s.sr.cl.nd nf (fun b hb => (s.sr.ap b (subf b hb)).2), fun b hb => (List.mem_append.mp hb).elim (s.sr.cl.fr b) fun z => (s.sr.ap b (subf b z)).1⟩
  have hlen : μ.length = g.rt.length := by
    have := ows_len s.sr.cl.own
    rw [List.length_map] at this
    exact this
  obtain ⟨fp2, q2, p2⟩ := up _ H (.va (.cell μ.length)) (some (.ref a)) [] le (fun _ _ _ h => h) ⟨rfl, .ref a, rfl, by
    simp only [Rp]
    refine ⟨a, rfl, ?_⟩
    rw [hlen, List.getElem?_append_right (Nat.le_refl _)]
    simp⟩
  have es : σ.set i (some (.ref a)) = σ := by
    have hi : i < σ.length := (List.getElem?_eq_some_iff.mp e1).1
    have := (List.getElem?_eq_some_iff.mp e1).2
    rw [← this, List.set_getElem_self hi]
  rw [es] at q2
  rw [List.nil_append] at p2
  refine ⟨{ F := g.F, rt := g.rt ++ [a], G := g.G ++ f }, fp2, ⟨s.sr.F, cl, q2, p2.nodup_iff.mpr nf', fun b hb => ?_⟩, ⟨s.go.le.trans le, s.go.keep, s.go.there, s.go.gF, fun x hx => ?_, s.sr.F, cl⟩, fun b hb => s.new b (sub' b (p2.mem_iff.mp hb)), s.lb.trans le, s.pin⟩
  · have hb' := p2.mem_iff.mp hb
    obtain ⟨h1, h2⟩ := s.sr.ap b (sub' b hb')
    refine ⟨h1, fun z => ?_⟩
    rcases List.mem_append.mp z with z | z
    · exact h2 z
    · exact ndis b z b hb' rfl
  · rcases List.mem_append.mp hx with y | y
    · exact s.go.gG x y
    · exact s.new x (subf x y)
theorem ss_celN {i : Nat} {ss : List S} {sts : List Stmt} (h : PSs X sts (RSs X z W Φ ss)) : PSs X sts (RSs X z W Φ (.celN i :: ss)) := PSs.imp h fun D σ H hh => by
  obtain ⟨pn, gb, g0, H0, hpn, ρ, μ, g, fp, s, ok⟩ := hh
  have ok : FlOk (gm X) W pn gb g0 H0 D ((match ρ[i]? with
    | some (.ow (.ol l)) => Fl.nx (ρ.set i (.va (.cell μ.length))) (μ ++ [O.ol l])
    | some (.ow (.oi c ns fs)) => .nx (ρ.set i (.va (.cell μ.length))) (μ ++ [O.oi c ns fs])
    | _ => .bad).then (evSs Φ ss)) := ok
  split at ok
  · rename_i l e
    obtain ⟨g2, fp2, s2⟩ := s.cel e fun v f (h : Ow (gm X) g H (O.ol l) v f) => by
      simp only [Ow] at h
      obtain ⟨a, _, _, rfl, _⟩ := h
      exact ⟨a, rfl⟩
    exact ⟨pn, gb, g0, H0, hpn, _, _, g2, fp2, s2, ok⟩
  · rename_i c ns fs e
    obtain ⟨g2, fp2, s2⟩ := s.cel e fun v f (h : Ow (gm X) g H (O.oi c ns fs) v f) => by
      simp only [Ow] at h
      obtain ⟨a, _, _, _, rfl, _⟩ := h
      exact ⟨a, rfl⟩
    exact ⟨pn, gb, g0, H0, hpn, _, _, g2, fp2, s2, ok⟩
  · exact ok.elim
theorem cutV_last (l : List V) : cutV l none (some (-1)) = l.dropLast := by
  unfold cutV
  have h1 : HT.sIx l.length 0 none = 0 := rfl
  have h2 : HT.sIx l.length l.length (some (-1)) = l.length - 1 := by
    show (if (-1 : Int) < 0 then ((-1 : Int) + (l.length : Int)).toNat else (if (-1 : Int) < (l.length : Int) then (-1 : Int).toNat else l.length)) = _
    rw [if_pos (by omega)]
    omega
  rw [h1, h2, List.drop_zero, Nat.sub_zero, List.dropLast_eq_take]
/-- all but the last item -/
theorem ows_front {Γ : Env1} {g : Gh} {H : Hp} {l : List O} {vs : List V} {fp : List Addr} (h : Ows Γ g H l vs fp) (nd : fp.Nodup) : ∃ fp2, Ows Γ g H l.dropLast vs.dropLast fp2 ∧ (∀ b ∈ fp2, b ∈ fp) ∧ fp2.Nodup := by
  have hl := ows_len h
  cases l with
  | nil =>
    simp only [Ows] at h
    obtain ⟨rfl, rfl⟩ := h
    exact ⟨[], by simp only [List.dropLast_nil, Ows]; exact ⟨trivial, trivial⟩, fun _ h => h, .nil⟩
  | cons o l =>
    obtain ⟨f1, f2, f3, rfl, k⟩ := ows_del ((o :: l).length - 1) h (by simp)
    obtain ⟨m1, m2, m3⟩ := List.nodup_append.mp nd
    obtain ⟨m4, m5, m6⟩ := List.nodup_append.mp m2
    refine ⟨f1 ++ f3, ?_, fun b hb => ?_, List.nodup_append.mpr ⟨m1, m5, fun x hx y hy => m3 x hx y (List.mem_append_right _ hy)⟩⟩
    · rw [dropLast_erase (o :: l), dropLast_erase vs, ← hl]
      exact k
    · rcases List.mem_append.mp hb with hb | hb
      · exact List.mem_append_left _ hb
      · exact List.mem_append_right _ (List.mem_append_right _ hb)
theorem ST.swap {Γ : Env1} {pn : List (Nat × V)} {gb g0 g : Gh} {H0 H : Hp} {μ : List O} {ρ : List Sl} {σ : L2.St} {fp : List Addr} {i : Nat} (s : ST Γ pn gb g0 H0 g μ H ρ σ fp) {o : O} (e : ρ[i]? = some (.ow o)) (hz : ∀ q ∈ pn, q.1 ≠ i) : ∃ v f, σ[i]? = some (some v) ∧ Ow Γ g H o v f ∧ f.Nodup ∧ (∀ b ∈ f, b ∈ fp) ∧
    ∀ (g2 : Gh) (μ2 : List O) (H2 : Hp) (o2 : O) (v2 : V) (f2 : List Addr), Go Γ g H g2 μ2 H2 → Ow Γ g2 H2 o2 v2 f2 → f2.Nodup → (∀ b ∈ f2, b ∈ f ∨ Nw g H b) → (∀ b ∈ f2, g2.F b = none ∧ b ∉ g2.G) → ∃ fp', ST Γ pn gb g0 H0 g2 μ2 H2 (ρ.set i (.ow o2)) (σ.set i (some v2)) fp' := by
  obtain ⟨x, f, f', e1, ⟨v, rfl, ow⟩, p, up⟩ := s.sr.env.split e
  obtain ⟨nf, nf', dis⟩ := List.nodup_append.mp (p.nodup_iff.mp s.sr.nd)
  have subf : ∀ b ∈ f, b ∈ fp := fun b hb => p.mem_iff.mpr (List.mem_append_left _ hb)
  have sub' : ∀ b ∈ f', b ∈ fp := fun b hb => p.mem_iff.mpr (List.mem_append_right _ hb)
  refine ⟨v, f, e1, ow, nf, subf, fun g2 μ2 H2 o2 v2 f2 G ow2 nd2 sub2 ap2 => ?_⟩
  obtain ⟨fp2, q2, p2⟩ := up g2 H2 (.ow o2) (some v2) f2 G.le (fun b hb => (G.keepAt s.sr) b (sub' b hb)) ⟨v2, rfl, ow2⟩
  have s2 := s.to G
  have hs : ∀ b ∈ fp2, b ∈ f2 ∨ b ∈ f' := fun b hb => List.mem_append.mp (p2.mem_iff.mp hb)
  have nw : ∀ b ∈ f2, Nw g0 H0 b := fun b hb => (sub2 b hb).elim (fun z => s.new b (subf b z)) fun z => s.go.nw z
  refine ⟨fp2, ⟨s2.sr.F, s2.sr.cl, q2, p2.nodup_iff.mpr (List.nodup_append.mpr ⟨nd2, nf', fun a ha b hb eab => ?_⟩), fun b hb => (hs b hb).elim (ap2 b) fun z => s2.sr.ap b (sub' b z)⟩, s2.go, fun b hb => (hs b hb).elim (nw b) fun z => s.new b (sub' b z), s2.lb, set_pin hz s2.pin⟩
  subst eab
  rcases sub2 a ha with z | z
  · exact dis a z a hb rfl
  · obtain ⟨u, eu⟩ := s.sr.env.there a (sub' a hb)
    exact z.no eu (s.sr.ap a (sub' a hb)).2
theorem st_cutL (c : At X ck Φ W) {i : Nat} {x : Str} {p1 p2 p3 p4 p5 : Pos} {j : Nat} (hz : ∀ j ∈ z, j ≠ i) (hv : ck.vis i x = true) (hg : PG X q (gName i)) (hs : noStar q = true) :
    PS X (.Assign [q] (.Subscript (.Name x p1) (.Slice none (some (.UnaryOp .USub (.Constant (.int 1) j p2) p3)) none p4) p5) pos) (RS X z W Φ (.cutL i)) := by
  refine PS.imp (ps_asg (pe_slice sl_list (c.pv hv) po_none (po_some (pe_un un_neg pe_int))) hg (sole_no rfl) (stores_no (.inl rfl)) (asg_one hs)) fun D σ H h => ?_
  obtain ⟨pn, gb, g0, H0, hpn, ρ, μ, g, fp, s, ok⟩ := h
  have ok : FlOk (gm X) W pn gb g0 H0 D (match ownL ρ i with
    | some l => .nx (ρ.set i (.ow (.ol l.dropLast))) μ
    | none => .bad) := ok
  split at ok
  · rename_i l e0
    have hi := ownL_at e0
    obtain ⟨v, f, e1, ow, nf, subf, k⟩ := s.swap hi (pin_or hpn hz)
    simp only [Ow] at ow
    obtain ⟨a, vs, fp1, rfl, rfl, ha, ows⟩ := ow
    obtain ⟨n0, n1⟩ := List.nodup_cons.mp nf
    refine ⟨.ref a, e1, _, rfl, _, rfl, a, vs, rfl, SqL.of ha, fun p np => ?_⟩
    rw [cutV_last]
    obtain ⟨fp2, k1, k2, k3⟩ := ows_front ows n1
    have G := Got.ol s.sr.F s.sr.cl np k1 k3 (fun b hb => s.sr.ap b (subf b (List.mem_cons_of_mem _ (k2 b hb)))) (go_less (f' := a :: fp1) s.sr.F s.sr.cl) (fun b hb => .inl (List.mem_append_right _ (List.mem_cons_of_mem _ (k2 b hb))))
    obtain ⟨fp3, s3⟩ := k g μ _ (.ol l.dropLast) (.ref p) (p :: fp2) (Go.made s.sr.F s.sr.cl np) G.ow G.nd (fun b hb => by
      rcases List.mem_cons.mp hb with rfl | hb
      · exact .inr (.inr np)
      · exact .inl (List.mem_cons_of_mem _ (k2 b hb))) G.ap
    exact ok _ _ _ fp3 s3
  · exact ok.elim
theorem st_retC (c : At X ck Φ W) {i : Nat} {x : Str} {p1 p2 p3 p4 p5 : Pos} {j : Nat} (hv : ck.vis i x = true) :
    PS X (.Return (some (.Subscript (.Name x p1) (.Slice none (some (.UnaryOp .USub (.Constant (.int 1) j p2) p3)) none p4) p5)) pos) (RS X z W Φ (.retC i)) := by
  refine PS.imp (ps_ret (pe_slice sl_list (c.pv hv) po_none (po_some (pe_un un_neg pe_int)))) fun D σ H h => ?_
  obtain ⟨pn, gb, g0, H0, hpn, ρ, μ, g, fp, s, ok⟩ := h
  have ok : FlOk (gm X) W pn gb g0 H0 D (match ownL ρ i with
    | some l => .rt (.ol l.dropLast) μ
    | none => .bad) := ok
  split at ok
  · rename_i l e0
    have hi := ownL_at e0
    obtain ⟨v, f, e1, ow, nf, subf, _⟩ := s.wr2 hi
    simp only [Ow] at ow
    obtain ⟨a, vs, fp1, rfl, rfl, ha, ows⟩ := ow
    obtain ⟨n0, n1⟩ := List.nodup_cons.mp nf
    refine ⟨.ref a, e1, _, rfl, _, rfl, a, vs, rfl, SqL.of ha, fun p np => ?_⟩
    rw [cutV_last]
    obtain ⟨fp2, k1, k2, k3⟩ := ows_front ows n1
    exact ok _ _ _ _ (Got.ol s.sr.F s.sr.cl np k1 k3 (fun b hb => s.sr.ap b (subf b (List.mem_cons_of_mem _ (k2 b hb)))) s.go fun b hb => s.new b (subf b (List.mem_cons_of_mem _ (k2 b hb))))
  · exact ok.elim
end
end MP
/-! MPS -/
set_option Elab.async false
set_option linter.all false
set_option maxRecDepth 100000
set_option maxHeartbeats 1000000
/-! MPS: tuples of one's own, handed back and unpacked. -/
namespace MP
open PySem PySem.Spec PyProof.Rows L2
section
variable {Γ : Env1} {g g0 gb g' : Gh} {H H0 H' : Hp} {μ μ' : List O} {ρ : List Sl} {σ : L2.St} {fp : List Addr} {pn : List (Nat × V)}
/-- something of one's own, apart from what the names have, put under a name -/
theorem ST.give (s : ST Γ pn gb g0 H0 g μ H ρ σ fp) {i : Nat} (hz : ∀ q ∈ pn, q.1 ≠ i) {x : Sl} {v : V} {f : List Addr} (r : SlotR Γ g H x (some v) f) (nd : f.Nodup) (dis : ∀ a ∈ f, a ∉ fp) (new : ∀ a ∈ f, Nw g0 H0 a) (ap : ∀ a ∈ f, g.F a = none ∧ a ∉ g.G) :
    ∃ fp', ST Γ pn gb g0 H0 g μ H (ρ.set i x) (σ.set i (some v)) fp' ∧ ∀ a ∈ fp', a ∈ fp ∨ a ∈ f := by
  by_cases hi : i < ρ.length
  · obtain ⟨y, f1, f', e1, r', p, u⟩ := s.sr.env.split (i := i) (s := ρ[i]) (by simp [hi])
    obtain ⟨fp2, q2, p2⟩ := u g H x (some v) f (Le.refl _) (fun _ _ _ h => h) r
    have sub : ∀ a ∈ f', a ∈ fp := fun a ha => p.mem_iff.mpr (List.mem_append_right _ ha)
    have hs : ∀ a ∈ fp2, a ∈ f ∨ a ∈ f' := fun a ha => List.mem_append.mp (p2.mem_iff.mp ha)
    refine ⟨fp2, ⟨⟨s.sr.F, s.sr.cl, q2, p2.nodup_iff.mpr (List.nodup_append.mpr ⟨nd, (List.nodup_append.mp (p.nodup_iff.mp s.sr.nd)).2.1, fun a ha b hb e => ?_⟩), fun a ha => ?_⟩, s.go, fun a ha => ?_, s.lb, set_pin hz s.pin⟩, fun a ha => ?_⟩
    · subst e
      exact dis a ha (sub a hb)
    · exact (hs a ha).elim (ap a) fun z => s.sr.ap a (sub a z)
    · exact (hs a ha).elim (new a) fun z => s.new a (sub a z)
    · exact (hs a ha).elim .inr fun z => .inl (sub a z)
  · rw [set_long (by omega), set_long (by have := s.sr.env.len; omega)]
    exact ⟨fp, ⟨s.sr, s.go, s.new, s.lb, s.pin⟩, fun _ h => .inl h⟩
/-- what stands under a name, taken away -/
theorem SR.away (s : SR Γ g μ H ρ σ fp) {i : Nat} {o : O} (e : ρ[i]? = some (.ow o)) : ∃ v f fp', σ[i]? = some (some v) ∧ Ow Γ g H o v f ∧ f.Nodup ∧ (∀ a ∈ f, a ∈ fp) ∧ (∀ a ∈ fp', a ∈ fp) ∧ (∀ a ∈ f, a ∉ fp') ∧ SR Γ g μ H (ρ.set i .no) σ fp' := by
  obtain ⟨x, f, f', e1, ⟨v, rfl, ow⟩, p, up⟩ := s.env.split e
  obtain ⟨nf, nf', dis⟩ := List.nodup_append.mp (p.nodup_iff.mp s.nd)
  obtain ⟨fp2, q2, p2⟩ := up g H .no (some v) [] (Le.refl _) (fun _ _ _ h => h) rfl
  have es : σ.set i (some v) = σ := by
    have hi : i < σ.length := (List.getElem?_eq_some_iff.mp e1).1
    have := (List.getElem?_eq_some_iff.mp e1).2
    rw [← this, List.set_getElem_self hi]
  rw [es] at q2
  rw [List.nil_append] at p2
  have sub' : ∀ a ∈ fp2, a ∈ f' := fun a ha => p2.mem_iff.mp ha
  have inp : ∀ a ∈ f', a ∈ fp := fun a ha => p.mem_iff.mpr (List.mem_append_right _ ha)
  exact ⟨v, f, fp2, e1, ow, nf, fun a ha => p.mem_iff.mpr (List.mem_append_left _ ha), fun a ha => inp a (sub' a ha), fun a ha z => dis a ha a (sub' a z) rfl, s.F, s.cl, q2, p2.nodup_iff.mpr nf', fun a ha => s.ap a (inp a (sub' a ha))⟩
/-- what the parts of a tuple to be handed back come to -/
structure GotT (Γ : Env1) (g : Gh) (H : Hp) (fp : List Addr) (g' : Gh) (μ' : List O) (H' : Hp) (os : List O) (vs : List V) (fo : List Addr) : Prop where
  go : Go Γ g H g' μ' H'
  ow : Ows Γ g' H' os vs fo
  nd : fo.Nodup
  new : ∀ a ∈ fo, Nw g H a ∨ a ∈ fp
  ap : ∀ a ∈ fo, g'.F a = none ∧ a ∉ g'.G
def RdRT (Γ : Env1) (W : WX) (Φ : Fns) (l : List (Nat ⊕ E)) : TA := fun σ H Q => ∃ ρ μ g fp, SR Γ g μ H ρ σ fp ∧ ErOk Γ W σ g H (evRT Φ l ρ μ) ∧ ∀ o μ', evRT Φ l ρ μ = .ok o μ' → ∀ g' H' v fo, GotT Γ g H fp g' μ' H' o v fo → Q v H'
end
section
variable {X : Cx} {ck : Ck} {Φ : Fns} {W : WX} {pos pos' : Pos} {p q r u : Expr} {a b d e : E} {es : List E} {ps : List Expr} {z : List Nat} {i : Nat}
theorem rt_nil : PA X [] (RdRT (gm X) W Φ []) := PA.imp pa_nil fun σ H Q h => by
  obtain ⟨ρ, μ, g, fp, sr, er, ok⟩ := h
  exact ok [] μ rfl g H [] [] ⟨Go.refl sr.F sr.cl, by simp only [Ows]; exact ⟨trivial, trivial⟩, .nil, (fun _ h => by cases h), (fun _ h => by cases h)⟩
theorem rt_ex {l : List (Nat ⊕ E)} (hs : noStar p = true) (ha : PE X p (RE X W Φ a)) (hr : PA X ps (RdRT (gm X) W Φ l)) : PA X (p :: ps) (RdRT (gm X) W Φ (.inr a :: l)) := PA.imp (pa_cons ha hr (star_cons hs)) fun σ H Q h => by
  obtain ⟨ρ, μ, g, fp, sr, er, ok⟩ := h
  have er : ErOk (gm X) W σ g H ((evE Φ a ρ μ).bind fun x μ1 => (evRT Φ l ρ μ1).bind fun xs μ2 => .ok (x :: xs) μ2) := er
  have ok : ∀ o μ', ((evE Φ a ρ μ).bind fun x μ1 => (evRT Φ l ρ μ1).bind fun xs μ2 => .ok (x :: xs) μ2) = .ok o μ' → ∀ g' H' v fo, GotT (gm X) g H fp g' μ' H' o v fo → Q v H' := ok
  refine ⟨ρ, μ, g, fp, sr, er.of_bind, fun x μ1 e1 g1 H1 v fo G => ?_⟩
  have er1 := ErOk.bind_to er e1 G.go
  rw [e1, Rs.bind_ok] at ok
  refine ⟨ρ, μ1, g1, fp, sr.go G.go, er1.of_bind, fun xs μ2 e2 g2 H2 vs fo' G2 => ?_⟩
  rw [e2, Rs.bind_ok] at ok
  have kp : KeepAt H1 H2 fo := fun b hb u e => G2.go.keep b u e (G.ap b hb).2
  refine ok _ _ rfl g2 H2 _ (fo ++ fo') ⟨G.go.trans G2.go, by simp only [Ows]; exact ⟨v, vs, fo, fo', rfl, rfl, Ow.le G2.go.le _ _ _ G.ow kp, G2.ow⟩, List.nodup_append.mpr ⟨G.nd, G2.nd, fun x hx y hy exy => ?_⟩, fun b hb => ?_, fun b hb => ?_⟩
  · subst exy
    obtain ⟨w, hw⟩ := Ow.there _ _ _ G.ow x hx
    rcases G2.new x hy with h | h
    · exact h.no hw (G.ap x hx).2
    · obtain ⟨w2, hw2⟩ := sr.env.there x h
      exact (G.new x hx).no hw2 (sr.ap x h).2
  · rcases List.mem_append.mp hb with hb | hb
    · exact .inl (G.new b hb)
    · exact (G2.new b hb).elim (fun h => .inl (G.go.nw h)) .inr
  · rcases List.mem_append.mp hb with hb | hb
    · obtain ⟨w, hw⟩ := Ow.there _ _ _ G.ow b hb
      exact ap_keep G2.go hw (G.ap b hb)
    · exact G2.ap b hb
theorem rt_own (c : At X ck Φ W) {x : Str} {l : List (Nat ⊕ E)} (h : ck.vis i x = true) (hr : PA X ps (RdRT (gm X) W Φ l)) : PA X (.Name x pos' :: ps) (RdRT (gm X) W Φ (.inl i :: l)) := PA.imp (pa_cons (c.pv h) hr (star_cons rfl)) fun σ H Q hh => by
  obtain ⟨ρ, μ, g, fp, sr, er, ok⟩ := hh
  have er : ErOk (gm X) W σ g H (match ρ[i]? with
    | some (.ow o) => (evRT Φ l (ρ.set i .no) μ).bind fun xs μ1 => .ok (o :: xs) μ1
    | _ => .bad) := er
  have ok : ∀ o μ', (match ρ[i]? with
    | some (.ow o) => (evRT Φ l (ρ.set i .no) μ).bind fun xs μ1 => .ok (o :: xs) μ1
    | _ => .bad) = .ok o μ' → ∀ g' H' v fo, GotT (gm X) g H fp g' μ' H' o v fo → Q v H' := ok
  split at er
  · rename_i o e
    simp only [e] at ok
    obtain ⟨v, f, fp', e1, ow, nf, sub, sub', dis, sr'⟩ := sr.away e
    refine ⟨v, e1, ρ.set i .no, μ, g, fp', sr', er.of_bind, fun xs μ2 e2 g2 H2 vs fo' G2 => ?_⟩
    rw [e2, Rs.bind_ok] at ok
    have kp : KeepAt H H2 f := fun b hb u e => G2.go.keep b u e (sr.ap b (sub b hb)).2
    refine ok _ _ rfl g2 H2 _ (f ++ fo') ⟨G2.go, by simp only [Ows]; exact ⟨v, vs, f, fo', rfl, rfl, Ow.le G2.go.le _ _ _ ow kp, G2.ow⟩, List.nodup_append.mpr ⟨nf, G2.nd, fun x hx y hy exy => ?_⟩, fun b hb => ?_, fun b hb => ?_⟩
    · subst exy
      obtain ⟨w, hw⟩ := sr.env.there x (sub x hx)
      rcases G2.new x hy with h | h
      · exact h.no hw (sr.ap x (sub x hx)).2
      · exact dis x hx h
    · rcases List.mem_append.mp hb with hb | hb
      · exact .inr (sub b hb)
      · exact (G2.new b hb).elim .inl fun h => .inr (sub' b h)
    · rcases List.mem_append.mp hb with hb | hb
      · obtain ⟨w, hw⟩ := sr.env.there b (sub b hb)
        exact ap_keep G2.go hw (sr.ap b (sub b hb))
      · exact G2.ap b hb
  · exact er.elim
theorem st_retT {k : Nat} {l : List (Nat ⊕ E)} (ha : PA X ps (RdRT (gm X) W Φ l)) : PS X (.Return (some (.Tuple ps k pos')) pos) (RS X z W Φ (.retT l)) := PS.imp (ps_ret (pe_tup ha)) fun D σ H hh => by
  obtain ⟨pn, gb, g0, H0, hpn, ρ, μ, g, fp, s, ok⟩ := hh
  have ok : FlOk (gm X) W pn gb g0 H0 D ((evRT Φ l ρ μ).go ρ fun xs μ1 => if xs.length ≤ LIM then .rt (.ot xs) μ1 else .bad) := ok
  refine ⟨ρ, μ, g, fp, s.sr, ?_, fun xs μ1 e1 g1 H1 vs fo G => ?_⟩
  · cases e : evRT Φ l ρ μ with
    | bad => rw [e] at ok; exact ok
    | ok o μ1 => trivial
    | er c fs μ1 =>
      rw [e] at ok
      exact fun g' H' cls d G x => ok g' H' σ fp cls d (s.to G) x
  · rw [e1] at ok
    have ok : FlOk (gm X) W pn gb g0 H0 D (if xs.length ≤ LIM then .rt (.ot xs) μ1 else .bad) := ok
    by_cases hl : xs.length ≤ LIM
    · rw [if_pos hl] at ok
      refine ⟨by rw [← ows_len G.ow, ← LIM_eq]; exact hl, fun p np => ?_⟩
      have L := Go.laid (u := .tup vs) G.go.F G.go.cl np
      have nep : ∀ b ∈ fo, b ≠ p := fun b hb z => by
        obtain ⟨w, hw⟩ := Ows.there _ _ _ G.ow b hb
        rw [z, np] at hw
        cases hw
      refine ok _ _ _ fo ⟨(s.go.trans G.go).trans L, ?_, G.nd, fun b hb => ?_, fun b hb => ?_⟩
      · simp only [Ow]
        refine ⟨p, vs, rfl, ?_, Ows.le L.le _ _ _ G.ow fun b hb u e => ?_⟩
        · exact upd_same
        · rw [upd_ne (nep b hb)]; exact e
      · rcases G.new b hb with h | h
        · exact s.go.nw h
        · exact s.new b h
      · obtain ⟨w, hw⟩ := Ows.there _ _ _ G.ow b hb
        exact ap_keep L hw (G.ap b hb)
    · rw [if_neg hl] at ok
      exact ok.elim
/-- a tuple of one's own unpacked -/
theorem gTs_own {pn : List (Nat × V)} {gb g0 g : Gh} {H0 H : Hp} {μ : List O} : ∀ (is : List Nat) (os : List O) (vs : List V) (f : List Addr) (ρ : List Sl) (σ : L2.St) (fp : List Addr) (R : L2.St → Hp → Prop), ST (gm X) pn gb g0 H0 g μ H ρ σ fp → Ows (gm X) g H os vs f → f.Nodup → (∀ a ∈ f, a ∉ fp) → (∀ a ∈ f, Nw g0 H0 a) → (∀ a ∈ f, g.F a = none ∧ a ∉ g.G) → is.length = os.length → (∀ q ∈ pn, q.1 ∉ is) →
    (∀ σ' fp', ST (gm X) pn gb g0 H0 g μ H (putSl is os ρ) σ' fp' → R σ' H) → gTs (gm X).K (is.map .nm) vs σ H R
  | [], [], vs, f, ρ, σ, fp, R, s, ow, nd, dis, new, ap, hl, hp, k => by
    simp only [Ows] at ow
    simp only [List.map_nil, gTs]
    exact ⟨ow.1, k σ fp s⟩
  | [], o :: os, vs, f, ρ, σ, fp, R, s, ow, nd, dis, new, ap, hl, hp, k => by cases hl
  | i :: is, [], vs, f, ρ, σ, fp, R, s, ow, nd, dis, new, ap, hl, hp, k => by cases hl
  | i :: is, o :: os, vs, f, ρ, σ, fp, R, s, ow, nd, dis, new, ap, hl, hp, k => by
    simp only [Ows] at ow
    obtain ⟨v, vs', f1, f2, rfl, rfl, ow1, ow2⟩ := ow
    obtain ⟨n1, n2, n12⟩ := List.nodup_append.mp nd
    have hsl : SlotR (gm X) g H (slotO o) (some v) f1 := by
      unfold slotO
      split
      · simp only [Ow] at ow1
        exact ⟨ow1.1, v, rfl, ow1.2⟩
      · exact ⟨v, rfl, ow1⟩
    obtain ⟨fp2, s2, b2⟩ := s.give (i := i) (fun q hq z => hp q hq (by rw [z]; exact List.mem_cons_self)) hsl n1 (fun a ha => dis a (List.mem_append_left _ ha)) (fun a ha => new a (List.mem_append_left _ ha)) (fun a ha => ap a (List.mem_append_left _ ha))
    simp only [List.map_cons, gTs]
    refine ⟨v, vs', rfl, ?_⟩
    simp only [gT]
    exact gTs_own is os vs' f2 _ _ fp2 R s2 ow2 n2 (fun a ha z => (b2 a z).elim (dis a (List.mem_append_right _ ha)) fun y => n12 a y a ha rfl) (fun a ha => new a (List.mem_append_right _ ha)) (fun a ha => ap a (List.mem_append_right _ ha)) (by simpa using hl) (fun q hq z => hp q hq (List.mem_cons_of_mem _ z)) k
theorem st_unpT (c : At X ck Φ W) {x : Str} {is : List Nat} (hz : ∀ j ∈ z, j ∉ is) (hv : ck.vis i x = true) (hg : PG X q (gT X.K (.tp (is.map .nm)))) (hs : noStar q = true) : PS X (.Assign [q] (.Name x pos') pos) (RS X z W Φ (.unpT is i)) := by
  refine PS.imp (ps_asg (c.pv hv) hg (sole_no rfl) (stores_no (.inl rfl)) (asg_one hs)) fun D σ H h => ?_
  obtain ⟨pn, gb, g0, H0, hpn, ρ, μ, g, fp, s, ok⟩ := h
  have ok : FlOk (gm X) W pn gb g0 H0 D (match ownT ρ i with
    | some l => if is.length = l.length ∧ (i :: is).Nodup then .nx (putSl is l (ρ.set i .no)) μ else .bad
    | none => .bad) := ok
  split at ok
  · rename_i l e0
    split at ok
    · rename_i hc
      have hi : ρ[i]? = some (.ow (.ot l)) := by
        unfold ownT at e0
        split at e0
        · rename_i l' e
          cases e0
          exact e
        · cases e0
      obtain ⟨v, f, fp', e1, ow, nf, sub, sub', dis, sr'⟩ := s.sr.away hi
      simp only [Ow] at ow
      obtain ⟨a, vs, rfl, hF, ows⟩ := ow
      have s' : ST (gm X) pn gb g0 H0 g μ H (ρ.set i .no) σ fp' := ⟨sr', s.go, fun b hb => s.new b (sub' b hb), s.lb, s.pin⟩
      refine ⟨.ref a, e1, ?_⟩
      simp only [gT]
      refine .inl ⟨a, vs, rfl, SqT.of (s.sr.F a _ hF), by rw [← ows_len ows, List.length_map]; exact hc.1.symm, ?_⟩
      exact gTs_own is l vs f _ σ fp' _ s' ows nf dis (fun b hb => s.new b (sub b hb)) (fun b hb => s.sr.ap b (sub b hb)) hc.1 (fun q hq => hz _ (hpn q hq)) fun σ' fp'' st => ok g H σ' fp'' st
    · exact ok.elim
  · exact ok.elim
end
end MP
/-! MPI -/
set_option Elab.async false
set_option linter.all false
set_option maxRecDepth 100000
set_option maxHeartbeats 1000000
/-! MPI: a loop over the items of a dict whose keys are tuples; cells taken back. -/
namespace MP
open PySem PySem.Spec PyProof.Rows L2
section
variable {P : Program} {w : World} {K : PySem.W.Frag} {d : Addr} {o : Obj} {es : Array DictEntry} {ep : Nat}
theorem Inv.frzN {X : Cx} {pins : List (Addr × Obj)} {σ : L2.St} {H : Hp} {s : Shared} {xs : List (NestedKey × Addr × Value)} (I : Inv X pins σ H s) (h : H d = some (.frz o (ndict X.prog X.w d xs))) :
    s.heap.get? d = some o ∧ ∃ es ep, o.data = .dict es ep ∧ es.size = xs.length ∧ s.heap.DictRaw d es ep ∧ ∀ (i : Nat) (hi : i < es.size), ∃ y, xs[i]? = some y ∧ es[i].key = .ref y.2.1 ∧ es[i].val = y.2.2 := by
  obtain ⟨hg, ⟨o', es, ep, h1, h2, h3, h4, h5⟩, _⟩ := I.hok d _ h
  rw [hg] at h1
  cases h1
  have hs : es.size = xs.length := by
    have := congrArg List.length h4
    rw [List.length_map, Array.length_toList] at this
    exact this
  refine ⟨hg, es, ep, h3, hs, ⟨o, hg, h2, h3⟩, fun i hi => ?_⟩
  have hx : i < xs.length := hs ▸ hi
  have e : es.toList[i]? = (xs.map (entryOfKey (nestedKind X.prog X.w)))[i]? := by rw [h4]
  rw [List.getElem?_map, List.getElem?_eq_getElem hx, Option.map_some, Array.getElem?_toList, Array.getElem?_eq_getElem hi] at e
  have e' := Option.some.inj e
  exact ⟨xs[i], List.getElem?_eq_getElem hx, by rw [e']; rfl, by rw [e']; rfl⟩
/-- the items, one by one: new pairs -/
def ItiN (P : Program) (w : World) (d : Addr) (o : Obj) (xs : List (NestedKey × Addr × Value)) (vv : List V) : It :=
  ⟨fun i H => H d = some (.frz o (ndict P w d xs)) ∧ i < xs.length, fun i H x H' => ∃ T y v, xs[i]? = some y ∧ vv[i]? = some v ∧ x = .ref T ∧ H T = none ∧ H' = upd H T (.tup [.ref y.2.1, v]), fun i H => H d = some (.frz o (ndict P w d xs)) ∧ xs.length ≤ i⟩
theorem turn_itemsN {xs : List (NestedKey × Addr × Value)} {vv : List V} (hv : Vals vv (xs.map (·.2.2))) {elts : List Expr} {kk : Nat} {tpos : Pos} (it : Addr) (hod : o.data = .dict es ep) :
    Turn P w K (.Tuple elts kk tpos) (ItiN P w d o xs vv) [it] it (fun i h => ∃ ok ov, IsItemIter h it d i xs.length ep ok ov) where
  mem := by simp
  obj := fun i h st b hb => by
    have e : b = it := by simpa using hb
    subst e
    obtain ⟨ok, ov, e⟩ := st
    exact ⟨_, e, fun v z => nomatch z⟩
  keep := fun i h h' st k => let ⟨ok, ov, e⟩ := st; ⟨ok, ov, k it (by simp) _ e⟩
  item := by
    intro X hP hw hK hc i pins s σ H E I hf st hg
    subst hP hw hK
    obtain ⟨hd, hi⟩ := hg
    obtain ⟨hgd, es', ep', hdt, hsz, hr, hm⟩ := Inv.frzN I hd
    obtain ⟨rfl, rfl⟩ := dict_ep hod hdt
    have hi' : i < es'.size := by rw [hsz]; exact hi
    obtain ⟨y, hy, ek, ev⟩ := hm i hi'
    obtain ⟨v, hvi, rv⟩ : ∃ v, vv[i]? = some v ∧ RelV v y.2.2 := by
      have hl := hv.length
      rw [List.length_map] at hl
      have hvl : i < vv.length := by rw [hl]; exact hi
      exact ⟨vv[i], List.getElem?_eq_getElem hvl, by
        have hq : (xs.map (·.2.2))[i]? = some y.2.2 := by rw [List.getElem?_map, hy]; rfl
        obtain ⟨u, hu, r⟩ := hv.get (List.getElem?_eq_getElem hvl)
        rw [hq] at hu
        cases hu
        exact r⟩
    obtain ⟨ok, ov, he⟩ := st
    rw [← hsz] at he
    have hlt : it < s.heap.objs.size := Heap.lt_size he
    refine wpAny_pyNext_items_item_raw he hr hi' fun h' ho hT hz hk => ?_
    refine ⟨_, rfl, wpAny_letOwnedTupleGo_items (s := { s with heap := h' }) ho fun h'' he' sb => ?_⟩
    have hT2 : h''.get? s.heap.objs.size = some { cls := .type "tuple", data := .seq #[es'[i].key, es'[i].val] } := (sb.2 _ (Nat.ne_of_gt hlt)).trans hT
    have new : ObjOk X.prog X.w (upd H s.heap.objs.size (.tup [.ref y.2.1, v])) h'' s.heap.objs.size (.tup [.ref y.2.1, v]) :=
      ⟨by show 2 ≤ sizeLine; decide, [es'[i].key, es'[i].val], .cons (show RelV (.ref y.2.1) es'[i].key from ek) (.cons (by rw [ev]; exact rv) .nil), ⟨_, hT2, rfl, _, rfl⟩⟩
    have I1 : Inv X pins σ (upd H s.heap.objs.size (.tup [.ref y.2.1, v])) { s with heap := h'' } :=
      I.turnedNew (t' := s.toks) (ch := [it]) (fun b ob hb e => (sb.2 b (by simpa using hb)).trans (hk b ob (by simpa using hb) e)) hf (Nat.le_refl _) new
    refine ⟨.ref s.heap.objs.size, _, I1, rfl, ⟨_, y, v, hy, hvi, rfl, I.hok.fresh (Nat.le_refl _), rfl⟩, ⟨es'[i].key, es'[i].val, ?_⟩, fun b hb => ?_⟩
    · rw [← hsz]; exact he'
    · have e : b = it := by simpa using hb
      rw [e, upd_ne (Nat.ne_of_lt hlt)]
      exact (hf it (by simp)).1
  done := by
    intro X hP hw hK hc i pins s σ H E I hf st hg
    subst hP hw hK
    obtain ⟨hd, hi⟩ := hg
    obtain ⟨f0, f1, f2, f3, f4, f5⟩ := hf it (by simp)
    obtain ⟨hgd, es', ep', hdt, hsz, hr, hm⟩ := Inv.frzN I hd
    obtain ⟨rfl, rfl⟩ := dict_ep hod hdt
    obtain ⟨ok, ov, he⟩ := st
    rw [← hsz] at he
    exact wpAny_pyNext_items_end_raw (I.ok.hd hc) he hr (by rw [hsz]; exact hi) fun h' eb => ⟨rfl, I.turned (t' := s.toks) (fun b ob hb e => eb b ob hb e) f0 f1 f3 f4 f5⟩
  self := fun A i s Q E st h => let ⟨_, _, e⟩ := st; PySem.W.kcp_self e h
def iItemsN (P : Program) (w : World) (td : TE) : TI := fun σ H R => td σ H fun x H1 => ∃ d o xs vv, x = .ref d ∧ (d == sysModules) = false ∧ H1 d = some (.frz o (ndict P w d xs)) ∧ Vals vv (xs.map (·.2.2)) ∧ R (ItiN P w d o xs vv) H1
end
section
variable {X : Cx} {e : Expr} {td : TE} {apos cpos : Pos}
theorem pi_itemsN {elts : List Expr} {kk : Nat} {tpos : Pos} (he : PE X e td) (hbase : attributeBase e "items" X.env (eval e X.env) = eval e X.env) (hline : (apos.endLine == cpos.line) = true) :
    PI X (.Tuple elts kk tpos) (.Call (.Attribute e "items" apos) [] [] cpos) (iItemsN X.prog X.w td) := by
  refine ⟨fun pins s σ H R I h => ?_⟩
  refine wpAny_Call_method (T := "dict") (id := "dict.items") hbase rfl hline F.plainAttrs_dict F.slot_dict_items F.type_dict_items (thn (he.run pins s σ H _ I h) fun u s1 ⟨x, H1, I1, rx, d, o, xs, vv, ex, hs, hd, hv, q⟩ => ?_)
  subst ex
  obtain rfl : u = Value.ref d := rx
  obtain ⟨hgd, es, ep, hdt, hsz, hr, hm⟩ := Inv.frzN I1 hd
  refine ⟨hr.typeIs, fun b eb => ?_, ?_⟩
  · cases eb
    obtain ⟨o', ho, hx, _⟩ := hr
    exact ⟨o', ho, hx.2.1⟩
  have I2 : Inv X pins σ H1 { s1 with heap := s1.heap.push { cls := .type "dict_items", data := .fields #[.ref d] } } := I1.kept (t' := s1.toks) fun b ob q => Heap.get?_push_of_some _ q
  have fin : wpAny (model X.prog X.w) X.A (pyIter (.ref s1.heap.objs.size)) (PIE X pins σ (.Tuple elts kk tpos) R) X.xe { s1 with heap := s1.heap.push { cls := .type "dict_items", data := .fields #[.ref d] } } := by
    refine wpAny_pyIter_items_raw (d := d) ⟨_, Heap.get?_push_size _ rfl, rfl, rfl⟩ (hr.at fun ob q => Heap.get?_push_of_some _ q) (pi_one (tk := s1.toks) I2 _ (turn_itemsN hv _ hdt) ⟨.none, .none, ?_⟩ q)
    rw [← hsz]
    exact Heap.get?_push_size _ rfl
  show wpAny _ _ (callWith cpos (.builtin "dict.items") [.ref d] [] []) _ X.xe s1
  exact method_meetsIn F.slot_dict_items F.entry_dict_items rfl (PySem.evalArgs_none ⟨rfl, hr.typeIs, F.args_dict_items_1 _, _, meets_dict_items_raw d hs, ⟨es, ep, hr⟩, fin⟩)
end
/-! ### a dict locked within the ghost -/
def dk : HO → Prop
  | .ext _ => True
  | .dK _ => True
  | _ => False
theorem dk_frz {o : Obj} {u : HO} (h : dk (.frz o u)) : False := h
/-- F and F' differ at d alone: there the one has a dict, the other one the dict locked -/
structure Sw (F F' : Hp) (d : Addr) : Prop where
  ne : ∀ a, a ≠ d → F' a = F a
  at_ : ∃ u od, dk u ∧ ((F d = some u ∧ F' d = some (.frz od u)) ∨ (F d = some (.frz od u) ∧ F' d = some u))
section
variable {F F' : Hp} {d : Addr}
theorem Sw.symm (s : Sw F F' d) : Sw F' F d := ⟨fun a h => (s.ne a h).symm, by
  obtain ⟨u, od, h, r⟩ := s.at_
  exact ⟨u, od, h, r.elim (fun ⟨a, b⟩ => .inr ⟨b, a⟩) fun ⟨a, b⟩ => .inl ⟨b, a⟩⟩⟩
theorem Sw.key (s : Sw F F' d) {a : Addr} {y : HO} (h : F a = some y) (n : ¬ dk y) (n2 : ∀ o u, y = .frz o u → ¬ dk u) : F' a = some y := by
  rw [s.ne a ?_]
  · exact h
  · rintro rfl
    obtain ⟨u, od, hk, (⟨e, _⟩ | ⟨e, _⟩)⟩ := s.at_
    · rw [h] at e; cases e; exact n hk
    · rw [h] at e; cases e; exact n2 _ _ rfl hk
theorem Sw.dch (s : Sw F F' d) {a : Addr} {u : HO} (hk : dk u) (h : DcH true F a u) : DcH true F' a u := by
  by_cases ha : a = d
  · subst ha
    obtain ⟨w, od, hw, (⟨e, e'⟩ | ⟨e, e'⟩)⟩ := s.at_
    · rcases h with h | ⟨_, o, h⟩
      · rw [h] at e; cases e; exact .inr ⟨rfl, _, e'⟩
      · rw [h] at e; cases e; exact (dk_frz hw).elim
    · rcases h with h | ⟨_, o, h⟩
      · rw [h] at e; cases e; exact (dk_frz hk).elim
      · rw [h] at e; cases e; exact .inl e'
  · exact h.imp (fun h => by rw [s.ne a ha]; exact h) fun ⟨e, o, h⟩ => ⟨e, o, by rw [s.ne a ha]; exact h⟩
theorem Sw.none (s : Sw F F' d) {a : Addr} : F' a = none ↔ F a = none := by
  by_cases ha : a = d
  · subst ha
    obtain ⟨w, od, hw, (⟨e, e'⟩ | ⟨e, e'⟩)⟩ := s.at_ <;> rw [e, e'] <;> simp
  · rw [s.ne a ha]
end
section
variable {Γ : Env1} {g g' : Gh} {d : Addr} {H H' : Hp}
theorem Sw.sqT {K : PySem.W.Frag} (s : Sw g.F g'.F d) {a : Addr} {vs : List V} (h : SqT K g.F a vs) : SqT K g'.F a vs := by
  rcases h with (h | ⟨o, h⟩) | h
  · exact .inl (.inl (s.key h (fun z => z) fun _ _ e => nomatch e))
  · exact .inl (.inr ⟨o, s.key h (fun z => z) fun _ _ e z => by cases e; exact z⟩)
  · exact .inr h
theorem Sw.sqL {K : PySem.W.Frag} (s : Sw g.F g'.F d) {a : Addr} {vs : List V} (h : SqL K g.F a vs) : SqL K g'.F a vs := by
  rcases h with (h | ⟨o, h⟩) | h
  · exact .inl (.inl (s.key h (fun z => z) fun _ _ e => nomatch e))
  · exact .inl (.inr ⟨o, s.key h (fun z => z) fun _ _ e z => by cases e; exact z⟩)
  · exact .inr h
theorem Sw.dc (s : Sw g.F g'.F d) {P : Program} {w : World} {a : Addr} {t : Bool} {ks : List D} {kv vv : List V} (h : DcAt P w true g.F a t ks kv vv) : DcAt P w true g'.F a t ks kv vv := by
  obtain ⟨h1, h2⟩ := h
  cases t with
  | true =>
    obtain ⟨xs, e, r⟩ := h2
    exact ⟨h1, xs, s.dch trivial e, r⟩
  | false =>
    obtain ⟨kvs, e, r⟩ := h2
    exact ⟨h1, kvs, s.dch trivial e, r⟩
mutual
theorem Rp.sw (s : Sw g.F g'.F d) (hr : g'.rt = g.rt) : ∀ (x : D) (v : V), Rp Γ g x v → Rp Γ g' x v
  | .non, v, h => h
  | .bl b, v, h => h
  | .int i, v, h => h
  | .str z, v, h => h
  | .tup ds, v, h => by
    simp only [Rp] at h ⊢
    obtain ⟨a, vs, e, q, r⟩ := h
    exact ⟨a, vs, e, s.sqT q, Rps.sw s hr ds vs r⟩
  | .lst ds, v, h => by
    simp only [Rp] at h ⊢
    obtain ⟨a, vs, e, q, r⟩ := h
    exact ⟨a, vs, e, s.key q (fun z => z) (fun _ _ e => nomatch e), Rps.sw s hr ds vs r⟩
  | .dct t ks us, v, h => by
    simp only [Rp] at h ⊢
    obtain ⟨a, kv, vv, e, q, r1, r2⟩ := h
    exact ⟨a, kv, vv, e, s.dc q, Rps.sw s hr ks kv r1, Rps.sw s hr us vv r2⟩
  | .ins c ns fs, v, h => by
    simp only [Rp] at h ⊢
    obtain ⟨a, dx, vs, e, q, m, r⟩ := h
    exact ⟨a, dx, vs, e, s.key q (fun z => z) (fun _ _ e => nomatch e), m, Rps.sw s hr fs vs r⟩
  | .scr ns, v, h => by
    simp only [Rp] at h ⊢
    obtain ⟨a, e, q⟩ := h
    exact ⟨a, e, s.sqL q⟩
  | .cell m, v, h => by
    simp only [Rp] at h ⊢
    rw [hr]
    exact h
theorem Rps.sw (s : Sw g.F g'.F d) (hr : g'.rt = g.rt) : ∀ (xs : List D) (vs : List V), Rps Γ g xs vs → Rps Γ g' xs vs
  | [], vs, h => h
  | x :: xs, vs, h => by
    simp only [Rps] at h ⊢
    obtain ⟨v, vs', e, r, q⟩ := h
    exact ⟨v, vs', e, Rp.sw s hr x v r, Rps.sw s hr xs vs' q⟩
end
mutual
theorem Ow.sw (s : Sw g.F g'.F d) (hr : g'.rt = g.rt) : ∀ (o : O) (v : V) (fp : List Addr), (∀ a ∈ fp, H' a = H a) → Ow Γ g H o v fp → Ow Γ g' H' o v fp
  | .sh x, v, fp, k, h => by
    simp only [Ow] at h ⊢
    exact ⟨h.1, Rp.sw s hr x v h.2⟩
  | .ol l, v, fp, k, h => by
    simp only [Ow] at h ⊢
    obtain ⟨a, vs, fp', e, rfl, q, r⟩ := h
    exact ⟨a, vs, fp', e, rfl, by rw [k a List.mem_cons_self]; exact q, Ows.sw s hr l vs fp' (fun b hb => k b (List.mem_cons_of_mem _ hb)) r⟩
  | .od t ks os, v, fp, k, h => by
    simp only [Ow] at h ⊢
    obtain ⟨a, kv, vv, fp', e, rfl, q, r1, r2⟩ := h
    exact ⟨a, kv, vv, fp', e, rfl, q.keep fun u e => by rw [k a List.mem_cons_self]; exact e, Rps.sw s hr ks kv r1, Ows.sw s hr os vv fp' (fun b hb => k b (List.mem_cons_of_mem _ hb)) r2⟩
  | .oi c ns fs, v, fp, k, h => by
    simp only [Ow] at h ⊢
    obtain ⟨a, dx, vs, fp', e, rfl, q, m, m2, r⟩ := h
    exact ⟨a, dx, vs, fp', e, rfl, by rw [k a List.mem_cons_self]; exact q, m, m2, Ows.sw s hr fs vs fp' (fun b hb => k b (List.mem_cons_of_mem _ hb)) r⟩
  | .ot l, v, fp, k, h => by
    simp only [Ow] at h ⊢
    obtain ⟨a, vs, e, q, r⟩ := h
    exact ⟨a, vs, e, s.key q (fun z => z) (fun _ _ e => nomatch e), Ows.sw s hr l vs fp k r⟩
theorem Ows.sw (s : Sw g.F g'.F d) (hr : g'.rt = g.rt) : ∀ (os : List O) (vs : List V) (fp : List Addr), (∀ a ∈ fp, H' a = H a) → Ows Γ g H os vs fp → Ows Γ g' H' os vs fp
  | [], vs, fp, k, h => h
  | o :: os, vs, fp, k, h => by
    simp only [Ows] at h ⊢
    obtain ⟨v, vs', f1, f2, e, rfl, r, q⟩ := h
    exact ⟨v, vs', f1, f2, e, rfl, Ow.sw s hr o v f1 (fun b hb => k b (List.mem_append_left _ hb)) r, Ows.sw s hr os vs' f2 (fun b hb => k b (List.mem_append_right _ hb)) q⟩
end
theorem SlotR.sw (s : Sw g.F g'.F d) (hr : g'.rt = g.rt) {x : Sl} {v : Option V} {f : List Addr} (k : ∀ a ∈ f, H' a = H a) (h : SlotR Γ g H x v f) : SlotR Γ g' H' x v f := by
  cases x with
  | no => exact h
  | va x => exact ⟨h.1, let ⟨v, e, r⟩ := h.2; ⟨v, e, Rp.sw s hr x v r⟩⟩
  | ow o => exact let ⟨v, e, r⟩ := h; ⟨v, e, Ow.sw s hr o v f k r⟩
theorem EnvR.sw (s : Sw g.F g'.F d) (hr : g'.rt = g.rt) : ∀ {ρ : List Sl} {σ : L2.St} {fp : List Addr}, (∀ a ∈ fp, H' a = H a) → EnvR Γ g H ρ σ fp → EnvR Γ g' H' ρ σ fp
  | [], σ, fp, k, h => h
  | x :: ρ, σ, fp, k, h => by
    obtain ⟨v, σ', f1, f2, e, rfl, r, q⟩ := h
    exact ⟨v, σ', f1, f2, e, rfl, r.sw s hr fun b hb => k b (List.mem_append_left _ hb), EnvR.sw s hr (fun b hb => k b (List.mem_append_right _ hb)) q⟩
/-- the ghost with another thing at d -/
def Gh.swp (g : Gh) (d : Addr) (y : HO) : Gh := { g with F := upd g.F d y }
/-- u1 stands at d, y is to stand there: the one is the other one locked -/
def Lk (u1 y : HO) : Prop := ∃ u od, dk u ∧ ((u1 = u ∧ y = .frz od u) ∨ (u1 = .frz od u ∧ y = u))
theorem Lk.sw {F : Hp} {u1 y : HO} (l : Lk u1 y) (h : F d = some u1) : Sw F (upd F d y) d := by
  refine ⟨fun a ha => upd_ne ha, ?_⟩
  obtain ⟨u, od, hk, (⟨rfl, rfl⟩ | ⟨rfl, rfl⟩)⟩ := l
  · exact ⟨_, od, hk, .inl ⟨h, upd_same⟩⟩
  · exact ⟨_, od, hk, .inr ⟨h, upd_same⟩⟩
variable {μ μ' : List O} {ρ : List Sl} {σ : L2.St} {fp : List Addr} {u1 y : HO}
theorem same_swp (F : Same g.F H) : Same (g.swp d y).F (upd H d y) := fun a u e => by
  have e : upd g.F d y a = some u := e
  by_cases ha : a = d
  · subst ha
    rw [upd_same] at e ⊢
    exact e
  · rw [upd_ne ha] at e ⊢
    exact F a u e
theorem Cl.sw (l : Lk u1 y) (h : g.F d = some u1) (c : Cl Γ g H μ) : Cl Γ (g.swp d y) (upd H d y) μ := by
  have ng : ∀ a ∈ g.G, a ≠ d := fun a ha z => by
    have := c.fr a ha
    rw [z, h] at this
    cases this
  exact ⟨Ows.sw (g := g) (g' := g.swp d y) (l.sw h) rfl _ _ _ (fun a ha => upd_ne (ng a ha)) c.own, c.nd, fun a ha => (l.sw h).none.mpr (c.fr a ha)⟩
theorem SR.sw (l : Lk u1 y) (h : g.F d = some u1) (s : SR Γ g μ H ρ σ fp) : SR Γ (g.swp d y) μ (upd H d y) ρ σ fp := by
  have ng : ∀ a ∈ fp, a ≠ d := fun a ha z => by
    have := (s.ap a ha).1
    rw [z, h] at this
    cases this
  exact ⟨same_swp s.F, s.cl.sw l h, s.env.sw (g := g) (g' := g.swp d y) (l.sw h) rfl fun a ha => upd_ne (ng a ha), s.nd, fun a ha => ⟨(l.sw h).none.mpr (s.ap a ha).1, (s.ap a ha).2⟩⟩
theorem Nw.sw {a : Addr} (ha : a ≠ d) (h : Nw g H a) : Nw (g.swp d y) (upd H d y) a := h.imp id fun z => by rw [upd_ne ha]; exact z
theorem le_swp (h : Le g g') : Le (g.swp d y) (g'.swp d y) := ⟨fun a u e => by
  have e : upd g.F d y a = some u := e
  show upd g'.F d y a = some u
  by_cases ha : a = d
  · subst ha
    rw [upd_same] at e ⊢
    exact e
  · rw [upd_ne ha] at e ⊢
    exact h.F a u e, h.rt⟩
theorem Go.sw (l : Lk u1 y) (h : g.F d = some u1) (F : Same g.F H) (a : Go Γ g H g' μ' H') : Go Γ (g.swp d y) (upd H d y) (g'.swp d y) μ' (upd H' d y) := by
  have h' := a.le.F d u1 h
  have nd : ∀ x, Nw g H x → x ∈ g'.G → x ≠ d := fun x _ hx z => by
    have := a.cl.fr x hx
    rw [z, h'] at this
    cases this
  refine ⟨le_swp a.le, fun x u e n => ?_, fun x e => ?_, fun x e => ?_, fun x hx => ?_, same_swp a.F, a.cl.sw l h'⟩
  · by_cases hx : x = d
    · subst hx
      rw [upd_same] at e ⊢
      exact e
    · rw [upd_ne hx] at e ⊢
      exact a.keep x u e n
  · by_cases hx : x = d
    · subst hx
      rw [upd_same]
      exact fun z => by cases z
    · rw [upd_ne hx] at e ⊢
      exact a.there x e
  · have e : upd g'.F d y x ≠ none := e
    by_cases hx : x = d
    · subst hx
      refine .inl ?_
      show upd g.F x y x ≠ none
      rw [upd_same]
      exact fun z => by cases z
    · rw [upd_ne hx] at e
      rcases a.gF x e with z | z
      · refine .inl ?_
        show upd g.F d y x ≠ none
        rw [upd_ne hx]
        exact z
      · exact .inr (z.sw hx)
  · exact (show Nw g H x from a.gG x hx).sw (nd x (a.gG x hx) hx)
theorem swp_back (h : g.F d = some u1) : (g.swp d y).swp d u1 = g := by
  unfold Gh.swp
  congr 1
  funext a
  by_cases ha : a = d
  · subst ha; rw [upd_same, h]
  · rw [upd_ne ha]
    exact upd_ne ha
theorem upd_back {H : Hp} (h : H d = some u1) : upd (upd H d y) d u1 = H := by
  funext a
  by_cases ha : a = d
  · subst ha; rw [upd_same, h]
  · rw [upd_ne ha, upd_ne ha]
end
section
variable {X : Cx} {z : List Nat} {ck : Ck} {Φ : Fns} {W : WX} {pos pos' ap tpos cpos : Pos} {tp ip : Expr} {tg : T} {i : Nat}
theorem zip_walk {Γ : Env1} {g : Gh} {d : Addr} {od : Obj} {xs : List (NestedKey × Addr × Value)} {vv : List V} {ks vs : List D} (rk : Rps Γ g ks (xs.map fun x => V.ref x.2.1)) (rv : Rps Γ g vs vv) (hl : vv.length = xs.length) :
    Walk (ItiN Γ.P Γ.w d od xs vv) (zipD ks vs).length (fun H => H d = some (.frz od (ndict Γ.P Γ.w d xs))) (YD Γ g (zipD ks vs)) := by
  have h1 := rk.len
  have h2 := rv.len
  rw [List.length_map] at h1
  have hn : (zipD ks vs).length = xs.length := by rw [zipD_len]; omega
  rw [hn]
  refine ⟨fun i H hi q => ⟨q, hi⟩, fun H q => ⟨q, Nat.le_refl _⟩, fun i H x H' hi q y => ?_⟩
  obtain ⟨T, y, v, e1, e2, rfl, e3, e4⟩ := y
  obtain ⟨d1, k1, k2⟩ := rk.get' (i := i) (v := .ref y.2.1) (by rw [List.getElem?_map, e1]; rfl)
  obtain ⟨d2, k3, k4⟩ := rv.get' e2
  exact ⟨_, zipD_get ks vs i d1 d2 k1 k3, .inr ⟨T, _, _, d1, d2, rfl, rfl, e3, e4, k2, k4⟩⟩
/-- the loop, its dict locked -/
theorem forI_loop {elts : List Expr} {kk : Nat} {ss : List S} (hz : ∀ j ∈ z, j ∉ tgN tg) {d : Addr} {od : Obj} {xs : List (NestedKey × Addr × Value)} {vv : List V} {ks vs : List D} {pn : List (Nat × V)} {gb g0 g : Gh} {H0 H : Hp} {μ : List O} {ρ : List Sl} {σ : L2.St} {fp : List Addr} {D : Ends}
    (hpn : ∀ q ∈ pn, q.1 ∈ z) (s : ST (gm X) pn gb g0 H0 g μ H ρ σ fp) (hd : g.F d = some (.frz od (ndict X.prog X.w d xs))) (hm : (d == sysModules) = false) (rk : Rps (gm X) g ks (xs.map fun x => V.ref x.2.1)) (rv : Rps (gm X) g vs vv) (hv : Vals vv (xs.map (·.2.2)))
    (e1 : σ[i]? = some (some (.ref d))) (ok : FlOk (gm X) W pn gb g0 H0 D (forRun tg (evSs Φ ss) (zipD ks vs) ρ μ)) :
    tFor (iItemsN X.prog X.w (fun σ H Q => ∃ v, σ[i]? = some (some v) ∧ Q v H)) (gT X.K tg) (RSs X z W Φ ss) D σ H := by
  refine ⟨.ref d, e1, d, od, xs, vv, rfl, hm, s.sr.F _ _ hd, hv, ?_⟩
  have hl : vv.length = xs.length := by have := hv.length; rw [List.length_map] at this; exact this
  refine for_it (zip_walk (Γ := gm X) (g := g) (od := od) rk rv hl) (fun j σ H => ∃ ρ μ g2 fp, ST (gm X) pn g g0 H0 g2 μ H ρ σ fp ∧ FlOk (gm X) W pn gb g0 H0 D (forRun tg (evSs Φ ss) ((zipD ks vs).drop j) ρ μ)) ?_ ?_ ?_ ?_
  · exact ⟨ρ, μ, g, fp, ⟨s.sr, s.go, s.new, Le.refl _, s.pin⟩, by simpa using ok⟩
  · rintro j σ H _ ⟨ρ, μ, g2, fp, s2, _⟩
    exact s2.sr.F _ _ (s2.lb.F _ _ hd)
  · rintro j v σ H H' hi ⟨ρ, μ, g2, fp, s2, ok⟩ y
    obtain ⟨dd, g3, hdd, G2, r2⟩ := YD.go s2.lb s2.sr.F s2.sr.cl y
    have hdrop : (zipD ks vs).drop j = dd :: (zipD ks vs).drop (j + 1) := by
      rw [List.drop_eq_getElem_cons hi]
      congr 1
      have := List.getElem?_eq_getElem hi
      rw [hdd] at this
      exact (Option.some.inj this).symm
    rw [hdrop] at ok
    have s3 := s2.to G2
    unfold forRun at ok
    cases eT : setT tg dd ρ with
    | none => rw [eT] at ok; exact ok.elim
    | some ρ1 =>
      simp only [eT] at ok
      refine gT_at (Γ := gm X) tg dd v s3.sr r2 eT fun σ3 fp3 sr3 b3 hw => ⟨pn, g, g0, H0, hpn, ρ1, μ, g3, fp3, ⟨sr3, s3.go, (fun a h => s3.new a (b3 a h)), s3.lb, wipe_pin (pin_or hpn hz) (hw _ fun _ h => h) s3.pin⟩, ?_⟩
      have wk : ∀ {g2 μ H ρ σ fp}, ST (gm X) pn g g0 H0 g2 μ H ρ σ fp → ST (gm X) pn gb g0 H0 g2 μ H ρ σ fp := fun z => ⟨z.sr, z.go, z.new, s.lb.trans z.lb, z.pin⟩
      cases e : evSs Φ ss ρ1 μ with
      | bad => rw [e] at ok; exact ok
      | rt o μ2 => rw [e] at ok; exact ok
      | er c fs ρ2 μ2 => rw [e] at ok; exact fun g' H' σ' fp' cls d s' x => ok g' H' σ' fp' cls d (wk s') x
      | bk ρ2 μ2 => rw [e] at ok; exact fun g' H' σ' fp' s' => ok g' H' σ' fp' (wk s')
      | nx ρ2 μ2 => rw [e] at ok; exact fun g' H' σ' fp' s' => ⟨ρ2, μ2, g', fp', s', ok⟩
      | ct ρ2 μ2 => rw [e] at ok; exact fun g' H' σ' fp' s' => ⟨ρ2, μ2, g', fp', s', ok⟩
  · rintro σ H ⟨ρ, μ, g2, fp, s2, ok⟩
    rw [List.drop_length] at ok
    exact ok g2 H σ fp ⟨s2.sr, s2.go, s2.new, s.lb.trans s2.lb, s2.pin⟩
theorem ps_or {st : Stmt} {t1 t2 : TS} (h1 : PS X st t1) (h2 : PS X st t2) : PS X st (fun D σ H => t1 D σ H ∨ t2 D σ H) := ⟨fun pins s σ H D I h => h.elim (fun h => h1.run pins s σ H D I h) fun h => h2.run pins s σ H D I h⟩
theorem st_forI {elts : List Expr} {kk : Nat} {x : Str} {b : List Stmt} {ss : List S} {p1 : Pos} (c : At X ck Φ W) (hz : ∀ j ∈ z, j ∉ tgN tg) (hp : PassesOwn (model X.prog X.w) X.A X.env X.xe) (hv : ck.vis i x = true) (hl : (ap.endLine == cpos.line) = true) (hg : PG X (.Tuple elts kk tpos) (gT X.K tg)) (h1 : PSs X b (RSs X z W Φ ss)) :
    PS X (.For (.Tuple elts kk tpos) (.Call (.Attribute (.Name x p1) "items" ap) [] [] cpos) b [] pos) (RS X z W Φ (.forI tg i ss)) := by
  have hf := ps_for (pos := pos) hp c.calm (pi_itemsN (elts := elts) (kk := kk) (tpos := tpos) (c.pv (pos := p1) hv) (base_call0 rfl) hl) hg h1 (simple_fold rfl X.env)
  refine PS.imp (ps_or (ps_lock hf) hf) fun D σ H h => ?_
  obtain ⟨pn, gb, g0, H0, hpn, ρ, μ, g, fp, s, ok⟩ := h
  have ok : FlOk (gm X) W pn gb g0 H0 D (match ρ[i]? with
    | some (.va (.dct true ks vs)) => (match forRun tg (evSs Φ ss) (zipD ks vs) ρ μ with
      | .er _ _ _ _ => .bad
      | r => r)
    | _ => .bad) := ok
  split at ok
  · rename_i ks vs hi
    obtain ⟨v, e1, r⟩ := s.sr.env.va hi
    simp only [Rp] at r
    obtain ⟨d, kv, vv, rfl, ⟨hm, xs, hh, hx1, rfl, hx3, hx4, hx5, hx6⟩, rk, rv⟩ := r
    have ok' : FlOk (gm X) W pn gb g0 H0 D (forRun tg (evSs Φ ss) (zipD ks vs) ρ μ) := by
      cases er : forRun tg (evSs Φ ss) (zipD ks vs) ρ μ with
      | er c fs ρ2 μ2 => rw [er] at ok; exact ok.elim
      | bad => rw [er] at ok; exact ok.elim
      | nx ρ2 μ2 => rw [er] at ok; exact ok
      | bk ρ2 μ2 => rw [er] at ok; exact ok
      | ct ρ2 μ2 => rw [er] at ok; exact ok
      | rt o μ2 => rw [er] at ok; exact ok
    rcases hh with hh | ⟨_, od0, hh⟩
    · refine .inl ⟨d, _, s.sr.F _ _ hh, trivial, fun od => ?_⟩
      have l : Lk (ndict X.prog X.w d xs) (.frz od (ndict X.prog X.w d xs)) := ⟨ndict X.prog X.w d xs, od, (show dk (ndict X.prog X.w d xs) from trivial), .inl ⟨rfl, rfl⟩⟩
      have l2 : Lk (.frz od (ndict X.prog X.w d xs)) (ndict X.prog X.w d xs) := ⟨ndict X.prog X.w d xs, od, (show dk (ndict X.prog X.w d xs) from trivial), .inr ⟨rfl, rfl⟩⟩
      have sw := l.sw (d := d) hh
      have sr1 := s.sr.sw l hh
      have hd1 : (g.swp d (.frz od (ndict X.prog X.w d xs))).F d = some (.frz od (ndict X.prog X.w d xs)) := upd_same
      have bk1 : (g.swp d (.frz od (ndict X.prog X.w d xs))).swp d (ndict X.prog X.w d xs) = g := swp_back hh
      have bk2 : upd (upd H d (.frz od (ndict X.prog X.w d xs))) d (ndict X.prog X.w d xs) = H := upd_back (s.sr.F _ _ hh)
      have rk1 := Rps.sw (g := g) (g' := g.swp d (.frz od (ndict X.prog X.w d xs))) sw rfl _ _ rk
      have rv1 := Rps.sw (g := g) (g' := g.swp d (.frz od (ndict X.prog X.w d xs))) sw rfl _ _ rv
      have hmore : ((g.swp d (.frz od (ndict X.prog X.w d xs))).more fp).swp d (ndict X.prog X.w d xs) = g.more fp := by
        have : ((g.swp d (.frz od (ndict X.prog X.w d xs))).more fp).swp d (ndict X.prog X.w d xs) = ((g.swp d (.frz od (ndict X.prog X.w d xs))).swp d (ndict X.prog X.w d xs)).more fp := rfl
        rw [this, bk1]
      have hF1 : Same ((g.swp d (.frz od (ndict X.prog X.w d xs))).more fp).F (upd H d (.frz od (ndict X.prog X.w d xs))) := sr1.F
      have hdm : ((g.swp d (.frz od (ndict X.prog X.w d xs))).more fp).F d = some (.frz od (ndict X.prog X.w d xs)) := hd1
      generalize g.swp d (.frz od (ndict X.prog X.w d xs)) = g1 at *
      generalize upd H d (.frz od (ndict X.prog X.w d xs)) = H1 at *
      have s1 : ST (gm X) pn g1 (g1.more fp) H1 g1 μ H1 ρ σ fp := ⟨sr1, go_less sr1.F sr1.cl, fun a ha => .inl (List.mem_append_right _ ha), Le.refl _, s.pin⟩
      -- back from a state with the dict locked
      have go_b : ∀ {g' μ' H'}, Go (gm X) (g1.more fp) H1 g' μ' H' → Go (gm X) g0 H0 (g'.swp d (ndict X.prog X.w d xs)) μ' (upd H' d (ndict X.prog X.w d xs)) ∧ g'.F d = some (.frz od (ndict X.prog X.w d xs)) ∧ H' d = some (.frz od (ndict X.prog X.w d xs)) := fun {g' μ' H'} G => by
        have G1 := G.sw l2 hdm hF1
        rw [hmore, bk2] at G1
        exact ⟨go_over s (fun a h => h) G1, G.le.F _ _ hdm, G.F _ _ (G.le.F _ _ hdm)⟩
      have nw_b : ∀ {a}, a ≠ d → Nw (g1.more fp) H1 a → Nw g0 H0 a := fun {a} ha h => by
        have h := h.sw (y := ndict X.prog X.w d xs) ha
        rw [hmore, bk2] at h
        exact nw_more s (fun a h => h) h
      have st_b : ∀ {g' μ' H' ρ' σ' fp'}, ST (gm X) pn g1 (g1.more fp) H1 g' μ' H' ρ' σ' fp' → ST (gm X) pn gb g0 H0 (g'.swp d (ndict X.prog X.w d xs)) μ' (upd H' d (ndict X.prog X.w d xs)) ρ' σ' fp' ∧ H' d = some (.frz od (ndict X.prog X.w d xs)) := fun {g' μ' H' ρ' σ' fp'} s' => by
        obtain ⟨G1, k1, k2⟩ := go_b s'.go
        refine ⟨⟨s'.sr.sw l2 k1, G1, fun a ha => nw_b (fun z => ?_) (s'.new a ha), ?_, s'.pin⟩, k2⟩
        · have := (s'.sr.ap a ha).1
          rw [z, k1] at this
          cases this
        · have := le_swp (d := d) (y := ndict X.prog X.w d xs) s'.lb
          rw [bk1] at this
          exact s.lb.trans this
      refine forI_loop (i := i) (X := X) (elts := elts) (kk := kk) hz hpn s1 hd1 hm rk1 rv1 hx3 e1 ?_
      cases er : forRun tg (evSs Φ ss) (zipD ks vs) ρ μ with
      | er c fs ρ2 μ2 => rw [er] at ok; exact ok.elim
      | bad => rw [er] at ok; exact ok.elim
      | nx ρ2 μ2 => rw [er] at ok'; exact fun g' H' σ' fp' s' => ⟨(st_b s').2, ok' _ _ σ' fp' (st_b s').1⟩
      | bk ρ2 μ2 => rw [er] at ok'; exact fun g' H' σ' fp' s' => ⟨(st_b s').2, ok' _ _ σ' fp' (st_b s').1⟩
      | ct ρ2 μ2 => rw [er] at ok'; exact fun g' H' σ' fp' s' => ⟨(st_b s').2, ok' _ _ σ' fp' (st_b s').1⟩
      | rt o μ2 =>
        rw [er] at ok'
        refine fun g' H' v fo G => ?_
        obtain ⟨G1, k1, k2⟩ := go_b G.go
        have ng : ∀ a ∈ fo, a ≠ d := fun a ha z => by
          have := (G.ap a ha).1
          rw [z, k1] at this
          cases this
        exact ⟨k2, ok' _ _ v fo ⟨G1, Ow.sw (g := g') (g' := g'.swp d (ndict X.prog X.w d xs)) (l2.sw k1) rfl _ _ _ (fun a ha => upd_ne (ng a ha)) G.ow, G.nd, fun a ha => nw_b (ng a ha) (G.new a ha), fun a ha => ⟨(l2.sw k1).none.mpr (G.ap a ha).1, (G.ap a ha).2⟩⟩⟩
    · exact .inr (forI_loop (i := i) (X := X) (elts := elts) (kk := kk) hz hpn s hh hm rk rv hx3 e1 ok')
  · exact ok.elim
end
/-! ### a common cell taken back -/
theorem ows_take {Γ : Env1} {g : Gh} {H : Hp} : ∀ {os : List O} {vs : List V} {fp : List Addr} {n : Nat} {o : O}, Ows Γ g H os vs fp → os[n]? = some o → ∃ v f f1 f2, vs[n]? = some v ∧ fp = f1 ++ (f ++ f2) ∧ Ow Γ g H o v f ∧ ∀ d, Rp Γ g d v → Ows Γ g H (os.set n (.sh d)) vs (f1 ++ f2)
  | [], vs, fp, n, o, h, e => by simp at e
  | x :: os, vs, fp, 0, o, h, e => by
    simp only [Ows] at h
    obtain ⟨v, vs', f1, f2, rfl, rfl, r, q⟩ := h
    simp at e
    subst e
    refine ⟨v, f1, [], f2, rfl, rfl, r, fun d hd => ?_⟩
    simp only [List.set_cons_zero, Ows, List.nil_append]
    exact ⟨v, vs', [], f2, rfl, rfl, by simp only [Ow]; exact ⟨trivial, hd⟩, q⟩
  | x :: os, vs, fp, n + 1, o, h, e => by
    simp only [Ows] at h
    obtain ⟨v, vs', f1, f2, rfl, rfl, r, q⟩ := h
    obtain ⟨w, f, f3, f4, k1, rfl, k2, k3⟩ := ows_take (n := n) q (by simpa using e)
    refine ⟨w, f, f1 ++ f3, f4, by simpa using k1, by simp [List.append_assoc], k2, fun d hd => ?_⟩
    simp only [List.set_cons_succ, Ows]
    exact ⟨v, vs', f1, f3 ++ f4, rfl, by rw [List.append_assoc], r, k3 d hd⟩
theorem getV_at {ρ : List Sl} {i : Nat} {d : D} (h : getV ρ i = some d) : ρ[i]? = some (.va d) := by
  unfold getV at h
  split at h
  · rename_i e
    cases h
    exact e
  · cases h
theorem ST.unc {Γ : Env1} {pn : List (Nat × V)} {gb g0 g : Gh} {H0 H : Hp} {μ : List O} {ρ : List Sl} {σ : L2.St} {fp : List Addr} {i n : Nat} (s : ST Γ pn gb g0 H0 g μ H ρ σ fp) {o : O} (e : ρ[i]? = some (.va (.cell n))) (hm : μ[n]? = some o) :
    ∃ g2 fp2, ST Γ pn gb g0 H0 g2 (μ.set n (.sh (.cell n))) H (ρ.set i (.ow o)) σ fp2 ∧ g2.rt = g.rt := by
  obtain ⟨xv, f0, f', e1, r0, pm, up⟩ := s.sr.env.split e
  obtain ⟨rfl, v, rfl, r⟩ := r0
  rw [List.nil_append] at pm
  have r' := r
  simp only [Rp] at r
  obtain ⟨ad, rfl, hr⟩ := r
  obtain ⟨w, f, f1, f2, k1, k2, k3, k4⟩ := ows_take s.sr.cl.own hm
  have hw : w = .ref ad := by
    rw [List.getElem?_map, hr] at k1
    cases k1
    rfl
  subst hw
  have nd := s.sr.cl.nd
  rw [k2] at nd
  obtain ⟨n1, n2, n3⟩ := List.nodup_append.mp nd
  obtain ⟨n4, n5, n6⟩ := List.nodup_append.mp n2
  have sub : ∀ b ∈ f1 ++ f2, b ∈ g.G := fun b hb => by
    rw [k2]
    rcases List.mem_append.mp hb with z | z
    · exact List.mem_append_left _ z
    · exact List.mem_append_right _ (List.mem_append_right _ z)
  have inf : ∀ b ∈ f, b ∈ g.G := fun b hb => by
    rw [k2]
    exact List.mem_append_right _ (List.mem_append_left _ hb)
  have out : ∀ b ∈ f, b ∉ f1 ++ f2 := fun b hb z => by
    rcases List.mem_append.mp z with z | z
    · exact n3 b z b (List.mem_append_left _ hb) rfl
    · exact n6 b hb b z rfl
  have le : Le g { g with G := f1 ++ f2 } := ⟨fun _ _ h => h, fun _ _ h => h⟩
  have cl : Cl Γ { g with G := f1 ++ f2 } H (μ.set n (.sh (.cell n))) := ⟨Ows.le le _ _ _ (k4 (.cell n) r') (fun _ _ _ h => h), List.nodup_append.mpr ⟨n1, n5, fun a ha b hb => n3 a ha b (List.mem_append_right _ hb)⟩, fun b hb => s.sr.cl.fr b (sub b hb)⟩
  obtain ⟨fp2, q2, p2⟩ := up { g with G := f1 ++ f2 } H (.ow o) (some (.ref ad)) f le (fun _ _ _ h => h) ⟨.ref ad, rfl, Ow.le le _ _ _ k3 (fun _ _ _ h => h)⟩
  have es : σ.set i (some (.ref ad)) = σ := by
    have hi : i < σ.length := (List.getElem?_eq_some_iff.mp e1).1
    have := (List.getElem?_eq_some_iff.mp e1).2
    rw [← this, List.set_getElem_self hi]
  rw [es] at q2
  have sub' : ∀ b ∈ f', b ∈ fp := fun b hb => pm.mem_iff.mpr hb
  have hs : ∀ b ∈ fp2, b ∈ f ∨ b ∈ fp := fun b hb => (List.mem_append.mp (p2.mem_iff.mp hb)).imp id (sub' b)
  refine ⟨{ g with G := f1 ++ f2 }, fp2, ⟨⟨s.sr.F, cl, q2, p2.nodup_iff.mpr (List.nodup_append.mpr ⟨n4, pm.nodup_iff.mp s.sr.nd, fun a ha b hb eab => ?_⟩), fun b hb => ?_⟩, ⟨s.go.le.trans le, s.go.keep, s.go.there, s.go.gF, fun x hx => s.go.gG x (sub x hx), s.sr.F, cl⟩, fun b hb => ?_, s.lb.trans le, s.pin⟩, rfl⟩
  · subst eab
    exact (s.sr.ap a (sub' a hb)).2 (inf a ha)
  · rcases hs b hb with z | z
    · exact ⟨s.sr.cl.fr b (inf b z), out b z⟩
    · exact ⟨(s.sr.ap b z).1, fun y => (s.sr.ap b z).2 (sub b y)⟩
  · rcases hs b hb with z | z
    · exact s.go.nw (.inl (inf b z))
    · exact s.new b z
section
variable {X : Cx} {z : List Nat} {ck : Ck} {Φ : Fns} {W : WX} {pos : Pos} {p q : Expr} {e : E}
theorem ss_unc {i : Nat} {ss : List S} {sts : List Stmt} (h : PSs X sts (RSs X z W Φ ss)) : PSs X sts (RSs X z W Φ (.unc i :: ss)) := PSs.imp h fun D σ H hh => by
  obtain ⟨pn, gb, g0, H0, hpn, ρ, μ, g, fp, s, ok⟩ := hh
  have ok : FlOk (gm X) W pn gb g0 H0 D ((match getV ρ i with
    | some (.cell n) => (match μ[n]? with
      | some o => Fl.nx (ρ.set i (.ow o)) (μ.set n (.sh (.cell n)))
      | none => .bad)
    | _ => .bad).then (evSs Φ ss)) := ok
  split at ok
  · rename_i n hn
    split at ok
    · rename_i o ho
      obtain ⟨g2, fp2, s2, _⟩ := s.unc (getV_at hn) ho
      exact ⟨pn, gb, g0, H0, hpn, _, _, g2, fp2, s2, ok⟩
    · exact ok.elim
  · exact ok.elim
theorem st_resl (c : At X ck Φ W) {i : Nat} {x : Str} {p1 p2 p3 p4 p5 p6 p7 : Pos} {j : Nat} (hz : ∀ j ∈ z, j ≠ i) (hv : ck.vis i x = true) (hg : PG X q (gName i)) (hs : noStar q = true) (hsp : noStar p = true) (he : PE X p (RE X W Φ e)) :
    PS X (.Assign [q] (.BinOp (.Subscript (.Name x p1) (.Slice none (some (.UnaryOp .USub (.Constant (.int 1) j p2) p3)) none p4) p5) .Add (.List [p] p6) p7) pos) (RS X z W Φ (.resl i e)) := by
  refine PS.imp (ps_asg (pe_op (opR_bin .add) (pe_slice sl_list (c.pv hv) po_none (po_some (pe_un un_neg pe_int))) (pe_lst (pa_cons he pa_nil (star_cons hsp)))) hg (sole_no rfl) (stores_no (.inl rfl)) (asg_one hs)) fun D σ H h => ?_
  obtain ⟨pn, gb, g0, H0, hpn, ρ, μ, g, fp, s, ok⟩ := h
  have ok : FlOk (gm X) W pn gb g0 H0 D (match ownL ρ i with
    | some l => (evE Φ e ρ μ).go ρ fun x μ1 => if l.length < LIM then .nx (ρ.set i (.ow (.ol (l.dropLast ++ [x])))) μ1 else .bad
    | none => .bad) := ok
  split at ok
  · rename_i l e0
    have hi := ownL_at e0
    obtain ⟨v, f, e1, ow, nf, subf, k⟩ := s.swap hi (pin_or hpn hz)
    simp only [Ow] at ow
    obtain ⟨a, vs, fp1, rfl, rfl, ha, ows⟩ := ow
    obtain ⟨n0, n1⟩ := List.nodup_cons.mp nf
    refine ⟨.ref a, e1, _, rfl, _, rfl, a, vs, rfl, SqL.of ha, fun pp np => ?_⟩
    rw [cutV_last]
    obtain ⟨fp2, k1, k2, k3⟩ := ows_front ows n1
    have G1 := Go.made (u := .lst vs.dropLast) s.sr.F s.sr.cl np
    have s1 := s.to G1
    refine ⟨ρ, μ, g, fp, s1.sr, FlOk.er_of s1 ok, fun y μ1 ey g2 H2 w fo G => ?_⟩
    rw [ey] at ok
    simp only [Rs.go_ok] at ok
    split at ok
    · rename_i hlen
      have hvl := ows_len ows
      refine ⟨by show 1 ≤ sizeLine; decide, fun p2' np2 => .inr (.inr (.inl ⟨pp, p2', vs.dropLast, [w], rfl, rfl, ?_, upd_same, ?_, fun p3' np3 => ?_⟩))⟩
      · have hpp : pp ∉ g.G := fun z => by
          obtain ⟨u, eu⟩ := s.sr.cl.there pp z
          rw [np] at eu; cases eu
        have := G.go.keep pp _ upd_same hpp
        rw [upd_ne (fun y => by rw [← y, this] at np2; cases np2)]
        exact this
      · rw [LIM_eq] at hlen
        simp only [List.length_dropLast, List.length_cons, List.length_nil]
        omega
      · have M2 := Go.made (u := .lst [w]) G.go.F G.go.cl np2
        have M3 := Go.made (u := .lst (vs.dropLast ++ [w])) M2.F M2.cl np3
        have GT := ((G1.trans G.go).trans M2).trans M3
        have fre : ∀ {b u}, H2 b = some u → upd (upd H2 p2' (.lst [w])) p3' (.lst (vs.dropLast ++ [w])) b = some u := fun {b u} eb => by
          have e2 : upd H2 p2' (.lst [w]) b = some u := by rw [upd_ne (fun y => by rw [y, np2] at eb; cases eb)]; exact eb
          rw [upd_ne (fun y => by rw [y, np3] at e2; cases e2)]
          exact e2
        have inF : ∀ b ∈ fp2, b ∈ a :: fp1 := fun b hb => List.mem_cons_of_mem _ (k2 b hb)
        have o1 : Ows (gm X) g2 _ l.dropLast vs.dropLast fp2 := Ows.le GT.le _ _ _ k1 fun b hb u eu => GT.keepAt s.sr b (subf b (inF b hb)) u eu
        have o2 : Ow (gm X) g2 (upd (upd H2 p2' (.lst [w])) p3' (.lst (vs.dropLast ++ [w]))) y w fo := Ow.le (Le.refl _) _ _ _ G.ow fun b hb u eu => fre eu
        have o3 := ows_snocO o2 o1
        have at3 : ∀ b ∈ fp2 ++ fo, ∃ u, upd H2 p2' (.lst [w]) b = some u := fun b hb => by
          rcases List.mem_append.mp hb with hb | hb
          · obtain ⟨u, eu⟩ := Ows.there _ _ _ k1 b hb
            exact ⟨u, ((G1.trans G.go).trans M2).keepAt s.sr b (subf b (inF b hb)) u eu⟩
          · obtain ⟨u, eu⟩ := Ow.there _ _ _ G.ow b hb
            exact ⟨u, by rw [upd_ne (fun y => by rw [y, np2] at eu; cases eu)]; exact eu⟩
        have n3 : p3' ∉ fp2 ++ fo := fun y => by
          obtain ⟨u, eu⟩ := at3 _ y
          rw [np3] at eu; cases eu
        obtain ⟨fp3, s3⟩ := k g2 μ1 _ (.ol (l.dropLast ++ [y])) (.ref p3') (p3' :: (fp2 ++ fo)) GT (by
          simp only [Ow]
          exact ⟨p3', _, _, rfl, rfl, upd_same, o3⟩) (List.nodup_cons.mpr ⟨n3, List.nodup_append.mpr ⟨k3, G.nd, fun b hb b' hb' ebb => by
            subst ebb
            obtain ⟨u, eu⟩ := Ows.there _ _ _ k1 b hb
            exact (G.new b hb').no (G1.keepAt s.sr b (subf b (inF b hb)) u eu) (s.sr.ap b (subf b (inF b hb))).2⟩⟩) (fun b hb => by
            rcases List.mem_cons.mp hb with rfl | hb
            · exact .inr (.inr (none_back ((G1.trans G.go).trans M2) np3))
            · rcases List.mem_append.mp hb with hb | hb
              · exact .inl (inF b hb)
              · exact .inr (G1.nw (G.new b hb))) (fun b hb => by
            rcases List.mem_cons.mp hb with rfl | hb
            · exact ⟨M2.F.free np3, fun z => by
                obtain ⟨u, eu⟩ := M2.cl.there _ z
                rw [np3] at eu; cases eu⟩
            · rcases List.mem_append.mp hb with hb | hb
              · obtain ⟨u, eu⟩ := Ows.there _ _ _ k1 b hb
                exact ap_keep GT eu (s.sr.ap b (subf b (inF b hb)))
              · exact G.ap b hb)
        exact ok _ _ _ fp3 s3
    · exact ok.elim
  · exact ok.elim
end
end MP
/-! MPK -/
set_option Elab.async false
set_option linter.all false
set_option maxRecDepth 100000
set_option maxHeartbeats 1000000
/-! MPK: fields kept one's own; a loop over lists that nobody else knows. -/
namespace MP
open PySem PySem.Spec PyProof.Rows L2
section
variable {X : Cx} {z : List Nat} {ck : Ck} {Φ : Fns} {W : WX} {pos pos' : Pos} {p q : Expr} {a e : E} {i t : Nat} {es : List E} {ps : List Expr} {ss : List S}
theorem st_fsetO (c : At X ck Φ W) {cl f x : Str} {tpos : Pos} (hm : (cl, f) ∈ ck.fl) (hv : ck.vis i x = true) (hs : swapsWith p (some (.Attribute (.Name x u_pos) f tpos)) pos.line X.env = pure false) (he : PE X p (RE X W Φ a)) :
    PS X (.Assign [.Attribute (.Name x u_pos) f tpos] p pos) (RS X z W Φ (.fsetO cl i f a)) := by
  refine PS.imp (ps_fld (c.pv (pos := u_pos) hv) he hs) fun D σ H h => ?_
  refine rdS_e (fe := evE Φ a) (k := fun ρ x μ1 => (match ρ[i]? with
    | some (.ow o) => (match fputO cl o f x with
      | some o1 => .nx (ρ.set i (.ow o1)) μ1
      | none => .bad)
    | _ => .bad)) h fun pn gb g0 H0 hpn ρ x μ1 g g1 H1 fp w fo μ s G ok => ?_
  obtain ⟨g2, fo2, G2, s2, nw, ndo, owx⟩ := itm_at s G true
  have owx : Ow (gm X) g2 H1 x w fo2 := owx
  split at ok
  · rename_i o hi
    obtain ⟨v, ff, hvv, ow, nd, sub, wr⟩ := s2.wr2 hi
    cases o with
    | oi c' ns fs =>
      simp only [fputO] at ok
      split at ok
      · rename_i o1 eo
        split at eo
        · rename_i hc
          obtain ⟨rfl, hf, hlen⟩ := hc
          cases eo
          simp only [Ow] at ow
          obtain ⟨ad, dx, vs, fp', rfl, rfl, ha, hl, hl2, ows⟩ := ow
          obtain ⟨k1, k2⟩ := c.st.fl _ hm
          refine ⟨.ref ad, hvv, ad, _, dx, _, rfl, ha, k1, k2, ?_, ?_⟩
          · rw [List.length_zip]; omega
          · rw [putF_zip hl hf]
            obtain ⟨hn, nd'⟩ := List.nodup_cons.mp nd
            have hno : ∀ b ∈ fo2, b ∉ ad :: fp' := fun b hb y => (nw b hb).2.2.2 (sub b y)
            have keep : ∀ {l : List Addr}, ad ∉ l → KeepAt H1 (upd H1 ad (.ins (He.ga X.K c') dx ((ns ++ [f]).zip (vs ++ [w])))) l := fun {l} h b hb u eb => by rw [upd_ne (fun y => h (by rw [← y]; exact hb))]; exact eb
            obtain ⟨fp4, s4⟩ := wr ad (.ins (He.ga X.K c') dx ((ns ++ [f]).zip (vs ++ [w]))) (.oi c' (ns ++ [f]) (fs ++ [x])) (ad :: (fp' ++ fo2)) fo2 List.mem_cons_self (by
              simp only [Ow]
              refine ⟨ad, dx, _, fp' ++ fo2, rfl, rfl, upd_same, by simp [hl], by simp; omega, ?_⟩
              exact ows_snocO (Ow.le (Le.refl _) _ _ _ owx (keep fun y => hno ad y List.mem_cons_self)) (Ows.le (Le.refl _) _ _ _ ows (keep hn))) (fun b hb => by
              rcases List.mem_cons.mp hb with rfl | hb
              · exact .inl List.mem_cons_self
              · exact (List.mem_append.mp hb).imp (List.mem_cons_of_mem _) id) (List.nodup_cons.mpr ⟨fun y => (List.mem_append.mp y).elim hn fun y => hno ad y List.mem_cons_self, nodup_app nd' ndo fun b hb y => hno b hb (List.mem_cons_of_mem _ y)⟩) nw
            exact ok _ _ σ fp4 s4
        · cases eo
      · exact ok.elim
    | _ => exact ok.elim
  · exact ok.elim
theorem ows_app2 {Γ : Env1} {g : Gh} {H : Hp} : ∀ {os : List O} {vs : List V} {f1 : List Addr} {os' : List O} {vs' : List V} {f2 : List Addr}, Ows Γ g H os vs f1 → Ows Γ g H os' vs' f2 → Ows Γ g H (os ++ os') (vs ++ vs') (f1 ++ f2)
  | [], vs, f1, os', vs', f2, h, h' => by
    simp only [Ows] at h
    obtain ⟨rfl, rfl⟩ := h
    exact h'
  | o :: os, vs, f1, os', vs', f2, h, h' => by
    simp only [Ows] at h
    obtain ⟨v, vt, fa, fb, rfl, rfl, q, r⟩ := h
    simp only [List.cons_append, Ows]
    exact ⟨v, _, fa, fb ++ f2, rfl, by rw [List.append_assoc], q, ows_app2 r h'⟩
/-- lists that nobody else knows, kept beside a state -/
def Kept (Γ : Env1) (g0 : Gh) (H0 : Hp) (g : Gh) (H : Hp) (fp : List Addr) (os : List O) (vs : List V) (q : Addr) : Prop := ∃ fr, Ows Γ g H os vs fr ∧ fr.Nodup ∧ q ∉ fr ∧ ∀ b ∈ fr, b ∉ fp ∧ g.F b = none ∧ b ∉ g.G ∧ Nw g0 H0 b
theorem st_forC {tq : Expr} {body : List Stmt} {x : Str} {p1 p2 p3 : Pos} (c : At X ck Φ W) (hzt : ∀ j ∈ z, j ≠ t) (hzi : ∀ j ∈ z, j ≠ i) (hp : PassesOwn (model X.prog X.w) X.A X.env X.xe) (hv : ck.vis i x = true) (hg : PG X tq (gName t)) (ha : PA X ps (RA X W Φ es)) (h1 : PSs X body (RSs X z W Φ ss)) :
    PS X (.For tq (.BinOp (.Name x p1) .Add (.List ps p2) p3) body [] pos) (RS X z W Φ (.forC t i es ss)) := by
  refine PS.imp (ps_for hp c.calm (pi_any (pe_op (opR_bin .add) (c.pv hv) (pe_lst ha))) hg h1 (simple_fold rfl X.env)) fun D σ H h => ?_
  obtain ⟨pn, gb, g0, H0, hpn, ρ, μ, g, fp, s, ok⟩ := h
  have ok : FlOk (gm X) W pn gb g0 H0 D (match ownL ρ i with
    | some l => (evEs Φ es ρ μ).go ρ fun xs μ1 => if l.length + xs.length ≤ LIM then forRunO t (evSs Φ ss) (l ++ xs) (ρ.set i .no) μ1 else .bad
    | none => .bad) := ok
  split at ok
  · rename_i l e0
    have hi := ownL_at e0
    obtain ⟨v, f, fp', e1, ow, nf, sub, sub', dis, sr'⟩ := s.sr.away hi
    simp only [Ow] at ow
    obtain ⟨ad, vs, fp1, rfl, rfl, had, ows⟩ := ow
    obtain ⟨n0, n1⟩ := List.nodup_cons.mp nf
    refine ⟨.ref ad, e1, ρ, μ, g, fp, s.sr, FlOk.er_of s ok, fun xs μ1 ex g1 H1 us fo G => ?_⟩
    rw [ex] at ok
    simp only [Rs.go_ok] at ok
    split at ok
    · rename_i hlim
      have l1 := ows_len ows
      have l2 := ows_len G.ow
      rw [LIM_eq] at hlim
      have kf : KeepAt H H1 (ad :: fp1) := fun b hb u eb => G.go.keepAt s.sr b (sub b hb) u eb
      refine ⟨by omega, fun p2' np2 => .inr (.inr (.inl ⟨ad, p2', vs, us, rfl, rfl, ?_, upd_same, by omega, fun p3' np3 => .inl ⟨p3', vs ++ us, rfl, .inl ⟨SqL.of upd_same, ?_⟩⟩⟩))⟩
      · have := kf ad List.mem_cons_self _ had
        rw [upd_ne (fun y => by rw [← y, this] at np2; cases np2)]
        exact this
      · have M2 := Go.made (u := .lst us) G.go.F G.go.cl np2
        have M3 := Go.made (u := .lst (vs ++ us)) M2.F M2.cl np3
        have M := M2.trans M3
        have s3 : ∃ fp2, ST (gm X) pn gb g0 H0 g1 μ1 (upd (upd H1 p2' (.lst us)) p3' (.lst (vs ++ us))) (ρ.set i .no) σ fp2 ∧ ∀ b ∈ fp2, b ∈ fp' := by
          have s0 : ST (gm X) pn gb g0 H0 g μ H (ρ.set i .no) σ fp' := ⟨sr', s.go, fun b hb => s.new b (sub' b hb), s.lb, s.pin⟩
          exact ⟨fp', (s0.to G.go).to M, fun _ h => h⟩
        obtain ⟨fp2, s3, sub2⟩ := s3
        have o1 : Ows (gm X) g1 H1 l vs fp1 := Ows.le G.go.le _ _ _ ows (kf.mono fun b hb => List.mem_cons_of_mem _ hb)
        have o3 : Ows (gm X) g1 (upd (upd H1 p2' (.lst us)) p3' (.lst (vs ++ us))) (l ++ xs) (vs ++ us) (fp1 ++ fo) := Ows.le (Le.refl _) _ _ _ (ows_app2 o1 G.ow) fun b hb u eb => M.keep b u eb (by
          rcases List.mem_append.mp hb with hb | hb
          · obtain ⟨w, ew⟩ := Ows.there _ _ _ ows b hb
            exact (ap_keep G.go ew (s.sr.ap b (sub b (List.mem_cons_of_mem _ hb)))).2
          · exact (G.ap b hb).2)
        have at1 : ∀ b ∈ fp1 ++ fo, ∃ u, H1 b = some u := fun b hb => Ows.there _ _ _ (ows_app2 o1 G.ow) b hb
        have kept : Kept (gm X) g0 H0 g1 (upd (upd H1 p2' (.lst us)) p3' (.lst (vs ++ us))) fp2 (l ++ xs) (vs ++ us) p3' := by
          refine ⟨fp1 ++ fo, o3, nodup_app n1 G.nd (fun b hb y => ?_), fun y => ?_, fun b hb => ?_⟩
          · obtain ⟨w, ew⟩ := Ows.there _ _ _ ows b y
            exact (G.new b hb).no ew (s.sr.ap b (sub b (List.mem_cons_of_mem _ y))).2
          · obtain ⟨u, eu⟩ := at1 _ y
            have e2 : upd H1 p2' (.lst us) p3' = some u := by rw [upd_ne (fun z => by rw [z, np2] at eu; cases eu)]; exact eu
            rw [np3] at e2
            cases e2
          · rcases List.mem_append.mp hb with hb | hb
            · obtain ⟨w, ew⟩ := Ows.there _ _ _ ows b hb
              obtain ⟨k1, k2⟩ := ap_keep G.go ew (s.sr.ap b (sub b (List.mem_cons_of_mem _ hb)))
              exact ⟨fun y => dis b (List.mem_cons_of_mem _ hb) (sub2 b y), k1, k2, s.new b (sub b (List.mem_cons_of_mem _ hb))⟩
            · obtain ⟨k1, k2⟩ := G.ap b hb
              refine ⟨fun y => ?_, k1, k2, s.go.nw (G.new b hb)⟩
              obtain ⟨w, ew⟩ := sr'.env.there b (sub2 b y)
              exact (G.new b hb).no ew (sr'.ap b (sub2 b y)).2
        have p3F : g1.F p3' = none := M2.F.free np3
        have p3G : p3' ∉ g1.G := fun y => by
          obtain ⟨u, eu⟩ := M2.cl.there _ y
          rw [np3] at eu; cases eu
        have p3f : p3' ∉ fp2 := fun y => by
          obtain ⟨u, eu⟩ := sr'.env.there _ (sub2 _ y)
          have := none_back (G.go.trans M2) np3
          rw [this] at eu; cases eu
        have hlen : (l ++ xs).length = (vs ++ us).length := by simp [l1, l2]
        generalize l ++ xs = os at *
        generalize vs ++ us = ws at *
        have w := walk_list (K := X.K) (a := p3') (xs := ws)
        refine for_it w (fun j σ H => ∃ ρ μ g fp, ST (gm X) pn gb g0 H0 g μ H ρ σ fp ∧ Kept (gm X) g0 H0 g H fp (os.drop j) (ws.drop j) p3' ∧ (H p3' = some (.lst ws) ∧ g.F p3' = none ∧ p3' ∉ g.G ∧ p3' ∉ fp) ∧ FlOk (gm X) W pn gb g0 H0 D (forRunO t (evSs Φ ss) (os.drop j) ρ μ)) ?_ ?_ ?_ ?_
        · exact ⟨_, μ1, g1, fp2, s3, by simpa using kept, ⟨upd_same, p3F, p3G, p3f⟩, by simpa using ok⟩
        · rintro j σ H _ ⟨ρ, μ, g, fp, _, _, ⟨h, _⟩, _⟩
          exact SqL.of h
        · rintro j v σ H H' hj ⟨ρ, μ, g, fp, s, ⟨fr, ows, nd, q7, hfr⟩, ⟨q1, q2, q3, q4⟩, ok⟩ ⟨rfl, hyv⟩
          have hj2 : j < os.length := by omega
          rw [List.drop_eq_getElem_cons hj2, List.drop_eq_getElem_cons hj] at ows
          rw [List.drop_eq_getElem_cons hj2] at ok
          have hvj : ws[j] = v := by
            rw [List.getElem?_eq_getElem hj] at hyv
            exact Option.some.inj hyv
          rw [hvj] at ows
          generalize os[j] = o at *
          simp only [Ows] at ows
          obtain ⟨v', vs', f1, f2, ev, rfl, ow1, ow2⟩ := ows
          cases ev
          obtain ⟨m1, m2, m3⟩ := List.nodup_append.mp nd
          obtain ⟨fp3, s4, sub4⟩ := s.give (i := t) (pin_or hpn hzt) (x := .ow o) (v := v) (f := f1) ⟨v, rfl, ow1⟩ m1 (fun b hb => (hfr b (List.mem_append_left _ hb)).1) (fun b hb => (hfr b (List.mem_append_left _ hb)).2.2.2) (fun b hb => ⟨(hfr b (List.mem_append_left _ hb)).2.1, (hfr b (List.mem_append_left _ hb)).2.2.1⟩)
          have q5 : p3' ∉ fp3 := fun y => (sub4 _ y).elim q4 fun y => q7 (List.mem_append_left _ y)
          refine ⟨pn, g, g.more fp3, H', hpn, ρ.set t (.ow o), μ, g, fp3, ⟨s4.sr, go_less s4.sr.F s4.sr.cl, fun b hb => .inl (List.mem_append_right _ hb), Le.refl _, s4.pin⟩, ?_⟩
          unfold forRunO at ok
          cases er : evSs Φ ss (ρ.set t (.ow o)) μ with
          | bad => rw [er] at ok; exact ok.elim
          | rt _ _ => rw [er] at ok; exact ok.elim
          | er _ _ _ _ => rw [er] at ok; exact ok.elim
          | bk _ _ => rw [er] at ok; exact ok.elim
          | ct _ _ => rw [er] at ok; exact ok.elim
          | nx ρ2 μ2 =>
            rw [er] at ok
            intro g' H2 σ' fp4 s'
            have s5 := st_over s4 (fun _ h => h) (fun _ h => h) s'
            -- what stands apart stays
            have stay : ∀ b u, H' b = some u → b ∉ fp3 → g.F b = none → b ∉ g.G → H2 b = some u ∧ g'.F b = none ∧ b ∉ g'.G ∧ b ∉ fp4 := fun b u eb h1 h2 h3 => by
              have hno : b ∉ (g.more fp3).G := fun y => (List.mem_append.mp y).elim h3 h1
              refine ⟨s'.go.keep b u eb hno, ?_, fun y => Nw.no (s'.go.gG b y) eb hno, fun y => (s'.new b y).no eb hno⟩
              cases eF : g'.F b with
              | none => rfl
              | some w =>
                rcases s'.go.gF b (ne_none eF) with y | y
                · exact absurd h2 y
                · exact (y.no eb hno).elim
            have hf2 : ∀ b ∈ f2, b ∉ fp3 := fun b hb y => (sub4 b y).elim (hfr b (List.mem_append_right _ hb)).1 fun y => m3 b y b hb rfl
            refine ⟨ρ2, μ2, g', fp4, s5, ⟨f2, ?_, m2, fun y => q7 (List.mem_append_right _ y), fun b hb => ?_⟩, ?_, ok⟩
            · exact Ows.le (g := g) ⟨s'.go.le.F, s'.go.le.rt⟩ _ _ _ ow2 fun b hb u eb => (stay b u eb (hf2 b hb) (hfr b (List.mem_append_right _ hb)).2.1 (hfr b (List.mem_append_right _ hb)).2.2.1).1
            · obtain ⟨u, eb⟩ := Ows.there _ _ _ ow2 b hb
              obtain ⟨k1, k2, k3, k4⟩ := stay b u eb (hf2 b hb) (hfr b (List.mem_append_right _ hb)).2.1 (hfr b (List.mem_append_right _ hb)).2.2.1
              exact ⟨k4, k2, k3, (hfr b (List.mem_append_right _ hb)).2.2.2⟩
            · obtain ⟨k1, k2, k3, k4⟩ := stay p3' _ q1 q5 q2 q3
              exact ⟨k1, k2, k3, k4⟩
        · rintro σ H ⟨ρ, μ, g, fp, s, _, _, ok⟩
          rw [← hlen, List.drop_length] at ok
          exact ok g H σ fp s
    · exact ok.elim
  · exact ok.elim
end
end MP
/-! MP15 -/
set_option Elab.async false
set_option linter.all false
set_option maxRecDepth 100000
set_option maxHeartbeats 4000000
/-! MP15: raise; the looks okS; every statement that passes them does as my evaluator says. -/
namespace MP
open PySem PySem.Spec PyProof.Rows L2
def stz (z : List Nat) (is : List Nat) : Bool := z.all fun j => !is.contains j
theorem stz_of {z : List Nat} {is : List Nat} (h : stz z is = true) : ∀ j ∈ z, j ∉ is := by
  intro j hj hz
  have := List.all_eq_true.mp h j hj
  rw [List.contains_iff_mem.mpr hz] at this
  cases this
def lcPart : E → Option (E × T × E × Option E)
  | .lc elt tg it cd => some (elt, tg, it, cd)
  | .bor _ (.lc elt tg it cd) => some (elt, tg, it, cd)
  | .lcO elt tg it => some (elt, tg, it, none)
  | .bor _ (.lcO elt tg it) => some (elt, tg, it, none)
  | _ => none
/-- name = [..], stored at once -/
def okLc (n : Nat) (k : Ck) (i : Nat) (e : E) (q p : Expr) : Bool := match lcPart e, q, p with
  | some (elt, tg, it, cd), .Name y py, .ListComp pp [⟨tp, ip, cs, 0⟩] scope pos' => decide (k.N[i]? = some y) && (decide (k.sc.names.lookup y = some .local) && (decide (k.sc.kind = .function) && ((py.line == pos'.line) && (!(scope.names.any fun (n, k) => n == y && (k == .local || k == .cell)) &&
      (okI n k it tp ip && (simple ip && (blkC k.N k.sc scope (ownOf k (tgN tg)) && (okG (k.blk scope) tg tp && (okE n (k.blk scope) elt pp && okC n (k.blk scope) cd cs)))))))))
  | _, _, _ => false
/-- name = [..], the name a cell -/
def isCell (k : Ck) : Expr → Bool
  | .Name y _ => decide (k.sc.names.lookup y = some .cell)
  | _ => true
def augOk : BO → Operator → Bool
  | .add, .Add => true | .sub, .Sub => true
  | _, _ => false
def okFlag (k : Ck) (en : Str) (all : List Str) : HF → Expr → Bool
  | .is y cl, .Call (.Name f _) [.Name e' _, .Name y' _] [] _ => decide (f = "isinstance") && (decide (e' = en) && (decide (y' = y) && (k.gl "isinstance" && (k.bl.contains "isinstance" && (k.gl y && all.all fun c => k.xk.contains (c, y, cl.contains c))))))
  | .lit b, .Constant (.bool b') _ _ => decide (b = b')
  | _, _ => false
def okFlags (k : Ck) (en : Str) (all : List Str) : List HF → List Expr → Bool
  | [], [] => true
  | h :: hs, p :: ps => okFlag k en all h p && okFlags k en all hs ps
  | _, _ => false
def okHf (k : Ck) (en : Str) (cs : List Str) (h : HF) (p : Expr) : Bool := match h, p with
  | .fd f, .Attribute (.Name e' _) f' _ => decide (f' = f) && (decide (e' = en) && cs.all fun c => k.xf.contains (c, f) && k.xk.any fun p => p.1 == c)
  | h, p => okFlag k en cs h p
def okHfs (k : Ck) (en : Str) (cs : List Str) : List HF → List Expr → Bool
  | [], [] => true
  | h :: hs, p :: ps => okHf k en cs h p && okHfs k en cs hs ps
  | _, _ => false
def okAct (k : Ck) (z : List Nat) (en : Str) (ie : Nat) (cs : List Str) : HA → Stmt → Bool
  | .ls j l, .Assign [.Name jn _] (.List ps _) _ => k.loc j jn && (stz z [j] && (decide (j ≠ ie) && (okHfs k en cs l ps && decide (l.length ≤ 1000))))
  | .tp j l, .Assign [.Name jn _] (.Tuple ps _ _) _ => k.loc j jn && (stz z [j] && (decide (j ≠ ie) && (okHfs k en cs l ps && decide (l.length ≤ 1000))))
  | .on j f, .Assign [.Name jn _] (.Attribute (.Name e' q1) f' q2) _ => k.loc j jn && (stz z [j] && (decide (j ≠ ie) && okHf k en cs (.fd f) (.Attribute (.Name e' q1) f' q2)))
  | _, _ => false
def okActs (k : Ck) (z : List Nat) (en : Str) (ie : Nat) (cs : List Str) : List HA → List Stmt → Bool
  | [], [] => true
  | h :: hs, p :: ps => okAct k z en ie cs h p && okActs k z en ie cs hs ps
  | _, _ => false
def okHs (k : Ck) (z : List Nat) (all : List Str) : List HC → List ExceptHandler → Bool
  | [], [] => true
  | h :: hs, .ExceptHandler (some (.Name yq _)) (some en) (b0 :: suite) _ :: r => (decide (yq = h.y) && (k.gl h.y && (k.xc.contains h.y && (decide (k.N[h.ie]? = some en) && (decide (k.sc.names.lookup en = some .local) &&
      (okName en && (stz z [h.ie] && ((all.all fun c => k.xm.contains (c, h.y, h.cs.contains c)) && okActs k z en h.ie h.cs h.acts (b0 :: suite))))))))) && okHs k z all hs r
  | _, _ => false
def okRT (n : Nat) (k : Ck) : List (Nat ⊕ E) → List Expr → Bool
  | [], [] => true
  | .inl i :: l, .Name x _ :: ps => k.vis i x && okRT n k l ps
  | .inr e :: l, p :: ps => noStar p && (okE n k e p && okRT n k l ps)
  | _, _ => false
mutual
def okS : Nat → List Nat → Ck → S → Stmt → Bool
  | 0, _, _, _, _ => false
  | n + 1, z, k, .asg (.nm i) e, .Assign [q] p _ => stz z [i] && (okG k (.nm i) q && (okLc n k i e q p || ((noLC p || isCell k q) && okE n k e p)))
  | n + 1, z, k, .asg (.tp ts) e, .Assign [q] p _ => stz z (tgN (.tp ts)) && (okG k (.tp ts) q && (notTup p && (noLC p && okE n k e p)))
  | n + 1, z, k, .own i e, .Assign [q] p _ => stz z [i] && (okG k (.nm i) q && (okLc n k i e q p || ((noLC p || isCell k q) && okE n k e p)))
  | n + 1, z, k, .aug i op e, .AugAssign (.Name x _) o p _ => stz z [i] && (k.loc i x && (augOk op o && okE n k e p))
  | n + 1, z, k, .ex e, .Expr p _ => noLC p && okE n k e p
  | n + 1, z, k, .app i e, .Expr (.Call (.Attribute (.Name x _) m ap) [p] [] cpos) _ => decide (m = "append") && (k.vis i x && ((ap.endLine == cpos.line) && (noStar p && okE n k e p)))
  | n + 1, z, k, .ins i kx e, .Expr (.Call (.Attribute (.Name x _) m ap) [q, p] [] cpos) _ => decide (m = "insert") && (k.vis i x && ((ap.endLine == cpos.line) && ((noStar q && noStar p) && (okE n k kx q && okE n k e p))))
  | n + 1, z, k, .setx i kx e, .Assign [.Subscript (.Name x _) q _] p _ => k.vis i x && (simple q && (okE n k e p && okE n k kx q))
  | n + 1, z, k, .appx i kx e, .Expr (.Call (.Attribute (.Subscript (.Name x _) q _) m ap) [p] [] cpos) _ => decide (m = "append") && (k.vis i x && (simple q && ((ap.endLine == cpos.line) && (noStar p && (okE n k kx q && okE n k e p)))))
  | n + 1, z, k, .setxx i k1 k2 e, .Assign [.Subscript (.Subscript (.Name x _) q _) q2 _] p _ => k.vis i x && (simple q && (simple q2 && (okE n k e p && (okE n k k1 q && okE n k k2 q2))))
  | n + 1, z, k, .fset c i f e, .Assign [.Attribute (.Name x _) f' _] p _ => decide (f = f') && (k.fl.contains (c, f) && (k.vis i x && okE n k e p))
  | n + 1, z, k, .ifs t a b, .If c p q _ => okT n k t c && (okSs n z k a p && okSs n z k b q)
  | n + 1, z, k, .whl _ t b, .While c p [] _ => okT n k t c && okSs n z k b p
  | n + 1, z, k, .for tg it b, .For tq ip p [] _ => stz z (tgN tg) && (okG k tg tq && (okI n k it tq ip && (simple ip && okSs n z k b p)))
  | n + 1, z, k, .ret e, .Return (some p) _ => okE n k e p
  | n + 1, z, k, .retN, .Return none _ => true
  | n + 1, z, k, .retO i, .Return (some (.Name x _)) _ => k.vis i x
  | n + 1, z, k, .rais c [], .Raise (some (.Call (.Name x _) [.Constant (.str _) _ _] [] _)) none _ => decide (c = x) && (k.gl x && k.xp.contains x)
  | n + 1, z, k, .rais c (e :: es), .Raise (some (.Call (.Name x _) (p :: ps) [] _)) none _ => decide (c = x) && (k.gl x && (k.xi.contains x && (decide (2 ≤ k.lv) && (decide ((e :: es).length = (xNames c).length) && (decide ((xNames c).length ≤ 900) && okEs n k (e :: es) (p :: ps))))))
  | n + 1, z, k, .try b y all cs ie j l, .Try body [.ExceptHandler (some (.Name yq _)) (some en) [.Assign [.Name jn _] (.List ps _) _] _] [] [] _ => decide (yq = y) && (k.gl y && (k.xc.contains y && (decide (k.N[ie]? = some en) && (decide (k.sc.names.lookup en = some .local) &&
      (okName en && (k.loc j jn && (decide (ie ≠ j) && (stz z [ie, j] && ((all.all fun c => k.xm.contains (c, y, cs.contains c)) && (okFlags k en all l ps && (decide (l.length ≤ 1000) && okSs n z k b body)))))))))))
  | n + 1, z, k, .tryM b all hs, .Try body (h0 :: hds) [] [] _ => okHs k z all hs (h0 :: hds) && okSs n z k b body
  | n + 1, z, k, .papp pl _ e, .Expr (.Call (.Attribute o m ap) [p] [] cpos) _ => decide (m = "append") && (okPl k pl.i pl.rs o && ((ap.endLine == cpos.line) && (noStar p && okE n k e p)))
  | n + 1, z, k, .pins pl _ kx e, .Expr (.Call (.Attribute o m ap) [q, p] [] cpos) _ => decide (m = "insert") && (okPl k pl.i pl.rs o && ((ap.endLine == cpos.line) && ((noStar q && noStar p) && (okE n k kx q && okE n k e p))))
  | n + 1, z, k, .pset pl x _ e, .Assign [.Subscript o q _] p _ => okPl k pl.i pl.rs o && (okIx k (some x) (some q) && okE n k e p)
  | n + 1, z, k, .pfld pl c f _ e, .Assign [.Attribute o f' _] p _ => decide (f = f') && (k.fl.contains (c, f) && (okPl k pl.i pl.rs o && okE n k e p))
  | n + 1, z, k, .pclr pl, .Expr (.Call (.Attribute o m ap) [] [] cpos) _ => decide (m = "clear") && (okPl k pl.i pl.rs o && (ap.endLine == cpos.line))
  | n + 1, z, k, .pdel pl x, .Expr (.Call (.Attribute o m ap) [q] [] cpos) _ => decide (m = "pop") && (okPl k pl.i pl.rs o && (okIx k (some x) (some q) && (ap.endLine == cpos.line)))
  | n + 1, z, k, .ppop tg pl, .Assign [q] (.Call (.Attribute o m ap) [] [] cpos) _ => decide (m = "pop") && (stz z (tgN tg) && (okPl k pl.i pl.rs o && ((ap.endLine == cpos.line) && okG k tg q)))
  | n + 1, z, k, .pmov pl pl2, .Expr (.Call (.Attribute o m ap) [.Call (.Attribute o2 m2 ap2) [] [] cpos2] [] cpos) _ => (decide (m = "append") && decide (m2 = "pop")) && ((okPl k pl.i pl.rs o && okPl k pl2.i pl2.rs o2) && ((ap.endLine == cpos.line) && (ap2.endLine == cpos2.line)))
  | n + 1, z, k, .forO tg pl b, .For tq ip p [] _ => stz (pl.i :: z) (tgN tg) && (okPl k pl.i pl.rs ip && (okG k tg tq && (simple ip && okSs n (pl.i :: z) k b p)))
  | n + 1, z, k, .cutL i, .Assign [q] (.Subscript (.Name x _) (.Slice none (some (.UnaryOp .USub (.Constant (.int 1) _ _) _)) none _) _) _ => stz z [i] && (k.vis i x && okG k (.nm i) q)
  | n + 1, z, k, .retC i, .Return (some (.Subscript (.Name x _) (.Slice none (some (.UnaryOp .USub (.Constant (.int 1) _ _) _)) none _) _)) _ => k.vis i x
  | n + 1, z, k, .fsetO c i f e, .Assign [.Attribute (.Name x _) f' _] p _ => decide (f = f') && (k.fl.contains (c, f) && (k.vis i x && okE n k e p))
  | n + 1, z, k, .forC t i es b, .For tq (.BinOp (.Name x _) .Add (.List ps _) _) p [] _ => stz z [t, i] && (k.vis i x && (okG k (.nm t) tq && (okEs n k es ps && okSs n z k b p)))
  | n + 1, z, k, .forI tg i b, .For (.Tuple elts kk tpos) (.Call (.Attribute (.Name x _) m ap) [] [] cpos) p [] _ => decide (m = "items") && (stz z (tgN tg) && (k.vis i x && ((ap.endLine == cpos.line) && (okG k tg (.Tuple elts kk tpos) && okSs n z k b p))))
  | n + 1, z, k, .resl i e, .Assign [q] (.BinOp (.Subscript (.Name x _) (.Slice none (some (.UnaryOp .USub (.Constant (.int 1) _ _) _)) none _) _) .Add (.List [p] _) _) _ => stz z [i] && (k.vis i x && (okG k (.nm i) q && (noStar p && okE n k e p)))
  | n + 1, z, k, .retT l, .Return (some (.Tuple ps _ _)) _ => okRT n k l ps
  | n + 1, z, k, .unpT is i, .Assign [q] (.Name x _) _ => stz z is && (k.vis i x && okG k (.tp (is.map .nm)) q)
  | n + 1, z, k, .brk, .Break _ => true
  | n + 1, z, k, .cnt, .Continue _ => true
  | n + 1, z, k, .pass, .Pass _ => true
  | n + 1, z, k, .unk, _ => true
  | _ + 1, _, _, _, _ => false
def okSs : Nat → List Nat → Ck → List S → List Stmt → Bool
  | 0, _, _, _, _ => false
  | n + 1, z, k, [], [] => true
  | n + 1, z, k, .frz _ _ :: r, ps => okSs n z k r ps
  | n + 1, z, k, .celN _ :: r, ps => okSs n z k r ps
  | n + 1, z, k, .unc _ :: r, ps => okSs n z k r ps
  | n + 1, z, k, s :: r, p :: ps => okS n z k s p && okSs n z k r ps
  | _ + 1, _, _, _, _ => false
end
section
variable {X : Cx} {z : List Nat} {ck : Ck} {Φ : Fns} {W : WX} {pos pos' ap p1 p2 : Pos} {p q r u tp ip : Expr} {a b d e kx it : E} {es : List E} {ps cs : List Expr} {tg : T} {i n : Nat}
theorem st_rais (c : At X ck Φ W) {x m : Str} {j : Nat} (hg : ck.gl x = true) (hx : x ∈ ck.xp) : PS X (.Raise (some (.Call (.Name x p1) [.Constant (.str m) j p2] [] pos')) none pos) (RS X z W Φ (.rais x [])) := by
  obtain ⟨h1, h2, h3, h4, h5⟩ := c.st.xp x hx
  refine PS.imp (ps_raise c.calm c.tk (pmk_own PySem.F.excBase_ValueError h2 h1 h3 (raises_own h4 h5) (c.gl hg) (okName_db (Ck.okN hg)))) fun D σ H h => ?_
  obtain ⟨pn, gb, g0, H0, hpn, ρ, μ, g, fp, s, ok⟩ := h
  exact ok g H σ fp _ none s ⟨rfl, .inl ⟨rfl, rfl⟩⟩
theorem evEs_len : ∀ {es : List E} {ρ : List Sl} {μ μ1 : List O} {xs : List O}, evEs Φ es ρ μ = .ok xs μ1 → xs.length = es.length
  | [], ρ, μ, μ1, xs, h => by
    simp only [evEs] at h
    cases h
    rfl
  | e :: es, ρ, μ, μ1, xs, h => by
    simp only [evEs] at h
    cases h1 : evE Φ e ρ μ with
    | ok x μ2 =>
      rw [h1, Rs.bind_ok] at h
      cases h2 : evEs Φ es ρ μ2 with
      | ok ys μ3 =>
        rw [h2, Rs.bind_ok] at h
        cases h
        rw [List.length_cons, List.length_cons, evEs_len h2]
      | er _ _ _ => rw [h2] at h; cases h
      | bad => rw [h2] at h; cases h
    | er _ _ _ => rw [h1] at h; cases h
    | bad => rw [h1] at h; cases h
/-- an error with fields -/
theorem st_raisX (c : At X ck Φ W) {x : Str} (hg : ck.gl x = true) (hx : x ∈ ck.xi) (h2 : 2 ≤ ck.lv) (hl : es.length = (xNames x).length) (hn : (xNames x).length ≤ 900) (hpos : 0 < es.length) (hs : (p :: ps).all noStar = true) (ha : PA X (p :: ps) (RA X W Φ es)) :
    PS X (.Raise (some (.Call (.Name x p1) (p :: ps) [] pos')) none pos) (RS X z W Φ (.rais x es)) := by
  obtain ⟨hm, T, fI, fd, pr, iC, tI, hb, F⟩ := c.st.xi x hx
  have hs' := hs
  simp only [List.all_cons, Bool.and_eq_true] at hs'
  refine PS.imp (ps_raise c.calm c.tk (pmk_oex (dvs := []) T iC tI F (c.room.mono (by omega)) hb .nil passL (c.gl hg) hm ha (okName_db (Ck.okN hg)) (star_cons hs'.1) (star_none hs'.2))) fun D σ H h => ?_
  obtain ⟨pn, gb, g0, H0, hpn, ρ, μ, g, fp, s, ok⟩ := h
  have ok : FlOk (gm X) W pn gb g0 H0 D ((evEs Φ es ρ μ).go ρ fun xs μ1 => .er x (fzs xs) ρ μ1) := ok
  refine ⟨ρ, μ, g, fp, s.sr, FlOk.er_of s ok, fun xs μ1 e g1 H1 vs fo G => ?_⟩
  rw [e] at ok
  have ok : ∀ g H σ fp cls d, ST (gm X) pn gb g0 H0 g μ1 H ρ σ fp → XR (gm X) g H x (fzs xs) cls d → W cls d σ H := ok
  obtain ⟨G1, r1⟩ := G.fz
  have hlen : vs.length = (xNames x).length := by
    rw [← r1.len, fzs_map, List.length_map, evEs_len e, hl]
  refine ⟨by omega, fun a na => ⟨a, vs, by rw [List.append_nil], hlen, upd_same, fun d flds nd hda hlk => ⟨rfl, d, flds, upd_same, ?_, ?_, ?_⟩⟩⟩
  · rw [upd_ne hda, upd_same]
  · rw [upd_ne hda] at nd
    exact nd
  · rw [upd_ne hda] at nd
    have hH : upd (del (upd (upd (upd H1 a (exo a (He.ga X.K x) none)) d (exd d flds)) a (exo a (He.ga X.K x) (some d))) a) d (.xd flds) = upd H1 d (.xd flds) := by
      funext b
      by_cases hbd : b = d
      · rw [hbd, upd_same, upd_same]
      · rw [upd_ne hbd, upd_ne hbd]
        by_cases hba : b = a
        · rw [hba, del_same, na]
        · rw [del_ne hba, upd_ne hba, upd_ne hbd, upd_ne hba]
    rw [hH]
    exact ok _ _ σ fp _ _ (s.to (G1.trans (Go.made (u := .xd flds) G1.F G1.cl nd))) ⟨rfl, .inr ⟨d, flds, vs, rfl, upd_same, r1, hlen, hlk, fun z => by
      have := congrArg List.length z
      rw [fzs_map, List.length_map, evEs_len e] at this
      simp at this
      rw [this] at hpos
      simp at hpos⟩⟩
theorem ss_frz {dr : List Nat} {ss : List S} {sts : List Stmt} (h : PSs X sts (RSs X z W Φ ss)) : PSs X sts (RSs X z W Φ (.frz i dr :: ss)) := PSs.imp h fun D σ H hh => by
  obtain ⟨pn, gb, g0, H0, hpn, ρ, μ, g, fp, s, ok⟩ := hh
  obtain ⟨L, fp1, s1⟩ := s.lend [i]
  obtain ⟨fp2, s2⟩ := s1.drops dr
  exact ⟨pn, gb, g0, H0, hpn, _, μ, _, fp2, s2, ok⟩
theorem sole_cell {l : Nat} (c : At X ck Φ W) (h : isCell ck q = true) : swapsWithSole [q] p l X.env = pure false := by
  have key : ∀ scope, (match p with
      | .ListComp _ _ s _ => some s
      | .SetComp _ _ s _ => some s
      | .DictComp _ _ _ s _ => some s
      | _ => none) = some scope → swapsWith p (some q) l X.env = pure false := by
    intro scope hs
    cases q with
    | Name y py =>
      have h1 : X.env.kindOf y = some .cell := by
        show X.env.scope.names.lookup y = some .cell
        rw [c.sc]
        exact of_decide_eq_true h
      have h0 : (NameKind.cell == NameKind.local) = false := by decide
      cases p <;> first | (cases hs; done) | (unfold swapsWith; simp [h1, h0])
    | _ => cases p <;> first | (cases hs; done) | rfl
  cases p <;> first | rfl | exact key _ rfl
theorem st_asgC (c : At X ck Φ W) (hz : ∀ j ∈ z, j ∉ tgN tg) (hl : noLC p = true ∨ isCell ck q = true) (hs : noStar q = true) (ht : notTup p = true ∨ notTup q = true) (he : PE X p (RE X W Φ a)) (hg : PG X q (gT X.K tg)) : PS X (.Assign [q] p pos) (RS X z W Φ (.asg tg a)) :=
  PS.imp (ps_asg he hg (hl.elim sole_no (sole_cell c)) (stores_no ht) (asg_one hs)) fun D σ H h => rd_asg hz h
theorem st_ownC (c : At X ck Φ W) (hz : ∀ j ∈ z, j ≠ i) (hl : noLC p = true ∨ isCell ck q = true) (hs : noStar q = true) (ht : notTup p = true ∨ notTup q = true) (he : PE X p (RE X W Φ a)) (hg : PG X q (gName i)) : PS X (.Assign [q] p pos) (RS X z W Φ (.own i a)) :=
  PS.imp (ps_asg he hg (hl.elim sole_no (sole_cell c)) (stores_no ht) (asg_one hs)) fun D σ H h => rd_own hz h
theorem sw_attr {o : Expr} {f : Str} {l : Nat} {env : Env} : swapsWith p (some (.Attribute o f pos')) l env = pure false := by
  cases p <;> rfl
theorem okLc_at (c : At X ck Φ W) {t : S} (h : okLc n ck i a q p = true)
    (hr : ∀ elt tg it cd, lcPart a = some (elt, tg, it, cd) → ∀ D σ H, RS X z W Φ t D σ H → tAsg (tLc (RI X W Φ it) (gT X.K tg) (RC X Φ cd) (RE X (fun _ _ _ _ => False) Φ elt) (tgN tg)) (gName i) D σ H) : PS X (.Assign [q] p pos) (RS X z W Φ t) := by
  unfold okLc at h
  split at h
  · rename_i elt tg it cd y py pp tp ip cs scope pos' e1
    simp only [Bool.and_eq_true, decide_eq_true_eq, Bool.not_eq_true'] at h
    obtain ⟨h1, h2, h3, h4, h5, h6, h7, h8, h9, h10, h11⟩ := h
    have bo := blkOk_by h8
    rw [← c.sc, ← c.N] at bo
    refine st_lc c h1 (by rw [c.sc]; exact h2) (sw_true (by rw [c.sc]; exact h3) (by rw [c.sc]; exact h2) h4 h5) ((all Φ n).I c h6) bo (ownOf_eq (by exact fun i hi => okG_own h9 i hi)) (fun s H C cl fp => g_ok (c.blk bo s H C cl fp) _ _ h9)
      (fun s H C cl fp => (all Φ n).C (c.blk bo s H C cl fp) h11) (fun s H C cl fp => (all Φ n).E (c.blk bo s H C cl fp) h10) h7 (hr _ _ _ _ e1)
  · cases h
theorem lc_read {D : Ends} {σ : L2.St} {H : Hp} {g : TG} {elt : E} {tg : T} {it : E} {cd : Option E} (e : lcPart a = some (elt, tg, it, cd)) (h : tAsg (RE X W Φ a) g D σ H) : tAsg (tLc (RI X W Φ it) (gT X.K tg) (RC X Φ cd) (RE X (fun _ _ _ _ => False) Φ elt) (tgN tg)) g D σ H := by
  unfold lcPart at e
  split at e
  · cases e
    exact rd_lc h
  · cases e
    exact rd_lcB h
  · cases e
    exact rd_lcO h
  · cases e
    exact rd_lcO (rd_bor h)
  · cases e
theorem okG_nt {k : Ck} (h : okG k (.nm i) q = true) : notTup q = true := by
  cases q <;> first | rfl | (simp [okG] at h)
theorem augOk_of {o : BO} {oo : Operator} (h : augOk o oo = true) : (o = .add ∧ oo = .Add) ∨ (o = .sub ∧ oo = .Sub) := by
  cases o <;> cases oo <;> first | exact .inl ⟨rfl, rfl⟩ | exact .inr ⟨rfl, rfl⟩ | cases h
theorem stz_1 (h : stz z [i] = true) : ∀ j ∈ z, j ≠ i := fun j hz q => stz_of h j hz (by simp [q])
/-- a name that is stored -/
theorem loc_at (c : At X ck Φ W) {x : Str} (h : ck.loc i x = true) : ck.N[i]? = some x ∧ Loc X.env.scope x ∧ (X.fn x = true ∨ X.env.scope.names.lookup x = some .local) := by
  simp only [Ck.loc, Bool.and_eq_true, decide_eq_true_eq] at h
  obtain ⟨h1, h2⟩ := h
  refine ⟨h1, ?_⟩
  cases e1 : ck.sc.names.lookup x with
  | none => rw [e1] at h2; cases h2
  | some kd =>
    cases kd with
    | «local» => exact ⟨.inl (by rw [c.sc]; exact e1), .inr (by rw [c.sc]; exact e1)⟩
    | cell =>
      rw [e1] at h2
      exact ⟨.inr (by rw [c.sc]; exact e1), .inl (c.cl x (by simpa using h2))⟩
    | _ => rw [e1] at h2; cases h2
/-- where a def's statements stand -/
def FrOk (X : Cx) : Prop := X.stack = X.env :: X.outer ∧ X.env.frame = some X.env.locals
/-! ### isinstance of a caught error that has fields -/
theorem class_exc {prog : Program} {w : World} {A : Around} {E : Value → Shared → Prop} {s : Shared} {K : PySem.W.Frag} {x D : Addr} {ox : Obj} {od : Option Obj} {Q : Option Value → Shared → Prop} (C : ExcC K D) (X : K.In s.heap) (I : PySem.W.InstAt s.heap x ox D od) (h : Q (some (.ref D)) { s with toks := s.toks + 1 }) : wpAny (model prog w) A (getAttr? (.ref x) "__class__") Q E s := by
  have hf : PySem.W.findObj K D od "__class__" = some (.bind (.builtin "getset_descriptor.__get__") (.builtin "object.__class__")) := by
    obtain ⟨cd, hc, _⟩ := PySem.W.any_some C.hd
    unfold PySem.W.findObj
    rw [hc, Option.bind_some, C.ha, Option.bind_some]
    simp [C.hn, C.ht]
  obtain ⟨hp, g, d, t, os⟩ := s
  have L0 := I.type (M := model prog w)
  have L1 := PySem.W.looks_findIn (M := model prog w) X C.hg
  have L2 := PySem.W.looks_findIn (M := model prog w) X C.hk
  have L3 := PySem.W.looks_find (M := model prog w) X I hf
  have sub : PySem.W.Looks (model prog w) hp (isInstance (.ref x) (.type "BaseException")) true := L0.andThen (PySem.W.looks_subIn X C.hs)
  have hx0 : (false && onTheHeap (Value.builtin "BaseException.__getattribute__")) = false := rfl
  have hx2 : (Value.builtin "BaseException.__getattribute__" == Value.builtin "object.__getattribute__") = false := by decide +kernel
  have hx1 : (onTheHeap (Value.ref D) && Value.builtin "BaseException.__getattribute__" == Value.builtin "object.__getattribute__") = false := by rw [hx2]; rfl
  unfold getAttr? getAttrBy? getAttrBy
  refine wpAny_bind (wpAny_mkText (wpAny_bind (wpAny_attempt (wpAny_holding (wpAny_bind (L0.at (wpAny_bind (L1.at ?_))))))))
  show wpAny _ _ (if (onTheHeap (Value.ref D) && Value.builtin "BaseException.__getattribute__" == Value.builtin "object.__getattribute__") = true then _ else _) _ _ _
  rw [hx1, if_neg Bool.false_ne_true]
  unfold getAttrByItsOwn hookBefore
  refine wpAny_bind ?_
  rw [if_pos (show onTheHeap (Value.ref D) = true from rfl)]
  refine L2.at ?_
  refine wpAny_bind (wpAny_attempt (wpAny_holding ?_))
  unfold callGetattribute
  rw [hx0, if_neg Bool.false_ne_true]
  unfold boundAndCalled
  rw [PySem.F.excAttr_ValueError.ga.bind (.ref x)]
  refine wpAny_bind (wpAny_pure ?_)
  show wpAny _ _ (call (.builtin "BaseException.__getattribute__") [.ref x, .str "__class__" t]) _ _ _
  refine wpAny_call (codeAny_call_builtin PySem.F.excAttr_ValueError.ga.plain PySem.F.entry_bexc_ga ?_)
  refine @PySem.W.check_slot (model prog w) _ _ ⟨hp, g, d, t + 1, os⟩ "BaseException.__getattribute__" "BaseException" "__getattribute__" (.ref x) [.str "__class__" t] [] _ (by decide +kernel) (by decide +kernel) sub (PySem.F.args_bexc_ga (.ref x) (.str "__class__" t)) ?_
  unfold Builtin.«object.__getattribute__»
  refine wpAny_bind (wpAny_of_eq (a := ((Value.ref x : Value), [Value.str "__class__" t])) (by first | rfl | (simp only [slotArgs]; rfl)) ?_)
  refine wpAny_bind (wpAny_pure (wpAny_bind (L0.at (wpAny_bind (L3.at ?_)))))
  show wpAny _ _ (holding [Value.builtin "object.__class__"] (call (.builtin "getset_descriptor.__get__") [.builtin "object.__class__", .ref x, .ref D]) >>= ret) _ _ _
  refine wpAny_bind (wpAny_holding (wpAny_call (PySem.W.class_get (s := ⟨hp, g, d, t + 1, os⟩) (ox := ox) X I C.hm ?_)))
  refine wpAny_pure ?_
  show wpAny _ _ (handedOut (.ref D)) _ _ _
  rw [PySem.W.handedOut_of (v := .ref D) rfl]
  first
    | exact wpAny_pure (wpAny_pure h)
    | exact wpAny_pure h
    | exact wpAny_pure (wpAny_bind (wpAny_pure (wpAny_pure h)))
theorem kitx_exc {K : PySem.W.Frag} {x D : Addr} {ox : Obj} {od : Option Obj} (C : ExcC K D) : PySem.W.KitX K (.ref x) (.ref D) (fun h => PySem.W.InstAt h x ox D od) where
  ty := fun _ _ _ I => I.type
  it := fun _ _ X _ => by
    obtain ⟨cdD, hcD, _⟩ := PySem.W.any_some C.hd
    unfold PySem.W.clsIn at hcD
    split at hcD
    · rename_i c' d' cd' sl' ho
      intro A' Q' E' s' k q
      unfold isType loadHead
      exact wpAny_bind (wpAny_loadPart (k _ _ (X _ _ ho)) (wpAny_pure q))
    · cases hcD
  ne := fun h tp dd its n sl X htp => by
    obtain ⟨cdD, hcD, _⟩ := PySem.W.any_some C.hd
    refine Bool.eq_false_iff.mpr fun q => ?_
    have e : D = tp := Value.ref.inj (beq_iff_eq.mp q)
    subst e
    unfold PySem.W.clsIn at hcD
    split at hcD
    · rename_i c' d' cd' sl' ho
      have z := (X _ _ ho).symm.trans htp
      cases z
    · cases hcD
  ca := fun X I k => class_exc C X I k
/-- the fields of a caught error lie there -/
def XdOk (d : Option Addr) (H : Hp) : Prop := d = none ∨ ∃ dd fs, d = some dd ∧ H dd = some (.xd fs)
def rIsF (K : PySem.W.Frag) (D a : Addr) (d : Option Addr) : List V → Hp → VK → Prop := fun xs H Q => ∃ (c : V) (cv : Value) (b : Bool), xs = [.ref a, c] ∧ XdOk d H ∧ (∀ u, RelV c u → u = cv) ∧ PySem.W.kitOne K (.ref D) cv = some b ∧ Q (.bl b) H
theorem call_isF {X : Cx} {a D : Addr} {d : Option Addr} {oe : Obj} {pn : List (Addr × Obj)} (C : ExcC X.K D) (hz : Zc (.ref D) d oe) (hf : ∃ vs, oe.data = .fields vs) : CallR (X.suite a ((a, oe) :: pn)) (.builtin "isinstance") (rIsF X.K D a d) := by
  intro pins s σ H xs us Q I r h
  obtain ⟨c, cv, b, rfl, hd, hcv, e, q⟩ := h
  cases r with
  | cons rx rr =>
    cases rr with
    | cons rt rr =>
      cases rr
      cases rx
      have ec := hcv _ rt
      subst ec
      obtain ⟨hget, _⟩ := I.pin (a, oe) (List.mem_append.mpr (.inl List.mem_cons_self))
      obtain ⟨vs, hv⟩ := hf
      have J : ∃ od, PySem.W.InstAt s.heap a oe D od := by
        rcases hd with rfl | ⟨dd, fs, rfl, hdd⟩
        · refine ⟨none, ?_⟩
          obtain ⟨oc, od, oda, osl⟩ := oe
          obtain ⟨h1, h2⟩ := hz
          dsimp only at h1 h2 hv
          subst h1 h2 hv
          exact ⟨hget, rfl, rfl, trivial⟩
        · have hx : ObjOk X.prog X.w H s.heap dd (.xd fs) := I.hok dd _ hdd
          obtain ⟨mA, hns, hr⟩ := hx
          obtain ⟨od, ho, hl⟩ := lookIn_ns hns
          exact ⟨some od, hget, hz.1, by unfold PySem.W.notCls; rw [hv] <;> rfl, by rw [hz.2]; exact ho⟩
      obtain ⟨od, J⟩ := J
      exact PySem.W.kia_one (kitx_exc (ox := oe) (od := od) C) I.kIn J e (fun z => nomatch z) fun tk => ⟨.bl b, H, I.kept (t' := tk) fun _ _ z => z, rfl, q⟩
/-- the marks, as a list is displayed -/
def tFls (K : PySem.W.Frag) (c : Str) (ie : Nat) (a : Addr) (d : Option Addr) (l : List HF) : TA := fun σ H Q => σ[ie]? = some (some (.ref a)) ∧ XdOk d H ∧ Q (l.map fun h => V.bl (hfV c h)) H
theorem pe_flag {X : Cx} {ck : Ck} {Φ : Fns} {W : WX} (c : At X ck Φ W) {ie : Nat} {en : Str} (hen : ck.N[ie]? = some en) (hloc : ck.sc.names.lookup en = some .local) (hok : okName en = true) {all : List Str} {x : Str} (hx : x ∈ all) {a : Addr} {d : Option Addr} {oe : Obj} {pn : List (Addr × Obj)} (hz : Zc (.ref (He.ga X.K x)) d oe) (hf : ∃ vs, oe.data = .fields vs)
    {h : HF} {p : Expr} (ok : okFlag ck en all h p = true) : PE (X.suite a ((a, oe) :: pn)) p (fun σ H Q => σ[ie]? = some (some (.ref a)) ∧ XdOk d H ∧ Q (.bl (hfV x h)) H) ∧ noStar p = true := by
  unfold okFlag at ok
  split at ok
  · rename_i y cl f p1 e' p2 y' p3 p4
    simp only [Bool.and_eq_true, decide_eq_true_eq, List.all_eq_true] at ok
    obtain ⟨rfl, rfl, rfl, h1, h2, h3, h4⟩ := ok
    have hk := List.contains_iff_mem.mp (h4 x hx)
    obtain ⟨hE, hkit⟩ := c.st.xk _ hk
    have hv : PE (X.suite a ((a, oe) :: pn)) (.Name e' p2) (tVar ie) := pe_var (X := X.suite a ((a, oe) :: pn)) (by show X.N[ie]? = _; rw [c.N]; exact hen) (.inl (by show X.env.scope.names.lookup e' = _; rw [c.sc]; exact hloc)) (okName_db hok) (okName_cd hok)
    have key : ∀ (cv : V) (cu : Value), RelV cv cu → (∀ u, RelV cv u → u = cu) → PE (X.suite a ((a, oe) :: pn)) (.Name y' p3) (tC cv) → PySem.W.kitOne X.K (.ref (He.ga X.K x)) cu = some (cl.contains x) →
        PE (X.suite a ((a, oe) :: pn)) (.Call (.Name "isinstance" p1) [.Name e' p2, .Name y' p3] [] p4) (fun σ H Q => σ[ie]? = some (some (.ref a)) ∧ XdOk d H ∧ Q (.bl (hfV x (.is y' cl))) H) := fun cv cu r ru hp hkit => by
      have ha : PA (X.suite a ((a, oe) :: pn)) [.Name e' p2, .Name y' p3] (tCons (tVar ie) (tCons (tC cv) tNil)) := pa_cons hv (pa_cons hp pa_nil (star_cons rfl)) (star_cons rfl)
      refine PE.imp (pe_callB (call_isF (X := X) hE hz hf) (c.gl h1) (c.st.bl _ (by simpa using h2)) (by decide +kernel) ha (okName_nm (Ck.okN h1)) (okName_db (Ck.okN h1)) (star_cons rfl) (star_none rfl)) fun σ H Q hh => ?_
      exact ⟨.ref a, hh.1, cv, cu, _, rfl, hh.2.1, ru, hkit, hh.2.2⟩
    refine ⟨?_, rfl⟩
    rcases hkit with ⟨hm, hkit⟩ | ⟨hve, hbl, hkit⟩
    · exact key (.ref (He.ga X.K y')) (.ref (He.ga X.K y')) rfl (fun u r => r) (pe_glob (X := X.suite a ((a, oe) :: pn)) (c.gl h3) (c.st.xc _ hm) rfl (okName_db (Ck.okN h3))) hkit
    · have hve : y' = "ValueError" := hve
      subst hve
      exact key (.ty "ValueError") (.type "ValueError") rfl (fun u r => r) (pe_bltn (X := X.suite a ((a, oe) :: pn)) (c.gl h3) (c.st.bl _ hbl) (by decide +kernel) rfl (okName_nm (Ck.okN h3)) (okName_db (Ck.okN h3))) hkit
  · rename_i b b' j' p'
    obtain rfl := of_decide_eq_true ok
    exact ⟨PE.imp pe_bl fun σ H Q hh => hh.2.2, rfl⟩
  · cases ok
theorem pa_flags {X : Cx} {ck : Ck} {Φ : Fns} {W : WX} (c : At X ck Φ W) {ie : Nat} {en : Str} (hen : ck.N[ie]? = some en) (hloc : ck.sc.names.lookup en = some .local) (hok : okName en = true) {all : List Str} {x : Str} (hx : x ∈ all) {a : Addr} {d : Option Addr} {oe : Obj} {pn : List (Addr × Obj)} (hz : Zc (.ref (He.ga X.K x)) d oe) (hf : ∃ vs, oe.data = .fields vs) :
    ∀ {l : List HF} {ps : List Expr}, okFlags ck en all l ps = true → PA (X.suite a ((a, oe) :: pn)) ps (tFls X.K x ie a d l)
  | [], ps, ok => by
    cases ps with
    | nil => exact PA.imp pa_nil fun σ H Q hh => hh.2.2
    | cons p ps => cases ok
  | h :: l, ps, ok => by
    cases ps with
    | nil => cases ok
    | cons p ps =>
      simp only [okFlags, Bool.and_eq_true] at ok
      obtain ⟨h1, h2⟩ := pe_flag c hen hloc hok hx hz hf ok.1
      exact PA.imp (pa_cons h1 (pa_flags c hen hloc hok hx hz hf ok.2) (star_cons h2)) fun σ H Q hh => ⟨hh.1, hh.2.1, hh.1, hh.2.1, hh.2.2⟩
/-- try, one clause that marks what it caught -/
theorem st_try (c : At X ck Φ W) (fr : FrOk X) {b : List S} {y en jn : Str} {all cs : List Str} {ie j : Nat} {l : List HF} {body : List Stmt} {ps : List Expr} {q1 q2 q3 q4 q5 : Pos} (hg : ck.gl y = true) (hy : y ∈ ck.xc) (hen : ck.N[ie]? = some en) (hloc : ck.sc.names.lookup en = some .local) (hok : okName en = true)
    (hj : ck.loc j jn = true) (hne : ie ≠ j) (hz : ∀ k ∈ z, k ∉ [ie, j]) (hm : ∀ x ∈ all, (x, y, cs.contains x) ∈ ck.xm) (hf : okFlags ck en all l ps = true) (hlen : l.length ≤ 1000)
    (hb : ∀ (W' : WX) (pn : List (Addr × Obj)) (xe : Value → Shared → Prop), At (X.tr pn xe) ck Φ W' → PassesOwn (model X.prog X.w) X.A X.env xe → PSs (X.tr pn xe) body (RSs X z W' Φ b)) :
    PS X (.Try body [.ExceptHandler (some (.Name y q1)) (some en) [.Assign [.Name jn q2] (.List ps q3) q4] q5] [] [] pos) (RS X z W Φ (.try b y all cs ie j l)) := by
  obtain ⟨k1, k2, k3⟩ := loc_at c hj
  have hy' := c.st.xc y hy
  refine PS.imp (ps_try_as (c := .ref (He.ga X.K y)) (i := ie) (ts := fun a cls d D σ H => ∃ x ∈ all, cls = .ref (He.ga X.K x) ∧ tAsg (tLst (tFls X.K x ie a d l)) (gName j) D σ H) (tb := fun W' => RSs X z W' Φ b) fr.1 fr.2 (by rw [c.N]; exact c.nd) (by rw [c.N]; exact hen)
    (by show X.env.scope.names.lookup en = _; rw [c.sc]; exact hloc) ⟨c.gl hg, okName_db (Ck.okN hg), .inl hy'⟩ c.tk
    (fun W' pn xe tk po => hb W' pn xe ⟨c.N, c.sc, c.nd, c.calm, tk, c.room, c.cl, c.st⟩ po) (fun a oe cls d pn zc hfl => ?_)) fun D σ H h => ?_
  · refine ⟨fun pins s σ H D I hh => ?_⟩
    obtain ⟨x, hx, rfl, hh⟩ := hh
    have P1 : PS (X.suite a ((a, oe) :: pn)) (.Assign [.Name jn q2] (.List ps q3) q4) (tAsg (tLst (tFls X.K x ie a d l)) (gName j)) :=
      ps_asg (pe_lst (pa_flags c hen hloc hok hx zc hfl hf)) (pg_name (X := X.suite a ((a, oe) :: pn)) (by show X.N.Nodup; rw [c.N]; exact c.nd) (by show X.N[j]? = _; rw [c.N]; exact k1) k2 k3)
    exact (pss_one P1).run pins s σ H D I hh
  · obtain ⟨pn, gb, g0, H0, hpn, ρ, μ, g, fp, s, ok⟩ := h
    refine ⟨pn, gb, g0, H0, hpn, ρ, μ, g, fp, s, ?_⟩
    have ok : FlOk (gm X) W pn gb g0 H0 D (tryF all cs ie j l (evSs Φ b ρ μ)) := ok
    cases e : evSs Φ b ρ μ with
    | er x fs ρ1 μ1 =>
      rw [e] at ok
      unfold tryF at ok
      intro g2 H2 σ2 fp2 cls d s2 xr
      by_cases hc : (all.contains x && decide (ie < ρ1.length)) = true
      · simp only [hc, if_true] at ok
        simp only [Bool.and_eq_true, decide_eq_true_eq] at hc
        obtain ⟨hall, hie⟩ := hc
        have hall := List.contains_iff_mem.mp hall
        have hcls : cls = .ref (He.ga X.K x) ∧ XdOk d H2 := by
          obtain ⟨h1, h2 | ⟨dd, flds, vs, h2, h3, h4, h5, h6, h7⟩⟩ := xr
          · exact ⟨h1, .inl h2.2⟩
          · exact ⟨h1, .inr ⟨dd, flds, h2, h3⟩⟩
        obtain ⟨rfl, hxd⟩ := hcls
        refine ⟨cs.contains x, c.st.xm _ (hm x hall), fun hin a na => ?_, fun hout => ?_⟩
        · simp only [hin, if_true] at ok
          have hie' : ie < σ2.length := by rw [← s2.sr.env.len]; exact hie
          refine ⟨x, hall, rfl, by rw [List.getElem?_set_self hie'], hxd, by rw [List.length_map, sizeLine_eq]; omega, fun p np => ?_⟩
          have ows : ∀ (l : List HF), Ows (gm X) g2 H2 (l.map fun h => O.sh (.bl (hfV x h))) (l.map fun h => V.bl (hfV x h)) [] := by
            intro l
            induction l with
            | nil => simp only [List.map_nil, Ows]; exact ⟨trivial, trivial⟩
            | cons h l ih =>
              simp only [List.map_cons, Ows]
              exact ⟨_, _, [], [], rfl, rfl, by simp only [Ow, Rp]; exact ⟨trivial, trivial⟩, ih⟩
          have Gl : Got (gm X) g2 H2 g2 μ1 (upd H2 p (.lst (l.map fun h => V.bl (hfV x h)))) (.ol (l.map fun h => O.sh (.bl (hfV x h)))) (.ref p) [p] :=
            Got.ol s2.sr.F s2.sr.cl np (ows l) .nil (fun _ z => by cases z) (Go.refl s2.sr.F s2.sr.cl) (fun _ z => by cases z)
          obtain ⟨G1, r1⟩ := Gl.fz
          have s3 := s2.to G1
          obtain ⟨fp3, sr3, b3⟩ := s3.sr.drop (i := ie) (x := some (.ref a))
          have hpie : ∀ q ∈ pn, q.1 ≠ ie := fun q hq w => hz q.1 (hpn q hq) (by simp [w])
          have hpj : ∀ q ∈ pn, q.1 ≠ j := fun q hq w => hz q.1 (hpn q hq) (by simp [w])
          have s4 : ST (gm X) pn gb g0 H0 _ μ1 _ (ρ1.set ie .no) (σ2.set ie (some (.ref a))) fp3 := ⟨sr3, s3.go, (fun b hb => s3.new b (b3 b hb)), s3.lb, set_pin hpie s3.pin⟩
          obtain ⟨fp5, s5⟩ := s4.set hpj r1
          obtain ⟨fp6, sr6, b6⟩ := s5.sr.drop (i := ie) (x := none)
          have e6 : ((ρ1.set ie .no).set j (.va (fz (.ol (l.map fun h => O.sh (.bl (hfV x h))))))).set ie .no = (ρ1.set ie .no).set j (.va (.lst (l.map fun h => .bl (hfV x h)))) := by
            rw [List.set_comm _ _ (fun w => hne w.symm), List.set_set]
            congr 2
            simp only [fz, fzs_map, List.map_map]
            rfl
          rw [e6] at sr6
          exact ok _ _ _ fp6 ⟨sr6, s5.go, (fun b hb => s5.new b (b6 b hb)), s5.lb, set_pin hpie s5.pin⟩
        · simp only [hout, Bool.false_eq_true, if_false] at ok
          exact ok g2 H2 σ2 fp2 _ _ s2 xr
      · simp only [hc, if_false] at ok
        exact ok.elim
    | nx ρ1 μ1 => rw [e] at ok; exact ok
    | rt o μ1 => rw [e] at ok; exact ok
    | bk ρ1 μ1 => rw [e] at ok; exact ok
    | ct ρ1 μ1 => rw [e] at ok; exact ok
    | bad => rw [e] at ok; exact ok
/-! ### a try with many clauses -/
def HFw (x : Str) (flds : List (Str × V)) : HF → Option V
  | .is _ cl => some (.bl (cl.contains x))
  | .lit b => some (.bl b)
  | .fd f => flds.lookup f
def HFws (x : Str) (flds : List (Str × V)) : List HF → Option (List V)
  | [] => some []
  | h :: r => (HFw x flds h).bind fun d => (HFws x flds r).map fun ds => d :: ds
def XdV (d : Option Addr) (H : Hp) (flds : List (Str × V)) : Prop := (d = none ∧ flds = []) ∨ ∃ dd, d = some dd ∧ H dd = some (.xd flds)
theorem XdV.ok {d : Option Addr} {H : Hp} {flds : List (Str × V)} (h : XdV d H flds) : XdOk d H := by
  rcases h with ⟨h, _⟩ | ⟨dd, h1, h2⟩
  · exact .inl h
  · exact .inr ⟨dd, flds, h1, h2⟩
def tHf (x : Str) (ie : Nat) (a : Addr) (d : Option Addr) (h : HF) : TE := fun σ H Q => σ[ie]? = some (some (.ref a)) ∧ ∃ flds v, XdV d H flds ∧ HFw x flds h = some v ∧ Q v H
def tHfs (x : Str) (ie : Nat) (a : Addr) (d : Option Addr) (l : List HF) : TA := fun σ H Q => σ[ie]? = some (some (.ref a)) ∧ ∃ flds vs, XdV d H flds ∧ HFws x flds l = some vs ∧ Q vs H
theorem pe_hf {X : Cx} {ck : Ck} {Φ : Fns} {W : WX} (c : At X ck Φ W) {ie : Nat} {en : Str} (hen : ck.N[ie]? = some en) (hloc : ck.sc.names.lookup en = some .local) (hok : okName en = true) {cs : List Str} {x : Str} (hx : x ∈ cs) {a : Addr} {d : Option Addr} {oe : Obj} {pn : List (Addr × Obj)} (hz : Zc (.ref (He.ga X.K x)) d oe) (hf : ∃ vs, oe.data = .fields vs)
    {h : HF} {p : Expr} (ok : okHf ck en cs h p = true) : PE (X.suite a ((a, oe) :: pn)) p (tHf x ie a d h) ∧ noStar p = true := by
  unfold okHf at ok
  split at ok
  · rename_i f e' p1 f' p2
    simp only [Bool.and_eq_true, decide_eq_true_eq, List.all_eq_true] at ok
    obtain ⟨rfl, rfl, h1⟩ := ok
    obtain ⟨h2, h3⟩ := h1 x hx
    obtain ⟨p, hp, he⟩ := List.any_eq_true.mp h3
    have he : p.1 = x := by simpa using he
    have hE := (c.st.xk p hp).1
    rw [he] at hE
    have hno := c.st.xf _ (List.contains_iff_mem.mp h2)
    have hv : PE (X.suite a ((a, oe) :: pn)) (.Name e' p1) (tVar ie) := pe_var (X := X.suite a ((a, oe) :: pn)) (by show X.N[ie]? = _; rw [c.N]; exact hen) (.inl (by show X.env.scope.names.lookup e' = _; rw [c.sc]; exact hloc)) (okName_db hok) (okName_cd hok)
    refine ⟨PE.imp (pe_xf (X := X) (C := He.ga X.K x) ⟨hE.hg, hE.hk, hE.hs, hE.hd⟩ hno hz hf hv) fun σ H Q hh => ?_, rfl⟩
    obtain ⟨hσ, flds, v, xd, e, q⟩ := hh
    rcases xd with ⟨_, rfl⟩ | ⟨dd, hd, hH⟩
    · cases e
    · exact ⟨.ref a, hσ, rfl, rfl, dd, flds, v, hd, hH, e, q⟩
  · obtain ⟨h1, h2⟩ := pe_flag c hen hloc hok hx hz hf ok
    refine ⟨PE.imp h1 fun σ H Q hh => ?_, h2⟩
    obtain ⟨hσ, flds, v, xd, e, q⟩ := hh
    cases h with
    | is y cl =>
      cases e
      exact ⟨hσ, xd.ok, q⟩
    | lit b =>
      cases e
      exact ⟨hσ, xd.ok, q⟩
    | fd f => simp [okFlag] at ok
theorem pa_hfs {X : Cx} {ck : Ck} {Φ : Fns} {W : WX} (c : At X ck Φ W) {ie : Nat} {en : Str} (hen : ck.N[ie]? = some en) (hloc : ck.sc.names.lookup en = some .local) (hok : okName en = true) {cs : List Str} {x : Str} (hx : x ∈ cs) {a : Addr} {d : Option Addr} {oe : Obj} {pn : List (Addr × Obj)} (hz : Zc (.ref (He.ga X.K x)) d oe) (hf : ∃ vs, oe.data = .fields vs) :
    ∀ {l : List HF} {ps : List Expr}, okHfs ck en cs l ps = true → PA (X.suite a ((a, oe) :: pn)) ps (tHfs x ie a d l)
  | [], ps, ok => by
    cases ps with
    | nil =>
      refine PA.imp pa_nil fun σ H Q hh => ?_
      obtain ⟨_, flds, vs, _, e, q⟩ := hh
      cases e
      exact q
    | cons p ps => cases ok
  | h :: l, ps, ok => by
    cases ps with
    | nil => cases ok
    | cons p ps =>
      simp only [okHfs, Bool.and_eq_true] at ok
      obtain ⟨h1, h2⟩ := pe_hf c hen hloc hok hx hz hf ok.1
      refine PA.imp (pa_cons h1 (pa_hfs c hen hloc hok hx hz hf ok.2) (star_cons h2)) fun σ H Q hh => ?_
      obtain ⟨hσ, flds, vs, xd, e, q⟩ := hh
      obtain ⟨v, e1, e⟩ := Option.bind_eq_some_iff.mp e
      obtain ⟨vs', e2, rfl⟩ := Option.map_eq_some_iff.mp e
      exact ⟨hσ, flds, v, xd, e1, hσ, flds, vs', xd, e2, q⟩
def tAct (x : Str) (ie : Nat) (a : Addr) (d : Option Addr) : HA → TS
  | .ls j l => tAsg (tLst (tHfs x ie a d l)) (gName j)
  | .tp j l => tAsg (tTup (tHfs x ie a d l)) (gName j)
  | .on j f => tAsg (tHf x ie a d (.fd f)) (gName j)
def tActs (x : Str) (ie : Nat) (a : Addr) (d : Option Addr) : List HA → TS
  | [] => tNext
  | b :: r => tSeq (tAct x ie a d b) (tActs x ie a d r)
theorem ps_act {X : Cx} {ck : Ck} {Φ : Fns} {W : WX} {z : List Nat} (c : At X ck Φ W) {ie : Nat} {en : Str} (hen : ck.N[ie]? = some en) (hloc : ck.sc.names.lookup en = some .local) (hok : okName en = true) {cs : List Str} {x : Str} (hx : x ∈ cs) {a : Addr} {d : Option Addr} {oe : Obj} {pn : List (Addr × Obj)} (hz : Zc (.ref (He.ga X.K x)) d oe) (hf : ∃ vs, oe.data = .fields vs)
    {b : HA} {p : Stmt} (ok : okAct ck z en ie cs b p = true) : PS (X.suite a ((a, oe) :: pn)) p (tAct x ie a d b) ∧ b.j ≠ ie ∧ (∀ k ∈ z, k ∉ [b.j]) := by
  unfold okAct at ok
  split at ok
  · simp only [Bool.and_eq_true, decide_eq_true_eq] at ok
    obtain ⟨h1, h2, h3, h4, h5⟩ := ok
    obtain ⟨k1, k2, k3⟩ := loc_at c h1
    exact ⟨ps_asg (pe_lst (pa_hfs c hen hloc hok hx hz hf h4)) (pg_name (X := X.suite a ((a, oe) :: pn)) (by show X.N.Nodup; rw [c.N]; exact c.nd) (by show X.N[_]? = _; rw [c.N]; exact k1) k2 k3), h3, stz_of h2⟩
  · simp only [Bool.and_eq_true, decide_eq_true_eq] at ok
    obtain ⟨h1, h2, h3, h4, h5⟩ := ok
    obtain ⟨k1, k2, k3⟩ := loc_at c h1
    exact ⟨ps_asg (pe_tup (pa_hfs c hen hloc hok hx hz hf h4)) (pg_name (X := X.suite a ((a, oe) :: pn)) (by show X.N.Nodup; rw [c.N]; exact c.nd) (by show X.N[_]? = _; rw [c.N]; exact k1) k2 k3), h3, stz_of h2⟩
  · simp only [Bool.and_eq_true, decide_eq_true_eq] at ok
    obtain ⟨h1, h2, h3, h4⟩ := ok
    obtain ⟨k1, k2, k3⟩ := loc_at c h1
    exact ⟨ps_asg (pe_hf c hen hloc hok hx hz hf h4).1 (pg_name (X := X.suite a ((a, oe) :: pn)) (by show X.N.Nodup; rw [c.N]; exact c.nd) (by show X.N[_]? = _; rw [c.N]; exact k1) k2 k3), h3, stz_of h2⟩
  · cases ok
theorem pss_acts {X : Cx} {ck : Ck} {Φ : Fns} {W : WX} {z : List Nat} (c : At X ck Φ W) {ie : Nat} {en : Str} (hen : ck.N[ie]? = some en) (hloc : ck.sc.names.lookup en = some .local) (hok : okName en = true) {cs : List Str} {x : Str} (hx : x ∈ cs) {a : Addr} {d : Option Addr} {oe : Obj} {pn : List (Addr × Obj)} (hz : Zc (.ref (He.ga X.K x)) d oe) (hf : ∃ vs, oe.data = .fields vs) :
    ∀ {bs : List HA} {ps : List Stmt}, okActs ck z en ie cs bs ps = true → PSs (X.suite a ((a, oe) :: pn)) ps (tActs x ie a d bs)
  | [], ps, ok => by
    cases ps with
    | nil => exact pss_nil
    | cons p ps => cases ok
  | b :: bs, ps, ok => by
    cases ps with
    | nil => cases ok
    | cons p ps =>
      simp only [okActs, Bool.and_eq_true] at ok
      exact pss_cons (ps_act c hen hloc hok hx hz hf ok.1).1 (pss_acts c hen hloc hok hx hz hf ok.2)
theorem fdL_at : ∀ {ns : List Str} {fs : List D} {f : Str} {dd : D}, fdL ns fs f = some dd → ∃ i : Nat, ns[i]? = some f ∧ fs[i]? = some dd
  | [], fs, f, dd, h => by simp [fdL] at h
  | n :: ns, [], f, dd, h => by simp [fdL] at h
  | n :: ns, e :: fs, f, dd, h => by
    simp only [fdL] at h
    split at h
    · rename_i hn
      subst hn
      cases h
      exact ⟨0, rfl, rfl⟩
    · obtain ⟨i, h1, h2⟩ := fdL_at h
      exact ⟨i + 1, h1, h2⟩
theorem xr_flds {Γ : Env1} {g : Gh} {H : Hp} {x : Str} {fs : List D} {cls : Value} {d : Option Addr} (h : XR Γ g H x fs cls d) : ∃ flds, XdV d H flds ∧ ∀ f dd, fdL (xNames x) fs f = some dd → ∃ v, flds.lookup f = some v ∧ Rp Γ g dd v := by
  obtain ⟨_, ⟨rfl, hd⟩ | ⟨dd, flds, vs, h1, h2, h3, h4, h5, _⟩⟩ := h
  · exact ⟨[], .inl ⟨hd, rfl⟩, fun f dd e => by obtain ⟨i, _, e⟩ := fdL_at e; simp at e⟩
  · refine ⟨flds, .inr ⟨dd, h1, h2⟩, fun f d' e => ?_⟩
    obtain ⟨i, e1, e2⟩ := fdL_at e
    obtain ⟨v, e3, r⟩ := Rps.get h3 e2
    exact ⟨v, by rw [h5 i f e1, e3], r⟩
theorem XR.laid {Γ : Env1} {g g1 : Gh} {H : Hp} {x : Str} {fs : List D} {cls : Value} {d : Option Addr} {p : Addr} {u : HO} (h : XR Γ g H x fs cls d) (l : Le g g1) (np : H p = none) : XR Γ g1 (upd H p u) x fs cls d := by
  obtain ⟨h0, h | ⟨dd, flds, vs, h1, h2, h3, h4⟩⟩ := h
  · exact ⟨h0, .inl h⟩
  · exact ⟨h0, .inr ⟨dd, flds, vs, h1, by rw [upd_ne (ne_of_none h2 np)]; exact h2, Rps.le l _ _ h3, h4⟩⟩
theorem hf_rp {Γ : Env1} {g : Gh} {x : Str} {fs : List D} {flds : List (Str × V)} (k : ∀ f dd, fdL (xNames x) fs f = some dd → ∃ v, flds.lookup f = some v ∧ Rp Γ g dd v) {h : HF} {dd : D} (e : hfD x fs h = some dd) : ∃ v, HFw x flds h = some v ∧ Rp Γ g dd v := by
  cases h with
  | is y cl =>
    cases e
    exact ⟨_, rfl, by simp only [Rp]⟩
  | lit b =>
    cases e
    exact ⟨_, rfl, by simp only [Rp]⟩
  | fd f => exact k f dd e
theorem hfs_rp {Γ : Env1} {g : Gh} {x : Str} {fs : List D} {flds : List (Str × V)} (k : ∀ f dd, fdL (xNames x) fs f = some dd → ∃ v, flds.lookup f = some v ∧ Rp Γ g dd v) : ∀ {l : List HF} {ds : List D}, hfDs x fs l = some ds → ∃ vs, HFws x flds l = some vs ∧ Rps Γ g ds vs ∧ vs.length = l.length
  | [], ds, e => by
    cases e
    exact ⟨[], rfl, by simp only [Rps], rfl⟩
  | h :: l, ds, e => by
    obtain ⟨dd, e1, e⟩ := Option.bind_eq_some_iff.mp e
    obtain ⟨ds', e2, rfl⟩ := Option.map_eq_some_iff.mp e
    obtain ⟨v, h1, h2⟩ := hf_rp k e1
    obtain ⟨vs, h3, h4, h5⟩ := hfs_rp k e2
    refine ⟨v :: vs, by simp only [HFws, h1, h3, Option.bind_some, Option.map_some], ?_, by simp [h5]⟩
    simp only [Rps]
    exact ⟨v, vs, rfl, h2, h4⟩
def HA.len : HA → Nat
  | .ls _ l => l.length
  | .tp _ l => l.length
  | .on _ _ => 0
theorem acts_run {Γ : Env1} {pn : List (Nat × V)} {gb g0 : Gh} {H0 : Hp} {D : Ends} {x : Str} {ie : Nat} {a : Addr} {fs : List MP.D} {cls : Value} {d : Option Addr} : ∀ {bs : List HA} {ρ : List Sl} {μ : List O} {g : Gh} {H : Hp} {σ : L2.St} {fp : List Addr}, (∀ b ∈ bs, b.j ≠ ie ∧ (∀ q ∈ pn, q.1 ≠ b.j) ∧ b.len ≤ 1000) →
    ST Γ pn gb g0 H0 g μ H ρ σ fp → σ[ie]? = some (some (.ref a)) → XR Γ g H x fs cls d → (match actsF x fs bs ρ μ with
      | .nx ρ' μ' => ∀ g H σ fp, ST Γ pn gb g0 H0 g μ' H ρ' σ fp → D.nx σ H
      | _ => False) → tActs x ie a d bs D σ H
  | [], ρ, μ, g, H, σ, fp, hb, s, hσ, xr, k => k g H σ fp s
  | b :: bs, ρ, μ, g, H, σ, fp, hb, s, hσ, xr, k => by
    obtain ⟨hj, hp, hlen⟩ := hb b List.mem_cons_self
    obtain ⟨flds, xd, kf⟩ := xr_flds xr
    have hbs := fun b hb' => hb b (List.mem_cons_of_mem _ hb')
    simp only [actsF] at k
    cases e : b.d x fs with
    | none => rw [e] at k; exact k.elim
    | some dd =>
      rw [e] at k
      simp only at k
      have nxt : ∀ {g1 : Gh} {H1 : Hp} {v : V}, ST Γ pn gb g0 H0 g1 μ H1 ρ σ fp → XR Γ g1 H1 x fs cls d → Rp Γ g1 dd v → tActs x ie a d bs D (σ.set b.j (some v)) H1 := fun {g1 H1 v} s1 xr1 r1 => by
        obtain ⟨fp2, s2⟩ := s1.set hp r1
        exact acts_run hbs s2 (by rw [List.getElem?_set_ne hj]; exact hσ) xr1 k
      cases b with
      | ls j l =>
        obtain ⟨ds, e1, rfl⟩ := Option.map_eq_some_iff.mp e
        obtain ⟨vs, h1, h2, h3⟩ := hfs_rp kf e1
        refine ⟨hσ, flds, vs, xd, h1, by rw [h3, sizeLine_eq]; have : l.length ≤ 1000 := hlen; omega, fun p np => ?_⟩
        have G := Go.laid (u := .lst vs) s.sr.F s.sr.cl np
        exact nxt (s.to G) (xr.laid G.le np) (by simp only [Rp]; exact ⟨p, vs, rfl, upd_same, Rps.le G.le _ _ h2⟩)
      | tp j l =>
        obtain ⟨ds, e1, rfl⟩ := Option.map_eq_some_iff.mp e
        obtain ⟨vs, h1, h2, h3⟩ := hfs_rp kf e1
        refine ⟨hσ, flds, vs, xd, h1, by rw [h3, sizeLine_eq]; have : l.length ≤ 1000 := hlen; omega, fun p np => ?_⟩
        have G := Go.laid (u := .tup vs) s.sr.F s.sr.cl np
        exact nxt (s.to G) (xr.laid G.le np) (by simp only [Rp]; exact ⟨p, vs, rfl, SqT.of upd_same, Rps.le G.le _ _ h2⟩)
      | on j f =>
        obtain ⟨v, h1, h2⟩ := kf f dd e
        exact ⟨hσ, flds, v, xd, h1, nxt s xr h2⟩
theorem actsF_no {x : Str} {fs : List MP.D} {ie : Nat} : ∀ {bs : List HA} {ρ ρ' : List Sl} {μ μ' : List O}, (∀ b ∈ bs, b.j ≠ ie) → actsF x fs bs ρ μ = .nx ρ' μ' → ρ[ie]? = some .no → ρ'[ie]? = some .no
  | [], ρ, ρ', μ, μ', hb, e, h => by
    cases e
    exact h
  | b :: bs, ρ, ρ', μ, μ', hb, e, h => by
    simp only [actsF] at e
    cases e1 : b.d x fs with
    | none => rw [e1] at e; cases e
    | some dd =>
      rw [e1] at e
      exact actsF_no (fun b hb' => hb b (List.mem_cons_of_mem _ hb')) e (by rw [List.getElem?_set_ne (hb b List.mem_cons_self)]; exact h)
theorem actsF_nx {x : Str} {fs : List MP.D} : ∀ {bs : List HA} {ρ : List Sl} {μ : List O}, (∃ ρ' μ', actsF x fs bs ρ μ = .nx ρ' μ') ∨ actsF x fs bs ρ μ = .bad
  | [], ρ, μ => .inl ⟨ρ, μ, rfl⟩
  | b :: bs, ρ, μ => by
    simp only [actsF]
    cases b.d x fs with
    | none => exact .inr rfl
    | some dd => exact actsF_nx
theorem okActs_at {ck : Ck} {z : List Nat} {en : Str} {ie : Nat} {cs : List Str} : ∀ {bs : List HA} {ps : List Stmt}, okActs ck z en ie cs bs ps = true → ∀ b ∈ bs, b.j ≠ ie ∧ (∀ k ∈ z, k ∉ [b.j]) ∧ b.len ≤ 1000
  | [], ps, ok => fun b hb => by cases hb
  | b :: bs, ps, ok => by
    cases ps with
    | nil => cases ok
    | cons p ps =>
      simp only [okActs, Bool.and_eq_true] at ok
      intro b' hb
      rcases List.mem_cons.mp hb with rfl | hb
      · have h := ok.1
        unfold okAct at h
        split at h
        · simp only [Bool.and_eq_true, decide_eq_true_eq] at h
          exact ⟨h.2.2.1, stz_of h.2.1, h.2.2.2.2⟩
        · simp only [Bool.and_eq_true, decide_eq_true_eq] at h
          exact ⟨h.2.2.1, stz_of h.2.1, h.2.2.2.2⟩
        · simp only [Bool.and_eq_true, decide_eq_true_eq] at h
          exact ⟨h.2.2.1, stz_of h.2.1, Nat.zero_le _⟩
        · cases h
      · exact okActs_at ok.2 b' hb
/-- what is known of a clause that passed the looks -/
structure HcOk (X : Cx) (ck : Ck) (z : List Nat) (all : List Str) (h : HC) : Prop where
  bs : ∀ b ∈ h.acts, b.j ≠ h.ie ∧ (∀ k ∈ z, k ∉ [b.j]) ∧ b.len ≤ 1000
  iz : ∀ k ∈ z, k ∉ [h.ie]
  xm : ∀ x ∈ all, PySem.W.exmOne X.K (.ref (He.ga X.K x)) (.ref (He.ga X.K h.y)) = some (h.cs.contains x)
def hnOf (K : PySem.W.Frag) (h : HC) : HN := (.ref (He.ga K h.y), some h.ie, fun a cls d D σ H => ∃ x ∈ h.cs, cls = .ref (He.ga K x) ∧ tActs x h.ie a d h.acts D σ H)
theorem okHs_at {X : Cx} {ck : Ck} {Φ : Fns} {W : WX} {z : List Nat} (c : At X ck Φ W) {all : List Str} : ∀ {hs : List HC} {hds : List ExceptHandler}, okHs ck z all hs hds = true → HdsN X hds (hs.map (hnOf X.K)) ∧ ∀ h ∈ hs, HcOk X ck z all h
  | [], hds, ok => by
    cases hds with
    | nil => exact ⟨.nil, fun _ h => by cases h⟩
    | cons _ _ => cases ok
  | h :: hs, hds, ok => by
    unfold okHs at ok
    split at ok
    · rename_i e; cases e
    · rename_i h' hs' yq p1 en b0 suite p2 r e
      cases e
      simp only [Bool.and_eq_true, decide_eq_true_eq, List.all_eq_true] at ok
      obtain ⟨⟨rfl, h1, h2, h3, h4, h5, h6, h7, h8⟩, h9⟩ := ok
      obtain ⟨k1, k2⟩ := okHs_at c h9
      refine ⟨?_, fun h' hh => ?_⟩
      · refine HdsN.nm ⟨c.gl h1, okName_db (Ck.okN h1), .inl (c.st.xc _ (List.contains_iff_mem.mp h2))⟩ (by rw [c.N]; exact h3) (by show X.env.scope.names.lookup en = _; rw [c.sc]; exact h4) (fun a oe cls d pn hz hf => ?_) k1
        refine ⟨fun pins s σ H D I hh => ?_⟩
        obtain ⟨x, hx, rfl, hh⟩ := hh
        exact (pss_acts c h3 h4 h5 hx hz hf h8).run pins s σ H D I hh
      · rcases List.mem_cons.mp hh with rfl | hh
        · exact ⟨okActs_at h8, stz_of h6, fun x hx => c.st.xm _ (List.contains_iff_mem.mp (h7 x hx))⟩
        · exact k2 h' hh
    · cases ok
theorem wNm_of {X : Cx} {ck : Ck} {z : List Nat} {all : List Str} {W : WX} {D : Ends} {x : Str} (hx : x ∈ all) {d : Option Addr} {σ : L2.St} {H : Hp} : ∀ {hs : List HC}, (∀ h ∈ hs, HcOk X ck z all h) → (match hs.find? (fun h => h.cs.contains x) with
      | some h => ∀ a, H a = none → tActs x h.ie a d h.acts (Ends.off D h.ie) (σ.set h.ie (some (.ref a))) H
      | none => W (.ref (He.ga X.K x)) d σ H) → wNm X.K W D (hs.map (hnOf X.K)) (.ref (He.ga X.K x)) d σ H
  | [], hh, k => k
  | h :: hs, hh, k => by
    refine ⟨h.cs.contains x, (hh h List.mem_cons_self).xm x hx, fun hin a na => ?_, fun hout => ?_⟩
    · simp only [List.find?_cons, hin] at k
      exact ⟨x, List.contains_iff_mem.mp hin, rfl, k a na⟩
    · simp only [List.find?_cons, hout] at k
      exact wNm_of hx (fun h' hm => hh h' (List.mem_cons_of_mem _ hm)) k
theorem st_tryM (c : At X ck Φ W) (fr : FrOk X) {b : List S} {all : List Str} {hs : List HC} {body : List Stmt} {h0 : ExceptHandler} {hds : List ExceptHandler} (hh : okHs ck z all hs (h0 :: hds) = true)
    (hb : ∀ (W' : WX) (pn : List (Addr × Obj)) (xe : Value → Shared → Prop), At (X.tr pn xe) ck Φ W' → PassesOwn (model X.prog X.w) X.A X.env xe → PSs (X.tr pn xe) body (RSs X z W' Φ b)) :
    PS X (.Try body (h0 :: hds) [] [] pos) (RS X z W Φ (.tryM b all hs)) := by
  obtain ⟨hN, hok⟩ := okHs_at c hh
  refine PS.imp (ps_try_named (tb := fun W' => RSs X z W' Φ b) fr.1 fr.2 (by rw [c.N]; exact c.nd) c.tk (fun W' pn xe tk po => hb W' pn xe ⟨c.N, c.sc, c.nd, c.calm, tk, c.room, c.cl, c.st⟩ po) hN) fun D σ H h => ?_
  obtain ⟨pn, gb, g0, H0, hpn, ρ, μ, g, fp, s, ok⟩ := h
  refine ⟨pn, gb, g0, H0, hpn, ρ, μ, g, fp, s, ?_⟩
  have ok : FlOk (gm X) W pn gb g0 H0 D (tryM all hs (evSs Φ b ρ μ)) := ok
  cases e : evSs Φ b ρ μ with
  | er x fs ρ1 μ1 =>
    rw [e] at ok
    unfold tryM at ok
    intro g2 H2 σ2 fp2 cls d s2 xr
    by_cases hc : (all.contains x && hs.all (fun h => decide (h.ie < ρ1.length))) = true
    · simp only [hc, if_true] at ok
      simp only [Bool.and_eq_true] at hc
      obtain ⟨hall, hie⟩ := hc
      have hall := List.contains_iff_mem.mp hall
      have hcls : cls = .ref (He.ga X.K x) := xr.1
      rw [hcls] at xr ⊢
      refine wNm_of hall hok ?_
      cases hf : hs.find? (fun h => h.cs.contains x) with
      | none =>
        rw [hf] at ok
        exact ok g2 H2 σ2 fp2 _ _ s2 xr
      | some h =>
        rw [hf] at ok
        have hm := List.mem_of_find?_eq_some hf
        have hO := hok h hm
        have hlt := of_decide_eq_true (List.all_eq_true.mp hie h hm)
        have hie' : h.ie < σ2.length := by rw [← s2.sr.env.len]; exact hlt
        intro a na
        have pin0 : ∀ {j : Nat}, (∀ k ∈ z, k ∉ [j]) → (∀ q ∈ pn, q.1 ≠ j) := fun {j} hz q hq w => hz q.1 (hpn q hq) (by simp [w])
        obtain ⟨fp3, sr3, b3⟩ := s2.sr.drop (i := h.ie) (x := some (.ref a))
        have s4 : ST (gm X) pn gb g0 H0 g2 μ1 H2 (ρ1.set h.ie .no) (σ2.set h.ie (some (.ref a))) fp3 := ⟨sr3, s2.go, (fun b hb => s2.new b (b3 b hb)), s2.lb, set_pin (pin0 hO.iz) s2.pin⟩
        refine acts_run (fun b hb => ⟨(hO.bs b hb).1, pin0 (hO.bs b hb).2.1, (hO.bs b hb).2.2⟩) s4 (by rw [List.getElem?_set_self hie']) xr ?_
        rcases actsF_nx (x := x) (fs := fs) (bs := h.acts) (ρ := ρ1.set h.ie .no) (μ := μ1) with ⟨ρ', μ', e2⟩ | e2
        · simp only [e2] at ok ⊢
          intro g5 H5 σ5 fp5 s5
          have hno := actsF_no (fun b hb => (hO.bs b hb).1) e2 (by rw [List.getElem?_set_self hlt])
          obtain ⟨fp6, sr6, b6⟩ := s5.sr.drop (i := h.ie) (x := none)
          have e6 : ρ'.set h.ie .no = ρ' := by
            apply List.ext_getElem?
            intro j
            by_cases q : h.ie = j
            · subst q
              rw [List.getElem?_set_self', hno]
              rfl
            · rw [List.getElem?_set_ne q]
          rw [e6] at sr6
          exact ok _ _ _ fp6 ⟨sr6, s5.go, (fun b hb => s5.new b (b6 b hb)), s5.lb, set_pin (pin0 hO.iz) s5.pin⟩
        · simp only [e2] at ok ⊢
          exact ok
    · simp only [hc, if_false] at ok
      exact ok.elim
  | nx ρ1 μ1 => rw [e] at ok; exact ok
  | rt o μ1 => rw [e] at ok; exact ok
  | bk ρ1 μ1 => rw [e] at ok; exact ok
  | ct ρ1 μ1 => rw [e] at ok; exact ok
  | bad => rw [e] at ok; exact ok
structure AllS (Φ : Fns) (n : Nat) : Prop where
  S : ∀ {X z ck W s p}, At X ck Φ W → FrOk X → PassesOwn (model X.prog X.w) X.A X.env X.xe → okS n z ck s p = true → PS X p (RS X z W Φ s)
  Ss : ∀ {X z ck W s p}, At X ck Φ W → FrOk X → PassesOwn (model X.prog X.w) X.A X.env X.xe → okSs n z ck s p = true → PSs X p (RSs X z W Φ s)
theorem st_unk {p : Stmt} : PS X p (RS X z W Φ .unk) := ⟨fun pins s σ H D I h => by
  obtain ⟨pn, gb, g0, H0, hpn, ρ, μ, g, fp, s', ok⟩ := h
  exact ok.elim⟩
theorem rt_of_ok (c : At X ck Φ W) (A : All Φ n) : ∀ {l : List (Nat ⊕ E)} {ps : List Expr}, okRT n ck l ps = true → PA X ps (RdRT (gm X) W Φ l)
  | [], [], _ => rt_nil
  | [], p :: ps, h => by simp [okRT] at h
  | .inl i :: l, [], h => by simp [okRT] at h
  | .inl i :: l, p :: ps, h => by
    unfold okRT at h
    split at h
    · rename_i e _; cases e
    · rename_i e1 e2
      cases e1
      cases e2
      simp only [Bool.and_eq_true] at h
      exact rt_own c h.1 (rt_of_ok c A h.2)
    · rename_i e1 e2; cases e1
    · cases h
  | .inr e :: l, [], h => by simp [okRT] at h
  | .inr e :: l, p :: ps, h => by
    have h : (noStar p && (okE n ck e p && okRT n ck l ps)) = true := by
      unfold okRT at h
      exact h
    simp only [Bool.and_eq_true] at h
    exact rt_ex h.1 (A.E c h.2.1) (rt_of_ok c A h.2.2)
theorem allS1 (ih : AllS Φ n) {s : S} {p : Stmt} (c : At X ck Φ W) (fr : FrOk X) (po : PassesOwn (model X.prog X.w) X.A X.env X.xe) (h : okS (n + 1) z ck s p = true) : PS X p (RS X z W Φ s) := by
  have A := all Φ n
  unfold okS at h
  split at h <;> first | (cases ‹n + 1 = 0›; done) | cases ‹n + 1 = Nat.succ _›
  · simp only [Bool.and_eq_true, Bool.or_eq_true] at h
    obtain ⟨h1, h2, h3 | h3⟩ := h
    · exact okLc_at c h3 fun elt tg it cd e D σ H h => lc_read e (rd_asg (tg := .nm _) (stz_of h1) h)
    · exact st_asgC c (stz_of h1) h3.1 (okG_star h2) (.inr (okG_nt h2)) (A.E c h3.2) (g_ok c _ _ h2)
  · simp only [Bool.and_eq_true] at h
    obtain ⟨h1, h2, h3, h4, h5⟩ := h
    exact st_asgC c (stz_of h1) (.inl h4) (okG_star h2) (.inl h3) (A.E c h5) (g_ok c _ _ h2)
  · simp only [Bool.and_eq_true, Bool.or_eq_true] at h
    obtain ⟨h1, h2, h3 | h3⟩ := h
    · exact okLc_at c h3 fun elt tg it cd e D σ H h => lc_read e (rd_own (stz_1 h1) h)
    · exact st_ownC c (stz_1 h1) h3.1 (okG_star h2) (.inr (okG_nt h2)) (A.E c h3.2) (by have := g_ok c _ _ h2; simpa only [gT] using this)
  · simp only [Bool.and_eq_true] at h
    obtain ⟨h1, h2, h3, h4⟩ := h
    obtain ⟨k1, k2, k3⟩ := loc_at c h2
    exact st_aug c (stz_1 h1) (augOk_of h3) k1 k2 k3 (A.E c h4)
  · simp only [Bool.and_eq_true] at h
    exact st_ex (A.E c h.2) (sw_no h.1)
  · simp only [Bool.and_eq_true, decide_eq_true_eq] at h
    obtain ⟨rfl, h1, h2, h3, h4⟩ := h
    exact st_app c h1 h2 h3 (A.E c h4)
  · simp only [Bool.and_eq_true, decide_eq_true_eq] at h
    obtain ⟨rfl, h1, h2, ⟨h3, h4⟩, h5, h6⟩ := h
    exact st_ins c h1 h2 h3 h4 (A.E c h5) (A.E c h6)
  · simp only [Bool.and_eq_true] at h
    obtain ⟨h1, h2, h4, h5⟩ := h
    exact st_setx c h1 h2 (A.E c h4) (A.E c h5)
  · simp only [Bool.and_eq_true, decide_eq_true_eq] at h
    obtain ⟨rfl, h1, h2, h3, h4, h5, h6⟩ := h
    show PS X _ (RdS (gm X) W _ (evS Φ _))
    rw [appx_eq]
    exact st_appx c h1 h2 h3 h4 (A.E c h5) (A.E c h6)
  · simp only [Bool.and_eq_true] at h
    obtain ⟨h1, h2, h3, h4, h5, h6⟩ := h
    show PS X _ (RdS (gm X) W _ (evS Φ _))
    rw [setxx_eq]
    exact st_setxx c h1 h2 h3 (A.E c h4) (A.E c h5) (A.E c h6)
  · simp only [Bool.and_eq_true, decide_eq_true_eq] at h
    obtain ⟨rfl, h1, h2, h3⟩ := h
    exact st_fset c (List.contains_iff_mem.mp h1) h2 sw_attr (A.E c h3)
  · simp only [Bool.and_eq_true] at h
    obtain ⟨h1, h2, h3⟩ := h
    exact st_ifs (A.T c h1) (ih.Ss c fr po h2) (ih.Ss c fr po h3)
  · simp only [Bool.and_eq_true] at h
    exact st_whl po (A.T c h.1) (ih.Ss c fr po h.2)
  · simp only [Bool.and_eq_true] at h
    obtain ⟨h1, h2, h3, h4, h5⟩ := h
    exact st_for (stz_of h1) c po (A.I c h3) (g_ok c _ _ h2) (ih.Ss c fr po h5) h4
  · exact st_ret (A.E c h)
  · exact st_retN
  · exact st_retO c h
  · simp only [Bool.and_eq_true, decide_eq_true_eq] at h
    obtain ⟨rfl, h1, h2⟩ := h
    exact st_rais c h1 (List.contains_iff_mem.mp h2)
  · simp only [Bool.and_eq_true, decide_eq_true_eq] at h
    obtain ⟨rfl, h1, h2, h3, h4, h5, h6⟩ := h
    obtain ⟨k1, k2⟩ := A.Es c h6
    exact st_raisX c h1 (List.contains_iff_mem.mp h2) h3 h4 h5 (by simp) k2 k1
  · simp only [Bool.and_eq_true, decide_eq_true_eq, List.all_eq_true] at h
    obtain ⟨rfl, h1, h2, h3, h4, h5, h6, h7, h8, h9, h10, h11, h12⟩ := h
    exact st_try c fr h1 (List.contains_iff_mem.mp h2) h3 h4 h5 h6 h7 (stz_of h8) (fun x hx => List.contains_iff_mem.mp (h9 x hx)) h10 h11 fun W' pn xe c' po' => ih.Ss c' fr po' h12
  · simp only [Bool.and_eq_true] at h
    exact st_tryM c fr h.1 fun W' pn xe c' po' => ih.Ss c' fr po' h.2
  · simp only [Bool.and_eq_true, decide_eq_true_eq] at h
    obtain ⟨rfl, h1, h2, h3, h4⟩ := h
    exact st_papp c h1 h2 h3 (A.E c h4)
  · simp only [Bool.and_eq_true, decide_eq_true_eq] at h
    obtain ⟨rfl, h1, h2, ⟨h3, h4⟩, h5, h6⟩ := h
    exact st_pins c h1 h2 h3 h4 (A.E c h5) (A.E c h6)
  · simp only [Bool.and_eq_true] at h
    obtain ⟨h1, h2, h3⟩ := h
    exact st_pset c h1 h2 (A.E c h3)
  · simp only [Bool.and_eq_true, decide_eq_true_eq] at h
    obtain ⟨rfl, h1, h2, h3⟩ := h
    exact st_pfld c (List.contains_iff_mem.mp h1) h2 sw_attr (A.E c h3)
  · simp only [Bool.and_eq_true, decide_eq_true_eq] at h
    obtain ⟨rfl, h1, h2⟩ := h
    exact st_pclr c h1 h2
  · simp only [Bool.and_eq_true, decide_eq_true_eq] at h
    obtain ⟨rfl, h1, h2, h3⟩ := h
    exact st_pdel c h1 h2 h3
  · simp only [Bool.and_eq_true, decide_eq_true_eq] at h
    obtain ⟨rfl, h1, h2, h3, h4⟩ := h
    exact st_ppop c (stz_of h1) h2 h3 (okG_star h4) (g_ok c _ _ h4)
  · simp only [Bool.and_eq_true, decide_eq_true_eq] at h
    obtain ⟨⟨rfl, rfl⟩, ⟨h1, h2⟩, h3, h4⟩ := h
    exact st_pmov c h1 h2 h3 h4
  · simp only [Bool.and_eq_true] at h
    obtain ⟨h1, h2, h3, h4, h5⟩ := h
    have hz := stz_of h1
    exact st_forO c (fun j hj => hz j (List.mem_cons_of_mem _ hj)) (hz _ List.mem_cons_self) po h2 (g_ok c _ _ h3) (ih.Ss c fr po h5) h4
  · simp only [Bool.and_eq_true] at h
    obtain ⟨h1, h2, h3⟩ := h
    exact st_cutL c (stz_1 h1) h2 (by have := g_ok c _ _ h3; simpa only [gT] using this) (okG_star h3)
  · exact st_retC c h
  · simp only [Bool.and_eq_true, decide_eq_true_eq] at h
    obtain ⟨rfl, h1, h2, h3⟩ := h
    exact st_fsetO c (List.contains_iff_mem.mp h1) h2 sw_attr (A.E c h3)
  · simp only [Bool.and_eq_true] at h
    obtain ⟨h1, h2, h3, h4, h5⟩ := h
    have hz := stz_of h1
    exact st_forC c (fun j hj e => hz j hj (by rw [e]; exact List.mem_cons_self)) (fun j hj e => hz j hj (by rw [e]; exact List.mem_cons_of_mem _ List.mem_cons_self)) po h2 (by have := g_ok c _ _ h3; simpa only [gT] using this) (A.Es c h4).1 (ih.Ss c fr po h5)
  · simp only [Bool.and_eq_true, decide_eq_true_eq] at h
    obtain ⟨rfl, h1, h2, h3, h4, h5⟩ := h
    exact st_forI c (stz_of h1) po h2 h3 (g_ok c _ _ h4) (ih.Ss c fr po h5)
  · simp only [Bool.and_eq_true] at h
    obtain ⟨h1, h2, h3, h4, h5⟩ := h
    exact st_resl c (stz_1 h1) h2 (by have := g_ok c _ _ h3; simpa only [gT] using this) (okG_star h3) h4 (A.E c h5)
  · exact st_retT (rt_of_ok c A h)
  · simp only [Bool.and_eq_true] at h
    obtain ⟨h1, h2, h3⟩ := h
    exact st_unpT c (stz_of h1) h2 (g_ok c _ _ h3) (okG_star h3)
  · exact st_brk
  · exact st_cnt
  · exact st_pass
  · exact st_unk
  · cases h
theorem allSs1 (ih : AllS Φ n) {s : List S} {p : List Stmt} (c : At X ck Φ W) (fr : FrOk X) (po : PassesOwn (model X.prog X.w) X.A X.env X.xe) (h : okSs (n + 1) z ck s p = true) : PSs X p (RSs X z W Φ s) := by
  unfold okSs at h
  split at h <;> first | (cases ‹n + 1 = 0›; done) | cases ‹n + 1 = Nat.succ _›
  · exact ss_nil
  · exact ss_frz (ih.Ss c fr po h)
  · exact ss_celN (ih.Ss c fr po h)
  · exact ss_unc (ih.Ss c fr po h)
  · simp only [Bool.and_eq_true] at h
    exact ss_cons (ih.S c fr po h.1) (ih.Ss c fr po h.2)
  · cases h
theorem allS (Φ : Fns) : ∀ n, AllS Φ n
  | 0 => ⟨fun _ _ _ h => by simp [okS] at h, fun _ _ _ h => by simp [okSs] at h⟩
  | n + 1 => ⟨allS1 (allS Φ n), allSs1 (allS Φ n)⟩
end
end MP
/-! MP16 -/
set_option Elab.async false
set_option linter.all false
set_option maxRecDepth 100000
set_option maxHeartbeats 1000000
/-! MP16: functions, classes, programs. -/
namespace MP
open PySem PySem.Spec PyProof.Rows L2
theorem look_zip : ∀ {ps : List Str} {us : List Value} {n : Str}, us.length = ps.length → n ∈ ps → ((ps.zip us).lookup n).isNone = false
  | [], _, _, _, h => by cases h
  | p :: ps, [], n, hl, _ => by simp at hl
  | p :: ps, u :: us, n, hl, h => by
    rw [List.zip_cons_cons, List.lookup_cons]
    cases e : n == p with
    | true => rfl
    | false =>
      rcases List.mem_cons.mp h with h | h
      · rw [h] at e; simp at e
      · exact look_zip (by simpa using hl) h
theorem fm_congr {α β : Type} {f g : α → Option β} : ∀ {l : List α}, (∀ a ∈ l, f a = g a) → l.filterMap f = l.filterMap g
  | [], _ => rfl
  | a :: l, h => by rw [List.filterMap_cons, List.filterMap_cons, h a List.mem_cons_self, fm_congr fun b hb => h b (List.mem_cons_of_mem _ hb)]
theorem fm_zip : ∀ {ps : List Str} {us : List Value}, us.length = ps.length → ps.Nodup → (ps.filterMap fun n => ((ps.zip us).lookup n).map (n, ·)) = ps.zip us
  | [], us, _, _ => by simp
  | p :: ps, [], hl, _ => by simp at hl
  | p :: ps, u :: us, hl, nd => by
    rw [List.nodup_cons] at nd
    have h0 : ((p, u) :: ps.zip us).lookup p = some u := by rw [List.lookup_cons]; simp
    rw [List.zip_cons_cons, List.filterMap_cons, h0]
    simp only [Option.map_some]
    congr 1
    refine (fm_congr fun n hn => ?_).trans (fm_zip (ps := ps) (us := us) (by simpa using hl) nd.2)
    rw [List.lookup_cons]
    have : (n == p) = false := by
      rw [beq_eq_false_iff_ne]
      rintro rfl
      exact nd.1 hn
    rw [this]
def plainP (a : Arguments) (ps : List Str) : Bool := a.posonlyargs.isEmpty && (a.vararg.isNone && (a.kwonlyargs.isEmpty && (a.kwarg.isNone && (decide (a.args.map (·.arg) = ps) && decide ps.Nodup))))
theorem bind_plain {fd : FuncData} {ps : List Str} (h : plainP fd.params ps = true) (hd : fd.defaults = .none) (us : List Value) (hl : us.length = ps.length) : bindArgs fd ⟨us, []⟩ = pure (ps.zip us) := by
  simp only [plainP, Bool.and_eq_true, decide_eq_true_eq, List.isEmpty_iff, Option.isNone_iff_eq_none] at h
  obtain ⟨h1, h2, h3, h4, h5, h6⟩ := h
  have hm : (ps.filter fun n => ((ps.zip us).lookup n).isNone) = [] := by
    rw [List.filter_eq_nil_iff]
    intro n hn
    rw [look_zip hl hn]
    simp
  have hs : seqItems? fd.defaults = pure none := by rw [hd]; rfl
  unfold bindArgs
  simp only [h1, h2, h3, h4, h5, hs, List.map_nil, List.nil_append, hl]
  simp [hl, hm, fm_zip hl h6]
/-! ### a def -/
theorem start_eq {ds : List D} {vs : List V} {N : List Str} {m : Nat} (h : m = N.length - vs.length) : L2.start N vs = vs.map some ++ List.replicate m none := by rw [h]; rfl
section
variable {P : Program} {w : World} {K : PySem.W.Frag} {mg : Str → Option Value} {base : Heap} {ck : Ck} {Φ : Fns}
/-- the context of a def's body -/
theorem at_fn (St : Stat P w K mg base ck Φ) {ps : List Str} {qual : Str} {f : Addr} {cdv : Value} {A : Around} {outer : List Env} {s : Shared} {H : Hp} {E : XK} (S : FnScope ck.N ps ck.sc) (hr : Room (ck.lv + 1) (A.deeper (envOfC qual ck.sc s.heap.objs.size f cdv))) :
    At (cxOf (L2.CX P w) P w K mg base ck.N qual ck.sc f cdv A outer s H E) ck Φ (fun cls d _ H => E cls d H) :=
  ⟨rfl, rfl, S.nd, rfl, takes_of rfl rfl rfl rfl, hr, fun _ _ => rfl, St⟩
theorem body_fn (St : Stat P w K mg base ck Φ) {n : Nat} {z : List Nat} {ss : List S} {body : List Stmt} {ps : List Str} {qual : Str} {f : Addr} {cdv : Value} {A : Around} {outer : List Env} {s : Shared} {H : Hp} {E : XK} (S : FnScope ck.N ps ck.sc) (hr : Room (ck.lv + 1) (A.deeper (envOfC qual ck.sc s.heap.objs.size f cdv)))
    (ok : okSs n z ck ss body = true) : PSs (cxOf (L2.CX P w) P w K mg base ck.N qual ck.sc f cdv A outer s H E) body (RdS ⟨K, P, w⟩ (fun cls d _ H => E cls d H) z (evSs Φ ss)) :=
  (allS Φ n).Ss (at_fn St S hr) ⟨rfl, rfl⟩ (passes_of rfl) ok
theorem spF_len {f : Fn} {vs : List V} {H : Hp} {Q : VK} {E : XK} (hz : f.init = false) (h : spF ⟨K, P, w⟩ (f.run Φ) vs H Q E) : vs.length = f.pars := by
  obtain ⟨ds, μ, g, r, F, c, ok⟩ := h
  rw [← r.len]
  unfold Fn.run at ok
  simp only [hz] at ok
  by_cases hl : ds.length = f.pars
  · exact hl
  · rw [if_neg hl] at ok
    exact ok.elim
theorem fn_spF (St : Stat P w K mg base ck Φ) {f : Fn} {n : Nat} {qual x : Str} {params : Arguments} {body : List Stmt} {fa : Addr} {dV kV doc pm cdv ct oc : Value} {an od : Option Addr} {osl : Array (Option Value)} {ps : List Str}
    (lk : K.lookup fa = some ⟨oc, od, .func (PySem.W.fnOf x qual params body ck.sc dV kV doc pm an cdv ct), osl⟩) (hcd : PySem.W.codeIn K cdv qual = true) (S : FnScope ck.N ps ck.sc) (hz : f.init = false) (hp : f.pars = ps.length) (hm : f.many = ck.N.length)
    (ok : okSs n [] ck f.body body = true) : FnOk P w K mg base (L2.CX P w) (ck.lv + 2) fa (PySem.W.fnOf x qual params body ck.sc dV kV doc pm an cdv ct) ps (spF ⟨K, P, w⟩ (f.run Φ)) := by
  refine fn_of (k := ck.lv + 1) lk hcd S (fun vs H Q E h => by rw [← hp]; exact spF_len hz h) fun A outer s H vs Q E hr hsp => ⟨_, body_fn St S hr ok, ?_⟩
  have hl := spF_len hz hsp
  obtain ⟨ds, μ, g, r, F, c, okr⟩ := hsp
  have hdl : ds.length = f.pars := by rw [r.len]; exact hl
  have env := EnvR.start (H := H) (f.many - f.pars) r
  rw [← start_eq (ds := ds) (N := ck.N) (by rw [hm, hl])] at env
  refine ⟨[], g, g, H, (fun _ h => by cases h), _, μ, g, [], ⟨⟨F, c, env, .nil, fun _ h => by cases h⟩, Go.refl F c, (fun _ h => by cases h), Le.refl _, fun _ e => by cases e⟩, ?_⟩
  unfold Fn.run at okr
  simp only [hz, hdl, if_true] at okr
  generalize evSs Φ f.body (ds.map Sl.va ++ List.replicate (f.many - f.pars) .no) μ = res at okr
  cases res with
  | nx ρ μ1 => exact fun g' H' σ' fp' s' => okr g' H' .non [] (Got.sh s'.go (by simp only [Rp]))
  | rt o μ1 => exact fun g' H' v fo G => okr g' H' v fo G
  | er cc fs ρ μ1 => exact fun g' H' σ' fp' cls d s' x => okr g' H' cls d s'.go x
  | bk ρ μ1 => exact okr.elim
  | ct ρ μ1 => exact okr.elim
  | bad => exact okr.elim
/-- a class's __init__ -/
theorem fn_spI (St : Stat P w K mg base ck Φ) {f : Fn} {n : Nat} {qual x : Str} {params : Arguments} {body : List Stmt} {fa : Addr} {dV kV doc pm cdv ct oc : Value} {an od : Option Addr} {osl : Array (Option Value)} {ps : List Str}
    (lk : K.lookup fa = some ⟨oc, od, .func (PySem.W.fnOf x qual params body ck.sc dV kV doc pm an cdv ct), osl⟩) (hcd : PySem.W.codeIn K cdv qual = true) (S : FnScope ck.N ps ck.sc) (hz : f.init = true) (hp : f.pars = ps.length) (hm : f.many = ck.N.length)
    (ok : okSs n [0] ck f.body body = true) : FnOk P w K mg base (L2.CX P w) (ck.lv + 2) fa (PySem.W.fnOf x qual params body ck.sc dV kV doc pm an cdv ct) ps (spI ⟨K, P, w⟩ f.name (f.run Φ)) := by
  have len : ∀ vs H Q E, spI ⟨K, P, w⟩ f.name (f.run Φ) vs H Q E → vs.length = f.pars := fun vs H Q E h => by
    obtain ⟨x, dx, vs', H0, ds, μ, g, rfl, rfl, nx, nd, ne, r, F, c, ok⟩ := h
    unfold Fn.run at ok
    simp only [hz] at ok
    by_cases hl : ds.length + 1 = f.pars
    · rw [← hl, List.length_cons, ← r.len]
    · rw [if_neg hl] at ok
      exact ok.elim
  refine fn_of (k := ck.lv + 1) lk hcd S (fun vs H Q E h => by rw [← hp]; exact len _ _ _ _ h) fun A outer s H vs Q E hr hsp => ⟨_, body_fn St S hr ok, ?_⟩
  have hl := len _ _ _ _ hsp
  obtain ⟨a, dx, vs', H0, ds, μ, g, rfl, rfl, nx, nd, ne, r, F, c, okr⟩ := hsp
  have hdl : ds.length + 1 = f.pars := by rw [r.len]; simpa using hl
  have G1 := Go.made (u := .own a) F c nd
  have nx1 : upd H0 dx (.own a) a = none := by rw [upd_ne (fun z => ne z.symm)]; exact nx
  have G2 := Go.made (u := .ins (He.ga K f.name) dx []) G1.F G1.cl nx1
  have G := G1.trans G2
  have env := EnvR.start (H := upd (upd H0 dx (.own a)) a (.ins (He.ga K f.name) dx [])) (f.many - f.pars) r
  have es : L2.start ck.N (.ref a :: vs') = some (.ref a) :: (vs'.map some ++ List.replicate (f.many - f.pars) none) := by
    unfold L2.start
    rw [hl, hm]
    rfl
  refine ⟨[(0, .ref a)], g, g, H0, (fun q hq => by rw [List.mem_singleton.mp hq]; exact List.mem_singleton.mpr rfl), Sl.ow (.oi f.name [] []) :: (ds.map Sl.va ++ List.replicate (f.many - f.pars) .no), μ, g, [a] ++ [], ⟨⟨G.F, G.cl, ?_, by simp, fun b hb => ?_⟩, G, fun b hb => ?_, Le.refl _, fun q hq => ?_⟩, ?_⟩
  · rw [es]
    exact ⟨some (.ref a), _, [a], [], rfl, rfl, ⟨.ref a, rfl, by simp only [Ow, Ows]; exact ⟨a, dx, [], [], rfl, rfl, upd_same, rfl, by decide, rfl, rfl⟩⟩, env⟩
  · obtain rfl : b = a := by simpa using hb
    exact ⟨F.free nx, fun z => by
      obtain ⟨u, e⟩ := c.there _ z
      rw [nx] at e; cases e⟩
  · obtain rfl : b = a := by simpa using hb
    exact .inr nx
  · rw [List.mem_singleton.mp hq, es]
    rfl
  · unfold Fn.run at okr
    simp only [hz, hdl, if_true] at okr
    have okr : (match (match evSs Φ f.body (Sl.ow (.oi f.name [] []) :: (ds.map Sl.va ++ List.replicate (f.many - f.pars) .no)) μ with
      | Fl.nx ρ μ1 => (match (ρ : List Sl)[0]? with
        | some (Sl.ow o) => Rs.ok o μ1
        | _ => .bad)
      | Fl.er c fs _ μ1 => .er c fs μ1
      | _ => .bad) with
      | .ok o μ' => ∀ g' H' fo, Got ⟨K, P, w⟩ g H0 g' μ' H' o (.ref a) fo → Q .non H'
      | .er c fs μ' => ∀ g' H' cls d, Go ⟨K, P, w⟩ g H0 g' μ' H' → XR ⟨K, P, w⟩ g' H' c fs cls d → E cls d H'
      | .bad => False) := okr
    generalize evSs Φ f.body (Sl.ow (.oi f.name [] []) :: (ds.map Sl.va ++ List.replicate (f.many - f.pars) .no)) μ = res at okr
    cases res with
    | nx ρ μ1 =>
      intro g' H' σ' fp' s'
      simp only at okr
      split at okr
      · rename_i o μ2 e
        split at e
        · cases e
          rename_i e0
          obtain ⟨v, ff, hv, GG⟩ := s'.got e0
          have hp := s'.pin (0, .ref a) (List.mem_singleton.mpr rfl)
          rw [hp] at hv
          cases hv
          exact okr g' H' ff GG
        · cases e
      · rename_i e
        split at e <;> cases e
      · exact okr.elim
    | er cc fs ρ μ1 => exact fun g' H' σ' fp' cls d s' x => okr g' H' cls d s'.go x
    | rt o μ1 => exact okr.elim
    | bk ρ μ1 => exact okr.elim
    | ct ρ μ1 => exact okr.elim
    | bad => exact okr.elim
/-! ### an error's __init__ -/
def okInit (k : Ck) : Nat → List Str → List Stmt → Bool
  | i, f :: fs, .Assign [.Attribute (.Name s _) f' _] (.Name y _) _ :: r => decide (f = f') && (k.vis 0 s && (k.vis i y && okInit k (i + 1) fs r))
  | _, [], [] => true
  | _, _, _ => false
def tInit (K : PySem.W.Frag) : Nat → List Str → TS
  | _, [] => tNext
  | i, f :: fs => tSeq (tOst K f (tVar 0) (tVar i)) (tInit K (i + 1) fs)
theorem pv_of {X : Cx} {k : Ck} (hN : X.N = k.N) (hs : X.env.scope = k.sc) {i : Nat} {x : Str} {pos : Pos} (h : k.vis i x = true) : PE X (.Name x pos) (tVar i) := by
  unfold Ck.vis at h
  simp only [Bool.and_eq_true, decide_eq_true_eq] at h
  obtain ⟨h1, h2, h3⟩ := h
  refine pe_var (by rw [hN]; exact h1) ?_ (okName_db h3) (okName_cd h3)
  rw [hs]
  split at h2
  · exact .inl (by assumption)
  · exact .inr (.inl (by assumption))
  · exact .inr (.inr (by assumption))
  · cases h2
theorem ss_init {X : Cx} {k : Ck} (hN : X.N = k.N) (hs : X.env.scope = k.sc) : ∀ (i : Nat) (fs : List Str) (body : List Stmt), okInit k i fs body = true → PSs X body (tInit X.K i fs)
  | i, [], body, h => by
    cases body with
    | nil => exact pss_nil
    | cons s r => simp [okInit] at h
  | i, f :: fs, body, h => by
    unfold okInit at h
    split at h <;> first | (cases ‹f :: fs = []›; done) | skip
    · rename_i j f0 fs0 s p1 f' p2 y p3 p4 r e
      cases e
      simp only [Bool.and_eq_true, decide_eq_true_eq] at h
      obtain ⟨rfl, h1, h2, h3⟩ := h
      exact pss_cons (ps_ost (pv_of hN hs h1) (pv_of hN hs h2)) (ss_init hN hs _ _ r h3)
    · cases h
def okXI (k : Ck) (c : Str) (body : List Stmt) : Bool := okInit k 1 (xNames c) body && (match xNames c with
  | [_] => true
  | [f, f'] => !decide (f = f')
  | _ => false)
theorem fn_spX {c : Str} {k : Ck} {qual x : Str} {params : Arguments} {body : List Stmt} {fa : Addr} {dV kV doc pm cdv ct oc : Value} {an od : Option Addr} {osl : Array (Option Value)} {ps : List Str}
    (lk : K.lookup fa = some ⟨oc, od, .func (PySem.W.fnOf x qual params body k.sc dV kV doc pm an cdv ct), osl⟩) (hcd : PySem.W.codeIn K cdv qual = true) (S : FnScope k.N ps k.sc) (hp : ps.length = (xNames c).length + 1)
    (T : OexC K (He.ga K c)) (hno : ∀ f ∈ xNames c, PySem.W.findIn K (.ref (He.ga K c)) f = some none) (ok : okXI k c body = true) : FnOk P w K mg base (L2.CX P w) 2 fa (PySem.W.fnOf x qual params body k.sc dV kV doc pm an cdv ct) ps (spX K c) := by
  simp only [okXI, Bool.and_eq_true] at ok
  obtain ⟨ok1, ok2⟩ := ok
  have len : ∀ vs H Q E, spX K c vs H Q E → vs.length = ps.length := fun vs H Q E h => by
    obtain ⟨a, vals, rfl, hl, _⟩ := h
    rw [hp, ← hl]
    rfl
  refine fn_of (k := 1) lk hcd S len fun A outer s H vs Q E hr hsp => ⟨_, ss_init (k := k) rfl rfl 1 (xNames c) body ok1, ?_⟩
  obtain ⟨a, vals, rfl, hl, ha, hq⟩ := hsp
  split at ok2
  · rename_i f e
    rw [e] at hl hno hq ⊢
    match vals, hl with
    | [v1], _ =>
      refine ⟨v1, rfl, .ref a, rfl, a, _, rfl, T, hno f (by simp), .inl ⟨ha, fun dx nd hda => ?_⟩⟩
      refine hq dx _ nd hda fun i n hi => ?_
      match i, hi with
      | 0, hi => cases hi; simp [List.lookup]
  · rename_i f f' e
    rw [e] at hl hno hq ⊢
    have hff : ¬ f = f' := by simpa using ok2
    match vals, hl with
    | [v1, v2], _ =>
      refine ⟨v1, rfl, .ref a, rfl, a, _, rfl, T, hno f (by simp), .inl ⟨ha, fun dx nd hda => ?_⟩⟩
      refine ⟨v2, rfl, .ref a, rfl, a, _, rfl, T, hno f' (by simp), .inr ⟨dx, _, upd_same, by rw [upd_ne hda, upd_same], by simp, ?_⟩⟩
      have hH : upd (upd (upd H dx (exd dx [(f, v1)])) a (exo a (He.ga K c) (some dx))) dx (exd dx [(f', v2), (f, v1)]) = upd (upd H dx (exd dx [(f', v2), (f, v1)])) a (exo a (He.ga K c) (some dx)) := by
        funext b
        by_cases hbd : b = dx
        · rw [hbd, upd_same, upd_ne hda, upd_same]
        · rw [upd_ne hbd]
          by_cases hba : b = a
          · rw [hba, upd_same, upd_same]
          · rw [upd_ne hba, upd_ne hbd, upd_ne hba, upd_ne hbd]
      show Q .non (upd (upd (upd H dx (exd dx [(f, v1)])) a (exo a (He.ga K c) (some dx))) dx (exd dx [(f', v2), (f, v1)]))
      rw [hH]
      refine hq dx _ nd hda fun i n hi => ?_
      match i, hi with
      | 0, hi =>
        cases hi
        have : (f == f') = false := by simpa using hff
        simp [List.lookup, this]
      | 1, hi => cases hi; simp [List.lookup]
  · cases ok2
end
end MP
/-! MP17 -/
set_option Elab.async false
set_option linter.all false
set_option maxRecDepth 100000
set_option maxHeartbeats 1000000
/-! MP17: programs. -/
namespace MP
open PySem PySem.Spec PyProof.Rows L2
/-- one def of the program: mine, the text's, its names -/
structure Ent where
  f : Fn
  d : He.FnD
  N : List Str
  fuel : Nat := 100
def Ent.pars (e : Ent) : List Str := e.d.params.args.map (·.arg)
def scopeOk (N ps : List Str) (sc : Scope) : Bool := decide (sc.kind = .function) && (!sc.isCoroutine && (!sc.isGenerator && (decide N.Nodup && (decide (N.take ps.length = ps) &&
  ((ps.all fun x => decide (sc.names.lookup x = some .local) || decide (sc.names.lookup x = some .cell)) && sc.names.all fun y => !decide (y.2 = .free))))))
theorem scope_by {N ps : List Str} {sc : Scope} (h : scopeOk N ps sc = true) : FnScope N ps sc := by
  simp only [scopeOk, Bool.and_eq_true, decide_eq_true_eq, Bool.not_eq_true', List.all_eq_true, Bool.or_eq_true, decide_eq_false_iff_not] at h
  obtain ⟨h1, h2, h3, h4, h5, h6, h7⟩ := h
  exact ⟨h1, h2, h3, h4, h5, h6, h7⟩
/-- where it stands, by its name in my program -/
def nameAt (p : Str × Option Str) (z : Bool) : Str := match p.2 with
  | none => p.1
  | some m => if z then p.1 else p.1 ++ "." ++ m
def Ck.at_ (B : Ck) (e : Ent) : Ck := { B with N := e.N, sc := e.d.scope, cl := e.N }
/-- one more def known -/
def Ck.add (B : Ck) (e : Ent) : Ck := match e.d.at_.2 with
  | none => { B with lv := B.lv + 2, fs := e.d.at_.1 :: B.fs }
  | some m => if e.f.init then { B with lv := B.lv + 2, cs := e.d.at_.1 :: B.cs } else { B with lv := B.lv + 2, ms := (e.d.at_.1, m) :: B.ms }
/-- no other def has its name -/
def Ck.fresh (B : Ck) (e : Ent) : Bool := match e.d.at_.2 with
  | none => !B.cs.contains e.f.name && B.ms.all fun p => !decide (p.1 ++ "." ++ p.2 = e.f.name)
  | some m => if e.f.init then !B.fs.contains e.f.name && B.ms.all fun p => !decide (p.1 ++ "." ++ p.2 = e.f.name)
    else !B.fs.contains e.f.name && (!B.cs.contains e.f.name && B.ms.all fun p => decide (p = (e.d.at_.1, m)) || !decide (p.1 ++ "." ++ p.2 = e.f.name))
/-- the facts that a def needs -/
def Ent.facts (e : Ent) : List He.Fa := match e.d.at_.2 with
  | none => [.glo e.d.at_.1, .keep e.d.at_.1]
  | some m => if e.f.init then [.glo e.d.at_.1, .mkr e.d.at_.1] else [.cls e.d.at_.1, .meth e.d.at_.1 m]
def okEnt (B : Ck) (e : Ent) : Bool := okSs e.fuel (if e.f.init then [0] else []) (B.at_ e) e.f.body e.d.body && (scopeOk e.N e.pars e.d.scope && (plainP e.d.params e.pars && (decide (e.f.pars = e.pars.length) && (decide (e.f.many = e.N.length) &&
  (decide (e.f.name = nameAt e.d.at_ e.f.init) && (B.fresh e && (!e.f.init || decide (e.d.at_.2 = some "__init__"))))))))
def okProg (B : Ck) : List Ent → Bool
  | [] => true
  | e :: r => okEnt B e && okProg (B.add e) r
def Ck.adds (B : Ck) (es : List Ent) : Ck := es.foldl Ck.add B
def Fns.adds (Φ : Fns) (es : List Ent) : Fns := (es.map (·.f)).foldl Fns.add Φ
section
variable {P : Program} {w : World} {K : PySem.W.Frag} {mg : Str → Option Value} {base : Heap} {B : Ck} {Φ : Fns} {fa : List He.Fa} {fn : List He.FnD}
theorem fact_in (c : He.SaysE fa fn K) {f : He.Fa} (h : f ∈ fa) : f.ok K = true := by
  obtain ⟨i, e⟩ := List.mem_iff_getElem?.mp h
  exact c.fact i e
theorem fn_in (c : He.SaysE fa fn K) {d : He.FnD} (h : d ∈ fn) : ∃ oc od osl kV doc pm an cdv ct, K.lookup (He.fAd K d.at_) = some ⟨oc, od, .func (PySem.W.fnOf d.name d.qual d.params d.body d.scope .none kV doc pm an cdv ct), osl⟩ ∧ PySem.W.codeIn K cdv d.qual = true := by
  obtain ⟨i, e⟩ := List.mem_iff_getElem?.mp h
  exact c.def_ i e
theorem Stat.at_ (St : Stat P w K mg base B Φ) (e : Ent) : Stat P w K mg base (B.at_ e) Φ := ⟨St.fn, St.mc, St.ms, St.fl, St.bl, St.gi, St.gs, St.xp, St.xi, St.xc, St.xm, St.xk, St.xf⟩
def Fn.fin (Φ : Fns) (f : Fn) : List D → List O → Rs O := if f.open_ then f.run Φ else hide (f.run Φ)
theorem Fns.add_same {f : Fn} : Fns.add Φ f f.name = f.fin Φ := if_pos rfl
theorem Fn.fin_F {f : Fn} {k : Nat} {fa : Addr} {fd : FuncData} {ps : List Str} (h : FnOk P w K mg base (L2.CX P w) k fa fd ps (spF ⟨K, P, w⟩ (f.run Φ))) : FnOk P w K mg base (L2.CX P w) k fa fd ps (spF ⟨K, P, w⟩ (f.fin Φ)) := by
  unfold Fn.fin
  split
  · exact h
  · exact h.imp fun _ _ _ _ => spF_hide
theorem Fn.fin_I {f : Fn} {c : Str} {k : Nat} {fa : Addr} {fd : FuncData} {ps : List Str} (h : FnOk P w K mg base (L2.CX P w) k fa fd ps (spI ⟨K, P, w⟩ c (f.run Φ))) : FnOk P w K mg base (L2.CX P w) k fa fd ps (spI ⟨K, P, w⟩ c (f.fin Φ)) := by
  unfold Fn.fin
  split
  · exact h
  · exact h.imp fun _ _ _ _ => spI_hide
theorem Fns.add_ne {f : Fn} {x : Str} (h : x ≠ f.name) : Fns.add Φ f x = Φ x := if_neg h
theorem stat_add (St : Stat P w K mg base B Φ) (c : He.SaysE fa fn K) (X : K.In base) (G : base.Ns mainGlobals mg) {e : Ent} (hd : e.d ∈ fn) (hf : ∀ f ∈ e.facts, f ∈ fa) (ok : okEnt B e = true) : Stat P w K mg base (B.add e) (Fns.add Φ e.f) := by
  simp only [okEnt, Bool.and_eq_true, decide_eq_true_eq] at ok
  obtain ⟨o1, o2, o3, o4, o5, o6, o7, o8⟩ := ok
  obtain ⟨oc, od, osl, kV, doc, pm, an, cdv, ct, lk, hcd⟩ := fn_in c hd
  have S := scope_by o2
  have St' := St.at_ e
  have bd : Binds K (PySem.W.fnOf e.d.name e.d.qual e.d.params e.d.body e.d.scope .none kV doc pm an cdv ct) e.pars [] := Binds.all fun us hl => bind_plain o3 rfl us hl
  have lift : ∀ {f : Addr} {fd : FuncData} {ps : List Str} {sp : Sp}, FnOk P w K mg base (L2.CX P w) B.lv f fd ps sp → FnOk P w K mg base (L2.CX P w) (B.lv + 2) f fd ps sp := fun F => F.mono (by omega)
  unfold Ent.facts at hf
  unfold Ck.fresh at o7
  cases hat : e.d.at_.2 with
  | none =>
    rw [hat] at o7 o8 hf
    simp only at o7 hf
    have hi : e.f.init = false := by
      cases h : e.f.init
      · rfl
      · rw [h] at o8; simp at o8
    have hn : e.f.name = e.d.at_.1 := by rw [o6]; unfold nameAt; rw [hat]
    have hfa : He.fAd K e.d.at_ = He.ga K e.d.at_.1 := by unfold He.fAd; rw [hat]
    rw [hfa] at lk
    have FN := Fn.fin_F (fn_spF St' (n := e.fuel) (f := e.f) lk hcd S hi o4 o5 (by rw [hi] at o1; exact o1))
    simp only [Bool.and_eq_true, Bool.not_eq_true', List.all_eq_true, decide_eq_false_iff_not] at o7
    have hadd : B.add e = { B with lv := B.lv + 2, fs := e.d.at_.1 :: B.fs } := by unfold Ck.add; rw [hat]
    rw [hadd]
    refine ⟨fun p hp => ?_, fun p hp => ?_, fun p hp => ?_, St.fl, St.bl, St.gi, St.gs, St.xp, St.xi, St.xc, St.xm, St.xk, St.xf⟩
    · by_cases hpe : p = e.f.name
      · rw [hpe, Fns.add_same, hn]
        exact ⟨_, _, _, He.glo_ok X G (fact_in c (hf _ (by simp))), He.keep_ok (fact_in c (hf _ (by simp))), bd, FN⟩
      · rw [Fns.add_ne hpe]
        rcases List.mem_cons.mp hp with z | z
        · exact absurd (by rw [z, hn]) hpe
        · obtain ⟨f1, f2, f3, f4, f5, f6, f7⟩ := St.fn p z
          exact ⟨f1, f2, f3, f4, f5, f6, lift f7⟩
    · have hne : p ≠ e.f.name := fun z => by
        have := List.contains_iff_mem.mpr (show p ∈ B.cs from hp)
        rw [z, o7.1] at this; cases this
      rw [Fns.add_ne hne]
      obtain ⟨f1, f2, f3, f4, f5, f6, f7⟩ := St.mc p hp
      exact ⟨f1, f2, f3, f4, f5, f6, lift f7⟩
    · rw [Fns.add_ne (o7.2 p hp)]
      obtain ⟨f1, f2, f3, f4, f5, f6, f7⟩ := St.ms p hp
      exact ⟨f1, f2, f3, f4, f5, f6, lift f7⟩
  | some m =>
    rw [hat] at o7 o8 hf
    simp only at o7 hf
    have hfa : He.fAd K e.d.at_ = He.ma K (He.ga K e.d.at_.1) m := by unfold He.fAd; rw [hat]
    rw [hfa] at lk
    cases hi : e.f.init with
    | true =>
      rw [hi] at o7 o8 hf o1
      simp only [if_true, Bool.and_eq_true, Bool.not_eq_true', List.all_eq_true, decide_eq_false_iff_not] at o7 hf
      have hn : e.f.name = e.d.at_.1 := by rw [o6]; unfold nameAt; rw [hat, hi]; rfl
      have hm : m = "__init__" := by simpa using o8
      have FN := Fn.fin_I (fn_spI St' (n := e.fuel) (f := e.f) lk hcd S hi o4 o5 o1)
      have hadd : B.add e = { B with lv := B.lv + 2, cs := e.d.at_.1 :: B.cs } := by unfold Ck.add; rw [hat]; simp [hi]
      rw [hadd]
      refine ⟨fun p hp => ?_, fun p hp => ?_, fun p hp => ?_, St.fl, St.bl, St.gi, St.gs, St.xp, St.xi, St.xc, St.xm, St.xk, St.xf⟩
      · have hne : p ≠ e.f.name := fun z => by
          have := List.contains_iff_mem.mpr (show p ∈ B.fs from hp)
          rw [z, o7.1] at this; cases this
        rw [Fns.add_ne hne]
        obtain ⟨f1, f2, f3, f4, f5, f6, f7⟩ := St.fn p hp
        exact ⟨f1, f2, f3, f4, f5, f6, lift f7⟩
      · by_cases hpe : p = e.f.name
        · rw [hpe, Fns.add_same]
          have M := He.mkr_ok (fact_in c (hf (.mkr e.d.at_.1) (by simp)))
          rw [hm] at lk
          have hglo := He.glo_ok X G (fact_in c (hf (.glo e.d.at_.1) (by simp)))
          rw [hn]
          rw [hn] at FN
          rw [hm] at FN
          exact ⟨_, _, _, hglo, M, bd, FN⟩
        · rw [Fns.add_ne hpe]
          rcases List.mem_cons.mp hp with z | z
          · exact absurd (by rw [z, hn]) hpe
          · obtain ⟨f1, f2, f3, f4, f5, f6, f7⟩ := St.mc p z
            exact ⟨f1, f2, f3, f4, f5, f6, lift f7⟩
      · rw [Fns.add_ne (o7.2 p hp)]
        obtain ⟨f1, f2, f3, f4, f5, f6, f7⟩ := St.ms p hp
        exact ⟨f1, f2, f3, f4, f5, f6, lift f7⟩
    | false =>
      rw [hi] at o7 o8 hf o1
      simp only [Bool.false_eq_true, if_false, Bool.and_eq_true, Bool.or_eq_true, Bool.not_eq_true', List.all_eq_true, decide_eq_true_eq, decide_eq_false_iff_not] at o7 hf
      have hn : e.f.name = e.d.at_.1 ++ "." ++ m := by rw [o6]; unfold nameAt; rw [hat, hi]; rfl
      have FN := Fn.fin_F (fn_spF St' (n := e.fuel) (f := e.f) lk hcd S hi o4 o5 o1)
      have hadd : B.add e = { B with lv := B.lv + 2, ms := (e.d.at_.1, m) :: B.ms } := by unfold Ck.add; rw [hat]; simp [hi]
      rw [hadd]
      refine ⟨fun p hp => ?_, fun p hp => ?_, fun p hp => ?_, St.fl, St.bl, St.gi, St.gs, St.xp, St.xi, St.xc, St.xm, St.xk, St.xf⟩
      · have hne : p ≠ e.f.name := fun z => by
          have := List.contains_iff_mem.mpr (show p ∈ B.fs from hp)
          rw [z, o7.1] at this; cases this
        rw [Fns.add_ne hne]
        obtain ⟨f1, f2, f3, f4, f5, f6, f7⟩ := St.fn p hp
        exact ⟨f1, f2, f3, f4, f5, f6, lift f7⟩
      · have hne : p ≠ e.f.name := fun z => by
          have := List.contains_iff_mem.mpr (show p ∈ B.cs from hp)
          rw [z, o7.2.1] at this; cases this
        rw [Fns.add_ne hne]
        obtain ⟨f1, f2, f3, f4, f5, f6, f7⟩ := St.mc p hp
        exact ⟨f1, f2, f3, f4, f5, f6, lift f7⟩
      · by_cases hpe : p = (e.d.at_.1, m)
        · rw [hpe]
          show ∃ f fd ps, _ ∧ _ ∧ _ ∧ FnOk P w K mg base (L2.CX P w) (B.lv + 2) f fd ps (spF ⟨K, P, w⟩ (Fns.add Φ e.f (e.d.at_.1 ++ "." ++ m)))
          rw [← hn, Fns.add_same]
          exact ⟨_, _, _, He.cls_ok (fact_in c (hf _ (by simp))), He.meth_ok (fact_in c (hf _ (by simp))), bd, FN⟩
        · rcases List.mem_cons.mp hp with z | z
          · exact absurd z hpe
          · rw [Fns.add_ne ((o7.2.2 p z).resolve_left hpe)]
            obtain ⟨f1, f2, f3, f4, f5, f6, f7⟩ := St.ms p z
            exact ⟨f1, f2, f3, f4, f5, f6, lift f7⟩
theorem stat_adds (c : He.SaysE fa fn K) (X : K.In base) (G : base.Ns mainGlobals mg) : ∀ {es : List Ent} {B : Ck} {Φ : Fns}, Stat P w K mg base B Φ → (∀ e ∈ es, e.d ∈ fn) → (∀ e ∈ es, ∀ f ∈ e.facts, f ∈ fa) → okProg B es = true → Stat P w K mg base (B.adds es) (Φ.adds es)
  | [], B, Φ, S0, _, _, _ => S0
  | e :: es, B, Φ, S0, hd, hf, ok => by
    simp only [okProg, Bool.and_eq_true] at ok
    exact stat_adds (es := es) (B := B.add e) (Φ := Fns.add Φ e.f) c X G (stat_add S0 c X G (hd e List.mem_cons_self) (hf e List.mem_cons_self) ok.1) (fun e' h => hd e' (List.mem_cons_of_mem _ h)) (fun e' h => hf e' (List.mem_cons_of_mem _ h)) ok.2
/-- what is known before any def -/
def Ck.facts (B : Ck) : List He.Fa := (B.fl.flatMap fun p => [.cls p.1, .noat p.1 p.2]) ++ B.bl.map .free ++ (B.gi.map fun p => .int p.1 p.2) ++ (B.gs.map fun p => .str p.1 p.2) ++ (B.xp.flatMap fun x => [.glo x, .exc x]) ++ B.xf.map fun p => .noat p.1 p.2
theorem stat0 (c : He.SaysE fa fn K) (X : K.In base) (G : base.Ns mainGlobals mg) (h0 : B.fs = [] ∧ B.cs = [] ∧ B.ms = []) (hf : ∀ f ∈ B.facts, f ∈ fa) (hxi : ∀ c ∈ B.xi, mg c = some (.ref (He.ga K c)) ∧ OexC K (He.ga K c) ∧ ∃ fI fd ps, PySem.W.findIn K (.ref (He.ga K c)) "__init__" = some (some (.ref fI)) ∧ PySem.W.typeIn K (.ref fI) = some (.type "function") ∧ Binds K fd ps [] ∧ FnOk P w K mg base (L2.CX P w) 2 fI fd ps (spX K c))
    (hxc : ∀ c ∈ B.xc, mg c = some (.ref (He.ga K c))) (hxm : ∀ p ∈ B.xm, PySem.W.exmOne K (.ref (He.ga K p.1)) (.ref (He.ga K p.2.1)) = some p.2.2)
    (hxk : ∀ p ∈ B.xk, ExcC K (He.ga K p.1) ∧ ((p.2.1 ∈ B.xc ∧ PySem.W.kitOne K (.ref (He.ga K p.1)) (.ref (He.ga K p.2.1)) = some p.2.2) ∨ (p.2.1 = "ValueError" ∧ ("ValueError" : Str) ∈ B.bl ∧ PySem.W.kitOne K (.ref (He.ga K p.1)) (.type "ValueError") = some p.2.2))) : Stat P w K mg base B noFns := by
  unfold Ck.facts at hf
  simp only [List.mem_append, List.mem_flatMap, List.mem_map] at hf
  refine ⟨fun p h => ?_, fun p h => ?_, fun p h => ?_, fun p h => ⟨?_, ?_⟩, fun x h => ?_, fun p h => ?_, fun p h => ?_, fun x h => ?_, hxi, hxc, hxm, hxk, fun p h => He.noat_ok (fact_in c (hf _ (.inr ⟨p, h, rfl⟩)))⟩
  · rw [h0.1] at h; cases h
  · rw [h0.2.1] at h; cases h
  · rw [h0.2.2] at h; cases h
  · exact He.cls_ok (fact_in c (hf _ (.inl (.inl (.inl (.inl (.inl ⟨p, h, by simp⟩)))))))
  · exact He.noat_ok (fact_in c (hf _ (.inl (.inl (.inl (.inl (.inl ⟨p, h, by simp⟩)))))))
  · exact He.free_ok X G (fact_in c (hf _ (.inl (.inl (.inl (.inl (.inr ⟨x, h, rfl⟩)))))))
  · exact He.int_ok X G (fact_in c (hf _ (.inl (.inl (.inl (.inr ⟨p, h, rfl⟩))))))
  · exact He.str_ok X G (fact_in c (hf _ (.inl (.inl (.inr ⟨p, h, rfl⟩)))))
  · obtain ⟨e1, e2, e3, e4⟩ := He.exc_ok (fact_in c (hf (.exc x) (.inl (.inr ⟨x, h, by simp⟩))))
    exact ⟨He.glo_ok X G (fact_in c (hf (.glo x) (.inl (.inr ⟨x, h, by simp⟩)))), e1, e2, e3, e4⟩
/-- all that a program needs of the head -/
def factsOf (B : Ck) (es : List Ent) : List He.Fa := B.facts ++ es.flatMap Ent.facts
/-- what the law's def promises at a script -/
theorem law_sp {φ : List D → List O → Rs O} {H : Hp} {a : Addr} {ns : List Int} (hs : SqL K H a (ns.map V.int)) (e : ∃ μ, φ [.scr ns] [] = .ok (.sh (.bl true)) μ) : spF ⟨K, P, w⟩ φ [.ref a] H (fun v _ => v = .bl true) fun _ _ _ => False := by
  refine ⟨[.scr ns], [], ⟨H, [], []⟩, ?_, Same.refl _, ⟨by simp only [List.map_nil, Ows]; exact ⟨trivial, trivial⟩, .nil, fun _ h => by cases h⟩, ?_⟩
  · simp only [Rps, Rp]
    exact ⟨_, [], rfl, ⟨a, rfl, hs⟩, rfl⟩
  · obtain ⟨μ, e⟩ := e
    rw [e]
    exact fun g' H' v fo G => (got_bl G).1
end
end MP
/-! JN -/
set_option Elab.async false
set_option linter.all false
/-! JN: looked up among the defs. -/
namespace MP
open PySem
theorem foldl_ne (x : Str) : ∀ (l : List Fn) (Φ : Fns), (∀ f ∈ l, ¬ f.name = x) → l.foldl Fns.add Φ x = Φ x
  | [], Φ, _ => rfl
  | f :: l, Φ, h => by
    rw [List.foldl_cons, foldl_ne x l _ fun g hg => h g (List.mem_cons_of_mem _ hg)]
    exact if_neg fun z => h f List.mem_cons_self z.symm
theorem look_at (es : List Ent) (i j : Nat) (x : Str) (e : Ent) (h : es[i]? = some e) (hij : i < j) (hx : e.f.name = x) (hn : ((es.take j).drop (i + 1)).all (fun e => !decide (e.f.name = x)) = true) :
    (noFns.adds (es.take j)) x = e.f.fin (noFns.adds (es.take i)) := by
  have hi : i < es.length := by
    rcases Nat.lt_or_ge i es.length with z | z
    · exact z
    · rw [List.getElem?_eq_none z] at h; cases h
  have he : es[i] = e := by
    rw [List.getElem?_eq_getElem hi] at h
    exact Option.some.inj h
  have hs : es.take j = es.take i ++ e :: (es.take j).drop (i + 1) := by
    have h1 : (es.take j).take i = es.take i := by rw [List.take_take]; congr 1; omega
    have h2 : (es.take j).drop i = e :: (es.take j).drop (i + 1) := by
      have hl : i < (es.take j).length := by rw [List.length_take]; omega
      rw [List.drop_eq_getElem_cons hl]
      congr 1
      rw [List.getElem_take]
      exact he
    rw [← h1, ← h2, List.take_append_drop]
  unfold Fns.adds
  rw [hs, List.map_append, List.foldl_append, List.map_cons, List.foldl_cons, foldl_ne]
  · subst hx
    exact if_pos rfl
  · intro f hf
    obtain ⟨e', he', rfl⟩ := List.mem_map.mp hf
    have := List.all_eq_true.mp hn e' he'
    simpa using this
/-- what it does without common cells -/
theorem look0 (es : List Ent) (i j : Nat) (x : Str) (e : Ent) (h : es[i]? = some e) (hij : i < j) (hx : e.f.name = x) (hn : ((es.take j).drop (i + 1)).all (fun e => !decide (e.f.name = x)) = true) :
    ∀ ds, (noFns.adds (es.take j)) x ds [] = e.f.run (noFns.adds (es.take i)) ds [] := fun ds => by
  rw [look_at es i j x e h hij hx hn]
  unfold Fn.fin
  split <;> rfl
end MP
/-! MP18 -/
set_option Elab.async false
set_option linter.all false
set_option maxRecDepth 100000
set_option maxHeartbeats 1000000
/-! MP18: the law's end. -/
namespace MP
open PySem PySem.Spec PyProof.Rows L2
def fnsC (C : Str) : List Stmt → List He.FnD
  | [] => []
  | .FunctionDef n a b _ _ _ sc _ _ _ :: r => ⟨(C, some n), n, C ++ "." ++ n, a, b, sc⟩ :: fnsC C r
  | _ :: r => fnsC C r
def fns : List Stmt → List He.FnD
  | [] => []
  | .FunctionDef n a b _ _ _ sc _ _ _ :: r => ⟨(n, none), n, n, a, b, sc⟩ :: fns r
  | .ClassDef n _ _ b _ _ _ _ _ _ _ :: r => fnsC n b ++ fns r
  | _ :: r => fns r
def noD : He.FnD := ⟨("", none), "", "", { posonlyargs := [], args := [], vararg := none, kwonlyargs := [], kw_defaults := [], kwarg := none, defaults := [] }, [], { kind := .function, names := [], isGenerator := false, isCoroutine := false }⟩
theorem no_cx {P : Program} {w : World} {H : Hp} {s : Shared} {e : Value} {s' : Shared} (h : L2.CX P w [] H s (fun _ _ _ => False) e s') : False := by
  obtain ⟨_, _, _, _, _, _, _, _, _, _, _, _, z⟩ := h
  exact z
theorem walk_mp {l : PySem.W.OpenLaw} {n k : Nat} {q : Program} {loose : List Str} {XP : (Str → Option Value) → Heap → Prop} {YP : World → Heap → Prop} {d : DefRec} {CX : World → CXT} {x : Str}
    (hn : l.most = some n) (hn2 : n ≤ sizeLine) (hdf : d.params.defaults = []) (hr : Room k callerA)
    (F : ∀ (w : World) (mg : Str → Option Value) (fa : Addr) (h : Heap), YP w h → h.Ns mainGlobals mg → mg d.name = some (.ref fa) →
      ∃ (K : PySem.W.Frag) (fd : FuncData) (sp : Sp), K.In h ∧ (∀ (s : Shared) (u : Value), BindsTo s fd ⟨[u], []⟩ [(x, u)]) ∧
        (∀ (H : Hp) (a : Addr) (ns : List Int), ns.length ≤ n → Only H → SqL K H a (ns.map V.int) → sp [.ref a] H (fun v _ => v = .bl true) fun _ _ _ => False) ∧
        ∀ base : Heap, K.In base → base.Ns mainGlobals mg → FnOk l.prog w K mg base (CX w) k fa fd [x] sp)
    (hCX : ∀ (w : World) (H : Hp) (s : Shared) (e : Value) (s' : Shared), CX w [] H s (fun _ _ _ => False) e s' → False) :
    PySem.W.WalkO q loose XP YP l.row.toRowW d [] (fun f vs => PySem.call f vs) := by
  refine Att.attach_call hn hdf fun w s₀ s₁ mg mb fa o pm cd doc a vs ns G Y ho hd hcd hmg hobj hints hlen hg => ?_
  obtain ⟨K, fd, sp, KX, hb, hsp, hF⟩ := F w mg fa _ Y G.T.g hmg
  exact law_call KX G.T.g G.T.b G.T.builtins G.T.nolimit hg hobj hints (Nat.le_trans hlen hn2) hr hF hb (fun H hO hS => hsp H a ns hlen hO hS) fun H e s' => hCX w H s₁ e s'
/-- an error's class with fields, read off the written part -/
def oexB (K : PySem.W.Frag) (c : Str) : Bool := (match K.lookup (He.ga K c) with
    | some ⟨.type "type", _, .cls cd, sl⟩ => (match cd.mro, sl.toList with
      | .ref C' :: bm, [_, _, _, _, some (.builtin n), _] => decide (C' = He.ga K c) && (decide (n = "ValueError.__new__") && (!cd.hasDel && (cd.hasDict && PySem.HandSPX.refsVE bm)))
      | _, _ => false)
    | _ => false) && (decide (PySem.W.findIn K (.ref (He.ga K c)) "__setattr__" = some (some (.builtin "object.__setattr__"))) && (decide (PySem.W.subIn K (.ref (He.ga K c)) (.type "BaseException") = some true) &&
    (decide (PySem.W.typeIn K (.ref (He.ga K c)) = some (.type "type")) && (PySem.W.keepIn K (.ref (He.ga K c)) && (decide (PySem.W.findIn K (.ref (He.ga K c)) "__init__" = some (some (.ref (He.ma K (He.ga K c) "__init__")))) &&
    (decide (PySem.W.typeIn K (.ref (He.ma K (He.ga K c) "__init__")) = some (.type "function")) && (xNames c).all fun f => decide (PySem.W.findIn K (.ref (He.ga K c)) f = some none)))))))
theorem oex_of {K : PySem.W.Frag} {c : Str} (h : oexB K c = true) : OexC K (He.ga K c) ∧ PySem.W.findIn K (.ref (He.ga K c)) "__init__" = some (some (.ref (He.ma K (He.ga K c) "__init__"))) ∧ PySem.W.typeIn K (.ref (He.ma K (He.ga K c) "__init__")) = some (.type "function") ∧
    ∀ f ∈ xNames c, PySem.W.findIn K (.ref (He.ga K c)) f = some none := by
  simp only [oexB, Bool.and_eq_true, decide_eq_true_eq, List.all_eq_true] at h
  obtain ⟨h0, h1, h2, h3, h4, h5, h6, h7⟩ := h
  refine ⟨⟨?_, h1, h2, h3, h4⟩, h5, h6, h7⟩
  generalize He.ga K c = C at *
  split at h0
  · rename_i dd cd sl ho
    split at h0
    · rename_i C' bm k0 k1 k2 k3 n k5 hm hsl
      simp only [Bool.and_eq_true, decide_eq_true_eq, Bool.not_eq_true'] at h0
      obtain ⟨e1, e2, e3, e4, e5⟩ := h0
      obtain ⟨nm, bs, mro, ns, qn, hd, sn, sub, ab, col, del⟩ := cd
      obtain ⟨l⟩ := sl
      simp only at hm hsl e3 e4
      subst hm hsl e1 e2 e3 e4
      exact ⟨nm, qn, ns, bs, bm, sn, sub, ab, col, dd, k0, k1, k2, k3, k5, ho, e5⟩
    · cases h0
  · cases h0
structure XEnt where
  c : Str
  d : He.FnD
  N : List Str
def XEnt.pars (e : XEnt) : List Str := e.d.params.args.map (·.arg)
def XEnt.ok (B : Ck) (e : XEnt) : Bool := decide (e.d.at_ = (e.c, some ("__init__" : Str))) && (scopeOk e.N e.pars e.d.scope && (plainP e.d.params e.pars && (decide (e.pars.length = (xNames e.c).length + 1) && okXI { B with N := e.N, sc := e.d.scope } e.c e.d.body)))
/-- isinstance of a caught error, read off the written part -/
def excB (K : PySem.W.Frag) (c : Str) : Bool := decide (PySem.W.findIn K (.ref (He.ga K c)) "__getattribute__" = some (some (.builtin "BaseException.__getattribute__"))) && (decide (PySem.W.findIn K (.ref (He.ga K c)) "__getattr__" = some none) &&
  (decide (PySem.W.subIn K (.ref (He.ga K c)) (.type "BaseException") = some true) && (PySem.W.hasDictIn K (He.ga K c) && (decide (PySem.W.findIn K (.ref (He.ga K c)) "__class__" = some (some (.builtin "object.__class__"))) &&
  (decide (PySem.W.specialIn K (.builtin "object.__class__") "__get__" = some (some (.builtin "getset_descriptor.__get__"))) && (decide (PySem.W.takesIn K (.builtin "object.__class__") = some true) && decide (PySem.W.mroIn K (He.ga K c) (.type "object") = some true)))))))
theorem exc_of {K : PySem.W.Frag} {c : Str} (h : excB K c = true) : ExcC K (He.ga K c) := by
  simp only [excB, Bool.and_eq_true, decide_eq_true_eq] at h
  obtain ⟨h1, h2, h3, h4, h5, h6, h7, h8⟩ := h
  exact ⟨h1, h2, h3, h4, h5, h6, h7, h8⟩
def kitB (K : PySem.W.Frag) (p : Str × Str × Bool) : Bool := excB K p.1 && (if p.2.1 = "ValueError" then decide (PySem.W.kitOne K (.ref (He.ga K p.1)) (.type "ValueError") = some p.2.2) else decide (PySem.W.kitOne K (.ref (He.ga K p.1)) (.ref (He.ga K p.2.1)) = some p.2.2))
def obsX (n : Nat) (xs : List Str) (xk : List (Str × Str × Bool)) (fa : List He.Fa) (fn : List He.FnD) (g : Addr → Option Obj) : Bool × He.Al := (xs.all (oexB (He.frG g (He.asG g n))) && xk.all (kitB (He.frG g (He.asG g n))), He.obsG n fa fn g)
def SaysX (xs : List Str) (xk : List (Str × Str × Bool)) (fa : List He.Fa) (fn : List He.FnD) (K : PySem.W.Frag) : Prop := He.SaysE fa fn K ∧ (xs.all (oexB K) && xk.all (kitB K)) = true
def hookX (n : Nat) (xs : List Str) (xk : List (Str × Str × Bool)) (fa : List He.Fa) (fn : List He.FnD) : PySem.W.Hook where
  α := Bool × He.Al
  obs := fun s => obsX n xs xk fa fn s.heap.get?
  val := fun _ => (true, He.valE fn)
  says := fun _ h => ∃ K : PySem.W.Frag, K.In h ∧ SaysX xs xk fa fn K
  of := fun _ _ e => ⟨_, He.frG_in, congrArg Prod.snd e, congrArg Prod.fst e⟩
  keeps := fun _ _ _ ⟨K, hK, c⟩ k => ⟨K, PySem.W.Frag.In.keeps hK k, c⟩
theorem obsX_eq {n : Nat} {xs : List Str} {xk : List (Str × Str × Bool)} {fa : List He.Fa} {fn : List He.FnD} {g : Addr → Option Obj} {s : Shared} (h : ∀ a, g a = s.heap.get? a) : obsX n xs xk fa fn g = (hookX n xs xk fa fn).obs s := by
  have e : g = s.heap.get? := funext h
  rw [e]
  rfl
theorem xk_of {K : PySem.W.Frag} {B : Ck} {fa : List He.Fa} {fn : List He.FnD} (c : SaysX B.xi B.xk fa fn K) (ok : (B.xk.all fun p => B.xc.contains p.2.1 || (decide (p.2.1 = "ValueError") && B.bl.contains "ValueError")) = true) (nv : B.xc.contains "ValueError" = false) :
    ∀ p ∈ B.xk, ExcC K (He.ga K p.1) ∧ ((p.2.1 ∈ B.xc ∧ PySem.W.kitOne K (.ref (He.ga K p.1)) (.ref (He.ga K p.2.1)) = some p.2.2) ∨ (p.2.1 = "ValueError" ∧ ("ValueError" : Str) ∈ B.bl ∧ PySem.W.kitOne K (.ref (He.ga K p.1)) (.type "ValueError") = some p.2.2)) := by
  intro p hp
  have h1 := List.all_eq_true.mp (Bool.and_eq_true_iff.mp c.2).2 p hp
  have h2 := List.all_eq_true.mp ok p hp
  simp only [kitB, Bool.and_eq_true] at h1
  refine ⟨exc_of h1.1, ?_⟩
  by_cases hv : p.2.1 = "ValueError"
  · rw [hv] at h2
    rw [if_pos hv] at h1
    rw [nv] at h2
    simp only [Bool.false_or, Bool.and_eq_true] at h2
    exact .inr ⟨hv, List.contains_iff_mem.mp h2.2, of_decide_eq_true h1.2⟩
  · rw [if_neg hv] at h1
    simp only [Bool.or_eq_true, Bool.and_eq_true, decide_eq_true_eq] at h2
    rcases h2 with h2 | h2
    · exact .inl ⟨List.contains_iff_mem.mp h2, of_decide_eq_true h1.2⟩
    · exact absurd h2.1 hv
theorem xi_of {P : Program} {w : World} {K : PySem.W.Frag} {mg : Str → Option Value} {base : Heap} {B : Ck} {fa : List He.Fa} {fn : List He.FnD} {xs : List XEnt} (c : SaysX B.xi B.xk fa fn K) (X : K.In base) (G : base.Ns mainGlobals mg) (hx : B.xi = xs.map (·.c)) (hg : ∀ x ∈ B.xi, He.Fa.glo x ∈ fa)
    (hd : ∀ e ∈ xs, e.d ∈ fn) (ok : xs.all (XEnt.ok B) = true) : ∀ x ∈ B.xi, mg x = some (.ref (He.ga K x)) ∧ OexC K (He.ga K x) ∧ ∃ fI fd ps, PySem.W.findIn K (.ref (He.ga K x)) "__init__" = some (some (.ref fI)) ∧ PySem.W.typeIn K (.ref fI) = some (.type "function") ∧ Binds K fd ps [] ∧
      FnOk P w K mg base (L2.CX P w) 2 fI fd ps (spX K x) := by
  intro x hxi
  obtain ⟨T, h1, h2, h3⟩ := oex_of (List.all_eq_true.mp (Bool.and_eq_true_iff.mp c.2).1 x hxi)
  obtain ⟨e, he, rfl⟩ := List.mem_map.mp (by rw [hx] at hxi; exact hxi)
  have oke := List.all_eq_true.mp ok e he
  simp only [XEnt.ok, Bool.and_eq_true, decide_eq_true_eq] at oke
  obtain ⟨o1, o2, o3, o4, o5⟩ := oke
  obtain ⟨oc, od, osl, kV, doc, pm, an, cdv, ct, lk, hcd⟩ := fn_in c.1 (hd e he)
  have hfa : He.fAd K e.d.at_ = He.ma K (He.ga K e.c) "__init__" := by unfold He.fAd; rw [o1]
  rw [hfa] at lk
  have FN := fn_spX (P := P) (w := w) (mg := mg) (base := base) (k := { B with N := e.N, sc := e.d.scope }) lk hcd (scope_by o2) o4 T h3 o5
  exact ⟨He.glo_ok X G (fact_in c.1 (hg _ hxi)), T, _, _, _, h1, h2, Binds.all fun us hl => bind_plain o3 rfl us hl, FN⟩
/-- what the head gives is enough: mine is the law's last def -/
theorem law_end {l : PySem.W.OpenLaw} {n k : Nat} {q : Program} {loose : List Str} {XP : (Str → Option Value) → Heap → Prop} {d : DefRec} {x : Str} {B : Ck} {es : List Ent} {e : Ent} {fa : List He.Fa} {fn : List He.FnD} {xs : List XEnt}
    (hx : B.xi = xs.map (·.c)) (hxg : ∀ x ∈ B.xi, He.Fa.glo x ∈ fa) (hxd : ∀ x ∈ xs, x.d ∈ fn) (okx : xs.all (XEnt.ok B) = true)
    (hxc : ∀ x ∈ B.xc, He.Fa.glo x ∈ fa) (hxm : ∀ p ∈ B.xm, He.Fa.exm p.1 p.2.1 p.2.2 ∈ fa) (okk : (B.xk.all fun p => B.xc.contains p.2.1 || (decide (p.2.1 = "ValueError") && B.bl.contains "ValueError")) = true) (nv : B.xc.contains "ValueError" = false)
    (hn : l.most = some n) (hn2 : n ≤ sizeLine) (hdf : d.params.defaults = []) (hr : Room k callerA) (hk : (B.adds es).lv + 2 ≤ k) (hdn : d.name = "law") (h0 : B.fs = [] ∧ B.cs = [] ∧ B.ms = []) (ok : okProg B es = true) (oke : okEnt (B.adds es) e = true)
    (he : e.d.at_ = (("law" : Str), none)) (hi : e.f.init = false) (hp : e.pars = [x]) (hfn : ∀ e' ∈ e :: es, e'.d ∈ fn) (hfa : ∀ f ∈ factsOf B (e :: es), f ∈ fa)
    (math : ∀ ns : List Int, ns.length ≤ n → ∃ μ, e.f.run (noFns.adds es) [.scr ns] [] = .ok (.sh (.bl true)) μ) :
    PySem.W.WalkO q loose XP (fun _ h => ∃ K : PySem.W.Frag, K.In h ∧ SaysX B.xi B.xk fa fn K) l.row.toRowW d [] (fun f vs => PySem.call f vs) := by
  refine walk_mp (k := k) (x := x) (CX := fun w => L2.CX l.prog w) hn hn2 hdf hr ?_ (fun w H s e s' h => no_cx h)
  intro w mg f h Y G hmg
  obtain ⟨K, KX, cX⟩ := Y
  have c := cX.1
  have hfe : ∀ e' ∈ e :: es, ∀ f ∈ e'.facts, f ∈ fa := fun e' h' f hf => hfa f (List.mem_append_right _ (List.mem_flatMap.mpr ⟨e', h', hf⟩))
  have hfacts : e.facts = [.glo "law", .keep "law"] := by unfold Ent.facts; rw [he]
  have hglo := He.glo_ok KX G (fact_in c (hfe e List.mem_cons_self (.glo "law") (by rw [hfacts]; simp)))
  rw [hdn] at hmg
  rw [hglo] at hmg
  cases hmg
  obtain ⟨oc, od, osl, kV, doc, pm, an, cdv, ct, lk, hcd⟩ := fn_in c (hfn e List.mem_cons_self)
  have hfA : He.fAd K e.d.at_ = He.ga K "law" := by unfold He.fAd; rw [he]
  rw [hfA] at lk
  have oke' := oke
  simp only [okEnt, Bool.and_eq_true, decide_eq_true_eq] at oke
  obtain ⟨o1, o2, o3, o4, o5, o6, o7, o8⟩ := oke
  rw [hi] at o1
  refine ⟨K, PySem.W.fnOf e.d.name e.d.qual e.d.params e.d.body e.d.scope .none kV doc pm an cdv ct, spF ⟨K, l.prog, w⟩ (e.f.run (noFns.adds es)), KX, fun s u => ?_, fun H a ns hns hO hS => law_sp hS (math ns hns), fun base XB GB => ?_⟩
  · exact PySem.BindsTo.of_eq (by rw [show [(x, u)] = e.pars.zip [u] from by rw [hp]; rfl]; exact bind_plain o3 rfl [u] (by rw [hp]; rfl))
  · have S0 := stat_adds (es := es) (B := B) (Φ := noFns) (P := l.prog) (w := w) c XB GB (stat0 c XB GB h0 (fun f hf => hfa f (List.mem_append_left _ hf)) (xi_of cX XB GB hx hxg hxd okx) (fun x h => He.glo_ok XB GB (fact_in c (hxc x h))) (fun p h => He.exm_ok (fact_in c (hxm p h))) (xk_of cX okk nv)) (fun e' h' => hfn e' (List.mem_cons_of_mem _ h')) (fun e' h' => hfe e' (List.mem_cons_of_mem _ h')) ok
    have F := fn_spF (S0.at_ e) (n := e.fuel) (f := e.f) lk hcd (scope_by o2) hi o4 o5 o1
    rw [hp] at F
    exact F.mono hk
end MP
/-! MPL -/
set_option Elab.async false
set_option linter.all false
set_option maxRecDepth 100000
/-! MPL: to reckon with my evaluator. -/
namespace MP
open PySem (Str)
def oB {α : Type} (c : Option Bool) (f : Bool → Rs α) : Rs α := match c with
  | some b => f b
  | none => .bad
@[simp] theorem oB_some {α : Type} (b : Bool) (f : Bool → Rs α) : oB (some b) f = f b := rfl
def oF (c : Option Bool) (f : Bool → Fl) : Fl := match c with
  | some b => f b
  | none => .bad
@[simp] theorem oF_some (b : Bool) (f : Bool → Fl) : oF (some b) f = f b := rfl
section
variable (Φ : Fns) (ρ : List Sl) (μ : List O)
@[simp] theorem eE_bad : evE Φ .bad ρ μ = .bad := by first | (simp only [evE]; done) | (simp only [evE]; rfl) | rfl
@[simp] theorem eE_non : evE Φ .non ρ μ = .ok (.sh .non) μ := by first | (simp only [evE]; done) | (simp only [evE]; rfl) | rfl
@[simp] theorem eE_bl (b) : evE Φ (.bl b) ρ μ = .ok (.sh (.bl b)) μ := by first | (simp only [evE]; done) | (simp only [evE]; rfl) | rfl
@[simp] theorem eE_int (b) : evE Φ (.int b) ρ μ = .ok (.sh (.int b)) μ := by first | (simp only [evE]; done) | (simp only [evE]; rfl) | rfl
@[simp] theorem eE_str (b) : evE Φ (.str b) ρ μ = .ok (.sh (.str b)) μ := by first | (simp only [evE]; done) | (simp only [evE]; rfl) | rfl
@[simp] theorem eE_var (b) : evE Φ (.var b) ρ μ = lift ((getV ρ b).map O.sh) μ := by first | (simp only [evE]; done) | (simp only [evE]; rfl) | rfl
@[simp] theorem eE_glI (x b) : evE Φ (.glI x b) ρ μ = .ok (.sh (.int b)) μ := by first | (simp only [evE]; done) | (simp only [evE]; rfl) | rfl
@[simp] theorem eE_glS (x b) : evE Φ (.glS x b) ρ μ = .ok (.sh (.str b)) μ := by first | (simp only [evE]; done) | (simp only [evE]; rfl) | rfl
@[simp] theorem eE_bin (op a b) : evE Φ (.bin op a b) ρ μ = (evE Φ a ρ μ).bind fun x μ1 => (evE Φ b ρ μ1).bind fun y μ2 => lift (binD op (fz x) (fz y)) μ2 := by first | (simp only [evE]; done) | (simp only [evE]; rfl) | rfl
@[simp] theorem eE_neg (a) : evE Φ (.neg a) ρ μ = (evE Φ a ρ μ).bind fun x μ1 => (match fz x with
    | .int i => .ok (.sh (.int (-i))) μ1
    | _ => .bad) := by first | (simp only [evE]; done) | (simp only [evE]; rfl) | rfl
@[simp] theorem eE_nt (a) : evE Φ (.nt a) ρ μ = (evE Φ a ρ μ).bind fun x μ1 => oB (asB x) fun b => .ok (.sh (.bl (!b))) μ1 := by
  simp only [evE]
  cases evE Φ a ρ μ with
  | ok x μ1 => simp only [Rs.bind_ok]; cases asB x <;> rfl
  | _ => rfl
@[simp] theorem eE_and (a b) : evE Φ (.and a b) ρ μ = (evE Φ a ρ μ).bind fun x μ1 => oB (asB x) fun c => if c = true then (evE Φ b ρ μ1).bind fun y μ2 => oB (asB y) fun c => .ok (.sh (.bl c)) μ2 else .ok (.sh (.bl false)) μ1 := by
  simp only [evE]
  cases evE Φ a ρ μ with
  | ok x μ1 =>
    simp only [Rs.bind_ok]
    cases asB x with
    | none => rfl
    | some c =>
      cases c
      · rfl
      · simp only [oB_some, if_true]
        cases evE Φ b ρ μ1 with
        | ok y μ2 => simp only [Rs.bind_ok]; cases asB y <;> rfl
        | _ => rfl
  | _ => rfl
@[simp] theorem eE_or (a b) : evE Φ (.or a b) ρ μ = (evE Φ a ρ μ).bind fun x μ1 => oB (asB x) fun c => if c = true then .ok (.sh (.bl true)) μ1 else (evE Φ b ρ μ1).bind fun y μ2 => oB (asB y) fun c => .ok (.sh (.bl c)) μ2 := by
  simp only [evE]
  cases evE Φ a ρ μ with
  | ok x μ1 =>
    simp only [Rs.bind_ok]
    cases asB x with
    | none => rfl
    | some c =>
      cases c
      · simp only [oB_some, Bool.false_eq_true, if_false]
        cases evE Φ b ρ μ1 with
        | ok y μ2 => simp only [Rs.bind_ok]; cases asB y <;> rfl
        | _ => rfl
      · rfl
  | _ => rfl
@[simp] theorem eE_cmp (c a b) : evE Φ (.cmp c a b) ρ μ = (evE Φ a ρ μ).bind fun x μ1 => (evE Φ b ρ μ1).bind fun y μ2 => oB (cmpD c (fz x) (fz y)) fun t => .ok (.sh (.bl t)) μ2 := by
  simp only [evE]
  cases evE Φ a ρ μ with
  | ok x μ1 =>
    simp only [Rs.bind_ok]
    cases evE Φ b ρ μ1 with
    | ok y μ2 => simp only [Rs.bind_ok]; cases cmpD c (fz x) (fz y) <;> rfl
    | _ => rfl
  | _ => rfl
@[simp] theorem eE_chn (c c' a b d) : evE Φ (.chn c c' a b d) ρ μ = (evE Φ a ρ μ).bind fun x μ1 => (evE Φ b ρ μ1).bind fun y μ2 => oB (cmpD c (fz x) (fz y)) fun t => if t = true then (evE Φ d ρ μ2).bind fun z μ3 => oB (cmpD c' (fz y) (fz z)) fun t => .ok (.sh (.bl t)) μ3 else .ok (.sh (.bl false)) μ2 := by
  simp only [evE]
  cases evE Φ a ρ μ with
  | ok x μ1 =>
    simp only [Rs.bind_ok]
    cases evE Φ b ρ μ1 with
    | ok y μ2 =>
      simp only [Rs.bind_ok]
      cases cmpD c (fz x) (fz y) with
      | none => rfl
      | some t =>
        cases t
        · rfl
        · simp only [oB_some, if_true]
          cases evE Φ d ρ μ2 with
          | ok z μ3 => simp only [Rs.bind_ok]; cases cmpD c' (fz y) (fz z) <;> rfl
          | _ => rfl
    | _ => rfl
  | _ => rfl
@[simp] theorem eE_chn3 (c c' c'' a b d e) : evE Φ (.chn3 c c' c'' a b d e) ρ μ = (evE Φ a ρ μ).bind fun x μ1 => (evE Φ b ρ μ1).bind fun y μ2 => oB (cmpD c (fz x) (fz y)) fun t => if t = true then (evE Φ d ρ μ2).bind fun z μ3 => oB (cmpD c' (fz y) (fz z)) fun t =>
    if t = true then (evE Φ e ρ μ3).bind fun u μ4 => oB (cmpD c'' (fz z) (fz u)) fun t => .ok (.sh (.bl t)) μ4 else .ok (.sh (.bl false)) μ3 else .ok (.sh (.bl false)) μ2 := by
  simp only [evE]
  cases evE Φ a ρ μ with
  | ok x μ1 =>
    simp only [Rs.bind_ok]
    cases evE Φ b ρ μ1 with
    | ok y μ2 =>
      simp only [Rs.bind_ok]
      cases cmpD c (fz x) (fz y) with
      | none => rfl
      | some t =>
        cases t
        · rfl
        · simp only [oB_some, if_true]
          cases evE Φ d ρ μ2 with
          | ok z μ3 =>
            simp only [Rs.bind_ok]
            cases cmpD c' (fz y) (fz z) with
            | none => rfl
            | some t =>
              cases t
              · rfl
              · simp only [oB_some, if_true]
                cases evE Φ e ρ μ3 with
                | ok u μ4 => simp only [Rs.bind_ok]; cases cmpD c'' (fz z) (fz u) <;> rfl
                | _ => rfl
          | _ => rfl
    | _ => rfl
  | _ => rfl
@[simp] theorem eE_ife (t a b) : evE Φ (.ife t a b) ρ μ = (evE Φ t ρ μ).bind fun x μ1 => oB (asB x) fun c => if c = true then evE Φ a ρ μ1 else evE Φ b ρ μ1 := by
  simp only [evE]
  cases evE Φ t ρ μ with
  | ok x μ1 =>
    simp only [Rs.bind_ok]
    cases asB x with
    | none => rfl
    | some c => cases c <;> rfl
  | _ => rfl
@[simp] theorem eE_ix (a i) : evE Φ (.ix a i) ρ μ = (evE Φ a ρ μ).bind fun x μ1 => (evE Φ i ρ μ1).bind fun y μ2 => lift ((ixD (fz x) (fz y)).map .sh) μ2 := by first | (simp only [evE]; done) | (simp only [evE]; rfl) | rfl
@[simp] theorem eE_sl (a lo hi) : evE Φ (.sl a lo hi) ρ μ = (evE Φ a ρ μ).bind fun x μ1 => (evO Φ lo ρ μ1).bind fun l μ2 => (evO Φ hi ρ μ2).bind fun h μ3 => lift (cutD (fz x) l h) μ3 := by first | (simp only [evE]; done) | (simp only [evE]; rfl) | rfl
@[simp] theorem eE_fld (c a f) : evE Φ (.fld c a f) ρ μ = (evE Φ a ρ μ).bind fun x μ1 => lift ((fldD c (fz x) f).map .sh) μ1 := by first | (simp only [evE]; done) | (simp only [evE]; rfl) | rfl
@[simp] theorem eE_lst (es) : evE Φ (.lst es) ρ μ = (evEs Φ es ρ μ).bind fun xs μ1 => if xs.length ≤ LIM then .ok (.ol xs) μ1 else .bad := by first | (simp only [evE]; done) | (simp only [evE]; rfl) | rfl
@[simp] theorem eE_tup (es) : evE Φ (.tup es) ρ μ = (evEs Φ es ρ μ).bind fun xs μ1 => if xs.length ≤ LIM then .ok (.sh (.tup (fzs xs))) μ1 else .bad := by first | (simp only [evE]; done) | (simp only [evE]; rfl) | rfl
@[simp] theorem eE_dnew (t) : evE Φ (.dnew t) ρ μ = .ok (.od t [] []) μ := by first | (simp only [evE]; done) | (simp only [evE]; rfl) | rfl
@[simp] theorem eE_shl (a) : evE Φ (.shl a) ρ μ = (evE Φ a ρ μ).bind fun x μ1 => (match x with
    | .ol l => .ok (.ol ((l.map fz).map .sh)) μ1
    | _ => .bad) := by first | (simp only [evE]; done) | (simp only [evE]; rfl) | rfl
@[simp] theorem eE_call (f es) : evE Φ (.call f es) ρ μ = (evEs Φ es ρ μ).bind fun xs μ1 => Φ f (fzs xs) μ1 := by first | (simp only [evE]; done) | (simp only [evE]; rfl) | rfl
@[simp] theorem eE_mk (f es) : evE Φ (.mk f es) ρ μ = (evEs Φ es ρ μ).bind fun xs μ1 => Φ f (fzs xs) μ1 := by first | (simp only [evE]; done) | (simp only [evE]; rfl) | rfl
@[simp] theorem eE_meth (c a m es) : evE Φ (.meth c a m es) ρ μ = (evE Φ a ρ μ).bind fun x μ1 => if metO c m (fz x) then (evEs Φ es ρ μ1).bind fun xs μ2 => Φ (c ++ "." ++ m) (fz x :: fzs xs) μ2 else .bad := by first | (simp only [evE]; done) | (simp only [evE]; rfl) | rfl
@[simp] theorem eE_bi (b es) : evE Φ (.bi b es) ρ μ = (evEs Φ es ρ μ).bind fun xs μ1 => lift (biD b (fzs xs)) μ1 := by first | (simp only [evE]; done) | (simp only [evE]; rfl) | rfl
@[simp] theorem borE_nil (ρ : List Sl) (is : List Nat) : borE ρ is [] = lend ρ is := rfl
@[simp] theorem borE_cons (ρ : List Sl) (is : List Nat) (x : O) (l : List O) : borE ρ is (x :: l) = dropC (lend ρ is) := rfl
@[simp] theorem eE_bor (is e) : evE Φ (.bor is e) ρ μ = (match evE Φ e (borE ρ is μ) [] with
    | .ok o μ1 => if okB o && μ1.isEmpty then .ok o μ else .bad
    | .er c fs μ1 => if noLs fs && μ1.isEmpty then .er c fs μ else .bad
    | .bad => .bad) := by first | (simp only [evE]; done) | (simp only [evE]; rfl) | rfl
@[simp] theorem eE_oix (i e) : evE Φ (.oix i e) ρ μ = (match ownL ρ i with
    | some l => (evE Φ e ρ μ).bind fun k μ1 => lift (oixO l (fz k)) μ1
    | none => .bad) := by first | (simp only [evE]; done) | (simp only [evE]; rfl) | rfl
@[simp] theorem eEs_nil : evEs Φ [] ρ μ = .ok [] μ := by first | (simp only [evEs]; done) | (simp only [evEs]; rfl) | rfl
@[simp] theorem eEs_cons (e es) : evEs Φ (e :: es) ρ μ = (evE Φ e ρ μ).bind fun x μ1 => (evEs Φ es ρ μ1).bind fun xs μ2 => .ok (x :: xs) μ2 := by first | (simp only [evEs]; done) | (simp only [evEs]; rfl) | rfl
@[simp] theorem eO_none : evO Φ none ρ μ = .ok none μ := by first | (simp only [evO]; done) | (simp only [evO]; rfl) | rfl
@[simp] theorem eO_some (e) : evO Φ (some e) ρ μ = (evE Φ e ρ μ).bind fun x μ1 => lift (optI (fz x)) μ1 := by first | (simp only [evO]; done) | (simp only [evO]; rfl) | rfl
/-! statements -/
@[simp] theorem eS_asg (tg e) : evS Φ (.asg tg e) ρ μ = (evE Φ e ρ μ).go ρ fun x μ1 => (match setT tg (fz x) ρ with
    | some ρ1 => .nx ρ1 μ1
    | none => .bad) := by first | (simp only [evS]; done) | (simp only [evS]; rfl) | rfl
@[simp] theorem eS_own (i e) : evS Φ (.own i e) ρ μ = (evE Φ e ρ μ).go ρ fun x μ1 => .nx (ρ.set i (.ow x)) μ1 := by first | (simp only [evS]; done) | (simp only [evS]; rfl) | rfl
@[simp] theorem eS_aug (i op e) : evS Φ (.aug i op e) ρ μ = (match getV ρ i with
    | some d => (evE Φ e ρ μ).go ρ fun x μ1 => (match augD op d (fz x) with
      | some z => .nx (ρ.set i (.va (.int z))) μ1
      | none => .bad)
    | none => .bad) := by first | (simp only [evS]; done) | (simp only [evS]; rfl) | rfl
@[simp] theorem eS_ex (e) : evS Φ (.ex e) ρ μ = (evE Φ e ρ μ).go ρ fun _ μ1 => .nx ρ μ1 := by first | (simp only [evS]; done) | (simp only [evS]; rfl) | rfl
@[simp] theorem eS_app (i e) : evS Φ (.app i e) ρ μ = (match ownL ρ i with
    | some l => (evE Φ e ρ μ).go ρ fun x μ1 => if l.length < LIM then .nx (ρ.set i (.ow (.ol (l ++ [.sh (fz x)])))) μ1 else .bad
    | none => .bad) := by first | (simp only [evS]; done) | (simp only [evS]; rfl) | rfl
@[simp] theorem eS_fset (c i f e) : evS Φ (.fset c i f e) ρ μ = (evE Φ e ρ μ).go ρ fun x μ1 => (match ρ[i]? with
    | some (.ow o) => (match fputO c o f (.sh (fz x)) with
      | some o1 => .nx (ρ.set i (.ow o1)) μ1
      | none => .bad)
    | _ => .bad) := by first | (simp only [evS]; done) | (simp only [evS]; rfl) | rfl
@[simp] theorem eS_ifs (t a b) : evS Φ (.ifs t a b) ρ μ = (evE Φ t ρ μ).go ρ fun x μ1 => oF (asB x) fun c => if c = true then evSs Φ a ρ μ1 else evSs Φ b ρ μ1 := by
  simp only [evS]
  cases evE Φ t ρ μ with
  | ok x μ1 =>
    simp only [Rs.go_ok]
    cases asB x with
    | none => rfl
    | some c => cases c <;> rfl
  | _ => rfl
@[simp] theorem eS_whl (n t b) : evS Φ (.whl n t b) ρ μ = whlRun (evE Φ t) (evSs Φ b) n ρ μ := by first | (simp only [evS]; done) | (simp only [evS]; rfl) | rfl
@[simp] theorem eS_for (tg it b) : evS Φ (.for tg it b) ρ μ = (evE Φ it ρ μ).go ρ fun x μ1 => (match itD (fz x) with
    | some ds => forRun tg (evSs Φ b) ds ρ μ1
    | none => .bad) := by first | (simp only [evS]; done) | (simp only [evS]; rfl) | rfl
@[simp] theorem eS_ret (e) : evS Φ (.ret e) ρ μ = (evE Φ e ρ μ).go ρ fun x μ1 => .rt x μ1 := by first | (simp only [evS]; done) | (simp only [evS]; rfl) | rfl
@[simp] theorem eS_retN : evS Φ .retN ρ μ = .rt (.sh .non) μ := by first | (simp only [evS]; done) | (simp only [evS]; rfl) | rfl
theorem eS_retO (i) : evS Φ (.retO i) ρ μ = (match ρ[i]? with
    | some (.ow o) => .rt o μ
    | _ => .bad) := by first | (simp only [evS]; done) | (simp only [evS]; rfl) | rfl
@[simp] theorem eS_rais (c es) : evS Φ (.rais c es) ρ μ = (evEs Φ es ρ μ).go ρ fun xs μ1 => .er c (fzs xs) ρ μ1 := by first | (simp only [evS]; done) | (simp only [evS]; rfl) | rfl
@[simp] theorem eS_brk : evS Φ .brk ρ μ = .bk ρ μ := by first | (simp only [evS]; done) | (simp only [evS]; rfl) | rfl
@[simp] theorem eS_cnt : evS Φ .cnt ρ μ = .ct ρ μ := by first | (simp only [evS]; done) | (simp only [evS]; rfl) | rfl
@[simp] theorem eS_frz (i dr) : evS Φ (.frz i dr) ρ μ = .nx (drops (lend ρ [i]) dr) μ := by first | (simp only [evS]; done) | (simp only [evS]; rfl) | rfl
@[simp] theorem eS_try (b y all cs ie j l) : evS Φ (.try b y all cs ie j l) ρ μ = tryF all cs ie j l (evSs Φ b ρ μ) := by first | (simp only [evS]; done) | (simp only [evS]; rfl) | rfl
@[simp] theorem eSs_nil : evSs Φ [] ρ μ = .nx ρ μ := by first | (simp only [evSs]; done) | (simp only [evSs]; rfl) | rfl
@[simp] theorem eSs_cons (s r) : evSs Φ (s :: r) ρ μ = (evS Φ s ρ μ).then fun ρ1 μ1 => evSs Φ r ρ1 μ1 := by first | (simp only [evSs]; done) | (simp only [evSs]; rfl) | rfl
end
@[simp] theorem tryF_nx (all cs : List Str) (ie j : Nat) (l : List HF) (ρ : List Sl) (μ : List O) : tryF all cs ie j l (.nx ρ μ) = .nx ρ μ := rfl
@[simp] theorem tryF_rt (all cs : List Str) (ie j : Nat) (l : List HF) (o : O) (μ : List O) : tryF all cs ie j l (.rt o μ) = .rt o μ := rfl
/-! ite pushed outwards -/
@[simp] theorem ite_ok {α : Type} {p : Prop} [Decidable p] {a b : α} {μ : List O} : (if p then Rs.ok a μ else Rs.ok b μ) = Rs.ok (if p then a else b) μ := by split <;> rfl
@[simp] theorem ite_sh {p : Prop} [Decidable p] {a b : D} : (if p then O.sh a else O.sh b) = O.sh (if p then a else b) := by split <;> rfl
@[simp] theorem ite_bl {p : Prop} [Decidable p] {a b : Bool} : (if p then D.bl a else D.bl b) = D.bl (if p then a else b) := by split <;> rfl
@[simp] theorem ite_int {p : Prop} [Decidable p] {a b : Int} : (if p then D.int a else D.int b) = D.int (if p then a else b) := by split <;> rfl
@[simp] theorem bind_ite {α β : Type} {p : Prop} [Decidable p] {a b : Rs α} {f : α → List O → Rs β} : (if p then a else b).bind f = if p then a.bind f else b.bind f := by split <;> rfl
@[simp] theorem go_ite {α : Type} {p : Prop} [Decidable p] {a b : Rs α} {ρ : List Sl} {f : α → List O → Fl} : (if p then a else b).go ρ f = if p then a.go ρ f else b.go ρ f := by split <;> rfl
@[simp] theorem then_ite {p : Prop} [Decidable p] {a b : Fl} {f : List Sl → List O → Fl} : (if p then a else b).then f = if p then a.then f else b.then f := by split <;> rfl
@[simp] theorem eq_int (i j : Int) : cmpD .eq (.int i) (.int j) = some (decide (i = j)) := by
  simp [cmpD, eqD, wf, deq]
  by_cases h : i = j <;> simp [h]
@[simp] theorem ne_int (i j : Int) : cmpD .ne (.int i) (.int j) = some (decide (i ≠ j)) := by
  simp [cmpD, eqD, wf, deq]
  by_cases h : i = j <;> simp [h]
@[simp] theorem lt_int (i j : Int) : cmpD .lt (.int i) (.int j) = some (decide (i < j)) := rfl
@[simp] theorem le_int (i j : Int) : cmpD .le (.int i) (.int j) = some (decide (i ≤ j)) := rfl
@[simp] theorem gt_int (i j : Int) : cmpD .gt (.int i) (.int j) = some (decide (j < i)) := rfl
@[simp] theorem ge_int (i j : Int) : cmpD .ge (.int i) (.int j) = some (decide (j ≤ i)) := rfl
/-- a def's end -/
def Fl.fin : Fl → Rs O
  | .nx _ μ => .ok (.sh .non) μ
  | .rt o μ => .ok o μ
  | .er c fs _ μ => .er c fs μ
  | _ => .bad
@[simp] theorem fin_nx {ρ : List Sl} {μ : List O} : (Fl.nx ρ μ).fin = .ok (.sh .non) μ := rfl
@[simp] theorem fin_rt {o : O} {μ : List O} : (Fl.rt o μ).fin = .ok o μ := rfl
@[simp] theorem fin_er {c : Str} {fs : List D} {ρ : List Sl} {μ : List O} : (Fl.er c fs ρ μ).fin = .er c fs μ := rfl
@[simp] theorem fin_ite {p : Prop} [Decidable p] {a b : Fl} : (if p then a else b).fin = if p then a.fin else b.fin := by split <;> rfl
theorem run_eq {Φ : Fns} {f : Fn} {ds : List D} {μ : List O} (hi : f.init = false) (hl : ds.length = f.pars) : f.run Φ ds μ = (evSs Φ f.body (ds.map Sl.va ++ List.replicate (f.many - f.pars) .no) μ).fin := by
  unfold Fn.run
  simp only [hi, hl, if_true]
  cases evSs Φ f.body (ds.map Sl.va ++ List.replicate (f.many - f.pars) .no) μ <;> rfl
@[simp] theorem fz_ol (l : List O) : fz (.ol l) = .lst (fzs l) := by simp only [fz]
@[simp] theorem fzs_comp {α : Type} (f : α → D) (l : List α) : fzs (l.map (O.sh ∘ f)) = l.map f := by simp [fzs_map, Function.comp_def]
@[simp] theorem fzs_comp' {α : Type} (f : α → D) (l : List α) : fzs (l.map fun a => O.sh (f a)) = l.map f := by simp [fzs_map, Function.comp_def]
@[simp] theorem optI_int (i : Int) : optI (.int i) = some (some i) := rfl
@[simp] theorem itD_lst (l : List D) : itD (.lst l) = some l := rfl
@[simp] theorem itD_tup (l : List D) : itD (.tup l) = some l := rfl
theorem atI_nat {α : Type} {l : List α} {i : Int} (h : 0 ≤ i) (h2 : i < l.length) : atI l i = some (l[i.toNat]'(by omega)) := by
  unfold atI ixN
  rw [if_pos h, if_pos h2]
  simp
theorem atI_map {α β : Type} {f : α → β} {l : List α} {i : Int} : atI (l.map f) i = (atI l i).map f := by
  unfold atI
  rw [List.length_map]
  cases ixN l.length i with
  | none => rfl
  | some j => simp
/-- a comprehension's turn -/
def lcG (Φ : Fns) (ρ : List Sl) (elt : E) (tg : T) (cd : Option E) (d : D) (μ : List O) : Rs (Option D) := match setT tg d (drops ρ (tgN tg)) with
  | some ρ1 => (evC Φ cd ρ1 μ).bind fun c μ2 => if c then ((evE Φ elt ρ1 μ2).calm).bind fun y μ3 => .ok (some (fz y)) μ3 else .ok none μ2
  | none => .bad
@[simp] theorem eE_lc (Φ : Fns) (ρ : List Sl) (μ : List O) (elt tg it cd) : evE Φ (.lc elt tg it cd) ρ μ = (evE Φ it ρ μ).bind fun x μ1 => (match itD (fz x) with
    | some ds => if ds.length ≤ LIM then (lcRun (lcG Φ ρ elt tg cd) ds μ1).bind fun xs μ2 => .ok (.ol (xs.map .sh)) μ2 else .bad
    | none => .bad) := by first | (simp only [evE]; done) | (simp only [evE]; rfl) | rfl
theorem lcRun_map {f : D → List O → Rs (Option D)} {α : Type} (r g : α → D) : ∀ (l : List α), (∀ a ∈ l, f (r a) [] = .ok (some (g a)) []) → lcRun f (l.map r) [] = .ok (l.map g) []
  | [], _ => rfl
  | a :: l, h => by
    simp only [List.map_cons]
    unfold lcRun
    rw [h a List.mem_cons_self, Rs.bind_ok, lcRun_map r g l fun b hb => h b (List.mem_cons_of_mem _ hb)]
    rfl
@[simp] theorem eC_none (Φ : Fns) (ρ : List Sl) (μ : List O) : evC Φ none ρ μ = .ok true μ := by simp only [evC]
@[simp] theorem calm_ok {α : Type} (a : α) (μ : List O) : (Rs.ok a μ).calm = .ok a μ := rfl
end MP
/-! TT -/
set_option maxRecDepth 100000
/-! the functions of the program and of the laws, in my small language (printed by gen2.py) -/
namespace T
open PySem MP
def b_l_numbers_1 : List S := [.ifs (.cmp .gt (.var 5) (.int 0)) [.app 2 (.bin .mod (.var 5) (.int 1009)), .asg (.nm 5) (.bin .fdiv (.var 5) (.int 1009))] [], .frz 99 [6]]
def b_l_numbers_2 : List S := [.asg (.nm 3) (.bin .mod (.bin .add (.bin .add (.bin .mul (.var 3) (.int 48271)) (.bin .mod (.var 4) (.int 1000003))) (.int 11)) (.int 2147483647)), .asg (.nm 5) (.bin .sub (.var 4) (.bin .pow (.int 10) (.int 18))), .ifs (.cmp .lt (.var 5) (.int 0)) [.app 2 (.bin .mod (.var 4) (.int 9973))] [], .for (.nm 6) (.bi .rng1 [(.int 60)]) b_l_numbers_1, .frz 99 [4, 5, 6]]
def b_l_numbers_3 : List S := [.asg (.nm 3) (.bin .mod (.bin .add (.bin .add (.bin .add (.bin .mul (.var 3) (.var 3)) (.bin .mul (.int 69621) (.var 3))) (.bin .mul (.int 7) (.bor [2] (.bi .len [(.var 2)])))) (.int 5)) (.int 2147483629)), .app 2 (.bin .mod (.bin .fdiv (.var 3) (.int 1013)) (.int 9973))]
def f_l_numbers : Fn := ⟨"_law_numbers", 2, 7, [.own 2 (.lst []), .asg (.nm 3) (.int 29), .for (.nm 4) (.sl (.var 0) none (some (.int 63))) b_l_numbers_2, .whl 10000 (.cmp .lt (.bor [2] (.bi .len [(.var 2)])) (.var 1)) b_l_numbers_3, .frz 2 [], .ret (.sl (.var 2) none (some (.var 1)))], false, false⟩
def b_l_windows_1 : List S := [.asg (.nm 6) (.bin .add (.int 1) (.bin .mod (.ix (.var 3) (.bin .add (.bin .mul (.int 3) (.var 5)) (.int 1))) (.var 1))), .app 4 (.tup [(.bin .mod (.ix (.var 3) (.bin .mul (.int 3) (.var 5))) (.var 0)), (.var 6), (.bin .add (.var 6) (.bin .mod (.ix (.var 3) (.bin .add (.bin .mul (.int 3) (.var 5)) (.int 2))) (.bin .add (.bin .sub (.var 1) (.var 6)) (.int 1))))]), .frz 99 [5, 6]]
def f_l_windows : Fn := ⟨"_law_windows", 4, 7, [.own 4 (.lst []), .for (.nm 5) (.bi .rng1 [(.var 2)]) b_l_windows_1, .retO 4], false, false⟩
def b_good_shuns_1 : List S := [.ifs (.or (.nt (.chn .le .lt (.int 0) (.var 2) (.var 1))) (.or (.nt (.chn .le .lt (.int 0) (.var 3) (.var 1))) (.nt (.chn .le .le (.int 1) (.var 4) (.int 2))))) [.ret (.bl false)] [], .frz 99 [2, 3, 4]]
def f_good_shuns : Fn := ⟨"good_shuns", 2, 5, [.ifs (.cmp .gt (.bi .len [(.var 0)]) (.glI "MOST_SHUNS" 20)) [.ret (.bl false)] [], .for (.tp [(.nm 2), (.nm 3), (.nm 4)]) (.var 0) b_good_shuns_1, .ret (.bl true)], false, false⟩
def b_good_kinds_1 : List S := [.ifs (.or (.nt (.chn3 .le .le .le (.int 1) (.var 1) (.var 2) (.glI "MOST_STAY" 4))) (.nt (.chn .le .le (.int 0) (.var 3) (.glI "MOST_REST" 4)))) [.ret (.bl false)] [], .frz 99 [1, 2, 3]]
def f_good_kinds : Fn := ⟨"good_kinds", 1, 4, [.ifs (.nt (.chn .le .le (.int 1) (.bi .len [(.var 0)]) (.glI "MOST_KINDS" 4))) [.ret (.bl false)] [], .for (.tp [(.nm 1), (.nm 2), (.nm 3)]) (.var 0) b_good_kinds_1, .ret (.bl true)], false, false⟩
def b_good_windows_1 : List S := [.ifs (.or (.nt (.chn .le .lt (.int 0) (.var 4) (.var 1))) (.nt (.chn3 .le .le .le (.int 1) (.var 5) (.var 6) (.var 2)))) [.ret (.bl false)] [], .frz 99 [4, 5, 6]]
def f_good_windows : Fn := ⟨"good_windows", 4, 7, [.ifs (.cmp .gt (.bi .len [(.var 0)]) (.var 3)) [.ret (.bl false)] [], .for (.tp [(.nm 4), (.nm 5), (.nm 6)]) (.var 0) b_good_windows_1, .ret (.bl true)], false, false⟩
def f_l_same0 : Fn := ⟨"_law_same", 2, 4, [.ifs (.cmp .is (.var 1) .non) [.ret (.cmp .is (.var 0) .non)] [], .ifs (.bi .isSeq [(.var 1)]) [.ifs (.or (.cmp .ne (.bi .isLst [(.var 0)]) (.bi .isLst [(.var 1)])) (.cmp .ne (.bi .isTup [(.var 0)]) (.bi .isTup [(.var 1)]))) [.ret (.bl false)] [], .ret (.and (.cmp .eq (.bi .len [(.var 0)]) (.bi .len [(.var 1)])) (.bi .all [(.lc .bad (.tp [(.nm 2), (.nm 3)]) (.bi .zip [(.var 0), (.var 1)]) none)]))] [], .ifs (.or (.cmp .ne (.bi .isBool [(.var 0)]) (.bi .isBool [(.var 1)])) (.cmp .ne (.bi .isStr [(.var 0)]) (.bi .isStr [(.var 1)]))) [.ret (.bl false)] [], .ret (.and (.cmp .eq (.bi .isInt [(.var 0)]) (.bi .isInt [(.var 1)])) (.cmp .eq (.var 0) (.var 1)))], false, false⟩
def f_l_same : Fn := ⟨"_law_same", 2, 4, [.ifs (.cmp .is (.var 1) .non) [.ret (.cmp .is (.var 0) .non)] [], .ifs (.bi .isSeq [(.var 1)]) [.ifs (.or (.cmp .ne (.bi .isLst [(.var 0)]) (.bi .isLst [(.var 1)])) (.cmp .ne (.bi .isTup [(.var 0)]) (.bi .isTup [(.var 1)]))) [.ret (.bl false)] [], .ret (.and (.cmp .eq (.bi .len [(.var 0)]) (.bi .len [(.var 1)])) (.bi .all [(.lc (.call "_law_same" [(.var 2), (.var 3)]) (.tp [(.nm 2), (.nm 3)]) (.bi .zip [(.var 0), (.var 1)]) none)]))] [], .ifs (.or (.cmp .ne (.bi .isBool [(.var 0)]) (.bi .isBool [(.var 1)])) (.cmp .ne (.bi .isStr [(.var 0)]) (.bi .isStr [(.var 1)]))) [.ret (.bl false)] [], .ret (.and (.cmp .eq (.bi .isInt [(.var 0)]) (.bi .isInt [(.var 1)])) (.cmp .eq (.var 0) (.var 1)))], false, false⟩
def f_Rules_many : Fn := ⟨"Rules.many", 1, 1, [.ret (.bi .len [(.fld "Rules" (.var 0) "sorts")])], false, false⟩
def b_pair_levels_1 : List S := [.asg (.nm 7) (.call "led_both" [(.var 0), (.var 1), (.var 5), (.var 6)]), .ifs (.cmp .ne (.var 7) (.tup [.non, .non])) [.setx 4 (.var 7) (.bl true)] [], .frz 99 [6, 7]]
def b_pair_levels_2 : List S := [.for (.nm 6) (.bi .rng1 [(.meth "Rules" (.var 0) "many" [])]) b_pair_levels_1, .frz 99 [5, 6, 7]]
def b_l_wide_v2_1 : List S := [.asg (.nm 7) (.bin .add (.int 1) (.bin .mod (.ix (.var 0) (.bin .add (.int 2) (.var 4))) (.int 4))), .app 3 (.tup [(.var 7), (.bin .add (.var 7) (.bin .mod (.ix (.var 0) (.bin .add (.int 6) (.var 4))) (.bin .sub (.int 5) (.var 7)))), (.bin .mod (.ix (.var 0) (.bin .add (.int 10) (.var 4))) (.int 5))]), .frz 99 [4, 7]]
def b_l_wide_v2_2 : List S := [.app 5 (.tup [(.bin .mod (.ix (.var 0) (.bin .add (.int 20) (.bin .mul (.int 3) (.var 4)))) (.var 1)), (.bin .mod (.ix (.var 0) (.bin .add (.int 21) (.bin .mul (.int 3) (.var 4)))) (.var 1)), (.bin .add (.int 1) (.bin .mod (.ix (.var 0) (.bin .add (.int 22) (.bin .mul (.int 3) (.var 4)))) (.int 2)))]), .frz 99 [4]]
def f_l_wide_v2 : Fn := ⟨"_law_wide", 1, 8, [.asg (.nm 1) (.bin .add (.int 1) (.bin .mod (.ix (.var 0) (.int 0)) (.int 4))), .asg (.nm 2) (.bin .add (.int 1) (.bin .mod (.ix (.var 0) (.int 1)) (.int 30))), .own 3 (.lst []), .for (.nm 4) (.bi .rng1 [(.var 1)]) b_l_wide_v2_1, .frz 3 [], .own 5 (.lst []), .frz 99 [4], .for (.nm 4) (.bi .rng1 [(.bin .mod (.ix (.var 0) (.int 14)) (.int 21))]) b_l_wide_v2_2, .frz 5 [], .asg (.nm 6) (.call "_law_windows" [(.var 1), (.var 2), (.bin .mod (.ix (.var 0) (.int 15)) (.int 13)), (.sl (.var 0) (some (.int 80)) none)]), .ret (.lst [(.var 2), (.var 3), (.var 5), (.var 6), (.call "_law_windows" [(.var 1), (.var 2), (.bin .mod (.ix (.var 0) (.int 16)) (.int 4)), (.sl (.var 0) (some (.int 116)) none)])])], false, false⟩
def f_Rules_init_v2 : Fn := ⟨"Rules", 6, 10, [.ifs (.or (.nt (.chn .le .le (.int 1) (.var 1) (.glI "MOST_SIZE" 30))) (.or (.nt (.call "good_kinds" [(.var 2)])) (.nt (.call "good_shuns" [(.var 3), (.bi .len [(.var 2)])])))) [.rais "BadRules" []] [], .ifs (.nt (.call "good_windows" [(.var 4), (.bi .len [(.var 2)]), (.var 1), (.glI "MOST_BARS" 12)])) [.rais "BadRules" []] [], .ifs (.nt (.call "good_windows" [(.var 5), (.bi .len [(.var 2)]), (.var 1), (.glI "MOST_DUES" 3)])) [.rais "BadRules" []] [], .fsetO "Rules" 0 "size" (.var 1), .fsetO "Rules" 0 "sorts" (.lc (.bi .tuple [(.var 6)]) (.nm 6) (.var 2) none), .fsetO "Rules" 0 "apart" (.lc (.bi .tuple [(.var 7)]) (.nm 7) (.var 3) none), .fsetO "Rules" 0 "closed" (.lc (.bi .tuple [(.var 8)]) (.nm 8) (.var 4) none), .fsetO "Rules" 0 "wanted" (.lc (.bi .tuple [(.var 9)]) (.nm 9) (.var 5) none)], true, false⟩
def f_Rules_kinds : Fn := ⟨"Rules.kinds", 1, 1, [.ret (.bi .list [(.fld "Rules" (.var 0) "sorts")])], false, false⟩
def f_Rules_shuns : Fn := ⟨"Rules.shuns", 1, 1, [.ret (.bi .list [(.fld "Rules" (.var 0) "apart")])], false, false⟩
def f_Rules_bars : Fn := ⟨"Rules.bars", 1, 1, [.ret (.bi .list [(.fld "Rules" (.var 0) "closed")])], false, false⟩
def f_Rules_dues : Fn := ⟨"Rules.dues", 1, 1, [.ret (.bi .list [(.fld "Rules" (.var 0) "wanted")])], false, false⟩
def f_l_told : Fn := ⟨"_law_told", 2, 3, [.asg (.nm 2) (.lst [(.fld "Rules" (.var 0) "size"), (.meth "Rules" (.var 0) "kinds" []), (.meth "Rules" (.var 0) "shuns" []), (.meth "Rules" (.var 0) "bars" []), (.meth "Rules" (.var 0) "dues" [])]), .ret (.and (.call "_law_same" [(.var 2), (.var 1)]) (.call "_law_same" [(.meth "Rules" (.var 0) "many" []), (.bi .len [(.ix (.var 1) (.int 1))])]))], false, false⟩
def b_law_k01_1 : List S := [.app 7 (.tup [(.int 0), (.int 1), (.int 1)]), .setx 7 (.int 0) (.tup [(.int 0), (.int 1), (.int 2)]), .frz 99 [7]]
def f_law_k01 : Fn := ⟨"law", 1, 9, [.asg (.nm 1) (.call "_law_numbers" [(.var 0), (.int 260)]), .asg (.nm 2) (.call "_law_wide" [(.var 1)]), .asg (.nm 3) (.call "_law_wide" [(.sl (.var 1) (some (.int 130)) none)]), .own 4 (.lcO (.bi .list [(.ix (.var 2) (.var 8))]) (.nm 8) (.bi .rng2 [(.int 1), (.int 5)])), .asg (.nm 5) (.bor [4] (.mk "Rules" [(.ix (.var 2) (.int 0)), (.ix (.var 4) (.int 0)), (.ix (.var 4) (.int 1)), (.ix (.var 4) (.int 2)), (.ix (.var 4) (.int 3))])), .asg (.nm 6) (.mk "Rules" [(.ix (.var 3) (.int 0)), (.bi .list [(.ix (.var 3) (.int 1))]), (.bi .list [(.ix (.var 3) (.int 2))]), (.bi .list [(.ix (.var 3) (.int 3))]), (.bi .list [(.ix (.var 3) (.int 4))])]), .ifs (.bor [4] (.or (.cmp .ne (.var 4) (.sl (.var 2) (some (.int 1)) none)) (.or (.nt (.call "_law_told" [(.var 5), (.var 2)])) (.nt (.call "_law_told" [(.var 6), (.var 3)]))))) [.ret (.bl false)] [], .forC 7 4 [(.meth "Rules" (.var 5) "kinds" []), (.meth "Rules" (.var 5) "shuns" []), (.meth "Rules" (.var 5) "bars" []), (.meth "Rules" (.var 5) "dues" [])] b_law_k01_1, .ret (.and (.call "_law_told" [(.var 5), (.var 2)]) (.call "_law_told" [(.var 6), (.var 3)]))], false, false⟩
end T
/-! LP -/
set_option Elab.async false
set_option linter.all false
set_option maxRecDepth 100000
/-! LP: loops whose turns leave nothing behind. -/
namespace MQ
open MP
open PySem (Str)
/-- one turn of a loop -/
def turn (tg : T) (f : List Sl → List O → Fl) (d : D) (ρ : List Sl) : Fl := match setT tg d ρ with
  | some ρ1 => f ρ1 []
  | none => .bad
@[simp] theorem turn_nm {i : Nat} {f : List Sl → List O → Fl} {d : D} {ρ : List Sl} : turn (.nm i) f d ρ = f (ρ.set i (.va d)) [] := by simp [turn, setT]
theorem forRun_cons {tg : T} {f : List Sl → List O → Fl} {d : D} {l : List D} {ρ : List Sl} : forRun tg f (d :: l) ρ [] = match turn tg f d ρ with
    | .nx ρ2 μ2 => forRun tg f l ρ2 μ2
    | .ct ρ2 μ2 => forRun tg f l ρ2 μ2
    | .bk ρ2 μ2 => .nx ρ2 μ2
    | r => r := by
  conv => lhs; unfold forRun
  unfold turn
  cases setT tg d ρ <;> rfl
/-- goes on, or hands back -/
theorem loop_any {α : Type} {tg : T} {f : List Sl → List O → Fl} {ρ : List Sl} (o : O) (r : α → D) (c : α → Bool) : ∀ (l : List α), (∀ a ∈ l, turn tg f (r a) ρ = if c a = true then .rt o [] else .nx ρ []) →
    forRun tg f (l.map r) ρ [] = if l.any c = true then .rt o [] else .nx ρ []
  | [], _ => rfl
  | a :: l, h => by
    have h1 := h a List.mem_cons_self
    have h2 := loop_any o r c l fun b hb => h b (List.mem_cons_of_mem _ hb)
    simp only [List.map_cons, List.any_cons]
    rw [forRun_cons, h1]
    by_cases hc : c a = true
    · simp [hc]
    · have hf : c a = false := by simpa using hc
      simp [hf, h2]
/-- a fold over what stands in the names -/
theorem loop_fold {α σ : Type} {tg : T} {f : List Sl → List O → Fl} (env : σ → List Sl) (r : α → D) (g : σ → α → σ) (I : List α → σ → Prop) (l : List α) (s0 : σ) (h0 : I [] s0)
    (h : ∀ pre a post, l = pre ++ a :: post → ∀ s, I pre s → turn tg f (r a) (env s) = .nx (env (g s a)) [] ∧ I (pre ++ [a]) (g s a)) :
    forRun tg f (l.map r) (env s0) [] = .nx (env (l.foldl g s0)) [] ∧ I l (l.foldl g s0) := by
  suffices H : ∀ (post pre : List α) (s : σ), l = pre ++ post → I pre s → forRun tg f (post.map r) (env s) [] = .nx (env (post.foldl g s)) [] ∧ I l (post.foldl g s) from H l [] s0 rfl h0
  intro post
  induction post with
  | nil =>
    intro pre s e p
    rw [List.append_nil] at e
    subst e
    exact ⟨rfl, p⟩
  | cons a post ih =>
    intro pre s e p
    obtain ⟨h1, h2⟩ := h pre a post e s p
    simp only [List.map_cons, List.foldl_cons]
    rw [forRun_cons, h1]
    exact ih (pre ++ [a]) _ (by rw [e, List.append_assoc]; rfl) h2
/-- a loop that may hand back: what holds -/
theorem loop_ind {α σ : Type} {tg : T} {f : List Sl → List O → Fl} (env : σ → List Sl) (r : α → D) (I : List α → σ → Prop) (R : O → Prop) (l : List α) (s0 : σ) (h0 : I [] s0)
    (h : ∀ pre a post, l = pre ++ a :: post → ∀ s, I pre s → (∃ s', turn tg f (r a) (env s) = .nx (env s') [] ∧ I (pre ++ [a]) s') ∨ ∃ o, turn tg f (r a) (env s) = .rt o [] ∧ R o) :
    (∃ s', forRun tg f (l.map r) (env s0) [] = .nx (env s') [] ∧ I l s') ∨ ∃ o, forRun tg f (l.map r) (env s0) [] = .rt o [] ∧ R o := by
  suffices H : ∀ (post pre : List α) (s : σ), l = pre ++ post → I pre s → (∃ s', forRun tg f (post.map r) (env s) [] = .nx (env s') [] ∧ I l s') ∨ ∃ o, forRun tg f (post.map r) (env s) [] = .rt o [] ∧ R o from H l [] s0 rfl h0
  intro post
  induction post with
  | nil =>
    intro pre s e p
    rw [List.append_nil] at e
    subst e
    exact .inl ⟨s, rfl, p⟩
  | cons a post ih =>
    intro pre s e p
    simp only [List.map_cons]
    rw [forRun_cons]
    rcases h pre a post e s p with ⟨s', h1, h2⟩ | ⟨o, h1, h2⟩
    · rw [h1]
      exact ih (pre ++ [a]) s' (by rw [e, List.append_assoc]; rfl) h2
    · rw [h1]
      exact .inr ⟨o, rfl, h2⟩
/-- only goes on: what holds -/
theorem loop_all {α σ : Type} {tg : T} {f : List Sl → List O → Fl} (env : σ → List Sl) (r : α → D) (I : List α → σ → Prop) (l : List α) (s0 : σ) (h0 : I [] s0)
    (h : ∀ pre a post, l = pre ++ a :: post → ∀ s, I pre s → ∃ s', turn tg f (r a) (env s) = .nx (env s') [] ∧ I (pre ++ [a]) s') :
    ∃ s', forRun tg f (l.map r) (env s0) [] = .nx (env s') [] ∧ I l s' := by
  rcases loop_ind env r I (fun _ => False) l s0 h0 (fun pre a post e s p => .inl (h pre a post e s p)) with h | ⟨o, _, q⟩
  · exact h
  · exact q.elim
def OwL (l : List D) : Sl := .ow (.ol (l.map .sh))
/-- a loop that appends at most one thing a turn to the own list at a place -/
theorem loop_flat {α : Type} {tg : T} {f : List Sl → List O → Fl} {ρ : List Sl} (i : Nat) (r : α → D) (g : α → List D) : ∀ (l : List α) (acc : List D), ρ[i]? = some (OwL acc) → (∀ a, (g a).length ≤ 1) → acc.length + l.length ≤ LIM →
    (∀ a ∈ l, ∀ acc : List D, acc.length < LIM → turn tg f (r a) (ρ.set i (OwL acc)) = .nx (ρ.set i (OwL (acc ++ g a))) []) →
    forRun tg f (l.map r) ρ [] = .nx (ρ.set i (OwL (acc ++ l.flatMap g))) []
  | [], acc, hi, hg, hn, h => by
    have : ρ.set i (OwL acc) = ρ := by
      apply List.ext_getElem?
      intro j
      by_cases q : i = j
      · subst q
        rw [List.getElem?_set_self' , hi]
        rfl
      · rw [List.getElem?_set_ne q]
    simp [this, forRun]
  | a :: l, acc, hi, hg, hn, h => by
    have e0 : ρ.set i (OwL acc) = ρ := by
      apply List.ext_getElem?
      intro j
      by_cases q : i = j
      · subst q
        rw [List.getElem?_set_self' , hi]
        rfl
      · rw [List.getElem?_set_ne q]
    have h1 := h a List.mem_cons_self acc (by simp at hn; omega)
    rw [e0] at h1
    simp only [List.map_cons]
    rw [forRun_cons, h1]
    have hlt : i < ρ.length := by
      rcases Nat.lt_or_ge i ρ.length with q | q
      · exact q
      · rw [List.getElem?_eq_none q] at hi; cases hi
    have h2 := loop_flat (ρ := ρ.set i (OwL (acc ++ g a))) (tg := tg) (f := f) i r g l (acc ++ g a) (by rw [List.getElem?_set_self hlt]) hg (by have := hg a; simp at hn ⊢; omega) (fun b hb acc' hl => by
      have := h b (List.mem_cons_of_mem _ hb) acc' hl
      simpa [List.set_set] using this)
    simp only []
    rw [h2]
    simp [List.set_set]
theorem loop_map {α : Type} {tg : T} {f : List Sl → List O → Fl} {ρ : List Sl} (i : Nat) (r : α → D) (g : α → D) (l : List α) (acc : List D) (hi : ρ[i]? = some (OwL acc)) (hn : acc.length + l.length ≤ LIM)
    (h : ∀ a ∈ l, ∀ acc : List D, acc.length < LIM → turn tg f (r a) (ρ.set i (OwL acc)) = .nx (ρ.set i (OwL (acc ++ [g a]))) []) :
    forRun tg f (l.map r) ρ [] = .nx (ρ.set i (OwL (acc ++ l.map g))) [] := by
  rw [loop_flat i r (fun a => [g a]) l acc hi (fun a => by simp) hn h]
  have : l.flatMap (fun a => [g a]) = l.map g := by
    clear hn h hi
    induction l <;> simp_all
  rw [this]
@[simp] theorem eC_some (Φ : Fns) (e : E) (ρ : List Sl) (μ : List O) : evC Φ (some e) ρ μ = ((evE Φ e ρ μ).calm).bind fun x μ1 => lift (asB x) μ1 := by simp only [evC]
@[simp] theorem Ow_def (l : List D) : Sl.ow (.ol (l.map .sh)) = OwL l := rfl
@[simp] theorem Ow_nil' : Sl.ow (.ol []) = OwL [] := rfl
@[simp] theorem ow_snoc (l : List D) (d : D) : Sl.ow (.ol (l.map .sh ++ [.sh d])) = OwL (l ++ [d]) := by unfold OwL; simp
@[simp] theorem ow_snocC {α : Type} (f : α → D) (l : List α) (d : D) : Sl.ow (.ol (l.map (O.sh ∘ f) ++ [.sh d])) = OwL (l.map f ++ [d]) := by unfold OwL; simp
@[simp] theorem ow_mapC {α : Type} (f : α → D) (l : List α) : Sl.ow (.ol (l.map (O.sh ∘ f))) = OwL (l.map f) := by unfold OwL; simp
@[simp] theorem ow_mapF {α : Type} (f : α → D) (l : List α) : Sl.ow (.ol (l.map fun x => O.sh (f x))) = OwL (l.map f) := by unfold OwL; rw [List.map_map]; rfl
def ownS : Option Sl → Option (List O)
  | some (.ow (.ol l)) => some l
  | _ => none
@[simp] theorem ownL_eq (ρ : List Sl) (i : Nat) : ownL ρ i = ownS ρ[i]? := by unfold ownL ownS; rfl
@[simp] theorem ownS_Ow (l : List D) : ownS (some (OwL l)) = some (l.map .sh) := rfl
def getS : Option Sl → Option D
  | some (.va d) => some d
  | _ => none
@[simp] theorem getV_eq (ρ : List Sl) (i : Nat) : getV ρ i = getS ρ[i]? := by unfold getV getS; rfl
@[simp] theorem getS_va (d : D) : getS (some (.va d)) = some d := rfl
def owS : Option Sl → Option O
  | some (.ow o) => some o
  | _ => none
@[simp] theorem owS_Ow (l : List D) : owS (some (OwL l)) = some (.ol (l.map .sh)) := rfl
@[simp] theorem owS_ow (o : O) : owS (some (.ow o)) = some o := rfl
def rtO (μ : List O) : Option O → Fl
  | some o => .rt o μ
  | none => .bad
@[simp] theorem rtO_some (μ : List O) (o : O) : rtO μ (some o) = .rt o μ := rfl
@[simp] theorem eS_retO2 (Φ : Fns) (ρ : List Sl) (μ : List O) (i : Nat) : evS Φ (.retO i) ρ μ = rtO μ (owS ρ[i]?) := by
  rw [eS_retO]
  unfold owS
  cases ρ[i]? with
  | none => rfl
  | some s => cases s <;> rfl
@[simp] theorem eS_setx (Φ : Fns) (ρ : List Sl) (μ : List O) (i : Nat) (k e : E) : evS Φ (.setx i k e) ρ μ = (evE Φ e ρ μ).go ρ fun x μ1 => (match owS ρ[i]? with
    | some o => (evE Φ k ρ μ1).go ρ fun y μ2 => (match setO o (fz y) (.sh (fz x)) with
      | some o1 => .nx (ρ.set i (.ow o1)) μ2
      | none => .bad)
    | none => .bad) := by
  simp only [evS]
  congr 1
  funext x μ1
  unfold owS
  cases ρ[i]? with
  | none => rfl
  | some s => cases s <;> rfl
def lendS (ρ : List Sl) (i : Nat) : Option Sl → List Sl
  | some (.ow o) => ρ.set i (.va (fz o))
  | _ => ρ
@[simp] theorem lend_nil (ρ : List Sl) : lend ρ [] = ρ := rfl
@[simp] theorem lend_one (ρ : List Sl) (i : Nat) (r : List Nat) : lend ρ (i :: r) = lendS (lend ρ r) i (lend ρ r)[i]? := by
  conv => lhs; unfold lend
  unfold lendS
  rfl
@[simp] theorem lendS_Ow (ρ : List Sl) (i : Nat) (l : List D) : lendS ρ i (some (OwL l)) = ρ.set i (.va (.lst l)) := by
  have e : fz (.ol (l.map .sh)) = .lst l := by simp
  unfold OwL
  simp only [lendS, e]
@[simp] theorem lendS_va (ρ : List Sl) (i : Nat) (d : D) : lendS ρ i (some (.va d)) = ρ := rfl
@[simp] theorem lendS_no (ρ : List Sl) (i : Nat) : lendS ρ i (some .no) = ρ := rfl
@[simp] theorem lendS_none (ρ : List Sl) (i : Nat) : lendS ρ i none = ρ := rfl
/-- forgotten, one by one -/
@[simp] theorem drops_nil (ρ : List Sl) : drops ρ [] = ρ := rfl
@[simp] theorem drops_cons (ρ : List Sl) (i : Nat) (r : List Nat) : drops ρ (i :: r) = (drops ρ r).set i .no := by
  conv => lhs; unfold drops
@[simp] theorem lim_0 : 0 ≤ LIM := by decide
@[simp] theorem lim_1 : 1 ≤ LIM := by decide
@[simp] theorem lim_2 : 2 ≤ LIM := by decide
@[simp] theorem lim_3 : 3 ≤ LIM := by decide
@[simp] theorem lim_4 : 4 ≤ LIM := by decide
@[simp] theorem lim_5 : 5 ≤ LIM := by decide
@[simp] theorem lim_6 : 6 ≤ LIM := by decide
@[simp] theorem lim_7 : 7 ≤ LIM := by decide
@[simp] theorem lim_8 : 8 ≤ LIM := by decide
@[simp] theorem lim_9 : 9 ≤ LIM := by decide
@[simp] theorem lim_10 : 10 ≤ LIM := by decide
@[simp] theorem lim_11 : 11 ≤ LIM := by decide
@[simp] theorem lim_12 : 12 ≤ LIM := by decide
@[simp] theorem lim_13 : 13 ≤ LIM := by decide
@[simp] theorem lim_36 : 36 ≤ LIM := by decide
@[simp] theorem lim_14 : 14 ≤ LIM := by decide
@[simp] theorem bi_len_lst (l : List D) : biD .len [.lst l] = some (.sh (.int l.length)) := rfl
@[simp] theorem bi_len_tup (l : List D) : biD .len [.tup l] = some (.sh (.int l.length)) := rfl
@[simp] theorem bi_tup_lst (l : List D) : biD .tuple [.lst l] = some (.sh (.tup l)) := rfl
@[simp] theorem bi_tup_tup (l : List D) : biD .tuple [.tup l] = some (.sh (.tup l)) := rfl
@[simp] theorem bi_list_lst (l : List D) : biD .list [.lst l] = some (.ol (l.map .sh)) := rfl
@[simp] theorem bi_list_tup (l : List D) : biD .list [.tup l] = some (.ol (l.map .sh)) := rfl
@[simp] theorem bin_add (i j : Int) : binD .add (.int i) (.int j) = some (.sh (.int (i + j))) := rfl
@[simp] theorem bin_sub (i j : Int) : binD .sub (.int i) (.int j) = some (.sh (.int (i - j))) := rfl
theorem bin_mod {i j : Int} (h : 0 < j) : binD .mod (.int i) (.int j) = some (.sh (.int (i % j))) := by simp [binD, h]
theorem bin_fdiv {i j : Int} (h : 0 < j ∧ j < 1073741824) : binD .fdiv (.int i) (.int j) = some (.sh (.int (i / j))) := by simp [binD, h]
theorem bin_mulL {i j : Int} (h : -18446744073709551616 < i ∧ i < 18446744073709551616) : binD .mul (.int i) (.int j) = some (.sh (.int (i * j))) := by simp [binD, B64, h]
theorem bin_mulR {i j : Int} (h : -18446744073709551616 < j ∧ j < 18446744073709551616) : binD .mul (.int i) (.int j) = some (.sh (.int (i * j))) := by simp [binD, B64, h]
theorem rng0 (n : Nat) : rngD 0 n = (List.range n).map fun k : Nat => D.int k := by
  have : ∀ (n : Nat) (a : Int), rngD a n = (List.range n).map fun k : Nat => D.int (a + k) := by
    intro n
    induction n with
    | zero => intro a; rfl
    | succ n ih =>
      intro a
      rw [List.range_succ_eq_map]
      simp only [rngD, ih, List.map_cons, List.map_map]
      congr 1
      · simp
      · apply List.map_congr_left
        intro k _
        simp
        omega
  simpa using this n 0
end MQ
/-! SA -/
set_option Elab.async false
set_option linter.all false
set_option maxRecDepth 100000
set_option maxHeartbeats 1000000
/-! SA: books and stands; what the defs over stands compute. -/
namespace MQ
open MP
open PySem (Str)
abbrev DF : Type := List D → List O → Rs O
/-! ### books and stands -/
abbrev T3 : Type := Int × Int × Int
def i3 (t : T3) : D := .tup [.int t.1, .int t.2.1, .int t.2.2]
def L3 (l : List T3) : D := .lst (l.map i3)
def iL (l : List Int) : D := .lst (l.map .int)
structure Bk where
  size : Int
  kinds : List T3
  shuns : List T3
  bars : List T3
  dues : List T3
def Bk.d (b : Bk) : D := .tup [.int b.size, L3 b.kinds, L3 b.shuns, L3 b.bars, L3 b.dues]
def Bk.r (b : Bk) : D := .ins "Rules" ["size", "sorts", "apart", "closed", "wanted"] [.int b.size, L3 b.kinds, L3 b.shuns, L3 b.bars, L3 b.dues]
structure Sd where
  place : Int
  kind : Int
  length : Int
  before : Int
  waits : List Int
  met : List Bool
  deriving DecidableEq
def Sd.d (s : Sd) : D := .tup [.int s.place, .int s.kind, .int s.length, .int s.before, .tup (s.waits.map .int), .tup (s.met.map .bl)]
/-- a book that can be -/
structure Bk.Ok (b : Bk) : Prop where
  size : 1 ≤ b.size ∧ b.size ≤ 30
  many : 1 ≤ b.kinds.length ∧ b.kinds.length ≤ 4
  kinds : ∀ t ∈ b.kinds, 1 ≤ t.1 ∧ t.1 ≤ t.2.1 ∧ t.2.1 ≤ 4 ∧ 0 ≤ t.2.2 ∧ t.2.2 ≤ 4
  shunsN : b.shuns.length ≤ 20
  shuns : ∀ t ∈ b.shuns, (0 ≤ t.1 ∧ t.1 < b.kinds.length) ∧ (0 ≤ t.2.1 ∧ t.2.1 < b.kinds.length) ∧ 1 ≤ t.2.2 ∧ t.2.2 ≤ 2
  barsN : b.bars.length ≤ 12
  bars : ∀ t ∈ b.bars, (0 ≤ t.1 ∧ t.1 < b.kinds.length) ∧ 1 ≤ t.2.1 ∧ t.2.1 ≤ t.2.2 ∧ t.2.2 ≤ b.size
  duesN : b.dues.length ≤ 3
  dues : ∀ t ∈ b.dues, (0 ≤ t.1 ∧ t.1 < b.kinds.length) ∧ 1 ≤ t.2.1 ∧ t.2.1 ≤ t.2.2 ∧ t.2.2 ≤ b.size
@[simp] theorem fld_size (b : Bk) : fldD "Rules" b.r "size" = some (.int b.size) := rfl
@[simp] theorem fld_sorts (b : Bk) : fldD "Rules" b.r "sorts" = some (L3 b.kinds) := rfl
@[simp] theorem fld_apart (b : Bk) : fldD "Rules" b.r "apart" = some (L3 b.shuns) := rfl
@[simp] theorem fld_closed (b : Bk) : fldD "Rules" b.r "closed" = some (L3 b.bars) := rfl
@[simp] theorem fld_wanted (b : Bk) : fldD "Rules" b.r "wanted" = some (L3 b.dues) := rfl
@[simp] theorem bk_0 (b : Bk) : ixD b.d (.int 0) = some (.int b.size) := rfl
@[simp] theorem bk_1 (b : Bk) : ixD b.d (.int 1) = some (L3 b.kinds) := rfl
@[simp] theorem bk_2 (b : Bk) : ixD b.d (.int 2) = some (L3 b.shuns) := rfl
@[simp] theorem bk_3 (b : Bk) : ixD b.d (.int 3) = some (L3 b.bars) := rfl
@[simp] theorem bk_4 (b : Bk) : ixD b.d (.int 4) = some (L3 b.dues) := rfl
@[simp] theorem itD_L3 (l : List T3) : itD (L3 l) = some (l.map i3) := rfl
@[simp] theorem fz_sh' (d : D) : fz (.sh d) = d := rfl
@[simp] theorem fzs_nil : fzs [] = [] := rfl
@[simp] theorem fzs_cons (o : O) (l : List O) : fzs (o :: l) = fz o :: fzs l := rfl
@[simp] theorem asB_sh (b : Bool) : asB (.sh (.bl b)) = some b := rfl
@[simp] theorem ix_0 (t : T3) : ixD (i3 t) (.int 0) = some (.int t.1) := rfl
@[simp] theorem ix_1 (t : T3) : ixD (i3 t) (.int 1) = some (.int t.2.1) := rfl
@[simp] theorem ix_2 (t : T3) : ixD (i3 t) (.int 2) = some (.int t.2.2) := rfl
@[simp] theorem len_L3 (l : List T3) : biD .len [L3 l] = some (.sh (.int l.length)) := by simp [biD, L3]
@[simp] theorem len_ints (l : List Int) : biD .len [iL l] = some (.sh (.int l.length)) := by simp [biD, iL]
theorem ix_lst (l : List D) (k : Int) : ixD (.lst l) (.int k) = atI l k := rfl
@[simp] theorem metO_r (b : Bk) (m : Str) (h : m ∉ (["size", "sorts", "apart", "closed", "wanted"] : List Str)) : metO "Rules" m b.r = true := by
  simp [metO, Bk.r, h]
/-! ### the program's defs over stands -/
def lenM (kind length new : Int) : Int := if new = kind then length + 1 else 1
/-- a window over a place -/
def hit (new place : Int) (b : T3) : Bool := decide (b.1 = new) && (decide (b.2.1 ≤ place) && decide (place ≤ b.2.2))
def metM (b : Bk) (place new : Int) (met : List Bool) : List Bool := (met.zip b.dues).map fun p => p.1 || hit new place p.2
/-- a due that is lost at a place -/
def lost (place : Int) (p : Bool × T3) : Bool := decide (p.2.2.2 = place) && !p.1
/-- a kind of the book -/
def Bk.kd (b : Bk) (k : Int) : T3 := (atI b.kinds k).getD (0, 0, 0)
theorem Bk.at_ (b : Bk) {k : Int} (h : -(b.kinds.length : Int) ≤ k ∧ k < b.kinds.length) : atI (b.kinds.map i3) k = some (i3 (b.kd k)) := by
  rw [atI_map]
  unfold Bk.kd
  have : ∃ t, atI b.kinds k = some t := by
    unfold atI ixN
    split
    · rw [if_pos h.2]
      have : k.toNat < b.kinds.length := by omega
      exact ⟨b.kinds[k.toNat], by simp [this]⟩
    · rw [if_pos h.1]
      have : (k + b.kinds.length).toNat < b.kinds.length := by omega
      exact ⟨b.kinds[(k + b.kinds.length).toNat], by simp [this]⟩
  obtain ⟨t, e⟩ := this
  rw [e]
  rfl
/-- an item of a list of whole numbers -/
def nth0 (l : List Int) (k : Int) : Int := (atI l k).getD 0
theorem ix_ints {l : List Int} {k : Int} (h : 0 ≤ k ∧ k < l.length) : ixD (iL l) (.int k) = some (.int (nth0 l k)) := by
  unfold iL
  rw [ix_lst, atI_map, nth0, atI_nat h.1 h.2]
  rfl
/-- a shun that stands in the way -/
def shunned (kind before new : Int) (s : T3) : Bool := decide (s.2.1 = new) && ((decide (s.2.2 = 1) && decide (kind = s.1)) || (decide (s.2.2 = 2) && decide (before = s.1)))
def wD : Option Str → D
  | some w => .str w
  | none => .non
def shunW (b : Bk) (kind before new : Int) : Option Str := if b.shuns.any (shunned kind before new) = true then some "shun" else none
def turnM (b : Bk) (kind length before : Int) (waits : List Int) (new : Int) : Option Str :=
  if new = kind then (if (b.kd new).2.1 ≤ length then some "long" else shunW b kind before new)
  else if kind ≠ -1 ∧ length < (b.kd kind).1 then some "short" else if 0 < nth0 waits new then some "early" else shunW b kind before new
@[simp] theorem wD_some (w : Str) : wD (some w) = .str w := rfl
@[simp] theorem wD_none : wD none = .non := rfl
/-- numbered -/
def enumL {α : Type} : Int → List α → List (Int × α)
  | _, [] => []
  | n, t :: l => (n, t) :: enumL (n + 1) l
theorem enumL_len {α : Type} : ∀ (l : List α) (n : Int), (enumL n l).length = l.length
  | [], n => rfl
  | t :: l, n => by simp [enumL, enumL_len l (n + 1)]
def waitM (kind new : Int) (waits : List Int) (p : Int × T3) : Int := if p.1 = new then 0 else if p.1 = kind then max 0 (p.2.2.2 - 1) else max 0 (nth0 waits p.1 - 1)
def waitsM (b : Bk) (kind new : Int) (waits : List Int) : List Int := (enumL 0 b.kinds).map (waitM kind new waits)
theorem waitsM_len (b : Bk) (kind new : Int) (waits : List Int) : (waitsM b kind new waits).length = b.kinds.length := by simp [waitsM, enumL_len]
theorem max2_eq (i j : Int) : biD .max2 [.int i, .int j] = some (.sh (.int (max i j))) := by
  simp only [biD]
  congr 3
  omega
def Sp.Rules_many (F : DF) : Prop := ∀ (b : Bk), F [b.r] [] = .ok (.sh (.int b.kinds.length)) []
theorem t_Rules_many (Φ : Fns) : Sp.Rules_many (T.f_Rules_many.run Φ) := fun b => by
  rw [run_eq rfl rfl]
  simp [T.f_Rules_many]
/-- a stand that fits the book -/
structure Sd.Fits (s : Sd) (b : Bk) : Prop where
  kind : -1 ≤ s.kind ∧ s.kind < b.kinds.length
  waits : s.waits.length = b.kinds.length
  met : s.met.length = b.dues.length
def faultM (b : Bk) (s : Sd) (new : Int) : Option Str :=
  if b.bars.any (hit new (s.place + 1)) = true then some "barred"
  else match turnM b s.kind s.length s.before s.waits new with
  | some w => some w
  | none => if ((metM b (s.place + 1) new s.met).zip b.dues).any (lost (s.place + 1)) = true then some "due"
    else if s.place + 1 = b.size ∧ lenM s.kind s.length new < (b.kd new).1 then some "cut" else none
def stepM (b : Bk) (s : Sd) (new : Int) : Option Sd := if b.size ≤ s.place then none else match faultM b s new with
  | some _ => none
  | none => some ⟨s.place + 1, new, lenM s.kind s.length new, s.kind, waitsM b s.kind new s.waits, metM b (s.place + 1) new s.met⟩
def optD (o : Option Sd) : D := match o with
  | some s => s.d
  | none => .non
@[simp] theorem optD_none : optD none = .non := rfl
@[simp] theorem optD_some (s : Sd) : optD (some s) = s.d := rfl
theorem Sd.Fits.step {s s' : Sd} {b : Bk} {new : Int} (h : s.Fits b) (hn : 0 ≤ new ∧ new < b.kinds.length) (e : stepM b s new = some s') : s'.Fits b := by
  unfold stepM at e
  split at e
  · cases e
  · split at e
    · cases e
    · cases e
      refine ⟨by simp; omega, by simp [waitsM_len], ?_⟩
      simp [metM, h.met]
/-- one step -/
def Sp.step (F : DF) : Prop := ∀ (b : Bk) (s : Sd) (new : Int), b.Ok → s.Fits b → F [b.r, s.d, .int new] [] = if 0 ≤ new ∧ new < b.kinds.length then .ok (.sh (optD (stepM b s new))) [] else .er "NoKind" [] []
end MQ
/-! SB -/
set_option Elab.async false
set_option linter.all false
set_option maxRecDepth 100000
set_option maxHeartbeats 1000000
/-! SB: the laws' own step; _law_same. -/
namespace MQ
open MP
open PySem (Str)
/-! ### _law_same -/
/-- data to a depth, whose lists are not too long -/
def Sm : Nat → D → Prop
  | _, .non => True
  | _, .bl _ => True
  | _, .int _ => True
  | _, .str _ => True
  | n + 1, .tup l => l.length ≤ LIM ∧ ∀ d ∈ l, Sm n d
  | n + 1, .lst l => l.length ≤ LIM ∧ ∀ d ∈ l, Sm n d
  | _, _ => False
theorem Sm.up : ∀ {n : Nat} {d : D}, Sm n d → Sm (n + 1) d
  | 0, .non, _ => trivial | 0, .bl _, _ => trivial | 0, .int _, _ => trivial | 0, .str _, _ => trivial
  | n + 1, .non, _ => trivial | n + 1, .bl _, _ => trivial | n + 1, .int _, _ => trivial | n + 1, .str _, _ => trivial
  | n + 1, .tup l, h => ⟨h.1, fun d hd => Sm.up (h.2 d hd)⟩
  | n + 1, .lst l, h => ⟨h.1, fun d hd => Sm.up (h.2 d hd)⟩
theorem Sm.le {n m : Nat} {d : D} (h : Sm n d) (hm : n ≤ m) : Sm m d := by
  induction hm with
  | refl => exact h
  | step _ ih => exact ih.up
def Sp.l_same (n : Nat) (F : DF) : Prop := ∀ d, Sm n d → F [d, d] [] = .ok (.sh (.bl true)) []
theorem ne_bl (x y : Bool) : cmpD .ne (.bl x) (.bl y) = some (x != y) := by cases x <;> cases y <;> rfl
theorem zipD_self : ∀ (l : List D), zipD l l = l.map fun d => .tup [d, d]
  | [] => rfl
  | d :: l => by simp [zipD, zipD_self l]
theorem allBl_map {α : Type} (f : α → Bool) : ∀ (l : List α), allBl (l.map fun x => D.bl (f x)) = some (l.map f)
  | [] => rfl
  | d :: l => by simp [allBl, allBl_map f l]
theorem all_map {α : Type} (f : α → Bool) (l : List α) : biD .all [.lst (l.map fun x => D.bl (f x))] = some (.sh (.bl (l.all f))) := by
  show (allBl (l.map fun x => D.bl (f x))).map (fun bs => O.sh (.bl (bs.all id))) = _
  rw [allBl_map]
  simp
theorem t_l_same0 (Φ : Fns) : Sp.l_same 0 (T.f_l_same0.run Φ) := fun d h => by
  rw [run_eq rfl rfl]
  match d, h with
  | .non, _ => simp [T.f_l_same0, cmpD, isD]
  | .bl x, _ => simp [T.f_l_same0, cmpD, isD, biD, eqD, wf, deq]
  | .int x, _ => simp [T.f_l_same0, cmpD, isD, biD, eqD, wf, deq]
  | .str x, _ => simp [T.f_l_same0, cmpD, isD, biD, eqD, wf, deq]
theorem same_seq (l : List D) (hl : l.length ≤ LIM) (Φ : Fns) (ρ : List Sl) (h : ∀ d ∈ l, Φ "_law_same" [d, d] [] = .ok (.sh (.bl true)) []) (x y : Sl) :
    lcRun (lcG Φ [x, y, .no, .no] (.call "_law_same" [.var 2, .var 3]) (.tp [.nm 2, .nm 3]) none) (l.map fun d => .tup [d, d]) [] = .ok (l.map fun _ => .bl true) [] :=
  lcRun_map _ (fun _ => .bl true) l fun d hd => by
    unfold lcG
    simp [tgN, tgNs, setT, setTs, h d hd]
theorem t_l_same (n : Nat) (Φ : Fns) (g : Sp.l_same n (Φ "_law_same")) : Sp.l_same (n + 1) (T.f_l_same.run Φ) := fun d h => by
  rw [run_eq rfl rfl]
  match d, h with
  | .non, _ => simp [T.f_l_same, cmpD, isD]
  | .bl x, _ => simp [T.f_l_same, cmpD, isD, biD, eqD, wf, deq]
  | .int x, _ => simp [T.f_l_same, cmpD, isD, biD, eqD, wf, deq]
  | .str x, _ => simp [T.f_l_same, cmpD, isD, biD, eqD, wf, deq]
  | .tup l, h =>
    have hlc := same_seq l h.1 Φ [] (fun d hd => g d (h.2 d hd)) (Sl.va (.tup l)) (Sl.va (.tup l))
    have b1 : biD .isSeq [.tup l] = some (.sh (.bl true)) := rfl
    have b2 : biD .isLst [.tup l] = some (.sh (.bl false)) := rfl
    have b3 : biD .isTup [.tup l] = some (.sh (.bl true)) := rfl
    have b4 : biD .len [.tup l] = some (.sh (.int l.length)) := rfl
    have b5 : biD .zip [.tup l, .tup l] = some (.ol ((l.map fun d => D.tup [d, d]).map .sh)) := by simp [biD, seqD, zipD_self]
    have b6 := all_map (fun _ : D => true) l
    have c1 : cmpD .is (.tup l) .non = some false := rfl
    simp [T.f_l_same, c1, b1, b2, b3, b4, b5, ne_bl, h.1, hlc]
    simp [fzs_map, Function.comp_def, b6]
  | .lst l, h =>
    have hlc := same_seq l h.1 Φ [] (fun d hd => g d (h.2 d hd)) (Sl.va (.lst l)) (Sl.va (.lst l))
    have b1 : biD .isSeq [.lst l] = some (.sh (.bl true)) := rfl
    have b2 : biD .isLst [.lst l] = some (.sh (.bl true)) := rfl
    have b3 : biD .isTup [.lst l] = some (.sh (.bl false)) := rfl
    have b4 : biD .len [.lst l] = some (.sh (.int l.length)) := rfl
    have b5 : biD .zip [.lst l, .lst l] = some (.ol ((l.map fun d => D.tup [d, d]).map .sh)) := by simp [biD, seqD, zipD_self]
    have b6 := all_map (fun _ : D => true) l
    have c1 : cmpD .is (.lst l) .non = some false := rfl
    simp [T.f_l_same, c1, b1, b2, b3, b4, b5, ne_bl, h.1, hlc]
    simp [fzs_map, Function.comp_def, b6]
end MQ
/-! SC -/
set_option Elab.async false
set_option linter.all false
set_option maxRecDepth 100000
set_option maxHeartbeats 1000000
/-! SC: numbers of the script, books. -/
namespace MQ
open MP
open PySem (Str)
/-! ### _law_numbers -/
def Small (l : List Int) : Prop := ∀ x ∈ l, 0 ≤ x ∧ x < 9973
theorem Small.snoc {l : List Int} {i : Int} (h : Small l) (h2 : 0 ≤ i ∧ i < 9973) : Small (l ++ [i]) := fun x hx => by
  rcases List.mem_append.mp hx with hx | hx
  · exact h x hx
  · obtain rfl : x = i := by simpa using hx
    exact h2
def numEnv (a m : D) (l : List Int) (s : Int) (c r : Sl) : List Sl := [.va a, .va m, OwL (l.map .int), .va (.int s), c, r, .no]
theorem num1 (Φ : Fns) (a m : D) (s : Int) (c : Sl) (l : List Int) (r : Int) (hl : Small l) (hn : l.length ≤ 10000) :
    ∃ p : List Int × Int, forRun (.nm 6) (evSs Φ T.b_l_numbers_1) (rngD 0 60) (numEnv a m l s c (.va (.int r))) [] = .nx (numEnv a m p.1 s c (.va (.int p.2))) [] ∧ Small p.1 ∧ p.1.length ≤ l.length + 60 := by
  have := loop_all (tg := .nm 6) (f := evSs Φ T.b_l_numbers_1) (fun p : List Int × Int => numEnv a m p.1 s c (.va (.int p.2))) (fun k : Nat => D.int k) (fun pre p => Small p.1 ∧ p.1.length ≤ l.length + pre.length) (List.range 60) (l, r) ⟨hl, by simp⟩ (by
    rintro pre d post hd ⟨l', r'⟩ ⟨h1, h2⟩
    have hlen : pre.length < 60 := by
      have := congrArg List.length hd
      simp at this
      omega
    simp only at h1 h2
    have hlim : l'.length < LIM := by unfold LIM; omega
    by_cases q : 0 < r'
    · refine ⟨(l' ++ [r' % 1009], r' / 1009), ?_, h1.snoc (by omega), by simp; omega⟩
      simp [T.b_l_numbers_1, numEnv, q, binD, setT, hlim]
    · exact ⟨(l', r'), by simp [T.b_l_numbers_1, numEnv, q], h1, by simp; omega⟩)
  rw [← rng0] at this
  obtain ⟨p, e, h1, h2⟩ := this
  exact ⟨p, e, h1, by simpa using h2⟩
theorem num2 (Φ : Fns) (a m : D) (l : List Int) (hl : Small l) (hn : l.length ≤ 9000) (s c : Int) :
    ∃ p : List Int × Int, turn (.nm 4) (evSs Φ T.b_l_numbers_2) (.int c) (numEnv a m l s .no .no) = .nx (numEnv a m p.1 p.2 .no .no) [] ∧ Small p.1 ∧ p.1.length ≤ l.length + 61 ∧ (0 ≤ p.2 ∧ p.2 < 2147483647) := by
  have hlim : l.length < LIM := by unfold LIM; omega
  have hs : 0 ≤ (s * 48271 + c % 1000003 + 11) % 2147483647 ∧ (s * 48271 + c % 1000003 + 11) % 2147483647 < 2147483647 := by omega
  have h60 : biD .rng1 [.int 60] = some (.ol ((rngD 0 60).map .sh)) := by simp [biD, fit, B62]
  by_cases q : c - 1000000000000000000 < 0
  · obtain ⟨p, e, h1, h2⟩ := num1 Φ a m ((s * 48271 + c % 1000003 + 11) % 2147483647) (.va (.int c)) (l ++ [c % 9973]) (c - 1000000000000000000) (hl.snoc (by omega)) (by simp; omega)
    refine ⟨(p.1, (s * 48271 + c % 1000003 + 11) % 2147483647), ?_, h1, by simp at h2; omega, hs⟩
    simp [numEnv] at e ⊢
    simp [T.b_l_numbers_2, setT, binD, B64, hlim, h60, q, e]
  · obtain ⟨p, e, h1, h2⟩ := num1 Φ a m ((s * 48271 + c % 1000003 + 11) % 2147483647) (.va (.int c)) l (c - 1000000000000000000) hl (by omega)
    refine ⟨(p.1, (s * 48271 + c % 1000003 + 11) % 2147483647), ?_, h1, by simp only; omega, hs⟩
    simp [numEnv] at e ⊢
    simp [T.b_l_numbers_2, setT, binD, B64, hlim, h60, q, e]
theorem num3 (Φ : Fns) (a m : D) (ns : List Int) (hns : ns.length ≤ 63) :
    ∃ p : List Int × Int, forRun (.nm 4) (evSs Φ T.b_l_numbers_2) (ns.map D.int) (numEnv a m [] 29 .no .no) [] = .nx (numEnv a m p.1 p.2 .no .no) [] ∧ Small p.1 ∧ p.1.length ≤ 4000 ∧ (0 ≤ p.2 ∧ p.2 < 2147483647) := by
  obtain ⟨p, e, h1, h2, h3⟩ := loop_all (tg := .nm 4) (f := evSs Φ T.b_l_numbers_2) (fun p : List Int × Int => numEnv a m p.1 p.2 .no .no) D.int (fun pre p => Small p.1 ∧ p.1.length ≤ 61 * pre.length ∧ (0 ≤ p.2 ∧ p.2 < 2147483647)) ns ([], 29) ⟨(fun _ h => by cases h), by simp, by simp⟩ (by
    rintro pre c post hd ⟨l, s⟩ ⟨h1, h2, h3⟩
    have hlen : pre.length < 63 := by
      have := congrArg List.length hd
      simp at this
      omega
    obtain ⟨p, e, g1, g2, g3⟩ := num2 Φ a m l h1 (by simp only at h2; omega) s c
    exact ⟨p, e, g1, by simp at h2 ⊢; omega, g3⟩)
  exact ⟨p, e, h1, by omega, h3⟩
theorem num4 (Φ : Fns) (a : D) (m : Int) (hm : m ≤ 5000) : ∀ (n : Nat) (l : List Int) (s : Int), Small l → (0 ≤ s ∧ s < 2147483647) → l.length ≤ 5000 → m - l.length < n ∧ 0 < n →
    ∃ p : List Int × Int, whlRun (evE Φ (.cmp .lt (.bor [2] (.bi .len [.var 2])) (.var 1))) (evSs Φ T.b_l_numbers_3) n (numEnv a (.int m) l s .no .no) [] = .nx (numEnv a (.int m) p.1 p.2 .no .no) [] ∧ Small p.1 ∧ m ≤ p.1.length ∧ p.1.length ≤ 5000
  | 0, l, s, hl, hs, hn, hb => by omega
  | n + 1, l, s, hl, hs, hn, hb => by
    unfold whlRun
    have hlim : l.length < LIM := by unfold LIM; omega
    by_cases q : (l.length : Int) < m
    · have hs2 : 0 ≤ (s * s + 69621 * s + 7 * (l.length : Int) + 5) % 2147483629 ∧ (s * s + 69621 * s + 7 * (l.length : Int) + 5) % 2147483629 < 2147483647 := by omega
      obtain ⟨p, e, h1, h2, h3⟩ := num4 Φ a m hm n (l ++ [(s * s + 69621 * s + 7 * (l.length : Int) + 5) % 2147483629 / 1013 % 9973]) _ (hl.snoc (by omega)) hs2 (by simp; omega) (by simp; omega)
      refine ⟨p, ?_, h1, h2, h3⟩
      have hb1 : -18446744073709551616 < s ∧ s < 18446744073709551616 := by omega
      simp [numEnv] at e ⊢
      simp [biD, okB, noL, q, T.b_l_numbers_3, binD, hb1, B64, setT, hlim]
      exact e
    · refine ⟨(l, s), ?_, hl, by simp only; omega, hn⟩
      simp [numEnv, biD, okB, noL, q]
def Sp.l_numbers (F : DF) : Prop := ∀ (ns : List Int) (m : Int), (0 ≤ m ∧ m ≤ 5000) → ∃ l : List Int, F [.scr ns, .int m] [] = .ok (.ol ((l.map D.int).map .sh)) [] ∧ Small l ∧ (l.length : Int) = m
theorem t_l_numbers (Φ : Fns) : Sp.l_numbers (T.f_l_numbers.run Φ) := fun ns m hm => by
  rw [run_eq rfl rfl]
  have hcut : ∃ ns' : List Int, cut ns none (some 63) = ns' ∧ ns'.length ≤ 63 := ⟨_, rfl, by unfold cut sIx; simp; omega⟩
  obtain ⟨ns', hc, hl⟩ := hcut
  obtain ⟨p, e1, h1, h2, h3⟩ := num3 Φ (.scr ns) (.int m) ns' hl
  obtain ⟨p2, e2, g1, g2, g3⟩ := num4 Φ (.scr ns) m hm.2 10000 p.1 p.2 h1 h3 (by omega) (by omega)
  refine ⟨p2.1.take m.toNat, ?_, fun x hx => g1 x (List.mem_of_mem_take hx), by simp; omega⟩
  have hc2 : cutD (.scr ns) none (some 63) = some (.ol ((ns'.map D.int).map .sh)) := by rw [← hc]; simp [cutD, Function.comp_def]
  have hc3 : cutD (.lst (p2.1.map D.int)) none (some m) = some (.ol (((p2.1.take m.toNat).map D.int).map .sh)) := by
    unfold cutD cut sIx
    have : ¬ m < 0 := by omega
    have hmin : min m.toNat p2.1.length = m.toNat := by omega
    simp [this, List.map_take, hmin]
  simp [numEnv] at e1 e2
  simp [T.f_l_numbers, setT, LIM, hc2, e1, e2, hc3]
end MQ
/-! SD -/
set_option Elab.async false
set_option linter.all false
set_option maxRecDepth 100000
set_option maxHeartbeats 1000000
/-! SD: books made of numbers; Rules. -/
namespace MQ
open MP
open PySem (Str)
theorem mod_pos (a : Int) {n : Int} (h : 0 < n) : 0 ≤ a % n ∧ a % n < n := ⟨Int.emod_nonneg _ (by omega), Int.emod_lt_of_pos _ h⟩
theorem rng1_eq {n : Int} (h : 0 ≤ n ∧ n ≤ 1000000) : biD .rng1 [.int n] = some (.ol (((List.range n.toNat).map fun k : Nat => D.int k).map .sh)) := by
  have : fit n = true := by unfold fit B62; exact decide_eq_true (by omega)
  simp [biD, this, rng0]
/-! ### _law_windows -/
def Win (many size : Int) (t : T3) : Prop := (0 ≤ t.1 ∧ t.1 < many) ∧ 1 ≤ t.2.1 ∧ t.2.1 ≤ t.2.2 ∧ t.2.2 ≤ size
def winM (many size : Int) (d : List Int) (k : Nat) : T3 :=
  (nth0 d (3 * k) % many, 1 + nth0 d (3 * k + 1) % size, 1 + nth0 d (3 * k + 1) % size + nth0 d (3 * k + 2) % (size - (1 + nth0 d (3 * k + 1) % size) + 1))
def winsM (many size count : Int) (d : List Int) : List T3 := (List.range count.toNat).map (winM many size d)
theorem winM_ok {many size : Int} {d : List Int} {k : Nat} (h1 : 1 ≤ many) (h2 : 1 ≤ size) : Win many size (winM many size d k) := by
  have a := mod_pos (nth0 d (3 * k)) (n := many) (by omega)
  have b := mod_pos (nth0 d (3 * k + 1)) (n := size) (by omega)
  have c := mod_pos (nth0 d (3 * k + 2)) (n := size - (1 + nth0 d (3 * k + 1) % size) + 1) (by omega)
  unfold winM Win
  simp only
  omega
def Sp.l_windows (F : DF) : Prop := ∀ (many size count : Int) (d : List Int), 1 ≤ many → 1 ≤ size → 0 ≤ count → 3 * count ≤ d.length → count ≤ 100000 → F [.int many, .int size, .int count, iL d] [] = .ok (.ol (((winsM many size count d).map i3).map .sh)) []
theorem t_l_windows (Φ : Fns) : Sp.l_windows (T.f_l_windows.run Φ) := fun many size count d h1 h2 h3 h4 h5 => by
  rw [run_eq rfl rfl]
  simp [T.f_l_windows, rng1_eq (n := count) ⟨h3, by omega⟩]
  rw [loop_map 4 (fun k : Nat => D.int k) (fun k => i3 (winM many size d k)) (List.range count.toNat) [] rfl (by unfold LIM; simp; omega) fun k hk acc ha => by
    have hk' : (k : Int) < count := by have := List.mem_range.mp hk; omega
    have e0 := ix_ints (l := d) (k := 3 * k) (by omega)
    have e1 := ix_ints (l := d) (k := 3 * k + 1) (by omega)
    have e2 := ix_ints (l := d) (k := 3 * k + 2) (by omega)
    have b := mod_pos (nth0 d (3 * k + 1)) (n := size) (by omega)
    have c1 : 0 < size := by omega
    have c2 : 0 < many := by omega
    have c3 : 0 < size - (1 + nth0 d (3 * k + 1) % size) + 1 := by omega
    have c3' : 1 + nth0 d (3 * k + 1) % size < size + 1 := by omega
    have c4 : (-18446744073709551616 < (k : Int) ∧ (k : Int) < 18446744073709551616) := by omega
    simp [T.b_l_windows_1, setT, bin_mod, bin_fdiv, bin_mulL, bin_mulR, c4, e0, e1, e2, c1, c2, c3, ha, winM, i3]]
  simp [winsM, Function.comp_def]
/-! ### _law_book -/
def duesN (d : List Int) (many size : Int) : Int := if 5 < size ∧ 2 < many then nth0 [0, 1, 0, 2, 3, 1] (nth0 d 25 % 6) % 3 else nth0 [0, 1, 0, 2, 3, 1] (nth0 d 25 % 6)
def shunsN (d : List Int) : Int := nth0 [0, 0, 1, 2, 3, 0, 20] (nth0 d 14 % 7)
def barsN (d : List Int) : Int := nth0 [0, 1, 0, 2, 12, 0] (nth0 d 15 % 6)
end MQ
/-! SE -/
set_option Elab.async false
set_option linter.all false
set_option maxRecDepth 100000
set_option maxHeartbeats 1000000
/-! SE: Rules. -/
namespace MQ
open MP
open PySem (Str)
def kindOk (t : T3) : Bool := (decide (1 ≤ t.1) && (decide (t.1 ≤ t.2.1) && decide (t.2.1 ≤ 4))) && (decide (0 ≤ t.2.2) && decide (t.2.2 ≤ 4))
def shunOk (many : Int) (t : T3) : Bool := (decide (0 ≤ t.1) && decide (t.1 < many)) && ((decide (0 ≤ t.2.1) && decide (t.2.1 < many)) && (decide (1 ≤ t.2.2) && decide (t.2.2 ≤ 2)))
def winOk (many size : Int) (t : T3) : Bool := (decide (0 ≤ t.1) && decide (t.1 < many)) && (decide (1 ≤ t.2.1) && (decide (t.2.1 ≤ t.2.2) && decide (t.2.2 ≤ size)))
def kindsOk (l : List T3) : Bool := decide (1 ≤ l.length ∧ l.length ≤ 4) && l.all kindOk
def shunsOk (many : Int) (l : List T3) : Bool := decide (l.length ≤ 20) && l.all (shunOk many)
def winsOk (many size limit : Int) (l : List T3) : Bool := decide ((l.length : Int) ≤ limit) && l.all (winOk many size)
theorem all_any_not {α : Type} (p : α → Bool) (l : List α) : l.any (fun a => !p a) = !l.all p := by
  induction l with
  | nil => rfl
  | cons a l ih => simp [ih]
def Sp.good_kinds (F : DF) : Prop := ∀ l : List T3, F [L3 l] [] = .ok (.sh (.bl (kindsOk l))) []
theorem t_good_kinds (Φ : Fns) : Sp.good_kinds (T.f_good_kinds.run Φ) := fun l => by
  rw [run_eq rfl rfl]
  have f := loop_any (tg := .tp [.nm 1, .nm 2, .nm 3]) (f := evSs Φ T.b_good_kinds_1) (ρ := [Sl.va (L3 l), .no, .no, .no]) (.sh (.bl false)) i3 (fun t => !kindOk t) l fun t _ => by
    by_cases q1 : 1 ≤ t.1 <;> by_cases q2 : t.1 ≤ t.2.1 <;> by_cases q3 : t.2.1 ≤ 4 <;> simp [turn, setT, setTs, i3, T.b_good_kinds_1, kindOk, q1, q2, q3]
  rw [all_any_not] at f
  by_cases q : 1 ≤ l.length ∧ l.length ≤ 4
  · have q1 : (1 : Int) ≤ l.length := by omega
    have q2 : (l.length : Int) ≤ 4 := by omega
    cases h : l.all kindOk <;> simp [h] at f <;> simp [T.f_good_kinds, kindsOk, q, q1, q2, f, h]
  · by_cases q1 : (1 : Int) ≤ l.length
    · have q2 : ¬ (l.length : Int) ≤ 4 := by omega
      simp [T.f_good_kinds, kindsOk, q, q1, q2]
    · simp [T.f_good_kinds, kindsOk, q, q1]
def Sp.good_shuns (F : DF) : Prop := ∀ (l : List T3) (many : Int), F [L3 l, .int many] [] = .ok (.sh (.bl (shunsOk many l))) []
theorem t_good_shuns (Φ : Fns) : Sp.good_shuns (T.f_good_shuns.run Φ) := fun l many => by
  rw [run_eq rfl rfl]
  have f := loop_any (tg := .tp [.nm 2, .nm 3, .nm 4]) (f := evSs Φ T.b_good_shuns_1) (ρ := [Sl.va (L3 l), Sl.va (.int many), .no, .no, .no]) (.sh (.bl false)) i3 (fun t => !shunOk many t) l fun t _ => by
    by_cases q1 : 0 ≤ t.1 <;> by_cases q2 : t.1 < many <;> by_cases q3 : 0 ≤ t.2.1 <;> by_cases q4 : t.2.1 < many <;> simp [turn, setT, setTs, i3, T.b_good_shuns_1, shunOk, q1, q2, q3, q4]
  rw [all_any_not] at f
  by_cases q : l.length ≤ 20
  · have q2 : ¬ 20 < (l.length : Int) := by omega
    cases h : l.all (shunOk many) <;> simp [h] at f <;> simp [T.f_good_shuns, shunsOk, q, q2, f, h]
  · have q2 : 20 < (l.length : Int) := by omega
    simp [T.f_good_shuns, shunsOk, q, q2]
def Sp.good_windows (F : DF) : Prop := ∀ (l : List T3) (many size limit : Int), F [L3 l, .int many, .int size, .int limit] [] = .ok (.sh (.bl (winsOk many size limit l))) []
theorem t_good_windows (Φ : Fns) : Sp.good_windows (T.f_good_windows.run Φ) := fun l many size limit => by
  rw [run_eq rfl rfl]
  have f := loop_any (tg := .tp [.nm 4, .nm 5, .nm 6]) (f := evSs Φ T.b_good_windows_1) (ρ := [Sl.va (L3 l), Sl.va (.int many), Sl.va (.int size), Sl.va (.int limit), .no, .no, .no]) (.sh (.bl false)) i3 (fun t => !winOk many size t) l fun t _ => by
    by_cases q1 : 0 ≤ t.1 <;> by_cases q2 : t.1 < many <;> by_cases q3 : 1 ≤ t.2.1 <;> by_cases q4 : t.2.1 ≤ t.2.2 <;> simp [turn, setT, setTs, i3, T.b_good_windows_1, winOk, q1, q2, q3, q4]
  rw [all_any_not] at f
  by_cases q : (l.length : Int) ≤ limit
  · have q2 : ¬ limit < (l.length : Int) := by omega
    cases h : l.all (winOk many size) <;> simp [h] at f <;> simp [T.f_good_windows, winsOk, q, q2, f, h]
  · have q2 : limit < (l.length : Int) := by omega
    simp [T.f_good_windows, winsOk, q, q2]
/-- a book that can be, reckoned -/
def Bk.good (b : Bk) : Bool := decide (1 ≤ b.size ∧ b.size ≤ 30) && (kindsOk b.kinds && shunsOk b.kinds.length b.shuns) && (winsOk b.kinds.length b.size 12 b.bars && winsOk b.kinds.length b.size 3 b.dues)
theorem Bk.good_iff (b : Bk) : b.good = true ↔ b.Ok := by
  simp only [Bk.good, kindsOk, shunsOk, winsOk, Bool.and_eq_true, decide_eq_true_eq, List.all_eq_true, kindOk, shunOk, winOk]
  constructor
  · rintro ⟨⟨h1, ⟨h2, h3⟩, h4, h5⟩, ⟨h6, h7⟩, h8, h9⟩
    exact ⟨h1, h2, fun t ht => by have := h3 t ht; omega, h4, fun t ht => by have := h5 t ht; omega, by omega, fun t ht => by have := h7 t ht; omega, by omega, fun t ht => by have := h9 t ht; omega⟩
  · rintro ⟨h1, h2, h3, h4, h5, h6, h7, h8, h9⟩
    exact ⟨⟨h1, ⟨h2, fun t ht => by have := h3 t ht; omega⟩, h4, fun t ht => by have := h5 t ht; omega⟩, ⟨by omega, fun t ht => by have := h7 t ht; omega⟩, by omega, fun t ht => by have := h9 t ht; omega⟩
def Bk.o (b : Bk) : O := .oi "Rules" ["size", "sorts", "apart", "closed", "wanted"] [.sh (.int b.size), .sh (L3 b.kinds), .sh (L3 b.shuns), .sh (L3 b.bars), .sh (L3 b.dues)]
@[simp] theorem Bk.fz_o (b : Bk) : fz b.o = b.r := by simp [Bk.o, Bk.r, fz]
theorem run_init {Φ : Fns} {f : Fn} {ds : List D} {μ : List O} (hi : f.init = true) (hl : ds.length + 1 = f.pars) : f.run Φ ds μ = match evSs Φ f.body (Sl.ow (.oi f.name [] []) :: ds.map Sl.va ++ List.replicate (f.many - f.pars) .no) μ with
    | .nx ρ μ1 => (match owS ρ[0]? with
      | some o => .ok o μ1
      | none => .bad)
    | .er c fs _ μ1 => .er c fs μ1
    | _ => .bad := by
  unfold Fn.run
  simp only [hi, hl, if_true]
  cases evSs Φ f.body (Sl.ow (.oi f.name [] []) :: ds.map Sl.va ++ List.replicate (f.many - f.pars) .no) μ with
  | nx ρ μ1 =>
    simp only []
    cases hq : (ρ : List Sl)[0]? with
    | none => rfl
    | some s => cases s <;> rfl
  | _ => rfl
theorem lc_tup (Φ : Fns) (ρ : List Sl) (i : Nat) (hi : i < ρ.length) (l : List T3) : lcRun (lcG Φ ρ (.bi .tuple [.var i]) (.nm i) none) (l.map i3) [] = .ok (l.map i3) [] :=
  lcRun_map i3 i3 l fun t _ => by
    unfold lcG
    simp [tgN, setT, hi, i3, biD]
theorem ne_sorts_size : ¬ (Str.ofString "sorts" = Str.ofString "size") := by decide
theorem ne_apart_size : ¬ (Str.ofString "apart" = Str.ofString "size") := by decide
theorem ne_apart_sorts : ¬ (Str.ofString "apart" = Str.ofString "sorts") := by decide
theorem ne_closed_size : ¬ (Str.ofString "closed" = Str.ofString "size") := by decide
theorem ne_closed_sorts : ¬ (Str.ofString "closed" = Str.ofString "sorts") := by decide
theorem ne_closed_apart : ¬ (Str.ofString "closed" = Str.ofString "apart") := by decide
theorem ne_wanted_size : ¬ (Str.ofString "wanted" = Str.ofString "size") := by decide
theorem ne_wanted_sorts : ¬ (Str.ofString "wanted" = Str.ofString "sorts") := by decide
theorem ne_wanted_apart : ¬ (Str.ofString "wanted" = Str.ofString "apart") := by decide
theorem ne_wanted_closed : ¬ (Str.ofString "wanted" = Str.ofString "closed") := by decide
/-! ### _law_form -/
end MQ
/-! SF -/
set_option Elab.async false
set_option linter.all false
set_option maxRecDepth 100000
set_option maxHeartbeats 1000000
/-! SF: forms. -/
namespace MQ
open MP
open PySem (Str)
end MQ
/-! SG -/
set_option Elab.async false
set_option linter.all false
set_option maxRecDepth 100000
set_option maxHeartbeats 1000000
/-! SG: the law k07. -/
namespace MQ
open MP
open PySem (Str)
theorem lk {S : DF → Prop} {F G : DF} (h : S F) (e : G = F) : S G := e ▸ h
def Sp.law (F : DF) : Prop := ∀ ns : List Int, ns.length ≤ 63 → F [.scr ns] [] = .ok (.sh (.bl true)) []
theorem cut_ints (l : List Int) (lo hi : Option Int) : cutD (iL l) lo hi = some (.ol (((cut l lo hi).map D.int).map .sh)) := by
  simp -implicitDefEqProofs [cutD, iL, cut, List.map_drop, List.map_take]
end MQ
/-! SH -/
set_option Elab.async false
set_option linter.all false
set_option maxRecDepth 100000
set_option maxHeartbeats 1000000
/-! SH: rows and their stands; no program in sight. A row is read from its end: rp is the row turned round. -/
namespace MQ
open MP
open PySem (Str)
/-- the run at the end -/
def runR : List Int → Int
  | [] => 0
  | [_] => 1
  | a :: c :: l => if a = c then runR (c :: l) + 1 else 1
def headR (l : List Int) : Int := l.headD (-1)
/-- how many verses stand behind the latest of a kind -/
def idxR : List Int → Int → Option Nat
  | [], _ => none
  | a :: l, k => if a = k then some 0 else (idxR l k).map (· + 1)
def waitR (rp : List Int) (k rest : Int) : Int := match idxR rp k with
  | none => 0
  | some 0 => 0
  | some (i + 1) => max 0 (rest - (i + 1))
/-- a verse of the kind from first to last -/
def hitR : List Int → T3 → Bool
  | [], _ => false
  | a :: l, t => hitR l t || hit a (l.length + 1) t
def standR (b : Bk) (rp : List Int) : Sd where
  place := rp.length
  kind := headR rp
  length := runR rp
  before := headR rp.tail
  waits := (enumL 0 b.kinds).map fun p => waitR rp p.1 p.2.2.2
  met := b.dues.map fun t => hitR rp t
theorem Bk.kd_get (b : Bk) {k : Int} (h : 0 ≤ k ∧ k < b.kinds.length) : b.kd k = b.kinds[k.toNat]'(by omega) := by
  unfold Bk.kd
  rw [atI_nat h.1 h.2]
  rfl
/-- a row of kinds -/
def Kinds (b : Bk) (l : List Int) : Prop := ∀ x ∈ l, 0 ≤ x ∧ x < b.kinds.length
/-- the first verse of a row that breaks a rule, by the stands -/
def judgeR (b : Bk) : List Int → List Int → Option (Int × Str)
  | _, [] => none
  | rp, a :: l => match faultM b (standR b rp) a with
    | some w => some (rp.length + 1, w)
    | none => judgeR b (a :: rp) l
def judgeM (b : Bk) (row : List Int) : Option (Int × Str) := judgeR b [] row
/-- a row that stands -/
structure Stands (b : Bk) (row : List Int) : Prop where
  kinds : Kinds b row
  size : (row.length : Int) ≤ b.size
  right : judgeM b row = none
theorem judgeR_snoc (b : Bk) : ∀ (row rp : List Int) (a : Int), judgeR b rp (row ++ [a]) = match judgeR b rp row with
    | some p => some p
    | none => match faultM b (standR b (row.reverse ++ rp)) a with
      | some w => some (row.length + rp.length + 1, w)
      | none => none
  | [], rp, a => by
    simp [judgeR]
  | c :: row, rp, a => by
    simp only [List.cons_append, judgeR]
    cases hf : faultM b (standR b rp) c with
    | some w => rfl
    | none =>
      simp only []
      rw [judgeR_snoc b row (c :: rp) a]
      have e1 : (c :: row).reverse ++ rp = row.reverse ++ (c :: rp) := by simp
      rw [e1]
      cases judgeR b (c :: rp) row with
      | some p => rfl
      | none =>
        simp only []
        cases faultM b (standR b (row.reverse ++ (c :: rp))) a with
        | none => rfl
        | some w => simp; omega
theorem judgeM_snoc (b : Bk) (row : List Int) (a : Int) (h : judgeM b row = none) : judgeM b (row ++ [a]) = match faultM b (standR b row.reverse) a with
    | some w => some (row.length + 1, w)
    | none => none := by
  unfold judgeM at h ⊢
  rw [judgeR_snoc, h]
  simp
theorem Stands.nil {b : Bk} (hb : b.Ok) : Stands b [] := by
  have h1 := hb.size
  refine ⟨(fun _ h => by cases h), ?_, rfl⟩
  simp
  omega
theorem Stands.snoc {b : Bk} {row : List Int} {a : Int} (h : Stands b row) (ha : 0 ≤ a ∧ a < b.kinds.length) (hs : (row.length : Int) < b.size) (hf : faultM b (standR b row.reverse) a = none) : Stands b (row ++ [a]) := by
  refine ⟨fun x hx => ?_, by simp; omega, by rw [judgeM_snoc b row a h.right, hf]⟩
  rcases List.mem_append.mp hx with hx | hx
  · exact h.kinds x hx
  · obtain rfl : x = a := by simpa using hx
    exact ha
theorem judgeR_app (b : Bk) : ∀ (p q rp : List Int), judgeR b rp (p ++ q) = none → judgeR b rp p = none ∧ judgeR b (p.reverse ++ rp) q = none
  | [], q, rp, h => ⟨rfl, by simpa using h⟩
  | a :: p, q, rp, h => by
    simp only [List.cons_append, judgeR] at h ⊢
    cases hf : faultM b (standR b rp) a with
    | some w => rw [hf] at h; cases h
    | none =>
      rw [hf] at h
      have := judgeR_app b p q (a :: rp) h
      simpa using this
theorem Stands.left {b : Bk} {p q : List Int} (h : Stands b (p ++ q)) : Stands b p := by
  have h1 := h.size
  rw [List.length_append] at h1
  exact ⟨fun x hx => h.kinds x (List.mem_append_left _ hx), by omega, (judgeR_app b p q [] h.right).1⟩
theorem Kinds.reverse {b : Bk} {l : List Int} (h : Kinds b l) : Kinds b l.reverse := fun x hx => h x (List.mem_reverse.mp hx)
end MQ
/-! SI -/
set_option Elab.async false
set_option linter.all false
set_option maxRecDepth 100000
set_option maxHeartbeats 1000000
/-! SI: rows looked along, as the laws do. -/
namespace MQ
open MP
open PySem (Str)
theorem wfs_ints (n : Nat) : ∀ l : List Int, wfs (n + 1) (l.map .int) = true
  | [] => rfl
  | a :: l => by simp [wfs, wf, wfs_ints n l]
end MQ
/-! SJ -/
set_option Elab.async false
set_option linter.all false
set_option maxRecDepth 100000
set_option maxHeartbeats 1000000
/-! SJ: the laws' fault of a verse is the program's. -/
namespace MQ
open MP
open PySem (Str)
theorem Bk.Ok.kd {b : Bk} (h : b.Ok) {k : Int} (hk : 0 ≤ k ∧ k < b.kinds.length) : 1 ≤ (b.kd k).1 ∧ (b.kd k).1 ≤ (b.kd k).2.1 ∧ (b.kd k).2.1 ≤ 4 ∧ 0 ≤ (b.kd k).2.2 ∧ (b.kd k).2.2 ≤ 4 := by
  rw [b.kd_get hk]
  exact h.kinds _ (List.getElem_mem _)
@[simp] theorem headR_nil : headR [] = -1 := rfl
@[simp] theorem headR_cons (a : Int) (l : List Int) : headR (a :: l) = a := rfl
end MQ
/-! SK -/
set_option Elab.async false
set_option linter.all false
set_option maxRecDepth 100000
set_option maxHeartbeats 1000000
/-! SK: rows judged, by the laws and by the program. -/
namespace MQ
open MP
open PySem (Str)
end MQ
/-! SL -/
set_option Elab.async false
set_option linter.all false
set_option maxRecDepth 100000
set_option maxHeartbeats 1000000
/-! SL: judged; walks. -/
namespace MQ
open MP
open PySem (Str)
/-! ### judged, by the law -/
/-! ### the empty row's stand -/
def Sp.start (F : DF) : Prop := ∀ b : Bk, b.Ok → F [b.r] [] = .ok (.sh (standR b []).d) []
/-! ### judged, by the program -/
end MQ
/-! SM -/
set_option Elab.async false
set_option linter.all false
set_option maxRecDepth 100000
set_option maxHeartbeats 1000000
/-! SM: rows walked by the rules, rows changed. -/
namespace MQ
open MP
open PySem (Str)
end MQ
/-! SN -/
set_option Elab.async false
set_option linter.all false
set_option maxRecDepth 100000
set_option maxHeartbeats 1000000
/-! SN: the law k03. -/
namespace MQ
open MP
open PySem (Str)
structure RowOk (b : Bk) (row : List Int) : Prop where
  kinds : Kinds b row
  size : (row.length : Int) ≤ b.size
theorem Stands.ok {b : Bk} {row : List Int} (h : Stands b row) : RowOk b row := ⟨h.kinds, h.size⟩
theorem RowOk.set {b : Bk} {row : List Int} (h : RowOk b row) (i : Nat) {a : Int} (ha : 0 ≤ a ∧ a < b.kinds.length) : RowOk b (row.set i a) := by
  refine ⟨fun x hx => ?_, by rw [List.length_set]; exact h.size⟩
  rcases List.mem_or_eq_of_mem_set hx with hx | rfl
  · exact h.kinds x hx
  · exact ha
end MQ
/-! SO -/
set_option Elab.async false
set_option linter.all false
set_option maxRecDepth 100000
set_option maxHeartbeats 1000000
/-! SO: stands told; the law k05. -/
namespace MQ
open MP
open PySem (Str)
/-! ### fields, by looking along the row -/
/-! ### the law -/
end MQ
/-! SP -/
set_option Elab.async false
set_option linter.all false
set_option maxRecDepth 100000
set_option maxHeartbeats 1000000
/-! SP: stands compared; rows with a like stand; the law k08. -/
namespace MQ
open MP
open PySem (Str)
theorem deqs_int : ∀ (l m : List Int), deqs (l.map .int) (m.map .int) = decide (l = m)
  | [], [] => rfl
  | [], _ :: _ => rfl
  | _ :: _, [] => rfl
  | a :: l, b :: m => by
    simp only [List.map_cons, deqs, deq, deqs_int l m]
    by_cases h : a = b <;> by_cases h2 : l = m <;> simp [h, h2]
theorem deqs_bl : ∀ (l m : List Bool), deqs (l.map .bl) (m.map .bl) = decide (l = m)
  | [], [] => rfl
  | [], _ :: _ => rfl
  | _ :: _, [] => rfl
  | a :: l, b :: m => by
    simp only [List.map_cons, deqs, deq, deqs_bl l m]
    by_cases h : a = b <;> by_cases h2 : l = m <;> simp [h, h2]
theorem wfs_bl (n : Nat) : ∀ l : List Bool, wfs (n + 1) (l.map .bl) = true
  | [] => rfl
  | a :: l => by simp [wfs, wf, wfs_bl n l]
theorem wf_Sd (n : Nat) (s : Sd) : wf (n + 3) s.d = true := by
  unfold Sd.d
  have h1 := wfs_ints n s.waits
  have h2 := wfs_bl n s.met
  simp [wf, wfs, h1, h2]
theorem deq_Sd (s t : Sd) : deq s.d t.d = decide (s = t) := by
  obtain ⟨a1, a2, a3, a4, a5, a6⟩ := s
  obtain ⟨b1, b2, b3, b4, b5, b6⟩ := t
  simp only [Sd.d, deq, deqs, deqs_int, deqs_bl]
  by_cases h1 : a1 = b1 <;> by_cases h2 : a2 = b2 <;> by_cases h3 : a3 = b3 <;> by_cases h4 : a4 = b4 <;> by_cases h5 : a5 = b5 <;> by_cases h6 : a6 = b6 <;> simp [h1, h2, h3, h4, h5, h6]
/-! ### going on hangs on the stand alone -/
/-! ### all rows that stand -/
theorem range_at {n : Nat} {pre post : List Nat} {d : Nat} (h : List.range n = pre ++ d :: post) : d = pre.length ∧ d < n := by
  have h1 : (List.range n)[pre.length]? = some d := by rw [h]; simp
  have hlt : pre.length < n := by
    have := congrArg List.length h
    simp at this
    omega
  rw [List.getElem?_range hlt] at h1
  have := Option.some.inj h1
  omega
def LL (l : List (List Int)) : D := .lst (l.map iL)
end MQ
/-! SQ -/
set_option Elab.async false
set_option linter.all false
set_option maxRecDepth 100000
set_option maxHeartbeats 1000000
/-! SQ: the law k06. -/
namespace MQ
open MP
open PySem (Str)
end MQ
/-! SR -/
set_option Elab.async false
set_option linter.all false
set_option maxRecDepth 100000
set_option maxHeartbeats 1000000
/-! SR: dicts of stands; next stands; levels (k09 and on). -/
namespace MQ
open MP
open PySem (Str)
/-! ### dicts whose keys are stands -/
theorem keyTs_int (n : Nat) : ∀ l : List Int, keyTs n (l.map .int) = true
  | [] => by simp [keyTs]
  | a :: l => by
    have h : keyT n (.int a) = true := by cases n <;> rfl
    simp only [List.map_cons, keyTs, h, keyTs_int n l, Bool.and_self]
theorem keyTs_bl (n : Nat) : ∀ l : List Bool, keyTs n (l.map .bl) = true
  | [] => by simp [keyTs]
  | a :: l => by
    have h : keyT n (.bl a) = true := by cases n <;> rfl
    simp only [List.map_cons, keyTs, h, keyTs_bl n l, Bool.and_self]
/-! ### next stands -/
def nextM (b : Bk) (s : Sd) : List Sd := (List.range b.kinds.length).filterMap fun k : Nat => stepM b s (k : Int)
/-- in how many ways so many verses more can be written -/
def cntM (b : Bk) : Nat → Sd → Nat
  | 0, _ => 1
  | n + 1, s => ((nextM b s).map (cntM b n)).sum
/-! ### levels -/
theorem itD_lst (l : List D) : itD (.lst l) = some l := rfl
/-! ### counts -/
def cnV (b : Bk) (s : Sd) : Nat := cntM b (b.size - s.place).toNat s
end MQ
/-! SS -/
set_option Elab.async false
set_option linter.all false
set_option maxRecDepth 100000
set_option maxHeartbeats 1000000
/-! SS: ways (k09, k10). -/
namespace MQ
open MP
open PySem (Str)
/-! ### few stands -/
/-- what each stand come to is like -/
structure Sd.In (s : Sd) : Prop where
  len : 0 ≤ s.length ∧ s.length ≤ 4
  kl : (s.kind = -1 ∧ s.length = 0) ∨ (0 ≤ s.kind ∧ s.kind ≤ 3 ∧ 1 ≤ s.length)
  before : -1 ≤ s.before ∧ s.before ≤ 3
  waits : ∀ x ∈ s.waits, 0 ≤ x ∧ x ≤ 4
end MQ
/-! ST -/
set_option Elab.async false
set_option linter.all false
set_option maxRecDepth 100000
set_option maxHeartbeats 1000000
/-! ST: all sheets that go on (k09, k11). -/
namespace MQ
open MP
open PySem (Str)
end MQ
/-! EV -/
set_option Elab.async false
set_option linter.all false
set_option maxRecDepth 100000
/-! EV: to reckon lazily: what is to come stands as a named thing, and is looked at only when what stands ahead is known (printed by genEV.py). -/
namespace MQ
open MP
open PySem (Str)
def kB (μ : List O) (b : Bool) : Rs O := .ok (.sh (.bl b)) μ
def kBin2 (op : BO) (x y : O) (μ : List O) : Rs O := lift (binD op (fz x) (fz y)) μ
def kBin (Φ : Fns) (op : BO) (b : E) (ρ : List Sl) (x : O) (μ : List O) : Rs O := (evE Φ b ρ μ).bind (kBin2 op x)
def kNeg (x : O) (μ : List O) : Rs O := match fz x with
  | .int i => .ok (.sh (.int (-i))) μ
  | _ => .bad
def kNt (x : O) (μ : List O) : Rs O := oB (asB x) fun b => .ok (.sh (.bl (!b))) μ
def kBl (x : O) (μ : List O) : Rs O := oB (asB x) fun b => .ok (.sh (.bl b)) μ
def kAnd (Φ : Fns) (b : E) (ρ : List Sl) (x : O) (μ : List O) : Rs O := oB (asB x) fun c => if c = true then (evE Φ b ρ μ).bind kBl else .ok (.sh (.bl false)) μ
def kOr (Φ : Fns) (b : E) (ρ : List Sl) (x : O) (μ : List O) : Rs O := oB (asB x) fun c => if c = true then .ok (.sh (.bl true)) μ else (evE Φ b ρ μ).bind kBl
def kCmp2 (c : CO) (x y : O) (μ : List O) : Rs O := oB (cmpD c (fz x) (fz y)) (kB μ)
def kCmp (Φ : Fns) (c : CO) (b : E) (ρ : List Sl) (x : O) (μ : List O) : Rs O := (evE Φ b ρ μ).bind (kCmp2 c x)
def kChn3 (Φ : Fns) (c : CO) (e : E) (ρ : List Sl) (y : O) (μ : List O) (t : Bool) : Rs O := if t = true then (evE Φ e ρ μ).bind (kCmp2 c y) else .ok (.sh (.bl false)) μ
def kChn2 (Φ : Fns) (c c' : CO) (e : E) (ρ : List Sl) (x y : O) (μ : List O) : Rs O := oB (cmpD c (fz x) (fz y)) (kChn3 Φ c' e ρ y μ)
def kChn (Φ : Fns) (c c' : CO) (b e : E) (ρ : List Sl) (x : O) (μ : List O) : Rs O := (evE Φ b ρ μ).bind (kChn2 Φ c c' e ρ x)
def kCh3 (Φ : Fns) (c' c'' : CO) (e f : E) (ρ : List Sl) (y : O) (μ : List O) (t : Bool) : Rs O := if t = true then (evE Φ e ρ μ).bind (kChn2 Φ c' c'' f ρ y) else .ok (.sh (.bl false)) μ
def kCh2 (Φ : Fns) (c c' c'' : CO) (e f : E) (ρ : List Sl) (x y : O) (μ : List O) : Rs O := oB (cmpD c (fz x) (fz y)) (kCh3 Φ c' c'' e f ρ y μ)
def kCh (Φ : Fns) (c c' c'' : CO) (b e f : E) (ρ : List Sl) (x : O) (μ : List O) : Rs O := (evE Φ b ρ μ).bind (kCh2 Φ c c' c'' e f ρ x)
def kIfe (Φ : Fns) (a b : E) (ρ : List Sl) (x : O) (μ : List O) : Rs O := oB (asB x) fun c => if c = true then evE Φ a ρ μ else evE Φ b ρ μ
def liS (o : Option D) (μ : List O) : Rs O := lift (o.map .sh) μ
def kIx2 (x y : O) (μ : List O) : Rs O := liS (ixD (fz x) (fz y)) μ
def kIx (Φ : Fns) (i : E) (ρ : List Sl) (x : O) (μ : List O) : Rs O := (evE Φ i ρ μ).bind (kIx2 x)
def kSl3 (x : O) (l h : Option Int) (μ : List O) : Rs O := lift (cutD (fz x) l h) μ
def kSl2 (Φ : Fns) (hi : Option E) (ρ : List Sl) (x : O) (l : Option Int) (μ : List O) : Rs O := (evO Φ hi ρ μ).bind (kSl3 x l)
def kSl (Φ : Fns) (lo hi : Option E) (ρ : List Sl) (x : O) (μ : List O) : Rs O := (evO Φ lo ρ μ).bind (kSl2 Φ hi ρ x)
def kFld (c f : Str) (x : O) (μ : List O) : Rs O := liS (fldD c (fz x) f) μ
def kLst (xs : List O) (μ : List O) : Rs O := if xs.length ≤ LIM then .ok (.ol xs) μ else .bad
def kTup (xs : List O) (μ : List O) : Rs O := if xs.length ≤ LIM then .ok (.sh (.tup (fzs xs))) μ else .bad
def kShl (x : O) (μ : List O) : Rs O := match x with
  | .ol l => .ok (.ol ((l.map fz).map .sh)) μ
  | _ => .bad
def kCall (Φ : Fns) (f : Str) (xs : List O) (μ : List O) : Rs O := Φ f (fzs xs) μ
def kMeth2 (Φ : Fns) (f : Str) (x : O) (xs : List O) (μ : List O) : Rs O := Φ f (fz x :: fzs xs) μ
def kMeth (Φ : Fns) (c m : Str) (es : List E) (ρ : List Sl) (x : O) (μ : List O) : Rs O := if metO c m (fz x) = true then (evEs Φ es ρ μ).bind (kMeth2 Φ (c ++ "." ++ m) x) else .bad
def kBi (b : Bi) (xs : List O) (μ : List O) : Rs O := lift (biD b (fzs xs)) μ
def kBm2 (b : Bi) (x : O) (xs : List O) (μ : List O) : Rs O := lift (biD b (fz x :: fzs xs)) μ
def kBm (Φ : Fns) (b : Bi) (es : List E) (ρ : List Sl) (x : O) (μ : List O) : Rs O := if bmOk b (fz x) then (evEs Φ es ρ μ).bind (kBm2 b x) else .bad
def kBor (μ : List O) : Rs O → Rs O
  | .ok o μ1 => if okB o && μ1.isEmpty then .ok o μ else .bad
  | .er c fs μ1 => if noLs fs && μ1.isEmpty then .er c fs μ else .bad
  | .bad => .bad
def kOix2 (l : List O) (x : O) (μ : List O) : Rs O := lift (oixO l (fz x)) μ
def kOix (Φ : Fns) (e : E) (ρ : List Sl) (μ : List O) : Option (List O) → Rs O
  | some l => (evE Φ e ρ μ).bind (kOix2 l)
  | none => .bad
def kEs2 (x : O) (xs : List O) (μ : List O) : Rs (List O) := .ok (x :: xs) μ
def kEs (Φ : Fns) (es : List E) (ρ : List Sl) (x : O) (μ : List O) : Rs (List O) := (evEs Φ es ρ μ).bind (kEs2 x)
def kO (x : O) (μ : List O) : Rs (Option Int) := lift (optI (fz x)) μ
def kC (x : O) (μ : List O) : Rs Bool := lift (asB x) μ
def kLc3 (y : O) (μ : List O) : Rs (Option D) := .ok (some (fz y)) μ
def kLc2 (Φ : Fns) (elt : E) (ρ : List Sl) (c : Bool) (μ : List O) : Rs (Option D) := if c = true then ((evE Φ elt ρ μ).calm).bind kLc3 else .ok none μ
def kLc (Φ : Fns) (elt : E) (cd : Option E) (μ : List O) : Option (List Sl) → Rs (Option D)
  | some ρ => (evC Φ cd ρ μ).bind (kLc2 Φ elt ρ)
  | none => .bad
def kNx (μ : List O) : Option (List Sl) → Fl
  | some ρ => .nx ρ μ
  | none => .bad
def kAsg (tg : T) (ρ : List Sl) (x : O) (μ : List O) : Fl := kNx μ (setT tg (fz x) ρ)
def kOwn (i : Nat) (ρ : List Sl) (x : O) (μ : List O) : Fl := .nx (ρ.set i (.ow x)) μ
def kAug2 (i : Nat) (ρ : List Sl) (μ : List O) : Option Int → Fl
  | some z => .nx (ρ.set i (.va (.int z))) μ
  | none => .bad
def kAug (i : Nat) (op : BO) (ρ : List Sl) (d : D) (x : O) (μ : List O) : Fl := kAug2 i ρ μ (augD op d (fz x))
def kAug0 (Φ : Fns) (i : Nat) (op : BO) (e : E) (ρ : List Sl) (μ : List O) : Option D → Fl
  | some d => (evE Φ e ρ μ).go ρ (kAug i op ρ d)
  | none => .bad
def kEx (ρ : List Sl) (x : O) (μ : List O) : Fl := .nx ρ μ
def kApp (i : Nat) (ρ : List Sl) (l : List O) (x : O) (μ : List O) : Fl := if l.length < LIM then .nx (ρ.set i (.ow (.ol (l ++ [.sh (fz x)])))) μ else .bad
def kApp0 (Φ : Fns) (i : Nat) (e : E) (ρ : List Sl) (μ : List O) : Option (List O) → Fl
  | some l => (evE Φ e ρ μ).go ρ (kApp i ρ l)
  | none => .bad
def kIns2 (i : Nat) (ρ : List Sl) (l : List O) (y x : O) (μ : List O) : Fl := match fz y with
  | .int j => if (0 ≤ j ∧ j < 9223372036854775808) ∧ l.length < LIM then .nx (ρ.set i (.ow (.ol (l.take j.toNat ++ [.sh (fz x)] ++ l.drop j.toNat)))) μ else .bad
  | _ => .bad
def kIns (Φ : Fns) (i : Nat) (e : E) (ρ : List Sl) (l : List O) (y : O) (μ : List O) : Fl := (evE Φ e ρ μ).go ρ (kIns2 i ρ l y)
def kIns0 (Φ : Fns) (i : Nat) (k e : E) (ρ : List Sl) (μ : List O) : Option (List O) → Fl
  | some l => (evE Φ k ρ μ).go ρ (kIns Φ i e ρ l)
  | none => .bad
def kSetx3 (i : Nat) (ρ : List Sl) (μ : List O) : Option O → Fl
  | some o => .nx (ρ.set i (.ow o)) μ
  | none => .bad
def kSetx2 (i : Nat) (ρ : List Sl) (o x y : O) (μ : List O) : Fl := kSetx3 i ρ μ (setO o (fz y) (.sh (fz x)))
def kSetx1 (Φ : Fns) (i : Nat) (k : E) (ρ : List Sl) (x : O) (μ : List O) : Option O → Fl
  | some o => (evE Φ k ρ μ).go ρ (kSetx2 i ρ o x)
  | none => .bad
def kSetx (Φ : Fns) (i : Nat) (k : E) (ρ : List Sl) (x : O) (μ : List O) : Fl := kSetx1 Φ i k ρ x μ (owS ρ[i]?)
def kFset1 (c : Str) (i : Nat) (f : Str) (ρ : List Sl) (x : O) (μ : List O) : Option O → Fl
  | some o => kSetx3 i ρ μ (fputO c o f (.sh (fz x)))
  | none => .bad
def kFset (c : Str) (i : Nat) (f : Str) (ρ : List Sl) (x : O) (μ : List O) : Fl := kFset1 c i f ρ x μ (owS ρ[i]?)
def kIfs (Φ : Fns) (a b : List S) (ρ : List Sl) (x : O) (μ : List O) : Fl := oF (asB x) fun c => if c = true then evSs Φ a ρ μ else evSs Φ b ρ μ
def kFor2 (Φ : Fns) (tg : T) (b : List S) (ρ : List Sl) (μ : List O) : Option (List D) → Fl
  | some ds => forRun tg (evSs Φ b) ds ρ μ
  | none => .bad
def kFor (Φ : Fns) (tg : T) (b : List S) (ρ : List Sl) (x : O) (μ : List O) : Fl := kFor2 Φ tg b ρ μ (itD (fz x))
def kRet (x : O) (μ : List O) : Fl := .rt x μ
def kRais (c : Str) (ρ : List Sl) (xs : List O) (μ : List O) : Fl := .er c (fzs xs) ρ μ
def kTurn (f : List Sl → List O → Fl) : Option (List Sl) → Fl
  | some ρ => f ρ []
  | none => .bad
theorem wfs_LL (n : Nat) : ∀ l : List (List Int), wfs (n + 2) (l.map iL) = true
  | [] => by simp [wfs]
  | a :: l => by
    have h : wf (n + 2) (iL a) = true := by
      show wfs (n + 1) (a.map D.int) = true
      exact wfs_ints n a
    simp only [List.map_cons, wfs, h, wfs_LL n l, Bool.and_self]
def elsD (x y : D) : Option Bool := match x, y with
  | .lst a, .lst [] => some a.isEmpty
  | _, _ => none
theorem eq_LL_nil (l : List (List Int)) : cmpD .eq (LL l) (.lst []) = some l.isEmpty := by
  have h : cmpD .eq (LL l) (.lst []) = if wf 8 (LL l) && wf 8 (.lst []) then some (deq (LL l) (.lst [])) else elsD (LL l) (.lst []) := by
    unfold LL
    rfl
  have h1 : wf 8 (LL l) = true := by
    show wfs 7 (l.map iL) = true
    exact wfs_LL 5 l
  rw [h, h1, if_pos (by simp [wf, wfs])]
  cases l <;> rfl
theorem iL_fold (l : List Int) : D.lst (l.map .int) = iL l := rfl
theorem len_LL (l : List (List Int)) : biD .len [LL l] = some (.sh (.int l.length)) := by simp [biD, LL]
theorem w_non (Φ : Fns) (ρ : List Sl) (μ : List O) : evE Φ .non ρ μ = .ok (.sh .non) μ := by first | (simp only [evE]; done) | (simp only [evE]; rfl) | rfl
theorem w_bl (Φ : Fns) (ρ : List Sl) (μ : List O) (b : Bool) : evE Φ (.bl b) ρ μ = .ok (.sh (.bl b)) μ := by first | (simp only [evE]; done) | (simp only [evE]; rfl) | rfl
theorem w_int (Φ : Fns) (ρ : List Sl) (μ : List O) (i : Int) : evE Φ (.int i) ρ μ = .ok (.sh (.int i)) μ := by first | (simp only [evE]; done) | (simp only [evE]; rfl) | rfl
theorem w_str (Φ : Fns) (ρ : List Sl) (μ : List O) (s : Str) : evE Φ (.str s) ρ μ = .ok (.sh (.str s)) μ := by first | (simp only [evE]; done) | (simp only [evE]; rfl) | rfl
theorem w_var (Φ : Fns) (ρ : List Sl) (μ : List O) (i : Nat) : evE Φ (.var i) ρ μ = liS (getS ρ[i]?) μ := by rw [eE_var, getV_eq]; rfl
theorem w_glI (Φ : Fns) (ρ : List Sl) (μ : List O) (x : Str) (i : Int) : evE Φ (.glI x i) ρ μ = .ok (.sh (.int i)) μ := by first | (simp only [evE]; done) | (simp only [evE]; rfl) | rfl
theorem w_glS (Φ : Fns) (ρ : List Sl) (μ : List O) (x s : Str) : evE Φ (.glS x s) ρ μ = .ok (.sh (.str s)) μ := by first | (simp only [evE]; done) | (simp only [evE]; rfl) | rfl
theorem w_bin (Φ : Fns) (ρ : List Sl) (μ : List O) (op : BO) (a b : E) : evE Φ (.bin op a b) ρ μ = (evE Φ a ρ μ).bind (kBin Φ op b ρ) := by first | (simp only [evE]; done) | (simp only [evE]; rfl) | rfl
theorem w_neg (Φ : Fns) (ρ : List Sl) (μ : List O) (a : E) : evE Φ (.neg a) ρ μ = (evE Φ a ρ μ).bind kNeg := by rw [eE_neg]; rfl
theorem w_nt (Φ : Fns) (ρ : List Sl) (μ : List O) (a : E) : evE Φ (.nt a) ρ μ = (evE Φ a ρ μ).bind kNt := by rw [eE_nt]; rfl
theorem w_and (Φ : Fns) (ρ : List Sl) (μ : List O) (a b : E) : evE Φ (.and a b) ρ μ = (evE Φ a ρ μ).bind (kAnd Φ b ρ) := by rw [eE_and]; rfl
theorem w_or (Φ : Fns) (ρ : List Sl) (μ : List O) (a b : E) : evE Φ (.or a b) ρ μ = (evE Φ a ρ μ).bind (kOr Φ b ρ) := by rw [eE_or]; rfl
theorem w_cmp (Φ : Fns) (ρ : List Sl) (μ : List O) (c : CO) (a b : E) : evE Φ (.cmp c a b) ρ μ = (evE Φ a ρ μ).bind (kCmp Φ c b ρ) := by rw [eE_cmp]; rfl
theorem w_chn (Φ : Fns) (ρ : List Sl) (μ : List O) (c c' : CO) (a b e : E) : evE Φ (.chn c c' a b e) ρ μ = (evE Φ a ρ μ).bind (kChn Φ c c' b e ρ) := by rw [eE_chn]; rfl
theorem w_chn3 (Φ : Fns) (ρ : List Sl) (μ : List O) (c c' c'' : CO) (a b e f : E) : evE Φ (.chn3 c c' c'' a b e f) ρ μ = (evE Φ a ρ μ).bind (kCh Φ c c' c'' b e f ρ) := by rw [eE_chn3]; rfl
theorem w_ife (Φ : Fns) (ρ : List Sl) (μ : List O) (c a b : E) : evE Φ (.ife c a b) ρ μ = (evE Φ c ρ μ).bind (kIfe Φ a b ρ) := by rw [eE_ife]; rfl
theorem w_ix (Φ : Fns) (ρ : List Sl) (μ : List O) (a i : E) : evE Φ (.ix a i) ρ μ = (evE Φ a ρ μ).bind (kIx Φ i ρ) := by first | (simp only [evE]; done) | (simp only [evE]; rfl) | rfl
theorem w_sl (Φ : Fns) (ρ : List Sl) (μ : List O) (a : E) (lo hi : Option E) : evE Φ (.sl a lo hi) ρ μ = (evE Φ a ρ μ).bind (kSl Φ lo hi ρ) := by first | (simp only [evE]; done) | (simp only [evE]; rfl) | rfl
theorem w_fld (Φ : Fns) (ρ : List Sl) (μ : List O) (c f : Str) (a : E) : evE Φ (.fld c a f) ρ μ = (evE Φ a ρ μ).bind (kFld c f) := by first | (simp only [evE]; done) | (simp only [evE]; rfl) | rfl
theorem w_lst (Φ : Fns) (ρ : List Sl) (μ : List O) (es : List E) : evE Φ (.lst es) ρ μ = (evEs Φ es ρ μ).bind kLst := by first | (simp only [evE]; done) | (simp only [evE]; rfl) | rfl
theorem w_tup (Φ : Fns) (ρ : List Sl) (μ : List O) (es : List E) : evE Φ (.tup es) ρ μ = (evEs Φ es ρ μ).bind kTup := by first | (simp only [evE]; done) | (simp only [evE]; rfl) | rfl
theorem w_dnew (Φ : Fns) (ρ : List Sl) (μ : List O) (b : Bool) : evE Φ (.dnew b) ρ μ = .ok (.od b [] []) μ := by first | (simp only [evE]; done) | (simp only [evE]; rfl) | rfl
theorem w_shl (Φ : Fns) (ρ : List Sl) (μ : List O) (a : E) : evE Φ (.shl a) ρ μ = (evE Φ a ρ μ).bind kShl := by first | (simp only [evE]; done) | (simp only [evE]; rfl) | rfl
theorem w_call (Φ : Fns) (ρ : List Sl) (μ : List O) (f : Str) (es : List E) : evE Φ (.call f es) ρ μ = (evEs Φ es ρ μ).bind (kCall Φ f) := by first | (simp only [evE]; done) | (simp only [evE]; rfl) | rfl
theorem w_mk (Φ : Fns) (ρ : List Sl) (μ : List O) (f : Str) (es : List E) : evE Φ (.mk f es) ρ μ = (evEs Φ es ρ μ).bind (kCall Φ f) := by first | (simp only [evE]; done) | (simp only [evE]; rfl) | rfl
theorem w_meth (Φ : Fns) (ρ : List Sl) (μ : List O) (c m : Str) (a : E) (es : List E) : evE Φ (.meth c a m es) ρ μ = (evE Φ a ρ μ).bind (kMeth Φ c m es ρ) := by first | (simp only [evE]; done) | (simp only [evE]; rfl) | rfl
theorem w_bi (Φ : Fns) (ρ : List Sl) (μ : List O) (b : Bi) (es : List E) : evE Φ (.bi b es) ρ μ = (evEs Φ es ρ μ).bind (kBi b) := by first | (simp only [evE]; done) | (simp only [evE]; rfl) | rfl
theorem w_bm (Φ : Fns) (ρ : List Sl) (μ : List O) (b : Bi) (a : E) (es : List E) : evE Φ (.bm b a es) ρ μ = (evE Φ a ρ μ).bind (kBm Φ b es ρ) := by first | (simp only [evE]; done) | (simp only [evE]; rfl) | rfl
theorem w_bor (Φ : Fns) (ρ : List Sl) (μ : List O) (is : List Nat) (e : E) : evE Φ (.bor is e) ρ μ = kBor μ (evE Φ e (borE ρ is μ) []) := by rw [eE_bor]; rfl
theorem w_oix (Φ : Fns) (ρ : List Sl) (μ : List O) (i : Nat) (e : E) : evE Φ (.oix i e) ρ μ = kOix Φ e ρ μ (ownS ρ[i]?) := by rw [eE_oix, ownL_eq]; rfl
theorem w_es0 (Φ : Fns) (ρ : List Sl) (μ : List O) : evEs Φ [] ρ μ = .ok [] μ := by first | (simp only [evEs]; done) | (simp only [evEs]; rfl) | rfl
theorem w_es1 (Φ : Fns) (ρ : List Sl) (μ : List O) (e : E) (es : List E) : evEs Φ (e :: es) ρ μ = (evE Φ e ρ μ).bind (kEs Φ es ρ) := by first | (simp only [evEs]; done) | (simp only [evEs]; rfl) | rfl
theorem w_o0 (Φ : Fns) (ρ : List Sl) (μ : List O) : evO Φ none ρ μ = .ok none μ := by rw [eO_none]
theorem w_o1 (Φ : Fns) (ρ : List Sl) (μ : List O) (e : E) : evO Φ (some e) ρ μ = (evE Φ e ρ μ).bind kO := by rw [eO_some]; rfl
theorem w_c0 (Φ : Fns) (ρ : List Sl) (μ : List O) : evC Φ none ρ μ = .ok true μ := by rw [eC_none]
theorem w_c1 (Φ : Fns) (ρ : List Sl) (μ : List O) (e : E) : evC Φ (some e) ρ μ = ((evE Φ e ρ μ).calm).bind kC := by rw [eC_some]; rfl
theorem w_lcG (Φ : Fns) (ρ : List Sl) (μ : List O) (elt : E) (tg : T) (cd : Option E) (d : D) : lcG Φ ρ elt tg cd d μ = kLc Φ elt cd μ (setT tg d (drops ρ (tgN tg))) := by unfold lcG; cases setT tg d (drops ρ (tgN tg)) <;> rfl
theorem w_asg (Φ : Fns) (ρ : List Sl) (μ : List O) (tg : T) (e : E) : evS Φ (.asg tg e) ρ μ = (evE Φ e ρ μ).go ρ (kAsg tg ρ) := by
  rw [eS_asg]
  first
    | rfl
    | (congr 1; done)
    | (congr 1; funext x μ1; unfold kAsg; cases setT tg (fz x) ρ <;> rfl)
theorem w_own (Φ : Fns) (ρ : List Sl) (μ : List O) (i : Nat) (e : E) : evS Φ (.own i e) ρ μ = (evE Φ e ρ μ).go ρ (kOwn i ρ) := by first | (simp only [evS]; done) | (simp only [evS]; rfl) | rfl
theorem w_aug (Φ : Fns) (ρ : List Sl) (μ : List O) (i : Nat) (op : BO) (e : E) : evS Φ (.aug i op e) ρ μ = kAug0 Φ i op e ρ μ (getS ρ[i]?) := by
  rw [eS_aug, getV_eq]
  cases getS ρ[i]? with
  | none => rfl
  | some d =>
    simp only [kAug0]
    first
      | rfl
      | (congr 1; done)
      | (congr 1; funext x μ1; unfold kAug; cases augD op d (fz x) <;> rfl)
theorem w_ex (Φ : Fns) (ρ : List Sl) (μ : List O) (e : E) : evS Φ (.ex e) ρ μ = (evE Φ e ρ μ).go ρ (kEx ρ) := by first | (simp only [evS]; done) | (simp only [evS]; rfl) | rfl
theorem w_app (Φ : Fns) (ρ : List Sl) (μ : List O) (i : Nat) (e : E) : evS Φ (.app i e) ρ μ = kApp0 Φ i e ρ μ (ownS ρ[i]?) := by
  rw [eS_app, ownL_eq]
  cases ownS ρ[i]? <;> rfl
theorem w_ins (Φ : Fns) (ρ : List Sl) (μ : List O) (i : Nat) (k e : E) : evS Φ (.ins i k e) ρ μ = kIns0 Φ i k e ρ μ (ownS ρ[i]?) := by
  simp only [evS, ownL_eq]
  cases ownS ρ[i]? <;> rfl
theorem w_setx (Φ : Fns) (ρ : List Sl) (μ : List O) (i : Nat) (k e : E) : evS Φ (.setx i k e) ρ μ = (evE Φ e ρ μ).go ρ (kSetx Φ i k ρ) := by
  rw [eS_setx]
  refine congrArg _ (funext fun x => funext fun μ1 => ?_)
  unfold kSetx
  cases owS ρ[i]? with
  | none => rfl
  | some o =>
    simp only [kSetx1]
    refine congrArg _ (funext fun y => funext fun μ2 => ?_)
    unfold kSetx2
    cases setO o (fz y) (.sh (fz x)) <;> rfl
theorem w_fset (Φ : Fns) (ρ : List Sl) (μ : List O) (c f : Str) (i : Nat) (e : E) : evS Φ (.fset c i f e) ρ μ = (evE Φ e ρ μ).go ρ (kFset c i f ρ) := by
  rw [eS_fset]
  refine congrArg _ (funext fun x => funext fun μ1 => ?_)
  unfold kFset owS
  cases ρ[i]? with
  | none => rfl
  | some s =>
    cases s with
    | ow o =>
      simp only [kFset1]
      cases fputO c o f (.sh (fz x)) <;> rfl
    | _ => rfl
theorem w_ifs (Φ : Fns) (ρ : List Sl) (μ : List O) (e : E) (a b : List S) : evS Φ (.ifs e a b) ρ μ = (evE Φ e ρ μ).go ρ (kIfs Φ a b ρ) := by rw [eS_ifs]; rfl
theorem w_whl (Φ : Fns) (ρ : List Sl) (μ : List O) (n : Nat) (e : E) (b : List S) : evS Φ (.whl n e b) ρ μ = whlRun (evE Φ e) (evSs Φ b) n ρ μ := by first | (simp only [evS]; done) | (simp only [evS]; rfl) | rfl
theorem w_for (Φ : Fns) (ρ : List Sl) (μ : List O) (tg : T) (it : E) (b : List S) : evS Φ (.for tg it b) ρ μ = (evE Φ it ρ μ).go ρ (kFor Φ tg b ρ) := by
  rw [eS_for]
  first
    | rfl
    | (congr 1; done)
    | (congr 1; funext x μ1; unfold kFor; cases itD (fz x) <;> rfl)
theorem w_ret (Φ : Fns) (ρ : List Sl) (μ : List O) (e : E) : evS Φ (.ret e) ρ μ = (evE Φ e ρ μ).go ρ kRet := by first | (simp only [evS]; done) | (simp only [evS]; rfl) | rfl
theorem w_retN (Φ : Fns) (ρ : List Sl) (μ : List O) : evS Φ .retN ρ μ = .rt (.sh .non) μ := by first | (simp only [evS]; done) | (simp only [evS]; rfl) | rfl
theorem w_retO (Φ : Fns) (ρ : List Sl) (μ : List O) (i : Nat) : evS Φ (.retO i) ρ μ = rtO μ (owS ρ[i]?) := by rw [eS_retO2]
theorem w_rais (Φ : Fns) (ρ : List Sl) (μ : List O) (c : Str) (es : List E) : evS Φ (.rais c es) ρ μ = (evEs Φ es ρ μ).go ρ (kRais c ρ) := by first | (simp only [evS]; done) | (simp only [evS]; rfl) | rfl
theorem w_brk (Φ : Fns) (ρ : List Sl) (μ : List O) : evS Φ .brk ρ μ = .bk ρ μ := by first | (simp only [evS]; done) | (simp only [evS]; rfl) | rfl
theorem w_cnt (Φ : Fns) (ρ : List Sl) (μ : List O) : evS Φ .cnt ρ μ = .ct ρ μ := by first | (simp only [evS]; done) | (simp only [evS]; rfl) | rfl
theorem w_pass (Φ : Fns) (ρ : List Sl) (μ : List O) : evS Φ .pass ρ μ = .nx ρ μ := by first | (simp only [evS]; done) | (simp only [evS]; rfl) | rfl
theorem w_frz (Φ : Fns) (ρ : List Sl) (μ : List O) (i : Nat) (dr : List Nat) : evS Φ (.frz i dr) ρ μ = .nx (drops (lend ρ [i]) dr) μ := by first | (simp only [evS]; done) | (simp only [evS]; rfl) | rfl
theorem w_tryM (Φ : Fns) (ρ : List Sl) (μ : List O) (b : List S) (all : List Str) (hs : List HC) : evS Φ (.tryM b all hs) ρ μ = tryM all hs (evSs Φ b ρ μ) := by first | (simp only [evS]; done) | (simp only [evS]; rfl) | rfl
theorem w_try (Φ : Fns) (ρ : List Sl) (μ : List O) (b : List S) (y : Str) (all cs : List Str) (ie j : Nat) (l : List HF) : evS Φ (.try b y all cs ie j l) ρ μ = tryF all cs ie j l (evSs Φ b ρ μ) := by first | (simp only [evS]; done) | (simp only [evS]; rfl) | rfl
theorem w_ss0 (Φ : Fns) (ρ : List Sl) (μ : List O) : evSs Φ [] ρ μ = .nx ρ μ := by rw [eSs_nil]
theorem w_ss1 (Φ : Fns) (ρ : List Sl) (μ : List O) (s : S) (r : List S) : evSs Φ (s :: r) ρ μ = (evS Φ s ρ μ).then (evSs Φ r) := by rw [eSs_cons]
theorem w_turn (tg : T) (f : List Sl → List O → Fl) (d : D) (ρ : List Sl) : turn tg f d ρ = kTurn f (setT tg d ρ) := by unfold turn; cases setT tg d ρ <;> rfl
theorem k_B (μ : List O) (b : Bool) : kB μ b = .ok (.sh (.bl b)) μ := rfl
theorem k_Bin (Φ : Fns) (op : BO) (b : E) (ρ : List Sl) (x : O) (μ : List O) : kBin Φ op b ρ x μ = (evE Φ b ρ μ).bind (kBin2 op x) := rfl
theorem k_Bin2 (op : BO) (x y : O) (μ : List O) : kBin2 op x y μ = lift (binD op (fz x) (fz y)) μ := rfl
theorem k_Neg (i : Int) (μ : List O) : kNeg (.sh (.int i)) μ = .ok (.sh (.int (-i))) μ := rfl
theorem k_Nt (b : Bool) (μ : List O) : kNt (.sh (.bl b)) μ = .ok (.sh (.bl (!b))) μ := rfl
theorem k_Bl (b : Bool) (μ : List O) : kBl (.sh (.bl b)) μ = .ok (.sh (.bl b)) μ := rfl
theorem k_And (Φ : Fns) (b : E) (ρ : List Sl) (c : Bool) (μ : List O) : kAnd Φ b ρ (.sh (.bl c)) μ = if c = true then (evE Φ b ρ μ).bind kBl else .ok (.sh (.bl false)) μ := rfl
theorem k_Or (Φ : Fns) (b : E) (ρ : List Sl) (c : Bool) (μ : List O) : kOr Φ b ρ (.sh (.bl c)) μ = if c = true then .ok (.sh (.bl true)) μ else (evE Φ b ρ μ).bind kBl := rfl
theorem k_Cmp (Φ : Fns) (c : CO) (b : E) (ρ : List Sl) (x : O) (μ : List O) : kCmp Φ c b ρ x μ = (evE Φ b ρ μ).bind (kCmp2 c x) := rfl
theorem k_Cmp2 (c : CO) (x y : O) (μ : List O) : kCmp2 c x y μ = oB (cmpD c (fz x) (fz y)) (kB μ) := rfl
theorem k_Chn (Φ : Fns) (c c' : CO) (b e : E) (ρ : List Sl) (x : O) (μ : List O) : kChn Φ c c' b e ρ x μ = (evE Φ b ρ μ).bind (kChn2 Φ c c' e ρ x) := rfl
theorem k_Chn2 (Φ : Fns) (c c' : CO) (e : E) (ρ : List Sl) (x y : O) (μ : List O) : kChn2 Φ c c' e ρ x y μ = oB (cmpD c (fz x) (fz y)) (kChn3 Φ c' e ρ y μ) := rfl
theorem k_Chn3 (Φ : Fns) (c : CO) (e : E) (ρ : List Sl) (y : O) (μ : List O) (t : Bool) : kChn3 Φ c e ρ y μ t = if t = true then (evE Φ e ρ μ).bind (kCmp2 c y) else .ok (.sh (.bl false)) μ := rfl
theorem k_Ch (Φ : Fns) (c c' c'' : CO) (b e f : E) (ρ : List Sl) (x : O) (μ : List O) : kCh Φ c c' c'' b e f ρ x μ = (evE Φ b ρ μ).bind (kCh2 Φ c c' c'' e f ρ x) := rfl
theorem k_Ch2 (Φ : Fns) (c c' c'' : CO) (e f : E) (ρ : List Sl) (x y : O) (μ : List O) : kCh2 Φ c c' c'' e f ρ x y μ = oB (cmpD c (fz x) (fz y)) (kCh3 Φ c' c'' e f ρ y μ) := rfl
theorem k_Ch3 (Φ : Fns) (c' c'' : CO) (e f : E) (ρ : List Sl) (y : O) (μ : List O) (t : Bool) : kCh3 Φ c' c'' e f ρ y μ t = if t = true then (evE Φ e ρ μ).bind (kChn2 Φ c' c'' f ρ y) else .ok (.sh (.bl false)) μ := rfl
theorem k_Ife (Φ : Fns) (a b : E) (ρ : List Sl) (c : Bool) (μ : List O) : kIfe Φ a b ρ (.sh (.bl c)) μ = if c = true then evE Φ a ρ μ else evE Φ b ρ μ := rfl
theorem k_liS (d : D) (μ : List O) : liS (some d) μ = .ok (.sh d) μ := rfl
theorem k_Ix (Φ : Fns) (i : E) (ρ : List Sl) (x : O) (μ : List O) : kIx Φ i ρ x μ = (evE Φ i ρ μ).bind (kIx2 x) := rfl
theorem k_Ix2 (x y : O) (μ : List O) : kIx2 x y μ = liS (ixD (fz x) (fz y)) μ := rfl
theorem k_Sl (Φ : Fns) (lo hi : Option E) (ρ : List Sl) (x : O) (μ : List O) : kSl Φ lo hi ρ x μ = (evO Φ lo ρ μ).bind (kSl2 Φ hi ρ x) := rfl
theorem k_Sl2 (Φ : Fns) (hi : Option E) (ρ : List Sl) (x : O) (l : Option Int) (μ : List O) : kSl2 Φ hi ρ x l μ = (evO Φ hi ρ μ).bind (kSl3 x l) := rfl
theorem k_Sl3 (x : O) (l h : Option Int) (μ : List O) : kSl3 x l h μ = lift (cutD (fz x) l h) μ := rfl
theorem k_Fld (c f : Str) (x : O) (μ : List O) : kFld c f x μ = liS (fldD c (fz x) f) μ := rfl
theorem k_Lst (xs : List O) (μ : List O) : kLst xs μ = if xs.length ≤ LIM then .ok (.ol xs) μ else .bad := rfl
theorem k_Tup (xs : List O) (μ : List O) : kTup xs μ = if xs.length ≤ LIM then .ok (.sh (.tup (fzs xs))) μ else .bad := rfl
theorem k_Shl (l : List O) (μ : List O) : kShl (.ol l) μ = .ok (.ol ((l.map fz).map .sh)) μ := rfl
theorem k_Call (Φ : Fns) (f : Str) (xs : List O) (μ : List O) : kCall Φ f xs μ = Φ f (fzs xs) μ := rfl
theorem k_Meth (Φ : Fns) (c m : Str) (es : List E) (ρ : List Sl) (x : O) (μ : List O) : kMeth Φ c m es ρ x μ = if metO c m (fz x) = true then (evEs Φ es ρ μ).bind (kMeth2 Φ (c ++ "." ++ m) x) else .bad := rfl
theorem k_Meth2 (Φ : Fns) (f : Str) (x : O) (xs : List O) (μ : List O) : kMeth2 Φ f x xs μ = Φ f (fz x :: fzs xs) μ := rfl
theorem k_Bi (b : Bi) (xs : List O) (μ : List O) : kBi b xs μ = lift (biD b (fzs xs)) μ := rfl
theorem k_Bm (Φ : Fns) (b : Bi) (es : List E) (ρ : List Sl) (x : O) (μ : List O) : kBm Φ b es ρ x μ = if bmOk b (fz x) = true then (evEs Φ es ρ μ).bind (kBm2 b x) else .bad := rfl
theorem k_Bm2 (b : Bi) (x : O) (xs : List O) (μ : List O) : kBm2 b x xs μ = lift (biD b (fz x :: fzs xs)) μ := rfl
theorem m_ixL (l : List D) : bmOk .index (.lst l) = true := rfl
theorem m_ixLL (l : List (List Int)) : bmOk .index (LL l) = true := rfl
theorem m_ixI (l : List Int) : bmOk .index (iL l) = true := rfl
theorem m_get (ks vs : List D) : bmOk .get (.dct true ks vs) = true := rfl
theorem k_Bor (μ : List O) (o : O) : kBor μ (.ok o []) = if okB o = true then .ok o μ else .bad := by simp [kBor]
theorem w_borE0 (ρ : List Sl) (is : List Nat) : borE ρ is [] = lend ρ is := rfl
theorem w_borE1 (ρ : List Sl) (is : List Nat) (x : O) (l : List O) : borE ρ is (x :: l) = dropC (lend ρ is) := rfl
theorem k_BorE (μ : List O) (c : Str) (fs : List D) : kBor μ (.er c fs []) = if noLs fs = true then .er c fs μ else .bad := by simp [kBor]
theorem k_Oix (Φ : Fns) (e : E) (ρ : List Sl) (μ : List O) (l : List O) : kOix Φ e ρ μ (some l) = (evE Φ e ρ μ).bind (kOix2 l) := rfl
theorem k_Oix2 (l : List O) (x : O) (μ : List O) : kOix2 l x μ = lift (oixO l (fz x)) μ := rfl
theorem k_Es (Φ : Fns) (es : List E) (ρ : List Sl) (x : O) (μ : List O) : kEs Φ es ρ x μ = (evEs Φ es ρ μ).bind (kEs2 x) := rfl
theorem k_Es2 (x : O) (xs : List O) (μ : List O) : kEs2 x xs μ = .ok (x :: xs) μ := rfl
theorem k_O (i : Int) (μ : List O) : kO (.sh (.int i)) μ = .ok (some i) μ := rfl
theorem k_C (b : Bool) (μ : List O) : kC (.sh (.bl b)) μ = .ok b μ := rfl
theorem k_Lc3 (y : O) (μ : List O) : kLc3 y μ = .ok (some (fz y)) μ := rfl
theorem k_Lc2 (Φ : Fns) (elt : E) (ρ : List Sl) (c : Bool) (μ : List O) : kLc2 Φ elt ρ c μ = if c = true then ((evE Φ elt ρ μ).calm).bind kLc3 else .ok none μ := rfl
theorem k_Lc (Φ : Fns) (elt : E) (cd : Option E) (μ : List O) (ρ : List Sl) : kLc Φ elt cd μ (some ρ) = (evC Φ cd ρ μ).bind (kLc2 Φ elt ρ) := rfl
theorem k_Nx (μ : List O) (ρ : List Sl) : kNx μ (some ρ) = .nx ρ μ := rfl
theorem k_Asg (tg : T) (ρ : List Sl) (x : O) (μ : List O) : kAsg tg ρ x μ = kNx μ (setT tg (fz x) ρ) := rfl
theorem k_Own (i : Nat) (ρ : List Sl) (x : O) (μ : List O) : kOwn i ρ x μ = .nx (ρ.set i (.ow x)) μ := rfl
theorem k_Aug2 (i : Nat) (ρ : List Sl) (μ : List O) (z : Int) : kAug2 i ρ μ (some z) = .nx (ρ.set i (.va (.int z))) μ := rfl
theorem k_Aug (i : Nat) (op : BO) (ρ : List Sl) (d : D) (x : O) (μ : List O) : kAug i op ρ d x μ = kAug2 i ρ μ (augD op d (fz x)) := rfl
theorem k_Aug0 (Φ : Fns) (i : Nat) (op : BO) (e : E) (ρ : List Sl) (μ : List O) (d : D) : kAug0 Φ i op e ρ μ (some d) = (evE Φ e ρ μ).go ρ (kAug i op ρ d) := rfl
theorem k_Ex (ρ : List Sl) (x : O) (μ : List O) : kEx ρ x μ = .nx ρ μ := rfl
theorem k_App (i : Nat) (ρ : List Sl) (l : List O) (x : O) (μ : List O) : kApp i ρ l x μ = if l.length < LIM then .nx (ρ.set i (.ow (.ol (l ++ [.sh (fz x)])))) μ else .bad := rfl
theorem k_App0 (Φ : Fns) (i : Nat) (e : E) (ρ : List Sl) (μ : List O) (l : List O) : kApp0 Φ i e ρ μ (some l) = (evE Φ e ρ μ).go ρ (kApp i ρ l) := rfl
theorem k_Ins0 (Φ : Fns) (i : Nat) (k e : E) (ρ : List Sl) (μ : List O) (l : List O) : kIns0 Φ i k e ρ μ (some l) = (evE Φ k ρ μ).go ρ (kIns Φ i e ρ l) := rfl
theorem k_Ins (Φ : Fns) (i : Nat) (e : E) (ρ : List Sl) (l : List O) (y : O) (μ : List O) : kIns Φ i e ρ l y μ = (evE Φ e ρ μ).go ρ (kIns2 i ρ l y) := rfl
theorem k_Ins2 (i : Nat) (ρ : List Sl) (l : List D) (j : Int) (x : O) (μ : List O) : kIns2 i ρ (l.map .sh) (.sh (.int j)) x μ = if (0 ≤ j ∧ j < 9223372036854775808) ∧ l.length < LIM then .nx (ρ.set i (OwL (l.take j.toNat ++ [fz x] ++ l.drop j.toNat))) μ else .bad := by
  unfold kIns2 OwL
  simp [List.map_take, List.map_drop]
theorem k_Setx3 (i : Nat) (ρ : List Sl) (μ : List O) (o : O) : kSetx3 i ρ μ (some o) = .nx (ρ.set i (.ow o)) μ := rfl
theorem k_Setx2 (i : Nat) (ρ : List Sl) (o x y : O) (μ : List O) : kSetx2 i ρ o x y μ = kSetx3 i ρ μ (setO o (fz y) (.sh (fz x))) := rfl
theorem k_Setx1 (Φ : Fns) (i : Nat) (k : E) (ρ : List Sl) (x : O) (μ : List O) (o : O) : kSetx1 Φ i k ρ x μ (some o) = (evE Φ k ρ μ).go ρ (kSetx2 i ρ o x) := rfl
theorem k_Setx (Φ : Fns) (i : Nat) (k : E) (ρ : List Sl) (x : O) (μ : List O) : kSetx Φ i k ρ x μ = kSetx1 Φ i k ρ x μ (owS ρ[i]?) := rfl
theorem k_Fset1 (c f : Str) (i : Nat) (ρ : List Sl) (x : O) (μ : List O) (o : O) : kFset1 c i f ρ x μ (some o) = kSetx3 i ρ μ (fputO c o f (.sh (fz x))) := rfl
theorem k_Fset (c f : Str) (i : Nat) (ρ : List Sl) (x : O) (μ : List O) : kFset c i f ρ x μ = kFset1 c i f ρ x μ (owS ρ[i]?) := rfl
theorem k_Ifs (Φ : Fns) (a b : List S) (ρ : List Sl) (c : Bool) (μ : List O) : kIfs Φ a b ρ (.sh (.bl c)) μ = if c = true then evSs Φ a ρ μ else evSs Φ b ρ μ := rfl
theorem k_For2 (Φ : Fns) (tg : T) (b : List S) (ρ : List Sl) (μ : List O) (ds : List D) : kFor2 Φ tg b ρ μ (some ds) = forRun tg (evSs Φ b) ds ρ μ := rfl
theorem k_For (Φ : Fns) (tg : T) (b : List S) (ρ : List Sl) (x : O) (μ : List O) : kFor Φ tg b ρ x μ = kFor2 Φ tg b ρ μ (itD (fz x)) := rfl
theorem k_Ret (x : O) (μ : List O) : kRet x μ = .rt x μ := rfl
theorem k_Rais (c : Str) (ρ : List Sl) (xs : List O) (μ : List O) : kRais c ρ xs μ = .er c (fzs xs) ρ μ := rfl
theorem k_Turn (f : List Sl → List O → Fl) (ρ : List Sl) : kTurn f (some ρ) = f ρ [] := rfl
theorem r_okOO (a : O) (μ : List O) (f : O → List O → Rs (O)) : (Rs.ok a μ).bind f = f a μ := rfl
theorem r_erOO (c : Str) (fs : List D) (μ : List O) (f : O → List O → Rs (O)) : (Rs.er c fs μ : Rs (O)).bind f = .er c fs μ := rfl
theorem r_itOO (p : Prop) [Decidable p] (a b : Rs (O)) (f : O → List O → Rs (O)) : (if p then a else b).bind f = if p then a.bind f else b.bind f := by split <;> rfl
theorem r_okOL (a : O) (μ : List O) (f : O → List O → Rs (List O)) : (Rs.ok a μ).bind f = f a μ := rfl
theorem r_erOL (c : Str) (fs : List D) (μ : List O) (f : O → List O → Rs (List O)) : (Rs.er c fs μ : Rs (O)).bind f = .er c fs μ := rfl
theorem r_itOL (p : Prop) [Decidable p] (a b : Rs (O)) (f : O → List O → Rs (List O)) : (if p then a else b).bind f = if p then a.bind f else b.bind f := by split <;> rfl
theorem r_okOD (a : O) (μ : List O) (f : O → List O → Rs (Option D)) : (Rs.ok a μ).bind f = f a μ := rfl
theorem r_erOD (c : Str) (fs : List D) (μ : List O) (f : O → List O → Rs (Option D)) : (Rs.er c fs μ : Rs (O)).bind f = .er c fs μ := rfl
theorem r_itOD (p : Prop) [Decidable p] (a b : Rs (O)) (f : O → List O → Rs (Option D)) : (if p then a else b).bind f = if p then a.bind f else b.bind f := by split <;> rfl
theorem r_okLO (a : List O) (μ : List O) (f : List O → List O → Rs (O)) : (Rs.ok a μ).bind f = f a μ := rfl
theorem r_erLO (c : Str) (fs : List D) (μ : List O) (f : List O → List O → Rs (O)) : (Rs.er c fs μ : Rs (List O)).bind f = .er c fs μ := rfl
theorem r_itLO (p : Prop) [Decidable p] (a b : Rs (List O)) (f : List O → List O → Rs (O)) : (if p then a else b).bind f = if p then a.bind f else b.bind f := by split <;> rfl
theorem r_okLL (a : List O) (μ : List O) (f : List O → List O → Rs (List O)) : (Rs.ok a μ).bind f = f a μ := rfl
theorem r_erLL (c : Str) (fs : List D) (μ : List O) (f : List O → List O → Rs (List O)) : (Rs.er c fs μ : Rs (List O)).bind f = .er c fs μ := rfl
theorem r_itLL (p : Prop) [Decidable p] (a b : Rs (List O)) (f : List O → List O → Rs (List O)) : (if p then a else b).bind f = if p then a.bind f else b.bind f := by split <;> rfl
theorem r_okLD (a : List O) (μ : List O) (f : List O → List O → Rs (Option D)) : (Rs.ok a μ).bind f = f a μ := rfl
theorem r_erLD (c : Str) (fs : List D) (μ : List O) (f : List O → List O → Rs (Option D)) : (Rs.er c fs μ : Rs (List O)).bind f = .er c fs μ := rfl
theorem r_itLD (p : Prop) [Decidable p] (a b : Rs (List O)) (f : List O → List O → Rs (Option D)) : (if p then a else b).bind f = if p then a.bind f else b.bind f := by split <;> rfl
theorem r_okIO (a : Option Int) (μ : List O) (f : Option Int → List O → Rs (O)) : (Rs.ok a μ).bind f = f a μ := rfl
theorem r_erIO (c : Str) (fs : List D) (μ : List O) (f : Option Int → List O → Rs (O)) : (Rs.er c fs μ : Rs (Option Int)).bind f = .er c fs μ := rfl
theorem r_itIO (p : Prop) [Decidable p] (a b : Rs (Option Int)) (f : Option Int → List O → Rs (O)) : (if p then a else b).bind f = if p then a.bind f else b.bind f := by split <;> rfl
theorem r_okIL (a : Option Int) (μ : List O) (f : Option Int → List O → Rs (List O)) : (Rs.ok a μ).bind f = f a μ := rfl
theorem r_erIL (c : Str) (fs : List D) (μ : List O) (f : Option Int → List O → Rs (List O)) : (Rs.er c fs μ : Rs (Option Int)).bind f = .er c fs μ := rfl
theorem r_itIL (p : Prop) [Decidable p] (a b : Rs (Option Int)) (f : Option Int → List O → Rs (List O)) : (if p then a else b).bind f = if p then a.bind f else b.bind f := by split <;> rfl
theorem r_okID (a : Option Int) (μ : List O) (f : Option Int → List O → Rs (Option D)) : (Rs.ok a μ).bind f = f a μ := rfl
theorem r_erID (c : Str) (fs : List D) (μ : List O) (f : Option Int → List O → Rs (Option D)) : (Rs.er c fs μ : Rs (Option Int)).bind f = .er c fs μ := rfl
theorem r_itID (p : Prop) [Decidable p] (a b : Rs (Option Int)) (f : Option Int → List O → Rs (Option D)) : (if p then a else b).bind f = if p then a.bind f else b.bind f := by split <;> rfl
theorem r_okBO (a : Bool) (μ : List O) (f : Bool → List O → Rs (O)) : (Rs.ok a μ).bind f = f a μ := rfl
theorem r_erBO (c : Str) (fs : List D) (μ : List O) (f : Bool → List O → Rs (O)) : (Rs.er c fs μ : Rs (Bool)).bind f = .er c fs μ := rfl
theorem r_itBO (p : Prop) [Decidable p] (a b : Rs (Bool)) (f : Bool → List O → Rs (O)) : (if p then a else b).bind f = if p then a.bind f else b.bind f := by split <;> rfl
theorem r_okBL (a : Bool) (μ : List O) (f : Bool → List O → Rs (List O)) : (Rs.ok a μ).bind f = f a μ := rfl
theorem r_erBL (c : Str) (fs : List D) (μ : List O) (f : Bool → List O → Rs (List O)) : (Rs.er c fs μ : Rs (Bool)).bind f = .er c fs μ := rfl
theorem r_itBL (p : Prop) [Decidable p] (a b : Rs (Bool)) (f : Bool → List O → Rs (List O)) : (if p then a else b).bind f = if p then a.bind f else b.bind f := by split <;> rfl
theorem r_okBD (a : Bool) (μ : List O) (f : Bool → List O → Rs (Option D)) : (Rs.ok a μ).bind f = f a μ := rfl
theorem r_erBD (c : Str) (fs : List D) (μ : List O) (f : Bool → List O → Rs (Option D)) : (Rs.er c fs μ : Rs (Bool)).bind f = .er c fs μ := rfl
theorem r_itBD (p : Prop) [Decidable p] (a b : Rs (Bool)) (f : Bool → List O → Rs (Option D)) : (if p then a else b).bind f = if p then a.bind f else b.bind f := by split <;> rfl
theorem r_okOB (a : O) (μ : List O) (f : O → List O → Rs Bool) : (Rs.ok a μ).bind f = f a μ := rfl
theorem r_okOI (a : O) (μ : List O) (f : O → List O → Rs (Option Int)) : (Rs.ok a μ).bind f = f a μ := rfl
theorem g_okO (a : O) (μ : List O) (ρ : List Sl) (f : O → List O → Fl) : (Rs.ok a μ).go ρ f = f a μ := rfl
theorem g_erO (c : Str) (fs : List D) (μ : List O) (ρ : List Sl) (f : O → List O → Fl) : (Rs.er c fs μ : Rs (O)).go ρ f = .er c fs ρ μ := rfl
theorem g_itO (p : Prop) [Decidable p] (a b : Rs (O)) (ρ : List Sl) (f : O → List O → Fl) : (if p then a else b).go ρ f = if p then a.go ρ f else b.go ρ f := by split <;> rfl
theorem g_okL (a : List O) (μ : List O) (ρ : List Sl) (f : List O → List O → Fl) : (Rs.ok a μ).go ρ f = f a μ := rfl
theorem g_erL (c : Str) (fs : List D) (μ : List O) (ρ : List Sl) (f : List O → List O → Fl) : (Rs.er c fs μ : Rs (List O)).go ρ f = .er c fs ρ μ := rfl
theorem g_itL (p : Prop) [Decidable p] (a b : Rs (List O)) (ρ : List Sl) (f : List O → List O → Fl) : (if p then a else b).go ρ f = if p then a.go ρ f else b.go ρ f := by split <;> rfl
theorem t_nx (ρ : List Sl) (μ : List O) (f : List Sl → List O → Fl) : (Fl.nx ρ μ).then f = f ρ μ := rfl
theorem t_rt (o : O) (μ : List O) (f : List Sl → List O → Fl) : (Fl.rt o μ).then f = .rt o μ := rfl
theorem t_bk (ρ : List Sl) (μ : List O) (f : List Sl → List O → Fl) : (Fl.bk ρ μ).then f = .bk ρ μ := rfl
theorem t_ct (ρ : List Sl) (μ : List O) (f : List Sl → List O → Fl) : (Fl.ct ρ μ).then f = .ct ρ μ := rfl
theorem t_er (c : Str) (fs : List D) (ρ : List Sl) (μ : List O) (f : List Sl → List O → Fl) : (Fl.er c fs ρ μ).then f = .er c fs ρ μ := rfl
theorem t_it (p : Prop) [Decidable p] (a b : Fl) (f : List Sl → List O → Fl) : (if p then a else b).then f = if p then a.then f else b.then f := by split <;> rfl
theorem f_nx (ρ : List Sl) (μ : List O) : (Fl.nx ρ μ).fin = .ok (.sh .non) μ := rfl
theorem f_rt (o : O) (μ : List O) : (Fl.rt o μ).fin = .ok o μ := rfl
theorem f_er (c : Str) (fs : List D) (ρ : List Sl) (μ : List O) : (Fl.er c fs ρ μ).fin = .er c fs μ := rfl
theorem f_it (p : Prop) [Decidable p] (a b : Fl) : (if p then a else b).fin = if p then a.fin else b.fin := by split <;> rfl
theorem y_Mnx (all : List Str) (hs : List HC) (ρ : List Sl) (μ : List O) : tryM all hs (.nx ρ μ) = .nx ρ μ := rfl
theorem y_Mrt (all : List Str) (hs : List HC) (o : O) (μ : List O) : tryM all hs (.rt o μ) = .rt o μ := rfl
theorem y_nx (all cs : List Str) (ie j : Nat) (l : List HF) (ρ : List Sl) (μ : List O) : tryF all cs ie j l (.nx ρ μ) = .nx ρ μ := rfl
theorem y_rt (all cs : List Str) (ie j : Nat) (l : List HF) (o : O) (μ : List O) : tryF all cs ie j l (.rt o μ) = .rt o μ := rfl
theorem o_lift (a : O) (μ : List O) : lift (some a) μ = .ok a μ := rfl
theorem o_B (b : Bool) (f : Bool → Rs O) : oB (some b) f = f b := rfl
theorem o_calm (a : O) (μ : List O) : (Rs.ok a μ).calm = .ok a μ := rfl
theorem d_sh (d : D) : fz (.sh d) = d := rfl
theorem d_ol (l : List O) : fz (.ol l) = .lst (fzs l) := by simp only [fz]
theorem d_od : fz (.od true [] []) = .dct true [] [] := rfl
theorem d_s0 : fzs [] = [] := rfl
theorem d_s1 (o : O) (r : List O) : fzs (o :: r) = fz o :: fzs r := rfl
theorem d_sh2 (l : List D) : fzs (l.map O.sh) = l := by simp
theorem d_get0 (a : Sl) (l : List Sl) : (a :: l)[0]? = some a := rfl
theorem d_getS (a : Sl) (l : List Sl) (n : Nat) : (a :: l)[n + 1]? = l[n]? := rfl
theorem d_getN (n : Nat) : ([] : List Sl)[n]? = none := rfl
theorem d_set0 (a b : Sl) (l : List Sl) : (a :: l).set 0 b = b :: l := rfl
theorem d_setS (a b : Sl) (l : List Sl) (n : Nat) : (a :: l).set (n + 1) b = a :: l.set n b := rfl
theorem d_nm (i : Nat) (d : D) (ρ : List Sl) : setT (.nm i) d ρ = some (ρ.set i (.va d)) := by simp only [setT]
theorem d_tp (ts : List T) (ds : List D) (ρ : List Sl) : setT (.tp ts) (.tup ds) ρ = setTs ts ds ρ := by simp only [setT]
theorem d_ts0 (ρ : List Sl) : setTs [] [] ρ = some ρ := by simp only [setTs]
theorem d_ts1 (t : T) (ts : List T) (d : D) (ds : List D) (ρ : List Sl) : setTs (t :: ts) (d :: ds) ρ = (setT t d ρ).bind (setTs ts ds) := by simp only [setTs]
theorem d_ob (a : List Sl) (f : List Sl → Option (List Sl)) : (some a).bind f = f a := rfl
theorem d_tgn (i : Nat) : tgN (.nm i) = [i] := by simp only [tgN]
theorem d_tgt (l : List T) : tgN (.tp l) = tgNs l := by simp only [tgN]
theorem d_tg0 : tgNs [] = [] := by simp only [tgNs]
theorem d_tg1 (a : T) (l : List T) : tgNs (a :: l) = tgN a ++ tgNs l := by simp only [tgNs]
theorem d_ap0n (l : List Nat) : [] ++ l = l := rfl
theorem d_ap1n (a : Nat) (r l : List Nat) : (a :: r) ++ l = a :: (r ++ l) := rfl
theorem d_ap0s (l : List Sl) : [] ++ l = l := rfl
theorem d_ap1s (a : Sl) (r l : List Sl) : (a :: r) ++ l = a :: (r ++ l) := rfl
theorem d_ap0o (l : List O) : [] ++ l = l := rfl
theorem d_ap1o (a : O) (r l : List O) : (a :: r) ++ l = a :: (r ++ l) := rfl
theorem d_ap0d (l : List D) : [] ++ l = l := rfl
theorem d_ap1d (a : D) (r l : List D) : (a :: r) ++ l = a :: (r ++ l) := rfl
theorem d_mv0 : List.map Sl.va [] = [] := rfl
theorem d_mv1 (d : D) (l : List D) : List.map Sl.va (d :: l) = .va d :: List.map Sl.va l := rfl
theorem d_rp0 (s : Sl) : List.replicate 0 s = [] := rfl
theorem d_rp1 (n : Nat) (s : Sl) : List.replicate (n + 1) s = s :: List.replicate n s := rfl
theorem d_ln0 : ([] : List O).length = 0 := rfl
theorem d_ln1 (a : O) (l : List O) : (a :: l).length = l.length + 1 := rfl
theorem d_lnm (f : D → O) (l : List D) : (l.map f).length = l.length := by simp
theorem d_lnm2 (f : Int → D) (l : List Int) : (l.map f).length = l.length := by simp
theorem d_ll0 : List.length ([] : List D) = 0 := rfl
theorem d_ll1 (a : D) (l : List D) : (a :: l).length = l.length + 1 := rfl
theorem d_ow (l : List D) : Sl.ow (.ol (l.map .sh)) = OwL l := rfl
theorem d_ow0 : Sl.ow (.ol []) = OwL [] := rfl
theorem d_ow1 (l : List D) (d : D) : Sl.ow (.ol (l.map .sh ++ [.sh d])) = OwL (l ++ [d]) := by unfold OwL; simp
theorem d_owS (l : List D) : ownS (some (OwL l)) = some (l.map .sh) := rfl
theorem d_gS (d : D) : getS (some (.va d)) = some d := rfl
theorem d_oS (l : List D) : owS (some (OwL l)) = some (.ol (l.map .sh)) := rfl
theorem d_oS2 (o : O) : owS (some (.ow o)) = some o := rfl
theorem d_rtO (μ : List O) (o : O) : rtO μ (some o) = .rt o μ := rfl
theorem d_ld0 (ρ : List Sl) : lend ρ [] = ρ := rfl
theorem d_ld1 (ρ : List Sl) (i : Nat) (r : List Nat) : lend ρ (i :: r) = lendS (lend ρ r) i (lend ρ r)[i]? := lend_one ρ i r
theorem d_lw (ρ : List Sl) (i : Nat) (l : List D) : lendS ρ i (some (OwL l)) = ρ.set i (.va (.lst l)) := lendS_Ow ρ i l
theorem d_lo (ρ : List Sl) (i : Nat) (o : O) : lendS ρ i (some (.ow o)) = ρ.set i (.va (fz o)) := rfl
theorem d_lv (ρ : List Sl) (i : Nat) (d : D) : lendS ρ i (some (.va d)) = ρ := rfl
theorem d_lno (ρ : List Sl) (i : Nat) : lendS ρ i (some .no) = ρ := rfl
theorem d_lnn (ρ : List Sl) (i : Nat) : lendS ρ i none = ρ := rfl
theorem d_dr0 (ρ : List Sl) : drops ρ [] = ρ := rfl
theorem d_dr1 (ρ : List Sl) (i : Nat) (r : List Nat) : drops ρ (i :: r) = (drops ρ r).set i .no := drops_cons ρ i r
theorem d_lim0 : (0 ≤ LIM) = True := by simp [LIM]
theorem d_lim1 : (1 ≤ LIM) = True := by simp [LIM]
theorem d_lim2 : (2 ≤ LIM) = True := by simp [LIM]
theorem d_lim3 : (3 ≤ LIM) = True := by simp [LIM]
theorem d_lim4 : (4 ≤ LIM) = True := by simp [LIM]
theorem d_lim5 : (5 ≤ LIM) = True := by simp [LIM]
theorem d_lim6 : (6 ≤ LIM) = True := by simp [LIM]
theorem d_lim7 : (7 ≤ LIM) = True := by simp [LIM]
theorem d_lim8 : (8 ≤ LIM) = True := by simp [LIM]
theorem d_lim9 : (9 ≤ LIM) = True := by simp [LIM]
theorem d_lim10 : (10 ≤ LIM) = True := by simp [LIM]
theorem d_lim11 : (11 ≤ LIM) = True := by simp [LIM]
theorem d_lim12 : (12 ≤ LIM) = True := by simp [LIM]
theorem d_lim13 : (13 ≤ LIM) = True := by simp [LIM]
theorem d_lim14 : (14 ≤ LIM) = True := by simp [LIM]
theorem d_lim15 : (15 ≤ LIM) = True := by simp [LIM]
theorem d_lim36 : (36 ≤ LIM) = True := by simp [LIM]
theorem b_len (l : List D) : biD .len [.lst l] = some (.sh (.int l.length)) := rfl
theorem b_lent (l : List D) : biD .len [.tup l] = some (.sh (.int l.length)) := rfl
theorem b_tl (l : List D) : biD .tuple [.lst l] = some (.sh (.tup l)) := rfl
theorem b_tt (l : List D) : biD .tuple [.tup l] = some (.sh (.tup l)) := rfl
theorem b_ll (l : List D) : biD .list [.lst l] = some (.ol (l.map .sh)) := rfl
theorem b_lt (l : List D) : biD .list [.tup l] = some (.ol (l.map .sh)) := rfl
theorem b_li (l : List Int) : biD .list [iL l] = some (.ol ((l.map D.int).map .sh)) := rfl
theorem b_l3 (l : List T3) : biD .len [L3 l] = some (.sh (.int l.length)) := len_L3 l
theorem b_lni (l : List Int) : biD .len [iL l] = some (.sh (.int l.length)) := len_ints l
theorem b_max (i j : Int) : biD .max2 [.int i, .int j] = some (.sh (.int (max i j))) := max2_eq i j
theorem b_i1b (c : Bool) : biD .int1 [.bl c] = some (.sh (.int (b2i c))) := rfl
theorem b_add (i j : Int) : binD .add (.int i) (.int j) = some (.sh (.int (i + j))) := rfl
theorem b_sub (i j : Int) : binD .sub (.int i) (.int j) = some (.sh (.int (i - j))) := rfl
theorem b_aadd (i j : Int) : augD .add (.int i) (.int j) = some (i + j) := rfl
theorem b_asub (i j : Int) : augD .sub (.int i) (.int j) = some (i - j) := rfl
theorem c_eq (i j : Int) : cmpD .eq (.int i) (.int j) = some (decide (i = j)) := eq_int i j
theorem c_ne (i j : Int) : cmpD .ne (.int i) (.int j) = some (!decide (i = j)) := by rw [ne_int]; by_cases h : i = j <;> simp [h]
theorem c_lt (i j : Int) : cmpD .lt (.int i) (.int j) = some (decide (i < j)) := rfl
theorem c_le (i j : Int) : cmpD .le (.int i) (.int j) = some (decide (i ≤ j)) := rfl
theorem c_gt (i j : Int) : cmpD .gt (.int i) (.int j) = some (decide (j < i)) := rfl
theorem c_ge (i j : Int) : cmpD .ge (.int i) (.int j) = some (decide (j ≤ i)) := rfl
theorem c_isn : cmpD .is .non .non = some true := rfl
theorem c_iss (w : Str) : cmpD .is (.str w) .non = some false := rfl
theorem c_isi (w : Int) : cmpD .is (.int w) .non = some false := rfl
theorem c_ist (l : List D) : cmpD .is (.tup l) .non = some false := rfl
theorem c_isl (l : List D) : cmpD .is (.lst l) .non = some false := rfl
theorem c_isiL (l : List Int) : cmpD .is (iL l) .non = some false := rfl
theorem c_isd (s : Sd) : cmpD .is s.d .non = some false := rfl
theorem c_isnotn : cmpD .isnot .non .non = some false := rfl
theorem c_isnots (w : Str) : cmpD .isnot (.str w) .non = some true := rfl
theorem c_isnoti (w : Int) : cmpD .isnot (.int w) .non = some true := rfl
theorem c_isnott (l : List D) : cmpD .isnot (.tup l) .non = some true := rfl
theorem c_isnotl (l : List D) : cmpD .isnot (.lst l) .non = some true := rfl
theorem c_isnotiL (l : List Int) : cmpD .isnot (iL l) .non = some true := rfl
theorem c_isnotd (s : Sd) : cmpD .isnot s.d .non = some true := rfl
theorem c_isT (b : Bool) : cmpD .is (.bl b) (.bl true) = some b := by cases b <;> rfl
theorem c_isF (b : Bool) : cmpD .is (.bl b) (.bl false) = some (!b) := by cases b <;> rfl
theorem c_inT (b : Bool) : cmpD .isnot (.bl b) (.bl true) = some (!b) := by cases b <;> rfl
theorem c_inF (b : Bool) : cmpD .isnot (.bl b) (.bl false) = some b := by cases b <;> rfl
theorem c_e0 : cmpD .eq (.lst []) (.lst []) = some true := rfl
theorem c_n0 : cmpD .ne (.lst []) (.lst []) = some false := rfl
theorem l_e0 (l : List (List Int)) : cmpD .eq (LL l) (.lst []) = some l.isEmpty := eq_LL_nil l
theorem l_it (l : List (List Int)) : itD (LL l) = some (l.map iL) := rfl
theorem l_ln (l : List (List Int)) : biD .len [LL l] = some (.sh (.int l.length)) := len_LL l
theorem i_it (l : List D) : itD (.lst l) = some l := rfl
theorem i_tt (l : List D) : itD (.tup l) = some l := rfl
theorem i_iL (l : List Int) : itD (iL l) = some (l.map .int) := rfl
theorem i_L3 (l : List T3) : itD (L3 l) = some (l.map i3) := rfl
theorem x_fsize (b : Bk) : fldD "Rules" b.r "size" = some (.int b.size) := rfl
theorem x_b0 (b : Bk) : ixD b.d (.int 0) = some (.int b.size) := rfl
theorem x_fsorts (b : Bk) : fldD "Rules" b.r "sorts" = some (L3 b.kinds) := rfl
theorem x_b1 (b : Bk) : ixD b.d (.int 1) = some (L3 b.kinds) := rfl
theorem x_fapart (b : Bk) : fldD "Rules" b.r "apart" = some (L3 b.shuns) := rfl
theorem x_b2 (b : Bk) : ixD b.d (.int 2) = some (L3 b.shuns) := rfl
theorem x_fclosed (b : Bk) : fldD "Rules" b.r "closed" = some (L3 b.bars) := rfl
theorem x_b3 (b : Bk) : ixD b.d (.int 3) = some (L3 b.bars) := rfl
theorem x_fwanted (b : Bk) : fldD "Rules" b.r "wanted" = some (L3 b.dues) := rfl
theorem x_b4 (b : Bk) : ixD b.d (.int 4) = some (L3 b.dues) := rfl
theorem x_s0 (s : Sd) : ixD s.d (.int 0) = some (.int s.place) := rfl
theorem x_s1 (s : Sd) : ixD s.d (.int 1) = some (.int s.kind) := rfl
theorem x_s2 (s : Sd) : ixD s.d (.int 2) = some (.int s.length) := rfl
theorem x_s3 (s : Sd) : ixD s.d (.int 3) = some (.int s.before) := rfl
theorem x_s4 (s : Sd) : ixD s.d (.int 4) = some (.tup (s.waits.map .int)) := rfl
theorem x_s5 (s : Sd) : ixD s.d (.int 5) = some (.tup (s.met.map .bl)) := rfl
theorem x_t0 (t : T3) : ixD (i3 t) (.int 0) = some (.int t.1) := rfl
theorem x_t1 (t : T3) : ixD (i3 t) (.int 1) = some (.int t.2.1) := rfl
theorem x_t2 (t : T3) : ixD (i3 t) (.int 2) = some (.int t.2.2) := rfl
theorem x_tup0 (d : D) (l : List D) : ixD (.tup (d :: l)) (.int 0) = some d := by simp [ixD, atI, ixN]
theorem x_tup1 (d c : D) (l : List D) : ixD (.tup (d :: c :: l)) (.int 1) = some c := by simp [ixD, atI, ixN]; rw [if_pos (by omega)]; rfl
theorem x_rst (b : Bk) : fz b.o = b.r := Bk.fz_o b
theorem x_many : (("Rules" : Str) ++ ("." : Str) ++ ("many" : Str)) = "Rules.many" := rfl
theorem x_mm (b : Bk) : metO "Rules" "many" b.r = true := rfl
theorem x_od0 : optD none = .non := rfl
theorem x_od1 (s : Sd) : optD (some s) = s.d := rfl
theorem x_wd0 : wD none = .non := rfl
theorem x_wd1 (w : Str) : wD (some w) = .str w := rfl
theorem n_b (d : D) : okB (.sh d) = noL d := rfl
theorem n_ol (l : List Int) : okB (.ol ((l.map D.int).map .sh)) = true := by
  induction l with
  | nil => rfl
  | cons a l ih =>
    simp only [okB, List.map_cons, okBs, noL, Bool.true_and] at ih ⊢
    exact ih
theorem n_i (i : Int) : noL (.int i) = true := rfl
theorem n_bl (b : Bool) : noL (.bl b) = true := rfl
theorem n_s (s : Str) : noL (.str s) = true := rfl
theorem n_n : noL .non = true := rfl
theorem n_0 : noLs [] = true := rfl
theorem n_1 (d : D) (l : List D) : noLs (d :: l) = (noL d && noLs l) := rfl
theorem n_t (l : List D) : noL (.tup l) = noLs l := rfl
theorem z_nt : (!true) = false := rfl
theorem z_nf : (!false) = true := rfl
theorem z_at (b : Bool) : (true && b) = b := by cases b <;> rfl
theorem z_af (b : Bool) : (false && b) = false := rfl
theorem z_ot (b : Bool) : (true || b) = true := rfl
theorem z_of (b : Bool) : (false || b) = b := by cases b <;> rfl
theorem z_ft : (false = true) = False := by simp
theorem z_dt [h : Decidable True] : decide True = true := by simp
theorem z_df [h : Decidable False] : decide False = false := by simp
theorem z_de (p : Prop) [Decidable p] : (decide p = true) = p := by simp
theorem z_NT : (¬ True) = False := by simp
theorem z_NF : (¬ False) = True := by simp
theorem z_dn (p : Prop) [Decidable p] : ((!decide p) = true) = ¬ p := by simp
abbrev SevG0 : Prop := (∀ (Φ : Fns) (ρ : List Sl) (μ : List O), evE Φ .non ρ μ = .ok (.sh .non) μ) ∧ (∀ (Φ : Fns) (ρ : List Sl) (μ : List O) (b : Bool), evE Φ (.bl b) ρ μ = .ok (.sh (.bl b)) μ) ∧ (∀ (Φ : Fns) (ρ : List Sl) (μ : List O) (i : Int), evE Φ (.int i) ρ μ = .ok (.sh (.int i)) μ) ∧ (∀ (Φ : Fns) (ρ : List Sl) (μ : List O) (s : Str), evE Φ (.str s) ρ μ = .ok (.sh (.str s)) μ) ∧ (∀ (Φ : Fns) (ρ : List Sl) (μ : List O) (i : Nat), evE Φ (.var i) ρ μ = liS (getS ρ[i]?) μ) ∧ (∀ (Φ : Fns) (ρ : List Sl) (μ : List O) (x : Str) (i : Int), evE Φ (.glI x i) ρ μ = .ok (.sh (.int i)) μ) ∧ (∀ (Φ : Fns) (ρ : List Sl) (μ : List O) (x s : Str), evE Φ (.glS x s) ρ μ = .ok (.sh (.str s)) μ) ∧ (∀ (Φ : Fns) (ρ : List Sl) (μ : List O) (op : BO) (a b : E), evE Φ (.bin op a b) ρ μ = (evE Φ a ρ μ).bind (kBin Φ op b ρ)) ∧ (∀ (Φ : Fns) (ρ : List Sl) (μ : List O) (a : E), evE Φ (.neg a) ρ μ = (evE Φ a ρ μ).bind kNeg) ∧ (∀ (Φ : Fns) (ρ : List Sl) (μ : List O) (a : E), evE Φ (.nt a) ρ μ = (evE Φ a ρ μ).bind kNt) ∧ (∀ (Φ : Fns) (ρ : List Sl) (μ : List O) (a b : E), evE Φ (.and a b) ρ μ = (evE Φ a ρ μ).bind (kAnd Φ b ρ)) ∧ (∀ (Φ : Fns) (ρ : List Sl) (μ : List O) (a b : E), evE Φ (.or a b) ρ μ = (evE Φ a ρ μ).bind (kOr Φ b ρ)) ∧ (∀ (Φ : Fns) (ρ : List Sl) (μ : List O) (c : CO) (a b : E), evE Φ (.cmp c a b) ρ μ = (evE Φ a ρ μ).bind (kCmp Φ c b ρ)) ∧ (∀ (Φ : Fns) (ρ : List Sl) (μ : List O) (c c' : CO) (a b e : E), evE Φ (.chn c c' a b e) ρ μ = (evE Φ a ρ μ).bind (kChn Φ c c' b e ρ))
theorem SevG0_ok : SevG0 := ⟨w_non, w_bl, w_int, w_str, w_var, w_glI, w_glS, w_bin, w_neg, w_nt, w_and, w_or, w_cmp, w_chn⟩
abbrev SevG1 : Prop := (∀ (Φ : Fns) (ρ : List Sl) (μ : List O) (c c' c'' : CO) (a b e f : E), evE Φ (.chn3 c c' c'' a b e f) ρ μ = (evE Φ a ρ μ).bind (kCh Φ c c' c'' b e f ρ)) ∧ (∀ (Φ : Fns) (ρ : List Sl) (μ : List O) (c a b : E), evE Φ (.ife c a b) ρ μ = (evE Φ c ρ μ).bind (kIfe Φ a b ρ)) ∧ (∀ (Φ : Fns) (ρ : List Sl) (μ : List O) (a i : E), evE Φ (.ix a i) ρ μ = (evE Φ a ρ μ).bind (kIx Φ i ρ)) ∧ (∀ (Φ : Fns) (ρ : List Sl) (μ : List O) (a : E) (lo hi : Option E), evE Φ (.sl a lo hi) ρ μ = (evE Φ a ρ μ).bind (kSl Φ lo hi ρ)) ∧ (∀ (Φ : Fns) (ρ : List Sl) (μ : List O) (c f : Str) (a : E), evE Φ (.fld c a f) ρ μ = (evE Φ a ρ μ).bind (kFld c f)) ∧ (∀ (Φ : Fns) (ρ : List Sl) (μ : List O) (es : List E), evE Φ (.lst es) ρ μ = (evEs Φ es ρ μ).bind kLst) ∧ (∀ (Φ : Fns) (ρ : List Sl) (μ : List O) (es : List E), evE Φ (.tup es) ρ μ = (evEs Φ es ρ μ).bind kTup) ∧ (∀ (Φ : Fns) (ρ : List Sl) (μ : List O) (b : Bool), evE Φ (.dnew b) ρ μ = .ok (.od b [] []) μ) ∧ (∀ (Φ : Fns) (ρ : List Sl) (μ : List O) (a : E), evE Φ (.shl a) ρ μ = (evE Φ a ρ μ).bind kShl) ∧ (∀ (Φ : Fns) (ρ : List Sl) (μ : List O) (f : Str) (es : List E), evE Φ (.call f es) ρ μ = (evEs Φ es ρ μ).bind (kCall Φ f)) ∧ (∀ (Φ : Fns) (ρ : List Sl) (μ : List O) (f : Str) (es : List E), evE Φ (.mk f es) ρ μ = (evEs Φ es ρ μ).bind (kCall Φ f)) ∧ (∀ (Φ : Fns) (ρ : List Sl) (μ : List O) (c m : Str) (a : E) (es : List E), evE Φ (.meth c a m es) ρ μ = (evE Φ a ρ μ).bind (kMeth Φ c m es ρ)) ∧ (∀ (Φ : Fns) (ρ : List Sl) (μ : List O) (b : Bi) (es : List E), evE Φ (.bi b es) ρ μ = (evEs Φ es ρ μ).bind (kBi b)) ∧ (∀ (Φ : Fns) (ρ : List Sl) (μ : List O) (b : Bi) (a : E) (es : List E), evE Φ (.bm b a es) ρ μ = (evE Φ a ρ μ).bind (kBm Φ b es ρ))
theorem SevG1_ok : SevG1 := ⟨w_chn3, w_ife, w_ix, w_sl, w_fld, w_lst, w_tup, w_dnew, w_shl, w_call, w_mk, w_meth, w_bi, w_bm⟩
abbrev SevG2 : Prop := (∀ (Φ : Fns) (ρ : List Sl) (μ : List O) (is : List Nat) (e : E), evE Φ (.bor is e) ρ μ = kBor μ (evE Φ e (borE ρ is μ) [])) ∧ (∀ (Φ : Fns) (ρ : List Sl) (μ : List O) (i : Nat) (e : E), evE Φ (.oix i e) ρ μ = kOix Φ e ρ μ (ownS ρ[i]?)) ∧ (∀ (Φ : Fns) (ρ : List Sl) (μ : List O), evEs Φ [] ρ μ = .ok [] μ) ∧ (∀ (Φ : Fns) (ρ : List Sl) (μ : List O) (e : E) (es : List E), evEs Φ (e :: es) ρ μ = (evE Φ e ρ μ).bind (kEs Φ es ρ)) ∧ (∀ (Φ : Fns) (ρ : List Sl) (μ : List O), evO Φ none ρ μ = .ok none μ) ∧ (∀ (Φ : Fns) (ρ : List Sl) (μ : List O) (e : E), evO Φ (some e) ρ μ = (evE Φ e ρ μ).bind kO) ∧ (∀ (Φ : Fns) (ρ : List Sl) (μ : List O), evC Φ none ρ μ = .ok true μ) ∧ (∀ (Φ : Fns) (ρ : List Sl) (μ : List O) (e : E), evC Φ (some e) ρ μ = ((evE Φ e ρ μ).calm).bind kC) ∧ (∀ (Φ : Fns) (ρ : List Sl) (μ : List O) (elt : E) (tg : T) (cd : Option E) (d : D), lcG Φ ρ elt tg cd d μ = kLc Φ elt cd μ (setT tg d (drops ρ (tgN tg)))) ∧ (∀ (Φ : Fns) (ρ : List Sl) (μ : List O) (tg : T) (e : E), evS Φ (.asg tg e) ρ μ = (evE Φ e ρ μ).go ρ (kAsg tg ρ)) ∧ (∀ (Φ : Fns) (ρ : List Sl) (μ : List O) (i : Nat) (e : E), evS Φ (.own i e) ρ μ = (evE Φ e ρ μ).go ρ (kOwn i ρ)) ∧ (∀ (Φ : Fns) (ρ : List Sl) (μ : List O) (i : Nat) (op : BO) (e : E), evS Φ (.aug i op e) ρ μ = kAug0 Φ i op e ρ μ (getS ρ[i]?)) ∧ (∀ (Φ : Fns) (ρ : List Sl) (μ : List O) (e : E), evS Φ (.ex e) ρ μ = (evE Φ e ρ μ).go ρ (kEx ρ)) ∧ (∀ (Φ : Fns) (ρ : List Sl) (μ : List O) (i : Nat) (e : E), evS Φ (.app i e) ρ μ = kApp0 Φ i e ρ μ (ownS ρ[i]?))
theorem SevG2_ok : SevG2 := ⟨w_bor, w_oix, w_es0, w_es1, w_o0, w_o1, w_c0, w_c1, w_lcG, w_asg, w_own, w_aug, w_ex, w_app⟩
abbrev SevG3 : Prop := (∀ (Φ : Fns) (ρ : List Sl) (μ : List O) (i : Nat) (k e : E), evS Φ (.ins i k e) ρ μ = kIns0 Φ i k e ρ μ (ownS ρ[i]?)) ∧ (∀ (Φ : Fns) (ρ : List Sl) (μ : List O) (i : Nat) (k e : E), evS Φ (.setx i k e) ρ μ = (evE Φ e ρ μ).go ρ (kSetx Φ i k ρ)) ∧ (∀ (Φ : Fns) (ρ : List Sl) (μ : List O) (c f : Str) (i : Nat) (e : E), evS Φ (.fset c i f e) ρ μ = (evE Φ e ρ μ).go ρ (kFset c i f ρ)) ∧ (∀ (Φ : Fns) (ρ : List Sl) (μ : List O) (e : E) (a b : List S), evS Φ (.ifs e a b) ρ μ = (evE Φ e ρ μ).go ρ (kIfs Φ a b ρ)) ∧ (∀ (Φ : Fns) (ρ : List Sl) (μ : List O) (n : Nat) (e : E) (b : List S), evS Φ (.whl n e b) ρ μ = whlRun (evE Φ e) (evSs Φ b) n ρ μ) ∧ (∀ (Φ : Fns) (ρ : List Sl) (μ : List O) (tg : T) (it : E) (b : List S), evS Φ (.for tg it b) ρ μ = (evE Φ it ρ μ).go ρ (kFor Φ tg b ρ)) ∧ (∀ (Φ : Fns) (ρ : List Sl) (μ : List O) (e : E), evS Φ (.ret e) ρ μ = (evE Φ e ρ μ).go ρ kRet) ∧ (∀ (Φ : Fns) (ρ : List Sl) (μ : List O), evS Φ .retN ρ μ = .rt (.sh .non) μ) ∧ (∀ (Φ : Fns) (ρ : List Sl) (μ : List O) (i : Nat), evS Φ (.retO i) ρ μ = rtO μ (owS ρ[i]?)) ∧ (∀ (Φ : Fns) (ρ : List Sl) (μ : List O) (c : Str) (es : List E), evS Φ (.rais c es) ρ μ = (evEs Φ es ρ μ).go ρ (kRais c ρ)) ∧ (∀ (Φ : Fns) (ρ : List Sl) (μ : List O), evS Φ .brk ρ μ = .bk ρ μ) ∧ (∀ (Φ : Fns) (ρ : List Sl) (μ : List O), evS Φ .cnt ρ μ = .ct ρ μ) ∧ (∀ (Φ : Fns) (ρ : List Sl) (μ : List O), evS Φ .pass ρ μ = .nx ρ μ) ∧ (∀ (Φ : Fns) (ρ : List Sl) (μ : List O) (i : Nat) (dr : List Nat), evS Φ (.frz i dr) ρ μ = .nx (drops (lend ρ [i]) dr) μ)
theorem SevG3_ok : SevG3 := ⟨w_ins, w_setx, w_fset, w_ifs, w_whl, w_for, w_ret, w_retN, w_retO, w_rais, w_brk, w_cnt, w_pass, w_frz⟩
abbrev SevG4 : Prop := (∀ (Φ : Fns) (ρ : List Sl) (μ : List O) (b : List S) (all : List Str) (hs : List HC), evS Φ (.tryM b all hs) ρ μ = tryM all hs (evSs Φ b ρ μ)) ∧ (∀ (Φ : Fns) (ρ : List Sl) (μ : List O) (b : List S) (y : Str) (all cs : List Str) (ie j : Nat) (l : List HF), evS Φ (.try b y all cs ie j l) ρ μ = tryF all cs ie j l (evSs Φ b ρ μ)) ∧ (∀ (Φ : Fns) (ρ : List Sl) (μ : List O), evSs Φ [] ρ μ = .nx ρ μ) ∧ (∀ (Φ : Fns) (ρ : List Sl) (μ : List O) (s : S) (r : List S), evSs Φ (s :: r) ρ μ = (evS Φ s ρ μ).then (evSs Φ r)) ∧ (∀ (tg : T) (f : List Sl → List O → Fl) (d : D) (ρ : List Sl), turn tg f d ρ = kTurn f (setT tg d ρ)) ∧ (∀ (μ : List O) (b : Bool), kB μ b = .ok (.sh (.bl b)) μ) ∧ (∀ (Φ : Fns) (op : BO) (b : E) (ρ : List Sl) (x : O) (μ : List O), kBin Φ op b ρ x μ = (evE Φ b ρ μ).bind (kBin2 op x)) ∧ (∀ (op : BO) (x y : O) (μ : List O), kBin2 op x y μ = lift (binD op (fz x) (fz y)) μ) ∧ (∀ (i : Int) (μ : List O), kNeg (.sh (.int i)) μ = .ok (.sh (.int (-i))) μ) ∧ (∀ (b : Bool) (μ : List O), kNt (.sh (.bl b)) μ = .ok (.sh (.bl (!b))) μ) ∧ (∀ (b : Bool) (μ : List O), kBl (.sh (.bl b)) μ = .ok (.sh (.bl b)) μ) ∧ (∀ (Φ : Fns) (b : E) (ρ : List Sl) (c : Bool) (μ : List O), kAnd Φ b ρ (.sh (.bl c)) μ = if c = true then (evE Φ b ρ μ).bind kBl else .ok (.sh (.bl false)) μ) ∧ (∀ (Φ : Fns) (b : E) (ρ : List Sl) (c : Bool) (μ : List O), kOr Φ b ρ (.sh (.bl c)) μ = if c = true then .ok (.sh (.bl true)) μ else (evE Φ b ρ μ).bind kBl) ∧ (∀ (Φ : Fns) (c : CO) (b : E) (ρ : List Sl) (x : O) (μ : List O), kCmp Φ c b ρ x μ = (evE Φ b ρ μ).bind (kCmp2 c x))
theorem SevG4_ok : SevG4 := ⟨w_tryM, w_try, w_ss0, w_ss1, w_turn, k_B, k_Bin, k_Bin2, k_Neg, k_Nt, k_Bl, k_And, k_Or, k_Cmp⟩
abbrev SevG5 : Prop := (∀ (c : CO) (x y : O) (μ : List O), kCmp2 c x y μ = oB (cmpD c (fz x) (fz y)) (kB μ)) ∧ (∀ (Φ : Fns) (c c' : CO) (b e : E) (ρ : List Sl) (x : O) (μ : List O), kChn Φ c c' b e ρ x μ = (evE Φ b ρ μ).bind (kChn2 Φ c c' e ρ x)) ∧ (∀ (Φ : Fns) (c c' : CO) (e : E) (ρ : List Sl) (x y : O) (μ : List O), kChn2 Φ c c' e ρ x y μ = oB (cmpD c (fz x) (fz y)) (kChn3 Φ c' e ρ y μ)) ∧ (∀ (Φ : Fns) (c : CO) (e : E) (ρ : List Sl) (y : O) (μ : List O) (t : Bool), kChn3 Φ c e ρ y μ t = if t = true then (evE Φ e ρ μ).bind (kCmp2 c y) else .ok (.sh (.bl false)) μ) ∧ (∀ (Φ : Fns) (c c' c'' : CO) (b e f : E) (ρ : List Sl) (x : O) (μ : List O), kCh Φ c c' c'' b e f ρ x μ = (evE Φ b ρ μ).bind (kCh2 Φ c c' c'' e f ρ x)) ∧ (∀ (Φ : Fns) (c c' c'' : CO) (e f : E) (ρ : List Sl) (x y : O) (μ : List O), kCh2 Φ c c' c'' e f ρ x y μ = oB (cmpD c (fz x) (fz y)) (kCh3 Φ c' c'' e f ρ y μ)) ∧ (∀ (Φ : Fns) (c' c'' : CO) (e f : E) (ρ : List Sl) (y : O) (μ : List O) (t : Bool), kCh3 Φ c' c'' e f ρ y μ t = if t = true then (evE Φ e ρ μ).bind (kChn2 Φ c' c'' f ρ y) else .ok (.sh (.bl false)) μ) ∧ (∀ (Φ : Fns) (a b : E) (ρ : List Sl) (c : Bool) (μ : List O), kIfe Φ a b ρ (.sh (.bl c)) μ = if c = true then evE Φ a ρ μ else evE Φ b ρ μ) ∧ (∀ (d : D) (μ : List O), liS (some d) μ = .ok (.sh d) μ) ∧ (∀ (Φ : Fns) (i : E) (ρ : List Sl) (x : O) (μ : List O), kIx Φ i ρ x μ = (evE Φ i ρ μ).bind (kIx2 x)) ∧ (∀ (x y : O) (μ : List O), kIx2 x y μ = liS (ixD (fz x) (fz y)) μ) ∧ (∀ (Φ : Fns) (lo hi : Option E) (ρ : List Sl) (x : O) (μ : List O), kSl Φ lo hi ρ x μ = (evO Φ lo ρ μ).bind (kSl2 Φ hi ρ x)) ∧ (∀ (Φ : Fns) (hi : Option E) (ρ : List Sl) (x : O) (l : Option Int) (μ : List O), kSl2 Φ hi ρ x l μ = (evO Φ hi ρ μ).bind (kSl3 x l)) ∧ (∀ (x : O) (l h : Option Int) (μ : List O), kSl3 x l h μ = lift (cutD (fz x) l h) μ)
theorem SevG5_ok : SevG5 := ⟨k_Cmp2, k_Chn, k_Chn2, k_Chn3, k_Ch, k_Ch2, k_Ch3, k_Ife, k_liS, k_Ix, k_Ix2, k_Sl, k_Sl2, k_Sl3⟩
abbrev SevG6 : Prop := (∀ (c f : Str) (x : O) (μ : List O), kFld c f x μ = liS (fldD c (fz x) f) μ) ∧ (∀ (xs : List O) (μ : List O), kLst xs μ = if xs.length ≤ LIM then .ok (.ol xs) μ else .bad) ∧ (∀ (xs : List O) (μ : List O), kTup xs μ = if xs.length ≤ LIM then .ok (.sh (.tup (fzs xs))) μ else .bad) ∧ (∀ (l : List O) (μ : List O), kShl (.ol l) μ = .ok (.ol ((l.map fz).map .sh)) μ) ∧ (∀ (Φ : Fns) (f : Str) (xs : List O) (μ : List O), kCall Φ f xs μ = Φ f (fzs xs) μ) ∧ (∀ (Φ : Fns) (c m : Str) (es : List E) (ρ : List Sl) (x : O) (μ : List O), kMeth Φ c m es ρ x μ = if metO c m (fz x) = true then (evEs Φ es ρ μ).bind (kMeth2 Φ (c ++ "." ++ m) x) else .bad) ∧ (∀ (Φ : Fns) (f : Str) (x : O) (xs : List O) (μ : List O), kMeth2 Φ f x xs μ = Φ f (fz x :: fzs xs) μ) ∧ (∀ (b : Bi) (xs : List O) (μ : List O), kBi b xs μ = lift (biD b (fzs xs)) μ) ∧ (∀ (Φ : Fns) (b : Bi) (es : List E) (ρ : List Sl) (x : O) (μ : List O), kBm Φ b es ρ x μ = if bmOk b (fz x) = true then (evEs Φ es ρ μ).bind (kBm2 b x) else .bad) ∧ (∀ (b : Bi) (x : O) (xs : List O) (μ : List O), kBm2 b x xs μ = lift (biD b (fz x :: fzs xs)) μ) ∧ (∀ (l : List D), bmOk .index (.lst l) = true) ∧ (∀ (l : List (List Int)), bmOk .index (LL l) = true) ∧ (∀ (l : List Int), bmOk .index (iL l) = true) ∧ (∀ (ks vs : List D), bmOk .get (.dct true ks vs) = true)
theorem SevG6_ok : SevG6 := ⟨k_Fld, k_Lst, k_Tup, k_Shl, k_Call, k_Meth, k_Meth2, k_Bi, k_Bm, k_Bm2, m_ixL, m_ixLL, m_ixI, m_get⟩
abbrev SevG7 : Prop := (∀ (μ : List O) (o : O), kBor μ (.ok o []) = if okB o = true then .ok o μ else .bad) ∧ (∀ (ρ : List Sl) (is : List Nat), borE ρ is [] = lend ρ is) ∧ (∀ (ρ : List Sl) (is : List Nat) (x : O) (l : List O), borE ρ is (x :: l) = dropC (lend ρ is)) ∧ (∀ (μ : List O) (c : Str) (fs : List D), kBor μ (.er c fs []) = if noLs fs = true then .er c fs μ else .bad) ∧ (∀ (Φ : Fns) (e : E) (ρ : List Sl) (μ : List O) (l : List O), kOix Φ e ρ μ (some l) = (evE Φ e ρ μ).bind (kOix2 l)) ∧ (∀ (l : List O) (x : O) (μ : List O), kOix2 l x μ = lift (oixO l (fz x)) μ) ∧ (∀ (Φ : Fns) (es : List E) (ρ : List Sl) (x : O) (μ : List O), kEs Φ es ρ x μ = (evEs Φ es ρ μ).bind (kEs2 x)) ∧ (∀ (x : O) (xs : List O) (μ : List O), kEs2 x xs μ = .ok (x :: xs) μ) ∧ (∀ (i : Int) (μ : List O), kO (.sh (.int i)) μ = .ok (some i) μ) ∧ (∀ (b : Bool) (μ : List O), kC (.sh (.bl b)) μ = .ok b μ) ∧ (∀ (y : O) (μ : List O), kLc3 y μ = .ok (some (fz y)) μ) ∧ (∀ (Φ : Fns) (elt : E) (ρ : List Sl) (c : Bool) (μ : List O), kLc2 Φ elt ρ c μ = if c = true then ((evE Φ elt ρ μ).calm).bind kLc3 else .ok none μ) ∧ (∀ (Φ : Fns) (elt : E) (cd : Option E) (μ : List O) (ρ : List Sl), kLc Φ elt cd μ (some ρ) = (evC Φ cd ρ μ).bind (kLc2 Φ elt ρ)) ∧ (∀ (μ : List O) (ρ : List Sl), kNx μ (some ρ) = .nx ρ μ)
theorem SevG7_ok : SevG7 := ⟨k_Bor, w_borE0, w_borE1, k_BorE, k_Oix, k_Oix2, k_Es, k_Es2, k_O, k_C, k_Lc3, k_Lc2, k_Lc, k_Nx⟩
abbrev SevG8 : Prop := (∀ (tg : T) (ρ : List Sl) (x : O) (μ : List O), kAsg tg ρ x μ = kNx μ (setT tg (fz x) ρ)) ∧ (∀ (i : Nat) (ρ : List Sl) (x : O) (μ : List O), kOwn i ρ x μ = .nx (ρ.set i (.ow x)) μ) ∧ (∀ (i : Nat) (ρ : List Sl) (μ : List O) (z : Int), kAug2 i ρ μ (some z) = .nx (ρ.set i (.va (.int z))) μ) ∧ (∀ (i : Nat) (op : BO) (ρ : List Sl) (d : D) (x : O) (μ : List O), kAug i op ρ d x μ = kAug2 i ρ μ (augD op d (fz x))) ∧ (∀ (Φ : Fns) (i : Nat) (op : BO) (e : E) (ρ : List Sl) (μ : List O) (d : D), kAug0 Φ i op e ρ μ (some d) = (evE Φ e ρ μ).go ρ (kAug i op ρ d)) ∧ (∀ (ρ : List Sl) (x : O) (μ : List O), kEx ρ x μ = .nx ρ μ) ∧ (∀ (i : Nat) (ρ : List Sl) (l : List O) (x : O) (μ : List O), kApp i ρ l x μ = if l.length < LIM then .nx (ρ.set i (.ow (.ol (l ++ [.sh (fz x)])))) μ else .bad) ∧ (∀ (Φ : Fns) (i : Nat) (e : E) (ρ : List Sl) (μ : List O) (l : List O), kApp0 Φ i e ρ μ (some l) = (evE Φ e ρ μ).go ρ (kApp i ρ l)) ∧ (∀ (Φ : Fns) (i : Nat) (k e : E) (ρ : List Sl) (μ : List O) (l : List O), kIns0 Φ i k e ρ μ (some l) = (evE Φ k ρ μ).go ρ (kIns Φ i e ρ l)) ∧ (∀ (Φ : Fns) (i : Nat) (e : E) (ρ : List Sl) (l : List O) (y : O) (μ : List O), kIns Φ i e ρ l y μ = (evE Φ e ρ μ).go ρ (kIns2 i ρ l y)) ∧ (∀ (i : Nat) (ρ : List Sl) (l : List D) (j : Int) (x : O) (μ : List O), kIns2 i ρ (l.map .sh) (.sh (.int j)) x μ = if (0 ≤ j ∧ j < 9223372036854775808) ∧ l.length < LIM then .nx (ρ.set i (OwL (l.take j.toNat ++ [fz x] ++ l.drop j.toNat))) μ else .bad) ∧ (∀ (i : Nat) (ρ : List Sl) (μ : List O) (o : O), kSetx3 i ρ μ (some o) = .nx (ρ.set i (.ow o)) μ) ∧ (∀ (i : Nat) (ρ : List Sl) (o x y : O) (μ : List O), kSetx2 i ρ o x y μ = kSetx3 i ρ μ (setO o (fz y) (.sh (fz x)))) ∧ (∀ (Φ : Fns) (i : Nat) (k : E) (ρ : List Sl) (x : O) (μ : List O) (o : O), kSetx1 Φ i k ρ x μ (some o) = (evE Φ k ρ μ).go ρ (kSetx2 i ρ o x))
theorem SevG8_ok : SevG8 := ⟨k_Asg, k_Own, k_Aug2, k_Aug, k_Aug0, k_Ex, k_App, k_App0, k_Ins0, k_Ins, k_Ins2, k_Setx3, k_Setx2, k_Setx1⟩
abbrev SevG9 : Prop := (∀ (Φ : Fns) (i : Nat) (k : E) (ρ : List Sl) (x : O) (μ : List O), kSetx Φ i k ρ x μ = kSetx1 Φ i k ρ x μ (owS ρ[i]?)) ∧ (∀ (c f : Str) (i : Nat) (ρ : List Sl) (x : O) (μ : List O) (o : O), kFset1 c i f ρ x μ (some o) = kSetx3 i ρ μ (fputO c o f (.sh (fz x)))) ∧ (∀ (c f : Str) (i : Nat) (ρ : List Sl) (x : O) (μ : List O), kFset c i f ρ x μ = kFset1 c i f ρ x μ (owS ρ[i]?)) ∧ (∀ (Φ : Fns) (a b : List S) (ρ : List Sl) (c : Bool) (μ : List O), kIfs Φ a b ρ (.sh (.bl c)) μ = if c = true then evSs Φ a ρ μ else evSs Φ b ρ μ) ∧ (∀ (Φ : Fns) (tg : T) (b : List S) (ρ : List Sl) (μ : List O) (ds : List D), kFor2 Φ tg b ρ μ (some ds) = forRun tg (evSs Φ b) ds ρ μ) ∧ (∀ (Φ : Fns) (tg : T) (b : List S) (ρ : List Sl) (x : O) (μ : List O), kFor Φ tg b ρ x μ = kFor2 Φ tg b ρ μ (itD (fz x))) ∧ (∀ (x : O) (μ : List O), kRet x μ = .rt x μ) ∧ (∀ (c : Str) (ρ : List Sl) (xs : List O) (μ : List O), kRais c ρ xs μ = .er c (fzs xs) ρ μ) ∧ (∀ (f : List Sl → List O → Fl) (ρ : List Sl), kTurn f (some ρ) = f ρ []) ∧ (∀ (a : O) (μ : List O) (f : O → List O → Rs (O)), (Rs.ok a μ).bind f = f a μ) ∧ (∀ (c : Str) (fs : List D) (μ : List O) (f : O → List O → Rs (O)), (Rs.er c fs μ : Rs (O)).bind f = .er c fs μ) ∧ (∀ (p : Prop) [Decidable p] (a b : Rs (O)) (f : O → List O → Rs (O)), (if p then a else b).bind f = if p then a.bind f else b.bind f) ∧ (∀ (a : O) (μ : List O) (f : O → List O → Rs (List O)), (Rs.ok a μ).bind f = f a μ) ∧ (∀ (c : Str) (fs : List D) (μ : List O) (f : O → List O → Rs (List O)), (Rs.er c fs μ : Rs (O)).bind f = .er c fs μ)
theorem SevG9_ok : SevG9 := ⟨k_Setx, k_Fset1, k_Fset, k_Ifs, k_For2, k_For, k_Ret, k_Rais, k_Turn, r_okOO, r_erOO, @r_itOO, r_okOL, r_erOL⟩
abbrev SevG10 : Prop := (∀ (p : Prop) [Decidable p] (a b : Rs (O)) (f : O → List O → Rs (List O)), (if p then a else b).bind f = if p then a.bind f else b.bind f) ∧ (∀ (a : O) (μ : List O) (f : O → List O → Rs (Option D)), (Rs.ok a μ).bind f = f a μ) ∧ (∀ (c : Str) (fs : List D) (μ : List O) (f : O → List O → Rs (Option D)), (Rs.er c fs μ : Rs (O)).bind f = .er c fs μ) ∧ (∀ (p : Prop) [Decidable p] (a b : Rs (O)) (f : O → List O → Rs (Option D)), (if p then a else b).bind f = if p then a.bind f else b.bind f) ∧ (∀ (a : List O) (μ : List O) (f : List O → List O → Rs (O)), (Rs.ok a μ).bind f = f a μ) ∧ (∀ (c : Str) (fs : List D) (μ : List O) (f : List O → List O → Rs (O)), (Rs.er c fs μ : Rs (List O)).bind f = .er c fs μ) ∧ (∀ (p : Prop) [Decidable p] (a b : Rs (List O)) (f : List O → List O → Rs (O)), (if p then a else b).bind f = if p then a.bind f else b.bind f) ∧ (∀ (a : List O) (μ : List O) (f : List O → List O → Rs (List O)), (Rs.ok a μ).bind f = f a μ) ∧ (∀ (c : Str) (fs : List D) (μ : List O) (f : List O → List O → Rs (List O)), (Rs.er c fs μ : Rs (List O)).bind f = .er c fs μ) ∧ (∀ (p : Prop) [Decidable p] (a b : Rs (List O)) (f : List O → List O → Rs (List O)), (if p then a else b).bind f = if p then a.bind f else b.bind f) ∧ (∀ (a : List O) (μ : List O) (f : List O → List O → Rs (Option D)), (Rs.ok a μ).bind f = f a μ) ∧ (∀ (c : Str) (fs : List D) (μ : List O) (f : List O → List O → Rs (Option D)), (Rs.er c fs μ : Rs (List O)).bind f = .er c fs μ) ∧ (∀ (p : Prop) [Decidable p] (a b : Rs (List O)) (f : List O → List O → Rs (Option D)), (if p then a else b).bind f = if p then a.bind f else b.bind f) ∧ (∀ (a : Option Int) (μ : List O) (f : Option Int → List O → Rs (O)), (Rs.ok a μ).bind f = f a μ)
theorem SevG10_ok : SevG10 := ⟨@r_itOL, r_okOD, r_erOD, @r_itOD, r_okLO, r_erLO, @r_itLO, r_okLL, r_erLL, @r_itLL, r_okLD, r_erLD, @r_itLD, r_okIO⟩
abbrev SevG11 : Prop := (∀ (c : Str) (fs : List D) (μ : List O) (f : Option Int → List O → Rs (O)), (Rs.er c fs μ : Rs (Option Int)).bind f = .er c fs μ) ∧ (∀ (p : Prop) [Decidable p] (a b : Rs (Option Int)) (f : Option Int → List O → Rs (O)), (if p then a else b).bind f = if p then a.bind f else b.bind f) ∧ (∀ (a : Option Int) (μ : List O) (f : Option Int → List O → Rs (List O)), (Rs.ok a μ).bind f = f a μ) ∧ (∀ (c : Str) (fs : List D) (μ : List O) (f : Option Int → List O → Rs (List O)), (Rs.er c fs μ : Rs (Option Int)).bind f = .er c fs μ) ∧ (∀ (p : Prop) [Decidable p] (a b : Rs (Option Int)) (f : Option Int → List O → Rs (List O)), (if p then a else b).bind f = if p then a.bind f else b.bind f) ∧ (∀ (a : Option Int) (μ : List O) (f : Option Int → List O → Rs (Option D)), (Rs.ok a μ).bind f = f a μ) ∧ (∀ (c : Str) (fs : List D) (μ : List O) (f : Option Int → List O → Rs (Option D)), (Rs.er c fs μ : Rs (Option Int)).bind f = .er c fs μ) ∧ (∀ (p : Prop) [Decidable p] (a b : Rs (Option Int)) (f : Option Int → List O → Rs (Option D)), (if p then a else b).bind f = if p then a.bind f else b.bind f) ∧ (∀ (a : Bool) (μ : List O) (f : Bool → List O → Rs (O)), (Rs.ok a μ).bind f = f a μ) ∧ (∀ (c : Str) (fs : List D) (μ : List O) (f : Bool → List O → Rs (O)), (Rs.er c fs μ : Rs (Bool)).bind f = .er c fs μ) ∧ (∀ (p : Prop) [Decidable p] (a b : Rs (Bool)) (f : Bool → List O → Rs (O)), (if p then a else b).bind f = if p then a.bind f else b.bind f) ∧ (∀ (a : Bool) (μ : List O) (f : Bool → List O → Rs (List O)), (Rs.ok a μ).bind f = f a μ) ∧ (∀ (c : Str) (fs : List D) (μ : List O) (f : Bool → List O → Rs (List O)), (Rs.er c fs μ : Rs (Bool)).bind f = .er c fs μ) ∧ (∀ (p : Prop) [Decidable p] (a b : Rs (Bool)) (f : Bool → List O → Rs (List O)), (if p then a else b).bind f = if p then a.bind f else b.bind f)
theorem SevG11_ok : SevG11 := ⟨r_erIO, @r_itIO, r_okIL, r_erIL, @r_itIL, r_okID, r_erID, @r_itID, r_okBO, r_erBO, @r_itBO, r_okBL, r_erBL, @r_itBL⟩
abbrev SevG12 : Prop := (∀ (a : Bool) (μ : List O) (f : Bool → List O → Rs (Option D)), (Rs.ok a μ).bind f = f a μ) ∧ (∀ (c : Str) (fs : List D) (μ : List O) (f : Bool → List O → Rs (Option D)), (Rs.er c fs μ : Rs (Bool)).bind f = .er c fs μ) ∧ (∀ (p : Prop) [Decidable p] (a b : Rs (Bool)) (f : Bool → List O → Rs (Option D)), (if p then a else b).bind f = if p then a.bind f else b.bind f) ∧ (∀ (a : O) (μ : List O) (f : O → List O → Rs Bool), (Rs.ok a μ).bind f = f a μ) ∧ (∀ (a : O) (μ : List O) (f : O → List O → Rs (Option Int)), (Rs.ok a μ).bind f = f a μ) ∧ (∀ (a : O) (μ : List O) (ρ : List Sl) (f : O → List O → Fl), (Rs.ok a μ).go ρ f = f a μ) ∧ (∀ (c : Str) (fs : List D) (μ : List O) (ρ : List Sl) (f : O → List O → Fl), (Rs.er c fs μ : Rs (O)).go ρ f = .er c fs ρ μ) ∧ (∀ (p : Prop) [Decidable p] (a b : Rs (O)) (ρ : List Sl) (f : O → List O → Fl), (if p then a else b).go ρ f = if p then a.go ρ f else b.go ρ f) ∧ (∀ (a : List O) (μ : List O) (ρ : List Sl) (f : List O → List O → Fl), (Rs.ok a μ).go ρ f = f a μ) ∧ (∀ (c : Str) (fs : List D) (μ : List O) (ρ : List Sl) (f : List O → List O → Fl), (Rs.er c fs μ : Rs (List O)).go ρ f = .er c fs ρ μ) ∧ (∀ (p : Prop) [Decidable p] (a b : Rs (List O)) (ρ : List Sl) (f : List O → List O → Fl), (if p then a else b).go ρ f = if p then a.go ρ f else b.go ρ f) ∧ (∀ (ρ : List Sl) (μ : List O) (f : List Sl → List O → Fl), (Fl.nx ρ μ).then f = f ρ μ) ∧ (∀ (o : O) (μ : List O) (f : List Sl → List O → Fl), (Fl.rt o μ).then f = .rt o μ) ∧ (∀ (ρ : List Sl) (μ : List O) (f : List Sl → List O → Fl), (Fl.bk ρ μ).then f = .bk ρ μ)
theorem SevG12_ok : SevG12 := ⟨r_okBD, r_erBD, @r_itBD, r_okOB, r_okOI, g_okO, g_erO, @g_itO, g_okL, g_erL, @g_itL, t_nx, t_rt, t_bk⟩
abbrev SevG13 : Prop := (∀ (ρ : List Sl) (μ : List O) (f : List Sl → List O → Fl), (Fl.ct ρ μ).then f = .ct ρ μ) ∧ (∀ (c : Str) (fs : List D) (ρ : List Sl) (μ : List O) (f : List Sl → List O → Fl), (Fl.er c fs ρ μ).then f = .er c fs ρ μ) ∧ (∀ (p : Prop) [Decidable p] (a b : Fl) (f : List Sl → List O → Fl), (if p then a else b).then f = if p then a.then f else b.then f) ∧ (∀ (ρ : List Sl) (μ : List O), (Fl.nx ρ μ).fin = .ok (.sh .non) μ) ∧ (∀ (o : O) (μ : List O), (Fl.rt o μ).fin = .ok o μ) ∧ (∀ (c : Str) (fs : List D) (ρ : List Sl) (μ : List O), (Fl.er c fs ρ μ).fin = .er c fs μ) ∧ (∀ (p : Prop) [Decidable p] (a b : Fl), (if p then a else b).fin = if p then a.fin else b.fin) ∧ (∀ (all : List Str) (hs : List HC) (ρ : List Sl) (μ : List O), tryM all hs (.nx ρ μ) = .nx ρ μ) ∧ (∀ (all : List Str) (hs : List HC) (o : O) (μ : List O), tryM all hs (.rt o μ) = .rt o μ) ∧ (∀ (all cs : List Str) (ie j : Nat) (l : List HF) (ρ : List Sl) (μ : List O), tryF all cs ie j l (.nx ρ μ) = .nx ρ μ) ∧ (∀ (all cs : List Str) (ie j : Nat) (l : List HF) (o : O) (μ : List O), tryF all cs ie j l (.rt o μ) = .rt o μ) ∧ (∀ (a : O) (μ : List O), lift (some a) μ = .ok a μ) ∧ (∀ (b : Bool) (f : Bool → Rs O), oB (some b) f = f b) ∧ (∀ (a : O) (μ : List O), (Rs.ok a μ).calm = .ok a μ)
theorem SevG13_ok : SevG13 := ⟨t_ct, t_er, @t_it, f_nx, f_rt, f_er, @f_it, y_Mnx, y_Mrt, y_nx, y_rt, o_lift, o_B, o_calm⟩
abbrev SevG14 : Prop := (∀ (d : D), fz (.sh d) = d) ∧ (∀ (l : List O), fz (.ol l) = .lst (fzs l)) ∧ (fz (.od true [] []) = .dct true [] []) ∧ (fzs [] = []) ∧ (∀ (o : O) (r : List O), fzs (o :: r) = fz o :: fzs r) ∧ (∀ (l : List D), fzs (l.map O.sh) = l) ∧ (∀ (a : Sl) (l : List Sl), (a :: l)[0]? = some a) ∧ (∀ (a : Sl) (l : List Sl) (n : Nat), (a :: l)[n + 1]? = l[n]?) ∧ (∀ (n : Nat), ([] : List Sl)[n]? = none) ∧ (∀ (a b : Sl) (l : List Sl), (a :: l).set 0 b = b :: l) ∧ (∀ (a b : Sl) (l : List Sl) (n : Nat), (a :: l).set (n + 1) b = a :: l.set n b) ∧ (∀ (i : Nat) (d : D) (ρ : List Sl), setT (.nm i) d ρ = some (ρ.set i (.va d))) ∧ (∀ (ts : List T) (ds : List D) (ρ : List Sl), setT (.tp ts) (.tup ds) ρ = setTs ts ds ρ) ∧ (∀ (ρ : List Sl), setTs [] [] ρ = some ρ)
theorem SevG14_ok : SevG14 := ⟨d_sh, d_ol, d_od, d_s0, d_s1, d_sh2, d_get0, d_getS, d_getN, d_set0, d_setS, d_nm, d_tp, d_ts0⟩
abbrev SevG15 : Prop := (∀ (t : T) (ts : List T) (d : D) (ds : List D) (ρ : List Sl), setTs (t :: ts) (d :: ds) ρ = (setT t d ρ).bind (setTs ts ds)) ∧ (∀ (a : List Sl) (f : List Sl → Option (List Sl)), (some a).bind f = f a) ∧ (∀ (i : Nat), tgN (.nm i) = [i]) ∧ (∀ (l : List T), tgN (.tp l) = tgNs l) ∧ (tgNs [] = []) ∧ (∀ (a : T) (l : List T), tgNs (a :: l) = tgN a ++ tgNs l) ∧ (∀ (l : List Nat), [] ++ l = l) ∧ (∀ (a : Nat) (r l : List Nat), (a :: r) ++ l = a :: (r ++ l)) ∧ (∀ (l : List Sl), [] ++ l = l) ∧ (∀ (a : Sl) (r l : List Sl), (a :: r) ++ l = a :: (r ++ l)) ∧ (∀ (l : List O), [] ++ l = l) ∧ (∀ (a : O) (r l : List O), (a :: r) ++ l = a :: (r ++ l)) ∧ (∀ (l : List D), [] ++ l = l) ∧ (∀ (a : D) (r l : List D), (a :: r) ++ l = a :: (r ++ l))
theorem SevG15_ok : SevG15 := ⟨d_ts1, d_ob, d_tgn, d_tgt, d_tg0, d_tg1, d_ap0n, d_ap1n, d_ap0s, d_ap1s, d_ap0o, d_ap1o, d_ap0d, d_ap1d⟩
abbrev SevG16 : Prop := (List.map Sl.va [] = []) ∧ (∀ (d : D) (l : List D), List.map Sl.va (d :: l) = .va d :: List.map Sl.va l) ∧ (∀ (s : Sl), List.replicate 0 s = []) ∧ (∀ (n : Nat) (s : Sl), List.replicate (n + 1) s = s :: List.replicate n s) ∧ (([] : List O).length = 0) ∧ (∀ (a : O) (l : List O), (a :: l).length = l.length + 1) ∧ (∀ (f : D → O) (l : List D), (l.map f).length = l.length) ∧ (∀ (f : Int → D) (l : List Int), (l.map f).length = l.length) ∧ (List.length ([] : List D) = 0) ∧ (∀ (a : D) (l : List D), (a :: l).length = l.length + 1) ∧ (∀ (l : List D), Sl.ow (.ol (l.map .sh)) = OwL l) ∧ (Sl.ow (.ol []) = OwL []) ∧ (∀ (l : List D) (d : D), Sl.ow (.ol (l.map .sh ++ [.sh d])) = OwL (l ++ [d])) ∧ (∀ (l : List D), ownS (some (OwL l)) = some (l.map .sh))
theorem SevG16_ok : SevG16 := ⟨d_mv0, d_mv1, d_rp0, d_rp1, d_ln0, d_ln1, d_lnm, d_lnm2, d_ll0, d_ll1, d_ow, d_ow0, d_ow1, d_owS⟩
abbrev SevG17 : Prop := (∀ (d : D), getS (some (.va d)) = some d) ∧ (∀ (l : List D), owS (some (OwL l)) = some (.ol (l.map .sh))) ∧ (∀ (o : O), owS (some (.ow o)) = some o) ∧ (∀ (μ : List O) (o : O), rtO μ (some o) = .rt o μ) ∧ (∀ (ρ : List Sl), lend ρ [] = ρ) ∧ (∀ (ρ : List Sl) (i : Nat) (r : List Nat), lend ρ (i :: r) = lendS (lend ρ r) i (lend ρ r)[i]?) ∧ (∀ (ρ : List Sl) (i : Nat) (l : List D), lendS ρ i (some (OwL l)) = ρ.set i (.va (.lst l))) ∧ (∀ (ρ : List Sl) (i : Nat) (o : O), lendS ρ i (some (.ow o)) = ρ.set i (.va (fz o))) ∧ (∀ (ρ : List Sl) (i : Nat) (d : D), lendS ρ i (some (.va d)) = ρ) ∧ (∀ (ρ : List Sl) (i : Nat), lendS ρ i (some .no) = ρ) ∧ (∀ (ρ : List Sl) (i : Nat), lendS ρ i none = ρ) ∧ (∀ (ρ : List Sl), drops ρ [] = ρ) ∧ (∀ (ρ : List Sl) (i : Nat) (r : List Nat), drops ρ (i :: r) = (drops ρ r).set i .no) ∧ ((0 ≤ LIM) = True)
theorem SevG17_ok : SevG17 := ⟨d_gS, d_oS, d_oS2, d_rtO, d_ld0, d_ld1, d_lw, d_lo, d_lv, d_lno, d_lnn, d_dr0, d_dr1, d_lim0⟩
abbrev SevG18 : Prop := ((1 ≤ LIM) = True) ∧ ((2 ≤ LIM) = True) ∧ ((3 ≤ LIM) = True) ∧ ((4 ≤ LIM) = True) ∧ ((5 ≤ LIM) = True) ∧ ((6 ≤ LIM) = True) ∧ ((7 ≤ LIM) = True) ∧ ((8 ≤ LIM) = True) ∧ ((9 ≤ LIM) = True) ∧ ((10 ≤ LIM) = True) ∧ ((11 ≤ LIM) = True) ∧ ((12 ≤ LIM) = True) ∧ ((13 ≤ LIM) = True) ∧ ((14 ≤ LIM) = True)
theorem SevG18_ok : SevG18 := ⟨d_lim1, d_lim2, d_lim3, d_lim4, d_lim5, d_lim6, d_lim7, d_lim8, d_lim9, d_lim10, d_lim11, d_lim12, d_lim13, d_lim14⟩
abbrev SevG19 : Prop := ((15 ≤ LIM) = True) ∧ ((36 ≤ LIM) = True) ∧ (∀ (l : List D), biD .len [.lst l] = some (.sh (.int l.length))) ∧ (∀ (l : List D), biD .len [.tup l] = some (.sh (.int l.length))) ∧ (∀ (l : List D), biD .tuple [.lst l] = some (.sh (.tup l))) ∧ (∀ (l : List D), biD .tuple [.tup l] = some (.sh (.tup l))) ∧ (∀ (l : List D), biD .list [.lst l] = some (.ol (l.map .sh))) ∧ (∀ (l : List D), biD .list [.tup l] = some (.ol (l.map .sh))) ∧ (∀ (l : List Int), biD .list [iL l] = some (.ol ((l.map D.int).map .sh))) ∧ (∀ (l : List T3), biD .len [L3 l] = some (.sh (.int l.length))) ∧ (∀ (l : List Int), biD .len [iL l] = some (.sh (.int l.length))) ∧ (∀ (i j : Int), biD .max2 [.int i, .int j] = some (.sh (.int (max i j)))) ∧ (∀ (c : Bool), biD .int1 [.bl c] = some (.sh (.int (b2i c)))) ∧ (∀ (i j : Int), binD .add (.int i) (.int j) = some (.sh (.int (i + j))))
theorem SevG19_ok : SevG19 := ⟨d_lim15, d_lim36, b_len, b_lent, b_tl, b_tt, b_ll, b_lt, b_li, b_l3, b_lni, b_max, b_i1b, b_add⟩
abbrev SevG20 : Prop := (∀ (i j : Int), binD .sub (.int i) (.int j) = some (.sh (.int (i - j)))) ∧ (∀ (i j : Int), augD .add (.int i) (.int j) = some (i + j)) ∧ (∀ (i j : Int), augD .sub (.int i) (.int j) = some (i - j)) ∧ (∀ (i j : Int), cmpD .eq (.int i) (.int j) = some (decide (i = j))) ∧ (∀ (i j : Int), cmpD .ne (.int i) (.int j) = some (!decide (i = j))) ∧ (∀ (i j : Int), cmpD .lt (.int i) (.int j) = some (decide (i < j))) ∧ (∀ (i j : Int), cmpD .le (.int i) (.int j) = some (decide (i ≤ j))) ∧ (∀ (i j : Int), cmpD .gt (.int i) (.int j) = some (decide (j < i))) ∧ (∀ (i j : Int), cmpD .ge (.int i) (.int j) = some (decide (j ≤ i))) ∧ (cmpD .is .non .non = some true) ∧ (∀ (w : Str), cmpD .is (.str w) .non = some false) ∧ (∀ (w : Int), cmpD .is (.int w) .non = some false) ∧ (∀ (l : List D), cmpD .is (.tup l) .non = some false) ∧ (∀ (l : List D), cmpD .is (.lst l) .non = some false)
theorem SevG20_ok : SevG20 := ⟨b_sub, b_aadd, b_asub, c_eq, c_ne, c_lt, c_le, c_gt, c_ge, c_isn, c_iss, c_isi, c_ist, c_isl⟩
abbrev SevG21 : Prop := (∀ (l : List Int), cmpD .is (iL l) .non = some false) ∧ (∀ (s : Sd), cmpD .is s.d .non = some false) ∧ (cmpD .isnot .non .non = some false) ∧ (∀ (w : Str), cmpD .isnot (.str w) .non = some true) ∧ (∀ (w : Int), cmpD .isnot (.int w) .non = some true) ∧ (∀ (l : List D), cmpD .isnot (.tup l) .non = some true) ∧ (∀ (l : List D), cmpD .isnot (.lst l) .non = some true) ∧ (∀ (l : List Int), cmpD .isnot (iL l) .non = some true) ∧ (∀ (s : Sd), cmpD .isnot s.d .non = some true) ∧ (∀ (b : Bool), cmpD .is (.bl b) (.bl true) = some b) ∧ (∀ (b : Bool), cmpD .is (.bl b) (.bl false) = some (!b)) ∧ (∀ (b : Bool), cmpD .isnot (.bl b) (.bl true) = some (!b)) ∧ (∀ (b : Bool), cmpD .isnot (.bl b) (.bl false) = some b) ∧ (cmpD .eq (.lst []) (.lst []) = some true)
theorem SevG21_ok : SevG21 := ⟨c_isiL, c_isd, c_isnotn, c_isnots, c_isnoti, c_isnott, c_isnotl, c_isnotiL, c_isnotd, c_isT, c_isF, c_inT, c_inF, c_e0⟩
abbrev SevG22 : Prop := (cmpD .ne (.lst []) (.lst []) = some false) ∧ (∀ (l : List (List Int)), cmpD .eq (LL l) (.lst []) = some l.isEmpty) ∧ (∀ (l : List (List Int)), itD (LL l) = some (l.map iL)) ∧ (∀ (l : List (List Int)), biD .len [LL l] = some (.sh (.int l.length))) ∧ (∀ (l : List D), itD (.lst l) = some l) ∧ (∀ (l : List D), itD (.tup l) = some l) ∧ (∀ (l : List Int), itD (iL l) = some (l.map .int)) ∧ (∀ (l : List T3), itD (L3 l) = some (l.map i3)) ∧ (∀ (b : Bk), fldD "Rules" b.r "size" = some (.int b.size)) ∧ (∀ (b : Bk), ixD b.d (.int 0) = some (.int b.size)) ∧ (∀ (b : Bk), fldD "Rules" b.r "sorts" = some (L3 b.kinds)) ∧ (∀ (b : Bk), ixD b.d (.int 1) = some (L3 b.kinds)) ∧ (∀ (b : Bk), fldD "Rules" b.r "apart" = some (L3 b.shuns)) ∧ (∀ (b : Bk), ixD b.d (.int 2) = some (L3 b.shuns))
theorem SevG22_ok : SevG22 := ⟨c_n0, l_e0, l_it, l_ln, i_it, i_tt, i_iL, i_L3, x_fsize, x_b0, x_fsorts, x_b1, x_fapart, x_b2⟩
abbrev SevG23 : Prop := (∀ (b : Bk), fldD "Rules" b.r "closed" = some (L3 b.bars)) ∧ (∀ (b : Bk), ixD b.d (.int 3) = some (L3 b.bars)) ∧ (∀ (b : Bk), fldD "Rules" b.r "wanted" = some (L3 b.dues)) ∧ (∀ (b : Bk), ixD b.d (.int 4) = some (L3 b.dues)) ∧ (∀ (s : Sd), ixD s.d (.int 0) = some (.int s.place)) ∧ (∀ (s : Sd), ixD s.d (.int 1) = some (.int s.kind)) ∧ (∀ (s : Sd), ixD s.d (.int 2) = some (.int s.length)) ∧ (∀ (s : Sd), ixD s.d (.int 3) = some (.int s.before)) ∧ (∀ (s : Sd), ixD s.d (.int 4) = some (.tup (s.waits.map .int))) ∧ (∀ (s : Sd), ixD s.d (.int 5) = some (.tup (s.met.map .bl))) ∧ (∀ (t : T3), ixD (i3 t) (.int 0) = some (.int t.1)) ∧ (∀ (t : T3), ixD (i3 t) (.int 1) = some (.int t.2.1)) ∧ (∀ (t : T3), ixD (i3 t) (.int 2) = some (.int t.2.2)) ∧ (∀ (d : D) (l : List D), ixD (.tup (d :: l)) (.int 0) = some d)
theorem SevG23_ok : SevG23 := ⟨x_fclosed, x_b3, x_fwanted, x_b4, x_s0, x_s1, x_s2, x_s3, x_s4, x_s5, x_t0, x_t1, x_t2, x_tup0⟩
abbrev SevG24 : Prop := (∀ (d c : D) (l : List D), ixD (.tup (d :: c :: l)) (.int 1) = some c) ∧ (∀ (b : Bk), fz b.o = b.r) ∧ ((("Rules" : Str) ++ ("." : Str) ++ ("many" : Str)) = "Rules.many") ∧ (∀ (b : Bk), metO "Rules" "many" b.r = true) ∧ (optD none = .non) ∧ (∀ (s : Sd), optD (some s) = s.d) ∧ (wD none = .non) ∧ (∀ (w : Str), wD (some w) = .str w) ∧ (∀ (d : D), okB (.sh d) = noL d) ∧ (∀ (l : List Int), okB (.ol ((l.map D.int).map .sh)) = true) ∧ (∀ (i : Int), noL (.int i) = true) ∧ (∀ (b : Bool), noL (.bl b) = true) ∧ (∀ (s : Str), noL (.str s) = true) ∧ (noL .non = true)
theorem SevG24_ok : SevG24 := ⟨x_tup1, x_rst, x_many, x_mm, x_od0, x_od1, x_wd0, x_wd1, n_b, n_ol, n_i, n_bl, n_s, n_n⟩
abbrev SevG25 : Prop := (noLs [] = true) ∧ (∀ (d : D) (l : List D), noLs (d :: l) = (noL d && noLs l)) ∧ (∀ (l : List D), noL (.tup l) = noLs l) ∧ ((!true) = false) ∧ ((!false) = true) ∧ (∀ (b : Bool), (true && b) = b) ∧ (∀ (b : Bool), (false && b) = false) ∧ (∀ (b : Bool), (true || b) = true) ∧ (∀ (b : Bool), (false || b) = b) ∧ ((false = true) = False) ∧ (∀ [h : Decidable True], decide True = true) ∧ (∀ [h : Decidable False], decide False = false) ∧ (∀ (p : Prop) [Decidable p], (decide p = true) = p) ∧ ((¬ True) = False)
theorem SevG25_ok : SevG25 := ⟨n_0, n_1, n_t, z_nt, z_nf, z_at, z_af, z_ot, z_of, z_ft, @z_dt, @z_df, @z_de, z_NT⟩
abbrev SevG26 : Prop := ((¬ False) = True) ∧ (∀ (p : Prop) [Decidable p], ((!decide p) = true) = ¬ p)
theorem SevG26_ok : SevG26 := ⟨z_NF, @z_dn⟩
/-- all the rules -/
theorem sev : SevG0 ∧ SevG1 ∧ SevG2 ∧ SevG3 ∧ SevG4 ∧ SevG5 ∧ SevG6 ∧ SevG7 ∧ SevG8 ∧ SevG9 ∧ SevG10 ∧ SevG11 ∧ SevG12 ∧ SevG13 ∧ SevG14 ∧ SevG15 ∧ SevG16 ∧ SevG17 ∧ SevG18 ∧ SevG19 ∧ SevG20 ∧ SevG21 ∧ SevG22 ∧ SevG23 ∧ SevG24 ∧ SevG25 ∧ SevG26 := ⟨SevG0_ok, SevG1_ok, SevG2_ok, SevG3_ok, SevG4_ok, SevG5_ok, SevG6_ok, SevG7_ok, SevG8_ok, SevG9_ok, SevG10_ok, SevG11_ok, SevG12_ok, SevG13_ok, SevG14_ok, SevG15_ok, SevG16_ok, SevG17_ok, SevG18_ok, SevG19_ok, SevG20_ok, SevG21_ok, SevG22_ok, SevG23_ok, SevG24_ok, SevG25_ok, SevG26_ok⟩
/-! while loops -/
end MQ
/-! SU -/
set_option Elab.async false
set_option linter.all false
set_option maxRecDepth 100000
set_option maxHeartbeats 1000000
/-! SU: all sheets, the law k09. -/
namespace MQ
open MP
open PySem (Str)
theorem Stands.take {b : Bk} {row : List Int} (h : Stands b row) (k : Nat) : Stands b (row.take k) := by
  have : Stands b (row.take k ++ row.drop k) := by rw [List.take_append_drop]; exact h
  exact this.left
end MQ
/-! SV -/
set_option Elab.async false
set_option linter.all false
set_option maxRecDepth 100000
set_option maxHeartbeats 1000000
/-! SV: the counts at every stand come to; kinds on; sheets by numbers (k10 to k12). -/
namespace MQ
open MP
open PySem (Str)
/-- come to -/
inductive Rch (b : Bk) (s : Sd) : Sd → Prop
  | refl : Rch b s s
  | step {t u : Sd} : Rch b s t → u ∈ nextM b t → Rch b s u
def optC (b : Bk) (o : Option Sd) : Nat := match o with
  | some t => cnV b t
  | none => 0
@[simp] theorem optC_none (b : Bk) : optC b none = 0 := rfl
@[simp] theorem optC_some (b : Bk) (t : Sd) : optC b (some t) = cnV b t := rfl
theorem step_place {b : Bk} {s t : Sd} {k : Int} (h : stepM b s k = some t) : t.place = s.place + 1 ∧ s.place < b.size := by
  unfold stepM at h
  split at h
  · cases h
  · split at h
    · cases h
    · cases h
      exact ⟨rfl, by omega⟩
/-! ### the program -/
end MQ
/-! SW -/
set_option Elab.async false
set_option linter.all false
set_option maxRecDepth 100000
set_option maxHeartbeats 1000000
/-! SW: sheets by numbers, and their numbers (k11, k12). -/
namespace MQ
open MP
open PySem (Str)
theorem Rch.trans {b : Bk} {s t u : Sd} (h1 : Rch b s t) (h2 : Rch b t u) : Rch b s u := by
  induction h2 with
  | refl => exact h1
  | step _ hu ih => exact .step ih hu
/-! ### numbers of sheets -/
theorem cut_from (l : List Int) {k : Nat} (h : k ≤ l.length) : cutD (iL l) (some (k : Int)) none = some (.ol (((l.drop k).map D.int).map .sh)) := by
  show some (O.ol ((cut (l.map D.int) (some (k : Int)) none).map .sh)) = _
  have e : cut (l.map D.int) (some (k : Int)) none = (l.drop k).map D.int := by
    have e1 : cut (l.map D.int) (some (k : Int)) none = ((l.map D.int).drop (if (k : Int) < 0 then ((k : Int) + (l.map D.int).length).toNat else min (k : Int).toNat (l.map D.int).length)).take ((l.map D.int).length - (if (k : Int) < 0 then ((k : Int) + (l.map D.int).length).toNat else min (k : Int).toNat (l.map D.int).length)) := rfl
    rw [e1, if_neg (by omega), List.length_map, show ((k : Int).toNat) = k from by simp, Nat.min_eq_left h, List.map_drop, List.take_of_length_le (by simp)]
  rw [e]
end MQ
/-! SX -/
set_option Elab.async false
set_option linter.all false
set_option maxRecDepth 100000
set_option maxHeartbeats 1000000
/-! SX: the law k10. -/
namespace MQ
open MP
open PySem (Str)
end MQ
/-! SY -/
set_option Elab.async false
set_option linter.all false
set_option maxRecDepth 100000
set_option maxHeartbeats 1000000
/-! SY: the law k11. -/
namespace MQ
open MP
open PySem (Str)
end MQ
/-! SZ -/
set_option Elab.async false
set_option linter.all false
set_option maxRecDepth 100000
set_option maxHeartbeats 1000000
/-! SZ: tables reckoned backwards; hosts and spoilers (k26, k27). -/
namespace MQ
open MP
open PySem (Str)
/-! ### tables reckoned backwards, by any value V -/
/-! ### marks -/
/-! ### hosts -/
end MQ
/-! SZA -/
set_option Elab.async false
set_option linter.all false
set_option maxRecDepth 100000
set_option maxHeartbeats 1000000
/-! SZA: the law's own levels and hosts; the law k26. -/
namespace MQ
open MP
open PySem (Str)
end MQ
/-! SZB -/
set_option Elab.async false
set_option linter.all false
set_option maxRecDepth 100000
set_option maxHeartbeats 1000000
/-! SZB: the laws k26 and k27. -/
namespace MQ
open MP
open PySem (Str)
/-! ### k27 -/
end MQ
/-! SZC -/
set_option Elab.async false
set_option linter.all false
set_option maxRecDepth 100000
set_option maxHeartbeats 1000000
/-! SZC: the laws k12 and k13. -/
namespace MQ
open MP
open PySem (Str)
/-! ### the sheets stand in order -/
end MQ
/-! SZD -/
set_option Elab.async false
set_option linter.all false
set_option maxRecDepth 100000
set_option maxHeartbeats 1000000
/-! SZD: the law k13. -/
namespace MQ
open MP
open PySem (Str)
end MQ
/-! SZE -/
set_option Elab.async false
set_option linter.all false
set_option maxRecDepth 100000
set_option maxHeartbeats 1000000
/-! SZE: mends: prices, the cheapest sheet (k17, k18, k20). -/
namespace MQ
open MP
open PySem (Str)
/-! ### the program -/
end MQ
/-! SZF -/
set_option Elab.async false
set_option linter.all false
set_option maxRecDepth 100000
set_option maxHeartbeats 1000000
/-! SZF: the cheapest sheet; mended (k17, k18, k20). -/
namespace MQ
open MP
open PySem (Str)
/-! ### what is refused -/
end MQ
/-! SZG -/
set_option Elab.async false
set_option linter.all false
set_option maxRecDepth 100000
set_option maxHeartbeats 1000000
/-! SZG: the law k17. -/
namespace MQ
open MP
open PySem (Str)
end MQ
/-! SZH -/
set_option Elab.async false
set_option linter.all false
set_option maxRecDepth 100000
set_option maxHeartbeats 1000000
/-! SZH: dicts of any keys; pairs of stands; books parted (k24, k25). -/
namespace MQ
open MP
open PySem (Str)
/-! ### dicts by keys of a type -/
structure KeyD {κ : Type} [DecidableEq κ] (kd : κ → D) : Prop where
  key : ∀ k, isKey true (kd k) = true
  eq : ∀ a c, deq (kd a) (kd c) = decide (a = c)
section
variable {κ : Type} [DecidableEq κ] {kd : κ → D}
def kOd (kd : κ → D) (e : List (κ × D)) : O := .od true (e.map fun p => kd p.1) (e.map fun p => .sh p.2)
def putK (s : κ) (v : D) : List (κ × D) → List (κ × D)
  | [] => [(s, v)]
  | p :: r => if p.1 = s then (p.1, v) :: r else p :: putK s v r
theorem put_kOd (hk : KeyD kd) (s : κ) (v : D) : ∀ e : List (κ × D), keyPut (kd s) (.sh v) (e.map fun p => kd p.1) (e.map fun p => .sh p.2) = ((putK s v e).map (fun p => kd p.1), (putK s v e).map fun p => O.sh p.2)
  | [] => rfl
  | p :: r => by
    simp only [List.map_cons, keyPut, putK, hk.eq, put_kOd hk s v r]
    by_cases h : p.1 = s <;> simp [h]
theorem set_kOd (hk : KeyD kd) (e : List (κ × D)) (s : κ) (v : D) (h : e.length < 16777216) : setO (kOd kd e) (kd s) (.sh v) = some (kOd kd (putK s v e)) := by
  have h0 : setO (kOd kd e) (kd s) (.sh v) = if isKey true (kd s) && decide ((e.map fun p => kd p.1).length < LIM) then some (.od true (keyPut (kd s) (.sh v) (e.map fun p => kd p.1) (e.map fun p => .sh p.2)).1 (keyPut (kd s) (.sh v) (e.map fun p => kd p.1) (e.map fun p => .sh p.2)).2) else none := by
    unfold kOd
    cases kd s <;> rfl
  have hl : (e.map fun p : κ × D => kd p.1).length < LIM := by rw [List.length_map]; exact h
  rw [h0, hk.key, decide_eq_true hl, put_kOd hk]
  rfl
theorem put_lenK (s : κ) (v : D) : ∀ e : List (κ × D), (putK s v e).length ≤ e.length + 1
  | [] => by simp [putK]
  | p :: r => by
    simp only [putK]
    split
    · simp
    · have := put_lenK s v r
      simp only [List.length_cons]
      omega
end
/-! ### pairs -/
abbrev PP : Type := Option Sd × Option Sd
def ppD (p : PP) : D := .tup [optD p.1, optD p.2]
theorem deq_opt (a c : Option Sd) : deq (optD a) (optD c) = decide (a = c) := by
  cases a with
  | none => cases c with
    | none => rfl
    | some s => rfl
  | some s => cases c with
    | none => rfl
    | some t =>
      show deq s.d t.d = _
      rw [deq_Sd]
      by_cases h : s = t <;> simp [h]
theorem keyT_opt (a : Option Sd) : keyT 6 (optD a) = true := by
  cases a with
  | none => rfl
  | some s =>
    have h1 := keyTs_int 4 s.waits
    have h2 := keyTs_bl 4 s.met
    show keyT 6 s.d = true
    unfold Sd.d
    simp only [keyT, keyTs, h1, h2, Bool.and_self]
theorem pp_key : KeyD ppD := ⟨fun p => by
  have h1 := keyT_opt p.1
  have h2 := keyT_opt p.2
  show keyTs 6 [optD p.1, optD p.2] = true
  simp only [keyTs, h1, h2, Bool.and_self], fun a c => by
  show deqs [optD a.1, optD a.2] [optD c.1, optD c.2] = _
  simp only [deqs, deq_opt, Bool.and_true]
  obtain ⟨a1, a2⟩ := a
  obtain ⟨c1, c2⟩ := c
  by_cases h1 : a1 = c1 <;> by_cases h2 : a2 = c2 <;> simp [h1, h2]⟩
/-- what fits two books, at a place -/
structure PFit (b c : Bk) (n : Int) (p : PP) : Prop where
  one : ∀ s, p.1 = some s → s.Fits b ∧ s.place = n
  two : ∀ s, p.2 = some s → s.Fits c ∧ s.place = n
def step2 (b c : Bk) (p : PP) (k : Int) : PP := (p.1.bind fun s => stepM b s k, p.2.bind fun s => stepM c s k)
def noPP : PP := (none, none)
theorem PFit.step {b c : Bk} {n : Int} {p : PP} {k : Int} (h : PFit b c n p) (hb : 0 ≤ k ∧ k < b.kinds.length) (hc : 0 ≤ k ∧ k < c.kinds.length) : PFit b c (n + 1) (step2 b c p k) := by
  refine ⟨fun s hs => ?_, fun s hs => ?_⟩
  · obtain ⟨t, ht, hst⟩ := Option.bind_eq_some_iff.mp hs
    obtain ⟨h1, h2⟩ := h.one t ht
    exact ⟨h1.step hb hst, by rw [(step_place hst).1, h2]⟩
  · obtain ⟨t, ht, hst⟩ := Option.bind_eq_some_iff.mp hs
    obtain ⟨h1, h2⟩ := h.two t ht
    exact ⟨h1.step hc hst, by rw [(step_place hst).1, h2]⟩
def Sp.led_both (F : DF) : Prop := ∀ (b c : Bk) (n : Int) (p : PP) (k : Int), b.Ok → c.Ok → PFit b c n p → (0 ≤ k ∧ k < b.kinds.length) → (0 ≤ k ∧ k < c.kinds.length) → F [b.r, c.r, ppD p, .int k] [] = .ok (.sh (ppD (step2 b c p k))) []
/-- two books of like size and count of kinds -/
structure Like (b c : Bk) : Prop where
  one : b.Ok
  two : c.Ok
  size : c.size = b.size
  many : c.kinds.length = b.kinds.length
def nextP (b c : Bk) (p : PP) : List PP := (List.range b.kinds.length).filterMap fun k : Nat => if step2 b c p (k : Int) = noPP then none else some (step2 b c p (k : Int))
theorem nextP_len (b c : Bk) (p : PP) : (nextP b c p).length ≤ b.kinds.length := by
  have h := List.length_filterMap_le (fun k : Nat => if step2 b c p (k : Int) = noPP then none else some (step2 b c p (k : Int))) (List.range b.kinds.length)
  rw [List.length_range] at h
  exact h
def keysP (e : List (PP × D)) (l : List PP) : List (PP × D) := l.foldl (fun e s => putK s (.bl true) e) e
def dP (l : List PP) : List D := l.map ppD
theorem keysP_len : ∀ (l : List PP) (e : List (PP × D)), (keysP e l).length ≤ e.length + l.length
  | [], e => by simp [keysP]
  | s :: l, e => by
    have h1 := keysP_len l (putK s (.bl true) e)
    have h2 := put_lenK s (.bl true) e
    show (keysP (putK s (.bl true) e) l).length ≤ _
    simp only [List.length_cons]
    omega
theorem ne_noPP (p : PP) : cmpD .ne (ppD p) (.tup [.non, .non]) = some (!decide (p = noPP)) := by
  have h : cmpD .ne (ppD p) (ppD noPP) = (if wf 8 (ppD p) && wf 8 (ppD noPP) then some (deq (ppD p) (ppD noPP)) else elsD (ppD p) (ppD noPP)).map (!·) := rfl
  have w : ∀ o : Option Sd, wf 7 (optD o) = true := fun o => by
    cases o with
    | none => rfl
    | some s => exact wf_Sd 4 s
  have w2 : ∀ p : PP, wf 8 (ppD p) = true := fun p => by
    show wfs 7 [optD p.1, optD p.2] = true
    simp only [wfs, w, Bool.and_self]
  have h2 : cmpD .ne (ppD p) (.tup [.non, .non]) = cmpD .ne (ppD p) (ppD noPP) := rfl
  rw [h2, h, w2, w2, pp_key.eq]
  rfl
theorem nextP_fold (b c : Bk) (p : PP) (e : List (PP × D)) : keysP e (nextP b c p) = (List.range b.kinds.length).foldl (fun e (k : Nat) => if step2 b c p (k : Int) = noPP then e else putK (step2 b c p (k : Int)) (.bl true) e) e := by
  unfold keysP nextP
  rw [List.foldl_filterMap]
  congr 1
  funext e k
  by_cases h : step2 b c p (k : Int) = noPP <;> simp [h]
theorem pl1 (Φ : Fns) (g : Sp.led_both (Φ "led_both")) {b c : Bk} (hl : Like b c) (X R Z : Sl) (n : Int) (p : PP) (hp : PFit b c n p) (e : List (PP × D)) (h : e.length + 4 < 16777216) :
    forRun (.nm 6) (evSs Φ T.b_pair_levels_1) ((List.range b.kinds.length).map fun k : Nat => D.int k) [.va b.r, .va c.r, R, Z, .ow (kOd ppD e), .va (ppD p), .no, .no] [] = .nx [.va b.r, .va c.r, R, Z, .ow (kOd ppD (keysP e (nextP b c p))), .va (ppD p), .no, .no] [] := by
  have hm := hl.one.many
  have := loop_fold (tg := .nm 6) (f := evSs Φ T.b_pair_levels_1) (fun e => [.va b.r, .va c.r, R, Z, .ow (kOd ppD e), .va (ppD p), .no, .no]) (fun k : Nat => D.int k) (fun e (k : Nat) => if step2 b c p (k : Int) = noPP then e else putK (step2 b c p (k : Int)) (.bl true) e) (fun pre e' => e'.length ≤ e.length + pre.length) (List.range b.kinds.length) e (by simp) fun pre k post hs e' he' => by
    obtain ⟨q1, q2⟩ := range_at hs
    have e1 := g b c n p k hl.one hl.two hp ⟨by omega, by omega⟩ ⟨by omega, by rw [hl.many]; omega⟩
    have hne := ne_noPP (step2 b c p (k : Int))
    by_cases hc : step2 b c p (k : Int) = noPP
    · rw [decide_eq_true hc] at hne
      rw [if_pos hc]
      refine ⟨?_, by simp only [List.length_append, List.length_cons, List.length_nil]; omega⟩
      simp only [seval, sev, T.b_pair_levels_1, e1, hne]
    · rw [decide_eq_false hc] at hne
      rw [if_neg hc]
      have hset := set_kOd pp_key e' (step2 b c p (k : Int)) (.bl true) (by omega)
      have hpl := put_lenK (step2 b c p (k : Int)) (.bl true) e'
      refine ⟨?_, by simp only [List.length_append, List.length_cons, List.length_nil]; omega⟩
      simp only [seval, sev, T.b_pair_levels_1, e1, hne, hset]
  rw [nextP_fold]
  exact this.1
theorem pl2 (Φ : Fns) (g0 : Sp.Rules_many (Φ "Rules.many")) (g : Sp.led_both (Φ "led_both")) {b c : Bk} (hl : Like b c) (R Z : Sl) (n : Int) (l : List PP) (hp : ∀ p ∈ l, PFit b c n p) (h : l.length * 4 + 4 < 16777216) :
    forRun (.nm 5) (evSs Φ T.b_pair_levels_2) (dP l) [.va b.r, .va c.r, R, Z, .ow (kOd ppD []), .no, .no, .no] [] = .nx [.va b.r, .va c.r, R, Z, .ow (kOd ppD (keysP [] (l.flatMap (nextP b c)))), .no, .no, .no] [] := by
  have hm := hl.one.many
  have e0 := g0 b
  have hrk := rng1_eq (n := (b.kinds.length : Int)) (by omega)
  rw [show ((b.kinds.length : Int).toNat) = b.kinds.length from by simp] at hrk
  have := loop_fold (tg := .nm 5) (f := evSs Φ T.b_pair_levels_2) (fun e => [.va b.r, .va c.r, R, Z, .ow (kOd ppD e), .no, .no, .no]) ppD (fun e p => keysP e (nextP b c p)) (fun pre e' => e'.length ≤ pre.length * 4) l [] (by simp) fun pre a post hs e' he' => by
    subst hs
    simp only [List.length_append, List.length_cons] at h
    have hn := nextP_len b c a
    have f := pl1 Φ g hl .no R Z n a (hp a (by simp)) e' (by omega)
    have hk := keysP_len (nextP b c a) e'
    refine ⟨?_, by simp only [List.length_append, List.length_cons, List.length_nil]; omega⟩
    simp only [seval, sev, T.b_pair_levels_2, e0, hrk, f]
  rw [show keysP [] (l.flatMap (nextP b c)) = l.foldl (fun e p => keysP e (nextP b c p)) [] from by unfold keysP; rw [List.foldl_flatMap]]
  exact this.1
end MQ
/-! SZI -/
set_option Elab.async false
set_option linter.all false
set_option maxRecDepth 100000
set_option maxHeartbeats 1000000
/-! SZI: which pairs lead to unlike sheets; parted (k24, k25). -/
namespace MQ
open MP
open PySem (Str)
end MQ
/-! SZJ -/
set_option Elab.async false
set_option linter.all false
set_option maxRecDepth 100000
set_option maxHeartbeats 1000000
/-! SZJ: the table of unlike pairs; parted (k24, k25). -/
namespace MQ
open MP
open PySem (Str)
/-! ### parted -/
end MQ
/-! SZK -/
set_option Elab.async false
set_option linter.all false
set_option maxRecDepth 100000
set_option maxHeartbeats 1000000
/-! SZK: what parts two books, in plain terms (k24, k25). -/
namespace MQ
open MP
open PySem (Str)
theorem Like.kinds {b c : Bk} (hl : Like b c) (x : List Int) : Kinds b x ↔ Kinds c x := by
  unfold Kinds
  rw [hl.many]
end MQ
/-! SZL -/
set_option Elab.async false
set_option linter.all false
set_option maxRecDepth 100000
set_option maxHeartbeats 1000000
/-! SZL: two books of numbers (k24, k25). -/
namespace MQ
open MP
open PySem (Str)
theorem okB_i3 (l : List T3) : okB (.ol ((l.map i3).map .sh)) = true := by
  show okBs ((l.map i3).map .sh) = true
  induction l with
  | nil => rfl
  | cons a l ih =>
    simp only [List.map_cons, okBs, ih, Bool.and_true]
    rfl
end MQ
/-! SZM -/
set_option Elab.async false
set_option linter.all false
set_option maxRecDepth 100000
set_option maxHeartbeats 1000000
/-! SZM: law k25. -/
namespace MQ
open MP
open PySem (Str)
end MQ
/-! SZN -/
set_option Elab.async false
set_option linter.all false
set_option maxRecDepth 100000
set_option maxHeartbeats 1000000
/-! SZN: law k28. -/
namespace MQ
open MP
open PySem (Str)
end MQ
/-! SZO -/
set_option Elab.async false
set_option linter.all false
set_option maxRecDepth 100000
set_option maxHeartbeats 1000000
/-! SZO: law k20. -/
namespace MQ
open MP
open PySem (Str)
end MQ
/-! SZP -/
set_option Elab.async false
set_option linter.all false
set_option maxRecDepth 100000
set_option maxHeartbeats 1000000
/-! SZP: law k04. -/
namespace MQ
open MP
open PySem (Str)
/-! ### tables -/
/-! ### what the rows are -/
end MQ
/-! SZQ -/
set_option Elab.async false
set_option linter.all false
set_option maxRecDepth 100000
set_option maxHeartbeats 1000000
/-! SZQ: law k04. -/
namespace MQ
open MP
open PySem (Str)
end MQ
/-! SZT -/
set_option Elab.async false
set_option linter.all false
set_option maxRecDepth 100000
set_option maxHeartbeats 1000000
/-! SZT: places, to reckon; tables of lists of one's own. -/
namespace MQ
open MP
open PySem (Str)
/-! ### places of one's own -/
end MQ
/-! SZU -/
set_option Elab.async false
set_option linter.all false
set_option maxRecDepth 100000
set_option maxHeartbeats 1000000
/-! SZU: law k14. -/
namespace MQ
open MP
open PySem (Str)
/-! ### the law's own check -/
end MQ
/-! SZV -/
set_option Elab.async false
set_option linter.all false
set_option maxRecDepth 100000
set_option maxHeartbeats 1000000
/-! SZV: law k16. -/
namespace MQ
open MP
open PySem (Str)
/-! ### the law's own rows, in lists of one's own -/
/-! ### a table that holds has no whole way on -/
/-- a table that can be looked at -/
structure TOk (b : Bk) (m : Nat) (T : List (List Sd)) : Prop where
  fits : ∀ l ∈ T, ∀ s ∈ l, s.Fits b
  len : T.length ≤ 31 + m
  few : ∀ l ∈ T, l.length ≤ 500000 + m
theorem TOk.up {b : Bk} {m m' : Nat} {T : List (List Sd)} (h : TOk b m T) (hm : m ≤ m') : TOk b m' T := ⟨h.fits, by have := h.len; omega, fun l hl => by have := h.few l hl; omega⟩
end MQ
/-! SZW -/
set_option Elab.async false
set_option linter.all false
set_option maxRecDepth 100000
set_option maxHeartbeats 1000000
/-! SZW: law k24. -/
namespace MQ
open MP
open PySem (Str)
/-! ### the sheets of two books -/
theorem Like.symm {b c : Bk} (h : Like b c) : Like c b := ⟨h.two, h.one, h.size.symm, h.many.symm⟩
end MQ
/-! SZX -/
set_option Elab.async false
set_option linter.all false
set_option maxRecDepth 100000
set_option maxHeartbeats 1000000
/-! SZX: pairs of stands and prices; what shows that nothing is cheaper. -/
namespace MQ
open MP
open PySem (Str)
/-! ### dicts of stands with numbers -/
abbrev PT := List (Sd × Int)
/-! ### what a table of prices shows -/
/-- stands of the form, at places of the sheet -/
def FitP (b : Bk) (l : PT) : Prop := ∀ p ∈ l, p.1.Fits b ∧ 0 ≤ p.1.place ∧ p.1.place ≤ b.size
/-! ### the program's texts -/
end MQ
/-! SZY -/
set_option Elab.async false
set_option linter.all false
set_option maxRecDepth 100000
set_option maxHeartbeats 1000000
/-! SZY: law k18. -/
namespace MQ
open MP
open PySem (Str)
/-! ### the law's texts -/
end MQ
/-! SZZ -/
set_option Elab.async false
set_option linter.all false
set_option maxRecDepth 100000
set_option maxHeartbeats 1000000
/-! SZZ: law k15. -/
namespace MQ
open MP
open PySem (Str)
/-- a def that leaves the common cells alone -/
def Sp.hid (F : DF) : Prop := ∀ (ds : List D) (x : O) (l : List O), F ds (x :: l) = if noCs ds then hideR (F ds []) (x :: l) else .bad
theorem Sp.hid.ok {F : DF} (h : Sp.hid F) {ds : List D} {o : O} {x : O} {l : List O} (hn : noCs ds = true) (e : F ds [] = .ok o []) : F ds (x :: l) = .ok o (x :: l) := by
  rw [h, if_pos hn, e]
  rfl
/-! ### a stand with one field changed -/
/-! ### rows of one's own, changed -/
/-! ### a table spoilt -/
theorem TOk.set {b : Bk} {m : Nat} {T : List (List Sd)} (h : TOk b m T) (n : Nat) {l : List Sd} (hf : ∀ s ∈ l, s.Fits b) (hl : l.length ≤ 500000 + (m + 1)) : TOk b (m + 1) (T.set n l) :=
  ⟨fun l' hl' => (List.mem_or_eq_of_mem_set hl').elim (h.fits l') (fun z => z ▸ hf), by rw [List.length_set]; have := h.len; omega, fun l' hl' => (List.mem_or_eq_of_mem_set hl').elim (fun z => by have := h.few l' z; omega) (fun z => z ▸ hl)⟩
theorem lcRunO_map {f : D → List O → Rs O} {α : Type} (r : α → D) (g : α → O) : ∀ (l : List α), (∀ a ∈ l, f (r a) [] = .ok (g a) []) → lcRunO f (l.map r) [] = .ok (l.map g) []
  | [], _ => rfl
  | a :: l, h => by
    rw [List.map_cons, List.map_cons]
    unfold lcRunO
    rw [h a List.mem_cons_self, Rs.bind_ok, lcRunO_map r g l fun b hb => h b (List.mem_cons_of_mem _ hb)]
    rfl
def lcGO (Φ : Fns) (ρ : List Sl) (elt : E) (tg : T) (d : D) (μ : List O) : Rs O := match setT tg d (drops ρ (tgN tg)) with
  | some ρ1 => (evE Φ elt ρ1 μ).calm
  | none => .bad
theorem lcO_run {Φ : Fns} {ρ : List Sl} {elt it : E} {tg : T} {x : O} {α : Type} (r : α → D) (g : α → O) (l : List α) (hi : evE Φ it ρ [] = .ok x []) (hx : itD (fz x) = some (l.map r)) (hn : l.length ≤ LIM) (h : ∀ a ∈ l, ∃ ρ1, setT tg (r a) (drops ρ (tgN tg)) = some ρ1 ∧ evE Φ elt ρ1 [] = .ok (g a) []) : evE Φ (.lcO elt tg it) ρ [] = .ok (.ol (l.map g)) [] := by
  have e : evE Φ (.lcO elt tg it) ρ [] = (evE Φ it ρ []).bind fun x μ1 => (match itD (fz x) with
    | some ds => if ds.length ≤ LIM then (lcRunO (lcGO Φ ρ elt tg) ds μ1).bind fun xs μ2 => .ok (.ol xs) μ2 else .bad
    | none => .bad) := by first | rfl | (simp only [evE]; done) | (simp only [evE]; rfl)
  rw [e, hi, Rs.bind_ok, hx]
  simp only [List.length_map, if_pos hn]
  rw [lcRunO_map r g l fun a ha => by
    obtain ⟨ρ1, k1, k2⟩ := h a ha
    unfold lcGO
    rw [k1]
    simp only [k2]
    rfl]
  rfl
end MQ
/-! SZZA -/
set_option Elab.async false
set_option linter.all false
set_option maxRecDepth 100000
set_option maxHeartbeats 1000000
/-! SZZA: law k19. -/
namespace MQ
open MP
open PySem (Str)
/-! ### the law's own prices -/
/-! ### prices spoilt -/
structure POk (b : Bk) (m : Nat) (P : List PT) : Prop where
  fits : ∀ l ∈ P, FitP b l
  len : P.length ≤ 31 + m
  few : ∀ l ∈ P, l.length ≤ 500000 + m
theorem POk.up {b : Bk} {m m' : Nat} {P : List PT} (h : POk b m P) (hm : m ≤ m') : POk b m' P := ⟨h.fits, by have := h.len; omega, fun l hl => by have := h.few l hl; omega⟩
theorem POk.set {b : Bk} {m : Nat} {P : List PT} (h : POk b m P) (n : Nat) {l : PT} (hf : FitP b l) (hl : l.length ≤ 500000 + (m + 1)) : POk b (m + 1) (P.set n l) :=
  ⟨fun l' hl' => (List.mem_or_eq_of_mem_set hl').elim (h.fits l') (fun z => z ▸ hf), by rw [List.length_set]; have := h.len; omega, fun l' hl' => (List.mem_or_eq_of_mem_set hl').elim (fun z => by have := h.few l' z; omega) (fun z => z ▸ hl)⟩
theorem ne_same {d : D} {a : List D} (hd : d = .lst a) (w : wf 8 d = true) (h : deq d d = true) : cmpD .ne d d = some false := by
  subst hd
  have e : cmpD .ne (.lst a) (.lst a) = (if wf 8 (.lst a) && wf 8 (.lst a) then some (deq (.lst a) (.lst a)) else elsD (.lst a) (.lst a)).map (!·) := rfl
  rw [e, w, h]
  rfl
theorem deqs_same {α : Type} {f : α → D} (h : ∀ a, deq (f a) (f a) = true) : ∀ l : List α, deqs (l.map f) (l.map f) = true
  | [] => rfl
  | a :: l => by
    show (deq (f a) (f a) && deqs (l.map f) (l.map f)) = true
    rw [h a, deqs_same h l]
    rfl
theorem wfs_map {α : Type} {f : α → D} {n : Nat} (h : ∀ a, wf n (f a) = true) : ∀ l : List α, wfs n (l.map f) = true
  | [] => rfl
  | a :: l => by
    rw [List.map_cons]
    unfold wfs
    rw [h a, wfs_map h l]
    rfl
end MQ
/-! SZR -/
set_option Elab.async false
set_option linter.all false
set_option maxRecDepth 100000
set_option maxHeartbeats 1000000
/-! SZR: law k02. -/
namespace MQ
open MP
open PySem (Str)
/-! ### lists within a list of one's own, to reckon -/
def kA4 (i : Nat) (ρ : List Sl) (l : List O) (p : Nat × List O) (x : O) (μ : List O) : Fl := if p.2.length < LIM then .nx (ρ.set i (.ow (.ol (l.set p.1 (.ol (p.2 ++ [.sh (fz x)])))))) μ else .bad
def kA3 (Φ : Fns) (i : Nat) (e : E) (ρ : List Sl) (l : List O) (μ : List O) : Option (Nat × List O) → Fl
  | some p => (evE Φ e ρ μ).go ρ (kA4 i ρ l p)
  | none => .bad
def kA2 (Φ : Fns) (i : Nat) (e : E) (ρ : List Sl) (l : List O) (y : O) (μ : List O) : Fl := kA3 Φ i e ρ l μ (inOwn l (fz y))
def kA1 (Φ : Fns) (i : Nat) (k e : E) (ρ : List Sl) (μ : List O) : Option (List O) → Fl
  | some l => (evE Φ k ρ μ).go ρ (kA2 Φ i e ρ l)
  | none => .bad
theorem w_appx (Φ : Fns) (ρ : List Sl) (μ : List O) (i : Nat) (k e : E) : evS Φ (.appx i k e) ρ μ = kA1 Φ i k e ρ μ (ownS ρ[i]?) := by
  simp only [evS, ownL_eq]
  cases ownS ρ[i]? with
  | none => rfl
  | some l =>
    simp only [kA1]
    refine congrArg _ (funext fun y => funext fun μ1 => ?_)
    unfold kA2
    cases inOwn l (fz y) <;> rfl
def kX4 (i : Nat) (ρ : List Sl) (l : List O) (p : Nat × List O) (x u : O) (μ : List O) : Fl := match fz u with
  | .int j => (match ixN p.2.length j with
    | some n => .nx (ρ.set i (.ow (.ol (l.set p.1 (.ol (p.2.set n (.sh (fz x)))))))) μ
    | none => .bad)
  | _ => .bad
def kX3 (Φ : Fns) (i : Nat) (k2 : E) (ρ : List Sl) (l : List O) (x : O) (μ : List O) : Option (Nat × List O) → Fl
  | some p => (evE Φ k2 ρ μ).go ρ (kX4 i ρ l p x)
  | none => .bad
def kX2 (Φ : Fns) (i : Nat) (k2 : E) (ρ : List Sl) (l : List O) (x y : O) (μ : List O) : Fl := kX3 Φ i k2 ρ l x μ (inOwn l (fz y))
def kX1 (Φ : Fns) (i : Nat) (k1 k2 : E) (ρ : List Sl) (x : O) (μ : List O) : Option (List O) → Fl
  | some l => (evE Φ k1 ρ μ).go ρ (kX2 Φ i k2 ρ l x)
  | none => .bad
def kX0 (Φ : Fns) (i : Nat) (k1 k2 : E) (ρ : List Sl) (x : O) (μ : List O) : Fl := kX1 Φ i k1 k2 ρ x μ (ownS ρ[i]?)
theorem w_setxx (Φ : Fns) (ρ : List Sl) (μ : List O) (i : Nat) (k1 k2 e : E) : evS Φ (.setxx i k1 k2 e) ρ μ = (evE Φ e ρ μ).go ρ (kX0 Φ i k1 k2 ρ) := by
  simp only [evS]
  refine congrArg _ (funext fun x => funext fun μ1 => ?_)
  unfold kX0
  rw [← ownL_eq]
  unfold ownL
  cases ρ[i]? with
  | none => rfl
  | some s =>
    cases s with
    | ow o =>
      cases o with
      | ol l =>
        simp only [kX1]
        refine congrArg _ (funext fun y => funext fun μ2 => ?_)
        unfold kX2
        cases inOwn l (fz y) with
        | none => rfl
        | some p =>
          simp only [kX3]
          refine congrArg _ (funext fun u => funext fun μ3 => ?_)
          rfl
      | _ => rfl
    | _ => rfl
theorem k_A1 (Φ : Fns) (i : Nat) (k e : E) (ρ : List Sl) (μ l : List O) : kA1 Φ i k e ρ μ (some l) = (evE Φ k ρ μ).go ρ (kA2 Φ i e ρ l) := rfl
theorem k_A2 (Φ : Fns) (i : Nat) (e : E) (ρ : List Sl) (l : List O) (d : D) (μ : List O) : kA2 Φ i e ρ l (.sh d) μ = kA3 Φ i e ρ l μ (inOwn l d) := rfl
theorem k_A3 (Φ : Fns) (i : Nat) (e : E) (ρ : List Sl) (l μ : List O) (p : Nat × List O) : kA3 Φ i e ρ l μ (some p) = (evE Φ e ρ μ).go ρ (kA4 i ρ l p) := rfl
theorem k_A4 (i : Nat) (ρ : List Sl) (l : List O) (n : Nat) (m : List O) (x : O) (μ : List O) : kA4 i ρ l (n, m) x μ = if m.length < LIM then .nx (ρ.set i (.ow (.ol (l.set n (.ol (m ++ [.sh (fz x)])))))) μ else .bad := rfl
theorem k_X0 (Φ : Fns) (i : Nat) (k1 k2 : E) (ρ : List Sl) (x : O) (μ : List O) : kX0 Φ i k1 k2 ρ x μ = kX1 Φ i k1 k2 ρ x μ (ownS ρ[i]?) := rfl
theorem k_X1 (Φ : Fns) (i : Nat) (k1 k2 : E) (ρ : List Sl) (x : O) (μ l : List O) : kX1 Φ i k1 k2 ρ x μ (some l) = (evE Φ k1 ρ μ).go ρ (kX2 Φ i k2 ρ l x) := rfl
theorem k_X2 (Φ : Fns) (i : Nat) (k2 : E) (ρ : List Sl) (l : List O) (x : O) (d : D) (μ : List O) : kX2 Φ i k2 ρ l x (.sh d) μ = kX3 Φ i k2 ρ l x μ (inOwn l d) := rfl
theorem k_X3 (Φ : Fns) (i : Nat) (k2 : E) (ρ : List Sl) (l : List O) (x : O) (μ : List O) (p : Nat × List O) : kX3 Φ i k2 ρ l x μ (some p) = (evE Φ k2 ρ μ).go ρ (kX4 i ρ l p x) := rfl
theorem k_oS (l : List O) : ownS (some (.ow (.ol l))) = some l := rfl
theorem k_ok (l : List O) : okB (.ol l) = okBs l := rfl
theorem k_ok0 : okBs [] = true := rfl
theorem k_ok1 (o : O) (l : List O) : okBs (o :: l) = (okB o && okBs l) := rfl
abbrev SevX : Prop := (∀ (Φ : Fns) (ρ : List Sl) (μ : List O) (i : Nat) (k e : E), evS Φ (.appx i k e) ρ μ = kA1 Φ i k e ρ μ (ownS ρ[i]?)) ∧
  (∀ (Φ : Fns) (ρ : List Sl) (μ : List O) (i : Nat) (k1 k2 e : E), evS Φ (.setxx i k1 k2 e) ρ μ = (evE Φ e ρ μ).go ρ (kX0 Φ i k1 k2 ρ)) ∧
  (∀ (Φ : Fns) (i : Nat) (k e : E) (ρ : List Sl) (μ l : List O), kA1 Φ i k e ρ μ (some l) = (evE Φ k ρ μ).go ρ (kA2 Φ i e ρ l)) ∧
  (∀ (Φ : Fns) (i : Nat) (e : E) (ρ : List Sl) (l : List O) (d : D) (μ : List O), kA2 Φ i e ρ l (.sh d) μ = kA3 Φ i e ρ l μ (inOwn l d)) ∧
  (∀ (Φ : Fns) (i : Nat) (e : E) (ρ : List Sl) (l μ : List O) (p : Nat × List O), kA3 Φ i e ρ l μ (some p) = (evE Φ e ρ μ).go ρ (kA4 i ρ l p)) ∧
  (∀ (i : Nat) (ρ : List Sl) (l : List O) (n : Nat) (m : List O) (x : O) (μ : List O), kA4 i ρ l (n, m) x μ = if m.length < LIM then .nx (ρ.set i (.ow (.ol (l.set n (.ol (m ++ [.sh (fz x)])))))) μ else .bad) ∧
  (∀ (Φ : Fns) (i : Nat) (k1 k2 : E) (ρ : List Sl) (x : O) (μ : List O), kX0 Φ i k1 k2 ρ x μ = kX1 Φ i k1 k2 ρ x μ (ownS ρ[i]?)) ∧
  (∀ (Φ : Fns) (i : Nat) (k1 k2 : E) (ρ : List Sl) (x : O) (μ l : List O), kX1 Φ i k1 k2 ρ x μ (some l) = (evE Φ k1 ρ μ).go ρ (kX2 Φ i k2 ρ l x)) ∧
  (∀ (Φ : Fns) (i : Nat) (k2 : E) (ρ : List Sl) (l : List O) (x : O) (d : D) (μ : List O), kX2 Φ i k2 ρ l x (.sh d) μ = kX3 Φ i k2 ρ l x μ (inOwn l d)) ∧
  (∀ (Φ : Fns) (i : Nat) (k2 : E) (ρ : List Sl) (l : List O) (x : O) (μ : List O) (p : Nat × List O), kX3 Φ i k2 ρ l x μ (some p) = (evE Φ k2 ρ μ).go ρ (kX4 i ρ l p x)) ∧
  (∀ l : List O, ownS (some (.ow (.ol l))) = some l) ∧ (∀ l : List O, okB (.ol l) = okBs l) ∧ (okBs [] = true) ∧ (∀ (o : O) (l : List O), okBs (o :: l) = (okB o && okBs l))
theorem sevX : SevX := ⟨w_appx, w_setxx, k_A1, k_A2, k_A3, k_A4, k_X0, k_X1, k_X2, k_X3, k_oS, k_ok, k_ok0, k_ok1⟩
/-! ### a spoilt book -/
/-- a book as a list -/
def Bk.l (b : Bk) : D := .lst [.int b.size, L3 b.kinds, L3 b.shuns, L3 b.bars, L3 b.dues]
/-! ### what is good -/
end MQ
/-! SZS -/
set_option Elab.async false
set_option linter.all false
set_option maxRecDepth 100000
set_option maxHeartbeats 1000000
/-! SZS: law k02. -/
namespace MQ
open MP
open PySem (Str)
end MQ
/-! SZZB -/
set_option Elab.async false
set_option linter.all false
set_option maxRecDepth 100000
set_option maxHeartbeats 1000000
/-! SZZB: law k01. -/
namespace MQ
open MP
open PySem (Str)
/-! ### the wide book -/
def leastW (d : List Int) (k : Nat) : Int := 1 + nth0 d (2 + k) % 4
def kindW (d : List Int) (k : Nat) : T3 := (leastW d k, leastW d k + nth0 d (6 + k) % (5 - leastW d k), nth0 d (10 + k) % 5)
def shunWd (d : List Int) (many : Int) (k : Nat) : T3 := (nth0 d (20 + 3 * k) % many, nth0 d (21 + 3 * k) % many, 1 + nth0 d (22 + 3 * k) % 2)
def manyW (d : List Int) : Int := 1 + nth0 d 0 % 4
def sizeW (d : List Int) : Int := 1 + nth0 d 1 % 30
def wideB (d : List Int) : Bk where
  size := sizeW d
  kinds := (List.range (manyW d).toNat).map (kindW d)
  shuns := (List.range (nth0 d 14 % 21).toNat).map (shunWd d (manyW d))
  bars := winsM (manyW d) (sizeW d) (nth0 d 15 % 13) (d.drop 80)
  dues := winsM (manyW d) (sizeW d) (nth0 d 16 % 4) (d.drop 116)
theorem manyW_rng (d : List Int) : 1 ≤ manyW d ∧ manyW d ≤ 4 := by
  have := mod_pos (nth0 d 0) (n := 4) (by omega)
  unfold manyW
  omega
theorem sizeW_rng (d : List Int) : 1 ≤ sizeW d ∧ sizeW d ≤ 30 := by
  have := mod_pos (nth0 d 1) (n := 30) (by omega)
  unfold sizeW
  omega
theorem leastW_rng (d : List Int) (k : Nat) : 1 ≤ leastW d k ∧ leastW d k ≤ 4 := by
  have := mod_pos (nth0 d (2 + k)) (n := 4) (by omega)
  unfold leastW
  omega
theorem wideB_ok (d : List Int) : (wideB d).Ok := by
  have hs := sizeW_rng d
  have hm := manyW_rng d
  have hn : ((wideB d).kinds.length : Int) = manyW d := by simp [wideB]; omega
  refine ⟨?_, ?_, ?_, ?_, ?_, ?_, ?_, ?_, ?_⟩
  · simp only [wideB]; omega
  · omega
  · intro t ht
    obtain ⟨k, _, rfl⟩ := List.mem_map.mp ht
    have := leastW_rng d k
    have := mod_pos (nth0 d (6 + k)) (n := 5 - leastW d k) (by omega)
    have := mod_pos (nth0 d (10 + k)) (n := 5) (by omega)
    simp only [kindW]
    omega
  · have := mod_pos (nth0 d 14) (n := 21) (by omega)
    simp [wideB]; omega
  · intro t ht
    rw [hn]
    obtain ⟨k, _, rfl⟩ := List.mem_map.mp ht
    simp only [shunWd]
    have := mod_pos (nth0 d (20 + 3 * k)) (n := manyW d) (by omega)
    have := mod_pos (nth0 d (21 + 3 * k)) (n := manyW d) (by omega)
    have := mod_pos (nth0 d (22 + 3 * k)) (n := 2) (by omega)
    omega
  · have := mod_pos (nth0 d 15) (n := 13) (by omega)
    simp [wideB, winsM]; omega
  · intro t ht
    rw [hn]
    obtain ⟨k, _, rfl⟩ := List.mem_map.mp ht
    exact winM_ok (by omega) (by show 1 ≤ sizeW d; omega)
  · have := mod_pos (nth0 d 16) (n := 4) (by omega)
    simp [wideB, winsM]; omega
  · intro t ht
    rw [hn]
    obtain ⟨k, _, rfl⟩ := List.mem_map.mp ht
    exact winM_ok (by omega) (by show 1 ≤ sizeW d; omega)
def Sp.l_wide_v2 (F : DF) : Prop := ∀ d : List Int, 130 ≤ d.length → ∃ o, F [iL d] [] = .ok o [] ∧ fz o = (wideB d).l
theorem t_l_wide_v2 (Φ : Fns) (g : Sp.l_windows (Φ "_law_windows")) : Sp.l_wide_v2 (T.f_l_wide_v2.run Φ) := fun d hd => by
  rw [run_eq rfl rfl]
  have hm := manyW_rng d
  have hs := sizeW_rng d
  have m0 := mod_pos (nth0 d 14) (n := 21) (by omega)
  have m1 := mod_pos (nth0 d 15) (n := 13) (by omega)
  have m2 := mod_pos (nth0 d 16) (n := 4) (by omega)
  have i0 := ix_ints (l := d) (k := 0) (by omega)
  have i1 := ix_ints (l := d) (k := 1) (by omega)
  have i14 := ix_ints (l := d) (k := 14) (by omega)
  have i15 := ix_ints (l := d) (k := 15) (by omega)
  have i16 := ix_ints (l := d) (k := 16) (by omega)
  have b0 := bin_mod (i := nth0 d 0) (j := 4) (by omega)
  have b1 := bin_mod (i := nth0 d 1) (j := 30) (by omega)
  have b14 := bin_mod (i := nth0 d 14) (j := 21) (by omega)
  have b15 := bin_mod (i := nth0 d 15) (j := 13) (by omega)
  have b16 := bin_mod (i := nth0 d 16) (j := 4) (by omega)
  have a0 : binD .add (.int 1) (.int (nth0 d 0 % 4)) = some (.sh (.int (manyW d))) := rfl
  have a1 : binD .add (.int 1) (.int (nth0 d 1 % 30)) = some (.sh (.int (sizeW d))) := rfl
  have w1 := g (manyW d) (sizeW d) (nth0 d 15 % 13) (d.drop 80) (by omega) (by omega) (by omega) (by rw [List.length_drop]; omega) (by omega)
  have w2 := g (manyW d) (sizeW d) (nth0 d 16 % 4) (d.drop 116) (by omega) (by omega) (by omega) (by rw [List.length_drop]; omega) (by omega)
  have c80 : cutD (iL d) (some 80) none = _ := cut_from d (k := 80) (by omega)
  have c116 : cutD (iL d) (some 116) none = _ := cut_from d (k := 116) (by omega)
  have r1 := rng1_eq (n := manyW d) (by omega)
  have r2 := rng1_eq (n := nth0 d 14 % 21) (by omega)
  have f1 := loop_map (tg := .nm 4) (f := evSs Φ T.b_l_wide_v2_1) (ρ := [Sl.va (iL d), Sl.va (.int (manyW d)), Sl.va (.int (sizeW d)), OwL [], .no, .no, .no, .no])
    3 (fun k : Nat => D.int k) (fun k => i3 (kindW d k)) (List.range (manyW d).toNat) [] rfl (by unfold LIM; simp; omega) fun k hk acc ha => by
      have hk' : (k : Int) < 4 := by have := List.mem_range.mp hk; omega
      have e2 := ix_ints (l := d) (k := 2 + k) (by omega)
      have e6 := ix_ints (l := d) (k := 6 + k) (by omega)
      have e10 := ix_ints (l := d) (k := 10 + k) (by omega)
      have hl := leastW_rng d k
      have hl2 : 1 + nth0 d (2 + k) % 4 < 5 := by unfold leastW at hl; omega
      simp [T.b_l_wide_v2_1, setT, bin_mod, bin_fdiv, e2, e6, e10, ha, kindW, leastW, i3, hl2]
  have f2 := loop_map (tg := .nm 4) (f := evSs Φ T.b_l_wide_v2_2) (ρ := [Sl.va (iL d), Sl.va (.int (manyW d)), Sl.va (.int (sizeW d)), Sl.va (L3 (wideB d).kinds), .no, OwL [], .no, .no])
    5 (fun k : Nat => D.int k) (fun k => i3 (shunWd d (manyW d) k)) (List.range (nth0 d 14 % 21).toNat) [] rfl (by unfold LIM; simp; omega) fun k hk acc ha => by
      have hk' : (k : Int) < 21 := by have := List.mem_range.mp hk; omega
      have e0 := ix_ints (l := d) (k := 20 + 3 * (k : Int)) (by omega)
      have e1 := ix_ints (l := d) (k := 21 + 3 * (k : Int)) (by omega)
      have e2 := ix_ints (l := d) (k := 22 + 3 * (k : Int)) (by omega)
      have c3 : 0 < manyW d := by omega
      have c4 : (-18446744073709551616 < (k : Int) ∧ (k : Int) < 18446744073709551616) := by omega
      simp [T.b_l_wide_v2_2, setT, bin_mod, bin_fdiv, bin_mulL, bin_mulR, c4, e0, e1, e2, ha, shunWd, i3, c3]
  have hL1 : D.lst ((List.range (manyW d).toNat).map fun k => i3 (kindW d k)) = L3 (wideB d).kinds := by simp [L3, wideB, Function.comp_def]
  have hL2 : D.lst ((List.range (nth0 d 14 % 21).toNat).map fun k => i3 (shunWd d (manyW d) k)) = L3 (wideB d).shuns := by simp [L3, wideB, Function.comp_def]
  have hL3 : fz (.ol (((winsM (manyW d) (sizeW d) (nth0 d 15 % 13) (d.drop 80)).map i3).map .sh)) = L3 (wideB d).bars := fz_ol_sh _
  have hL4 : fz (.ol (((winsM (manyW d) (sizeW d) (nth0 d 16 % 4) (d.drop 116)).map i3).map .sh)) = L3 (wideB d).dues := fz_ol_sh _
  have hB : (wideB d).l = .lst [.int (sizeW d), L3 (wideB d).kinds, L3 (wideB d).shuns, L3 (wideB d).bars, L3 (wideB d).dues] := rfl
  simp only [seval, sev, T.f_l_wide_v2, i0, i1, i14, i15, i16, b0, b1, b14, b15, b16, a0, a1, r1, f1, hL1, r2, f2, hL2, c80, iL_fold, w1, hL3, c116, w2, hL4]
  refine ⟨_, rfl, ?_⟩
  show D.lst [.int (sizeW d), L3 (wideB d).kinds, L3 (wideB d).shuns, L3 (wideB d).bars, fz (.ol (((winsM (manyW d) (sizeW d) (nth0 d 16 % 4) (d.drop 116)).map i3).map .sh))] = _
  rw [hL4]
  rfl
/-! ### Rules, its lists one's own -/
def o3 (l : List T3) : O := .ol ((l.map i3).map .sh)
theorem fz_o3 (l : List T3) : fz (o3 l) = L3 l := fz_ol_sh _
theorem okB_o3 (l : List T3) : okB (o3 l) = true := okB_i3 l
def oB (b : Bk) : O := .oi "Rules" ["size", "sorts", "apart", "closed", "wanted"] [.sh (.int b.size), o3 b.kinds, o3 b.shuns, o3 b.bars, o3 b.dues]
theorem fz_oB (b : Bk) : fz (oB b) = b.r := by
  show D.ins "Rules" _ [.int b.size, fz (o3 b.kinds), fz (o3 b.shuns), fz (o3 b.bars), fz (o3 b.dues)] = _
  rw [fz_o3, fz_o3, fz_o3, fz_o3]
  rfl
theorem okB_oB (b : Bk) : okB (oB b) = true := by
  show (okB (.sh (.int b.size)) && (okB (o3 b.kinds) && (okB (o3 b.shuns) && (okB (o3 b.bars) && (okB (o3 b.dues) && true))))) = true
  rw [okB_o3, okB_o3, okB_o3, okB_o3]
  rfl
theorem fsetO_at (Φ : Fns) (ρ : List Sl) (μ : List O) (c f : Str) (i : Nat) (e : E) : evS Φ (.fsetO c i f e) ρ μ = (evE Φ e ρ μ).go ρ fun x μ1 => (match ρ[i]? with
    | some (.ow o) => (match fputO c o f x with
      | some o1 => .nx (ρ.set i (.ow o1)) μ1
      | none => .bad)
    | _ => .bad) := by first | (simp only [evS]; done) | (simp only [evS]; rfl) | rfl
def Sp.Rules_init_v2 (F : DF) : Prop := ∀ b : Bk, b.Ok → F [.int b.size, L3 b.kinds, L3 b.shuns, L3 b.bars, L3 b.dues] [] = .ok (oB b) []
theorem t_Rules_init_v2 (Φ : Fns) (g1 : Sp.good_kinds (Φ "good_kinds")) (g2 : Sp.good_shuns (Φ "good_shuns")) (g3 : Sp.good_windows (Φ "good_windows")) : Sp.Rules_init_v2 (T.f_Rules_init_v2.run Φ) := fun b hb => by
  rw [run_init rfl rfl]
  have h1 := hb.many
  have h2 := hb.shunsN
  have h3 := hb.barsN
  have h4 := hb.duesN
  have hbs := hb.size
  have k1 : b.kinds.length ≤ LIM := by unfold LIM; omega
  have k2 : b.shuns.length ≤ LIM := by unfold LIM; omega
  have k3 : b.bars.length ≤ LIM := by unfold LIM; omega
  have k4 : b.dues.length ≤ LIM := by unfold LIM; omega
  have hg := (Bk.good_iff b).mpr hb
  unfold Bk.good at hg
  simp only [Bool.and_eq_true] at hg
  have q1 : 1 ≤ b.size := by omega
  have q2 : b.size ≤ 30 := by omega
  have q3 := hg.1.2.1
  have q4 := hg.1.2.2
  have q5 := hg.2.1
  have q6 := hg.2.2
  have e1 := g1 b.kinds
  have e2 := g2 b.shuns b.kinds.length
  have e3 := g3 b.bars b.kinds.length b.size 12
  have e4 := g3 b.dues b.kinds.length b.size 3
  have hL : ∀ l : List T3, D.lst (l.map i3) = L3 l := fun l => rfl
  simp [T.f_Rules_init_v2, fsetO_at, q1, q2, e1, q3, e2, q4, e3, q5, e4, q6, fputO, k1, k2, k3, k4, lc_tup, owS, oB, o3, hL, ne_sorts_size, ne_apart_size, ne_apart_sorts, ne_closed_size, ne_closed_sorts, ne_closed_apart, ne_wanted_size, ne_wanted_sorts, ne_wanted_apart, ne_wanted_closed]
def Sp.Rules_kinds (F : DF) : Prop := ∀ b : Bk, F [b.r] [] = .ok (o3 b.kinds) []
theorem t_Rules_kinds (Φ : Fns) : Sp.Rules_kinds (T.f_Rules_kinds.run Φ) := fun b => by
  rw [run_eq rfl rfl]
  have hf : fldD "Rules" b.r "sorts" = some (L3 b.kinds) := rfl
  have hl : biD .list [L3 b.kinds] = some (o3 b.kinds) := rfl
  simp only [seval, sev, T.f_Rules_kinds, hf, hl]
def Sp.Rules_shuns (F : DF) : Prop := ∀ b : Bk, F [b.r] [] = .ok (o3 b.shuns) []
theorem t_Rules_shuns (Φ : Fns) : Sp.Rules_shuns (T.f_Rules_shuns.run Φ) := fun b => by
  rw [run_eq rfl rfl]
  have hf : fldD "Rules" b.r "apart" = some (L3 b.shuns) := rfl
  have hl : biD .list [L3 b.shuns] = some (o3 b.shuns) := rfl
  simp only [seval, sev, T.f_Rules_shuns, hf, hl]
def Sp.Rules_bars (F : DF) : Prop := ∀ b : Bk, F [b.r] [] = .ok (o3 b.bars) []
theorem t_Rules_bars (Φ : Fns) : Sp.Rules_bars (T.f_Rules_bars.run Φ) := fun b => by
  rw [run_eq rfl rfl]
  have hf : fldD "Rules" b.r "closed" = some (L3 b.bars) := rfl
  have hl : biD .list [L3 b.bars] = some (o3 b.bars) := rfl
  simp only [seval, sev, T.f_Rules_bars, hf, hl]
def Sp.Rules_dues (F : DF) : Prop := ∀ b : Bk, F [b.r] [] = .ok (o3 b.dues) []
theorem t_Rules_dues (Φ : Fns) : Sp.Rules_dues (T.f_Rules_dues.run Φ) := fun b => by
  rw [run_eq rfl rfl]
  have hf : fldD "Rules" b.r "wanted" = some (L3 b.dues) := rfl
  have hl : biD .list [L3 b.dues] = some (o3 b.dues) := rfl
  simp only [seval, sev, T.f_Rules_dues, hf, hl]
theorem i3_Sm (t : T3) : Sm 1 (i3 t) := ⟨by unfold LIM; show 3 ≤ _; omega, fun d hd => by
  have hd : d ∈ [D.int t.1, D.int t.2.1, D.int t.2.2] := hd
  simp only [List.mem_cons, List.not_mem_nil, or_false] at hd
  rcases hd with rfl | rfl | rfl <;> exact trivial⟩
theorem L3_Sm {l : List T3} (h : l.length ≤ LIM) : Sm 2 (L3 l) := ⟨by rw [List.length_map]; exact h, fun d hd => by
  obtain ⟨t, _, rfl⟩ := List.mem_map.mp hd
  exact i3_Sm t⟩
theorem bl_Sm {b : Bk} (hb : b.Ok) : Sm 3 b.l := ⟨by unfold LIM; show 5 ≤ _; omega, fun d hd => by
  have h1 := hb.many
  have h2 := hb.shunsN
  have h3 := hb.barsN
  have h4 := hb.duesN
  have hd : d ∈ [D.int b.size, L3 b.kinds, L3 b.shuns, L3 b.bars, L3 b.dues] := hd
  simp only [List.mem_cons, List.not_mem_nil, or_false] at hd
  rcases hd with rfl | rfl | rfl | rfl | rfl
  · exact trivial
  all_goals exact L3_Sm (by unfold LIM; omega)⟩
def Sp.l_told (F : DF) : Prop := ∀ b : Bk, b.Ok → F [b.r, b.l] [] = .ok (.sh (.bl true)) []
theorem t_l_told (Φ : Fns) (g1 : Sp.Rules_kinds (Φ "Rules.kinds")) (g2 : Sp.Rules_shuns (Φ "Rules.shuns")) (g3 : Sp.Rules_bars (Φ "Rules.bars")) (g4 : Sp.Rules_dues (Φ "Rules.dues")) (g5 : Sp.l_same 3 (Φ "_law_same")) (g6 : Sp.Rules_many (Φ "Rules.many")) : Sp.l_told (T.f_l_told.run Φ) := fun b hb => by
  rw [run_eq rfl rfl]
  have hf : fldD "Rules" b.r "size" = some (.int b.size) := rfl
  have m1 : metO "Rules" "kinds" b.r = true := rfl
  have m2 : metO "Rules" "shuns" b.r = true := rfl
  have m3 : metO "Rules" "bars" b.r = true := rfl
  have m4 : metO "Rules" "dues" b.r = true := rfl
  have m5 : metO "Rules" "many" b.r = true := rfl
  have e1 : Φ (Str.ofString "Rules" ++ Str.ofString "." ++ Str.ofString "kinds") [b.r] [] = _ := g1 b
  have e2 : Φ (Str.ofString "Rules" ++ Str.ofString "." ++ Str.ofString "shuns") [b.r] [] = _ := g2 b
  have e3 : Φ (Str.ofString "Rules" ++ Str.ofString "." ++ Str.ofString "bars") [b.r] [] = _ := g3 b
  have e4 : Φ (Str.ofString "Rules" ++ Str.ofString "." ++ Str.ofString "dues") [b.r] [] = _ := g4 b
  have e6 : Φ (Str.ofString "Rules.many") [b.r] [] = _ := g6 b
  have f1 := fz_o3 b.kinds
  have f2 := fz_o3 b.shuns
  have f3 := fz_o3 b.bars
  have f4 := fz_o3 b.dues
  have hz : fz (.ol [.sh (.int b.size), o3 b.kinds, o3 b.shuns, o3 b.bars, o3 b.dues]) = b.l := by
    show D.lst [.int b.size, fz (o3 b.kinds), fz (o3 b.shuns), fz (o3 b.bars), fz (o3 b.dues)] = _
    rw [f1, f2, f3, f4]
    rfl
  have e5 := g5 b.l (bl_Sm hb)
  have e7 := g5 (.int b.kinds.length) trivial
  have hx : ixD b.l (.int 1) = some (L3 b.kinds) := rfl
  have hl := len_L3 b.kinds
  have hbl : D.lst [.int b.size, L3 b.kinds, L3 b.shuns, L3 b.bars, L3 b.dues] = b.l := rfl
  generalize o3 b.kinds = x1 at *
  generalize o3 b.shuns = x2 at *
  generalize o3 b.bars = x3 at *
  generalize o3 b.dues = x4 at *
  generalize (b.kinds.length : Int) = n at *
  simp only [seval, sev, T.f_l_told, hf, m1, m2, m3, m4, m5, e1, e2, e3, e4, hz, e5, e6, e7, hx, hl, f1, f2, f3, f4, hbl]
theorem forC_at (Φ : Fns) (t i : Nat) (es : List E) (b : List S) (ρ : List Sl) (μ : List O) : evS Φ (.forC t i es b) ρ μ = (match ownL ρ i with
    | some l => (evEs Φ es ρ μ).go ρ fun xs μ1 => if l.length + xs.length ≤ LIM then forRunO t (evSs Φ b) (l ++ xs) (ρ.set i .no) μ1 else .bad
    | none => .bad) := by first | (simp only [evS]; done) | (simp only [evS]; rfl) | rfl
theorem runO_same {t : Nat} {f : List Sl → List O → Fl} {ρ : List Sl} {μ : List O} : ∀ l : List O, (∀ o ∈ l, f (ρ.set t (.ow o)) μ = .nx ρ μ) → forRunO t f l ρ μ = .nx ρ μ
  | [], _ => rfl
  | o :: l, h => by
    unfold forRunO
    rw [h o List.mem_cons_self]
    exact runO_same l fun x hx => h x (List.mem_cons_of_mem _ hx)
theorem k01_turn (Φ : Fns) (A B C D0 E0 F0 G0 : Sl) (l : List T3) (h : l.length < LIM) : evSs Φ T.b_law_k01_1 [A, B, C, D0, E0, F0, G0, .ow (o3 l), .no] [] = .nx [A, B, C, D0, E0, F0, G0, .no, .no] [] := by
  unfold o3
  have hn : ((l.map i3).map O.sh).length = l.length := by rw [List.length_map, List.length_map]
  generalize (l.map i3).map O.sh = os at *
  have hs : ∀ d : D, setO (.ol (os ++ [.sh d])) (.int 0) (.sh (.tup [.int 0, .int 1, .int 2])) = some (.ol ((os ++ [O.sh d]).set 0 (.sh (.tup [.int 0, .int 1, .int 2])))) := fun d => by
    have hx : ixN (os ++ [O.sh d]).length 0 = some 0 := by
      unfold ixN
      rw [List.length_append]
      simp
    unfold setO
    simp only [hx]
    rfl
  have hl : os.length < LIM := by omega
  simp only [seval, sev, sevX, T.b_law_k01_1, hs, hl]
theorem wf7_L3 (l : List T3) : wf 7 (L3 l) = true := by
  show wfs 6 (l.map i3) = true
  exact wfs_map (fun _ => rfl) l
theorem deq_L3 (l : List T3) : deq (L3 l) (L3 l) = true := by
  show deqs (l.map i3) (l.map i3) = true
  refine deqs_same (fun t => ?_) l
  show (deq (.int t.1) (.int t.1) && (deq (.int t.2.1) (.int t.2.1) && (deq (.int t.2.2) (.int t.2.2) && true))) = true
  have h : ∀ i : Int, deq (.int i) (.int i) = true := fun i => decide_eq_true rfl
  rw [h, h, h]
  rfl
theorem t_law_k01 (Φ : Fns) (g1 : Sp.l_numbers (Φ "_law_numbers")) (g2 : Sp.l_wide_v2 (Φ "_law_wide")) (g3 : Sp.Rules_init_v2 (Φ "Rules")) (g4 : Sp.l_told (Φ "_law_told")) (g5 : Sp.Rules_kinds (Φ "Rules.kinds")) (g6 : Sp.Rules_shuns (Φ "Rules.shuns")) (g7 : Sp.Rules_bars (Φ "Rules.bars")) (g8 : Sp.Rules_dues (Φ "Rules.dues")) : Sp.law (T.f_law_k01.run Φ) := fun ns hns => by
  rw [run_eq rfl rfl]
  obtain ⟨l, e1, hl, hn⟩ := g1 ns 260 (by omega)
  obtain ⟨o1, e2, z1⟩ := g2 l (by omega)
  obtain ⟨o2, e3, z2⟩ := g2 (l.drop 130) (by rw [List.length_drop]; omega)
  have c130 : cutD (iL l) (some 130) none = _ := cut_from l (k := 130) (by omega)
  have hb := wideB_ok l
  have hc := wideB_ok (l.drop 130)
  generalize wideB l = b at *
  generalize wideB (l.drop 130) = c at *
  have h1 := hb.many
  have h2 := hb.shunsN
  have h3 := hb.barsN
  have h4 := hb.duesN
  have e4 := g3 b hb
  have e5 := g3 c hc
  have e6 := g4 b hb
  have e7 := g4 c hc
  have m1 : metO "Rules" "kinds" b.r = true := rfl
  have m2 : metO "Rules" "shuns" b.r = true := rfl
  have m3 : metO "Rules" "bars" b.r = true := rfl
  have m4 : metO "Rules" "dues" b.r = true := rfl
  have k1 : Φ (Str.ofString "Rules" ++ Str.ofString "." ++ Str.ofString "kinds") [b.r] [] = _ := g5 b
  have k2 : Φ (Str.ofString "Rules" ++ Str.ofString "." ++ Str.ofString "shuns") [b.r] [] = _ := g6 b
  have k3 : Φ (Str.ofString "Rules" ++ Str.ofString "." ++ Str.ofString "bars") [b.r] [] = _ := g7 b
  have k4 : Φ (Str.ofString "Rules" ++ Str.ofString "." ++ Str.ofString "dues") [b.r] [] = _ := g8 b
  have hi : ∀ i : Int, ∀ x, ixD b.l (.int i) = some x → True := fun _ _ _ => trivial
  have x0 : ixD b.l (.int 0) = some (.int b.size) := rfl
  have y0 : ixD c.l (.int 0) = some (.int c.size) := rfl
  have y1 : ixD c.l (.int 1) = some (L3 c.kinds) := rfl
  have y2 : ixD c.l (.int 2) = some (L3 c.shuns) := rfl
  have y3 : ixD c.l (.int 3) = some (L3 c.bars) := rfl
  have y4 : ixD c.l (.int 4) = some (L3 c.dues) := rfl
  have hls : ∀ r : List T3, biD .list [L3 r] = some (o3 r) := fun _ => rfl
  have lc := lcO_run (Φ := Φ) (ρ := [.va (.scr ns), .va (iL l), .va b.l, .va c.l, .no, .no, .no, .no, .no]) (elt := .bi .list [(.ix (.var 2) (.var 8))]) (tg := .nm 8) (it := .bi .rng2 [(.int 1), (.int 5)]) (x := .ol ([D.int 1, .int 2, .int 3, .int 4].map .sh)) (fun p : Int × List T3 => D.int p.1) (fun p => o3 p.2) [(1, b.kinds), (2, b.shuns), (3, b.bars), (4, b.dues)] (by
    have hr : biD .rng2 [.int 1, .int 5] = some (.ol ([D.int 1, .int 2, .int 3, .int 4].map .sh)) := rfl
    simp only [seval, sev, hr]) rfl (by unfold LIM; show 4 ≤ _; omega) fun p hp => ⟨_, rfl, by
      have hp2 : ixD b.l (.int p.1) = some (L3 p.2) := by
        simp only [List.mem_cons, List.not_mem_nil, or_false] at hp
        rcases hp with rfl | rfl | rfl | rfl <;> rfl
      simp only [seval, sev, hp2, hls]⟩
  have lc : evE Φ (.lcO (.bi .list [(.ix (.var 2) (.var 8))]) (.nm 8) (.bi .rng2 [(.int 1), (.int 5)])) [.va (.scr ns), .va (iL l), .va b.l, .va c.l, .no, .no, .no, .no, .no] [] = .ok (.ol [o3 b.kinds, o3 b.shuns, o3 b.bars, o3 b.dues]) [] := lc
  have hz : fz (.ol [o3 b.kinds, o3 b.shuns, o3 b.bars, o3 b.dues]) = .lst [L3 b.kinds, L3 b.shuns, L3 b.bars, L3 b.dues] := by
    show D.lst [fz (o3 b.kinds), fz (o3 b.shuns), fz (o3 b.bars), fz (o3 b.dues)] = _
    rw [fz_o3, fz_o3, fz_o3, fz_o3]
  have w0 : ixD (.lst [L3 b.kinds, L3 b.shuns, L3 b.bars, L3 b.dues]) (.int 0) = some (L3 b.kinds) := rfl
  have w1 : ixD (.lst [L3 b.kinds, L3 b.shuns, L3 b.bars, L3 b.dues]) (.int 1) = some (L3 b.shuns) := rfl
  have w2 : ixD (.lst [L3 b.kinds, L3 b.shuns, L3 b.bars, L3 b.dues]) (.int 2) = some (L3 b.bars) := rfl
  have w3 : ixD (.lst [L3 b.kinds, L3 b.shuns, L3 b.bars, L3 b.dues]) (.int 3) = some (L3 b.dues) := rfl
  have hcut : cutD b.l (some 1) none = some (.ol ([L3 b.kinds, L3 b.shuns, L3 b.bars, L3 b.dues].map .sh)) := rfl
  have hfc : fz (.ol ([L3 b.kinds, L3 b.shuns, L3 b.bars, L3 b.dues].map .sh)) = .lst [L3 b.kinds, L3 b.shuns, L3 b.bars, L3 b.dues] := fz_ol_sh _
  have hne : cmpD .ne (.lst [L3 b.kinds, L3 b.shuns, L3 b.bars, L3 b.dues]) (.lst [L3 b.kinds, L3 b.shuns, L3 b.bars, L3 b.dues]) = some false := by
    refine ne_same (a := [L3 b.kinds, L3 b.shuns, L3 b.bars, L3 b.dues]) rfl ?_ ?_
    · show (wf 7 (L3 b.kinds) && (wf 7 (L3 b.shuns) && (wf 7 (L3 b.bars) && (wf 7 (L3 b.dues) && true)))) = true
      rw [wf7_L3, wf7_L3, wf7_L3, wf7_L3]
      rfl
    · show (deq (L3 b.kinds) (L3 b.kinds) && (deq (L3 b.shuns) (L3 b.shuns) && (deq (L3 b.bars) (L3 b.bars) && (deq (L3 b.dues) (L3 b.dues) && true)))) = true
      rw [deq_L3, deq_L3, deq_L3, deq_L3]
      rfl
  have hbad : okB (oB b) = true := okB_oB b
  have fb := fz_oB b
  have fc := fz_oB c
  have fl : ∀ r : List T3, fz (o3 r) = L3 r := fz_o3
  have hrun : forRunO 7 (evSs Φ T.b_law_k01_1) ([o3 b.kinds, o3 b.shuns, o3 b.bars, o3 b.dues] ++ [o3 b.kinds, o3 b.shuns, o3 b.bars, o3 b.dues]) [.va (.scr ns), .va (iL l), .va b.l, .va c.l, .no, .va b.r, .va c.r, .no, .no] [] = .nx [.va (.scr ns), .va (iL l), .va b.l, .va c.l, .no, .va b.r, .va c.r, .no, .no] [] := runO_same _ fun o ho => by
    simp only [List.mem_append, List.mem_cons, List.not_mem_nil, or_false] at ho
    have hk : b.kinds.length < LIM ∧ b.shuns.length < LIM ∧ b.bars.length < LIM ∧ b.dues.length < LIM := by unfold LIM; omega
    rcases ho with (rfl | rfl | rfl | rfl) | (rfl | rfl | rfl | rfl)
    · exact k01_turn Φ _ _ _ _ _ _ _ _ hk.1
    · exact k01_turn Φ _ _ _ _ _ _ _ _ hk.2.1
    · exact k01_turn Φ _ _ _ _ _ _ _ _ hk.2.2.1
    · exact k01_turn Φ _ _ _ _ _ _ _ _ hk.2.2.2
    · exact k01_turn Φ _ _ _ _ _ _ _ _ hk.1
    · exact k01_turn Φ _ _ _ _ _ _ _ _ hk.2.1
    · exact k01_turn Φ _ _ _ _ _ _ _ _ hk.2.2.1
    · exact k01_turn Φ _ _ _ _ _ _ _ _ hk.2.2.2
  have hfor : evS Φ (.forC 7 4 [(.meth "Rules" (.var 5) "kinds" []), (.meth "Rules" (.var 5) "shuns" []), (.meth "Rules" (.var 5) "bars" []), (.meth "Rules" (.var 5) "dues" [])] T.b_law_k01_1) [.va (.scr ns), .va (iL l), .va b.l, .va c.l, .ow (.ol [o3 b.kinds, o3 b.shuns, o3 b.bars, o3 b.dues]), .va b.r, .va c.r, .no, .no] [] = .nx [.va (.scr ns), .va (iL l), .va b.l, .va c.l, .no, .va b.r, .va c.r, .no, .no] [] := by
    have he : evEs Φ [(.meth "Rules" (.var 5) "kinds" []), (.meth "Rules" (.var 5) "shuns" []), (.meth "Rules" (.var 5) "bars" []), (.meth "Rules" (.var 5) "dues" [])] [.va (.scr ns), .va (iL l), .va b.l, .va c.l, .ow (.ol [o3 b.kinds, o3 b.shuns, o3 b.bars, o3 b.dues]), .va b.r, .va c.r, .no, .no] [] = .ok [o3 b.kinds, o3 b.shuns, o3 b.bars, o3 b.dues] [] := by
      simp only [seval, sev, m1, m2, m3, m4, k1, k2, k3, k4]
    rw [forC_at, he]
    show (if 4 + 4 ≤ LIM then forRunO 7 (evSs Φ T.b_law_k01_1) ([o3 b.kinds, o3 b.shuns, o3 b.bars, o3 b.dues] ++ [o3 b.kinds, o3 b.shuns, o3 b.bars, o3 b.dues]) [.va (.scr ns), .va (iL l), .va b.l, .va c.l, .no, .va b.r, .va c.r, .no, .no] [] else .bad) = _
    rw [if_pos (by unfold LIM; omega), hrun]
  generalize o3 b.kinds = p1 at *
  generalize o3 b.shuns = p2 at *
  generalize o3 b.bars = p3 at *
  generalize o3 b.dues = p4 at *
  have hlc := hls c.kinds
  have hld := hls c.shuns
  have hle := hls c.bars
  have hlf := hls c.dues
  have q1 := fl c.kinds
  have q2 := fl c.shuns
  have q3 := fl c.bars
  have q4 := fl c.dues
  generalize o3 c.kinds = p5 at *
  generalize o3 c.shuns = p6 at *
  generalize o3 c.bars = p7 at *
  generalize o3 c.dues = p8 at *
  generalize oB b = ob at *
  generalize oB c = oc at *
  generalize b.r = br at *
  generalize c.r = cr at *
  generalize b.l = bl at *
  generalize c.l = cl at *
  simp only [seval, sev, T.f_law_k01, e1, e2, z1, c130, iL_fold, e3, z2, lc, hz, x0, w0, w1, w2, w3, e4, hbad, fb, y0, y1, y2, y3, y4, hlc, hld, hle, hlf, q1, q2, q3, q4, e5, fc, hcut, hfc, hne, e6, e7, ↓hfor]
end MQ
/-! H01 -/
set_option Elab.async false
set_option maxRecDepth 100000
set_option maxHeartbeats 8000000
namespace K01
open PySem PySem.Spec PyProof.Rows L2 MP MQ
abbrev PR : Program := PySem.Challenge.pw_moonseat_k01_rules_told
def ds : List He.FnD := fns PR.main.body
def dAt (i : Nat) : He.FnD := ds.getD i noD
def e_l_numbers : Ent := ⟨T.f_l_numbers, dAt 9, ["_law_script", "_law_many", "_law_row", "_law_seed", "_law_cell", "_law_rest", "_law_k"], 100⟩
def e_l_windows : Ent := ⟨T.f_l_windows, dAt 11, ["_law_many", "_law_size", "_law_count", "_law_d", "_law_rows", "_law_k", "_law_first"], 100⟩
def e_l_wide_v2 : Ent := ⟨T.f_l_wide_v2, dAt 12, ["_law_d", "_law_many", "_law_size", "_law_kinds", "_law_k", "_law_shuns", "_law_bars", "_law_least"], 100⟩
def e_good_shuns : Ent := ⟨T.f_good_shuns, dAt 1, ["shuns", "many", "one", "other", "far"], 100⟩
def e_good_kinds : Ent := ⟨T.f_good_kinds, dAt 0, ["kinds", "least", "most", "rest"], 100⟩
def e_good_windows : Ent := ⟨T.f_good_windows, dAt 2, ["windows", "many", "size", "limit", "kind", "first", "last"], 100⟩
def e_Rules_init_v2 : Ent := ⟨T.f_Rules_init_v2, dAt 3, ["self", "size", "kinds", "shuns", "bars", "dues", "kind", "shun", "bar", "due"], 100⟩
def e_Rules_kinds : Ent := ⟨T.f_Rules_kinds, dAt 4, ["self"], 100⟩
def e_Rules_shuns : Ent := ⟨T.f_Rules_shuns, dAt 5, ["self"], 100⟩
def e_Rules_bars : Ent := ⟨T.f_Rules_bars, dAt 6, ["self"], 100⟩
def e_Rules_dues : Ent := ⟨T.f_Rules_dues, dAt 7, ["self"], 100⟩
def e_l_same0 : Ent := ⟨T.f_l_same0, dAt 10, ["_law_found", "_law_due", "_law_one", "_law_other"], 100⟩
def e_l_same : Ent := ⟨T.f_l_same, dAt 10, ["_law_found", "_law_due", "_law_one", "_law_other"], 100⟩
def e_Rules_many : Ent := ⟨T.f_Rules_many, dAt 8, ["self"], 100⟩
def e_l_told : Ent := ⟨T.f_l_told, dAt 13, ["_law_rules", "_law_book", "_law_told_here"], 100⟩
def e_law_k01 : Ent := ⟨T.f_law_k01, dAt 14, ["_law_script", "_law_numbers_here", "_law_book", "_law_other", "_law_lent", "_law_rules", "_law_second", "_law_row", "_law_k"], 100⟩
def es : List Ent := [e_l_numbers, e_l_windows, e_l_wide_v2, e_good_shuns, e_good_kinds, e_good_windows, e_Rules_init_v2, e_Rules_kinds, e_Rules_shuns, e_Rules_bars, e_Rules_dues, e_l_same0, e_l_same, e_l_same, e_l_same, e_Rules_many, e_l_told]
def B0 : Ck := { N := [], sc := { kind := .function, names := [], isGenerator := false, isCoroutine := false }, lv := 2, cl := [], fs := [], cs := [], ms := [], fl := [("Rules", "apart"), ("Rules", "closed"), ("Rules", "size"), ("Rules", "sorts"), ("Rules", "wanted")], bl := ["all", "bool", "int", "isinstance", "len", "list", "range", "str", "tuple", "zip"], gi := [("MOST_BARS", 12), ("MOST_DUES", 3), ("MOST_KINDS", 4), ("MOST_REST", 4), ("MOST_SHUNS", 20), ("MOST_SIZE", 30), ("MOST_STAY", 4)], gs := [], xp := ["BadRules"], xi := [], xc := [], xm := [], xk := [], xf := [] }
def xs : List XEnt := []
def fn : List He.FnD := (e_law_k01 :: es).map (·.d) ++ xs.map (·.d)
def fa : List He.Fa := factsOf B0 (e_law_k01 :: es) ++ (B0.xi.map He.Fa.glo ++ (B0.xc.map He.Fa.glo ++ B0.xm.map fun p => He.Fa.exm p.1 p.2.1 p.2.2))
abbrev R : PySem.W.OpenRow := PySem.W.OpenLaw.row PySem.Challenge.rw_moonseat_k01_rules_told
abbrev hk : PySem.W.Hook := hookX 5 B0.xi B0.xk fa fn
def ob (s : PySem.W.SharedT) : Bool × He.Al := obsX 5 B0.xi B0.xk fa fn (HandSHeadRun.getT s)
theorem ob_eq (s : PySem.W.SharedT) : ob s = hk.obs s.abs := obsX_eq (HandSHeadRun.getT_eq s)
def loose : List PySem.Str := (["VerseError", "BadRules", "MOST_SIZE", "MOST_KINDS", "MOST_STAY", "MOST_REST", "MOST_SHUNS", "MOST_BARS", "MOST_DUES", "good_kinds", "good_shuns", "good_windows", "Rules", "_law_numbers", "_law_same", "_law_windows", "_law_wide", "_law_told"] : List PySem.Str)
theorem run (w : World) : HandSHeadRun.RunEq R (PySem.W.view R.prog [21]) hk ob 30000 loose w := by
  intro os
  kernel_rfl
theorem prog_ok : okProg B0 es = true := by kernel_rfl
theorem law_ok : okEnt (B0.adds es) e_law_k01 = true := by kernel_rfl
theorem fn_all : ∀ e ∈ e_law_k01 :: es, e.d ∈ fn := fun e h => List.mem_append_left _ (List.mem_map_of_mem h)
def Φ (i : Nat) : Fns := noFns.adds (es.take i)
theorem j0 : Sp.l_numbers (T.f_l_numbers.run (Φ 0)) := by
  exact t_l_numbers (Φ 0)
theorem j1 : Sp.l_windows (T.f_l_windows.run (Φ 1)) := by
  exact t_l_windows (Φ 1)
theorem j2 : Sp.l_wide_v2 (T.f_l_wide_v2.run (Φ 2)) := by
  have h1 : Sp.l_windows (Φ 2 "_law_windows") := by
    have h0 : ∀ ds, Φ 2 "_law_windows" ds [] = T.f_l_windows.run (Φ 1) ds [] := MP.look0 es 1 2 "_law_windows" e_l_windows (by kernel_rfl) (by decide) (by kernel_rfl) (by kernel_rfl)
    have k := j1
    unfold Sp.l_windows at k ⊢
    first | (simp only [h0]; exact k) | exact k
  exact t_l_wide_v2 (Φ 2) h1
theorem j3 : Sp.good_shuns (T.f_good_shuns.run (Φ 3)) := by
  exact t_good_shuns (Φ 3)
theorem j4 : Sp.good_kinds (T.f_good_kinds.run (Φ 4)) := by
  exact t_good_kinds (Φ 4)
theorem j5 : Sp.good_windows (T.f_good_windows.run (Φ 5)) := by
  exact t_good_windows (Φ 5)
theorem j6 : Sp.Rules_init_v2 (T.f_Rules_init_v2.run (Φ 6)) := by
  have h3 : Sp.good_shuns (Φ 6 "good_shuns") := by
    have h0 : ∀ ds, Φ 6 "good_shuns" ds [] = T.f_good_shuns.run (Φ 3) ds [] := MP.look0 es 3 6 "good_shuns" e_good_shuns (by kernel_rfl) (by decide) (by kernel_rfl) (by kernel_rfl)
    have k := j3
    unfold Sp.good_shuns at k ⊢
    first | (simp only [h0]; exact k) | exact k
  have h4 : Sp.good_kinds (Φ 6 "good_kinds") := by
    have h0 : ∀ ds, Φ 6 "good_kinds" ds [] = T.f_good_kinds.run (Φ 4) ds [] := MP.look0 es 4 6 "good_kinds" e_good_kinds (by kernel_rfl) (by decide) (by kernel_rfl) (by kernel_rfl)
    have k := j4
    unfold Sp.good_kinds at k ⊢
    first | (simp only [h0]; exact k) | exact k
  have h5 : Sp.good_windows (Φ 6 "good_windows") := by
    have h0 : ∀ ds, Φ 6 "good_windows" ds [] = T.f_good_windows.run (Φ 5) ds [] := MP.look0 es 5 6 "good_windows" e_good_windows (by kernel_rfl) (by decide) (by kernel_rfl) (by kernel_rfl)
    have k := j5
    unfold Sp.good_windows at k ⊢
    first | (simp only [h0]; exact k) | exact k
  exact t_Rules_init_v2 (Φ 6) h4 h3 h5
theorem j7 : Sp.Rules_kinds (T.f_Rules_kinds.run (Φ 7)) := by
  exact t_Rules_kinds (Φ 7)
theorem j8 : Sp.Rules_shuns (T.f_Rules_shuns.run (Φ 8)) := by
  exact t_Rules_shuns (Φ 8)
theorem j9 : Sp.Rules_bars (T.f_Rules_bars.run (Φ 9)) := by
  exact t_Rules_bars (Φ 9)
theorem j10 : Sp.Rules_dues (T.f_Rules_dues.run (Φ 10)) := by
  exact t_Rules_dues (Φ 10)
theorem j11 : Sp.l_same 0 (T.f_l_same0.run (Φ 11)) := by
  exact t_l_same0 (Φ 11)
theorem j12 : Sp.l_same 1 (T.f_l_same.run (Φ 12)) := by
  have h11 : Sp.l_same 0 (Φ 12 "_law_same") := by
    have h0 : ∀ ds, Φ 12 "_law_same" ds [] = T.f_l_same0.run (Φ 11) ds [] := MP.look0 es 11 12 "_law_same" e_l_same0 (by kernel_rfl) (by decide) (by kernel_rfl) (by kernel_rfl)
    have k := j11
    unfold Sp.l_same at k ⊢
    first | (simp only [h0]; exact k) | exact k
  exact t_l_same 0 (Φ 12) h11
theorem j13 : Sp.l_same 2 (T.f_l_same.run (Φ 13)) := by
  have h12 : Sp.l_same 1 (Φ 13 "_law_same") := by
    have h0 : ∀ ds, Φ 13 "_law_same" ds [] = T.f_l_same.run (Φ 12) ds [] := MP.look0 es 12 13 "_law_same" e_l_same (by kernel_rfl) (by decide) (by kernel_rfl) (by kernel_rfl)
    have k := j12
    unfold Sp.l_same at k ⊢
    first | (simp only [h0]; exact k) | exact k
  exact t_l_same 1 (Φ 13) h12
theorem j14 : Sp.l_same 3 (T.f_l_same.run (Φ 14)) := by
  have h13 : Sp.l_same 2 (Φ 14 "_law_same") := by
    have h0 : ∀ ds, Φ 14 "_law_same" ds [] = T.f_l_same.run (Φ 13) ds [] := MP.look0 es 13 14 "_law_same" e_l_same (by kernel_rfl) (by decide) (by kernel_rfl) (by kernel_rfl)
    have k := j13
    unfold Sp.l_same at k ⊢
    first | (simp only [h0]; exact k) | exact k
  exact t_l_same 2 (Φ 14) h13
theorem j15 : Sp.Rules_many (T.f_Rules_many.run (Φ 15)) := by
  exact t_Rules_many (Φ 15)
theorem j16 : Sp.l_told (T.f_l_told.run (Φ 16)) := by
  have h7 : Sp.Rules_kinds (Φ 16 "Rules.kinds") := by
    have h0 : ∀ ds, Φ 16 "Rules.kinds" ds [] = T.f_Rules_kinds.run (Φ 7) ds [] := MP.look0 es 7 16 "Rules.kinds" e_Rules_kinds (by kernel_rfl) (by decide) (by kernel_rfl) (by kernel_rfl)
    have k := j7
    unfold Sp.Rules_kinds at k ⊢
    first | (simp only [h0]; exact k) | exact k
  have h8 : Sp.Rules_shuns (Φ 16 "Rules.shuns") := by
    have h0 : ∀ ds, Φ 16 "Rules.shuns" ds [] = T.f_Rules_shuns.run (Φ 8) ds [] := MP.look0 es 8 16 "Rules.shuns" e_Rules_shuns (by kernel_rfl) (by decide) (by kernel_rfl) (by kernel_rfl)
    have k := j8
    unfold Sp.Rules_shuns at k ⊢
    first | (simp only [h0]; exact k) | exact k
  have h9 : Sp.Rules_bars (Φ 16 "Rules.bars") := by
    have h0 : ∀ ds, Φ 16 "Rules.bars" ds [] = T.f_Rules_bars.run (Φ 9) ds [] := MP.look0 es 9 16 "Rules.bars" e_Rules_bars (by kernel_rfl) (by decide) (by kernel_rfl) (by kernel_rfl)
    have k := j9
    unfold Sp.Rules_bars at k ⊢
    first | (simp only [h0]; exact k) | exact k
  have h10 : Sp.Rules_dues (Φ 16 "Rules.dues") := by
    have h0 : ∀ ds, Φ 16 "Rules.dues" ds [] = T.f_Rules_dues.run (Φ 10) ds [] := MP.look0 es 10 16 "Rules.dues" e_Rules_dues (by kernel_rfl) (by decide) (by kernel_rfl) (by kernel_rfl)
    have k := j10
    unfold Sp.Rules_dues at k ⊢
    first | (simp only [h0]; exact k) | exact k
  have h14 : Sp.l_same 3 (Φ 16 "_law_same") := by
    have h0 : ∀ ds, Φ 16 "_law_same" ds [] = T.f_l_same.run (Φ 14) ds [] := MP.look0 es 14 16 "_law_same" e_l_same (by kernel_rfl) (by decide) (by kernel_rfl) (by kernel_rfl)
    have k := j14
    unfold Sp.l_same at k ⊢
    first | (simp only [h0]; exact k) | exact k
  have h15 : Sp.Rules_many (Φ 16 "Rules.many") := by
    have h0 : ∀ ds, Φ 16 "Rules.many" ds [] = T.f_Rules_many.run (Φ 15) ds [] := MP.look0 es 15 16 "Rules.many" e_Rules_many (by kernel_rfl) (by decide) (by kernel_rfl) (by kernel_rfl)
    have k := j15
    unfold Sp.Rules_many at k ⊢
    first | (simp only [h0]; exact k) | exact k
  exact t_l_told (Φ 16) h7 h8 h9 h10 h14 h15
theorem j17 : Sp.law (T.f_law_k01.run (Φ 17)) := by
  have h0 : Sp.l_numbers (Φ 17 "_law_numbers") := by
    have h0 : ∀ ds, Φ 17 "_law_numbers" ds [] = T.f_l_numbers.run (Φ 0) ds [] := MP.look0 es 0 17 "_law_numbers" e_l_numbers (by kernel_rfl) (by decide) (by kernel_rfl) (by kernel_rfl)
    have k := j0
    unfold Sp.l_numbers at k ⊢
    first | (simp only [h0]; exact k) | exact k
  have h2 : Sp.l_wide_v2 (Φ 17 "_law_wide") := by
    have h0 : ∀ ds, Φ 17 "_law_wide" ds [] = T.f_l_wide_v2.run (Φ 2) ds [] := MP.look0 es 2 17 "_law_wide" e_l_wide_v2 (by kernel_rfl) (by decide) (by kernel_rfl) (by kernel_rfl)
    have k := j2
    unfold Sp.l_wide_v2 at k ⊢
    first | (simp only [h0]; exact k) | exact k
  have h6 : Sp.Rules_init_v2 (Φ 17 "Rules") := by
    have h0 : ∀ ds, Φ 17 "Rules" ds [] = T.f_Rules_init_v2.run (Φ 6) ds [] := MP.look0 es 6 17 "Rules" e_Rules_init_v2 (by kernel_rfl) (by decide) (by kernel_rfl) (by kernel_rfl)
    have k := j6
    unfold Sp.Rules_init_v2 at k ⊢
    first | (simp only [h0]; exact k) | exact k
  have h16 : Sp.l_told (Φ 17 "_law_told") := by
    have h0 : ∀ ds, Φ 17 "_law_told" ds [] = T.f_l_told.run (Φ 16) ds [] := MP.look0 es 16 17 "_law_told" e_l_told (by kernel_rfl) (by decide) (by kernel_rfl) (by kernel_rfl)
    have k := j16
    unfold Sp.l_told at k ⊢
    first | (simp only [h0]; exact k) | exact k
  have h7 : Sp.Rules_kinds (Φ 17 "Rules.kinds") := by
    have h0 : ∀ ds, Φ 17 "Rules.kinds" ds [] = T.f_Rules_kinds.run (Φ 7) ds [] := MP.look0 es 7 17 "Rules.kinds" e_Rules_kinds (by kernel_rfl) (by decide) (by kernel_rfl) (by kernel_rfl)
    have k := j7
    unfold Sp.Rules_kinds at k ⊢
    first | (simp only [h0]; exact k) | exact k
  have h8 : Sp.Rules_shuns (Φ 17 "Rules.shuns") := by
    have h0 : ∀ ds, Φ 17 "Rules.shuns" ds [] = T.f_Rules_shuns.run (Φ 8) ds [] := MP.look0 es 8 17 "Rules.shuns" e_Rules_shuns (by kernel_rfl) (by decide) (by kernel_rfl) (by kernel_rfl)
    have k := j8
    unfold Sp.Rules_shuns at k ⊢
    first | (simp only [h0]; exact k) | exact k
  have h9 : Sp.Rules_bars (Φ 17 "Rules.bars") := by
    have h0 : ∀ ds, Φ 17 "Rules.bars" ds [] = T.f_Rules_bars.run (Φ 9) ds [] := MP.look0 es 9 17 "Rules.bars" e_Rules_bars (by kernel_rfl) (by decide) (by kernel_rfl) (by kernel_rfl)
    have k := j9
    unfold Sp.Rules_bars at k ⊢
    first | (simp only [h0]; exact k) | exact k
  have h10 : Sp.Rules_dues (Φ 17 "Rules.dues") := by
    have h0 : ∀ ds, Φ 17 "Rules.dues" ds [] = T.f_Rules_dues.run (Φ 10) ds [] := MP.look0 es 10 17 "Rules.dues" e_Rules_dues (by kernel_rfl) (by decide) (by kernel_rfl) (by kernel_rfl)
    have k := j10
    unfold Sp.Rules_dues at k ⊢
    first | (simp only [h0]; exact k) | exact k
  exact t_law_k01 (Φ 17) h0 h2 h6 h16 h7 h8 h9 h10
theorem math : ∀ ns : List Int, ns.length ≤ 63 → ∃ μ, e_law_k01.f.run (noFns.adds es) [.scr ns] [] = .ok (.sh (.bl true)) μ := by
  have h : es.take 17 = es := by kernel_rfl
  have k := j17
  unfold Φ at k
  rw [h] at k
  exact fun ns hn => ⟨[], k ns hn⟩
end K01
open PySem PySem.W PySem.Calls PyProof.Rows
theorem PySem.Challenge.cw_moonseat_k01_rules_told_holds : PySem.Challenge.rw_moonseat_k01_rules_told.Holds := by
  w_on; o_law
  refine HandSHeadRun.head_any (r := OpenLaw.row PySem.Challenge.rw_moonseat_k01_rules_told) (q := view (OpenLaw.row PySem.Challenge.rw_moonseat_k01_rules_told).prog [21]) (H := K01.hk) (ob := K01.ob) (M := 30000) (loose := K01.loose) (d := HandSHeadRun.topDef (OpenLaw.row PySem.Challenge.rw_moonseat_k01_rules_told).prog 21) (kwd := []) K01.ob_eq
    (by kernel_rfl) (fun s => by kernel_rfl) K01.run (by kernel_rfl) (by kernel_rfl) (by kernel_rfl) (by rfl) (by first | assumption | decide +kernel) (by decide +kernel) ⟨rfl, rfl, rfl, rfl, rfl, by decide +kernel⟩ ?hw ?hc
  case hw => w_witness2
  case hc =>
    exact MP.law_end (l := PySem.Challenge.rw_moonseat_k01_rules_told) (n := 63) (k := 230) (x := "_law_script") (B := K01.B0) (es := K01.es) (e := K01.e_law_k01) (xs := K01.xs) (by kernel_rfl) (fun x h => List.mem_append_right _ (List.mem_append_left _ (List.mem_map_of_mem h))) (fun x h => List.mem_append_right _ (List.mem_map_of_mem h)) (by kernel_rfl) (fun x h => List.mem_append_right _ (List.mem_append_right _ (List.mem_append_left _ (List.mem_map_of_mem h)))) (fun p h => List.mem_append_right _ (List.mem_append_right _ (List.mem_append_right _ (List.mem_map.mpr ⟨p, h, rfl⟩)))) (by kernel_rfl) (by kernel_rfl) rfl (by decide) (by kernel_rfl) ⟨rfl, by decide, by decide⟩ (by decide +kernel) (by kernel_rfl) ⟨rfl, rfl, rfl⟩ K01.prog_ok K01.law_ok (by kernel_rfl) rfl (by kernel_rfl) K01.fn_all (fun _ h => List.mem_append_left _ h) K01.math

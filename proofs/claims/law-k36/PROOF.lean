import PyProof.Rows.All
import Wide.All
import OpenK.AllK
import Wide.FinOn
import PyProof.ReprReads
import PyProof.EqLayable
import HandS.ForMost
import HandS.TupAny
import HandS.IsInst
import HandS.CallSlots
import HandS.Exc
import HandS.ExcOwn
import HandS.TupMul
import HandS.Deep
import PyProof.ReprRoads
import PyProof.ListStr
import HandS.TupLen
import HandS.WordsDict
import HandS.Walk
import HandS.Small
import HandS.Style
import KE.GoesEnum
import HandS.HeadHook2
import HandS.Defaults
import KE.KStateDown
import HandS.Head0
import HandS.Head1
import HandS.Head2
import HandS.HeadEnd
import PySem.Challenge.RW_signwalks_k36_whole_runs_of_codes
section
set_option Elab.async false
set_option linter.all false
set_option maxRecDepth 100000
/-! ## CI: data by content, the store, the monad, the operations -/
noncomputable section
namespace CI
open PySem

inductive D where
  | non | bl (b : Bool) | int (i : Int) | str (s : List Nat)
  | tup (ds : List D) | kt (ds : List D) | lst (ds : List D) | scr (ds : List D)
  | dct (ks vs : List D) | ins (c : Str) (ns : List Str) (vs : List D)
  | ref (n : Nat) | fn (f : Str)
inductive Cell where
  | lst (ds : List D) | dct (ks vs : List D) | ins (c : Str) (ns : List Str) (vs : List D)
abbrev Store := List Cell
inductive R (α : Type) where
  | ok (a : α) (S : Store) | ex (c : Str) (d : D) (S : Store) | bad
abbrev M (α : Type) := Store → R α
abbrev SZ : Nat := 16777216
abbrev Rho := List (Option D)

def M.pure {α : Type} (a : α) : M α := fun S => .ok a S
def M.bad {α : Type} : M α := fun _ => .bad
def M.bind {α β : Type} (m : M α) (f : α → M β) : M β := fun S => match m S with
  | .ok a S' => f a S'
  | .ex c d S' => .ex c d S'
  | .bad => .bad
def M.lift {α : Type} (o : Option α) : M α := fun S => match o with
  | some a => .ok a S
  | none => .bad
def M.get {α : Type} (f : Store → Option α) : M α := fun S => match f S with
  | some a => .ok a S
  | none => .bad
/-- no exception may leave -/
def M.calm {α : Type} (m : M α) : M α := fun S => match m S with
  | .ok a S' => .ok a S'
  | _ => .bad

/-! ### references -/
mutual
def D.low (b : Nat) : D → Bool
  | .tup ds => D.lows b ds
  | .kt ds => D.lows b ds
  | .lst ds => D.lows b ds
  | .scr ds => D.lows b ds
  | .dct ks vs => D.lows b ks && D.lows b vs
  | .ins _ _ vs => D.lows b vs
  | .ref n => decide (n < b)
  | _ => true
def D.lows (b : Nat) : List D → Bool
  | [] => true
  | d :: ds => d.low b && D.lows b ds
end
def Cell.low (b : Nat) : Cell → Bool
  | .lst ds => D.lows b ds
  | .dct ks vs => D.lows b ks && D.lows b vs
  | .ins _ _ vs => D.lows b vs

/-! plain data, for == and repr -/
mutual
def D.py : D → Option PyData
  | .non => some .none
  | .bl b => some (.bool b)
  | .int i => some (.int i)
  | .str s => some (.str ⟨s.toArray⟩)
  | .tup ds => match D.pys ds with
    | some xs => some (.tuple xs)
    | none => none
  | .kt ds => match D.pys ds with
    | some xs => some (.tuple xs)
    | none => none
  | .lst ds => match D.pys ds with
    | some xs => some (.list xs)
    | none => none
  | .scr ds => match D.pys ds with
    | some xs => some (.list xs)
    | none => none
  | _ => none
def D.pys : List D → Option (List PyData)
  | [] => some []
  | d :: ds => match d.py, D.pys ds with
    | some x, some xs => some (x :: xs)
    | _, _ => none
end
/-- what stands behind a reference to a list, read -/
def deref (S : Store) : D → D
  | .ref n => match S[n]? with
    | some (.lst ds) => .lst ds
    | some (.dct ks vs) => .dct ks vs
    | _ => .ref n
  | d => d
/-- the items of a list or tuple -/
def seqOf (S : Store) : D → Option (List D)
  | .tup ds => some ds
  | .kt ds => some ds
  | .lst ds => some ds
  | .scr ds => some ds
  | .ref n => match S[n]? with
    | some (.lst ds) => some ds
    | _ => none
  | _ => none
def isTup : D → Bool
  | .tup _ => true
  | .kt _ => true
  | _ => false
def dctOf (S : Store) : D → Option (List D × List D)
  | .dct ks vs => some (ks, vs)
  | .ref n => match S[n]? with
    | some (.dct ks vs) => some (ks, vs)
    | _ => none
  | _ => none
def insOf (S : Store) : D → Option (Str × List Str × List D)
  | .ins c ns vs => some (c, ns, vs)
  | .ref n => match S[n]? with
    | some (.ins c ns vs) => some (c, ns, vs)
    | _ => none
  | _ => none

/-! ### operators -/
inductive Op where
  | add | sub | mul | mod | fdiv | pow
  deriving DecidableEq
inductive Cp where
  | eq | ne | lt | le | gt | ge | is | isnot | isin | notin
  deriving DecidableEq
def smallI (i : Int) : Bool := decide (-(2 ^ 64) < i) && decide (i < 2 ^ 64)
def bopI : Op → Int → Int → Option D
  | .add, i, j => some (.int (i + j))
  | .sub, i, j => some (.int (i - j))
  | .mul, i, j => if smallI i || smallI j then some (.int (i * j)) else none
  | .mod, i, j => if 0 < j then some (.int (i % j)) else none
  | .fdiv, i, j => if 0 < j ∧ j < 1073741824 then some (.int (i / j)) else none
  | .pow, i, j => if 0 ≤ j ∧ j ≤ 1000000 ∧ i.natAbs < 2 ^ 64 then some (.int (i ^ j.toNat)) else none
/-- the list, tracked and not locked -/
def lstOf (S : Store) : D → Option (List D)
  | .lst ds => some ds
  | .ref n => match S[n]? with
    | some (.lst ds) => some ds
    | _ => none
  | _ => none
def addD (S : Store) : D → D → Option D
  | .int i, .int j => some (.int (i + j))
  | .str a, .str b => if a.length + b.length ≤ SZ then some (.str (a ++ b)) else none
  | .tup a, .tup b => if a.length + b.length ≤ SZ then some (.tup (a ++ b)) else none
  | x, y => match lstOf S x, lstOf S y with
    | some a, some b => if a.length + b.length ≤ SZ then some (.lst (a ++ b)) else none
    | _, _ => none
def mulD (S : Store) : D → D → Option D
  | .int i, .int j => if smallI i || smallI j then some (.int (i * j)) else none
  | .tup a, .int k => if 2 ≤ k ∧ k ≤ 1000 ∧ a.length ≤ 1000 ∧ a ≠ [] then some (.tup (List.replicate k.toNat a).flatten) else none
  | x, .int k => match lstOf S x with
    | some a => if 0 ≤ k ∧ k < 2 ^ 62 ∧ a.length * k.toNat ≤ SZ then some (.lst (List.replicate k.toNat a).flatten) else none
    | none => none
  | _, _ => none
def bopD (S : Store) (op : Op) (x y : D) : Option D := match op with
  | .add => addD S x y
  | .mul => mulD S x y
  | op => match x, y with
    | .int i, .int j => bopI op i j
    | _, _ => none
def flatP : PyData → Bool
  | .none => true
  | .bool _ => true
  | .int _ => true
  | .str _ => true
  | _ => false
/-- == of plain data -/
def eqD (S : Store) (x y : D) : Option Bool := match (deref S x).py, (deref S y).py with
  | some a, some b => if (flatP a && flatP b) || (SeqAt.shaped a && SeqAt.shaped b) then some (PyData.eqv a b) else none
  | _, _ => none
/-! keys of dicts -/
def keyEq : D → D → Bool
  | .int i, .int j => decide (i = j)
  | .str a, .str b => decide (a = b)
  | .tup xs, .tup ys => keysEq xs ys
  | _, _ => false
where keysEq : List D → List D → Bool
  | [], [] => true
  | .int i :: xs, .int j :: ys => decide (i = j) && keysEq xs ys
  | .str a :: xs, .str b :: ys => decide (a = b) && keysEq xs ys
  | _, _ => false
def flatKey : D → Bool
  | .int _ => true
  | .str _ => true
  | _ => false
def okKey : D → Bool
  | .int _ => true
  | .str _ => true
  | .tup ds => ds.all flatKey
  | _ => false
def dGet : List D → List D → D → Option D
  | k :: ks, v :: vs, x => if keyEq k x then some v else dGet ks vs x
  | _, _, _ => none
def repV : List D → List D → D → D → List D
  | k :: ks, v :: vs, x, y => (if keyEq k x then y else v) :: repV ks vs x y
  | _, _, _, _ => []
def dPut (ks vs : List D) (x y : D) : List D × List D := if ks.any (fun k => keyEq k x) then (ks, repV ks vs x y) else (ks ++ [x], vs ++ [y])
def dDel : List D → List D → D → List D × List D
  | k :: ks, v :: vs, x => if keyEq k x then (ks, vs) else ((k :: (dDel ks vs x).1), (v :: (dDel ks vs x).2))
  | _, _, _ => ([], [])
/-- are the keys of one sort: none, flat ones (false), tuples (true) -/
def sortK : D → Bool
  | .tup _ => true
  | _ => false
def isRefD : D → Bool
  | .ref _ => true
  | _ => false
/-- r: is the dict a cell of the store -/
def fitsK (r : Bool) (ks : List D) (x : D) : Bool := okKey x && ((!sortK x && ks.all fun k => !sortK k) || (r && (sortK x && ks.all sortK)))

/-- x in y -/
def flatD : D → Bool
  | .non => true
  | .bl _ => true
  | .int _ => true
  | .str _ => true
  | _ => false
def inD (S : Store) (x y : D) : Option Bool := match x, y with
  | .str [c], .str z => some (decide (c ∈ z))
  | x, y => match seqOf S y with
    | some ds => (match x.py, D.pys ds with
      | some a, some bs => if (flatP a && bs.all flatP) || (!isTup y && SeqAt.shaped a && SeqAt.shaped (.list bs)) then some (bs.any fun b => PyData.eqv b a) else none
      | _, _ => none)
    | none => (match dctOf S y with
      | some (ks, vs) => if fitsK (isRefD y) ks x then some (dGet ks vs x).isSome else none
      | none => none)
def cmpI : Cp → Int → Int → Option Bool
  | .lt, i, j => some (decide (i < j))
  | .le, i, j => some (decide (i ≤ j))
  | .gt, i, j => some (decide (j < i))
  | .ge, i, j => some (decide (j ≤ i))
  | _, _, _ => none
def isNon : D → Bool
  | .non => true
  | _ => false
def cmpD (S : Store) (op : Cp) (x y : D) : Option Bool := match op with
  | .eq => eqD S x y
  | .ne => (eqD S x y).map not
  | .isin => inD S x y
  | .notin => (inD S x y).map not
  | .is => if isNon y then some (isNon x) else none
  | .isnot => if isNon y then some (!isNon x) else none
  | op => match x, y with
    | .int i, .int j => cmpI op i j
    | _, _ => none
/-- truth -/
def truD (S : Store) : D → Option Bool
  | .non => some false
  | .bl b => some b
  | .int i => some (i != 0)
  | .str s => if s.length ≤ SZ then some (!s.isEmpty) else none
  | d => match seqOf S d with
    | some ds => some (!ds.isEmpty)
    | none => none
def lenD (S : Store) : D → Option D
  | .str s => if s.length ≤ SZ then some (.int s.length) else none
  | d => match seqOf S d with
    | some ds => some (.int ds.length)
    | none => match dctOf S d with
      | some (ks, _) => some (.int ks.length)
      | none => none
def ixOf (n : Nat) (i : Int) : Option Nat := if 0 ≤ i then (if i < n then some i.toNat else none) else if -(n : Int) ≤ i then some (i + n).toNat else none
def idxD (S : Store) (x y : D) : Option D := match x, y with
  | .str s, .int i => if s.length ≤ SZ then (match ixOf s.length i with
    | some j => (match s[j]? with
      | some c => some (.str [c])
      | none => none)
    | none => none) else none
  | x, y => match dctOf S x with
    | some (ks, vs) => if fitsK (isRefD x) ks y then dGet ks vs y else none
    | none => (match y with
      | .int i => (match seqOf S x with
        | some ds => (match ixOf ds.length i with
          | some j => ds[j]?
          | none => none)
        | none => none)
      | _ => none)
def cutOf {α : Type} (xs : List α) (lo hi : Option Int) : List α := (xs.drop (HT.sIx xs.length 0 lo)).take (HT.sIx xs.length xs.length hi - HT.sIx xs.length 0 lo)
def slcD (S : Store) (x : D) (l h : Option Int) : Option D := match x with
  | .str s => if s.length ≤ SZ then some (.str (cutOf s l h)) else none
  | .tup ds => some (.tup (cutOf ds l h))
  | .kt _ => none
  | x => (match seqOf S x with
    | some ds => some (.lst (cutOf ds l h))
    | none => none)
def revD (S : Store) (x : D) : Option D := match x with
  | .str s => if s.length ≤ SZ then some (.str s.reverse) else none
  | .tup ds => some (.tup ds.reverse)
  | .kt _ => none
  | x => match seqOf S x with
    | some ds => some (.lst ds.reverse)
    | none => none
def fldL : List Str → List D → Str → Option D
  | n :: ns, v :: vs, f => if n = f then some v else fldL ns vs f
  | _, _, _ => none
def putL : List Str → List D → Str → D → List Str × List D
  | n :: ns, v :: vs, f, y => if n = f then (n :: ns, y :: vs) else (n :: (putL ns vs f y).1, v :: (putL ns vs f y).2)
  | _, _, f, y => ([f], [y])
def fldD (ok : Str → Str → Bool) (S : Store) (x : D) (f : Str) : Option D := match insOf S x with
  | some (c, ns, vs) => if ok c f then fldL ns vs f else none
  | none => none
/-! types -/
inductive Ty where
  | int | bool | str | tuple | list | dict | own (c : Str)
def isaD (S : Store) (x : D) (t : Ty) : Option Bool := match t, deref S x with
  | .int, .int _ => some true
  | .int, .bl _ => some true
  | .bool, .bl _ => some true
  | .str, .str _ => some true
  | .tuple, .tup _ => some true
  | .tuple, .kt _ => some true
  | .list, .lst _ => some true
  | .dict, .dct _ _ => some true
  | .own _, _ => none
  | _, .ins _ _ _ => none
  | _, .scr _ => none
  | _, .ref _ => none
  | _, .fn _ => none
  | _, _ => some false
/-! ### the store -/
def alloc (c : Cell) : M D := fun S => .ok (.ref S.length) (S ++ [c])
/-- what may be written into the n-th cell, b the base of the frame -/
def mayPut (b n : Nat) (d : D) : Bool := decide (b ≤ n) || d.low 0
def putC (n : Nat) (c : Cell) : M Unit := fun S => .ok () (S.set n c)
end CI
end
end
section
set_option Elab.async false
set_option linter.all false
set_option maxRecDepth 100000
/-! ## CI: the terms and what they do -/
noncomputable section
namespace CI
open PySem Classical

inductive Bi where
  | len | int | abs | divmod | min2 | max2 | list | tuple | repr | all | any | sum | str | dict | sorted | min1 | max1
inductive Bm where
  | append | extend | pop | get | join | upper | lower | swapcase | split | index | items | setdefault | insert
inductive Ex where
  | lit (d : D) | var (i : Nat) | glb (x : Str)
  | nil | cons (a b : Ex) | scons (a b : Ex)
  | tup (es : Ex) | lst (es : Ex) (k : Bool) | dct (kvs : Ex) (k : Bool)
  | bop (op : Op) (a b : Ex) | neg (a : Ex) | cmp (op : Cp) (a b : Ex) | chain (op op' : Cp) (a b c : Ex)
  | and (a b : Ex) | or (a b : Ex) | not (a : Ex) | ite (c a b : Ex)
  | idx (a i : Ex) | slc (a lo hi : Ex) | rev (a : Ex) | fld (a : Ex) (f : Str)
  | call (f : Str) (np nk : Nat) (pl : List Nat) (dl : List D) (es ks : Ex) | make (c : Str) (es : Ex) | meth (a : Ex) (m : Str) (es : Ex) | callv (i : Nat) (es : Ex)
  | bm (m : Bm) (a es : Ex) | bi (f : Bi) (es : Ex) | isa (a : Ex) (t : Ty)
  | lc (vs : List Nat) (tg it ifs elt : Ex) (k : Bool)
  | tst (a : Ex) | prt (a : Ex) | tnm (i : Nat) | tsub (a i : Ex) | tfld (a : Ex) (f : Str)
  | rng1 (a : Ex) | rng2 (a b : Ex) | enm (a : Ex) | zp (a b : Ex) | itm (a : Ex) | rvd (a : Ex) | itv (a : Ex)
inductive Sm where
  | skip | seq (a b : Sm) | asg (tg e : Ex) | par (tg es : Ex) | expr (e : Ex) | ret (e : Ex) | retN
  | iff (c : Ex) (a b : Sm) | whl (c : Ex) (b : Sm) | for_ (tg it : Ex) (b : Sm) | brk | cont
  | raise (c : Str) (e : Ex) | never
inductive Fl where
  | nx (ρ : Rho) | rt (d : D) | bk (ρ : Rho) | ct (ρ : Rho)
/-- a class as it is known: its methods and the rows that tell them, its fields' names -/
structure ClT where
  ms : List (Str × Str)
  fs : List Str
structure Cfg where
  glob : Str → Option D
  call : Str → List D → Nat → M D
  cls : Str → Option ClT
  arg : Str → List D → Option (List D)
  has : Str → Bool
  fuel : Nat
def fldK (cls : Str → Option ClT) (c f : Str) : Bool := match cls c with
  | some t => t.fs.contains f
  | none => false
def metK (cls : Str → Option ClT) (c m : Str) : Option Str := match cls c with
  | some t => t.ms.lookup m
  | none => none

def wipeE (ρ : Rho) : List Nat → Rho
  | [] => ρ
  | v :: vs => (wipeE ρ vs).set v none
/-- an iterator: its items, and the list that must stay -/
structure Wk where
  xs : List D
  w : Option Nat
  c : Option Cell
def stays (J : Wk) : M Unit := fun S => match J.w with
  | none => .ok () S
  | some n => if S[n]? = J.c then .ok () S else .bad
def lcL (J : Wk) (f : D → M (Option D)) : List D → M (List D)
  | [] => (stays J).bind fun _ => M.pure []
  | d :: ds => (stays J).bind fun _ => (f d).bind fun o => (lcL J f ds).bind fun r => M.pure (match o with
    | some y => y :: r
    | none => r)
def forL (J : Wk) (g : D → Rho → M Rho) (f : Rho → M Fl) : List D → Rho → M Fl
  | [], ρ => (stays J).bind fun _ => M.pure (.nx ρ)
  | d :: ds, ρ => (stays J).bind fun _ => (g d ρ).bind fun ρ1 => (f ρ1).bind fun fl => match fl with
    | .nx ρ2 => forL J g f ds ρ2
    | .ct ρ2 => forL J g f ds ρ2
    | .bk ρ2 => M.pure (.nx ρ2)
    | .rt d => M.pure (.rt d)
def whlL (c : Rho → M Bool) (f : Rho → M Fl) : Nat → Rho → M Fl
  | 0, _ => M.bad
  | n + 1, ρ => (c ρ).bind fun t => if t = true then (f ρ).bind fun fl => (match fl with
    | .nx ρ2 => whlL c f n ρ2
    | .ct ρ2 => whlL c f n ρ2
    | .bk ρ2 => M.pure (.nx ρ2)
    | .rt d => M.pure (.rt d)) else M.pure (.nx ρ)
def itOf (d : D) : M Wk := fun S => match d with
  | .ref n => (match S[n]? with
    | some (.lst ds) => .ok ⟨ds, some n, some (.lst ds)⟩ S
    | _ => .bad)
  | .str s => .ok ⟨s.map fun c => .str [c], none, none⟩ S
  | d => (match seqOf S d with
    | some ds => .ok ⟨ds, none, none⟩ S
    | none => .bad)
def enmL : Nat → List D → List D
  | _, [] => []
  | n, d :: ds => .tup [.int (n : Nat), d] :: enmL (n + 1) ds
def rngOf (i : Int) (n : Nat) : List D := (List.range n).map fun k => .int (i + (k : Nat))
/-- lists and tuples, shown -/
def seqP : PyData → Bool
  | .list _ => true
  | .tuple _ => true
  | _ => false
def reprP (p : PyData) : Option D := if seqP p && p.showable && !p.hasDict && decide (p.depth ≤ 60) && decide (p.shown.length ≤ SZ) then some (.str p.shown.cps.toList) else none
def reprD (S : Store) (d : D) : Option D := match (deref S d).py with
  | some p => reprP p
  | none => none
def boolsOf : List D → Option (List Bool)
  | [] => some []
  | .bl b :: ds => (boolsOf ds).map (b :: ·)
  | _ => none
def intsOf : List D → Option (List Int)
  | [] => some []
  | .int i :: ds => (intsOf ds).map (i :: ·)
  | _ => none
def biD (S : Store) : Bi → List D → Option D
  | .len, [x] => lenD S x
  | .int, [x] => (match x with
    | .int i => some (.int i)
    | .bl b => some (.int (if b then 1 else 0))
    | _ => none)
  | .abs, [.int i] => some (.int (if i < 0 then -i else i))
  | .divmod, [.int i, .int j] => if 0 < j ∧ j < 1073741824 then some (.tup [.int (i / j), .int (i % j)]) else none
  | .min2, [.int i, .int j] => some (.int (if j < i then j else i))
  | .max2, [.int i, .int j] => some (.int (if j > i then j else i))
  | .list, [.str s] => if s.length ≤ SZ then some (.lst (s.map fun c => .str [c])) else none
  | .list, [x] => (seqOf S x).map .lst
  | .tuple, [x] => (match x with
    | .kt ds => some (.kt ds)
    | x => (seqOf S x).map .tup)
  | .repr, [x] => reprD S x
  | .all, [x] => (match lstOf S x with
    | some ds => (boolsOf ds).map fun bs => .bl (bs.all id)
    | none => none)
  | .any, [x] => (match lstOf S x with
    | some ds => (boolsOf ds).map fun bs => .bl (bs.any id)
    | none => none)
  | .sum, [x] => (match lstOf S x with
    | some ds => (intsOf ds).map fun bs => .int bs.sum
    | none => none)
  | _, _ => none
/-- is it of the method's type -/
def bmTy (S : Store) (m : Bm) (u : D) : Option Unit := match m with
  | .append => (lstOf S u).map fun _ => ()
  | .extend => (lstOf S u).map fun _ => ()
  | .pop => (lstOf S u).map fun _ => ()
  | .get => (dctOf S u).map fun _ => ()
  | _ => none
def bmM (b : Nat) : Bm → D → List D → M D
  | .append, .ref n, [y] => fun S => (match S[n]? with
    | some (.lst ds) => if ds.length < SZ ∧ mayPut b n y then .ok .non (S.set n (.lst (ds ++ [y]))) else .bad
    | _ => .bad)
  | .pop, .ref n, [] => fun S => (match S[n]? with
    | some (.lst ds) => (match ds[ds.length - 1]? with
      | some y => .ok y (S.set n (.lst ds.dropLast))
      | none => .bad)
    | _ => .bad)
  | .get, x, [k, e] => fun S => (match dctOf S x with
    | some (ks, vs) => if fitsK false ks k ∧ (isRefD x = false ∨ ks ≠ []) then .ok ((dGet ks vs k).getD e) S else .bad
    | none => .bad)
  | _, _, _ => M.bad
def setD (b : Nat) (o i v : D) : M Unit := fun S => match o, i with
  | .ref n, i => (match S[n]?, i with
    | some (.lst ds), .int k => (match ixOf ds.length k with
      | some j => if mayPut b n v then .ok () (S.set n (.lst (ds.set j v))) else .bad
      | none => .bad)
    | some (.dct ks vs), k => if fitsK true ks k ∧ ks.length < SZ ∧ mayPut b n v ∧ mayPut b n k then .ok () (S.set n (.dct (dPut ks vs k v).1 (dPut ks vs k v).2)) else .bad
    | _, _ => .bad)
  | _, _ => .bad
def setF (ok : Str → Str → Bool) (b : Nat) (o : D) (f : Str) (v : D) : M Unit := fun S => match o with
  | .ref n => (match S[n]? with
    | some (.ins c ns vs) => if mayPut b n v ∧ ns.length < 900 ∧ ok c f = true then .ok () (S.set n (.ins c (putL ns vs f v).1 (putL ns vs f v).2)) else .bad
    | _ => .bad)
  | _ => .bad
def dctL : List D → List D → List D → Option (List D × List D)
  | ks, vs, k :: v :: r => if fitsK false ks k ∧ ks.length < 15 ∧ !sortK k then dctL (dPut ks vs k v).1 (dPut ks vs k v).2 r else none
  | ks, vs, [] => some (ks, vs)
  | _, _, _ => none
def newD (k : Bool) (c : Cell) : M D := if k then alloc c else match c with
  | .lst ds => M.pure (.lst ds)
  | .dct ks vs => M.pure (.dct ks vs)
  | .ins c ns vs => M.pure (.ins c ns vs)
def asB (d : D) : Option Bool := match d with
  | .bl b => some b
  | _ => none
def asFn (d : D) : Option Str := match d with
  | .fn f => some f
  | _ => none

/-- the args put in the parameters' order -/
def pick {α : Type} (xs : List α) : List Nat → Option (List α)
  | [] => some []
  | i :: is => match xs[i]?, pick xs is with
    | some x, some r => some (x :: r)
    | _, _ => none
/-- the args of a call, each at its parameter -/
def pickA (np nk : Nat) (pl : List Nat) (us ws dl : List D) : Option (List D) := if us.length = np ∧ ws.length = nk then pick (us ++ (ws ++ dl)) pl else none
/-- what a comprehension makes -/
def lcF (J : Wk) (g : D → Rho → M Rho) (ft : Rho → M Bool) (fe : Rho → M D) (vs : List Nat) (k : Bool) (ρ : Rho) : M D := if ¬ J.xs.length ≤ SZ then M.bad else
      (lcL J (fun d => M.calm ((g d (wipeE ρ vs)).bind fun ρ1 => (ft ρ1).bind fun t => if t = true then (fe ρ1).bind fun y => M.pure (some y) else M.pure none)) J.xs).bind fun ds => newD k (.lst ds)
section
variable (G : Cfg) (b : Nat)
mutual
def ev : Ex → Rho → M D
  | .lit d, _ => M.pure d
  | .var i, ρ => M.lift (ρ[i]?.getD none)
  | .glb x, _ => M.lift (G.glob x)
  | .tup es, ρ => (evs es ρ).bind fun ds => if ds.length ≤ SZ then M.pure (.tup ds) else M.bad
  | .lst es k, ρ => (evs es ρ).bind fun ds => if ds.length ≤ SZ then newD k (.lst ds) else M.bad
  | .dct es k, ρ => (M.calm (evs es ρ)).bind fun ds => (M.lift (dctL [] [] ds)).bind fun p => newD k (.dct p.1 p.2)
  | .bop op x y, ρ => (ev x ρ).bind fun u => (ev y ρ).bind fun v => M.get fun S => bopD S op u v
  | .neg x, ρ => (ev x ρ).bind fun u => (match u with
    | .int i => M.pure (.int (-i))
    | _ => M.bad)
  | .cmp op x y, ρ => (ev x ρ).bind fun u => (ev y ρ).bind fun v => M.get fun S => (cmpD S op u v).map .bl
  | .chain op op' x y z, ρ => (ev x ρ).bind fun u => (ev y ρ).bind fun v => (M.get fun S => cmpD S op u v).bind fun t =>
      if t = true then (ev z ρ).bind fun w => M.get fun S => (cmpD S op' v w).map .bl else M.pure (.bl false)
  | .and x y, ρ => (ev x ρ).bind fun u => (M.lift (asB u)).bind fun t => if t = true then ev y ρ else M.pure (.bl false)
  | .or x y, ρ => (ev x ρ).bind fun u => (M.lift (asB u)).bind fun t => if t = true then M.pure (.bl true) else ev y ρ
  | .not x, ρ => (ev x ρ).bind fun u => (M.lift (asB u)).bind fun t => M.pure (.bl (!t))
  | .ite c x y, ρ => (evT c ρ).bind fun t => if t = true then ev x ρ else ev y ρ
  | .idx x i, ρ => (ev x ρ).bind fun u => (ev i ρ).bind fun v => M.get fun S => idxD S u v
  | .slc x lo hi, ρ => (ev x ρ).bind fun u => (evO lo ρ).bind fun l => (evO hi ρ).bind fun h => M.get fun S => slcD S u l h
  | .rev x, ρ => (ev x ρ).bind fun u => M.get fun S => revD S u
  | .fld x f, ρ => (ev x ρ).bind fun u => M.get fun S => fldD (fldK G.cls) S u f
  | .call f np nk pl dl es ks, ρ => (evs es ρ).bind fun us => (evs ks ρ).bind fun ws => (M.lift (pickA np nk pl us ws dl)).bind fun as => G.call f as b
  | .make c es, ρ => (M.lift (metK G.cls c "__init__")).bind fun f => (evs es ρ).bind fun ds => (alloc (.ins c [] [])).bind fun o => (M.lift (G.arg f (o :: ds))).bind fun as => (G.call f as b).bind fun r => (match r with
    | .non => M.pure o
    | _ => M.bad)
  | .meth x m es, ρ => (ev x ρ).bind fun u => (M.get fun S => insOf S u).bind fun c => if (fldL c.2.1 c.2.2 m).isSome then M.bad else (M.lift (metK G.cls c.1 m)).bind fun f => (evs es ρ).bind fun ds => (M.lift (G.arg f (u :: ds))).bind fun as => G.call f as b
  | .callv i es, ρ => (M.lift ((ρ[i]?.getD none).bind asFn)).bind fun f => if G.has f = true then (evs es ρ).bind fun ds => (M.lift (G.arg f ds)).bind fun as => G.call f as b else M.bad
  | .bm m x es, ρ => (ev x ρ).bind fun u => (M.get fun S => bmTy S m u).bind fun _ => (evs es ρ).bind fun ds => bmM b m u ds
  | .bi f es, ρ => (evs es ρ).bind fun ds => M.get fun S => biD S f ds
  | .isa x t, ρ => (ev x ρ).bind fun u => M.get fun S => (isaD S u t).map .bl
  | .lc vs tg it ifs elt k, ρ => (evI it ρ).bind fun J => lcF J (fun d ρ1 => asg tg d ρ1) (fun ρ1 => evA ifs ρ1) (fun ρ1 => ev elt ρ1) vs k ρ
  | _, _ => M.bad
def evs : Ex → Rho → M (List D)
  | .nil, _ => M.pure []
  | .cons x r, ρ => (ev x ρ).bind fun u => (evs r ρ).bind fun us => M.pure (u :: us)
  | .scons x r, ρ => (ev x ρ).bind fun u => (M.get fun S => seqOf S u).bind fun xs => (evs r ρ).bind fun us => M.pure (xs ++ us)
  | _, _ => M.bad
/-- a part of a slice -/
def evO : Ex → Rho → M (Option Int)
  | .nil, _ => M.pure none
  | .prt e, ρ => (ev e ρ).bind fun u => (match u with
    | .int i => M.pure (some i)
    | _ => M.bad)
  | _, _ => M.bad
/-- a test -/
def evT : Ex → Rho → M Bool
  | .and x y, ρ => (evT x ρ).bind fun t => if t = true then evT y ρ else M.pure false
  | .or x y, ρ => (evT x ρ).bind fun t => if t = true then M.pure true else evT y ρ
  | .not x, ρ => (evT x ρ).bind fun t => M.pure (!t)
  | .cmp op x y, ρ => (ev x ρ).bind fun u => (ev y ρ).bind fun v => M.get fun S => cmpD S op u v
  | .chain op op' x y z, ρ => (ev x ρ).bind fun u => (ev y ρ).bind fun v => (M.get fun S => cmpD S op u v).bind fun t =>
      if t = true then (ev z ρ).bind fun w => M.get fun S => cmpD S op' v w else M.pure false
  | .ite c x y, ρ => (evT c ρ).bind fun t => if t = true then evT x ρ else evT y ρ
  | .tst e, ρ => (ev e ρ).bind fun u => M.get fun S => truD S u
  | _, _ => M.bad
/-- the tests of a comprehension -/
def evA : Ex → Rho → M Bool
  | .nil, _ => M.pure true
  | .cons x .nil, ρ => evT x ρ
  | _, _ => M.bad
/-- what is walked -/
def evI : Ex → Rho → M Wk
  | .rng1 x, ρ => (ev x ρ).bind fun u => (match u with
    | .int j => if j ≤ (SZ : Int) ∧ -(2 ^ 62) ≤ j then M.pure ⟨rngOf 0 j.toNat, none, none⟩ else M.bad
    | _ => M.bad)
  | .rng2 x y, ρ => (ev x ρ).bind fun u => (ev y ρ).bind fun v => (match u, v with
    | .int i, .int j => if -(2 ^ 62) ≤ i ∧ i < 2 ^ 62 ∧ -(2 ^ 62) ≤ j ∧ j < 2 ^ 62 ∧ j - i ≤ (SZ : Int) then M.pure ⟨rngOf i (j - i).toNat, none, none⟩ else M.bad
    | _, _ => M.bad)
  | .enm x, ρ => (ev x ρ).bind fun u => (itOf u).bind fun J => if J.xs.length ≤ SZ then M.pure ⟨enmL 0 J.xs, J.w, J.c⟩ else M.bad
  | .itv x, ρ => (ev x ρ).bind fun u => itOf u
  | _, _ => M.bad
/-- a store to a target -/
def asg : Ex → D → Rho → M Rho
  | .tnm i, d, ρ => M.pure (ρ.set i (some d))
  | .tsub x i, d, ρ => (ev x ρ).bind fun u => (ev i ρ).bind fun v => (setD b u v d).bind fun _ => M.pure ρ
  | .tfld x f, d, ρ => (ev x ρ).bind fun u => (setF (fldK G.cls) b u f d).bind fun _ => M.pure ρ
  | .tup es, d, ρ => (match d with
    | .tup ds => asgs es ds ρ
    | _ => M.bad)
  | _, _, _ => M.bad
def asgs : Ex → List D → Rho → M Rho
  | .nil, [], ρ => M.pure ρ
  | .cons t r, d :: ds, ρ => (asg t d ρ).bind fun ρ1 => asgs r ds ρ1
  | _, _, _ => M.bad
end
/-- statements -/
def exec : Sm → Rho → M Fl
  | .skip, ρ => M.pure (.nx ρ)
  | .seq s r, ρ => (exec s ρ).bind fun fl => (match fl with
    | .nx ρ1 => exec r ρ1
    | fl => M.pure fl)
  | .asg tg e, ρ => (ev G b e ρ).bind fun d => (M.calm (asg G b tg d ρ)).bind fun ρ1 => M.pure (.nx ρ1)
  | .par tgs es, ρ => (evs G b es ρ).bind fun ds => (M.calm (asgs G b tgs ds ρ)).bind fun ρ1 => M.pure (.nx ρ1)
  | .expr e, ρ => (ev G b e ρ).bind fun _ => M.pure (.nx ρ)
  | .ret e, ρ => (ev G b e ρ).bind fun d => M.pure (.rt d)
  | .retN, _ => M.pure (.rt .non)
  | .iff c x y, ρ => (evT G b c ρ).bind fun t => if t = true then exec x ρ else exec y ρ
  | .whl c x, ρ => whlL (fun ρ => evT G b c ρ) (fun ρ => exec x ρ) G.fuel ρ
  | .for_ tg it x, ρ => (evI G b it ρ).bind fun J => forL J (fun d ρ => M.calm (asg G b tg d ρ)) (fun ρ => exec x ρ) J.xs ρ
  | .brk, ρ => M.pure (.bk ρ)
  | .cont, ρ => M.pure (.ct ρ)
  | _, _ => M.bad
end
end CI
end
end
section
set_option Elab.async false
set_option linter.all false
set_option maxRecDepth 100000
/-! ## CI: what the contents stand for -/
namespace CI
open PySem PySem.Spec PyProof.Rows L2

/-- where the module's functions and classes stand -/
structure Wh where
  K : PySem.W.Frag
  fa : Str → Addr
  xn : Str → Option Str
/-- the i-th place is a store's cell; x: places that no content may lean on -/
structure Pl where
  m : List Addr
  x : List Addr
def Pl.has (p : Pl) (a : Addr) : Prop := a ∈ p.m ∨ a ∈ p.x
def RdP (H : Hp) (p : Pl) (a : Addr) (o : HO) : Prop := Rd H a o ∧ ¬ p.has a
def KTup (K : PySem.W.Frag) (a : Addr) (vs : List V) : Prop := ∃ (o : Obj) (its : Array Value) (n : Nat), K.lookup a = some o ∧ o.cls = .type "tuple" ∧ o.data = .seq its n ∧ its.size ≤ sizeLine ∧ Vals vs its.toList
def kD : D → Option Key
  | .int i => some (.inl i)
  | .str s => some (.inr ⟨s.toArray⟩)
  | _ => none
def kDs : List D → Option (List Key)
  | [] => some []
  | d :: ds => match kD d, kDs ds with
    | some k, some ks => some (k :: ks)
    | _, _ => none
def kT : D → Option (List Key)
  | .tup ds => kDs ds
  | _ => none
def kTs : List D → Option (List (List Key))
  | [] => some []
  | d :: ds => match kT d, kTs ds with
    | some k, some ks => some (k :: ks)
    | _, _ => none
mutual
def Rep (w : Wh) (H : Hp) (p : Pl) : D → V → Prop
  | .non, v => v = .non
  | .bl b, v => v = .bl b
  | .int i, v => v = .int i
  | .str s, v => v = .str ⟨s.toArray⟩
  | .tup ds, v => ∃ a vs, v = .ref a ∧ (H a = some (.tup vs) ∧ ¬ p.has a) ∧ Reps w H p ds vs
  | .kt ds, v => ∃ a vs, v = .ref a ∧ KTup w.K a vs ∧ Reps w H p ds vs
  | .lst ds, v => ∃ a vs, v = .ref a ∧ H a = some (.lst vs) ∧ ¬ p.has a ∧ Reps w H p ds vs
  | .scr ds, v => ∃ a vs, v = .ref a ∧ SqL w.K H a vs ∧ (RdP H p a (.lst vs) ∨ ∀ H', SqL w.K H' a vs) ∧ Reps w H p ds vs
  | .dct ks ds, v => ∃ a kvs, v = .ref a ∧ H a = some (.dK kvs) ∧ ¬ p.has a ∧ kDs ks = some (kvs.map (·.1)) ∧ Reps w H p ds (kvs.map (·.2))
  | .ins c ns ds, v => ∃ a dx fs, v = .ref a ∧ H a = some (.ins (w.fa c) dx fs) ∧ ¬ p.has a ∧ fs.map (·.1) = ns ∧ Reps w H p ds (fs.map (·.2))
  | .ref n, v => ∃ a, v = .ref a ∧ p.m[n]? = some a
  | .fn f, v => v = .ref (w.fa f)
def Reps (w : Wh) (H : Hp) (p : Pl) : List D → List V → Prop
  | [], vs => vs = []
  | d :: ds, vs => ∃ v us, vs = v :: us ∧ Rep w H p d v ∧ Reps w H p ds us
end
/-- the store's cell at a -/
def CRep (w : Wh) (H : Hp) (p : Pl) (a : Addr) : Cell → Prop
  | .lst ds => ∃ vs, H a = some (.lst vs) ∧ Reps w H p ds vs
  | .dct ks ds => (∃ kvs : List (Key × V), H a = some (.dK kvs) ∧ kDs ks = some (kvs.map (·.1)) ∧ Reps w H p ds (kvs.map (·.2))) ∨
      (∃ kvs : List (List Key × V), H a = some (.dT kvs) ∧ kTs ks = some (kvs.map (·.1)) ∧ Reps w H p ds (kvs.map (·.2)))
  | .ins c ns ds => ∃ dx fs, H a = some (.ins (w.fa c) dx fs) ∧ fs.map (·.1) = ns ∧ Reps w H p ds (fs.map (·.2))
structure RelS (w : Wh) (H : Hp) (p : Pl) (S : Store) : Prop where
  len : p.m.length = S.length
  nd : p.m.Nodup
  ap : ∀ a ∈ p.m, a ∉ p.x
  xs : ∀ a ∈ p.x, ∃ o, H a = some o
  cells : ∀ (n : Nat) (a : Addr) (c : Cell), p.m[n]? = some a → S[n]? = some c → CRep w H p a c
def RelE (w : Wh) (H : Hp) (p : Pl) (σ : L2.St) (ρ : Rho) : Prop :=
  ρ.length = σ.length ∧ ∀ (i : Nat) (d : D), ρ[i]? = some (some d) → ∃ v, σ[i]? = some (some v) ∧ Rep w H p d v
def LowS (b : Nat) (S : Store) : Prop := ∀ (n : Nat) (c : Cell), n < b → S[n]? = some c → c.low b = true
/-- from one state to a later one -/
structure Ext (H : Hp) (p : Pl) (H' : Hp) (p' : Pl) : Prop where
  pre : p.m <+: p'.m
  x : p'.x = p.x
  kept : ∀ a o, H a = some o → a ∉ p.m → H' a = some o
  new : ∀ a ∈ p'.m, a ∈ p.m ∨ H a = none
structure Post (w : Wh) (b : Nat) (H : Hp) (p : Pl) (S : Store) (H' : Hp) (p' : Pl) (S' : Store) : Prop where
  ext : Ext H p H' p'
  rel : RelS w H' p' S'
  grow : S.length ≤ S'.length
  low : ∀ b', b' ≤ b → LowS b' S → LowS b' S'

theorem Ext.refl (H : Hp) (p : Pl) : Ext H p H p := ⟨List.prefix_refl _, rfl, fun _ _ h _ => h, fun _ h => .inl h⟩
theorem Ext.trans {H H1 H2 : Hp} {p p1 p2 : Pl} (a : Ext H p H1 p1) (b : Ext H1 p1 H2 p2) : Ext H p H2 p2 := by
  refine ⟨a.pre.trans b.pre, b.x.trans a.x, fun c o h hc => ?_, fun c hc => ?_⟩
  · refine b.kept c o (a.kept c o h hc) fun z => ?_
    rcases a.new c z with z | z
    · exact hc z
    · rw [h] at z; cases z
  · rcases b.new c hc with z | z
    · exact a.new c z
    · by_cases hm : c ∈ p.m
      · exact .inl hm
      · right
        cases e : H c with
        | none => rfl
        | some o => rw [a.kept c o e hm] at z; cases z
theorem Ext.has {H H' : Hp} {p p' : Pl} (e : Ext H p H' p') {a : Addr} {o : HO} (h : H a = some o) (n : ¬ p.has a) : ¬ p'.has a := by
  rintro (z | z)
  · rcases e.new a z with z | z
    · exact n (.inl z)
    · rw [h] at z; cases z
  · rw [e.x] at z; exact n (.inr z)
theorem Ext.rd {H H' : Hp} {p p' : Pl} (e : Ext H p H' p') {a : Addr} {o : HO} (h : RdP H p a o) : RdP H' p' a o := by
  obtain ⟨h, n⟩ := h
  rcases h with h | ⟨u, h⟩
  · exact ⟨.inl (e.kept a _ h fun z => n (.inl z)), e.has h n⟩
  · exact ⟨.inr ⟨u, e.kept a _ h fun z => n (.inl z)⟩, e.has h n⟩
theorem getElem?_prefix {α : Type} {l l' : List α} {n : Nat} {a : α} (h : l <+: l') (e : l[n]? = some a) : l'[n]? = some a := by
  obtain ⟨t, rfl⟩ := h
  have hn : n < l.length := by
    rcases Nat.lt_or_ge n l.length with q | q
    · exact q
    · rw [List.getElem?_eq_none q] at e; cases e
  rw [List.getElem?_append_left hn]; exact e
mutual
theorem Rep.ext {w : Wh} {H H' : Hp} {p p' : Pl} (e : Ext H p H' p') : ∀ (d : D) (v : V), Rep w H p d v → Rep w H' p' d v
  | .non, v, h => h
  | .bl _, v, h => h
  | .int _, v, h => h
  | .str _, v, h => h
  | .tup ds, v, h => by
    obtain ⟨a, vs, h1, h2, h3⟩ := h
    exact ⟨a, vs, h1, ⟨e.kept a _ h2.1 fun q => h2.2 (.inl q), e.has h2.1 h2.2⟩, Reps.ext e ds vs h3⟩
  | .kt ds, v, h => by
    obtain ⟨a, vs, h1, h2, h3⟩ := h
    exact ⟨a, vs, h1, h2, Reps.ext e ds vs h3⟩
  | .lst ds, v, h => by
    obtain ⟨a, vs, h1, h2, n, h3⟩ := h
    exact ⟨a, vs, h1, e.kept a _ h2 fun z => n (.inl z), e.has h2 n, Reps.ext e ds vs h3⟩
  | .scr ds, v, h => by
    obtain ⟨a, vs, h1, h2, h4, h3⟩ := h
    rcases h4 with h4 | h4
    · exact ⟨a, vs, h1, .inl (e.rd h4).1, .inl (e.rd h4), Reps.ext e ds vs h3⟩
    · exact ⟨a, vs, h1, h4 _, .inr h4, Reps.ext e ds vs h3⟩
  | .dct ks ds, v, h => by
    obtain ⟨a, kvs, h1, h2, n, hk, h3⟩ := h
    exact ⟨a, kvs, h1, e.kept a _ h2 fun z => n (.inl z), e.has h2 n, hk, Reps.ext e ds _ h3⟩
  | .ins c ns ds, v, h => by
    obtain ⟨a, dx, fs, h1, h2, n, hk, h3⟩ := h
    exact ⟨a, dx, fs, h1, e.kept a _ h2 fun z => n (.inl z), e.has h2 n, hk, Reps.ext e ds _ h3⟩
  | .ref n, v, h => by
    obtain ⟨a, h1, h2⟩ := h
    exact ⟨a, h1, getElem?_prefix e.pre h2⟩
  | .fn f, v, h => h
theorem Reps.ext {w : Wh} {H H' : Hp} {p p' : Pl} (e : Ext H p H' p') : ∀ (ds : List D) (vs : List V), Reps w H p ds vs → Reps w H' p' ds vs
  | [], vs, h => h
  | d :: ds, vs, h => by
    obtain ⟨v, us, h1, h2, h3⟩ := h
    exact ⟨v, us, h1, Rep.ext e d v h2, Reps.ext e ds us h3⟩
end
theorem RelE.ext {w : Wh} {H H' : Hp} {p p' : Pl} {σ : L2.St} {ρ : Rho} (e : Ext H p H' p') (h : RelE w H p σ ρ) : RelE w H' p' σ ρ :=
  ⟨h.1, fun i d q => let ⟨v, h1, h2⟩ := h.2 i d q; ⟨v, h1, Rep.ext e d v h2⟩⟩
theorem Post.refl {w : Wh} {b : Nat} {H : Hp} {p : Pl} {S : Store} (h : RelS w H p S) : Post w b H p S H p S := ⟨.refl H p, h, Nat.le_refl _, fun _ _ h => h⟩
theorem Post.trans {w : Wh} {b : Nat} {H H1 H2 : Hp} {p p1 p2 : Pl} {S S1 S2 : Store} (a : Post w b H p S H1 p1 S1) (c : Post w b H1 p1 S1 H2 p2 S2) : Post w b H p S H2 p2 S2 :=
  ⟨a.ext.trans c.ext, c.rel, Nat.le_trans a.grow c.grow, fun b' hb h => c.low b' hb (a.low b' hb h)⟩
theorem Reps.length {w : Wh} {H : Hp} {p : Pl} : ∀ {ds : List D} {vs : List V}, Reps w H p ds vs → ds.length = vs.length
  | [], vs, h => by rw [show vs = [] from h]; rfl
  | d :: ds, vs, h => by
    obtain ⟨v, us, h1, h2, h3⟩ := h
    rw [h1, List.length_cons, List.length_cons, Reps.length h3]
theorem Reps.get {w : Wh} {H : Hp} {p : Pl} : ∀ {ds : List D} {vs : List V} {i : Nat} {d : D}, Reps w H p ds vs → ds[i]? = some d → ∃ v, vs[i]? = some v ∧ Rep w H p d v
  | [], vs, i, d, h, e => by simp at e
  | d :: ds, vs, 0, d', h, e => by
    obtain ⟨v, us, rfl, h2, h3⟩ := h
    simp at e; subst e
    exact ⟨v, by simp, h2⟩
  | d :: ds, vs, i + 1, d', h, e => by
    obtain ⟨v, us, rfl, h2, h3⟩ := h
    obtain ⟨u, q1, q2⟩ := Reps.get (i := i) h3 (by simpa using e)
    exact ⟨u, by simpa using q1, q2⟩
theorem Reps.getV {w : Wh} {H : Hp} {p : Pl} {ds : List D} {vs : List V} {i : Nat} {v : V} (h : Reps w H p ds vs) (e : vs[i]? = some v) : ∃ d, ds[i]? = some d ∧ Rep w H p d v := by
  have hl := h.length
  have hi : i < ds.length := by
    rcases Nat.lt_or_ge i ds.length with q | q
    · exact q
    · rw [List.getElem?_eq_none (by omega)] at e; cases e
  obtain ⟨u, q1, q2⟩ := h.get (i := i) (d := ds[i]) (by simp [hi])
  rw [e] at q1; cases q1
  exact ⟨_, by simp [hi], q2⟩
theorem Reps.append {w : Wh} {H : Hp} {p : Pl} : ∀ {ds es : List D} {vs us : List V}, Reps w H p ds vs → Reps w H p es us → Reps w H p (ds ++ es) (vs ++ us)
  | [], es, vs, us, h, k => by rw [show vs = [] from h]; exact k
  | d :: ds, es, vs, us, h, k => by
    obtain ⟨v, ws, rfl, h2, h3⟩ := h
    exact ⟨v, ws ++ us, rfl, h2, Reps.append h3 k⟩
theorem Reps.one {w : Wh} {H : Hp} {p : Pl} {d : D} {v : V} (h : Rep w H p d v) : Reps w H p [d] [v] := ⟨v, [], rfl, h, rfl⟩
theorem Reps.cons {w : Wh} {H : Hp} {p : Pl} {d : D} {v : V} {ds : List D} {vs : List V} (h : Rep w H p d v) (t : Reps w H p ds vs) : Reps w H p (d :: ds) (v :: vs) := ⟨v, vs, rfl, h, t⟩
theorem Reps.take {w : Wh} {H : Hp} {p : Pl} : ∀ (n : Nat) {ds : List D} {vs : List V}, Reps w H p ds vs → Reps w H p (ds.take n) (vs.take n)
  | 0, _, _, _ => by simp [Reps]
  | n + 1, [], vs, h => by rw [show vs = [] from h]; simp [Reps]
  | n + 1, d :: ds, vs, h => by
    obtain ⟨v, ws, rfl, h2, h3⟩ := h
    exact ⟨v, ws.take n, rfl, h2, Reps.take n h3⟩
theorem Reps.drop {w : Wh} {H : Hp} {p : Pl} : ∀ (n : Nat) {ds : List D} {vs : List V}, Reps w H p ds vs → Reps w H p (ds.drop n) (vs.drop n)
  | 0, _, _, h => h
  | n + 1, [], vs, h => by rw [show vs = [] from h]; simp [Reps]
  | n + 1, d :: ds, vs, h => by
    obtain ⟨v, ws, rfl, h2, h3⟩ := h
    exact Reps.drop n h3
theorem Reps.set {w : Wh} {H : Hp} {p : Pl} {d : D} {v : V} (q : Rep w H p d v) : ∀ (n : Nat) {ds : List D} {vs : List V}, Reps w H p ds vs → Reps w H p (ds.set n d) (vs.set n v)
  | _, [], vs, h => by rw [show vs = [] from h]; simp [Reps]
  | 0, _ :: ds, vs, h => by
    obtain ⟨u, ws, rfl, h2, h3⟩ := h
    exact ⟨v, ws, rfl, q, h3⟩
  | n + 1, d' :: ds, vs, h => by
    obtain ⟨u, ws, rfl, h2, h3⟩ := h
    exact ⟨u, ws.set n v, rfl, h2, Reps.set q n h3⟩
theorem Reps.dropLast {w : Wh} {H : Hp} {p : Pl} {ds : List D} {vs : List V} (h : Reps w H p ds vs) : Reps w H p ds.dropLast vs.dropLast := by
  rw [List.dropLast_eq_take, List.dropLast_eq_take, h.length]
  exact h.take _
theorem Reps.reverse {w : Wh} {H : Hp} {p : Pl} : ∀ {ds : List D} {vs : List V}, Reps w H p ds vs → Reps w H p ds.reverse vs.reverse
  | [], vs, h => by rw [show vs = [] from h]; simp [Reps]
  | d :: ds, vs, h => by
    obtain ⟨v, ws, rfl, h2, h3⟩ := h
    rw [List.reverse_cons, List.reverse_cons]
    exact (Reps.reverse h3).append (.one h2)
theorem Reps.flatRep {w : Wh} {H : Hp} {p : Pl} {ds : List D} {vs : List V} (h : Reps w H p ds vs) : ∀ n, Reps w H p (List.replicate n ds).flatten (List.replicate n vs).flatten
  | 0 => by simp [Reps]
  | n + 1 => by
    rw [List.replicate_succ, List.replicate_succ, List.flatten_cons, List.flatten_cons]
    exact h.append (h.flatRep n)

/-! ### references are low -/
mutual
theorem Rep.low {w : Wh} {H : Hp} {p : Pl} : ∀ (d : D) (v : V), Rep w H p d v → d.low p.m.length = true
  | .non, _, _ => by simp [D.low]
  | .bl _, _, _ => by simp [D.low]
  | .int _, _, _ => by simp [D.low]
  | .str _, _, _ => by simp [D.low]
  | .tup ds, v, h => by
    obtain ⟨a, vs, h1, h2, h3⟩ := h
    simpa [D.low] using Reps.low ds vs h3
  | .kt ds, v, h => by
    obtain ⟨a, vs, h1, h2, h3⟩ := h
    simpa [D.low] using Reps.low ds vs h3
  | .lst ds, v, h => by
    obtain ⟨a, vs, h1, h2, n, h3⟩ := h
    simpa [D.low] using Reps.low ds vs h3
  | .scr ds, v, h => by
    obtain ⟨a, vs, h1, h2, h4, h3⟩ := h
    simpa [D.low] using Reps.low ds vs h3
  | .dct ks ds, v, h => by
    obtain ⟨a, kvs, h1, h2, n, hk, h3⟩ := h
    simp only [D.low, Bool.and_eq_true]
    exact ⟨kDs_low _ ks _ hk, Reps.low ds _ h3⟩
  | .ins c ns ds, v, h => by
    obtain ⟨a, dx, fs, h1, h2, n, hk, h3⟩ := h
    simpa [D.low] using Reps.low ds _ h3
  | .ref n, v, h => by
    obtain ⟨a, h1, h2⟩ := h
    simp only [D.low, decide_eq_true_eq]
    rcases Nat.lt_or_ge n p.m.length with q | q
    · exact q
    · rw [List.getElem?_eq_none q] at h2; cases h2
  | .fn f, _, _ => by simp [D.low]
theorem Reps.low {w : Wh} {H : Hp} {p : Pl} : ∀ (ds : List D) (vs : List V), Reps w H p ds vs → D.lows p.m.length ds = true
  | [], vs, h => by simp [D.lows]
  | d :: ds, vs, h => by
    obtain ⟨v, us, h1, h2, h3⟩ := h
    simp only [D.lows, Bool.and_eq_true]
    exact ⟨Rep.low d v h2, Reps.low ds us h3⟩
theorem kDs_low (b : Nat) : ∀ (ds : List D) (ks : List Key), kDs ds = some ks → D.lows b ds = true
  | [], _, _ => by simp [D.lows]
  | d :: ds, ks, h => by
    unfold kDs at h
    simp only [D.lows, Bool.and_eq_true]
    cases e1 : kD d with
    | none => rw [e1] at h; cases h
    | some k =>
      cases e2 : kDs ds with
      | none => rw [e1, e2] at h; cases h
      | some ks' =>
        refine ⟨?_, kDs_low b ds ks' e2⟩
        cases d <;> first | (simp [D.low]; done) | cases e1
end
theorem kTs_low (b : Nat) : ∀ (ds : List D) (ks : List (List Key)), kTs ds = some ks → D.lows b ds = true
  | [], _, _ => by simp [D.lows]
  | d :: ds, ks, h => by
    unfold kTs at h
    simp only [D.lows, Bool.and_eq_true]
    cases e1 : kT d with
    | none => rw [e1] at h; cases h
    | some k =>
      cases e2 : kTs ds with
      | none => rw [e1, e2] at h; cases h
      | some ks' =>
        refine ⟨?_, kTs_low b ds ks' e2⟩
        cases d <;> first | cases e1; done | skip
        rename_i es
        simpa [D.low] using kDs_low b es _ e1
theorem CRep.low {w : Wh} {H : Hp} {p : Pl} {a : Addr} : ∀ {c : Cell}, CRep w H p a c → c.low p.m.length = true
  | .lst ds, h => by obtain ⟨vs, _, h⟩ := h; exact Reps.low ds vs h
  | .dct ks ds, h => by
    simp only [Cell.low, Bool.and_eq_true]
    rcases h with ⟨kvs, _, hk, h⟩ | ⟨kvs, _, hk, h⟩
    · exact ⟨kDs_low _ ks _ hk, Reps.low ds _ h⟩
    · exact ⟨kTs_low _ ks _ hk, Reps.low ds _ h⟩
  | .ins c ns ds, h => by obtain ⟨dx, fs, _, _, h⟩ := h; exact Reps.low ds _ h
theorem RelS.low {w : Wh} {H : Hp} {p : Pl} {S : Store} (h : RelS w H p S) : LowS S.length S := by
  intro n c hn hc
  have hm : n < p.m.length := by rw [h.len]; exact hn
  have := (h.cells n p.m[n] c (by simp [hm]) hc).low
  rwa [h.len] at this
end CI
end
section
set_option Elab.async false
set_option linter.all false
set_option maxRecDepth 100000
/-! ## CI: steps of the heap -/
namespace CI
open PySem PySem.Spec PyProof.Rows L2

theorem CRep.at {w : Wh} {H : Hp} {p : Pl} {a : Addr} : ∀ {c : Cell}, CRep w H p a c → ∃ o, H a = some o
  | .lst _, h => let ⟨_, e, _⟩ := h; ⟨_, e⟩
  | .dct _ _, h => by
    rcases h with ⟨kvs, e, _⟩ | ⟨kvs, e, _⟩
    · exact ⟨_, e⟩
    · exact ⟨_, e⟩
  | .ins _ _ _, h => let ⟨_, _, e, _⟩ := h; ⟨_, e⟩
theorem CRep.ext {w : Wh} {H H' : Hp} {p p' : Pl} {a : Addr} (e : Ext H p H' p') (k : ∀ o, H a = some o → H' a = some o) : ∀ {c : Cell}, CRep w H p a c → CRep w H' p' a c
  | .lst _, h => let ⟨vs, q, r⟩ := h; ⟨vs, k _ q, Reps.ext e _ _ r⟩
  | .dct _ _, h => by
    rcases h with ⟨kvs, q, hk, r⟩ | ⟨kvs, q, hk, r⟩
    · exact .inl ⟨kvs, k _ q, hk, Reps.ext e _ _ r⟩
    · exact .inr ⟨kvs, k _ q, hk, Reps.ext e _ _ r⟩
  | .ins _ _ _, h => let ⟨dx, fs, q, hn, r⟩ := h; ⟨dx, fs, k _ q, hn, Reps.ext e _ _ r⟩
theorem RelS.cell {w : Wh} {H : Hp} {p : Pl} {S : Store} (h : RelS w H p S) {n : Nat} {a : Addr} (e : p.m[n]? = some a) : ∃ c, S[n]? = some c ∧ CRep w H p a c := by
  have hn : n < p.m.length := by
    rcases Nat.lt_or_ge n p.m.length with q | q
    · exact q
    · rw [List.getElem?_eq_none q] at e; cases e
  have hs : n < S.length := by rw [← h.len]; exact hn
  exact ⟨S[n], by simp [hs], h.cells n a S[n] e (by simp [hs])⟩
theorem RelS.cellS {w : Wh} {H : Hp} {p : Pl} {S : Store} (h : RelS w H p S) {n : Nat} {c : Cell} (e : S[n]? = some c) : ∃ a, p.m[n]? = some a ∧ CRep w H p a c := by
  have hn : n < S.length := by
    rcases Nat.lt_or_ge n S.length with q | q
    · exact q
    · rw [List.getElem?_eq_none q] at e; cases e
  have hm : n < p.m.length := by rw [h.len]; exact hn
  exact ⟨p.m[n], by simp [hm], h.cells n p.m[n] c (by simp [hm]) e⟩
theorem RelS.memS {w : Wh} {H : Hp} {p : Pl} {S : Store} (h : RelS w H p S) {a : Addr} (ha : a ∈ p.m) : ∃ o, H a = some o := by
  obtain ⟨n, hn, e⟩ := List.mem_iff_getElem.mp ha
  obtain ⟨c, _, hc⟩ := h.cell (n := n) (a := a) (by rw [List.getElem?_eq_getElem hn, e])
  exact hc.at
/-- all that is tracked stays -/
theorem Ext.same {H H' : Hp} {p : Pl} (s : Same H H') : Ext H p H' p := ⟨List.prefix_refl _, rfl, fun a o h _ => s a o h, fun _ h => .inl h⟩
theorem RelS.same {w : Wh} {H H' : Hp} {p : Pl} {S : Store} (h : RelS w H p S) (s : Same H H') : RelS w H' p S :=
  ⟨h.len, h.nd, h.ap, fun a ha => let ⟨o, e⟩ := h.xs a ha; ⟨o, s a o e⟩, fun n a c e1 e2 => (h.cells n a c e1 e2).ext (.same s) fun o q => s a o q⟩
theorem Post.same {w : Wh} {b : Nat} {H H' : Hp} {p : Pl} {S : Store} (h : RelS w H p S) (s : Same H H') : Post w b H p S H' p S :=
  ⟨.same s, h.same s, Nat.le_refl _, fun _ _ h => h⟩
theorem same_new {H : Hp} {a : Addr} {o : HO} (h : H a = none) : Same H (upd H a o) := fun b u e => by rw [upd_ne (ne_of_none e h)]; exact e
theorem RelS.out {w : Wh} {H : Hp} {p : Pl} {S : Store} (h : RelS w H p S) {a : Addr} (n : H a = none) : ¬ p.has a := by
  rintro (z | z)
  · obtain ⟨o, e⟩ := h.memS z; rw [n] at e; cases e
  · obtain ⟨o, e⟩ := h.xs a z; rw [n] at e; cases e
/-- a new cell -/
theorem LowS.push {b : Nat} {S : Store} {c : Cell} (hb : b ≤ S.length) (h : LowS b S) : LowS b (S ++ [c]) := by
  intro n d hn e
  rw [List.getElem?_append_left (by omega)] at e
  exact h n d hn e
theorem post_new {w : Wh} {b : Nat} {H : Hp} {p : Pl} {S : Store} {a : Addr} {o : HO} {c : Cell} (h : RelS w H p S) (hb : b ≤ S.length) (n : H a = none)
    (hc : CRep w (upd H a o) ⟨p.m ++ [a], p.x⟩ a c) : Post w b H p S (upd H a o) ⟨p.m ++ [a], p.x⟩ (S ++ [c]) := by
  have ha := h.out n
  have e : Ext H p (upd H a o) ⟨p.m ++ [a], p.x⟩ := by
    refine ⟨List.prefix_append _ _, rfl, fun b u e _ => same_new n b u e, fun b hb => ?_⟩
    rcases List.mem_append.mp hb with z | z
    · exact .inl z
    · right; rw [List.mem_singleton.mp z]; exact n
  refine ⟨e, ⟨by simp [h.len], ?_, fun b hb => ?_, fun b hb => ?_, fun i b d e1 e2 => ?_⟩, by simp, fun b' hb' hl => hl.push (by omega)⟩
  · rw [List.nodup_append]
    refine ⟨h.nd, by simp, fun x hx y hy => ?_⟩
    rw [List.mem_singleton.mp hy]
    rintro rfl
    exact ha (.inl hx)
  · rcases List.mem_append.mp hb with z | z
    · exact h.ap b z
    · rw [List.mem_singleton.mp z]; exact fun q => ha (.inr q)
  · obtain ⟨u, q⟩ := h.xs b hb
    exact ⟨u, same_new n b u q⟩
  · rcases Nat.lt_or_ge i S.length with q | q
    · have hm : i < p.m.length := by rw [h.len]; exact q
      rw [show (⟨p.m ++ [a], p.x⟩ : Pl).m = p.m ++ [a] from rfl, List.getElem?_append_left hm] at e1
      rw [List.getElem?_append_left q] at e2
      exact (h.cells i b d e1 e2).ext e fun o' z => same_new n b o' z
    · rw [show (⟨p.m ++ [a], p.x⟩ : Pl).m = p.m ++ [a] from rfl, List.getElem?_append_right (by rw [h.len]; exact q), h.len] at e1
      rw [List.getElem?_append_right q] at e2
      have hi : i - S.length = 0 := by
        rcases Nat.eq_zero_or_pos (i - S.length) with z | z
        · exact z
        · rw [List.getElem?_eq_none (by simp; omega)] at e2; cases e2
      rw [hi] at e1 e2
      simp at e1 e2
      subst e1; subst e2
      exact hc
/-- a cell written -/
theorem Ext.write {H : Hp} {p : Pl} {a : Addr} {o : HO} (ha : a ∈ p.m) : Ext H p (upd H a o) p :=
  ⟨List.prefix_refl _, rfl, fun b u e hb => by
    have ne : b ≠ a := fun z => hb (by rw [z]; exact ha)
    rw [upd_ne ne]; exact e, fun _ h => .inl h⟩
theorem nodup_at {α : Type} {l : List α} (h : l.Nodup) {i j : Nat} {a : α} (hi : l[i]? = some a) (hj : l[j]? = some a) : i = j := by
  obtain ⟨h1, e1⟩ := List.getElem?_eq_some_iff.mp hi
  obtain ⟨h2, e2⟩ := List.getElem?_eq_some_iff.mp hj
  exact (List.getElem_inj h).mp (e1.trans e2.symm)
theorem post_write {w : Wh} {b n : Nat} {H : Hp} {p : Pl} {S : Store} {a : Addr} {o : HO} {c : Cell} (h : RelS w H p S) (e : p.m[n]? = some a)
    (hc : CRep w (upd H a o) p a c) (hl : ∀ b', b' ≤ b → LowS b' S → n < b' → c.low b' = true) : Post w b H p S (upd H a o) p (S.set n c) := by
  have ha : a ∈ p.m := List.mem_of_getElem? e
  have hn : n < S.length := by
    rw [← h.len]
    rcases Nat.lt_or_ge n p.m.length with q | q
    · exact q
    · rw [List.getElem?_eq_none q] at e; cases e
  refine ⟨.write ha, ⟨by simp [h.len], h.nd, h.ap, fun d hd => ?_, fun i d u e1 e2 => ?_⟩, by simp, fun b' hb' q i u hi e2 => ?_⟩
  · obtain ⟨u, q⟩ := h.xs d hd
    have ne : d ≠ a := fun z => h.ap a ha (by rw [← z]; exact hd)
    exact ⟨u, by rw [upd_ne ne]; exact q⟩
  · by_cases hi : n = i
    · subst hi
      rw [e] at e1; cases e1
      rw [List.getElem?_set_self hn] at e2; cases e2
      exact hc
    · rw [List.getElem?_set_ne hi] at e2
      refine (h.cells i d u e1 e2).ext (.write ha) fun o' z => ?_
      rw [upd_ne]; exact z
      rintro rfl
      exact hi (nodup_at h.nd e e1)
  · by_cases hi' : n = i
    · subst hi'
      rw [List.getElem?_set_self hn] at e2; cases e2
      exact hl b' hb' q hi
    · rw [List.getElem?_set_ne hi'] at e2
      exact q i u hi e2
/-- low contents -/
theorem D.lows_append {b : Nat} : ∀ {xs ys : List D}, D.lows b (xs ++ ys) = (D.lows b xs && D.lows b ys)
  | [], ys => by simp [D.lows]
  | x :: xs, ys => by simp [D.lows, D.lows_append (xs := xs), Bool.and_assoc]
mutual
theorem D.low_mono {b b' : Nat} (h : b ≤ b') : ∀ d : D, d.low b = true → d.low b' = true
  | .non, _ => by simp [D.low]
  | .bl _, _ => by simp [D.low]
  | .int _, _ => by simp [D.low]
  | .str _, _ => by simp [D.low]
  | .tup ds, q => by simp only [D.low] at q ⊢; exact D.lows_mono h ds q
  | .kt ds, q => by simp only [D.low] at q ⊢; exact D.lows_mono h ds q
  | .lst ds, q => by simp only [D.low] at q ⊢; exact D.lows_mono h ds q
  | .scr ds, q => by simp only [D.low] at q ⊢; exact D.lows_mono h ds q
  | .dct ks vs, q => by simp only [D.low, Bool.and_eq_true] at q ⊢; exact ⟨D.lows_mono h ks q.1, D.lows_mono h vs q.2⟩
  | .ins _ _ vs, q => by simp only [D.low] at q ⊢; exact D.lows_mono h vs q
  | .ref n, q => by simp only [D.low, decide_eq_true_eq] at q ⊢; omega
  | .fn _, _ => by simp [D.low]
theorem D.lows_mono {b b' : Nat} (h : b ≤ b') : ∀ ds : List D, D.lows b ds = true → D.lows b' ds = true
  | [], _ => by simp [D.lows]
  | d :: ds, q => by
    simp only [D.lows, Bool.and_eq_true] at q ⊢
    exact ⟨D.low_mono h d q.1, D.lows_mono h ds q.2⟩
end
theorem D.lows_all {b : Nat} : ∀ {ds : List D}, D.lows b ds = true ↔ ∀ d ∈ ds, d.low b = true
  | [] => by simp [D.lows]
  | d :: ds => by simp [D.lows, D.lows_all (ds := ds)]
theorem mayPut_low {b n b' : Nat} {d : D} (h : mayPut b n d = true) (hb : b' ≤ b) (hn : n < b') : d.low b' = true := by
  unfold mayPut at h
  simp only [Bool.or_eq_true, decide_eq_true_eq] at h
  rcases h with h | h
  · omega
  · exact D.low_mono (Nat.zero_le _) d h
end CI
end
section
set_option Elab.async false
set_option linter.all false
set_option maxRecDepth 100000
/-! ## CI: readings by contents -/
namespace CI
open PySem PySem.Spec PyProof.Rows L2

/-- the state as it is told -/
structure Now (w : Wh) (b : Nat) (H : Hp) (p : Pl) (S : Store) (σ : L2.St) (ρ : Rho) : Prop where
  e : RelE w H p σ ρ
  s : RelS w H p S
  hb : b ≤ S.length
  lo : LowS b S
theorem Now.post {w : Wh} {b : Nat} {H H' : Hp} {p p' : Pl} {S S' : Store} {σ : L2.St} {ρ : Rho} (N : Now w b H p S σ ρ) (P : Post w b H p S H' p' S') : Now w b H' p' S' σ ρ :=
  ⟨N.e.ext P.ext, P.rel, Nat.le_trans N.hb P.grow, P.low b (Nat.le_refl _) N.lo⟩
/-- an exception as it lies -/
def ExcD (w : Wh) (H : Hp) (p : Pl) (c : Str) (d : D) (dx : Addr) : Prop :=
  ¬ p.has dx ∧ match w.xn c with
    | some f => ∃ v, H dx = some (.xd [(f, v)]) ∧ Rep w H p d v
    | none => H dx = some (.xd [])
/-- what a result promises; Ra: how a result's content is borne -/
def Res {α β : Type} (w : Wh) (b : Nat) (W : WX) (σ : L2.St) (Ra : Hp → Pl → α → β → Prop) (H : Hp) (p : Pl) (S : Store) (r : R α) (Q : β → Hp → Prop) : Prop := match r with
  | .ok a S' => ∀ v H' p', Post w b H p S H' p' S' → Ra H' p' a v → Q v H'
  | .ex c d S' => ∀ dx H' p', Post w b H p S H' p' S' → ExcD w H' p' c d dx → W (.ref (w.fa c)) (some dx) σ H'
  | .bad => False
def tX {α β : Type} (w : Wh) (b : Nat) (W : WX) (Ra : Hp → Pl → α → β → Prop) (f : Rho → M α) : L2.St → Hp → (β → Hp → Prop) → Prop :=
  fun σ H Q => ∃ ρ p S, Now w b H p S σ ρ ∧ Res w b W σ Ra H p S (f ρ S) Q
abbrev RD (w : Wh) : Hp → Pl → D → V → Prop := fun H p d v => Rep w H p d v
abbrev RDs (w : Wh) : Hp → Pl → List D → List V → Prop := fun H p d v => Reps w H p d v
abbrev RB : Hp → Pl → Bool → Bool → Prop := fun _ _ a c => a = c
abbrev tD (w : Wh) (b : Nat) (W : WX) (f : Rho → M D) : TE := tX w b W (RD w) f
abbrev tDs (w : Wh) (b : Nat) (W : WX) (f : Rho → M (List D)) : TA := tX w b W (RDs w) f
abbrev tT (w : Wh) (b : Nat) (W : WX) (f : Rho → M Bool) : TT := tX w b W RB f

section
variable {α β γ : Type} {w : Wh} {b : Nat} {W : WX} {σ : L2.St} {Ra : Hp → Pl → α → β → Prop} {H H1 : Hp} {p p1 : Pl} {S S1 : Store} {Q Q' : β → Hp → Prop} {ρ : Rho}
theorem tX.mono {f : Rho → M α} (h : tX w b W Ra f σ H Q) (k : ∀ v H', Q v H' → Q' v H') : tX w b W Ra f σ H Q' := by
  obtain ⟨ρ, p, S, N, h⟩ := h
  refine ⟨ρ, p, S, N, ?_⟩
  revert h
  unfold Res
  cases f ρ S with
  | ok a S' => exact fun h v H' p' P r => k v H' (h v H' p' P r)
  | ex c d S' => exact id
  | bad => exact id
theorem Res.later {r : R α} (P : Post w b H p S H1 p1 S1) (h : Res w b W σ Ra H p S r Q) : Res w b W σ Ra H1 p1 S1 r Q := by
  revert h
  unfold Res
  cases r with
  | ok a S' => exact fun h v H' p' P' r => h v H' p' (P.trans P') r
  | ex c d S' => exact fun h dx H' p' P' r => h dx H' p' (P.trans P') r
  | bad => exact id
/-- one step: the first part is read, the rest is left -/
theorem step {δ ε : Type} {f : Rho → M α} {k : α → M δ} {Rb : Hp → Pl → δ → ε → Prop} {Q2 : ε → Hp → Prop} (N : Now w b H p S σ ρ) (h : Res w b W σ Rb H p S ((f ρ).bind k S) Q2) :
    tX w b W Ra f σ H fun v H1 => ∃ p1 S1 a, Now w b H1 p1 S1 σ ρ ∧ Ra H1 p1 a v ∧ Post w b H p S H1 p1 S1 ∧ Res w b W σ Rb H1 p1 S1 (k a S1) Q2 := by
  refine ⟨ρ, p, S, N, ?_⟩
  revert h
  unfold M.bind
  cases e : f ρ S with
  | ok a S' =>
    intro h v H' p' P r
    exact ⟨p', S', a, N.post P, r, P, h.later P⟩
  | ex c d S' => exact fun h => h
  | bad => exact fun h => h
theorem res_lift {δ ε : Type} {o : Option α} {k : α → M δ} {Rb : Hp → Pl → δ → ε → Prop} {Q2 : ε → Hp → Prop} (h : Res w b W σ Rb H p S ((M.lift o).bind k S) Q2) : ∃ a, o = some a ∧ Res w b W σ Rb H p S (k a S) Q2 := by
  cases o with
  | some a => exact ⟨a, rfl, h⟩
  | none => exact h.elim
theorem res_get {δ ε : Type} {g : Store → Option α} {k : α → M δ} {Rb : Hp → Pl → δ → ε → Prop} {Q2 : ε → Hp → Prop} (h : Res w b W σ Rb H p S ((M.get g).bind k S) Q2) : ∃ a, g S = some a ∧ Res w b W σ Rb H p S (k a S) Q2 := by
  unfold M.bind M.get at h
  cases e : g S with
  | some a => rw [e] at h; exact ⟨a, rfl, h⟩
  | none => rw [e] at h; exact h.elim
theorem res_lift' {o : Option α} (h : Res w b W σ Ra H p S (M.lift o S) Q) : ∃ a, o = some a ∧ ∀ v H' p', Post w b H p S H' p' S → Ra H' p' a v → Q v H' := by
  cases o with
  | some a => exact ⟨a, rfl, h⟩
  | none => exact h.elim
theorem res_get' {g : Store → Option α} (h : Res w b W σ Ra H p S (M.get g S) Q) : ∃ a, g S = some a ∧ ∀ v H' p', Post w b H p S H' p' S → Ra H' p' a v → Q v H' := by
  unfold M.get at h
  cases e : g S with
  | some a => rw [e] at h; exact ⟨a, rfl, h⟩
  | none => rw [e] at h; exact h.elim
theorem res_pure (N : RelS w H p S) {a : α} {v : β} (h : Res w b W σ Ra H p S (M.pure a S) Q) (r : Ra H p a v) : Q v H := h v H p (.refl N) r
end

/-! ### weaker readings -/
section
variable {X : Cx} {e : Expr}
theorem PE.imp {t t' : TE} (h : PE X e t) (k : ∀ σ H Q, t' σ H Q → t σ H Q) : PE X e t' := ⟨fun pins s σ H Q I q => h.run pins s σ H Q I (k σ H Q q)⟩
theorem PT.imp {t t' : TT} (h : PT X e t) (k : ∀ σ H Q, t' σ H Q → t σ H Q) : PT X e t' := ⟨fun pins s σ H Q I q => h.run pins s σ H Q I (k σ H Q q)⟩
theorem PW.imp {t t' : TT} (h : PW X e t) (k : ∀ σ H Q, t' σ H Q → t σ H Q) : PW X e t' := ⟨fun wh pins s σ H Q I q => h.run wh pins s σ H Q I (k σ H Q q)⟩
theorem PA.imp {es : List Expr} {t t' : TA} (h : PA X es t) (k : ∀ σ H Q, t' σ H Q → t σ H Q) : PA X es t' := ⟨fun pos pins s σ H Q I q => h.run pos pins s σ H Q I (k σ H Q q)⟩
theorem PG.imp {t t' : TG} (h : PG X e t) (k : ∀ v σ H Q, t' v σ H Q → t v σ H Q) : PG X e t' := ⟨fun pins s σ H v u Q I r q => h.run pins s σ H v u Q I r (k v σ H Q q)⟩
theorem PS.imp {st : Stmt} {t t' : TS} (h : PS X st t) (k : ∀ D σ H, t' D σ H → t D σ H) : PS X st t' := ⟨fun pins s σ H D I q => h.run pins s σ H D I (k D σ H q)⟩
theorem PSs.imp {st : List Stmt} {t t' : TS} (h : PSs X st t) (k : ∀ D σ H, t' D σ H → t D σ H) : PSs X st t' := ⟨fun pins s σ H D I q => h.run pins s σ H D I (k D σ H q)⟩
theorem PE.or {t t' : TE} (h : PE X e t) (h' : PE X e t') : PE X e (fun σ H Q => t σ H Q ∨ t' σ H Q) := ⟨fun pins s σ H Q I q => q.elim (h.run pins s σ H Q I) (h'.run pins s σ H Q I)⟩
end
end CI
end
section
set_option Elab.async false
set_option linter.all false
set_option maxRecDepth 100000
/-! ## CI: operators by contents -/
namespace CI
open PySem PySem.Spec PyProof.Rows L2

theorem sz_line : sizeLine = SZ := by rw [sizeLine_eq]
section
variable {w : Wh} {H : Hp} {p : Pl} {S : Store} {b : Nat}
theorem Rep.newTup (h : RelS w H p S) {ds : List D} {vs : List V} (r : Reps w H p ds vs) {a : Addr} (n : H a = none) : Post w b H p S (upd H a (.tup vs)) p S ∧ Rep w (upd H a (.tup vs)) p (.tup ds) (.ref a) :=
  ⟨.same h (same_new n), a, vs, rfl, ⟨upd_same, h.out n⟩, Reps.ext (.same (same_new n)) _ _ r⟩
theorem Rep.newLst (h : RelS w H p S) {ds : List D} {vs : List V} (r : Reps w H p ds vs) {a : Addr} (n : H a = none) : Post w b H p S (upd H a (.lst vs)) p S ∧ Rep w (upd H a (.lst vs)) p (.lst ds) (.ref a) :=
  ⟨.same h (same_new n), a, vs, rfl, upd_same, h.out n, Reps.ext (.same (same_new n)) _ _ r⟩
theorem Rep.sqT {ds : List D} {v : V} (r : Rep w H p (.tup ds) v) : ∃ a vs, v = .ref a ∧ SqT w.K H a vs ∧ Reps w H p ds vs := by
  obtain ⟨a, vs, e, h, q⟩ := r
  exact ⟨a, vs, e, .inl (.inl h.1), q⟩
theorem Rep.sqK {ds : List D} {v : V} (r : Rep w H p (.kt ds) v) : ∃ a vs, v = .ref a ∧ SqT w.K H a vs ∧ Reps w H p ds vs := by
  obtain ⟨a, vs, e, h, q⟩ := r
  exact ⟨a, vs, e, .inr h, q⟩
theorem lstOf_rep (h : RelS w H p S) {d : D} {v : V} {ds : List D} (r : Rep w H p d v) (e : lstOf S d = some ds) : ∃ a vs, v = .ref a ∧ H a = some (.lst vs) ∧ Reps w H p ds vs := by
  cases d <;> first | cases e; done | skip
  case lst es =>
    cases e
    obtain ⟨a, vs, e1, e2, _, e3⟩ := r
    exact ⟨a, vs, e1, e2, e3⟩
  case ref n =>
    obtain ⟨a, e1, e2⟩ := r
    obtain ⟨c, e3, e4⟩ := h.cell e2
    cases c with
    | lst es =>
      simp only [lstOf, e3] at e
      cases e
      obtain ⟨vs, q1, q2⟩ := e4
      exact ⟨a, vs, e1, q1, q2⟩
    | dct ks vs => simp only [lstOf, e3] at e; cases e
    | ins c ns vs => simp only [lstOf, e3] at e; cases e
theorem seqOf_rep (h : RelS w H p S) {d : D} {v : V} {ds : List D} (r : Rep w H p d v) (e : seqOf S d = some ds) : ∃ a vs, v = .ref a ∧ (if isTup d then SqT w.K H a vs else SqL w.K H a vs) ∧ Reps w H p ds vs := by
  cases d <;> first | cases e; done | skip
  case tup es =>
    cases e
    exact r.sqT
  case kt es =>
    cases e
    exact r.sqK
  case lst es =>
    cases e
    obtain ⟨a, vs, e1, e2, _, e3⟩ := r
    exact ⟨a, vs, e1, SqL.of e2, e3⟩
  case scr es =>
    cases e
    obtain ⟨a, vs, e1, e2, _, e3⟩ := r
    exact ⟨a, vs, e1, e2, e3⟩
  case ref n =>
    obtain ⟨a, vs, e1, e2, e3⟩ := lstOf_rep (ds := ds) h r e
    exact ⟨a, vs, e1, SqL.of e2, e3⟩
/-! plain data -/
mutual
theorem Rep.dp : ∀ (d : D) (v : V) (q : PyData), Rep w H p d v → d.py = some q → Dp w.K H v q
  | .non, v, q, r, e => by cases e; rw [show v = .non from r]; exact .non
  | .bl b, v, q, r, e => by cases e; rw [show v = .bl b from r]; exact .bl b
  | .int i, v, q, r, e => by cases e; rw [show v = .int i from r]; exact .int i
  | .str s, v, q, r, e => by cases e; rw [show v = .str ⟨s.toArray⟩ from r]; exact .str _
  | .tup ds, v, q, r, e => by
    unfold D.py at e
    cases e1 : D.pys ds with
    | none => rw [e1] at e; cases e
    | some xs =>
      rw [e1] at e; cases e
      obtain ⟨a, vs, rfl, h, k⟩ := r.sqT
      exact .tup h (Reps.dp ds vs xs k e1)
  | .kt ds, v, q, r, e => by
    unfold D.py at e
    cases e1 : D.pys ds with
    | none => rw [e1] at e; cases e
    | some xs =>
      rw [e1] at e; cases e
      obtain ⟨a, vs, rfl, h, k⟩ := r.sqK
      exact .tup h (Reps.dp ds vs xs k e1)
  | .lst ds, v, q, r, e => by
    unfold D.py at e
    cases e1 : D.pys ds with
    | none => rw [e1] at e; cases e
    | some xs =>
      rw [e1] at e; cases e
      obtain ⟨a, vs, rfl, h, _, k⟩ := r
      exact .lst (SqL.of h) (Reps.dp ds vs xs k e1)
  | .scr ds, v, q, r, e => by
    unfold D.py at e
    cases e1 : D.pys ds with
    | none => rw [e1] at e; cases e
    | some xs =>
      rw [e1] at e; cases e
      obtain ⟨a, vs, rfl, h, _, k⟩ := r
      exact .lst h (Reps.dp ds vs xs k e1)
  | .dct _ _, _, _, _, e => by cases e
  | .ins _ _ _, _, _, _, e => by cases e
  | .ref _, _, _, _, e => by cases e
  | .fn _, _, _, _, e => by cases e
theorem Reps.dp : ∀ (ds : List D) (vs : List V) (qs : List PyData), Reps w H p ds vs → D.pys ds = some qs → DpAll w.K H vs qs
  | [], vs, qs, r, e => by cases e; rw [show vs = [] from r]; exact .nil
  | d :: ds, vs, qs, r, e => by
    obtain ⟨v, us, rfl, r1, r2⟩ := r
    unfold D.pys at e
    cases e1 : d.py with
    | none => rw [e1] at e; cases e
    | some x =>
      cases e2 : D.pys ds with
      | none => rw [e1, e2] at e; cases e
      | some xs =>
        rw [e1, e2] at e; cases e
        exact .cons (Rep.dp d v x r1 e1) (Reps.dp ds us xs r2 e2)
end
theorem deref_dp (h : RelS w H p S) {d : D} {v : V} {q : PyData} (r : Rep w H p d v) (e : (deref S d).py = some q) : Dp w.K H v q := by
  cases d <;> first | exact Rep.dp _ v q r e | skip
  case ref n =>
    obtain ⟨a, e1, e2⟩ := id r
    obtain ⟨c, e3, e4⟩ := h.cell e2
    cases c with
    | lst ds =>
      simp only [deref, e3] at e
      obtain ⟨vs, q1, q2⟩ := e4
      unfold D.py at e
      cases e5 : D.pys ds with
      | none => simp only [e5] at e; cases e
      | some xs =>
        simp only [e5] at e; cases e
        rw [e1]
        exact .lst (SqL.of q1) (Reps.dp ds vs xs q2 e5)
    | dct ks vs => simp only [deref, e3] at e; cases e
    | ins c ns vs => simp only [deref, e3] at e; cases e
/-! flat values -/
theorem dp_flat {K : PySem.W.Frag} {v : V} {q : PyData} (d : Dp K H v q) (f : flatP q = true) : flatV v = true := by
  cases d <;> first | rfl | cases f
theorem dp_scal {K : PySem.W.Frag} {v u : V} {x y : PyData} (d : Dp K H v x) (e : Dp K H u y) (f : flatP x = true) (g : flatP y = true) : eqV v u = PyData.eqv x y := by
  cases d <;> first | (cases f; done) | skip
  all_goals (cases e <;> first | (cases g; done) | (unfold eqV; unfold PyData.eqv; rfl))
end
end CI
end
section
set_option Elab.async false
set_option linter.all false
set_option maxRecDepth 100000
/-! ## CI: operators by contents, the rules -/
namespace CI
open PySem PySem.Spec PyProof.Rows L2

section
variable {X : Cx} {w : Wh} {b : Nat} {W : WX} {e e1 e2 : Expr} {fa fb : Rho → M D}
/-- an operation of two values -/
def OpC (X : Cx) (w : Wh) (b : Nat) (r : R2) (g : Store → D → D → Option D) : Prop :=
  ∀ (H : Hp) (p : Pl) (S : Store) (u v : D) (x y : V) (d : D) (Q : VK), RelS w H p S → Rep w H p u x → Rep w H p v y → g S u v = some d →
    (∀ z H', Post w b H p S H' p S → Rep w H' p d z → Q z H') → r x y H Q
theorem c_bin {r : R2} {g : Store → D → D → Option D} (h : PE X e (tOp r (tD w b W fa) (tD w b W fb))) (hr : OpC X w b r g) :
    PE X e (tD w b W fun ρ => (fa ρ).bind fun u => (fb ρ).bind fun v => M.get fun S => g S u v) := by
  refine PE.imp h fun σ H Q h => ?_
  obtain ⟨ρ, p, S, N, h⟩ := h
  refine (step N h).mono fun x H1 ⟨p1, S1, u, N1, r1, P1, h1⟩ => ?_
  refine (step N1 h1).mono fun y H2 ⟨p2, S2, v, N2, r2, P2, h2⟩ => ?_
  obtain ⟨d, ed, q⟩ := res_get' h2
  exact hr H2 p2 S2 u v x y d Q N2.s (Rep.ext P2.ext _ _ r1) r2 ed fun z H' P' r' => q z H' p2 P' r'
/-! ### + -/
abbrev rAddA (X : Cx) : R2 := fun x y H Q => (rI0 (fun i j => .int (i + j)) x y H Q ∨ (∃ i j, x = .str i ∧ y = .str j ∧ i.length + j.length ≤ sizeLine ∧ Q (.str (i ++ j)) H)) ∨ (rCatA X.K x y H Q ∨ rCat x y H Q)
theorem op_addA : OpR X (binaryOp .Add) (rAddA X) := (op_add.or op_add_str).or (op_catA.or op_cat)
theorem str_app (a c : List Nat) : (⟨a.toArray⟩ : Str) ++ (⟨c.toArray⟩ : Str) = ⟨(a ++ c).toArray⟩ := by
  show Str.mk (a.toArray ++ c.toArray) = _
  rw [List.append_toArray]
theorem str_len (a : List Nat) : (⟨a.toArray⟩ : Str).length = a.length := by show a.toArray.size = _; simp
theorem isEmpty_ne {ds : List D} : ds.isEmpty = false → ds ≠ [] := by cases ds <;> simp
theorem catT (hK : X.K = w.K) {H : Hp} {p : Pl} {S : Store} {a c : List D} {x y : V} {Q : VK} (hS : RelS w H p S) (rx : Rep w H p (.tup a) x) (ry : Rep w H p (.tup c) y) (hz : a.length + c.length ≤ SZ)
    (q : ∀ z H', Post w b H p S H' p S → Rep w H' p (.tup (a ++ c)) z → Q z H') : rCatA X.K x y H Q := by
  obtain ⟨a1, xs, rfl, h1, r1⟩ := id rx.sqT
  obtain ⟨a2, ys, rfl, h2, r2⟩ := id ry.sqT
  have l1 := r1.length
  have l2 := r2.length
  rw [hK]
  refine ⟨a1, a2, xs, ys, rfl, rfl, h1, h2, by rw [sz_line]; omega, fun e => ?_, fun _ e => ?_, fun _ _ t ht => ?_⟩
  · subst e
    have : a = [] := List.length_eq_zero_iff.mp l1
    subst this
    exact q _ H (.refl hS) ry
  · subst e
    have : c = [] := List.length_eq_zero_iff.mp l2
    subst this
    rw [List.append_nil] at q
    exact q _ H (.refl hS) rx
  · obtain ⟨P, r⟩ := Rep.newTup (b := b) hS (r1.append r2) ht
    exact q _ _ P r
theorem opc_add (hK : X.K = w.K) : OpC X w b (rAddA X) (fun S u v => addD S u v) := by
  intro H p S u v x y d Q hS ru rv e q
  have lst : (∃ a c, lstOf S u = some a ∧ lstOf S v = some c ∧ a.length + c.length ≤ SZ ∧ d = .lst (a ++ c)) → rAddA X x y H Q := by
    rintro ⟨a, c, h1, h2, hz, rfl⟩
    obtain ⟨a1, xs, rfl, k1, r1⟩ := lstOf_rep hS ru h1
    obtain ⟨a2, ys, rfl, k2, r2⟩ := lstOf_rep hS rv h2
    refine .inr (.inr ⟨a1, a2, xs, ys, rfl, rfl, k1, k2, by rw [← r1.length, ← r2.length, sz_line]; exact hz, fun t ht => ?_⟩)
    obtain ⟨P, r⟩ := Rep.newLst (b := b) hS (r1.append r2) ht
    exact q _ _ P r
  have gen : (match lstOf S u, lstOf S v with
    | some a, some b => if a.length + b.length ≤ SZ then some (D.lst (a ++ b)) else none
    | _, _ => none) = some d → rAddA X x y H Q := by
    intro e
    cases e1 : lstOf S u with
    | none => rw [e1] at e; cases e
    | some a =>
      cases e2 : lstOf S v with
      | none => rw [e1, e2] at e; cases e
      | some c =>
        rw [e1, e2] at e
        by_cases hz : a.length + c.length ≤ SZ
        · simp only [hz, if_true] at e
          cases e
          exact lst ⟨a, c, e1, e2, hz, rfl⟩
        · simp only [hz, if_false] at e; cases e
  replace e : addD S u v = some d := e
  unfold addD at e
  split at e
  · cases e
    rename_i i j
    exact .inl (.inl ⟨i, j, ru, rv, q _ H (.refl hS) rfl⟩)
  · rename_i a c
    split at e
    · rename_i hz
      cases e
      refine .inl (.inr ⟨_, _, ru, rv, by rw [str_len, str_len, sz_line]; exact hz, ?_⟩)
      rw [str_app]
      exact q _ H (.refl hS) rfl
    · cases e
  · rename_i a c
    split at e
    · rename_i hz
      cases e
      exact .inr (.inl (catT hK hS ru rv hz q))
    · cases e
  · exact gen e
/-! ### - * // % ** -/
theorem smallI_ok {i j : Int} (h : (smallI i || smallI j) = true) : CMul i j := by
  unfold smallI at h
  simp only [Bool.or_eq_true, Bool.and_eq_true, decide_eq_true_eq] at h
  exact h
theorem ints_of {S : Store} {op : Op} {u v d : D} (h : op ≠ .add) (h2 : op ≠ .mul) (e : bopD S op u v = some d) : ∃ i j, u = .int i ∧ v = .int j ∧ bopI op i j = some d := by
  cases op <;> first | (exact absurd rfl h) | (exact absurd rfl h2) | skip
  all_goals
    cases u <;> first | (unfold bopD at e; cases e; done) | skip
    cases v <;> first | (unfold bopD at e; cases e; done) | skip
    exact ⟨_, _, rfl, rfl, e⟩
theorem opc_sub : OpC X w b (rI0 fun i j => .int (i - j)) (fun S u v => bopD S .sub u v) := by
  intro H p S u v x y d Q hS ru rv e q
  obtain ⟨i, j, rfl, rfl, e⟩ := ints_of (by decide) (by decide) e
  cases e
  exact ⟨i, j, ru, rv, q _ H (.refl hS) rfl⟩
theorem opc_mod : OpC X w b (rI (fun _ j => 0 < j) fun i j => .int (i % j)) (fun S u v => bopD S .mod u v) := by
  intro H p S u v x y d Q hS ru rv e q
  obtain ⟨i, j, rfl, rfl, e3⟩ := ints_of (by decide) (by decide) e
  have e : (if 0 < j then some (D.int (i % j)) else none) = some d := e3
  by_cases hj : 0 < j
  · rw [if_pos hj] at e; cases e; exact ⟨i, j, ru, rv, hj, q _ H (.refl hS) rfl⟩
  · rw [if_neg hj] at e; cases e
theorem opc_fdiv : OpC X w b (rI CDiv fun i j => .int (i / j)) (fun S u v => bopD S .fdiv u v) := by
  intro H p S u v x y d Q hS ru rv e q
  obtain ⟨i, j, rfl, rfl, e3⟩ := ints_of (by decide) (by decide) e
  have e : (if 0 < j ∧ j < 1073741824 then some (D.int (i / j)) else none) = some d := e3
  by_cases hj : 0 < j ∧ j < 1073741824
  · rw [if_pos hj] at e; cases e; exact ⟨i, j, ru, rv, hj, q _ H (.refl hS) rfl⟩
  · rw [if_neg hj] at e; cases e
theorem opc_pow : OpC X w b (rI CPow fun i j => .int (i ^ j.toNat)) (fun S u v => bopD S .pow u v) := by
  intro H p S u v x y d Q hS ru rv e q
  obtain ⟨i, j, rfl, rfl, e3⟩ := ints_of (by decide) (by decide) e
  have e : (if 0 ≤ j ∧ j ≤ 1000000 ∧ i.natAbs < 2 ^ 64 then some (D.int (i ^ j.toNat)) else none) = some d := e3
  by_cases hj : 0 ≤ j ∧ j ≤ 1000000 ∧ i.natAbs < 2 ^ 64
  · rw [if_pos hj] at e; cases e; exact ⟨i, j, ru, rv, hj, q _ H (.refl hS) rfl⟩
  · rw [if_neg hj] at e; cases e
abbrev rMulA (X : Cx) : R2 := fun x y H Q => rI CMul (fun i j => .int (i * j)) x y H Q ∨ (rRepT X.K x y H Q ∨ rRep x y H Q)
theorem op_mulA : OpR X (binaryOp .Mult) (rMulA X) := op_mul.or (op_repT.or op_rep)
theorem opc_mul (hK : X.K = w.K) : OpC X w b (rMulA X) (fun S u v => mulD S u v) := by
  intro H p S u v x y d Q hS ru rv e q
  have gen : ∀ k : Int, v = .int k → (match lstOf S u with
    | some a => if 0 ≤ k ∧ k < 2 ^ 62 ∧ a.length * k.toNat ≤ SZ then some (D.lst (List.replicate k.toNat a).flatten) else none
    | none => none) = some d → rMulA X x y H Q := by
    rintro k rfl e
    cases e1 : lstOf S u with
    | none => rw [e1] at e; cases e
    | some a =>
      rw [e1] at e
      by_cases hz : 0 ≤ k ∧ k < 2 ^ 62 ∧ a.length * k.toNat ≤ SZ
      · simp only [if_pos hz] at e
        cases e
        obtain ⟨a1, xs, rfl, k1, r1⟩ := lstOf_rep hS ru e1
        refine .inr (.inr ⟨a1, k, xs, rfl, rv, k1, by omega, by omega, by rw [← r1.length, sz_line]; exact hz.2.2, fun t ht => ?_⟩)
        obtain ⟨P, r⟩ := Rep.newLst (b := b) hS (r1.flatRep k.toNat) ht
        exact q _ _ P r
      · simp only [if_neg hz] at e; cases e
  replace e : mulD S u v = some d := e
  unfold mulD at e
  split at e
  · split at e
    · rename_i i j hm
      cases e
      exact .inl ⟨i, j, ru, rv, smallI_ok hm, q _ H (.refl hS) rfl⟩
    · cases e
  · rename_i a k
    split at e
    · rename_i hz
      cases e
      obtain ⟨a1, xs, rfl, k1, r1⟩ := ru.sqT
      rw [← hK] at k1
      have l1 := r1.length
      refine .inr (.inl ⟨a1, k, xs, rfl, rv, k1, ?_, hz.1, hz.2.1, by omega, fun t ht => ?_⟩)
      · rintro rfl
        exact hz.2.2.2 (List.length_eq_zero_iff.mp l1)
      · obtain ⟨P, r⟩ := Rep.newTup (b := b) hS (r1.flatRep k.toNat) ht
        exact q _ _ P r
    · cases e
  · exact gen _ rfl e
  · cases e
end
end CI
end
section
set_option Elab.async false
set_option linter.all false
set_option maxRecDepth 100000
/-! ## CI: comparisons, the rules -/
namespace CI
open PySem PySem.Spec PyProof.Rows L2

section
variable {X : Cx} {w : Wh} {b : Nat} {W : WX} {e e1 e2 : Expr} {fa fb : Rho → M D}
theorem eq_flat {K : PySem.W.Frag} {H : Hp} {x y : V} {u v : PyData} (hx : Dp K H x u) (hy : Dp K H y v) (fu : flatP u = true) (fv : flatP v = true) :
    (scal x y = true ∧ decide (x = y) = PyData.eqv u v) ∨ (SeqAt.shaped u = true ∧ SeqAt.shaped v = true) := by
  cases hx <;> first | (cases fu; done) | skip
  all_goals (cases hy <;> first | (cases fv; done) | skip)
  all_goals first
    | (right; exact ⟨by decide, by decide⟩)
    | (right; constructor <;> (first | rfl | simp [SeqAt.shaped, PyData.canLay0, PyData.depth]); done)
    | (left; refine ⟨rfl, ?_⟩; (first | rfl | (simp [PyData.eqv]; done) | (unfold PyData.eqv; simp only [V.str.injEq, V.bl.injEq, V.int.injEq]; rename_i a c; by_cases h : a = c <;> simp [h])))
theorem opc_eq (hu : X.A.units + 64 < cLine) (hK : X.K = w.K) : OpC X w b (fun x y H Q => rEq x y H Q ∨ rEqD X.K x y H Q) (fun S u v => (cmpD S .eq u v).map .bl) := by
  intro H p S u v x y d Q hS ru rv e q
  obtain ⟨t, e1, rfl⟩ := Option.map_eq_some_iff.mp (show (eqD S u v).map D.bl = some d from e)
  unfold eqD at e1
  cases e2 : (deref S u).py with
  | none => rw [e2] at e1; cases e1
  | some a =>
    cases e3 : (deref S v).py with
    | none => rw [e2, e3] at e1; cases e1
    | some c =>
      rw [e2, e3] at e1
      have d1 := deref_dp hS ru e2
      have d2 := deref_dp hS rv e3
      have fin := q (.bl t) H (.refl hS) rfl
      by_cases hc : ((flatP a && flatP c) || (SeqAt.shaped a && SeqAt.shaped c)) = true
      · simp only [hc, if_true] at e1
        cases e1
        simp only [Bool.or_eq_true, Bool.and_eq_true] at hc
        have deep : SeqAt.shaped a = true ∧ SeqAt.shaped c = true → rEqD X.K x y H Q := fun ⟨s1, s2⟩ => by
          rw [hK]; exact ⟨a, c, d1, d2, s1, s2, fin⟩
        rcases hc with hc | hc
        · rcases eq_flat d1 d2 hc.1 hc.2 with ⟨h1, h2⟩ | h
          · exact .inl ⟨h1, by rw [h2]; exact fin⟩
          · exact .inr (deep h)
        · exact .inr (deep hc)
      · simp only [hc, if_false] at e1; cases e1
theorem opc_ne (hu : X.A.units + 64 < cLine) (hK : X.K = w.K) : OpC X w b (fun x y H Q => rNe x y H Q ∨ rNeD X.K x y H Q) (fun S u v => (cmpD S .ne u v).map .bl) := by
  intro H p S u v x y d Q hS ru rv e q
  obtain ⟨t0, e0, rfl⟩ := Option.map_eq_some_iff.mp (show ((eqD S u v).map not).map D.bl = some d from e)
  obtain ⟨t, e1, rfl⟩ := Option.map_eq_some_iff.mp e0
  clear e e0
  unfold eqD at e1
  cases e2 : (deref S u).py with
  | none => rw [e2] at e1; cases e1
  | some a =>
    cases e3 : (deref S v).py with
    | none => rw [e2, e3] at e1; cases e1
    | some c =>
      rw [e2, e3] at e1
      have d1 := deref_dp hS ru e2
      have d2 := deref_dp hS rv e3
      have fin := q (.bl (!t)) H (.refl hS) rfl
      by_cases hc : ((flatP a && flatP c) || (SeqAt.shaped a && SeqAt.shaped c)) = true
      · simp only [hc, if_true] at e1
        have et : PyData.eqv a c = t := Option.some.inj e1
        subst et
        simp only [Bool.or_eq_true, Bool.and_eq_true] at hc
        have deep : SeqAt.shaped a = true ∧ SeqAt.shaped c = true → rNeD X.K x y H Q := fun ⟨s1, s2⟩ => by
          rw [hK]; exact ⟨a, c, d1, d2, s1, s2, fin⟩
        rcases hc with hc | hc
        · rcases eq_flat d1 d2 hc.1 hc.2 with ⟨h1, h2⟩ | h
          · exact .inl ⟨h1, by rw [h2]; exact fin⟩
          · exact .inr (deep h)
        · exact .inr (deep hc)
      · simp only [hc, if_false] at e1; cases e1
/-! ### in -/
abbrev rDIn : R2 := fun x y H Q => ∃ a o, y = .ref a ∧ DGet H a x o ∧ Q (.bl o.isSome) H
abbrev rDNotIn : R2 := fun x y H Q => ∃ a o, y = .ref a ∧ DGet H a x o ∧ Q (.bl (!o.isSome)) H
theorem or_din (hu : X.A.units + 1 < cLine) : OpR X (compareOp .In) rDIn := by
  intro pins s σ H x y v u Q I rx ry ⟨a, o, e, g, q⟩
  subst e
  obtain rfl : u = Value.ref a := ry
  exact d_in hu I g rx fun s' I' => ⟨.bl o.isSome, H, I', rfl, q⟩
theorem or_dnotin (hu : X.A.units + 1 < cLine) : OpR X (compareOp .NotIn) rDNotIn := by
  intro pins s σ H x y v u Q I rx ry ⟨a, o, e, g, q⟩
  subst e
  obtain rfl : u = Value.ref a := ry
  exact d_notIn hu I g rx fun s' I' => ⟨.bl (!o.isSome), H, I', rfl, q⟩
/-! what a dict holds -/
theorem kD_rep {H : Hp} {p : Pl} {d : D} {v : V} {k : Key} (r : Rep w H p d v) (e : kD d = some k) : v = kV k := by
  cases d <;> first | (cases e; done) | skip
  · cases e; exact r
  · cases e; exact r
theorem kD_eq {d d' : D} {k k' : Key} (e : kD d = some k) (e' : kD d' = some k') : keyEq d d' = decide (k = k') := by
  cases d <;> first | (cases e; done) | skip
  all_goals (cases d' <;> first | (cases e'; done) | skip)
  · cases e; cases e'; unfold keyEq; rw [key_ll]; rename_i i j; by_cases h : i = j <;> simp [h]
  · cases e; cases e'; rw [key_lr]; rfl
  · cases e; cases e'; rw [key_rl]; rfl
  · cases e; cases e'; rw [key_rr]; unfold keyEq; rename_i i j
    by_cases h : i = j
    · simp [h]
    · have : ¬ (⟨i.toArray⟩ : Str) = ⟨j.toArray⟩ := fun z => h (by injection z with z; simpa using congrArg Array.toList z)
      simp [h, this]
theorem okKey_flat {d : D} (h : okKey d = true) (s : sortK d = false) : ∃ k, kD d = some k := by
  cases d <;> first | (cases h; done) | (cases s; done) | skip
  · exact ⟨_, rfl⟩
  · exact ⟨_, rfl⟩
theorem kDs_sort : ∀ {ks : List D} {kk : List Key}, kDs ks = some kk → ∀ k ∈ ks, sortK k = false ∧ okKey k = true
  | [], _, _, k, h => by cases h
  | d :: ds, kk, e, k, h => by
    unfold kDs at e
    cases e1 : kD d with
    | none => rw [e1] at e; cases e
    | some k1 =>
      cases e2 : kDs ds with
      | none => rw [e1, e2] at e; cases e
      | some ks' =>
        rcases List.mem_cons.mp h with h | h
        · subst h
          cases k <;> first | (cases e1; done) | exact ⟨rfl, rfl⟩
        · exact kDs_sort e2 k h
theorem kTs_sort : ∀ {ks : List D} {kk : List (List Key)}, kTs ks = some kk → ∀ k ∈ ks, sortK k = true
  | [], _, _, k, h => by cases h
  | d :: ds, kk, e, k, h => by
    unfold kTs at e
    cases e1 : kT d with
    | none => rw [e1] at e; cases e
    | some k1 =>
      cases e2 : kTs ds with
      | none => rw [e1, e2] at e; cases e
      | some ks' =>
        rcases List.mem_cons.mp h with h | h
        · subst h
          cases k <;> first | (cases e1; done) | rfl
        · exact kTs_sort e2 k h
theorem dGet_k {H : Hp} {p : Pl} : ∀ {ks vs : List D} {kvs : List (Key × V)} {x : D} {k : Key}, kDs ks = some (kvs.map (·.1)) → Reps w H p vs (kvs.map (·.2)) → kD x = some k →
    match dGet ks vs x with
    | some d => ∃ v, valV kvs k = some v ∧ Rep w H p d v
    | none => valV kvs k = none
  | [], vs, kvs, x, k, hk, hv, hx => by
    have : kvs = [] := by
      have z : ([] : List Key) = kvs.map (·.1) := Option.some.inj hk
      exact List.map_eq_nil_iff.mp z.symm
    subst this
    simp [dGet, valV]
  | d :: ds, vs, kvs, x, k, hk, hv, hx => by
    unfold kDs at hk
    cases e1 : kD d with
    | none => rw [e1] at hk; cases hk
    | some k1 =>
      cases e2 : kDs ds with
      | none => rw [e1, e2] at hk; cases hk
      | some ks' =>
        rw [e1, e2] at hk
        have hk' : k1 :: ks' = kvs.map (·.1) := Option.some.inj hk
        cases kvs with
        | nil => cases hk'
        | cons kv kvs =>
          obtain ⟨kk, vv⟩ := kv
          rw [List.map_cons] at hk' hv
          injection hk' with h1 h2
          have h1' : k1 = kk := h1
          subst h1'
          cases vs with
          | nil => cases hv
          | cons v0 vs =>
            obtain ⟨vx, us, e5, r1, r2⟩ := hv
            injection e5 with e6 e7
            have e6' : vv = vx := e6
            subst e6'
            subst e7
            have ih := dGet_k (ks := ds) (vs := vs) (kvs := kvs) (x := x) (k := k) (by rw [e2, h2]) r2 hx
            unfold dGet
            rw [kD_eq e1 hx]
            unfold valV
            rw [List.find?_cons]
            by_cases hc : k1 = k
            · simp only [hc, decide_true, if_true]
              exact ⟨vv, rfl, r1⟩
            · simp only [hc, decide_false, Bool.false_eq_true, if_false]
              exact ih
end
end CI
end
section
set_option Elab.async false
set_option linter.all false
set_option maxRecDepth 100000
/-! ## CI: the empty dict, told in two ways -/
namespace CI
open PySem PySem.Spec PyProof.Rows L2
/-- an empty dict may be told as one of flat keys or as one of tuples -/
def Alt (H : Hp) (a : Addr) (H' : Hp) : Prop := H' = H ∨ (H a = some (.dK []) ∧ H' = upd H a (.dT [])) ∨ (H a = some (.dT []) ∧ H' = upd H a (.dK []))
/-! ### keys that are tuples -/
theorem keys_eq : ∀ {xs ys : List D} {k l : List Key}, kDs xs = some k → kDs ys = some l → keyEq.keysEq xs ys = decide (k = l)
  | [], [], k, l, e, f => by cases e; cases f; rfl
  | [], y :: ys, k, l, e, f => by
    cases e
    unfold kDs at f
    cases e1 : kD y with
    | none => rw [e1] at f; cases f
    | some a =>
      cases e2 : kDs ys with
      | none => rw [e1, e2] at f; cases f
      | some r => rw [e1, e2] at f; cases f; simp [keyEq.keysEq]
  | x :: xs, [], k, l, e, f => by
    cases f
    unfold kDs at e
    cases e1 : kD x with
    | none => rw [e1] at e; cases e
    | some a =>
      cases e2 : kDs xs with
      | none => rw [e1, e2] at e; cases e
      | some r => rw [e1, e2] at e; cases e; cases x <;> first | (cases e1; done) | simp [keyEq.keysEq]
  | x :: xs, y :: ys, k, l, e, f => by
    unfold kDs at e f
    cases e1 : kD x with
    | none => rw [e1] at e; cases e
    | some a =>
      cases e2 : kDs xs with
      | none => rw [e1, e2] at e; cases e
      | some r =>
        cases f1 : kD y with
        | none => rw [f1] at f; cases f
        | some c =>
          cases f2 : kDs ys with
          | none => rw [f1, f2] at f; cases f
          | some q =>
            rw [e1, e2] at e
            rw [f1, f2] at f
            cases e; cases f
            have ih := keys_eq e2 f2
            have hk := kD_eq e1 f1
            have : keyEq.keysEq (x :: xs) (y :: ys) = (keyEq x y && keyEq.keysEq xs ys) := by
              cases x <;> first | (cases e1; done) | skip
              all_goals (cases y <;> first | (cases f1; done) | rfl)
            rw [this, hk, ih]
            by_cases h1 : a = c <;> by_cases h2 : r = q <;> simp [h1, h2]
theorem kT_eq {d d' : D} {k k' : List Key} (e : kT d = some k) (e' : kT d' = some k') : keyEq d d' = decide (k = k') := by
  cases d <;> first | (cases e; done) | skip
  cases d' <;> first | (cases e'; done) | skip
  exact keys_eq e e'
theorem kDs_rep {w : Wh} {H : Hp} {p : Pl} : ∀ {ds : List D} {vs : List V} {k : List Key}, Reps w H p ds vs → kDs ds = some k → vs = k.map kV
  | [], vs, k, r, e => by cases e; exact r
  | d :: ds, vs, k, r, e => by
    unfold kDs at e
    cases e1 : kD d with
    | none => rw [e1] at e; cases e
    | some a =>
      cases e2 : kDs ds with
      | none => rw [e1, e2] at e; cases e
      | some q =>
        rw [e1, e2] at e
        cases e
        obtain ⟨v, us, rfl, r1, r2⟩ := r
        rw [kD_rep r1 e1, kDs_rep r2 e2]
        rfl
theorem kT_rep {w : Wh} {H : Hp} {p : Pl} {d : D} {v : V} {k : List Key} (r : Rep w H p d v) (e : kT d = some k) : ∃ a, v = .ref a ∧ H a = some (.tup (k.map kV)) ∧ ¬ p.has a := by
  cases d <;> first | (cases e; done) | skip
  obtain ⟨a, vs, rfl, h, q⟩ := r
  exact ⟨a, rfl, by rw [← kDs_rep q e]; exact h.1, h.2⟩
theorem okKey_tup {d : D} (h : okKey d = true) (s : sortK d = true) : ∃ k, kT d = some k := by
  cases d <;> first | (cases s; done) | skip
  rename_i ds
  have h : ds.all flatKey = true := h
  have : ∀ ds : List D, ds.all flatKey = true → ∃ k, kDs ds = some k := by
    intro ds
    induction ds with
    | nil => exact fun _ => ⟨[], rfl⟩
    | cons d ds ih =>
      intro h
      rw [List.all_cons, Bool.and_eq_true] at h
      obtain ⟨k, hk⟩ := ih h.2
      cases d <;> first | (cases h.1; done) | (exact ⟨_, by unfold kDs; rw [hk]; rfl⟩)
  exact this ds h
theorem dGet_t {H : Hp} {p : Pl} : ∀ {ks vs : List D} {kvs : List (List Key × V)} {x : D} {k : List Key}, kTs ks = some (kvs.map (·.1)) → Reps w H p vs (kvs.map (·.2)) → kT x = some k →
    match dGet ks vs x with
    | some d => ∃ v, valV kvs k = some v ∧ Rep w H p d v
    | none => valV kvs k = none
  | [], vs, kvs, x, k, hk, hv, hx => by
    have : kvs = [] := by
      have z : ([] : List (List Key)) = kvs.map (·.1) := Option.some.inj hk
      exact List.map_eq_nil_iff.mp z.symm
    subst this
    simp [dGet, valV]
  | d :: ds, vs, kvs, x, k, hk, hv, hx => by
    unfold kTs at hk
    cases e1 : kT d with
    | none => rw [e1] at hk; cases hk
    | some k1 =>
      cases e2 : kTs ds with
      | none => rw [e1, e2] at hk; cases hk
      | some ks' =>
        rw [e1, e2] at hk
        have hk' : k1 :: ks' = kvs.map (·.1) := Option.some.inj hk
        cases kvs with
        | nil => cases hk'
        | cons kv kvs =>
          obtain ⟨kk, vv⟩ := kv
          rw [List.map_cons] at hk' hv
          injection hk' with h1 h2
          have h1' : k1 = kk := h1
          subst h1'
          cases vs with
          | nil => cases hv
          | cons v0 vs =>
            obtain ⟨vx, us, e5, r1, r2⟩ := hv
            injection e5 with e6 e7
            have e6' : vv = vx := e6
            subst e6'
            subst e7
            have ih := dGet_t (ks := ds) (vs := vs) (kvs := kvs) (x := x) (k := k) (by rw [e2, h2]) r2 hx
            unfold dGet
            rw [kT_eq e1 hx]
            unfold valV
            rw [List.find?_cons]
            by_cases hc : k1 = k
            · simp only [hc, decide_true, if_true]
              exact ⟨vv, rfl, r1⟩
            · simp only [hc, decide_false, Bool.false_eq_true, if_false]
              exact ih
section
variable {w : Wh}
theorem putT_rep {H : Hp} {p : Pl} {ks vs : List D} {kvs : List (List Key × V)} {x y : D} {k : List Key} {z : V} (hk : kTs ks = some (kvs.map (·.1))) (hv : Reps w H p vs (kvs.map (·.2))) (hx : kT x = some k) (r : Rep w H p y z) :
    kTs (dPut ks vs x y).1 = some ((putK kvs k z).map (·.1)) ∧ Reps w H p (dPut ks vs x y).2 ((putK kvs k z).map (·.2)) := by
  have main : ∀ (ks vs : List D) (kvs : List (List Key × V)), kTs ks = some (kvs.map (·.1)) → Reps w H p vs (kvs.map (·.2)) →
      (ks.any (fun k => keyEq k x) = kvs.any (fun kv => decide (kv.1 = k))) ∧ Reps w H p (repV ks vs x y) ((kvs.map (fun kv => if kv.1 = k then (kv.1, z) else kv)).map (·.2)) ∧ kTs (ks ++ [x]) = some ((kvs ++ [(k, z)]).map (·.1)) := by
    intro ks
    induction ks with
    | nil =>
      intro vs kvs hk hv
      have : kvs = [] := List.map_eq_nil_iff.mp (Option.some.inj (show some ([] : List (List Key)) = some _ from hk)).symm
      subst this
      refine ⟨rfl, rfl, ?_⟩
      show kTs [x] = some [k]
      simp [kTs, hx]
    | cons d ds ih =>
      intro vs kvs hk hv
      unfold kTs at hk
      cases e1 : kT d with
      | none => rw [e1] at hk; cases hk
      | some k1 =>
        cases e2 : kTs ds with
        | none => rw [e1, e2] at hk; cases hk
        | some ks' =>
          rw [e1, e2] at hk
          have hk' : k1 :: ks' = kvs.map (·.1) := Option.some.inj hk
          cases kvs with
          | nil => cases hk'
          | cons kv kvs =>
            obtain ⟨kk, vv⟩ := kv
            rw [List.map_cons] at hk' hv
            injection hk' with h1 h2
            have h1' : k1 = kk := h1
            subst h1'
            cases vs with
            | nil => cases hv
            | cons v0 vs =>
              obtain ⟨vx, us, e5, r1, r2⟩ := hv
              injection e5 with e6 e7
              have e6' : vv = vx := e6
              subst e6'
              subst e7
              obtain ⟨i1, i2, i3⟩ := ih vs kvs (by rw [e2, h2]) r2
              have hq := kT_eq e1 hx
              refine ⟨?_, ?_, ?_⟩
              · rw [List.any_cons, List.any_cons, i1, hq]
              · rw [List.map_cons, List.map_cons]
                unfold repV
                refine Reps.cons ?_ i2
                rw [hq]
                by_cases hkk : k1 = k
                · simp only [hkk, decide_true, if_true]; exact r
                · simp only [hkk, decide_false, if_false]; exact r1
              · rw [List.cons_append, List.cons_append, List.map_cons]
                unfold kTs
                rw [e1, i3]
  obtain ⟨m1, m2, m3⟩ := main ks vs kvs hk hv
  unfold dPut putK
  rw [m1]
  by_cases hc : (kvs.any fun kv => decide (kv.1 = k)) = true
  · rw [if_pos hc, if_pos hc]
    refine ⟨?_, m2⟩
    rw [hk]
    congr 1
    rw [List.map_map]
    refine List.map_congr_left fun kv _ => ?_
    show kv.1 = (if kv.1 = k then (kv.1, z) else kv).1
    split <;> rfl
  · rw [if_neg hc, if_neg hc]
    refine ⟨m3, ?_⟩
    rw [List.map_append]
    exact hv.append (.one r)
end
/-- one cell, told the other way -/
theorem post_same_cell {w : Wh} {b n : Nat} {H : Hp} {p : Pl} {S : Store} {a : Addr} {o : HO} {c : Cell} (h : RelS w H p S) (e : p.m[n]? = some a) (hn : S[n]? = some c) (hc : CRep w (upd H a o) p a c) : Post w b H p S (upd H a o) p S := by
  have e2 : S.set n c = S := by
    apply List.ext_getElem?
    intro i
    by_cases hi : n = i
    · subst hi
      have hl : n < S.length := by
        rcases Nat.lt_or_ge n S.length with q | q
        · exact q
        · rw [List.getElem?_eq_none q] at hn; cases hn
      rw [List.getElem?_set_self hl, hn]
    · rw [List.getElem?_set_ne hi]
  have := post_write (b := b) h e hc fun b' hb' lo hlt => lo n c hlt hn
  rw [e2] at this
  exact this
section
variable {X : Cx} {pins : List (Addr × Obj)} {σ : L2.St} {H H' : Hp} {s : Shared} {a : Addr}
theorem Inv.alt (I : Inv X pins σ H s) (h : Alt H a H') : Inv X pins σ H' s := by
  rcases h with rfl | ⟨e, rfl⟩ | ⟨e, rfl⟩
  · exact I
  · obtain ⟨z, hd, vs, rel, dd⟩ := dk_of I.hok e
    have hv : vs = [] := by
      have := rel.length
      exact List.length_eq_zero_iff.mp this.symm
    subst hv
    obtain ⟨o, es, ep, h1, h2, h3, h4, h5, h6⟩ := dd
    have he : es.toList = [] := by
      cases q : es.toList with
      | nil => rfl
      | cons x r => rw [q] at h5; cases h5
    exact d_write (t' := s.toks) I (by rw [e]; exact True.intro) ⟨rfl, fun _ _ => rfl⟩ ⟨o, h1⟩ ⟨z, hd, [], .nil, o, es, ep, h1, h2, h3, by rw [he]; rfl, List.nodup_nil⟩
  · obtain ⟨z, hd, xs, rel, o, es, ep, h1, h2, h3, h4, _, h5⟩ := dt_of I.hok e
    have hv : xs = [] := by
      have := Paired.length rel
      exact List.length_eq_zero_iff.mp this.symm
    subst hv
    have he : es = #[] := by
      have : es.toList = [] := h4
      exact Array.toList_eq_nil_iff.mp this
    subst he
    exact d_write (t' := s.toks) I (by rw [e]; exact True.intro) ⟨rfl, fun _ _ => rfl⟩ ⟨o, h1⟩ ⟨z, hd, [], .nil, o, #[], ep, h1, h2, h3, fun x hx => (by simp at hx), .nil, List.nodup_nil⟩
theorem opR_alt {f : Value → Value → Sem Value} {r : R2} (h : OpR X f r) : OpR X f fun x y H Q => ∃ a H', Alt H a H' ∧ r x y H' Q :=
  fun pins s σ H x y v u Q I rx ry ⟨_, _, al, q⟩ => h pins s σ _ x y v u Q (Inv.alt I al) rx ry q
theorem ixR_alt {r : R2} (h : IxR X r) : IxR X fun x y H Q => ∃ a H', Alt H a H' ∧ r x y H' Q :=
  fun va sl pins s σ H x y v u Q I rx ry ⟨_, _, al, q⟩ e => h va sl pins s σ _ x y v u Q (Inv.alt I al) rx ry q e
theorem pSet_alt {t : TSet} (h : PSet X t) : PSet X fun o i v H Q => ∃ a H', Alt H a H' ∧ t o i v H' Q :=
  fun pins s σ H o i v ov iv u Q I ro ri rv ⟨_, _, al, q⟩ => h pins s σ _ o i v ov iv u Q (Inv.alt I al) ro ri rv q
end
end CI
end
section
set_option Elab.async false
set_option linter.all false
set_option maxRecDepth 100000
/-! ## CI: in, order, places, slices -/
namespace CI
open PySem PySem.Spec PyProof.Rows L2

section
variable {X : Cx} {w : Wh} {b : Nat} {W : WX} {e e1 e2 : Expr} {fa fb : Rho → M D}
theorem dctOf_rep {H : Hp} {p : Pl} {S : Store} (h : RelS w H p S) {d : D} {v : V} {ks ds : List D} (r : Rep w H p d v) (e : dctOf S d = some (ks, ds)) : ∃ a, v = .ref a ∧
    ((∃ kvs : List (Key × V), H a = some (.dK kvs) ∧ kDs ks = some (kvs.map (·.1)) ∧ Reps w H p ds (kvs.map (·.2))) ∨
      (∃ kvs : List (List Key × V), H a = some (.dT kvs) ∧ kTs ks = some (kvs.map (·.1)) ∧ Reps w H p ds (kvs.map (·.2)))) ∧
    (isRefD d = false → ∃ kvs : List (Key × V), H a = some (.dK kvs)) ∧ (isRefD d = true → ∃ n : Nat, p.m[n]? = some a ∧ S[n]? = some (Cell.dct ks ds)) := by
  cases d <;> first | (cases e; done) | skip
  case dct k2 d2 =>
    cases e
    obtain ⟨a, kvs, e1, e2, _, e3, e4⟩ := r
    exact ⟨a, e1, .inl ⟨kvs, e2, e3, e4⟩, fun _ => ⟨kvs, e2⟩, fun z => (by cases z)⟩
  case ref n =>
    obtain ⟨a, e1, e2⟩ := r
    obtain ⟨c, e3, e4⟩ := h.cell e2
    cases c with
    | dct k2 d2 =>
      simp only [dctOf, e3] at e
      cases e
      exact ⟨a, e1, e4, fun z => (by cases z), fun _ => ⟨n, e2, e3⟩⟩
    | lst ds => simp only [dctOf, e3] at e; cases e
    | ins c ns vs => simp only [dctOf, e3] at e; cases e
theorem fitsK_cases {r : Bool} {ks : List D} {x : D} (h : fitsK r ks x = true) : ((∃ k, kD x = some k) ∧ ∀ k ∈ ks, sortK k = false) ∨ (r = true ∧ (∃ k, kT x = some k) ∧ ∀ k ∈ ks, sortK k = true) := by
  unfold fitsK at h
  simp only [Bool.and_eq_true, Bool.or_eq_true, Bool.not_eq_true', List.all_eq_true] at h
  rcases h with ⟨h0, ⟨h1, h2⟩ | ⟨h1, h2, h3⟩⟩
  · exact .inl ⟨okKey_flat h0 h1, h2⟩
  · exact .inr ⟨h1, okKey_tup h0 h2, h3⟩
/-- what a dict holds at a key -/
theorem dget_rep {H : Hp} {p : Pl} {S : Store} (h : RelS w H p S) {d x : D} {v y : V} {ks ds : List D} (r : Rep w H p d v) (e : dctOf S d = some (ks, ds)) (rx : Rep w H p x y) (f : fitsK (isRefD d) ks x = true) :
    ∃ a H' o, v = .ref a ∧ Alt H a H' ∧ Post w b H p S H' p S ∧ DGet H' a y o ∧ (match dGet ks ds x with
      | some d => ∃ v, o = some v ∧ Rep w H' p d v
      | none => o = none) := by
  obtain ⟨a, rfl, h1, h2, h3⟩ := dctOf_rep h r e
  rcases fitsK_cases f with ⟨⟨k, hk⟩, hs⟩ | ⟨hr, ⟨k, hk⟩, hs⟩
  · have ey := kD_rep rx hk
    rcases h1 with ⟨kvs, q1, q2, q3⟩ | ⟨kvs, q1, q2, q3⟩
    · refine ⟨a, H, valV kvs k, rfl, .inl rfl, .refl h, by rw [ey]; exact .k q1, ?_⟩
      have := dGet_k q2 q3 hk
      revert this
      cases dGet ks ds x <;> exact id
    · cases ks with
      | nil =>
        have hkv : kvs = [] := List.map_eq_nil_iff.mp (Option.some.inj q2).symm
        subst hkv
        have hd : isRefD d = true := by
          cases hq : isRefD d with
          | true => rfl
          | false => obtain ⟨kvs2, z⟩ := h2 hq; rw [q1] at z; cases z
        obtain ⟨n, e1, e2⟩ := h3 hd
        obtain rfl : ds = [] := List.length_eq_zero_iff.mp (q3.length.trans rfl)
        refine ⟨a, _, none, rfl, .inr (.inr ⟨q1, rfl⟩), post_same_cell h e1 e2 (.inl ⟨[], upd_same, rfl, rfl⟩), by rw [ey]; exact .k upd_same, rfl⟩
      | cons k0 ks =>
        have z := kTs_sort q2 k0 (by simp)
        rw [hs k0 (by simp)] at z; cases z
  · obtain ⟨b2, ey, eb, nb⟩ := kT_rep rx hk
    subst ey
    rcases h1 with ⟨kvs, q1, q2, q3⟩ | ⟨kvs, q1, q2, q3⟩
    · cases ks with
      | nil =>
        have hkv : kvs = [] := List.map_eq_nil_iff.mp (Option.some.inj q2).symm
        subst hkv
        obtain ⟨n, e1, e2⟩ := h3 hr
        obtain rfl : ds = [] := List.length_eq_zero_iff.mp (q3.length.trans rfl)
        have ne : b2 ≠ a := fun z => by rw [z, q1] at eb; cases eb
        refine ⟨a, _, none, rfl, .inr (.inl ⟨q1, rfl⟩), post_same_cell h e1 e2 (.inr ⟨[], upd_same, rfl, rfl⟩), .t upd_same (by rw [upd_ne ne]; exact eb), rfl⟩
      | cons k0 ks =>
        have z := (kDs_sort q2 k0 (by simp)).1
        rw [hs k0 (by simp)] at z; cases z
    · refine ⟨a, H, valV kvs k, rfl, .inl rfl, .refl h, .t q1 eb, ?_⟩
      have := dGet_t q2 q3 hk
      revert this
      cases dGet ks ds x <;> exact id
theorem dget_flat {H : Hp} {p : Pl} {S : Store} (h : RelS w H p S) {d x : D} {v y : V} {ks ds : List D} (r : Rep w H p d v) (e : dctOf S d = some (ks, ds)) (rx : Rep w H p x y) (f : fitsK false ks x = true) (n0 : isRefD d = false ∨ ks ≠ []) :
    ∃ a o, v = .ref a ∧ DGet H a y o ∧ (match dGet ks ds x with
      | some d => ∃ v, o = some v ∧ Rep w H p d v
      | none => o = none) := by
  obtain ⟨a, rfl, h1, h2, h3⟩ := dctOf_rep h r e
  rcases fitsK_cases f with ⟨⟨k, hk⟩, hs⟩ | ⟨hr, _⟩
  · have ey := kD_rep rx hk
    rcases h1 with ⟨kvs, q1, q2, q3⟩ | ⟨kvs, q1, q2, q3⟩
    · refine ⟨a, valV kvs k, rfl, by rw [ey]; exact .k q1, ?_⟩
      have := dGet_k q2 q3 hk
      revert this
      cases dGet ks ds x <;> exact id
    · exfalso
      cases ks with
      | nil =>
        rcases n0 with n0 | n0
        · obtain ⟨kvs2, z⟩ := h2 n0; rw [q1] at z; cases z
        · exact n0 rfl
      | cons k0 ks =>
        have z := kTs_sort q2 k0 (by simp)
        rw [hs k0 (by simp)] at z; cases z
  · cases hr
/-! ### in -/
abbrev rInA (X : Cx) : R2 := fun x y H Q => (∃ (c : Nat) (z : Str), x = .str ⟨#[c]⟩ ∧ y = .str z ∧ Q (.bl (decide (c ∈ z.cps.toList))) H) ∨ (rIn X.K false x y H Q ∨ (rInD X.K x y H Q ∨ ∃ a H', Alt H a H' ∧ rDIn x y H' Q))
abbrev rNotInA (X : Cx) : R2 := fun x y H Q => (∃ (c : Nat) (z : Str), x = .str ⟨#[c]⟩ ∧ y = .str z ∧ Q (.bl (!decide (c ∈ z.cps.toList))) H) ∨ (rIn X.K true x y H Q ∨ (rNotInD X.K x y H Q ∨ ∃ a H', Alt H a H' ∧ rDNotIn x y H' Q))
theorem op_inA (hu : X.A.units + 65 < cLine) : OpR X (compareOp .In) (rInA X) := op_in_sign.or (op_in_seq.or ((op_inD hu).or (opR_alt (or_din (by omega)))))
theorem op_notInA (hu : X.A.units + 65 < cLine) : OpR X (compareOp .NotIn) (rNotInA X) := op_notIn_sign.or (op_notIn_seq.or ((op_notInD hu).or (opR_alt (or_dnotin (by omega)))))
theorem pys_dp {H : Hp} {p : Pl} : ∀ {ds : List D} {vs : List V} {qs : List PyData}, Reps w H p ds vs → D.pys ds = some qs → DpAll w.K H vs qs := fun r e => Reps.dp _ _ _ r e
theorem any_flat {K : PySem.W.Frag} {H : Hp} {x : V} {a : PyData} (hx : Dp K H x a) (fa : flatP a = true) : ∀ {vs : List V} {qs : List PyData}, DpAll K H vs qs → qs.all flatP = true → vs.all flatV = true ∧ inV x vs = qs.any fun q => PyData.eqv q a
  | _, _, .nil, _ => ⟨rfl, rfl⟩
  | _, _, .cons h t, f => by
    rw [List.all_cons, Bool.and_eq_true] at f
    obtain ⟨i1, i2⟩ := any_flat hx fa t f.2
    refine ⟨by rw [List.all_cons, dp_flat h f.1, i1]; rfl, ?_⟩
    unfold inV at i2 ⊢
    rw [List.any_cons, List.any_cons, i2, dp_scal h hx f.1 fa]
/-- what «in» is told by -/
inductive InC (w : Wh) (b : Nat) (p : Pl) (S : Store) (H : Hp) (x y : V) (t : Bool) : Prop where
  | sign (c : Nat) (z : Str) (e1 : x = .str ⟨#[c]⟩) (e2 : y = .str z) (h : t = decide (c ∈ z.cps.toList))
  | flat (a : Addr) (xs : List V) (e : y = .ref a) (h : SqL w.K H a xs ∨ SqT w.K H a xs) (f : flatV x = true) (g : xs.all flatV = true) (h : t = inV x xs)
  | deep (d : PyData) (ds : List PyData) (h1 : Dp w.K H x d) (h2 : Dp w.K H y (.list ds)) (s1 : SeqAt.shaped d = true) (s2 : SeqAt.shaped (.list ds) = true) (h : t = ds.any fun z => PyData.eqv z d)
  | dict (a : Addr) (H' : Hp) (o : Option V) (e : y = .ref a) (al : Alt H a H') (P : Post w b H p S H' p S) (g : DGet H' a x o) (h : t = o.isSome)
theorem inD_rep {H : Hp} {p : Pl} {S : Store} (hS : RelS w H p S) {u v : D} {x y : V} {t : Bool} (ru : Rep w H p u x) (rv : Rep w H p v y) (e : inD S u v = some t) : InC w b p S H x y t := by
  unfold inD at e
  split at e
  · cases e
    rename_i c z
    exact .sign c ⟨z.toArray⟩ ru rv (by simp)
  · split at e
    · rename_i ds hds
      obtain ⟨a, vs, rfl, h1, r1⟩ := seqOf_rep hS rv hds
      cases e1 : u.py with
      | none => simp only [e1] at e; cases e
      | some q =>
        cases e2 : D.pys ds with
        | none => simp only [e1, e2] at e; cases e
        | some qs =>
          simp only [e1, e2] at e
          have d1 := Rep.dp u x q ru e1
          have d2 := Reps.dp ds vs qs r1 e2
          by_cases hc : (flatP q && qs.all flatP) = true
          · rw [hc, Bool.true_or, if_pos rfl] at e
            have et := Option.some.inj e
            rw [Bool.and_eq_true] at hc
            obtain ⟨i1, i2⟩ := any_flat d1 hc.1 d2 hc.2
            refine .flat a vs rfl ?_ (dp_flat d1 hc.1) i1 (by rw [i2, et])
            by_cases ht : isTup v = true
            · rw [if_pos ht] at h1; exact .inr h1
            · rw [if_neg ht] at h1; exact .inl h1
          · rw [Bool.not_eq_true] at hc
            rw [hc, Bool.false_or] at e
            by_cases hd : (!isTup v && SeqAt.shaped q && SeqAt.shaped (.list qs)) = true
            · rw [if_pos hd] at e
              have et := Option.some.inj e
              simp only [Bool.and_eq_true, Bool.not_eq_true'] at hd
              rw [hd.1.1, if_neg Bool.false_ne_true] at h1
              exact .deep q qs d1 (.lst h1 d2) hd.1.2 hd.2 et.symm
            · rw [if_neg hd] at e; cases e
    · split at e
      · rename_i ks vs hd
        split at e
        · rename_i hf
          have et := Option.some.inj e
          obtain ⟨a, H', o, rfl, al, P, g, m⟩ := dget_rep (b := b) hS rv hd ru hf
          refine .dict a H' o rfl al P g ?_
          rw [← et]
          revert m
          cases dGet ks vs u with
          | none => rintro rfl; rfl
          | some d => rintro ⟨v, rfl, _⟩; rfl
        · cases e
      · cases e
theorem opc_in (hK : X.K = w.K) : OpC X w b (rInA X) (fun S u v => (cmpD S .isin u v).map .bl) := by
  intro H p S u v x y d Q hS ru rv e q
  obtain ⟨t, e1, rfl⟩ := Option.map_eq_some_iff.mp (show (inD S u v).map D.bl = some d from e)
  have fin := q (.bl t) H (.refl hS) rfl
  unfold rInA
  rw [hK]
  cases inD_rep (b := b) hS ru rv e1 with
  | sign c z h1 h2 h => exact .inl ⟨c, z, h1, h2, by rw [← h]; exact fin⟩
  | flat a xs e h f g h' => exact .inr (.inl ⟨a, xs, e, h, f, g, by rw [if_neg Bool.false_ne_true, ← h']; exact fin⟩)
  | deep d ds h1 h2 s1 s2 h => exact .inr (.inr (.inl ⟨d, ds, h1, h2, s1, s2, by rw [← h]; exact fin⟩))
  | dict a H' o e al P g h => exact .inr (.inr (.inr ⟨a, H', al, a, o, e, g, by rw [← h]; exact q (.bl t) H' P rfl⟩))
theorem opc_notin (hK : X.K = w.K) : OpC X w b (rNotInA X) (fun S u v => (cmpD S .notin u v).map .bl) := by
  intro H p S u v x y d Q hS ru rv e q
  obtain ⟨t0, e0, rfl⟩ := Option.map_eq_some_iff.mp (show ((inD S u v).map not).map D.bl = some d from e)
  obtain ⟨t, e1, rfl⟩ := Option.map_eq_some_iff.mp e0
  have fin := q (.bl (!t)) H (.refl hS) rfl
  unfold rNotInA
  rw [hK]
  cases inD_rep (b := b) hS ru rv e1 with
  | sign c z h1 h2 h => exact .inl ⟨c, z, h1, h2, by rw [← h]; exact fin⟩
  | flat a xs e h f g h' => exact .inr (.inl ⟨a, xs, e, h, f, g, by rw [if_pos rfl, ← h']; exact fin⟩)
  | deep d ds h1 h2 s1 s2 h => exact .inr (.inr (.inl ⟨d, ds, h1, h2, s1, s2, by rw [← h]; exact fin⟩))
  | dict a H' o e al P g h => exact .inr (.inr (.inr ⟨a, H', al, a, o, e, g, by rw [← h]; exact q (.bl (!t)) H' P rfl⟩))
/-! ### order, is -/
theorem opc_cmpI {op : Cp} {g : Int → Int → Bool} (h1 : ∀ S u v, cmpD S op u v = match u, v with
    | .int i, .int j => some (g i j)
    | _, _ => none) : OpC X w b (rI0 fun i j => .bl (g i j)) (fun S u v => (cmpD S op u v).map .bl) := by
  intro H p S u v x y d Q hS ru rv e q
  obtain ⟨t, e1, rfl⟩ := Option.map_eq_some_iff.mp (show (cmpD S op u v).map D.bl = some d from e)
  rw [h1] at e1
  cases u <;> first | (cases e1; done) | skip
  cases v <;> first | (cases e1; done) | skip
  cases e1
  exact ⟨_, _, ru, rv, q _ H (.refl hS) rfl⟩
theorem opc_lt : OpC X w b (rI0 fun i j => .bl (decide (i < j))) (fun S u v => (cmpD S .lt u v).map .bl) := opc_cmpI fun S u v => by cases u <;> cases v <;> rfl
theorem opc_le : OpC X w b (rI0 fun i j => .bl (decide (i ≤ j))) (fun S u v => (cmpD S .le u v).map .bl) := opc_cmpI fun S u v => by cases u <;> cases v <;> rfl
theorem opc_gt : OpC X w b (rI0 fun i j => .bl (decide (j < i))) (fun S u v => (cmpD S .gt u v).map .bl) := opc_cmpI fun S u v => by cases u <;> cases v <;> rfl
theorem opc_ge : OpC X w b (rI0 fun i j => .bl (decide (j ≤ i))) (fun S u v => (cmpD S .ge u v).map .bl) := opc_cmpI fun S u v => by cases u <;> cases v <;> rfl
theorem isNon_rep {H : Hp} {p : Pl} {u : D} {x : V} (r : Rep w H p u x) : isNon u = decide (x = .non) := by
  cases u with
  | non => rw [show x = .non from r]; rfl
  | bl _ => rw [show x = .bl _ from r]; rfl
  | int _ => rw [show x = .int _ from r]; rfl
  | str _ => rw [show x = .str _ from r]; rfl
  | tup _ => obtain ⟨a, _, rfl, _⟩ := r; rfl
  | lst _ => obtain ⟨a, _, rfl, _⟩ := r; rfl
  | scr _ => obtain ⟨a, _, rfl, _⟩ := r; rfl
  | kt _ => obtain ⟨a, _, rfl, _⟩ := r; rfl
  | dct _ _ => obtain ⟨a, _, rfl, _⟩ := r; rfl
  | ins _ _ _ => obtain ⟨a, _, _, rfl, _⟩ := r; rfl
  | ref _ => obtain ⟨a, rfl, _⟩ := r; rfl
  | fn _ => rw [show x = .ref _ from r]; rfl
theorem opc_is : OpC X w b (fun x y H Q => y = .non ∧ Q (.bl (decide (x = .non))) H) (fun S u v => (cmpD S .is u v).map .bl) := by
  intro H p S u v x y d Q hS ru rv e q
  obtain ⟨t, e1, rfl⟩ := Option.map_eq_some_iff.mp (show (if isNon v then some (isNon u) else none).map D.bl = some d from e)
  cases hv : isNon v with
  | false => rw [hv] at e1; cases e1
  | true =>
    rw [hv, if_pos rfl] at e1
    have et := Option.some.inj e1
    rw [isNon_rep rv] at hv
    rw [isNon_rep ru] at et
    exact ⟨of_decide_eq_true hv, by rw [et]; exact q _ H (.refl hS) rfl⟩
theorem opc_isnot : OpC X w b (fun x y H Q => y = .non ∧ Q (.bl (!decide (x = .non))) H) (fun S u v => (cmpD S .isnot u v).map .bl) := by
  intro H p S u v x y d Q hS ru rv e q
  obtain ⟨t, e1, rfl⟩ := Option.map_eq_some_iff.mp (show (if isNon v then some (!isNon u) else none).map D.bl = some d from e)
  cases hv : isNon v with
  | false => rw [hv] at e1; cases e1
  | true =>
    rw [hv, if_pos rfl] at e1
    have et := Option.some.inj e1
    rw [isNon_rep rv] at hv
    rw [isNon_rep ru] at et
    exact ⟨of_decide_eq_true hv, by rw [et]; exact q _ H (.refl hS) rfl⟩
/-- each comparison has its rule -/
theorem cmp_rule (hu : X.A.units + 65 < cLine) (hK : X.K = w.K) (op : Cp) (co : CmpOp)
    (h : (op, co) ∈ [(Cp.eq, CmpOp.Eq), (Cp.ne, CmpOp.NotEq), (Cp.lt, CmpOp.Lt), (Cp.le, CmpOp.LtE), (Cp.gt, CmpOp.Gt), (Cp.ge, CmpOp.GtE), (Cp.is, CmpOp.Is), (Cp.isnot, CmpOp.IsNot), (Cp.isin, CmpOp.In), (Cp.notin, CmpOp.NotIn)]) :
    ∃ r : R2, OpR X (compareOp co) r ∧ OpC X w b r (fun S u v => (cmpD S op u v).map .bl) := by
  simp only [List.mem_cons, Prod.mk.injEq, List.not_mem_nil, or_false] at h
  rcases h with ⟨rfl, rfl⟩ | ⟨rfl, rfl⟩ | ⟨rfl, rfl⟩ | ⟨rfl, rfl⟩ | ⟨rfl, rfl⟩ | ⟨rfl, rfl⟩ | ⟨rfl, rfl⟩ | ⟨rfl, rfl⟩ | ⟨rfl, rfl⟩ | ⟨rfl, rfl⟩
  · exact ⟨_, op_eq.or (op_eqD (by omega)), opc_eq (by omega) hK⟩
  · exact ⟨_, op_ne.or (op_neD (by omega)), opc_ne (by omega) hK⟩
  · exact ⟨_, op_lt, opc_lt⟩
  · exact ⟨_, op_le, opc_le⟩
  · exact ⟨_, op_gt, opc_gt⟩
  · exact ⟨_, op_ge, opc_ge⟩
  · exact ⟨_, op_isN, opc_is⟩
  · exact ⟨_, op_notN, opc_isnot⟩
  · exact ⟨_, op_inA hu, opc_in hK⟩
  · exact ⟨_, op_notInA hu, opc_notin hK⟩
end
end CI
end
section
set_option Elab.async false
set_option linter.all false
set_option maxRecDepth 100000
/-! ## CI: names, displays, places, slices, fields, logic -/
namespace CI
open PySem PySem.Spec PyProof.Rows L2

section
variable {X : Cx} {w : Wh} {b : Nat} {W : WX} {e e1 e2 e3 : Expr} {es : List Expr} {fa fb fc : Rho → M D} {fs : Rho → M (List D)} {pos : Pos}
/-! ### constants, names -/
theorem c_val {v : V} {d : D} (h : PE X e (tC v)) (r : ∀ H p, Rep w H p d v) : PE X e (tD w b W fun _ => M.pure d) := PE.imp h fun σ H Q ⟨ρ, p, S, N, h⟩ => res_pure N.s h (r H p)
theorem c_var {i : Nat} {x : Str} (h : PE X (.Name x pos) (tVar i)) : PE X (.Name x pos) (tD w b W fun ρ => M.lift (ρ[i]?.getD none)) := PE.imp h fun σ H Q ⟨ρ, p, S, N, h⟩ => by
  obtain ⟨d, e, q⟩ := res_lift' h
  have e' : ρ[i]? = some (some d) := by
    cases z : ρ[i]? with
    | none => rw [z] at e; cases e
    | some o => rw [z] at e; simp at e; rw [e]
  obtain ⟨v, e1, r⟩ := N.e.2 i d e'
  exact ⟨v, e1, q v H p (.refl N.s) r⟩
/-! ### argument lists, displays -/
theorem c_nil : PA X [] (tDs w b W fun _ => M.pure []) := PA.imp pa_nil fun σ H Q ⟨ρ, p, S, N, h⟩ => res_pure N.s h (show Reps w H p [] [] from rfl)
theorem c_cons (ha : PE X e (tD w b W fa)) (hr : PA X es (tDs w b W fs)) (hs : starEach (e :: es) X.env = (false, eval e X.env) :: starEach es X.env) :
    PA X (e :: es) (tDs w b W fun ρ => (fa ρ).bind fun u => (fs ρ).bind fun us => M.pure (u :: us)) := by
  refine PA.imp (pa_cons ha hr hs) fun σ H Q ⟨ρ, p, S, N, h⟩ => ?_
  refine (step N h).mono fun x H1 ⟨p1, S1, u, N1, r1, P1, h1⟩ => ?_
  refine (step N1 h1).mono fun xs H2 ⟨p2, S2, us, N2, r2, P2, h2⟩ => ?_
  exact res_pure N2.s h2 (Reps.cons (Rep.ext P2.ext _ _ r1) r2)
theorem c_tup {k : Nat} (h : PA X es (tDs w b W fs)) : PE X (.Tuple es k pos) (tD w b W fun ρ => (fs ρ).bind fun ds => if ds.length ≤ SZ then M.pure (.tup ds) else M.bad) := by
  refine PE.imp (pe_tup h) fun σ H Q ⟨ρ, p, S, N, h⟩ => ?_
  refine (step N h).mono fun xs H1 ⟨p1, S1, us, N1, r1, P1, h1⟩ => ?_
  by_cases hz : us.length ≤ SZ
  · rw [if_pos hz] at h1
    refine ⟨by rw [← r1.length, sz_line]; exact hz, fun t ht => ?_⟩
    obtain ⟨P, r⟩ := Rep.newTup (b := b) N1.s r1 ht
    exact h1 _ _ _ P r
  · rw [if_neg hz] at h1; exact h1.elim
theorem newCell {H : Hp} {p : Pl} {S : Store} {a : Addr} {o : HO} {c : Cell} (h : RelS w H p S) (hb : b ≤ S.length) (n : H a = none) (hc : CRep w (upd H a o) ⟨p.m ++ [a], p.x⟩ a c) :
    Post w b H p S (upd H a o) ⟨p.m ++ [a], p.x⟩ (S ++ [c]) ∧ Rep w (upd H a o) ⟨p.m ++ [a], p.x⟩ (.ref S.length) (.ref a) :=
  ⟨post_new h hb n hc, a, rfl, by show (p.m ++ [a])[S.length]? = some a; rw [← h.len]; simp⟩
theorem ext_new {H : Hp} {p : Pl} {a : Addr} {o : HO} (n : H a = none) : Ext H p (upd H a o) ⟨p.m ++ [a], p.x⟩ := by
  refine ⟨List.prefix_append _ _, rfl, fun b u e _ => same_new n b u e, fun b hb => ?_⟩
  rcases List.mem_append.mp hb with z | z
  · exact .inl z
  · right; rw [List.mem_singleton.mp z]; exact n
/-- a new list: told or in the store -/
theorem newLst {σ : L2.St} {H : Hp} {p : Pl} {S : Store} {a : Addr} {k : Bool} {ds : List D} {vs : List V} {Q : VK} (h : RelS w H p S) (hb : b ≤ S.length) (n : H a = none) (r : Reps w H p ds vs)
    (q : Res w b W σ (RD w) H p S (newD k (.lst ds) S) Q) : Q (.ref a) (upd H a (.lst vs)) := by
  cases k with
  | false =>
    obtain ⟨P, r'⟩ := Rep.newLst (b := b) h r n
    exact q _ _ _ P r'
  | true =>
    obtain ⟨P, r'⟩ := newCell (c := .lst ds) h hb n ⟨vs, upd_same, Reps.ext (ext_new n) _ _ r⟩
    exact q _ _ _ P r'
theorem c_lst {k : Bool} (h : PA X es (tDs w b W fs)) : PE X (.List es pos) (tD w b W fun ρ => (fs ρ).bind fun ds => if ds.length ≤ SZ then newD k (.lst ds) else M.bad) := by
  refine PE.imp (pe_lst h) fun σ H Q ⟨ρ, p, S, N, h⟩ => ?_
  refine (step N h).mono fun xs H1 ⟨p1, S1, us, N1, r1, P1, h1⟩ => ?_
  by_cases hz : us.length ≤ SZ
  · rw [if_pos hz] at h1
    exact ⟨by rw [← r1.length, sz_line]; exact hz, fun t ht => newLst N1.s N1.hb ht r1 h1⟩
  · rw [if_neg hz] at h1; exact h1.elim
/-! ### places -/
theorem ixN_eq (n : Nat) (i : Int) : ixN n i = ixOf n i := rfl
theorem atI_rep {H : Hp} {p : Pl} {ds : List D} {vs : List V} {i : Int} {j : Nat} {d : D} (r : Reps w H p ds vs) (h : ixOf ds.length i = some j) (e : ds[j]? = some d) : ∃ v, atI vs i = some v ∧ Rep w H p d v := by
  obtain ⟨v, e1, r1⟩ := r.get e
  refine ⟨v, ?_, r1⟩
  unfold atI
  rw [ixN_eq, ← r.length, h]
  exact e1
abbrev rDGet : R2 := fun x y H Q => ∃ a v, x = .ref a ∧ DGet H a y (some v) ∧ Q v H
theorem ix_dict (hu : X.A.units + 1 < cLine) : IxR X rDGet := by
  intro value slice pins s σ H x y v u Q I rx ry ⟨a, z, ex, g, q⟩ hs
  subst ex
  obtain rfl : v = Value.ref a := rx
  unfold subscriptTail
  refine wpAny_bind ?_
  rw [getitemInPython_of_ne (dict_typeIs I g).not_modules]
  refine wpAny_bind (wpAny_specialOf (dict_typeIs I g) PySem.F.slot_dict_getitem.lookup ?_)
  have fin : wpAny (model X.prog X.w) X.A (subscripted slice false (.ref a) u) (fun r s₃ => wpAny (model X.prog X.w) X.A (letTemporaryGo value (.ref a) r >>= fun _ => pure r) (EP X pins σ Q) X.xe s₃) X.xe s := by
    rw [hs]
    exact wpAny_operating (d_getItem hu I g ry fun w' s3 I3 rw' => wpAny_bind (wpAny_letTemporaryGo (wpAny_pure ⟨z, H, I3, rw', q⟩)))
  first
    | exact wpAny_pure (wpAny_bind fin)
    | exact wpAny_bind (wpAny_pure (wpAny_bind fin))
    | exact wpAny_bind fin
abbrev rIxA (X : Cx) : R2 := fun x y H Q => rIx X.K x y H Q ∨ ∃ a H', Alt H a H' ∧ rDGet x y H' Q
theorem ix_all (hu : X.A.units + 1 < cLine) : IxR X (rIxA X) := ix_seq.or (ixR_alt (ix_dict hu))
theorem opc_idx (hK : X.K = w.K) : OpC X w b (rIxA X) (fun S u v => idxD S u v) := by
  intro H p S u v x y d Q hS ru rv e q
  replace e : idxD S u v = some d := e
  unfold idxD at e
  unfold rIxA rIx
  rw [hK]
  split at e
  · rename_i s i
    split at e
    · rename_i hz
      cases e1 : ixOf s.length i with
      | none => rw [e1] at e; cases e
      | some j =>
        rw [e1] at e
        cases e2 : s[j]? with
        | none => simp only [e2] at e; cases e
        | some c =>
          simp only [e2] at e
          cases e
          refine .inl (.inr (.inr ⟨⟨s.toArray⟩, i, c, ru, rv, by rw [str_len, sz_line]; exact hz, ?_, q _ H (.refl hS) rfl⟩))
          unfold atI
          show (ixN s.length i).bind (fun j => s[j]?) = some c
          rw [ixN_eq, e1]
          exact e2
    · cases e
  · split at e
    · rename_i ks vs hd
      split at e
      · rename_i hf
        obtain ⟨a, H', o, rfl, al, P, g, m⟩ := dget_rep (b := b) hS ru hd rv hf
        rw [e] at m
        obtain ⟨z, rfl, r⟩ := m
        exact .inr ⟨a, H', al, a, z, rfl, g, q z H' P r⟩
      · cases e
    · cases v with
      | int i =>
        cases e1 : seqOf S u with
        | none => rw [e1] at e; cases e
        | some ds =>
          rw [e1] at e
          simp only at e
          cases e2 : ixOf ds.length i with
          | none => rw [e2] at e; cases e
          | some j =>
            rw [e2] at e
            obtain ⟨a, vs, rfl, h1, r1⟩ := seqOf_rep hS ru e1
            obtain ⟨z, h2, r2⟩ := atI_rep r1 e2 e
            have fin := q z H (.refl hS) r2
            by_cases ht : isTup u = true
            · rw [if_pos ht] at h1
              exact .inl (.inr (.inl ⟨a, vs, i, z, rfl, rv, h1, h2, fin⟩))
            · rw [if_neg ht] at h1
              exact .inl (.inl ⟨a, vs, i, z, rfl, rv, h1, h2, fin⟩)
      | _ => cases e
/-! ### slices -/
abbrev RO : Hp → Pl → Option Int → Option Int → Prop := fun _ _ a c => a = c
abbrev tO (w : Wh) (b : Nat) (W : WX) (f : Rho → M (Option Int)) : TO := tX w b W RO f
theorem PO.imp {o : Option Expr} {t t' : TO} (h : PO X o t) (k : ∀ σ H Q, t' σ H Q → t σ H Q) : PO X o t' := ⟨fun pins s σ H Q I q => h.run pins s σ H Q I (k σ H Q q)⟩
theorem c_noPart : PO X none (tO w b W fun _ => M.pure none) := PO.imp po_none fun σ H Q ⟨ρ, p, S, N, h⟩ => res_pure N.s h rfl
theorem c_part (h : PE X e (tD w b W fa)) : PO X (some e) (tO w b W fun ρ => (fa ρ).bind fun u => (match u with
    | .int i => M.pure (some i)
    | _ => M.bad)) := by
  refine PO.imp (po_some h) fun σ H Q ⟨ρ, p, S, N, h⟩ => ?_
  refine (step N h).mono fun x H1 ⟨p1, S1, u, N1, r1, P1, h1⟩ => ?_
  cases u <;> first | exact h1.elim | skip
  exact ⟨_, r1, res_pure N1.s h1 rfl⟩
abbrev rSl (X : Cx) : V → Option Int → Option Int → Hp → VK → Prop := fun x lo hi H Q => rSlA X.K x lo hi H Q ∨ (rSlL X.K x lo hi H Q ∨ rSlS x lo hi H Q)
theorem sl_all : SlR X (rSl X) := sl_tupA.or (sl_list.or sl_str)
theorem cutV_rep {H : Hp} {p : Pl} {ds : List D} {vs : List V} (r : Reps w H p ds vs) (lo hi : Option Int) : Reps w H p (cutOf ds lo hi) (cutV vs lo hi) := by
  unfold cutOf cutV
  rw [r.length]
  exact (r.drop _).take _
theorem cut_whole {α : Type} {xs : List α} {lo hi : Option Int} (h : HT.sIx xs.length 0 lo = 0 ∧ HT.sIx xs.length xs.length hi = xs.length) : cutOf xs lo hi = xs := by
  unfold cutOf
  rw [h.1, h.2]
  simp
theorem c_slc {lo hi : Option Expr} {p2 : Pos} {fl fh : Rho → M (Option Int)} (hK : X.K = w.K) (h : PE X e (tD w b W fa)) (hl : PO X lo (tO w b W fl)) (hh : PO X hi (tO w b W fh)) :
    PE X (.Subscript e (.Slice lo hi none p2) pos) (tD w b W fun ρ => (fa ρ).bind fun u => (fl ρ).bind fun l => (fh ρ).bind fun k => M.get fun S => slcD S u l k) := by
  refine PE.imp (pe_slice sl_all h hl hh) fun σ H Q ⟨ρ, p, S, N, h⟩ => ?_
  refine (step N h).mono fun x H1 ⟨p1, S1, u, N1, r1, P1, h1⟩ => ?_
  refine (step N1 h1).mono fun l H2 ⟨p2, S2, l', N2, r2, P2, h2⟩ => ?_
  refine (step N2 h2).mono fun k H3 ⟨p3, S3, k', N3, r3, P3, h3⟩ => ?_
  subst r2
  subst r3
  obtain ⟨d, e, q⟩ := res_get' h3
  have ru := Rep.ext P3.ext _ _ (Rep.ext P2.ext _ _ r1)
  unfold rSl
  rw [hK]
  have lst : ∀ ds, isTup u = false → seqOf S3 u = some ds → d = .lst (cutOf ds l' k') → rSlL w.K x l' k' H3 Q := by
    rintro ds ht hs rfl
    obtain ⟨a, vs, rfl, k1, k2⟩ := seqOf_rep N3.s ru hs
    rw [ht, if_neg Bool.false_ne_true] at k1
    refine ⟨a, vs, rfl, k1, fun t nt => ?_⟩
    obtain ⟨P, r⟩ := Rep.newLst (b := b) N3.s (cutV_rep k2 l' k') nt
    exact q _ _ _ P r
  have gen : isTup u = false → (match seqOf S3 u with
    | some ds => some (D.lst (cutOf ds l' k'))
    | none => none) = some d → rSlL w.K x l' k' H3 Q := fun ht e => by
    cases hs : seqOf S3 u with
    | none => rw [hs] at e; cases e
    | some ds => rw [hs] at e; cases e; exact lst ds ht hs rfl
  cases u with
  | str s =>
    have e' : (if s.length ≤ SZ then some (D.str (cutOf s l' k')) else none) = some d := e
    by_cases hz : s.length ≤ SZ
    · rw [if_pos hz] at e'
      cases e'
      refine .inr (.inr ⟨⟨s.toArray⟩, ru, by rw [str_len, sz_line]; exact hz, ?_⟩)
      refine q _ _ _ (.refl N3.s) ?_
      show V.str (cutS ⟨s.toArray⟩ l' k') = V.str _
      unfold cutS cutOf
      rw [str_len]
    · rw [if_neg hz] at e'; cases e'
  | tup ds =>
    cases e
    obtain ⟨a, vs, rfl, k1, k2⟩ := id ru.sqT
    refine .inl ⟨a, vs, rfl, k1, fun hw => ?_, fun _ t nt => ?_⟩
    · rw [← k2.length] at hw
      rw [cut_whole hw] at q
      exact q _ _ _ (.refl N3.s) ru
    · obtain ⟨P, r⟩ := Rep.newTup (b := b) N3.s (cutV_rep k2 l' k') nt
      exact q _ _ _ P r
  | kt _ => cases e
  | _ => exact .inr (.inl (gen rfl e))
/-! ### fields -/
theorem fldL_rep {H : Hp} {p : Pl} : ∀ {fs : List (Str × V)} {ds : List D} {f : Str} {d : D}, Reps w H p ds (fs.map (·.2)) → fldL (fs.map (·.1)) ds f = some d → ∃ v, fs.lookup f = some v ∧ Rep w H p d v
  | [], ds, f, d, r, e => by
    cases ds <;> cases e
  | (n, v) :: fs, [], f, d, r, e => by cases e
  | (n, v) :: fs, d0 :: ds, f, d, r, e => by
    obtain ⟨v0, us, h1, h2, h3⟩ := r
    rw [List.map_cons] at h1
    injection h1 with e1 e2
    have e1' : v = v0 := e1
    subst e1'
    subst e2
    rw [List.map_cons] at e
    unfold fldL at e
    by_cases hn : n = f
    · rw [if_pos hn] at e; cases e
      subst hn
      exact ⟨v, by simp [List.lookup], h2⟩
    · rw [if_neg hn] at e
      obtain ⟨u, q1, q2⟩ := fldL_rep h3 e
      have : (f == n) = false := by simpa using fun z : f = n => hn z.symm
      exact ⟨u, by simp [List.lookup, this, q1], q2⟩
theorem insOf_rep {H : Hp} {p : Pl} {S : Store} (h : RelS w H p S) {d : D} {v : V} {c : Str} {ns : List Str} {ds : List D} (r : Rep w H p d v) (e : insOf S d = some (c, ns, ds)) :
    ∃ a dx fs, v = .ref a ∧ H a = some (.ins (w.fa c) dx fs) ∧ fs.map (·.1) = ns ∧ Reps w H p ds (fs.map (·.2)) := by
  cases d <;> first | (cases e; done) | skip
  case ins c2 n2 d2 =>
    cases e
    obtain ⟨a, dx, fs, e1, e2, _, e3, e4⟩ := r
    exact ⟨a, dx, fs, e1, e2, e3, e4⟩
  case ref n =>
    obtain ⟨a, e1, e2⟩ := r
    obtain ⟨c, e3, e4⟩ := h.cell e2
    cases c with
    | ins c2 n2 d2 =>
      simp only [insOf, e3] at e
      cases e
      obtain ⟨dx, fs, q1, q2, q3⟩ := e4
      exact ⟨a, dx, fs, e1, q1, q2, q3⟩
    | lst ds => simp only [insOf, e3] at e; cases e
    | dct ns vs => simp only [insOf, e3] at e; cases e
theorem c_fld {f : Str} {ok : Str → Str → Bool} (hK : X.K = w.K) (h : PE X e (tD w b W fa)) (hc : ∀ c, ok c f = true → Cls X.K (w.fa c) ∧ NoAttr X.K (w.fa c) f) (hb : attributeBase e f X.env (eval e X.env) = eval e X.env) :
    PE X (.Attribute e f pos) (tD w b W fun ρ => (fa ρ).bind fun u => M.get fun S => fldD ok S u f) := by
  refine PE.imp (pe_fld h hb) fun σ H Q ⟨ρ, p, S, N, h⟩ => ?_
  refine (step N h).mono fun x H1 ⟨p1, S1, u, N1, r1, P1, h1⟩ => ?_
  obtain ⟨d, e, q⟩ := res_get' h1
  unfold fldD at e
  cases e1 : insOf S1 u with
  | none => rw [e1] at e; cases e
  | some c =>
    rw [e1] at e
    obtain ⟨c, ns, ds⟩ := c
    by_cases hm : ok c f = true
    · simp only [hm, if_true] at e
      obtain ⟨a, dx, fs, rfl, k1, rfl, k2⟩ := insOf_rep N1.s r1 e1
      obtain ⟨v, q1, q2⟩ := fldL_rep k2 e
      obtain ⟨c1, c2⟩ := hc c hm
      exact ⟨a, _, dx, fs, v, rfl, k1, c1, c2, q1, q _ _ _ (.refl N1.s) q2⟩
    · simp only [hm, if_false] at e; cases e
/-! ### logic -/
theorem c_and {rest : List Expr} (ha : PE X e1 (tD w b W fa)) (hb : PE X (.BoolOp .And (e2 :: rest) pos) (tD w b W fb)) :
    PE X (.BoolOp .And (e1 :: e2 :: rest) pos) (tD w b W fun ρ => (fa ρ).bind fun u => (M.lift (asB u)).bind fun t => if t = true then fb ρ else M.pure (.bl false)) := by
  refine PE.imp (pe_and ha hb) fun σ H Q ⟨ρ, p, S, N, h⟩ => ?_
  refine (step N h).mono fun x H1 ⟨p1, S1, u, N1, r1, P1, h1⟩ => ?_
  obtain ⟨t, e, h2⟩ := res_lift h1
  cases u <;> first | (cases e; done) | skip
  cases e
  refine ⟨t, r1, ?_⟩
  cases t with
  | true => exact ⟨ρ, p1, S1, N1, h2⟩
  | false => exact res_pure N1.s h2 (show V.bl false = V.bl false from rfl)
theorem c_or {rest : List Expr} (ha : PE X e1 (tD w b W fa)) (hb : PE X (.BoolOp .Or (e2 :: rest) pos) (tD w b W fb)) :
    PE X (.BoolOp .Or (e1 :: e2 :: rest) pos) (tD w b W fun ρ => (fa ρ).bind fun u => (M.lift (asB u)).bind fun t => if t = true then M.pure (.bl true) else fb ρ) := by
  refine PE.imp (pe_or ha hb) fun σ H Q ⟨ρ, p, S, N, h⟩ => ?_
  refine (step N h).mono fun x H1 ⟨p1, S1, u, N1, r1, P1, h1⟩ => ?_
  obtain ⟨t, e, h2⟩ := res_lift h1
  cases u <;> first | (cases e; done) | skip
  cases e
  refine ⟨t, r1, ?_⟩
  cases t with
  | true => exact res_pure N1.s h2 (show V.bl true = V.bl true from rfl)
  | false => exact ⟨ρ, p1, S1, N1, h2⟩
theorem c_not (ha : PE X e (tD w b W fa)) : PE X (.UnaryOp .Not e pos) (tD w b W fun ρ => (fa ρ).bind fun u => (M.lift (asB u)).bind fun t => M.pure (.bl (!t))) := by
  refine PE.imp (pe_not ha) fun σ H Q ⟨ρ, p, S, N, h⟩ => ?_
  refine (step N h).mono fun x H1 ⟨p1, S1, u, N1, r1, P1, h1⟩ => ?_
  obtain ⟨t, e, h2⟩ := res_lift h1
  cases u <;> first | (cases e; done) | skip
  cases e
  exact ⟨t, r1, res_pure N1.s h2 (show V.bl (!t) = V.bl (!t) from rfl)⟩
theorem c_neg (ha : PE X e (tD w b W fa)) : PE X (.UnaryOp .USub e pos) (tD w b W fun ρ => (fa ρ).bind fun u => (match u with
    | .int i => M.pure (.int (-i))
    | _ => M.bad)) := by
  refine PE.imp (pe_un un_neg ha) fun σ H Q ⟨ρ, p, S, N, h⟩ => ?_
  refine (step N h).mono fun x H1 ⟨p1, S1, u, N1, r1, P1, h1⟩ => ?_
  cases u <;> first | exact h1.elim | skip
  exact ⟨_, r1, res_pure N1.s h1 (show V.int _ = V.int _ from rfl)⟩
/-! tests -/
variable {ta tb : Rho → M Bool}
theorem ct_and {rest : List Expr} (ha : PT X e1 (tT w b W ta)) (hb : PW X (.BoolOp .And (e2 :: rest) pos) (tT w b W tb)) :
    PW X (.BoolOp .And (e1 :: e2 :: rest) pos) (tT w b W fun ρ => (ta ρ).bind fun t => if t = true then tb ρ else M.pure false) := by
  refine PW.imp (pw_and ha hb) fun σ H Q ⟨ρ, p, S, N, h⟩ => ?_
  refine (step N h).mono fun x H1 ⟨p1, S1, t, N1, r1, P1, h1⟩ => ?_
  subst r1
  cases t with
  | true => exact ⟨ρ, p1, S1, N1, h1⟩
  | false => exact res_pure N1.s h1 rfl
theorem ct_or {rest : List Expr} (ha : PT X e1 (tT w b W ta)) (hb : PW X (.BoolOp .Or (e2 :: rest) pos) (tT w b W tb)) :
    PW X (.BoolOp .Or (e1 :: e2 :: rest) pos) (tT w b W fun ρ => (ta ρ).bind fun t => if t = true then M.pure true else tb ρ) := by
  refine PW.imp (pw_or ha hb) fun σ H Q ⟨ρ, p, S, N, h⟩ => ?_
  refine (step N h).mono fun x H1 ⟨p1, S1, t, N1, r1, P1, h1⟩ => ?_
  subst r1
  cases t with
  | true => exact res_pure N1.s h1 rfl
  | false => exact ⟨ρ, p1, S1, N1, h1⟩
theorem ct_not (ha : PT X e (tT w b W ta)) : PT X (.UnaryOp .Not e pos) (tT w b W fun ρ => (ta ρ).bind fun t => M.pure (!t)) := by
  refine PT.imp (pt_not ha) fun σ H Q ⟨ρ, p, S, N, h⟩ => ?_
  refine (step N h).mono fun x H1 ⟨p1, S1, t, N1, r1, P1, h1⟩ => ?_
  subst r1
  exact res_pure N1.s h1 rfl
theorem c_ite (hc : PT X e1 (tT w b W ta)) (ha : PE X e2 (tD w b W fa)) (hb : PE X e3 (tD w b W fb)) :
    PE X (.IfExp e1 e2 e3 pos) (tD w b W fun ρ => (ta ρ).bind fun t => if t = true then fa ρ else fb ρ) := by
  refine PE.imp (pe_ifExp hc ha hb) fun σ H Q ⟨ρ, p, S, N, h⟩ => ?_
  refine (step N h).mono fun x H1 ⟨p1, S1, t, N1, r1, P1, h1⟩ => ?_
  subst r1
  cases t with
  | true => exact ⟨ρ, p1, S1, N1, h1⟩
  | false => exact ⟨ρ, p1, S1, N1, h1⟩
/-- truth of a value -/
theorem truD_rep {H : Hp} {p : Pl} {S : Store} {u : D} {x : V} {t : Bool} (hS : RelS w H p S) (r : Rep w H p u x) (e : truD S u = some t) : TruV w.K x H t := by
  have seq : ∀ ds, seqOf S u = some ds → t = !ds.isEmpty → TruV w.K x H t := by
    rintro ds h rfl
    obtain ⟨a, vs, rfl, k1, k2⟩ := seqOf_rep hS r h
    have ee : ds.isEmpty = vs.isEmpty := by
      have := k2.length
      cases ds <;> cases vs <;> first | rfl | (simp at this)
    by_cases ht : isTup u = true
    · rw [if_pos ht] at k1; exact .inr (.inl ⟨vs, k1, by rw [ee]⟩)
    · rw [if_neg ht] at k1; exact .inl ⟨vs, k1, by rw [ee]⟩
  unfold truD at e
  split at e
  · cases e; rw [show x = .non from r]; exact rfl
  · cases e; rw [show x = .bl _ from r]; exact rfl
  · cases e; rw [show x = .int _ from r]; exact rfl
  · rename_i s
    split at e
    · rename_i hz
      cases e
      rw [show x = .str _ from r]
      refine ⟨by rw [str_len, sz_line]; exact hz, ?_⟩
      rw [str_len]
      cases s <;> simp
      omega
    · cases e
  · split at e
    · rename_i ds h
      cases e
      exact seq ds h rfl
    · cases e
theorem ct_val (hK : X.K = w.K) (ha : PE X e (tD w b W fa)) (he : ∀ whole, isTrue e X.env whole = (do let v ← whole; standAt e.pos; holding [v] (truthy v))) :
    PT X e (tT w b W fun ρ => (fa ρ).bind fun u => M.get fun S => truD S u) := by
  refine PT.imp (pt_truth ha he) fun σ H Q ⟨ρ, p, S, N, h⟩ => ?_
  refine (step N h).mono fun x H1 ⟨p1, S1, u, N1, r1, P1, h1⟩ => ?_
  obtain ⟨t, e, q⟩ := res_get' h1
  exact ⟨t, by rw [hK]; exact truD_rep N1.s r1 e, q _ _ _ (.refl N1.s) rfl⟩
end
end CI
end
section
set_option Elab.async false
set_option linter.all false
set_option maxRecDepth 100000
/-! ## CI: defs, called where no repr runs -/
namespace CI
open PySem PySem.Spec PyProof.Rows L2

/-- a def keeps its promise where nothing is being shown -/
structure FnG (P : Program) (u : World) (K : PySem.W.Frag) (mg : Str → Option Value) (B : Heap) (k : Nat) (f : Addr) (fd : FuncData) (ps : List Str) (sp : Sp) : Prop where
  len : ∀ vs H Q E, sp vs H Q E → vs.length = ps.length
  go : ∀ (A : Around) (l : List Env) (s : Shared) (H : Hp) (args : Args) (us : List Value) (vs : List V) (Q : VK) (E : XK), Room k A → A.guards = some [] → Env0 P u K mg B A l s H →
    BindsTo s fd args (ps.zip us) → Vals vs us → sp vs H Q E → codeAny (model P u) A (.call (.ref f) args) (CR (L2.CX P u) l P u H s Q E) s
theorem FnG.mono {P : Program} {u : World} {K : PySem.W.Frag} {mg : Str → Option Value} {B : Heap} {j k : Nat} {f : Addr} {fd : FuncData} {ps : List Str} {sp : Sp}
    (F : FnG P u K mg B j f fd ps sp) (h : j ≤ k) : FnG P u K mg B k f fd ps sp :=
  ⟨F.len, fun A l s H args us vs Q E r => F.go A l s H args us vs Q E (r.mono h)⟩
theorem guards_deeper {A : Around} {env : Env} (h : A.guards = some []) : (A.deeper env).guards = some [] := h
theorem guards_make {A : Around} {C : Addr} {us : List Value} {kw : List (Str × Value)} (h : A.guards = some []) : (A.under (.builtin "type.__call__" ⟨.ref C :: us, kw⟩)).guards = some [] := by
  first
    | exact h
    | (simp [Around.under, Code.guards, Code.isGuard, guardIds, h]; done)
    | (unfold Around.under; simp only [Code.guards]; simp [Code.isGuard, guardIds, h])

/-- from the body's reading to the promise -/
theorem fnG_body {P : Program} {u : World} {K : PySem.W.Frag} {mg : Str → Option Value} {B : Heap} {k : Nat} {f : Addr} {nm q : Str} {pr : Arguments} {bd : List Stmt} {sc : Scope} {dV kV doc pm cd ct oc : Value} {an od : Option Addr}
    {sl : Array (Option Value)} {N ps : List Str} {sp : Sp} (at_ : K.lookup f = some ⟨oc, od, .func (PySem.W.fnOf nm q pr bd sc dV kV doc pm an cd ct), sl⟩) (hc : PySem.W.codeIn K cd q = true) (Sc : FnScope N ps sc)
    (len : ∀ vs H Q E, sp vs H Q E → vs.length = ps.length)
    (body : ∀ (A : Around) (l : List Env) (s : Shared) (H : Hp) (vs : List V) (Q : VK) (E : XK), Room k (A.deeper (envOfC q sc s.heap.objs.size f cd)) → A.guards = some [] → sp vs H Q E →
      ∃ t, PSs (cxOf (L2.CX P u) P u K mg B N q sc f cd A l s H E) bd t ∧ t { nx := fun _ H' => Q .non H', rt := Q } (start N vs) H) :
    FnG P u K mg B (k + 1) f (PySem.W.fnOf nm q pr bd sc dV kV doc pm an cd ct) ps sp := by
  constructor
  · exact len
  intro A l s H args us vs Q E room gd e0 bind r told
  have same : vs.length = ps.length := len vs H Q E told
  have inK : K.In s.heap := e0.mod.kin.keeps fun b o h => (e0.bs b o h).1
  have lim : s.heap.NoLimit := e0.mod.nolimit.keeps fun b o h => (e0.bs b o h).1
  refine codeAny_call_function room.depth (inK f _ at_) rfl Sc.co Sc.gen rfl (PySem.W.codeRec_of inK hc) (bind _ _ _ _ ?_)
  apply wpAny_newFunctionEnv_cells Sc.kind
  · rintro ⟨n, v⟩ hm
    rcases Sc.par n (List.of_mem_zip hm).1 with z | z
    · exact Or.inl z
    · exact Or.inr ⟨z, PySem.W.cellsFrom_some _ _ _ (Or.inl z)⟩
  intro env henv s1 made
  subst henv
  refine ⟨lim.keeps made.toInCall.keep, codeAny_func ?_⟩
  obtain ⟨t, reads, at0⟩ := body A l s H vs Q E (room.deeper _) gd told
  have inv : Inv (cxOf (L2.CX P u) P u K mg B N q sc f cd A l s H E) [] (start N vs) H s1 := inv_start Sc room.hd e0 same r made
  refine wpAny_mono (reads.run [] s1 (start N vs) H _ inv at0) (fun fl s' hs => ?_) fun e s' hs => hs
  cases fl with
  | next =>
    obtain ⟨σ1, H1, J, z⟩ := hs
    exact ⟨V.non, H1, J.os, J.bare, J.base, J.hok, rfl, z⟩
  | ret x =>
    obtain ⟨v1, σ1, H1, J, rv, z⟩ := hs
    exact ⟨v1, H1, J.os, J.bare, J.base, J.hok, rv, z⟩
  | brk => obtain ⟨_, _, _, z⟩ := hs; exact z.elim
  | cont => obtain ⟨_, _, _, z⟩ := hs; exact z.elim

section
variable {X : Cx} {k : Nat} {f C : Addr} {fd : FuncData} {ps : List Str} {sp : Sp} {dvs : List V} {ds : List Value} {W : WX} {σ : L2.St} {pins : List (Addr × Obj)} {H : Hp} {s : Shared} {Q : VK} {us : List Value} {vs : List V}
/-- what is behind a call -/
theorem behind_call {r : Result} {s' : Shared} (tk : Takes X W) (I : Inv X pins σ H s) (h : CR (L2.CX X.prog X.w) X.stack X.prog X.w H s Q (fun c d H' => W c d σ H') r s') :
    callEnd (EP X pins σ Q) X.xe r s' := by
  cases r with
  | error e => exact tk e s' (XE.of_call I (fun _ _ _ z => z) h)
  | ok fl => cases fl with
    | ret v => exact I.after h
    | next => exact h.elim
    | brk => exact h.elim
    | cont => exact h.elim
theorem runG (F : FnG X.prog X.w X.K X.mg X.base k f fd ps sp) (hr : Room k X.A) (hg : X.A.guards = some []) (hb : Binds X.K fd ps ds) (hd : Vals dvs ds) (tk : Takes X W)
    (I : Inv X pins σ H s) (r : Vals vs us) (h : sp (vs ++ dvs) H Q fun c d H' => W c d σ H') : wpAny (model X.prog X.w) X.A (call (.ref f) us) (EP X pins σ Q) X.xe s := by
  have rr : Vals (vs ++ dvs) (us ++ ds) := r.append hd
  have hl : (us ++ ds).length = ps.length := rr.length.symm.trans (F.len _ _ _ _ h)
  exact wpAny_call (codeAny_mono (F.go X.A X.stack s H ⟨us, []⟩ (us ++ ds) (vs ++ dvs) Q _ hr hg I.env0 (hb s us I.kIn hl) rr h) fun _ _ z => behind_call tk I z)
theorem makeG (Mc : Mk X.K C f) (F : FnG X.prog X.w X.K X.mg X.base k f fd ps sp) (hr : Room (k + 1) X.A) (hg : X.A.guards = some []) (hb : Binds X.K fd ps ds) (hd : Vals dvs ds) (tk : Takes X W)
    (I : Inv X pins σ H s) (r : Vals vs us)
    (h : ∀ x dx, H x = none → H dx = none → dx ≠ x → sp (.ref x :: (vs ++ dvs)) (upd (upd H dx (.own x)) x (.ins C dx [])) (fun v H2 => v = .non ∧ Q (.ref x) H2) fun c d H' => W c d σ H') :
    wpAny (model X.prog X.w) X.A (call (.ref C) us) (EP X pins σ Q) X.xe s := by
  have n1 := I.hok.fresh (Nat.le_succ s.heap.objs.size)
  have n2 := I.hok.fresh (Nat.le_refl s.heap.objs.size)
  have told := h (s.heap.objs.size + 1) s.heap.objs.size n1 n2 (Nat.ne_of_lt (Nat.lt_succ_self _))
  have J := Inv.made (C := C) I
  have rr : Vals (V.ref (s.heap.objs.size + 1) :: (vs ++ dvs)) (Value.ref (s.heap.objs.size + 1) :: (us ++ ds)) := .cons rfl (r.append hd)
  have hl : (Value.ref (s.heap.objs.size + 1) :: us ++ ds).length = ps.length := by
    have z := rr.length
    rw [F.len _ _ _ _ told] at z
    exact z.symm
  refine wpAny_call (make_map (f := f) I.kIn Mc.makes Mc.init (beq_iff_eq.mp Mc.fn) ?_)
  refine codeAny_mono (F.go _ X.stack _ _ ⟨Value.ref (s.heap.objs.size + 1) :: us, []⟩ (Value.ref (s.heap.objs.size + 1) :: (us ++ ds)) _ _ _ (hr.make C us []) (guards_make hg) (J.env0.make C us [])
    (hb _ (Value.ref (s.heap.objs.size + 1) :: us) J.kIn hl) rr told) fun r s' hq => ?_
  cases r with
  | error e => exact tk e s' (XE.of_call J (fun _ _ _ z => z) hq)
  | ok fl => cases fl with
    | ret v =>
      obtain ⟨v', H', J', rv, ev, z⟩ := J.after hq
      subst ev
      exact ⟨rv, V.ref (s.heap.objs.size + 1), H', J', rfl, z⟩
    | next => exact hq.elim
    | brk => exact hq.elim
    | cont => exact hq.elim
end

/-! ### the law -/
section
variable {P : Program} {u : World} {K : PySem.W.Frag} {mg mb : Str → Option Value} {k : Nat} {fa a : Addr} {fd : FuncData} {x : Str} {sp : Sp} {s1 : Shared} {vs : List Value} {ns : List Int}
theorem law_core (inK : K.In s1.heap) (hns : s1.heap.Ns mainGlobals mg) (hb : s1.heap.Ns builtinsNs mb) (hbb : ∀ y : Str, y ≠ "__name__" → mb y = bootBuiltins y) (hlim : s1.heap.NoLimit) (hg : s1.gens = #[])
    (ha : s1.heap.get? a = some { cls := .type "list", data := .seq vs.toArray }) (hr : Room k callerA)
    (F : ∀ B : Heap, K.In B → B.Ns mainGlobals mg → FnG P u K mg B k fa fd [x] sp) (bind : ∀ (s : Shared) (v : Value), BindsTo s fd ⟨[v], []⟩ [(x, v)])
    (H : Hp) (only : Only H) (told : sp [.ref a] H (fun v _ => v = .bl true) fun _ _ _ => False) (ok : HOk P u H s1.heap) (hA : ∀ b, H b ≠ none → b = a) (hK : H a ≠ none → K.lookup a = none) :
    codeAny (model P u) callerA (.call (.ref fa) ⟨[.ref a], []⟩) (fun r s' => r = .ok (.ret (.bool true)) ∧ OldK s1.heap s'.heap ∧ s'.os = s1.os ∧ AllBare s'.gens) s1 := by
  have at_a : ∀ {b : Addr}, ¬ H b = none → b = a := fun z => hA _ z
  have nsT : ∀ {b : Addr} {m : Str → Option Value}, s1.heap.Ns b m → (hidT s1.heap H).Ns b m := by
    rintro b m ⟨o, es, ep, e, d, r⟩
    refine ⟨o, es, ep, hidT_get e ?_, d, r⟩
    refine Decidable.byContradiction fun z => ?_
    obtain rfl := at_a z
    rw [ha] at e
    injection e with e
    subst e
    exact Data.noConfusion d
  have kT : K.In (hidT s1.heap H) := fun b o e => hidT_get (inK b o e) (Decidable.byContradiction fun z => by
    obtain rfl := at_a z
    rw [hK z] at e
    cases e)
  have md : Mod K mg (hidT s1.heap H) := ⟨kT, nsT hns, ⟨mb, nsT hb, hbb⟩, by obtain ⟨mc, h1, h2⟩ := hlim; exact ⟨mc, nsT h1, h2⟩⟩
  have e0 : Env0 P u K mg (hidT s1.heap H) callerA [] s1 H :=
    { frames := rfl, mod := md, bs := fun b o e => of_hidT e, bsz := Nat.le_of_eq (hidT_size _ _), funs := trivial, frf := fun b z => (List.not_mem_nil (show b ∈ ([] : List Addr) from z)).elim, hok := ok, bare := .of_eq hg }
  refine codeAny_mono ((F _ kT (nsT hns)).go callerA [] s1 H ⟨[.ref a], []⟩ [.ref a] [.ref a] _ _ hr rfl e0 (bind s1 (.ref a)) (.cons rfl .nil) told) fun r s' h => ?_
  cases r with
  | error e =>
    obtain ⟨_, _, _, _, _, _, _, _, _, _, _, _, z⟩ := h
    exact z.elim
  | ok fl => cases fl with
    | next => exact h.elim
    | brk => exact h.elim
    | cont => exact h.elim
    | ret z =>
      obtain ⟨v, H', os, bare, un, ok', rz, ev⟩ := h
      replace ev : v = .bl true := ev
      subst ev
      replace rz : z = Value.bool true := rz
      subst rz
      refine ⟨rfl, OldK.of_keep fun b o e => ?_, os, bare⟩
      rcases only b with z | ⟨ob, xs, z⟩
      · exact un.keep b o e z (fun m => (List.not_mem_nil (show b ∈ ([] : List Addr) from m)).elim) (fun m => (List.not_mem_nil m).elim)
      · obtain ⟨h1, _⟩ := ok b _ z
        obtain ⟨h2, _⟩ := ok' b _ (un.frzs b ob _ z)
        rw [h1] at e
        injection e with e
        rw [← e]; exact h2
theorem law_run (inK : K.In s1.heap) (hns : s1.heap.Ns mainGlobals mg) (hb : s1.heap.Ns builtinsNs mb) (hbb : ∀ y : Str, y ≠ "__name__" → mb y = bootBuiltins y) (hlim : s1.heap.NoLimit) (hg : s1.gens = #[])
    (ha : s1.heap.get? a = some { cls := .type "list", data := .seq vs.toArray }) (hi : IntsAre vs ns) (hl : ns.length ≤ sizeLine) (hr : Room k callerA)
    (F : ∀ B : Heap, K.In B → B.Ns mainGlobals mg → FnG P u K mg B k fa fd [x] sp) (bind : ∀ (s : Shared) (v : Value), BindsTo s fd ⟨[v], []⟩ [(x, v)])
    (told : ∀ H : Hp, SqL K H a (ns.map V.int) → ((∃ o, H a = some (.frz o (.lst (ns.map V.int)))) ∨ ∀ H', SqL K H' a (ns.map V.int)) → sp [.ref a] H (fun v _ => v = .bl true) fun _ _ _ => False) :
    codeAny (model P u) callerA (.call (.ref fa) ⟨[.ref a], []⟩) (fun r s' => r = .ok (.ret (.bool true)) ∧ OldK s1.heap s'.heap ∧ s'.os = s1.os ∧ AllBare s'.gens) s1 := by
  have rv := vals_ints hi
  have sz : vs.toArray.size ≤ sizeLine := by rw [List.size_toArray, hi.length]; exact hl
  cases hk : K.lookup a with
  | some o =>
    have e := inK a o hk
    rw [ha] at e
    injection e with e
    subst e
    have sq : ∀ H : Hp, SqL K H a (ns.map V.int) := fun H => Or.inr ⟨_, vs.toArray, _, hk, rfl, rfl, rfl, sz, by simpa using rv⟩
    exact law_core inK hns hb hbb hlim hg ha hr F bind (fun _ => none) (fun _ => .inl rfl) (told _ (sq _) (.inr sq)) (fun b v z => (Option.some_ne_none v (show (none : Option HO) = some v from z).symm).elim) (fun b z => absurd rfl z) fun z => absurd rfl z
  | none =>
    let Hs : Hp := fun b => if b = a then some (.frz { cls := .type "list", data := .seq vs.toArray } (.lst (ns.map V.int))) else none
    have at1 : Hs a = some (.frz { cls := .type "list", data := .seq vs.toArray } (.lst (ns.map V.int))) := if_pos rfl
    have off : ∀ b, b ≠ a → Hs b = none := fun b z => if_neg z
    refine law_core inK hns hb hbb hlim hg ha hr F bind Hs (fun b => ?_) (told Hs (.inl (.inr ⟨_, at1⟩)) (.inl ⟨_, at1⟩)) (fun b v z => ?_) (fun b z => ?_) fun _ => hk
    · rcases Classical.em (b = a) with q | q
      · rw [q]; exact .inr ⟨_, _, at1⟩
      · exact .inl (off b q)
    · rcases Classical.em (b = a) with q | q
      · rw [q] at z ⊢
        rw [at1] at z
        injection z with z
        subst z
        exact ⟨ha, by rw [List.length_map]; exact hl, vs, _, rv, ha⟩
      · rw [off b q] at z; cases z
    · exact Decidable.byContradiction fun q => z (off b q)
end
/-- the goal behind the head -/
theorem law_end {l : PySem.W.OpenLaw} {n k : Nat} {q : Program} {loose : List Str} {XP : (Str → Option Value) → Heap → Prop} {YP : World → Heap → Prop} {d : DefRec} {x : Str}
    (hn : l.most = some n) (hn2 : n ≤ sizeLine) (hdf : d.params.defaults = []) (hr : Room k callerA)
    (F : ∀ (u : World) (mg : Str → Option Value) (fa : Addr) (h : Heap), YP u h → h.Ns mainGlobals mg → mg d.name = some (.ref fa) →
      ∃ (K : PySem.W.Frag) (fd : FuncData) (sp : Sp), K.In h ∧ (∀ (s : Shared) (v : Value), BindsTo s fd ⟨[v], []⟩ [(x, v)]) ∧
        (∀ (H : Hp) (a : Addr) (ns : List Int), ns.length ≤ n → SqL K H a (ns.map V.int) → ((∃ o, H a = some (.frz o (.lst (ns.map V.int)))) ∨ ∀ H', SqL K H' a (ns.map V.int)) → sp [.ref a] H (fun v _ => v = .bl true) fun _ _ _ => False) ∧
        ∀ B : Heap, K.In B → B.Ns mainGlobals mg → FnG l.prog u K mg B k fa fd [x] sp) :
    PySem.W.WalkO q loose XP YP l.row.toRowW d [] (fun f vs => PySem.call f vs) := by
  apply Att.attach_call hn hdf
  intro u s0 s1 mg mb fa o pm cd doc a vs ns G Y ho hd hcd hmg hobj hints hlen hg
  obtain ⟨K, fd, sp, inK, bind, told, hF⟩ := F u mg fa _ Y G.T.g hmg
  exact law_run inK G.T.g G.T.b G.T.builtins G.T.nolimit hg hobj hints (Nat.le_trans hlen hn2) hr hF bind fun H h1 h2 => told H a ns hlen h1 h2
end CI
end
section
set_option Elab.async false
set_option linter.all false
set_option maxRecDepth 100000
/-! ## CI: built-in functions, isinstance -/
namespace CI
open PySem PySem.Spec PyProof.Rows L2

section
variable {X : Cx} {w : Wh} {b : Nat} {W : WX} {e : Expr} {es : List Expr} {fa : Rho → M D} {fs : Rho → M (List D)} {pos p : Pos} {x : Str}
def CallC (w : Wh) (b : Nat) (r : List V → Hp → VK → Prop) (g : Store → List D → Option D) : Prop :=
  ∀ (H : Hp) (p : Pl) (S : Store) (ds : List D) (vs : List V) (d : D) (Q : VK), RelS w H p S → Reps w H p ds vs → g S ds = some d →
    (∀ z H' p', Post w b H p S H' p' S → Rep w H' p' d z → Q z H') → r vs H Q
theorem c_biB {id : String} {r : List V → Hp → VK → Prop} {f : Bi} (hc : CallR X (.builtin id) r) (hr : CallC w b r fun S ds => biD S f ds) (hg : Gl X x) (hm : X.mg x = none) (hv : bootBuiltins x = some (.builtin id)) (hn : x ≠ "__name__") (hdb : (x == ("__debug__" : Str)) = false)
    (he : starEach (e :: es) X.env = (false, eval e X.env) :: starEach es X.env) (hpl : (backTo pos (starEach es X.env)).any (·.1) = false)
    (h : PA X (e :: es) (tDs w b W fs)) : PE X (.Call (.Name x p) (e :: es) [] pos) (tD w b W fun ρ => (fs ρ).bind fun ds => M.get fun S => biD S f ds) := by
  refine PE.imp (pe_callB hc hg hm hv h hn hdb he hpl) fun σ H Q ⟨ρ, p, S, N, h⟩ => ?_
  refine (step N h).mono fun xs H1 ⟨p1, S1, us, N1, r1, P1, h1⟩ => ?_
  obtain ⟨d, e, q⟩ := res_get' h1
  exact hr H1 p1 S1 us xs d Q N1.s r1 e fun z H' p' P r => q z H' p' P r
theorem c_biT {id : String} {r : List V → Hp → VK → Prop} {f : Bi} (hc : CallR X (.type id) r) (hr : CallC w b r fun S ds => biD S f ds) (hg : Gl X x) (hm : X.mg x = none) (hv : bootBuiltins x = some (.type id)) (hn : x ≠ "__name__") (hdb : (x == ("__debug__" : Str)) = false)
    (he : starEach (e :: es) X.env = (false, eval e X.env) :: starEach es X.env) (hpl : (backTo pos (starEach es X.env)).any (·.1) = false)
    (h : PA X (e :: es) (tDs w b W fs)) : PE X (.Call (.Name x p) (e :: es) [] pos) (tD w b W fun ρ => (fs ρ).bind fun ds => M.get fun S => biD S f ds) := by
  refine PE.imp (pe_callTy hc hg hm hv h hn hdb he hpl) fun σ H Q ⟨ρ, p, S, N, h⟩ => ?_
  refine (step N h).mono fun xs H1 ⟨p1, S1, us, N1, r1, P1, h1⟩ => ?_
  obtain ⟨d, e, q⟩ := res_get' h1
  exact hr H1 p1 S1 us xs d Q N1.s r1 e fun z H' p' P r => q z H' p' P r
theorem reps1 {H : Hp} {p : Pl} {d : D} {vs : List V} (h : Reps w H p [d] vs) : ∃ v, vs = [v] ∧ Rep w H p d v := by
  obtain ⟨v, us, rfl, r, e⟩ := h
  rw [show us = [] from e]
  exact ⟨v, rfl, r⟩
theorem reps2 {H : Hp} {p : Pl} {d1 d2 : D} {vs : List V} (h : Reps w H p [d1, d2] vs) : ∃ v1 v2, vs = [v1, v2] ∧ Rep w H p d1 v1 ∧ Rep w H p d2 v2 := by
  obtain ⟨v, us, rfl, r, k⟩ := h
  obtain ⟨v2, rfl, r2⟩ := reps1 k
  exact ⟨v, v2, rfl, r, r2⟩
/-! len -/
abbrev rLen (X : Cx) : List V → Hp → VK → Prop := fun xs H Q => (∃ x n, xs = [x] ∧ LenV X.K x H n ∧ Q (.int n) H) ∨ ((∃ a kvs, xs = [V.ref a] ∧ H a = some (.dK kvs) ∧ Q (.int kvs.length) H) ∨ rLenT xs H Q)
theorem call_lenA : CallR X (.builtin "len") (rLen X) := call_len.or (call_lenD.or call_len_dT)
theorem kDs_length : ∀ {ks : List D} {l : List Key}, kDs ks = some l → ks.length = l.length
  | [], l, h => by cases h; rfl
  | k :: ks, l, h => by
    unfold kDs at h
    cases e1 : kD k with
    | none => rw [e1] at h; cases h
    | some x =>
      cases e2 : kDs ks with
      | none => rw [e1, e2] at h; cases h
      | some y => rw [e1, e2] at h; cases h; simp [kDs_length e2]
theorem kTs_length : ∀ {ks : List D} {l : List (List Key)}, kTs ks = some l → ks.length = l.length
  | [], l, h => by cases h; rfl
  | k :: ks, l, h => by
    unfold kTs at h
    cases e1 : kT k with
    | none => rw [e1] at h; cases h
    | some x =>
      cases e2 : kTs ks with
      | none => rw [e1, e2] at h; cases h
      | some y => rw [e1, e2] at h; cases h; simp [kTs_length e2]
theorem cc_len (hK : X.K = w.K) : CallC w b (rLen X) fun S ds => biD S .len ds := by
  intro H p S ds vs d Q hS r e q
  cases ds with
  | nil => cases e
  | cons u ds =>
    cases ds with
    | cons _ _ => cases e
    | nil =>
      obtain ⟨v, rfl, ru⟩ := reps1 r
      replace e : lenD S u = some d := e
      have gen : (match seqOf S u with
        | some ds => some (D.int ds.length)
        | none => match dctOf S u with
          | some (ks, _) => some (.int ks.length)
          | none => none) = some d → rLen X [v] H Q := fun e => by
        cases h : seqOf S u with
        | some ds =>
          rw [h] at e
          cases e
          obtain ⟨a, vs, rfl, k1, k2⟩ := seqOf_rep hS ru h
          refine .inl ⟨_, ds.length, rfl, ?_, q _ H p (.refl hS) rfl⟩
          rw [hK, k2.length]
          by_cases ht : isTup u = true
          · rw [if_pos ht] at k1; exact .inr ⟨vs, k1, rfl⟩
          · rw [if_neg ht] at k1; exact .inl ⟨vs, k1, rfl⟩
        | none =>
          rw [h] at e
          cases h2 : dctOf S u with
          | none => rw [h2] at e; cases e
          | some kv =>
            obtain ⟨ks, us⟩ := kv
            rw [h2] at e
            cases e
            obtain ⟨a, rfl, ⟨kvs, k1, k2, _⟩ | ⟨kvs, k1, k2, _⟩, _⟩ := dctOf_rep hS ru h2
            · have hl : ks.length = kvs.length := by rw [kDs_length k2, List.length_map]
              exact .inr (.inl ⟨a, kvs, rfl, k1, by rw [← hl]; exact q _ H p (.refl hS) rfl⟩)
            · have hl : ks.length = kvs.length := by rw [kTs_length k2, List.length_map]
              exact .inr (.inr ⟨a, kvs, rfl, k1, by rw [← hl]; exact q _ H p (.refl hS) rfl⟩)
      cases u with
      | str s =>
        have e' : (if s.length ≤ SZ then some (D.int s.length) else none) = some d := e
        by_cases hz : s.length ≤ SZ
        · rw [if_pos hz] at e'
          cases e'
          rw [show v = .str ⟨s.toArray⟩ from ru]
          exact .inl ⟨_, s.length, rfl, ⟨by rw [str_len, sz_line]; exact hz, (str_len s).symm⟩, q _ H p (.refl hS) rfl⟩
        · rw [if_neg hz] at e'; cases e'
      | _ => exact gen e
/-! int, abs, divmod, min, max -/
theorem cc_int : CallC w b (fun xs H Q => (∃ i, xs = [.int i] ∧ Q (.int i) H) ∨ ∃ k, xs = [.bl k] ∧ Q (.int (if k then 1 else 0)) H) fun S ds => biD S .int ds := by
  intro H p S ds vs d Q hS r e q
  cases ds with
  | nil => cases e
  | cons u ds =>
    cases ds with
    | cons _ _ => cases u <;> cases e
    | nil =>
      obtain ⟨v, rfl, ru⟩ := reps1 r
      cases u <;> first | (cases e; done) | skip
      case int i => cases e; rw [show v = .int i from ru]; exact .inl ⟨i, rfl, q _ H p (.refl hS) rfl⟩
      case bl k => cases e; rw [show v = .bl k from ru]; exact .inr ⟨k, rfl, q _ H p (.refl hS) rfl⟩
theorem cc_abs : CallC w b (fun xs H Q => ∃ i, xs = [.int i] ∧ Q (.int (if i < 0 then -i else i)) H) fun S ds => biD S .abs ds := by
  intro H p S ds vs d Q hS r e q
  cases ds with
  | nil => cases e
  | cons u ds =>
    cases ds with
    | cons _ _ => cases u <;> cases e
    | nil =>
      obtain ⟨v, rfl, ru⟩ := reps1 r
      cases u <;> first | (cases e; done) | skip
      cases e; exact ⟨_, by rw [show v = .int _ from ru], q _ H p (.refl hS) rfl⟩
theorem two_ints {S : Store} {f : Bi} {ds : List D} {d : D} (hf : f = .divmod ∨ f = .min2 ∨ f = .max2) (e : biD S f ds = some d) : ∃ i j, ds = [.int i, .int j] := by
  rcases hf with rfl | rfl | rfl <;>
  · unfold biD at e
    split at e <;> first | (cases e; done) | exact ⟨_, _, rfl⟩ | skip
    all_goals first | (rename_i h; cases h; done) | (rename_i h _; cases h; done) | skip
theorem cc_divmod : CallC w b (fun xs H Q => ∃ i j, xs = [.int i, .int j] ∧ CDiv i j ∧ ∀ p, H p = none → Q (.ref p) (upd H p (.tup [.int (i / j), .int (i % j)]))) fun S ds => biD S .divmod ds := by
  intro H p S ds vs d Q hS r e q
  obtain ⟨i, j, rfl⟩ := two_ints (.inl rfl) e
  obtain ⟨v1, v2, rfl, r1, r2⟩ := reps2 r
  have e' : (if 0 < j ∧ j < 1073741824 then some (D.tup [.int (i / j), .int (i % j)]) else none) = some d := e
  by_cases hz : 0 < j ∧ j < 1073741824
  · rw [if_pos hz] at e'
    cases e'
    refine ⟨i, j, by rw [show v1 = .int i from r1, show v2 = .int j from r2], ⟨hz.1, hz.2⟩, fun t ht => ?_⟩
    obtain ⟨P, r⟩ := Rep.newTup (b := b) (ds := [.int (i / j), .int (i % j)]) hS (Reps.cons (d := .int (i / j)) rfl (Reps.one (d := .int (i % j)) rfl) : Reps w H p _ [V.int (i / j), V.int (i % j)]) ht
    exact q _ _ _ P r
  · rw [if_neg hz] at e'; cases e'
theorem cc_min : CallC w b (fun xs H Q => ∃ i j, xs = [.int i, .int j] ∧ Q (.int (if j < i then j else i)) H) fun S ds => biD S .min2 ds := by
  intro H p S ds vs d Q hS r e q
  obtain ⟨i, j, rfl⟩ := two_ints (.inr (.inl rfl)) e
  obtain ⟨v1, v2, rfl, r1, r2⟩ := reps2 r
  cases e
  exact ⟨i, j, by rw [show v1 = .int i from r1, show v2 = .int j from r2], q _ H p (.refl hS) rfl⟩
theorem cc_max : CallC w b (fun xs H Q => ∃ i j, xs = [.int i, .int j] ∧ Q (.int (if j > i then j else i)) H) fun S ds => biD S .max2 ds := by
  intro H p S ds vs d Q hS r e q
  obtain ⟨i, j, rfl⟩ := two_ints (.inr (.inr rfl)) e
  obtain ⟨v1, v2, rfl, r1, r2⟩ := reps2 r
  cases e
  exact ⟨i, j, by rw [show v1 = .int i from r1, show v2 = .int j from r2], q _ H p (.refl hS) rfl⟩
/-! all, any, sum -/
theorem boolsOf_rep {H : Hp} {p : Pl} : ∀ {ds : List D} {vs : List V} {bs : List Bool}, Reps w H p ds vs → boolsOf ds = some bs → vs = bs.map V.bl
  | [], vs, bs, r, e => by cases e; exact r
  | d :: ds, vs, bs, r, e => by
    obtain ⟨v, us, rfl, r1, r2⟩ := r
    cases d <;> first | (cases e; done) | skip
    rename_i c
    have e : (boolsOf ds).map (c :: ·) = some bs := e
    cases h : boolsOf ds with
    | none => rw [h] at e; cases e
    | some cs =>
      rw [h] at e; cases e
      rw [boolsOf_rep r2 h, show v = .bl c from r1]; rfl
theorem intsOf_rep {H : Hp} {p : Pl} : ∀ {ds : List D} {vs : List V} {bs : List Int}, Reps w H p ds vs → intsOf ds = some bs → vs = bs.map V.int
  | [], vs, bs, r, e => by cases e; exact r
  | d :: ds, vs, bs, r, e => by
    obtain ⟨v, us, rfl, r1, r2⟩ := r
    cases d <;> first | (cases e; done) | skip
    rename_i c
    have e : (intsOf ds).map (c :: ·) = some bs := e
    cases h : intsOf ds with
    | none => rw [h] at e; cases e
    | some cs =>
      rw [h] at e; cases e
      rw [intsOf_rep r2 h, show v = .int c from r1]; rfl
theorem one_lst {α : Type} {S : Store} {ds : List D} {d : D} {f : Bi} {g : List D → Option α} {k : α → D} (hf : ∀ x, biD S f [x] = match lstOf S x with
    | some ds => (g ds).map k
    | none => none) (h0 : biD S f [] = none) (h2 : ∀ x y l, biD S f (x :: y :: l) = none) (e : biD S f ds = some d) : ∃ x cs a, ds = [x] ∧ lstOf S x = some cs ∧ g cs = some a ∧ d = k a := by
  cases ds with
  | nil => rw [h0] at e; cases e
  | cons x ds =>
    cases ds with
    | cons y l => rw [h2] at e; cases e
    | nil =>
      rw [hf] at e
      cases h : lstOf S x with
      | none => rw [h] at e; cases e
      | some cs =>
        rw [h] at e
        simp only at e
        cases h3 : g cs with
        | none => rw [h3] at e; cases e
        | some a => rw [h3] at e; cases e; exact ⟨x, cs, a, rfl, h, h3, rfl⟩
theorem cc_all : CallC w b (rAll X.K) fun S ds => biD S .all ds := by
  intro H p S ds vs d Q hS r e q
  obtain ⟨x, cs, bs, rfl, h, h3, rfl⟩ := one_lst (g := boolsOf) (k := fun bs => .bl (bs.all id)) (fun _ => rfl) rfl (fun _ _ _ => rfl) e
  obtain ⟨v, rfl, ru⟩ := reps1 r
  obtain ⟨a, vs, rfl, k1, k2⟩ := lstOf_rep hS ru h
  exact ⟨a, bs, rfl, SqL.of (by rw [← boolsOf_rep k2 h3]; exact k1), q _ H p (.refl hS) rfl⟩
theorem cc_any : CallC w b (rAny X.K) fun S ds => biD S .any ds := by
  intro H p S ds vs d Q hS r e q
  obtain ⟨x, cs, bs, rfl, h, h3, rfl⟩ := one_lst (g := boolsOf) (k := fun bs => .bl (bs.any id)) (fun _ => rfl) rfl (fun _ _ _ => rfl) e
  obtain ⟨v, rfl, ru⟩ := reps1 r
  obtain ⟨a, vs, rfl, k1, k2⟩ := lstOf_rep hS ru h
  exact ⟨a, bs, rfl, SqL.of (by rw [← boolsOf_rep k2 h3]; exact k1), q _ H p (.refl hS) rfl⟩
theorem cc_sum : CallC w b (rSum X.K) fun S ds => biD S .sum ds := by
  intro H p S ds vs d Q hS r e q
  obtain ⟨x, cs, bs, rfl, h, h3, rfl⟩ := one_lst (g := intsOf) (k := fun bs => .int bs.sum) (fun _ => rfl) rfl (fun _ _ _ => rfl) e
  obtain ⟨v, rfl, ru⟩ := reps1 r
  obtain ⟨a, vs, rfl, k1, k2⟩ := lstOf_rep hS ru h
  exact ⟨a, bs, rfl, SqL.of (by rw [← intsOf_rep k2 h3]; exact k1), q _ H p (.refl hS) rfl⟩
/-! list, tuple -/
theorem cc_tuple (hK : X.K = w.K) : CallC w b (fun xs H Q => ∃ p ys, xs = [.ref p] ∧ ((SqL X.K H p ys ∧ ∀ l, H l = none → Q (.ref l) (upd H l (.tup ys))) ∨ (SqT X.K H p ys ∧ Q (.ref p) H))) fun S ds => biD S .tuple ds := by
  intro H p S ds vs d Q hS r e q
  cases ds with
  | nil => cases e
  | cons u ds =>
    cases ds with
    | cons _ _ => cases e
    | nil =>
      obtain ⟨v, rfl, ru⟩ := reps1 r
      replace e : biD S .tuple [u] = some d := e
      by_cases hkt : ∃ ks, u = .kt ks
      · obtain ⟨ks, rfl⟩ := hkt
        cases e
        obtain ⟨a, vs, rfl, k1, k2⟩ := ru.sqK
        exact ⟨a, vs, rfl, .inr ⟨by rw [hK]; exact k1, q _ H p (.refl hS) ru⟩⟩
      replace e : (seqOf S u).map .tup = some d := by
        rw [← e]
        cases u <;> first | rfl | exact (hkt ⟨_, rfl⟩).elim
      cases h : seqOf S u with
      | none => rw [h] at e; cases e
      | some cs =>
        rw [h] at e; cases e
        obtain ⟨a, vs, rfl, k1, k2⟩ := seqOf_rep hS ru h
        rw [hK]
        by_cases ht : isTup u = true
        · rw [if_pos ht] at k1
          cases u <;> first | (cases ht; done) | exact (hkt ⟨_, rfl⟩).elim | skip
          cases h
          exact ⟨a, vs, rfl, .inr ⟨k1, q _ H p (.refl hS) ru⟩⟩
        · rw [if_neg ht] at k1
          refine ⟨a, vs, rfl, .inl ⟨k1, fun t nt => ?_⟩⟩
          obtain ⟨P, r⟩ := Rep.newTup (b := b) hS k2 nt
          exact q _ _ _ P r
/-- list(text) -/
def rListS : List V → Hp → VK → Prop := fun xs H Q => ∃ z : Str, xs = [.str z] ∧ z.length ≤ sizeLine ∧ ∀ l, H l = none → Q (.ref l) (upd H l (.lst (z.cps.toList.map fun c => V.str ⟨#[c]⟩)))
end
end CI
end
section
set_option Elab.async false
set_option linter.all false
set_option maxRecDepth 100000
/-! ## CI: list of a text, repr, isinstance -/
namespace CI
open PySem PySem.Spec PyProof.Rows L2

section
variable {X : Cx} {w : Wh} {b : Nat} {W : WX} {e : Expr} {es : List Expr} {fa : Rho → M D} {fs : Rho → M (List D)} {pos p : Pos} {x : Str}
theorem vals_signs : ∀ {its : List Value} {cs : List Nat}, its.length = cs.length → (∀ (j : Nat) (v : Value), its[j]? = some v → ∃ (c : Nat) (u : Tok), cs[j]? = some c ∧ v = .str ⟨#[c]⟩ u) → Vals (cs.map fun c => V.str ⟨#[c]⟩) its
  | [], [], _, _ => .nil
  | v :: its, c :: cs, hl, h => by
    obtain ⟨c', u, e, rfl⟩ := h 0 v rfl
    cases e
    exact .cons ⟨u, rfl⟩ (vals_signs (Nat.succ.inj hl) fun j v e => h (j + 1) v (by simpa using e))
  | [], _ :: _, hl, _ => by cases hl
  | _ :: _, [], hl, _ => by cases hl
theorem call_listS (hc : X.calm = true) : CallR X (.type "list") rListS := by
  intro pins s σ H xs us Q I r h
  obtain ⟨z, rfl, hz, q⟩ := h
  obtain ⟨u, rfl, t, rfl⟩ := vals1 r
  refine PySem.call_list_str (I.ok.hd hc) z t (fun h' tk acc' c' kp e it => ?_) hz
  have rv : Vals (z.cps.toList.map fun c => V.str ⟨#[c]⟩) acc'.toList := by
    refine vals_signs (by have := it.1; simpa using this) fun j v e => ?_
    obtain ⟨c, u, e1, e2⟩ := it.2 j v (by simpa using e)
    exact ⟨c, u, by simpa using e1, e2⟩
  exact ⟨.ref s.heap.objs.size, _, I.laid (t' := tk) kp (Nat.le_refl _) (show ObjOk X.prog X.w _ h' _ (.lst _) from ⟨by rw [List.length_map, Array.length_toList]; exact hz, acc'.toList, c', rv, by simpa using e⟩), rfl, q _ (I.hok.fresh (Nat.le_refl _))⟩
abbrev rListA (X : Cx) : List V → Hp → VK → Prop := fun xs H Q => (∃ p ys, xs = [.ref p] ∧ (SqL X.K H p ys ∨ SqT X.K H p ys) ∧ ∀ l, H l = none → Q (.ref l) (upd H l (.lst ys))) ∨ rListS xs H Q
theorem call_listA (hc : X.calm = true) : CallR X (.type "list") (rListA X) := call_list_of.or (call_listS hc)
theorem reps_signs {H : Hp} {p : Pl} : ∀ s : List Nat, Reps w H p (s.map fun c => D.str [c]) (s.map fun c => V.str ⟨#[c]⟩)
  | [] => rfl
  | c :: s => .cons rfl (reps_signs s)
theorem cc_list (hK : X.K = w.K) : CallC w b (rListA X) fun S ds => biD S .list ds := by
  intro H p S ds vs d Q hS r e q
  cases ds with
  | nil => cases e
  | cons u ds =>
    cases ds with
    | cons _ _ => cases u <;> cases e
    | nil =>
      obtain ⟨v, rfl, ru⟩ := reps1 r
      have gen : (seqOf S u).map D.lst = some d → rListA X [v] H Q := fun e => by
        cases h : seqOf S u with
        | none => rw [h] at e; cases e
        | some cs =>
          rw [h] at e; cases e
          obtain ⟨a, vs, rfl, k1, k2⟩ := seqOf_rep hS ru h
          refine .inl ⟨a, vs, rfl, ?_, fun t nt => ?_⟩
          · rw [hK]
            by_cases ht : isTup u = true
            · rw [if_pos ht] at k1; exact .inr k1
            · rw [if_neg ht] at k1; exact .inl k1
          · obtain ⟨P, r⟩ := Rep.newLst (b := b) hS k2 nt
            exact q _ _ _ P r
      cases u with
      | str s =>
        have e' : (if s.length ≤ SZ then some (D.lst (s.map fun c => .str [c])) else none) = some d := e
        by_cases hz : s.length ≤ SZ
        · rw [if_pos hz] at e'
          cases e'
          refine .inr ⟨⟨s.toArray⟩, by rw [show v = .str ⟨s.toArray⟩ from ru], by rw [str_len, sz_line]; exact hz, fun t nt => ?_⟩
          obtain ⟨P, r⟩ := Rep.newLst (b := b) hS (reps_signs (w := w) (p := p) (H := H) s) nt
          exact q _ _ _ P (by simpa using r)
        · rw [if_neg hz] at e'; cases e'
      | _ => exact gen e
/-! repr -/
def rRepr (X : Cx) : List V → Hp → VK → Prop := fun xs H Q => ∃ (a : Addr) (d : PyData), xs = [.ref a] ∧ Dp X.K H (.ref a) d ∧ d.showable = true ∧ d.hasDict = false ∧ d.depth ≤ 60 ∧ d.shown.length ≤ sizeLine ∧ Q (.str d.shown) H
theorem call_reprD (hg : X.A.guards = some []) (hu : X.A.units + 65 < cLine) : CallR X (.builtin "repr") (rRepr X) := by
  intro pins s σ H xs us Q I r h
  obtain ⟨a, d, rfl, hd, h1, h2, h3, h4, q⟩ := h
  obtain ⟨u, rfl, rx⟩ := vals1 r
  obtain rfl : u = .ref a := rx
  obtain ⟨as, rd⟩ := Dp.reads I d (.ref a) (.ref a) hd rfl
  refine PySem.repr_of_reads' rd h1 (fun z => by rw [h2] at z; cases z) hg (by omega) (fun _ _ e => e) (fun h' u tk kp => ?_) h4
  exact ⟨.str d.shown, H, I.kept kp, ⟨u, rfl⟩, q⟩
theorem cc_repr (hK : X.K = w.K) : CallC w b (rRepr X) fun S ds => biD S .repr ds := by
  intro H p S ds vs d Q hS r e q
  cases ds with
  | nil => cases e
  | cons u ds =>
    cases ds with
    | cons _ _ => cases e
    | nil =>
      obtain ⟨v, rfl, ru⟩ := reps1 r
      replace e : reprD S u = some d := e
      unfold reprD at e
      cases h : (deref S u).py with
      | none => rw [h] at e; cases e
      | some P =>
        rw [h] at e
        replace e : reprP P = some d := e
        unfold reprP at e
        by_cases hc : (seqP P && P.showable && !P.hasDict && decide (P.depth ≤ 60) && decide (P.shown.length ≤ SZ)) = true
        · rw [if_pos hc] at e
          cases e
          simp only [Bool.and_eq_true, decide_eq_true_eq, Bool.not_eq_true'] at hc
          obtain ⟨⟨⟨⟨c1, c2⟩, c3⟩, c4⟩, c5⟩ := hc
          have hd := deref_dp hS ru h
          have : ∃ a, v = .ref a := by
            cases P <;> first | (cases c1; done) | skip
            · cases hd <;> exact ⟨_, rfl⟩
            · cases hd <;> exact ⟨_, rfl⟩
          obtain ⟨a, rfl⟩ := this
          exact ⟨a, P, rfl, by rw [hK]; exact hd, c2, c3, c4, by rw [sz_line]; exact c5, q _ H p (.refl hS) (show V.str P.shown = V.str ⟨P.shown.cps.toList.toArray⟩ by simp)⟩
        · rw [if_neg hc] at e; cases e
/-! isinstance -/
def tyS : Ty → Option String
  | .int => some "int"
  | .bool => some "bool"
  | .str => some "str"
  | .tuple => some "tuple"
  | .list => some "list"
  | .dict => some "dict"
  | .own _ => none
def tyOfD (S : Store) (d : D) : Option String := match deref S d with
  | .non => some "NoneType"
  | .bl _ => some "bool"
  | .int _ => some "int"
  | .str _ => some "str"
  | .tup _ => some "tuple"
  | .kt _ => some "tuple"
  | .lst _ => some "list"
  | .dct _ _ => some "dict"
  | _ => none
theorem isaD_ty {S : Store} {d : D} {t : Ty} {c : Bool} (K : PySem.W.Frag) (e : isaD S d t = some c) : ∃ s1 s2, tyOfD S d = some s1 ∧ tyS t = some s2 ∧ PySem.W.kitOne K (.type s1) (.type s2) = some c := by
  unfold isaD at e
  unfold tyOfD
  generalize deref S d = u at e ⊢
  cases u <;> cases t <;> first | (cases e; done) | skip
  all_goals (cases e; exact ⟨_, _, rfl, rfl, by with_unfolding_all rfl⟩)
theorem tyOfD_rep {H : Hp} {p : Pl} {S : Store} (hS : RelS w H p S) {d : D} {v : V} {s : String} (r : Rep w H p d v) (e : tyOfD S d = some s) : TyX w.K H v (.type s) := by
  have own : ∀ {d : D} {v : V} {s : String}, Rep w H p d v → (match d with
    | .non => some "NoneType"
    | .bl _ => some "bool"
    | .int _ => some "int"
    | .str _ => some "str"
    | .tup _ => some "tuple"
    | .kt _ => some "tuple"
    | .lst _ => some "list"
    | .dct _ _ => some "dict"
    | _ => none) = some s → TyX w.K H v (.type s) := by
    intro d v s r e
    cases d <;> first | (cases e; done) | skip
    · cases e; rw [show v = .non from r]; exact .base .non
    · cases e; rw [show v = .bl _ from r]; exact .base (.bl _)
    · cases e; rw [show v = .int _ from r]; exact .base (.int _)
    · cases e; rw [show v = .str _ from r]; exact .base (.str _)
    · cases e
      obtain ⟨a, vs, rfl, h1, _⟩ := r
      exact .base (.tup h1.1)
    · cases e
      obtain ⟨a, vs, rfl, ⟨o, its, n, k1, k2, _⟩, _⟩ := r
      exact .kTuple k1 k2
    · cases e
      obtain ⟨a, vs, rfl, h1, _⟩ := r
      exact .base (.lst h1)
    · cases e
      obtain ⟨a, kvs, rfl, h1, _⟩ := r
      exact .base (.dK h1)
  unfold tyOfD at e
  cases d with
  | ref n =>
    obtain ⟨a, e1, e2⟩ := r
    obtain ⟨c, e3, e4⟩ := hS.cell e2
    subst e1
    cases c with
    | lst ds =>
      simp only [deref, e3] at e
      cases e
      obtain ⟨vs, h1, _⟩ := e4
      exact .base (.lst h1)
    | dct ks vs =>
      simp only [deref, e3] at e
      cases e
      rcases e4 with ⟨kvs, h1, _⟩ | ⟨kvs, h1, _⟩
      · exact .base (.dK h1)
      · exact .base (.dT h1)
    | ins c ns vs => simp only [deref, e3] at e; cases e
  | _ => exact own r e
theorem c_isa {t : Ty} {s2 : String} {y : Str} {p2 : Pos} (ht : tyS t = some s2) (hK : X.K = w.K) (hg : Gl X "isinstance") (hm : X.mg "isinstance" = none) (hg2 : Gl X y) (hm2 : X.mg y = none) (hv2 : bootBuiltins y = some (.type s2)) (hn2 : y ≠ "__name__")
    (hdb2 : (y == ("__debug__" : Str)) = false)
    (he : starEach [e, .Name y p2] X.env = (false, eval e X.env) :: starEach [.Name y p2] X.env) (h : PE X e (tD w b W fa)) :
    PE X (.Call (.Name "isinstance" p) [e, .Name y p2] [] pos) (tD w b W fun ρ => (fa ρ).bind fun u => M.get fun S => (isaD S u t).map .bl) := by
  have hy : PE X (.Name y p2) (tC (.ty s2)) := pe_bltn hg2 hm2 hv2 rfl hn2 hdb2
  refine PE.imp (pe_callB call_isi hg hm (by decide +kernel) (pa_cons h (pa_cons hy pa_nil) he) (by decide) (by decide) he) fun σ H Q ⟨ρ, p, S, N, h⟩ => ?_
  refine (step N h).mono fun v H1 ⟨p1, S1, u, N1, r1, P1, h1⟩ => ?_
  obtain ⟨d, e, q⟩ := res_get' h1
  cases hc : isaD S1 u t with
  | none => rw [hc] at e; cases e
  | some c =>
    rw [hc] at e
    cases e
    obtain ⟨s1, s3, k1, k2, k3⟩ := isaD_ty X.K hc
    rw [ht] at k2
    cases k2
    exact ⟨v, .ty s2, .type s1, .type s2, c, rfl, .ty s2, by rw [hK]; exact tyOfD_rep N1.s r1 k1, k3, q _ _ _ (.refl N1.s) rfl⟩
end
end CI
end
section
set_option Elab.async false
set_option linter.all false
set_option maxRecDepth 100000
/-! ## CI: calls of own defs -/
namespace CI
open PySem PySem.Spec PyProof.Rows L2

/-- a def's promise by contents -/
def spC (w : Wh) (n : Nat) (F : List D → Nat → M D) : Sp := fun vs H Q E => vs.length = n ∧ ∃ ds p S b, RelS w H p S ∧ b ≤ S.length ∧ LowS b S ∧ Reps w H p ds vs ∧
  Res w b (fun c d _ H' => E c d H') [] (RD w) H p S (F ds b S) Q
theorem spC_len {w : Wh} {n : Nat} {F : List D → Nat → M D} {ps : List Str} (h : ps.length = n) : ∀ vs H Q E, spC w n F vs H Q E → vs.length = ps.length := fun vs H Q E z => by rw [h]; exact z.1
theorem Reps.len {w : Wh} {H : Hp} {p : Pl} : ∀ {ds : List D} {vs : List V}, Reps w H p ds vs → ds.length = vs.length := Reps.length
/-- values that lean on no state -/
def litV : D → Option V
  | .non => some .non
  | .bl b => some (.bl b)
  | .int i => some (.int i)
  | .str s => some (.str ⟨s.toArray⟩)
  | _ => none
def litVs : List D → Option (List V)
  | [] => some []
  | d :: ds => match litV d, litVs ds with
    | some v, some vs => some (v :: vs)
    | _, _ => none
theorem litV_rep {w : Wh} {d : D} {v : V} (h : litV d = some v) (H : Hp) (p : Pl) : Rep w H p d v := by
  cases d <;> first | (cases h; done) | (cases h; exact rfl)
theorem litVs_rep {w : Wh} {H : Hp} {p : Pl} : ∀ {ds : List D} {vs : List V}, litVs ds = some vs → Reps w H p ds vs
  | [], vs, h => by cases h; rfl
  | d :: ds, vs, h => by
    unfold litVs at h
    cases e1 : litV d with
    | none => rw [e1] at h; cases h
    | some v =>
      cases e2 : litVs ds with
      | none => rw [e1, e2] at h; cases h
      | some us => rw [e1, e2] at h; cases h; exact .cons (litV_rep e1 H p) (litVs_rep e2)
theorem pick_rep {w : Wh} {H : Hp} {p : Pl} {ds : List D} {vs : List V} (r : Reps w H p ds vs) : ∀ {is : List Nat} {cs : List D}, pick ds is = some cs → ∃ us, pick vs is = some us ∧ Reps w H p cs us
  | [], cs, h => by cases h; exact ⟨[], rfl, rfl⟩
  | i :: is, cs, h => by
    unfold pick at h
    cases e1 : ds[i]? with
    | none => rw [e1] at h; cases h
    | some d =>
      cases e2 : pick ds is with
      | none => rw [e1, e2] at h; cases h
      | some us =>
        rw [e1, e2] at h; cases h
        obtain ⟨v, q1, q2⟩ := r.get e1
        obtain ⟨us', q3, q4⟩ := pick_rep r e2
        exact ⟨v :: us', by unfold pick; rw [q1, q3], .cons q2 q4⟩
theorem pick_vals {vs : List V} {us : List Value} (r : Vals vs us) : ∀ {is : List Nat} {cs : List V}, pick vs is = some cs → ∃ ws, pick us is = some ws ∧ Vals cs ws
  | [], cs, h => by cases h; exact ⟨[], rfl, .nil⟩
  | i :: is, cs, h => by
    unfold pick at h
    cases e1 : vs[i]? with
    | none => rw [e1] at h; cases h
    | some d =>
      cases e2 : pick vs is with
      | none => rw [e1, e2] at h; cases h
      | some us' =>
        rw [e1, e2] at h; cases h
        obtain ⟨v, q1, q2⟩ := r.get e1
        obtain ⟨ws, q3, q4⟩ := pick_vals r e2
        exact ⟨v :: ws, by unfold pick; rw [q1, q3], .cons q2 q4⟩
/-- how a call of this shape binds -/
structure KBd (K : PySem.W.Frag) (fd : FuncData) (ps : List Str) (np : Nat) (ks : List Str) (dv : List V) (pl : List Nat) : Prop where
  to : ∃ ds : List Value, Vals dv ds ∧ ∀ (s : Shared) (us ws bs : List Value), K.In s.heap → us.length = np → ws.length = ks.length → pick (us ++ (ws ++ ds)) pl = some bs → BindsTo s fd ⟨us, ks.zip ws⟩ (ps.zip bs)

section
variable {X : Cx} {w : Wh} {b k n np : Nat} {W : WX} {e : Expr} {es : List Expr} {kws : List Keyword} {fs fk : Rho → M (List D)} {pos p : Pos} {x : Str} {f : Addr} {fd : FuncData} {ps ks : List Str} {F : List D → Nat → M D} {pl : List Nat} {dl : List D} {dv : List V}
variable {σ : L2.St} {pins : List (Addr × Obj)} {H : Hp} {s : Shared} {Q : VK} {sp : Sp}
theorem runGK (F : FnG X.prog X.w X.K X.mg X.base k f fd ps sp) (hr : Room k X.A) (hg : X.A.guards = some []) (hb : KBd X.K fd ps np ks dv pl) (tk : Takes X W) {us ws : List Value} {vs zs cs : List V}
    (I : Inv X pins σ H s) (r : Vals vs us) (rz : Vals zs ws) (hn : vs.length = np) (hk : zs.length = ks.length) (hp : pick (vs ++ (zs ++ dv)) pl = some cs) (h : sp cs H Q fun c d H' => W c d σ H') :
    wpAny (model X.prog X.w) X.A (call (.ref f) us (ks.zip ws)) (EP X pins σ Q) X.xe s := by
  obtain ⟨ds, rd, hb⟩ := hb.to
  obtain ⟨bs, h1, h2⟩ := pick_vals (r.append (rz.append rd)) hp
  exact wpAny_call (codeAny_mono (F.go X.A X.stack s H ⟨us, ks.zip ws⟩ bs cs Q _ hr hg I.env0 (hb s us ws bs I.kIn (by rw [← r.length]; exact hn) (by rw [← rz.length]; exact hk) h1) h2 h) fun _ _ z => behind_call tk I z)
/-- f(e, .., k = v, ..) -/
theorem c_callk (F : FnG X.prog X.w X.K X.mg X.base k f fd ps sp) (hr : Room k X.A) (hgd : X.A.guards = some []) (hg : Gl X x) (hm : X.mg x = some (.ref f)) (hkp : PySem.W.keepIn X.K (.ref f) = true) (hb : KBd X.K fd ps np ks dv pl) (tk : Takes X W)
    {t : TA} {t2 : TA} (ha : PA X (e :: es) t) (hkw : PK X kws t2) (hall : (backToKw pos (keywordEach kws X.env)).all (·.1.isSome) = true) (hks : (backToKw pos (keywordEach kws X.env)).filterMap (·.1) = ks)
    (hdb : (x == ("__debug__" : Str)) = false) (he : starEach (e :: es) X.env = (false, eval e X.env) :: starEach es X.env)
    (hpl : ((backTo pos (starEach (e :: es) X.env)).any (·.1) || (backToKw pos (keywordEach kws X.env)).any (·.1.isNone)) = false) :
    PE X (.Call (.Name x p) (e :: es) kws pos) fun σ H Q => t σ H fun vs H1 => t2 σ H1 fun zs H2 => vs.length = np ∧ zs.length = ks.length ∧ ∃ cs, pick (vs ++ (zs ++ dv)) pl = some cs ∧ sp cs H2 Q fun c d H' => W c d σ H' := by
  refine ⟨fun pins s σ H Q I h => ?_⟩
  refine wpAny_Call_Name_kw (ld_glob I hg hm ?_ hdb)
  refine PySem.W.callWith_KW (h₀ := X.base) I.ok.mod.kin hkp hall (thn (ha.run pos pins s σ H _ I h) fun us s1 ⟨vs, H1, I1, r, q⟩ => ?_) hpl he
  refine thn (hkw.run pos pins s1 σ H1 _ I1 q) fun ws s2 ⟨zs, H2, I2, rz, hn, hk, cs, hp, q2⟩ => ⟨I2.kIn, ?_⟩
  rw [hks]
  exact runGK F hr hgd hb tk I2 r rz hn hk hp q2
theorem c_callk0 (F : FnG X.prog X.w X.K X.mg X.base k f fd ps sp) (hr : Room k X.A) (hgd : X.A.guards = some []) (hg : Gl X x) (hm : X.mg x = some (.ref f)) (hkp : PySem.W.keepIn X.K (.ref f) = true) (hb : KBd X.K fd ps 0 ks dv pl) (tk : Takes X W)
    {t2 : TA} (hkw : PK X kws t2) (hall : (backToKw pos (keywordEach kws X.env)).all (·.1.isSome) = true) (hks : (backToKw pos (keywordEach kws X.env)).filterMap (·.1) = ks)
    (hdb : (x == ("__debug__" : Str)) = false) (hpl : ((backTo pos (starEach [] X.env)).any (·.1) || (backToKw pos (keywordEach kws X.env)).any (·.1.isNone)) = false) :
    PE X (.Call (.Name x p) [] kws pos) fun σ H Q => t2 σ H fun zs H2 => zs.length = ks.length ∧ ∃ cs, pick (zs ++ dv) pl = some cs ∧ sp cs H2 Q fun c d H' => W c d σ H' := by
  refine ⟨fun pins s σ H Q I h => ?_⟩
  refine wpAny_Call_Name_kw (ld_glob I hg hm ?_ hdb)
  refine PySem.W.callWith_KW0 (h₀ := X.base) I.ok.mod.kin hkp hall (thn (hkw.run pos pins s σ H _ I h) fun ws s2 ⟨zs, H2, I2, rz, hk, cs, hp, q2⟩ => ⟨I2.kIn, ?_⟩) hpl
  rw [hks]
  exact runGK (vs := []) F hr hgd hb tk I2 .nil rz rfl hk hp q2
theorem PK.imp {kws : List Keyword} {t t' : TA} (h : PK X kws t) (k : ∀ σ H Q, t' σ H Q → t σ H Q) : PK X kws t' := ⟨fun pos pins s σ H Q I q => h.run pos pins s σ H Q I (k σ H Q q)⟩
theorem c_knil : PK X [] (tDs w b W fun _ => M.pure []) := PK.imp pk_nil fun σ H Q ⟨ρ, p, S, N, h⟩ => res_pure N.s h (show Reps w H p [] [] from rfl)
theorem c_kcons {nm : Option Str} {kpos : Pos} {fa : Rho → M D} (ha : PE X e (tD w b W fa)) (hr : PK X kws (tDs w b W fs)) :
    PK X (⟨nm, e, kpos⟩ :: kws) (tDs w b W fun ρ => (fa ρ).bind fun u => (fs ρ).bind fun us => M.pure (u :: us)) := by
  refine PK.imp (pk_cons ha hr) fun σ H Q ⟨ρ, p, S, N, h⟩ => ?_
  refine (step N h).mono fun x H1 ⟨p1, S1, u, N1, r1, P1, h1⟩ => ?_
  refine (step N1 h1).mono fun xs H2 ⟨p2, S2, us, N2, r2, P2, h2⟩ => ?_
  exact res_pure N2.s h2 (Reps.cons (Rep.ext P2.ext _ _ r1) r2)
theorem told_call {Fn : List D → Nat → M D} {ρ : Rho} {p : Pl} {S : Store} {us ws : List D} {vs zs : List V} {nk : Nat} (hpn : pl.length = n) (hdv : litVs dl = some dv) (N : Now w b H p S σ ρ) (r1 : Reps w H p us vs) (r2 : Reps w H p ws zs)
    (h : Res w b W σ (RD w) H p S ((M.lift (pickA np nk pl us ws dl)).bind (fun as => Fn as b) S) Q) : vs.length = np ∧ zs.length = nk ∧ ∃ cs, pick (vs ++ (zs ++ dv)) pl = some cs ∧ spC w n Fn cs H Q fun c d H' => W c d σ H' := by
  obtain ⟨as, e, h⟩ := res_lift h
  unfold pickA at e
  by_cases hc : us.length = np ∧ ws.length = nk
  · rw [if_pos hc] at e
    obtain ⟨cs, e2, r3⟩ := pick_rep (r1.append (r2.append (litVs_rep hdv))) e
    refine ⟨by rw [← r1.length]; exact hc.1, by rw [← r2.length]; exact hc.2, cs, e2, ?_, as, p, S, b, N.s, N.hb, N.lo, r3, h⟩
    have : ∀ {α : Type} {xs : List α} {is : List Nat} {ys : List α}, pick xs is = some ys → ys.length = is.length := by
      intro α xs is
      induction is with
      | nil => intro ys h; cases h; rfl
      | cons i is ih =>
        intro ys h
        unfold pick at h
        cases e1 : xs[i]? with
        | none => rw [e1] at h; cases h
        | some d =>
          cases e2 : pick xs is with
          | none => rw [e1, e2] at h; cases h
          | some us' => rw [e1, e2] at h; cases h; simp [ih e2]
    rw [this e2, hpn]
  · rw [if_neg hc] at e; cases e
theorem c_callC {Fn : List D → Nat → M D} (F : FnG X.prog X.w X.K X.mg X.base k f fd ps (spC w n Fn)) (hr : Room k X.A) (hgd : X.A.guards = some []) (hg : Gl X x) (hm : X.mg x = some (.ref f)) (hkp : PySem.W.keepIn X.K (.ref f) = true) (hb : KBd X.K fd ps np ks dv pl) (tk : Takes X W)
    (hpn : pl.length = n) (hdv : litVs dl = some dv) (ha : PA X (e :: es) (tDs w b W fs)) (hkw : PK X kws (tDs w b W fk)) (hall : (backToKw pos (keywordEach kws X.env)).all (·.1.isSome) = true) (hks : (backToKw pos (keywordEach kws X.env)).filterMap (·.1) = ks)
    (hdb : (x == ("__debug__" : Str)) = false) (he : starEach (e :: es) X.env = (false, eval e X.env) :: starEach es X.env)
    (hpl : ((backTo pos (starEach (e :: es) X.env)).any (·.1) || (backToKw pos (keywordEach kws X.env)).any (·.1.isNone)) = false) :
    PE X (.Call (.Name x p) (e :: es) kws pos) (tD w b W fun ρ => (fs ρ).bind fun us => (fk ρ).bind fun ws => (M.lift (pickA np ks.length pl us ws dl)).bind fun as => Fn as b) := by
  refine PE.imp (c_callk F hr hgd hg hm hkp hb tk ha hkw hall hks hdb he hpl) fun σ H Q ⟨ρ, p, S, N, h⟩ => ?_
  refine (step N h).mono fun vs H1 ⟨p1, S1, us, N1, r1, P1, h1⟩ => ?_
  refine (step N1 h1).mono fun zs H2 ⟨p2, S2, ws, N2, r2, P2, h2⟩ => ?_
  exact told_call hpn hdv N2 (Reps.ext P2.ext _ _ r1) r2 h2
theorem c_callC0 {Fn : List D → Nat → M D} (F : FnG X.prog X.w X.K X.mg X.base k f fd ps (spC w n Fn)) (hr : Room k X.A) (hgd : X.A.guards = some []) (hg : Gl X x) (hm : X.mg x = some (.ref f)) (hkp : PySem.W.keepIn X.K (.ref f) = true) (hb : KBd X.K fd ps 0 ks dv pl) (tk : Takes X W)
    (hpn : pl.length = n) (hdv : litVs dl = some dv) (hkw : PK X kws (tDs w b W fk)) (hall : (backToKw pos (keywordEach kws X.env)).all (·.1.isSome) = true) (hks : (backToKw pos (keywordEach kws X.env)).filterMap (·.1) = ks)
    (hdb : (x == ("__debug__" : Str)) = false) (hpl : ((backTo pos (starEach [] X.env)).any (·.1) || (backToKw pos (keywordEach kws X.env)).any (·.1.isNone)) = false) :
    PE X (.Call (.Name x p) [] kws pos) (tD w b W fun ρ => (M.pure ([] : List D)).bind fun us => (fk ρ).bind fun ws => (M.lift (pickA 0 ks.length pl us ws dl)).bind fun as => Fn as b) := by
  refine PE.imp (c_callk0 F hr hgd hg hm hkp hb tk hkw hall hks hdb hpl) fun σ H Q ⟨ρ, p, S, N, h⟩ => ?_
  have h : Res w b W σ (RD w) H p S ((fk ρ).bind (fun ws => (M.lift (pickA 0 ks.length pl [] ws dl)).bind fun as => Fn as b) S) Q := h
  refine (step N h).mono fun zs H2 ⟨p2, S2, ws, N2, r2, P2, h2⟩ => ?_
  obtain ⟨_, h3, cs, h4, h5⟩ := told_call (us := []) (vs := []) hpn hdv N2 rfl r2 h2
  exact ⟨h3, cs, h4, h5⟩
end
end CI
end
section
set_option Elab.async false
set_option linter.all false
set_option maxRecDepth 100000
/-! ## CI: what is walked, comprehensions -/
namespace CI
open PySem PySem.Spec PyProof.Rows L2

/-! ### a state seen through other places -/
structure Sees (H : Hp) (p : Pl) (H' : Hp) (p' : Pl) : Prop where
  pre : p.m <+: p'.m
  kept : ∀ a o, H a = some o → ¬ p.has a → H' a = some o ∧ ¬ p'.has a
theorem Sees.rd {H H' : Hp} {p p' : Pl} (e : Sees H p H' p') {a : Addr} {o : HO} (h : RdP H p a o) : RdP H' p' a o := by
  obtain ⟨h, n⟩ := h
  rcases h with h | ⟨u, h⟩
  · exact ⟨.inl (e.kept a _ h n).1, (e.kept a _ h n).2⟩
  · exact ⟨.inr ⟨u, (e.kept a _ h n).1⟩, (e.kept a _ h n).2⟩
mutual
theorem Rep.see {w : Wh} {H H' : Hp} {p p' : Pl} (e : Sees H p H' p') : ∀ (d : D) (v : V), Rep w H p d v → Rep w H' p' d v
  | .non, v, h => h
  | .bl _, v, h => h
  | .int _, v, h => h
  | .str _, v, h => h
  | .tup ds, v, h => by
    obtain ⟨a, vs, h1, h2, h3⟩ := h
    exact ⟨a, vs, h1, e.kept a _ h2.1 h2.2, Reps.see e ds vs h3⟩
  | .kt ds, v, h => by
    obtain ⟨a, vs, h1, h2, h3⟩ := h
    exact ⟨a, vs, h1, h2, Reps.see e ds vs h3⟩
  | .lst ds, v, h => by
    obtain ⟨a, vs, h1, h2, n, h3⟩ := h
    exact ⟨a, vs, h1, (e.kept a _ h2 n).1, (e.kept a _ h2 n).2, Reps.see e ds vs h3⟩
  | .scr ds, v, h => by
    obtain ⟨a, vs, h1, h2, h4, h3⟩ := h
    rcases h4 with h4 | h4
    · exact ⟨a, vs, h1, .inl (e.rd h4).1, .inl (e.rd h4), Reps.see e ds vs h3⟩
    · exact ⟨a, vs, h1, h4 _, .inr h4, Reps.see e ds vs h3⟩
  | .dct ks ds, v, h => by
    obtain ⟨a, kvs, h1, h2, n, hk, h3⟩ := h
    exact ⟨a, kvs, h1, (e.kept a _ h2 n).1, (e.kept a _ h2 n).2, hk, Reps.see e ds _ h3⟩
  | .ins c ns ds, v, h => by
    obtain ⟨a, dx, fs, h1, h2, n, hk, h3⟩ := h
    exact ⟨a, dx, fs, h1, (e.kept a _ h2 n).1, (e.kept a _ h2 n).2, hk, Reps.see e ds _ h3⟩
  | .ref n, v, h => by
    obtain ⟨a, h1, h2⟩ := h
    exact ⟨a, h1, getElem?_prefix e.pre h2⟩
  | .fn f, v, h => h
theorem Reps.see {w : Wh} {H H' : Hp} {p p' : Pl} (e : Sees H p H' p') : ∀ (ds : List D) (vs : List V), Reps w H p ds vs → Reps w H' p' ds vs
  | [], vs, h => h
  | d :: ds, vs, h => by
    obtain ⟨v, us, h1, h2, h3⟩ := h
    exact ⟨v, us, h1, Rep.see e d v h2, Reps.see e ds us h3⟩
end
theorem CRep.see {w : Wh} {H H' : Hp} {p p' : Pl} (e : Sees H p H' p') {a : Addr} (ha : ∀ o, H a = some o → H' a = some o) {c : Cell} (h : CRep w H p a c) : CRep w H' p' a c := by
  cases c with
  | lst ds =>
    obtain ⟨vs, h1, h2⟩ := h
    exact ⟨vs, ha _ h1, Reps.see e _ _ h2⟩
  | dct ks ds =>
    rcases h with ⟨kvs, h1, h2, h3⟩ | ⟨kvs, h1, h2, h3⟩
    · exact .inl ⟨kvs, ha _ h1, h2, Reps.see e _ _ h3⟩
    · exact .inr ⟨kvs, ha _ h1, h2, Reps.see e _ _ h3⟩
  | ins c ns ds =>
    obtain ⟨dx, fs, h1, h2, h3⟩ := h
    exact ⟨dx, fs, ha _ h1, h2, Reps.see e _ _ h3⟩
theorem RelE.see {w : Wh} {H H' : Hp} {p p' : Pl} {σ : L2.St} {ρ : Rho} (e : Sees H p H' p') (h : RelE w H p σ ρ) : RelE w H' p' σ ρ :=
  ⟨h.1, fun i d q => let ⟨v, h1, h2⟩ := h.2 i d q; ⟨v, h1, Rep.see e d v h2⟩⟩
/-- a new place, hidden from the contents -/
abbrev Pl.hide (p : Pl) (a : Addr) : Pl := ⟨p.m, a :: p.x⟩
theorem sees_hide {H : Hp} {p : Pl} {D : Addr} {o : HO} (n : H D = none) : Sees H p (upd H D o) (p.hide D) := by
  refine ⟨List.prefix_refl _, fun a o' h hn => ⟨same_new n a o' h, ?_⟩⟩
  rintro (z | z)
  · exact hn (.inl z)
  · rcases List.mem_cons.mp z with z | z
    · subst z; rw [n] at h; cases h
    · exact hn (.inr z)
theorem sees_show {H : Hp} {p : Pl} {D : Addr} : Sees H (p.hide D) H p := ⟨List.prefix_refl _, fun a o h hn => ⟨h, fun z => hn (z.imp id fun z => List.mem_cons_of_mem _ z)⟩⟩
theorem sees_hid {H H' : Hp} {p : Pl} {D : Addr} (k : ∀ a o, H a = some o → a ≠ D → H' a = some o) : Sees H (p.hide D) H' (p.hide D) :=
  ⟨List.prefix_refl _, fun a o h hn => ⟨k a o h fun z => hn (.inr (by rw [z]; exact List.mem_cons_self)), hn⟩⟩
theorem RelS.hide {w : Wh} {H : Hp} {p : Pl} {S : Store} {D : Addr} {o : HO} (h : RelS w H p S) (n : H D = none) : RelS w (upd H D o) (p.hide D) S := by
  have nD : D ∉ p.m := fun z => by
    obtain ⟨i, hi, e⟩ := List.getElem_of_mem z
    obtain ⟨c, e3, e4⟩ := h.cell (n := i) (a := D) (by simp [hi, e])
    cases c with
    | lst ds => obtain ⟨vs, q, _⟩ := e4; rw [n] at q; cases q
    | dct ks ds => rcases e4 with ⟨_, q, _⟩ | ⟨_, q, _⟩ <;> (rw [n] at q; cases q)
    | ins c ns ds => obtain ⟨_, _, q, _⟩ := e4; rw [n] at q; cases q
  refine ⟨h.len, h.nd, fun a ha hx => ?_, fun a ha => ?_, fun i a c e1 e2 => (h.cells i a c e1 e2).see (sees_hide n) fun o' e => same_new n a o' e⟩
  · rcases List.mem_cons.mp hx with z | z
    · subst z; exact nD ha
    · exact h.ap a ha z
  · rcases List.mem_cons.mp ha with z | z
    · subst z; exact ⟨o, upd_same⟩
    · obtain ⟨o', e⟩ := h.xs a z
      exact ⟨o', same_new n a o' e⟩
theorem RelS.hid {w : Wh} {H H' : Hp} {p : Pl} {S : Store} {D : Addr} (h : RelS w H (p.hide D) S) (k : ∀ a o, H a = some o → a ≠ D → H' a = some o) (hD : ∃ o, H' D = some o) : RelS w H' (p.hide D) S := by
  refine ⟨h.len, h.nd, h.ap, fun a ha => ?_, fun i a c e1 e2 => (h.cells i a c e1 e2).see (sees_hid k) fun o' e => k a o' e ?_⟩
  · by_cases z : a = D
    · rw [z]; exact hD
    · obtain ⟨o, e⟩ := h.xs a ha
      exact ⟨o, k a o e z⟩
  · rintro rfl
    exact h.ap a (List.mem_of_getElem? e1) List.mem_cons_self
theorem RelS.unhide {w : Wh} {H : Hp} {p : Pl} {S : Store} {D : Addr} (h : RelS w H (p.hide D) S) : RelS w H p S :=
  ⟨h.len, h.nd, fun a ha hx => h.ap a ha (List.mem_cons_of_mem _ hx), fun a ha => h.xs a (List.mem_cons_of_mem _ ha), fun i a c e1 e2 => (h.cells i a c e1 e2).see sees_show fun _ e => e⟩

/-! ### iterators -/
def stayS (J : Wk) (S : Store) : Prop := match J.w with
  | none => True
  | some n => S[n]? = J.c
/-- an iterator's walk, as it stays -/
def RW (w : Wh) : Hp → Pl → Wk → It → Prop := fun H p J I => ∃ (n : Nat) (G : Hp → Prop) (Y : Nat → Hp → V → Hp → Prop), n = J.xs.length ∧ Walk I n G Y ∧
  (∀ H' p' S', Sees H p H' p' → RelS w H' p' S' → stayS J S' → G H') ∧
  (∀ i H' v H'' p' S' b, Sees H p H' p' → RelS w H' p' S' → stayS J S' → Y i H' v H'' → ∃ d, J.xs[i]? = some d ∧ Post w b H' p' S' H'' p' S' ∧ Rep w H'' p' d v)
abbrev tI (w : Wh) (b : Nat) (W : WX) (f : Rho → M Wk) : TI := tX w b W (RW w) f
section
variable {X : Cx} {w : Wh} {b : Nat} {W : WX} {e a1 a2 tg : Expr} {fa fb : Rho → M D} {pos p : Pos}
theorem PI.imp {iter : Expr} {t t' : TI} (h : PI X tg iter t) (k : ∀ σ H R, t' σ H R → t σ H R) : PI X tg iter t' := ⟨fun pins s σ H R I q => h.run pins s σ H R I (k σ H R q)⟩
theorem PI.or {iter : Expr} {t t' : TI} (h : PI X tg iter t) (h' : PI X tg iter t') : PI X tg iter fun σ H R => t σ H R ∨ t' σ H R := ⟨fun pins s σ H R I q => q.elim (h.run pins s σ H R I) (h'.run pins s σ H R I)⟩
theorem rngOf_get {i : Int} {n k : Nat} (h : k < n) : (rngOf i n)[k]? = some (.int (i + (k : Nat))) := by
  unfold rngOf
  simp [h]
theorem rw_range {H : Hp} {p : Pl} {i : Int} {n : Nat} : RW w H p ⟨rngOf i n, none, none⟩ (Itr i n) := by
  refine ⟨n, _, fun k H v H' => k < n ∧ YFn (fun k => V.int (i + (k : Nat))) k H v H', by simp [rngOf], ?_, fun _ _ _ _ _ _ => True.intro, fun k H' v H'' p' S' b hs hS _ ⟨hk, hy⟩ => ?_⟩
  · exact ⟨fun k H h g => walk_range.goes k H h g, fun H g => walk_range.stops H g, fun k H x H' h g y => ⟨h, walk_range.yields k H x H' h g y⟩⟩
  · obtain ⟨rfl, rfl⟩ := hy
    exact ⟨_, rngOf_get hk, .refl hS, rfl⟩
theorem c_rng1 (hg : Gl X "range") (hm : X.mg "range" = none) (ha : PE X e (tD w b W fa)) (hs : starEach [e] X.env = (false, eval e X.env) :: starEach [] X.env) :
    PI X tg (.Call (.Name "range" p) [e] [] pos) (tI w b W fun ρ => (fa ρ).bind fun u => (match u with
    | .int j => if j ≤ (SZ : Int) ∧ -(2 ^ 62) ≤ j then M.pure ⟨rngOf 0 j.toNat, none, none⟩ else M.bad
    | _ => M.bad)) := by
  refine PI.imp (pi_range1 hg hm (pa_cons ha pa_nil hs) hs) fun σ H R ⟨ρ, p, S, N, h⟩ => ?_
  refine (step N h).mono fun v H1 ⟨p1, S1, u, N1, r1, P1, h1⟩ => ?_
  cases u <;> first | exact h1.elim | skip
  rename_i j
  by_cases hz : j ≤ (SZ : Int) ∧ -(2 ^ 62) ≤ j
  · replace h1 : Res w b W σ (RW w) H1 p1 S1 ((if j ≤ (SZ : Int) ∧ -(2 ^ 62) ≤ j then M.pure ⟨rngOf 0 j.toNat, none, none⟩ else M.bad : M Wk) S1) R := h1
    rw [if_pos hz] at h1
    refine ⟨j, by rw [show v = .int j from r1], hz.2, ?_, ?_⟩
    · have := hz.1; simp only [SZ] at this; omega
    · exact res_pure N1.s h1 rw_range
  · replace h1 : Res w b W σ (RW w) H1 p1 S1 ((if j ≤ (SZ : Int) ∧ -(2 ^ 62) ≤ j then M.pure ⟨rngOf 0 j.toNat, none, none⟩ else M.bad : M Wk) S1) R := h1
    rw [if_neg hz] at h1; exact h1.elim
theorem c_rng2 (hg : Gl X "range") (hm : X.mg "range" = none) (ha : PE X a1 (tD w b W fa)) (hb : PE X a2 (tD w b W fb)) (hs : starEach [a1, a2] X.env = (false, eval a1 X.env) :: starEach [a2] X.env) (hs2 : starEach [a2] X.env = (false, eval a2 X.env) :: starEach [] X.env) :
    PI X tg (.Call (.Name "range" p) [a1, a2] [] pos) (tI w b W fun ρ => (fa ρ).bind fun u => (fb ρ).bind fun v => (match u, v with
    | .int i, .int j => if -(2 ^ 62) ≤ i ∧ i < 2 ^ 62 ∧ -(2 ^ 62) ≤ j ∧ j < 2 ^ 62 ∧ j - i ≤ (SZ : Int) then M.pure ⟨rngOf i (j - i).toNat, none, none⟩ else M.bad
    | _, _ => M.bad)) := by
  refine PI.imp (pi_range2 hg hm (pa_cons ha (pa_cons hb pa_nil hs2) hs) (by rw [hs, hs2]; rfl) (by rw [hs2]; rfl)) fun σ H R ⟨ρ, p, S, N, h⟩ => ?_
  refine (step N h).mono fun v H1 ⟨p1, S1, u, N1, r1, P1, h1⟩ => ?_
  refine (step N1 h1).mono fun v2 H2 ⟨p2, S2, u2, N2, r2, P2, h2⟩ => ?_
  have two : ∃ i j, u = .int i ∧ u2 = .int j := by
    cases u <;> first | exact h2.elim | skip
    cases u2 <;> first | exact h2.elim | exact ⟨_, _, rfl, rfl⟩
  obtain ⟨i, j, rfl, rfl⟩ := two
  by_cases hz : -(2 ^ 62) ≤ i ∧ i < 2 ^ 62 ∧ -(2 ^ 62) ≤ j ∧ j < 2 ^ 62 ∧ j - i ≤ (SZ : Int)
  · replace h2 : Res w b W σ (RW w) H2 p2 S2 ((if -(2 ^ 62) ≤ i ∧ i < 2 ^ 62 ∧ -(2 ^ 62) ≤ j ∧ j < 2 ^ 62 ∧ j - i ≤ (SZ : Int) then M.pure ⟨rngOf i (j - i).toNat, none, none⟩ else M.bad : M Wk) S2) R := h2
    rw [if_pos hz] at h2
    refine ⟨i, j, by rw [show v = .int i from r1, show v2 = .int j from r2], ⟨hz.1, hz.2.1, hz.2.2.1, hz.2.2.2.1⟩, ?_⟩
    exact res_pure N2.s h2 rw_range
  · replace h2 : Res w b W σ (RW w) H2 p2 S2 ((if -(2 ^ 62) ≤ i ∧ i < 2 ^ 62 ∧ -(2 ^ 62) ≤ j ∧ j < 2 ^ 62 ∧ j - i ≤ (SZ : Int) then M.pure ⟨rngOf i (j - i).toNat, none, none⟩ else M.bad : M Wk) S2) R := h2
    rw [if_neg hz] at h2; exact h2.elim
/-! a value that is walked -/
abbrev iAny (K : PySem.W.Frag) (te : TE) : TI := fun σ H R => te σ H fun x H1 => (∃ a, x = .ref a ∧ (∃ xs, SqL K H1 a xs) ∧ R (Itl K a) H1) ∨ (∃ a, x = .ref a ∧ (∃ xs, SqT K H1 a xs) ∧ R (Itt K a) H1) ∨ ∃ z, x = .str z ∧ R (Its z) H1
theorem pi_any {l : Expr} {tl : TE} (hl : PE X l tl) : PI X tg l (iAny X.K tl) := by
  refine ⟨fun pins s σ H R I h => ?_⟩
  refine thn (hl.run pins s σ H _ I h) fun v s1 ⟨x, H1, I1, r1, q1⟩ => ?_
  rcases q1 with ⟨a, e, ⟨xs, hq⟩, q⟩ | ⟨a, e, ⟨xs, hq⟩, q⟩ | ⟨z, e, q⟩
  · subst e
    cases r1
    obtain ⟨its, rv, p, hz⟩ := I1.list hq
    refine wpAny_pyIter_list p.isList ?_
    refine ⟨s1.heap.objs.size, [s1.heap.objs.size], _, _, H1, rfl, I1.kept (t' := s1.toks) fun b o e => Heap.get?_push_of_some _ e, turn_list a _, ⟨_, Heap.get?_push_size _ rfl, rfl, rfl⟩, fun b hb => ?_, q⟩
    have e : b = s1.heap.objs.size := by simpa using hb
    subst e
    exact I1.fpOk (Nat.le_refl _) (I1.hok.fresh (Nat.le_refl _))
  · subst e
    cases r1
    obtain ⟨its, rv, p, hz⟩ := I1.tuple hq
    refine wpAny_pyIter_tuple (show s1.heap.IsTuple a its.toArray from p) ?_
    refine ⟨s1.heap.objs.size, [s1.heap.objs.size], _, _, H1, rfl, I1.kept (t' := s1.toks) fun b o e => Heap.get?_push_of_some _ e, turn_tuple a _, ⟨_, Heap.get?_push_size _ rfl, rfl, rfl⟩, fun b hb => ?_, q⟩
    have e : b = s1.heap.objs.size := by simpa using hb
    subst e
    exact I1.fpOk (Nat.le_refl _) (I1.hok.fresh (Nat.le_refl _))
  · subst e
    obtain ⟨t, rfl⟩ := r1
    cases ha : z.cps.all (· < 128)
    · exact wpAny_pyIter_wide ha (pi_one (tk := s1.toks) I1 _ (turn_str _ z t "str_iterator" (.inr rfl)) ⟨_, Heap.get?_push_size _ rfl, rfl, rfl⟩ q)
    · exact wpAny_pyIter_ascii ha (pi_one (tk := s1.toks) I1 _ (turn_str _ z t "str_ascii_iterator" (.inl rfl)) ⟨_, Heap.get?_push_size _ rfl, rfl, rfl⟩ q)
theorem rw_at {H : Hp} {p : Pl} {J : Wk} {I : It} {vs : List V} {G : Hp → Prop} (wk : Walk I vs.length G (YAt vs)) (r : Reps w H p J.xs vs) (g : ∀ H' p' S', Sees H p H' p' → RelS w H' p' S' → stayS J S' → G H' ∧ Reps w H' p' J.xs vs) : RW w H p J I := by
  refine ⟨vs.length, G, _, r.length.symm, wk, fun H' p' S' a c d => (g H' p' S' a c d).1, fun i H' v H'' p' S' b hs hS st hy => ?_⟩
  obtain ⟨rfl, e⟩ := hy
  obtain ⟨d, e1, e2⟩ := (g _ p' S' hs hS st).2.getV e
  exact ⟨d, e1, .refl hS, e2⟩
theorem itOf_rep {H : Hp} {p : Pl} {S : Store} {d : D} {x : V} {R : It → Hp → Prop} (hS : RelS w H p S) (r : Rep w H p d x) (h : Res w b W σ (RW w) H p S (itOf d S) R) :
    (∃ a, x = .ref a ∧ (∃ xs, SqL w.K H a xs) ∧ R (Itl w.K a) H) ∨ (∃ a, x = .ref a ∧ (∃ xs, SqT w.K H a xs) ∧ R (Itt w.K a) H) ∨ ∃ z, x = .str z ∧ R (Its z) H := by
  cases d <;> first | exact h.elim | skip
  case str s =>
    refine .inr (.inr ⟨_, r, h _ H p (.refl hS) ?_⟩)
    refine ⟨s.length, _, _, by simp, ⟨fun i H hi g => ?_, fun H g => ?_, fun i H x H' hi g y => walk_str.yields i H x H' (by simpa using hi) g y⟩, fun _ _ _ _ _ _ => True.intro, fun i H' v H'' p' S' b hs hS' _ hy => ?_⟩
    · exact walk_str.goes i H (by simpa using hi) g
    · have := (walk_str (z := (⟨s.toArray⟩ : Str))).stops H g
      simpa using this
    · obtain ⟨rfl, c, e, rfl⟩ := hy
      have e : s[i]? = some c := by simpa using e
      exact ⟨.str [c], by simp [e], .refl hS', rfl⟩
  case tup ds =>
    obtain ⟨a, vs, e, h1, r1⟩ := r
    subst e
    have k : ∀ {H' : Hp} {p' : Pl}, Sees H p H' p' → SqT w.K H' a vs := fun {H' p'} hs => by
      have r' : Rep w H' p' (.tup ds) (.ref a) := Rep.see hs _ _ ⟨a, vs, rfl, h1, r1⟩
      obtain ⟨a', vs', e, h1', r1'⟩ := r'
      cases e
      exact SqT.of (hs.kept _ _ h1.1 h1.2).1
    refine .inr (.inl ⟨a, rfl, ⟨vs, k ⟨List.prefix_refl _, fun _ _ h n => ⟨h, n⟩⟩⟩, h _ H p (.refl hS) ?_⟩)
    exact rw_at walk_tup r1 fun H' p' S' hs _ _ => ⟨k hs, Reps.see hs _ _ r1⟩
  case kt ds =>
    obtain ⟨a, vs, e, h1, r1⟩ := r
    subst e
    refine .inr (.inl ⟨a, rfl, ⟨vs, .inr h1⟩, h _ H p (.refl hS) ?_⟩)
    exact rw_at walk_tup r1 fun H' p' S' hs _ _ => ⟨.inr h1, Reps.see hs _ _ r1⟩
  case lst ds =>
    obtain ⟨a, vs, e, h1, n, r1⟩ := r
    subst e
    refine .inl ⟨a, rfl, ⟨vs, SqL.of h1⟩, h _ H p (.refl hS) ?_⟩
    exact rw_at walk_list r1 fun H' p' S' hs _ _ => ⟨SqL.of (hs.kept _ _ h1 n).1, Reps.see hs _ _ r1⟩
  case scr ds =>
    obtain ⟨a, vs, e, h1, h2, r1⟩ := r
    subst e
    refine .inl ⟨a, rfl, ⟨vs, h1⟩, h _ H p (.refl hS) ?_⟩
    refine rw_at walk_list r1 fun H' p' S' hs _ _ => ⟨?_, Reps.see hs _ _ r1⟩
    rcases h2 with h2 | h2
    · exact .inl (hs.rd h2).1
    · exact h2 H'
  case ref n =>
    obtain ⟨a, e1, e2⟩ := r
    obtain ⟨c, e3, e4⟩ := hS.cell e2
    subst e1
    cases c with
    | lst ds =>
      simp only [itOf, e3] at h
      obtain ⟨vs, h1, r1⟩ := e4
      refine .inl ⟨a, rfl, ⟨vs, SqL.of h1⟩, h _ H p (.refl hS) ?_⟩
      have look : ∀ H' p' S', Sees H p H' p' → RelS w H' p' S' → S'[n]? = some (.lst ds) → ∃ us, H' a = some (.lst us) ∧ Reps w H' p' ds us := fun H' p' S' hs hS' e => hS'.cells n a _ (getElem?_prefix hs.pre e2) e
      refine ⟨ds.length, fun H => ∃ us, SqL w.K H a us ∧ us.length = ds.length, fun i H x H' => H' = H ∧ ∀ us, SqL w.K H a us → us[i]? = some x, rfl,
        ⟨fun i H hi ⟨us, g1, g2⟩ => ⟨us, us[i], g1, by simp⟩, fun H ⟨us, g1, g2⟩ => ⟨us, g1, by omega⟩, fun i H x H' hi g y => y⟩, fun H' p' S' hs hS' st => ?_, fun i H' v H'' p' S' b hs hS' st y => ?_⟩
      · obtain ⟨us, q1, q2⟩ := look H' p' S' hs hS' st
        exact ⟨us, SqL.of q1, q2.length.symm⟩
      · obtain ⟨us, q1, q2⟩ := look H' p' S' hs hS' st
        obtain ⟨rfl, y⟩ := y
        obtain ⟨d, k1, k2⟩ := q2.getV (y us (SqL.of q1))
        exact ⟨d, k1, .refl hS', k2⟩
    | dct ks vs => simp only [itOf, e3] at h; exact h.elim
    | ins c ns vs => simp only [itOf, e3] at h; exact h.elim
theorem c_itv (hK : X.K = w.K) (h : PE X e (tD w b W fa)) : PI X tg e (tI w b W fun ρ => (fa ρ).bind fun u => itOf u) := by
  refine PI.imp (pi_any h) fun σ H R ⟨ρ, p, S, N, h⟩ => ?_
  refine (step N h).mono fun x H1 ⟨p1, S1, u, N1, r1, P1, h1⟩ => ?_
  rw [hK]
  exact itOf_rep N1.s r1 h1
end
end CI
end
section
set_option Elab.async false
set_option linter.all false
set_option maxRecDepth 100000
/-! ## CI: targets -/
namespace CI
open PySem PySem.Spec PyProof.Rows L2

abbrev noW : WX := fun _ _ _ _ => False
def Only (is : List Nat) (σ σ' : L2.St) : Prop := σ'.length = σ.length ∧ ∀ i, i ∉ is → σ'[i]? = σ[i]?
/-- what a store to targets promises -/
def ResG (w : Wh) (b : Nat) (is : List Nat) (σ : L2.St) (H : Hp) (p : Pl) (S : Store) (r : R Rho) (Q : L2.St → Hp → Prop) : Prop :=
  ∃ ρ' S', r = .ok ρ' S' ∧ ∀ σ' H' p', Post w b H p S H' p' S' → RelE w H' p' σ' ρ' → Only is σ σ' → Q σ' H'
/-- a store to a target, by contents -/
def tG (w : Wh) (b : Nat) (is : List Nat) (f : D → Rho → M Rho) : TG := fun v σ H Q => ∃ d ρ p S, Now w b H p S σ ρ ∧ Rep w H p d v ∧ ResG w b is σ H p S (f d ρ S) Q
def tGs (w : Wh) (b : Nat) (is : List Nat) (f : List D → Rho → M Rho) : TGs := fun vs σ H Q => ∃ ds ρ p S, Now w b H p S σ ρ ∧ Reps w H p ds vs ∧ ResG w b is σ H p S (f ds ρ S) Q
theorem bind_ok {α β : Type} {m : M α} {k : α → M β} {S S' : Store} {y : β} (h : m.bind k S = .ok y S') : ∃ a S1, m S = .ok a S1 ∧ k a S1 = .ok y S' := by
  unfold M.bind at h
  cases e : m S with
  | ok a S1 => rw [e] at h; exact ⟨a, S1, rfl, h⟩
  | ex c d S1 => rw [e] at h; cases h
  | bad => rw [e] at h; cases h
theorem lift_ok {α : Type} {o : Option α} {S S' : Store} {y : α} (h : M.lift o S = .ok y S') : o = some y ∧ S' = S := by
  cases o with
  | some a => cases h; exact ⟨rfl, rfl⟩
  | none => cases h
theorem get_ok {α : Type} {g : Store → Option α} {S S' : Store} {y : α} (h : M.get g S = .ok y S') : g S = some y ∧ S' = S := by
  unfold M.get at h
  cases e : g S with
  | some a => rw [e] at h; cases h; exact ⟨rfl, rfl⟩
  | none => rw [e] at h; cases h
theorem calm_ok {α : Type} {m : M α} {S S' : Store} {y : α} (h : M.calm m S = .ok y S') : m S = .ok y S' := by
  unfold M.calm at h
  cases e : m S with
  | ok a S1 => rw [e] at h; exact h
  | ex c d S1 => rw [e] at h; cases h
  | bad => rw [e] at h; cases h
section
variable {α β : Type} {w : Wh} {b : Nat} {W : WX} {σ : L2.St} {Ra : Hp → Pl → α → β → Prop} {H : Hp} {p : Pl} {S : Store} {Q : β → Hp → Prop}
theorem Res.of_ok {r : R α} {a : α} {S' : Store} (e : r = .ok a S') (h : ∀ v H' p', Post w b H p S H' p' S' → Ra H' p' a v → Q v H') : Res w b W σ Ra H p S r Q := by
  rw [e]; exact h
theorem Res.calm {m : M α} (h : Res w b W σ Ra H p S (M.calm m S) Q) : ∃ a S', m S = .ok a S' ∧ ∀ v H' p', Post w b H p S H' p' S' → Ra H' p' a v → Q v H' := by
  unfold M.calm at h
  cases e : m S with
  | ok a S1 => rw [e] at h; exact ⟨a, S1, rfl, h⟩
  | ex c d S1 => rw [e] at h; exact h.elim
  | bad => rw [e] at h; exact h.elim
theorem Res.stay {J : Wk} {k : Unit → M α} (h : Res w b W σ Ra H p S ((stays J).bind k S) Q) : stayS J S ∧ Res w b W σ Ra H p S (k () S) Q := by
  unfold M.bind stays at h
  unfold stayS
  cases e : J.w with
  | none => simp only [e] at h; exact ⟨True.intro, h⟩
  | some n =>
    simp only [e] at h
    by_cases hc : S[n]? = J.c
    · rw [if_pos hc] at h; exact ⟨hc, h⟩
    · rw [if_neg hc] at h; exact h.elim
end
section
variable {X : Cx} {w : Wh} {b : Nat} {W : WX} {e o i tg iter elt : Expr} {es : List Expr} {fa fo fi : Rho → M D} {pos p : Pos} {g : D → Rho → M Rho} {gs : List D → Rho → M Rho} {is js : List Nat}
theorem PGs.imp {ts : List Expr} {t t' : TGs} (h : PGs X ts t) (k : ∀ vs σ H Q, t' vs σ H Q → t vs σ H Q) : PGs X ts t' := ⟨fun pins s σ H vs us Q I r q => h.run pins s σ H vs us Q I r (k vs σ H Q q)⟩
theorem relE_set {H : Hp} {p : Pl} {σ : L2.St} {ρ : Rho} {n : Nat} {d : D} {v : V} (h : RelE w H p σ ρ) (r : Rep w H p d v) : RelE w H p (σ.set n (some v)) (ρ.set n (some d)) := by
  refine ⟨by simp [h.1], fun i d' e => ?_⟩
  by_cases hi : n = i
  · subst hi
    by_cases hl : n < ρ.length
    · rw [List.getElem?_set_self hl] at e
      cases e
      exact ⟨v, by rw [List.getElem?_set_self (by rw [← h.1]; exact hl)], r⟩
    · rw [List.getElem?_eq_none (by simpa using hl)] at e; cases e
  · rw [List.getElem?_set_ne hi] at e ⊢
    exact h.2 i d' e
theorem only_set {σ : L2.St} {n : Nat} {o : Option V} : Only [n] σ (σ.set n o) := ⟨by simp, fun i h => List.getElem?_set_ne (by rintro rfl; exact h (by simp))⟩
theorem Only.refl {σ : L2.St} : Only is σ σ := ⟨rfl, fun _ _ => rfl⟩
theorem Only.trans {σ σ1 σ2 : L2.St} (h : Only is σ σ1) (k : Only js σ1 σ2) : Only (is ++ js) σ σ2 :=
  ⟨k.1.trans h.1, fun i z => (k.2 i fun q => z (List.mem_append_right _ q)).trans (h.2 i fun q => z (List.mem_append_left _ q))⟩
theorem resG_pure {H : Hp} {p : Pl} {S : Store} {σ σ' : L2.St} {ρ' : Rho} {Q : L2.St → Hp → Prop} (N : RelS w H p S) (h : ResG w b is σ H p S (M.pure ρ' S) Q) (r : RelE w H p σ' ρ') (o : Only is σ σ') : Q σ' H := by
  obtain ⟨ρ1, S1, e, h⟩ := h
  cases e
  exact h σ' H p (.refl N) r o
theorem c_tnm {n : Nat} {x : Str} (h : PG X (.Name x pos) (gName n)) : PG X (.Name x pos) (tG w b [n] fun d ρ => M.pure (ρ.set n (some d))) :=
  PG.imp h fun v σ H Q ⟨d, ρ, p, S, N, r, h⟩ => resG_pure N.s h (relE_set N.e r) only_set
theorem c_tnil : PGs X [] (tGs w b [] fun ds ρ => (match ds with
    | [] => M.pure ρ
    | _ => M.bad)) := PGs.imp pgs_nil fun vs σ H Q ⟨ds, ρ, p, S, N, r, h⟩ => by
  cases ds with
  | nil => exact ⟨r, resG_pure N.s h N.e .refl⟩
  | cons _ _ => obtain ⟨_, _, e, _⟩ := h; cases e
theorem c_tcons (h1 : PG X e (tG w b is g)) (h2 : PGs X es (tGs w b js gs)) (hs : (assignEach (e :: es) X.env).map (·.2) = assign e X.env :: (assignEach es X.env).map (·.2)) :
    PGs X (e :: es) (tGs w b (is ++ js) fun ds ρ => (match ds with
    | d :: ds => (g d ρ).bind fun ρ1 => gs ds ρ1
    | [] => M.bad)) := by
  refine PGs.imp (pgs_cons h1 h2 hs) fun vs σ H Q ⟨ds, ρ, p, S, N, r, h⟩ => ?_
  cases ds with
  | nil => obtain ⟨_, _, e, _⟩ := h; cases e
  | cons d ds =>
    obtain ⟨v, us, rfl, r1, r2⟩ := r
    obtain ⟨ρ2, S2, e, q⟩ := h
    obtain ⟨ρ1, S1, e1, e2⟩ := bind_ok e
    refine ⟨v, us, rfl, d, ρ, p, S, N, r1, ρ1, S1, e1, fun σ1 H1 p1 P k1 o1 => ?_⟩
    refine ⟨ds, ρ1, p1, S1, ⟨k1, P.rel, Nat.le_trans N.hb P.grow, P.low b (Nat.le_refl _) N.lo⟩, Reps.ext P.ext _ _ r2, ρ2, S2, e2, fun σ2 H2 p2 P2 k2 o2 => ?_⟩
    exact q σ2 H2 p2 (P.trans P2) k2 (o1.trans o2)
theorem c_ttup {k n : Nat} (hK : X.K = w.K) (hc : X.calm = true) (h : PGs X es (tGs w b is gs)) (hn : (assignEach es X.env).length = n) (hst : (assignEach es X.env).findIdx? (·.1) = none) (hl : ∀ ds ρ S ρ' S', gs ds ρ S = .ok ρ' S' → ds.length = n) :
    PG X (.Tuple es k pos) (tG w b is fun d ρ => (match d with
    | .tup ds => gs ds ρ
    | _ => M.bad)) := by
  refine PG.imp (pg_tup hc h hn hst) fun v σ H Q ⟨d, ρ, p, S, N, r, ρ', S', e, q⟩ => ?_
  cases d <;> first | (cases e; done) | skip
  rename_i ds
  obtain ⟨a, vs, rfl, h1, h2⟩ := id r.sqT
  exact ⟨a, vs, rfl, by rw [hK]; exact h1, by rw [← h2.length]; exact hl _ _ _ _ _ e, ds, ρ, p, S, N, h2, ρ', S', e, q⟩
/-! ### dicts -/
theorem putK_rep {H : Hp} {p : Pl} {ks vs : List D} {kvs : List (Key × V)} {x y : D} {k : Key} {z : V} (hk : kDs ks = some (kvs.map (·.1))) (hv : Reps w H p vs (kvs.map (·.2))) (hx : kD x = some k) (r : Rep w H p y z) :
    kDs (dPut ks vs x y).1 = some ((putK kvs k z).map (·.1)) ∧ Reps w H p (dPut ks vs x y).2 ((putK kvs k z).map (·.2)) := by
  have main : ∀ (ks vs : List D) (kvs : List (Key × V)), kDs ks = some (kvs.map (·.1)) → Reps w H p vs (kvs.map (·.2)) →
      (ks.any (fun k => keyEq k x) = kvs.any (fun kv => decide (kv.1 = k))) ∧ Reps w H p (repV ks vs x y) ((kvs.map (fun kv => if kv.1 = k then (kv.1, z) else kv)).map (·.2)) ∧ kDs (ks ++ [x]) = some ((kvs ++ [(k, z)]).map (·.1)) := by
    intro ks
    induction ks with
    | nil =>
      intro vs kvs hk hv
      have : kvs = [] := List.map_eq_nil_iff.mp (Option.some.inj (show some ([] : List Key) = some _ from hk)).symm
      subst this
      refine ⟨rfl, rfl, ?_⟩
      show kDs [x] = some [k]
      simp [kDs, hx]
    | cons d ds ih =>
      intro vs kvs hk hv
      unfold kDs at hk
      cases e1 : kD d with
      | none => rw [e1] at hk; cases hk
      | some k1 =>
        cases e2 : kDs ds with
        | none => rw [e1, e2] at hk; cases hk
        | some ks' =>
          rw [e1, e2] at hk
          have hk' : k1 :: ks' = kvs.map (·.1) := Option.some.inj hk
          cases kvs with
          | nil => cases hk'
          | cons kv kvs =>
            obtain ⟨kk, vv⟩ := kv
            rw [List.map_cons] at hk' hv
            injection hk' with h1 h2
            have h1' : k1 = kk := h1
            subst h1'
            cases vs with
            | nil => cases hv
            | cons v0 vs =>
              obtain ⟨vx, us, e5, r1, r2⟩ := hv
              injection e5 with e6 e7
              have e6' : vv = vx := e6
              subst e6'
              subst e7
              obtain ⟨i1, i2, i3⟩ := ih vs kvs (by rw [e2, h2]) r2
              have hq := kD_eq e1 hx
              refine ⟨?_, ?_, ?_⟩
              · rw [List.any_cons, List.any_cons, i1, hq]
              · rw [List.map_cons, List.map_cons]
                unfold repV
                refine Reps.cons ?_ i2
                rw [hq]
                by_cases hkk : k1 = k
                · simp only [hkk, decide_true, if_true]; exact r
                · simp only [hkk, decide_false, if_false]; exact r1
              · rw [List.cons_append, List.cons_append, List.map_cons]
                unfold kDs
                rw [e1, i3]
  obtain ⟨m1, m2, m3⟩ := main ks vs kvs hk hv
  unfold dPut putK
  rw [m1]
  by_cases hc : (kvs.any fun kv => decide (kv.1 = k)) = true
  · rw [if_pos hc, if_pos hc]
    refine ⟨?_, m2⟩
    rw [hk]
    congr 1
    rw [List.map_map]
    refine List.map_congr_left fun kv _ => ?_
    show kv.1 = (if kv.1 = k then (kv.1, z) else kv).1
    split <;> rfl
  · rw [if_neg hc, if_neg hc]
    refine ⟨m3, ?_⟩
    rw [List.map_append]
    exact hv.append (.one r)
theorem repV_low {n : Nat} : ∀ {ks vs : List D} {x y : D}, D.lows n vs = true → y.low n = true → D.lows n (repV ks vs x y) = true
  | k :: ks, v :: vs, x, y, h, q => by
    unfold D.lows at h
    rw [Bool.and_eq_true] at h
    unfold repV D.lows
    rw [Bool.and_eq_true]
    refine ⟨?_, repV_low h.2 q⟩
    split
    · exact q
    · exact h.1
  | [], _, _, _, _, _ => by unfold repV; rfl
  | _ :: _, [], _, _, _, _ => by unfold repV; rfl
theorem dPut_low {n : Nat} {ks vs : List D} {x y : D} (h1 : D.lows n ks = true) (h2 : D.lows n vs = true) (hx : x.low n = true) (hy : y.low n = true) : D.lows n (dPut ks vs x y).1 = true ∧ D.lows n (dPut ks vs x y).2 = true := by
  unfold dPut
  split
  · exact ⟨h1, repV_low h2 hy⟩
  · simp [D.lows_append, h1, h2, D.lows, hx, hy]
theorem set_low {n j : Nat} {ds : List D} {d : D} (h : D.lows n ds = true) (hd : d.low n = true) : D.lows n (ds.set j d) = true := by
  rw [D.lows_all] at h ⊢
  intro x hx
  rcases List.mem_or_eq_of_mem_set hx with z | z
  · exact h x z
  · rw [z]; exact hd
/-! ### o[i] = e -/
abbrev rSetA : TSet := fun o i v H Q => rSetL o i v H Q ∨ ∃ a H', Alt H a H' ∧ rSetD o i v H' Q
theorem set_all (hu : X.A.units + 1 < cLine) : PSet X rSetA := fun pins s σ H o i v ov iv u Q I ro ri rv h => h.elim (set_list pins s σ H o i v ov iv u Q I ro ri rv) (pSet_alt (set_dict hu) pins s σ H o i v ov iv u Q I ro ri rv)
theorem setD_rep {H : Hp} {p : Pl} {S S' : Store} {u iv d : D} {x y z : V} {Q : Hp → Prop} (hS : RelS w H p S) (lo : LowS b S) (ru : Rep w H p u x) (ri : Rep w H p iv y) (rd : Rep w H p d z) (e : setD b u iv d S = .ok () S')
    (q : ∀ H' p', Post w b H p S H' p' S' → Q H') : rSetA x y z H Q := by
  cases u <;> first | (cases e; done) | skip
  rename_i n
  obtain ⟨a, rfl, ea⟩ := ru
  obtain ⟨c, hn, hc⟩ := hS.cell ea
  have ext : ∀ o, Ext H p (upd H a o) p := fun o => .write (List.mem_of_getElem? ea)
  cases c with
  | ins c ns vs => simp only [setD, hn] at e; cases iv <;> cases e
  | lst ds =>
    cases iv <;> first | (simp only [setD, hn] at e; cases e; done) | skip
    rename_i k
    simp only [setD, hn] at e
    cases hx : ixOf ds.length k with
    | none => simp only [hx] at e; cases e
    | some j =>
      simp only [hx] at e
      by_cases hm : mayPut b n d = true
      · rw [if_pos hm] at e
        cases e
        obtain ⟨vs, h1, h2⟩ := hc
        refine .inl ⟨a, vs, k, j, rfl, ri, h1, by rw [ixN_eq, ← h2.length]; exact hx, q _ p ?_⟩
        refine post_write hS ea ⟨_, upd_same, Reps.set (Rep.ext (ext _) _ _ rd) j (Reps.ext (ext _) _ _ h2)⟩ fun b' hb' lo' hlt => ?_
        exact set_low (lo' n _ hlt hn) (mayPut_low hm hb' hlt)
      · rw [if_neg hm] at e; cases e
  | dct ks vs =>
    have e : (if fitsK true ks iv = true ∧ ks.length < SZ ∧ mayPut b n d = true ∧ mayPut b n iv = true then (.ok () (S.set n (.dct (dPut ks vs iv d).1 (dPut ks vs iv d).2)) : R Unit) else .bad) = .ok () S' := by
      simp only [setD, hn] at e
      cases iv <;> exact e
    by_cases hm : fitsK true ks iv = true ∧ ks.length < SZ ∧ mayPut b n d = true ∧ mayPut b n iv = true
    · rw [if_pos hm] at e
      cases e
      obtain ⟨m1, m2, m3, m4⟩ := hm
      have hl : ks.length < sizeLine := by rw [sz_line]; exact m2
      have lows : ∀ b', b' ≤ b → LowS b' S → n < b' → Cell.low b' (.dct (dPut ks vs iv d).1 (dPut ks vs iv d).2) = true := fun b' hb' lo' hlt => by
        have l0 : (D.lows b' ks && D.lows b' vs) = true := lo' n _ hlt hn
        rw [Bool.and_eq_true] at l0
        obtain ⟨l1, l2⟩ := dPut_low (x := iv) (y := d) l0.1 l0.2 (mayPut_low m4 hb' hlt) (mayPut_low m3 hb' hlt)
        show (D.lows b' _ && D.lows b' _) = true
        simp [l1, l2]
      rcases fitsK_cases m1 with ⟨⟨k, hk⟩, hs⟩ | ⟨_, ⟨k, hk⟩, hs⟩
      · have go : ∀ {H0 : Hp} {kvs : List (Key × V)}, Alt H a H0 → H0 a = some (.dK kvs) → upd H0 a (.dK (putK kvs k z)) = upd H a (.dK (putK kvs k z)) → kDs ks = some (kvs.map (·.1)) → Reps w H p vs (kvs.map (·.2)) → rSetA (.ref a) y z H Q := by
          intro H0 kvs al q1 hu q2 q3
          obtain ⟨p1, p2⟩ := putK_rep q2 q3 hk rd
          have hl' : kvs.length < sizeLine := by rw [kDs_length q2, List.length_map] at hl; exact hl
          refine .inr ⟨a, H0, al, a, _, rfl, (by rw [kD_rep ri hk]; exact .k q1 hl'), ?_⟩
          rw [hu]
          exact q _ p (post_write hS ea (.inl ⟨_, upd_same, p1, Reps.ext (ext _) _ _ p2⟩) lows)
        rcases hc with ⟨kvs, q1, q2, q3⟩ | ⟨kvs, q1, q2, q3⟩
        · exact go (.inl rfl) q1 rfl q2 q3
        · cases ks with
          | nil =>
            have hkv : kvs = [] := List.map_eq_nil_iff.mp (Option.some.inj q2).symm
            subst hkv
            exact go (kvs := []) (.inr (.inr ⟨q1, rfl⟩)) upd_same upd_upd rfl q3
          | cons k0 ks =>
            exfalso
            have z := kTs_sort q2 k0 (by simp)
            rw [hs k0 (by simp)] at z; cases z
      · obtain ⟨b2, ey, eb, nb⟩ := kT_rep ri hk
        subst ey
        have go : ∀ {H0 : Hp} {kvs : List (List Key × V)}, Alt H a H0 → H0 a = some (.dT kvs) → H0 b2 = H b2 → upd H0 a (.dT (putK kvs k z)) = upd H a (.dT (putK kvs k z)) → kTs ks = some (kvs.map (·.1)) → Reps w H p vs (kvs.map (·.2)) → rSetA (.ref a) (.ref b2) z H Q := by
          intro H0 kvs al q1 hb2 hu q2 q3
          obtain ⟨p1, p2⟩ := putT_rep q2 q3 hk rd
          have hl' : kvs.length < sizeLine := by
            have e1 : ks.length = kvs.length := by
              have : ∀ {ks : List D} {l : List (List Key)}, kTs ks = some l → ks.length = l.length := by
                intro ks
                induction ks with
                | nil => intro l h; cases h; rfl
                | cons x xs ih =>
                  intro l h
                  unfold kTs at h
                  cases e1 : kT x with
                  | none => rw [e1] at h; cases h
                  | some k1 =>
                    cases e2 : kTs xs with
                    | none => rw [e1, e2] at h; cases h
                    | some r => rw [e1, e2] at h; cases h; simp [ih e2]
              rw [this q2, List.length_map]
            rw [e1] at hl; exact hl
          refine .inr ⟨a, H0, al, a, _, rfl, .t q1 (by rw [hb2]; exact eb) hl', ?_⟩
          rw [hu]
          exact q _ p (post_write hS ea (.inr ⟨_, upd_same, p1, Reps.ext (ext _) _ _ p2⟩) lows)
        rcases hc with ⟨kvs, q1, q2, q3⟩ | ⟨kvs, q1, q2, q3⟩
        · cases ks with
          | nil =>
            have hkv : kvs = [] := List.map_eq_nil_iff.mp (Option.some.inj q2).symm
            subst hkv
            have ne : b2 ≠ a := fun z => by rw [z, q1] at eb; cases eb
            exact go (kvs := []) (.inr (.inl ⟨q1, rfl⟩)) upd_same (by rw [upd_ne ne]) upd_upd rfl q3
          | cons k0 ks =>
            exfalso
            have z := (kDs_sort q2 k0 (by simp)).1
            rw [hs k0 (by simp)] at z; cases z
        · exact go (.inl rfl) q1 rfl rfl q2 q3
    · rw [if_neg hm] at e; cases e
theorem c_tsub (hu : X.A.units + 1 < cLine) (ho : PE X o (tD w b W fo)) (hi : PE X i (tD w b W fi)) (ha : ∀ v, assign (.Subscript o i pos) X.env v = (do
      let ov ← holding [v] (eval o X.env)
      let iv ← holding [v, ov] (eval i X.env)
      standAt pos
      holding [v, ov, iv] (setItem ov iv v)
      release [v, ov, iv] [])) :
    PG X (.Subscript o i pos) (tG w b [] fun d ρ => (fo ρ).bind fun u => (fi ρ).bind fun v => (setD b u v d).bind fun _ => M.pure ρ) := by
  refine PG.imp (pg_sub ho hi (set_all hu) ha) fun v σ H Q ⟨d, ρ, p, S, N, r, ρ', S', e, q⟩ => ?_
  obtain ⟨u, S1, e1, e⟩ := bind_ok e
  obtain ⟨iv, S2, e2, e⟩ := bind_ok e
  obtain ⟨_, S3, e3, e⟩ := bind_ok e
  cases e
  refine ⟨ρ, p, S, N, .of_ok e1 fun x H1 p1 P1 r1 => ⟨ρ, p1, S1, N.post P1, .of_ok e2 fun y H2 p2 P2 r2 => ?_⟩⟩
  have N2 := (N.post P1).post P2
  refine setD_rep N2.s N2.lo (Rep.ext P2.ext _ _ r1) r2 (Rep.ext P2.ext _ _ (Rep.ext P1.ext _ _ r)) e3 fun H3 p3 P3 => ?_
  exact q σ H3 p3 ((P1.trans P2).trans P3) (N2.post P3).e .refl
/-! ### methods of lists and dicts -/
def BmC (w : Wh) (b : Nat) (r : V → List V → Hp → VK → Prop) (m : Bm) : Prop :=
  ∀ (W : WX) (σ : L2.St) (H : Hp) (p : Pl) (S : Store) (u : D) (ds : List D) (x : V) (vs : List V) (Q : VK), RelS w H p S → LowS b S → Rep w H p u x → Reps w H p ds vs → Res w b W σ (RD w) H p S (bmM b m u ds S) Q → r x vs H Q
theorem bm_append : BmC w b rAppend .append := by
  intro W σ H p S u ds x vs Q hS lo ru rs h
  cases u <;> first | exact h.elim | skip
  rename_i n
  match ds with
  | [] => exact h.elim
  | _ :: _ :: _ => exact h.elim
  | [d] =>
    obtain ⟨z, rfl, rd⟩ := reps1 rs
    obtain ⟨a, rfl, ea⟩ := ru
    obtain ⟨c, hn, hc⟩ := hS.cell ea
    have ext : ∀ o, Ext H p (upd H a o) p := fun o => .write (List.mem_of_getElem? ea)
    cases c with
    | ins c ns vs => simp only [bmM, hn] at h; exact h.elim
    | dct ks vs => simp only [bmM, hn] at h; exact h.elim
    | lst ds =>
      simp only [bmM, hn] at h
      by_cases hm : ds.length < SZ ∧ mayPut b n d = true
      · rw [if_pos hm] at h
        obtain ⟨vs, h1, h2⟩ := hc
        refine ⟨a, vs, z, rfl, rfl, h1, by rw [sz_line, ← h2.length]; exact hm.1, h .non _ p ?_ rfl⟩
        refine post_write hS ea ⟨_, upd_same, (Reps.ext (ext _) _ _ h2).append (.one (Rep.ext (ext _) _ _ rd))⟩ fun b' hb' lo' hlt => ?_
        have l0 : D.lows b' ds = true := lo' n _ hlt hn
        show D.lows b' (ds ++ [d]) = true
        simp [D.lows_append, l0, D.lows, mayPut_low hm.2 hb' hlt]
      · rw [if_neg hm] at h; exact h.elim
theorem bm_pop : BmC w b rPop .pop := by
  intro W σ H p S u ds x vs Q hS lo ru rs h
  cases u <;> first | exact h.elim | skip
  rename_i n
  match ds with
  | _ :: _ => exact h.elim
  | [] =>
    have := rs
    obtain rfl : vs = [] := rs
    obtain ⟨a, rfl, ea⟩ := ru
    obtain ⟨c, hn, hc⟩ := hS.cell ea
    have ext : ∀ o, Ext H p (upd H a o) p := fun o => .write (List.mem_of_getElem? ea)
    cases c with
    | ins c ns vs => simp only [bmM, hn] at h; exact h.elim
    | dct ks vs => simp only [bmM, hn] at h; exact h.elim
    | lst ds =>
      simp only [bmM, hn] at h
      obtain ⟨vs, h1, h2⟩ := hc
      cases hy : ds[ds.length - 1]? with
      | none => simp only [hy] at h; exact h.elim
      | some y =>
        simp only [hy] at h
        obtain ⟨z, k1, k2⟩ := h2.get hy
        refine ⟨a, vs, z, rfl, rfl, h1, by rw [← h2.length]; exact k1, h z _ p ?_ (Rep.ext (ext _) _ _ k2)⟩
        refine post_write hS ea ⟨_, upd_same, (Reps.ext (ext _) _ _ h2).dropLast⟩ fun b' hb' lo' hlt => ?_
        have l0 : D.lows b' ds = true := lo' n _ hlt hn
        show D.lows b' ds.dropLast = true
        rw [D.lows_all] at l0 ⊢
        exact fun d hd => l0 d (List.dropLast_subset ds hd)
end
end CI
end
section
set_option Elab.async false
set_option linter.all false
set_option maxRecDepth 100000
/-! ## CI: methods, comprehensions -/
namespace CI
open PySem PySem.Spec PyProof.Rows L2
section
variable {X : Cx} {w : Wh} {b : Nat} {W : WX} {e o i tg iter elt : Expr} {es ifs : List Expr} {fa fo fi fe : Rho → M D} {ft : Rho → M Bool} {fJ : Rho → M Wk} {fs : Rho → M (List D)} {pos p apos cpos : Pos} {g : D → Rho → M Rho} {is js : List Nat}
theorem ty_lst (hK : X.K = w.K) {H : Hp} {p : Pl} {S : Store} {u : D} {x : V} {ds : List D} (hS : RelS w H p S) (r : Rep w H p u x) (h : lstOf S u = some ds) : tyV X.K "list" x H := by
  obtain ⟨a, vs, rfl, h1, h2⟩ := lstOf_rep hS r h
  exact .inl ⟨rfl, vs, SqL.of h1⟩
theorem c_bmL {name : Str} {id : String} {r : V → List V → Hp → VK → Prop} {m : Bm} (hK : X.K = w.K) (hm : m = .append ∨ m = .extend ∨ m = .pop) (slot : Slot "list" name id) (hty : typeOf (.builtin id) = pure (.type "method_descriptor")) (hr : MtR X id r) (hc : BmC w b r m)
    (ho : PE X o (tD w b W fo)) (ha : PA X (e :: es) (tDs w b W fs)) (hbase : attributeBase o name X.env (eval o X.env) = eval o X.env)
    (hfew : ((backTo cpos (starEach (e :: es) X.env)).all (fun x => !x.1) && (backToKw cpos (keywordEach [] X.env)).all (fun x => x.1.isSome)
      && decide ((e :: es).length + ([] : List Keyword).length + (if ([] : List Keyword).isEmpty then 0 else 1) < 30)) = true)
    (hline : (apos.endLine == cpos.line) = true) (hs : starEach (e :: es) X.env = (false, eval e X.env) :: starEach es X.env) (hplain : (backTo cpos (starEach es X.env)).any (·.1) = false) :
    PE X (.Call (.Attribute o name apos) (e :: es) [] cpos) (tD w b W fun ρ => (fo ρ).bind fun u => (M.get fun S => bmTy S m u).bind fun _ => (fs ρ).bind fun ds => bmM b m u ds) := by
  refine PE.imp (pe_bm PySem.F.plainAttrs_list slot hty hr ho ha hbase hfew hline hs hplain) fun σ H Q ⟨ρ, p, S, N, h⟩ => ?_
  refine (step N h).mono fun x H1 ⟨p1, S1, u, N1, r1, P1, h1⟩ => ?_
  obtain ⟨_, e1, h1⟩ := res_get h1
  have : ∃ ds, lstOf S1 u = some ds := by
    rcases hm with rfl | rfl | rfl <;>
    · cases hl : lstOf S1 u with
      | some ds => exact ⟨ds, rfl⟩
      | none => simp only [bmTy, hl] at e1; cases e1
  obtain ⟨ds, hl⟩ := this
  refine ⟨ty_lst hK N1.s r1 hl, ?_⟩
  refine (step N1 h1).mono fun xs H2 ⟨p2, S2, us, N2, r2, P2, h2⟩ => ?_
  exact hc W σ H2 p2 S2 u us x xs Q N2.s N2.lo (Rep.ext P2.ext _ _ r1) r2 h2
theorem c_bmL0 {name : Str} {id : String} {r : V → List V → Hp → VK → Prop} {m : Bm} (hK : X.K = w.K) (hm : m = .append ∨ m = .extend ∨ m = .pop) (slot : Slot "list" name id) (hty : typeOf (.builtin id) = pure (.type "method_descriptor")) (hr : MtR X id r) (hc : BmC w b r m)
    (ho : PE X o (tD w b W fo)) (hbase : attributeBase o name X.env (eval o X.env) = eval o X.env) (hline : (apos.endLine == cpos.line) = true) :
    PE X (.Call (.Attribute o name apos) [] [] cpos) (tD w b W fun ρ => (fo ρ).bind fun u => (M.get fun S => bmTy S m u).bind fun _ => (M.pure ([] : List D)).bind fun ds => bmM b m u ds) := by
  refine PE.imp (pe_bm0 PySem.F.plainAttrs_list slot hty hr ho hbase hline) fun σ H Q ⟨ρ, p, S, N, h⟩ => ?_
  refine (step N h).mono fun x H1 ⟨p1, S1, u, N1, r1, P1, h1⟩ => ?_
  obtain ⟨_, e1, h1⟩ := res_get h1
  have : ∃ ds, lstOf S1 u = some ds := by
    rcases hm with rfl | rfl | rfl <;>
    · cases hl : lstOf S1 u with
      | some ds => exact ⟨ds, rfl⟩
      | none => simp only [bmTy, hl] at e1; cases e1
  obtain ⟨ds, hl⟩ := this
  exact ⟨ty_lst hK N1.s r1 hl, hc W σ H1 p1 S1 u [] x [] Q N1.s N1.lo r1 rfl h1⟩
/-! d.get(k, x) -/
theorem isD_rep {H : Hp} {p : Pl} {S : Store} {u : D} {x : V} {kv : List D × List D} (hS : RelS w H p S) (r : Rep w H p u x) (h : dctOf S u = some kv) : ∃ a, x = .ref a ∧ IsD H a := by
  obtain ⟨ks, vs⟩ := kv
  obtain ⟨a, rfl, ⟨kvs, h1, _⟩ | ⟨kvs, h1, _⟩, _⟩ := dctOf_rep hS r h
  · exact ⟨a, rfl, .inl ⟨kvs, .inl h1⟩⟩
  · exact ⟨a, rfl, .inr ⟨kvs, .inl h1⟩⟩
theorem c_get2 {f : Expr} (hu : X.A.units + 1 < cLine) (ho : PE X o (tD w b W fo)) (he : PE X e (tD w b W fa)) (hf : PE X f (tD w b W fi)) (m : M2 X o "get" apos e f cpos) :
    PE X (.Call (.Attribute o "get" apos) [e, f] [] cpos) (tD w b W fun ρ => (fo ρ).bind fun u => (M.get fun S => bmTy S .get u).bind fun _ => ((fa ρ).bind fun k => ((fi ρ).bind fun z => (M.pure ([] : List D)).bind fun r => M.pure (z :: r)).bind fun r => M.pure (k :: r)).bind fun ds => bmM b .get u ds) := by
  refine PE.imp (pe_dget2 hu ho he hf m) fun σ H Q ⟨ρ, p, S, N, h⟩ => ?_
  refine (step N h).mono fun x H1 ⟨p1, S1, u, N1, r1, P1, h1⟩ => ?_
  obtain ⟨_, e1, h1⟩ := res_get h1
  cases hl : dctOf S1 u with
  | none => simp only [bmTy, hl] at e1; cases e1
  | some kv =>
    obtain ⟨a, rfl, hd⟩ := isD_rep N1.s r1 hl
    refine ⟨a, rfl, hd, ?_⟩
    have assoc : ∀ {α β γ : Type} (m : M α) (k : α → M β) (k2 : β → M γ), (m.bind k).bind k2 = m.bind fun a => (k a).bind k2 := by
      intro α β γ m k k2
      funext S
      unfold M.bind
      cases m S <;> rfl
    rw [assoc] at h1
    refine (step N1 h1).mono fun y H2 ⟨p2, S2, k, N2, r2, P2, h2⟩ => ?_
    rw [assoc, assoc] at h2
    refine (step N2 h2).mono fun z H3 ⟨p3, S3, e3, N3, r3, P3, h3⟩ => ?_
    have h3 : Res w b W σ (RD w) H3 p3 S3 (bmM b .get u [k, e3] S3) Q := h3
    have ru := Rep.ext P3.ext _ _ (Rep.ext P2.ext _ _ r1)
    have rk := Rep.ext P3.ext _ _ r2
    have h4 : Res w b W σ (RD w) H3 p3 S3 (match dctOf S3 u with
      | some (ks, vs) => if fitsK false ks k ∧ (isRefD u = false ∨ ks ≠ []) then .ok ((dGet ks vs k).getD e3) S3 else .bad
      | none => .bad) Q := by
      revert h3
      cases u <;> exact id
    cases hl : dctOf S3 u with
    | none => rw [hl] at h4; exact h4.elim
    | some kv =>
      obtain ⟨ks, vs⟩ := kv
      rw [hl] at h4
      by_cases hf : fitsK false ks k = true ∧ (isRefD u = false ∨ ks ≠ [])
      · replace h4 : Res w b W σ (RD w) H3 p3 S3 (if fitsK false ks k = true ∧ (isRefD u = false ∨ ks ≠ []) then .ok ((dGet ks vs k).getD e3) S3 else .bad) Q := h4
        rw [if_pos hf] at h4
        obtain ⟨a', o, ea, g, mm⟩ := dget_flat N3.s ru hl rk hf.1 hf.2
        cases ea
        refine ⟨o, g, h4 _ _ _ (.refl N3.s) ?_⟩
        cases hg : dGet ks vs k with
        | some d =>
          rw [hg] at mm
          obtain ⟨v, rfl, rv⟩ := mm
          exact rv
        | none =>
          rw [hg] at mm
          subst mm
          exact r3
      · replace h4 : Res w b W σ (RD w) H3 p3 S3 (if fitsK false ks k = true ∧ (isRefD u = false ∨ ks ≠ []) then .ok ((dGet ks vs k).getD e3) S3 else .bad) Q := h4
        rw [if_neg hf] at h4
        exact h4.elim
/-! ### comprehensions -/
theorem wipe_get {σ : L2.St} {i : Nat} : ∀ {vs : List Nat}, i ∈ vs → i < σ.length → (wipe σ vs)[i]? = some none
  | v :: vs, h, hl => by
    unfold wipe
    by_cases hi : v = i
    · subst hi
      rw [List.getElem?_set_self (by rw [wipe_length]; exact hl)]
    · rw [List.getElem?_set_ne hi]
      rcases List.mem_cons.mp h with z | z
      · exact absurd z.symm hi
      · exact wipe_get z hl
theorem wipe_out {σ : L2.St} {i : Nat} : ∀ {vs : List Nat}, i ∉ vs → (wipe σ vs)[i]? = σ[i]?
  | [], _ => rfl
  | v :: vs, h => by
    unfold wipe
    rw [List.getElem?_set_ne (fun z => h (by rw [z]; exact List.mem_cons_self))]
    exact wipe_out fun z => h (List.mem_cons_of_mem _ z)
theorem wipe_only {σ σ2 : L2.St} {vs : List Nat} (h : Only is (wipe σ vs) σ2) (hi : ∀ i ∈ is, i ∈ vs) : wipe σ2 vs = wipe σ vs := by
  have hl : σ2.length = σ.length := h.1.trans (wipe_length σ vs)
  apply List.ext_getElem?
  intro i
  by_cases hv : i ∈ vs
  · by_cases hlt : i < σ.length
    · rw [wipe_get hv (by rw [hl]; exact hlt), wipe_get hv hlt]
    · rw [List.getElem?_eq_none (by rw [wipe_length, hl]; omega), List.getElem?_eq_none (by rw [wipe_length]; omega)]
  · rw [wipe_out hv, h.2 i fun z => hv (hi i z)]
theorem wipeE_get {ρ : Rho} {i : Nat} {d : D} : ∀ {vs : List Nat}, (wipeE ρ vs)[i]? = some (some d) → ρ[i]? = some (some d) ∧ i ∉ vs
  | [], h => ⟨h, by simp⟩
  | v :: vs, h => by
    unfold wipeE at h
    by_cases hi : v = i
    · subst hi
      by_cases hv : v < (wipeE ρ vs).length
      · rw [List.getElem?_set_self hv] at h; cases h
      · rw [List.getElem?_eq_none (by simpa using hv)] at h; cases h
    · rw [List.getElem?_set_ne hi] at h
      obtain ⟨h1, h2⟩ := wipeE_get h
      exact ⟨h1, by simp only [List.mem_cons, not_or]; exact ⟨fun e => hi e.symm, h2⟩⟩
theorem wipeE_len (ρ : Rho) : ∀ vs : List Nat, (wipeE ρ vs).length = ρ.length
  | [] => rfl
  | v :: vs => by unfold wipeE; rw [List.length_set, wipeE_len ρ vs]
theorem relE_wipe {H : Hp} {p : Pl} {σ : L2.St} {ρ : Rho} (h : RelE w H p σ ρ) (vs : List Nat) : RelE w H p (wipe σ vs) (wipeE ρ vs) := by
  refine ⟨by rw [wipeE_len, wipe_length]; exact h.1, fun i d e => ?_⟩
  obtain ⟨e1, e2⟩ := wipeE_get e
  obtain ⟨v, k1, k2⟩ := h.2 i d e1
  exact ⟨v, by rw [wipe_out e2]; exact k1, k2⟩
end
end CI
end
section
set_option Elab.async false
set_option linter.all false
set_option maxRecDepth 100000
/-! ## CI: list comprehensions -/
namespace CI
open PySem PySem.Spec PyProof.Rows L2
theorem M.assoc {α β γ : Type} (m : M α) (k : α → M β) (k2 : β → M γ) : (m.bind k).bind k2 = m.bind fun a => (k a).bind k2 := by
  funext S
  unfold M.bind
  cases m S <;> rfl
theorem M.pure_bind {α β : Type} (a : α) (k : α → M β) : (M.pure a).bind k = k a := rfl
/-- the state within a comprehension that fills the list at D -/
structure Blk (w : Wh) (b : Nat) (H1 : Hp) (p1 : Pl) (S1 : Store) (D : Addr) (H : Hp) (p : Pl) (S : Store) : Prop where
  s : RelS w H (p.hide D) S
  hb : b ≤ S.length
  lo : LowS b S
  po : Post w b H1 p1 S1 H p S
section
variable {w : Wh} {b : Nat} {H1 H H4 H5 : Hp} {p1 p p4 : Pl} {S1 S S4 : Store} {D : Addr}
theorem Blk.sees (B : Blk w b H1 p1 S1 D H p S) (n : H1 D = none) : Sees H1 p1 H (p.hide D) := by
  refine ⟨B.po.ext.pre, fun a o h hn => ⟨B.po.ext.kept a o h fun z => hn (.inl z), ?_⟩⟩
  rintro (z | z)
  · exact B.po.ext.has h hn (.inl z)
  · rcases List.mem_cons.mp z with z | z
    · subst z; rw [n] at h; cases h
    · exact B.po.ext.has h hn (.inr z)
theorem Blk.start (h : RelS w H1 p1 S1) (hb : b ≤ S1.length) (lo : LowS b S1) (n : H1 D = none) (o : HO) : Blk w b H1 p1 S1 D (upd H1 D o) p1 S1 := by
  refine ⟨h.hide n, hb, lo, ⟨⟨List.prefix_refl _, rfl, fun a o' e _ => same_new n a o' e, fun a z => .inl z⟩, (h.hide n).unhide, Nat.le_refl _, fun _ _ z => z⟩⟩
theorem Blk.next (B : Blk w b H1 p1 S1 D H p S) (n : H1 D = none) (P : Post w b H (p.hide D) S H4 p4 S4) (k : ∀ a o, H4 a = some o → a ≠ D → H5 a = some o) {o5 : HO} (h5 : H5 D = some o5) :
    ∃ p', p4 = p'.hide D ∧ Blk w b H1 p1 S1 D H5 p' S4 := by
  obtain ⟨m4, x4⟩ := p4
  obtain rfl : x4 = D :: p.x := P.ext.x
  refine ⟨⟨m4, p.x⟩, rfl, ?_⟩
  have R5 : RelS w H5 (Pl.hide ⟨m4, p.x⟩ D) S4 := RelS.hid (p := ⟨m4, p.x⟩) P.rel k ⟨_, h5⟩
  refine ⟨R5, Nat.le_trans B.hb P.grow, P.low b (Nat.le_refl _) B.lo, ⟨⟨B.po.ext.pre.trans P.ext.pre, B.po.ext.x, fun a o e hm => ?_, fun a ha => ?_⟩, R5.unhide, Nat.le_trans B.po.grow P.grow, fun b' hb' z => P.low b' hb' (B.po.low b' hb' z)⟩⟩
  · refine k a o (P.ext.kept a o (B.po.ext.kept a o e hm) fun z => ?_) ?_
    · rcases B.po.ext.new a z with z | z
      · exact hm z
      · rw [e] at z; cases z
    · rintro rfl; rw [n] at e; cases e
  · rcases P.ext.new a ha with z | z
    · exact B.po.ext.new a z
    · by_cases hm : a ∈ p1.m
      · exact .inl hm
      · right
        cases e : H1 a with
        | none => rfl
        | some o => rw [B.po.ext.kept a o e hm] at z; cases z
def toldC : Cell → CI.D
  | .lst ds => .lst ds
  | .dct ks vs => .dct ks vs
  | .ins c ns vs => .ins c ns vs
theorem newD_false {c : Cell} : newD false c = M.pure (toldC c) := by cases c <;> rfl
theorem Blk.fin2 {W : WX} {σ : L2.St} {Q : VK} {k : Bool} {c : Cell} (B : Blk w b H1 p1 S1 D H p S) (n : H1 D = none) (hx : ∀ a ∈ p1.x, ∃ o, H1 a = some o) (hC : ∀ p', Sees H (p.hide D) H p' → CRep w H p' D c) (hT : ¬ p.has D → Rep w H p (toldC c) (.ref D))
    (h : Res w b W σ (RD w) H1 p1 S1 (newD k c S) Q) : Q (.ref D) H := by
  have nm : D ∉ p.m := fun z => B.s.ap D z List.mem_cons_self
  have nx : D ∉ p.x := fun z => by
    rw [B.po.ext.x] at z
    obtain ⟨o, e⟩ := hx D z
    rw [n] at e; cases e
  cases k with
  | false =>
    rw [newD_false] at h
    exact h _ H p B.po (hT fun z => z.elim nm nx)
  | true =>
    have hs : Sees H (p.hide D) H ⟨p.m ++ [D], p.x⟩ := by
      refine ⟨List.prefix_append _ _, fun a o e hn => ⟨e, ?_⟩⟩
      rintro (z | z)
      · rcases List.mem_append.mp z with z | z
        · exact hn (.inl z)
        · exact hn (.inr (by rw [List.mem_singleton.mp z]; exact List.mem_cons_self))
      · exact hn (.inr (List.mem_cons_of_mem _ z))
    have R : RelS w H ⟨p.m ++ [D], p.x⟩ (S ++ [c]) := by
      refine ⟨by simp [B.s.len], ?_, fun a ha hax => ?_, fun a ha => B.po.rel.xs a ha, fun i a c' e1 e2 => ?_⟩
      · exact List.nodup_append.mpr ⟨B.s.nd, by simp, fun a ha c hc => by rw [List.mem_singleton.mp hc]; rintro rfl; exact nm ha⟩
      · rcases List.mem_append.mp ha with z | z
        · exact B.po.rel.ap a z hax
        · rw [List.mem_singleton.mp z] at hax; exact nx hax
      · have hl : p.m.length = S.length := B.s.len
        by_cases hi : i < p.m.length
        · have e1 : p.m[i]? = some a := by
            have e1 : (p.m ++ [D])[i]? = some a := e1
            rw [List.getElem?_append_left hi] at e1; exact e1
          rw [List.getElem?_append_left (by rw [← hl]; exact hi)] at e2
          exact (B.s.cells i a c' e1 e2).see hs fun _ e => e
        · have e1 : (p.m ++ [D])[i]? = some a := e1
          rw [List.getElem?_append_right (by omega)] at e1 e2
          have hi0 : i - p.m.length = 0 := by
            cases hq : i - p.m.length with
            | zero => rfl
            | succ m => rw [hq] at e1; simp at e1
          rw [hi0] at e1
          rw [← hl, hi0] at e2
          simp at e1 e2
          subst e1
          subst e2
          exact hC _ hs
    refine h _ H ⟨p.m ++ [D], p.x⟩ ⟨⟨B.po.ext.pre.trans (List.prefix_append _ _), B.po.ext.x, B.po.ext.kept, fun a ha => ?_⟩, R, by simp only [List.length_append]; have := B.po.grow; omega, fun b' hb' z i c' hi e => ?_⟩ ⟨D, rfl, ?_⟩
    · rcases List.mem_append.mp ha with z | z
      · exact B.po.ext.new a z
      · rw [List.mem_singleton.mp z]; exact .inr n
    · have hlt : i < S.length := by have := B.hb; omega
      rw [List.getElem?_append_left hlt] at e
      exact B.po.low b' hb' z i c' hi e
    · show (p.m ++ [D])[S.length]? = some D
      rw [← show p.m.length = S.length from B.s.len]
      simp
theorem Blk.fin {W : WX} {σ : L2.St} {Q : VK} {k : Bool} {ds : List CI.D} {vs : List V} (B : Blk w b H1 p1 S1 D H p S) (n : H1 D = none) (hx : ∀ a ∈ p1.x, ∃ o, H1 a = some o) (hD : H D = some (.lst vs)) (r : Reps w H (p.hide D) ds vs)
    (h : Res w b W σ (RD w) H1 p1 S1 (newD k (.lst ds) S) Q) : Q (.ref D) H :=
  B.fin2 (c := .lst ds) n hx (fun p' hs => ⟨vs, hD, Reps.see hs _ _ r⟩) (fun hn => ⟨D, vs, rfl, hD, hn, Reps.see sees_show _ _ r⟩) h
end
section
variable {X : Cx} {w : Wh} {b : Nat} {W : WX} {iter tg elt : Expr} {ifs : List Expr} {fe : Rho → M D} {ft : Rho → M Bool} {fJ : Rho → M Wk} {pos : Pos} {g : D → Rho → M Rho} {is : List Nat} {scope : Scope} {own : List (Str × Nat)} {k : Bool}
theorem lcL_stay {J : Wk} {f : D → M (Option D)} {ds : List D} {σ : L2.St} {H : Hp} {p : Pl} {S S' : Store} {Q : VK} {kk : List D → M D} (h : Res w b W σ (RD w) H p S ((lcL J f ds).bind kk S') Q) : stayS J S' := by
  cases ds with
  | nil =>
    unfold lcL at h
    rw [M.assoc] at h
    unfold stayS
    unfold M.bind stays at h
    cases e : J.w with
    | none => trivial
    | some n =>
      simp only [e] at h
      by_cases hc : S'[n]? = J.c
      · exact hc
      · rw [if_neg hc] at h; exact h.elim
  | cons d ds =>
    unfold lcL at h
    rw [M.assoc] at h
    unfold stayS
    unfold M.bind stays at h
    cases e : J.w with
    | none => trivial
    | some n =>
      simp only [e] at h
      by_cases hc : S'[n]? = J.c
      · exact hc
      · rw [if_neg hc] at h; exact h.elim
theorem stays_ok {J : Wk} {S : Store} (h : stayS J S) : stays J S = .ok () S := by
  unfold stays
  unfold stayS at h
  cases e : J.w with
  | none => rfl
  | some n => rw [e] at h; simp only; rw [if_pos h]
theorem bind_of_ok {α β : Type} {m : M α} {kk : α → M β} {a : α} {S S' : Store} (h : m S = .ok a S') : m.bind kk S = kk a S' := by unfold M.bind; rw [h]
theorem lc_told (hsub : ∀ i ∈ is, i ∈ own.map (·.2)) {σ : L2.St} {H : Hp} {Q : VK} (h0 : tD w b W (fun ρ => (fJ ρ).bind fun J => lcF J g ft fe (own.map (·.2)) k ρ) σ H Q) : tLc (tI w b W fJ) (tG w b is g) (tT w b noW ft) (tD w b noW fe) (own.map (·.2)) σ H Q := by
  obtain ⟨ρ, p, S, N, h⟩ := h0
  refine (step N h).mono fun I H1 ⟨p1, S1, J, N1, rw1, P1, h1⟩ => ?_
  unfold lcF at h1
  by_cases hz : J.xs.length ≤ SZ
  · rw [if_neg (not_not_intro hz)] at h1
    obtain ⟨n, G, Y, hn, wk, hG, hY⟩ := rw1
    intro D nD
    generalize hf : (fun d => M.calm ((g d (wipeE ρ (own.map (·.2)))).bind fun ρ1 => (ft ρ1).bind fun t => if t = true then (fe ρ1).bind fun y => M.pure (some y) else M.pure none)) = f at h1
    refine lc_it wk (fun i H => ∃ p S accD acc, Blk w b H1 p1 S1 D H p S ∧ H D = some (.lst acc) ∧ Reps w H (p.hide D) accD acc ∧ acc.length ≤ i ∧
      Res w b W σ (RD w) H1 p1 S1 ((lcL J f (J.xs.drop i)).bind (fun r => newD k (.lst (accD ++ r))) S) Q) ?_ ?_ ?_ ?_
    · exact ⟨p1, S1, [], [], Blk.start N1.s N1.hb N1.lo nD _, upd_same, rfl, Nat.le_refl _, h1⟩
    · rintro i H _ ⟨p, S, accD, acc, B, hD, r, hl, hr⟩
      exact hG H (p.hide D) S (B.sees nD) B.s (lcL_stay hr)
    · rintro i x H H' hin ⟨p, S, accD, acc, B, hD, r, hl, hr⟩ hy
      have st := lcL_stay hr
      obtain ⟨d, ed, P, rx⟩ := hY i H x H' (p.hide D) S b (B.sees nD) B.s st hy
      have hdrop : J.xs.drop i = d :: J.xs.drop (i + 1) := by
        have hlt : i < J.xs.length := by omega
        rw [List.drop_eq_getElem_cons hlt]
        have : J.xs[i] = d := by
          rw [List.getElem?_eq_getElem hlt] at ed
          exact Option.some.inj ed
        rw [this]
      rw [hdrop] at hr
      unfold lcL at hr
      rw [M.assoc, bind_of_ok (stays_ok st), M.assoc] at hr
      have hin : ∃ oo S', f d S = .ok oo S' ∧ Res w b W σ (RD w) H1 p1 S1 (((lcL J f (J.xs.drop (i + 1))).bind fun r => M.pure (match oo with
          | some y => y :: r
          | none => r)).bind (fun r => newD k (.lst (accD ++ r))) S') Q := by
        cases hfd : f d S with
        | ok oo S' => rw [bind_of_ok hfd] at hr; exact ⟨oo, S', rfl, hr⟩
        | ex c dd S' =>
          exfalso
          rw [← hf] at hfd
          simp only [M.calm] at hfd
          split at hfd <;> cases hfd
        | bad => unfold M.bind at hr; rw [hfd] at hr; exact hr.elim
      obtain ⟨oo, S', hfd, hr⟩ := hin
      rw [M.assoc] at hr
      rw [← hf] at hfd
      have hfd := calm_ok hfd
      obtain ⟨ρ1, S2, e1, hfd⟩ := bind_ok hfd
      obtain ⟨t, S3, e2, hfd⟩ := bind_ok hfd
      have N0 : Now w b H' (p.hide D) S (wipe σ (own.map (·.2))) (wipeE ρ (own.map (·.2))) := ⟨relE_wipe (RelE.ext P.ext (RelE.see (B.sees nD) N1.e)) _, P.rel, B.hb, B.lo⟩
      refine ⟨d, _, p.hide D, S, N0, rx, ρ1, S2, e1, fun σ2 H2 p2 P2 k2 o2 => ⟨wipe_only o2 hsub, ?_⟩⟩
      have N2 : Now w b H2 p2 S2 σ2 ρ1 := ⟨k2, P2.rel, Nat.le_trans B.hb P2.grow, P2.low b (Nat.le_refl _) B.lo⟩
      refine ⟨ρ1, p2, S2, N2, .of_ok e2 fun t' H3 p3 P3 rt => ?_⟩
      have rt : t = t' := rt
      subst rt
      have N3 := N2.post P3
      cases t with
      | true =>
        rw [if_pos rfl] at hfd ⊢
        obtain ⟨y, S4, e3, hfd⟩ := bind_ok hfd
        cases hfd
        refine ⟨ρ1, p3, S3, N3, .of_ok e3 fun yv H4 p4 P4 ry => ?_⟩
        have PP := ((P.trans P2).trans P3).trans P4
        have hD4 : H4 D = some (.lst acc) := PP.ext.kept D _ hD fun z => B.s.ap D z List.mem_cons_self
        refine ⟨acc, hD4, by rw [sz_line]; have : J.xs.length ≤ 16777216 := hz; omega, ?_⟩
        have kk : ∀ a o, H4 a = some o → a ≠ D → upd H4 D (.lst (acc ++ [yv])) a = some o := fun a o e ne => by rw [upd_ne ne]; exact e
        obtain ⟨p', rfl, B'⟩ := B.next nD PP kk upd_same
        refine ⟨p', _, accD ++ [y], acc ++ [yv], B', upd_same, ?_, by simp; omega, ?_⟩
        · exact Reps.see (sees_hid kk) _ _ ((Reps.ext PP.ext _ _ r).append (.one ry))
        · simpa [M.pure_bind, List.append_assoc] using hr
      | false =>
        rw [if_neg Bool.false_ne_true] at hfd ⊢
        cases hfd
        have PP := (P.trans P2).trans P3
        have hD4 : H3 D = some (.lst acc) := PP.ext.kept D _ hD fun z => B.s.ap D z List.mem_cons_self
        obtain ⟨p', rfl, B'⟩ := B.next nD PP (fun a o e _ => e) hD4
        exact ⟨p', _, accD, acc, B', hD4, Reps.ext PP.ext _ _ r, by omega, hr⟩
    · rintro H ⟨p, S, accD, acc, B, hD, r, hl, hr⟩
      have st := lcL_stay hr
      have hd : J.xs.drop n = [] := by rw [hn]; simp
      rw [hd] at hr
      unfold lcL at hr
      rw [M.assoc, bind_of_ok (stays_ok st)] at hr
      refine B.fin (W := W) (σ := σ) nD (fun a ha => N1.s.xs a ha) hD r (k := k) ?_
      simpa [M.pure_bind] using hr
  · rw [if_pos hz] at h1
    exact h1.elim
theorem c_lc (hc : X.calm = true) (hN : X.N.Nodup) (hi : PI X tg iter (tI w b W fJ)) (ok : BlkOk X.N X.env.scope scope own)
    (hg : ∀ (s : Shared) (H : Hp) (C : Addr) (cl : List (Str × Addr)) (fp : List Addr), PG (X.blk s H scope (compEnvC scope cl C X.env) fp) tg (tG w b is g)) (ht : ∀ (s : Shared) (H : Hp) (C : Addr) (cl : List (Str × Addr)) (fp : List Addr), PTs (X.blk s H scope (compEnvC scope cl C X.env) fp) ifs (tT w b noW ft))
    (he : ∀ (s : Shared) (H : Hp) (C : Addr) (cl : List (Str × Addr)) (fp : List Addr), PE (X.blk s H scope (compEnvC scope cl C X.env) fp) elt (tD w b noW fe)) (hs : ∀ x, foldedSetIterable iter X.env x = pure x) (hsub : ∀ i ∈ is, i ∈ own.map (·.2)) :
    PE X (.ListComp elt [⟨tg, iter, ifs, 0⟩] scope pos) (tD w b W fun ρ => (fJ ρ).bind fun J => lcF J g ft fe (own.map (·.2)) k ρ) := PE.imp (pe_lc hc hN hi ok hg ht he hs) fun σ H Q h => lc_told hsub h
end
end CI
end
section
set_option Elab.async false
set_option linter.all false
set_option maxRecDepth 100000
/-! ## CI: statements -/
namespace CI
open PySem PySem.Spec PyProof.Rows L2

/-- what a statement's result promises -/
def ResS (w : Wh) (b : Nat) (W : WX) (E : Ends) (H : Hp) (p : Pl) (S : Store) (r : R Fl) : Prop := match r with
  | .ok (.nx ρ') S' => ∀ σ' H' p', Post w b H p S H' p' S' → RelE w H' p' σ' ρ' → E.nx σ' H'
  | .ok (.rt d) S' => ∀ v H' p', Post w b H p S H' p' S' → Rep w H' p' d v → E.rt v H'
  | .ok (.bk ρ') S' => ∀ σ' H' p', Post w b H p S H' p' S' → RelE w H' p' σ' ρ' → E.bk σ' H'
  | .ok (.ct ρ') S' => ∀ σ' H' p', Post w b H p S H' p' S' → RelE w H' p' σ' ρ' → E.ct σ' H'
  | .ex c d S' => ∀ σ' dx H' p', Post w b H p S H' p' S' → ExcD w H' p' c d dx → W (.ref (w.fa c)) (some dx) σ' H'
  | .bad => False
/-- a statement by contents -/
def tS (w : Wh) (b : Nat) (W : WX) (f : Rho → M Fl) : TS := fun E σ H => ∃ ρ p S, Now w b H p S σ ρ ∧ ResS w b W E H p S (f ρ S)
section
variable {w : Wh} {b : Nat} {W : WX} {E : Ends} {H H1 : Hp} {p p1 : Pl} {S S1 : Store} {σ : L2.St} {ρ : Rho}
theorem ResS.later {r : R Fl} (P : Post w b H p S H1 p1 S1) (h : ResS w b W E H p S r) : ResS w b W E H1 p1 S1 r := by
  revert h
  unfold ResS
  cases r with
  | ok fl S' => cases fl with
    | nx ρ' => exact fun h σ' H' p' P' r => h σ' H' p' (P.trans P') r
    | rt d => exact fun h v H' p' P' r => h v H' p' (P.trans P') r
    | bk ρ' => exact fun h σ' H' p' P' r => h σ' H' p' (P.trans P') r
    | ct ρ' => exact fun h σ' H' p' P' r => h σ' H' p' (P.trans P') r
  | ex c d S' => exact fun h σ' dx H' p' P' r => h σ' dx H' p' (P.trans P') r
  | bad => exact id
theorem stepS {α β : Type} {Ra : Hp → Pl → α → β → Prop} {f : Rho → M α} {k : α → M Fl} (N : Now w b H p S σ ρ) (h : ResS w b W E H p S ((f ρ).bind k S)) :
    tX w b W Ra f σ H fun v H1 => ∃ p1 S1 a, Now w b H1 p1 S1 σ ρ ∧ Ra H1 p1 a v ∧ Post w b H p S H1 p1 S1 ∧ ResS w b W E H1 p1 S1 (k a S1) := by
  refine ⟨ρ, p, S, N, ?_⟩
  revert h
  unfold M.bind
  cases e : f ρ S with
  | ok a S' =>
    intro h v H' p' P r
    exact ⟨p', S', a, N.post P, r, P, h.later P⟩
  | ex c d S' => exact fun h dx H' p' P x => h σ dx H' p' P x
  | bad => exact fun h => h
theorem resS_nx (N : RelS w H p S) {ρ' : Rho} {σ' : L2.St} (h : ResS w b W E H p S (M.pure (Fl.nx ρ') S)) (r : RelE w H p σ' ρ') : E.nx σ' H := h σ' H p (.refl N) r
/-- a calm part -/
theorem calmS {α : Type} {m : M α} {k : α → M Fl} (h : ResS w b W E H p S ((M.calm m).bind k S)) : ∃ a S1, m S = .ok a S1 ∧ ResS w b W E H p S (k a S1) := by
  unfold M.bind M.calm at h
  cases e : m S with
  | ok a S1 => rw [e] at h; exact ⟨a, S1, rfl, h⟩
  | ex c d S1 => rw [e] at h; exact h.elim
  | bad => rw [e] at h; exact h.elim
theorem bindS {m : M Fl} {k : Fl → M Fl} (h : ResS w b W E H p S (m.bind k S)) : (∃ fl S', m S = .ok fl S' ∧ ResS w b W E H p S (k fl S')) ∨ (∃ c d S', m S = .ex c d S' ∧ ResS w b W E H p S (.ex c d S')) := by
  unfold M.bind at h
  cases e : m S with
  | ok a S1 => rw [e] at h; exact .inl ⟨a, S1, rfl, h⟩
  | ex c d S1 => rw [e] at h; exact .inr ⟨c, d, S1, rfl, h⟩
  | bad => rw [e] at h; exact h.elim
end
section
variable {X : Cx} {w : Wh} {b : Nat} {W : WX} {e tg iter elt c : Expr} {es ifs : List Expr} {st : Stmt} {sts sts2 : List Stmt} {f f2 : Rho → M Fl} {fe : Rho → M D} {ft : Rho → M Bool} {fs : Rho → M (List D)} {fJ : Rho → M Wk} {g : D → Rho → M Rho} {pos px py pz pt spos : Pos} {is : List Nat}
theorem s_nil : PSs X [] (tS w b W fun ρ => M.pure (.nx ρ)) := PSs.imp pss_nil fun D σ H ⟨ρ, p, S, N, h⟩ => resS_nx N.s h N.e
theorem s_pass : PS X (.Pass pos) (tS w b W fun ρ => M.pure (.nx ρ)) := PS.imp ps_pass fun D σ H ⟨ρ, p, S, N, h⟩ => resS_nx N.s h N.e
theorem s_break : PS X (.Break pos) (tS w b W fun ρ => M.pure (.bk ρ)) := PS.imp ps_break fun D σ H ⟨ρ, p, S, N, h⟩ => h σ H p (.refl N.s) N.e
theorem s_cont : PS X (.Continue pos) (tS w b W fun ρ => M.pure (.ct ρ)) := PS.imp ps_continue fun D σ H ⟨ρ, p, S, N, h⟩ => h σ H p (.refl N.s) N.e
theorem s_retN : PS X (.Return none pos) (tS w b W fun _ => M.pure (.rt .non)) := PS.imp ps_retN fun D σ H ⟨ρ, p, S, N, h⟩ => h .non H p (.refl N.s) rfl
theorem s_ret (he : PE X e (tD w b W fe)) : PS X (.Return (some e) pos) (tS w b W fun ρ => (fe ρ).bind fun d => M.pure (.rt d)) := by
  refine PS.imp (ps_ret he) fun D σ H ⟨ρ, p, S, N, h⟩ => ?_
  exact (stepS N h).mono fun v H1 ⟨p1, S1, d, N1, r1, P1, h1⟩ => h1 v H1 p1 (.refl N1.s) r1
theorem s_expr (he : PE X e (tD w b W fe)) (hs : swapsWith e none pos.line X.env = pure false) : PS X (.Expr e pos) (tS w b W fun ρ => (fe ρ).bind fun _ => M.pure (.nx ρ)) := by
  refine PS.imp (ps_expr he hs) fun D σ H ⟨ρ, p, S, N, h⟩ => ?_
  exact (stepS N h).mono fun v H1 ⟨p1, S1, d, N1, r1, P1, h1⟩ => resS_nx N1.s h1 N1.e
theorem s_cons (h1 : PS X st (tS w b W f)) (h2 : PSs X sts (tS w b W f2)) : PSs X (st :: sts) (tS w b W fun ρ => (f ρ).bind fun fl => (match fl with
    | .nx ρ1 => f2 ρ1
    | fl => M.pure fl)) := by
  refine PSs.imp (pss_cons h1 h2) fun D σ H ⟨ρ, p, S, N, h⟩ => ?_
  refine ⟨ρ, p, S, N, ?_⟩
  rcases bindS h with ⟨fl, S', e, h⟩ | ⟨c, d, S', e, h⟩
  · rw [e]
    cases fl with
    | nx ρ' => exact fun σ' H' p' P r => ⟨ρ', p', S', ⟨r, P.rel, Nat.le_trans N.hb P.grow, P.low b (Nat.le_refl _) N.lo⟩, h.later P⟩
    | rt d => exact h
    | bk ρ' => exact h
    | ct ρ' => exact h
  · rw [e]; exact h
theorem s_if (hc : PT X c (tT w b W ft)) (ha : PSs X sts (tS w b W f)) (hb : PSs X sts2 (tS w b W f2)) : PS X (.If c sts sts2 pos) (tS w b W fun ρ => (ft ρ).bind fun t => if t = true then f ρ else f2 ρ) := by
  refine PS.imp (ps_if hc ha hb) fun D σ H ⟨ρ, p, S, N, h⟩ => ?_
  refine (stepS N h).mono fun v H1 ⟨p1, S1, t, N1, r1, P1, h1⟩ => ?_
  have r1 : t = v := r1
  subst r1
  cases t with
  | true => exact ⟨ρ, p1, S1, N1, h1⟩
  | false => exact ⟨ρ, p1, S1, N1, h1⟩
theorem asg_told {D : Ends} {σ : L2.St} {H : Hp} {ρ : Rho} {p : Pl} {S : Store} {d : CI.D} {x : V} (N : Now w b H p S σ ρ) (r : Rep w H p d x) (h : ResS w b W D H p S ((M.calm (g d ρ)).bind (fun ρ1 => M.pure (Fl.nx ρ1)) S)) : tG w b is g x σ H D.nx := by
  obtain ⟨ρ', S', e, h⟩ := calmS h
  exact ⟨d, ρ, p, S, N, r, ρ', S', e, fun σ' H' p' P k o => h σ' H' p' P k⟩
theorem s_asg (he : PE X e (tD w b W fe)) (hg : PG X tg (tG w b is g)) (hs : swapsWithSole [tg] e pos.line X.env = pure false) (hw : swappedStores [tg] e X.env = pure none) (h1 : (assignEach [tg] X.env).map (·.2) = [assign tg X.env]) :
    PS X (.Assign [tg] e pos) (tS w b W fun ρ => (fe ρ).bind fun d => (M.calm (g d ρ)).bind fun ρ1 => M.pure (.nx ρ1)) := by
  refine PS.imp (ps_asg he hg hs hw h1) fun D σ H ⟨ρ, p, S, N, h⟩ => ?_
  exact (stepS N h).mono fun v H1 ⟨p1, S1, d, N1, r1, P1, h1⟩ => asg_told N1 r1 h1
theorem s_setLc {i : Nat} {y : Str} {k : Bool} {scope : Scope} {own : List (Str × Nat)} (hc : X.calm = true) (hN : X.N.Nodup) (hy : X.N[i]? = some y) (hyl : X.env.scope.names.lookup y = some .local)
    (hsw : swapsWith (.ListComp elt [⟨tg, iter, ifs, 0⟩] scope pos) (some (.Name y py)) spos.line X.env = pure true) (hi : PI X tg iter (tI w b W fJ)) (ok : BlkOk X.N X.env.scope scope own)
    (hg : ∀ (s : Shared) (H : Hp) (C : Addr) (cl : List (Str × Addr)) (fp : List Addr), PG (X.blk s H scope (compEnvC scope cl C X.env) fp) tg (tG w b is g)) (ht : ∀ (s : Shared) (H : Hp) (C : Addr) (cl : List (Str × Addr)) (fp : List Addr), PTs (X.blk s H scope (compEnvC scope cl C X.env) fp) ifs (tT w b noW ft))
    (he : ∀ (s : Shared) (H : Hp) (C : Addr) (cl : List (Str × Addr)) (fp : List Addr), PE (X.blk s H scope (compEnvC scope cl C X.env) fp) elt (tD w b noW fe)) (hs : ∀ x, foldedSetIterable iter X.env x = pure x) (hsub : ∀ i ∈ is, i ∈ own.map (·.2)) :
    PS X (.Assign [.Name y py] (.ListComp elt [⟨tg, iter, ifs, 0⟩] scope pos) spos) (tS w b W fun ρ => ((fJ ρ).bind fun J => lcF J g ft fe (own.map (·.2)) k ρ).bind fun d => (M.calm (M.pure (ρ.set i (some d)))).bind fun ρ1 => M.pure (.nx ρ1)) := by
  refine PS.imp (ps_setLc hc hN hy hyl hsw hi ok hg ht he hs) fun D σ H ⟨ρ, p, S, N, h⟩ => ?_
  refine lc_told (k := k) hsub ((stepS N h).mono fun v H1 ⟨p1, S1, d, N1, r1, P1, h1⟩ => ?_)
  exact resS_nx (ρ' := ρ.set i (some d)) N1.s h1 (relE_set N1.e r1)
theorem s_par {i j : Nat} {x y : Str} {a c : Expr} {kt k2 pt2} (hc : X.calm = true) (hN : X.N.Nodup) (hi : X.N[i]? = some x) (hj : X.N[j]? = some y) (hij : i ≠ j)
    (hx : X.env.scope.names.lookup x = some .local) (hy : X.env.scope.names.lookup y = some .local) (ha : PA X [a, c] (tDs w b W fs))
    (hw : swappedStores [.Tuple [.Name x px, .Name y py] kt pt] (.Tuple [a, c] k2 pt2) X.env = pure (some [x, y]))
    (hs : swapsWithSole [.Tuple [.Name x px, .Name y py] kt pt] (.Tuple [a, c] k2 pt2) pos.line X.env = pure false) :
    PS X (.Assign [.Tuple [.Name x px, .Name y py] kt pt] (.Tuple [a, c] k2 pt2) pos) (tS w b W fun ρ => (fs ρ).bind fun ds => (M.calm (match ds with
      | [d1, d2] => M.pure ((ρ.set i (some d1)).set j (some d2))
      | _ => M.bad)).bind fun ρ1 => M.pure (.nx ρ1)) := by
  refine PS.imp (ps_par hc hN hi hj hij hx hy ha hw hs) fun D σ H ⟨ρ, p, S, N, h⟩ => ?_
  refine (stepS N h).mono fun vs H1 ⟨p1, S1, ds, N1, r1, P1, h1⟩ => ?_
  obtain ⟨ρ', S', e, h1⟩ := calmS h1
  match ds, e, r1 with
  | [], e, _ => cases e
  | [_], e, _ => cases e
  | _ :: _ :: _ :: _, e, _ => cases e
  | [d1, d2], e, r1 =>
    obtain ⟨v1, v2, rfl, q1, q2⟩ := reps2 r1
    cases e
    exact ⟨v1, v2, rfl, resS_nx N1.s h1 (relE_set (relE_set N1.e q1) q2)⟩
/-! loops -/
theorem whlL_succ {cF : Rho → M Bool} {f : Rho → M Fl} {n : Nat} {ρ : Rho} : whlL cF f (n + 1) ρ = (cF ρ).bind fun t => if t = true then (f ρ).bind fun fl => (match fl with
    | .nx ρ2 => whlL cF f n ρ2
    | .ct ρ2 => whlL cF f n ρ2
    | .bk ρ2 => M.pure (.nx ρ2)
    | .rt d => M.pure (.rt d)) else M.pure (.nx ρ) := rfl
theorem s_while {n : Nat} (hp : PassesOwn (model X.prog X.w) X.A X.env X.xe) (hc : PT X c (tT w b W ft)) (hb : PSs X sts (tS w b W f)) : PS X (.While c sts [] pos) (tS w b W fun ρ => whlL ft f n ρ) := by
  refine PS.imp (ps_while hp hc hb) fun D σ H ⟨ρ, p, S, N, h⟩ => ?_
  refine ⟨fun m σ H => ∃ ρ p S, Now w b H p S σ ρ ∧ ResS w b W D H p S (whlL ft f m ρ S), ⟨n, ρ, p, S, N, h⟩, ?_⟩
  rintro m σ H ⟨ρ, p, S, N, h⟩
  cases m with
  | zero => exact h.elim
  | succ m =>
    rw [whlL_succ] at h
    refine (stepS N h).mono fun v H1 ⟨p1, S1, t, N1, r1, P1, h1⟩ => ?_
    have r1 : t = v := r1
    subst r1
    cases t with
    | false => exact resS_nx N1.s h1 N1.e
    | true =>
      rw [if_pos rfl]
      have h1 : ResS w b W D H1 p1 S1 ((f ρ).bind (fun fl => (match fl with
        | .nx ρ2 => whlL ft f m ρ2
        | .ct ρ2 => whlL ft f m ρ2
        | .bk ρ2 => M.pure (.nx ρ2)
        | .rt d => M.pure (.rt d))) S1) := h1
      refine ⟨fun σ' H' => ∃ ρ p S, Now w b H' p S σ' ρ ∧ ResS w b W D H' p S (whlL ft f m ρ S), fun σ' H' z => ⟨m, Nat.lt_succ_self _, z⟩, ρ, p1, S1, N1, ?_⟩
      have nw : ∀ {σ' : L2.St} {H' : Hp} {p' : Pl} {ρ' : Rho} {S' : Store}, Post w b H1 p1 S1 H' p' S' → RelE w H' p' σ' ρ' → Now w b H' p' S' σ' ρ' := fun P r => ⟨r, P.rel, Nat.le_trans N1.hb P.grow, P.low b (Nat.le_refl _) N1.lo⟩
      rcases bindS h1 with ⟨fl, S', e, h⟩ | ⟨c, d, S', e, h⟩
      · rw [e]
        cases fl with
        | nx ρ' => exact fun σ' H' p' P r => ⟨ρ', p', S', nw P r, h.later P⟩
        | ct ρ' => exact fun σ' H' p' P r => ⟨ρ', p', S', nw P r, h.later P⟩
        | rt d => exact h
        | bk ρ' => exact h
      · rw [e]; exact h
theorem forL_stay {J : Wk} {g : D → Rho → M Rho} {f : Rho → M Fl} {ds : List D} {ρ : Rho} {E : Ends} {H : Hp} {p : Pl} {S S' : Store} (h : ResS w b W E H p S (forL J g f ds ρ S')) : stayS J S' := by
  have key : ∀ k : Unit → M Fl, ResS w b W E H p S ((stays J).bind k S') → stayS J S' := fun k h => by
    unfold stayS
    unfold M.bind stays at h
    cases e : J.w with
    | none => trivial
    | some n =>
      simp only [e] at h
      by_cases hc : S'[n]? = J.c
      · exact hc
      · rw [if_neg hc] at h; exact h.elim
  cases ds with
  | nil => exact key _ h
  | cons d ds => exact key _ h
theorem s_for (hp : PassesOwn (model X.prog X.w) X.A X.env X.xe) (hc : X.calm = true) (hi : PI X tg iter (tI w b W fJ)) (hg : PG X tg (tG w b is g)) (hb : PSs X sts (tS w b W f)) (hs : ∀ x, foldedSetIterable iter X.env x = pure x) :
    PS X (.For tg iter sts [] pos) (tS w b W fun ρ => (fJ ρ).bind fun J => forL J (fun d ρ => M.calm (g d ρ)) f J.xs ρ) := by
  refine PS.imp (ps_for hp hc hi hg hb hs) fun D σ H ⟨ρ, p, S, N, h⟩ => ?_
  refine (stepS N h).mono fun I H1 ⟨p1, S1, J, N1, rw1, P1, h1⟩ => ?_
  obtain ⟨n, G, Y, hn, wk, hG, hY⟩ := rw1
  refine for_it wk (fun i σ H => ∃ ρ p S, Now w b H p S σ ρ ∧ Ext H1 p1 H p ∧ ResS w b W D H p S (forL J (fun d ρ => M.calm (g d ρ)) f (J.xs.drop i) ρ S)) ⟨ρ, p1, S1, N1, .refl _ _, h1⟩ ?_ ?_ ?_
  · rintro i σ H _ ⟨ρ, p, S, N, x, h⟩
    exact hG H p S ⟨x.pre, fun a o e hn => ⟨x.kept a o e fun z => hn (.inl z), x.has e hn⟩⟩ N.s (forL_stay h)
  · rintro i x σ H H' hin ⟨ρ, p, S, N, xt, h⟩ hy
    have st := forL_stay h
    obtain ⟨d, ed, P, rx⟩ := hY i H x H' p S b ⟨xt.pre, fun a o e hn => ⟨xt.kept a o e fun z => hn (.inl z), xt.has e hn⟩⟩ N.s st hy
    have hdrop : J.xs.drop i = d :: J.xs.drop (i + 1) := by
      have hlt : i < J.xs.length := by omega
      rw [List.drop_eq_getElem_cons hlt]
      have : J.xs[i] = d := by
        rw [List.getElem?_eq_getElem hlt] at ed
        exact Option.some.inj ed
      rw [this]
    rw [hdrop] at h
    unfold forL at h
    rw [bind_of_ok (stays_ok st)] at h
    obtain ⟨ρ1, S2, e1, h⟩ := calmS h
    have N0 := N.post P
    have h := h.later P
    refine ⟨d, ρ, p, S, N0, rx, ρ1, S2, e1, fun σ2 H2 p2 P2 k2 o2 => ?_⟩
    have N2 : Now w b H2 p2 S2 σ2 ρ1 := ⟨k2, P2.rel, Nat.le_trans N0.hb P2.grow, P2.low b (Nat.le_refl _) N0.lo⟩
    have h := h.later P2
    refine ⟨ρ1, p2, S2, N2, ?_⟩
    have xt2 := (xt.trans P.ext).trans P2.ext
    have h : ResS w b W D H2 p2 S2 ((f ρ1).bind (fun fl => (match fl with
      | .nx ρ2 => forL J (fun d ρ => M.calm (g d ρ)) f (J.xs.drop (i + 1)) ρ2
      | .ct ρ2 => forL J (fun d ρ => M.calm (g d ρ)) f (J.xs.drop (i + 1)) ρ2
      | .bk ρ2 => M.pure (.nx ρ2)
      | .rt d => M.pure (.rt d))) S2) := h
    have nw : ∀ {σ' : L2.St} {H' : Hp} {p' : Pl} {ρ' : Rho} {S' : Store}, Post w b H2 p2 S2 H' p' S' → RelE w H' p' σ' ρ' → Now w b H' p' S' σ' ρ' := fun P r => ⟨r, P.rel, Nat.le_trans N2.hb P.grow, P.low b (Nat.le_refl _) N2.lo⟩
    rcases bindS h with ⟨fl, S', e, h⟩ | ⟨c, d, S', e, h⟩
    · rw [e]
      cases fl with
      | nx ρ' => exact fun σ' H' p' P r => ⟨ρ', p', S', nw P r, xt2.trans P.ext, h.later P⟩
      | ct ρ' => exact fun σ' H' p' P r => ⟨ρ', p', S', nw P r, xt2.trans P.ext, h.later P⟩
      | rt d => exact h
      | bk ρ' => exact h
    · rw [e]; exact h
  · rintro σ H ⟨ρ, p, S, N, xt, h⟩
    have st := forL_stay h
    have hd : J.xs.drop n = [] := by rw [hn]; simp
    rw [hd] at h
    unfold forL at h
    rw [bind_of_ok (stays_ok st)] at h
    exact resS_nx N.s h N.e
end
end CI
end
section
set_option Elab.async false
set_option linter.all false
set_option maxRecDepth 100000
/-! ## CI: comparisons, chains, displays of dicts -/
namespace CI
open PySem PySem.Spec PyProof.Rows L2
section
variable {X : Cx} {w : Wh} {b : Nat} {W : WX} {e e1 e2 e3 : Expr} {es : List Expr} {fa fb fc : Rho → M D} {fs : Rho → M (List D)} {pos : Pos} {ta : Rho → M Bool} {ta2 tb2 : Rho → M Bool}
def cpOf : CmpOp → Option Cp
  | .Eq => some .eq
  | .NotEq => some .ne
  | .Lt => some .lt
  | .LtE => some .le
  | .Gt => some .gt
  | .GtE => some .ge
  | .Is => some .is
  | .IsNot => some .isnot
  | .In => some .isin
  | .NotIn => some .notin
theorem cp_rule (hu : X.A.units + 65 < cLine) (hK : X.K = w.K) {op : CmpOp} {cp : Cp} (h : cpOf op = some cp) : ∃ r : R2, OpR X (compareOp op) r ∧ OpC X w b r (fun S u v => (cmpD S cp u v).map .bl) := by
  refine cmp_rule hu hK cp op ?_
  cases op <;> first | (cases h; done) | (cases h; simp)
theorem map_bl {o : Option Bool} {d : D} (h : o.map D.bl = some d) : ∃ t, o = some t ∧ d = .bl t := by
  cases o with
  | none => cases h
  | some t => cases h; exact ⟨t, rfl, rfl⟩
theorem c_cmp {op : CmpOp} {cp : Cp} (hu : X.A.units + 65 < cLine) (hK : X.K = w.K) (h : cpOf op = some cp) (hm : behindInMarks op e2 = false) (ha : PE X e1 (tD w b W fa)) (hb : PE X e2 (tD w b W fb)) :
    PE X (.Compare e1 [op] [e2] pos) (tD w b W fun ρ => (fa ρ).bind fun u => (fb ρ).bind fun v => M.get fun S => (cmpD S cp u v).map .bl) := by
  obtain ⟨r, h1, h2⟩ := cp_rule (b := b) hu hK h
  exact c_bin (pe_cmpR h1 ha hb hm) h2
theorem ct_cmp {op : CmpOp} {cp : Cp} (hu : X.A.units + 65 < cLine) (hK : X.K = w.K) (h : cpOf op = some cp) (hm : behindInMarks op e2 = false) (ha : PE X e1 (tD w b W fa)) (hb : PE X e2 (tD w b W fb)) :
    PT X (.Compare e1 [op] [e2] pos) (tT w b W fun ρ => (fa ρ).bind fun u => (fb ρ).bind fun v => M.get fun S => cmpD S cp u v) := by
  obtain ⟨r, h1, h2⟩ := cp_rule (b := b) hu hK h
  refine PT.imp (pt_cmpR h1 ha hb hm) fun σ H Q ⟨ρ, p, S, N, h⟩ => ?_
  refine (step N h).mono fun x H1 ⟨p1, S1, u, N1, r1, P1, h1⟩ => ?_
  refine (step N1 h1).mono fun y H2 ⟨p2, S2, v, N2, r2, P2, h3⟩ => ?_
  obtain ⟨t, ed, q⟩ := res_get' h3
  exact h2 H2 p2 S2 u v x y (.bl t) _ N2.s (Rep.ext P2.ext _ _ r1) r2 (by simp only [ed]; rfl) fun z H' P' r' => ⟨t, r', q t H' p2 P' rfl⟩
theorem c_chain {op op' : CmpOp} {cp cp' : Cp} (hu : X.A.units + 65 < cLine) (hK : X.K = w.K) (h : cpOf op = some cp) (h' : cpOf op' = some cp') (hm : lastMarks [op, op'] [e2, e3] = false) (ha : PE X e1 (tD w b W fa)) (hb : PE X e2 (tD w b W fb)) (hc : PE X e3 (tD w b W fc)) :
    PE X (.Compare e1 [op, op'] [e2, e3] pos) (tD w b W fun ρ => (fa ρ).bind fun u => (fb ρ).bind fun v => (M.get fun S => cmpD S cp u v).bind fun t =>
      if t = true then (fc ρ).bind fun x => M.get fun S => (cmpD S cp' v x).map .bl else M.pure (.bl false)) := by
  obtain ⟨r, k1, k2⟩ := cp_rule (b := b) hu hK h
  obtain ⟨r', k1', k2'⟩ := cp_rule (b := b) hu hK h'
  refine PE.imp (pe_chain k1 k1' ha hb hc hm) fun σ H Q ⟨ρ, p, S, N, h⟩ => ?_
  refine (step N h).mono fun x H1 ⟨p1, S1, u, N1, r1, P1, h1⟩ => ?_
  refine (step N1 h1).mono fun y H2 ⟨p2, S2, v, N2, r2, P2, h3⟩ => ?_
  obtain ⟨t, ed, h3⟩ := res_get h3
  refine k2 H2 p2 S2 u v x y (.bl t) _ N2.s (Rep.ext P2.ext _ _ r1) r2 (by simp only [ed]; rfl) fun z H' P' r' => ⟨t, r', ?_⟩
  have N3 := N2.post P'
  have h3 := h3.later P'
  cases t with
  | false =>
    rw [if_neg Bool.false_ne_true] at h3 ⊢
    exact res_pure N3.s h3 rfl
  | true =>
    rw [if_pos rfl] at h3 ⊢
    refine (step N3 h3).mono fun z2 H4 ⟨p4, S4, x4, N4, r4, P4, h4⟩ => ?_
    obtain ⟨d, ed, q⟩ := res_get' h4
    exact k2' H4 p4 S4 v x4 y z2 d Q N4.s (Rep.ext P4.ext _ _ (Rep.ext P'.ext _ _ r2)) r4 ed fun z H' P' r' => q z H' p4 P' r'
theorem ct_chain {op op' : CmpOp} {cp cp' : Cp} (hu : X.A.units + 65 < cLine) (hK : X.K = w.K) (h : cpOf op = some cp) (h' : cpOf op' = some cp') (hm : lastMarks [op, op'] [e2, e3] = false) (ha : PE X e1 (tD w b W fa)) (hb : PE X e2 (tD w b W fb)) (hc : PE X e3 (tD w b W fc)) :
    PT X (.Compare e1 [op, op'] [e2, e3] pos) (tT w b W fun ρ => (fa ρ).bind fun u => (fb ρ).bind fun v => (M.get fun S => cmpD S cp u v).bind fun t =>
      if t = true then (fc ρ).bind fun x => M.get fun S => cmpD S cp' v x else M.pure false) := by
  obtain ⟨r, k1, k2⟩ := cp_rule (b := b) hu hK h
  obtain ⟨r', k1', k2'⟩ := cp_rule (b := b) hu hK h'
  refine PT.imp (pt_chain k1 k1' ha hb hc hm) fun σ H Q ⟨ρ, p, S, N, h⟩ => ?_
  refine (step N h).mono fun x H1 ⟨p1, S1, u, N1, r1, P1, h1⟩ => ?_
  refine (step N1 h1).mono fun y H2 ⟨p2, S2, v, N2, r2, P2, h3⟩ => ?_
  obtain ⟨t, ed, h3⟩ := res_get h3
  refine k2 H2 p2 S2 u v x y (.bl t) _ N2.s (Rep.ext P2.ext _ _ r1) r2 (by simp only [ed]; rfl) fun z H' P' r' => ⟨t, r', ?_⟩
  have N3 := N2.post P'
  have h3 := h3.later P'
  cases t with
  | false =>
    rw [if_neg Bool.false_ne_true] at h3 ⊢
    exact ⟨false, rfl, res_pure N3.s h3 rfl⟩
  | true =>
    rw [if_pos rfl] at h3 ⊢
    refine (step N3 h3).mono fun z2 H4 ⟨p4, S4, x4, N4, r4, P4, h4⟩ => ?_
    obtain ⟨t, ed, q⟩ := res_get' h4
    exact k2' H4 p4 S4 v x4 y z2 (.bl t) _ N4.s (Rep.ext P4.ext _ _ (Rep.ext P'.ext _ _ r2)) r4 (by simp only [ed]; rfl) fun z H' P' r' => ⟨t, r', q t H' p4 P' rfl⟩
theorem ct_ite (hc : PT X e1 (tT w b W ta)) (ha : PT X e2 (tT w b W ta2)) (hb : PT X e3 (tT w b W tb2)) : PT X (.IfExp e1 e2 e3 pos) (tT w b W fun ρ => (ta ρ).bind fun t => if t = true then ta2 ρ else tb2 ρ) := by
  refine ⟨fun pins s σ H Q I ⟨ρ, p, S, N, h⟩ => ?_⟩
  rw [arm_isTrue_IfExp]
  refine wpAny_bind (thn (hc.run pins s σ H _ I ((step N h).mono fun x H1 z => z)) fun t s1 ⟨H1, I1, p1, S1, t', N1, r1, P1, h1⟩ => ?_)
  have r1 : t' = t := r1
  subst r1
  cases t' with
  | true => exact ha.run pins s1 σ H1 Q I1 ⟨ρ, p1, S1, N1, h1⟩
  | false => exact hb.run pins s1 σ H1 Q I1 ⟨ρ, p1, S1, N1, h1⟩
/-! operators of two values -/
def opOf : Operator → Option Op
  | .Add => some .add
  | .Sub => some .sub
  | .Mult => some .mul
  | .Mod => some .mod
  | .FloorDiv => some .fdiv
  | .Pow => some .pow
  | _ => none
end
end CI
end
section
set_option Elab.async false
set_option linter.all false
set_option maxRecDepth 100000
/-! ## CI: displays of dicts -/
namespace CI
open PySem PySem.Spec PyProof.Rows L2
def PRep (w : Wh) (H : Hp) (p : Pl) : List D → List (V × V) → Prop
  | [], ps => ps = []
  | k :: v :: r, ps => ∃ x y qs, ps = (x, y) :: qs ∧ Rep w H p k x ∧ Rep w H p v y ∧ PRep w H p r qs
  | _, _ => False
/-- the pairs of a display, as one list -/
inductive PPc (X : Cx) (w : Wh) (b : Nat) (W : WX) (pos : Pos) : List (Option Expr) → List Expr → List (TE × TE) → (Rho → M (List D)) → Prop where
  | nil : PPc X w b W pos [] [] [] fun _ => M.pure []
  | cons {k v : Expr} {ks : List (Option Expr)} {vs : List Expr} {trs : List (TE × TE)} {fk fv : Rho → M D} {fr : Rho → M (List D)} (hk : PE X k (tD w b W fk)) (hv : PE X v (tD w b W fv)) (r : PPc X w b W pos ks vs trs fr) :
      PPc X w b W pos (some k :: ks) (v :: vs) ((tD w b W fk, tD w b W fv) :: trs) fun ρ => (fk ρ).bind fun a => ((fv ρ).bind fun c => (fr ρ).bind fun us => M.pure (c :: us)).bind fun us => M.pure (a :: us)
section
variable {X : Cx} {w : Wh} {b : Nat} {W : WX} {pos : Pos} {keys : List (Option Expr)} {values : List Expr} {trs : List (TE × TE)} {f : Rho → M (List D)}
theorem PRep.ext {H H' : Hp} {p p' : Pl} (e : Ext H p H' p') : ∀ {ds : List D} {ps : List (V × V)}, PRep w H p ds ps → PRep w H' p' ds ps
  | [], _, h => h
  | [_], _, h => h.elim
  | k :: v :: r, ps, h => by
    obtain ⟨x, y, qs, h1, h2, h3, h4⟩ := h
    exact ⟨x, y, qs, h1, Rep.ext e _ _ h2, Rep.ext e _ _ h3, PRep.ext e h4⟩
theorem PPc.pps (h : PPc X w b W pos keys values trs f) : PPs X pos keys values trs ∧ keys.all (·.isSome) = true ∧ keys.length = values.length ∧ trs.length = keys.length := by
  induction h with
  | nil => exact ⟨pps_nil, rfl, rfl, rfl⟩
  | cons hk hv r ih => exact ⟨pps_cons hk hv ih.1, by simpa using ih.2.1, by simp [ih.2.2.1], by simp [ih.2.2.2]⟩
theorem PPc.told (h : PPc X w b W pos keys values trs f) : ∀ {σ : L2.St} {H : Hp} {p : Pl} {S S' : Store} {ρ : Rho} {ds : List D} {Q : List (V × V) → Hp → Prop}, Now w b H p S σ ρ → f ρ S = .ok ds S' →
    (∀ ps H' p', Post w b H p S H' p' S' → PRep w H' p' ds ps → ps.length = keys.length → Q ps H') → tPairs trs σ H Q := by
  induction h with
  | nil =>
    intro σ H p S S' ρ ds Q N e q
    cases e
    exact q [] H p (.refl N.s) rfl rfl
  | cons hk hv r ih =>
    intro σ H p S S' ρ ds Q N e q
    obtain ⟨a, S1, e1, e⟩ := bind_ok e
    obtain ⟨us, S3, e2, e⟩ := bind_ok e
    obtain ⟨c, S2, e3, e2⟩ := bind_ok e2
    obtain ⟨us', S4, e4, e5⟩ := bind_ok e2
    cases e5
    cases e
    refine ⟨ρ, p, S, N, .of_ok e1 fun x H1 p1 P1 r1 => ?_⟩
    have N1 := N.post P1
    refine ⟨ρ, p1, S1, N1, .of_ok e3 fun y H2 p2 P2 r2 => ?_⟩
    have N2 := N1.post P2
    refine ih N2 e4 fun ps H3 p3 P3 r3 hl => ?_
    exact q _ H3 p3 ((P1.trans P2).trans P3) ⟨x, y, ps, rfl, Rep.ext P3.ext _ _ (Rep.ext P2.ext _ _ r1), Rep.ext P3.ext _ _ r2, r3⟩ (by simp [hl])
theorem dctL_rep {H : Hp} {p : Pl} : ∀ {ds : List D} {ps : List (V × V)} {ks0 vs0 ks vs : List D} {kvs0 : List (Key × V)}, PRep w H p ds ps → kDs ks0 = some (kvs0.map (·.1)) → Reps w H p vs0 (kvs0.map (·.2)) → dctL ks0 vs0 ds = some (ks, vs) →
    ∃ kvs : List (Key × V), ps = kvs.map (fun kv => (kV kv.1, kv.2)) ∧ kDs ks = some ((mergeK kvs0 kvs).map (·.1)) ∧ Reps w H p vs ((mergeK kvs0 kvs).map (·.2))
  | [], ps, ks0, vs0, ks, vs, kvs0, hp, h1, h2, e => by
    have e : some (ks0, vs0) = some (ks, vs) := e
    cases e
    exact ⟨[], hp, h1, h2⟩
  | [_], _, _, _, _, _, _, hp, _, _, _ => hp.elim
  | k :: v :: r, ps, ks0, vs0, ks, vs, kvs0, hp, h1, h2, e => by
    obtain ⟨x, y, qs, rfl, r1, r2, r3⟩ := hp
    unfold dctL at e
    by_cases hc : fitsK false ks0 k = true ∧ ks0.length < 15 ∧ (!sortK k) = true
    · rw [if_pos hc] at e
      obtain ⟨kk, hk⟩ : ∃ kk, kD k = some kk := (fitsK_cases hc.1).elim (fun z => z.1) fun z => (by cases z.1)
      obtain ⟨p1, p2⟩ := putK_rep h1 h2 hk r2
      obtain ⟨kvs, q1, q2, q3⟩ := dctL_rep r3 p1 p2 e
      exact ⟨(kk, y) :: kvs, by rw [q1, kD_rep r1 hk]; rfl, q2, q3⟩
    · rw [if_neg hc] at e; cases e
theorem c_dct {k : Bool} (h : PPc X w b W pos keys values trs f) (h0 : keys ≠ []) (h15 : keys.length ≤ 15) : PE X (.Dict keys values pos) (tD w b W fun ρ => (M.calm (f ρ)).bind fun ds => (M.lift (dctL [] [] ds)).bind fun q => newD k (.dct q.1 q.2)) := by
  obtain ⟨g1, g2, g3, g4⟩ := h.pps
  refine PE.imp (pe_disp g1 g2 g3 h0 h15) fun σ H Q ⟨ρ, p, S, N, hr⟩ => ?_
  intro D nD
  have hin : ∃ ds S', f ρ S = .ok ds S' ∧ Res w b W σ (RD w) H p S (((M.lift (dctL [] [] ds)).bind fun q => newD k (.dct q.1 q.2)) S') Q := by
    have hr : Res w b W σ (RD w) H p S ((M.calm (f ρ)).bind (fun ds => (M.lift (dctL [] [] ds)).bind fun q => newD k (.dct q.1 q.2)) S) Q := hr
    cases e : f ρ S with
    | ok ds S' => exact ⟨ds, S', rfl, by rw [bind_of_ok (show M.calm (f ρ) S = .ok ds S' by unfold M.calm; rw [e])] at hr; exact hr⟩
    | ex c d S' =>
      exfalso
      unfold M.bind at hr
      rw [show M.calm (f ρ) S = .bad by unfold M.calm; rw [e]] at hr
      exact hr
    | bad =>
      exfalso
      unfold M.bind at hr
      rw [show M.calm (f ρ) S = .bad by unfold M.calm; rw [e]] at hr
      exact hr
  obtain ⟨ds, S', e, hr⟩ := hin
  have B := Blk.start (o := .dK []) N.s N.hb N.lo nD
  have N0 : Now w b (upd H D (.dK [])) (p.hide D) S σ ρ := ⟨RelE.see (sees_hide nD) N.e, B.s, N.hb, N.lo⟩
  refine h.told N0 e fun ps H2 p2 P rp hl => ?_
  have hD2 : H2 D = some (.dK []) := P.ext.kept D _ upd_same fun z => B.s.ap D z List.mem_cons_self
  refine ⟨hD2, ?_⟩
  cases e1 : dctL [] [] ds with
  | none => rw [e1] at hr; exact hr.elim
  | some q =>
    obtain ⟨ks, vs⟩ := q
    rw [e1] at hr
    obtain ⟨kvs, q1, q2, q3⟩ := dctL_rep (kvs0 := []) rp rfl (show Reps w H2 p2 [] [] from rfl) e1
    refine ⟨kvs, q1, by have := hl; rw [q1, List.length_map] at this; omega, ?_⟩
    have kk : ∀ a o, H2 a = some o → a ≠ D → upd H2 D (.dK (mergeK [] kvs)) a = some o := fun a o e ne => by rw [upd_ne ne]; exact e
    obtain ⟨p', rfl, B'⟩ := B.next nD P kk upd_same
    have q3' := Reps.see (sees_hid (p := p') kk) _ _ q3
    refine B'.fin2 (W := W) (σ := σ) (c := .dct ks vs) nD (fun a ha => N.s.xs a ha) (fun p'' hs => .inl ⟨_, upd_same, q2, Reps.see hs _ _ q3'⟩) (fun hn => ⟨D, _, rfl, upd_same, hn, q2, Reps.see sees_show _ _ q3'⟩) hr
theorem c_dct0 {k : Bool} : PE X (.Dict [] [] pos) (tD w b W fun ρ => (M.calm (M.pure ([] : List D))).bind fun ds => (M.lift (dctL [] [] ds)).bind fun q => newD k (.dct q.1 q.2)) := by
  refine PE.imp pe_dnewK fun σ H Q ⟨ρ, p, S, N, hr⟩ => ?_
  intro D nD
  have B := Blk.start (o := .dK []) N.s N.hb N.lo nD
  have hr : Res w b W σ (RD w) H p S (newD k (.dct [] []) S) Q := hr
  exact B.fin2 (W := W) (σ := σ) (c := .dct [] []) nD (fun a ha => N.s.xs a ha) (fun p'' hs => .inl ⟨[], upd_same, rfl, rfl⟩) (fun hn => ⟨D, [], rfl, upd_same, hn, rfl, rfl⟩) hr
end
end CI
end
section
set_option Elab.async false
set_option linter.all false
set_option maxRecDepth 100000
/-! ## CI: classes, their instances, functions as values -/
namespace CI
open PySem PySem.Spec PyProof.Rows L2
/-- a class, as the text has it -/
structure ClOk (K : PySem.W.Frag) (C : Addr) (t : ClT) (fa : Str → Addr) : Prop where
  cls : Cls K C
  no : ∀ f ∈ t.fs, NoAttr K C f
  meth : ∀ m r, t.ms.lookup m = some r → Meth K C m (fa r)
  mak : ∀ r, t.ms.lookup (PySem.Str.ofString "__init__") = some r → Mk K C (fa r)
/-- a def, as it is called by position -/
structure PosOk (P : Program) (u : World) (K : PySem.W.Frag) (mg : Str → Option Value) (B : Heap) (w : Wh) (k : Nat) (arg : Str → List D → Option (List D)) (call : Str → List D → Nat → M D) (f : Str) : Prop where
  ex : ∃ fd ps n, PySem.W.keepIn K (.ref (w.fa f)) = true ∧ FnG P u K mg B k (w.fa f) fd ps (spC w n fun ds b => call f ds b) ∧
    ∀ us as, arg f us = some as → ∃ pl dl dv, pl.length = n ∧ pick (us ++ dl) pl = some as ∧ litVs dl = some dv ∧ KBd K fd ps us.length [] dv pl
section
variable {X : Cx} {w : Wh} {b k : Nat} {W : WX} {e o : Expr} {es : List Expr} {fo : Rho → M D} {fs : Rho → M (List D)} {pos p apos : Pos} {x m : Str}
variable {σ : L2.St} {pins : List (Addr × Obj)} {H : Hp} {s : Shared} {Q : VK} {sp : Sp}
variable {arg : Str → List D → Option (List D)} {call : Str → List D → Nat → M D}
theorem pick_len {α : Type} {xs : List α} : ∀ {is : List Nat} {ys : List α}, pick xs is = some ys → ys.length = is.length
  | [], ys, h => by cases h; rfl
  | i :: is, ys, h => by
    unfold pick at h
    cases e1 : xs[i]? with
    | none => rw [e1] at h; cases h
    | some d =>
      cases e2 : pick xs is with
      | none => rw [e1, e2] at h; cases h
      | some us' => rw [e1, e2] at h; cases h; simp [pick_len e2]
/-- a def called by position: its values are there -/
theorem run_pos {f : Str} (F : PosOk X.prog X.w X.K X.mg X.base w k arg call f) (hr : Room k X.A) (hg : X.A.guards = some []) (tk : Takes X W) {us : List Value} {vs : List V} {ds as : List D} {ρ : Rho} {p : Pl} {S : Store} (I : Inv X pins σ H s) (N : Now w b H p S σ ρ)
    (r : Vals vs us) (rs : Reps w H p ds vs) (ha : arg f ds = some as) (h : Res w b W σ (RD w) H p S (call f as b S) Q) : wpAny (model X.prog X.w) X.A (PySem.call (.ref (w.fa f)) us) (EP X pins σ Q) X.xe s := by
  obtain ⟨fd, ps, n, hk, FF, sh⟩ := F.ex
  obtain ⟨pl, dl, dv, hpn, hp, hdv, hb⟩ := sh ds as ha
  obtain ⟨cs, e2, r3⟩ := pick_rep (rs.append (litVs_rep hdv)) hp
  have := runGK (ks := []) (ws := []) (zs := []) (np := ds.length) FF hr hg hb tk I r .nil rs.length.symm rfl (by simpa using e2) (⟨by rw [pick_len e2, hpn], as, p, S, b, N.s, N.hb, N.lo, r3, h⟩ : spC w n (fun ds b => call f ds b) cs H Q fun c d H' => W c d σ H')
  simpa using this
/-- g(e, ..), g a variable that holds a def -/
theorem c_callv {i : Nat} {has : Str → Bool} (F : ∀ f, has f = true → PosOk X.prog X.w X.K X.mg X.base w k arg call f) (hr : Room k X.A) (hg : X.A.guards = some []) (tk : Takes X W) (hN : X.N[i]? = some x) (hv : Vis X.env.scope x) (hdb : (x == ("__debug__" : Str)) = false) (hcd : (x == ("__classdict__" : Str)) = false)
    (ha : PA X (e :: es) (tDs w b W fs)) (he : starEach (e :: es) X.env = (false, eval e X.env) :: starEach es X.env) (hpl : (backTo pos (starEach es X.env)).any (·.1) = false) :
    PE X (.Call (.Name x p) (e :: es) [] pos) (tD w b W fun ρ => (M.lift ((ρ[i]?.getD none).bind asFn)).bind fun f => if has f = true then (fs ρ).bind fun ds => (M.lift (arg f ds)).bind fun as => call f as b else M.bad) := by
  refine ⟨fun pins s σ H Q I ⟨ρ, pp, S, N, h⟩ => ?_⟩
  obtain ⟨f, ef, h⟩ := res_lift h
  by_cases hf : has f = true
  · rw [if_pos hf] at h
    have hs : σ[i]? = some (some (.ref (w.fa f))) := by
      cases e1 : ρ[i]? with
      | none => rw [e1] at ef; cases ef
      | some od =>
        rw [e1] at ef
        cases od with
        | none => cases ef
        | some d =>
          obtain ⟨v, q1, q2⟩ := N.e.2 i d e1
          cases d <;> first | (cases ef; done) | skip
          cases ef
          rw [q1, show v = .ref (w.fa _) from q2]
    have F := F f hf
    refine wpAny_Call_Name_kw (thn ((pe_var (pos := p) hN hv hdb hcd).run pins s σ H (fun v H1 => v = .ref (w.fa f) ∧ H1 = H) I ⟨.ref (w.fa f), hs, rfl, rfl⟩) fun u s1 ⟨v, H1, I1, r1, q1⟩ => ?_)
    obtain ⟨rfl, rfl⟩ := q1
    cases r1
    obtain ⟨_, _, _, hk, _⟩ := F.ex
    refine PySem.W.callWith_K (h₀ := X.base) I.ok.mod.kin hk (thn (ha.run pos pins s1 σ _ _ I1 (step N h)) fun us s2 ⟨vs, H2, I2, r, q⟩ => ⟨I2.kIn, ?_⟩) he hpl
    obtain ⟨p1, S1, ds, N1, r1, P1, h1⟩ := q
    obtain ⟨as, ea, h1⟩ := res_lift h1
    exact run_pos F hr hg tk I2 N1 r r1 ea h1
  · rw [if_neg hf] at h; exact h.elim
/-- the receiver of a method -/
theorem meth_at {cls : Str → Option ClT} (C : ∀ c t, cls c = some t → ClOk X.K (w.fa c) t w.fa) {pp : Pl} {S : Store} {u : D} {v : V} {c : Str × List Str × List D} {f : Str} (hS : RelS w H pp S) (r : Rep w H pp u v) (e : insOf S u = some c) (hn : (fldL c.2.1 c.2.2 m).isSome = false) (hm : metK cls c.1 m = some f) :
    ∃ a dx fs, v = .ref a ∧ H a = some (.ins (w.fa c.1) dx fs) ∧ Cls X.K (w.fa c.1) ∧ Meth X.K (w.fa c.1) m (w.fa f) ∧ fs.lookup m = none := by
  obtain ⟨c, ns, ds⟩ := c
  obtain ⟨a, dx, fs, rfl, k1, rfl, k2⟩ := insOf_rep hS r e
  unfold metK at hm
  cases hc : cls c with
  | none => simp only [hc] at hm; cases hm
  | some t =>
    simp only [hc] at hm
    have O := C c t hc
    refine ⟨a, dx, fs, rfl, k1, O.cls, O.meth m f hm, ?_⟩
    have : ∀ {fs : List (Str × V)} {ds : List D}, Reps w H pp ds (fs.map (·.2)) → (fldL (fs.map (·.1)) ds m).isSome = false → fs.lookup m = none := by
      intro fs
      induction fs with
      | nil => intro ds _ _; rfl
      | cons q fs ih =>
        obtain ⟨n, v⟩ := q
        intro ds r h
        cases ds with
        | nil => cases r
        | cons d ds =>
          obtain ⟨v0, us, h1, h2, h3⟩ := r
          rw [List.map_cons] at h1
          injection h1 with e1 e2
          subst e2
          rw [List.map_cons] at h
          unfold fldL at h
          by_cases hq : n = m
          · rw [if_pos hq] at h; cases h
          · rw [if_neg hq] at h
            have hb : (m == n) = false := by simpa using fun z : m = n => hq z.symm
            simp only [List.lookup, hb]
            exact ih h3 h
    exact this k2 hn
/-- o.m(e, ..) -/
theorem c_meth {cls : Str → Option ClT} (C : ∀ c t, cls c = some t → ClOk X.K (w.fa c) t w.fa) (F : ∀ c f, metK cls c m = some f → PosOk X.prog X.w X.K X.mg X.base w k arg call f) (hr : Room k X.A) (hg : X.A.guards = some []) (tk : Takes X W)
    (ho : PE X o (tD w b W fo)) (ha : PA X es (tDs w b W fs)) (hbase : attributeBase o m X.env (eval o X.env) = eval o X.env)
    (hfew : methodCallForm (es.length + ([] : List Keyword).length) (backTo pos (starEach es X.env)) (backToKw pos (keywordEach [] X.env)) = true) (hline : (apos.endLine == pos.line) = true)
    (he : es = [] ∨ ∃ e r, es = e :: r ∧ starEach (e :: r) X.env = (false, eval e X.env) :: starEach r X.env ∧ (backTo pos (starEach r X.env)).any (·.1) = false) (h0 : es = [] → fs = fun _ => M.pure []) :
    PE X (.Call (.Attribute o m apos) es [] pos) (tD w b W fun ρ => (fo ρ).bind fun u => (M.get fun S => insOf S u).bind fun c => if (fldL c.2.1 c.2.2 m).isSome then M.bad else (M.lift (metK cls c.1 m)).bind fun f => (fs ρ).bind fun ds => (M.lift (arg f (u :: ds))).bind fun as => call f as b) := by
  refine ⟨fun pins s σ H Q I ⟨ρ, pp, S, N, h⟩ => ?_⟩
  rw [PySem.arm_eval_Call, hbase]
  refine wpAny_bind (thn (ho.run pins s σ H _ I (step N h)) fun ov s1 ⟨v, H1, I1, rv, p1, S1, u, N1, r1, P1, h1⟩ => ?_)
  obtain ⟨c, ec, h1⟩ := res_get h1
  by_cases hn : (fldL c.2.1 c.2.2 m).isSome = true
  · rw [if_pos hn] at h1; exact h1.elim
  rw [if_neg hn] at h1
  obtain ⟨f, hm, h1⟩ := res_lift h1
  obtain ⟨a, dx, fl, rfl, k1, cl, me, l0⟩ := meth_at C N1.s r1 ec (by simpa using hn) hm
  obtain rfl : ov = Value.ref a := rv
  refine wpAny_bind (wpAny_standAt ?_)
  unfold methodCall
  refine wpAny_bind (wpAny_holding ?_)
  unfold calleeOf
  rw [hfew, if_pos rfl]
  refine getmeth_ok I1 k1 cl me l0 ?_
  unfold methodCallPos
  have hp : (!true || (apos.endLine == pos.line)) = true := by rw [hline]; rfl
  rw [if_pos hp]
  refine wpAny_bind (wpAny_pure ?_)
  have FF := F c.1 f hm
  rcases he with he | ⟨e, r, he, he1, he2⟩
  · subst he
    rw [h0 rfl] at h1
    refine PySem.W.callWith_K0 (first := [.ref a]) I1.kIn me.kp ?_
    obtain ⟨as, ea, h1⟩ := res_lift (show Res w b W σ (RD w) H1 p1 S1 ((M.lift (arg f [u])).bind (fun as => call f as b) S1) Q from h1)
    exact run_pos (us := [.ref a]) (vs := [.ref a]) FF hr hg tk I1 N1 (.cons rfl .nil) (.one r1) ea h1
  · subst he
    refine PySem.W.callWith_K (first := [.ref a]) (h₀ := X.base) I.ok.mod.kin me.kp (thn (ha.run pos pins s1 σ H1 _ I1 (step N1 h1)) fun us s2 ⟨vs, H2, I2, r2, q⟩ => ⟨I2.kIn, ?_⟩) he1 he2
    obtain ⟨p2, S2, ds, N2, rs, P2, h2⟩ := q
    obtain ⟨as, ea, h2⟩ := res_lift h2
    exact run_pos (us := .ref a :: us) (vs := .ref a :: vs) FF hr hg tk I2 N2 (.cons rfl r2) (.cons (Rep.ext P2.ext _ _ r1) rs) ea h2
end
end CI
end
section
set_option Elab.async false
set_option linter.all false
set_option maxRecDepth 100000
/-! ## CI: instances made, fields stored, enumerate -/
namespace CI
open PySem PySem.Spec PyProof.Rows L2
section
variable {X : Cx} {w : Wh} {b k : Nat} {W : WX} {e o : Expr} {es : List Expr} {fo : Rho → M D} {fs : Rho → M (List D)} {pos p apos : Pos} {x m : Str}
variable {σ : L2.St} {pins : List (Addr × Obj)} {H : Hp} {s : Shared} {Q : VK} {sp : Sp}
variable {arg : Str → List D → Option (List D)} {call : Str → List D → Nat → M D}
/-- what is told of the making -/
def mkM (arg : Str → List D → Option (List D)) (call : Str → List D → Nat → M D) (b : Nat) (c f : Str) (ds : List D) : M D := (alloc (.ins c [] [])).bind fun o => (M.lift (arg f (o :: ds))).bind fun as => (call f as b).bind fun r => (match r with
    | .non => M.pure o
    | _ => M.bad)
theorem make_pos {c f : Str} (Mc : Mk X.K (w.fa c) (w.fa f)) (F : PosOk X.prog X.w X.K X.mg X.base w k arg call f) (hr : Room (k + 1) X.A) (hg : X.A.guards = some []) (tk : Takes X W) {us : List Value} {vs : List V} {ds : List D} {ρ : Rho} {pp : Pl} {S : Store} (I : Inv X pins σ H s) (N : Now w b H pp S σ ρ)
    (r : Vals vs us) (rs : Reps w H pp ds vs) (h : Res w b W σ (RD w) H pp S (mkM arg call b c f ds S) Q) : wpAny (model X.prog X.w) X.A (PySem.call (.ref (w.fa c)) us) (EP X pins σ Q) X.xe s := by
  obtain ⟨fd, ps, n, hk, FF, sh⟩ := F.ex
  have n1 := I.hok.fresh (Nat.le_succ s.heap.objs.size)
  have n2 := I.hok.fresh (Nat.le_refl s.heap.objs.size)
  have ne : s.heap.objs.size + 1 ≠ s.heap.objs.size := Nat.succ_ne_self _
  have h : Res w b W σ (RD w) H pp S (((M.lift (arg f (.ref S.length :: ds))).bind fun as => (call f as b).bind fun r => (match r with
    | .non => M.pure (.ref S.length)
    | _ => M.bad)) (S ++ [.ins c [] []])) Q := h
  have n1' : upd H s.heap.objs.size (.own (s.heap.objs.size + 1)) (s.heap.objs.size + 1) = none := by rw [upd_ne ne]; exact n1
  have P1 : Post w b H pp S (upd H s.heap.objs.size (.own (s.heap.objs.size + 1))) pp S := .same N.s (same_new n2)
  have P2 := post_new (b := b) (c := .ins c [] []) (o := .ins (w.fa c) s.heap.objs.size []) P1.rel N.hb n1' ⟨s.heap.objs.size, [], upd_same, rfl, rfl⟩
  have P := P1.trans P2
  have h := h.later P
  have N2 := N.post P
  obtain ⟨as, ea, h⟩ := res_lift h
  have J := Inv.made (C := w.fa c) I
  obtain ⟨pl, dl, dv, hpn, hp, hdv, hb⟩ := sh _ as ea
  have ro : Rep w (upd (upd H s.heap.objs.size (.own (s.heap.objs.size + 1))) (s.heap.objs.size + 1) (.ins (w.fa c) s.heap.objs.size [])) ⟨pp.m ++ [s.heap.objs.size + 1], pp.x⟩ (.ref S.length) (.ref (s.heap.objs.size + 1)) := ⟨_, rfl, by
    show (pp.m ++ [s.heap.objs.size + 1])[S.length]? = _
    rw [List.getElem?_append_right (by rw [N.s.len]; exact Nat.le_refl _), N.s.len]; simp⟩
  have rs2 := Reps.cons ro (Reps.ext P.ext _ _ rs)
  obtain ⟨cs, e2, r3⟩ := pick_rep (rs2.append (litVs_rep hdv)) hp
  have rr : Vals (V.ref (s.heap.objs.size + 1) :: vs) (Value.ref (s.heap.objs.size + 1) :: us) := .cons rfl r
  obtain ⟨dsv, rd, hb⟩ := hb.to
  obtain ⟨bs, b1, b2⟩ := pick_vals (rr.append rd) e2
  have h' : Res w b W σ (RD w) (upd (upd H s.heap.objs.size (.own (s.heap.objs.size + 1))) (s.heap.objs.size + 1) (.ins (w.fa c) s.heap.objs.size [])) ⟨pp.m ++ [s.heap.objs.size + 1], pp.x⟩ (S ++ [.ins c [] []]) (call f as b (S ++ [.ins c [] []])) (fun v H' => v = .non ∧ Q (.ref (s.heap.objs.size + 1)) H') := by
    revert h
    unfold M.bind
    cases call f as b (S ++ [.ins c [] []]) with
    | bad => exact fun h => h
    | ex c d S' => exact fun h => h
    | ok r S' =>
      intro h v H' p' PP rv
      cases r <;> first | exact h.elim | skip
      refine ⟨rv, h _ H' p' PP ?_⟩
      obtain ⟨a, ea, eb⟩ := ro
      cases ea
      exact ⟨_, rfl, getElem?_prefix PP.ext.pre eb⟩
  refine wpAny_call (make_map (f := w.fa f) I.kIn Mc.makes Mc.init (beq_iff_eq.mp Mc.fn) ?_)
  refine codeAny_mono (FF.go _ X.stack _ _ ⟨Value.ref (s.heap.objs.size + 1) :: us, []⟩ bs cs _ (fun c d H' => W c d σ H') (hr.make (w.fa c) us []) (guards_make hg) (J.env0.make (w.fa c) us [])
    (by simpa using hb _ (Value.ref (s.heap.objs.size + 1) :: us) [] bs J.kIn (by simp [← r.length, rs.length]) rfl (by simpa using b1)) b2
    ⟨by rw [pick_len e2, hpn], as, _, _, b, N2.s, N2.hb, N2.lo, r3, h'⟩) fun r s' hq => ?_
  cases r with
  | error e => exact tk e s' (XE.of_call J (fun _ _ _ z => z) hq)
  | ok fl => cases fl with
    | ret v =>
      obtain ⟨v', H', J', rv, ev, z⟩ := J.after hq
      subst ev
      exact ⟨rv, V.ref (s.heap.objs.size + 1), H', J', rfl, z⟩
    | next => exact hq.elim
    | brk => exact hq.elim
    | cont => exact hq.elim
/-- C(e, ..) -/
theorem c_make {c f : Str} {cls : Str → Option ClT} (hm0 : metK cls c (PySem.Str.ofString "__init__") = some f) (Mc : Mk X.K (w.fa c) (w.fa f)) (F : PosOk X.prog X.w X.K X.mg X.base w k arg call f) (hr : Room (k + 1) X.A) (hgd : X.A.guards = some []) (tk : Takes X W)
    (hg : Gl X c) (hm : X.mg c = some (.ref (w.fa c))) (hdb : (c == ("__debug__" : Str)) = false) (ha : PA X es (tDs w b W fs))
    (he : es = [] ∨ ∃ e r, es = e :: r ∧ starEach (e :: r) X.env = (false, eval e X.env) :: starEach r X.env ∧ (backTo pos (starEach r X.env)).any (·.1) = false) (h0 : es = [] → fs = fun _ => M.pure []) :
    PE X (.Call (.Name c p) es [] pos) (tD w b W fun ρ => (M.lift (metK cls c (PySem.Str.ofString "__init__"))).bind fun f => (fs ρ).bind fun ds => mkM arg call b c f ds) := by
  refine ⟨fun pins s σ H Q I ⟨ρ, pp, S, N, h⟩ => ?_⟩
  rw [hm0] at h
  have h : Res w b W σ (RD w) H pp S (((fs ρ).bind fun ds => mkM arg call b c f ds) S) Q := h
  refine wpAny_Call_Name_kw (ld_glob I hg hm ?_ hdb)
  rcases he with he | ⟨e, r, he, he1, he2⟩
  · subst he
    rw [h0 rfl] at h
    exact PySem.W.callWith_K0 I.kIn Mc.kp (make_pos (us := []) (vs := []) (ds := []) Mc F hr hgd tk I N .nil rfl h)
  · subst he
    refine PySem.W.callWith_K (h₀ := X.base) I.ok.mod.kin Mc.kp (thn (ha.run pos pins s σ H _ I (step N h)) fun us s2 ⟨vs, H2, I2, r2, q⟩ => ⟨I2.kIn, ?_⟩) he1 he2
    obtain ⟨p2, S2, ds, N2, rs, P2, h2⟩ := q
    exact make_pos Mc F hr hgd tk I2 N2 r2 rs h2
/-- a def as a value -/
theorem c_fnv {f : Str} (hg : Gl X f) (hm : X.mg f = some (.ref (w.fa f))) (hdb : (f == ("__debug__" : Str)) = false) : PE X (.Name f p) (tD w b W fun _ => M.pure (.fn f)) :=
  PE.imp (pe_glob (v := .ref (w.fa f)) hg hm rfl hdb) fun σ H Q ⟨ρ, pp, S, N, h⟩ => res_pure N.s h (show V.ref (w.fa f) = V.ref (w.fa f) from rfl)
/-! fields stored -/
theorem putL_rep {H : Hp} {p : Pl} {f : Str} {y : D} {z : V} (ry : Rep w H p y z) : ∀ {fs : List (Str × V)} {ds : List D}, Reps w H p ds (fs.map (·.2)) →
    (putF f z fs).map (·.1) = (putL (fs.map (·.1)) ds f y).1 ∧ Reps w H p (putL (fs.map (·.1)) ds f y).2 ((putF f z fs).map (·.2))
  | [], ds, r => by
    obtain rfl : ds = [] := List.length_eq_zero_iff.mp (r.length.trans rfl)
    exact ⟨rfl, .one ry⟩
  | (n, v) :: fs, [], r => by cases r
  | (n, v) :: fs, d :: ds, r => by
    obtain ⟨v0, us, h1, h2, h3⟩ := r
    rw [List.map_cons] at h1
    injection h1 with e1 e2
    have e1' : v = v0 := e1
    subst e1'
    subst e2
    rw [show putF f z ((n, v) :: fs) = (if n = f then (n, z) :: fs else (n, v) :: putF f z fs) from rfl, List.map_cons]
    unfold putL
    by_cases hn : n = f
    · rw [if_pos hn, if_pos hn]
      exact ⟨rfl, .cons ry h3⟩
    · rw [if_neg hn, if_neg hn]
      obtain ⟨i1, i2⟩ := putL_rep ry h3
      exact ⟨by rw [List.map_cons, i1], .cons h2 i2⟩
theorem putL_low {n : Nat} {f : Str} {y : D} (hy : y.low n = true) : ∀ {ns : List Str} {ds : List D}, D.lows n ds = true → D.lows n (putL ns ds f y).2 = true
  | [], ds, h => by unfold putL; simp [D.lows, hy]
  | _ :: _, [], h => by unfold putL; simp [D.lows, hy]
  | m :: ns, d :: ds, h => by
    unfold D.lows at h
    rw [Bool.and_eq_true] at h
    unfold putL
    split
    · simp [D.lows, hy, h.2]
    · simp [D.lows, h.1, putL_low hy h.2]
/-- o.f = .. -/
theorem c_tfld {f : Str} {cls : Str → Option ClT} (C : ∀ c t, cls c = some t → ClOk X.K (w.fa c) t w.fa) (ho : PE X o (tD w b W fo)) :
    PG X (.Attribute o f pos) (tG w b [] fun d ρ => (fo ρ).bind fun u => (setF (fldK cls) b u f d).bind fun _ => M.pure ρ) := by
  refine ⟨fun pins s σ H v u Q I r ⟨d, ρ, pp, S, N, rd, ρ', S', e, q⟩ => ?_⟩
  obtain ⟨ud, S1, e1, e⟩ := bind_ok e
  obtain ⟨_, S2, e2, e⟩ := bind_ok e
  cases e
  rw [PySem.arm_assign_Attribute]
  refine wpAny_bind (wpAny_holding (thn (ho.run pins s σ H _ I ⟨ρ, pp, S, N, .of_ok e1 fun x H1 p1 P1 r1 => (⟨p1, P1, r1⟩ : ∃ p1, Post w b H pp S H1 p1 S1 ∧ Rep w H1 p1 ud x)⟩) fun ov s1 ⟨x, H1, I1, rx, p1, P1, r1⟩ => ?_))
  refine wpAny_bind (wpAny_standAt (wpAny_bind (wpAny_holding ?_)))
  have N1 := N.post P1
  have rd1 := Rep.ext P1.ext _ _ rd
  obtain ⟨n, rfl⟩ : ∃ n, ud = .ref n := by
    cases ud <;> first | (cases e2; done) | exact ⟨_, rfl⟩
  obtain ⟨a, rfl, ea⟩ := r1
  obtain rfl : ov = Value.ref a := rx
  obtain ⟨cc, hn, hc⟩ := N1.s.cell ea
  cases cc with
  | lst ds => simp only [setF, hn] at e2; cases e2
  | dct ks vs => simp only [setF, hn] at e2; cases e2
  | ins c ns ds =>
    simp only [setF, hn] at e2
    by_cases hm : mayPut b n d = true ∧ ns.length < 900 ∧ fldK cls c f = true
    · rw [if_pos hm] at e2
      cases e2
      obtain ⟨dx, fs, k1, rfl, k2⟩ := hc
      have hcl : ∃ t, cls c = some t ∧ f ∈ t.fs := by
        have := hm.2.2
        unfold fldK at this
        cases hq : cls c with
        | none => simp only [hq] at this; cases this
        | some t => simp only [hq] at this; exact ⟨t, rfl, by simpa using this⟩
      obtain ⟨t, ht, hf⟩ := hcl
      have O := C c t ht
      refine setattr_ok I1 k1 O.cls (O.no f hf) (by have := hm.2.1; rw [List.length_map] at this; omega) r fun s2 I2 => ?_
      refine wpAny_release ⟨σ, _, I2, ?_⟩
      have ext : Ext H1 p1 (upd H1 a (.ins (w.fa c) dx (putF f v fs))) p1 := .write (List.mem_of_getElem? ea)
      obtain ⟨p1', p2'⟩ := putL_rep (f := f) rd1 k2
      refine q σ _ p1 (P1.trans (post_write N1.s ea ⟨dx, _, upd_same, p1', Reps.ext ext _ _ p2'⟩ fun b' hb' lo' hlt => ?_)) (RelE.ext ext N1.e) .refl
      exact putL_low (mayPut_low hm.1 hb' hlt) (lo' n _ hlt hn)
    · rw [if_neg hm] at e2; cases e2
end
end CI
end
section
set_option Elab.async false
set_option linter.all false
set_option maxRecDepth 100000
/-! ## CI: enumerate -/
namespace CI
open PySem PySem.Spec PyProof.Rows L2
set_option maxHeartbeats 1000000 in
theorem enum_new {v : Value} {o : Obj} {H0 : Heap → Prop} (B : Begins v o H0) :
    Meets (Builtin.«enumerate.__new__» ⟨[.type "enumerate", v], []⟩) (fun _ R s => H0 s.heap ∧ R (.ok (.ret (.ref (s.heap.objs.size + 1)))) { s with heap := (s.heap.push o).push { cls := .type "enumerate", data := .fields #[.none, .bool false, .ref s.heap.objs.size, rawInt 0, .none, .none] } }) := by
  refine .of_wp fun prog u A R s h => ?_
  obtain ⟨hp, g, d, tk, os⟩ := s
  obtain ⟨h0, h⟩ := h
  have kinds := sub_enumerate
  have begun : ∀ {A' : Around} {E' Q' : Value → Shared → Prop}, Q' (.ref hp.objs.size) ⟨hp.push o, g, d, tk, os⟩ → wpAny (model prog u) A' (pyIter v) Q' E' ⟨hp, g, d, tk, os⟩ := fun z => B.iter prog u _ _ ⟨hp, g, d, tk, os⟩ _ h0 z
  have hz : (hp.push o).objs.size = hp.objs.size + 1 := Heap.size_push ..
  rw [← hz] at h
  wp_walk using begun
  refine wpAny_stack_any fun _ => wpAny_pure ?_
  split
  next c _ _ _ _ _ =>
    cases (c == Value.type "enumerate") <;>
    · wp_walk using begun
      exact ⟨_, rfl, h⟩
  next =>
    wp_walk using begun
    exact ⟨_, rfl, h⟩
section
variable {prog : Program} {u : World} {A : Around} {E : Value → Shared → Prop} {s : Shared}
theorem enum_call {v : Value} {o : Obj} {H0 : Heap → Prop} {Q : Value → Shared → Prop} (B : Begins v o H0) (h0 : H0 s.heap)
    (h : ∀ h', IsEnum h' (s.heap.objs.size + 1) s.heap.objs.size 0 .none → h'.get? s.heap.objs.size = some o → (∀ b c, s.heap.get? b = some c → h'.get? b = some c) → Q (.ref (s.heap.objs.size + 1)) { s with heap := h' }) :
    wpAny (model prog u) A (call (.type "enumerate") [v]) Q E s := by
  have at1 : ((s.heap.push o).push { cls := .type "enumerate", data := .fields #[.none, .bool false, .ref s.heap.objs.size, rawInt 0, .none, .none] }).get? (s.heap.objs.size + 1) = some { cls := .type "enumerate", data := .fields #[.none, .bool false, .ref s.heap.objs.size, rawInt 0, .none, .none] } := by
    have z := Heap.get?_push_size (s.heap.push o) (o := { cls := .type "enumerate", data := .fields #[.none, .bool false, .ref s.heap.objs.size, rawInt 0, .none, .none] }) rfl
    rwa [Heap.size_push] at z
  exact callType_new PySem.F.called_enumerate (by decide) (PySem.F.typeCall_enumerate_1 _) (PySem.F.newCall_enumerate_1 _) (fun obj => PySem.F.args_object_init_2 obj _) PySem.F.entry_enumerate_new (enum_new B)
    ⟨h0, ⟨⟨_, at1, rfl⟩, h _ at1 (Heap.get?_push_of_some _ (Heap.get?_push_size _ B.free)) fun b c z => Heap.get?_push_of_some _ (Heap.get?_push_of_some _ z)⟩⟩
end
/-- a thing that is walked and stays: n items, told by PV -/
def Itn (n : Nat) (PV : Nat → V → Prop) (G : Hp → Prop) : It :=
  ⟨fun i H => i < n ∧ G H, fun i H v H' => ∃ T x, v = .ref T ∧ H T = none ∧ H' = upd H T (.tup [.int (i : Nat), x]) ∧ PV i x, fun i H => i = n ∧ G H⟩
/-- what its iterator must give -/
def Feeds (P : Program) (w : World) (K : PySem.W.Frag) (n : Nat) (PV : Nat → V → Prop) (G : Hp → Prop) (e it : Addr) (Sx : Nat → Heap → Prop) : Prop :=
  ∀ (X : Cx) (i : Nat) (pins : List (Addr × Obj)) (s : Shared) (σ : L2.St) (H : Hp) (old : Value) (j : Int), X.prog = P → X.w = w → X.K = K → X.calm = true → Inv X pins σ H s → G H → IsEnum s.heap e it j old → Sx i s.heap →
    ∃ fp Pd St, Draws P w X.A.in1 it fp n Pd St ∧ St i s.heap ∧ e ∉ fp ∧ (∀ k h, St k h → Sx k h) ∧ ∀ k u, Pd k u → ∃ x, RelV x u ∧ PV k x
theorem turn_n {P : Program} {w : World} {K : PySem.W.Frag} {elts : List Expr} {kk : Nat} {tpos : Pos} {n : Nat} {PV : Nat → V → Prop} {G : Hp → Prop} {e it : Addr} {Sx : Nat → Heap → Prop} (fd : Feeds P w K n PV G e it Sx)
    (ob : ∀ i h, Sx i h → ∃ o, h.get? it = some o ∧ ∀ v, o.data ≠ .cell v) (kp : ∀ i h h', Sx i h → (∀ o, h.get? it = some o → h'.get? it = some o) → Sx i h') :
    Turn P w K (.Tuple elts kk tpos) (Itn n PV G) [e, it] e (fun i h => (∃ old, IsEnum h e it ((i : Nat) : Int) old) ∧ Sx i h ∧ e ≠ it) := by
  refine ⟨by simp, fun i h st b hb => ?_, fun i h h' st k => ?_, ?_, ?_, fun A i s Q E st h => let ⟨⟨_, z⟩, _⟩ := st; wpAny_pyIter_enum z h⟩
  · obtain ⟨⟨old, z⟩, sx, _⟩ := st
    have two : b = e ∨ b = it := by simpa using hb
    rcases two with rfl | rfl
    · exact ⟨_, z, fun v q => nomatch q⟩
    · exact ob i h sx
  · obtain ⟨⟨old, z⟩, sx, ne⟩ := st
    exact ⟨⟨old, k e (by simp) _ z⟩, kp i h h' sx fun o q => k it (by simp) o q, ne⟩
  · intro X hP hw hK hc i pins s σ H E I hf st hg
    obtain ⟨⟨old, z⟩, sx, ne⟩ := st
    obtain ⟨fp, Pd, St, D, s0, nef, back, toV⟩ := fd X i pins s σ H old _ hP hw hK hc I hg.2 z sx
    subst hP hw hK
    have hel := Heap.lt_size z
    have hil : it < s.heap.objs.size := by obtain ⟨o, q⟩ := D.live _ _ s0; exact Heap.lt_size q
    refine wpAny_pyNext_enum_itemC D z s0 hg.1 ne nef fun u h1 tk pu out s1 hT hsz keep => ⟨_, rfl, ?_⟩
    obtain ⟨x, rx, px⟩ := toV i u pu
    refine wpAny_letOwnedTupleGo_enum (s := { s with heap := h1, toks := tk + 1 }) out fun h2 z2 sb => ?_
    have T2 := (sb.2 _ (Nat.ne_of_gt hel)).trans hT
    have kept : ∀ b o, b ∉ [e, it] → s.heap.get? b = some o → h2.get? b = some o := fun b o hb q => (sb.2 b fun q' => hb (by simp [q'])).trans (keep b o (fun q' => hb (by simp [q'])) (fun q' => hb (by simp [q'])) q)
    have made : ObjOk X.prog X.w (upd H s.heap.objs.size (.tup [.int (i : Nat), x])) h2 s.heap.objs.size (.tup [.int (i : Nat), x]) := ⟨(show (2 : Nat) ≤ sizeLine by decide), [.int i tk, u], .cons ⟨_, rfl⟩ (.cons rx .nil), ⟨_, T2, rfl, _, rfl⟩⟩
    refine ⟨.ref s.heap.objs.size, _, I.turnedNew (t' := tk + 1) kept hf (Nat.le_refl _) made, rfl, ⟨_, x, rfl, I.hok.fresh (Nat.le_refl _), rfl, px⟩, ⟨⟨u, ?_⟩, ?_, ne⟩, fun b hb => ?_⟩
    · rw [show ((i + 1 : Nat) : Int) = (i : Int) + 1 by omega]; exact z2
    · exact kp _ _ _ (back _ _ s1) fun o q => (sb.2 it (Ne.symm ne)).trans q
    · have hlt : b < s.heap.objs.size := by
        have two : b = e ∨ b = it := by simpa using hb
        rcases two with rfl | rfl
        · exact hel
        · exact hil
      rw [upd_ne (Nat.ne_of_lt hlt)]
      exact (hf b hb).1
  · intro X hP hw hK hc i pins s σ H E I hf st hg
    obtain ⟨⟨old, z⟩, sx, ne⟩ := st
    obtain ⟨fp, Pd, St, D, s0, nef, back, toV⟩ := fd X i pins s σ H old _ hP hw hK hc I hg.2 z sx
    subst hP hw hK
    obtain ⟨f0, f1, f2, f3, f4, f5⟩ := hf it (by simp)
    rw [hg.1] at s0
    exact wpAny_pyNext_enum_endD D z s0 fun h1 eb => ⟨rfl, I.turned (t' := s.toks) (fun b o hb q => eb b o hb q) f0 f1 f3 f4 f5⟩
/-- over a tuple -/
theorem feeds_tup {P : Program} {w : World} {K : PySem.W.Frag} {t e it : Addr} {xs : List V} : Feeds P w K xs.length (fun i x => xs[i]? = some x) (fun H => SqT K H t xs) e it (fun i h => h.IsTupleIter it t i) := by
  intro X i pins s σ H old j hP hw hK hc I hg z sx
  subst hP hw hK
  obtain ⟨its, rv, p, hz⟩ := I.tuple hg
  have p' : s.heap.IsTuple t its.toArray := p
  have net : t ≠ it := fun q => by
    obtain ⟨o, h1, h2, n, h3⟩ := p
    obtain ⟨o', h4, h5, h6⟩ := sx
    rw [q, h4] at h1
    cases h1
    rw [h6] at h3; cases h3
  have net2 : t ≠ e := fun q => by
    obtain ⟨o, h1, h2, n, h3⟩ := p
    have z' : s.heap.get? e = _ := z
    rw [q, z'] at h1
    cases h1
    cases h3
  have nei : e ≠ it := fun q => by
    obtain ⟨o', h4, h5, h6⟩ := sx
    have z' : s.heap.get? e = _ := z
    rw [← q, z'] at h4
    cases h4
    injection h5 with h5
    exact absurd h5 (by decide)
  have hl : its.toArray.size = xs.length := by rw [List.size_toArray, ← rv.length]
  rw [← hl]
  refine ⟨_, _, _, Draws.tuple (prog := X.prog) (w := X.w) (A := X.A.in1) (I.ok.hd hc) it t net its.toArray, ⟨sx, p'⟩, by simp [nei, Ne.symm net2], fun k h q => q.1, fun k u q => ?_⟩
  have hk : its[k]? = some u := by simpa using q
  have hk2 : k < xs.length := by
    rw [rv.length]
    rcases Nat.lt_or_ge k its.length with q | q
    · exact q
    · rw [List.getElem?_eq_none q] at hk; cases hk
  obtain ⟨u', q1, q2⟩ := rv.get (i := k) (x := xs[k]) (by simp [hk2])
  rw [hk] at q1; cases q1
  exact ⟨_, q2, by simp [hk2]⟩
theorem feeds_str {P : Program} {w : World} {K : PySem.W.Frag} {z : Str} {tk : Tok} {e it : Addr} : Feeds P w K z.cps.size (fun i x => ∃ c, z.cps[i]? = some c ∧ x = .str ⟨#[c]⟩) (fun _ => True) e it (fun i h => h.IsStrIter it (strIterType z) z tk i) := by
  intro X i pins s σ H old j hP hw hK hc I hg ze sx
  subst hP hw hK
  have nei : e ≠ it := fun q => by
    obtain ⟨o', h4, h5, h6⟩ := sx
    have z' : s.heap.get? e = _ := ze
    rw [← q, z'] at h4
    cases h4
    cases h6
  exact ⟨_, _, _, Draws.text (prog := X.prog) (w := X.w) (A := X.A.in1) (I.ok.hd hc) it z tk, sx, by simp [nei], fun k h q => q, fun k u ⟨c, t, h1, h2⟩ => ⟨.str ⟨#[c]⟩, ⟨t, h2⟩, c, h1, rfl⟩⟩
end CI
end
section
set_option Elab.async false
set_option linter.all false
set_option maxRecDepth 100000
/-! ## CI: enumerate, by contents -/
namespace CI
open PySem PySem.Spec PyProof.Rows L2
theorem enmL_get : ∀ {ds : List D} {n i : Nat} {d : D}, ds[i]? = some d → (enmL n ds)[i]? = some (.tup [.int ((n + i : Nat) : Int), d])
  | [], n, i, d, h => by simp at h
  | x :: ds, n, 0, d, h => by
    simp at h; subst h
    simp [enmL]
  | x :: ds, n, i + 1, d, h => by
    unfold enmL
    rw [List.getElem?_cons_succ, enmL_get (n := n + 1) (by simpa using h)]
    rw [show n + 1 + i = n + (i + 1) by omega]
theorem enmL_len : ∀ {ds : List D} {n : Nat}, (enmL n ds).length = ds.length
  | [], _ => rfl
  | _ :: ds, n => by unfold enmL; rw [List.length_cons, List.length_cons, enmL_len]
section
variable {X : Cx} {w : Wh} {b : Nat} {W : WX} {e tg : Expr} {fa : Rho → M D} {pos p tpos : Pos} {elts : List Expr} {kk : Nat}
variable {σ : L2.St} {H : Hp} {pp : Pl} {S : Store}
theorem look_rep {d : D} {x : V} {J : Wk} (hS : RelS w H pp S) (r : Rep w H pp d x) (e : itOf d S = .ok J S) :
    (∃ a, x = .ref a ∧ (∃ xs, SqL w.K H a xs) ∧ ∀ H' p' S', Sees H pp H' p' → RelS w H' p' S' → stayS J S' → ∃ us, SqL w.K H' a us ∧ Reps w H' p' J.xs us) ∨
    (∃ a xs, x = .ref a ∧ SqT w.K H a xs ∧ Reps w H pp J.xs xs ∧ ∀ H' p', Sees H pp H' p' → SqT w.K H' a xs) ∨ ∃ s : List Nat, x = .str ⟨s.toArray⟩ ∧ J.xs = s.map fun c => .str [c] := by
  cases d <;> first | (cases e; done) | skip
  case str s => cases e; exact .inr (.inr ⟨s, r, rfl⟩)
  case tup ds =>
    cases e
    obtain ⟨a, vs, rfl, h1, r1⟩ := r
    exact .inr (.inl ⟨a, vs, rfl, SqT.of h1.1, r1, fun H' p' hs => SqT.of (hs.kept _ _ h1.1 h1.2).1⟩)
  case kt ds =>
    cases e
    obtain ⟨a, vs, rfl, h1, r1⟩ := r
    exact .inr (.inl ⟨a, vs, rfl, .inr h1, r1, fun H' p' hs => .inr h1⟩)
  case lst ds =>
    cases e
    obtain ⟨a, vs, rfl, h1, n, r1⟩ := r
    exact .inl ⟨a, rfl, ⟨vs, SqL.of h1⟩, fun H' p' S' hs _ _ => ⟨vs, SqL.of (hs.kept _ _ h1 n).1, Reps.see hs _ _ r1⟩⟩
  case scr ds =>
    cases e
    obtain ⟨a, vs, rfl, h1, h2, r1⟩ := r
    refine .inl ⟨a, rfl, ⟨vs, h1⟩, fun H' p' S' hs _ _ => ⟨vs, ?_, Reps.see hs _ _ r1⟩⟩
    rcases h2 with h2 | h2
    · exact .inl (hs.rd h2).1
    · exact h2 H'
  case ref n =>
    obtain ⟨a, e1, e2⟩ := r
    obtain ⟨c, e3, e4⟩ := hS.cell e2
    subst e1
    cases c with
    | lst ds =>
      simp only [itOf, e3] at e
      cases e
      obtain ⟨vs, h1, r1⟩ := e4
      refine .inl ⟨a, rfl, ⟨vs, SqL.of h1⟩, fun H' p' S' hs hS' st => ?_⟩
      obtain ⟨us, q1, q2⟩ := hS'.cells n a _ (getElem?_prefix hs.pre e2) st
      exact ⟨us, SqL.of q1, q2⟩
    | dct ks vs => simp only [itOf, e3] at e; cases e
    | ins c ns vs => simp only [itOf, e3] at e; cases e
theorem itOf_same {d : D} {S S' : Store} {J : Wk} (e : itOf d S = .ok J S') : S' = S := by
  unfold itOf at e
  split at e
  · split at e <;> first | (cases e; rfl) | cases e
  · cases e; rfl
  · split at e <;> first | (cases e; rfl) | cases e
/-- a pair that is drawn -/
theorem pair_told {H' H'' : Hp} {p' : Pl} {S' : Store} {T : Addr} {x : V} {d : D} {i : Nat} (hS : RelS w H' p' S') (hT : H' T = none) (hH : H'' = upd H' T (.tup [.int (i : Nat), x])) (r : Rep w H' p' d x) :
    Post w b H' p' S' H'' p' S' ∧ Rep w H'' p' (.tup [.int (i : Nat), d]) (.ref T) := by
  subst hH
  exact Rep.newTup hS (.cons (show Rep w H' p' (.int (i : Nat)) (.int (i : Nat)) from rfl) (.one r)) hT
theorem one_arg {α β : Type} {Rb : Hp → Pl → α → β → Prop} {k : D → M α} {Q2 : β → Hp → Prop} (h : tX w b W Rb (fun ρ => (fa ρ).bind k) σ H Q2) :
    tDs w b W (fun ρ => (fa ρ).bind fun u => (M.pure ([] : List D)).bind fun us => M.pure (u :: us)) σ H fun vs H1 => ∃ v p1 S1 u ρ, vs = [v] ∧ Now w b H1 p1 S1 σ ρ ∧ Rep w H1 p1 u v ∧ Res w b W σ Rb H1 p1 S1 (k u S1) Q2 := by
  obtain ⟨ρ, p, S, N, h⟩ := h
  refine ⟨ρ, p, S, N, ?_⟩
  revert h
  show Res w b W σ Rb H p S ((fa ρ).bind k S) Q2 → Res w b W σ (RDs w) H p S (((fa ρ).bind fun u => (M.pure ([] : List D)).bind fun us => M.pure (u :: us)) S) _
  unfold M.bind
  cases fa ρ S with
  | bad => exact fun h => h
  | ex c d S' => exact fun h => h
  | ok u S' =>
    intro h vs H' p' P r
    obtain ⟨v, rfl, rv⟩ := reps1 r
    exact ⟨v, p', S', u, ρ, rfl, N.post P, rv, h.later P⟩
/-- for i, x in enumerate(e) -/
theorem c_enm (hK : X.K = w.K) (hg : Gl X "enumerate") (hm : X.mg "enumerate" = none) (he : PE X e (tD w b W fa)) (hs : starEach [e] X.env = [(false, eval e X.env)]) :
    PI X (.Tuple elts kk tpos) (.Call (.Name "enumerate" p) [e] [] pos) (tI w b W fun ρ => (fa ρ).bind fun u => (itOf u).bind fun J => if J.xs.length ≤ SZ then M.pure ⟨enmL 0 J.xs, J.w, J.c⟩ else M.bad) := by
  refine ⟨fun pins s σ H R I h => ?_⟩
  refine Call_ (ld_blt I hg hm boot_enumerate (PyProof.Rows.callWith_type1 (thn ((c_cons he c_nil hs).run pos pins s σ H _ I (one_arg h)) fun us s1 ⟨vs, H1, I1, r1, v, p1, S1, u, ρ, ev, N, rv, h1⟩ => ?_) hs rfl))
  subst ev
  cases r1 with
  | cons r rr =>
  cases rr
  cases ei : itOf u S1 with
  | bad => unfold M.bind at h1; rw [ei] at h1; exact h1.elim
  | ex c d S' => exfalso; unfold itOf at ei; split at ei <;> (try split at ei) <;> cases ei
  | ok J S' =>
    obtain rfl := itOf_same ei
    rw [bind_of_ok ei] at h1
    by_cases hz : J.xs.length ≤ SZ
    · rw [if_pos hz] at h1
      replace h1 : ∀ I', RW w H1 p1 ⟨enmL 0 J.xs, J.w, J.c⟩ I' → R I' H1 := fun I' z => h1 I' H1 p1 (.refl N.s) z
      rcases look_rep N.s rv ei with ⟨a, rfl, ⟨xs, q0⟩, look⟩ | ⟨a, xs, rfl, q0, q1, see⟩ | ⟨z, rfl, hz2⟩
      · cases r
        rw [← hK] at q0
        obtain ⟨its, rv', p', _⟩ := I1.list q0
        refine enum_call (begins_list a its.toArray) p'.isList fun h' ie it kp => wpAny_pyIter_enum ie ?_
        have I2 : L2.Inv X pins σ H1 { s1 with heap := h' } := I1.kept (t' := s1.toks) kp
        refine ⟨s1.heap.objs.size + 1, [s1.heap.objs.size + 1, s1.heap.objs.size], _, Ite X.K a, H1, rfl, I2, turn_enum a (s1.heap.objs.size + 1) s1.heap.objs.size, ⟨⟨.none, ie⟩, ⟨_, it, rfl, rfl⟩, Nat.succ_ne_self _⟩, fun c hc => ?_, h1 _ ?_⟩
        · have two : c = s1.heap.objs.size + 1 ∨ c = s1.heap.objs.size := by simpa using hc
          have le : s1.heap.objs.size ≤ c := by rcases two with rfl | rfl <;> first | exact Nat.le_succ _ | exact Nat.le_refl _
          exact I1.fpOk le (I1.hok.fresh le)
        · refine ⟨J.xs.length, fun H => ∃ us, SqL X.K H a us ∧ us.length = J.xs.length, (Ite X.K a).yld, enmL_len.symm, ⟨fun i H hi ⟨us, g1, g2⟩ => ⟨us, us[i], g1, by simp⟩, fun H ⟨us, g1, g2⟩ => ⟨us, g1, by omega⟩, fun i H x H' hi g y => y⟩, fun H' p' S' hs hS' st => ?_, fun i H' v H'' p' S' b hs hS' st y => ?_⟩
          · obtain ⟨us, g1, g2⟩ := look H' p' S' hs hS' st
            exact ⟨us, by rw [hK]; exact g1, g2.length.symm⟩
          · obtain ⟨us, g1, g2⟩ := look H' p' S' hs hS' st
            obtain ⟨T, x, rfl, hT, hH, hx⟩ := y
            obtain ⟨d, k1, k2⟩ := g2.getV (hx us (by rw [hK]; exact g1))
            obtain ⟨P, rt⟩ := pair_told (b := b) hS' hT hH k2
            exact ⟨_, by rw [enmL_get k1]; simp, P, rt⟩
      · cases r
        rw [← hK] at q0
        obtain ⟨its, rv', p', _⟩ := I1.tuple q0
        refine enum_call (begins_tuple a its.toArray) (show s1.heap.IsTuple a its.toArray from p') fun h' ie it kp => wpAny_pyIter_enum ie ?_
        have I2 : L2.Inv X pins σ H1 { s1 with heap := h' } := I1.kept (t' := s1.toks) kp
        refine ⟨s1.heap.objs.size + 1, [s1.heap.objs.size + 1, s1.heap.objs.size], _, _, H1, rfl, I2, turn_n (feeds_tup (t := a) (xs := xs)) (fun i h ⟨o, h1, h2, h3⟩ => ⟨o, h1, fun v q => by rw [h3] at q; cases q⟩) (fun i h h' ⟨o, h1, h2, h3⟩ k => ⟨o, k o h1, h2, h3⟩), ⟨⟨.none, ie⟩, ⟨_, it, rfl, rfl⟩, Nat.succ_ne_self _⟩, fun c hc => ?_, h1 _ ?_⟩
        · have two : c = s1.heap.objs.size + 1 ∨ c = s1.heap.objs.size := by simpa using hc
          have le : s1.heap.objs.size ≤ c := by rcases two with rfl | rfl <;> first | exact Nat.le_succ _ | exact Nat.le_refl _
          exact I1.fpOk le (I1.hok.fresh le)
        · refine ⟨xs.length, fun H => SqT X.K H a xs, (Itn xs.length (fun i x => xs[i]? = some x) fun H => SqT X.K H a xs).yld, by rw [enmL_len, q1.length], ⟨fun i H hi g => ⟨hi, g⟩, fun H g => ⟨rfl, g⟩, fun i H x H' hi g y => y⟩, fun H' p' S' hs hS' st => by rw [hK]; exact see H' p' hs, fun i H' v H'' p' S' b hs hS' st y => ?_⟩
          obtain ⟨T, x, rfl, hT, hH, hx⟩ := y
          obtain ⟨d, k1, k2⟩ := (Reps.see hs _ _ q1).getV hx
          obtain ⟨P, rt⟩ := pair_told (b := b) hS' hT hH k2
          exact ⟨_, by rw [enmL_get k1]; simp, P, rt⟩
      · obtain ⟨tk, rfl⟩ := r
        refine enum_call (begins_text ⟨z.toArray⟩ tk) True.intro fun h' ie it kp => wpAny_pyIter_enum ie ?_
        have I2 : L2.Inv X pins σ H1 { s1 with heap := h' } := I1.kept (t' := s1.toks) kp
        refine ⟨s1.heap.objs.size + 1, [s1.heap.objs.size + 1, s1.heap.objs.size], _, _, H1, rfl, I2, turn_n (feeds_str (z := ⟨z.toArray⟩) (tk := tk)) (fun i h ⟨o, h1, h2, h3⟩ => ⟨o, h1, fun v q => by rw [h3] at q; cases q⟩) (fun i h h' ⟨o, h1, h2, h3⟩ k => ⟨o, k o h1, h2, h3⟩), ⟨⟨.none, ie⟩, ⟨_, it, rfl, rfl⟩, Nat.succ_ne_self _⟩, fun c hc => ?_, h1 _ ?_⟩
        · have two : c = s1.heap.objs.size + 1 ∨ c = s1.heap.objs.size := by simpa using hc
          have le : s1.heap.objs.size ≤ c := by rcases two with rfl | rfl <;> first | exact Nat.le_succ _ | exact Nat.le_refl _
          exact I1.fpOk le (I1.hok.fresh le)
        · refine ⟨z.length, fun _ => True, (Itn z.length (fun i x => ∃ c, z[i]? = some c ∧ x = .str ⟨#[c]⟩) fun _ => True).yld, by rw [enmL_len, hz2, List.length_map], ⟨fun i H hi g => ⟨by simpa using hi, g⟩, fun H g => ⟨by simp, g⟩, fun i H x H' hi g y => by simpa [Itn] using y⟩, fun H' p' S' hs hS' st => True.intro, fun i H' v H'' p' S' b hs hS' st y => ?_⟩
          obtain ⟨T, x, rfl, hT, hH, c, hx, rfl⟩ := y
          obtain ⟨P, rt⟩ := pair_told (b := b) (d := .str [c]) hS' hT hH (show V.str ⟨#[c]⟩ = V.str ⟨[c].toArray⟩ from rfl)
          exact ⟨_, by rw [enmL_get (d := .str [c]) (by rw [hz2]; simp [hx])]; simp, P, rt⟩
    · rw [if_neg hz] at h1; exact h1.elim
end
end CI
end
section
set_option Elab.async false
set_option linter.all false
set_option maxRecDepth 100000
/-! ## CI: from the text to the terms -/
namespace CI
open PySem PySem.Spec PyProof.Rows L2

/-- a def as it is called: its parameters, its defaults, the shapes of its calls: how many positional values, the keywords' names, where each parameter's value stands -/
structure FnI where
  ps : List Str
  dl : List D
  shapes : List ((Nat × List Str) × List Nat)
  nam : Bool
/-- what is known where a text stands -/
structure CC where
  N : List Str
  sc : Scope
  fns : List (Str × FnI)
  gls : List Str
  mu : List (Nat × Nat)
  cls : List (Str × ClT)
def CC.mut (c : CC) (p : Pos) : Bool := c.mu.contains (p.line, p.col)
def slotIx : List Str → Str → Option Nat
  | [], _ => none
  | y :: ys, x => if y = x then some 0 else (slotIx ys x).map (· + 1)
def kindB (sc : Scope) (x : Str) : Option NameKind := sc.names.lookup x
def visB (sc : Scope) (x : Str) : Bool := match kindB sc x with
  | some .local => true
  | some .cell => true
  | some .free => true
  | _ => false
def locB (sc : Scope) (x : Str) : Bool := match kindB sc x with
  | some .local => true
  | some .cell => true
  | _ => false
def glB (sc : Scope) (x : Str) : Bool := match kindB sc x with
  | some .globalImplicit => true
  | _ => false
def dbg (x : Str) : Bool := x == ("__debug__" : Str) || x == ("__classdict__" : Str)
def nst : Expr → Bool
  | .Starred _ _ => false
  | _ => true
def litK : Const → Option D
  | .none => some .non
  | .bool b => some (.bl b)
  | .int i => some (.int i)
  | .str s => some (.str s.cps.toList)
  | _ => none
def cpL (f : Expr → Option Ex) : List Expr → Option Ex
  | [] => some .nil
  | e :: es => if nst e then (match f e, cpL f es with
    | some a, some r => some (.cons a r)
    | _, _ => none) else none
def cpK (f : Expr → Option Ex) : List Keyword → Option Ex
  | [] => some .nil
  | ⟨_, e, _⟩ :: es => (match f e, cpK f es with
    | some a, some r => some (.cons a r)
    | _, _ => none)
def cpB (k : Ex → Ex → Ex) (f : Expr → Option Ex) : List Expr → Option Ex
  | [] => none
  | e :: es => match es with
    | [] => f e
    | _ :: _ => (match f e, cpB k f es with
      | some a, some r => some (k a r)
      | _, _ => none)
def cpP (f : Expr → Option Ex) : List (Option Expr) → List Expr → Option Ex
  | [], [] => some .nil
  | some k :: ks, v :: vs => (match f k, f v, cpP f ks vs with
    | some a, some c, some r => some (.cons a (.cons c r))
    | _, _, _ => none)
  | _, _ => none
def cpO (f : Expr → Option Ex) : Option Expr → Option Ex
  | none => some .nil
  | some e => (f e).map .prt
def cp2 (k : Ex → Ex → Ex) (a b : Option Ex) : Option Ex := match a, b with
  | some x, some y => some (k x y)
  | _, _ => none
def cp3 (k : Ex → Ex → Ex → Ex) (a b c : Option Ex) : Option Ex := match a, b, c with
  | some x, some y, some z => some (k x y z)
  | _, _, _ => none
/-- no slice as an index -/
def notSl : Expr → Bool
  | .Slice _ _ _ _ => false
  | _ => true
/-- is it no call without arguments -/
def abOk : Expr → Bool
  | .Call _ _ _ _ => false
  | _ => true
def biOf (x : Str) (n : Nat) : Option Bi :=
  if x = ("len" : Str) then some .len else if x = ("int" : Str) then some .int else if x = ("abs" : Str) then some .abs else if x = ("divmod" : Str) then some .divmod
  else if x = ("min" : Str) ∧ n = 2 then some .min2 else if x = ("max" : Str) ∧ n = 2 then some .max2 else if x = ("list" : Str) then some .list else if x = ("tuple" : Str) then some .tuple
  else if x = ("repr" : Str) then some .repr else if x = ("all" : Str) then some .all else if x = ("any" : Str) then some .any else if x = ("sum" : Str) then some .sum else none
def tyOfN (x : Str) : Option Ty :=
  if x = ("int" : Str) then some .int else if x = ("bool" : Str) then some .bool else if x = ("str" : Str) then some .str else if x = ("tuple" : Str) then some .tuple
  else if x = ("list" : Str) then some .list else if x = ("dict" : Str) then some .dict else none
/-- targets -/
def cpG (f : Expr → Option Ex) (c : CC) : Nat → Expr → Option Ex
  | 0, _ => none
  | n + 1, e => match e with
    | .Name x _ => if locB c.sc x then (slotIx c.N x).map .tnm else none
    | .Tuple es _ _ => (cpL (cpG f c n) es).map .tup
    | .Subscript o i _ => if notSl i then cp2 .tsub (f o) (f i) else none
    | .Attribute o x _ => (f o).map (.tfld · x)
    | _ => none
def isTupE : Expr → Bool
  | .Tuple _ _ _ => true
  | _ => false
mutual
def tgIx : Ex → List Nat
  | .tnm i => [i]
  | .tup es => tgIx es
  | .cons a r => tgIx a ++ tgIx r
  | _ => []
end
/-- what is walked -/
def cpI (f : Expr → Option Ex) (c : CC) (tt : Bool) (e : Expr) : Option Ex := match e with
  | .Call (.Name x _) [a] [] _ => if x = ("range" : Str) then (if nst a && glB c.sc x then (f a).map .rng1 else none) else if x = ("enumerate" : Str) then (if nst a && glB c.sc x && tt then (f a).map .enm else none) else (f e).map .itv
  | .Call (.Name x _) [a, d] [] _ => if x = ("range" : Str) then (if nst a && nst d && glB c.sc x then cp2 .rng2 (f a) (f d) else none) else (f e).map .itv
  | .Set _ _ _ => none
  | e => (f e).map .itv
/-- the tests of a comprehension -/
def cpF (f : Expr → Option Ex) : List Expr → Option Ex
  | [] => some .nil
  | [e] => (f e).map fun a => .cons a .nil
  | _ => none
def ownOf (N : List Str) (sc : Scope) : List (Str × Nat) := sc.names.filterMap fun y => if y.2 = .local ∨ y.2 = .cell then (slotIx N y.1).map fun i => (y.1, i) else none
def blkB (N : List Str) (sc scope : Scope) (own : List (Str × Nat)) : Bool :=
  decide (scope.kind = .function) && scope.names.all (fun y => decide (scope.names.lookup y.1 = some y.2)) && own.all (fun p => decide (N[p.2]? = some p.1)) &&
  scope.names.all (fun y => !decide (y.2 = .free) || decide (sc.names.lookup y.1 = some .cell) || decide (sc.names.lookup y.1 = some .free)) &&
  scope.names.all (fun y => !(decide (y.2 = .local) || decide (y.2 = .cell)) || (own.map (·.1)).contains y.1 || !N.contains y.1)
def cpBi (f : Expr → Option Ex) (c : CC) (x : Str) (args : List Expr) : Option Ex := if x = ("isinstance" : Str) then (match args with
    | [a, .Name y _] => if nst a && glB c.sc y && !dbg y then (match tyOfN y, f a with
      | some t, some r => some (.isa r t)
      | _, _ => none) else none
    | _ => none) else (match args with
    | [] => none
    | a :: as => (match biOf x (a :: as).length, cpL f (a :: as) with
      | some q, some es => some (.bi q es)
      | _, _ => none))
def cpFn (f : Expr → Option Ex) (fi : FnI) (x : Str) (args : List Expr) (kws : List Keyword) : Option Ex := if kws.all (·.arg.isSome) then (match fi.shapes.lookup (args.length, kws.filterMap (·.arg)), cpL f args, cpK f kws with
    | some pl, some es, some ks => some (.call x args.length kws.length pl fi.dl es ks)
    | _, _, _ => none) else none
def cpCall (f : Expr → Option Ex) (c : CC) (x : Str) (args : List Expr) (kws : List Keyword) : Option Ex := if dbg x then none else if visB c.sc x then (match args with
    | [] => none
    | _ :: _ => if kws.isEmpty then (match slotIx c.N x, cpL f args with
      | some i, some es => some (.callv i es)
      | _, _ => none) else none)
    else if !glB c.sc x then none else (match c.fns.lookup x with
    | some fi => if fi.nam then cpFn f fi x args kws else none
    | none => if kws.isEmpty then (match c.cls.lookup x with
      | some t => (match t.ms.lookup (PySem.Str.ofString "__init__") with
        | some _ => (cpL f args).map (.make x)
        | none => none)
      | none => cpBi f c x args) else none)
def cpMeth (f : Expr → Option Ex) (o : Expr) (m : Str) (args : List Expr) (ln : Bool) : Option Ex := if abOk o && ln then
    (if m = ("append" : Str) then (match args with
      | [a] => if nst a then cp2 (fun x y => .bm .append x (.cons y .nil)) (f o) (f a) else none
      | _ => none)
    else if m = ("pop" : Str) then (match args with
      | [] => (f o).map fun x => .bm .pop x .nil
      | _ => none)
    else if m = ("get" : Str) then (match args with
      | [a, d] => if nst a && nst d then cp3 (fun x y z => .bm .get x (.cons y (.cons z .nil))) (f o) (f a) (f d) else none
      | _ => none)
    else if args.length < 29 then cp2 (.meth · m ·) (f o) (cpL f args) else none) else none
/-- expressions (false), tests (true) -/
def cp : Nat → Bool → CC → Expr → Option Ex
  | 0, _, _, _ => none
  | n + 1, true, c, e => (match e with
    | .BoolOp .And es _ => cpB .and (cp n true c) es
    | .BoolOp .Or es _ => cpB .or (cp n true c) es
    | .UnaryOp .Not a _ => (cp n true c a).map .not
    | .Compare a [op] [d] _ => (match cpOf op with
      | some o => if behindInMarks op d then none else cp2 (.cmp o) (cp n false c a) (cp n false c d)
      | none => none)
    | .Compare a [op, op2] [d, d2] _ => (match cpOf op, cpOf op2 with
      | some o, some o2 => if lastMarks [op, op2] [d, d2] then none else cp3 (.chain o o2) (cp n false c a) (cp n false c d) (cp n false c d2)
      | _, _ => none)
    | .IfExp x y z _ => cp3 .ite (cp n true c x) (cp n true c y) (cp n true c z)
    | .Name _ _ => (cp n false c e).map .tst
    | .Call _ _ _ _ => (cp n false c e).map .tst
    | .Attribute _ _ _ => (cp n false c e).map .tst
    | .Subscript _ _ _ => (cp n false c e).map .tst
    | .BinOp _ _ _ _ => (cp n false c e).map .tst
    | .Constant _ _ _ => (cp n false c e).map .tst
    | .ListComp _ _ _ _ => (cp n false c e).map .tst
    | .List _ _ => (cp n false c e).map .tst
    | .Tuple _ _ _ => (cp n false c e).map .tst
    | _ => none)
  | n + 1, false, c, e => (match e with
    | .Constant k _ _ => (litK k).map .lit
    | .Name x _ => if dbg x then none else if visB c.sc x then (slotIx c.N x).map .var else if glB c.sc x && c.gls.contains x then some (.glb x) else if glB c.sc x then (match c.fns.lookup x with
      | some fi => if fi.nam then some (.lit (.fn x)) else none
      | none => none) else none
    | .Tuple es _ _ => (cpL (cp n false c) es).map .tup
    | .List es pos => (cpL (cp n false c) es).map fun r => .lst r (c.mut pos)
    | .Dict ks vs pos => if ks.length ≤ 15 then (cpP (cp n false c) ks vs).map fun r => .dct r (c.mut pos) else none
    | .BinOp a op d _ => (match opOf op with
      | some o => cp2 (.bop o) (cp n false c a) (cp n false c d)
      | none => none)
    | .UnaryOp .USub a _ => (cp n false c a).map .neg
    | .UnaryOp .Not a _ => (cp n false c a).map .not
    | .Compare a [op] [d] _ => (match cpOf op with
      | some o => if behindInMarks op d then none else cp2 (.cmp o) (cp n false c a) (cp n false c d)
      | none => none)
    | .Compare a [op, op2] [d, d2] _ => (match cpOf op, cpOf op2 with
      | some o, some o2 => if lastMarks [op, op2] [d, d2] then none else cp3 (.chain o o2) (cp n false c a) (cp n false c d) (cp n false c d2)
      | _, _ => none)
    | .BoolOp .And es _ => cpB .and (cp n false c) es
    | .BoolOp .Or es _ => cpB .or (cp n false c) es
    | .IfExp x y z _ => cp3 .ite (cp n true c x) (cp n false c y) (cp n false c z)
    | .Attribute o x _ => if abOk o then (cp n false c o).map (.fld · x) else none
    | .Subscript o (.Slice lo hi none _) _ => cp3 .slc (cp n false c o) (cpO (cp n false c) lo) (cpO (cp n false c) hi)
    | .Subscript o i _ => if notSl i then cp2 .idx (cp n false c o) (cp n false c i) else none
    | .ListComp elt [⟨tg, iter, ifs, as⟩] scope pos => if as = 0 ∧ blkB c.N c.sc scope (ownOf c.N scope) = true then
        (match cpI (cp n false c) c (isTupE tg) iter, cpG (cp n false { c with sc := scope }) { c with sc := scope } n tg, cpF (cp n true { c with sc := scope }) ifs, cp n false { c with sc := scope } elt with
        | some i, some g, some t, some y => if (tgIx g).all (fun i => ((ownOf c.N scope).map (·.2)).contains i) then some (.lc ((ownOf c.N scope).map (·.2)) g i t y (c.mut pos)) else none
        | _, _, _, _ => none) else none
    | .Call (.Name x _) args kws _ => cpCall (cp n false c) c x args kws
    | .Call (.Attribute o m apos) args [] pos => cpMeth (cp n false c) o m args (apos.endLine == pos.line)
    | _ => none)
/-- stores of two names that are swapped -/
def swap2 (sc : Scope) (tg e : Expr) : Bool := match tg, e with
  | .Tuple [.Name x px, .Name y py] _ _, .Tuple [a, d] _ _ => nst a && nst d && decide (kindB sc x = some .local) && decide (kindB sc y = some .local) && decide (px.line = py.line) && !decide (x = y) &&
    !([a, d].all (foldedForSure 8)) && !([a, d].all (constantsAlone 8))
  | _, _ => false
/-- stores of three names -/
def swap3 (sc : Scope) (tg e : Expr) : Bool := match tg, e with
  | .Tuple [.Name x px, .Name y py, .Name z pz] _ _, .Tuple [a, d, g] _ _ => nst a && nst d && nst g && decide (kindB sc x = some .local) && decide (kindB sc y = some .local) && decide (kindB sc z = some .local) && decide (px.line = py.line) && decide (py.line = pz.line) && !decide (x = y) && !decide (x = z) && !decide (y = z) &&
    !([a, d, g].all (foldedForSure 8)) && !([a, d, g].all (constantsAlone 8))
  | _, _ => false
/-- no swapped stores -/
def notLoc (sc : Scope) : Expr → Bool
  | .Name x _ => !(kindB sc x == some .local)
  | _ => true
def noSwap (sc : Scope) (tg e : Expr) : Bool := match tg with
  | .Name _ _ => true
  | .Subscript _ _ _ => true
  | .Attribute _ _ _ => true
  | .Tuple ts _ _ => (match e with
    | .Tuple vs _ _ => vs.all (foldedForSure 8) || ts.any (notLoc sc) || decide (4 ≤ ts.length)
    | _ => true)
  | _ => false
def noComp : Expr → Bool
  | .ListComp _ _ _ _ => false
  | .SetComp _ _ _ _ => false
  | .DictComp _ _ _ _ _ => false
  | _ => true
def lcB (sc : Scope) (t : Str) (tp : Pos) (s : Scope) (p : Pos) : Bool := kindB sc t == some .local && tp.line == p.line && !(s.names.any fun (n, k) => n == t && (k == .local || k == .cell))
/-- is a comprehension stored at once -/
def swapLc (sc : Scope) (tg e : Expr) : Bool := match tg, e with
  | .Name t tp, .ListComp _ _ s p => lcB sc t tp s p
  | _, _ => false
def noLc (sc : Scope) (tg e : Expr) : Bool := noComp e || (match tg, e with
  | .Name t tp, .ListComp _ _ s p => !lcB sc t tp s p
  | .Name _ _, _ => false
  | _, .ListComp _ _ _ _ => true
  | _, _ => false)
/-- statements -/
def cpSs (f : Stmt → Option Sm) : List Stmt → Option Sm
  | [] => some .skip
  | s :: r => (match f s, cpSs f r with
    | some a, some q => some (.seq a q)
    | _, _ => none)
def cpS : Nat → CC → Stmt → Option Sm
  | 0, _, _ => none
  | n + 1, c, s => (match s with
    | .Pass _ => some .skip
    | .Break _ => some .brk
    | .Continue _ => some .cont
    | .Return none _ => some .retN
    | .Return (some e) _ => (cp n false c e).map .ret
    | .Expr e _ => if noComp e then (cp n false c e).map .expr else none
    | .If t a d _ => (match cp n true c t, cpSs (cpS n c) a, cpSs (cpS n c) d with
      | some x, some y, some z => some (.iff x y z)
      | _, _, _ => none)
    | .While t a [] _ => (match cp n true c t, cpSs (cpS n c) a with
      | some x, some y => some (.whl x y)
      | _, _ => none)
    | .For tg it a [] _ => (match cpI (cp n false c) c (isTupE tg) it, cpG (cp n false c) c n tg, cpSs (cpS n c) a with
      | some i, some g, some y => some (.for_ g i y)
      | _, _, _ => none)
    | .Raise _ _ _ => some .never
    | .Assign [tg] e _ => if swap2 c.sc tg e || swap3 c.sc tg e then (match tg, e with
        | .Tuple ts _ _, .Tuple es _ _ => (match cpL (cpG (cp n false c) c n) ts, cpL (cp n false c) es with
          | some g, some r => some (.par g r)
          | _, _ => none)
        | _, _ => none) else if swapLc c.sc tg e || (noSwap c.sc tg e && noLc c.sc tg e) then (match cpG (cp n false c) c n tg, cp n false c e with
        | some g, some r => some (.asg g r)
        | _, _ => none) else none
    | _ => none)
end CI
end
section
set_option Elab.async false
set_option linter.all false
set_option maxRecDepth 100000
/-! ## CI: what the terms tell of the text: lists, built-ins -/
namespace CI
open PySem PySem.Spec PyProof.Rows L2

def bnames : List Str := ["len", "int", "abs", "divmod", "min", "max", "list", "tuple", "repr", "all", "any", "sum", "isinstance", "bool", "str", "dict", "range", "enumerate"]
/-- the scope as it is seen where it runs -/
def SC (sc sc' : Scope) : Prop := ∀ x, match sc.names.lookup x with
  | some .free => sc'.names.lookup x = some .free ∨ sc'.names.lookup x = some .cell
  | o => sc'.names.lookup x = o
theorem SC.refl (sc : Scope) : SC sc sc := fun x => by
  cases h : sc.names.lookup x with
  | none => rfl
  | some k => cases k <;> first | rfl | exact .inl rfl
structure Good (G : Cfg) (w : Wh) (k : Nat) (X : Cx) (W : WX) (c : CC) : Prop where
  hN : X.N = c.N
  nd : c.N.Nodup
  calm : X.calm = true
  sc : SC c.sc X.env.scope
  hg : X.A.guards = some []
  room : Room (k + 1) X.A
  hK : X.K = w.K
  tk : Takes X W
  fn : ∀ x, locB c.sc x = true → X.fn x = true ∨ X.env.scope.names.lookup x = some .local
  gl : ∀ x, c.gls.contains x = true → ∃ d v u, G.glob x = some d ∧ X.mg x = some u ∧ RelV v u ∧ ∀ H p, Rep w H p d v
  bi : ∀ x ∈ bnames, X.mg x = none
  cl : ∀ x t, G.cls x = some t → ClOk X.K (w.fa x) t w.fa
  clT : ∀ x t, c.cls.lookup x = some t → G.cls x = some t ∧ X.mg x = some (.ref (w.fa x))
  ms : ∀ x m f, metK G.cls x m = some f → PosOk X.prog X.w X.K X.mg X.base w k G.arg G.call f
  hs : ∀ f, G.has f = true → PosOk X.prog X.w X.K X.mg X.base w k G.arg G.call f
  fs : ∀ x fi, c.fns.lookup x = some fi → fi.nam = true → X.mg x = some (.ref (w.fa x)) ∧ PySem.W.keepIn X.K (.ref (w.fa x)) = true ∧ ∃ fd, FnG X.prog X.w X.K X.mg X.base k (w.fa x) fd fi.ps (spC w fi.ps.length fun ds b => G.call x ds b) ∧
    ∀ np ks pl, fi.shapes.lookup (np, ks) = some pl → pl.length = fi.ps.length ∧ ∃ dv, litVs fi.dl = some dv ∧ KBd X.K fd fi.ps np ks dv pl
theorem dbg_no {x : Str} (h : ¬ dbg x = true) : (x == ("__debug__" : Str)) = false ∧ (x == ("__classdict__" : Str)) = false := by
  unfold dbg at h
  rw [Bool.or_eq_true, not_or] at h
  exact ⟨Bool.eq_false_iff.mpr h.1, Bool.eq_false_iff.mpr h.2⟩
theorem nst_star {e : Expr} {es : List Expr} {env : Env} (h : nst e = true) : starEach (e :: es) env = (false, eval e env) :: starEach es env := by cases e <;> first | rfl | (cases h; done)
theorem nst_any {env : Env} {pos : Pos} : ∀ {es : List Expr}, (∀ e ∈ es, nst e = true) → (backTo pos (starEach es env)).any (·.1) = false
  | [], _ => rfl
  | e :: es, h => by
    rw [nst_star (h e List.mem_cons_self)]
    show (false || (backTo pos (starEach es env)).any (·.1)) = false
    rw [nst_any fun e he => h e (List.mem_cons_of_mem _ he)]; rfl
theorem nst_all {env : Env} {pos : Pos} : ∀ {es : List Expr}, (∀ e ∈ es, nst e = true) → (backTo pos (starEach es env)).all (fun x => !x.1) = true
  | [], _ => rfl
  | e :: es, h => by
    rw [nst_star (h e List.mem_cons_self)]
    show ((!false) && (backTo pos (starEach es env)).all (fun x => !x.1)) = true
    rw [nst_all fun e he => h e (List.mem_cons_of_mem _ he)]; rfl
theorem kw_all {env : Env} {pos : Pos} : ∀ {kws : List Keyword}, kws.all (·.arg.isSome) = true → (backToKw pos (keywordEach kws env)).all (·.1.isSome) = true
  | [], _ => rfl
  | ⟨n, e, p⟩ :: kws, h => by
    rw [List.all_cons, Bool.and_eq_true] at h
    show (n.isSome && (backToKw pos (keywordEach kws env)).all (·.1.isSome)) = true
    rw [kw_all h.2, h.1]; rfl
theorem kw_none {env : Env} {pos : Pos} : ∀ {kws : List Keyword}, kws.all (·.arg.isSome) = true → (backToKw pos (keywordEach kws env)).any (·.1.isNone) = false
  | [], _ => rfl
  | ⟨n, e, p⟩ :: kws, h => by
    rw [List.all_cons, Bool.and_eq_true] at h
    show (n.isNone || (backToKw pos (keywordEach kws env)).any (·.1.isNone)) = false
    rw [kw_none h.2]
    have h1 : n.isSome = true := h.1
    cases n <;> first | rfl | (cases h1)
theorem kw_names {env : Env} {pos : Pos} : ∀ {kws : List Keyword}, (backToKw pos (keywordEach kws env)).filterMap (·.1) = kws.filterMap (·.arg)
  | [] => rfl
  | ⟨n, e, p⟩ :: kws => by
    show List.filterMap (·.1) ((n, _) :: backToKw pos (keywordEach kws env)) = _
    cases n with
    | none => simp only [List.filterMap_cons]; exact kw_names
    | some x => simp only [List.filterMap_cons]; rw [kw_names]
theorem ab_ok {o : Expr} {m : Str} {env : Env} {t : Sem Value} (h : abOk o = true) : attributeBase o m env t = t := by
  unfold attributeBase
  cases o <;> first | rfl | (cases h; done)
section
variable {G : Cfg} {w : Wh} {b k : Nat} {X : Cx} {W : WX} {c : CC} {f : Expr → Option Ex} {pos p : Pos}
theorem Good.rm (g : Good G w k X W c) : Room k X.A := g.room.mono (Nat.le_succ k)
theorem Good.hu (g : Good G w k X W c) : X.A.units + 65 < cLine := by have := g.room.un; omega
theorem cpL_nst : ∀ {es : List Expr} {r : Ex}, cpL f es = some r → ∀ e ∈ es, nst e = true
  | [], _, _, e, he => by cases he
  | e0 :: es, r, h, e, he => by
    unfold cpL at h
    by_cases hn : nst e0 = true
    · rw [if_pos hn] at h
      cases h1 : f e0 with
      | none => rw [h1] at h; cases h
      | some a =>
        cases h2 : cpL f es with
        | none => rw [h1, h2] at h; cases h
        | some r' =>
          rcases List.mem_cons.mp he with z | z
          · rw [z]; exact hn
          · exact cpL_nst h2 e z
    · rw [if_neg hn] at h; cases h
theorem cpL_cons {e : Expr} {es : List Expr} {r : Ex} (h : cpL f (e :: es) = some r) : nst e = true ∧ ∃ a r', f e = some a ∧ cpL f es = some r' ∧ r = .cons a r' := by
  unfold cpL at h
  by_cases hn : nst e = true
  · rw [if_pos hn] at h
    cases h1 : f e with
    | none => rw [h1] at h; cases h
    | some a =>
      cases h2 : cpL f es with
      | none => rw [h1, h2] at h; cases h
      | some r' => rw [h1, h2] at h; cases h; exact ⟨hn, a, r', rfl, rfl, rfl⟩
  · rw [if_neg hn] at h; cases h
theorem snd_L (hf : ∀ e a, f e = some a → PE X e (tD w b W fun ρ => ev G b a ρ)) : ∀ {es : List Expr} {r : Ex}, cpL f es = some r → PA X es (tDs w b W fun ρ => evs G b r ρ)
  | [], r, h => by cases h; exact c_nil
  | e :: es, r, h => by
    obtain ⟨hn, a, r', h1, h2, rfl⟩ := cpL_cons h
    exact c_cons (hf e a h1) (snd_L hf h2) (nst_star hn)
theorem snd_K (hf : ∀ e a, f e = some a → PE X e (tD w b W fun ρ => ev G b a ρ)) : ∀ {es : List Keyword} {r : Ex}, cpK f es = some r → PK X es (tDs w b W fun ρ => evs G b r ρ)
  | [], r, h => by cases h; exact c_knil
  | ⟨n, e, p⟩ :: es, r, h => by
    unfold cpK at h
    cases h1 : f e with
    | none => rw [h1] at h; cases h
    | some a =>
      cases h2 : cpK f es with
      | none => rw [h1, h2] at h; cases h
      | some r' => rw [h1, h2] at h; cases h; exact c_kcons (hf e a h1) (snd_K hf h2)
theorem snd_P (hf : ∀ e a, f e = some a → PE X e (tD w b W fun ρ => ev G b a ρ)) : ∀ {ks : List (Option Expr)} {vs : List Expr} {r : Ex}, cpP f ks vs = some r → ∃ trs, PPc X w b W pos ks vs trs fun ρ => evs G b r ρ
  | [], [], r, h => by cases h; exact ⟨_, .nil⟩
  | [], _ :: _, r, h => by cases h
  | none :: _, _, r, h => by unfold cpP at h; cases h
  | some _ :: _, [], r, h => by cases h
  | some k :: ks, v :: vs, r, h => by
    unfold cpP at h
    cases h1 : f k with
    | none => rw [h1] at h; cases h
    | some a =>
      cases h2 : f v with
      | none => rw [h1, h2] at h; cases h
      | some d =>
        cases h3 : cpP f ks vs with
        | none => rw [h1, h2, h3] at h; cases h
        | some r' =>
          rw [h1, h2, h3] at h
          cases h
          obtain ⟨trs, q⟩ := snd_P hf h3
          exact ⟨_, .cons (hf k a h1) (hf v d h2) q⟩
theorem snd_andV (hf : ∀ e a, f e = some a → PE X e (tD w b W fun ρ => ev G b a ρ)) : ∀ {es : List Expr} {r : Ex}, cpB .and f es = some r → PE X (.BoolOp .And es pos) (tD w b W fun ρ => ev G b r ρ)
  | [], r, h => by cases h
  | [e], r, h => pe_one (hf e r h)
  | e :: e2 :: es, r, h => by
    unfold cpB at h
    simp only at h
    cases h1 : f e with
    | none => rw [h1] at h; cases h
    | some a =>
      cases h2 : cpB Ex.and f (e2 :: es) with
      | none => rw [h1, h2] at h; cases h
      | some r' => rw [h1, h2] at h; cases h; exact c_and (hf e a h1) (snd_andV hf h2)
theorem snd_orV (hf : ∀ e a, f e = some a → PE X e (tD w b W fun ρ => ev G b a ρ)) : ∀ {es : List Expr} {r : Ex}, cpB .or f es = some r → PE X (.BoolOp .Or es pos) (tD w b W fun ρ => ev G b r ρ)
  | [], r, h => by cases h
  | [e], r, h => pe_one (hf e r h)
  | e :: e2 :: es, r, h => by
    unfold cpB at h
    simp only at h
    cases h1 : f e with
    | none => rw [h1] at h; cases h
    | some a =>
      cases h2 : cpB Ex.or f (e2 :: es) with
      | none => rw [h1, h2] at h; cases h
      | some r' => rw [h1, h2] at h; cases h; exact c_or (hf e a h1) (snd_orV hf h2)
theorem snd_andT (hf : ∀ e a, f e = some a → PT X e (tT w b W fun ρ => evT G b a ρ)) : ∀ {es : List Expr} {r : Ex}, cpB .and f es = some r → PW X (.BoolOp .And es pos) (tT w b W fun ρ => evT G b r ρ)
  | [], r, h => by cases h
  | [e], r, h => pw_and1 (hf e r h)
  | e :: e2 :: es, r, h => by
    unfold cpB at h
    simp only at h
    cases h1 : f e with
    | none => rw [h1] at h; cases h
    | some a =>
      cases h2 : cpB Ex.and f (e2 :: es) with
      | none => rw [h1, h2] at h; cases h
      | some r' => rw [h1, h2] at h; cases h; exact ct_and (hf e a h1) (snd_andT hf h2)
theorem snd_orT (hf : ∀ e a, f e = some a → PT X e (tT w b W fun ρ => evT G b a ρ)) : ∀ {es : List Expr} {r : Ex}, cpB .or f es = some r → PW X (.BoolOp .Or es pos) (tT w b W fun ρ => evT G b r ρ)
  | [], r, h => by cases h
  | [e], r, h => pw_or1 (hf e r h)
  | e :: e2 :: es, r, h => by
    unfold cpB at h
    simp only at h
    cases h1 : f e with
    | none => rw [h1] at h; cases h
    | some a =>
      cases h2 : cpB Ex.or f (e2 :: es) with
      | none => rw [h1, h2] at h; cases h
      | some r' => rw [h1, h2] at h; cases h; exact ct_or (hf e a h1) (snd_orT hf h2)
theorem map_some {α β : Type} {o : Option α} {g : α → β} {r : β} (h : o.map g = some r) : ∃ x, o = some x ∧ r = g x := by
  cases o with
  | none => cases h
  | some x => cases h; exact ⟨x, rfl, rfl⟩
theorem snd_O (hf : ∀ e a, f e = some a → PE X e (tD w b W fun ρ => ev G b a ρ)) {o : Option Expr} {r : Ex} (h : cpO f o = some r) : PO X o (tO w b W fun ρ => evO G b r ρ) := by
  cases o with
  | none => cases h; exact c_noPart
  | some e =>
    obtain ⟨a, h1, rfl⟩ := map_some h
    exact c_part (hf e a h1)
theorem cp2_some {kk : Ex → Ex → Ex} {a d : Option Ex} {r : Ex} (h : cp2 kk a d = some r) : ∃ x y, a = some x ∧ d = some y ∧ r = kk x y := by
  cases a <;> cases d <;> first | (cases h; done) | (cases h; exact ⟨_, _, rfl, rfl, rfl⟩)
theorem cp3_some {kk : Ex → Ex → Ex → Ex} {a d e : Option Ex} {r : Ex} (h : cp3 kk a d e = some r) : ∃ x y z, a = some x ∧ d = some y ∧ e = some z ∧ r = kk x y z := by
  cases a <;> cases d <;> cases e <;> first | (cases h; done) | (cases h; exact ⟨_, _, _, rfl, rfl, rfl, rfl⟩)
/-! names -/
theorem slotIx_get : ∀ {N : List Str} {x : Str} {i : Nat}, slotIx N x = some i → N[i]? = some x
  | [], _, _, h => by cases h
  | y :: ys, x, i, h => by
    unfold slotIx at h
    by_cases hy : y = x
    · rw [if_pos hy] at h; cases h; simp [hy]
    · rw [if_neg hy] at h
      obtain ⟨j, h1, rfl⟩ := map_some h
      simpa using slotIx_get h1
theorem SC.vis {sc sc' : Scope} (s : SC sc sc') {x : Str} (h : visB sc x = true) : Vis sc' x := by
  unfold visB kindB at h
  unfold Vis
  have := s x
  split at h <;> rename_i e <;> first | (cases h; done) | (rw [e] at this; first | exact .inl this | exact .inr (.inl this) | exact this.elim (fun z => .inr (.inr z)) fun z => .inr (.inl z))
theorem SC.loc {sc sc' : Scope} (s : SC sc sc') {x : Str} (h : locB sc x = true) : L2.Loc sc' x := by
  unfold locB kindB at h
  unfold L2.Loc
  have := s x
  split at h <;> rename_i e <;> first | (cases h; done) | (rw [e] at this; first | exact .inl this | exact .inr this)
theorem Good.gl' (g : Good G w k X W c) {x : Str} (h : glB c.sc x = true) : Gl X x := by
  unfold glB kindB at h
  show X.env.scope.names.lookup x = some .globalImplicit
  have := g.sc x
  split at h <;> rename_i e <;> first | (cases h; done) | (rw [e] at this; exact this)
theorem snd_name (g : Good G w k X W c) {x : Str} {a : Ex} {n : Nat} (h : cp (n + 1) false c (.Name x p) = some a) : PE X (.Name x p) (tD w b W fun ρ => ev G b a ρ) := by
  have h : (if dbg x then none else if visB c.sc x then (slotIx c.N x).map Ex.var else if glB c.sc x && c.gls.contains x then some (.glb x) else if glB c.sc x then (match c.fns.lookup x with
      | some fi => if fi.nam then some (.lit (.fn x)) else none
      | none => none) else none) = some a := h
  by_cases hd : dbg x = true
  · rw [if_pos hd] at h; cases h
  · rw [if_neg hd] at h
    obtain ⟨hd, hcd⟩ := dbg_no hd
    by_cases hv : visB c.sc x = true
    · rw [if_pos hv] at h
      obtain ⟨i, h1, rfl⟩ := map_some h
      exact c_var (i := i) (pe_var (by rw [g.hN]; exact slotIx_get h1) (g.sc.vis hv) hd hcd)
    · rw [if_neg hv] at h
      by_cases hg : (glB c.sc x && c.gls.contains x) = true
      · rw [if_pos hg] at h
        cases h
        rw [Bool.and_eq_true] at hg
        obtain ⟨d, v, u, q1, q2, q3, q4⟩ := g.gl x hg.2
        have := c_val (W := W) (b := b) (pe_glob (pos := p) (g.gl' hg.1) q2 q3 hd) q4
        refine PE.imp this fun σ H Q z => ?_
        obtain ⟨ρ, p, S, N, z⟩ := z
        refine ⟨ρ, p, S, N, ?_⟩
        have z : Res w b W σ (RD w) H p S (M.lift (G.glob x) S) Q := z
        rw [q1] at z
        exact z
      · rw [if_neg hg] at h
        by_cases hg2 : glB c.sc x = true
        · rw [if_pos hg2] at h
          cases hl : c.fns.lookup x with
          | none => rw [hl] at h; cases h
          | some fi =>
            rw [hl] at h
            simp only at h
            by_cases hn : fi.nam = true
            · rw [if_pos hn] at h
              cases h
              obtain ⟨q1, _⟩ := g.fs x fi hl hn
              exact c_fnv (g.gl' hg2) q1 hd
            · rw [if_neg hn] at h; cases h
        · rw [if_neg hg2] at h; cases h
end
end CI
end
section
set_option Elab.async false
set_option linter.all false
set_option maxRecDepth 100000
set_option maxHeartbeats 4000000
/-! ## CI: what the terms tell of the text: built-ins, targets, what is walked -/
namespace CI
open PySem PySem.Spec PyProof.Rows L2
section
variable {G : Cfg} {w : Wh} {b k : Nat} {X : Cx} {W : WX} {c : CC} {f : Expr → Option Ex} {pos p : Pos} {x : Str} {e : Expr} {es : List Expr}
theorem snd_bi (g : Good G w k X W c) {fs : Rho → M (List D)} {q : Bi} {n : Nat} (hx : biOf x n = some q) (hg : glB c.sc x = true) (ha : PA X (e :: es) (tDs w b W fs)) (hn : ∀ e' ∈ e :: es, nst e' = true) :
    PE X (.Call (.Name x p) (e :: es) [] pos) (tD w b W fun ρ => (fs ρ).bind fun ds => M.get fun S => biD S q ds) := by
  have h1 := nst_star (es := es) (env := X.env) (hn e List.mem_cons_self)
  have h2 := nst_any (es := es) (env := X.env) (pos := pos) fun e' he => hn e' (List.mem_cons_of_mem _ he)
  have h3 := g.gl' hg
  unfold biOf at hx
  split at hx
  · rename_i z; subst z; cases hx
    exact c_biB call_lenA (cc_len g.hK) h3 (g.bi _ (by simp [bnames])) (by decide +kernel) (by decide) (by decide) h1 h2 ha
  split at hx
  · rename_i z; subst z; cases hx
    exact c_biT call_int1 cc_int h3 (g.bi _ (by simp [bnames])) (by decide +kernel) (by decide) (by decide) h1 h2 ha
  split at hx
  · rename_i z; subst z; cases hx
    exact c_biB call_abs cc_abs h3 (g.bi _ (by simp [bnames])) (by decide +kernel) (by decide) (by decide) h1 h2 ha
  split at hx
  · rename_i z; subst z; cases hx
    exact c_biB call_divmod cc_divmod h3 (g.bi _ (by simp [bnames])) (by decide +kernel) (by decide) (by decide) h1 h2 ha
  split at hx
  · rename_i z; obtain ⟨z, _⟩ := z; subst z; cases hx
    exact c_biB (call_min2 g.calm) cc_min h3 (g.bi _ (by simp [bnames])) (by decide +kernel) (by decide) (by decide) h1 h2 ha
  split at hx
  · rename_i z; obtain ⟨z, _⟩ := z; subst z; cases hx
    exact c_biB (call_max2 g.calm) cc_max h3 (g.bi _ (by simp [bnames])) (by decide +kernel) (by decide) (by decide) h1 h2 ha
  split at hx
  · rename_i z; subst z; cases hx
    exact c_biT (call_listA g.calm) (cc_list g.hK) h3 (g.bi _ (by simp [bnames])) (by decide +kernel) (by decide) (by decide) h1 h2 ha
  split at hx
  · rename_i z; subst z; cases hx
    exact c_biT call_tuple_of (cc_tuple g.hK) h3 (g.bi _ (by simp [bnames])) (by decide +kernel) (by decide) (by decide) h1 h2 ha
  split at hx
  · rename_i z; subst z; cases hx
    exact c_biB (call_reprD g.hg g.hu) (cc_repr g.hK) h3 (g.bi _ (by simp [bnames])) (by decide +kernel) (by decide) (by decide) h1 h2 ha
  split at hx
  · rename_i z; subst z; cases hx
    exact c_biB (cr_all g.calm) cc_all h3 (g.bi _ (by simp [bnames])) (by decide +kernel) (by decide) (by decide) h1 h2 ha
  split at hx
  · rename_i z; subst z; cases hx
    exact c_biB (cr_any g.calm) cc_any h3 (g.bi _ (by simp [bnames])) (by decide +kernel) (by decide) (by decide) h1 h2 ha
  split at hx
  · rename_i z; subst z; cases hx
    exact c_biB (cr_sum g.calm) cc_sum h3 (g.bi _ (by simp [bnames])) (by decide +kernel) (by decide) (by decide) h1 h2 ha
  cases hx
theorem snd_isa (g : Good G w k X W c) {y : Str} {t : Ty} {fa : Rho → M D} {p2 : Pos} (hx : tyOfN y = some t) (hg : glB c.sc "isinstance" = true) (hg2 : glB c.sc y = true) (hn : nst e = true) (ha : PE X e (tD w b W fa)) :
    PE X (.Call (.Name "isinstance" p) [e, .Name y p2] [] pos) (tD w b W fun ρ => (fa ρ).bind fun u => M.get fun S => (isaD S u t).map .bl) := by
  have h1 := nst_star (es := [.Name y p2]) (env := X.env) hn
  have h3 := g.gl' hg
  have h4 := g.gl' hg2
  have h5 := g.bi "isinstance" (by simp [bnames])
  unfold tyOfN at hx
  split at hx
  · rename_i z; subst z; cases hx
    exact c_isa rfl g.hK h3 h5 h4 (g.bi _ (by simp [bnames])) (by decide +kernel) (by decide) (by decide) h1 ha
  split at hx
  · rename_i z; subst z; cases hx
    exact c_isa rfl g.hK h3 h5 h4 (g.bi _ (by simp [bnames])) (by decide +kernel) (by decide) (by decide) h1 ha
  split at hx
  · rename_i z; subst z; cases hx
    exact c_isa rfl g.hK h3 h5 h4 (g.bi _ (by simp [bnames])) (by decide +kernel) (by decide) (by decide) h1 ha
  split at hx
  · rename_i z; subst z; cases hx
    exact c_isa rfl g.hK h3 h5 h4 (g.bi _ (by simp [bnames])) (by decide +kernel) (by decide) (by decide) h1 ha
  split at hx
  · rename_i z; subst z; cases hx
    exact c_isa rfl g.hK h3 h5 h4 (g.bi _ (by simp [bnames])) (by decide +kernel) (by decide) (by decide) h1 ha
  split at hx
  · rename_i z; subst z; cases hx
    exact c_isa rfl g.hK h3 h5 h4 (g.bi _ (by simp [bnames])) (by decide +kernel) (by decide) (by decide) h1 ha
  cases hx
/-! calls -/
theorem snd_call (g : Good G w k X W c) {fi : FnI} {kws : List Keyword} {pl : List Nat} {ea ka : Ex} (hl : c.fns.lookup x = some fi) (hnam : fi.nam = true) (hg : glB c.sc x = true) (hd : (x == ("__debug__" : Str)) = false) (hk : kws.all (·.arg.isSome) = true)
    (hs : fi.shapes.lookup (es.length, kws.filterMap (·.arg)) = some pl) (ha : PA X es (tDs w b W fun ρ => evs G b ea ρ)) (hkw : PK X kws (tDs w b W fun ρ => evs G b ka ρ)) (hn : ∀ e' ∈ es, nst e' = true) (he0 : es = [] → ea = .nil) :
    PE X (.Call (.Name x p) es kws pos) (tD w b W fun ρ => ev G b (.call x es.length kws.length pl fi.dl ea ka) ρ) := by
  obtain ⟨h1, h2, fd, F, sh⟩ := g.fs x fi hl hnam
  obtain ⟨h3, dv, h4, h5⟩ := sh _ _ _ hs
  have hkl : (kws.filterMap (·.arg)).length = kws.length := by
    clear hs hkw h5 sh
    induction kws with
    | nil => rfl
    | cons q kws ih =>
      obtain ⟨n, e, p⟩ := q
      rw [List.all_cons, Bool.and_eq_true] at hk
      have hq : n.isSome = true := hk.1
      cases n with
      | none => cases hq
      | some y => simp only [List.filterMap_cons, List.length_cons]; rw [ih hk.2]
  cases es with
  | nil =>
    have := c_callC0 (pos := pos) (p := p) F g.rm g.hg (g.gl' hg) h1 h2 h5 g.tk h3 h4 hkw (kw_all hk) kw_names hd (by rw [kw_none hk]; rfl)
    rw [hkl] at this
    rw [he0 rfl]
    exact this
  | cons e es =>
    have h6 := nst_star (es := es) (env := X.env) (hn e List.mem_cons_self)
    have := c_callC (pos := pos) (p := p) F g.rm g.hg (g.gl' hg) h1 h2 h5 g.tk h3 h4 ha hkw (kw_all hk) kw_names hd h6 (by rw [kw_none hk, nst_any hn]; rfl)
    rw [hkl] at this
    exact this
/-! targets -/
theorem ae_cons {env : Env} (h : nst e = true) : assignEach (e :: es) env = (false, assign e env) :: assignEach es env := by cases e <;> first | rfl | (cases h; done)
theorem ae_len {env : Env} : ∀ {es : List Expr}, (∀ e ∈ es, nst e = true) → (assignEach es env).length = es.length ∧ (assignEach es env).findIdx? (·.1) = none
  | [], _ => ⟨rfl, rfl⟩
  | e :: es, h => by
    obtain ⟨h1, h2⟩ := ae_len (env := env) (es := es) fun e' he => h e' (List.mem_cons_of_mem _ he)
    rw [ae_cons (h e List.mem_cons_self)]
    refine ⟨by simp [h1], ?_⟩
    rw [List.findIdx?_cons]
    simp [h2]
theorem snd_Gs {ff : Expr → Option Ex} (hf : ∀ e a, ff e = some a → PG X e (tG w b (tgIx a) fun d ρ => asg G b a d ρ)) : ∀ {es : List Expr} {r : Ex}, cpL ff es = some r →
    PGs X es (tGs w b (tgIx r) fun ds ρ => asgs G b r ds ρ) ∧ ∀ ds ρ S ρ' S', asgs G b r ds ρ S = .ok ρ' S' → ds.length = es.length
  | [], r, h => by
    cases h
    have := c_tnil (X := X) (w := w) (b := b)
    have he : (fun ds ρ => asgs G b .nil ds ρ) = fun (ds : List D) ρ => (match ds with
      | [] => M.pure ρ
      | _ => M.bad) := by funext ds ρ; cases ds <;> rfl
    refine ⟨by rw [he]; exact this, fun ds ρ S ρ' S' q => ?_⟩
    cases ds with
    | nil => rfl
    | cons _ _ => cases q
  | e :: es, r, h => by
    obtain ⟨hn, a, r', h1, h2, rfl⟩ := cpL_cons h
    obtain ⟨i1, i2⟩ := snd_Gs hf h2
    have := c_tcons (hf e a h1) i1 (by rw [ae_cons hn]; rfl)
    have he : (fun ds ρ => asgs G b (.cons a r') ds ρ) = fun (ds : List D) ρ => (match ds with
      | d :: ds => (asg G b a d ρ).bind fun ρ1 => asgs G b r' ds ρ1
      | [] => M.bad) := by funext ds ρ; cases ds <;> rfl
    refine ⟨by rw [he]; exact this, fun ds ρ S ρ' S' q => ?_⟩
    cases ds with
    | nil => cases q
    | cons d ds =>
      obtain ⟨ρ1, S1, e1, e2⟩ := bind_ok (show ((asg G b a d ρ).bind fun ρ1 => asgs G b r' ds ρ1) S = .ok ρ' S' from q)
      simp [i2 _ _ _ _ _ e2]
theorem snd_G (g : Good G w k X W c) (hf : ∀ e a, f e = some a → PE X e (tD w b W fun ρ => ev G b a ρ)) : ∀ {n : Nat} {e : Expr} {a : Ex}, cpG f c n e = some a → PG X e (tG w b (tgIx a) fun d ρ => asg G b a d ρ)
  | 0, _, _, h => by cases h
  | n + 1, e, a, h => by
    unfold cpG at h
    cases e <;> first | (cases h; done) | skip
    case Name x pos =>
      simp only at h
      by_cases hl : locB c.sc x = true
      · rw [if_pos hl] at h
        obtain ⟨i, h1, rfl⟩ := map_some h
        exact c_tnm (n := i) (pg_name (by rw [g.hN]; exact g.nd) (by rw [g.hN]; exact slotIx_get h1) (g.sc.loc hl) (g.fn x hl))
      · rw [if_neg hl] at h; cases h
    case Tuple es k pos =>
      simp only at h
      obtain ⟨r, h1, rfl⟩ := map_some h
      obtain ⟨i1, i2⟩ := snd_Gs (fun e a => snd_G g hf (n := n) (e := e) (a := a)) h1
      obtain ⟨l1, l2⟩ := ae_len (env := X.env) (cpL_nst h1)
      exact c_ttup g.hK g.calm i1 l1 l2 i2
    case Subscript o i pos =>
      simp only at h
      by_cases hs : notSl i = true
      · rw [if_pos hs] at h
        obtain ⟨u, v, h1, h2, rfl⟩ := cp2_some h
        refine c_tsub (by have := g.hu; omega) (hf o u h1) (hf i v h2) ?_
        intro v
        cases i <;> first | rfl | (cases hs; done)
      · rw [if_neg hs] at h; cases h
    case Attribute o x pos =>
      obtain ⟨u, h1, rfl⟩ := map_some h
      exact c_tfld g.cl (hf o u h1)
/-! what is walked -/
theorem itv_ok (g : Good G w k X W c) (hf : ∀ e a, f e = some a → PE X e (tD w b W fun ρ => ev G b a ρ)) {tg : Expr} {i : Ex} (h : (f e).map Ex.itv = some i) : PI X tg e (tI w b W fun ρ => evI G b i ρ) := by
  obtain ⟨a, h1, rfl⟩ := map_some h
  exact c_itv g.hK (hf e a h1)
theorem snd_I (g : Good G w k X W c) (hf : ∀ e a, f e = some a → PE X e (tD w b W fun ρ => ev G b a ρ)) {tg : Expr} {i : Ex} (h : cpI f c (isTupE tg) e = some i) :
    PI X tg e (tI w b W fun ρ => evI G b i ρ) ∧ ∀ x, foldedSetIterable e X.env x = pure x := by
  unfold cpI at h
  split at h
  · rename_i y py a pc
    split at h
    · rename_i z
      subst z
      by_cases hc : (nst a && glB c.sc "range") = true
      · rw [if_pos hc] at h
        rw [Bool.and_eq_true] at hc
        obtain ⟨u, h1, rfl⟩ := map_some h
        exact ⟨c_rng1 (g.gl' hc.2) (g.bi _ (by simp [bnames])) (hf a u h1) (nst_star hc.1), fun _ => rfl⟩
      · rw [if_neg hc] at h; cases h
    · split at h
      · rename_i z
        subst z
        by_cases hc : (nst a && glB c.sc "enumerate" && isTupE tg) = true
        · rw [if_pos hc] at h
          rw [Bool.and_eq_true, Bool.and_eq_true] at hc
          obtain ⟨u, h1, rfl⟩ := map_some h
          cases tg <;> first | (cases hc.2; done) | skip
          exact ⟨c_enm g.hK (g.gl' hc.1.2) (g.bi _ (by simp [bnames])) (hf a u h1) (nst_star hc.1.1), fun _ => rfl⟩
        · rw [if_neg hc] at h; cases h
      · exact ⟨itv_ok g hf h, fun _ => rfl⟩
  · rename_i y py a d pc
    split at h
    · rename_i z
      subst z
      by_cases hc : (nst a && nst d && glB c.sc "range") = true
      · rw [if_pos hc] at h
        rw [Bool.and_eq_true, Bool.and_eq_true] at hc
        obtain ⟨u, v, h1, h2, rfl⟩ := cp2_some h
        exact ⟨c_rng2 (g.gl' hc.2) (g.bi _ (by simp [bnames])) (hf a u h1) (hf d v h2) (nst_star hc.1.1) (nst_star hc.1.2), fun _ => rfl⟩
      · rw [if_neg hc] at h; cases h
    · exact ⟨itv_ok g hf h, fun _ => rfl⟩
  · cases h
  · rename_i e' h1 h2 h3
    exact ⟨itv_ok g hf h, fun x => by cases e <;> first | rfl | exact (h3 _ _ _ rfl).elim⟩
end
end CI
end
section
set_option Elab.async false
set_option linter.all false
set_option maxRecDepth 100000
set_option maxHeartbeats 4000000
/-! ## CI: what the terms tell of the text: expressions -/
namespace CI
open PySem PySem.Spec PyProof.Rows L2
theorem takes_no {X : Cx} : Takes X noW := fun _ _ ⟨_, _, _, _, _, _, _, _, _, _, _, _, _, _, _, _, w⟩ => w.elim
theorem blkB_ok {N : List Str} {sc sc' scope : Scope} {own : List (Str × Nat)} (h : blkB N sc scope own = true) (hs : SC sc sc') : BlkOk N sc' scope own := by
  unfold blkB at h
  simp only [Bool.and_eq_true, decide_eq_true_eq, List.all_eq_true, Bool.or_eq_true, Bool.not_eq_true', decide_eq_false_iff_not, Bool.or_eq_false_iff, List.contains_eq_mem] at h
  obtain ⟨⟨⟨⟨h1, h2⟩, h3⟩, h4⟩, h5⟩ := h
  refine ⟨h1, h2, h3, fun y hy e => ?_, fun y hy e => ?_⟩
  · have q := hs y.1
    rcases h4 y hy with (z | z) | z
    · exact absurd e z
    · rw [z] at q; exact .inl q
    · rw [z] at q; exact q.elim .inr .inl
  · rcases h5 y hy with (z | z) | z
    · rcases e with e | e
      · exact absurd e z.1
      · exact absurd e z.2
    · exact .inl z
    · exact .inr z
theorem sc_relabel (scope : Scope) (env : Env) : SC scope (relabel scope env) := by
  intro x
  have key : ∀ l : List (Str × NameKind), (match l.lookup x with
    | some .free => (l.map fun (n, k) => if (k == NameKind.free && env.scope.kind == .function && env.kindOf n == some .cell) then (n, NameKind.cell) else (n, k)).lookup x = some .free ∨
        (l.map fun (n, k) => if (k == NameKind.free && env.scope.kind == .function && env.kindOf n == some .cell) then (n, NameKind.cell) else (n, k)).lookup x = some .cell
    | o => (l.map fun (n, k) => if (k == NameKind.free && env.scope.kind == .function && env.kindOf n == some .cell) then (n, NameKind.cell) else (n, k)).lookup x = o) := by
    intro l
    induction l with
    | nil => rfl
    | cons y l ih =>
      obtain ⟨n, k⟩ := y
      rw [List.map_cons]
      by_cases hx : (x == n) = true
      · have e1 : List.lookup x ((n, k) :: l) = some k := by simp [List.lookup, hx]
        rw [e1]
        by_cases hk : (k == NameKind.free && env.scope.kind == .function && env.kindOf n == some .cell) = true
        · have hf : k = .free := by
            rw [Bool.and_eq_true, Bool.and_eq_true] at hk
            exact beq_iff_eq.mp hk.1.1
          subst hf
          right
          simp only [hk, if_true]
          simp [List.lookup, hx]
        · simp only [hk, if_false]
          cases k <;> simp [List.lookup, hx]
      · have hx : (x == n) = false := Bool.eq_false_iff.mpr hx
        have e1 : List.lookup x ((n, k) :: l) = l.lookup x := by simp [List.lookup, hx]
        have e2 : ∀ l2 : List (Str × NameKind), List.lookup x ((if (k == NameKind.free && env.scope.kind == .function && env.kindOf n == some .cell) = true then (n, NameKind.cell) else (n, k)) :: l2) = l2.lookup x := by
          intro l2
          split <;> simp [List.lookup, hx]
        rw [e1]
        revert ih
        cases l.lookup x with
        | none => exact fun ih => (e2 _).trans ih
        | some kk => cases kk <;> first | exact fun ih => (e2 _).trans ih | exact fun ih => ih.imp (fun z => (e2 _).trans z) fun z => (e2 _).trans z
  exact key scope.names
theorem Good.blk {G : Cfg} {w : Wh} {k : Nat} {X : Cx} {W : WX} {c : CC} (g : Good G w k X W c) {s : Shared} {H : Hp} {scope : Scope} {C : Addr} {cl : List (Str × Addr)} {fp : List Addr} :
    Good G w k (X.blk s H scope (compEnvC scope cl C X.env) fp) noW { c with sc := scope } :=
  ⟨g.hN, g.nd, g.calm, sc_relabel scope X.env, g.hg, g.room, g.hK, takes_no, fun x hx => by
    have q := sc_relabel scope X.env x
    rcases (SC.refl scope).loc hx with z | z
    · rw [z] at q; exact .inr q
    · left
      show (scope.names.lookup x == some .cell) = true
      rw [show scope.names.lookup x = some .cell from z]; rfl, g.gl, g.bi, g.cl, g.clT, g.ms, g.hs, g.fs⟩
def SndE (n : Nat) : Prop := ∀ (G : Cfg) (w : Wh) (b k : Nat) (X : Cx) (W : WX) (c : CC), Good G w k X W c →
  (∀ e a, cp n false c e = some a → PE X e (tD w b W fun ρ => ev G b a ρ)) ∧ ∀ e a, cp n true c e = some a → PT X e (tT w b W fun ρ => evT G b a ρ)
section
variable {G : Cfg} {w : Wh} {b k n : Nat} {X : Cx} {W : WX} {c : CC} {pos p : Pos} {x : Str} {e : Expr} {es : List Expr}
theorem snd_cmp (g : Good G w k X W c) (hf : ∀ e a, cp n false c e = some a → PE X e (tD w b W fun ρ => ev G b a ρ)) {l : Expr} {ops : List CmpOp} {rs : List Expr} {a : Ex}
    (h : (match ops, rs with
    | [op], [d] => (match cpOf op with
      | some o => if behindInMarks op d then none else cp2 (.cmp o) (cp n false c l) (cp n false c d)
      | none => none)
    | [op, op2], [d, d2] => (match cpOf op, cpOf op2 with
      | some o, some o2 => if lastMarks [op, op2] [d, d2] then none else cp3 (.chain o o2) (cp n false c l) (cp n false c d) (cp n false c d2)
      | _, _ => none)
    | _, _ => none) = some a) : PE X (.Compare l ops rs pos) (tD w b W fun ρ => ev G b a ρ) ∧ PT X (.Compare l ops rs pos) (tT w b W fun ρ => evT G b a ρ) := by
  split at h
  · rename_i op d
    cases ho : cpOf op with
    | none => rw [ho] at h; cases h
    | some o =>
      rw [ho] at h
      simp only at h
      by_cases hm : behindInMarks op d = true
      · rw [if_pos hm] at h; cases h
      · rw [if_neg hm] at h
        obtain ⟨u, v, h1, h2, rfl⟩ := cp2_some h
        have hm := Bool.eq_false_iff.mpr hm
        exact ⟨c_cmp g.hu g.hK ho hm (hf _ _ h1) (hf _ _ h2), ct_cmp g.hu g.hK ho hm (hf _ _ h1) (hf _ _ h2)⟩
  · rename_i op op2 d d2
    cases ho : cpOf op with
    | none => rw [ho] at h; cases h
    | some o =>
      cases ho2 : cpOf op2 with
      | none => rw [ho, ho2] at h; cases h
      | some o2 =>
        rw [ho, ho2] at h
        simp only at h
        by_cases hm : lastMarks [op, op2] [d, d2] = true
        · rw [if_pos hm] at h; cases h
        · rw [if_neg hm] at h
          obtain ⟨u, v, z, h1, h2, h3, rfl⟩ := cp3_some h
          have hm := Bool.eq_false_iff.mpr hm
          exact ⟨c_chain g.hu g.hK ho ho2 hm (hf _ _ h1) (hf _ _ h2) (hf _ _ h3), ct_chain g.hu g.hK ho ho2 hm (hf _ _ h1) (hf _ _ h2) (hf _ _ h3)⟩
  · cases h
theorem snd_op (g : Good G w k X W c) {op : Operator} {o : Op} {l r : Expr} {u v : Ex} (ho : opOf op = some o) (h1 : PE X l (tD w b W fun ρ => ev G b u ρ)) (h2 : PE X r (tD w b W fun ρ => ev G b v ρ)) : PE X (.BinOp l op r pos) (tD w b W fun ρ => ev G b (.bop o u v) ρ) := by
  cases op <;> first | (cases ho; done) | skip
  all_goals cases ho
  · exact c_bin (pe_op op_addA h1 h2) (opc_add g.hK)
  · exact c_bin (pe_op op_sub h1 h2) opc_sub
  · exact c_bin (pe_op op_mulA h1 h2) (opc_mul g.hK)
  · exact c_bin (pe_op op_mod h1 h2) opc_mod
  · exact c_bin (pe_op op_pow h1 h2) opc_pow
  · exact c_bin (pe_op op_fdiv h1 h2) opc_fdiv
end
end CI
end
section
set_option Elab.async false
set_option linter.all false
set_option maxRecDepth 100000
set_option maxHeartbeats 4000000
/-! ## CI: every term tells its text -/
namespace CI
open PySem PySem.Spec PyProof.Rows L2
section
variable {G : Cfg} {w : Wh} {b k n : Nat} {X : Cx} {W : WX} {c : CC} {pos p : Pos} {x : Str} {e : Expr} {es : List Expr}
/-- the parts of a comprehension -/
structure LcP (G : Cfg) (w : Wh) (b : Nat) (X : Cx) (W : WX) (c : CC) (elt tg iter : Expr) (ifs : List Expr) (scope : Scope) (i g t y : Ex) : Prop where
  hi : PI X tg iter (tI w b W fun ρ => evI G b i ρ)
  ok : BlkOk X.N X.env.scope scope (ownOf c.N scope)
  hg : ∀ (s : Shared) (H : Hp) (C : Addr) (cl : List (Str × Addr)) (fp : List Addr), PG (X.blk s H scope (compEnvC scope cl C X.env) fp) tg (tG w b (tgIx g) fun d ρ => asg G b g d ρ)
  ht : ∀ (s : Shared) (H : Hp) (C : Addr) (cl : List (Str × Addr)) (fp : List Addr), PTs (X.blk s H scope (compEnvC scope cl C X.env) fp) ifs (tT w b noW fun ρ => evA G b t ρ)
  he : ∀ (s : Shared) (H : Hp) (C : Addr) (cl : List (Str × Addr)) (fp : List Addr), PE (X.blk s H scope (compEnvC scope cl C X.env) fp) elt (tD w b noW fun ρ => ev G b y ρ)
  hs : ∀ x, foldedSetIterable iter X.env x = pure x
  sub : ∀ j ∈ tgIx g, j ∈ (ownOf c.N scope).map (·.2)
theorem snd_F {X : Cx} {f : Expr → Option Ex} (hf : ∀ e a, f e = some a → PT X e (tT w b W fun ρ => evT G b a ρ)) {ifs : List Expr} {t : Ex} (h : cpF f ifs = some t) : PTs X ifs (tT w b W fun ρ => evA G b t ρ) := by
  unfold cpF at h
  split at h
  · cases h
    exact ⟨fun pins s σ H Q I ⟨ρ, p, S, N, h⟩ => pts_nil.run pins s σ H Q I (show Q true H from res_pure (β := Bool) (v := true) N.s (show Res w b W σ RB H p S (M.pure true S) Q from h) rfl)⟩
  · obtain ⟨a, h1, rfl⟩ := map_some h
    exact pts_one (hf _ a h1)
  · cases h
theorem snd_lcP (ih : SndE n) (g : Good G w k X W c) {elt tg iter : Expr} {ifs : List Expr} {scope : Scope} {i gg t y : Ex} (hb : blkB c.N c.sc scope (ownOf c.N scope) = true) (h1 : cpI (cp n false c) c (isTupE tg) iter = some i)
    (h2 : cpG (cp n false { c with sc := scope }) { c with sc := scope } n tg = some gg) (h3 : cpF (cp n true { c with sc := scope }) ifs = some t) (h4 : cp n false { c with sc := scope } elt = some y)
    (h5 : (tgIx gg).all (fun i => ((ownOf c.N scope).map (·.2)).contains i) = true) : LcP G w b X W c elt tg iter ifs scope i gg t y := by
  obtain ⟨i1, i2⟩ := ih G w b k X W c g
  obtain ⟨p1, p2⟩ := snd_I g i1 h1 (tg := tg)
  refine ⟨p1, by rw [g.hN]; exact blkB_ok hb g.sc, fun s H C cl fp => ?_, fun s H C cl fp => ?_, fun s H C cl fp => ?_, p2, fun j hj => ?_⟩
  · exact snd_G g.blk (ih G w b k _ _ _ g.blk).1 h2
  · exact snd_F (ih G w b k _ _ _ g.blk).2 h3
  · exact (ih G w b k _ _ _ g.blk).1 _ _ h4
  · rw [List.all_eq_true] at h5
    simpa using h5 j hj
theorem cp_lc {elt tg iter : Expr} {ifs : List Expr} {as : Int} {scope : Scope} {a : Ex} (h : cp (n + 1) false c (.ListComp elt [⟨tg, iter, ifs, as⟩] scope pos) = some a) :
    as = 0 ∧ ∃ i g t y, blkB c.N c.sc scope (ownOf c.N scope) = true ∧ cpI (cp n false c) c (isTupE tg) iter = some i ∧ cpG (cp n false { c with sc := scope }) { c with sc := scope } n tg = some g ∧ cpF (cp n true { c with sc := scope }) ifs = some t ∧
      cp n false { c with sc := scope } elt = some y ∧ (tgIx g).all (fun i => ((ownOf c.N scope).map (·.2)).contains i) = true ∧ a = .lc ((ownOf c.N scope).map (·.2)) g i t y (c.mut pos) := by
  have h : (if as = 0 ∧ blkB c.N c.sc scope (ownOf c.N scope) = true then
        (match cpI (cp n false c) c (isTupE tg) iter, cpG (cp n false { c with sc := scope }) { c with sc := scope } n tg, cpF (cp n true { c with sc := scope }) ifs, cp n false { c with sc := scope } elt with
        | some i, some g, some t, some y => if (tgIx g).all (fun i => ((ownOf c.N scope).map (·.2)).contains i) then some (Ex.lc ((ownOf c.N scope).map (·.2)) g i t y (c.mut pos)) else none
        | _, _, _, _ => none) else none) = some a := h
  by_cases hc : as = 0 ∧ blkB c.N c.sc scope (ownOf c.N scope) = true
  · rw [if_pos hc] at h
    cases h1 : cpI (cp n false c) c (isTupE tg) iter with
    | none => rw [h1] at h; cases h
    | some i =>
      cases h2 : cpG (cp n false { c with sc := scope }) { c with sc := scope } n tg with
      | none => rw [h1, h2] at h; cases h
      | some g =>
        cases h3 : cpF (cp n true { c with sc := scope }) ifs with
        | none => rw [h1, h2, h3] at h; cases h
        | some t =>
          cases h4 : cp n false { c with sc := scope } elt with
          | none => rw [h1, h2, h3, h4] at h; cases h
          | some y =>
            rw [h1, h2, h3, h4] at h
            simp only at h
            by_cases h5 : (tgIx g).all (fun i => ((ownOf c.N scope).map (·.2)).contains i) = true
            · rw [if_pos h5] at h
              cases h
              exact ⟨hc.1, i, g, t, y, hc.2, rfl, rfl, rfl, rfl, h5, rfl⟩
            · rw [if_neg h5] at h; cases h
  · rw [if_neg hc] at h; cases h
theorem snd_lc (ih : SndE n) (g : Good G w k X W c) {elt : Expr} {gens : List Comprehension} {scope : Scope} {a : Ex} (h : cp (n + 1) false c (.ListComp elt gens scope pos) = some a) :
    PE X (.ListComp elt gens scope pos) (tD w b W fun ρ => ev G b a ρ) := by
  match gens, h with
  | [], h => cases h
  | ⟨_, _, _, _⟩ :: _ :: _, h => cases h
  | [⟨tg, iter, ifs, as⟩], h =>
    obtain ⟨rfl, i, gg, t, y, hb, h1, h2, h3, h4, h5, rfl⟩ := cp_lc h
    have P := snd_lcP (b := b) (k := k) ih g hb h1 h2 h3 h4 h5
    exact c_lc g.calm (by rw [g.hN]; exact g.nd) P.hi P.ok P.hg P.ht P.he P.hs P.sub
theorem snd_meth (g : Good G w k X W c) (hf : ∀ e a, cp n false c e = some a → PE X e (tD w b W fun ρ => ev G b a ρ)) {o : Expr} {m : Str} {apos : Pos} {a : Ex}
    (h : cpMeth (cp n false c) o m es (apos.endLine == pos.line) = some a) : PE X (.Call (.Attribute o m apos) es [] pos) (tD w b W fun ρ => ev G b a ρ) := by
  unfold cpMeth at h
  by_cases hc : (abOk o && apos.endLine == pos.line) = true
  · rw [if_pos hc] at h
    rw [Bool.and_eq_true] at hc
    split at h
    · rename_i z
      subst z
      split at h
      · rename_i a1
        by_cases hn : nst a1 = true
        · rw [if_pos hn] at h
          obtain ⟨u, v, h1, h2, rfl⟩ := cp2_some h
          refine c_bmL (m := .append) g.hK (.inl rfl) PySem.F.slot_list_append PySem.F.type_list_append mt_append bm_append (hf o u h1) (c_cons (hf a1 v h2) c_nil (nst_star hn)) (ab_ok hc.1) ?_ hc.2 (nst_star hn) rfl
          rw [nst_all (es := [a1]) (by simpa using hn)]
          rfl
        · rw [if_neg hn] at h; cases h
      · cases h
    split at h
    · rename_i z
      subst z
      split at h
      · obtain ⟨u, h1, rfl⟩ := map_some h
        exact c_bmL0 (m := .pop) g.hK (.inr (.inr rfl)) PySem.F.slot_list_pop PySem.F.type_list_pop mt_pop bm_pop (hf o u h1) (ab_ok hc.1) hc.2
      · cases h
    split at h
    · rename_i z
      subst z
      split at h
      · rename_i a1 d1
        by_cases hn : (nst a1 && nst d1) = true
        · rw [if_pos hn] at h
          rw [Bool.and_eq_true] at hn
          obtain ⟨u, v, z, h1, h2, h3, rfl⟩ := cp3_some h
          refine c_get2 (by have := g.hu; omega) (hf o u h1) (hf a1 v h2) (hf d1 z h3) ⟨ab_ok hc.1, ?_, hc.2, ?_⟩
          · rw [nst_all (es := [a1, d1]) (by simpa using hn)]
            rfl
          · rw [nst_star hn.1, nst_star hn.2]; rfl
        · rw [if_neg hn] at h; cases h
      · cases h
    split at h
    · rename_i hfew
      obtain ⟨u, ea, h1, h2, rfl⟩ := cp2_some h
      have hn := cpL_nst h2
      refine c_meth g.cl (fun y f hf => g.ms y m f hf) g.rm g.hg g.tk (hf o u h1) (snd_L hf h2) (ab_ok hc.1) ?_ hc.2 ?_ fun z => ?_
      · unfold methodCallForm
        rw [show (backTo pos (starEach es X.env)).all (fun x => !x.1) = true from nst_all hn]
        show (true && true && decide (es.length + 0 + 0 < 30)) = true
        simp; omega
      · cases es with
        | nil => exact .inl rfl
        | cons e0 es0 => exact .inr ⟨e0, es0, rfl, nst_star (hn _ List.mem_cons_self), nst_any fun e' he => hn e' (List.mem_cons_of_mem _ he)⟩
      · subst z
        cases h2; rfl
    · cases h
  · rw [if_neg hc] at h; cases h
theorem snd_cpBi {f : Expr → Option Ex} {args : List Expr} {a : Ex} (g : Good G w k X W c) (hf : ∀ e a, f e = some a → PE X e (tD w b W fun ρ => ev G b a ρ)) (hgl : glB c.sc x = true) (h : cpBi f c x args = some a) :
    PE X (.Call (.Name x p) args [] pos) (tD w b W fun ρ => ev G b a ρ) := by
  unfold cpBi at h
  by_cases hi : x = ("isinstance" : Str)
  · rw [if_pos hi] at h
    subst hi
    split at h
    · rename_i a1 y yp
      by_cases hc : (nst a1 && glB c.sc y && !dbg y) = true
      · rw [if_pos hc] at h
        rw [Bool.and_eq_true, Bool.and_eq_true] at hc
        cases h1 : tyOfN y with
        | none => rw [h1] at h; cases h
        | some t =>
          cases h2 : f a1 with
          | none => rw [h1, h2] at h; cases h
          | some r => rw [h1, h2] at h; cases h; exact snd_isa g h1 hgl hc.1.2 hc.1.1 (hf _ _ h2)
      · rw [if_neg hc] at h; cases h
    · cases h
  · rw [if_neg hi] at h
    split at h
    · cases h
    · rename_i a1 as
      cases h1 : biOf x (a1 :: as).length with
      | none => rw [h1] at h; cases h
      | some q =>
        cases h2 : cpL f (a1 :: as) with
        | none => rw [h1, h2] at h; cases h
        | some es => rw [h1, h2] at h; cases h; exact snd_bi g h1 hgl (snd_L hf h2) (cpL_nst h2)
end
theorem snd_zero : SndE 0 := fun _ _ _ _ _ _ _ _ => ⟨fun _ _ h => (by cases h), fun _ _ h => (by cases h)⟩
theorem snd_step {n : Nat} (ih : SndE n) : SndE (n + 1) := by
  intro G w b k X W c g
  obtain ⟨i1, i2⟩ := ih G w b k X W c g
  have val : ∀ e a, cp (n + 1) false c e = some a → PE X e (tD w b W fun ρ => ev G b a ρ) := by
    intro e a h
    cases e <;> first | (cases h; done) | skip
    case BoolOp op es pos =>
      cases op with
      | And => exact snd_andV i1 h
      | Or => exact snd_orV i1 h
    case BinOp l op r pos =>
      have h : (match opOf op with
        | some o => cp2 (.bop o) (cp n false c l) (cp n false c r)
        | none => none) = some a := h
      cases ho : opOf op with
      | none => rw [ho] at h; cases h
      | some o =>
        rw [ho] at h
        obtain ⟨u, v, h1, h2, rfl⟩ := cp2_some h
        exact snd_op g ho (i1 _ _ h1) (i1 _ _ h2)
    case UnaryOp op e pos =>
      cases op <;> first | (cases h; done) | skip
      · obtain ⟨u, h1, rfl⟩ := map_some (show (cp n false c e).map Ex.not = some a from h)
        exact c_not (i1 _ _ h1)
      · obtain ⟨u, h1, rfl⟩ := map_some (show (cp n false c e).map Ex.neg = some a from h)
        exact c_neg (i1 _ _ h1)
    case IfExp t l r pos =>
      obtain ⟨u, v, z, h1, h2, h3, rfl⟩ := cp3_some (show cp3 Ex.ite (cp n true c t) (cp n false c l) (cp n false c r) = some a from h)
      exact c_ite (i2 _ _ h1) (i1 _ _ h2) (i1 _ _ h3)
    case Dict ks vs pos =>
      have h : (if ks.length ≤ 15 then (cpP (cp n false c) ks vs).map fun r => Ex.dct r (c.mut pos) else none) = some a := h
      by_cases hk : ks.length ≤ 15
      · rw [if_pos hk] at h
        obtain ⟨r, h1, rfl⟩ := map_some h
        by_cases h0 : ks = []
        · subst h0
          match vs, h1 with
          | [], h1 => cases h1; exact c_dct0
          | _ :: _, h1 => cases h1
        · obtain ⟨trs, q⟩ := snd_P (pos := pos) i1 h1
          exact c_dct q h0 hk
      · rw [if_neg hk] at h; cases h
    case ListComp elt gens scope pos => exact snd_lc ih g h
    case Compare l ops rs pos =>
      refine (snd_cmp g i1 (pos := pos) (l := l) (ops := ops) (rs := rs) ?_).1
      rw [← h]
      match ops, rs with
      | [], _ => rfl
      | [_], [] => rfl
      | [_], [_] => rfl
      | [_], _ :: _ :: _ => rfl
      | [_, _], [] => rfl
      | [_, _], [_] => rfl
      | [_, _], [_, _] => rfl
      | [_, _], _ :: _ :: _ :: _ => rfl
      | _ :: _ :: _ :: _, _ => rfl
    case Call fn args kws pos =>
      cases fn <;> first | (cases h; done) | skip
      case Attribute o m apos =>
        match kws, h with
        | [], h => exact snd_meth g i1 h
        | _ :: _, h => cases h
      case Name x np =>
        have h : cpCall (cp n false c) c x args kws = some a := h
        unfold cpCall at h
        by_cases hd : dbg x = true
        · rw [if_pos hd] at h; cases h
        rw [if_neg hd] at h
        obtain ⟨hdb, hcd⟩ := dbg_no hd
        by_cases hv : visB c.sc x = true
        · rw [if_pos hv] at h
          cases args with
          | nil => cases h
          | cons e0 es0 =>
            cases kws with
            | cons _ _ => cases h
            | nil =>
              simp only [List.isEmpty_nil, if_true] at h
              cases hs : slotIx c.N x with
              | none => rw [hs] at h; cases h
              | some i =>
                cases h2 : cpL (cp n false c) (e0 :: es0) with
                | none => rw [hs, h2] at h; cases h
                | some ea =>
                  rw [hs, h2] at h
                  cases h
                  have hn := cpL_nst h2
                  exact c_callv g.hs g.rm g.hg g.tk (by rw [g.hN]; exact slotIx_get hs) (g.sc.vis hv) hdb hcd (snd_L i1 h2) (nst_star (hn _ List.mem_cons_self)) (nst_any fun e' he => hn e' (List.mem_cons_of_mem _ he))
        rw [if_neg hv] at h
        by_cases hgl0 : (!glB c.sc x) = true
        · rw [if_pos hgl0] at h; cases h
        · rw [if_neg hgl0] at h
          have hgl : glB c.sc x = true := by simpa using hgl0
          cases hl : c.fns.lookup x with
          | some fi =>
            rw [hl] at h
            simp only at h
            have hnam : fi.nam = true := by
              by_cases hq : fi.nam = true
              · exact hq
              · rw [if_neg hq] at h; cases h
            rw [if_pos hnam] at h
            simp only [cpFn] at h
            by_cases hk : kws.all (·.arg.isSome) = true
            · rw [if_pos hk] at h
              cases h1 : fi.shapes.lookup (args.length, kws.filterMap (·.arg)) with
              | none => rw [h1] at h; cases h
              | some pl =>
                cases h2 : cpL (cp n false c) args with
                | none => rw [h1, h2] at h; cases h
                | some ea =>
                  cases h3 : cpK (cp n false c) kws with
                  | none => rw [h1, h2, h3] at h; cases h
                  | some ka =>
                    rw [h1, h2, h3] at h
                    cases h
                    refine snd_call g hl hnam hgl hdb hk h1 (snd_L i1 h2) (snd_K i1 h3) (cpL_nst h2) fun z => ?_
                    subst z
                    cases h2; rfl
            · rw [if_neg hk] at h; cases h
          | none =>
            rw [hl] at h
            simp only at h
            cases kws with
            | cons _ _ => cases h
            | nil =>
              simp only [List.isEmpty_nil, if_true] at h
              cases hc : c.cls.lookup x with
              | none =>
                rw [hc] at h
                exact snd_cpBi g i1 hgl (show cpBi (cp n false c) c x args = some a from h)
              | some t =>
                rw [hc] at h
                simp only at h
                cases hi : t.ms.lookup (PySem.Str.ofString "__init__") with
                | none => rw [hi] at h; cases h
                | some ff =>
                  rw [hi] at h
                  obtain ⟨ea, h2, rfl⟩ := map_some h
                  obtain ⟨q1, q2⟩ := g.clT x t hc
                  have O := g.cl x t q1
                  have hm : metK G.cls x (PySem.Str.ofString "__init__") = some ff := by unfold metK; rw [q1]; exact hi
                  have hn := cpL_nst h2
                  refine c_make hm (O.mak ff hi) (g.ms _ _ _ hm) g.room g.hg g.tk (g.gl' hgl) q2 hdb (snd_L i1 h2) ?_ fun z => ?_
                  · cases args with
                    | nil => exact .inl rfl
                    | cons e0 es0 => exact .inr ⟨e0, es0, rfl, nst_star (hn _ List.mem_cons_self), nst_any fun e' he => hn e' (List.mem_cons_of_mem _ he)⟩
                  · subst z
                    cases h2; rfl
    case Constant kk j pos =>
      obtain ⟨d, h1, rfl⟩ := map_some (show (litK kk).map Ex.lit = some a from h)
      cases kk <;> first | (cases h1; done) | skip
      · cases h1; exact c_val (d := .non) pe_non fun _ _ => rfl
      · cases h1; exact c_val (d := .bl _) pe_bl fun _ _ => rfl
      · cases h1; exact c_val (d := .int _) pe_int fun _ _ => rfl
      · cases h1; exact c_val (d := .str _) pe_str fun _ _ => (show _ = V.str ⟨_⟩ by simp)
    case Attribute o x pos =>
      have h : (if abOk o then (cp n false c o).map (Ex.fld · x) else none) = some a := h
      by_cases ho : abOk o = true
      · rw [if_pos ho] at h
        obtain ⟨u, h1, rfl⟩ := map_some h
        refine c_fld g.hK (i1 _ _ h1) (fun y hy => ?_) (ab_ok ho)
        unfold fldK at hy
        cases hq : G.cls y with
        | none => simp only [hq] at hy; cases hy
        | some t =>
          simp only [hq] at hy
          have O := g.cl y t hq
          exact ⟨O.cls, O.no x (by simpa using hy)⟩
      · rw [if_neg ho] at h; cases h
    case Subscript o i pos =>
      by_cases hs : notSl i = true
      · have h : (if notSl i then cp2 .idx (cp n false c o) (cp n false c i) else none) = some a := by
          rw [← h]; cases i <;> first | rfl | (cases hs; done)
        rw [if_pos hs] at h
        obtain ⟨u, v, h1, h2, rfl⟩ := cp2_some h
        exact c_bin (pe_ix (ix_all (by have := g.hu; omega)) (i1 _ _ h1) (i1 _ _ h2) (by intro _ _; cases i <;> first | rfl | (cases hs; done))) (opc_idx g.hK)
      · cases i <;> first | exact absurd rfl hs | skip
        rename_i lo hi st sp
        cases st with
        | some _ => cases h
        | none =>
          obtain ⟨u, v, z, h1, h2, h3, rfl⟩ := cp3_some (show cp3 Ex.slc (cp n false c o) (cpO (cp n false c) lo) (cpO (cp n false c) hi) = some a from h)
          exact c_slc g.hK (i1 _ _ h1) (snd_O i1 h2) (snd_O i1 h3)
    case Name x pos => exact snd_name g h
    case List es pos =>
      obtain ⟨r, h1, rfl⟩ := map_some (show (cpL (cp n false c) es).map (fun r => Ex.lst r (c.mut pos)) = some a from h)
      exact c_lst (snd_L i1 h1)
    case Tuple es kk pos =>
      obtain ⟨r, h1, rfl⟩ := map_some (show (cpL (cp n false c) es).map Ex.tup = some a from h)
      exact c_tup (snd_L i1 h1)
  refine ⟨val, fun e a h => ?_⟩
  have tst : (∀ whole, isTrue e X.env whole = (do let v ← whole; standAt e.pos; holding [v] (truthy v))) → (cp n false c e).map Ex.tst = some a → PT X e (tT w b W fun ρ => evT G b a ρ) := fun he h => by
    obtain ⟨r, h1, rfl⟩ := map_some h
    exact ct_val g.hK (i1 _ _ h1) he
  cases e <;> first | (cases h; done) | exact tst (fun _ => rfl) h | skip
  case BoolOp op es pos =>
    cases op with
    | And => exact (snd_andT i2 h).pt
    | Or => exact (snd_orT i2 h).pt
  case UnaryOp op e pos =>
    cases op <;> first | (cases h; done) | skip
    obtain ⟨u, h1, rfl⟩ := map_some (show (cp n true c e).map Ex.not = some a from h)
    exact ct_not (i2 _ _ h1)
  case IfExp t l r pos =>
    obtain ⟨u, v, z, h1, h2, h3, rfl⟩ := cp3_some (show cp3 Ex.ite (cp n true c t) (cp n true c l) (cp n true c r) = some a from h)
    exact ct_ite (i2 _ _ h1) (i2 _ _ h2) (i2 _ _ h3)
  case Compare l ops rs pos =>
    refine (snd_cmp g i1 (pos := pos) (l := l) (ops := ops) (rs := rs) ?_).2
    rw [← h]
    match ops, rs with
    | [], _ => rfl
    | [_], [] => rfl
    | [_], [_] => rfl
    | [_], _ :: _ :: _ => rfl
    | [_, _], [] => rfl
    | [_, _], [_] => rfl
    | [_, _], [_, _] => rfl
    | [_, _], _ :: _ :: _ :: _ => rfl
    | _ :: _ :: _ :: _, _ => rfl
theorem snd_all : ∀ n, SndE n
  | 0 => snd_zero
  | n + 1 => snd_step (snd_all n)
end CI
end
section
set_option Elab.async false
set_option linter.all false
set_option maxRecDepth 100000
set_option maxHeartbeats 4000000
/-! ## CI: statements and their terms -/
namespace CI
open PySem PySem.Spec PyProof.Rows L2
/-- what is known where statements run -/
structure GoodS (G : Cfg) (w : Wh) (k : Nat) (X : Cx) (W : WX) (c : CC) : Prop extends Good G w k X W c where
  scq : X.env.scope = c.sc
  kind : c.sc.kind = .function
  po : PassesOwn (model X.prog X.w) X.A X.env X.xe
def swNm (env : Env) (line : Nat) : Expr → Option Str := fun
    | .Name id pos => if env.kindOf id == some .local && pos.line == line then some id else none
    | _ => none
def swSt : Expr → Bool := fun | .Starred .. => true | _ => false
theorem sw_key {ts vs : List Expr} {k k2 : Nat} {pt pt2 : Pos} {env : Env} : swappedStores [.Tuple ts k pt] (.Tuple vs k2 pt2) env =
    (if (!(ts.length == 2 || ts.length == 3) || vs.length != ts.length || env.blockKind != .function) = true then pure none else
    if (vs.any swSt) = true then pure none else
    if ((ts.filterMap (swNm env ((ts.head?.map (·.pos.line)).getD 0))).length != ts.length || (ts.filterMap (swNm env ((ts.head?.map (·.pos.line)).getD 0))).eraseDups.length != (ts.filterMap (swNm env ((ts.head?.map (·.pos.line)).getD 0))).length) = true then pure none else
    if (vs.all (foldedForSure 8)) = true then pure none else
    if (vs.all (constantsAlone 8)) = true then (do unsupported "assign.tuple-of-constant-expressions:order-of-the-stores"; return some (ts.filterMap (swNm env ((ts.head?.map (·.pos.line)).getD 0)))) else pure (some (ts.filterMap (swNm env ((ts.head?.map (·.pos.line)).getD 0))))) := by
  unfold swappedStores
  rfl
theorem sw_two {x y : Str} {px py : Pos} {a d : Expr} {k k2 : Nat} {pt pt2 : Pos} {env : Env} (hb : env.blockKind = .function) (hx : env.kindOf x = some .local) (hy : env.kindOf y = some .local) (hl : px.line = py.line) (hne : ¬ x = y)
    (na : nst a = true) (nd : nst d = true) (h1 : [a, d].all (foldedForSure 8) = false) (h2 : [a, d].all (constantsAlone 8) = false) :
    swappedStores [.Tuple [.Name x px, .Name y py] k pt] (.Tuple [a, d] k2 pt2) env = pure (some [x, y]) := by
  have h3 : ([a, d].any swSt) = false := by
    have ha : swSt a = false := by cases a <;> first | rfl | (cases na; done)
    have hd : swSt d = false := by cases d <;> first | rfl | (cases nd; done)
    simp [ha, hd]
  have h4 : ([.Name x px, .Name y py] : List Expr).filterMap (swNm env ((([Expr.Name x px, Expr.Name y py] : List Expr).head?.map (·.pos.line)).getD 0)) = [x, y] := by
    have e1 : swNm env px.line (.Name x px) = some x := by show (if _ then _ else _) = _; rw [hx]; simp
    have e2 : swNm env px.line (.Name y py) = some y := by show (if _ then _ else _) = _; rw [hy, hl]; simp
    show ([.Name x px, .Name y py] : List Expr).filterMap (swNm env px.line) = [x, y]
    rw [List.filterMap_cons, e1, List.filterMap_cons, e2]
    rfl
  have h5 : [x, y].eraseDups.length = 2 := by
    have h5 : (y == x) = false := by simpa using fun z : y = x => hne z.symm
    simp [List.eraseDups_cons, h5]
  rw [sw_key, h4, h1, h2, h3, hb, h5]
  rfl
theorem sw_three {x y z : Str} {px py pz : Pos} {a d u : Expr} {k k2 : Nat} {pt pt2 : Pos} {env : Env} (hb : env.blockKind = .function) (hx : env.kindOf x = some .local) (hy : env.kindOf y = some .local) (hz : env.kindOf z = some .local) (hl : px.line = py.line) (hl2 : py.line = pz.line)
    (hxy : ¬ x = y) (hxz : ¬ x = z) (hyz : ¬ y = z) (na : nst a = true) (nd : nst d = true) (nu : nst u = true) (h1 : [a, d, u].all (foldedForSure 8) = false) (h2 : [a, d, u].all (constantsAlone 8) = false) :
    swappedStores [.Tuple [.Name x px, .Name y py, .Name z pz] k pt] (.Tuple [a, d, u] k2 pt2) env = pure (some [x, y, z]) := by
  have h3 : ([a, d, u].any swSt) = false := by
    have ha : swSt a = false := by cases a <;> first | rfl | (cases na; done)
    have hd : swSt d = false := by cases d <;> first | rfl | (cases nd; done)
    have hu : swSt u = false := by cases u <;> first | rfl | (cases nu; done)
    simp [ha, hd, hu]
  have h4 : ([.Name x px, .Name y py, .Name z pz] : List Expr).filterMap (swNm env ((([Expr.Name x px, Expr.Name y py, Expr.Name z pz] : List Expr).head?.map (·.pos.line)).getD 0)) = [x, y, z] := by
    have e1 : swNm env px.line (.Name x px) = some x := by show (if _ then _ else _) = _; rw [hx]; simp
    have e2 : swNm env px.line (.Name y py) = some y := by show (if _ then _ else _) = _; rw [hy, hl]; simp
    have e3 : swNm env px.line (.Name z pz) = some z := by show (if _ then _ else _) = _; rw [hz, hl, hl2]; simp
    show ([.Name x px, .Name y py, .Name z pz] : List Expr).filterMap (swNm env px.line) = [x, y, z]
    rw [List.filterMap_cons, e1, List.filterMap_cons, e2, List.filterMap_cons, e3]
    rfl
  have h5 : [x, y, z].eraseDups.length = 3 := by
    have g1 : (y == x) = false := by simpa using fun q : y = x => hxy q.symm
    have g2 : (z == x) = false := by simpa using fun q : z = x => hxz q.symm
    have g3 : (z == y) = false := by simpa using fun q : z = y => hyz q.symm
    simp [List.eraseDups_cons, g1, g2, g3]
  rw [sw_key, h4, h1, h2, h3, hb, h5]
  rfl
theorem sole {tg e : Expr} {line : Nat} {env : Env} : swapsWithSole [tg] e line env = swapsWith e (some tg) line env := by with_unfolding_all rfl
theorem sw_none {ts vs : List Expr} {k k2 : Nat} {pt pt2 : Pos} {env : Env} (h : vs.all (foldedForSure 8) = true) : swappedStores [.Tuple ts k pt] (.Tuple vs k2 pt2) env = pure none := by
  rw [sw_key]
  split
  · rfl
  · split
    · rfl
    · split
      · rfl
      · first | rfl | rw [if_pos h]
section
variable {G : Cfg} {w : Wh} {b k n : Nat} {X : Cx} {W : WX} {c : CC} {pos p : Pos} {x : Str} {e tg : Expr} {es : List Expr}
theorem no_comp {line : Nat} {o : Option Expr} {env : Env} (h : noComp e = true) : swapsWith e o line env = pure false := by cases e <;> first | rfl | (cases h; done)
theorem bk_fn {env : Env} (h : env.scope.kind = .function) : env.blockKind = .function := by unfold Env.blockKind; rw [h]; rfl
theorem lc_swaps {sc : Scope} {line : Nat} {env : Env} (hs : env.scope = sc) (hk : sc.kind = .function) {t : Str} {tp p : Pos} {elt : Expr} {gens : List Comprehension} {s : Scope} :
    swapsWith (.ListComp elt gens s p) (some (.Name t tp)) line env = pure (lcB sc t tp s p) := by
  have hb := bk_fn (env := env) (by rw [hs]; exact hk)
  show (pure (env.blockKind == .function && env.kindOf t == some .local && tp.line == p.line && !(s.names.any fun (n, k) => n == t && (k == .local || k == .cell))) : Sem Bool) = _
  have hk : env.kindOf t = kindB sc t := by unfold kindB; rw [← hs]; rfl
  rw [hb, hk]
  rfl
theorem no_lc {sc : Scope} {line : Nat} {env : Env} (hs : env.scope = sc) (hk : sc.kind = .function) (h : noLc sc tg e = true) : swapsWithSole [tg] e line env = pure false := by
  rw [sole]
  unfold noLc at h
  rw [Bool.or_eq_true] at h
  rcases h with h | h
  · exact no_comp h
  · split at h
    · rename_i t tp elt gens s p
      have h : lcB sc t tp s p = false := by simpa using h
      rw [lc_swaps hs hk, h]
    · cases h
    · rename_i hx
      cases tg <;> first | rfl | exact (hx _ _ rfl).elim
    · cases h
theorem fm_lt {f : Expr → Option Str} : ∀ {ts : List Expr}, (∃ t ∈ ts, f t = none) → (ts.filterMap f).length < ts.length
  | [], h => by obtain ⟨t, h, _⟩ := h; cases h
  | t :: ts, h => by
    rw [List.filterMap_cons]
    cases e : f t with
    | none =>
      have : (ts.filterMap f).length ≤ ts.length := List.length_filterMap_le f ts
      simp only [List.length_cons]; omega
    | some x =>
      obtain ⟨z, hz, ez⟩ := h
      rcases List.mem_cons.mp hz with q | q
      · subst q; rw [e] at ez; cases ez
      · have := fm_lt (f := f) (ts := ts) ⟨z, q, ez⟩
        simp only [List.length_cons]; omega
theorem sw_none2 {sc : Scope} {ts vs : List Expr} {k k2 : Nat} {pt pt2 : Pos} {env : Env} (hs : env.scope = sc) (h : ts.any (notLoc sc) = true) : swappedStores [.Tuple ts k pt] (.Tuple vs k2 pt2) env = pure none := by
  rw [sw_key]
  have key : ∀ line, (ts.filterMap (swNm env line)).length < ts.length := fun line => by
    obtain ⟨t, h1, h2⟩ := List.any_eq_true.mp h
    refine fm_lt ⟨t, h1, ?_⟩
    cases t <;> first | rfl | skip
    rename_i x px
    have h2 : (!(kindB sc x == some .local)) = true := h2
    show (if _ then _ else _) = _
    have hk : env.kindOf x = kindB sc x := by unfold kindB; rw [← hs]; rfl
    rw [hk]
    have h3 : (kindB sc x == some .local) = false := by simpa using h2
    rw [h3]
    rfl
  split
  · rfl
  · split
    · rfl
    · rw [if_pos]
      have := key ((ts.head?.map (·.pos.line)).getD 0)
      rw [Bool.or_eq_true]
      left
      simp only [bne_iff_ne, ne_eq]
      omega
theorem no_swap {sc : Scope} {env : Env} (hs : env.scope = sc) (h : noSwap sc tg e = true) : swappedStores [tg] e env = pure none ∧ (assignEach [tg] env).map (·.2) = [assign tg env] := by
  unfold noSwap at h
  split at h
  · exact ⟨by cases e <;> rfl, rfl⟩
  · exact ⟨by cases e <;> rfl, rfl⟩
  · exact ⟨by cases e <;> rfl, rfl⟩
  · refine ⟨?_, rfl⟩
    split at h
    · rw [Bool.or_eq_true, Bool.or_eq_true] at h
      rcases h with (h | h) | h
      · exact sw_none h
      · exact sw_none2 hs h
      · have h4 := of_decide_eq_true h
        rw [sw_key, if_pos]
        simp; omega
    · rename_i hx
      cases e <;> first | rfl | exact (hx _ _ _ rfl).elim
  · cases h
theorem snd_par (g : GoodS G w k X W c) {n : Nat} {ts es : List Expr} {kt k2 : Nat} {pt pt2 : Pos} {gg r : Ex} (hf : ∀ e a, cp n false c e = some a → PE X e (tD w b W fun ρ => ev G b a ρ)) (hs : swap2 c.sc (.Tuple ts kt pt) (.Tuple es k2 pt2) = true)
    (h1 : cpL (cpG (cp n false c) c n) ts = some gg) (h2 : cpL (cp n false c) es = some r) : PS X (.Assign [.Tuple ts kt pt] (.Tuple es k2 pt2) pos) (tS w b W fun ρ => exec G b (.par gg r) ρ) := by
  unfold swap2 at hs
  split at hs
  · rename_i x px y py q1 q2 a d q3 q4 e1 e2
    cases e1
    cases e2
    simp only [Bool.and_eq_true, decide_eq_true_eq, Bool.not_eq_true', decide_eq_false_iff_not] at hs
    obtain ⟨⟨⟨⟨⟨⟨⟨s1, s2⟩, s3⟩, s4⟩, s5⟩, s6⟩, s7⟩, s8⟩ := hs
    obtain ⟨_, g1, gr, t1, h3, rfl⟩ := cpL_cons h1
    obtain ⟨_, g2, gr2, t2, h4, rfl⟩ := cpL_cons h3
    obtain rfl : Ex.nil = gr2 := Option.some.inj h4
    cases n with
    | zero => cases t1
    | succ n =>
      unfold cpG at t1 t2
      simp only at t1 t2
      by_cases l1 : locB c.sc x = true
      · rw [if_pos l1] at t1
        by_cases l2 : locB c.sc y = true
        · rw [if_pos l2] at t2
          obtain ⟨i, i1, rfl⟩ := map_some t1
          obtain ⟨j, j1, rfl⟩ := map_some t2
          have hij : i ≠ j := by
            rintro rfl
            have := (slotIx_get i1).symm.trans (slotIx_get j1)
            exact s6 (Option.some.inj this)
          have hx : X.env.scope.names.lookup x = some .local := by rw [g.scq]; exact s3
          have hy : X.env.scope.names.lookup y = some .local := by rw [g.scq]; exact s4
          have := s_par (pos := pos) (kt := kt) (k2 := k2) (px := px) (py := py) (pt := pt) (pt2 := pt2) (w := w) (b := b) (W := W) g.calm (by rw [g.hN]; exact g.nd) (by rw [g.hN]; exact slotIx_get i1) (by rw [g.hN]; exact slotIx_get j1) hij hx hy (snd_L hf h2)
            (sw_two (bk_fn (by rw [g.scq]; exact g.kind)) hx hy s5 s6 s1 s2 s7 s8) (by rw [sole]; exact no_comp rfl)
          refine PS.imp this fun D σ H ⟨ρ, p, S, N, h⟩ => ⟨ρ, p, S, N, ?_⟩
          have eq : (fun ds => (M.calm (asgs G b (.cons (.tnm i) (.cons (.tnm j) .nil)) ds ρ)).bind fun ρ1 => M.pure (Fl.nx ρ1)) = fun (ds : List CI.D) => (M.calm (match ds with
            | [d1, d2] => M.pure ((ρ.set i (some d1)).set j (some d2))
            | _ => M.bad)).bind fun ρ1 => M.pure (Fl.nx ρ1) := by
            funext ds
            match ds with
            | [] => rfl
            | [_] => rfl
            | [_, _] => rfl
            | _ :: _ :: _ :: _ => rfl
          have h : ResS w b W D H p S (((evs G b r ρ).bind fun ds => (M.calm (asgs G b (.cons (.tnm i) (.cons (.tnm j) .nil)) ds ρ)).bind fun ρ1 => M.pure (Fl.nx ρ1)) S) := h
          rw [eq] at h
          exact h
        · rw [if_neg l2] at t2; cases t2
      · rw [if_neg l1] at t1; cases t1
  · cases hs
end
section
variable {G : Cfg} {w : Wh} {b k n : Nat} {X : Cx} {W : WX} {c : CC} {pos : Pos}
theorem s_par3 {i j l : Nat} {x y z : Str} {a d u : Expr} {kt k2 : Nat} {px py pz pt pt2 : Pos} {fs : Rho → M (List D)} (hc : X.calm = true) (hN : X.N.Nodup) (hi : X.N[i]? = some x) (hj : X.N[j]? = some y) (hl : X.N[l]? = some z) (hij : i ≠ j) (hil : i ≠ l) (hjl : j ≠ l)
    (hx : X.env.scope.names.lookup x = some .local) (hy : X.env.scope.names.lookup y = some .local) (hz : X.env.scope.names.lookup z = some .local) (ha : PA X [a, d, u] (tDs w b W fs))
    (hw : swappedStores [.Tuple [.Name x px, .Name y py, .Name z pz] kt pt] (.Tuple [a, d, u] k2 pt2) X.env = pure (some [x, y, z]))
    (hs : swapsWithSole [.Tuple [.Name x px, .Name y py, .Name z pz] kt pt] (.Tuple [a, d, u] k2 pt2) pos.line X.env = pure false) :
    PS X (.Assign [.Tuple [.Name x px, .Name y py, .Name z pz] kt pt] (.Tuple [a, d, u] k2 pt2) pos) (tS w b W fun ρ => (fs ρ).bind fun ds => (M.calm (match ds with
      | [d1, d2, d3] => M.pure (((ρ.set i (some d1)).set j (some d2)).set l (some d3))
      | _ => M.bad)).bind fun ρ1 => M.pure (.nx ρ1)) := by
  refine PS.imp (ps_par3 hc hN hi hj hl hij hil hjl hx hy hz ha hw hs) fun E σ H ⟨ρ, p, S, N, h⟩ => ?_
  refine (stepS N h).mono fun vs H1 ⟨p1, S1, ds, N1, r1, P1, h1⟩ => ?_
  obtain ⟨ρ', S', e, h1⟩ := calmS h1
  match ds, e, r1 with
  | [], e, _ => cases e
  | [_], e, _ => cases e
  | [_, _], e, _ => cases e
  | _ :: _ :: _ :: _ :: _, e, _ => cases e
  | [d1, d2, d3], e, r1 =>
    obtain ⟨v1, us, rfl, q1, r2⟩ := r1
    obtain ⟨v2, v3, rfl, q2, q3⟩ := reps2 r2
    cases e
    exact ⟨v1, v2, v3, rfl, resS_nx N1.s h1 (relE_set (relE_set (relE_set N1.e q1) q2) q3)⟩
theorem snd_par3 (g : GoodS G w k X W c) {n : Nat} {ts es : List Expr} {kt k2 : Nat} {pt pt2 : Pos} {gg r : Ex} (hf : ∀ e a, cp n false c e = some a → PE X e (tD w b W fun ρ => ev G b a ρ)) (hs : swap3 c.sc (.Tuple ts kt pt) (.Tuple es k2 pt2) = true)
    (h1 : cpL (cpG (cp n false c) c n) ts = some gg) (h2 : cpL (cp n false c) es = some r) : PS X (.Assign [.Tuple ts kt pt] (.Tuple es k2 pt2) pos) (tS w b W fun ρ => exec G b (.par gg r) ρ) := by
  unfold swap3 at hs
  split at hs
  · rename_i x px y py z pz q1 q2 a d u q3 q4 e1 e2
    cases e1
    cases e2
    simp only [Bool.and_eq_true, decide_eq_true_eq, Bool.not_eq_true', decide_eq_false_iff_not] at hs
    obtain ⟨⟨⟨⟨⟨⟨⟨⟨⟨⟨⟨⟨s1, s2⟩, s3⟩, s4⟩, s5⟩, s6⟩, s7⟩, s8⟩, s9⟩, s10⟩, s11⟩, s12⟩, s13⟩ := hs
    obtain ⟨_, g1, gr, t1, h3, rfl⟩ := cpL_cons h1
    obtain ⟨_, g2, gr2, t2, h4, rfl⟩ := cpL_cons h3
    obtain ⟨_, g3, gr3, t3, h5, rfl⟩ := cpL_cons h4
    obtain rfl : Ex.nil = gr3 := Option.some.inj h5
    cases n with
    | zero => cases t1
    | succ n =>
      unfold cpG at t1 t2 t3
      simp only at t1 t2 t3
      have loc : ∀ {x : Str}, kindB c.sc x = some .local → locB c.sc x = true := fun h => by unfold locB; rw [h]
      rw [if_pos (loc s4)] at t1
      rw [if_pos (loc s5)] at t2
      rw [if_pos (loc s6)] at t3
      obtain ⟨i, i1, rfl⟩ := map_some t1
      obtain ⟨j, j1, rfl⟩ := map_some t2
      obtain ⟨l, l1, rfl⟩ := map_some t3
      have ne : ∀ {i j : Nat} {x y : Str}, slotIx c.N x = some i → slotIx c.N y = some j → ¬ x = y → i ≠ j := by
        rintro i _ x y h1 h2 hn rfl
        exact hn (Option.some.inj ((slotIx_get h1).symm.trans (slotIx_get h2)))
      have hx : X.env.scope.names.lookup x = some .local := by rw [g.scq]; exact s4
      have hy : X.env.scope.names.lookup y = some .local := by rw [g.scq]; exact s5
      have hz : X.env.scope.names.lookup z = some .local := by rw [g.scq]; exact s6
      have := s_par3 (pos := pos) (kt := kt) (k2 := k2) (px := px) (py := py) (pz := pz) (pt := pt) (pt2 := pt2) (w := w) (b := b) (W := W) g.calm (by rw [g.hN]; exact g.nd) (by rw [g.hN]; exact slotIx_get i1) (by rw [g.hN]; exact slotIx_get j1) (by rw [g.hN]; exact slotIx_get l1)
        (ne i1 j1 s9) (ne i1 l1 s10) (ne j1 l1 s11) hx hy hz (snd_L hf h2) (sw_three (bk_fn (by rw [g.scq]; exact g.kind)) hx hy hz s7 s8 s9 s10 s11 s1 s2 s3 s12 s13) (by rw [sole]; exact no_comp rfl)
      refine PS.imp this fun E σ H ⟨ρ, p, S, N, h⟩ => ⟨ρ, p, S, N, ?_⟩
      have eq : (fun ds => (M.calm (asgs G b (.cons (.tnm i) (.cons (.tnm j) (.cons (.tnm l) .nil))) ds ρ)).bind fun ρ1 => M.pure (Fl.nx ρ1)) = fun (ds : List CI.D) => (M.calm (match ds with
        | [d1, d2, d3] => M.pure (((ρ.set i (some d1)).set j (some d2)).set l (some d3))
        | _ => M.bad)).bind fun ρ1 => M.pure (Fl.nx ρ1) := by
        funext ds
        match ds with
        | [] => rfl
        | [_] => rfl
        | [_, _] => rfl
        | [_, _, _] => rfl
        | _ :: _ :: _ :: _ :: _ => rfl
      have h : ResS w b W E H p S (((evs G b r ρ).bind fun ds => (M.calm (asgs G b (.cons (.tnm i) (.cons (.tnm j) (.cons (.tnm l) .nil))) ds ρ)).bind fun ρ1 => M.pure (Fl.nx ρ1)) S) := h
      rw [eq] at h
      exact h
  · cases hs
theorem PS.never {s : Stmt} : PS X s (tS w b W fun _ => M.bad) := ⟨fun _ _ _ _ _ _ ⟨_, _, _, _, h⟩ => h.elim⟩
end
def SndS (n : Nat) : Prop := ∀ (G : Cfg) (w : Wh) (b k : Nat) (X : Cx) (W : WX) (c : CC), GoodS G w k X W c → ∀ s a, cpS n c s = some a → PS X s (tS w b W fun ρ => exec G b a ρ)
section
variable {G : Cfg} {w : Wh} {b k n : Nat} {X : Cx} {W : WX} {c : CC} {pos p : Pos} {x : Str} {e tg : Expr} {es : List Expr}
theorem snd_Ss {f : Stmt → Option Sm} (hf : ∀ s a, f s = some a → PS X s (tS w b W fun ρ => exec G b a ρ)) : ∀ {ss : List Stmt} {r : Sm}, cpSs f ss = some r → PSs X ss (tS w b W fun ρ => exec G b r ρ)
  | [], r, h => by cases h; exact s_nil
  | s :: ss, r, h => by
    unfold cpSs at h
    cases h1 : f s with
    | none => rw [h1] at h; cases h
    | some a =>
      cases h2 : cpSs f ss with
      | none => rw [h1, h2] at h; cases h
      | some q => rw [h1, h2] at h; cases h; exact s_cons (hf s a h1) (snd_Ss hf h2)
end
theorem sndS_step {n : Nat} (ih : SndS n) : SndS (n + 1) := by
  intro G w b k X W c g s a h
  obtain ⟨i1, i2⟩ := snd_all n G w b k X W c g.toGood
  have i3 : ∀ {ss : List Stmt} {r : Sm}, cpSs (cpS n c) ss = some r → PSs X ss (tS w b W fun ρ => exec G b r ρ) := fun h => snd_Ss (ih G w b k X W c g) h
  cases s <;> first | (cases h; done) | skip
  case Return v pos =>
    cases v with
    | none => cases h; exact s_retN
    | some e =>
      obtain ⟨u, h1, rfl⟩ := map_some (show (cp n false c e).map Sm.ret = some a from h)
      exact s_ret (i1 _ _ h1)
  case Assign tgs e pos =>
    match tgs, h with
    | [], h => cases h
    | _ :: _ :: _, h => cases h
    | [tg], h =>
      have h : (if swap2 c.sc tg e || swap3 c.sc tg e then (match tg, e with
        | .Tuple ts _ _, .Tuple es _ _ => (match cpL (cpG (cp n false c) c n) ts, cpL (cp n false c) es with
          | some g, some r => some (Sm.par g r)
          | _, _ => none)
        | _, _ => none) else if swapLc c.sc tg e || (noSwap c.sc tg e && noLc c.sc tg e) then (match cpG (cp n false c) c n tg, cp n false c e with
        | some g, some r => some (.asg g r)
        | _, _ => none) else none) = some a := h
      by_cases hs : (swap2 c.sc tg e || swap3 c.sc tg e) = true
      · rw [if_pos hs] at h
        cases tg <;> first | (cases hs; done) | skip
        cases e <;> first | (simp [swap2, swap3] at hs; done) | skip
        rename_i ts _ _ es _ _ _ _
        have h : (match cpL (cpG (cp n false c) c n) ts, cpL (cp n false c) es with
          | some g, some r => some (Sm.par g r)
          | _, _ => none) = some a := h
        cases h1 : cpL (cpG (cp n false c) c n) ts with
        | none => rw [h1] at h; cases h
        | some gg =>
          cases h2 : cpL (cp n false c) es with
          | none => rw [h1, h2] at h; cases h
          | some r => rw [h1, h2] at h; cases h; rw [Bool.or_eq_true] at hs; exact hs.elim (fun hs => snd_par g i1 hs h1 h2) fun hs => snd_par3 g i1 hs h1 h2
      · rw [if_neg hs] at h
        by_cases hc : (swapLc c.sc tg e || (noSwap c.sc tg e && noLc c.sc tg e)) = true
        · rw [if_pos hc] at h
          cases h1 : cpG (cp n false c) c n tg with
          | none => rw [h1] at h; cases h
          | some gg =>
            cases h2 : cp n false c e with
            | none => rw [h1, h2] at h; cases h
            | some r =>
              rw [h1, h2] at h
              cases h
              by_cases hl : swapLc c.sc tg e = true
              · cases tg <;> first | (cases hl; done) | skip
                cases e <;> first | (cases hl; done) | skip
                rename_i t tp elt gens s p _
                have hl : lcB c.sc t tp s p = true := hl
                cases n with
                | zero => cases h1
                | succ n =>
                  match gens, h2 with
                  | [], h2 => cases h2
                  | ⟨_, _, _, _⟩ :: _ :: _, h2 => cases h2
                  | [⟨tg2, iter, ifs, as⟩], h2 =>
                    obtain ⟨rfl, i, g2, t2, y2, hb, q1, q2, q3, q4, q5, rfl⟩ := cp_lc h2
                    have P := snd_lcP (b := b) (k := k) (snd_all n) g.toGood hb q1 q2 q3 q4 q5
                    unfold cpG at h1
                    simp only at h1
                    by_cases l1 : locB c.sc t = true
                    · rw [if_pos l1] at h1
                      obtain ⟨j, j1, rfl⟩ := map_some h1
                      have hl2 : lcB c.sc t tp s p = true := hl
                      have hl : lcB c.sc t tp s p = true := hl
                      unfold lcB at hl2
                      rw [Bool.and_eq_true, Bool.and_eq_true] at hl2
                      have hk : kindB c.sc t = some .local := beq_iff_eq.mp hl2.1.1
                      exact s_setLc g.calm (by rw [g.hN]; exact g.nd) (by rw [g.hN]; exact slotIx_get j1) (by rw [g.scq]; exact hk) (by rw [lc_swaps g.scq g.kind, hl]) P.hi P.ok P.hg P.ht P.he P.hs P.sub
                    · rw [if_neg l1] at h1; cases h1
              · have hl : swapLc c.sc tg e = false := Bool.eq_false_iff.mpr hl
                rw [hl, Bool.false_or, Bool.and_eq_true] at hc
                obtain ⟨w1, w2⟩ := no_swap g.scq hc.1
                exact s_asg (i1 _ _ h2) (snd_G g.toGood i1 h1) (no_lc g.scq g.kind hc.2) w1 w2
        · rw [if_neg hc] at h; cases h
  case For tg it body orelse pos =>
    match orelse, h with
    | _ :: _, h => cases h
    | [], h =>
      have h : (match cpI (cp n false c) c (isTupE tg) it, cpG (cp n false c) c n tg, cpSs (cpS n c) body with
        | some i, some g, some y => some (Sm.for_ g i y)
        | _, _, _ => none) = some a := h
      cases h1 : cpI (cp n false c) c (isTupE tg) it with
      | none => rw [h1] at h; cases h
      | some i =>
        cases h2 : cpG (cp n false c) c n tg with
        | none => rw [h1, h2] at h; cases h
        | some gg =>
          cases h3 : cpSs (cpS n c) body with
          | none => rw [h1, h2, h3] at h; cases h
          | some y =>
            rw [h1, h2, h3] at h
            cases h
            obtain ⟨p1, p2⟩ := snd_I g.toGood i1 h1 (tg := tg)
            exact s_for g.po g.calm p1 (snd_G g.toGood i1 h2) (i3 h3) p2
  case While t body orelse pos =>
    match orelse, h with
    | _ :: _, h => cases h
    | [], h =>
      have h : (match cp n true c t, cpSs (cpS n c) body with
        | some x, some y => some (Sm.whl x y)
        | _, _ => none) = some a := h
      cases h1 : cp n true c t with
      | none => rw [h1] at h; cases h
      | some x =>
        cases h2 : cpSs (cpS n c) body with
        | none => rw [h1, h2] at h; cases h
        | some y => rw [h1, h2] at h; cases h; exact s_while g.po (i2 _ _ h1) (i3 h2)
  case If t x y pos =>
    have h : (match cp n true c t, cpSs (cpS n c) x, cpSs (cpS n c) y with
      | some x, some y, some z => some (Sm.iff x y z)
      | _, _, _ => none) = some a := h
    cases h1 : cp n true c t with
    | none => rw [h1] at h; cases h
    | some u =>
      cases h2 : cpSs (cpS n c) x with
      | none => rw [h1, h2] at h; cases h
      | some v =>
        cases h3 : cpSs (cpS n c) y with
        | none => rw [h1, h2, h3] at h; cases h
        | some z => rw [h1, h2, h3] at h; cases h; exact s_if (i2 _ _ h1) (i3 h2) (i3 h3)
  case Expr e pos =>
    have h : (if noComp e then (cp n false c e).map Sm.expr else none) = some a := h
    by_cases hc : noComp e = true
    · rw [if_pos hc] at h
      obtain ⟨u, h1, rfl⟩ := map_some h
      exact s_expr (i1 _ _ h1) (no_comp hc)
    · rw [if_neg hc] at h; cases h
  case Raise e cc pos => cases h; exact PS.never
  case Pass pos => cases h; exact s_pass
  case Break pos => cases h; exact s_break
  case Continue pos => cases h; exact s_cont
theorem sndS_all : ∀ n, SndS n
  | 0 => fun _ _ _ _ _ _ _ _ _ _ h => (by cases h)
  | n + 1 => sndS_step (sndS_all n)
end CI
end
section
set_option Elab.async false
set_option linter.all false
set_option maxRecDepth 100000
/-! ## CI: defs, closed ones and open ones -/
noncomputable section
namespace CI
open PySem PySem.Spec PyProof.Rows L2
structure FnD where
  ps : List Str
  n : Nat
  body : Sm
  cl : Bool
structure Prg where
  fns : Str → Option FnD
  glob : Str → Option D
  fuel : Nat
  cls : Str → Option ClT
  arg : Str → List D → Option (List D)
  has : Str → Bool
def frzL (f : D → Option D) : List D → Option (List D)
  | [] => some []
  | d :: ds => match f d, frzL f ds with
    | some x, some r => some (x :: r)
    | _, _ => none
/-- what is told of a value once the cells behind the n-th are no longer written -/
def frz (S : Store) (n : Nat) : Nat → D → Option D
  | 0, _ => none
  | m + 1, d => if d.low n then some d else match d with
    | .tup ds => (frzL (frz S n m) ds).map .tup
    | .lst ds => (frzL (frz S n m) ds).map .lst
    | .ref i => (match S[i]? with
      | some (.lst ds) => (frzL (frz S n m) ds).map .lst
      | some (.dct ks vs) => if !ks.isEmpty && ks.all (fun k => !sortK k) then (frzL (frz S n m) vs).map (.dct ks) else none
      | some (.ins c ns vs) => (frzL (frz S n m) vs).map (.ins c ns)
      | none => none)
    | _ => none
def startE (n : Nat) (ds : List D) : Rho := ds.map some ++ List.replicate (n - ds.length) none
def flV : R Fl → R D
  | .ok (.nx _) S => .ok .non S
  | .ok (.rt d) S => .ok d S
  | .ok _ _ => .bad
  | .ex c d S => .ex c d S
  | .bad => .bad
/-- what a closed def leaves -/
def closeR (n : Nat) : R D → R D
  | .ok d S => (match frz S n 64 d with
    | some d' => .ok d' (S.take n)
    | none => .bad)
  | .ex c d S => (match frz S n 64 d with
    | some d' => .ex c d' (S.take n)
    | none => .bad)
  | .bad => .bad
def runF (G : Cfg) (f : FnD) (ds : List D) (b : Nat) : M D := fun S => if f.cl then closeR S.length (flV (exec G S.length f.body (startE f.n ds) S)) else flV (exec G b f.body (startE f.n ds) S)
def cfgAt (P : Prg) : Nat → Cfg
  | 0 => ⟨P.glob, fun _ _ _ => M.bad, P.cls, P.arg, P.has, P.fuel⟩
  | n + 1 => ⟨P.glob, fun f ds b => (match P.fns f with
    | some fd => runF (cfgAt P n) fd ds b
    | none => M.bad), P.cls, P.arg, P.has, P.fuel⟩
section
variable {w : Wh} {b n : Nat} {H H' : Hp} {p p' : Pl} {S S' : Store} {W : WX}
mutual
theorem Rep.cut (hp : p.m <+: p'.m) (hl : p.m.length = n) (hx : p'.x = p.x) : ∀ (d : D) (v : V), Rep w H' p' d v → d.low n = true → Rep w H' p d v
  | .non, v, h, _ => h
  | .bl _, v, h, _ => h
  | .int _, v, h, _ => h
  | .str _, v, h, _ => h
  | .tup ds, v, h, l => by
    obtain ⟨a, vs, h1, h2, h3⟩ := h
    exact ⟨a, vs, h1, ⟨h2.1, fun q => h2.2 (q.imp (fun q => hp.subset q) fun q => by rw [hx]; exact q)⟩, Reps.cut hp hl hx ds vs h3 (by simpa [D.low] using l)⟩
  | .kt ds, v, h, l => by
    obtain ⟨a, vs, h1, h2, h3⟩ := h
    exact ⟨a, vs, h1, h2, Reps.cut hp hl hx ds vs h3 (by simpa [D.low] using l)⟩
  | .lst ds, v, h, l => by
    obtain ⟨a, vs, h1, h2, n, h3⟩ := h
    exact ⟨a, vs, h1, h2, fun q => n (q.imp (fun q => hp.subset q) fun q => by rw [hx]; exact q), Reps.cut hp hl hx ds vs h3 (by simpa [D.low] using l)⟩
  | .scr ds, v, h, l => by
    obtain ⟨a, vs, h1, h2, h4, h3⟩ := h
    exact ⟨a, vs, h1, h2, h4.imp (fun z => ⟨z.1, fun q => z.2 (q.imp (fun q => hp.subset q) fun q => by rw [hx]; exact q)⟩) id, Reps.cut hp hl hx ds vs h3 (by simpa [D.low] using l)⟩
  | .dct ks ds, v, h, l => by
    obtain ⟨a, kvs, h1, h2, n, hk, h3⟩ := h
    simp only [D.low, Bool.and_eq_true] at l
    exact ⟨a, kvs, h1, h2, fun q => n (q.imp (fun q => hp.subset q) fun q => by rw [hx]; exact q), hk, Reps.cut hp hl hx ds _ h3 l.2⟩
  | .ins c ns ds, v, h, l => by
    obtain ⟨a, dx, fs, h1, h2, n, hk, h3⟩ := h
    exact ⟨a, dx, fs, h1, h2, fun q => n (q.imp (fun q => hp.subset q) fun q => by rw [hx]; exact q), hk, Reps.cut hp hl hx ds _ h3 (by simpa [D.low] using l)⟩
  | .ref i, v, h, l => by
    obtain ⟨a, h1, h2⟩ := h
    refine ⟨a, h1, ?_⟩
    have hi : i < p.m.length := by rw [hl]; simpa [D.low] using l
    obtain ⟨t, ht⟩ := hp
    rw [← ht, List.getElem?_append_left hi] at h2
    exact h2
  | .fn f, v, h, _ => h
theorem Reps.cut (hp : p.m <+: p'.m) (hl : p.m.length = n) (hx : p'.x = p.x) : ∀ (ds : List D) (vs : List V), Reps w H' p' ds vs → D.lows n ds = true → Reps w H' p ds vs
  | [], vs, h, _ => h
  | d :: ds, vs, h, l => by
    obtain ⟨v, us, h1, h2, h3⟩ := h
    simp only [D.lows, Bool.and_eq_true] at l
    exact ⟨v, us, h1, Rep.cut hp hl hx d v h2 l.1, Reps.cut hp hl hx ds us h3 l.2⟩
end
theorem CRep.cut (hp : p.m <+: p'.m) (hl : p.m.length = n) (hx : p'.x = p.x) {a : Addr} {c : Cell} (h : CRep w H' p' a c) (l : c.low n = true) : CRep w H' p a c := by
  cases c with
  | lst ds =>
    obtain ⟨vs, h1, h2⟩ := h
    exact ⟨vs, h1, Reps.cut hp hl hx _ _ h2 l⟩
  | dct ks ds =>
    have l : (D.lows n ks && D.lows n ds) = true := l
    rw [Bool.and_eq_true] at l
    rcases h with ⟨kvs, h1, h2, h3⟩ | ⟨kvs, h1, h2, h3⟩
    · exact .inl ⟨kvs, h1, h2, Reps.cut hp hl hx _ _ h3 l.2⟩
    · exact .inr ⟨kvs, h1, h2, Reps.cut hp hl hx _ _ h3 l.2⟩
  | ins c ns ds =>
    obtain ⟨dx, fs, h1, h2, h3⟩ := h
    exact ⟨dx, fs, h1, h2, Reps.cut hp hl hx _ _ h3 l⟩
theorem cut_post (R : RelS w H p S) (hb : b ≤ S.length) (P : Post w S.length H p S H' p' S') : Post w b H p S H' p (S'.take S.length) := by
  have lo : LowS S.length S' := P.low S.length (Nat.le_refl _) R.low
  refine ⟨⟨List.prefix_refl _, rfl, P.ext.kept, fun a z => .inl z⟩, ⟨?_, R.nd, R.ap, fun a ha => P.rel.xs a (by rw [P.ext.x]; exact ha), fun i a c e1 e2 => ?_⟩, ?_, fun b' hb' z i c hi e => ?_⟩
  · rw [List.length_take, Nat.min_eq_left P.grow]; exact R.len
  · have hi : i < S.length := by
      rcases Nat.lt_or_ge i (S'.take S.length).length with q | q
      · rw [List.length_take] at q; omega
      · rw [List.getElem?_eq_none q] at e2; cases e2
    rw [List.getElem?_take_of_lt hi] at e2
    exact CRep.cut P.ext.pre R.len P.ext.x (P.rel.cells i a c (getElem?_prefix P.ext.pre e1) e2) (lo i c hi e2)
  · rw [List.length_take, Nat.min_eq_left P.grow]; exact Nat.le_refl _
  · have hlt : i < S.length := by omega
    rw [List.getElem?_take_of_lt hlt] at e
    exact P.low b' (by omega) z i c hi e
theorem frzL_rep {f : D → Option D} {p0 : Pl} (hf : ∀ d v d', Rep w H' p' d v → f d = some d' → Rep w H' p0 d' v) : ∀ {ds : List D} {vs : List V} {ds' : List D}, Reps w H' p' ds vs → frzL f ds = some ds' → Reps w H' p0 ds' vs
  | [], vs, ds', h, e => by cases e; exact h
  | d :: ds, vs, ds', h, e => by
    obtain ⟨v, us, rfl, h2, h3⟩ := h
    unfold frzL at e
    cases e1 : f d with
    | none => rw [e1] at e; cases e
    | some x =>
      cases e2 : frzL f ds with
      | none => rw [e1, e2] at e; cases e
      | some r => rw [e1, e2] at e; cases e; exact .cons (hf d v x h2 e1) (frzL_rep hf h3 e2)
theorem frz_rep (R : RelS w H p S) (P : Post w S.length H p S H' p' S') : ∀ (m : Nat) (d : D) (v : V) (d' : D), Rep w H' p' d v → frz S' S.length m d = some d' → Rep w H' p d' v
  | 0, _, _, _, _, e => by cases e
  | m + 1, d, v, d', h, e => by
    unfold frz at e
    by_cases hlo : d.low S.length = true
    · rw [if_pos hlo] at e
      cases e
      exact Rep.cut P.ext.pre R.len P.ext.x d v h hlo
    · rw [if_neg hlo] at e
      have out : ∀ {a : Addr}, ¬ p'.has a → ¬ p.has a := fun n q => n (q.imp (fun q => P.ext.pre.subset q) fun q => by rw [P.ext.x]; exact q)
      have rcs : ∀ {ds : List D} {vs : List V} {ds' : List D}, Reps w H' p' ds vs → frzL (frz S' S.length m) ds = some ds' → Reps w H' p ds' vs := fun h e => frzL_rep (frz_rep R P m) h e
      cases d <;> first | (cases e; done) | skip
      case tup ds =>
        obtain ⟨es, e1, rfl⟩ := map_some e
        obtain ⟨a, vs, h1, h2, h3⟩ := h
        exact ⟨a, vs, h1, ⟨h2.1, out h2.2⟩, rcs h3 e1⟩
      case lst ds =>
        obtain ⟨es, e1, rfl⟩ := map_some e
        obtain ⟨a, vs, h1, h2, n, h3⟩ := h
        exact ⟨a, vs, h1, h2, out n, rcs h3 e1⟩
      case ref i =>
        obtain ⟨a, rfl, ea⟩ := h
        obtain ⟨c, ec, hc⟩ := P.rel.cell ea
        have na : ¬ p.has a := by
          rintro (z | z)
          · obtain ⟨j, hj, ej⟩ := List.getElem_of_mem z
            have e1 : p'.m[j]? = some a := getElem?_prefix P.ext.pre (by simp [hj, ej])
            have := nodup_at P.rel.nd ea e1
            subst this
            exact hlo (by simp [D.low]; rw [← R.len]; exact hj)
          · exact P.rel.ap a (List.mem_of_getElem? ea) (by rw [P.ext.x]; exact z)
        simp only [ec] at e
        cases c with
        | lst ds =>
          obtain ⟨es, e1, rfl⟩ := map_some e
          obtain ⟨vs, h1, h2⟩ := hc
          exact ⟨a, vs, rfl, h1, na, rcs h2 e1⟩
        | dct ks vs =>
          simp only at e
          by_cases hk : (!ks.isEmpty && ks.all (fun k => !sortK k)) = true
          · rw [if_pos hk] at e
            obtain ⟨es, e1, rfl⟩ := map_some e
            rcases hc with ⟨kvs, h1, h2, h3⟩ | ⟨kvs, h1, h2, h3⟩
            · exact ⟨a, kvs, rfl, h1, na, h2, rcs h3 e1⟩
            · exfalso
              cases ks with
              | nil => exact absurd hk (by decide)
              | cons k0 ks =>
                have z := kTs_sort h2 k0 (by simp)
                rw [Bool.and_eq_true, List.all_cons, Bool.and_eq_true, z] at hk
                exact absurd hk.2.1 (by decide)
          · rw [if_neg hk] at e; cases e
        | ins c ns vs =>
          obtain ⟨es, e1, rfl⟩ := map_some e
          obtain ⟨dx, fs, h1, h2, h3⟩ := hc
          exact ⟨a, dx, fs, rfl, h1, na, h2, rcs h3 e1⟩
end
theorem relE_start {w : Wh} {H : Hp} {p : Pl} {N : List Str} {ds : List D} {vs : List V} (h : Reps w H p ds vs) : RelE w H p (L2.start N vs) (startE N.length ds) := by
  have hl := h.length
  refine ⟨by unfold L2.start startE; simp [hl], fun i d e => ?_⟩
  unfold startE at e
  by_cases hi : i < ds.length
  · rw [List.getElem?_append_left (by simpa using hi), List.getElem?_map] at e
    cases e1 : ds[i]? with
    | none => rw [e1] at e; cases e
    | some d2 =>
      rw [e1] at e
      cases e
      obtain ⟨v, q1, q2⟩ := h.get e1
      exact ⟨v, by unfold L2.start; rw [List.getElem?_append_left (by simpa [← hl] using hi), List.getElem?_map, q1]; rfl, q2⟩
  · rw [List.getElem?_append_right (by simpa using hi), List.getElem?_replicate] at e
    split at e <;> cases e
end CI
end
end
section
set_option Elab.async false
set_option linter.all false
set_option maxRecDepth 100000
/-! ## CI: the table of a law's defs -/
noncomputable section
namespace CI
open PySem PySem.Spec PyProof.Rows L2
structure RowT where
  N : List Str
  np : Nat
  mu : List (Nat × Nat)
  body : Sm
  cl : Bool
  dl : List D
  shapes : List ((Nat × List Str) × List Nat)
  params : Arguments
  bd : List Stmt
  sc : Scope
  own : Option (Str × Str)
def RowT.ps (r : RowT) : List Str := r.N.take r.np
structure LawT where
  rows : List (Str × RowT)
  gls : List (Str × D)
  fuel : Nat
  cls : List (Str × ClT)
def RowT.fi (r : RowT) : FnI := ⟨r.ps, r.dl, r.shapes, r.own.isNone⟩
def RowT.at_ (r : RowT) (x : Str) : Str × Option Str := match r.own with
  | none => (x, none)
  | some (c, m) => (c, some m)
def RowT.nm (r : RowT) (x : Str) : Str := match r.own with
  | none => x
  | some (_, m) => m
/-- where a def or a class stands -/
def LawT.fad (T : LawT) (K : PySem.W.Frag) (x : Str) : Addr := match T.rows.lookup x with
  | some r => He.fAd K (r.at_ x)
  | none => He.ga K x
def LawT.arg (T : LawT) (f : Str) (us : List D) : Option (List D) := match T.rows.lookup f with
  | some r => (match r.shapes.lookup (us.length, []) with
    | some pl => pick (us ++ r.dl) pl
    | none => none)
  | none => none
def LawT.fns (T : LawT) : List (Str × FnI) := T.rows.map fun q => (q.1, q.2.fi)
def LawT.prg (T : LawT) : Prg := ⟨fun x => (T.rows.lookup x).map fun r => ⟨r.ps, r.N.length, r.body, r.cl⟩, fun x => T.gls.lookup x, T.fuel, fun x => T.cls.lookup x, T.arg, fun x => (T.rows.lookup x).isSome⟩
def LawT.cc (T : LawT) (r : RowT) : CC := ⟨r.N, r.sc, T.fns, T.gls.map (·.1), r.mu, T.cls⟩
theorem lookup_map {α β : Type} {f : α → β} {x : Str} : ∀ {l : List (Str × α)}, (l.map fun q => (q.1, f q.2)).lookup x = (l.lookup x).map f
  | [] => rfl
  | (n, a) :: l => by
    rw [List.map_cons]
    cases h : (x == n) with
    | true => simp [List.lookup, h]
    | false => simp only [List.lookup, h]; exact lookup_map
/-- what is asked of each row -/
structure RowOk (T : LawT) (x : Str) (r : RowT) : Prop where
  sc : FnScope r.N r.ps r.sc
  cp : cpSs (cpS 60 (T.cc r)) r.bd = some r.body
  dv : ∃ dv, litVs r.dl = some dv ∧ ∀ (K : PySem.W.Frag) (f : Addr) (fd : FuncData), FunD K (r.nm x) x r.params r.bd r.sc dv [] f fd → ∀ np ks pl, r.shapes.lookup (np, ks) = some pl → pl.length = r.ps.length ∧ KBd K fd r.ps np ks dv pl
/-- what the head tells -/
structure Facts (T : LawT) (K : PySem.W.Frag) (mg : Str → Option Value) : Prop where
  df : ∀ x r, T.rows.lookup x = some r → ∃ dv fd, litVs r.dl = some dv ∧ FunD K (r.nm x) x r.params r.bd r.sc dv [] (T.fad K x) fd ∧ (r.own.isNone = true → mg x = some (.ref (T.fad K x)))
  cl : ∀ c t, T.cls.lookup c = some t → mg c = some (.ref (T.fad K c)) ∧ ClOk K (T.fad K c) t (T.fad K) ∧ ∀ m r, t.ms.lookup m = some r → (T.rows.lookup r).isSome = true
  gl : ∀ x d, T.gls.lookup x = some d → ∃ v u, mg x = some u ∧ RelV v u ∧ ∀ (w : Wh), w.K = K → ∀ H p, Rep w H p d v
  bi : ∀ x ∈ bnames, mg x = none
structure TabAt (G : Cfg) (w : Wh) (k : Nat) (P : Program) (u : World) (K : PySem.W.Frag) (mg : Str → Option Value) (B : Heap) (T : LawT) : Prop where
  fs : ∀ x r, T.rows.lookup x = some r → ∃ fd, FnG P u K mg B k (w.fa x) fd r.ps (spC w r.ps.length fun ds b => G.call x ds b) ∧ ∃ dv, litVs r.dl = some dv ∧ FunD K (r.nm x) x r.params r.bd r.sc dv [] (w.fa x) fd
theorem fn_sound {P : Program} {u : World} {K : PySem.W.Frag} {mg : Str → Option Value} {B : Heap} {k : Nat} {T : LawT} {x : Str} {r : RowT} {fd : FuncData} {dv : List V} {n : Nat} {w : Wh} (hw : w.K = K) (hfa : w.fa = T.fad K) (ok : ∀ x r, T.rows.lookup x = some r → RowOk T x r)
    (F : Facts T K mg) (ht : TabAt (cfgAt T.prg n) w k P u K mg B T) (hr : T.rows.lookup x = some r) (hF : FunD K (r.nm x) x r.params r.bd r.sc dv [] (w.fa x) fd) :
    FnG P u K mg B (k + 2) (w.fa x) fd r.ps (spC w r.ps.length fun ds b => (cfgAt T.prg (n + 1)).call x ds b) := by
  obtain ⟨oc, od, dV, kV, doc, pm, an, cdv, ct, osl, rfl, lk, hcd, hD, hK⟩ := hF.ex
  have O := ok x r hr
  have hcall : ∀ ds b, (cfgAt T.prg (n + 1)).call x ds b = runF (cfgAt T.prg n) ⟨r.ps, r.N.length, r.body, r.cl⟩ ds b := fun ds b => by
    show (match (T.rows.lookup x).map fun r => (⟨r.ps, r.N.length, r.body, r.cl⟩ : FnD) with
      | some fd => runF (cfgAt T.prg n) fd ds b
      | none => M.bad) = _
    rw [hr]; rfl
  refine fnG_body lk hcd O.sc (spC_len rfl) fun A l s H vs Q E room gd told => ?_
  obtain ⟨hl, ds, p, S, b, R, hb, lo, rs, res⟩ := told
  replace res : Res w b (fun c d _ H' => E c d H') [] (RD w) H p S ((cfgAt T.prg (n + 1)).call x ds b S) Q := res
  rw [hcall] at res
  have pos : ∀ f, (T.rows.lookup f).isSome = true → PosOk P u K mg B w k (cfgAt T.prg n).arg (cfgAt T.prg n).call f := fun f hf => by
    obtain ⟨r2, h1⟩ := Option.isSome_iff_exists.mp hf
    obtain ⟨fd2, h2, dv2, h3, h4⟩ := ht.fs f r2 h1
    refine ⟨fd2, r2.ps, r2.ps.length, h4.kp, h2, fun us as e => ?_⟩
    have e : T.arg f us = some as := by cases n <;> exact e
    unfold LawT.arg at e
    rw [h1] at e
    simp only at e
    cases hs : r2.shapes.lookup (us.length, []) with
    | none => rw [hs] at e; cases e
    | some pl =>
      rw [hs] at e
      obtain ⟨dv4, h6, h7⟩ := (ok f r2 h1).dv
      obtain rfl : dv2 = dv4 := Option.some.inj (h3.symm.trans h6)
      obtain ⟨h8, h9⟩ := h7 K _ fd2 h4 _ _ _ hs
      exact ⟨pl, r2.dl, dv2, h8, e, h6, h9⟩
  have clsE : (cfgAt T.prg n).cls = fun x => T.cls.lookup x := by cases n <;> rfl
  have hasE : (cfgAt T.prg n).has = fun x => (T.rows.lookup x).isSome := by cases n <;> rfl
  have good : GoodS (cfgAt T.prg n) w k (cxOf (L2.CX P u) P u K mg B r.N x r.sc (w.fa x) cdv A l s H E) (fun cls d _ H => E cls d H) (T.cc r) := by
    refine { hN := rfl, nd := O.sc.nd, calm := rfl, sc := SC.refl _, hg := gd, room := room, cl := fun y t hy => ?_, clT := fun y t hy => ?_, ms := fun y m f hy => ?_, hs := fun f hf => ?_, hK := hw.symm, tk := ?_, fn := fun _ _ => .inl rfl, gl := fun y hy => ?_, bi := F.bi, fs := fun y fi hy hnam => ?_, scq := rfl, kind := O.sc.kind, po := ?_ }
    · exact takes_of rfl rfl rfl rfl
    · have hy : (T.gls.map (·.1)).contains y = true := hy
      have : ∃ d, T.gls.lookup y = some d := by
        cases q : T.gls.lookup y with
        | some d => exact ⟨d, rfl⟩
        | none =>
          exfalso
          rw [List.contains_iff_exists_mem_beq] at hy
          obtain ⟨z, hz, e⟩ := hy
          obtain ⟨⟨y2, d2⟩, h1, h2⟩ := List.mem_map.mp hz
          have h2 : y2 = z := h2
          subst h2
          have h3 := List.lookup_eq_none_iff.mp q (y2, d2) h1
          rw [beq_iff_eq.mp e] at h3
          simp at h3
      obtain ⟨d, hd⟩ := this
      obtain ⟨v, uu, h1, h2, h3⟩ := F.gl y d hd
      refine ⟨d, v, uu, ?_, h1, h2, h3 w hw⟩
      cases n <;> exact hd
    · rw [clsE] at hy
      rw [hfa]
      exact (F.cl y t hy).2.1
    · rw [clsE, hfa]
      exact ⟨hy, (F.cl y t hy).1⟩
    · unfold metK at hy
      rw [clsE] at hy
      cases hq : T.cls.lookup y with
      | none => simp only [hq] at hy; cases hy
      | some t =>
        simp only [hq] at hy
        exact pos f ((F.cl y t hq).2.2 m f hy)
    · rw [hasE] at hf
      exact pos f hf
    · have hy : (T.rows.map fun q => (q.1, q.2.fi)).lookup y = some fi := hy
      rw [lookup_map] at hy
      obtain ⟨r2, h1, rfl⟩ := map_some hy
      obtain ⟨fd2, h2, dv2, h3, h4⟩ := ht.fs y r2 h1
      obtain ⟨dv3, fd3, _, _, h5⟩ := F.df y r2 h1
      refine ⟨by rw [hfa]; exact h5 hnam, h4.kp, fd2, h2, fun np ks pl hs => ?_⟩
      obtain ⟨dv4, h6, h7⟩ := (ok y r2 h1).dv
      obtain rfl : dv2 = dv4 := Option.some.inj (h3.symm.trans h6)
      obtain ⟨h8, h9⟩ := h7 K _ fd2 h4 np ks pl hs
      exact ⟨h8, dv2, h6, h9⟩
    · exact passes_of rfl
  have e0 := relE_start (N := r.N) rs
  have body : ∀ b, PSs (cxOf (L2.CX P u) P u K mg B r.N x r.sc (w.fa x) cdv A l s H E) r.bd (tS w b (fun cls d _ H => E cls d H) fun ρ => exec (cfgAt T.prg n) b r.body ρ) := fun b => snd_Ss (fun st a h => sndS_all 60 _ w b k _ _ (T.cc r) good st a h) O.cp
  have len0 : ds.length = vs.length := rs.length
  by_cases hcl : r.cl = true
  · refine ⟨_, body S.length, startE r.N.length ds, p, S, ⟨e0, R, Nat.le_refl _, R.low⟩, ?_⟩
    have res : Res w b (fun c d _ H' => E c d H') [] (RD w) H p S (closeR S.length (flV (exec (cfgAt T.prg n) S.length r.body (startE r.N.length ds) S))) Q := by
      have := res
      unfold runF at this
      simp only [hcl, if_true] at this
      exact this
    show ResS w S.length (fun cls d x H => E cls d H) { nx := fun x H' => Q V.non H', rt := Q } H p S (exec (cfgAt T.prg n) S.length r.body (startE r.N.length ds) S)
    revert res
    cases exec (cfgAt T.prg n) S.length r.body (startE r.N.length ds) S with
    | bad => exact fun res => res.elim
    | ex c d S' =>
      refine fun res σ' dx H' p' Pp X => ?_
      unfold flV closeR at res
      cases hz : frz S' S.length 64 d with
      | none => simp only [hz] at res; exact res.elim
      | some d' =>
        simp only [hz] at res
        refine res dx H' p (cut_post R hb Pp) ?_
        obtain ⟨x1, x2⟩ := X
        refine ⟨fun z => x1 (z.imp (fun q => Pp.ext.pre.subset q) fun q => by rw [Pp.ext.x]; exact q), ?_⟩
        revert x2
        cases w.xn c with
        | none => exact id
        | some f => exact fun ⟨v, h1, h2⟩ => ⟨v, h1, frz_rep R Pp 64 d v d' h2 hz⟩
    | ok fl S' =>
      cases fl with
      | bk ρ' => exact fun res => res.elim
      | ct ρ' => exact fun res => res.elim
      | nx ρ' =>
        refine fun res σ' H' p' Pp _ => ?_
        have hz : frz S' S.length 64 .non = some .non := rfl
        unfold flV closeR at res
        simp only [hz] at res
        exact res .non H' p (cut_post R hb Pp) rfl
      | rt d =>
        refine fun res v H' p' Pp rv => ?_
        unfold flV closeR at res
        cases hz : frz S' S.length 64 d with
        | none => simp only [hz] at res; exact res.elim
        | some d' =>
          simp only [hz] at res
          exact res v H' p (cut_post R hb Pp) (frz_rep R Pp 64 d v d' rv hz)
  · refine ⟨_, body b, startE r.N.length ds, p, S, ⟨e0, R, hb, lo⟩, ?_⟩
    have res : Res w b (fun c d _ H' => E c d H') [] (RD w) H p S (flV (exec (cfgAt T.prg n) b r.body (startE r.N.length ds) S)) Q := by
      have := res
      unfold runF at this
      simp only [hcl, if_false] at this
      exact this
    show ResS w b (fun cls d x H => E cls d H) { nx := fun x H' => Q V.non H', rt := Q } H p S (exec (cfgAt T.prg n) b r.body (startE r.N.length ds) S)
    revert res
    cases exec (cfgAt T.prg n) b r.body (startE r.N.length ds) S with
    | bad => exact fun res => res.elim
    | ex c d S' => exact fun res σ' dx H' p' Pp X => res dx H' p' Pp X
    | ok fl S' =>
      cases fl with
      | bk ρ' => exact fun res => res.elim
      | ct ρ' => exact fun res => res.elim
      | nx ρ' => exact fun res σ' H' p' Pp _ => res .non H' p' Pp rfl
      | rt d => exact fun res v H' p' Pp rv => res v H' p' Pp rv
theorem tab_all {P : Program} {u : World} {K : PySem.W.Frag} {mg : Str → Option Value} {B : Heap} {T : LawT} {w : Wh} (hw : w.K = K) (hfa : w.fa = T.fad K) (ok : ∀ x r, T.rows.lookup x = some r → RowOk T x r) (F : Facts T K mg) :
    ∀ n, TabAt (cfgAt T.prg n) w (2 * n) P u K mg B T
  | 0 => ⟨fun x r hr => by
      obtain ⟨dv, fd, h1, h2, h3⟩ := F.df x r hr
      refine ⟨fd, ⟨spC_len rfl, fun A l s H args us vs Q E _ _ _ _ _ told => ?_⟩, dv, h1, by rw [hfa]; exact h2⟩
      obtain ⟨_, ds, p, S, b, _, _, _, _, res⟩ := told
      exact res.elim⟩
  | n + 1 => ⟨fun x r hr => by
      obtain ⟨fd, _, dv, h1, h2⟩ := (tab_all (P := P) (u := u) (B := B) hw hfa ok F n).fs x r hr
      exact ⟨fd, fn_sound hw hfa ok F (tab_all hw hfa ok F n) hr h2, dv, h1, h2⟩⟩
end CI
end
end
section
set_option Elab.async false
set_option linter.all false
set_option maxRecDepth 100000
/-! ## CI: the head's facts, the law -/
noncomputable section
namespace CI
open PySem PySem.Spec PyProof.Rows L2
/-! ### constants of the module -/
section
variable (K : PySem.W.Frag)
def contL (f : D → Value → Bool) : List D → List Value → Bool
  | [], [] => true
  | d :: ds, v :: vs => f d v && contL f ds vs
  | _, _ => false
def contB : Nat → D → Value → Bool
  | 0, _, _ => false
  | n + 1, d, v => (match d with
    | .non => (match v with
      | .none => true
      | _ => false)
    | .bl b => (match v with
      | .bool c => decide (b = c)
      | _ => false)
    | .int i => (match v with
      | .int j _ => decide (i = j)
      | _ => false)
    | .str s => (match v with
      | .str z _ => decide (z.cps.toList = s)
      | _ => false)
    | .kt ds => (match v with
      | .ref a => (match K.lookup a with
        | some ⟨.type c, _, .seq its _, _⟩ => decide (c = "tuple") && (decide (its.size ≤ sizeLine) && contL (contB n) ds its.toList)
        | _ => false)
      | _ => false)
    | .scr ds => (match v with
      | .ref a => (match K.lookup a with
        | some ⟨.type c, none, .seq its _, _⟩ => decide (c = "list") && (decide (its.size ≤ sizeLine) && contL (contB n) ds its.toList)
        | _ => false)
      | _ => false)
    | _ => false)
def gcB (q : Str × D) : Bool := match PySem.W.nsIn K mainGlobals q.1 with
  | some (some u) => contB K 40 q.2 u
  | _ => false
end
theorem contL_ok {K : PySem.W.Frag} {f : D → Value → Bool} (hf : ∀ d u, f d u = true → ∃ v, RelV v u ∧ ∀ (w : Wh), w.K = K → ∀ H p, Rep w H p d v) : ∀ {ds : List D} {us : List Value}, contL f ds us = true → ∃ vs, Vals vs us ∧ ∀ (w : Wh), w.K = K → ∀ H p, Reps w H p ds vs
  | [], [], _ => ⟨[], .nil, fun _ _ _ _ => rfl⟩
  | d :: ds, u :: us, h => by
    unfold contL at h
    rw [Bool.and_eq_true] at h
    obtain ⟨v, h1, h2⟩ := hf d u h.1
    obtain ⟨vs, h3, h4⟩ := contL_ok hf h.2
    exact ⟨v :: vs, .cons h1 h3, fun w hw H p => .cons (h2 w hw H p) (h4 w hw H p)⟩
  | [], _ :: _, h => by cases h
  | _ :: _, [], h => by cases h
theorem contB_ok {K : PySem.W.Frag} : ∀ (n : Nat) (d : D) (u : Value), contB K n d u = true → ∃ v, RelV v u ∧ ∀ (w : Wh), w.K = K → ∀ H p, Rep w H p d v
  | 0, _, _, h => by cases h
  | n + 1, d, u, h => by
    cases d <;> first | (cases h; done) | skip
    case non => cases u <;> first | (cases h; done) | exact ⟨.non, rfl, fun _ _ _ _ => rfl⟩
    case bl b => cases u <;> first | (cases h; done) | (have := of_decide_eq_true (show decide (b = _) = true from h); subst this; exact ⟨.bl b, rfl, fun _ _ _ _ => rfl⟩)
    case int i => cases u <;> first | (cases h; done) | (have := of_decide_eq_true (show decide (i = _) = true from h); subst this; exact ⟨.int i, ⟨_, rfl⟩, fun _ _ _ _ => rfl⟩)
    case str s =>
      cases u <;> first | (cases h; done) | skip
      rename_i z t
      have := of_decide_eq_true (show decide (z.cps.toList = s) = true from h)
      subst this
      exact ⟨.str z, ⟨_, rfl⟩, fun _ _ _ _ => (show V.str z = V.str ⟨z.cps.toList.toArray⟩ by simp)⟩
    case kt ds =>
      cases u <;> first | (cases h; done) | skip
      rename_i a
      have h : (match K.lookup a with
        | some ⟨.type c, _, .seq its _, _⟩ => decide (c = "tuple") && (decide (its.size ≤ sizeLine) && contL (contB K n) ds its.toList)
        | _ => false) = true := h
      split at h
      · rename_i c dd its m sl e
        rw [Bool.and_eq_true, Bool.and_eq_true] at h
        obtain ⟨vs, h1, h2⟩ := contL_ok (contB_ok n) h.2.2
        have hc := of_decide_eq_true h.1
        subst hc
        exact ⟨.ref a, rfl, fun w hw H p => ⟨a, vs, rfl, ⟨_, its, m, by rw [hw]; exact e, rfl, rfl, of_decide_eq_true h.2.1, h1⟩, h2 w hw H p⟩⟩
      · cases h
    case scr ds =>
      cases u <;> first | (cases h; done) | skip
      rename_i a
      have h : (match K.lookup a with
        | some ⟨.type c, none, .seq its _, _⟩ => decide (c = "list") && (decide (its.size ≤ sizeLine) && contL (contB K n) ds its.toList)
        | _ => false) = true := h
      split at h
      · rename_i c its m sl e
        rw [Bool.and_eq_true, Bool.and_eq_true] at h
        obtain ⟨vs, h1, h2⟩ := contL_ok (contB_ok n) h.2.2
        have hc := of_decide_eq_true h.1
        subst hc
        have sq : ∀ (w : Wh), w.K = K → ∀ H, SqL w.K H a vs := fun w hw H => .inr ⟨_, its, m, by rw [hw]; exact e, rfl, rfl, rfl, of_decide_eq_true h.2.1, h1⟩
        exact ⟨.ref a, rfl, fun w hw H p => ⟨a, vs, rfl, sq w hw H, .inr fun H' => sq w hw H', h2 w hw H p⟩⟩
      · cases h
/-! ### the hook -/
def dvOf : D → He.Dv
  | .bl b => .bl b
  | .int i => .int i
  | .str s => .str ⟨s.toArray⟩
  | _ => .non
def RowT.def_ (q : Str × RowT) : He.DefD := ⟨q.2.at_ q.1, q.2.nm q.1, q.1, q.2.params, q.2.bd, q.2.sc, q.2.dl.map dvOf, []⟩
theorem dvOf_ok {K : PySem.W.Frag} : ∀ {ds : List D} {dv : List V}, litVs ds = some dv → (ds.map dvOf).map (He.Dv.v K) = dv
  | [], dv, h => by cases h; rfl
  | d :: ds, dv, h => by
    unfold litVs at h
    cases e1 : litV d with
    | none => rw [e1] at h; cases h
    | some v =>
      cases e2 : litVs ds with
      | none => rw [e1, e2] at h; cases h
      | some vs =>
        rw [e1, e2] at h
        cases h
        rw [List.map_cons, List.map_cons, dvOf_ok e2]
        cases d <;> first | (cases e1; done) | (cases e1; rfl)
def clFa (q : Str × ClT) : List He.Fa := .glo q.1 :: .cls q.1 :: (q.2.fs.map (.noat q.1) ++ (q.2.ms.map (fun m => .meth q.1 m.1) ++ if (q.2.ms.lookup (PySem.Str.ofString "__init__")).isSome then [.mkr q.1] else []))
def LawT.fa (T : LawT) : List He.Fa := ((T.rows.filter fun q => q.2.own.isNone).map fun q => He.Fa.glo q.1) ++ (bnames.map He.Fa.free ++ T.cls.flatMap clFa)
def clB (T : LawT) (K : PySem.W.Frag) (q : Str × ClT) : Bool := (T.rows.lookup q.1).isNone && q.2.ms.all fun m => (T.rows.lookup m.2).isSome && decide (He.ma K (He.ga K q.1) m.1 = T.fad K m.2)
def obsC (T : LawT) (K : PySem.W.Frag) : He.AlD := ((T.fa.all fun f => f.ok K) && ((T.rows.all fun q => (RowT.def_ q).ok K) && (T.gls.all (fun q => gcB K q) && T.cls.all fun q => clB T K q)), T.rows.map fun q => He.fnW K (RowT.def_ q).at_)
def valC (T : LawT) : He.AlD := (true, T.rows.map fun q => (RowT.def_ q).val)
def SaysC (T : LawT) (K : PySem.W.Frag) : Prop := obsC T K = valC T
def obsCG (n : Nat) (T : LawT) (g : Addr → Option Obj) : He.AlD := obsC T (He.frG g (He.asD g n))
def hookC (n : Nat) (T : LawT) : PySem.W.Hook where
  α := He.AlD
  obs := fun s => obsCG n T s.heap.get?
  val := fun _ => valC T
  says := fun _ h => ∃ K : PySem.W.Frag, K.In h ∧ SaysC T K
  of := fun _ _ e => ⟨_, He.frG_in, e⟩
  keeps := fun _ _ _ ⟨K, hK, c⟩ k => ⟨K, PySem.W.Frag.In.keeps hK k, c⟩
theorem obsCG_eq {n : Nat} {T : LawT} {g : Addr → Option Obj} {s : Shared} (h : ∀ a, g a = s.heap.get? a) : obsCG n T g = (hookC n T).obs s := by
  have e : g = s.heap.get? := funext h
  rw [e] <;> rfl
theorem lookup_mem {α : Type} {x : Str} {a : α} : ∀ {l : List (Str × α)}, l.lookup x = some a → (x, a) ∈ l
  | [], h => by cases h
  | (n, b) :: l, h => by
    cases e : (x == n) with
    | true =>
      simp only [List.lookup, e] at h
      cases h
      rw [beq_iff_eq.mp e]
      exact List.mem_cons_self
    | false =>
      simp only [List.lookup, e] at h
      exact List.mem_cons_of_mem _ (lookup_mem h)
theorem facts_of {T : LawT} {K : PySem.W.Frag} {mg : Str → Option Value} {h : Heap} (X : K.In h) (G : h.Ns mainGlobals mg) (c : SaysC T K) (hdl : ∀ q ∈ T.rows, (litVs q.2.dl).isSome = true) : Facts T K mg := by
  have c1 : ((T.fa.all fun f => f.ok K) && ((T.rows.all fun q => (RowT.def_ q).ok K) && (T.gls.all (fun q => gcB K q) && T.cls.all fun q => clB T K q))) = true := congrArg (fun z : He.AlD => z.1) c
  have c2 : T.rows.map (fun q => He.fnW K (RowT.def_ q).at_) = T.rows.map (fun q => (RowT.def_ q).val) := congrArg (fun z : He.AlD => z.2) c
  rw [Bool.and_eq_true, Bool.and_eq_true, Bool.and_eq_true] at c1
  obtain ⟨c3, c4, c5, c7⟩ := c1
  rw [List.all_eq_true] at c3 c4 c5 c7
  have c6 : ∀ q ∈ T.rows, He.fnW K (RowT.def_ q).at_ = (RowT.def_ q).val := List.map_inj_left.mp c2
  refine ⟨fun x r hr => ?_, fun y t hy => ?_, fun x d hd => ?_, fun x hx => ?_⟩
  · have hm := lookup_mem hr
    obtain ⟨fd, F⟩ := He.DefD.funD (c6 _ hm) (c4 _ hm)
    obtain ⟨dv, hdv⟩ := Option.isSome_iff_exists.mp (hdl _ hm)
    have ea : T.fad K x = He.fAd K (r.at_ x) := by unfold LawT.fad; rw [hr]
    have F : FunD K (r.nm x) x r.params r.bd r.sc ((r.dl.map dvOf).map (He.Dv.v K)) [] (He.fAd K (r.at_ x)) fd := F
    rw [← ea] at F
    rw [dvOf_ok hdv] at F
    refine ⟨dv, fd, hdv, F, fun hn => ?_⟩
    have := He.glo_ok X G (c3 _ (List.mem_append_left _ (List.mem_map.mpr ⟨_, List.mem_filter.mpr ⟨hm, hn⟩, rfl⟩)))
    rw [this, ea]
    unfold RowT.at_
    cases ho : r.own with
    | none => rfl
    | some _ => rw [ho] at hn; cases hn
  · have hm := lookup_mem hy
    have fa : ∀ f ∈ clFa (y, t), f.ok K = true := fun f hf => c3 _ (List.mem_append_right _ (List.mem_append_right _ (List.mem_flatMap.mpr ⟨_, hm, hf⟩)))
    have cb := c7 _ hm
    unfold clB at cb
    rw [Bool.and_eq_true, List.all_eq_true] at cb
    obtain ⟨cb1, cb2⟩ := cb
    have e0 : T.fad K y = He.ga K y := by
      unfold LawT.fad
      cases hq : T.rows.lookup y with
      | none => rfl
      | some _ => rw [show T.rows.lookup (y, t).1 = _ from hq] at cb1; cases cb1
    have hms : ∀ m r, t.ms.lookup m = some r → (T.rows.lookup r).isSome = true ∧ He.ma K (He.ga K y) m = T.fad K r := fun m r h => by
      have z := cb2 _ (lookup_mem h)
      rw [Bool.and_eq_true] at z
      exact ⟨z.1, of_decide_eq_true z.2⟩
    rw [e0]
    refine ⟨He.glo_ok X G (fa _ List.mem_cons_self), ⟨?_, fun f hf => ?_, fun m r h => ?_, fun r h => ?_⟩, fun m r h => (hms m r h).1⟩
    · exact He.cls_ok (fa _ (List.mem_cons_of_mem _ List.mem_cons_self))
    · exact He.noat_ok (fa _ (List.mem_cons_of_mem _ (List.mem_cons_of_mem _ (List.mem_append_left _ (List.mem_map.mpr ⟨_, hf, rfl⟩)))))
    · rw [← (hms m r h).2]
      exact He.meth_ok (fa _ (List.mem_cons_of_mem _ (List.mem_cons_of_mem _ (List.mem_append_right _ (List.mem_append_left _ (List.mem_map.mpr ⟨_, lookup_mem h, rfl⟩))))))
    · rw [← (hms _ r h).2]
      exact He.mkr_ok (fa _ (List.mem_cons_of_mem _ (List.mem_cons_of_mem _ (List.mem_append_right _ (List.mem_append_right _ (by rw [if_pos (by rw [h]; rfl)]; exact List.mem_cons_self))))))
  · have hm := lookup_mem hd
    have hg := c5 _ hm
    unfold gcB at hg
    split at hg
    · rename_i u e
      obtain ⟨v, h1, h2⟩ := contB_ok 40 d u hg
      exact ⟨v, u, PySem.W.mg_of X G e, h1, h2⟩
    · cases hg
  · exact He.free_ok X G (c3 _ (List.mem_append_right _ (List.mem_append_left _ (List.mem_map.mpr ⟨_, hx, rfl⟩))))
/-! ### the law -/
theorem relS_empty {w : Wh} {H : Hp} : RelS w H ⟨[], []⟩ [] := ⟨rfl, List.nodup_nil, fun a h => (List.not_mem_nil h).elim, fun a h => (List.not_mem_nil h).elim, fun n a c h => by simp at h⟩
theorem reps_ints {w : Wh} {H : Hp} {p : Pl} : ∀ ns : List Int, Reps w H p (ns.map D.int) (ns.map V.int)
  | [] => rfl
  | n :: ns => .cons rfl (reps_ints ns)
theorem told_law {w : Wh} {H : Hp} {a : Addr} {ns : List Int} {F : List D → Nat → M D} {S' : Store} (h1 : SqL w.K H a (ns.map V.int)) (h2 : (∃ o, H a = some (.frz o (.lst (ns.map V.int)))) ∨ ∀ H', SqL w.K H' a (ns.map V.int))
    (hp : F [.scr (ns.map .int)] 0 [] = .ok (.bl true) S') : spC w 1 F [.ref a] H (fun v _ => v = .bl true) fun _ _ _ => False := by
  refine ⟨rfl, [.scr (ns.map .int)], ⟨[], []⟩, [], 0, relS_empty, Nat.le_refl _, fun n c h => (Nat.not_lt_zero _ h).elim, ?_, ?_⟩
  · refine .one ⟨a, _, rfl, h1, ?_, reps_ints ns⟩
    rcases h2 with ⟨o, h2⟩ | h2
    · exact .inl ⟨.inr ⟨o, h2⟩, by rintro (z | z) <;> exact (List.not_mem_nil z).elim⟩
    · exact .inr h2
  · exact .of_ok hp fun v H' p' _ r => r
theorem law_all {l : PySem.W.OpenLaw} {n k : Nat} {q : Program} {loose : List Str} {XP : (Str → Option Value) → Heap → Prop} {YP : World → Heap → Prop} {d : DefRec} {x : Str} {T : LawT} {r : RowT}
    (hn : l.most = some n) (hn2 : n ≤ sizeLine) (hdf : d.params.defaults = []) (hr : Room (2 * k) callerA) (ok : ∀ x r, T.rows.lookup x = some r → RowOk T x r) (hdl : ∀ q ∈ T.rows, (litVs q.2.dl).isSome = true) (hrl : r.dl = []) (hy : ∀ w h, YP w h → ∃ K : PySem.W.Frag, K.In h ∧ SaysC T K)
    (hl : T.rows.lookup d.name = some r) (how : r.own = none) (hps : r.ps = [x])
    (hb : ∀ (K : PySem.W.Frag) (f : Addr) (fd : FuncData), FunD K d.name d.name r.params r.bd r.sc [] [] f fd → ∀ (s : Shared) (v : Value), BindsTo s fd ⟨[v], []⟩ [(x, v)])
    (plain : ∀ ns : List Int, ns.length ≤ n → ∃ S', (cfgAt T.prg k).call d.name [.scr (ns.map .int)] 0 [] = .ok (.bl true) S') :
    PySem.W.WalkO q loose XP YP l.row.toRowW d [] (fun f vs => PySem.call f vs) := by
  refine law_end (x := x) hn hn2 hdf hr fun u mg fa h Y G hmg => ?_
  obtain ⟨K, hK, c⟩ := hy u h Y
  have F := facts_of hK G c hdl
  obtain ⟨dv, fd, h1, h2, h3⟩ := F.df _ r hl
  have hnm : r.nm d.name = d.name := by unfold RowT.nm; rw [how]
  rw [hnm] at h2
  have e : fa = T.fad K d.name := by
    have := hmg.symm.trans (h3 (by rw [how]; rfl))
    injection this with this
    injection this
  have hd0 : dv = [] := by
    rw [hrl] at h1
    exact (Option.some.inj h1).symm
  subst hd0
  refine ⟨K, fd, spC ⟨K, T.fad K, fun _ => none⟩ 1 fun ds b => (cfgAt T.prg k).call d.name ds b, hK, hb K _ fd h2, fun H a ns hlen s1 s2 => ?_, fun B _ _ => ?_⟩
  · obtain ⟨S', hp⟩ := plain ns hlen
    exact told_law (w := ⟨K, T.fad K, fun _ => none⟩) s1 s2 hp
  · obtain ⟨fd2, g1, dv2, g2, g3⟩ := (tab_all (P := l.prog) (u := u) (B := B) (w := ⟨K, T.fad K, fun _ => none⟩) rfl rfl ok F k).fs _ r hl
    rw [hnm] at g3
    have : fd2 = fd := by
      obtain ⟨oc, od, dV, kV, doc, pm, an, cdv, ct, osl, rfl, lk, _⟩ := g3.ex
      obtain ⟨oc2, od2, dV2, kV2, doc2, pm2, an2, cdv2, ct2, osl2, rfl, lk2, _⟩ := h2.ex
      have := lk.symm.trans lk2
      simp only [Option.some.injEq, Obj.mk.injEq] at this
      exact Data.func.inj this.2.2.1
    rw [this, hps] at g1
    rw [e]
    exact g1
end CI
end
end
section
set_option Elab.async false
set_option linter.all false
set_option maxRecDepth 100000
/-! ## CI: small helps for the tables -/
namespace CI
open PySem PySem.Spec PyProof.Rows L2
theorem len0 {α : Type} {l : List α} (h : l.length = 0) : l = [] := List.length_eq_zero_iff.mp h
theorem len1 {α : Type} {l : List α} (h : l.length = 1) : ∃ a, l = [a] := by match l, h with | [a], _ => exact ⟨a, rfl⟩
theorem len2 {α : Type} {l : List α} (h : l.length = 2) : ∃ a b, l = [a, b] := by match l, h with | [a, b], _ => exact ⟨a, b, rfl⟩
theorem len3 {α : Type} {l : List α} (h : l.length = 3) : ∃ a b c, l = [a, b, c] := by match l, h with | [a, b, c], _ => exact ⟨a, b, c, rfl⟩
theorem len4 {α : Type} {l : List α} (h : l.length = 4) : ∃ a b c d, l = [a, b, c, d] := by match l, h with | [a, b, c, d], _ => exact ⟨a, b, c, d, rfl⟩
theorem len5 {α : Type} {l : List α} (h : l.length = 5) : ∃ a b c d e, l = [a, b, c, d, e] := by match l, h with | [a, b, c, d, e], _ => exact ⟨a, b, c, d, e, rfl⟩
theorem lookup_mem' {α β : Type} [BEq α] [LawfulBEq α] {x : α} {a : β} : ∀ {l : List (α × β)}, l.lookup x = some a → (x, a) ∈ l
  | [], h => by cases h
  | (n, b) :: l, h => by
    cases e : (x == n) with
    | true =>
      simp only [List.lookup, e] at h
      cases h
      rw [beq_iff_eq.mp e]
      exact List.mem_cons_self
    | false =>
      simp only [List.lookup, e] at h
      exact List.mem_cons_of_mem _ (lookup_mem' h)
theorem bindD {K : PySem.W.Frag} {s : Shared} {T0 : Addr} {o : Obj} {its : List Value} {n : Nat} {nm q : Str} {pr : Arguments} {bd : List Stmt} {sc : Scope} {kV doc pm : Value} {an : Option Addr} {cd ct : Value} {args : Args} {binds : List (Str × Value)} (X : K.In s.heap) (lT : K.lookup T0 = some o) (oT : o.data = .seq its.toArray n)
    (h : ∃ k, bindArgs (PySem.W.fnOf nm q pr bd sc (.ref T0) kV doc pm an cd ct) args = seqItems? (.ref T0) >>= k ∧ k (some its.toArray) = pure binds) : BindsTo s (PySem.W.fnOf nm q pr bd sc (.ref T0) kV doc pm an cd ct) args binds := by
  obtain ⟨k, h1, h2⟩ := h
  exact BindsTo.of_defaults rfl (X _ _ lT) oT h1 h2
/-- what is asked of each shape -/
theorem shp {K : PySem.W.Frag} {fd : FuncData} {ps : List Str} {l : List ((Nat × List Str) × List Nat)} {np : Nat} {ks : List Str} {pl : List Nat} {dv : List V} (h : l.lookup (np, ks) = some pl)
    (all : ∀ q ∈ l, q.2.length = ps.length ∧ ∃ ds : List Value, Vals dv ds ∧ ∀ (s : Shared) (us ws bs : List Value), K.In s.heap → us.length = q.1.1 → ws.length = q.1.2.length → pick (us ++ (ws ++ ds)) q.2 = some bs → BindsTo s fd ⟨us, q.1.2.zip ws⟩ (ps.zip bs)) :
    pl.length = ps.length ∧ KBd K fd ps np ks dv pl := by
  obtain ⟨h1, h2⟩ := all _ (lookup_mem' h)
  exact ⟨h1, ⟨h2⟩⟩
theorem law_named {l : PySem.W.OpenLaw} {n k : Nat} {q : Program} {loose : List Str} {XP : (Str → Option Value) → Heap → Prop} {YP : World → Heap → Prop} {d : DefRec} {x nm : Str} {T : LawT} {r : RowT} (hnm : d.name = nm)
    (hn : l.most = some n) (hn2 : n ≤ sizeLine) (hdf : d.params.defaults = []) (hr : Room (2 * k) callerA) (ok : ∀ x r, T.rows.lookup x = some r → RowOk T x r) (hdl : ∀ q ∈ T.rows, (litVs q.2.dl).isSome = true) (hrl : r.dl = []) (hy : ∀ w h, YP w h → ∃ K : PySem.W.Frag, K.In h ∧ SaysC T K)
    (hl : T.rows.lookup nm = some r) (how : r.own = none) (hps : r.ps = [x])
    (hb : ∀ (K : PySem.W.Frag) (f : Addr) (fd : FuncData), FunD K nm nm r.params r.bd r.sc [] [] f fd → ∀ (s : Shared) (v : Value), BindsTo s fd ⟨[v], []⟩ [(x, v)])
    (plain : ∀ ns : List Int, ns.length ≤ n → ∃ S', (cfgAt T.prg k).call nm [.scr (ns.map .int)] 0 [] = .ok (.bl true) S') :
    PySem.W.WalkO q loose XP YP l.row.toRowW d [] (fun f vs => PySem.call f vs) := by
  subst hnm
  exact law_all hn hn2 hdf hr ok hdl hrl hy hl how hps hb plain
end CI
end
section
set_option Elab.async false
set_option linter.all false
set_option maxRecDepth 100000
/-! ## CI: running terms -/
noncomputable section
namespace CI
open PySem
theorem call_eq {T : LawT} {n b : Nat} {x : Str} {r : RowT} {ds : List D} {S : Store} (h : T.rows.lookup x = some r) : (cfgAt T.prg (n + 1)).call x ds b S = runF (cfgAt T.prg n) ⟨r.ps, r.N.length, r.body, r.cl⟩ ds b S := by
  show (match (T.rows.lookup x).map fun (r : RowT) => (⟨r.ps, r.N.length, r.body, r.cl⟩ : FnD) with
    | some fd => runF (cfgAt T.prg n) fd ds b
    | none => M.bad) S = _
  rw [h]; rfl
theorem glob_eq {T : LawT} {n : Nat} {x : Str} : (cfgAt T.prg n).glob x = T.gls.lookup x := by cases n <;> rfl
theorem fuel_eq {T : LawT} {n : Nat} : (cfgAt T.prg n).fuel = T.fuel := by cases n <;> rfl
theorem run_closed {G : Cfg} {f : FnD} {ds : List D} {b : Nat} {S : Store} (h : f.cl = true) : runF G f ds b S = closeR S.length (flV (exec G S.length f.body (startE f.n ds) S)) := by unfold runF; rw [if_pos h]
theorem run_open {G : Cfg} {f : FnD} {ds : List D} {b : Nat} {S : Store} (h : f.cl = false) : runF G f ds b S = flV (exec G b f.body (startE f.n ds) S) := by unfold runF; rw [h]; rfl
/-- a closed def that leaves the store and tells low data -/
theorem close_low {n : Nat} {S : Store} {d : D} (hn : n = S.length) (h : d.low n = true) : closeR n (.ok d S) = .ok d S := by
  subst hn
  unfold closeR
  have : frz S S.length 64 d = some d := by unfold frz; rw [if_pos h]
  simp only [this, List.take_length]
@[simp] theorem close_low' {S : Store} {d : D} (h : d.low S.length = true) : closeR S.length (.ok d S) = .ok d S := close_low rfl h
@[simp] theorem low_non {n : Nat} : D.low n .non = true := (rfl)
@[simp] theorem low_bl {n : Nat} {b : Bool} : D.low n (.bl b) = true := (rfl)
@[simp] theorem low_int {n : Nat} {i : Int} : D.low n (.int i) = true := (rfl)
@[simp] theorem low_str {n : Nat} {s : List Nat} : D.low n (.str s) = true := (rfl)
@[simp] theorem low_tup {n : Nat} {ds : List D} : D.low n (.tup ds) = D.lows n ds := (rfl)
@[simp] theorem low_lst {n : Nat} {ds : List D} : D.low n (.lst ds) = D.lows n ds := (rfl)
@[simp] theorem low_ref {n m : Nat} : D.low n (.ref m) = decide (m < n) := (rfl)
@[simp] theorem lows_nil {n : Nat} : D.lows n [] = true := (rfl)
@[simp] theorem lows_cons {n : Nat} {d : D} {ds : List D} : D.lows n (d :: ds) = (d.low n && D.lows n ds) := (rfl)
/-- one after another -/
def R.bnd {α β : Type} (r : R α) (k : α → Store → R β) : R β := match r with
  | .ok a S => k a S
  | .ex c d S => .ex c d S
  | .bad => .bad
section
variable {α β : Type} {G : Cfg} {b : Nat} {ρ : Rho} {S : Store}
@[simp] theorem bnd_ok {a : α} {k : α → Store → R β} : R.bnd (.ok a S) k = k a S := rfl
@[simp] theorem bnd_ex {c : Str} {d : D} {k : α → Store → R β} : R.bnd (.ex c d S : R α) k = .ex c d S := rfl
@[simp] theorem bnd_bad {k : α → Store → R β} : R.bnd (.bad : R α) k = .bad := rfl
/-- what follows is left alone till the first part is told -/
@[simp ↓] theorem bnd_def {r : R α} {k : α → Store → R β} : R.bnd r k = match r with
    | .ok a S => k a S
    | .ex c d S => .ex c d S
    | .bad => .bad := (rfl)
theorem m_bind {m : M α} {k : α → M β} : M.bind m k S = R.bnd (m S) k := rfl
@[simp] theorem m_pure {a : α} : M.pure a S = .ok a S := rfl
@[simp] theorem m_bad : (M.bad : M α) S = .bad := rfl
def oR (o : Option α) (S : Store) : R α := match o with
  | some a => .ok a S
  | none => .bad
@[simp] theorem oR_some {a : α} : oR (some a) S = .ok a S := rfl
@[simp] theorem oR_none : oR (none : Option α) S = .bad := rfl
def cR (r : R α) : R α := match r with
  | .ok a S => .ok a S
  | _ => .bad
@[simp] theorem cR_ok {a : α} : cR (.ok a S) = .ok a S := rfl
theorem ite_app {c : Prop} [Decidable c] {x y : M α} : (if c then x else y) S = if c then x S else y S := by split <;> rfl
/-! expressions -/
@[simp] theorem e_lit {d : D} : ev G b (.lit d) ρ S = .ok d S := rfl
@[simp] theorem e_var {i : Nat} : ev G b (.var i) ρ S = oR (ρ[i]?.getD none) S := rfl
@[simp] theorem e_glb {x : Str} : ev G b (.glb x) ρ S = oR (G.glob x) S := rfl
@[simp] theorem e_nil : evs G b .nil ρ S = .ok [] S := rfl
@[simp] theorem e_cons {x r : Ex} : evs G b (.cons x r) ρ S = R.bnd (ev G b x ρ S) fun u S1 => R.bnd (evs G b r ρ S1) fun us S2 => .ok (u :: us) S2 := rfl
@[simp] theorem e_tup {es : Ex} : ev G b (.tup es) ρ S = R.bnd (evs G b es ρ S) fun ds S1 => if ds.length ≤ 16777216 then .ok (.tup ds) S1 else .bad := by
  show R.bnd _ _ = _
  congr 1; funext ds S1; split <;> rfl
@[simp] theorem e_lst {es : Ex} {k : Bool} : ev G b (.lst es k) ρ S = R.bnd (evs G b es ρ S) fun ds S1 => if ds.length ≤ 16777216 then newD k (.lst ds) S1 else .bad := by
  show R.bnd _ _ = _
  congr 1; funext ds S1; split <;> rfl
@[simp] theorem e_dct {es : Ex} {k : Bool} : ev G b (.dct es k) ρ S = R.bnd (cR (evs G b es ρ S)) fun ds S1 => R.bnd (oR (dctL [] [] ds) S1) fun q S2 => newD k (.dct q.1 q.2) S2 := rfl
@[simp] theorem e_bop {op : Op} {x y : Ex} : ev G b (.bop op x y) ρ S = R.bnd (ev G b x ρ S) fun u S1 => R.bnd (ev G b y ρ S1) fun v S2 => oR (bopD S2 op u v) S2 := rfl
@[simp] theorem e_neg {x : Ex} : ev G b (.neg x) ρ S = R.bnd (ev G b x ρ S) fun u S1 => (match u with
    | .int i => .ok (.int (-i)) S1
    | _ => .bad) := by
  show R.bnd _ _ = _
  congr 1; funext u S1; cases u <;> rfl
@[simp] theorem e_cmp {op : Cp} {x y : Ex} : ev G b (.cmp op x y) ρ S = R.bnd (ev G b x ρ S) fun u S1 => R.bnd (ev G b y ρ S1) fun v S2 => oR ((cmpD S2 op u v).map .bl) S2 := rfl
@[simp] theorem e_chain {op op' : Cp} {x y z : Ex} : ev G b (.chain op op' x y z) ρ S = R.bnd (ev G b x ρ S) fun u S1 => R.bnd (ev G b y ρ S1) fun v S2 => R.bnd (oR (cmpD S2 op u v) S2) fun t S3 =>
      if t = true then R.bnd (ev G b z ρ S3) fun w S4 => oR ((cmpD S4 op' v w).map .bl) S4 else .ok (.bl false) S3 := by
  show R.bnd _ _ = _
  congr 1; funext u S1
  show R.bnd _ _ = _
  congr 1; funext v S2
  show R.bnd _ _ = _
  congr 1; funext t S3
  split <;> rfl
@[simp] theorem e_and {x y : Ex} : ev G b (.and x y) ρ S = R.bnd (ev G b x ρ S) fun u S1 => R.bnd (oR (asB u) S1) fun t S2 => if t = true then ev G b y ρ S2 else .ok (.bl false) S2 := by
  show R.bnd _ _ = _
  congr 1; funext u S1
  show R.bnd _ _ = _
  congr 1; funext t S2
  split <;> rfl
@[simp] theorem e_or {x y : Ex} : ev G b (.or x y) ρ S = R.bnd (ev G b x ρ S) fun u S1 => R.bnd (oR (asB u) S1) fun t S2 => if t = true then .ok (.bl true) S2 else ev G b y ρ S2 := by
  show R.bnd _ _ = _
  congr 1; funext u S1
  show R.bnd _ _ = _
  congr 1; funext t S2
  split <;> rfl
@[simp] theorem e_not {x : Ex} : ev G b (.not x) ρ S = R.bnd (ev G b x ρ S) fun u S1 => R.bnd (oR (asB u) S1) fun t S2 => .ok (.bl (!t)) S2 := rfl
@[simp] theorem e_ite {c x y : Ex} : ev G b (.ite c x y) ρ S = R.bnd (evT G b c ρ S) fun t S1 => if t = true then ev G b x ρ S1 else ev G b y ρ S1 := by
  show R.bnd _ _ = _
  congr 1; funext t S1; split <;> rfl
@[simp] theorem e_idx {x i : Ex} : ev G b (.idx x i) ρ S = R.bnd (ev G b x ρ S) fun u S1 => R.bnd (ev G b i ρ S1) fun v S2 => oR (idxD S2 u v) S2 := rfl
@[simp] theorem e_slc {x l h : Ex} : ev G b (.slc x l h) ρ S = R.bnd (ev G b x ρ S) fun u S1 => R.bnd (evO G b l ρ S1) fun l S2 => R.bnd (evO G b h ρ S2) fun h S3 => oR (slcD S3 u l h) S3 := rfl
@[simp] theorem e_call {f : Str} {np nk : Nat} {pl : List Nat} {dl : List D} {es ks : Ex} : ev G b (.call f np nk pl dl es ks) ρ S = R.bnd (evs G b es ρ S) fun us S1 => R.bnd (evs G b ks ρ S1) fun ws S2 => R.bnd (oR (pickA np nk pl us ws dl) S2) fun as S3 => G.call f as b S3 := rfl
@[simp] theorem e_bm {m : Bm} {x es : Ex} : ev G b (.bm m x es) ρ S = R.bnd (ev G b x ρ S) fun u S1 => R.bnd (oR (bmTy S1 m u) S1) fun _ S2 => R.bnd (evs G b es ρ S2) fun ds S3 => bmM b m u ds S3 := rfl
@[simp] theorem e_bi {f : Bi} {es : Ex} : ev G b (.bi f es) ρ S = R.bnd (evs G b es ρ S) fun ds S1 => oR (biD S1 f ds) S1 := rfl
@[simp] theorem e_isa {x : Ex} {t : Ty} : ev G b (.isa x t) ρ S = R.bnd (ev G b x ρ S) fun u S1 => oR ((isaD S1 u t).map .bl) S1 := rfl
@[simp] theorem e_lc {vs : List Nat} {tg it ifs elt : Ex} {k : Bool} : ev G b (.lc vs tg it ifs elt k) ρ S = R.bnd (evI G b it ρ S) fun J S1 => lcF J (fun d ρ1 => asg G b tg d ρ1) (fun ρ1 => evA G b ifs ρ1) (fun ρ1 => ev G b elt ρ1) vs k ρ S1 := rfl
@[simp] theorem o_nil : evO G b .nil ρ S = .ok none S := rfl
@[simp] theorem o_prt {x : Ex} : evO G b (.prt x) ρ S = R.bnd (ev G b x ρ S) fun u S1 => (match u with
    | .int i => .ok (some i) S1
    | _ => .bad) := by
  show R.bnd _ _ = _
  congr 1; funext u S1; cases u <;> rfl
/-! tests -/
@[simp] theorem t_and {x y : Ex} : evT G b (.and x y) ρ S = R.bnd (evT G b x ρ S) fun t S1 => if t = true then evT G b y ρ S1 else .ok false S1 := by
  show R.bnd _ _ = _
  congr 1; funext t S1; split <;> rfl
@[simp] theorem t_or {x y : Ex} : evT G b (.or x y) ρ S = R.bnd (evT G b x ρ S) fun t S1 => if t = true then .ok true S1 else evT G b y ρ S1 := by
  show R.bnd _ _ = _
  congr 1; funext t S1; split <;> rfl
@[simp] theorem t_not {x : Ex} : evT G b (.not x) ρ S = R.bnd (evT G b x ρ S) fun t S1 => .ok (!t) S1 := rfl
@[simp] theorem t_cmp {op : Cp} {x y : Ex} : evT G b (.cmp op x y) ρ S = R.bnd (ev G b x ρ S) fun u S1 => R.bnd (ev G b y ρ S1) fun v S2 => oR (cmpD S2 op u v) S2 := rfl
@[simp] theorem t_chain {op op' : Cp} {x y z : Ex} : evT G b (.chain op op' x y z) ρ S = R.bnd (ev G b x ρ S) fun u S1 => R.bnd (ev G b y ρ S1) fun v S2 => R.bnd (oR (cmpD S2 op u v) S2) fun t S3 =>
      if t = true then R.bnd (ev G b z ρ S3) fun w S4 => oR (cmpD S4 op' v w) S4 else .ok false S3 := by
  show R.bnd _ _ = _
  congr 1; funext u S1
  show R.bnd _ _ = _
  congr 1; funext v S2
  show R.bnd _ _ = _
  congr 1; funext t S3
  split <;> rfl
@[simp] theorem t_ite {c x y : Ex} : evT G b (.ite c x y) ρ S = R.bnd (evT G b c ρ S) fun t S1 => if t = true then evT G b x ρ S1 else evT G b y ρ S1 := by
  show R.bnd _ _ = _
  congr 1; funext t S1; split <;> rfl
@[simp] theorem t_tst {x : Ex} : evT G b (.tst x) ρ S = R.bnd (ev G b x ρ S) fun u S1 => oR (truD S1 u) S1 := rfl
@[simp] theorem a_nil : evA G b .nil ρ S = .ok true S := rfl
@[simp] theorem a_one {x : Ex} : evA G b (.cons x .nil) ρ S = evT G b x ρ S := rfl
/-! what is walked -/
@[simp] theorem i_itv {x : Ex} : evI G b (.itv x) ρ S = R.bnd (ev G b x ρ S) fun u S1 => itOf u S1 := rfl
@[simp] theorem i_rng1 {x : Ex} : evI G b (.rng1 x) ρ S = R.bnd (ev G b x ρ S) fun u S1 => (match u with
    | .int j => if j ≤ (16777216 : Int) ∧ -(2 ^ 62) ≤ j then .ok ⟨rngOf 0 j.toNat, none, none⟩ S1 else .bad
    | _ => .bad) := by
  show R.bnd _ _ = _
  congr 1; funext u S1; cases u <;> first | rfl | exact ite_app
/-! stores -/
@[simp] theorem g_tnm {i : Nat} {d : D} : asg G b (.tnm i) d ρ S = .ok (ρ.set i (some d)) S := rfl
@[simp] theorem g_tsub {x i : Ex} {d : D} : asg G b (.tsub x i) d ρ S = R.bnd (ev G b x ρ S) fun u S1 => R.bnd (ev G b i ρ S1) fun v S2 => R.bnd (setD b u v d S2) fun _ S3 => .ok ρ S3 := rfl
@[simp] theorem g_tup {es : Ex} {ds : List D} : asg G b (.tup es) (.tup ds) ρ S = asgs G b es ds ρ S := rfl
@[simp] theorem g_nil : asgs G b .nil [] ρ S = .ok ρ S := rfl
@[simp] theorem g_cons {x r : Ex} {d : D} {ds : List D} : asgs G b (.cons x r) (d :: ds) ρ S = R.bnd (asg G b x d ρ S) fun ρ1 S1 => asgs G b r ds ρ1 S1 := rfl
/-! statements -/
@[simp] theorem x_skip : exec G b .skip ρ S = .ok (.nx ρ) S := rfl
@[simp] theorem x_seq {s r : Sm} : exec G b (.seq s r) ρ S = R.bnd (exec G b s ρ S) fun fl S1 => (match fl with
    | .nx ρ1 => exec G b r ρ1 S1
    | fl => .ok fl S1) := by
  show R.bnd _ _ = _
  congr 1; funext fl S1; cases fl <;> rfl
@[simp] theorem x_asg {tg e : Ex} : exec G b (.asg tg e) ρ S = R.bnd (ev G b e ρ S) fun d S1 => R.bnd (cR (asg G b tg d ρ S1)) fun ρ1 S2 => .ok (.nx ρ1) S2 := rfl
@[simp] theorem x_par {tg e : Ex} : exec G b (.par tg e) ρ S = R.bnd (evs G b e ρ S) fun ds S1 => R.bnd (cR (asgs G b tg ds ρ S1)) fun ρ1 S2 => .ok (.nx ρ1) S2 := rfl
@[simp] theorem x_expr {e : Ex} : exec G b (.expr e) ρ S = R.bnd (ev G b e ρ S) fun _ S1 => .ok (.nx ρ) S1 := rfl
@[simp] theorem x_ret {e : Ex} : exec G b (.ret e) ρ S = R.bnd (ev G b e ρ S) fun d S1 => .ok (.rt d) S1 := rfl
@[simp] theorem x_retN : exec G b .retN ρ S = .ok (.rt .non) S := rfl
@[simp] theorem x_brk : exec G b .brk ρ S = .ok (.bk ρ) S := rfl
@[simp] theorem x_cont : exec G b .cont ρ S = .ok (.ct ρ) S := rfl
@[simp] theorem x_iff {c : Ex} {x y : Sm} : exec G b (.iff c x y) ρ S = R.bnd (evT G b c ρ S) fun t S1 => if t = true then exec G b x ρ S1 else exec G b y ρ S1 := by
  show R.bnd _ _ = _
  congr 1; funext t S1; split <;> rfl
@[simp] theorem x_for {tg it : Ex} {x : Sm} : exec G b (.for_ tg it x) ρ S = R.bnd (evI G b it ρ S) fun J S1 => forL J (fun d ρ => M.calm (asg G b tg d ρ)) (fun ρ => exec G b x ρ) J.xs ρ S1 := rfl
@[simp] theorem x_whl {c : Ex} {x : Sm} : exec G b (.whl c x) ρ S = whlL (fun ρ => evT G b c ρ) (fun ρ => exec G b x ρ) G.fuel ρ S := rfl
@[simp] theorem v_rt {d : D} : flV (.ok (.rt d) S) = .ok d S := rfl
@[simp] theorem v_nx : flV (.ok (.nx ρ) S) = .ok .non S := rfl
@[simp] theorem start_eq {n : Nat} {ds : List D} : startE n ds = ds.map some ++ List.replicate (n - ds.length) none := rfl
@[simp] theorem newF {c : Cell} : newD false c S = .ok (toldC c) S := by cases c <;> rfl
@[simp] theorem told_l {ds : List D} : toldC (.lst ds) = .lst ds := rfl
@[simp] theorem told_d {ks vs : List D} : toldC (.dct ks vs) = .dct ks vs := rfl
@[simp] theorem newT {c : Cell} : newD true c S = .ok (.ref S.length) (S ++ [c]) := rfl
end
/-! ### operators at known data -/
section
variable {S : Store}
theorem str_beq (a c : List Nat) : ((⟨a.toArray⟩ : Str) == ⟨c.toArray⟩) = decide (a = c) := by
  by_cases h : a = c
  · subst h; simp
  · have : ¬ ((⟨a.toArray⟩ : Str) = ⟨c.toArray⟩) := fun z => h (by have := congrArg (fun s : Str => s.cps.toList) z; simpa using this)
    simp [h, beq_eq_false_iff_ne.mpr this]
@[simp] theorem eq_ii {i j : Int} : eqD S (.int i) (.int j) = some (decide (i = j)) := by
  show some (PyData.eqv (.int i) (.int j)) = _
  simp only [PyData.eqv]
  by_cases h : i = j <;> simp [h]
@[simp] theorem eq_ss {a c : List Nat} : eqD S (.str a) (.str c) = some (decide (a = c)) := by
  show some (PyData.eqv (.str ⟨a.toArray⟩) (.str ⟨c.toArray⟩)) = _
  simp only [PyData.eqv, str_beq]
theorem pys_strs : ∀ ss : List (List Nat), D.pys (ss.map .str) = some (ss.map fun s => .str ⟨s.toArray⟩)
  | [] => rfl
  | s :: ss => by
    show (match D.py (.str s), D.pys (ss.map .str) with
      | some x, some xs => some (x :: xs)
      | _, _ => none) = _
    rw [pys_strs ss]; rfl
theorem any_strs (s : List Nat) : ∀ ss : List (List Nat), ((ss.map fun s => PyData.str ⟨s.toArray⟩).any fun b => PyData.eqv b (.str ⟨s.toArray⟩)) = decide (s ∈ ss)
  | [] => by simp
  | c :: ss => by
    rw [List.map_cons, List.any_cons, any_strs s ss]
    simp only [PyData.eqv, str_beq]
    by_cases h : c = s
    · simp [h]
    · simp [h, Ne.symm h]
theorem flat_strs : ∀ ss : List (List Nat), (ss.map fun s => PyData.str ⟨s.toArray⟩).all flatP = true
  | [] => rfl
  | s :: ss => by rw [List.map_cons, List.all_cons, flat_strs ss]; rfl
theorem in_strs {y : D} {s : List Nat} {ss : List (List Nat)} (hy : seqOf S y = some (ss.map .str)) (hs : ∀ z, y ≠ .str z) : inD S (.str s) y = some (decide (s ∈ ss)) := by
  have key : (match seqOf S y with
    | some ds => (match D.py (.str s), D.pys ds with
      | some a, some bs => if (flatP a && bs.all flatP) || (!isTup y && SeqAt.shaped a && SeqAt.shaped (.list bs)) then some (bs.any fun b => PyData.eqv b a) else none
      | _, _ => none)
    | none => (match dctOf S y with
      | some (ks, vs) => if fitsK (isRefD y) ks (.str s) then some (dGet ks vs (.str s)).isSome else none
      | none => none)) = some (decide (s ∈ ss)) := by
    rw [hy]
    simp only [pys_strs]
    show (if (flatP (.str ⟨s.toArray⟩) && (ss.map fun s => PyData.str ⟨s.toArray⟩).all flatP || _) = true then some ((ss.map fun s => PyData.str ⟨s.toArray⟩).any fun b => PyData.eqv b (.str ⟨s.toArray⟩)) else none) = _
    rw [flat_strs, any_strs]
    simp [flatP]
  rw [← key]
  unfold inD
  split
  · rename_i z; exact (hs _ rfl).elim
  · rfl
theorem in_tup {s : List Nat} {ss : List (List Nat)} : inD S (.str s) (.tup (ss.map .str)) = some (decide (s ∈ ss)) := in_strs rfl fun _ h => nomatch h
theorem in_lst {s : List Nat} {ss : List (List Nat)} : inD S (.str s) (.lst (ss.map .str)) = some (decide (s ∈ ss)) := in_strs rfl fun _ h => nomatch h
@[simp] theorem in_t2 {s a c : List Nat} : inD S (.str s) (.tup [.str a, .str c]) = some (decide (s ∈ [a, c])) := in_tup (ss := [a, c])
@[simp] theorem in_t3 {s a c e : List Nat} : inD S (.str s) (.tup [.str a, .str c, .str e]) = some (decide (s ∈ [a, c, e])) := in_tup (ss := [a, c, e])
@[simp] theorem in_t4 {s a c e f : List Nat} : inD S (.str s) (.tup [.str a, .str c, .str e, .str f]) = some (decide (s ∈ [a, c, e, f])) := in_tup (ss := [a, c, e, f])
@[simp] theorem in_l4 {s a c e f : List Nat} : inD S (.str s) (.lst [.str a, .str c, .str e, .str f]) = some (decide (s ∈ [a, c, e, f])) := in_lst (ss := [a, c, e, f])
@[simp] theorem in_t8 {s a c e f a' c' e' f' : List Nat} : inD S (.str s) (.tup [.str a, .str c, .str e, .str f, .str a', .str c', .str e', .str f']) = some (decide (s ∈ [a, c, e, f, a', c', e', f'])) := in_tup (ss := [a, c, e, f, a', c', e', f'])
@[simp] theorem in_l8 {s a c e f a' c' e' f' : List Nat} : inD S (.str s) (.lst [.str a, .str c, .str e, .str f, .str a', .str c', .str e', .str f']) = some (decide (s ∈ [a, c, e, f, a', c', e', f'])) := in_lst (ss := [a, c, e, f, a', c', e', f'])
theorem in_kt {s : List Nat} {ss : List (List Nat)} : inD S (.str s) (.kt (ss.map .str)) = some (decide (s ∈ ss)) := in_strs rfl fun _ h => nomatch h
@[simp] theorem in_k2 {s a c : List Nat} : inD S (.str s) (.kt [.str a, .str c]) = some (decide (s ∈ [a, c])) := in_kt (ss := [a, c])
@[simp] theorem in_k3 {s a c e : List Nat} : inD S (.str s) (.kt [.str a, .str c, .str e]) = some (decide (s ∈ [a, c, e])) := in_kt (ss := [a, c, e])
@[simp] theorem in_k4 {s a c e f : List Nat} : inD S (.str s) (.kt [.str a, .str c, .str e, .str f]) = some (decide (s ∈ [a, c, e, f])) := in_kt (ss := [a, c, e, f])
@[simp] theorem in_k8 {s a c e f a' c' e' f' : List Nat} : inD S (.str s) (.kt [.str a, .str c, .str e, .str f, .str a', .str c', .str e', .str f']) = some (decide (s ∈ [a, c, e, f, a', c', e', f'])) := in_kt (ss := [a, c, e, f, a', c', e', f'])
@[simp] theorem len_k {ds : List D} : biD S .len [.kt ds] = some (.int ds.length) := rfl
@[simp] theorem len_t {ds : List D} : biD S .len [.tup ds] = some (.int ds.length) := rfl
@[simp] theorem len_l {ds : List D} : biD S .len [.lst ds] = some (.int ds.length) := rfl
@[simp] theorem cmp_in {x y : D} : cmpD S .isin x y = inD S x y := rfl
@[simp] theorem cmp_notin {x y : D} : cmpD S .notin x y = (inD S x y).map not := rfl
@[simp] theorem cmp_eq {x y : D} : cmpD S .eq x y = eqD S x y := rfl
@[simp] theorem cmp_ne {x y : D} : cmpD S .ne x y = (eqD S x y).map not := rfl
@[simp] theorem cmp_lt {i j : Int} : cmpD S .lt (.int i) (.int j) = some (decide (i < j)) := rfl
@[simp] theorem cmp_le {i j : Int} : cmpD S .le (.int i) (.int j) = some (decide (i ≤ j)) := rfl
@[simp] theorem cmp_gt {i j : Int} : cmpD S .gt (.int i) (.int j) = some (decide (j < i)) := rfl
@[simp] theorem cmp_ge {i j : Int} : cmpD S .ge (.int i) (.int j) = some (decide (j ≤ i)) := rfl
@[simp] theorem asB_bl {c : Bool} : asB (.bl c) = some c := rfl
@[simp] theorem tru_bl {c : Bool} : truD S (.bl c) = some c := rfl
theorem idx_seq {u : D} {ds : List D} {i : Int} {j : Nat} {x : D} (hs : seqOf S u = some ds) (hd : dctOf S u = none) (hn : ∀ z, u ≠ .str z) (h : ixOf ds.length i = some j) (e : ds[j]? = some x) : idxD S u (.int i) = some x := by
  have key : (match dctOf S u with
    | some (ks, vs) => if fitsK (isRefD u) ks (.int i) then dGet ks vs (.int i) else none
    | none => (match seqOf S u with
        | some ds => (match ixOf ds.length i with
          | some j => ds[j]?
          | none => none)
        | none => none)) = some x := by rw [hd, hs]; simp only [h]; exact e
  rw [← key]
  cases u <;> first | rfl | exact (hn _ rfl).elim
theorem ix_nat {n i : Nat} (h : i < n) : ixOf n (i : Int) = some i := by
  unfold ixOf
  rw [if_pos (by omega), if_pos (by omega)]
  simp
theorem idx_tn {ds : List D} {i : Nat} {x : D} (e : ds[i]? = some x) : idxD S (.tup ds) (.int (i : Int)) = some x := by
  have hi : i < ds.length := by
    rcases Nat.lt_or_ge i ds.length with q | q
    · exact q
    · rw [List.getElem?_eq_none q] at e; cases e
  exact idx_seq rfl rfl (fun _ h => nomatch h) (ix_nat hi) e
theorem idx_ln {ds : List D} {i : Nat} {x : D} (e : ds[i]? = some x) : idxD S (.lst ds) (.int (i : Int)) = some x := by
  have hi : i < ds.length := by
    rcases Nat.lt_or_ge i ds.length with q | q
    · exact q
    · rw [List.getElem?_eq_none q] at e; cases e
  exact idx_seq rfl rfl (fun _ h => nomatch h) (ix_nat hi) e
theorem idx_kn {ds : List D} {i : Nat} {x : D} (e : ds[i]? = some x) : idxD S (.kt ds) (.int (i : Int)) = some x := by
  have hi : i < ds.length := by
    rcases Nat.lt_or_ge i ds.length with q | q
    · exact q
    · rw [List.getElem?_eq_none q] at e; cases e
  exact idx_seq rfl rfl (fun _ h => nomatch h) (ix_nat hi) e
@[simp] theorem idx_t0 {x : D} {r : List D} : idxD S (.tup (x :: r)) (.int 0) = some x := idx_tn (i := 0) rfl
@[simp] theorem idx_t1 {x y : D} {r : List D} : idxD S (.tup (x :: y :: r)) (.int 1) = some y := idx_tn (i := 1) rfl
@[simp] theorem idx_t2 {x y z : D} {r : List D} : idxD S (.tup (x :: y :: z :: r)) (.int 2) = some z := idx_tn (i := 2) rfl
@[simp] theorem idx_l0 {x : D} {r : List D} : idxD S (.lst (x :: r)) (.int 0) = some x := idx_ln (i := 0) rfl
@[simp] theorem idx_l1 {x y : D} {r : List D} : idxD S (.lst (x :: y :: r)) (.int 1) = some y := idx_ln (i := 1) rfl
theorem idx_tlast {ds : List D} {x : D} (e : ds[ds.length - 1]? = some x) : idxD S (.tup ds) (.int (-1)) = some x := by
  have hi : 0 < ds.length := by
    rcases Nat.eq_zero_or_pos ds.length with q | q
    · rw [List.getElem?_eq_none (by omega)] at e; cases e
    · exact q
  refine idx_seq rfl rfl (fun _ h => nomatch h) (j := ds.length - 1) ?_ e
  unfold ixOf
  rw [if_neg (by omega), if_pos (by omega)]
  congr 1
  omega
end
/-! ### comprehensions and walks of told things -/
section
variable {G : Cfg} {b : Nat} {ρ : Rho} {S : Store}
@[simp] theorem it_tup {ds : List D} : itOf (.tup ds) S = .ok ⟨ds, none, none⟩ S := rfl
@[simp] theorem it_lst {ds : List D} : itOf (.lst ds) S = .ok ⟨ds, none, none⟩ S := rfl
@[simp] theorem it_scr {ds : List D} : itOf (.scr ds) S = .ok ⟨ds, none, none⟩ S := rfl
theorem lcL_map {F : D → M (Option D)} {f : D → D} : ∀ {xs : List D}, (∀ x ∈ xs, F x S = .ok (some (f x)) S) → ∀ {ys : List D}, lcL ⟨ys, none, none⟩ F xs S = .ok (xs.map f) S
  | [], _, ys => rfl
  | x :: xs, h, ys => by
    have ih := lcL_map (xs := xs) (fun y hy => h y (List.mem_cons_of_mem _ hy)) (ys := ys)
    show (M.bind (F x) fun o => (lcL ⟨ys, none, none⟩ F xs).bind fun r => M.pure (match o with
      | some y => y :: r
      | none => r)) S = _
    rw [bind_of_ok (h x List.mem_cons_self), bind_of_ok ih]
    rfl
theorem lcF_map {tg ifs elt : Ex} {vs : List Nat} {k : Bool} {xs : List D} {f : D → D} (hl : xs.length ≤ 16777216)
    (h : ∀ x ∈ xs, ∃ ρ1, asg G b tg x (wipeE ρ vs) S = .ok ρ1 S ∧ evA G b ifs ρ1 S = .ok true S ∧ ev G b elt ρ1 S = .ok (f x) S) :
    lcF ⟨xs, none, none⟩ (fun d ρ1 => asg G b tg d ρ1) (fun ρ1 => evA G b ifs ρ1) (fun ρ1 => ev G b elt ρ1) vs k ρ S = newD k (.lst (xs.map f)) S := by
  unfold lcF
  rw [if_neg (not_not_intro hl)]
  rw [bind_of_ok (lcL_map (f := f) (fun x hx => ?_))]
  obtain ⟨ρ1, h1, h2, h3⟩ := h x hx
  unfold M.calm
  rw [bind_of_ok h1, bind_of_ok h2]
  simp only [if_true]
  rw [bind_of_ok h3]
  rfl
theorem all_map {xs : List D} {p : D → Bool} : biD S .all [.lst (xs.map fun x => .bl (p x))] = some (.bl (xs.all p)) := by
  have : ∀ xs : List D, boolsOf (xs.map fun x => .bl (p x)) = some (xs.map p) := by
    intro xs
    induction xs with
    | nil => rfl
    | cons x xs ih => show (boolsOf (xs.map fun x => .bl (p x))).map (p x :: ·) = _; rw [ih]; rfl
  show (boolsOf (xs.map fun x => .bl (p x))).map (fun bs => D.bl (bs.all id)) = _
  rw [this]
  simp
theorem forL_all {tg : Ex} {body : Sm} (Pr : Rho → Prop) (p : D → Bool) (out : D) : ∀ {xs : List D},
    (∀ x ∈ xs, ∀ ρ, Pr ρ → ∃ ρ1, asg G b tg x ρ S = .ok ρ1 S ∧ if p x = true then ∃ ρ2, Pr ρ2 ∧ exec G b body ρ1 S = .ok (.nx ρ2) S else exec G b body ρ1 S = .ok (.rt out) S) →
    ∀ {ρ : Rho} {ys : List D}, Pr ρ → if xs.all p = true then ∃ ρ', Pr ρ' ∧ forL ⟨ys, none, none⟩ (fun d ρ => M.calm (asg G b tg d ρ)) (fun ρ => exec G b body ρ) xs ρ S = .ok (.nx ρ') S
      else forL ⟨ys, none, none⟩ (fun d ρ => M.calm (asg G b tg d ρ)) (fun ρ => exec G b body ρ) xs ρ S = .ok (.rt out) S
  | [], _, ρ, ys, h => by
    rw [if_pos (show ([] : List D).all p = true from rfl)]
    exact ⟨ρ, h, rfl⟩
  | x :: xs, h, ρ, ys, hp => by
    obtain ⟨ρ1, h1, h2⟩ := h x List.mem_cons_self ρ hp
    have e : forL ⟨ys, none, none⟩ (fun d ρ => M.calm (asg G b tg d ρ)) (fun ρ => exec G b body ρ) (x :: xs) ρ S = M.bind (exec G b body ρ1) (fun fl => match fl with
      | .nx ρ2 => forL ⟨ys, none, none⟩ (fun d ρ => M.calm (asg G b tg d ρ)) (fun ρ => exec G b body ρ) xs ρ2
      | .ct ρ2 => forL ⟨ys, none, none⟩ (fun d ρ => M.calm (asg G b tg d ρ)) (fun ρ => exec G b body ρ) xs ρ2
      | .bk ρ2 => M.pure (.nx ρ2)
      | .rt d => M.pure (.rt d)) S := by
      show M.bind (M.calm (asg G b tg x ρ)) _ S = _
      rw [bind_of_ok (show M.calm (asg G b tg x ρ) S = .ok ρ1 S by unfold M.calm; rw [h1])]
      all_goals rfl
    rw [e]
    by_cases hx : p x = true
    · rw [if_pos hx] at h2
      obtain ⟨ρ2, h3, h4⟩ := h2
      rw [bind_of_ok h4, List.all_cons, hx, Bool.true_and]
      exact forL_all Pr p out (fun y hy => h y (List.mem_cons_of_mem _ hy)) h3
    · rw [if_neg hx] at h2
      rw [bind_of_ok h2, List.all_cons, Bool.eq_false_iff.mpr hx, Bool.false_and, if_neg Bool.false_ne_true]
      rfl
end
end CI
end
end
section
set_option Elab.async false
set_option linter.all false
set_option maxRecDepth 100000
set_option maxHeartbeats 4000000
/-! ## CI: the laws' pail -/
noncomputable section
namespace CI
open PySem
def dealB : Sm := (.seq (.iff (.cmp .gt (.idx (.var 0) (.lit (.int 0))) (.lit (.int 0))) (.seq (.asg (.tup (.cons (.tsub (.var 0) (.lit (.int 0))) (.cons (.tnm 3) .nil))) (.bi .divmod (.cons (.idx (.var 0) (.lit (.int 0))) (.cons (.var 1) .nil)))) (.seq (.ret (.var 3)) .skip)) .skip) (.seq (.asg (.tsub (.var 0) (.lit (.int 2))) (.bop .add (.idx (.var 0) (.lit (.int 2))) (.lit (.int 1)))) (.seq (.asg (.tnm 2) (.bop .mod (.bi .int (.cons (.bop .add (.bop .mul (.idx (.var 0) (.lit (.int 1))) (.lit (.int 15511))) (.bop .mul (.lit (.int 11903)) (.idx (.var 0) (.lit (.int 2))))) .nil)) (.lit (.int 2147483423)))) (.seq (.asg (.tsub (.var 0) (.lit (.int 1))) (.bop .mod (.bi .int (.cons (.bop .add (.bop .mul (.var 2) (.bop .add (.bop .mod (.bi .int (.cons (.var 2) .nil)) (.lit (.int 5147))) (.lit (.int 30011)))) (.bop .mul (.lit (.int 31)) (.idx (.var 0) (.lit (.int 2))))) .nil)) (.lit (.int 2147483423)))) (.seq (.ret (.bop .mod (.bi .int (.cons (.bop .fdiv (.idx (.var 0) (.lit (.int 1))) (.lit (.int 349))) .nil)) (.var 1))) .skip)))))
/-- the cell of a pail -/
abbrev pl3 (a m k : Int) : Cell := .lst [.int a, .int m, .int k]
section
variable {G : Cfg} {b : Nat} {S : Store} {n : Nat} {a m k t : Int}
theorem idx_ref {ds : List D} {i : Int} (h : S[n]? = some (.lst ds)) : idxD S (.ref n) (.int i) = (match ixOf ds.length i with
    | some j => ds[j]?
    | none => none) := by
  show (match dctOf S (.ref n) with
    | some (ks, vs) => _
    | none => (match seqOf S (.ref n) with
        | some ds => (match ixOf ds.length i with
          | some j => ds[j]?
          | none => none)
        | none => none)) = _
  simp only [dctOf, seqOf, h]
theorem idx_p0 (h : S[n]? = some (pl3 a m k)) : idxD S (.ref n) (.int 0) = some (.int a) := by rw [idx_ref h]; rfl
theorem idx_p1 (h : S[n]? = some (pl3 a m k)) : idxD S (.ref n) (.int 1) = some (.int m) := by rw [idx_ref h]; rfl
theorem idx_p2 (h : S[n]? = some (pl3 a m k)) : idxD S (.ref n) (.int 2) = some (.int k) := by rw [idx_ref h]; rfl
theorem may_int {i : Int} : mayPut b n (.int i) = true := by unfold mayPut; simp
theorem set_p0 {x : Int} (h : S[n]? = some (pl3 a m k)) : setD b (.ref n) (.int 0) (.int x) S = .ok () (S.set n (pl3 x m k)) := by
  simp only [setD, h, pl3]
  rw [show ixOf ([D.int a, .int m, .int k].length) 0 = some 0 from rfl]
  simp only [may_int, if_true]
  rfl
theorem set_p1 {x : Int} (h : S[n]? = some (pl3 a m k)) : setD b (.ref n) (.int 1) (.int x) S = .ok () (S.set n (pl3 a x k)) := by
  simp only [setD, h, pl3]
  rw [show ixOf ([D.int a, .int m, .int k].length) 1 = some 1 from rfl]
  simp only [may_int, if_true]
  rfl
theorem set_p2 {x : Int} (h : S[n]? = some (pl3 a m k)) : setD b (.ref n) (.int 2) (.int x) S = .ok () (S.set n (pl3 a m x)) := by
  simp only [setD, h, pl3]
  rw [show ixOf ([D.int a, .int m, .int k].length) 2 = some 2 from rfl]
  simp only [may_int, if_true]
  rfl
theorem get_set {c : Cell} (h : n < S.length) : (S.set n c)[n]? = some c := List.getElem?_set_self h
theorem mul_r {i j : Int} (h : smallI j = true) : mulD S (.int i) (.int j) = some (.int (i * j)) := by
  show (if smallI i || smallI j then some (D.int (i * j)) else none) = _
  rw [h, Bool.or_true, if_pos rfl]
theorem mul_l {i j : Int} (h : smallI i = true) : mulD S (.int i) (.int j) = some (.int (i * j)) := by
  show (if smallI i || smallI j then some (D.int (i * j)) else none) = _
  rw [h, Bool.true_or, if_pos rfl]
@[simp] theorem add_ii {i j : Int} : bopD S .add (.int i) (.int j) = some (.int (i + j)) := rfl
@[simp] theorem sub_ii {i j : Int} : bopD S .sub (.int i) (.int j) = some (.int (i - j)) := rfl
theorem mod_ii {i j : Int} (h : 0 < j) : bopD S .mod (.int i) (.int j) = some (.int (i % j)) := by
  show (if 0 < j then some (D.int (i % j)) else none) = _
  rw [if_pos h]
theorem fdiv_ii {i j : Int} (h : 0 < j) (h2 : j < 1073741824) : bopD S .fdiv (.int i) (.int j) = some (.int (i / j)) := by
  show (if 0 < j ∧ j < 1073741824 then some (D.int (i / j)) else none) = _
  rw [if_pos ⟨h, h2⟩]
theorem mul_d {i j : Int} (h : smallI j = true) : bopD S .mul (.int i) (.int j) = some (.int (i * j)) := mul_r (S := S) h
theorem mul_e {i j : Int} (h : smallI i = true) : bopD S .mul (.int i) (.int j) = some (.int (i * j)) := mul_l (S := S) h
@[simp] theorem int_i {i : Int} : biD S .int [.int i] = some (.int i) := rfl
theorem small_of {i : Int} (h1 : -100000000000000 ≤ i) (h2 : i ≤ 100000000000000) : smallI i = true := by
  unfold smallI
  simp only [Bool.and_eq_true, decide_eq_true_eq]
  omega
theorem deal_run (h : S[n]? = some (pl3 a m k)) (ha : 0 ≤ a) (ht : 0 < t) (ht2 : t < 1073741824) :
    ∃ f a' m' k', exec G b dealB [some (.ref n), some (.int t), none, none] S = .ok (.rt (.int f)) (S.set n (pl3 a' m' k')) ∧ 0 ≤ f ∧ f < t ∧ 0 ≤ a' := by
  have hn : n < S.length := by
    rcases Nat.lt_or_ge n S.length with q | q
    · exact q
    · rw [List.getElem?_eq_none q] at h; cases h
  by_cases hp : 0 < a
  · refine ⟨a % t, a / t, m, k, ?_, Int.emod_nonneg _ (by omega), Int.emod_lt_of_pos _ ht, Int.ediv_nonneg ha (by omega)⟩
    have hd : biD S .divmod [.int a, .int t] = some (.tup [.int (a / t), .int (a % t)]) := by
      show (if 0 < t ∧ t < 1073741824 then some (D.tup [.int (a / t), .int (a % t)]) else none) = _
      rw [if_pos ⟨ht, ht2⟩]
    simp [dealB, idx_p0 h, hp, hd, set_p0 h]
  · have h2 := get_set (S := S) (n := n) (c := pl3 a m (k + 1)) hn
    have s1 : smallI 15511 = true := small_of (by decide) (by decide)
    have s2 : smallI 11903 = true := small_of (by decide) (by decide)
    have s3 : smallI 31 = true := small_of (by decide) (by decide)
    obtain ⟨mx, hmx⟩ : ∃ mx, mx = (m * 15511 + 11903 * (k + 1)) % 2147483423 := ⟨_, rfl⟩
    have m1 : 0 ≤ mx % 5147 := Int.emod_nonneg _ (by decide)
    have m2 : mx % 5147 < 5147 := Int.emod_lt_of_pos _ (by decide)
    have s4 : smallI (mx % 5147 + 30011) = true := small_of (by omega) (by omega)
    obtain ⟨q, hq⟩ : ∃ q, q = (mx * (mx % 5147 + 30011) + 31 * (k + 1)) % 2147483423 := ⟨_, rfl⟩
    have h3 := get_set (S := S) (n := n) (c := pl3 a q (k + 1)) hn
    refine ⟨(q / 349) % t, a, q, k + 1, ?_, Int.emod_nonneg _ (by omega), Int.emod_lt_of_pos _ ht, ha⟩
    simp [dealB, idx_p0 h, hp, idx_p2 h, set_p2 h, idx_p1 h2, idx_p2 h2, mul_d s1, mul_e s2, mul_e s3, mod_ii (j := 2147483423) (by decide), ← hmx, mod_ii (j := 5147) (by decide), mul_d s4, ← hq, set_p1 h2, idx_p1 h3, fdiv_ii (j := 349) (by decide) (by decide), mod_ii ht]
end
end CI
end
end
section
set_option Elab.async false
set_option linter.all false
set_option maxRecDepth 100000
set_option maxHeartbeats 4000000
/-! ## CI: the laws' pail, as it is called -/
noncomputable section
namespace CI
open PySem
theorem close_len {n : Nat} {S' : Store} {d : D} (hS : S'.length = n) (h : d.low n = true) : closeR n (.ok d S') = .ok d S' := by
  subst hS
  exact close_low rfl h
/-- `_law_deal` deals a number below the top -/
def Deals (G : Cfg) : Prop := ∀ (b : Nat) (S : Store) (n : Nat) (a m k t : Int), S[n]? = some (pl3 a m k) → 0 ≤ a → 0 < t → t < 1073741824 →
  ∃ f a' m' k', G.call (PySem.Str.ofString "_law_deal") [.ref n, .int t] b S = .ok (.int f) (S.set n (pl3 a' m' k')) ∧ 0 ≤ f ∧ f < t ∧ 0 ≤ a'
theorem deals_of {T : LawT} {r : RowT} {n : Nat} (h : T.rows.lookup (PySem.Str.ofString "_law_deal") = some r) (hb : r.body = dealB) (hN : r.N.length = 4) (hc : r.cl = true) : Deals (cfgAt T.prg (n + 1)) := by
  intro b S m a x k t h1 h2 h3 h4
  obtain ⟨f, a', m', k', e, q1, q2, q3⟩ := deal_run (G := cfgAt T.prg n) (b := S.length) h1 h2 h3 h4
  refine ⟨f, a', m', k', ?_, q1, q2, q3⟩
  rw [call_eq h, run_closed hc]
  show closeR S.length (flV (exec (cfgAt T.prg n) S.length r.body (startE r.N.length [.ref m, .int t]) S)) = _
  rw [hb, hN]
  show closeR S.length (flV (exec (cfgAt T.prg n) S.length dealB [some (.ref m), some (.int t), none, none] S)) = _
  rw [e]
  exact close_len (by simp) rfl
def anyB : Sm := (.seq (.ret (.idx (.var 1) (.call (PySem.Str.ofString "_law_deal") 2 0 [0, 1] [] (.cons (.var 0) (.cons (.bi .len (.cons (.var 1) .nil)) .nil)) .nil))) .skip)
/-- `_law_any` deals one of some -/
def Anys (G : Cfg) : Prop := ∀ (b : Nat) (S : Store) (n : Nat) (a m k : Int) (u : D) (xs : List D), S[n]? = some (pl3 a m k) → 0 ≤ a → (u = .lst xs ∨ u = .tup xs ∨ ∃ s : List Nat, u = .str s ∧ xs = s.map fun c => .str [c]) → 0 < xs.length → xs.length < 1000000 → D.lows 0 xs = true →
  ∃ x a' m' k', x ∈ xs ∧ G.call (PySem.Str.ofString "_law_any") [.ref n, u] b S = .ok x (S.set n (pl3 a' m' k')) ∧ 0 ≤ a'
theorem low_of {n : Nat} {xs : List D} (h : D.lows 0 xs = true) {x : D} (hx : x ∈ xs) : x.low n = true := D.low_mono (Nat.zero_le n) x ((D.lows_all.mp h) x hx)
theorem anys_of {T : LawT} {r : RowT} {n : Nat} (dl : Deals (cfgAt T.prg n)) (h : T.rows.lookup (PySem.Str.ofString "_law_any") = some r) (hb : r.body = anyB) (hN : r.N.length = 2) (hc : r.cl = true) : Anys (cfgAt T.prg (n + 1)) := by
  intro b S m a y k u xs h1 h2 hu h3 h4 h5
  obtain ⟨f, a', m', k', e, q1, q2, q3⟩ := dl S.length S m a y k xs.length h1 h2 (by omega) (by omega)
  obtain ⟨j, rfl⟩ : ∃ j : Nat, f = (j : Int) := ⟨f.toNat, by omega⟩
  have hi : j < xs.length := by omega
  have hx : xs[j]? = some xs[j] := by simp [hi]
  refine ⟨xs[j], a', m', k', List.getElem_mem hi, ?_, q3⟩
  rw [call_eq h, run_closed hc]
  show closeR S.length (flV (exec (cfgAt T.prg n) S.length r.body (startE r.N.length [.ref m, u]) S)) = _
  rw [hb, hN]
  show closeR S.length (flV (exec (cfgAt T.prg n) S.length anyB [some (.ref m), some u] S)) = _
  have hl : biD S .len [u] = some (.int xs.length) := by
    rcases hu with rfl | rfl | ⟨s, rfl, rfl⟩
    · rfl
    · rfl
    · show (if s.length ≤ SZ then some (D.int s.length) else none) = _
      rw [List.length_map] at h4
      have : s.length ≤ SZ := by simp only [SZ]; omega
      rw [if_pos this, List.length_map]
  have hix : ∀ S : Store, idxD S u (.int (j : Int)) = some xs[j] := fun S => by
    rcases hu with rfl | rfl | ⟨s, rfl, rfl⟩
    · exact idx_ln (by simpa using hx)
    · exact idx_tn (by simpa using hx)
    · have hs : j < s.length := by simpa using hi
      rw [List.length_map] at h4
      show (if s.length ≤ SZ then (match ixOf s.length (j : Int) with
        | some j => (match s[j]? with
          | some c => some (D.str [c])
          | none => none)
        | none => none) else none) = _
      have : s.length ≤ SZ := by simp only [SZ]; omega
      rw [if_pos this, ix_nat hs]
      simp [hs]
  have key : exec (cfgAt T.prg n) S.length anyB [some (.ref m), some u] S = .ok (.rt xs[j]) (S.set m (pl3 a' m' k')) := by
    simp [anyB, pickA, pick, hl, e, hix]
  rw [key]
  exact close_len (by simp) (low_of h5 (List.getElem_mem hi))
end CI
end
end
section
set_option Elab.async false
set_option linter.all false
set_option maxRecDepth 100000
set_option maxHeartbeats 4000000
/-! ## CI: the laws' pail, made of a script -/
noncomputable section
namespace CI
open PySem
/-- one round of a pail's mixing -/
def mixB (c2 q1 e5 e9 q2 : Int) : Sm := (.seq (.asg (.tnm 2) (.bop .mod (.bi .int (.cons (.bop .add (.bop .add (.bop .mul (.var 2) (.lit (.int c2))) (.bop .mul (.bop .mod (.bi .int (.cons (.var 3) .nil)) (.lit (.int q1))) (.lit (.int e5)))) (.lit (.int e9))) .nil)) (.lit (.int q2)))) .skip)
def pailB (c0 c1 c2 q1 e5 e9 q2 d1 d2 d3 : Int) : Sm := (.seq (.asg (.tnm 2) (.bop .add (.lit (.int c0)) (.bop .mul (.lit (.int c1)) (.var 1)))) (.seq (.for_ (.tnm 3) (.itv (.slc (.var 0) .nil (.prt (.lit (.int 12))))) (mixB c2 q1 e5 e9 q2)) (.seq (.asg (.tnm 4) (.ite (.cmp .lt (.var 1) (.bi .len (.cons (.var 0) .nil))) (.bi .int (.cons (.idx (.var 0) (.var 1)) .nil)) (.lit (.int 0)))) (.seq (.asg (.tnm 2) (.bop .mod (.bi .int (.cons (.bop .add (.bop .add (.bop .mul (.var 2) (.lit (.int d1))) (.bop .mul (.bop .mod (.bi .int (.cons (.var 4) .nil)) (.lit (.int q1))) (.lit (.int d2)))) (.lit (.int d3))) .nil)) (.lit (.int q2)))) (.seq (.ret (.lst (.cons (.ite (.or (.cmp .lt (.var 4) (.lit (.int 0))) (.cmp .ge (.var 4) (.bop .pow (.lit (.int 10)) (.lit (.int 15))))) (.bi .abs (.cons (.var 4) .nil)) (.lit (.int 0))) (.cons (.var 2) (.cons (.lit (.int 0)) .nil))) true)) .skip)))))
section
variable {G : Cfg} {b : Nat} {S : Store}
theorem pow15 : bopD S .pow (.int 10) (.int 15) = some (.int 1000000000000000) := rfl
theorem abs_i {i : Int} : biD S .abs [.int i] = some (.int (if i < 0 then -i else i)) := rfl
theorem slc_scr {ns : List D} {l h : Option Int} : slcD S (.scr ns) l h = some (.lst (cutOf ns l h)) := rfl
theorem len_scr {ns : List D} : biD S .len [.scr ns] = some (.int ns.length) := rfl
theorem idx_scr {ns : List D} {i : Nat} {x : D} (e : ns[i]? = some x) : idxD S (.scr ns) (.int (i : Int)) = some x := by
  have hi : i < ns.length := by
    rcases Nat.lt_or_ge i ns.length with q | q
    · exact q
    · rw [List.getElem?_eq_none q] at e; cases e
  exact idx_seq rfl rfl (fun _ h => nomatch h) (ix_nat hi) e
theorem pail_run {c0 c1 c2 q1 e5 e9 q2 d1 d2 d3 : Int} {ns : List Int} {t : Nat} (h1 : smallI c1 = true) (h2 : smallI c2 = true) (h3 : 0 < q1) (h4 : smallI e5 = true) (h5 : 0 < q2) (h6 : smallI d1 = true) (h7 : smallI d2 = true) :
    ∃ a m, exec G b (pailB c0 c1 c2 q1 e5 e9 q2 d1 d2 d3) [some (.scr (ns.map .int)), some (.int (t : Int)), none, none, none] S = .ok (.rt (.ref S.length)) (S ++ [pl3 a m 0]) ∧ 0 ≤ a := by
  have loop := forL_all (G := G) (b := b) (S := S) (tg := .tnm 3) (body := mixB c2 q1 e5 e9 q2) (fun ρ => ∃ mx o3, ρ = [some (.scr (ns.map .int)), some (.int (t : Int)), some (.int mx), o3, none]) (fun _ => true) .non (xs := cutOf (ns.map .int) none (some 12)) (fun x hx ρ hρ => by
    obtain ⟨mx, o3, rfl⟩ := hρ
    have hm : x ∈ ns.map D.int := by
      unfold cutOf at hx
      exact List.mem_of_mem_drop (List.mem_of_mem_take hx)
    obtain ⟨i, _, rfl⟩ := List.mem_map.mp hm
    refine ⟨_, rfl, ?_⟩
    rw [if_pos rfl]
    refine ⟨_, ⟨(mx * c2 + i % q1 * e5 + e9) % q2, some (.int i), rfl⟩, ?_⟩
    simp [mixB, mul_d h2, mod_ii h3, mul_d h4, mod_ii h5]) (ρ := [some (.scr (ns.map .int)), some (.int (t : Int)), some (.int (c0 + c1 * t)), none, none]) (ys := cutOf (ns.map .int) none (some 12)) ⟨_, _, rfl⟩
  rw [if_pos (by simp)] at loop
  obtain ⟨ρ', ⟨mx, o3, rfl⟩, loop⟩ := loop
  by_cases ht : t < ns.length
  · have hx : (ns.map D.int)[t]? = some (.int ns[t]) := by simp [ht]
    obtain ⟨own, ho⟩ : ∃ own, own = ns[t] := ⟨_, rfl⟩
    rw [← ho] at hx
    have ht' : (t : Int) < (ns.length : Int) := by omega
    refine ⟨if own < 0 ∨ 1000000000000000 ≤ own then (if own < 0 then -own else own) else 0, (mx * d1 + own % q1 * d2 + d3) % q2, ?_, by split <;> (try split) <;> omega⟩
    by_cases g1 : own < 0 <;> by_cases g2 : 1000000000000000 ≤ own <;>
      simp [pailB, mul_e h1, slc_scr, len_scr, loop, ht', idx_scr hx, mul_d h6, mul_d h7, mod_ii h3, mod_ii h5, pow15, abs_i, g1, g2]
  · have ht' : ¬ (t : Int) < (ns.length : Int) := by omega
    refine ⟨0, (mx * d1 + 0 % q1 * d2 + d3) % q2, ?_, by omega⟩
    simp [pailB, mul_e h1, slc_scr, len_scr, loop, ht', mul_d h6, mul_d h7, mod_ii h3, mod_ii h5, pow15, abs_i]
end
end CI
end
end
section
set_option Elab.async false
set_option linter.all false
set_option maxRecDepth 100000
/-! ## CI: walks that change the store -/
noncomputable section
namespace CI
open PySem
section
variable {G : Cfg} {b : Nat}
/-- a for whose turns all go on -/
theorem forL_inv {tg : Ex} {body : Sm} (I : Nat → Rho → Store → Prop) : ∀ {xs : List D} {i : Nat} {ys : List D} {ρ : Rho} {S : Store},
    (∀ j x ρ S, xs[j]? = some x → I (i + j) ρ S → ∃ ρ1 S1, asg G b tg x ρ S = .ok ρ1 S1 ∧ ∃ ρ2 S2, exec G b body ρ1 S1 = .ok (.nx ρ2) S2 ∧ I (i + j + 1) ρ2 S2) → I i ρ S →
    ∃ ρ' S', forL ⟨ys, none, none⟩ (fun d ρ => M.calm (asg G b tg d ρ)) (fun ρ => exec G b body ρ) xs ρ S = .ok (.nx ρ') S' ∧ I (i + xs.length) ρ' S'
  | [], i, ys, ρ, S, _, h => ⟨ρ, S, rfl, h⟩
  | x :: xs, i, ys, ρ, S, h, h0 => by
    obtain ⟨ρ1, S1, e1, ρ2, S2, e2, h2⟩ := h 0 x ρ S rfl h0
    obtain ⟨ρ', S', e3, h3⟩ := forL_inv I (xs := xs) (i := i + 1) (ys := ys) (ρ := ρ2) (S := S2) (fun j y ρ S hy hI => by
      have := h (j + 1) y ρ S (by simpa using hy) (by rw [show i + (j + 1) = i + 1 + j by omega]; exact hI)
      obtain ⟨r1, s1, a1, r2, s2, a2, a3⟩ := this
      exact ⟨r1, s1, a1, r2, s2, a2, by rw [show i + 1 + j + 1 = i + (j + 1) + 1 by omega]; exact a3⟩) h2
    refine ⟨ρ', S', ?_, by rw [List.length_cons, show i + (xs.length + 1) = i + 1 + xs.length by omega]; exact h3⟩
    have e : forL ⟨ys, none, none⟩ (fun d ρ => M.calm (asg G b tg d ρ)) (fun ρ => exec G b body ρ) (x :: xs) ρ S = M.bind (exec G b body ρ1) (fun fl => match fl with
      | .nx ρ2 => forL ⟨ys, none, none⟩ (fun d ρ => M.calm (asg G b tg d ρ)) (fun ρ => exec G b body ρ) xs ρ2
      | .ct ρ2 => forL ⟨ys, none, none⟩ (fun d ρ => M.calm (asg G b tg d ρ)) (fun ρ => exec G b body ρ) xs ρ2
      | .bk ρ2 => M.pure (.nx ρ2)
      | .rt d => M.pure (.rt d)) S1 := by
      show M.bind (M.calm (asg G b tg x ρ)) _ S = _
      rw [bind_of_ok (show M.calm (asg G b tg x ρ) S = .ok ρ1 S1 by unfold M.calm; rw [e1])]
      all_goals rfl
    rw [e, bind_of_ok e2]
    exact e3
/-- a comprehension whose turns change the store -/
theorem lcL_inv {F : D → M (Option D)} (I : Nat → Store → Prop) (P : D → Prop) : ∀ {xs : List D} {i : Nat} {ys : List D} {S : Store},
    (∀ j x S, xs[j]? = some x → I (i + j) S → ∃ y S1, F x S = .ok (some y) S1 ∧ P y ∧ I (i + j + 1) S1) → I i S →
    ∃ zs S', lcL ⟨ys, none, none⟩ F xs S = .ok zs S' ∧ zs.length = xs.length ∧ (∀ z ∈ zs, P z) ∧ I (i + xs.length) S'
  | [], i, ys, S, _, h => ⟨[], S, rfl, rfl, fun z hz => (List.not_mem_nil hz).elim, h⟩
  | x :: xs, i, ys, S, h, h0 => by
    obtain ⟨y, S1, e1, p1, h1⟩ := h 0 x S rfl h0
    obtain ⟨zs, S', e2, l2, p2, h2⟩ := lcL_inv I P (xs := xs) (i := i + 1) (ys := ys) (S := S1) (fun j z S hz hI => by
      obtain ⟨r, s1, a1, a2, a3⟩ := h (j + 1) z S (by simpa using hz) (by rw [show i + (j + 1) = i + 1 + j by omega]; exact hI)
      exact ⟨r, s1, a1, a2, by rw [show i + 1 + j + 1 = i + (j + 1) + 1 by omega]; exact a3⟩) h1
    refine ⟨y :: zs, S', ?_, by simp [l2], fun z hz => ?_, by rw [List.length_cons, show i + (xs.length + 1) = i + 1 + xs.length by omega]; exact h2⟩
    · show (M.bind (F x) fun o => (lcL ⟨ys, none, none⟩ F xs).bind fun r => M.pure (match o with
        | some y => y :: r
        | none => r)) S = _
      rw [bind_of_ok e1, bind_of_ok e2]
      rfl
    · rcases List.mem_cons.mp hz with q | q
      · rw [q]; exact p1
      · exact p2 z q
theorem lcF_inv {tg elt : Ex} {vs : List Nat} {k : Bool} {xs : List D} {ρ : Rho} {S : Store} (I : Nat → Store → Prop) (P : D → Prop) (hl : xs.length ≤ 16777216)
    (h : ∀ j x S, xs[j]? = some x → I j S → ∃ ρ1 y S1, asg G b tg x (wipeE ρ vs) S = .ok ρ1 S ∧ ev G b elt ρ1 S = .ok y S1 ∧ P y ∧ I (j + 1) S1) (h0 : I 0 S) :
    ∃ zs S', lcF ⟨xs, none, none⟩ (fun d ρ1 => asg G b tg d ρ1) (fun ρ1 => evA G b .nil ρ1) (fun ρ1 => ev G b elt ρ1) vs k ρ S = newD k (.lst zs) S' ∧ zs.length = xs.length ∧ (∀ z ∈ zs, P z) ∧ I xs.length S' := by
  obtain ⟨zs, S', e, l, p, hI⟩ := lcL_inv (F := fun d => M.calm ((asg G b tg d (wipeE ρ vs)).bind fun ρ1 => (evA G b .nil ρ1).bind fun t => if t = true then (ev G b elt ρ1).bind fun y => M.pure (some y) else M.pure none)) I P (xs := xs) (i := 0) (ys := xs) (S := S) (fun j x S hx hI => by
    obtain ⟨ρ1, y, S1, a1, a2, a3, a4⟩ := h j x S hx (by simpa using hI)
    refine ⟨y, S1, ?_, a3, by simpa using a4⟩
    unfold M.calm
    rw [bind_of_ok a1, bind_of_ok (show evA G b .nil ρ1 S = .ok true S from rfl)]
    simp only [if_true]
    rw [bind_of_ok a2]
    rfl) h0
  refine ⟨zs, S', ?_, l, p, by simpa using hI⟩
  unfold lcF
  rw [if_neg (not_not_intro hl), bind_of_ok e]
end
end CI
end
end
section
set_option Elab.async false
set_option linter.all false
set_option maxRecDepth 100000
set_option maxHeartbeats 4000000
/-! ## CI: what is shown; terms of classes, run -/
noncomputable section
namespace CI
open PySem
/-- plain data of a told depth and weight -/
def Shw (dp wt : Nat) (d : D) : Prop := ∃ p, d.py = some p ∧ p.showable = true ∧ p.hasDict = false ∧ p.leavesShort 13 = true ∧ p.depth ≤ dp ∧ p.weight ≤ wt
def ShwL (dp wt : Nat) (ds : List D) : Prop := ∃ ps, D.pys ds = some ps ∧ PyData.showableAll ps = true ∧ PyData.hasDictAll ps = false ∧ PyData.leavesShortAll 13 ps = true ∧ PyData.depthAll ps ≤ dp ∧ PyData.weightAll ps ≤ wt
theorem Shw.mono {dp wt dp' wt' : Nat} {d : D} (h : Shw dp wt d) (h1 : dp ≤ dp') (h2 : wt ≤ wt') : Shw dp' wt' d := by
  obtain ⟨p, a, b, c, e, f, g⟩ := h
  exact ⟨p, a, b, c, e, Nat.le_trans f h1, Nat.le_trans g h2⟩
theorem ShwL.mono {dp wt dp' wt' : Nat} {d : List D} (h : ShwL dp wt d) (h1 : dp ≤ dp') (h2 : wt ≤ wt') : ShwL dp' wt' d := by
  obtain ⟨p, a, b, c, e, f, g⟩ := h
  exact ⟨p, a, b, c, e, Nat.le_trans f h1, Nat.le_trans g h2⟩
theorem shw_non : Shw 0 0 .non := ⟨_, rfl, rfl, rfl, rfl, Nat.le_refl _, Nat.le_refl _⟩
theorem shw_bl {c : Bool} : Shw 0 0 (.bl c) := ⟨_, rfl, rfl, rfl, rfl, Nat.le_refl _, Nat.le_refl _⟩
theorem log_small {n : Nat} (h : n < 10 ^ 12) : n.log2 ≤ 40 := by
  rcases Nat.eq_zero_or_pos n with z | z
  · subst z; decide
  · have : n.log2 < 41 := (Nat.log2_lt (by omega)).mpr (by omega)
    omega
theorem shw_int {i : Int} (h : i.natAbs < 10 ^ 12) : Shw 0 41 (.int i) := by
  have hl := log_small h
  refine ⟨_, rfl, ?_, rfl, ?_, Nat.le_refl _, ?_⟩
  · show decide (i.natAbs.log2 < 1920) = true
    simp; omega
  · show decide ((PyData.shown (.int i)).length ≤ 13) = true
    exact decide_eq_true (PyData.shown_int_le h)
  · show (if i == 0 then 0 else i.natAbs.log2 + 1) ≤ 41
    split <;> omega
theorem shw_str {s : List Nat} (h : s.all (fun c => decide (c < 16 ^ 8)) = true) : Shw 0 s.length (.str s) := by
  refine ⟨_, rfl, rfl, rfl, ?_, Nat.le_refl _, ?_⟩
  · show (s.toArray.toList.all fun c => decide (c < 16 ^ 8)) = true
    simpa using h
  · show s.toArray.size ≤ s.length
    simp
theorem shwL_nil {dp : Nat} : ShwL dp 0 [] := ⟨[], rfl, rfl, rfl, rfl, Nat.zero_le _, Nat.le_refl _⟩
theorem shwL_cons {dp w1 w2 : Nat} {d : D} {ds : List D} (h : Shw dp w1 d) (k : ShwL dp w2 ds) : ShwL dp (w1 + 1 + w2) (d :: ds) := by
  obtain ⟨p, a, b, c, e, f, g⟩ := h
  obtain ⟨ps, a', b', c', e', f', g'⟩ := k
  refine ⟨p :: ps, by unfold D.pys; rw [a, a'], ?_, ?_, ?_, ?_, ?_⟩
  · show (p.showable && PyData.showableAll ps) = true; rw [b, b']; rfl
  · show (p.hasDict || PyData.hasDictAll ps) = false; rw [c, c']; rfl
  · show (p.leavesShort 13 && PyData.leavesShortAll 13 ps) = true; rw [e, e']; rfl
  · show max p.depth (PyData.depthAll ps) ≤ dp; exact Nat.max_le.mpr ⟨f, f'⟩
  · show p.weight + 1 + PyData.weightAll ps ≤ w1 + 1 + w2; omega
theorem shw_tup {dp wt : Nat} {ds : List D} (h : ShwL dp wt ds) : Shw (dp + 1) wt (.tup ds) := by
  obtain ⟨ps, a, b, c, e, f, g⟩ := h
  exact ⟨.tuple ps, by unfold D.py; rw [a], b, c, e, Nat.succ_le_succ f, g⟩
theorem shw_lst {dp wt : Nat} {ds : List D} (h : ShwL dp wt ds) : Shw (dp + 1) wt (.lst ds) := by
  obtain ⟨ps, a, b, c, e, f, g⟩ := h
  exact ⟨.list ps, by unfold D.py; rw [a], b, c, e, Nat.succ_le_succ f, g⟩
theorem shwL_all {dp w n : Nat} : ∀ {ds : List D}, (∀ d ∈ ds, Shw dp w d) → ds.length ≤ n → ShwL dp ((w + 1) * n) ds
  | [], _, _ => shwL_nil.mono (Nat.le_refl _) (Nat.zero_le _)
  | d :: ds, h, hl => by
    cases n with
    | zero => simp at hl
    | succ n =>
      have := shwL_cons (h d List.mem_cons_self) (shwL_all (n := n) (fun x hx => h x (List.mem_cons_of_mem _ hx)) (by simpa using hl))
      exact this.mono (Nat.le_refl _) (by rw [Nat.mul_succ]; omega)
def seqD : D → Bool
  | .lst _ => true
  | .tup _ => true
  | _ => false
theorem rep_shw {dp wt : Nat} {d : D} (h : Shw dp wt d) (hd : dp ≤ 60) (hw : wt ≤ 1048576) (hs : seqD d = true) : ∃ s, ∀ S : Store, biD S .repr [d] = some (.str s) := by
  obtain ⟨p, a, b, c, e, f, g⟩ := h
  have hl : p.shown.length ≤ SZ := by
    have two : (2 : Nat) ^ 20 = 1048576 := by decide
    have := PyData.shown_fits (B := 13) (by decide) (by decide) e (by omega)
    rwa [sz_line] at this
  refine ⟨p.shown.cps.toList, fun S => ?_⟩
  have hp : seqP p = true := by
    cases d <;> first | (cases hs; done) | skip
    · unfold D.py at a
      split at a <;> cases a
      rfl
    · unfold D.py at a
      split at a <;> cases a
      rfl
  have e1 : reprD S d = reprP p := by
    unfold reprD
    have : deref S d = d := by cases d <;> first | rfl | (cases hs; done)
    rw [this, a]
  show reprD S d = _
  rw [e1]
  unfold reprP
  rw [if_pos]
  simp only [hp, b, c, Bool.true_and, Bool.not_false, Bool.and_eq_true, decide_eq_true_eq]
  exact ⟨by omega, hl⟩
/-! ### terms of classes -/
section
variable {G : Cfg} {b : Nat} {ρ : Rho} {S : Store}
@[simp] theorem e_fld {x : Ex} {f : Str} : ev G b (.fld x f) ρ S = R.bnd (ev G b x ρ S) fun u S1 => oR (fldD (fldK G.cls) S1 u f) S1 := rfl
@[simp] theorem e_make {c : Str} {es : Ex} : ev G b (.make c es) ρ S = R.bnd (oR (metK G.cls c (PySem.Str.ofString "__init__")) S) fun f S1 => R.bnd (evs G b es ρ S1) fun ds S2 => mkM G.arg G.call b c f ds S2 := rfl
@[simp] theorem e_meth {x : Ex} {m : Str} {es : Ex} : ev G b (.meth x m es) ρ S = R.bnd (ev G b x ρ S) fun u S1 => R.bnd (oR (insOf S1 u) S1) fun c S2 => if (fldL c.2.1 c.2.2 m).isSome = true then .bad else R.bnd (oR (metK G.cls c.1 m) S2) fun f S3 =>
    R.bnd (evs G b es ρ S3) fun ds S4 => R.bnd (oR (G.arg f (u :: ds)) S4) fun as S5 => G.call f as b S5 := by
  show R.bnd _ (fun (u : D) S1 => R.bnd _ (fun (c : Str × List Str × List D) S2 => (if (fldL c.2.1 c.2.2 m).isSome = true then M.bad else (M.lift (metK G.cls c.1 m)).bind fun f => (evs G b es ρ).bind fun ds => (M.lift (G.arg f (u :: ds))).bind fun as => G.call f as b) S2)) = _
  simp only [ite_app]
  rfl
@[simp] theorem e_callv {i : Nat} {es : Ex} : ev G b (.callv i es) ρ S = R.bnd (oR ((ρ[i]?.getD none).bind asFn) S) fun f S1 => if G.has f = true then R.bnd (evs G b es ρ S1) fun ds S2 => R.bnd (oR (G.arg f ds) S2) fun as S3 => G.call f as b S3 else .bad := by
  show R.bnd _ (fun (f : Str) S1 => (if G.has f = true then (evs G b es ρ).bind fun ds => (M.lift (G.arg f ds)).bind fun as => G.call f as b else M.bad) S1) = _
  simp only [ite_app]
  rfl
@[simp] theorem i_enm {x : Ex} : evI G b (.enm x) ρ S = R.bnd (ev G b x ρ S) fun u S1 => R.bnd (itOf u S1) fun J S2 => if J.xs.length ≤ 16777216 then .ok ⟨enmL 0 J.xs, J.w, J.c⟩ S2 else .bad := by
  show R.bnd _ (fun (u : D) S1 => R.bnd _ (fun (J : Wk) S2 => (if J.xs.length ≤ SZ then M.pure ⟨enmL 0 J.xs, J.w, J.c⟩ else M.bad : M Wk) S2)) = _
  simp only [ite_app]
  rfl
@[simp] theorem g_tfld {x : Ex} {f : Str} {d : D} : asg G b (.tfld x f) d ρ S = R.bnd (ev G b x ρ S) fun u S1 => R.bnd (setF (fldK G.cls) b u f d S1) fun _ S2 => .ok ρ S2 := rfl
@[simp] theorem add_tt {a c : List D} : bopD S .add (.tup a) (.tup c) = if a.length + c.length ≤ 16777216 then some (.tup (a ++ c)) else none := rfl
@[simp] theorem add_ll {a c : List D} : bopD S .add (.lst a) (.lst c) = if a.length + c.length ≤ 16777216 then some (.lst (a ++ c)) else none := rfl
@[simp] theorem asFn_fn {f : Str} : asFn (.fn f) = some f := (rfl)
end
theorem cls_eq {T : LawT} {n : Nat} : (cfgAt T.prg n).cls = fun x => T.cls.lookup x := by cases n <;> rfl
theorem arg_eq {T : LawT} {n : Nat} : (cfgAt T.prg n).arg = T.arg := by cases n <;> rfl
theorem has_eq {T : LawT} {n : Nat} {f : Str} : (cfgAt T.prg n).has f = (T.rows.lookup f).isSome := by cases n <;> rfl
end CI
end
end
section
set_option Elab.async false
set_option linter.all false
set_option maxRecDepth 100000
set_option maxHeartbeats 0
namespace K36
open PySem PySem.W PySem.Spec PyProof.Rows L2 CI
abbrev R : OpenRow := OpenLaw.row PySem.Challenge.rw_signwalks_k36_whole_runs_of_codes
def st (i : Nat) : Stmt := R.prog.main.body.getD i (.Pass ⟨0, 0, 0, 0⟩)
def gls : List (PySem.Str × D) := [(PySem.Str.ofString "MOST_COUNTS", .int 4), (PySem.Str.ofString "ASK_NAMES", .kt [.str [65], .str [66], .str [67], .str [68]]), (PySem.Str.ofString "DEED_LETTERS", .kt [.str [101], .str [102], .str [103], .str [104], .str [105], .str [106], .str [107], .str [108]]), (PySem.Str.ofString "MOST_ANSWERS", .int 120000), (PySem.Str.ofString "ON_signwork", .str [111, 110]), (PySem.Str.ofString "ASK_signwork", .str [97, 115, 107]), (PySem.Str.ofString "DEED_signwork", .str [100, 101, 101, 100]), (PySem.Str.ofString "MOST_EVENTS", .int 100000), (PySem.Str.ofString "MOST_ROWS", .int 600), (PySem.Str.ofString "DEED_codework", .str [100, 101, 101, 100]), (PySem.Str.ofString "UP", .str [117, 112]), (PySem.Str.ofString "DOWN", .str [100, 111, 119, 110]), (PySem.Str.ofString "STOP", .str [115, 116, 111, 112]), (PySem.Str.ofString "OUT", .str [111, 117, 116]), (PySem.Str.ofString "JUMP", .str [106, 117, 109, 112]), (PySem.Str.ofString "ASK_codework", .str [97, 115, 107]), (PySem.Str.ofString "ZERO", .str [122, 101, 114, 111]), (PySem.Str.ofString "ALONE", .kt [.str [117, 112], .str [100, 111, 119, 110], .str [115, 116, 111, 112], .str [111, 117, 116]]), (PySem.Str.ofString "ON_codewalk", .str [111, 110]), (PySem.Str.ofString "STILL", .str [115, 116, 105, 108, 108]), (PySem.Str.ofString "WAITS", .str [119, 97, 105, 116, 115]), (PySem.Str.ofString "MORE", .str [109, 111, 114, 101])]
def mst (i j : Nat) : Stmt := match st i with
  | .ClassDef _ _ _ body _ _ _ _ _ _ _ => body.getD j (.Pass ⟨0, 0, 0, 0⟩)
  | _ => .Pass ⟨0, 0, 0, 0⟩
def clsT : List (PySem.Str × ClT) := [(PySem.Str.ofString "CodeWalk", ⟨[(PySem.Str.ofString "__init__", PySem.Str.ofString "CodeWalk.__init__"), (PySem.Str.ofString "begin", PySem.Str.ofString "CodeWalk.begin"), (PySem.Str.ofString "move", PySem.Str.ofString "CodeWalk.move")], [PySem.Str.ofString "code_rows", PySem.Str.ofString "counts"]⟩)]
def fns : List (PySem.Str × FnI) := [(PySem.Str.ofString "is_whole", ⟨[PySem.Str.ofString "value"], [], [((1, []), [0])], true⟩),
  (PySem.Str.ofString "is_number", ⟨[PySem.Str.ofString "value", PySem.Str.ofString "low", PySem.Str.ofString "most"], [.non], [((3, []), [0, 1, 2])], true⟩),
  (PySem.Str.ofString "is_counts", ⟨[PySem.Str.ofString "value"], [], [((1, []), [0])], true⟩),
  (PySem.Str.ofString "is_tuple_of", ⟨[PySem.Str.ofString "value", PySem.Str.ofString "many"], [], [((2, []), [0, 1])], true⟩),
  (PySem.Str.ofString "is_short_tuple", ⟨[PySem.Str.ofString "value", PySem.Str.ofString "low", PySem.Str.ofString "most"], [], [((3, []), [0, 1, 2])], true⟩),
  (PySem.Str.ofString "is_one_of", ⟨[PySem.Str.ofString "value", PySem.Str.ofString "some"], [], [((2, []), [0, 1])], true⟩),
  (PySem.Str.ofString "first_wrong", ⟨[PySem.Str.ofString "values", PySem.Str.ofString "is_right"], [], [((2, []), [0, 1])], true⟩),
  (PySem.Str.ofString "is_answer", ⟨[PySem.Str.ofString "value"], [], [((1, []), [0])], true⟩),
  (PySem.Str.ofString "wrong_answers", ⟨[PySem.Str.ofString "value"], [], [((1, []), [0])], true⟩),
  (PySem.Str.ofString "check_answers", ⟨[PySem.Str.ofString "value"], [], [((1, []), [0])], true⟩),
  (PySem.Str.ofString "check_most", ⟨[PySem.Str.ofString "value"], [], [((1, []), [0])], true⟩),
  (PySem.Str.ofString "is_code_row", ⟨[PySem.Str.ofString "value", PySem.Str.ofString "many"], [], [((2, []), [0, 1])], true⟩),
  (PySem.Str.ofString "is_code_form", ⟨[PySem.Str.ofString "value"], [], [((1, []), [0])], true⟩),
  (PySem.Str.ofString "check_code", ⟨[PySem.Str.ofString "value"], [], [((1, []), [0])], true⟩),
  (PySem.Str.ofString "CodeWalk.__init__", ⟨[PySem.Str.ofString "self", PySem.Str.ofString "code"], [], [((2, []), [0, 1])], false⟩),
  (PySem.Str.ofString "CodeWalk.begin", ⟨[PySem.Str.ofString "self"], [], [((1, []), [0])], false⟩),
  (PySem.Str.ofString "CodeWalk.move", ⟨[PySem.Str.ofString "self", PySem.Str.ofString "stand"], [], [((2, []), [0, 1])], false⟩),
  (PySem.Str.ofString "outcome_by", ⟨[PySem.Str.ofString "walker", PySem.Str.ofString "stand", PySem.Str.ofString "answers", PySem.Str.ofString "most"], [], [((4, []), [0, 1, 2, 3])], true⟩),
  (PySem.Str.ofString "run_code", ⟨[PySem.Str.ofString "code", PySem.Str.ofString "answers", PySem.Str.ofString "most"], [], [((3, []), [0, 1, 2]), ((0, [PySem.Str.ofString "most", PySem.Str.ofString "answers", PySem.Str.ofString "code"]), [2, 1, 0])], true⟩),
  (PySem.Str.ofString "_law_pail", ⟨[PySem.Str.ofString "script", PySem.Str.ofString "turn"], [], [((2, []), [0, 1])], true⟩),
  (PySem.Str.ofString "_law_deal", ⟨[PySem.Str.ofString "pail", PySem.Str.ofString "top"], [], [((2, []), [0, 1])], true⟩),
  (PySem.Str.ofString "_law_any", ⟨[PySem.Str.ofString "pail", PySem.Str.ofString "some"], [], [((2, []), [0, 1])], true⟩),
  (PySem.Str.ofString "_law_answers", ⟨[PySem.Str.ofString "pail"], [], [((1, []), [0])], true⟩),
  (PySem.Str.ofString "_law_code_flow", ⟨[PySem.Str.ofString "code", PySem.Str.ofString "here"], [], [((2, []), [0, 1])], true⟩),
  (PySem.Str.ofString "_law_known", ⟨[], [], [((0, []), [])], true⟩),
  (PySem.Str.ofString "_law_code_drawn", ⟨[PySem.Str.ofString "pail", PySem.Str.ofString "most"], [], [((2, []), [0, 1])], true⟩),
  (PySem.Str.ofString "_law_run_code", ⟨[PySem.Str.ofString "code", PySem.Str.ofString "answers", PySem.Str.ofString "most"], [], [((3, []), [0, 1, 2])], true⟩),
  (PySem.Str.ofString "_law_right", ⟨[PySem.Str.ofString "pail"], [], [((1, []), [0])], true⟩),
  (PySem.Str.ofString "law", ⟨[PySem.Str.ofString "script"], [], [((1, []), [0])], true⟩)]
def c_is_whole : CC := ⟨[PySem.Str.ofString "value"], defScope (st 10), fns, gls.map (·.1), [], clsT⟩
def c_is_number : CC := ⟨[PySem.Str.ofString "value", PySem.Str.ofString "low", PySem.Str.ofString "most"], defScope (st 11), fns, gls.map (·.1), [], clsT⟩
def c_is_counts : CC := ⟨[PySem.Str.ofString "value"], defScope (st 12), fns, gls.map (·.1), [], clsT⟩
def c_is_tuple_of : CC := ⟨[PySem.Str.ofString "value", PySem.Str.ofString "many"], defScope (st 13), fns, gls.map (·.1), [], clsT⟩
def c_is_short_tuple : CC := ⟨[PySem.Str.ofString "value", PySem.Str.ofString "low", PySem.Str.ofString "most"], defScope (st 14), fns, gls.map (·.1), [], clsT⟩
def c_is_one_of : CC := ⟨[PySem.Str.ofString "value", PySem.Str.ofString "some"], defScope (st 15), fns, gls.map (·.1), [], clsT⟩
def c_first_wrong : CC := ⟨[PySem.Str.ofString "values", PySem.Str.ofString "is_right", PySem.Str.ofString "index", PySem.Str.ofString "value"], defScope (st 16), fns, gls.map (·.1), [], clsT⟩
def c_is_answer : CC := ⟨[PySem.Str.ofString "value"], defScope (st 17), fns, gls.map (·.1), [], clsT⟩
def c_wrong_answers : CC := ⟨[PySem.Str.ofString "value", PySem.Str.ofString "index"], defScope (st 18), fns, gls.map (·.1), [], clsT⟩
def c_check_answers : CC := ⟨[PySem.Str.ofString "value", PySem.Str.ofString "index"], defScope (st 24), fns, gls.map (·.1), [], clsT⟩
def c_check_most : CC := ⟨[PySem.Str.ofString "value"], defScope (st 25), fns, gls.map (·.1), [], clsT⟩
def c_is_code_row : CC := ⟨[PySem.Str.ofString "value", PySem.Str.ofString "many", PySem.Str.ofString "word"], defScope (st 37), fns, gls.map (·.1), [], clsT⟩
def c_is_code_form : CC := ⟨[PySem.Str.ofString "value", PySem.Str.ofString "row"], defScope (st 38), fns, gls.map (·.1), [], clsT⟩
def c_check_code : CC := ⟨[PySem.Str.ofString "value"], defScope (st 40), fns, gls.map (·.1), [], clsT⟩
def c_CodeWalk___init__ : CC := ⟨[PySem.Str.ofString "self", PySem.Str.ofString "code"], defScope (mst 43 0), fns, gls.map (·.1), [], clsT⟩
def c_CodeWalk_begin : CC := ⟨[PySem.Str.ofString "self"], defScope (mst 43 1), fns, gls.map (·.1), [], clsT⟩
def c_CodeWalk_move : CC := ⟨[PySem.Str.ofString "self", PySem.Str.ofString "stand", PySem.Str.ofString "word", PySem.Str.ofString "place", PySem.Str.ofString "count", PySem.Str.ofString "row", PySem.Str.ofString "behind"], defScope (mst 43 2), fns, gls.map (·.1), [], clsT⟩
def c_outcome_by : CC := ⟨[PySem.Str.ofString "walker", PySem.Str.ofString "stand", PySem.Str.ofString "answers", PySem.Str.ofString "most", PySem.Str.ofString "events", PySem.Str.ofString "asked", PySem.Str.ofString "seen", PySem.Str.ofString "move"], defScope (st 48), fns, gls.map (·.1), [(120, 27), (120, 34), (140, 15)], clsT⟩
def c_run_code : CC := ⟨[PySem.Str.ofString "code", PySem.Str.ofString "answers", PySem.Str.ofString "most", PySem.Str.ofString "walker"], defScope (st 50), fns, gls.map (·.1), [], clsT⟩
def c__law_pail : CC := ⟨[PySem.Str.ofString "script", PySem.Str.ofString "turn", PySem.Str.ofString "mixed", PySem.Str.ofString "cell", PySem.Str.ofString "own"], defScope (st 52), fns, gls.map (·.1), [(156, 11)], clsT⟩
def c__law_deal : CC := ⟨[PySem.Str.ofString "pail", PySem.Str.ofString "top", PySem.Str.ofString "mixed", PySem.Str.ofString "figure"], defScope (st 53), fns, gls.map (·.1), [], clsT⟩
def c__law_any : CC := ⟨[PySem.Str.ofString "pail", PySem.Str.ofString "some"], defScope (st 54), fns, gls.map (·.1), [], clsT⟩
def c__law_answers : CC := ⟨[PySem.Str.ofString "pail", PySem.Str.ofString "turn"], defScope (st 55), fns, gls.map (·.1), [], clsT⟩
def c__law_code_flow : CC := ⟨[PySem.Str.ofString "code", PySem.Str.ofString "here", PySem.Str.ofString "turn", PySem.Str.ofString "seen", PySem.Str.ofString "rows", PySem.Str.ofString "row", PySem.Str.ofString "at", PySem.Str.ofString "count"], defScope (st 56), fns, gls.map (·.1), [(170, 18)], clsT⟩
def c__law_known : CC := ⟨[PySem.Str.ofString "tree", PySem.Str.ofString "code"], defScope (st 57), fns, gls.map (·.1), [], clsT⟩
def c__law_code_drawn : CC := ⟨[PySem.Str.ofString "pail", PySem.Str.ofString "most", PySem.Str.ofString "turn", PySem.Str.ofString "many", PySem.Str.ofString "rows", PySem.Str.ofString "some", PySem.Str.ofString "goal", PySem.Str.ofString "way"], defScope (st 58), fns, gls.map (·.1), [(193, 45)], clsT⟩
def c__law_run_code : CC := ⟨[PySem.Str.ofString "code", PySem.Str.ofString "answers", PySem.Str.ofString "most", PySem.Str.ofString "turn", PySem.Str.ofString "here", PySem.Str.ofString "events", PySem.Str.ofString "used", PySem.Str.ofString "flow"], defScope (st 59), fns, gls.map (·.1), [], clsT⟩
def c__law_right : CC := ⟨[PySem.Str.ofString "pail", PySem.Str.ofString "lap", PySem.Str.ofString "code", PySem.Str.ofString "told", PySem.Str.ofString "due", PySem.Str.ofString "rows", PySem.Str.ofString "answers", PySem.Str.ofString "most"], defScope (st 60), fns, gls.map (·.1), [], clsT⟩
def c_law : CC := ⟨[PySem.Str.ofString "script", PySem.Str.ofString "turn"], defScope (st 61), fns, gls.map (·.1), [], clsT⟩
def b_is_whole : Sm := (.seq (.ret (.and (.isa (.var 0) .int) (.not (.isa (.var 0) .bool)))) .skip)
def r_is_whole : RowT := ⟨c_is_whole.N, 1, c_is_whole.mu, b_is_whole, true, [], [((1, []), [0])], defArgs (st 10), defBody (st 10), defScope (st 10), none⟩
def b_is_number : Sm := (.seq (.ret (.and (.call (PySem.Str.ofString "is_whole") 1 0 [0] [] (.cons (.var 0) .nil) .nil) (.and (.cmp .le (.var 1) (.var 0)) (.or (.cmp .is (.var 2) (.lit .non)) (.cmp .le (.var 0) (.var 2)))))) .skip)
def r_is_number : RowT := ⟨c_is_number.N, 3, c_is_number.mu, b_is_number, true, [.non], [((3, []), [0, 1, 2])], defArgs (st 11), defBody (st 11), defScope (st 11), none⟩
def b_is_counts : Sm := (.seq (.ret (.call (PySem.Str.ofString "is_number") 3 0 [0, 1, 2] [.non] (.cons (.var 0) (.cons (.lit (.int 1)) (.cons (.glb (PySem.Str.ofString "MOST_COUNTS")) .nil))) .nil)) .skip)
def r_is_counts : RowT := ⟨c_is_counts.N, 1, c_is_counts.mu, b_is_counts, true, [], [((1, []), [0])], defArgs (st 12), defBody (st 12), defScope (st 12), none⟩
def b_is_tuple_of : Sm := (.seq (.ret (.and (.isa (.var 0) .tuple) (.cmp .eq (.bi .len (.cons (.var 0) .nil)) (.var 1)))) .skip)
def r_is_tuple_of : RowT := ⟨c_is_tuple_of.N, 2, c_is_tuple_of.mu, b_is_tuple_of, true, [], [((2, []), [0, 1])], defArgs (st 13), defBody (st 13), defScope (st 13), none⟩
def b_is_short_tuple : Sm := (.seq (.ret (.and (.isa (.var 0) .tuple) (.chain .le .le (.var 1) (.bi .len (.cons (.var 0) .nil)) (.var 2)))) .skip)
def r_is_short_tuple : RowT := ⟨c_is_short_tuple.N, 3, c_is_short_tuple.mu, b_is_short_tuple, true, [], [((3, []), [0, 1, 2])], defArgs (st 14), defBody (st 14), defScope (st 14), none⟩
def b_is_one_of : Sm := (.seq (.ret (.and (.isa (.var 0) .str) (.cmp .isin (.var 0) (.var 1)))) .skip)
def r_is_one_of : RowT := ⟨c_is_one_of.N, 2, c_is_one_of.mu, b_is_one_of, true, [], [((2, []), [0, 1])], defArgs (st 15), defBody (st 15), defScope (st 15), none⟩
def b_first_wrong : Sm := (.seq (.for_ (.tup (.cons (.tnm 2) (.cons (.tnm 3) .nil))) (.enm (.var 0)) (.seq (.iff (.not (.tst (.callv 1 (.cons (.var 3) .nil)))) (.seq (.ret (.lst (.cons (.var 2) .nil) false)) .skip) .skip) .skip)) (.seq (.ret (.lst .nil false)) .skip))
def r_first_wrong : RowT := ⟨c_first_wrong.N, 2, c_first_wrong.mu, b_first_wrong, true, [], [((2, []), [0, 1])], defArgs (st 16), defBody (st 16), defScope (st 16), none⟩
def b_is_answer : Sm := (.seq (.ret (.call (PySem.Str.ofString "is_number") 3 0 [0, 1, 2] [.non] (.cons (.var 0) (.cons (.lit (.int 0)) (.cons (.lit (.int 1)) .nil))) .nil)) .skip)
def r_is_answer : RowT := ⟨c_is_answer.N, 1, c_is_answer.mu, b_is_answer, true, [], [((1, []), [0])], defArgs (st 17), defBody (st 17), defScope (st 17), none⟩
def b_wrong_answers : Sm := (.seq (.iff (.not (.tst (.isa (.var 0) .tuple))) (.seq (.ret (.lst (.cons (.lit .non) .nil) false)) .skip) .skip) (.seq (.for_ (.tnm 1) (.itv (.call (PySem.Str.ofString "first_wrong") 2 0 [0, 1] [] (.cons (.slc (.var 0) .nil (.prt (.glb (PySem.Str.ofString "MOST_ANSWERS")))) (.cons (.lit (.fn (PySem.Str.ofString "is_answer"))) .nil)) .nil)) (.seq (.ret (.lst (.cons (.var 1) .nil) false)) .skip)) (.seq (.ret (.ite (.cmp .gt (.bi .len (.cons (.var 0) .nil)) (.glb (PySem.Str.ofString "MOST_ANSWERS"))) (.lst (.cons (.glb (PySem.Str.ofString "MOST_ANSWERS")) .nil) false) (.lst .nil false))) .skip)))
def r_wrong_answers : RowT := ⟨c_wrong_answers.N, 1, c_wrong_answers.mu, b_wrong_answers, true, [], [((1, []), [0])], defArgs (st 18), defBody (st 18), defScope (st 18), none⟩
def b_check_answers : Sm := (.seq (.for_ (.tnm 1) (.itv (.call (PySem.Str.ofString "wrong_answers") 1 0 [0] [] (.cons (.var 0) .nil) .nil)) (.seq .never .skip)) .skip)
def r_check_answers : RowT := ⟨c_check_answers.N, 1, c_check_answers.mu, b_check_answers, true, [], [((1, []), [0])], defArgs (st 24), defBody (st 24), defScope (st 24), none⟩
def b_check_most : Sm := (.seq (.iff (.not (.tst (.call (PySem.Str.ofString "is_number") 3 0 [0, 1, 2] [.non] (.cons (.var 0) (.cons (.lit (.int 0)) (.cons (.glb (PySem.Str.ofString "MOST_EVENTS")) .nil))) .nil))) (.seq .never .skip) .skip) .skip)
def r_check_most : RowT := ⟨c_check_most.N, 1, c_check_most.mu, b_check_most, true, [], [((1, []), [0])], defArgs (st 25), defBody (st 25), defScope (st 25), none⟩
def b_is_code_row : Sm := (.seq (.iff (.or (.not (.tst (.call (PySem.Str.ofString "is_short_tuple") 3 0 [0, 1, 2] [] (.cons (.var 0) (.cons (.lit (.int 1)) (.cons (.lit (.int 3)) .nil))) .nil))) (.not (.tst (.isa (.idx (.var 0) (.lit (.int 0))) .str)))) (.seq (.ret (.lit (.bl false))) .skip) .skip) (.seq (.asg (.tnm 2) (.idx (.var 0) (.lit (.int 0)))) (.seq (.iff (.cmp .isin (.var 2) (.glb (PySem.Str.ofString "ALONE"))) (.seq (.ret (.cmp .eq (.bi .len (.cons (.var 0) .nil)) (.lit (.int 1)))) .skip) .skip) (.seq (.iff (.cmp .eq (.var 2) (.glb (PySem.Str.ofString "DEED_codework"))) (.seq (.ret (.and (.cmp .eq (.bi .len (.cons (.var 0) .nil)) (.lit (.int 2))) (.call (PySem.Str.ofString "is_one_of") 2 0 [0, 1] [] (.cons (.idx (.var 0) (.lit (.int 1))) (.cons (.glb (PySem.Str.ofString "DEED_LETTERS")) .nil)) .nil))) .skip) .skip) (.seq (.iff (.cmp .isin (.var 2) (.tup (.cons (.glb (PySem.Str.ofString "JUMP")) (.cons (.glb (PySem.Str.ofString "ZERO")) .nil)))) (.seq (.ret (.and (.cmp .eq (.bi .len (.cons (.var 0) .nil)) (.lit (.int 2))) (.call (PySem.Str.ofString "is_number") 3 0 [0, 1, 2] [.non] (.cons (.idx (.var 0) (.lit (.int 1))) (.cons (.lit (.int 0)) (.cons (.var 1) .nil))) .nil))) .skip) .skip) (.seq (.ret (.and (.cmp .eq (.var 2) (.glb (PySem.Str.ofString "ASK_codework"))) (.and (.cmp .eq (.bi .len (.cons (.var 0) .nil)) (.lit (.int 3))) (.and (.call (PySem.Str.ofString "is_one_of") 2 0 [0, 1] [] (.cons (.idx (.var 0) (.lit (.int 1))) (.cons (.glb (PySem.Str.ofString "ASK_NAMES")) .nil)) .nil) (.call (PySem.Str.ofString "is_number") 3 0 [0, 1, 2] [.non] (.cons (.idx (.var 0) (.lit (.int 2))) (.cons (.lit (.int 0)) (.cons (.var 1) .nil))) .nil))))) .skip))))))
def r_is_code_row : RowT := ⟨c_is_code_row.N, 2, c_is_code_row.mu, b_is_code_row, true, [], [((2, []), [0, 1])], defArgs (st 37), defBody (st 37), defScope (st 37), none⟩
def b_is_code_form : Sm := (.seq (.iff (.or (.not (.tst (.call (PySem.Str.ofString "is_tuple_of") 2 0 [0, 1] [] (.cons (.var 0) (.cons (.lit (.int 2)) .nil)) .nil))) (.or (.not (.tst (.call (PySem.Str.ofString "is_counts") 1 0 [0] [] (.cons (.idx (.var 0) (.lit (.int 0))) .nil) .nil))) (.not (.tst (.call (PySem.Str.ofString "is_short_tuple") 3 0 [0, 1, 2] [] (.cons (.idx (.var 0) (.lit (.int 1))) (.cons (.lit (.int 0)) (.cons (.glb (PySem.Str.ofString "MOST_ROWS")) .nil))) .nil))))) (.seq (.ret (.lit (.bl false))) .skip) .skip) (.seq (.ret (.bi .all (.cons (.lc [1] (.tnm 1) (.itv (.idx (.var 0) (.lit (.int 1)))) .nil (.call (PySem.Str.ofString "is_code_row") 2 0 [0, 1] [] (.cons (.var 1) (.cons (.bi .len (.cons (.idx (.var 0) (.lit (.int 1))) .nil)) .nil)) .nil) false) .nil))) .skip))
def r_is_code_form : RowT := ⟨c_is_code_form.N, 1, c_is_code_form.mu, b_is_code_form, true, [], [((1, []), [0])], defArgs (st 38), defBody (st 38), defScope (st 38), none⟩
def b_check_code : Sm := (.seq (.iff (.not (.tst (.call (PySem.Str.ofString "is_code_form") 1 0 [0] [] (.cons (.var 0) .nil) .nil))) (.seq .never .skip) .skip) .skip)
def r_check_code : RowT := ⟨c_check_code.N, 1, c_check_code.mu, b_check_code, true, [], [((1, []), [0])], defArgs (st 40), defBody (st 40), defScope (st 40), none⟩
def b_CodeWalk___init__ : Sm := (.seq (.asg (.tup (.cons (.tfld (.var 0) (PySem.Str.ofString "counts")) (.cons (.tfld (.var 0) (PySem.Str.ofString "code_rows")) .nil))) (.var 1)) .skip)
def r_CodeWalk___init__ : RowT := ⟨c_CodeWalk___init__.N, 2, c_CodeWalk___init__.mu, b_CodeWalk___init__, true, [], [((2, []), [0, 1])], defArgs (mst 43 0), defBody (mst 43 0), defScope (mst 43 0), some (PySem.Str.ofString "CodeWalk", PySem.Str.ofString "__init__")⟩
def b_CodeWalk_begin : Sm := (.seq (.ret (.tup (.cons (.lit (.int 0)) (.cons (.lit (.int 0)) .nil)))) .skip)
def r_CodeWalk_begin : RowT := ⟨c_CodeWalk_begin.N, 1, c_CodeWalk_begin.mu, b_CodeWalk_begin, true, [], [((1, []), [0])], defArgs (mst 43 1), defBody (mst 43 1), defScope (mst 43 1), some (PySem.Str.ofString "CodeWalk", PySem.Str.ofString "begin")⟩
def b_CodeWalk_move : Sm := (.seq (.asg (.tup (.cons (.tnm 3) (.cons (.tnm 4) .nil))) (.var 1)) (.seq (.iff (.cmp .eq (.var 3) (.bi .len (.cons (.fld (.var 0) (PySem.Str.ofString "code_rows")) .nil))) (.seq (.ret (.tup (.cons (.glb (PySem.Str.ofString "OUT")) (.cons (.var 4) .nil)))) .skip) .skip) (.seq (.par (.cons (.tnm 5) (.cons (.tnm 6) .nil)) (.cons (.idx (.fld (.var 0) (PySem.Str.ofString "code_rows")) (.var 3)) (.cons (.tup (.cons (.bop .add (.var 3) (.lit (.int 1))) (.cons (.var 4) .nil))) .nil))) (.seq (.asg (.tnm 2) (.idx (.var 5) (.lit (.int 0)))) (.seq (.iff (.cmp .eq (.var 2) (.glb (PySem.Str.ofString "DEED_codework"))) (.seq (.ret (.tup (.cons (.glb (PySem.Str.ofString "DEED_codework")) (.cons (.idx (.var 5) (.lit (.int 1))) (.cons (.var 6) .nil))))) .skip) .skip) (.seq (.iff (.cmp .eq (.var 2) (.glb (PySem.Str.ofString "ASK_codework"))) (.seq (.ret (.tup (.cons (.glb (PySem.Str.ofString "ASK_codework")) (.cons (.idx (.var 5) (.lit (.int 1))) (.cons (.var 6) (.cons (.tup (.cons (.idx (.var 5) (.lit (.int 2))) (.cons (.var 4) .nil))) .nil)))))) .skip) .skip) (.seq (.iff (.cmp .isin (.var 2) (.tup (.cons (.glb (PySem.Str.ofString "UP")) (.cons (.glb (PySem.Str.ofString "DOWN")) .nil)))) (.seq (.ret (.tup (.cons (.glb (PySem.Str.ofString "ON_codewalk")) (.cons (.tup (.cons (.bop .add (.var 3) (.lit (.int 1))) (.cons (.bop .mod (.bop .add (.var 4) (.ite (.cmp .eq (.var 2) (.glb (PySem.Str.ofString "UP"))) (.lit (.int 1)) (.neg (.lit (.int 1))))) (.fld (.var 0) (PySem.Str.ofString "counts"))) .nil))) .nil)))) .skip) .skip) (.seq (.iff (.cmp .isin (.var 2) (.tup (.cons (.glb (PySem.Str.ofString "JUMP")) (.cons (.glb (PySem.Str.ofString "ZERO")) .nil)))) (.seq (.ret (.tup (.cons (.glb (PySem.Str.ofString "ON_codewalk")) (.cons (.ite (.or (.cmp .eq (.var 2) (.glb (PySem.Str.ofString "JUMP"))) (.cmp .eq (.var 4) (.lit (.int 0)))) (.tup (.cons (.idx (.var 5) (.lit (.int 1))) (.cons (.var 4) .nil))) (.var 6)) .nil)))) .skip) .skip) (.seq (.ret (.ite (.cmp .eq (.var 2) (.glb (PySem.Str.ofString "STOP"))) (.tup (.cons (.glb (PySem.Str.ofString "STOP")) .nil)) (.tup (.cons (.glb (PySem.Str.ofString "OUT")) (.cons (.var 4) .nil))))) .skip)))))))))
def r_CodeWalk_move : RowT := ⟨c_CodeWalk_move.N, 2, c_CodeWalk_move.mu, b_CodeWalk_move, true, [], [((2, []), [0, 1])], defArgs (mst 43 2), defBody (mst 43 2), defScope (mst 43 2), some (PySem.Str.ofString "CodeWalk", PySem.Str.ofString "move")⟩
def b_outcome_by : Sm := (.seq (.par (.cons (.tnm 4) (.cons (.tnm 5) (.cons (.tnm 6) .nil))) (.cons (.lst .nil true) (.cons (.lit (.int 0)) (.cons (.dct .nil true) .nil)))) (.seq (.whl (.cmp .notin (.var 1) (.var 6)) (.seq (.asg (.tsub (.var 6) (.var 1)) (.lit (.bl true))) (.seq (.asg (.tnm 7) (.meth (.var 0) (PySem.Str.ofString "move") (.cons (.var 1) .nil))) (.seq (.iff (.cmp .eq (.idx (.var 7) (.lit (.int 0))) (.glb (PySem.Str.ofString "ON_signwork"))) (.seq (.asg (.tnm 1) (.idx (.var 7) (.lit (.int 1)))) (.seq .cont .skip)) .skip) (.seq (.iff (.cmp .notin (.idx (.var 7) (.lit (.int 0))) (.tup (.cons (.glb (PySem.Str.ofString "ASK_signwork")) (.cons (.glb (PySem.Str.ofString "DEED_signwork")) .nil)))) (.seq (.ret (.tup (.cons (.bi .tuple (.cons (.var 4) .nil)) (.cons (.var 7) .nil)))) .skip) .skip) (.seq (.iff (.and (.cmp .eq (.idx (.var 7) (.lit (.int 0))) (.glb (PySem.Str.ofString "ASK_signwork"))) (.cmp .eq (.var 5) (.bi .len (.cons (.var 2) .nil)))) (.seq (.ret (.tup (.cons (.bi .tuple (.cons (.var 4) .nil)) (.cons (.tup (.cons (.glb (PySem.Str.ofString "WAITS")) (.cons (.idx (.var 7) (.lit (.int 1))) .nil))) .nil)))) .skip) .skip) (.seq (.iff (.cmp .eq (.bi .len (.cons (.var 4) .nil)) (.var 3)) (.seq (.ret (.tup (.cons (.bi .tuple (.cons (.var 4) .nil)) (.cons (.tup (.cons (.glb (PySem.Str.ofString "MORE")) .nil)) .nil)))) .skip) .skip) (.seq (.iff (.cmp .eq (.idx (.var 7) (.lit (.int 0))) (.glb (PySem.Str.ofString "ASK_signwork"))) (.seq (.expr (.bm .append (.var 4) (.cons (.tup (.cons (.glb (PySem.Str.ofString "ASK_signwork")) (.cons (.idx (.var 7) (.lit (.int 1))) (.cons (.idx (.var 2) (.var 5)) .nil)))) .nil))) (.seq (.asg (.tnm 1) (.idx (.var 7) (.bop .add (.lit (.int 2)) (.idx (.var 2) (.var 5))))) (.seq (.asg (.tnm 5) (.bop .add (.var 5) (.lit (.int 1)))) .skip))) (.seq (.expr (.bm .append (.var 4) (.cons (.tup (.cons (.glb (PySem.Str.ofString "DEED_signwork")) (.cons (.idx (.var 7) (.lit (.int 1))) .nil))) .nil))) (.seq (.asg (.tnm 1) (.idx (.var 7) (.lit (.int 2)))) .skip))) (.seq (.asg (.tnm 6) (.dct .nil true)) .skip))))))))) (.seq (.ret (.tup (.cons (.bi .tuple (.cons (.var 4) .nil)) (.cons (.tup (.cons (.glb (PySem.Str.ofString "STILL")) .nil)) .nil)))) .skip)))
def r_outcome_by : RowT := ⟨c_outcome_by.N, 4, c_outcome_by.mu, b_outcome_by, true, [], [((4, []), [0, 1, 2, 3])], defArgs (st 48), defBody (st 48), defScope (st 48), none⟩
def b_run_code : Sm := (.seq (.expr (.call (PySem.Str.ofString "check_code") 1 0 [0] [] (.cons (.var 0) .nil) .nil)) (.seq (.expr (.call (PySem.Str.ofString "check_answers") 1 0 [0] [] (.cons (.var 1) .nil) .nil)) (.seq (.expr (.call (PySem.Str.ofString "check_most") 1 0 [0] [] (.cons (.var 2) .nil) .nil)) (.seq (.asg (.tnm 3) (.make (PySem.Str.ofString "CodeWalk") (.cons (.var 0) .nil))) (.seq (.ret (.call (PySem.Str.ofString "outcome_by") 4 0 [0, 1, 2, 3] [] (.cons (.var 3) (.cons (.meth (.var 3) (PySem.Str.ofString "begin") .nil) (.cons (.var 1) (.cons (.var 2) .nil)))) .nil)) .skip)))))
def r_run_code : RowT := ⟨c_run_code.N, 3, c_run_code.mu, b_run_code, true, [], [((3, []), [0, 1, 2]), ((0, [PySem.Str.ofString "most", PySem.Str.ofString "answers", PySem.Str.ofString "code"]), [2, 1, 0])], defArgs (st 50), defBody (st 50), defScope (st 50), none⟩
def b__law_pail : Sm := (.seq (.asg (.tnm 2) (.bop .add (.lit (.int 2262217)) (.bop .mul (.lit (.int 12511)) (.var 1)))) (.seq (.for_ (.tnm 3) (.itv (.slc (.var 0) .nil (.prt (.lit (.int 12))))) (.seq (.asg (.tnm 2) (.bop .mod (.bi .int (.cons (.bop .add (.bop .add (.bop .mul (.var 2) (.lit (.int 65071))) (.bop .mul (.bop .mod (.bi .int (.cons (.var 3) .nil)) (.lit (.int 2147483423))) (.lit (.int 17)))) (.lit (.int 5))) .nil)) (.lit (.int 2147483423)))) .skip)) (.seq (.asg (.tnm 4) (.ite (.cmp .lt (.var 1) (.bi .len (.cons (.var 0) .nil))) (.bi .int (.cons (.idx (.var 0) (.var 1)) .nil)) (.lit (.int 0)))) (.seq (.asg (.tnm 2) (.bop .mod (.bi .int (.cons (.bop .add (.bop .add (.bop .mul (.var 2) (.lit (.int 61))) (.bop .mul (.bop .mod (.bi .int (.cons (.var 4) .nil)) (.lit (.int 2147483423))) (.lit (.int 30011)))) (.lit (.int 7))) .nil)) (.lit (.int 2147483423)))) (.seq (.ret (.lst (.cons (.ite (.or (.cmp .lt (.var 4) (.lit (.int 0))) (.cmp .ge (.var 4) (.bop .pow (.lit (.int 10)) (.lit (.int 15))))) (.bi .abs (.cons (.var 4) .nil)) (.lit (.int 0))) (.cons (.var 2) (.cons (.lit (.int 0)) .nil))) true)) .skip)))))
def r__law_pail : RowT := ⟨c__law_pail.N, 2, c__law_pail.mu, b__law_pail, false, [], [((2, []), [0, 1])], defArgs (st 52), defBody (st 52), defScope (st 52), none⟩
def b__law_deal : Sm := (.seq (.iff (.cmp .gt (.idx (.var 0) (.lit (.int 0))) (.lit (.int 0))) (.seq (.asg (.tup (.cons (.tsub (.var 0) (.lit (.int 0))) (.cons (.tnm 3) .nil))) (.bi .divmod (.cons (.idx (.var 0) (.lit (.int 0))) (.cons (.var 1) .nil)))) (.seq (.ret (.var 3)) .skip)) .skip) (.seq (.asg (.tsub (.var 0) (.lit (.int 2))) (.bop .add (.idx (.var 0) (.lit (.int 2))) (.lit (.int 1)))) (.seq (.asg (.tnm 2) (.bop .mod (.bi .int (.cons (.bop .add (.bop .mul (.idx (.var 0) (.lit (.int 1))) (.lit (.int 15511))) (.bop .mul (.lit (.int 11903)) (.idx (.var 0) (.lit (.int 2))))) .nil)) (.lit (.int 2147483423)))) (.seq (.asg (.tsub (.var 0) (.lit (.int 1))) (.bop .mod (.bi .int (.cons (.bop .add (.bop .mul (.var 2) (.bop .add (.bop .mod (.bi .int (.cons (.var 2) .nil)) (.lit (.int 5147))) (.lit (.int 30011)))) (.bop .mul (.lit (.int 31)) (.idx (.var 0) (.lit (.int 2))))) .nil)) (.lit (.int 2147483423)))) (.seq (.ret (.bop .mod (.bi .int (.cons (.bop .fdiv (.idx (.var 0) (.lit (.int 1))) (.lit (.int 349))) .nil)) (.var 1))) .skip)))))
def r__law_deal : RowT := ⟨c__law_deal.N, 2, c__law_deal.mu, b__law_deal, true, [], [((2, []), [0, 1])], defArgs (st 53), defBody (st 53), defScope (st 53), none⟩
def b__law_any : Sm := (.seq (.ret (.idx (.var 1) (.call (PySem.Str.ofString "_law_deal") 2 0 [0, 1] [] (.cons (.var 0) (.cons (.bi .len (.cons (.var 1) .nil)) .nil)) .nil))) .skip)
def r__law_any : RowT := ⟨c__law_any.N, 2, c__law_any.mu, b__law_any, true, [], [((2, []), [0, 1])], defArgs (st 54), defBody (st 54), defScope (st 54), none⟩
def b__law_answers : Sm := (.seq (.ret (.bi .tuple (.cons (.lc [1] (.tnm 1) (.rng1 (.call (PySem.Str.ofString "_law_deal") 2 0 [0, 1] [] (.cons (.var 0) (.cons (.lit (.int 8)) .nil)) .nil)) .nil (.call (PySem.Str.ofString "_law_deal") 2 0 [0, 1] [] (.cons (.var 0) (.cons (.lit (.int 2)) .nil)) .nil) false) .nil))) .skip)
def r__law_answers : RowT := ⟨c__law_answers.N, 1, c__law_answers.mu, b__law_answers, true, [], [((1, []), [0])], defArgs (st 55), defBody (st 55), defScope (st 55), none⟩
def b__law_code_flow : Sm := (.seq (.par (.cons (.tnm 3) (.cons (.tnm 4) .nil)) (.cons (.dct .nil true) (.cons (.idx (.var 0) (.lit (.int 1))) .nil))) (.seq (.for_ (.tnm 2) (.rng1 (.bop .pow (.lit (.int 10)) (.lit (.int 6)))) (.seq (.iff (.cmp .isin (.var 1) (.var 3)) (.seq (.ret (.tup (.cons (.lit (.str [115, 116, 105, 108, 108])) .nil))) .skip) .skip) (.seq (.asg (.tsub (.var 3) (.var 1)) (.lit (.bl true))) (.seq (.asg (.tup (.cons (.tnm 6) (.cons (.tnm 7) .nil))) (.var 1)) (.seq (.asg (.tnm 5) (.ite (.cmp .lt (.var 6) (.bi .len (.cons (.var 4) .nil))) (.idx (.var 4) (.var 6)) (.tup (.cons (.lit (.str [111, 117, 116])) .nil)))) (.seq (.iff (.cmp .isin (.idx (.var 5) (.lit (.int 0))) (.tup (.cons (.lit (.str [111, 117, 116])) (.cons (.lit (.str [115, 116, 111, 112])) .nil)))) (.seq (.ret (.ite (.cmp .eq (.idx (.var 5) (.lit (.int 0))) (.lit (.str [111, 117, 116]))) (.tup (.cons (.lit (.str [111, 117, 116])) (.cons (.var 7) .nil))) (.var 5))) .skip) .skip) (.seq (.iff (.cmp .eq (.idx (.var 5) (.lit (.int 0))) (.lit (.str [100, 101, 101, 100]))) (.seq (.ret (.bop .add (.var 5) (.tup (.cons (.tup (.cons (.bop .add (.var 6) (.lit (.int 1))) (.cons (.var 7) .nil))) .nil)))) .skip) .skip) (.seq (.iff (.cmp .eq (.idx (.var 5) (.lit (.int 0))) (.lit (.str [97, 115, 107]))) (.seq (.ret (.bop .add (.slc (.var 5) .nil (.prt (.lit (.int 2)))) (.tup (.cons (.tup (.cons (.bop .add (.var 6) (.lit (.int 1))) (.cons (.var 7) .nil))) (.cons (.tup (.cons (.idx (.var 5) (.lit (.int 2))) (.cons (.var 7) .nil))) .nil))))) .skip) .skip) (.seq (.iff (.cmp .isin (.idx (.var 5) (.lit (.int 0))) (.tup (.cons (.lit (.str [117, 112])) (.cons (.lit (.str [100, 111, 119, 110])) .nil)))) (.seq (.asg (.tnm 1) (.tup (.cons (.bop .add (.var 6) (.lit (.int 1))) (.cons (.bop .mod (.bi .int (.cons (.bop .add (.var 7) (.ite (.cmp .eq (.idx (.var 5) (.lit (.int 0))) (.lit (.str [117, 112]))) (.lit (.int 1)) (.bop .sub (.idx (.var 0) (.lit (.int 0))) (.lit (.int 1))))) .nil)) (.idx (.var 0) (.lit (.int 0)))) .nil)))) .skip) (.seq (.asg (.tnm 1) (.tup (.cons (.ite (.or (.cmp .eq (.idx (.var 5) (.lit (.int 0))) (.lit (.str [106, 117, 109, 112]))) (.cmp .eq (.var 7) (.lit (.int 0)))) (.idx (.var 5) (.lit (.int 1))) (.bop .add (.var 6) (.lit (.int 1)))) (.cons (.var 7) .nil)))) .skip)) .skip))))))))) (.seq (.ret (.lit .non)) .skip)))
def r__law_code_flow : RowT := ⟨c__law_code_flow.N, 2, c__law_code_flow.mu, b__law_code_flow, true, [], [((2, []), [0, 1])], defArgs (st 56), defBody (st 56), defScope (st 56), none⟩
def b__law_known : Sm := (.seq (.asg (.tnm 0) (.tup (.cons (.lit (.int 1)) (.cons (.tup (.cons (.tup (.cons (.lit (.str [97])) (.cons (.tup (.cons (.tup (.cons (.lit (.str [100, 101, 101, 100])) (.cons (.lit (.str [101])) .nil))) (.cons (.tup (.cons (.lit (.str [105, 102])) (.cons (.lit (.str [65])) (.cons (.tup (.cons (.tup (.cons (.lit (.str [111, 117, 116])) .nil)) .nil)) (.cons (.tup (.cons (.tup (.cons (.lit (.str [115, 116, 111, 112])) .nil)) .nil)) .nil))))) .nil))) .nil))) .nil)) .nil)))) (.seq (.asg (.tnm 1) (.tup (.cons (.lit (.int 1)) (.cons (.tup (.cons (.tup (.cons (.lit (.str [100, 101, 101, 100])) (.cons (.lit (.str [101])) .nil))) (.cons (.tup (.cons (.lit (.str [97, 115, 107])) (.cons (.lit (.str [65])) (.cons (.lit (.int 4)) .nil)))) (.cons (.tup (.cons (.lit (.str [115, 116, 111, 112])) .nil)) (.cons (.tup (.cons (.lit (.str [106, 117, 109, 112])) (.cons (.lit (.int 5)) .nil))) (.cons (.tup (.cons (.lit (.str [111, 117, 116])) .nil)) .nil)))))) .nil)))) (.seq (.ret (.tup (.cons (.var 0) (.cons (.var 1) (.cons (.tup (.cons (.lit (.int 1)) (.cons (.tup (.cons (.lit (.str [118, 46, 46])) (.cons (.lit (.str [101, 46, 46])) (.cons (.lit (.str [97, 118, 46])) (.cons (.lit (.str [35, 46, 46])) (.cons (.lit (.str [62, 46, 118])) (.cons (.lit (.str [118, 60, 46])) (.cons (.lit (.str [60, 46, 46])) (.cons (.lit (.str [118, 46, 60])) .nil))))))))) .nil))) .nil))))) .skip)))
def r__law_known : RowT := ⟨c__law_known.N, 0, c__law_known.mu, b__law_known, true, [], [((0, []), [])], defArgs (st 57), defBody (st 57), defScope (st 57), none⟩
def b__law_code_drawn : Sm := (.seq (.par (.cons (.tnm 3) (.cons (.tnm 4) .nil)) (.cons (.call (PySem.Str.ofString "_law_deal") 2 0 [0, 1] [] (.cons (.var 0) (.cons (.bop .add (.var 1) (.lit (.int 1))) .nil)) .nil) (.cons (.lst .nil true) .nil))) (.seq (.for_ (.tnm 2) (.rng1 (.var 3)) (.seq (.par (.cons (.tnm 6) (.cons (.tnm 7) .nil)) (.cons (.call (PySem.Str.ofString "_law_deal") 2 0 [0, 1] [] (.cons (.var 0) (.cons (.bop .add (.var 3) (.lit (.int 1))) .nil)) .nil) (.cons (.call (PySem.Str.ofString "_law_deal") 2 0 [0, 1] [] (.cons (.var 0) (.cons (.lit (.int 9)) .nil)) .nil) .nil))) (.seq (.asg (.tnm 5) (.lst (.cons (.tup (.cons (.lit (.str [106, 117, 109, 112])) (.cons (.var 6) .nil))) (.cons (.tup (.cons (.lit (.str [97, 115, 107])) (.cons (.call (PySem.Str.ofString "_law_any") 2 0 [0, 1] [] (.cons (.var 0) (.cons (.lit (.str [65, 66, 67, 68])) .nil)) .nil) (.cons (.var 6) .nil)))) (.cons (.tup (.cons (.lit (.str [122, 101, 114, 111])) (.cons (.var 6) .nil))) (.cons (.tup (.cons (.lit (.str [97, 115, 107])) (.cons (.lit (.str [65])) (.cons (.var 6) .nil)))) .nil)))) false)) (.seq (.asg (.tnm 5) (.bop .add (.var 5) (.lst (.cons (.tup (.cons (.lit (.str [117, 112])) .nil)) (.cons (.tup (.cons (.lit (.str [100, 111, 119, 110])) .nil)) (.cons (.tup (.cons (.lit (.str [115, 116, 111, 112])) .nil)) (.cons (.tup (.cons (.lit (.str [111, 117, 116])) .nil)) (.cons (.tup (.cons (.lit (.str [100, 101, 101, 100])) (.cons (.call (PySem.Str.ofString "_law_any") 2 0 [0, 1] [] (.cons (.var 0) (.cons (.lit (.str [101, 102, 103, 108])) .nil)) .nil) .nil))) .nil))))) false))) (.seq (.expr (.bm .append (.var 4) (.cons (.idx (.var 5) (.var 7)) .nil))) .skip))))) (.seq (.ret (.tup (.cons (.bop .add (.lit (.int 1)) (.call (PySem.Str.ofString "_law_any") 2 0 [0, 1] [] (.cons (.var 0) (.cons (.lst (.cons (.lit (.int 0)) (.cons (.lit (.int 1)) (.cons (.lit (.int 1)) (.cons (.lit (.int 2)) (.cons (.lit (.int 3)) .nil))))) false) .nil)) .nil)) (.cons (.bi .tuple (.cons (.var 4) .nil)) .nil)))) .skip)))
def r__law_code_drawn : RowT := ⟨c__law_code_drawn.N, 2, c__law_code_drawn.mu, b__law_code_drawn, true, [], [((2, []), [0, 1])], defArgs (st 58), defBody (st 58), defScope (st 58), none⟩
def b__law_run_code : Sm := (.seq (.par (.cons (.tnm 4) (.cons (.tnm 5) (.cons (.tnm 6) .nil))) (.cons (.tup (.cons (.lit (.int 0)) (.cons (.lit (.int 0)) .nil))) (.cons (.lst .nil false) (.cons (.lit (.int 0)) .nil)))) (.seq (.for_ (.tnm 3) (.rng1 (.bop .pow (.lit (.int 10)) (.lit (.int 6)))) (.seq (.asg (.tnm 7) (.call (PySem.Str.ofString "_law_code_flow") 2 0 [0, 1] [] (.cons (.var 0) (.cons (.var 4) .nil)) .nil)) (.seq (.iff (.cmp .notin (.idx (.var 7) (.lit (.int 0))) (.tup (.cons (.lit (.str [97, 115, 107])) (.cons (.lit (.str [100, 101, 101, 100])) .nil)))) (.seq (.ret (.tup (.cons (.bi .tuple (.cons (.var 5) .nil)) (.cons (.var 7) .nil)))) .skip) .skip) (.seq (.iff (.and (.cmp .eq (.idx (.var 7) (.lit (.int 0))) (.lit (.str [97, 115, 107]))) (.cmp .eq (.var 6) (.bi .len (.cons (.var 1) .nil)))) (.seq (.ret (.tup (.cons (.bi .tuple (.cons (.var 5) .nil)) (.cons (.tup (.cons (.lit (.str [119, 97, 105, 116, 115])) (.cons (.idx (.var 7) (.lit (.int 1))) .nil))) .nil)))) .skip) .skip) (.seq (.iff (.cmp .eq (.bi .len (.cons (.var 5) .nil)) (.var 2)) (.seq (.ret (.tup (.cons (.bi .tuple (.cons (.var 5) .nil)) (.cons (.tup (.cons (.lit (.str [109, 111, 114, 101])) .nil)) .nil)))) .skip) .skip) (.seq (.iff (.cmp .eq (.idx (.var 7) (.lit (.int 0))) (.lit (.str [100, 101, 101, 100]))) (.seq (.par (.cons (.tnm 5) (.cons (.tnm 4) .nil)) (.cons (.bop .add (.var 5) (.lst (.cons (.slc (.var 7) .nil (.prt (.lit (.int 2)))) .nil) false)) (.cons (.idx (.var 7) (.lit (.int 2))) .nil))) .skip) (.seq (.par (.cons (.tnm 5) (.cons (.tnm 4) (.cons (.tnm 6) .nil))) (.cons (.bop .add (.var 5) (.lst (.cons (.bop .add (.slc (.var 7) .nil (.prt (.lit (.int 2)))) (.tup (.cons (.idx (.var 1) (.var 6)) .nil))) .nil) false)) (.cons (.idx (.var 7) (.bop .add (.lit (.int 2)) (.idx (.var 1) (.var 6)))) (.cons (.bop .add (.var 6) (.lit (.int 1))) .nil)))) .skip)) .skip)))))) (.seq (.ret (.lit .non)) .skip)))
def r__law_run_code : RowT := ⟨c__law_run_code.N, 3, c__law_run_code.mu, b__law_run_code, true, [], [((3, []), [0, 1, 2])], defArgs (st 59), defBody (st 59), defScope (st 59), none⟩
def b__law_right : Sm := (.seq (.for_ (.tnm 1) (.rng1 (.lit (.int 12))) (.seq (.par (.cons (.tnm 2) (.cons (.tnm 6) (.cons (.tnm 7) .nil))) (.cons (.call (PySem.Str.ofString "_law_code_drawn") 2 0 [0, 1] [] (.cons (.var 0) (.cons (.lit (.int 10)) .nil)) .nil) (.cons (.call (PySem.Str.ofString "_law_answers") 1 0 [0] [] (.cons (.var 0) .nil) .nil) (.cons (.call (PySem.Str.ofString "_law_any") 2 0 [0, 1] [] (.cons (.var 0) (.cons (.lst (.cons (.lit (.int 0)) (.cons (.lit (.int 1)) (.cons (.lit (.int 2)) (.cons (.lit (.int 5)) (.cons (.lit (.int 40)) .nil))))) false) .nil)) .nil) .nil)))) (.seq (.asg (.tnm 4) (.call (PySem.Str.ofString "_law_run_code") 3 0 [0, 1, 2] [] (.cons (.var 2) (.cons (.var 6) (.cons (.var 7) .nil))) .nil)) (.seq (.asg (.tnm 3) (.lst (.cons (.call (PySem.Str.ofString "run_code") 3 0 [0, 1, 2] [] (.cons (.var 2) (.cons (.var 6) (.cons (.var 7) .nil))) .nil) (.cons (.call (PySem.Str.ofString "run_code") 0 3 [2, 1, 0] [] .nil (.cons (.var 7) (.cons (.var 6) (.cons (.var 2) .nil)))) .nil)) false)) (.seq (.iff (.cmp .ne (.bi .repr (.cons (.var 3) .nil)) (.bi .repr (.cons (.lst (.cons (.var 4) (.cons (.var 4) .nil)) false) .nil))) (.seq (.ret (.lit (.bl false))) .skip) .skip) .skip))))) (.seq (.asg (.tnm 2) (.idx (.call (PySem.Str.ofString "_law_known") 0 0 [] [] .nil .nil) (.lit (.int 1)))) (.seq (.asg (.tnm 3) (.lst (.cons (.call (PySem.Str.ofString "run_code") 3 0 [0, 1, 2] [] (.cons (.var 2) (.cons (.tup (.cons (.lit (.int 0)) .nil)) (.cons (.lit (.int 9)) .nil))) .nil) (.cons (.call (PySem.Str.ofString "run_code") 3 0 [0, 1, 2] [] (.cons (.var 2) (.cons (.tup (.cons (.lit (.int 1)) .nil)) (.cons (.lit (.int 9)) .nil))) .nil) (.cons (.call (PySem.Str.ofString "run_code") 3 0 [0, 1, 2] [] (.cons (.var 2) (.cons (.tup .nil) (.cons (.lit (.int 9)) .nil))) .nil) (.cons (.call (PySem.Str.ofString "run_code") 3 0 [0, 1, 2] [] (.cons (.var 2) (.cons (.tup (.cons (.lit (.int 1)) .nil)) (.cons (.lit (.int 1)) .nil))) .nil) .nil)))) false)) (.seq (.asg (.tnm 4) (.lst (.cons (.tup (.cons (.tup (.cons (.tup (.cons (.lit (.str [100, 101, 101, 100])) (.cons (.lit (.str [101])) .nil))) (.cons (.tup (.cons (.lit (.str [97, 115, 107])) (.cons (.lit (.str [65])) (.cons (.lit (.int 0)) .nil)))) .nil))) (.cons (.tup (.cons (.lit (.str [115, 116, 111, 112])) .nil)) .nil))) (.cons (.tup (.cons (.tup (.cons (.tup (.cons (.lit (.str [100, 101, 101, 100])) (.cons (.lit (.str [101])) .nil))) (.cons (.tup (.cons (.lit (.str [97, 115, 107])) (.cons (.lit (.str [65])) (.cons (.lit (.int 1)) .nil)))) .nil))) (.cons (.tup (.cons (.lit (.str [111, 117, 116])) (.cons (.lit (.int 0)) .nil))) .nil))) .nil)) false)) (.seq (.asg (.tnm 4) (.bop .add (.var 4) (.lst (.cons (.tup (.cons (.tup (.cons (.tup (.cons (.lit (.str [100, 101, 101, 100])) (.cons (.lit (.str [101])) .nil))) .nil)) (.cons (.tup (.cons (.lit (.str [119, 97, 105, 116, 115])) (.cons (.lit (.str [65])) .nil))) .nil))) (.cons (.tup (.cons (.tup (.cons (.tup (.cons (.lit (.str [100, 101, 101, 100])) (.cons (.lit (.str [101])) .nil))) .nil)) (.cons (.tup (.cons (.lit (.str [109, 111, 114, 101])) .nil)) .nil))) .nil)) false))) (.seq (.asg (.tnm 5) (.tup (.cons (.tup (.cons (.lit (.str [117, 112])) .nil)) (.cons (.tup (.cons (.lit (.str [122, 101, 114, 111])) (.cons (.lit (.int 3)) .nil))) (.cons (.tup (.cons (.lit (.str [106, 117, 109, 112])) (.cons (.lit (.int 0)) .nil))) (.cons (.tup (.cons (.lit (.str [111, 117, 116])) .nil)) .nil)))))) (.seq (.asg (.tnm 3) (.bop .add (.var 3) (.lst (.cons (.call (PySem.Str.ofString "run_code") 3 0 [0, 1, 2] [] (.cons (.tup (.cons (.lit (.int 3)) (.cons (.var 5) .nil))) (.cons (.tup .nil) (.cons (.lit (.int 9)) .nil))) .nil) (.cons (.call (PySem.Str.ofString "run_code") 3 0 [0, 1, 2] [] (.cons (.tup (.cons (.lit (.int 3)) (.cons (.bop .add (.slc (.var 5) .nil (.prt (.lit (.int 1)))) (.tup (.cons (.tup (.cons (.lit (.str [106, 117, 109, 112])) (.cons (.lit (.int 1)) .nil))) .nil))) .nil))) (.cons (.tup .nil) (.cons (.lit (.int 9)) .nil))) .nil) .nil)) false))) (.seq (.asg (.tnm 3) (.bop .add (.var 3) (.lst (.cons (.call (PySem.Str.ofString "run_code") 3 0 [0, 1, 2] [] (.cons (.tup (.cons (.lit (.int 1)) (.cons (.tup .nil) .nil))) (.cons (.tup .nil) (.cons (.lit (.int 0)) .nil))) .nil) .nil) false))) (.seq (.ret (.cmp .eq (.bi .repr (.cons (.var 3) .nil)) (.bi .repr (.cons (.bop .add (.var 4) (.lst (.cons (.tup (.cons (.tup .nil) (.cons (.tup (.cons (.lit (.str [111, 117, 116])) (.cons (.lit (.int 0)) .nil))) .nil))) (.cons (.tup (.cons (.tup .nil) (.cons (.tup (.cons (.lit (.str [115, 116, 105, 108, 108])) .nil)) .nil))) (.cons (.tup (.cons (.tup .nil) (.cons (.tup (.cons (.lit (.str [111, 117, 116])) (.cons (.lit (.int 0)) .nil))) .nil))) .nil))) false)) .nil)))) .skip)))))))))
def r__law_right : RowT := ⟨c__law_right.N, 1, c__law_right.mu, b__law_right, true, [], [((1, []), [0])], defArgs (st 60), defBody (st 60), defScope (st 60), none⟩
def b_law : Sm := (.seq (.ret (.bi .all (.cons (.lc [1] (.tnm 1) (.rng1 (.bi .max2 (.cons (.lit (.int 1)) (.cons (.bi .min2 (.cons (.bi .len (.cons (.var 0) .nil)) (.cons (.lit (.int 3)) .nil))) .nil)))) .nil (.call (PySem.Str.ofString "_law_right") 1 0 [0] [] (.cons (.call (PySem.Str.ofString "_law_pail") 2 0 [0, 1] [] (.cons (.var 0) (.cons (.var 1) .nil)) .nil) .nil) .nil) false) .nil))) .skip)
def r_law : RowT := ⟨c_law.N, 1, c_law.mu, b_law, true, [], [((1, []), [0])], defArgs (st 61), defBody (st 61), defScope (st 61), none⟩
def T : LawT := ⟨[(PySem.Str.ofString "is_whole", r_is_whole), (PySem.Str.ofString "is_number", r_is_number), (PySem.Str.ofString "is_counts", r_is_counts), (PySem.Str.ofString "is_tuple_of", r_is_tuple_of), (PySem.Str.ofString "is_short_tuple", r_is_short_tuple), (PySem.Str.ofString "is_one_of", r_is_one_of), (PySem.Str.ofString "first_wrong", r_first_wrong), (PySem.Str.ofString "is_answer", r_is_answer), (PySem.Str.ofString "wrong_answers", r_wrong_answers), (PySem.Str.ofString "check_answers", r_check_answers), (PySem.Str.ofString "check_most", r_check_most), (PySem.Str.ofString "is_code_row", r_is_code_row), (PySem.Str.ofString "is_code_form", r_is_code_form), (PySem.Str.ofString "check_code", r_check_code), (PySem.Str.ofString "CodeWalk.__init__", r_CodeWalk___init__), (PySem.Str.ofString "CodeWalk.begin", r_CodeWalk_begin), (PySem.Str.ofString "CodeWalk.move", r_CodeWalk_move), (PySem.Str.ofString "outcome_by", r_outcome_by), (PySem.Str.ofString "run_code", r_run_code), (PySem.Str.ofString "_law_pail", r__law_pail), (PySem.Str.ofString "_law_deal", r__law_deal), (PySem.Str.ofString "_law_any", r__law_any), (PySem.Str.ofString "_law_answers", r__law_answers), (PySem.Str.ofString "_law_code_flow", r__law_code_flow), (PySem.Str.ofString "_law_known", r__law_known), (PySem.Str.ofString "_law_code_drawn", r__law_code_drawn), (PySem.Str.ofString "_law_run_code", r__law_run_code), (PySem.Str.ofString "_law_right", r__law_right), (PySem.Str.ofString "law", r_law)], gls, 100000, clsT⟩
theorem fns_eq : T.fns = fns := rfl
theorem cp_is_whole : cpSs (cpS 60 c_is_whole) (defBody (st 10)) = some b_is_whole := by kernel_rfl
theorem sc_is_whole : FnScope r_is_whole.N r_is_whole.ps (defScope (st 10)) := ⟨rfl, rfl, rfl, by decide +kernel, rfl, by decide +kernel, by decide +kernel⟩
theorem ok_is_whole : RowOk T (PySem.Str.ofString "is_whole") r_is_whole := by
  refine ⟨sc_is_whole, cp_is_whole, _, rfl, fun K f fd F np ks pl h => ?_⟩
  obtain ⟨oc, od, dV, kV, doc, pm, an, cdv, ct, osl, rfl, lk, hcd, hD, hK⟩ := F.ex
  obtain rfl : dV = .none := hD.elim (fun z => z.2) fun z => (z.1 rfl).elim
  refine shp h ?_
  intro q hq
  simp only [r_is_whole, List.mem_cons, List.not_mem_nil, or_false] at hq
  rcases hq with rfl
  · refine ⟨rfl, [], .nil, fun s us ws bs X h1 h2 hp => ?_⟩
    obtain ⟨v0, rfl⟩ := len1 h1
    obtain rfl := len0 h2
    obtain rfl := Option.some.inj hp
    exact .of_eq (by with_unfolding_all rfl)
theorem cp_is_number : cpSs (cpS 60 c_is_number) (defBody (st 11)) = some b_is_number := by kernel_rfl
theorem sc_is_number : FnScope r_is_number.N r_is_number.ps (defScope (st 11)) := ⟨rfl, rfl, rfl, by decide +kernel, rfl, by decide +kernel, by decide +kernel⟩
theorem ok_is_number : RowOk T (PySem.Str.ofString "is_number") r_is_number := by
  refine ⟨sc_is_number, cp_is_number, _, rfl, fun K f fd F np ks pl h => ?_⟩
  obtain ⟨oc, od, dV, kV, doc, pm, an, cdv, ct, osl, rfl, lk, hcd, hD, hK⟩ := F.ex
  rcases hD with ⟨e, _⟩ | ⟨_, T0, o0, its, n0, rfl, lT, oT, rT⟩
  · cases e
  obtain ⟨d0, rfl⟩ := len1 (show its.length = 1 from rT.length.symm)
  refine shp h ?_
  intro q hq
  simp only [r_is_number, List.mem_cons, List.not_mem_nil, or_false] at hq
  rcases hq with rfl
  · refine ⟨rfl, _, rT, fun s us ws bs X h1 h2 hp => ?_⟩
    obtain ⟨v0, v1, v2, rfl⟩ := len3 h1
    obtain rfl := len0 h2
    obtain rfl := Option.some.inj hp
    exact bindD X lT oT ⟨_, rfl, rfl⟩
theorem cp_is_counts : cpSs (cpS 60 c_is_counts) (defBody (st 12)) = some b_is_counts := by kernel_rfl
theorem sc_is_counts : FnScope r_is_counts.N r_is_counts.ps (defScope (st 12)) := ⟨rfl, rfl, rfl, by decide +kernel, rfl, by decide +kernel, by decide +kernel⟩
theorem ok_is_counts : RowOk T (PySem.Str.ofString "is_counts") r_is_counts := by
  refine ⟨sc_is_counts, cp_is_counts, _, rfl, fun K f fd F np ks pl h => ?_⟩
  obtain ⟨oc, od, dV, kV, doc, pm, an, cdv, ct, osl, rfl, lk, hcd, hD, hK⟩ := F.ex
  obtain rfl : dV = .none := hD.elim (fun z => z.2) fun z => (z.1 rfl).elim
  refine shp h ?_
  intro q hq
  simp only [r_is_counts, List.mem_cons, List.not_mem_nil, or_false] at hq
  rcases hq with rfl
  · refine ⟨rfl, [], .nil, fun s us ws bs X h1 h2 hp => ?_⟩
    obtain ⟨v0, rfl⟩ := len1 h1
    obtain rfl := len0 h2
    obtain rfl := Option.some.inj hp
    exact .of_eq (by with_unfolding_all rfl)
theorem cp_is_tuple_of : cpSs (cpS 60 c_is_tuple_of) (defBody (st 13)) = some b_is_tuple_of := by kernel_rfl
theorem sc_is_tuple_of : FnScope r_is_tuple_of.N r_is_tuple_of.ps (defScope (st 13)) := ⟨rfl, rfl, rfl, by decide +kernel, rfl, by decide +kernel, by decide +kernel⟩
theorem ok_is_tuple_of : RowOk T (PySem.Str.ofString "is_tuple_of") r_is_tuple_of := by
  refine ⟨sc_is_tuple_of, cp_is_tuple_of, _, rfl, fun K f fd F np ks pl h => ?_⟩
  obtain ⟨oc, od, dV, kV, doc, pm, an, cdv, ct, osl, rfl, lk, hcd, hD, hK⟩ := F.ex
  obtain rfl : dV = .none := hD.elim (fun z => z.2) fun z => (z.1 rfl).elim
  refine shp h ?_
  intro q hq
  simp only [r_is_tuple_of, List.mem_cons, List.not_mem_nil, or_false] at hq
  rcases hq with rfl
  · refine ⟨rfl, [], .nil, fun s us ws bs X h1 h2 hp => ?_⟩
    obtain ⟨v0, v1, rfl⟩ := len2 h1
    obtain rfl := len0 h2
    obtain rfl := Option.some.inj hp
    exact .of_eq (by with_unfolding_all rfl)
theorem cp_is_short_tuple : cpSs (cpS 60 c_is_short_tuple) (defBody (st 14)) = some b_is_short_tuple := by kernel_rfl
theorem sc_is_short_tuple : FnScope r_is_short_tuple.N r_is_short_tuple.ps (defScope (st 14)) := ⟨rfl, rfl, rfl, by decide +kernel, rfl, by decide +kernel, by decide +kernel⟩
theorem ok_is_short_tuple : RowOk T (PySem.Str.ofString "is_short_tuple") r_is_short_tuple := by
  refine ⟨sc_is_short_tuple, cp_is_short_tuple, _, rfl, fun K f fd F np ks pl h => ?_⟩
  obtain ⟨oc, od, dV, kV, doc, pm, an, cdv, ct, osl, rfl, lk, hcd, hD, hK⟩ := F.ex
  obtain rfl : dV = .none := hD.elim (fun z => z.2) fun z => (z.1 rfl).elim
  refine shp h ?_
  intro q hq
  simp only [r_is_short_tuple, List.mem_cons, List.not_mem_nil, or_false] at hq
  rcases hq with rfl
  · refine ⟨rfl, [], .nil, fun s us ws bs X h1 h2 hp => ?_⟩
    obtain ⟨v0, v1, v2, rfl⟩ := len3 h1
    obtain rfl := len0 h2
    obtain rfl := Option.some.inj hp
    exact .of_eq (by with_unfolding_all rfl)
theorem cp_is_one_of : cpSs (cpS 60 c_is_one_of) (defBody (st 15)) = some b_is_one_of := by kernel_rfl
theorem sc_is_one_of : FnScope r_is_one_of.N r_is_one_of.ps (defScope (st 15)) := ⟨rfl, rfl, rfl, by decide +kernel, rfl, by decide +kernel, by decide +kernel⟩
theorem ok_is_one_of : RowOk T (PySem.Str.ofString "is_one_of") r_is_one_of := by
  refine ⟨sc_is_one_of, cp_is_one_of, _, rfl, fun K f fd F np ks pl h => ?_⟩
  obtain ⟨oc, od, dV, kV, doc, pm, an, cdv, ct, osl, rfl, lk, hcd, hD, hK⟩ := F.ex
  obtain rfl : dV = .none := hD.elim (fun z => z.2) fun z => (z.1 rfl).elim
  refine shp h ?_
  intro q hq
  simp only [r_is_one_of, List.mem_cons, List.not_mem_nil, or_false] at hq
  rcases hq with rfl
  · refine ⟨rfl, [], .nil, fun s us ws bs X h1 h2 hp => ?_⟩
    obtain ⟨v0, v1, rfl⟩ := len2 h1
    obtain rfl := len0 h2
    obtain rfl := Option.some.inj hp
    exact .of_eq (by with_unfolding_all rfl)
theorem cp_first_wrong : cpSs (cpS 60 c_first_wrong) (defBody (st 16)) = some b_first_wrong := by kernel_rfl
theorem sc_first_wrong : FnScope r_first_wrong.N r_first_wrong.ps (defScope (st 16)) := ⟨rfl, rfl, rfl, by decide +kernel, rfl, by decide +kernel, by decide +kernel⟩
theorem ok_first_wrong : RowOk T (PySem.Str.ofString "first_wrong") r_first_wrong := by
  refine ⟨sc_first_wrong, cp_first_wrong, _, rfl, fun K f fd F np ks pl h => ?_⟩
  obtain ⟨oc, od, dV, kV, doc, pm, an, cdv, ct, osl, rfl, lk, hcd, hD, hK⟩ := F.ex
  obtain rfl : dV = .none := hD.elim (fun z => z.2) fun z => (z.1 rfl).elim
  refine shp h ?_
  intro q hq
  simp only [r_first_wrong, List.mem_cons, List.not_mem_nil, or_false] at hq
  rcases hq with rfl
  · refine ⟨rfl, [], .nil, fun s us ws bs X h1 h2 hp => ?_⟩
    obtain ⟨v0, v1, rfl⟩ := len2 h1
    obtain rfl := len0 h2
    obtain rfl := Option.some.inj hp
    exact .of_eq (by with_unfolding_all rfl)
theorem cp_is_answer : cpSs (cpS 60 c_is_answer) (defBody (st 17)) = some b_is_answer := by kernel_rfl
theorem sc_is_answer : FnScope r_is_answer.N r_is_answer.ps (defScope (st 17)) := ⟨rfl, rfl, rfl, by decide +kernel, rfl, by decide +kernel, by decide +kernel⟩
theorem ok_is_answer : RowOk T (PySem.Str.ofString "is_answer") r_is_answer := by
  refine ⟨sc_is_answer, cp_is_answer, _, rfl, fun K f fd F np ks pl h => ?_⟩
  obtain ⟨oc, od, dV, kV, doc, pm, an, cdv, ct, osl, rfl, lk, hcd, hD, hK⟩ := F.ex
  obtain rfl : dV = .none := hD.elim (fun z => z.2) fun z => (z.1 rfl).elim
  refine shp h ?_
  intro q hq
  simp only [r_is_answer, List.mem_cons, List.not_mem_nil, or_false] at hq
  rcases hq with rfl
  · refine ⟨rfl, [], .nil, fun s us ws bs X h1 h2 hp => ?_⟩
    obtain ⟨v0, rfl⟩ := len1 h1
    obtain rfl := len0 h2
    obtain rfl := Option.some.inj hp
    exact .of_eq (by with_unfolding_all rfl)
theorem cp_wrong_answers : cpSs (cpS 60 c_wrong_answers) (defBody (st 18)) = some b_wrong_answers := by kernel_rfl
theorem sc_wrong_answers : FnScope r_wrong_answers.N r_wrong_answers.ps (defScope (st 18)) := ⟨rfl, rfl, rfl, by decide +kernel, rfl, by decide +kernel, by decide +kernel⟩
theorem ok_wrong_answers : RowOk T (PySem.Str.ofString "wrong_answers") r_wrong_answers := by
  refine ⟨sc_wrong_answers, cp_wrong_answers, _, rfl, fun K f fd F np ks pl h => ?_⟩
  obtain ⟨oc, od, dV, kV, doc, pm, an, cdv, ct, osl, rfl, lk, hcd, hD, hK⟩ := F.ex
  obtain rfl : dV = .none := hD.elim (fun z => z.2) fun z => (z.1 rfl).elim
  refine shp h ?_
  intro q hq
  simp only [r_wrong_answers, List.mem_cons, List.not_mem_nil, or_false] at hq
  rcases hq with rfl
  · refine ⟨rfl, [], .nil, fun s us ws bs X h1 h2 hp => ?_⟩
    obtain ⟨v0, rfl⟩ := len1 h1
    obtain rfl := len0 h2
    obtain rfl := Option.some.inj hp
    exact .of_eq (by with_unfolding_all rfl)
theorem cp_check_answers : cpSs (cpS 60 c_check_answers) (defBody (st 24)) = some b_check_answers := by kernel_rfl
theorem sc_check_answers : FnScope r_check_answers.N r_check_answers.ps (defScope (st 24)) := ⟨rfl, rfl, rfl, by decide +kernel, rfl, by decide +kernel, by decide +kernel⟩
theorem ok_check_answers : RowOk T (PySem.Str.ofString "check_answers") r_check_answers := by
  refine ⟨sc_check_answers, cp_check_answers, _, rfl, fun K f fd F np ks pl h => ?_⟩
  obtain ⟨oc, od, dV, kV, doc, pm, an, cdv, ct, osl, rfl, lk, hcd, hD, hK⟩ := F.ex
  obtain rfl : dV = .none := hD.elim (fun z => z.2) fun z => (z.1 rfl).elim
  refine shp h ?_
  intro q hq
  simp only [r_check_answers, List.mem_cons, List.not_mem_nil, or_false] at hq
  rcases hq with rfl
  · refine ⟨rfl, [], .nil, fun s us ws bs X h1 h2 hp => ?_⟩
    obtain ⟨v0, rfl⟩ := len1 h1
    obtain rfl := len0 h2
    obtain rfl := Option.some.inj hp
    exact .of_eq (by with_unfolding_all rfl)
theorem cp_check_most : cpSs (cpS 60 c_check_most) (defBody (st 25)) = some b_check_most := by kernel_rfl
theorem sc_check_most : FnScope r_check_most.N r_check_most.ps (defScope (st 25)) := ⟨rfl, rfl, rfl, by decide +kernel, rfl, by decide +kernel, by decide +kernel⟩
theorem ok_check_most : RowOk T (PySem.Str.ofString "check_most") r_check_most := by
  refine ⟨sc_check_most, cp_check_most, _, rfl, fun K f fd F np ks pl h => ?_⟩
  obtain ⟨oc, od, dV, kV, doc, pm, an, cdv, ct, osl, rfl, lk, hcd, hD, hK⟩ := F.ex
  obtain rfl : dV = .none := hD.elim (fun z => z.2) fun z => (z.1 rfl).elim
  refine shp h ?_
  intro q hq
  simp only [r_check_most, List.mem_cons, List.not_mem_nil, or_false] at hq
  rcases hq with rfl
  · refine ⟨rfl, [], .nil, fun s us ws bs X h1 h2 hp => ?_⟩
    obtain ⟨v0, rfl⟩ := len1 h1
    obtain rfl := len0 h2
    obtain rfl := Option.some.inj hp
    exact .of_eq (by with_unfolding_all rfl)
theorem cp_is_code_row : cpSs (cpS 60 c_is_code_row) (defBody (st 37)) = some b_is_code_row := by kernel_rfl
theorem sc_is_code_row : FnScope r_is_code_row.N r_is_code_row.ps (defScope (st 37)) := ⟨rfl, rfl, rfl, by decide +kernel, rfl, by decide +kernel, by decide +kernel⟩
theorem ok_is_code_row : RowOk T (PySem.Str.ofString "is_code_row") r_is_code_row := by
  refine ⟨sc_is_code_row, cp_is_code_row, _, rfl, fun K f fd F np ks pl h => ?_⟩
  obtain ⟨oc, od, dV, kV, doc, pm, an, cdv, ct, osl, rfl, lk, hcd, hD, hK⟩ := F.ex
  obtain rfl : dV = .none := hD.elim (fun z => z.2) fun z => (z.1 rfl).elim
  refine shp h ?_
  intro q hq
  simp only [r_is_code_row, List.mem_cons, List.not_mem_nil, or_false] at hq
  rcases hq with rfl
  · refine ⟨rfl, [], .nil, fun s us ws bs X h1 h2 hp => ?_⟩
    obtain ⟨v0, v1, rfl⟩ := len2 h1
    obtain rfl := len0 h2
    obtain rfl := Option.some.inj hp
    exact .of_eq (by with_unfolding_all rfl)
theorem cp_is_code_form : cpSs (cpS 60 c_is_code_form) (defBody (st 38)) = some b_is_code_form := by kernel_rfl
theorem sc_is_code_form : FnScope r_is_code_form.N r_is_code_form.ps (defScope (st 38)) := ⟨rfl, rfl, rfl, by decide +kernel, rfl, by decide +kernel, by decide +kernel⟩
theorem ok_is_code_form : RowOk T (PySem.Str.ofString "is_code_form") r_is_code_form := by
  refine ⟨sc_is_code_form, cp_is_code_form, _, rfl, fun K f fd F np ks pl h => ?_⟩
  obtain ⟨oc, od, dV, kV, doc, pm, an, cdv, ct, osl, rfl, lk, hcd, hD, hK⟩ := F.ex
  obtain rfl : dV = .none := hD.elim (fun z => z.2) fun z => (z.1 rfl).elim
  refine shp h ?_
  intro q hq
  simp only [r_is_code_form, List.mem_cons, List.not_mem_nil, or_false] at hq
  rcases hq with rfl
  · refine ⟨rfl, [], .nil, fun s us ws bs X h1 h2 hp => ?_⟩
    obtain ⟨v0, rfl⟩ := len1 h1
    obtain rfl := len0 h2
    obtain rfl := Option.some.inj hp
    exact .of_eq (by with_unfolding_all rfl)
theorem cp_check_code : cpSs (cpS 60 c_check_code) (defBody (st 40)) = some b_check_code := by kernel_rfl
theorem sc_check_code : FnScope r_check_code.N r_check_code.ps (defScope (st 40)) := ⟨rfl, rfl, rfl, by decide +kernel, rfl, by decide +kernel, by decide +kernel⟩
theorem ok_check_code : RowOk T (PySem.Str.ofString "check_code") r_check_code := by
  refine ⟨sc_check_code, cp_check_code, _, rfl, fun K f fd F np ks pl h => ?_⟩
  obtain ⟨oc, od, dV, kV, doc, pm, an, cdv, ct, osl, rfl, lk, hcd, hD, hK⟩ := F.ex
  obtain rfl : dV = .none := hD.elim (fun z => z.2) fun z => (z.1 rfl).elim
  refine shp h ?_
  intro q hq
  simp only [r_check_code, List.mem_cons, List.not_mem_nil, or_false] at hq
  rcases hq with rfl
  · refine ⟨rfl, [], .nil, fun s us ws bs X h1 h2 hp => ?_⟩
    obtain ⟨v0, rfl⟩ := len1 h1
    obtain rfl := len0 h2
    obtain rfl := Option.some.inj hp
    exact .of_eq (by with_unfolding_all rfl)
theorem cp_CodeWalk___init__ : cpSs (cpS 60 c_CodeWalk___init__) (defBody (mst 43 0)) = some b_CodeWalk___init__ := by kernel_rfl
theorem sc_CodeWalk___init__ : FnScope r_CodeWalk___init__.N r_CodeWalk___init__.ps (defScope (mst 43 0)) := ⟨rfl, rfl, rfl, by decide +kernel, rfl, by decide +kernel, by decide +kernel⟩
theorem ok_CodeWalk___init__ : RowOk T (PySem.Str.ofString "CodeWalk.__init__") r_CodeWalk___init__ := by
  refine ⟨sc_CodeWalk___init__, cp_CodeWalk___init__, _, rfl, fun K f fd F np ks pl h => ?_⟩
  obtain ⟨oc, od, dV, kV, doc, pm, an, cdv, ct, osl, rfl, lk, hcd, hD, hK⟩ := F.ex
  obtain rfl : dV = .none := hD.elim (fun z => z.2) fun z => (z.1 rfl).elim
  refine shp h ?_
  intro q hq
  simp only [r_CodeWalk___init__, List.mem_cons, List.not_mem_nil, or_false] at hq
  rcases hq with rfl
  · refine ⟨rfl, [], .nil, fun s us ws bs X h1 h2 hp => ?_⟩
    obtain ⟨v0, v1, rfl⟩ := len2 h1
    obtain rfl := len0 h2
    obtain rfl := Option.some.inj hp
    exact .of_eq (by with_unfolding_all rfl)
theorem cp_CodeWalk_begin : cpSs (cpS 60 c_CodeWalk_begin) (defBody (mst 43 1)) = some b_CodeWalk_begin := by kernel_rfl
theorem sc_CodeWalk_begin : FnScope r_CodeWalk_begin.N r_CodeWalk_begin.ps (defScope (mst 43 1)) := ⟨rfl, rfl, rfl, by decide +kernel, rfl, by decide +kernel, by decide +kernel⟩
theorem ok_CodeWalk_begin : RowOk T (PySem.Str.ofString "CodeWalk.begin") r_CodeWalk_begin := by
  refine ⟨sc_CodeWalk_begin, cp_CodeWalk_begin, _, rfl, fun K f fd F np ks pl h => ?_⟩
  obtain ⟨oc, od, dV, kV, doc, pm, an, cdv, ct, osl, rfl, lk, hcd, hD, hK⟩ := F.ex
  obtain rfl : dV = .none := hD.elim (fun z => z.2) fun z => (z.1 rfl).elim
  refine shp h ?_
  intro q hq
  simp only [r_CodeWalk_begin, List.mem_cons, List.not_mem_nil, or_false] at hq
  rcases hq with rfl
  · refine ⟨rfl, [], .nil, fun s us ws bs X h1 h2 hp => ?_⟩
    obtain ⟨v0, rfl⟩ := len1 h1
    obtain rfl := len0 h2
    obtain rfl := Option.some.inj hp
    exact .of_eq (by with_unfolding_all rfl)
theorem cp_CodeWalk_move : cpSs (cpS 60 c_CodeWalk_move) (defBody (mst 43 2)) = some b_CodeWalk_move := by kernel_rfl
theorem sc_CodeWalk_move : FnScope r_CodeWalk_move.N r_CodeWalk_move.ps (defScope (mst 43 2)) := ⟨rfl, rfl, rfl, by decide +kernel, rfl, by decide +kernel, by decide +kernel⟩
theorem ok_CodeWalk_move : RowOk T (PySem.Str.ofString "CodeWalk.move") r_CodeWalk_move := by
  refine ⟨sc_CodeWalk_move, cp_CodeWalk_move, _, rfl, fun K f fd F np ks pl h => ?_⟩
  obtain ⟨oc, od, dV, kV, doc, pm, an, cdv, ct, osl, rfl, lk, hcd, hD, hK⟩ := F.ex
  obtain rfl : dV = .none := hD.elim (fun z => z.2) fun z => (z.1 rfl).elim
  refine shp h ?_
  intro q hq
  simp only [r_CodeWalk_move, List.mem_cons, List.not_mem_nil, or_false] at hq
  rcases hq with rfl
  · refine ⟨rfl, [], .nil, fun s us ws bs X h1 h2 hp => ?_⟩
    obtain ⟨v0, v1, rfl⟩ := len2 h1
    obtain rfl := len0 h2
    obtain rfl := Option.some.inj hp
    exact .of_eq (by with_unfolding_all rfl)
theorem cp_outcome_by : cpSs (cpS 60 c_outcome_by) (defBody (st 48)) = some b_outcome_by := by kernel_rfl
theorem sc_outcome_by : FnScope r_outcome_by.N r_outcome_by.ps (defScope (st 48)) := ⟨rfl, rfl, rfl, by decide +kernel, rfl, by decide +kernel, by decide +kernel⟩
theorem ok_outcome_by : RowOk T (PySem.Str.ofString "outcome_by") r_outcome_by := by
  refine ⟨sc_outcome_by, cp_outcome_by, _, rfl, fun K f fd F np ks pl h => ?_⟩
  obtain ⟨oc, od, dV, kV, doc, pm, an, cdv, ct, osl, rfl, lk, hcd, hD, hK⟩ := F.ex
  obtain rfl : dV = .none := hD.elim (fun z => z.2) fun z => (z.1 rfl).elim
  refine shp h ?_
  intro q hq
  simp only [r_outcome_by, List.mem_cons, List.not_mem_nil, or_false] at hq
  rcases hq with rfl
  · refine ⟨rfl, [], .nil, fun s us ws bs X h1 h2 hp => ?_⟩
    obtain ⟨v0, v1, v2, v3, rfl⟩ := len4 h1
    obtain rfl := len0 h2
    obtain rfl := Option.some.inj hp
    exact .of_eq (by with_unfolding_all rfl)
theorem cp_run_code : cpSs (cpS 60 c_run_code) (defBody (st 50)) = some b_run_code := by kernel_rfl
theorem sc_run_code : FnScope r_run_code.N r_run_code.ps (defScope (st 50)) := ⟨rfl, rfl, rfl, by decide +kernel, rfl, by decide +kernel, by decide +kernel⟩
theorem ok_run_code : RowOk T (PySem.Str.ofString "run_code") r_run_code := by
  refine ⟨sc_run_code, cp_run_code, _, rfl, fun K f fd F np ks pl h => ?_⟩
  obtain ⟨oc, od, dV, kV, doc, pm, an, cdv, ct, osl, rfl, lk, hcd, hD, hK⟩ := F.ex
  obtain rfl : dV = .none := hD.elim (fun z => z.2) fun z => (z.1 rfl).elim
  refine shp h ?_
  intro q hq
  simp only [r_run_code, List.mem_cons, List.not_mem_nil, or_false] at hq
  rcases hq with rfl | rfl
  · refine ⟨rfl, [], .nil, fun s us ws bs X h1 h2 hp => ?_⟩
    obtain ⟨v0, v1, v2, rfl⟩ := len3 h1
    obtain rfl := len0 h2
    obtain rfl := Option.some.inj hp
    exact .of_eq (by with_unfolding_all rfl)
  · refine ⟨rfl, [], .nil, fun s us ws bs X h1 h2 hp => ?_⟩
    obtain rfl := len0 h1
    obtain ⟨w0, w1, w2, rfl⟩ := len3 h2
    obtain rfl := Option.some.inj hp
    exact .of_eq (by with_unfolding_all rfl)
theorem cp__law_pail : cpSs (cpS 60 c__law_pail) (defBody (st 52)) = some b__law_pail := by kernel_rfl
theorem sc__law_pail : FnScope r__law_pail.N r__law_pail.ps (defScope (st 52)) := ⟨rfl, rfl, rfl, by decide +kernel, rfl, by decide +kernel, by decide +kernel⟩
theorem ok__law_pail : RowOk T (PySem.Str.ofString "_law_pail") r__law_pail := by
  refine ⟨sc__law_pail, cp__law_pail, _, rfl, fun K f fd F np ks pl h => ?_⟩
  obtain ⟨oc, od, dV, kV, doc, pm, an, cdv, ct, osl, rfl, lk, hcd, hD, hK⟩ := F.ex
  obtain rfl : dV = .none := hD.elim (fun z => z.2) fun z => (z.1 rfl).elim
  refine shp h ?_
  intro q hq
  simp only [r__law_pail, List.mem_cons, List.not_mem_nil, or_false] at hq
  rcases hq with rfl
  · refine ⟨rfl, [], .nil, fun s us ws bs X h1 h2 hp => ?_⟩
    obtain ⟨v0, v1, rfl⟩ := len2 h1
    obtain rfl := len0 h2
    obtain rfl := Option.some.inj hp
    exact .of_eq (by with_unfolding_all rfl)
theorem cp__law_deal : cpSs (cpS 60 c__law_deal) (defBody (st 53)) = some b__law_deal := by kernel_rfl
theorem sc__law_deal : FnScope r__law_deal.N r__law_deal.ps (defScope (st 53)) := ⟨rfl, rfl, rfl, by decide +kernel, rfl, by decide +kernel, by decide +kernel⟩
theorem ok__law_deal : RowOk T (PySem.Str.ofString "_law_deal") r__law_deal := by
  refine ⟨sc__law_deal, cp__law_deal, _, rfl, fun K f fd F np ks pl h => ?_⟩
  obtain ⟨oc, od, dV, kV, doc, pm, an, cdv, ct, osl, rfl, lk, hcd, hD, hK⟩ := F.ex
  obtain rfl : dV = .none := hD.elim (fun z => z.2) fun z => (z.1 rfl).elim
  refine shp h ?_
  intro q hq
  simp only [r__law_deal, List.mem_cons, List.not_mem_nil, or_false] at hq
  rcases hq with rfl
  · refine ⟨rfl, [], .nil, fun s us ws bs X h1 h2 hp => ?_⟩
    obtain ⟨v0, v1, rfl⟩ := len2 h1
    obtain rfl := len0 h2
    obtain rfl := Option.some.inj hp
    exact .of_eq (by with_unfolding_all rfl)
theorem cp__law_any : cpSs (cpS 60 c__law_any) (defBody (st 54)) = some b__law_any := by kernel_rfl
theorem sc__law_any : FnScope r__law_any.N r__law_any.ps (defScope (st 54)) := ⟨rfl, rfl, rfl, by decide +kernel, rfl, by decide +kernel, by decide +kernel⟩
theorem ok__law_any : RowOk T (PySem.Str.ofString "_law_any") r__law_any := by
  refine ⟨sc__law_any, cp__law_any, _, rfl, fun K f fd F np ks pl h => ?_⟩
  obtain ⟨oc, od, dV, kV, doc, pm, an, cdv, ct, osl, rfl, lk, hcd, hD, hK⟩ := F.ex
  obtain rfl : dV = .none := hD.elim (fun z => z.2) fun z => (z.1 rfl).elim
  refine shp h ?_
  intro q hq
  simp only [r__law_any, List.mem_cons, List.not_mem_nil, or_false] at hq
  rcases hq with rfl
  · refine ⟨rfl, [], .nil, fun s us ws bs X h1 h2 hp => ?_⟩
    obtain ⟨v0, v1, rfl⟩ := len2 h1
    obtain rfl := len0 h2
    obtain rfl := Option.some.inj hp
    exact .of_eq (by with_unfolding_all rfl)
theorem cp__law_answers : cpSs (cpS 60 c__law_answers) (defBody (st 55)) = some b__law_answers := by kernel_rfl
theorem sc__law_answers : FnScope r__law_answers.N r__law_answers.ps (defScope (st 55)) := ⟨rfl, rfl, rfl, by decide +kernel, rfl, by decide +kernel, by decide +kernel⟩
theorem ok__law_answers : RowOk T (PySem.Str.ofString "_law_answers") r__law_answers := by
  refine ⟨sc__law_answers, cp__law_answers, _, rfl, fun K f fd F np ks pl h => ?_⟩
  obtain ⟨oc, od, dV, kV, doc, pm, an, cdv, ct, osl, rfl, lk, hcd, hD, hK⟩ := F.ex
  obtain rfl : dV = .none := hD.elim (fun z => z.2) fun z => (z.1 rfl).elim
  refine shp h ?_
  intro q hq
  simp only [r__law_answers, List.mem_cons, List.not_mem_nil, or_false] at hq
  rcases hq with rfl
  · refine ⟨rfl, [], .nil, fun s us ws bs X h1 h2 hp => ?_⟩
    obtain ⟨v0, rfl⟩ := len1 h1
    obtain rfl := len0 h2
    obtain rfl := Option.some.inj hp
    exact .of_eq (by with_unfolding_all rfl)
theorem cp__law_code_flow : cpSs (cpS 60 c__law_code_flow) (defBody (st 56)) = some b__law_code_flow := by kernel_rfl
theorem sc__law_code_flow : FnScope r__law_code_flow.N r__law_code_flow.ps (defScope (st 56)) := ⟨rfl, rfl, rfl, by decide +kernel, rfl, by decide +kernel, by decide +kernel⟩
theorem ok__law_code_flow : RowOk T (PySem.Str.ofString "_law_code_flow") r__law_code_flow := by
  refine ⟨sc__law_code_flow, cp__law_code_flow, _, rfl, fun K f fd F np ks pl h => ?_⟩
  obtain ⟨oc, od, dV, kV, doc, pm, an, cdv, ct, osl, rfl, lk, hcd, hD, hK⟩ := F.ex
  obtain rfl : dV = .none := hD.elim (fun z => z.2) fun z => (z.1 rfl).elim
  refine shp h ?_
  intro q hq
  simp only [r__law_code_flow, List.mem_cons, List.not_mem_nil, or_false] at hq
  rcases hq with rfl
  · refine ⟨rfl, [], .nil, fun s us ws bs X h1 h2 hp => ?_⟩
    obtain ⟨v0, v1, rfl⟩ := len2 h1
    obtain rfl := len0 h2
    obtain rfl := Option.some.inj hp
    exact .of_eq (by with_unfolding_all rfl)
theorem cp__law_known : cpSs (cpS 60 c__law_known) (defBody (st 57)) = some b__law_known := by kernel_rfl
theorem sc__law_known : FnScope r__law_known.N r__law_known.ps (defScope (st 57)) := ⟨rfl, rfl, rfl, by decide +kernel, rfl, by decide +kernel, by decide +kernel⟩
theorem ok__law_known : RowOk T (PySem.Str.ofString "_law_known") r__law_known := by
  refine ⟨sc__law_known, cp__law_known, _, rfl, fun K f fd F np ks pl h => ?_⟩
  obtain ⟨oc, od, dV, kV, doc, pm, an, cdv, ct, osl, rfl, lk, hcd, hD, hK⟩ := F.ex
  obtain rfl : dV = .none := hD.elim (fun z => z.2) fun z => (z.1 rfl).elim
  refine shp h ?_
  intro q hq
  simp only [r__law_known, List.mem_cons, List.not_mem_nil, or_false] at hq
  rcases hq with rfl
  · refine ⟨rfl, [], .nil, fun s us ws bs X h1 h2 hp => ?_⟩
    obtain rfl := len0 h1
    obtain rfl := len0 h2
    obtain rfl := Option.some.inj hp
    exact .of_eq (by with_unfolding_all rfl)
theorem cp__law_code_drawn : cpSs (cpS 60 c__law_code_drawn) (defBody (st 58)) = some b__law_code_drawn := by kernel_rfl
theorem sc__law_code_drawn : FnScope r__law_code_drawn.N r__law_code_drawn.ps (defScope (st 58)) := ⟨rfl, rfl, rfl, by decide +kernel, rfl, by decide +kernel, by decide +kernel⟩
theorem ok__law_code_drawn : RowOk T (PySem.Str.ofString "_law_code_drawn") r__law_code_drawn := by
  refine ⟨sc__law_code_drawn, cp__law_code_drawn, _, rfl, fun K f fd F np ks pl h => ?_⟩
  obtain ⟨oc, od, dV, kV, doc, pm, an, cdv, ct, osl, rfl, lk, hcd, hD, hK⟩ := F.ex
  obtain rfl : dV = .none := hD.elim (fun z => z.2) fun z => (z.1 rfl).elim
  refine shp h ?_
  intro q hq
  simp only [r__law_code_drawn, List.mem_cons, List.not_mem_nil, or_false] at hq
  rcases hq with rfl
  · refine ⟨rfl, [], .nil, fun s us ws bs X h1 h2 hp => ?_⟩
    obtain ⟨v0, v1, rfl⟩ := len2 h1
    obtain rfl := len0 h2
    obtain rfl := Option.some.inj hp
    exact .of_eq (by with_unfolding_all rfl)
theorem cp__law_run_code : cpSs (cpS 60 c__law_run_code) (defBody (st 59)) = some b__law_run_code := by kernel_rfl
theorem sc__law_run_code : FnScope r__law_run_code.N r__law_run_code.ps (defScope (st 59)) := ⟨rfl, rfl, rfl, by decide +kernel, rfl, by decide +kernel, by decide +kernel⟩
theorem ok__law_run_code : RowOk T (PySem.Str.ofString "_law_run_code") r__law_run_code := by
  refine ⟨sc__law_run_code, cp__law_run_code, _, rfl, fun K f fd F np ks pl h => ?_⟩
  obtain ⟨oc, od, dV, kV, doc, pm, an, cdv, ct, osl, rfl, lk, hcd, hD, hK⟩ := F.ex
  obtain rfl : dV = .none := hD.elim (fun z => z.2) fun z => (z.1 rfl).elim
  refine shp h ?_
  intro q hq
  simp only [r__law_run_code, List.mem_cons, List.not_mem_nil, or_false] at hq
  rcases hq with rfl
  · refine ⟨rfl, [], .nil, fun s us ws bs X h1 h2 hp => ?_⟩
    obtain ⟨v0, v1, v2, rfl⟩ := len3 h1
    obtain rfl := len0 h2
    obtain rfl := Option.some.inj hp
    exact .of_eq (by with_unfolding_all rfl)
theorem cp__law_right : cpSs (cpS 60 c__law_right) (defBody (st 60)) = some b__law_right := by kernel_rfl
theorem sc__law_right : FnScope r__law_right.N r__law_right.ps (defScope (st 60)) := ⟨rfl, rfl, rfl, by decide +kernel, rfl, by decide +kernel, by decide +kernel⟩
theorem ok__law_right : RowOk T (PySem.Str.ofString "_law_right") r__law_right := by
  refine ⟨sc__law_right, cp__law_right, _, rfl, fun K f fd F np ks pl h => ?_⟩
  obtain ⟨oc, od, dV, kV, doc, pm, an, cdv, ct, osl, rfl, lk, hcd, hD, hK⟩ := F.ex
  obtain rfl : dV = .none := hD.elim (fun z => z.2) fun z => (z.1 rfl).elim
  refine shp h ?_
  intro q hq
  simp only [r__law_right, List.mem_cons, List.not_mem_nil, or_false] at hq
  rcases hq with rfl
  · refine ⟨rfl, [], .nil, fun s us ws bs X h1 h2 hp => ?_⟩
    obtain ⟨v0, rfl⟩ := len1 h1
    obtain rfl := len0 h2
    obtain rfl := Option.some.inj hp
    exact .of_eq (by with_unfolding_all rfl)
theorem cp_law : cpSs (cpS 60 c_law) (defBody (st 61)) = some b_law := by kernel_rfl
theorem sc_law : FnScope r_law.N r_law.ps (defScope (st 61)) := ⟨rfl, rfl, rfl, by decide +kernel, rfl, by decide +kernel, by decide +kernel⟩
theorem ok_law : RowOk T (PySem.Str.ofString "law") r_law := by
  refine ⟨sc_law, cp_law, _, rfl, fun K f fd F np ks pl h => ?_⟩
  obtain ⟨oc, od, dV, kV, doc, pm, an, cdv, ct, osl, rfl, lk, hcd, hD, hK⟩ := F.ex
  obtain rfl : dV = .none := hD.elim (fun z => z.2) fun z => (z.1 rfl).elim
  refine shp h ?_
  intro q hq
  simp only [r_law, List.mem_cons, List.not_mem_nil, or_false] at hq
  rcases hq with rfl
  · refine ⟨rfl, [], .nil, fun s us ws bs X h1 h2 hp => ?_⟩
    obtain ⟨v0, rfl⟩ := len1 h1
    obtain rfl := len0 h2
    obtain rfl := Option.some.inj hp
    exact .of_eq (by with_unfolding_all rfl)
theorem ok : ∀ x r, T.rows.lookup x = some r → RowOk T x r := fun x r h => by
  have hm := lookup_mem h
  simp only [T, List.mem_cons, List.not_mem_nil, or_false, Prod.mk.injEq] at hm
  rcases hm with ⟨rfl, rfl⟩ | ⟨rfl, rfl⟩ | ⟨rfl, rfl⟩ | ⟨rfl, rfl⟩ | ⟨rfl, rfl⟩ | ⟨rfl, rfl⟩ | ⟨rfl, rfl⟩ | ⟨rfl, rfl⟩ | ⟨rfl, rfl⟩ | ⟨rfl, rfl⟩ | ⟨rfl, rfl⟩ | ⟨rfl, rfl⟩ | ⟨rfl, rfl⟩ | ⟨rfl, rfl⟩ | ⟨rfl, rfl⟩ | ⟨rfl, rfl⟩ | ⟨rfl, rfl⟩ | ⟨rfl, rfl⟩ | ⟨rfl, rfl⟩ | ⟨rfl, rfl⟩ | ⟨rfl, rfl⟩ | ⟨rfl, rfl⟩ | ⟨rfl, rfl⟩ | ⟨rfl, rfl⟩ | ⟨rfl, rfl⟩ | ⟨rfl, rfl⟩ | ⟨rfl, rfl⟩ | ⟨rfl, rfl⟩ | ⟨rfl, rfl⟩
  · exact ok_is_whole
  · exact ok_is_number
  · exact ok_is_counts
  · exact ok_is_tuple_of
  · exact ok_is_short_tuple
  · exact ok_is_one_of
  · exact ok_first_wrong
  · exact ok_is_answer
  · exact ok_wrong_answers
  · exact ok_check_answers
  · exact ok_check_most
  · exact ok_is_code_row
  · exact ok_is_code_form
  · exact ok_check_code
  · exact ok_CodeWalk___init__
  · exact ok_CodeWalk_begin
  · exact ok_CodeWalk_move
  · exact ok_outcome_by
  · exact ok_run_code
  · exact ok__law_pail
  · exact ok__law_deal
  · exact ok__law_any
  · exact ok__law_answers
  · exact ok__law_code_flow
  · exact ok__law_known
  · exact ok__law_code_drawn
  · exact ok__law_run_code
  · exact ok__law_right
  · exact ok_law
theorem hdl : ∀ q ∈ T.rows, (litVs q.2.dl).isSome = true := fun q h => by
  simp only [T, List.mem_cons, List.not_mem_nil, or_false] at h
  rcases h with rfl | rfl | rfl | rfl | rfl | rfl | rfl | rfl | rfl | rfl | rfl | rfl | rfl | rfl | rfl | rfl | rfl | rfl | rfl | rfl | rfl | rfl | rfl | rfl | rfl | rfl | rfl | rfl | rfl <;> rfl
end K36
end
section
set_option Elab.async false
set_option linter.all false
set_option maxRecDepth 100000
set_option maxHeartbeats 4000000
noncomputable section
namespace K36
open PySem CI
variable {n b : Nat} {S : Store}
/-! ### the pure side -/
inductive Rw where
  | jump (g : Nat) | ask (c g : Nat) | zero (g : Nat) | up | down | stop | out | deed (c : Nat)
abbrev sJUMP : List Nat := [106, 117, 109, 112]
abbrev sASK : List Nat := [97, 115, 107]
abbrev sZERO : List Nat := [122, 101, 114, 111]
abbrev sUP : List Nat := [117, 112]
abbrev sDOWN : List Nat := [100, 111, 119, 110]
abbrev sSTOP : List Nat := [115, 116, 111, 112]
abbrev sOUT : List Nat := [111, 117, 116]
abbrev sDEED : List Nat := [100, 101, 101, 100]
abbrev sON : List Nat := [111, 110]
def rowD : Rw → D
  | .jump g => .tup [.str sJUMP, .int (g : Int)]
  | .ask c g => .tup [.str sASK, .str [c], .int (g : Int)]
  | .zero g => .tup [.str sZERO, .int (g : Int)]
  | .up => .tup [.str sUP]
  | .down => .tup [.str sDOWN]
  | .stop => .tup [.str sSTOP]
  | .out => .tup [.str sOUT]
  | .deed c => .tup [.str sDEED, .str [c]]
def okR (m : Nat) : Rw → Prop
  | .jump g => g ≤ m
  | .ask c g => g ≤ m ∧ c ∈ [65, 66, 67, 68]
  | .zero g => g ≤ m
  | .deed c => c ∈ [101, 102, 103, 104, 105, 106, 107, 108]
  | _ => True
abbrev St := Nat × Nat
def stD (s : St) : D := .tup [.int (s.1 : Int), .int (s.2 : Int)]
inductive Mv where
  | on (s : St) | deed (c : Nat) (s : St) | ask (c : Nat) (s s' : St) | stop | out (c : Nat)
def mv (N : Nat) (rs : List Rw) (s : St) : Mv := match rs[s.1]? with
  | none => .out s.2
  | some r => match r with
    | .jump g => .on (g, s.2)
    | .ask c g => .ask c (s.1 + 1, s.2) (g, s.2)
    | .zero g => .on (if s.2 = 0 then g else s.1 + 1, s.2)
    | .up => .on (s.1 + 1, (s.2 + 1) % N)
    | .down => .on (s.1 + 1, (s.2 + N - 1) % N)
    | .stop => .stop
    | .out => .out s.2
    | .deed c => .deed c (s.1 + 1, s.2)
def mvD : Mv → D
  | .on s => .tup [.str sON, stD s]
  | .deed c s => .tup [.str sDEED, .str [c], stD s]
  | .ask c s s' => .tup [.str sASK, .str [c], stD s, stD s']
  | .stop => .tup [.str sSTOP]
  | .out c => .tup [.str sOUT, .int (c : Int)]
structure OkC (N : Nat) (rs : List Rw) : Prop where
  n1 : 1 ≤ N
  n4 : N ≤ 4
  l : rs.length ≤ 10
  r : ∀ r ∈ rs, okR rs.length r
def codeD (N : Nat) (rs : List Rw) : D := .tup [.int (N : Int), .tup (rs.map rowD)]
/-! ### globals -/
@[simp] theorem g_MC : (cfgAt T.prg n).glob (PySem.Str.ofString "MOST_COUNTS") = some (.int 4) := by rw [glob_eq]; rfl
@[simp] theorem g_MR : (cfgAt T.prg n).glob (PySem.Str.ofString "MOST_ROWS") = some (.int 600) := by rw [glob_eq]; rfl
@[simp] theorem g_MA : (cfgAt T.prg n).glob (PySem.Str.ofString "MOST_ANSWERS") = some (.int 120000) := by rw [glob_eq]; rfl
@[simp] theorem g_ME : (cfgAt T.prg n).glob (PySem.Str.ofString "MOST_EVENTS") = some (.int 100000) := by rw [glob_eq]; rfl
@[simp] theorem g_AN : (cfgAt T.prg n).glob (PySem.Str.ofString "ASK_NAMES") = some (.kt [.str [65], .str [66], .str [67], .str [68]]) := by rw [glob_eq]; rfl
@[simp] theorem g_DL : (cfgAt T.prg n).glob (PySem.Str.ofString "DEED_LETTERS") = some (.kt [.str [101], .str [102], .str [103], .str [104], .str [105], .str [106], .str [107], .str [108]]) := by rw [glob_eq]; rfl
@[simp] theorem g_AL : (cfgAt T.prg n).glob (PySem.Str.ofString "ALONE") = some (.kt [.str sUP, .str sDOWN, .str sSTOP, .str sOUT]) := by rw [glob_eq]; rfl
@[simp] theorem g_D2 : (cfgAt T.prg n).glob (PySem.Str.ofString "DEED_codework") = some (.str sDEED) := by rw [glob_eq]; rfl
@[simp] theorem g_D1 : (cfgAt T.prg n).glob (PySem.Str.ofString "DEED_signwork") = some (.str sDEED) := by rw [glob_eq]; rfl
@[simp] theorem g_A2 : (cfgAt T.prg n).glob (PySem.Str.ofString "ASK_codework") = some (.str sASK) := by rw [glob_eq]; rfl
@[simp] theorem g_A1 : (cfgAt T.prg n).glob (PySem.Str.ofString "ASK_signwork") = some (.str sASK) := by rw [glob_eq]; rfl
@[simp] theorem g_O1 : (cfgAt T.prg n).glob (PySem.Str.ofString "ON_signwork") = some (.str sON) := by rw [glob_eq]; rfl
@[simp] theorem g_O2 : (cfgAt T.prg n).glob (PySem.Str.ofString "ON_codewalk") = some (.str sON) := by rw [glob_eq]; rfl
@[simp] theorem g_JU : (cfgAt T.prg n).glob (PySem.Str.ofString "JUMP") = some (.str sJUMP) := by rw [glob_eq]; rfl
@[simp] theorem g_ZE : (cfgAt T.prg n).glob (PySem.Str.ofString "ZERO") = some (.str sZERO) := by rw [glob_eq]; rfl
@[simp] theorem g_UP : (cfgAt T.prg n).glob (PySem.Str.ofString "UP") = some (.str sUP) := by rw [glob_eq]; rfl
@[simp] theorem g_DO : (cfgAt T.prg n).glob (PySem.Str.ofString "DOWN") = some (.str sDOWN) := by rw [glob_eq]; rfl
@[simp] theorem g_SP : (cfgAt T.prg n).glob (PySem.Str.ofString "STOP") = some (.str sSTOP) := by rw [glob_eq]; rfl
@[simp] theorem g_OU : (cfgAt T.prg n).glob (PySem.Str.ofString "OUT") = some (.str sOUT) := by rw [glob_eq]; rfl
@[simp] theorem g_ST : (cfgAt T.prg n).glob (PySem.Str.ofString "STILL") = some (.str [115, 116, 105, 108, 108]) := by rw [glob_eq]; rfl
@[simp] theorem g_WA : (cfgAt T.prg n).glob (PySem.Str.ofString "WAITS") = some (.str [119, 97, 105, 116, 115]) := by rw [glob_eq]; rfl
@[simp] theorem g_MO : (cfgAt T.prg n).glob (PySem.Str.ofString "MORE") = some (.str [109, 111, 114, 101]) := by rw [glob_eq]; rfl
/-! ### forms -/
theorem k_is_whole {i : Int} : (cfgAt T.prg (n + 1)).call (PySem.Str.ofString "is_whole") [.int i] b S = .ok (.bl true) S := by
  rw [call_eq (r := r_is_whole) rfl, run_closed rfl]
  simp [r_is_whole, b_is_whole, c_is_whole, isaD, deref, asB]
theorem k_is_number {i lo hi : Int} (h1 : lo ≤ i) (h2 : i ≤ hi) : (cfgAt T.prg (n + 2)).call (PySem.Str.ofString "is_number") [.int i, .int lo, .int hi] b S = .ok (.bl true) S := by
  rw [call_eq (r := r_is_number) rfl, run_closed rfl]
  simp [r_is_number, b_is_number, c_is_number, pickA, pick, k_is_whole, cmpD, cmpI, isNon, h1, h2]
theorem k_is_counts {i : Int} (h1 : 1 ≤ i) (h2 : i ≤ 4) : (cfgAt T.prg (n + 3)).call (PySem.Str.ofString "is_counts") [.int i] b S = .ok (.bl true) S := by
  rw [call_eq (r := r_is_counts) rfl, run_closed rfl]
  simp [r_is_counts, b_is_counts, c_is_counts, pickA, pick, k_is_number h1 h2]
theorem k_is_tuple_of {ds : List D} {k : Int} (h : (ds.length : Int) = k) : (cfgAt T.prg (n + 1)).call (PySem.Str.ofString "is_tuple_of") [.tup ds, .int k] b S = .ok (.bl true) S := by
  rw [call_eq (r := r_is_tuple_of) rfl, run_closed rfl]
  simp [r_is_tuple_of, b_is_tuple_of, c_is_tuple_of, isaD, deref, h]
theorem k_is_short_tuple {ds : List D} {lo hi : Int} (h1 : lo ≤ ds.length) (h2 : (ds.length : Int) ≤ hi) : (cfgAt T.prg (n + 1)).call (PySem.Str.ofString "is_short_tuple") [.tup ds, .int lo, .int hi] b S = .ok (.bl true) S := by
  rw [call_eq (r := r_is_short_tuple) rfl, run_closed rfl]
  simp [r_is_short_tuple, b_is_short_tuple, c_is_short_tuple, isaD, deref, cmpD, cmpI, h1, h2]
theorem k_is_one_of4 {c a1 a2 a3 a4 : Nat} (h : c ∈ [a1, a2, a3, a4]) : (cfgAt T.prg (n + 1)).call (PySem.Str.ofString "is_one_of") [.str [c], .kt [.str [a1], .str [a2], .str [a3], .str [a4]]] b S = .ok (.bl true) S := by
  rw [call_eq (r := r_is_one_of) rfl, run_closed rfl]
  simp only [List.mem_cons, List.not_mem_nil, or_false] at h
  simp [r_is_one_of, b_is_one_of, c_is_one_of, isaD, deref, h]
theorem k_is_one_of8 {c a1 a2 a3 a4 a5 a6 a7 a8 : Nat} (h : c ∈ [a1, a2, a3, a4, a5, a6, a7, a8]) : (cfgAt T.prg (n + 1)).call (PySem.Str.ofString "is_one_of") [.str [c], .kt [.str [a1], .str [a2], .str [a3], .str [a4], .str [a5], .str [a6], .str [a7], .str [a8]]] b S = .ok (.bl true) S := by
  rw [call_eq (r := r_is_one_of) rfl, run_closed rfl]
  simp only [List.mem_cons, List.not_mem_nil, or_false] at h
  simp [r_is_one_of, b_is_one_of, c_is_one_of, isaD, deref, h]
theorem k_is_code_row {m : Nat} {r : Rw} (h : okR m r) : (cfgAt T.prg (n + 3)).call (PySem.Str.ofString "is_code_row") [rowD r, .int (m : Int)] b S = .ok (.bl true) S := by
  rw [call_eq (r := r_is_code_row) rfl, run_closed rfl]
  cases r with
  | jump g => simp [rowD, r_is_code_row, b_is_code_row, c_is_code_row, pickA, pick, k_is_short_tuple, isaD, deref, k_is_number (lo := 0) (hi := (m : Int)) (Int.natCast_nonneg g) (by have : g ≤ m := h; omega)]
  | ask c g => simp [rowD, r_is_code_row, b_is_code_row, c_is_code_row, pickA, pick, k_is_short_tuple, isaD, deref, k_is_number (lo := 0) (hi := (m : Int)) (Int.natCast_nonneg g) (by have : g ≤ m := h.1; omega), k_is_one_of4 h.2]
  | zero g => simp [rowD, r_is_code_row, b_is_code_row, c_is_code_row, pickA, pick, k_is_short_tuple, isaD, deref, k_is_number (lo := 0) (hi := (m : Int)) (Int.natCast_nonneg g) (by have : g ≤ m := h; omega)]
  | deed c => simp [rowD, r_is_code_row, b_is_code_row, c_is_code_row, pickA, pick, k_is_short_tuple, isaD, deref, k_is_one_of8 h]
  | _ => simp [rowD, r_is_code_row, b_is_code_row, c_is_code_row, pickA, pick, k_is_short_tuple, isaD, deref]
theorem k_is_code_form {N : Nat} {rs : List Rw} (h : OkC N rs) : (cfgAt T.prg (n + 4)).call (PySem.Str.ofString "is_code_form") [codeD N rs] b S = .ok (.bl true) S := by
  rw [call_eq (r := r_is_code_form) rfl, run_closed rfl]
  have h1 := k_is_counts (n := n) (b := S.length) (S := S) (i := (N : Int)) (by have := h.n1; omega) (by have := h.n4; omega)
  have h2 := k_is_short_tuple (n := n + 2) (b := S.length) (S := S) (ds := rs.map rowD) (lo := 0) (hi := 600) (by omega) (by have := h.l; simp; omega)
  have h3 := k_is_tuple_of (n := n + 2) (b := S.length) (S := S) (ds := [.int (N : Int), .tup (rs.map rowD)]) (k := 2) rfl
  have h4 := lcF_map (G := cfgAt T.prg (n + 3)) (b := S.length) (S := S) (tg := .tnm 1) (ifs := .nil) (elt := .call (PySem.Str.ofString "is_code_row") 2 0 [0, 1] [] (.cons (.var 1) (.cons (.bi .len (.cons (.idx (.var 0) (.lit (.int 1))) .nil)) .nil)) .nil) (vs := [1]) (k := false) (xs := rs.map rowD) (ρ := [some (codeD N rs), none]) (f := fun _ => .bl true) (by have := h.l; simp; omega) (fun x hx => by
    obtain ⟨r, hr, rfl⟩ := List.mem_map.mp hx
    refine ⟨[some (codeD N rs), some (rowD r)], rfl, rfl, ?_⟩
    simp [codeD, pickA, pick, k_is_code_row (h.r r hr)])
  have h5 : biD S .all [.lst ((rs.map rowD).map fun _ => .bl true)] = some (.bl true) := by rw [all_map (p := fun _ => true)]; simp
  have h6 : D.lst ((rs.map rowD).map fun _ => .bl true) = toldC (.lst ((rs.map rowD).map fun _ => .bl true)) := rfl
  rw [h6] at h5
  unfold codeD at h4 ⊢
  simp [r_is_code_form, b_is_code_form, c_is_code_form, pickA, pick, h1, h2, h3]
  simp only [List.map_map] at h4 h5 ⊢
  rw [h4]
  simp at h5
  simp [h5]
theorem k_check_code {N : Nat} {rs : List Rw} (h : OkC N rs) : (cfgAt T.prg (n + 5)).call (PySem.Str.ofString "check_code") [codeD N rs] b S = .ok .non S := by
  rw [call_eq (r := r_check_code) rfl, run_closed rfl]
  simp [r_check_code, b_check_code, c_check_code, pickA, pick, k_is_code_form h]
theorem k_check_most {m : Nat} (h : m ≤ 40) : (cfgAt T.prg (n + 3)).call (PySem.Str.ofString "check_most") [.int (m : Int)] b S = .ok .non S := by
  rw [call_eq (r := r_check_most) rfl, run_closed rfl]
  simp [r_check_most, b_check_most, c_check_most, pickA, pick, k_is_number (lo := 0) (hi := 100000) (Int.natCast_nonneg m) (by omega)]
def okA (as : List Nat) : Prop := as.length ≤ 8 ∧ ∀ a ∈ as, a ≤ 1
def ansD (as : List Nat) : D := .tup (as.map fun (a : Nat) => D.int (a : Int))
theorem k_is_answer {a : Nat} (h : a ≤ 1) : (cfgAt T.prg (n + 3)).call (PySem.Str.ofString "is_answer") [.int (a : Int)] b S = .ok (.bl true) S := by
  rw [call_eq (r := r_is_answer) rfl, run_closed rfl]
  simp [r_is_answer, b_is_answer, c_is_answer, pickA, pick, k_is_number (lo := 0) (hi := 1) (Int.natCast_nonneg a) (by omega)]
theorem mem_enm : ∀ {ds : List D} {k : Nat} {x : D}, x ∈ enmL k ds → ∃ (j : Nat) (d : D), d ∈ ds ∧ x = .tup [.int (j : Int), d]
  | [], _, _, h => by cases h
  | d :: ds, k, x, h => by
    unfold enmL at h
    rcases List.mem_cons.mp h with rfl | h
    · exact ⟨k, d, List.mem_cons_self, rfl⟩
    · obtain ⟨j, e, h1, h2⟩ := mem_enm h
      exact ⟨j, e, List.mem_cons_of_mem _ h1, h2⟩
theorem k_first_wrong {as : List Nat} (h : okA as) : (cfgAt T.prg (n + 4)).call (PySem.Str.ofString "first_wrong") [ansD as, .fn (PySem.Str.ofString "is_answer")] b S = .ok (.lst []) S := by
  rw [call_eq (r := r_first_wrong) rfl, run_closed rfl]
  have hA : ∀ d : D, T.arg (PySem.Str.ofString "is_answer") [d] = some [d] := fun _ => rfl
  have hh : (cfgAt T.prg (n + 3)).has (PySem.Str.ofString "is_answer") = true := by rw [has_eq]; rfl
  have key := forL_all (G := cfgAt T.prg (n + 3)) (b := S.length) (S := S) (tg := .tup (.cons (.tnm 2) (.cons (.tnm 3) .nil))) (body := .seq (.iff (.not (.tst (.callv 1 (.cons (.var 3) .nil)))) (.seq (.ret (.lst (.cons (.var 2) .nil) false)) .skip) .skip) .skip)
    (fun ρ => ∃ o1 o2, ρ = [some (ansD as), some (.fn (PySem.Str.ofString "is_answer")), o1, o2]) (fun _ => true) .non (xs := enmL 0 (as.map fun (a : Nat) => D.int (a : Int))) (fun x hx ρ hρ => by
      obtain ⟨o1, o2, rfl⟩ := hρ
      obtain ⟨j, d, hd, rfl⟩ := mem_enm hx
      obtain ⟨a, ha, rfl⟩ := List.mem_map.mp hd
      refine ⟨[some (ansD as), some (.fn (PySem.Str.ofString "is_answer")), some (.int (j : Int)), some (.int (a : Int))], rfl, ?_⟩
      rw [if_pos rfl]
      refine ⟨[some (ansD as), some (.fn (PySem.Str.ofString "is_answer")), some (.int (j : Int)), some (.int (a : Int))], ⟨_, _, rfl⟩, ?_⟩
      simp [hh, arg_eq, hA, k_is_answer (h.2 a ha)]) (ρ := [some (ansD as), some (.fn (PySem.Str.ofString "is_answer")), none, none]) (ys := enmL 0 (as.map fun (a : Nat) => D.int (a : Int))) ⟨_, _, rfl⟩
  rw [if_pos (by simp)] at key
  obtain ⟨ρ', ⟨o1, o2, rfl⟩, key⟩ := key
  have hl : (as.map fun (a : Nat) => D.int (a : Int)).length ≤ 16777216 := by have := h.1; simp; omega
  unfold ansD at key ⊢
  simp [r_first_wrong, b_first_wrong, c_first_wrong]
  rw [if_pos (by simpa using hl)]
  simp [key]
theorem k_wrong_answers {as : List Nat} (h : okA as) : (cfgAt T.prg (n + 5)).call (PySem.Str.ofString "wrong_answers") [ansD as] b S = .ok (.lst []) S := by
  rw [call_eq (r := r_wrong_answers) rfl, run_closed rfl]
  have hs : slcD S (ansD as) none (some 120000) = some (ansD as) := by
    unfold ansD
    have hl := h.1
    show some (D.tup (cutOf (as.map fun (a : Nat) => D.int (a : Int)) none (some 120000))) = _
    rw [cut_whole ⟨rfl, by
      show min (120000 : Int).toNat (as.map fun (a : Nat) => D.int (a : Int)).length = _
      simp only [List.length_map]
      omega⟩]
  have := h.1
  have hl : ¬ ((120000 : Int) < (as.length : Int)) := by omega
  have hi : isaD S (ansD as) .tuple = some true := rfl
  have hn : ∀ S : Store, biD S .len [ansD as] = some (.int (as.length : Int)) := fun S => by unfold ansD; simp
  simp [r_wrong_answers, b_wrong_answers, c_wrong_answers, pickA, pick, hi, hs, hn, hl, k_first_wrong h]
  simp [forL, stays, M.bind, hn, hl]
theorem k_check_answers {as : List Nat} (h : okA as) : (cfgAt T.prg (n + 6)).call (PySem.Str.ofString "check_answers") [ansD as] b S = .ok .non S := by
  rw [call_eq (r := r_check_answers) rfl, run_closed rfl]
  simp [r_check_answers, b_check_answers, c_check_answers, pickA, pick, k_wrong_answers h]
  simp [forL, stays, M.bind]
/-! ### the walker -/
def wkC (N : Nat) (rs : List Rw) : Cell := .ins (PySem.Str.ofString "CodeWalk") [PySem.Str.ofString "counts", PySem.Str.ofString "code_rows"] [.int (N : Int), .tup (rs.map rowD)]
theorem k_begin {d : D} : (cfgAt T.prg (n + 1)).call (PySem.Str.ofString "CodeWalk.begin") [d] b S = .ok (stD (0, 0)) S := by
  rw [call_eq (r := r_CodeWalk_begin) rfl, run_closed rfl]
  simp [r_CodeWalk_begin, b_CodeWalk_begin, c_CodeWalk_begin, stD]
theorem k_init {N : Nat} {rs : List Rw} {w : Nat} (hw : S[w]? = some (.ins (PySem.Str.ofString "CodeWalk") [] [])) : (cfgAt T.prg (n + 1)).call (PySem.Str.ofString "CodeWalk.__init__") [.ref w, codeD N rs] b S = .ok .non (S.set w (wkC N rs)) := by
  rw [call_eq (r := r_CodeWalk___init__) rfl, run_closed rfl]
  have hl : w < S.length := by
    rcases Nat.lt_or_ge w S.length with q | q
    · exact q
    · rw [List.getElem?_eq_none q] at hw; cases hw
  have hrow : ∀ r : Rw, (rowD r).low 0 = true := fun r => by cases r <;> rfl
  have hlow : (D.tup (rs.map rowD)).low 0 = true := by
    show D.lows 0 (rs.map rowD) = true
    rw [D.lows_all]
    intro d hd
    obtain ⟨r, _, rfl⟩ := List.mem_map.mp hd
    exact hrow r
  have f1 : fldK (fun x => T.cls.lookup x) (PySem.Str.ofString "CodeWalk") (PySem.Str.ofString "counts") = true := rfl
  have f2 : fldK (fun x => T.cls.lookup x) (PySem.Str.ofString "CodeWalk") (PySem.Str.ofString "code_rows") = true := rfl
  have e1 : setF (fldK (fun x => T.cls.lookup x)) S.length (.ref w) (PySem.Str.ofString "counts") (.int (N : Int)) S = .ok () (S.set w (.ins (PySem.Str.ofString "CodeWalk") [PySem.Str.ofString "counts"] [.int (N : Int)])) := by
    simp only [setF, hw]
    rw [if_pos ⟨by simp [mayPut, D.low], by decide, f1⟩]
    rfl
  have e2 : setF (fldK (fun x => T.cls.lookup x)) S.length (.ref w) (PySem.Str.ofString "code_rows") (.tup (rs.map rowD)) (S.set w (.ins (PySem.Str.ofString "CodeWalk") [PySem.Str.ofString "counts"] [.int (N : Int)])) = .ok () (S.set w (wkC N rs)) := by
    simp only [setF, List.getElem?_set_self hl]
    rw [if_pos ⟨by simp only [mayPut, hlow, Bool.or_true], by decide, f2⟩, List.set_set]
    rfl
  simp [r_CodeWalk___init__, b_CodeWalk___init__, c_CodeWalk___init__, cls_eq, codeD, e1, e2]
  unfold closeR
  simp [frz, hl]
  rw [List.take_of_length_le (by simp)]
theorem k_move {N : Nat} {rs : List Rw} {w : Nat} {s : St} (h : OkC N rs) (hw : S[w]? = some (wkC N rs)) (h1 : s.1 ≤ rs.length) (h2 : s.2 < N) : (cfgAt T.prg (n + 1)).call (PySem.Str.ofString "CodeWalk.move") [.ref w, stD s] b S = .ok (mvD (mv N rs s)) S := by
  rw [call_eq (r := r_CodeWalk_move) rfl, run_closed rfl]
  obtain ⟨p, c⟩ := s
  have f1 : ∀ S : Store, S[w]? = some (wkC N rs) → fldD (fldK (fun x => T.cls.lookup x)) S (.ref w) (PySem.Str.ofString "counts") = some (.int (N : Int)) := fun S hw => by
    simp only [fldD, insOf, hw, wkC]; rfl
  have f2 : ∀ S : Store, S[w]? = some (wkC N rs) → fldD (fldK (fun x => T.cls.lookup x)) S (.ref w) (PySem.Str.ofString "code_rows") = some (.tup (rs.map rowD)) := fun S hw => by
    simp only [fldD, insOf, hw, wkC]; rfl
  by_cases hp : p = rs.length
  · subst hp
    have hm : mv N rs (rs.length, c) = .out c := by simp [mv]
    simp [r_CodeWalk_move, b_CodeWalk_move, c_CodeWalk_move, cls_eq, stD, f2 S hw, hm, mvD]
  · have hlt : p < rs.length := by have : p ≤ rs.length := h1; omega
    have hr : (rs.map rowD)[p]? = some (rowD rs[p]) := by simp [hlt]
    have hi : ∀ S : Store, idxD S (.tup (rs.map rowD)) (.int (p : Int)) = some (rowD rs[p]) := fun S => idx_tn hr
    have hne : ¬ ((p : Int) = (rs.length : Int)) := by omega
    have n1 := h.n1
    have n4 := h.n4
    have hc : c < N := h2
    have hm : mv N rs (p, c) = (match rs[p] with
      | .jump g => .on (g, c)
      | .ask l g => .ask l (p + 1, c) (g, c)
      | .zero g => .on (if c = 0 then g else p + 1, c)
      | .up => .on (p + 1, (c + 1) % N)
      | .down => .on (p + 1, (c + N - 1) % N)
      | .stop => .stop
      | .out => .out c
      | .deed l => .deed l (p + 1, c)) := by
      unfold mv
      simp only [List.getElem?_eq_getElem hlt]
    rw [hm]
    simp [r_CodeWalk_move, b_CodeWalk_move, c_CodeWalk_move, cls_eq, stD, f1 S hw, f2 S hw, hi, hne]
    cases hrow : rs[p] with
    | jump g => simp [rowD, mvD, stD]
    | ask l g => simp [rowD, mvD, stD]
    | zero g => by_cases hc0 : c = 0 <;> simp [rowD, mvD, stD, hc0]
    | up => simp [rowD, mvD, stD, f1 S hw, mod_ii (j := (N : Int)) (by omega)]
    | down =>
      simp [rowD, mvD, stD, f1 S hw, mod_ii (j := (N : Int)) (by omega)]
      have hN : N = 1 ∨ N = 2 ∨ N = 3 ∨ N = 4 := by omega
      rcases hN with rfl | rfl | rfl | rfl <;> omega
    | stop => simp [rowD, mvD, stD]
    | out => simp [rowD, mvD, stD]
    | deed l => simp [rowD, mvD, stD]
theorem mv_ok {N : Nat} {rs : List Rw} {s : St} (h : OkC N rs) (h1 : s.1 ≤ rs.length) (h2 : s.2 < N) : match mv N rs s with
    | .on t => t.1 ≤ rs.length ∧ t.2 < N
    | .deed _ t => t.1 ≤ rs.length ∧ t.2 < N
    | .ask _ t u => (t.1 ≤ rs.length ∧ t.2 < N) ∧ (u.1 ≤ rs.length ∧ u.2 < N)
    | _ => True := by
  obtain ⟨p, c⟩ := s
  have n1 := h.n1
  have hc : c < N := h2
  unfold mv
  rcases Nat.lt_or_ge p rs.length with q | q
  · simp only [List.getElem?_eq_getElem q]
    have hr := h.r rs[p] (List.getElem_mem q)
    have m1 : (c + 1) % N < N := Nat.mod_lt _ (by omega)
    have m2 : (c + N - 1) % N < N := Nat.mod_lt _ (by omega)
    cases e : rs[p] with
    | jump g => rw [e] at hr; exact ⟨hr, hc⟩
    | ask l g => rw [e] at hr; exact ⟨⟨q, hc⟩, hr.1, hc⟩
    | zero g =>
      rw [e] at hr
      refine ⟨?_, hc⟩
      show (if c = 0 then g else p + 1) ≤ _
      split
      · exact hr
      · exact q
    | up => exact ⟨q, m1⟩
    | down => exact ⟨q, m2⟩
    | stop => trivial
    | out => trivial
    | deed l => exact ⟨q, hc⟩
  · rw [List.getElem?_eq_none q]; trivial
end K36
end
end
section
set_option Elab.async false
set_option linter.all false
set_option maxRecDepth 100000
set_option maxHeartbeats 4000000
noncomputable section
namespace K36
open PySem CI
variable {n b : Nat} {S : Store}
/-! ### stands that were seen -/
abbrev sSTILL : List Nat := [115, 116, 105, 108, 108]
def dctS (seen : List St) : Cell := .dct (seen.map stD) (seen.map fun _ => .bl true)
theorem keyEq_st {s t : St} : keyEq (stD s) (stD t) = decide (s = t) := by
  obtain ⟨a, c⟩ := s
  obtain ⟨d, e⟩ := t
  have : keyEq (stD (a, c)) (stD (d, e)) = (decide ((a : Int) = d) && (decide ((c : Int) = e) && true)) := rfl
  rw [this]
  by_cases h1 : a = d <;> by_cases h2 : c = e <;> simp [h1, h2, Int.natCast_inj]
theorem fits_st {seen : List St} {s : St} : fitsK true (seen.map stD) (stD s) = true := by
  have h : (seen.map stD).all sortK = true := by rw [List.all_eq_true]; intro x hx; obtain ⟨t, _, rfl⟩ := List.mem_map.mp hx; rfl
  show (true && ((!true && _) || (true && (true && (seen.map stD).all sortK)))) = true
  rw [h]; rfl
theorem dGet_st {s : St} : ∀ {seen : List St}, (dGet (seen.map stD) (seen.map fun _ => D.bl true) (stD s)).isSome = decide (s ∈ seen)
  | [] => rfl
  | t :: seen => by
    rw [List.map_cons, List.map_cons]
    unfold dGet
    rw [keyEq_st]
    by_cases h : t = s
    · subst h; simp
    · have h' : ¬ s = t := fun z => h z.symm
      simp only [h, decide_false, Bool.false_eq_true, if_false]
      rw [dGet_st]
      simp [h']
theorem any_st {s : St} : ∀ {seen : List St}, (seen.map stD).any (fun k => keyEq k (stD s)) = decide (s ∈ seen)
  | [] => rfl
  | t :: seen => by
    rw [List.map_cons, List.any_cons, any_st, keyEq_st]
    by_cases h : t = s
    · subst h; simp
    · have h' : ¬ s = t := fun z => h z.symm
      simp [h, h']
theorem in_seen {seen : List St} {s : St} {q : Nat} (h : S[q]? = some (dctS seen)) : inD S (stD s) (.ref q) = some (decide (s ∈ seen)) := by
  unfold inD stD
  simp only [seqOf, dctOf, h, dctS]
  rw [← dGet_st (seen := seen)]
  exact if_pos fits_st
theorem put_seen {seen : List St} {s : St} {q : Nat} (h : S[q]? = some (dctS seen)) (hn : s ∉ seen) (hl : seen.length < 100000) : setD b (.ref q) (stD s) (.bl true) S = .ok () (S.set q (dctS (seen ++ [s]))) := by
  have e : setD b (.ref q) (stD s) (.bl true) S = (if fitsK true (seen.map stD) (stD s) = true ∧ (seen.map stD).length < SZ ∧ mayPut b q (.bl true) = true ∧ mayPut b q (stD s) = true then .ok () (S.set q (.dct (dPut (seen.map stD) (seen.map fun _ => D.bl true) (stD s) (.bl true)).1 (dPut (seen.map stD) (seen.map fun _ => D.bl true) (stD s) (.bl true)).2)) else .bad) := by
    unfold setD stD
    simp only [h, dctS]
    rfl
  rw [e, if_pos ⟨fits_st, by simp only [List.length_map, SZ]; omega, by simp [mayPut, D.low], by simp [mayPut, D.low, D.lows, stD]⟩]
  have : dPut (seen.map stD) (seen.map fun _ => D.bl true) (stD s) (.bl true) = ((seen ++ [s]).map stD, (seen ++ [s]).map fun _ => D.bl true) := by
    unfold dPut
    rw [any_st, if_neg (by simpa using hn)]
    simp
  rw [this]
  rfl
/-! ### what the law calls the flow -/
def fl (N : Nat) (rs : List Rw) : Nat → List St → St → Option (Option Mv)
  | 0, _, _ => none
  | k + 1, seen, s => if s ∈ seen then some none else match mv N rs s with
    | .on t => fl N rs k (seen ++ [s]) t
    | m => some (some m)
def fwD : Option Mv → D
  | none => .tup [.str sSTILL]
  | some m => mvD m
def flB : Sm := (.seq (.iff (.cmp .isin (.var 1) (.var 3)) (.seq (.ret (.tup (.cons (.lit (.str [115, 116, 105, 108, 108])) .nil))) .skip) .skip) (.seq (.asg (.tsub (.var 3) (.var 1)) (.lit (.bl true))) (.seq (.asg (.tup (.cons (.tnm 6) (.cons (.tnm 7) .nil))) (.var 1)) (.seq (.asg (.tnm 5) (.ite (.cmp .lt (.var 6) (.bi .len (.cons (.var 4) .nil))) (.idx (.var 4) (.var 6)) (.tup (.cons (.lit (.str [111, 117, 116])) .nil)))) (.seq (.iff (.cmp .isin (.idx (.var 5) (.lit (.int 0))) (.tup (.cons (.lit (.str [111, 117, 116])) (.cons (.lit (.str [115, 116, 111, 112])) .nil)))) (.seq (.ret (.ite (.cmp .eq (.idx (.var 5) (.lit (.int 0))) (.lit (.str [111, 117, 116]))) (.tup (.cons (.lit (.str [111, 117, 116])) (.cons (.var 7) .nil))) (.var 5))) .skip) .skip) (.seq (.iff (.cmp .eq (.idx (.var 5) (.lit (.int 0))) (.lit (.str [100, 101, 101, 100]))) (.seq (.ret (.bop .add (.var 5) (.tup (.cons (.tup (.cons (.bop .add (.var 6) (.lit (.int 1))) (.cons (.var 7) .nil))) .nil)))) .skip) .skip) (.seq (.iff (.cmp .eq (.idx (.var 5) (.lit (.int 0))) (.lit (.str [97, 115, 107]))) (.seq (.ret (.bop .add (.slc (.var 5) .nil (.prt (.lit (.int 2)))) (.tup (.cons (.tup (.cons (.bop .add (.var 6) (.lit (.int 1))) (.cons (.var 7) .nil))) (.cons (.tup (.cons (.idx (.var 5) (.lit (.int 2))) (.cons (.var 7) .nil))) .nil))))) .skip) .skip) (.seq (.iff (.cmp .isin (.idx (.var 5) (.lit (.int 0))) (.tup (.cons (.lit (.str [117, 112])) (.cons (.lit (.str [100, 111, 119, 110])) .nil)))) (.seq (.asg (.tnm 1) (.tup (.cons (.bop .add (.var 6) (.lit (.int 1))) (.cons (.bop .mod (.bi .int (.cons (.bop .add (.var 7) (.ite (.cmp .eq (.idx (.var 5) (.lit (.int 0))) (.lit (.str [117, 112]))) (.lit (.int 1)) (.bop .sub (.idx (.var 0) (.lit (.int 0))) (.lit (.int 1))))) .nil)) (.idx (.var 0) (.lit (.int 0)))) .nil)))) .skip) (.seq (.asg (.tnm 1) (.tup (.cons (.ite (.or (.cmp .eq (.idx (.var 5) (.lit (.int 0))) (.lit (.str [106, 117, 109, 112]))) (.cmp .eq (.var 7) (.lit (.int 0)))) (.idx (.var 5) (.lit (.int 1))) (.bop .add (.var 6) (.lit (.int 1)))) (.cons (.var 7) .nil)))) .skip)) .skip))))))))
theorem forL_nx {G : Cfg} {tg : Ex} {body : Sm} {x : D} {xs ys : List D} {ρ ρ1 ρ2 : Rho} {S S1 S2 : Store} (h1 : asg G b tg x ρ S = .ok ρ1 S1) (h2 : exec G b body ρ1 S1 = .ok (.nx ρ2) S2) :
    forL ⟨ys, none, none⟩ (fun d ρ => M.calm (asg G b tg d ρ)) (fun ρ => exec G b body ρ) (x :: xs) ρ S = forL ⟨ys, none, none⟩ (fun d ρ => M.calm (asg G b tg d ρ)) (fun ρ => exec G b body ρ) xs ρ2 S2 := by
  show M.bind (M.calm (asg G b tg x ρ)) _ S = _
  rw [bind_of_ok (show M.calm (asg G b tg x ρ) S = .ok ρ1 S1 by unfold M.calm; rw [h1]), bind_of_ok h2]
theorem forL_rt {G : Cfg} {tg : Ex} {body : Sm} {x d : D} {xs ys : List D} {ρ ρ1 : Rho} {S S1 S2 : Store} (h1 : asg G b tg x ρ S = .ok ρ1 S1) (h2 : exec G b body ρ1 S1 = .ok (.rt d) S2) :
    forL ⟨ys, none, none⟩ (fun d ρ => M.calm (asg G b tg d ρ)) (fun ρ => exec G b body ρ) (x :: xs) ρ S = .ok (.rt d) S2 := by
  show M.bind (M.calm (asg G b tg x ρ)) _ S = _
  rw [bind_of_ok (show M.calm (asg G b tg x ρ) S = .ok ρ1 S1 by unfold M.calm; rw [h1]), bind_of_ok h2]
  rfl
theorem at_end {S0 : Store} {c : Cell} : (S0 ++ [c])[S0.length]? = some c := by simp
theorem set_end {S0 : Store} {c c' : Cell} : (S0 ++ [c]).set S0.length c' = S0 ++ [c'] := by simp
theorem fl_loop {N : Nat} {rs : List Rw} (h : OkC N rs) {S0 : Store} {f : Option Mv} {ys : List D} : ∀ {k : Nat} {seen : List St} {s : St} {xs : List D} {o2 o5 o6 o7 : Option D}, fl N rs k seen s = some f → s.1 ≤ rs.length → s.2 < N → seen.length + k ≤ 1000 → k ≤ xs.length →
    ∃ seen', forL ⟨ys, none, none⟩ (fun d ρ => M.calm (asg (cfgAt T.prg n) S0.length (.tnm 2) d ρ)) (fun ρ => exec (cfgAt T.prg n) S0.length flB ρ) xs [some (codeD N rs), some (stD s), o2, some (.ref S0.length), some (.tup (rs.map rowD)), o5, o6, o7] (S0 ++ [dctS seen]) = .ok (.rt (fwD f)) (S0 ++ [dctS seen'])
  | 0, _, _, _, _, _, _, _, e, _, _, _, _ => by cases e
  | k + 1, seen, s, [], _, _, _, _, _, _, _, _, hl => by simp at hl
  | k + 1, seen, s, x :: xs, o2, o5, o6, o7, e, h1, h2, hk, hl => by
    unfold fl at e
    have hin : inD (S0 ++ [dctS seen]) (stD s) (.ref S0.length) = some (decide (s ∈ seen)) := in_seen at_end
    by_cases hs : s ∈ seen
    · rw [if_pos hs] at e
      cases e
      refine ⟨seen, forL_rt (ρ1 := [some (codeD N rs), some (stD s), some x, some (.ref S0.length), some (.tup (rs.map rowD)), o5, o6, o7]) (S1 := S0 ++ [dctS seen]) rfl ?_⟩
      simp [flB, hin, hs, fwD]
    · rw [if_neg hs] at e
      have hput : setD S0.length (.ref S0.length) (stD s) (.bl true) (S0 ++ [dctS seen]) = .ok () (S0 ++ [dctS (seen ++ [s])]) := by
        rw [put_seen at_end hs (by omega), set_end]
      have hok := mv_ok h h1 h2
      obtain ⟨p, c⟩ := s
      have n1 := h.n1
      have n4 := h.n4
      have hc : c < N := h2
      replace hin : inD (S0 ++ [dctS seen]) (.tup [.int (p : Int), .int (c : Int)]) (.ref S0.length) = some (decide ((p, c) ∈ seen)) := hin
      replace hput : setD S0.length (.ref S0.length) (.tup [.int (p : Int), .int (c : Int)]) (.bl true) (S0 ++ [dctS seen]) = .ok () (S0 ++ [dctS (seen ++ [(p, c)])]) := hput
      by_cases hp : p = rs.length
      · subst hp
        have hm : mv N rs (rs.length, c) = .out c := by simp [mv]
        rw [hm] at e
        cases e
        refine ⟨seen ++ [(rs.length, c)], forL_rt (ρ1 := [some (codeD N rs), some (stD (rs.length, c)), some x, some (.ref S0.length), some (.tup (rs.map rowD)), o5, o6, o7]) (S1 := S0 ++ [dctS seen]) rfl ?_⟩
        simp [flB, hin, hs, hput, stD, fwD, mvD]
      · have hlt : p < rs.length := by have : p ≤ rs.length := h1; omega
        have hr : (rs.map rowD)[p]? = some (rowD rs[p]) := by simp [hlt]
        have hi : ∀ S : Store, idxD S (.tup (rs.map rowD)) (.int (p : Int)) = some (rowD rs[p]) := fun S => idx_tn hr
        have hlt' : (p : Int) < (rs.length : Int) := by omega
        have hm : mv N rs (p, c) = (match rs[p] with
          | .jump g => .on (g, c)
          | .ask l g => .ask l (p + 1, c) (g, c)
          | .zero g => .on (if c = 0 then g else p + 1, c)
          | .up => .on (p + 1, (c + 1) % N)
          | .down => .on (p + 1, (c + N - 1) % N)
          | .stop => .stop
          | .out => .out c
          | .deed l => .deed l (p + 1, c)) := by
          unfold mv
          simp only [List.getElem?_eq_getElem hlt]
          all_goals (cases rs[p] <;> rfl)
        have go : ∀ t : St, mv N rs (p, c) = .on t → exec (cfgAt T.prg n) S0.length flB [some (codeD N rs), some (stD (p, c)), some x, some (.ref S0.length), some (.tup (rs.map rowD)), o5, o6, o7] (S0 ++ [dctS seen]) =
            .ok (.nx [some (codeD N rs), some (stD t), some x, some (.ref S0.length), some (.tup (rs.map rowD)), some (rowD rs[p]), some (.int (p : Int)), some (.int (c : Int))]) (S0 ++ [dctS (seen ++ [(p, c)])]) →
            ∃ seen', forL ⟨ys, none, none⟩ (fun d ρ => M.calm (asg (cfgAt T.prg n) S0.length (.tnm 2) d ρ)) (fun ρ => exec (cfgAt T.prg n) S0.length flB ρ) (x :: xs) [some (codeD N rs), some (stD (p, c)), o2, some (.ref S0.length), some (.tup (rs.map rowD)), o5, o6, o7] (S0 ++ [dctS seen]) = .ok (.rt (fwD f)) (S0 ++ [dctS seen']) := by
          intro t ht hx
          rw [ht] at e hok
          obtain ⟨seen', q⟩ := fl_loop h (ys := ys) (o2 := some x) (o5 := some (rowD rs[p])) (o6 := some (.int (p : Int))) (o7 := some (.int (c : Int))) e hok.1 hok.2 (by simp; omega) (show k ≤ xs.length by simpa using hl)
          refine ⟨seen', ?_⟩
          rw [forL_nx (ρ1 := [some (codeD N rs), some (stD (p, c)), some x, some (.ref S0.length), some (.tup (rs.map rowD)), o5, o6, o7]) (S1 := S0 ++ [dctS seen]) rfl hx]
          exact q
        have fin : ∀ m : Mv, some (some m) = some f → exec (cfgAt T.prg n) S0.length flB [some (codeD N rs), some (stD (p, c)), some x, some (.ref S0.length), some (.tup (rs.map rowD)), o5, o6, o7] (S0 ++ [dctS seen]) =
            .ok (.rt (mvD m)) (S0 ++ [dctS (seen ++ [(p, c)])]) →
            ∃ seen', forL ⟨ys, none, none⟩ (fun d ρ => M.calm (asg (cfgAt T.prg n) S0.length (.tnm 2) d ρ)) (fun ρ => exec (cfgAt T.prg n) S0.length flB ρ) (x :: xs) [some (codeD N rs), some (stD (p, c)), o2, some (.ref S0.length), some (.tup (rs.map rowD)), o5, o6, o7] (S0 ++ [dctS seen]) = .ok (.rt (fwD f)) (S0 ++ [dctS seen']) := by
          intro m hm hx
          cases hm
          exact ⟨_, forL_rt (ρ1 := [some (codeD N rs), some (stD (p, c)), some x, some (.ref S0.length), some (.tup (rs.map rowD)), o5, o6, o7]) (S1 := S0 ++ [dctS seen]) rfl hx⟩
        cases hrow : rs[p] with
        | jump g =>
          rw [hrow] at hm
          refine go _ hm ?_
          rw [hrow] at hi ⊢
          simp [flB, hin, hs, hput, stD, hi, hlt', rowD, codeD]
        | ask l g =>
          rw [hrow] at hm
          rw [hm] at e
          refine fin _ e ?_
          rw [hrow] at hi
          simp [flB, hin, hs, hput, stD, hi, hlt', rowD, codeD, mvD, slcD, cutOf, HT.sIx]
        | zero g =>
          rw [hrow] at hm
          refine go _ hm ?_
          rw [hrow] at hi ⊢
          by_cases hc0 : c = 0
          · subst hc0
            have hin' : inD (S0 ++ [dctS seen]) (.tup [.int (p : Int), .int 0]) (.ref S0.length) = some (decide ((p, 0) ∈ seen)) := hin
            have hput' : setD S0.length (.ref S0.length) (.tup [.int (p : Int), .int 0]) (.bl true) (S0 ++ [dctS seen]) = .ok () (S0 ++ [dctS (seen ++ [(p, 0)])]) := hput
            simp [flB, hin', hs, hput', stD, hi, hlt', rowD, codeD]
          · simp [flB, hin, hs, hput, stD, hi, hlt', rowD, codeD, hc0]
        | up =>
          rw [hrow] at hm
          refine go _ hm ?_
          rw [hrow] at hi ⊢
          simp [flB, hin, hs, hput, stD, hi, hlt', rowD, codeD, mod_ii (j := (N : Int)) (by omega)]
        | down =>
          rw [hrow] at hm
          refine go _ hm ?_
          rw [hrow] at hi ⊢
          simp [flB, hin, hs, hput, stD, hi, hlt', rowD, codeD, mod_ii (j := (N : Int)) (by omega)]
          have hN : N = 1 ∨ N = 2 ∨ N = 3 ∨ N = 4 := by omega
          rcases hN with rfl | rfl | rfl | rfl <;> omega
        | stop =>
          rw [hrow] at hm
          rw [hm] at e
          refine fin _ e ?_
          rw [hrow] at hi
          simp [flB, hin, hs, hput, stD, hi, hlt', rowD, codeD, mvD]
        | out =>
          rw [hrow] at hm
          rw [hm] at e
          refine fin _ e ?_
          rw [hrow] at hi
          simp [flB, hin, hs, hput, stD, hi, hlt', rowD, codeD, mvD]
        | deed l =>
          rw [hrow] at hm
          rw [hm] at e
          refine fin _ e ?_
          rw [hrow] at hi
          simp [flB, hin, hs, hput, stD, hi, hlt', rowD, codeD, mvD]
/-! ### it ends -/
theorem nodup_le : ∀ (m : Nat) (l : List Nat), l.Nodup → (∀ x ∈ l, x < m) → l.length ≤ m
  | 0, l, _, h => by
    cases l with
    | nil => exact Nat.le_refl _
    | cons x xs => exact absurd (h x List.mem_cons_self) (Nat.not_lt_zero _)
  | m + 1, l, hn, h => by
    by_cases hm : m ∈ l
    · have h1 := nodup_le m (l.erase m) (hn.erase m) fun x hx => by
        have := (hn.mem_erase_iff).mp hx
        have := h x this.2
        omega
      rw [List.length_erase_of_mem hm] at h1
      omega
    · have := nodup_le m l hn fun x hx => by
        have h2 := h x hx
        have : x ≠ m := fun z => hm (z ▸ hx)
        omega
      omega
theorem st_le {N : Nat} {rs : List Rw} (h : OkC N rs) {l : List St} (hn : l.Nodup) (hv : ∀ t ∈ l, t.1 ≤ rs.length ∧ t.2 < N) : l.length ≤ 44 := by
  have n4 := h.n4
  have hl := h.l
  have := nodup_le 44 (l.map fun t => t.1 * 4 + t.2) (by
    rw [List.nodup_iff_pairwise_ne, List.pairwise_map]
    rw [List.nodup_iff_pairwise_ne] at hn
    refine hn.imp_of_mem fun {x y} hx hy hne e => hne ?_
    have v1 := hv x hx
    have v2 := hv y hy
    obtain ⟨a, c⟩ := x
    obtain ⟨d, f⟩ := y
    simp only at v1 v2 e
    have : a = d ∧ c = f := by omega
    rw [this.1, this.2]) (fun x hx => by
    obtain ⟨t, ht, rfl⟩ := List.mem_map.mp hx
    have := hv t ht
    omega)
  simpa using this
theorem fl_some {N : Nat} {rs : List Rw} (h : OkC N rs) : ∀ {k : Nat} {seen : List St} {s : St}, s.1 ≤ rs.length → s.2 < N → seen.Nodup → (∀ t ∈ seen, t.1 ≤ rs.length ∧ t.2 < N) → 44 < seen.length + k → ∃ f, fl N rs k seen s = some f
  | 0, seen, s, _, _, hn, hv, hl => by have := st_le h hn hv; omega
  | k + 1, seen, s, h1, h2, hn, hv, hl => by
    unfold fl
    by_cases hs : s ∈ seen
    · rw [if_pos hs]; exact ⟨_, rfl⟩
    · rw [if_neg hs]
      have hok := mv_ok h h1 h2
      cases hm : mv N rs s with
      | on t =>
        rw [hm] at hok
        refine fl_some h hok.1 hok.2 ?_ ?_ (by simp; omega)
        · rw [List.nodup_append]
          refine ⟨hn, by simp, fun x hx y hy => ?_⟩
          rw [List.mem_singleton.mp hy]
          rintro rfl
          exact hs hx
        · intro t ht
          rcases List.mem_append.mp ht with q | q
          · exact hv t q
          · rw [List.mem_singleton.mp q]; exact ⟨h1, h2⟩
      | _ => exact ⟨_, rfl⟩
theorem rng_big {m : Nat} : (rngOf 0 m).length = m := by simp [rngOf]
theorem k_flow {N : Nat} {rs : List Rw} (h : OkC N rs) {s : St} (h1 : s.1 ≤ rs.length) (h2 : s.2 < N) {f : Option Mv} (e : fl N rs 50 [] s = some f) : (cfgAt T.prg (n + 1)).call (PySem.Str.ofString "_law_code_flow") [codeD N rs, stD s] b S = .ok (fwD f) S := by
  rw [call_eq (r := r__law_code_flow) rfl, run_closed rfl]
  obtain ⟨seen', q⟩ := fl_loop (n := n) h (S0 := S) (ys := rngOf 0 1000000) (xs := rngOf 0 1000000) (o2 := none) (o5 := none) (o6 := none) (o7 := none) e h1 h2 (by decide) (by rw [rng_big]; decide)
  have hlow : ∀ m, (fwD f).low m = true := by
    intro m
    cases f with
    | none => rfl
    | some v => cases v <;> simp [fwD, mvD, stD]
  have hf : frz (S ++ [dctS seen']) S.length 64 (fwD f) = some (fwD f) := by
    show (if (fwD f).low S.length = true then some (fwD f) else _) = _
    rw [if_pos (hlow _)]
  have key : exec (cfgAt T.prg n) S.length b__law_code_flow [some (codeD N rs), some (stD s), none, none, none, none, none, none] S = .ok (.rt (fwD f)) (S ++ [dctS seen']) := by
    have hp : bopD (S ++ [Cell.dct [] []]) .pow (.int 10) (.int 6) = some (.int 1000000) := rfl
    have hi : ∀ S : Store, idxD S (codeD N rs) (.int 1) = some (.tup (rs.map rowD)) := fun S => by unfold codeD; simp
    have q' : forL ⟨rngOf 0 1000000, none, none⟩ (fun d ρ => M.calm (asg (cfgAt T.prg n) S.length (.tnm 2) d ρ)) (fun ρ => exec (cfgAt T.prg n) S.length flB ρ) (rngOf 0 1000000) [some (codeD N rs), some (stD s), none, some (.ref S.length), some (.tup (rs.map rowD)), none, none, none] (S ++ [Cell.dct [] []]) = .ok (.rt (fwD f)) (S ++ [dctS seen']) := q
    unfold flB at q'
    simp [b__law_code_flow, hp, hi, dctL, q']
  show closeR S.length (flV (exec (cfgAt T.prg n) S.length b__law_code_flow [some (codeD N rs), some (stD s), none, none, none, none, none, none] S)) = _
  rw [key]
  show closeR S.length (.ok (fwD f) (S ++ [dctS seen'])) = _
  unfold closeR
  simp only [hf]
  rw [List.take_left']
  rfl
end K36
end
end
section
set_option Elab.async false
set_option linter.all false
set_option maxRecDepth 100000
set_option maxHeartbeats 4000000
noncomputable section
namespace K36
open PySem CI
variable {n b : Nat} {S : Store}
@[simp] theorem tup_l {ds : List D} : biD S .tuple [.lst ds] = some (.tup ds) := rfl
/-! ### the law's run -/
inductive Ev where
  | deed (c : Nat) | ask (c a : Nat)
inductive En where
  | fw (m : Mv) | still | waits (c : Nat) | more
abbrev sWAITS : List Nat := [119, 97, 105, 116, 115]
abbrev sMORE : List Nat := [109, 111, 114, 101]
def evD : Ev → D
  | .deed c => .tup [.str sDEED, .str [c]]
  | .ask c a => .tup [.str sASK, .str [c], .int (a : Int)]
def enD : En → D
  | .fw m => mvD m
  | .still => .tup [.str sSTILL]
  | .waits c => .tup [.str sWAITS, .str [c]]
  | .more => .tup [.str sMORE]
def outD (o : List Ev × En) : D := .tup [.tup (o.1.map evD), enD o.2]
def nxA (x : Nat) (t u : St) : St := if x = 0 then t else u
/-- one event, or the end -/
def stp (as : List Nat) (most : Nat) (ev : List Ev) (a : Nat) (m : Option Mv) : (List Ev × En) ⊕ (List Ev × Nat × St) := match m with
  | none => .inl (ev, .still)
  | some (.ask c t u) => (match as[a]? with
    | none => .inl (ev, .waits c)
    | some x => if ev.length = most then .inl (ev, .more) else .inr (ev ++ [.ask c x], a + 1, nxA x t u))
  | some (.deed c t) => if ev.length = most then .inl (ev, .more) else .inr (ev ++ [.deed c], a, t)
  | some m => .inl (ev, .fw m)
def lr (N : Nat) (rs : List Rw) (as : List Nat) (most : Nat) : Nat → List Ev → Nat → St → Option (List Ev × En)
  | 0, _, _, _ => none
  | k + 1, ev, a, s => match fl N rs 50 [] s with
    | none => none
    | some f => (match stp as most ev a f with
      | .inl o => some o
      | .inr (ev', a', s') => lr N rs as most k ev' a' s')
def noOn : Option Mv → Prop
  | some (.on _) => False
  | _ => True
def okF (N : Nat) (rs : List Rw) : Option Mv → Prop
  | some (.deed _ t) => t.1 ≤ rs.length ∧ t.2 < N
  | some (.ask _ t u) => (t.1 ≤ rs.length ∧ t.2 < N) ∧ (u.1 ≤ rs.length ∧ u.2 < N)
  | _ => True
theorem fl_ok {N : Nat} {rs : List Rw} (h : OkC N rs) : ∀ {k : Nat} {seen : List St} {s : St} {f : Option Mv}, s.1 ≤ rs.length → s.2 < N → fl N rs k seen s = some f → noOn f ∧ okF N rs f
  | 0, _, _, _, _, _, e => by cases e
  | k + 1, seen, s, f, h1, h2, e => by
    unfold fl at e
    by_cases hs : s ∈ seen
    · rw [if_pos hs] at e; cases e; exact ⟨trivial, trivial⟩
    · rw [if_neg hs] at e
      have hok := mv_ok h h1 h2
      cases hm : mv N rs s with
      | on t =>
        rw [hm] at hok e
        exact fl_ok h hok.1 hok.2 e
      | deed c t => rw [hm] at hok e; cases e; exact ⟨trivial, hok⟩
      | ask c t u => rw [hm] at hok e; cases e; exact ⟨trivial, hok⟩
      | stop => rw [hm] at e; cases e; exact ⟨trivial, trivial⟩
      | out c => rw [hm] at e; cases e; exact ⟨trivial, trivial⟩
theorem stp_ok {N : Nat} {rs : List Rw} {as : List Nat} {most a a' : Nat} {ev ev' : List Ev} {f : Option Mv} {s' : St} (ha : a ≤ as.length) (hev : ev.length ≤ most) (ho : okF N rs f) (e : stp as most ev a f = .inr (ev', a', s')) :
    a' ≤ as.length ∧ ev'.length ≤ most ∧ s'.1 ≤ rs.length ∧ s'.2 < N ∧ ev'.length = ev.length + 1 := by
  unfold stp at e
  split at e
  · cases e
  · rename_i c t u
    cases hx : as[a]? with
    | none => rw [hx] at e; cases e
    | some x =>
      rw [hx] at e
      simp only at e
      have hlt : a < as.length := by
        rcases Nat.lt_or_ge a as.length with q | q
        · exact q
        · rw [List.getElem?_eq_none q] at hx; cases hx
      split at e
      · cases e
      · rename_i hne
        cases e
        refine ⟨hlt, by simp; omega, ?_⟩
        unfold nxA
        split
        · exact ⟨ho.1.1, ho.1.2, by simp⟩
        · exact ⟨ho.2.1, ho.2.2, by simp⟩
  · split at e
    · cases e
    · rename_i hne
      cases e
      exact ⟨ha, by simp; omega, ho.1, ho.2, by simp⟩
  · cases e
theorem lr_some {N : Nat} {rs : List Rw} {as : List Nat} {most : Nat} (h : OkC N rs) : ∀ {k : Nat} {ev : List Ev} {a : Nat} {s : St}, s.1 ≤ rs.length → s.2 < N → a ≤ as.length → ev.length ≤ most → most < ev.length + k → ∃ o, lr N rs as most k ev a s = some o
  | 0, ev, a, s, _, _, _, h3, h4 => by omega
  | k + 1, ev, a, s, h1, h2, ha, h3, h4 => by
    obtain ⟨f, e⟩ := fl_some h (k := 50) (seen := []) h1 h2 List.nodup_nil (fun t ht => (List.not_mem_nil ht).elim) (by decide)
    have ho := (fl_ok h h1 h2 e).2
    unfold lr
    rw [e]
    simp only
    cases hs : stp as most ev a f with
    | inl o => exact ⟨o, rfl⟩
    | inr q =>
      obtain ⟨ev', a', s'⟩ := q
      obtain ⟨q1, q2, q3, q4, q5⟩ := stp_ok ha h3 ho hs
      exact lr_some h q3 q4 q1 q2 (by omega)
theorem lr_len {N : Nat} {rs : List Rw} {as : List Nat} {most : Nat} (h : OkC N rs) : ∀ {k : Nat} {ev : List Ev} {a : Nat} {s : St} {o : List Ev × En}, s.1 ≤ rs.length → s.2 < N → a ≤ as.length → ev.length ≤ most → lr N rs as most k ev a s = some o → o.1.length ≤ most
  | 0, ev, a, s, o, _, _, _, h3, e => by cases e
  | k + 1, ev, a, s, o, h1, h2, ha, h3, e => by
    unfold lr at e
    cases hf : fl N rs 50 [] s with
    | none => rw [hf] at e; cases e
    | some f =>
      rw [hf] at e
      simp only at e
      have ho := (fl_ok h h1 h2 hf).2
      cases hs : stp as most ev a f with
      | inl o' =>
        rw [hs] at e
        cases e
        unfold stp at hs
        split at hs
        · cases hs; exact h3
        · split at hs
          · cases hs; exact h3
          · split at hs <;> cases hs; exact h3
        · split at hs <;> cases hs; exact h3
        · cases hs; exact h3
      | inr q =>
        obtain ⟨ev', a', s'⟩ := q
        rw [hs] at e
        obtain ⟨q1, q2, q3, q4, q5⟩ := stp_ok ha h3 ho hs
        exact lr_len h q3 q4 q1 q2 e
def lrB : Sm := (.seq (.asg (.tnm 7) (.call (PySem.Str.ofString "_law_code_flow") 2 0 [0, 1] [] (.cons (.var 0) (.cons (.var 4) .nil)) .nil)) (.seq (.iff (.cmp .notin (.idx (.var 7) (.lit (.int 0))) (.tup (.cons (.lit (.str [97, 115, 107])) (.cons (.lit (.str [100, 101, 101, 100])) .nil)))) (.seq (.ret (.tup (.cons (.bi .tuple (.cons (.var 5) .nil)) (.cons (.var 7) .nil)))) .skip) .skip) (.seq (.iff (.and (.cmp .eq (.idx (.var 7) (.lit (.int 0))) (.lit (.str [97, 115, 107]))) (.cmp .eq (.var 6) (.bi .len (.cons (.var 1) .nil)))) (.seq (.ret (.tup (.cons (.bi .tuple (.cons (.var 5) .nil)) (.cons (.tup (.cons (.lit (.str [119, 97, 105, 116, 115])) (.cons (.idx (.var 7) (.lit (.int 1))) .nil))) .nil)))) .skip) .skip) (.seq (.iff (.cmp .eq (.bi .len (.cons (.var 5) .nil)) (.var 2)) (.seq (.ret (.tup (.cons (.bi .tuple (.cons (.var 5) .nil)) (.cons (.tup (.cons (.lit (.str [109, 111, 114, 101])) .nil)) .nil)))) .skip) .skip) (.seq (.iff (.cmp .eq (.idx (.var 7) (.lit (.int 0))) (.lit (.str [100, 101, 101, 100]))) (.seq (.par (.cons (.tnm 5) (.cons (.tnm 4) .nil)) (.cons (.bop .add (.var 5) (.lst (.cons (.slc (.var 7) .nil (.prt (.lit (.int 2)))) .nil) false)) (.cons (.idx (.var 7) (.lit (.int 2))) .nil))) .skip) (.seq (.par (.cons (.tnm 5) (.cons (.tnm 4) (.cons (.tnm 6) .nil))) (.cons (.bop .add (.var 5) (.lst (.cons (.bop .add (.slc (.var 7) .nil (.prt (.lit (.int 2)))) (.tup (.cons (.idx (.var 1) (.var 6)) .nil))) .nil) false)) (.cons (.idx (.var 7) (.bop .add (.lit (.int 2)) (.idx (.var 1) (.var 6)))) (.cons (.bop .add (.var 6) (.lit (.int 1))) .nil)))) .skip)) .skip)))))
theorem ans_at {as : List Nat} {a x : Nat} (h : as[a]? = some x) : idxD S (ansD as) (.int (a : Int)) = some (.int (x : Int)) := by
  unfold ansD
  exact idx_tn (by simp [h])
theorem ans_len {as : List Nat} : biD S .len [ansD as] = some (.int (as.length : Int)) := by unfold ansD; simp
theorem lr_loop {N : Nat} {rs : List Rw} {as : List Nat} {most : Nat} (h : OkC N rs) (hA : okA as) (hm : most ≤ 40) {ys : List D} {o : List Ev × En} : ∀ {k : Nat} {ev : List Ev} {a : Nat} {s : St} {xs : List D} {o3 o7 : Option D}, lr N rs as most k ev a s = some o → s.1 ≤ rs.length → s.2 < N → a ≤ as.length → ev.length ≤ most → k ≤ xs.length →
    forL ⟨ys, none, none⟩ (fun d ρ => M.calm (asg (cfgAt T.prg (n + 1)) b (.tnm 3) d ρ)) (fun ρ => exec (cfgAt T.prg (n + 1)) b lrB ρ) xs [some (codeD N rs), some (ansD as), some (.int (most : Int)), o3, some (stD s), some (.lst (ev.map evD)), some (.int (a : Int)), o7] S = .ok (.rt (outD o)) S
  | 0, _, _, _, _, _, _, e, _, _, _, _, _ => by cases e
  | k + 1, _, _, _, [], _, _, _, _, _, _, _, hl => by simp at hl
  | k + 1, ev, a, s, x :: xs, o3, o7, e, h1, h2, ha, h3, hl => by
    unfold lr at e
    cases hf : fl N rs 50 [] s with
    | none => rw [hf] at e; cases e
    | some f =>
      rw [hf] at e
      simp only at e
      obtain ⟨hno, hok⟩ := fl_ok h h1 h2 hf
      have hflow := fun S => k_flow (n := n) (b := b) (S := S) h h1 h2 hf
      have hL : ∀ S, biD S .len [ansD as] = some (.int (as.length : Int)) := fun S => ans_len
      have hE : ∀ S, biD S .len [.lst (ev.map evD)] = some (.int (ev.length : Int)) := fun S => by simp
      have h16 : ev.length + 1 ≤ 16777216 := by omega
      have h16' : ev.length ≤ 16777216 := by omega
      have fin : ∀ o', (some o' : Option (List Ev × En)) = some o → exec (cfgAt T.prg (n + 1)) b lrB [some (codeD N rs), some (ansD as), some (.int (most : Int)), some x, some (stD s), some (.lst (ev.map evD)), some (.int (a : Int)), o7] S = .ok (.rt (outD o')) S →
          forL ⟨ys, none, none⟩ (fun d ρ => M.calm (asg (cfgAt T.prg (n + 1)) b (.tnm 3) d ρ)) (fun ρ => exec (cfgAt T.prg (n + 1)) b lrB ρ) (x :: xs) [some (codeD N rs), some (ansD as), some (.int (most : Int)), o3, some (stD s), some (.lst (ev.map evD)), some (.int (a : Int)), o7] S = .ok (.rt (outD o)) S := by
        intro o' ho hx
        cases ho
        exact forL_rt (ρ1 := [some (codeD N rs), some (ansD as), some (.int (most : Int)), some x, some (stD s), some (.lst (ev.map evD)), some (.int (a : Int)), o7]) (S1 := S) rfl hx
      have go : ∀ ev' a' s', stp as most ev a f = .inr (ev', a', s') → exec (cfgAt T.prg (n + 1)) b lrB [some (codeD N rs), some (ansD as), some (.int (most : Int)), some x, some (stD s), some (.lst (ev.map evD)), some (.int (a : Int)), o7] S =
            .ok (.nx [some (codeD N rs), some (ansD as), some (.int (most : Int)), some x, some (stD s'), some (.lst (ev'.map evD)), some (.int (a' : Int)), some (fwD f)]) S →
          forL ⟨ys, none, none⟩ (fun d ρ => M.calm (asg (cfgAt T.prg (n + 1)) b (.tnm 3) d ρ)) (fun ρ => exec (cfgAt T.prg (n + 1)) b lrB ρ) (x :: xs) [some (codeD N rs), some (ansD as), some (.int (most : Int)), o3, some (stD s), some (.lst (ev.map evD)), some (.int (a : Int)), o7] S = .ok (.rt (outD o)) S := by
        intro ev' a' s' hs hx
        rw [hs] at e
        obtain ⟨q1, q2, q3, q4, q5⟩ := stp_ok ha h3 hok hs
        rw [forL_nx (ρ1 := [some (codeD N rs), some (ansD as), some (.int (most : Int)), some x, some (stD s), some (.lst (ev.map evD)), some (.int (a : Int)), o7]) (S1 := S) rfl hx]
        exact lr_loop h hA hm e q3 q4 q1 q2 (by simpa using hl)
      have hmi : ((ev.length : Int) = (most : Int)) ↔ ev.length = most := by omega
      cases f with
      | none =>
        refine fin (ev, .still) (by rw [← e]; rfl) ?_
        simp [lrB, pickA, pick, hflow, fwD, outD, enD]
      | some m =>
        cases m with
        | on t => exact hno.elim
        | stop =>
          refine fin (ev, .fw .stop) (by rw [← e]; rfl) ?_
          simp [lrB, pickA, pick, hflow, fwD, mvD, outD, enD]
        | out c =>
          refine fin (ev, .fw (.out c)) (by rw [← e]; rfl) ?_
          simp [lrB, pickA, pick, hflow, fwD, mvD, outD, enD]
        | deed c t =>
          by_cases hM : ev.length = most
          · have hst : stp as most ev a (some (.deed c t)) = .inl (ev, .more) := by simp [stp, hM]
            refine fin (ev, .more) (by rw [← e, hst]) ?_
            simp [lrB, pickA, pick, hflow, fwD, mvD, outD, enD, hM]
          · have hst : stp as most ev a (some (.deed c t)) = .inr (ev ++ [.deed c], a, t) := by simp [stp, hM]
            refine go _ _ _ hst ?_
            have hM' : ¬ ((ev.length : Int) = (most : Int)) := by omega
            simp [lrB, pickA, pick, hflow, fwD, mvD, hM', h16, evD, slcD, cutOf, HT.sIx]
        | ask c t u =>
          cases hx : as[a]? with
          | none =>
            have hae : a = as.length := by
              rcases Nat.lt_or_ge a as.length with q | q
              · rw [List.getElem?_eq_getElem q] at hx; cases hx
              · omega
            have hst : stp as most ev a (some (.ask c t u)) = .inl (ev, .waits c) := by simp [stp, hx]
            refine fin (ev, .waits c) (by rw [← e, hst]) ?_
            simp [lrB, pickA, pick, hflow, fwD, mvD, outD, enD, hL, hae]
          | some v =>
            have hlt : a < as.length := by
              rcases Nat.lt_or_ge a as.length with q | q
              · exact q
              · rw [List.getElem?_eq_none q] at hx; cases hx
            have hne : ¬ ((a : Int) = (as.length : Int)) := by omega
            have hv : v ≤ 1 := hA.2 v (List.mem_of_getElem? hx)
            have hat : ∀ S, idxD S (ansD as) (.int (a : Int)) = some (.int (v : Int)) := fun S => ans_at hx
            by_cases hM : ev.length = most
            · have hst : stp as most ev a (some (.ask c t u)) = .inl (ev, .more) := by simp [stp, hx, hM]
              refine fin (ev, .more) (by rw [← e, hst]) ?_
              simp [lrB, pickA, pick, hflow, fwD, mvD, outD, enD, hL, hne, hM]
            · have hst : stp as most ev a (some (.ask c t u)) = .inr (ev ++ [.ask c v], a + 1, nxA v t u) := by simp [stp, hx, hM]
              refine go _ _ _ hst ?_
              have hM' : ¬ ((ev.length : Int) = (most : Int)) := by omega
              have h01 : v = 0 ∨ v = 1 := by omega
              have i2 : ∀ {S : Store} {p q r w : D}, idxD S (.tup [p, q, r, w]) (.int 3) = some w := fun {S p q r w} => idx_tn (i := 3) rfl
              rcases h01 with rfl | rfl
              · simp [lrB, pickA, pick, hflow, fwD, mvD, hL, hne, hM', h16, evD, slcD, cutOf, HT.sIx, hat, nxA]
              · simp [lrB, pickA, pick, hflow, fwD, mvD, hL, hne, hM', h16, evD, slcD, cutOf, HT.sIx, hat, nxA, i2]
end K36
end
end
section
set_option Elab.async false
set_option linter.all false
set_option maxRecDepth 100000
set_option maxHeartbeats 4000000
noncomputable section
namespace K36
open PySem CI
variable {n b : Nat} {S : Store}
theorem k_law_run {N : Nat} {rs : List Rw} {as : List Nat} {most : Nat} (h : OkC N rs) (hA : okA as) (hm : most ≤ 40) {o : List Ev × En} (e : lr N rs as most 50 [] 0 (0, 0) = some o) :
    (cfgAt T.prg (n + 2)).call (PySem.Str.ofString "_law_run_code") [codeD N rs, ansD as, .int (most : Int)] b S = .ok (outD o) S := by
  rw [call_eq (r := r__law_run_code) rfl, run_closed rfl]
  have q := lr_loop (n := n) (b := S.length) (S := S) h hA hm (ys := rngOf 0 1000000) (xs := rngOf 0 1000000) (o3 := none) (o7 := none) e (Nat.zero_le _) (by have := h.n1; show 0 < N; omega) (Nat.zero_le _) (Nat.zero_le _) (by rw [rng_big]; decide)
  have hp : bopD S .pow (.int 10) (.int 6) = some (.int 1000000) := rfl
  have q' : forL ⟨rngOf 0 1000000, none, none⟩ (fun d ρ => M.calm (asg (cfgAt T.prg (n + 1)) S.length (.tnm 3) d ρ)) (fun ρ => exec (cfgAt T.prg (n + 1)) S.length lrB ρ) (rngOf 0 1000000) [some (codeD N rs), some (ansD as), some (.int (most : Int)), none, some (.tup [.int 0, .int 0]), some (.lst []), some (.int 0), none] S = .ok (.rt (outD o)) S := q
  unfold lrB at q'
  have key : exec (cfgAt T.prg (n + 1)) S.length b__law_run_code [some (codeD N rs), some (ansD as), some (.int (most : Int)), none, none, none, none, none] S = .ok (.rt (outD o)) S := by
    simp [b__law_run_code, hp, q']
  show closeR S.length (flV (exec (cfgAt T.prg (n + 1)) S.length b__law_run_code [some (codeD N rs), some (ansD as), some (.int (most : Int)), none, none, none, none, none] S)) = _
  rw [key]
  have hl : (outD o).low S.length = true := by
    have he : (enD o.2).low S.length = true := by
      cases o.2 with
      | fw m => cases m <;> simp [enD, mvD, stD]
      | _ => simp [enD]
    have hv : D.lows S.length (o.1.map evD) = true := by
      rw [D.lows_all]
      intro d hd
      obtain ⟨v, _, rfl⟩ := List.mem_map.mp hd
      cases v <;> simp [evD]
    simp [outD, he, hv]
  exact close_low rfl hl
end K36
end
end
section
set_option Elab.async false
set_option linter.all false
set_option maxRecDepth 100000
set_option maxHeartbeats 4000000
noncomputable section
namespace K36
open PySem CI
variable {n b : Nat} {S : Store}
/-! ### the program's run -/
theorem whl_done {c : Rho → M Bool} {f : Rho → M Fl} {F : Nat} {ρ : Rho} {S : Store} (h : c ρ S = .ok false S) : whlL c f (F + 1) ρ S = .ok (.nx ρ) S := by
  unfold whlL
  rw [bind_of_ok h]
  rfl
theorem whl_ct {c : Rho → M Bool} {f : Rho → M Fl} {F : Nat} {ρ ρ2 : Rho} {S S2 : Store} (h : c ρ S = .ok true S) (h2 : f ρ S = .ok (.ct ρ2) S2) : whlL c f (F + 1) ρ S = whlL c f F ρ2 S2 := by
  rw [whlL, bind_of_ok h, if_pos rfl, bind_of_ok h2]
theorem whl_nx {c : Rho → M Bool} {f : Rho → M Fl} {F : Nat} {ρ ρ2 : Rho} {S S2 : Store} (h : c ρ S = .ok true S) (h2 : f ρ S = .ok (.nx ρ2) S2) : whlL c f (F + 1) ρ S = whlL c f F ρ2 S2 := by
  rw [whlL, bind_of_ok h, if_pos rfl, bind_of_ok h2]
theorem whl_rt {c : Rho → M Bool} {f : Rho → M Fl} {F : Nat} {ρ : Rho} {d : D} {S S2 : Store} (h : c ρ S = .ok true S) (h2 : f ρ S = .ok (.rt d) S2) : whlL c f (F + 1) ρ S = .ok (.rt d) S2 := by
  rw [whlL, bind_of_ok h, if_pos rfl, bind_of_ok h2]
  rfl
def prC : Ex := (.cmp .notin (.var 1) (.var 6))
def prB : Sm := (.seq (.asg (.tsub (.var 6) (.var 1)) (.lit (.bl true))) (.seq (.asg (.tnm 7) (.meth (.var 0) (PySem.Str.ofString "move") (.cons (.var 1) .nil))) (.seq (.iff (.cmp .eq (.idx (.var 7) (.lit (.int 0))) (.glb (PySem.Str.ofString "ON_signwork"))) (.seq (.asg (.tnm 1) (.idx (.var 7) (.lit (.int 1)))) (.seq .cont .skip)) .skip) (.seq (.iff (.cmp .notin (.idx (.var 7) (.lit (.int 0))) (.tup (.cons (.glb (PySem.Str.ofString "ASK_signwork")) (.cons (.glb (PySem.Str.ofString "DEED_signwork")) .nil)))) (.seq (.ret (.tup (.cons (.bi .tuple (.cons (.var 4) .nil)) (.cons (.var 7) .nil)))) .skip) .skip) (.seq (.iff (.and (.cmp .eq (.idx (.var 7) (.lit (.int 0))) (.glb (PySem.Str.ofString "ASK_signwork"))) (.cmp .eq (.var 5) (.bi .len (.cons (.var 2) .nil)))) (.seq (.ret (.tup (.cons (.bi .tuple (.cons (.var 4) .nil)) (.cons (.tup (.cons (.glb (PySem.Str.ofString "WAITS")) (.cons (.idx (.var 7) (.lit (.int 1))) .nil))) .nil)))) .skip) .skip) (.seq (.iff (.cmp .eq (.bi .len (.cons (.var 4) .nil)) (.var 3)) (.seq (.ret (.tup (.cons (.bi .tuple (.cons (.var 4) .nil)) (.cons (.tup (.cons (.glb (PySem.Str.ofString "MORE")) .nil)) .nil)))) .skip) .skip) (.seq (.iff (.cmp .eq (.idx (.var 7) (.lit (.int 0))) (.glb (PySem.Str.ofString "ASK_signwork"))) (.seq (.expr (.bm .append (.var 4) (.cons (.tup (.cons (.glb (PySem.Str.ofString "ASK_signwork")) (.cons (.idx (.var 7) (.lit (.int 1))) (.cons (.idx (.var 2) (.var 5)) .nil)))) .nil))) (.seq (.asg (.tnm 1) (.idx (.var 7) (.bop .add (.lit (.int 2)) (.idx (.var 2) (.var 5))))) (.seq (.asg (.tnm 5) (.bop .add (.var 5) (.lit (.int 1)))) .skip))) (.seq (.expr (.bm .append (.var 4) (.cons (.tup (.cons (.glb (PySem.Str.ofString "DEED_signwork")) (.cons (.idx (.var 7) (.lit (.int 1))) .nil))) .nil))) (.seq (.asg (.tnm 1) (.idx (.var 7) (.lit (.int 2)))) .skip))) (.seq (.asg (.tnm 6) (.dct .nil true)) .skip))))))))
structure Stt (N : Nat) (rs : List Rw) (S0 : Store) (b w E q : Nat) (ev : List Ev) (seen : List St) (S : Store) : Prop where
  gw : S[w]? = some (wkC N rs)
  ge : S[E]? = some (.lst (ev.map evD))
  gq : S[q]? = some (dctS seen)
  we : w < b
  be : b ≤ E
  bq : b ≤ q
  ne : E ≠ q
  tk : S.take b = S0
  bl : b ≤ S.length
theorem take_set' {α : Type} {l : List α} {i m : Nat} {x : α} (h : m ≤ i) : (l.set i x).take m = l.take m := by
  apply List.ext_getElem?
  intro j
  by_cases hj : j < m
  · rw [List.getElem?_take_of_lt hj, List.getElem?_take_of_lt hj, List.getElem?_set_ne (by omega)]
  · rw [List.getElem?_eq_none (by rw [List.length_take]; omega), List.getElem?_eq_none (by rw [List.length_take]; omega)]
theorem lt_of_get {α : Type} {l : List α} {i : Nat} {x : α} (h : l[i]? = some x) : i < l.length := by
  rcases Nat.lt_or_ge i l.length with q | q
  · exact q
  · rw [List.getElem?_eq_none q] at h; cases h
section
variable {N : Nat} {rs : List Rw} {S0 : Store} {w E q : Nat} {ev : List Ev} {seen : List St}
theorem Stt.put (t : Stt N rs S0 b w E q ev seen S) (s : St) : Stt N rs S0 b w E q ev (seen ++ [s]) (S.set q (dctS (seen ++ [s]))) :=
  ⟨by rw [List.getElem?_set_ne (by have := t.we; have := t.bq; omega)]; exact t.gw, by rw [List.getElem?_set_ne (fun z => t.ne z.symm)]; exact t.ge, List.getElem?_set_self (lt_of_get t.gq), t.we, t.be, t.bq, t.ne, by rw [take_set' t.bq]; exact t.tk, by rw [List.length_set]; exact t.bl⟩
theorem Stt.app (t : Stt N rs S0 b w E q ev seen S) (v : Ev) : Stt N rs S0 b w E S.length (ev ++ [v]) [] (S.set E (.lst (ev.map evD ++ [evD v])) ++ [dctS []]) := by
  have hE := lt_of_get t.ge
  have hl : (S.set E (.lst (ev.map evD ++ [evD v]))).length = S.length := List.length_set ..
  have hw := lt_of_get t.gw
  refine ⟨?_, ?_, ?_, t.we, t.be, t.bl, by omega, ?_, by simp; have := t.bl; omega⟩
  · rw [List.getElem?_append_left (by rw [hl]; exact hw), List.getElem?_set_ne (by have := t.we; have := t.be; omega)]; exact t.gw
  · rw [List.getElem?_append_left (by rw [hl]; exact hE), List.getElem?_set_self hE]; simp
  · rw [List.getElem?_append_right (by rw [hl]; exact Nat.le_refl _), hl]; simp
  · rw [List.take_append_of_le_length (by rw [hl]; exact t.bl), take_set' t.be]; exact t.tk
end
/-- what comes of it -/
def Got (N : Nat) (rs : List Rw) (S0 : Store) (b w E : Nat) (as : List Nat) (most : Nat) (o : List Ev × En) (r : CI.R Fl) : Prop :=
  (∃ S', r = .ok (.rt (outD o)) S' ∧ S'.take b = S0) ∨ ∃ s a q o7 S' seen, r = .ok (.nx [some (.ref w), some (stD s), some (ansD as), some (.int (most : Int)), some (.ref E), some (.int a), some (.ref q), o7]) S' ∧ o.2 = .still ∧ Stt N rs S0 b w E q o.1 seen S'
theorem tup_r {S : Store} {E : Nat} {ds : List D} (h : S[E]? = some (.lst ds)) : biD S .tuple [.ref E] = some (.tup ds) := by
  show (seqOf S (.ref E)).map D.tup = _
  simp only [seqOf, h]; rfl
theorem len_r {S : Store} {E : Nat} {ds : List D} (h : S[E]? = some (.lst ds)) : biD S .len [.ref E] = some (.int ds.length) := by
  show lenD S (.ref E) = _
  simp only [lenD, seqOf, h]
theorem app_r {S : Store} {E : Nat} {ds : List D} {d : D} (h : S[E]? = some (.lst ds)) (hl : ds.length < 16777216) (hb : b ≤ E) : bmM b .append (.ref E) [d] S = .ok .non (S.set E (.lst (ds ++ [d]))) := by
  simp only [bmM, h]
  rw [if_pos ⟨hl, by simp [mayPut, hb]⟩]
theorem bmT_r {S : Store} {E : Nat} {ds : List D} (h : S[E]? = some (.lst ds)) : bmTy S .append (.ref E) = some () := by
  simp only [bmTy, lstOf, h]; rfl
theorem d0 : Cell.dct [] [] = dctS [] := rfl
theorem pr_loop {N : Nat} {rs : List Rw} {as : List Nat} {most : Nat} (h : OkC N rs) (hA : okA as) (hm : most ≤ 40) {S0 : Store} {w E : Nat} {o : List Ev × En} (k j : Nat) {ev : List Ev} {a : Nat} {seen : List St} {s : St} {f : Option Mv} {q : Nat} {S : Store} {o7 : Option D} {F : Nat}
    (hf : fl N rs j seen s = some f) (he : (match stp as most ev a f with
      | .inl o' => some o'
      | .inr (ev', a', s') => lr N rs as most k ev' a' s') = some o) (h1 : s.1 ≤ rs.length) (h2 : s.2 < N) (ha : a ≤ as.length) (hev : ev.length ≤ most) (hj : seen.length + j ≤ 1000) (hF : j + 50 * k < F) (t : Stt N rs S0 b w E q ev seen S) :
    Got N rs S0 b w E as most o (whlL (fun ρ => evT (cfgAt T.prg (n + 1)) b prC ρ) (fun ρ => exec (cfgAt T.prg (n + 1)) b prB ρ) F [some (.ref w), some (stD s), some (ansD as), some (.int (most : Int)), some (.ref E), some (.int (a : Int)), some (.ref q), o7] S) := by
  match j, F, hf with
  | _, 0, _ => omega
  | 0, _, hf => cases hf
  | j + 1, F + 1, hf =>
    unfold fl at hf
    have hin := in_seen (s := s) t.gq
    by_cases hs : s ∈ seen
    · rw [if_pos hs] at hf
      cases hf
      have ho : o = (ev, .still) := (Option.some.inj he).symm
      subst ho
      refine .inr ⟨s, a, q, o7, S, seen, whl_done ?_, rfl, t⟩
      simp [prC, hin, hs]
    · rw [if_neg hs] at hf
      have hc : evT (cfgAt T.prg (n + 1)) b prC [some (.ref w), some (stD s), some (ansD as), some (.int (most : Int)), some (.ref E), some (.int (a : Int)), some (.ref q), o7] S = .ok true S := by
        simp [prC, hin, hs]
      have hput := put_seen (b := b) t.gq hs (by omega)
      have t1 := t.put s
      have hmove := k_move (n := n) (b := b) h t1.gw h1 h2
      have hins : insOf (S.set q (dctS (seen ++ [s]))) (.ref w) = some (PySem.Str.ofString "CodeWalk", [PySem.Str.ofString "counts", PySem.Str.ofString "code_rows"], [.int (N : Int), .tup (rs.map rowD)]) := by
        simp only [insOf, t1.gw, wkC]
      have hfl : (fldL [PySem.Str.ofString "counts", PySem.Str.ofString "code_rows"] [.int (N : Int), .tup (rs.map rowD)] (PySem.Str.ofString "move")).isSome = false := rfl
      have hmk : metK (fun x => T.cls.lookup x) (PySem.Str.ofString "CodeWalk") (PySem.Str.ofString "move") = some (PySem.Str.ofString "CodeWalk.move") := rfl
      have harg : T.arg (PySem.Str.ofString "CodeWalk.move") [.ref w, stD s] = some [.ref w, stD s] := rfl
      have hok := mv_ok h h1 h2
      have hT := tup_r t1.ge
      have hL := len_r t1.ge
      have hB := bmT_r t1.ge
      have hL' : ((ev.map evD).length : Int) = (ev.length : Int) := by simp
      have hA1 : ∀ d, bmM b .append (.ref E) [d] (S.set q (dctS (seen ++ [s]))) = .ok .non ((S.set q (dctS (seen ++ [s]))).set E (.lst (ev.map evD ++ [d]))) := fun d => app_r t1.ge (by simp; omega) t.be
      have hE16 : ev.length ≤ 16777216 := by omega
      have gotR : ∀ {o' : List Ev × En} {S' : Store}, some o' = some o → exec (cfgAt T.prg (n + 1)) b prB [some (.ref w), some (stD s), some (ansD as), some (.int (most : Int)), some (.ref E), some (.int (a : Int)), some (.ref q), o7] S = .ok (.rt (outD o')) S' → S'.take b = S0 →
          Got N rs S0 b w E as most o (whlL (fun ρ => evT (cfgAt T.prg (n + 1)) b prC ρ) (fun ρ => exec (cfgAt T.prg (n + 1)) b prB ρ) (F + 1) [some (.ref w), some (stD s), some (ansD as), some (.int (most : Int)), some (.ref E), some (.int (a : Int)), some (.ref q), o7] S) := by
        intro o' S' ho hx ht
        cases ho
        exact .inl ⟨S', whl_rt hc hx, ht⟩
      cases hmv : mv N rs s with
      | on u =>
        rw [hmv] at hf hok hmove
        have hx : exec (cfgAt T.prg (n + 1)) b prB [some (.ref w), some (stD s), some (ansD as), some (.int (most : Int)), some (.ref E), some (.int (a : Int)), some (.ref q), o7] S = .ok (.ct [some (.ref w), some (stD u), some (ansD as), some (.int (most : Int)), some (.ref E), some (.int (a : Int)), some (.ref q), some (mvD (.on u))]) (S.set q (dctS (seen ++ [s]))) := by
          simp [prB, hput, hins, hfl, cls_eq, arg_eq, hmk, harg, hmove, mvD]
        rw [whl_ct hc hx]
        exact pr_loop h hA hm k j hf he hok.1 hok.2 ha hev (by simp; omega) (by omega) t1
      | stop =>
        rw [hmv] at hf hmove
        cases hf
        refine gotR he ?_ t1.tk
        simp [prB, hput, hins, hfl, cls_eq, arg_eq, hmk, harg, hmove, mvD, hT, outD, enD]
      | out c =>
        rw [hmv] at hf hmove
        cases hf
        refine gotR he ?_ t1.tk
        simp [prB, hput, hins, hfl, cls_eq, arg_eq, hmk, harg, hmove, mvD, hT, outD, enD]
      | deed c u =>
        rw [hmv] at hf hmove hok
        cases hf
        by_cases hM : ev.length = most
        · have hst : stp as most ev a (some (.deed c u)) = .inl (ev, .more) := by simp [stp, hM]
          rw [hst] at he
          refine gotR he ?_ t1.tk
          have hM' : ((ev.length : Int) = (most : Int)) := by omega
          simp [prB, hput, hins, hfl, cls_eq, arg_eq, hmk, harg, hmove, mvD, hT, hL, outD, enD, hM]
        · have hst : stp as most ev a (some (.deed c u)) = .inr (ev ++ [.deed c], a, u) := by simp [stp, hM]
          rw [hst] at he
          have hM' : ¬ ((ev.length : Int) = (most : Int)) := by omega
          have t2 := t1.app (.deed c)
          have hx : exec (cfgAt T.prg (n + 1)) b prB [some (.ref w), some (stD s), some (ansD as), some (.int (most : Int)), some (.ref E), some (.int (a : Int)), some (.ref q), o7] S = .ok (.nx [some (.ref w), some (stD u), some (ansD as), some (.int (most : Int)), some (.ref E), some (.int (a : Int)), some (.ref (S.set q (dctS (seen ++ [s]))).length), some (mvD (.deed c u))])
              ((S.set q (dctS (seen ++ [s]))).set E (.lst (ev.map evD ++ [evD (.deed c)])) ++ [dctS []]) := by
            simp [prB, hput, hins, hfl, cls_eq, arg_eq, hmk, harg, hmove, mvD, hT, hL, hB, hA1, hM', evD, dctL, d0]
          rw [whl_nx hc hx]
          cases k with
          | zero => cases he
          | succ k =>
            have he := he
            simp only at he
            unfold lr at he
            cases hf2 : fl N rs 50 [] u with
            | none => rw [hf2] at he; cases he
            | some f2 =>
              rw [hf2] at he
              exact pr_loop h hA hm k 50 hf2 he hok.1 hok.2 ha (by simp; omega) (by decide) (by omega) t2
      | ask c u v =>
        rw [hmv] at hf hmove hok
        cases hf
        have hLa : ∀ S, biD S .len [ansD as] = some (.int (as.length : Int)) := fun S => ans_len
        cases hx0 : as[a]? with
        | none =>
          have hae : a = as.length := by
            rcases Nat.lt_or_ge a as.length with q | q
            · rw [List.getElem?_eq_getElem q] at hx0; cases hx0
            · omega
          have hst : stp as most ev a (some (.ask c u v)) = .inl (ev, .waits c) := by simp [stp, hx0]
          rw [hst] at he
          refine gotR he ?_ t1.tk
          simp [prB, hput, hins, hfl, cls_eq, arg_eq, hmk, harg, hmove, mvD, hT, hL, hLa, hae, outD, enD]
        | some x =>
          have hlt : a < as.length := by
            rcases Nat.lt_or_ge a as.length with q | q
            · exact q
            · rw [List.getElem?_eq_none q] at hx0; cases hx0
          have hne : ¬ ((a : Int) = (as.length : Int)) := by omega
          have hv : x ≤ 1 := hA.2 x (List.mem_of_getElem? hx0)
          have hat : ∀ S, idxD S (ansD as) (.int (a : Int)) = some (.int (x : Int)) := fun S => ans_at hx0
          by_cases hM : ev.length = most
          · have hst : stp as most ev a (some (.ask c u v)) = .inl (ev, .more) := by simp [stp, hx0, hM]
            rw [hst] at he
            refine gotR he ?_ t1.tk
            simp [prB, hput, hins, hfl, cls_eq, arg_eq, hmk, harg, hmove, mvD, hT, hL, hLa, hne, outD, enD, hM]
          · have hst : stp as most ev a (some (.ask c u v)) = .inr (ev ++ [.ask c x], a + 1, nxA x u v) := by simp [stp, hx0, hM]
            rw [hst] at he
            have hM' : ¬ ((ev.length : Int) = (most : Int)) := by omega
            have t2 := t1.app (.ask c x)
            have i2 : ∀ {S : Store} {p q r w : D}, idxD S (.tup [p, q, r, w]) (.int 3) = some w := fun {S p q r w} => idx_tn (i := 3) rfl
            have hx : exec (cfgAt T.prg (n + 1)) b prB [some (.ref w), some (stD s), some (ansD as), some (.int (most : Int)), some (.ref E), some (.int (a : Int)), some (.ref q), o7] S = .ok (.nx [some (.ref w), some (stD (nxA x u v)), some (ansD as), some (.int (most : Int)), some (.ref E), some (.int ((a + 1 : Nat) : Int)), some (.ref (S.set q (dctS (seen ++ [s]))).length), some (mvD (.ask c u v))])
                ((S.set q (dctS (seen ++ [s]))).set E (.lst (ev.map evD ++ [evD (.ask c x)])) ++ [dctS []]) := by
              have h01 : x = 0 ∨ x = 1 := by omega
              rcases h01 with rfl | rfl
              · simp [prB, hput, hins, hfl, cls_eq, arg_eq, hmk, harg, hmove, mvD, hT, hL, hLa, hne, hB, hA1, hM', evD, dctL, d0, hat, nxA]
              · simp [prB, hput, hins, hfl, cls_eq, arg_eq, hmk, harg, hmove, mvD, hT, hL, hLa, hne, hB, hA1, hM', evD, dctL, d0, hat, nxA, i2]
            rw [whl_nx hc hx]
            have hnx : (nxA x u v).1 ≤ rs.length ∧ (nxA x u v).2 < N := by
              unfold nxA
              split
              · exact hok.1
              · exact hok.2
            cases k with
            | zero => cases he
            | succ k =>
              simp only at he
              unfold lr at he
              cases hf2 : fl N rs 50 [] (nxA x u v) with
              | none => rw [hf2] at he; cases he
              | some f2 =>
                rw [hf2] at he
                exact pr_loop h hA hm k 50 hf2 he hnx.1 hnx.2 hlt (by simp; omega) (by decide) (by omega) t2
  termination_by (k, j)
end K36
end
end
section
set_option Elab.async false
set_option linter.all false
set_option maxRecDepth 100000
set_option maxHeartbeats 4000000
noncomputable section
namespace K36
open PySem CI
variable {n b : Nat} {S : Store}
theorem out_low {o : List Ev × En} {m : Nat} : (outD o).low m = true := by
  have he : (enD o.2).low m = true := by
    cases o.2 with
    | fw m => cases m <;> simp [enD, mvD, stD]
    | _ => simp [enD]
  have hv : D.lows m (o.1.map evD) = true := by
    rw [D.lows_all]
    intro d hd
    obtain ⟨v, _, rfl⟩ := List.mem_map.mp hd
    cases v <;> simp [evD]
  simp [outD, he, hv]
theorem close_out {o : List Ev × En} {S S' : Store} (h : S'.take S.length = S) : closeR S.length (.ok (outD o) S') = .ok (outD o) S := by
  have hf : frz S' S.length 64 (outD o) = some (outD o) := by
    show (if (outD o).low S.length = true then some (outD o) else _) = _
    rw [if_pos out_low]
  unfold closeR
  simp only [hf, h]
theorem k_outcome {N : Nat} {rs : List Rw} {as : List Nat} {most : Nat} (h : OkC N rs) (hA : okA as) (hm : most ≤ 40) {w : Nat} {o : List Ev × En} (hw : S[w]? = some (wkC N rs)) (hwl : w < S.length) (e : lr N rs as most 50 [] 0 (0, 0) = some o) :
    (cfgAt T.prg (n + 2)).call (PySem.Str.ofString "outcome_by") [.ref w, stD (0, 0), ansD as, .int (most : Int)] b S = .ok (outD o) S := by
  rw [call_eq (r := r_outcome_by) rfl, run_closed rfl]
  have n1 := h.n1
  unfold lr at e
  cases hf : fl N rs 50 [] (0, 0) with
  | none => rw [hf] at e; cases e
  | some f =>
    rw [hf] at e
    have t : Stt N rs S S.length w S.length (S.length + 1) [] [] (S ++ [.lst []] ++ [dctS []]) := by
      refine ⟨?_, ?_, ?_, hwl, Nat.le_refl _, Nat.le_succ _, by omega, by simp, by simp⟩
      · rw [List.append_assoc, List.getElem?_append_left hwl]; exact hw
      · simp
      · rw [List.getElem?_append_right (by simp)]; simp
    have g := pr_loop (n := n) (b := S.length) h hA hm (S0 := S) (w := w) (E := S.length) (o := o) 49 50 (ev := []) (a := 0) (seen := []) (s := (0, 0)) (q := S.length + 1) (o7 := none) (F := 100000) hf e (Nat.zero_le _) (by show 0 < N; omega) (Nat.zero_le _) (Nat.zero_le _) (by decide) (by decide) t
    have hfu : (cfgAt T.prg (n + 1)).fuel = 100000 := by rw [fuel_eq]; rfl
    have body : exec (cfgAt T.prg (n + 1)) S.length b_outcome_by [some (.ref w), some (stD (0, 0)), some (ansD as), some (.int (most : Int)), none, none, none, none] S =
        R.bnd (whlL (fun ρ => evT (cfgAt T.prg (n + 1)) S.length prC ρ) (fun ρ => exec (cfgAt T.prg (n + 1)) S.length prB ρ) 100000 [some (.ref w), some (stD (0, 0)), some (ansD as), some (.int (most : Int)), some (.ref S.length), some (.int ((0 : Nat) : Int)), some (.ref (S.length + 1)), none] (S ++ [.lst []] ++ [dctS []])) fun fl S1 => (match fl with
          | .nx ρ1 => exec (cfgAt T.prg (n + 1)) S.length (.seq (.ret (.tup (.cons (.bi .tuple (.cons (.var 4) .nil)) (.cons (.tup (.cons (.glb (PySem.Str.ofString "STILL")) .nil)) .nil)))) .skip) ρ1 S1
          | fl => .ok fl S1) := by
      have hp : exec (cfgAt T.prg (n + 1)) S.length (.par (.cons (.tnm 4) (.cons (.tnm 5) (.cons (.tnm 6) .nil))) (.cons (.lst .nil true) (.cons (.lit (.int 0)) (.cons (.dct .nil true) .nil)))) [some (.ref w), some (stD (0, 0)), some (ansD as), some (.int (most : Int)), none, none, none, none] S = .ok (.nx [some (.ref w), some (stD (0, 0)), some (ansD as), some (.int (most : Int)), some (.ref S.length), some (.int ((0 : Nat) : Int)), some (.ref (S.length + 1)), none]) (S ++ [.lst []] ++ [dctS []]) := by
        simp [dctL, d0]
      unfold b_outcome_by
      rw [x_seq, hp, bnd_ok]
      simp only []
      rw [x_seq, x_whl, hfu]
      rfl
    show closeR S.length (flV (exec (cfgAt T.prg (n + 1)) S.length b_outcome_by [some (.ref w), some (stD (0, 0)), some (ansD as), some (.int (most : Int)), none, none, none, none] S)) = _
    rw [body]
    rcases g with ⟨S', e1, e2⟩ | ⟨s, a, q, o7, S', seen, e1, e2, t'⟩
    · rw [e1]
      exact close_out e2
    · rw [e1]
      have hT := tup_r t'.ge
      have : o = (o.1, .still) := by rw [← e2]
      have hx : exec (cfgAt T.prg (n + 1)) S.length (.seq (.ret (.tup (.cons (.bi .tuple (.cons (.var 4) .nil)) (.cons (.tup (.cons (.glb (PySem.Str.ofString "STILL")) .nil)) .nil)))) .skip) [some (.ref w), some (stD s), some (ansD as), some (.int (most : Int)), some (.ref S.length), some (.int a), some (.ref q), o7] S' = .ok (.rt (outD o)) S' := by
        simp [hT, outD, enD, e2]
      show closeR S.length (flV (exec (cfgAt T.prg (n + 1)) S.length (.seq (.ret (.tup (.cons (.bi .tuple (.cons (.var 4) .nil)) (.cons (.tup (.cons (.glb (PySem.Str.ofString "STILL")) .nil)) .nil)))) .skip) [some (.ref w), some (stD s), some (ansD as), some (.int (most : Int)), some (.ref S.length), some (.int a), some (.ref q), o7] S')) = _
      rw [hx]
      exact close_out t'.tk
theorem k_run_code {N : Nat} {rs : List Rw} {as : List Nat} {most : Nat} (h : OkC N rs) (hA : okA as) (hm : most ≤ 40) {o : List Ev × En} (e : lr N rs as most 50 [] 0 (0, 0) = some o) :
    (cfgAt T.prg (n + 7)).call (PySem.Str.ofString "run_code") [codeD N rs, ansD as, .int (most : Int)] b S = .ok (outD o) S := by
  rw [call_eq (r := r_run_code) rfl, run_closed rfl]
  have hmk : metK (fun x => T.cls.lookup x) (PySem.Str.ofString "CodeWalk") (PySem.Str.ofString "__init__") = some (PySem.Str.ofString "CodeWalk.__init__") := rfl
  have hmb : metK (fun x => T.cls.lookup x) (PySem.Str.ofString "CodeWalk") (PySem.Str.ofString "begin") = some (PySem.Str.ofString "CodeWalk.begin") := rfl
  have ha1 : ∀ x y : D, T.arg (PySem.Str.ofString "CodeWalk.__init__") [x, y] = some [x, y] := fun _ _ => rfl
  have ha2 : ∀ x : D, T.arg (PySem.Str.ofString "CodeWalk.begin") [x] = some [x] := fun _ => rfl
  have hmake : mkM (T.arg) ((cfgAt T.prg (n + 6)).call) S.length (PySem.Str.ofString "CodeWalk") (PySem.Str.ofString "CodeWalk.__init__") [codeD N rs] S = .ok (.ref S.length) (S ++ [wkC N rs]) := by
    have hi := k_init (n := n + 5) (b := S.length) (N := N) (rs := rs) (S := S ++ [.ins (PySem.Str.ofString "CodeWalk") [] []]) (w := S.length) (by simp)
    rw [set_end] at hi
    unfold mkM
    rw [bind_of_ok (show alloc (.ins (PySem.Str.ofString "CodeWalk") [] []) S = .ok (.ref S.length) (S ++ [.ins (PySem.Str.ofString "CodeWalk") [] []]) from rfl), ha1, bind_of_ok (show M.lift (some [D.ref S.length, codeD N rs]) (S ++ [.ins (PySem.Str.ofString "CodeWalk") [] []]) = .ok [D.ref S.length, codeD N rs] (S ++ [.ins (PySem.Str.ofString "CodeWalk") [] []]) from rfl), bind_of_ok hi]
    rfl
  have hat : (S ++ [wkC N rs])[S.length]? = some (wkC N rs) := at_end
  have hins : insOf (S ++ [wkC N rs]) (.ref S.length) = some (PySem.Str.ofString "CodeWalk", [PySem.Str.ofString "counts", PySem.Str.ofString "code_rows"], [.int (N : Int), .tup (rs.map rowD)]) := by
    show (match (S ++ [wkC N rs])[S.length]? with
      | some (.ins c ns vs) => some (c, ns, vs)
      | _ => none) = _
    rw [hat]
    rfl
  have hfl : (fldL [PySem.Str.ofString "counts", PySem.Str.ofString "code_rows"] [.int (N : Int), .tup (rs.map rowD)] (PySem.Str.ofString "begin")).isSome = false := rfl
  have hout := k_outcome (n := n + 4) (b := S.length) h hA hm hat (by simp) e
  have key : exec (cfgAt T.prg (n + 6)) S.length b_run_code [some (codeD N rs), some (ansD as), some (.int (most : Int)), none] S = .ok (.rt (outD o)) (S ++ [wkC N rs]) := by
    simp [b_run_code, pickA, pick, k_check_code h, k_check_answers hA, k_check_most hm, cls_eq, arg_eq, hmk, hmake, hins, hfl, hmb, ha2, k_begin, hout]
  show closeR S.length (flV (exec (cfgAt T.prg (n + 6)) S.length b_run_code [some (codeD N rs), some (ansD as), some (.int (most : Int)), none] S)) = _
  rw [key]
  exact close_out (by simp)
end K36
end
end
section
set_option Elab.async false
set_option linter.all false
set_option maxRecDepth 100000
set_option maxHeartbeats 4000000
noncomputable section
namespace K36
open PySem CI
variable {n b : Nat} {S : Store}
theorem deals : Deals (cfgAt T.prg (n + 1)) := deals_of (r := r__law_deal) rfl rfl rfl rfl
theorem anys : Anys (cfgAt T.prg (n + 2)) := anys_of (r := r__law_any) deals rfl rfl rfl rfl
/-- rows as they are drawn -/
def GR (m : Nat) (y : D) : Prop := ∃ r, y = rowD r ∧ okR m r
/-- the store while rows are drawn -/
def Sd (S : Store) (n : Nat) (c : Cell) (rows : List D) : Store := S.set n c ++ [.lst rows]
theorem st_get {c : Cell} {rows : List D} (h : n < S.length) : (Sd S n c rows)[n]? = some c := by
  unfold Sd
  rw [List.getElem?_append_left (by simpa using h), List.getElem?_set_self h]
theorem st_set {c c' : Cell} {rows : List D} (h : n < S.length) : (Sd S n c rows).set n c' = Sd S n c' rows := by
  unfold Sd
  rw [List.set_append_left _ _ (by simpa using h), List.set_set]
theorem st_rows {c : Cell} {rows : List D} : (Sd S n c rows)[S.length]? = some (.lst rows) := by
  unfold Sd
  rw [List.getElem?_append_right (by simp)]
  simp
theorem st_put {c : Cell} {rows r' : List D} : (Sd S n c rows).set S.length (.lst r') = Sd S n c r' := by
  unfold Sd
  rw [List.set_append_right _ _ (by simp)]
  simp
def lpB : Sm := (.seq (.par (.cons (.tnm 6) (.cons (.tnm 7) .nil)) (.cons (.call (PySem.Str.ofString "_law_deal") 2 0 [0, 1] [] (.cons (.var 0) (.cons (.bop .add (.var 3) (.lit (.int 1))) .nil)) .nil) (.cons (.call (PySem.Str.ofString "_law_deal") 2 0 [0, 1] [] (.cons (.var 0) (.cons (.lit (.int 9)) .nil)) .nil) .nil))) (.seq (.asg (.tnm 5) (.lst (.cons (.tup (.cons (.lit (.str [106, 117, 109, 112])) (.cons (.var 6) .nil))) (.cons (.tup (.cons (.lit (.str [97, 115, 107])) (.cons (.call (PySem.Str.ofString "_law_any") 2 0 [0, 1] [] (.cons (.var 0) (.cons (.lit (.str [65, 66, 67, 68])) .nil)) .nil) (.cons (.var 6) .nil)))) (.cons (.tup (.cons (.lit (.str [122, 101, 114, 111])) (.cons (.var 6) .nil))) (.cons (.tup (.cons (.lit (.str [97, 115, 107])) (.cons (.lit (.str [65])) (.cons (.var 6) .nil)))) .nil)))) false)) (.seq (.asg (.tnm 5) (.bop .add (.var 5) (.lst (.cons (.tup (.cons (.lit (.str [117, 112])) .nil)) (.cons (.tup (.cons (.lit (.str [100, 111, 119, 110])) .nil)) (.cons (.tup (.cons (.lit (.str [115, 116, 111, 112])) .nil)) (.cons (.tup (.cons (.lit (.str [111, 117, 116])) .nil)) (.cons (.tup (.cons (.lit (.str [100, 101, 101, 100])) (.cons (.call (PySem.Str.ofString "_law_any") 2 0 [0, 1] [] (.cons (.var 0) (.cons (.lit (.str [101, 102, 103, 108])) .nil)) .nil) .nil))) .nil))))) false))) (.seq (.expr (.bm .append (.var 4) (.cons (.idx (.var 5) (.var 7)) .nil))) .skip))))
theorem body_cd : b__law_code_drawn = (.seq (.par (.cons (.tnm 3) (.cons (.tnm 4) .nil)) (.cons (.call (PySem.Str.ofString "_law_deal") 2 0 [0, 1] [] (.cons (.var 0) (.cons (.bop .add (.var 1) (.lit (.int 1))) .nil)) .nil) (.cons (.lst .nil true) .nil))) (.seq (.for_ (.tnm 2) (.rng1 (.var 3)) lpB) (.seq (.ret (.tup (.cons (.bop .add (.lit (.int 1)) (.call (PySem.Str.ofString "_law_any") 2 0 [0, 1] [] (.cons (.var 0) (.cons (.lst (.cons (.lit (.int 0)) (.cons (.lit (.int 1)) (.cons (.lit (.int 1)) (.cons (.lit (.int 2)) (.cons (.lit (.int 3)) .nil))))) false) .nil)) .nil)) (.cons (.bi .tuple (.cons (.var 4) .nil)) .nil)))) .skip))) := rfl
theorem app_eq {c : Cell} {rows : List D} {y : D} (hl : rows.length < 16777216) : bmM S.length .append (.ref S.length) [y] (Sd S n c rows) = .ok .non (Sd S n c (rows ++ [y])) := by
  simp only [bmM, st_rows]
  have : rows.length < SZ ∧ mayPut S.length S.length y = true := ⟨hl, by unfold mayPut; simp⟩
  rw [if_pos this, st_put]
theorem ty_app {c : Cell} {rows : List D} : bmTy (Sd S n c rows) .append (.ref S.length) = some () := by
  simp only [bmTy, lstOf, st_rows, Option.map_some]
theorem turn_cd {lv : Nat} {a m k many : Int} {rows : List D} {o1 o2 o5 o6 o7 : Option D} (hn : n < S.length) (ha : 0 ≤ a) (h1 : 0 ≤ many) (h2 : many < 1000) (hl : rows.length < 1000) :
    ∃ o5' o6' o7' a' m' k' y, exec (cfgAt T.prg (lv + 2)) S.length lpB [some (.ref n), o1, o2, some (.int many), some (.ref S.length), o5, o6, o7] (Sd S n (pl3 a m k) rows) =
      .ok (.nx [some (.ref n), o1, o2, some (.int many), some (.ref S.length), o5', o6', o7']) (Sd S n (pl3 a' m' k') (rows ++ [y])) ∧ GR many.toNat y ∧ 0 ≤ a' := by
  obtain ⟨f1, a1, m1, k1, e1, p1, q1, r1⟩ := deals (n := lv + 1) S.length (Sd S n (pl3 a m k) rows) n a m k (many + 1) (st_get hn) ha (by omega) (by omega)
  rw [st_set hn] at e1
  obtain ⟨f2, a2, m2, k2, e2, p2, q2, r2⟩ := deals (n := lv + 1) S.length (Sd S n (pl3 a1 m1 k1) rows) n a1 m1 k1 9 (st_get hn) r1 (by omega) (by omega)
  rw [st_set hn] at e2
  obtain ⟨x1, a3, m3, k3, hx1, e3, r3⟩ := anys (n := lv) S.length (Sd S n (pl3 a2 m2 k2) rows) n a2 m2 k2 (.str [65, 66, 67, 68]) _ (st_get hn) r2 (.inr (.inr ⟨_, rfl, rfl⟩)) (by simp) (by simp) rfl
  rw [st_set hn] at e3
  obtain ⟨x2, a4, m4, k4, hx2, e4, r4⟩ := anys (n := lv) S.length (Sd S n (pl3 a3 m3 k3) rows) n a3 m3 k3 (.str [101, 102, 103, 108]) _ (st_get hn) r3 (.inr (.inr ⟨_, rfl, rfl⟩)) (by simp) (by simp) rfl
  rw [st_set hn] at e4
  obtain ⟨c1, hc1, rfl⟩ := List.mem_map.mp hx1
  obtain ⟨c2, hc2, rfl⟩ := List.mem_map.mp hx2
  obtain ⟨j, rfl⟩ : ∃ j : Nat, f2 = (j : Int) := ⟨f2.toNat, by omega⟩
  obtain ⟨L, hL⟩ : ∃ L : List D, L = [.tup [.str sJUMP, .int f1], .tup [.str sASK, .str [c1], .int f1], .tup [.str sZERO, .int f1], .tup [.str sASK, .str [65], .int f1], .tup [.str sUP], .tup [.str sDOWN], .tup [.str sSTOP], .tup [.str sOUT], .tup [.str sDEED, .str [c2]]] := ⟨_, rfl⟩
  have hj : j < L.length := by rw [hL]; simp; omega
  obtain ⟨g, hg⟩ : ∃ g : Nat, f1 = (g : Int) := ⟨f1.toNat, by omega⟩
  have hgm : g ≤ many.toNat := by omega
  have hGR : ∀ y ∈ L, GR many.toNat y := by
    rw [hL, hg]
    intro y hy
    simp only [List.mem_cons, List.not_mem_nil, or_false] at hy
    rcases hy with rfl | rfl | rfl | rfl | rfl | rfl | rfl | rfl | rfl
    · exact ⟨.jump g, rfl, hgm⟩
    · exact ⟨.ask c1 g, rfl, hgm, hc1⟩
    · exact ⟨.zero g, rfl, hgm⟩
    · exact ⟨.ask 65 g, rfl, hgm, by simp⟩
    · exact ⟨.up, rfl, trivial⟩
    · exact ⟨.down, rfl, trivial⟩
    · exact ⟨.stop, rfl, trivial⟩
    · exact ⟨.out, rfl, trivial⟩
    · refine ⟨.deed c2, rfl, ?_⟩
      have : c2 ∈ [101, 102, 103, 108] := hc2
      simp only [List.mem_cons, List.not_mem_nil, or_false] at this
      show c2 ∈ _
      rcases this with rfl | rfl | rfl | rfl <;> simp
  have hix : ∀ S : Store, idxD S (.lst [.tup [.str sJUMP, .int f1], .tup [.str sASK, .str [c1], .int f1], .tup [.str sZERO, .int f1], .tup [.str sASK, .str [65], .int f1], .tup [.str sUP], .tup [.str sDOWN], .tup [.str sSTOP], .tup [.str sOUT], .tup [.str sDEED, .str [c2]]]) (.int (j : Int)) = some L[j] := fun S => by
    rw [← hL]; exact idx_ln (by simp [hj])
  refine ⟨some (.lst [.tup [.str sJUMP, .int f1], .tup [.str sASK, .str [c1], .int f1], .tup [.str sZERO, .int f1], .tup [.str sASK, .str [65], .int f1], .tup [.str sUP], .tup [.str sDOWN], .tup [.str sSTOP], .tup [.str sOUT], .tup [.str sDEED, .str [c2]]]), some (.int f1), some (.int (j : Int)), a4, m4, k4, L[j], ?_, hGR _ (List.getElem_mem hj), r4⟩
  simp [lpB, pickA, pick, e1, e2, e3, e4, add_ll, hix, ty_app, app_eq (show rows.length < 16777216 by omega)]
theorem rng_len {i : Int} {n : Nat} : (rngOf i n).length = n := by simp [rngOf]
theorem row_low {n : Nat} (r : Rw) : (rowD r).low n = true := by cases r <;> rfl
theorem gr_lows {n m : Nat} {rs : List D} (h : ∀ r ∈ rs, GR m r) : D.lows n rs = true := by
  rw [D.lows_all]
  intro d hd
  obtain ⟨r, rfl, _⟩ := h d hd
  exact row_low r
theorem gr_rows {m : Nat} : ∀ {rows : List D}, (∀ r ∈ rows, GR m r) → ∃ rs : List Rw, rows = rs.map rowD ∧ ∀ r ∈ rs, okR m r
  | [], _ => ⟨[], rfl, fun r h => (List.not_mem_nil h).elim⟩
  | d :: rows, h => by
    obtain ⟨r, rfl, hr⟩ := h d List.mem_cons_self
    obtain ⟨rs, rfl, hrs⟩ := gr_rows fun x hx => h x (List.mem_cons_of_mem _ hx)
    exact ⟨r :: rs, rfl, fun x hx => (List.mem_cons.mp hx).elim (fun z => by rw [z]; exact hr) (hrs x)⟩
theorem k_code_drawn {lv : Nat} {a m k : Int} (h : S[n]? = some (pl3 a m k)) (ha : 0 ≤ a) :
    ∃ N rs a' m' k', (cfgAt T.prg (lv + 3)).call (PySem.Str.ofString "_law_code_drawn") [.ref n, .int 10] b S = .ok (codeD N rs) (S.set n (pl3 a' m' k')) ∧ OkC N rs ∧ 0 ≤ a' := by
  have hn : n < S.length := by
    rcases Nat.lt_or_ge n S.length with q | q
    · exact q
    · rw [List.getElem?_eq_none q] at h; cases h
  obtain ⟨many, a1, m1, k1, e1, p1, q1, r1⟩ := deals (n := lv + 1) S.length S n a m k 11 h ha (by decide) (by decide)
  have e0 : (S.set n (pl3 a1 m1 k1)) ++ [Cell.lst []] = Sd S n (pl3 a1 m1 k1) [] := rfl
  have loop := forL_inv (G := cfgAt T.prg (lv + 2)) (b := S.length) (tg := .tnm 2) (body := lpB) (fun i ρ S' => ∃ o2 o5 o6 o7 a m k rows, ρ = [some (.ref n), some (.int 10), o2, some (.int many), some (.ref S.length), o5, o6, o7] ∧ S' = Sd S n (pl3 a m k) rows ∧ rows.length = i ∧ (∀ r ∈ rows, GR many.toNat r) ∧ 0 ≤ a)
    (xs := rngOf 0 many.toNat) (i := 0) (ys := rngOf 0 many.toNat) (ρ := [some (.ref n), some (.int 10), none, some (.int many), some (.ref S.length), none, none, none]) (S := Sd S n (pl3 a1 m1 k1) [])
    (fun j x ρ S' hx hI => by
      obtain ⟨o2, o5, o6, o7, a, m, k, rows, rfl, rfl, hr, hg, hpa⟩ := hI
      have hj : j < many.toNat := by
        rcases Nat.lt_or_ge j many.toNat with q | q
        · exact q
        · rw [List.getElem?_eq_none (by rw [rng_len]; exact q)] at hx; cases hx
      refine ⟨_, _, rfl, ?_⟩
      obtain ⟨o5', o6', o7', a', m', k', y, e, gy, ha'⟩ := turn_cd (S := S) (n := n) (lv := lv) (a := a) (m := m) (k := k) (many := many) (rows := rows) (o1 := some (.int 10)) (o2 := some x) (o5 := o5) (o6 := o6) (o7 := o7) hn hpa p1 (by omega) (by omega)
      refine ⟨_, _, e, some x, o5', o6', o7', a', m', k', rows ++ [y], rfl, rfl, by simp [hr], fun r hrm => ?_, ha'⟩
      rcases List.mem_append.mp hrm with z | z
      · exact hg r z
      · rw [List.mem_singleton.mp z]; exact gy)
    ⟨none, none, none, none, a1, m1, k1, [], rfl, rfl, rfl, fun r hr => (List.not_mem_nil hr).elim, r1⟩
  obtain ⟨ρ', S', e2, o2, o5, o6, o7, a2, m2, k2, rows, rfl, rfl, hlen, hg, r2⟩ := loop
  obtain ⟨x, a3, m3, k3, hx, e3, r3⟩ := anys (n := lv) S.length (Sd S n (pl3 a2 m2 k2) rows) n a2 m2 k2 (.lst [.int 0, .int 1, .int 1, .int 2, .int 3]) _ (st_get hn) r2 (.inl rfl) (by simp) (by simp) rfl
  rw [st_set hn] at e3
  have hc : ∃ c : Int, x = .int c ∧ 0 ≤ c ∧ c ≤ 3 := by
    simp only [List.mem_cons, List.not_mem_nil, or_false] at hx
    rcases hx with rfl | rfl | rfl | rfl | rfl <;> exact ⟨_, rfl, by decide, by decide⟩
  obtain ⟨c, rfl, c1, c2⟩ := hc
  have hrl : rows.length = many.toNat := by rw [hlen, rng_len]; omega
  obtain ⟨rs, hrs, hrok⟩ := gr_rows hg
  obtain ⟨N, hN⟩ : ∃ N : Nat, 1 + c = (N : Int) := ⟨(1 + c).toNat, by omega⟩
  have hlr : rs.length = many.toNat := by rw [← hrl, hrs, List.length_map]
  refine ⟨N, rs, a3, m3, k3, ?_, ⟨by omega, by omega, by omega, by rw [hlr]; exact hrok⟩, r3⟩
  have hcode : codeD N rs = .tup [.int (1 + c), .tup rows] := by unfold codeD; rw [hN, hrs]
  rw [hcode]
  rw [call_eq (r := r__law_code_drawn) rfl, run_closed rfl]
  show closeR S.length (flV (exec (cfgAt T.prg (lv + 2)) S.length b__law_code_drawn (startE 8 [.ref n, .int 10]) S)) = _
  rw [body_cd]
  have hm : many ≤ 16777216 := by omega
  have hm2 : (-4611686018427387904 : Int) ≤ many := by omega
  have htup : biD (Sd S n (pl3 a3 m3 k3) rows) .tuple [.ref S.length] = some (.tup rows) := by
    show (seqOf (Sd S n (pl3 a3 m3 k3) rows) (.ref S.length)).map D.tup = _
    simp only [seqOf, st_rows, Option.map_some]
  have key : exec (cfgAt T.prg (lv + 2)) S.length (.seq (.par (.cons (.tnm 3) (.cons (.tnm 4) .nil)) (.cons (.call (PySem.Str.ofString "_law_deal") 2 0 [0, 1] [] (.cons (.var 0) (.cons (.bop .add (.var 1) (.lit (.int 1))) .nil)) .nil) (.cons (.lst .nil true) .nil))) (.seq (.for_ (.tnm 2) (.rng1 (.var 3)) lpB) (.seq (.ret (.tup (.cons (.bop .add (.lit (.int 1)) (.call (PySem.Str.ofString "_law_any") 2 0 [0, 1] [] (.cons (.var 0) (.cons (.lst (.cons (.lit (.int 0)) (.cons (.lit (.int 1)) (.cons (.lit (.int 1)) (.cons (.lit (.int 2)) (.cons (.lit (.int 3)) .nil))))) false) .nil)) .nil)) (.cons (.bi .tuple (.cons (.var 4) .nil)) .nil)))) .skip))) (startE 8 [.ref n, .int 10]) S = .ok (.rt (.tup [.int (1 + c), .tup rows])) (Sd S n (pl3 a3 m3 k3) rows) := by
    simp [pickA, pick, e1, e0, hm, hm2, e2, e3, htup]
  rw [key]
  show closeR S.length (.ok (.tup [.int (1 + c), .tup rows]) (Sd S n (pl3 a3 m3 k3) rows)) = _
  have hlow : (D.tup [.int (1 + c), .tup rows]).low S.length = true := by simp [gr_lows hg]
  unfold closeR
  have hz : frz (Sd S n (pl3 a3 m3 k3) rows) S.length 64 (.tup [.int (1 + c), .tup rows]) = some (.tup [.int (1 + c), .tup rows]) := by unfold frz; rw [if_pos hlow]
  simp only [hz]
  unfold Sd
  rw [List.take_left' (by simp)]
end K36
end
end
section
set_option Elab.async false
set_option linter.all false
set_option maxRecDepth 100000
set_option maxHeartbeats 4000000
noncomputable section
namespace K36
open PySem CI
variable {n b : Nat} {S : Store}
theorem ans_of : ∀ {zs : List D}, (∀ z ∈ zs, ∃ a : Nat, z = .int (a : Int) ∧ a ≤ 1) → ∃ as : List Nat, zs = as.map (fun (a : Nat) => D.int (a : Int)) ∧ ∀ a ∈ as, a ≤ 1
  | [], _ => ⟨[], rfl, fun a h => (List.not_mem_nil h).elim⟩
  | z :: zs, h => by
    obtain ⟨a, rfl, ha⟩ := h z List.mem_cons_self
    obtain ⟨as, rfl, has⟩ := ans_of fun x hx => h x (List.mem_cons_of_mem _ hx)
    exact ⟨a :: as, rfl, fun x hx => (List.mem_cons.mp hx).elim (fun q => by rw [q]; exact ha) (has x)⟩
theorem k_answers {lv : Nat} {a m k : Int} (h : S[n]? = some (pl3 a m k)) (ha : 0 ≤ a) :
    ∃ as a' m' k', (cfgAt T.prg (lv + 3)).call (PySem.Str.ofString "_law_answers") [.ref n] b S = .ok (ansD as) (S.set n (pl3 a' m' k')) ∧ okA as ∧ 0 ≤ a' := by
  have hn : n < S.length := lt_of_get h
  obtain ⟨many, a1, m1, k1, e1, p1, q1, r1⟩ := deals (n := lv + 1) S.length S n a m k 8 h ha (by decide) (by decide)
  obtain ⟨zs, S', e2, l2, hP, a2, m2, k2, hS', r2⟩ := lcF_inv (G := cfgAt T.prg (lv + 2)) (b := S.length) (tg := .tnm 1) (elt := .call (PySem.Str.ofString "_law_deal") 2 0 [0, 1] [] (.cons (.var 0) (.cons (.lit (.int 2)) .nil)) .nil) (vs := [1]) (k := false) (xs := rngOf 0 many.toNat) (ρ := [some (.ref n), none]) (S := S.set n (pl3 a1 m1 k1))
    (fun _ S' => ∃ a m k, S' = S.set n (pl3 a m k) ∧ 0 ≤ a) (fun z => ∃ a : Nat, z = .int (a : Int) ∧ a ≤ 1) (by rw [rng_len]; omega) (fun i x S' hx hI => by
      obtain ⟨a, m, k, rfl, ha⟩ := hI
      obtain ⟨f, a2, m2, k2, e2, p2, q2, r2⟩ := deals (n := lv + 1) S.length (S.set n (pl3 a m k)) n a m k 2 (List.getElem?_set_self hn) ha (by decide) (by decide)
      rw [List.set_set] at e2
      refine ⟨[some (.ref n), some x], .int f, S.set n (pl3 a2 m2 k2), rfl, ?_, ⟨f.toNat, by rw [show ((f.toNat : Nat) : Int) = f by omega], by omega⟩, a2, m2, k2, rfl, r2⟩
      simp [pickA, pick, e2]) ⟨a1, m1, k1, rfl, r1⟩
  subst hS'
  obtain ⟨as, rfl, has⟩ := ans_of hP
  rw [rng_len] at l2
  refine ⟨as, a2, m2, k2, ?_, ⟨by rw [List.length_map] at l2; omega, has⟩, r2⟩
  rw [call_eq (r := r__law_answers) rfl, run_closed rfl]
  have hm : many ≤ 16777216 := by omega
  have hm2 : (-4611686018427387904 : Int) ≤ many := by omega
  have key : exec (cfgAt T.prg (lv + 2)) S.length b__law_answers [some (.ref n), none] S = .ok (.rt (ansD as)) (S.set n (pl3 a2 m2 k2)) := by
    simp [b__law_answers, pickA, pick, e1, hm, hm2, e2, ansD]
  show closeR S.length (flV (exec (cfgAt T.prg (lv + 2)) S.length b__law_answers [some (.ref n), none] S)) = _
  rw [key]
  have hl : (ansD as).low S.length = true := by
    unfold ansD
    rw [low_tup, D.lows_all]
    intro d hd
    obtain ⟨x, _, rfl⟩ := List.mem_map.mp hd
    rfl
  exact close_len (by simp) hl
/-! ### what is shown -/
def okM (N : Nat) : Mv → Prop
  | .deed c _ => c < 200
  | .ask c _ _ => c < 200
  | .out c => c < N
  | _ => True
theorem mv_c {N : Nat} {rs : List Rw} (h : OkC N rs) {s : St} (h2 : s.2 < N) : okM N (mv N rs s) := by
  obtain ⟨p, c⟩ := s
  unfold mv
  rcases Nat.lt_or_ge p rs.length with q | q
  · simp only [List.getElem?_eq_getElem q]
    have hr := h.r rs[p] (List.getElem_mem q)
    cases e : rs[p] with
    | ask l g =>
      rw [e] at hr
      have := hr.2
      simp only [List.mem_cons, List.not_mem_nil, or_false] at this
      show l < 200
      omega
    | deed l =>
      rw [e] at hr
      have : l ∈ [101, 102, 103, 104, 105, 106, 107, 108] := hr
      simp only [List.mem_cons, List.not_mem_nil, or_false] at this
      show l < 200
      omega
    | out => exact h2
    | _ => trivial
  · rw [List.getElem?_eq_none q]; exact h2
theorem fl_c {N : Nat} {rs : List Rw} (h : OkC N rs) : ∀ {k : Nat} {seen : List St} {s : St} {m : Mv}, s.1 ≤ rs.length → s.2 < N → fl N rs k seen s = some (some m) → okM N m
  | 0, _, _, _, _, _, e => by cases e
  | k + 1, seen, s, m, h1, h2, e => by
    unfold fl at e
    by_cases hs : s ∈ seen
    · rw [if_pos hs] at e; cases e
    · rw [if_neg hs] at e
      have hok := mv_ok h h1 h2
      have hc := mv_c h h2 (rs := rs) (s := s)
      cases hm : mv N rs s with
      | on t =>
        rw [hm] at hok e
        exact fl_c h hok.1 hok.2 e
      | _ => rw [hm] at e hc; cases e; exact hc
def okE : Ev → Prop
  | .deed c => c < 200
  | .ask c a => c < 200 ∧ a ≤ 1
def okEn : En → Prop
  | .fw (.out c) => c < 10
  | .fw .stop => True
  | .fw _ => False
  | .waits c => c < 200
  | _ => True
theorem lr_ok {N : Nat} {rs : List Rw} {as : List Nat} {most : Nat} (h : OkC N rs) (hA : okA as) : ∀ {k : Nat} {ev : List Ev} {a : Nat} {s : St} {o : List Ev × En}, s.1 ≤ rs.length → s.2 < N → a ≤ as.length → ev.length ≤ most → (∀ v ∈ ev, okE v) → lr N rs as most k ev a s = some o → (∀ v ∈ o.1, okE v) ∧ okEn o.2
  | 0, ev, a, s, o, _, _, _, _, _, e => by cases e
  | k + 1, ev, a, s, o, h1, h2, ha, h3, hv, e => by
    have n4 := h.n4
    unfold lr at e
    cases hf : fl N rs 50 [] s with
    | none => rw [hf] at e; cases e
    | some f =>
      rw [hf] at e
      simp only at e
      obtain ⟨hno, ho⟩ := fl_ok h h1 h2 hf
      have hc : ∀ m, f = some m → okM N m := fun m hm => fl_c h h1 h2 (by rw [hf, hm])
      cases hs : stp as most ev a f with
      | inl o' =>
        rw [hs] at e
        cases e
        unfold stp at hs
        split at hs
        · cases hs; exact ⟨hv, trivial⟩
        · rename_i c t u
          have := hc _ rfl
          split at hs
          · cases hs; exact ⟨hv, this⟩
          · split at hs <;> cases hs; exact ⟨hv, trivial⟩
        · split at hs <;> cases hs; exact ⟨hv, trivial⟩
        · rename_i m n1 n2
          cases hs
          refine ⟨hv, ?_⟩
          cases m with
          | on t => exact hno.elim
          | out c => have : c < N := hc _ rfl; show c < 10; omega
          | stop => trivial
          | deed c t => exact (n2 _ _ rfl).elim
          | ask c t u => exact (n1 _ _ _ rfl).elim
      | inr q =>
        obtain ⟨ev', a', s'⟩ := q
        rw [hs] at e
        obtain ⟨q1, q2, q3, q4, q5⟩ := stp_ok ha h3 ho hs
        refine lr_ok h hA q3 q4 q1 q2 ?_ e
        unfold stp at hs
        split at hs
        · cases hs
        · rename_i c t u
          have hc := hc _ rfl
          cases hx : as[a]? with
          | none => rw [hx] at hs; cases hs
          | some x =>
            rw [hx] at hs
            simp only at hs
            split at hs
            · cases hs
            · cases hs
              intro v hvm
              rcases List.mem_append.mp hvm with z | z
              · exact hv v z
              · rw [List.mem_singleton.mp z]; exact ⟨hc, hA.2 x (List.mem_of_getElem? hx)⟩
        · rename_i c t
          have hc := hc _ rfl
          split at hs
          · cases hs
          · cases hs
            intro v hvm
            rcases List.mem_append.mp hvm with z | z
            · exact hv v z
            · rw [List.mem_singleton.mp z]; exact hc
        · cases hs
theorem shw_s {s : List Nat} {k : Nat} (h : s.all (fun c => decide (c < 16 ^ 8)) = true) (hk : s.length ≤ k) : Shw 0 k (.str s) := (shw_str h).mono (Nat.le_refl _) hk
theorem shw_c {c : Nat} (h : c < 200) : Shw 0 1 (.str [c]) := shw_s (by simp; omega) (Nat.le_refl _)
theorem shw_n {c : Nat} (h : c < 200) : Shw 0 41 (.int (c : Int)) := shw_int (by omega)
theorem shw_ev {v : Ev} (h : okE v) : Shw 1 60 (evD v) := by
  cases v with
  | deed c => exact (shw_tup (shwL_cons (shw_s (k := 4) (by decide) (by decide)) (shwL_cons (shw_c h) shwL_nil))).mono (by decide) (by decide)
  | ask c a => exact (shw_tup (shwL_cons (shw_s (k := 3) (by decide) (by decide)) (shwL_cons (shw_c h.1) (shwL_cons (shw_n (by have := h.2; omega)) shwL_nil)))).mono (by decide) (by decide)
theorem shw_en {v : En} (h : okEn v) : Shw 1 60 (enD v) := by
  cases v with
  | fw m =>
    cases m with
    | stop => exact (shw_tup (shwL_cons (shw_s (k := 4) (by decide) (by decide)) shwL_nil)).mono (by decide) (by decide)
    | out c => exact (shw_tup (shwL_cons (shw_s (k := 3) (by decide) (by decide)) (shwL_cons (shw_n (by have : c < 10 := h; omega)) shwL_nil))).mono (by decide) (by decide)
    | on _ => exact h.elim
    | deed _ _ => exact h.elim
    | ask _ _ _ => exact h.elim
  | still => exact (shw_tup (shwL_cons (shw_s (k := 5) (by decide) (by decide)) shwL_nil)).mono (by decide) (by decide)
  | waits c => exact (shw_tup (shwL_cons (shw_s (k := 5) (by decide) (by decide)) (shwL_cons (shw_c h) shwL_nil))).mono (by decide) (by decide)
  | more => exact (shw_tup (shwL_cons (shw_s (k := 4) (by decide) (by decide)) shwL_nil)).mono (by decide) (by decide)
theorem shw_out {o : List Ev × En} (h1 : ∀ v ∈ o.1, okE v) (h2 : okEn o.2) (hl : o.1.length ≤ 40) : Shw 3 3000 (outD o) := by
  have hE : Shw 2 2440 (.tup (o.1.map evD)) := (shw_tup (shwL_all (n := 40) (w := 60) (dp := 1) (fun d hd => by
    obtain ⟨v, hv, rfl⟩ := List.mem_map.mp hd
    exact shw_ev (h1 v hv)) (by rw [List.length_map]; exact hl))).mono (Nat.le_refl _) (by decide)
  exact (shw_tup (shwL_cons hE (shwL_cons ((shw_en h2).mono (by decide) (Nat.le_refl _)) shwL_nil))).mono (by decide) (by decide)
theorem rep_two {o : List Ev × En} (h1 : ∀ v ∈ o.1, okE v) (h2 : okEn o.2) (hl : o.1.length ≤ 40) : ∃ z, ∀ S : Store, biD S .repr [.lst [outD o, outD o]] = some (.str z) :=
  rep_shw (shw_lst (shwL_cons (shw_out h1 h2 hl) (shwL_cons (shw_out h1 h2 hl) shwL_nil))) (by decide) (by decide) rfl
end K36
end
end
section
set_option Elab.async false
set_option linter.all false
set_option maxRecDepth 100000
set_option maxHeartbeats 4000000
noncomputable section
namespace K36
open PySem CI
variable {n b : Nat} {S : Store}
def lapB : Sm := (.seq (.par (.cons (.tnm 2) (.cons (.tnm 6) (.cons (.tnm 7) .nil))) (.cons (.call (PySem.Str.ofString "_law_code_drawn") 2 0 [0, 1] [] (.cons (.var 0) (.cons (.lit (.int 10)) .nil)) .nil) (.cons (.call (PySem.Str.ofString "_law_answers") 1 0 [0] [] (.cons (.var 0) .nil) .nil) (.cons (.call (PySem.Str.ofString "_law_any") 2 0 [0, 1] [] (.cons (.var 0) (.cons (.lst (.cons (.lit (.int 0)) (.cons (.lit (.int 1)) (.cons (.lit (.int 2)) (.cons (.lit (.int 5)) (.cons (.lit (.int 40)) .nil))))) false) .nil)) .nil) .nil)))) (.seq (.asg (.tnm 4) (.call (PySem.Str.ofString "_law_run_code") 3 0 [0, 1, 2] [] (.cons (.var 2) (.cons (.var 6) (.cons (.var 7) .nil))) .nil)) (.seq (.asg (.tnm 3) (.lst (.cons (.call (PySem.Str.ofString "run_code") 3 0 [0, 1, 2] [] (.cons (.var 2) (.cons (.var 6) (.cons (.var 7) .nil))) .nil) (.cons (.call (PySem.Str.ofString "run_code") 0 3 [2, 1, 0] [] .nil (.cons (.var 7) (.cons (.var 6) (.cons (.var 2) .nil)))) .nil)) false)) (.seq (.iff (.cmp .ne (.bi .repr (.cons (.var 3) .nil)) (.bi .repr (.cons (.lst (.cons (.var 4) (.cons (.var 4) .nil)) false) .nil))) (.seq (.ret (.lit (.bl false))) .skip) .skip) .skip))))
def tailB : Sm := (.seq (.asg (.tnm 2) (.idx (.call (PySem.Str.ofString "_law_known") 0 0 [] [] .nil .nil) (.lit (.int 1)))) (.seq (.asg (.tnm 3) (.lst (.cons (.call (PySem.Str.ofString "run_code") 3 0 [0, 1, 2] [] (.cons (.var 2) (.cons (.tup (.cons (.lit (.int 0)) .nil)) (.cons (.lit (.int 9)) .nil))) .nil) (.cons (.call (PySem.Str.ofString "run_code") 3 0 [0, 1, 2] [] (.cons (.var 2) (.cons (.tup (.cons (.lit (.int 1)) .nil)) (.cons (.lit (.int 9)) .nil))) .nil) (.cons (.call (PySem.Str.ofString "run_code") 3 0 [0, 1, 2] [] (.cons (.var 2) (.cons (.tup .nil) (.cons (.lit (.int 9)) .nil))) .nil) (.cons (.call (PySem.Str.ofString "run_code") 3 0 [0, 1, 2] [] (.cons (.var 2) (.cons (.tup (.cons (.lit (.int 1)) .nil)) (.cons (.lit (.int 1)) .nil))) .nil) .nil)))) false)) (.seq (.asg (.tnm 4) (.lst (.cons (.tup (.cons (.tup (.cons (.tup (.cons (.lit (.str [100, 101, 101, 100])) (.cons (.lit (.str [101])) .nil))) (.cons (.tup (.cons (.lit (.str [97, 115, 107])) (.cons (.lit (.str [65])) (.cons (.lit (.int 0)) .nil)))) .nil))) (.cons (.tup (.cons (.lit (.str [115, 116, 111, 112])) .nil)) .nil))) (.cons (.tup (.cons (.tup (.cons (.tup (.cons (.lit (.str [100, 101, 101, 100])) (.cons (.lit (.str [101])) .nil))) (.cons (.tup (.cons (.lit (.str [97, 115, 107])) (.cons (.lit (.str [65])) (.cons (.lit (.int 1)) .nil)))) .nil))) (.cons (.tup (.cons (.lit (.str [111, 117, 116])) (.cons (.lit (.int 0)) .nil))) .nil))) .nil)) false)) (.seq (.asg (.tnm 4) (.bop .add (.var 4) (.lst (.cons (.tup (.cons (.tup (.cons (.tup (.cons (.lit (.str [100, 101, 101, 100])) (.cons (.lit (.str [101])) .nil))) .nil)) (.cons (.tup (.cons (.lit (.str [119, 97, 105, 116, 115])) (.cons (.lit (.str [65])) .nil))) .nil))) (.cons (.tup (.cons (.tup (.cons (.tup (.cons (.lit (.str [100, 101, 101, 100])) (.cons (.lit (.str [101])) .nil))) .nil)) (.cons (.tup (.cons (.lit (.str [109, 111, 114, 101])) .nil)) .nil))) .nil)) false))) (.seq (.asg (.tnm 5) (.tup (.cons (.tup (.cons (.lit (.str [117, 112])) .nil)) (.cons (.tup (.cons (.lit (.str [122, 101, 114, 111])) (.cons (.lit (.int 3)) .nil))) (.cons (.tup (.cons (.lit (.str [106, 117, 109, 112])) (.cons (.lit (.int 0)) .nil))) (.cons (.tup (.cons (.lit (.str [111, 117, 116])) .nil)) .nil)))))) (.seq (.asg (.tnm 3) (.bop .add (.var 3) (.lst (.cons (.call (PySem.Str.ofString "run_code") 3 0 [0, 1, 2] [] (.cons (.tup (.cons (.lit (.int 3)) (.cons (.var 5) .nil))) (.cons (.tup .nil) (.cons (.lit (.int 9)) .nil))) .nil) (.cons (.call (PySem.Str.ofString "run_code") 3 0 [0, 1, 2] [] (.cons (.tup (.cons (.lit (.int 3)) (.cons (.bop .add (.slc (.var 5) .nil (.prt (.lit (.int 1)))) (.tup (.cons (.tup (.cons (.lit (.str [106, 117, 109, 112])) (.cons (.lit (.int 1)) .nil))) .nil))) .nil))) (.cons (.tup .nil) (.cons (.lit (.int 9)) .nil))) .nil) .nil)) false))) (.seq (.asg (.tnm 3) (.bop .add (.var 3) (.lst (.cons (.call (PySem.Str.ofString "run_code") 3 0 [0, 1, 2] [] (.cons (.tup (.cons (.lit (.int 1)) (.cons (.tup .nil) .nil))) (.cons (.tup .nil) (.cons (.lit (.int 0)) .nil))) .nil) .nil) false))) (.seq (.ret (.cmp .eq (.bi .repr (.cons (.var 3) .nil)) (.bi .repr (.cons (.bop .add (.var 4) (.lst (.cons (.tup (.cons (.tup .nil) (.cons (.tup (.cons (.lit (.str [111, 117, 116])) (.cons (.lit (.int 0)) .nil))) .nil))) (.cons (.tup (.cons (.tup .nil) (.cons (.tup (.cons (.lit (.str [115, 116, 105, 108, 108])) .nil)) .nil))) (.cons (.tup (.cons (.tup .nil) (.cons (.tup (.cons (.lit (.str [111, 117, 116])) (.cons (.lit (.int 0)) .nil))) .nil))) .nil))) false)) .nil)))) .skip))))))))
theorem body_rt : b__law_right = (.seq (.for_ (.tnm 1) (.rng1 (.lit (.int 12))) lapB) tailB) := rfl

theorem lap_run {lv : Nat} {a m k : Int} {o1 o2 o3 o4 o5 o6 o7 : Option D} (h : S[n]? = some (pl3 a m k)) (ha : 0 ≤ a) :
    ∃ p2 p3 p4 p6 p7 a' m' k', CI.exec (cfgAt T.prg (lv + 7)) b lapB [some (.ref n), o1, o2, o3, o4, o5, o6, o7] S = .ok (.nx [some (.ref n), o1, p2, p3, p4, o5, p6, p7]) (S.set n (pl3 a' m' k')) ∧ 0 ≤ a' := by
  have hn : n < S.length := lt_of_get h
  obtain ⟨N, rs, a1, m1, k1, e1, hC, r1⟩ := k_code_drawn (lv := lv + 4) (b := b) h ha
  obtain ⟨as, a2, m2, k2, e2, hA, r2⟩ := k_answers (lv := lv + 4) (b := b) (S := S.set n (pl3 a1 m1 k1)) (get_set hn) r1
  rw [List.set_set] at e2
  obtain ⟨x, a3, m3, k3, hx, e3, r3⟩ := anys (n := lv + 5) b (S.set n (pl3 a2 m2 k2)) n a2 m2 k2 (.lst [.int 0, .int 1, .int 2, .int 5, .int 40]) _ (get_set hn) r2 (.inl rfl) (by simp) (by simp) rfl
  rw [List.set_set] at e3
  have hq : ∃ q : Nat, x = .int (q : Int) ∧ q ≤ 40 := by
    simp only [List.mem_cons, List.not_mem_nil, or_false] at hx
    rcases hx with rfl | rfl | rfl | rfl | rfl
    · exact ⟨0, rfl, by decide⟩
    · exact ⟨1, rfl, by decide⟩
    · exact ⟨2, rfl, by decide⟩
    · exact ⟨5, rfl, by decide⟩
    · exact ⟨40, rfl, by decide⟩
  obtain ⟨q, rfl, hq⟩ := hq
  have n1 := hC.n1
  obtain ⟨o, ho⟩ := lr_some (as := as) (most := q) hC (k := 50) (ev := []) (a := 0) (s := (0, 0)) (Nat.zero_le _) (by show 0 < N; omega) (Nat.zero_le _) (Nat.zero_le _) (by show q < 0 + 50; omega)
  have l1 := lr_len hC (Nat.zero_le _) (by show 0 < N; omega) (Nat.zero_le _) (Nat.zero_le _) ho
  obtain ⟨ok1, ok2⟩ := lr_ok hC hA (Nat.zero_le _) (by show 0 < N; omega) (Nat.zero_le _) (Nat.zero_le _) (fun v hv => (List.not_mem_nil hv).elim) ho
  obtain ⟨z, hz⟩ := rep_two ok1 ok2 (by omega)
  have c1 := fun {b : Nat} {S : Store} => k_law_run (n := lv + 5) (b := b) (S := S) hC hA hq ho
  have c2 := fun {b : Nat} {S : Store} => k_run_code (n := lv) (b := b) (S := S) hC hA hq ho
  refine ⟨some (codeD N rs), some (.lst [outD o, outD o]), some (outD o), some (ansD as), some (.int (q : Int)), a3, m3, k3, ?_, r3⟩
  simp [lapB, pickA, pick, e1, e2, e3, c1, c2, hz]
/-! ### what is known -/
def KR : List Rw := [.deed 101, .ask 65 4, .stop, .jump 5, .out]
theorem kr_ok : OkC 1 KR := by
  refine ⟨by decide, by decide, by decide, fun r hr => ?_⟩
  simp only [KR, List.mem_cons, List.not_mem_nil, or_false] at hr
  rcases hr with rfl | rfl | rfl | rfl | rfl
  · exact (by simp : (101 : Nat) ∈ [101, 102, 103, 104, 105, 106, 107, 108])
  · exact ⟨by decide, by simp⟩
  · trivial
  · exact (by decide : 5 ≤ 5)
  · trivial
def R5 : List Rw := [.up, .zero 3, .jump 0, .out]
theorem r5_ok : OkC 3 R5 := by
  refine ⟨by decide, by decide, by decide, fun r hr => ?_⟩
  simp only [R5, List.mem_cons, List.not_mem_nil, or_false] at hr
  rcases hr with rfl | rfl | rfl | rfl
  · trivial
  · exact (by decide : 3 ≤ 4)
  · exact (by decide : 0 ≤ 4)
  · trivial
def R6 : List Rw := [.up, .jump 1]
theorem r6_ok : OkC 3 R6 := by
  refine ⟨by decide, by decide, by decide, fun r hr => ?_⟩
  simp only [R6, List.mem_cons, List.not_mem_nil, or_false] at hr
  rcases hr with rfl | rfl
  · trivial
  · exact (by decide : 1 ≤ 2)
theorem r7_ok : OkC 1 [] := ⟨by decide, by decide, by decide, fun r hr => (List.not_mem_nil hr).elim⟩
theorem a1_ok {a : Nat} (h : a ≤ 1) : okA [a] := ⟨(by decide : 1 ≤ 8), fun x hx => by rw [List.mem_singleton.mp hx]; exact h⟩
theorem a0_ok : okA [] := ⟨by decide, fun x hx => (List.not_mem_nil hx).elim⟩
def O1 : List Ev × En := ([.deed 101, .ask 65 0], .fw .stop)
def O2 : List Ev × En := ([.deed 101, .ask 65 1], .fw (.out 0))
def O3 : List Ev × En := ([.deed 101], .waits 65)
def O4 : List Ev × En := ([.deed 101], .more)
def O5 : List Ev × En := ([], .fw (.out 0))
def O6 : List Ev × En := ([], .still)
theorem l1 : lr 1 KR [0] 9 50 [] 0 (0, 0) = some O1 := by rfl
theorem l2 : lr 1 KR [1] 9 50 [] 0 (0, 0) = some O2 := by rfl
theorem l3 : lr 1 KR [] 9 50 [] 0 (0, 0) = some O3 := by rfl
theorem l4 : lr 1 KR [1] 1 50 [] 0 (0, 0) = some O4 := by rfl
theorem l5 : lr 3 R5 [] 9 50 [] 0 (0, 0) = some O5 := by rfl
theorem l6 : lr 3 R6 [] 9 50 [] 0 (0, 0) = some O6 := by rfl
theorem l7 : lr 1 [] [] 0 50 [] 0 (0, 0) = some O5 := by rfl
def KC : D := .tup [.int 1, .tup [.tup [.str sDEED, .str [101]], .tup [.str sASK, .str [65], .int 4], .tup [.str sSTOP], .tup [.str sJUMP, .int 5], .tup [.str sOUT]]]
theorem k_known {lv : Nat} : ∃ x z, (cfgAt T.prg (lv + 1)).call (PySem.Str.ofString "_law_known") [] b S = .ok (.tup [x, KC, z]) S := by
  refine ⟨.tup [.int 1, .tup [.tup [.str [97], .tup [.tup [.str sDEED, .str [101]], .tup [.str [105, 102], .str [65], .tup [.tup [.str sOUT]], .tup [.tup [.str sSTOP]]]]]]], .tup [.int 1, .tup [.str [118, 46, 46], .str [101, 46, 46], .str [97, 118, 46], .str [35, 46, 46], .str [62, 46, 118], .str [118, 60, 46], .str [60, 46, 46], .str [118, 46, 60]]], ?_⟩
  rw [call_eq (r := r__law_known) rfl, run_closed rfl]
  simp [r__law_known, b__law_known, c__law_known, KC]
theorem run1 {lv : Nat} : (cfgAt T.prg (lv + 7)).call (PySem.Str.ofString "run_code") [KC, .tup [.int 0], .int 9] b S = .ok (.tup [.tup [.tup [.str sDEED, .str [101]], .tup [.str sASK, .str [65], .int 0]], .tup [.str sSTOP]]) S := k_run_code kr_ok (a1_ok (Nat.zero_le _)) (by decide) l1
theorem run2 {lv : Nat} : (cfgAt T.prg (lv + 7)).call (PySem.Str.ofString "run_code") [KC, .tup [.int 1], .int 9] b S = .ok (.tup [.tup [.tup [.str sDEED, .str [101]], .tup [.str sASK, .str [65], .int 1]], .tup [.str sOUT, .int 0]]) S := k_run_code kr_ok (a1_ok (Nat.le_refl _)) (by decide) l2
theorem run3 {lv : Nat} : (cfgAt T.prg (lv + 7)).call (PySem.Str.ofString "run_code") [KC, .tup [], .int 9] b S = .ok (.tup [.tup [.tup [.str sDEED, .str [101]]], .tup [.str [119, 97, 105, 116, 115], .str [65]]]) S := k_run_code kr_ok a0_ok (by decide) l3
theorem run4 {lv : Nat} : (cfgAt T.prg (lv + 7)).call (PySem.Str.ofString "run_code") [KC, .tup [.int 1], .int 1] b S = .ok (.tup [.tup [.tup [.str sDEED, .str [101]]], .tup [.str [109, 111, 114, 101]]]) S := k_run_code kr_ok (a1_ok (Nat.le_refl _)) (by decide) l4
theorem run5 {lv : Nat} : (cfgAt T.prg (lv + 7)).call (PySem.Str.ofString "run_code") [.tup [.int 3, .tup [.tup [.str sUP], .tup [.str sZERO, .int 3], .tup [.str sJUMP, .int 0], .tup [.str sOUT]]], .tup [], .int 9] b S = .ok (.tup [.tup [], .tup [.str sOUT, .int 0]]) S := k_run_code r5_ok a0_ok (by decide) l5
theorem run6 {lv : Nat} : (cfgAt T.prg (lv + 7)).call (PySem.Str.ofString "run_code") [.tup [.int 3, .tup [.tup [.str sUP], .tup [.str sJUMP, .int 1]]], .tup [], .int 9] b S = .ok (.tup [.tup [], .tup [.str [115, 116, 105, 108, 108]]]) S := k_run_code r6_ok a0_ok (by decide) l6
theorem run7 {lv : Nat} : (cfgAt T.prg (lv + 7)).call (PySem.Str.ofString "run_code") [.tup [.int 1, .tup []], .tup [], .int 0] b S = .ok (.tup [.tup [], .tup [.str sOUT, .int 0]]) S := k_run_code r7_ok a0_ok (by decide) l7
theorem fin_rep : ∃ z, ∀ S : Store, biD S .repr [.lst [outD O1, outD O2, outD O3, outD O4, outD O5, outD O6, outD O5]] = some (.str z) := by
  have sh : ∀ o : List Ev × En, (o = O1 ∨ o = O2 ∨ o = O3 ∨ o = O4 ∨ o = O5 ∨ o = O6) → Shw 3 3000 (outD o) := by
    intro o h
    rcases h with rfl | rfl | rfl | rfl | rfl | rfl
    · refine shw_out (fun v hv => ?_) trivial (by decide)
      simp only [O1, List.mem_cons, List.not_mem_nil, or_false] at hv
      rcases hv with rfl | rfl
      · exact (by decide : 101 < 200)
      · exact ⟨by decide, by decide⟩
    · refine shw_out (fun v hv => ?_) (show 0 < 10 by decide) (by decide)
      simp only [O2, List.mem_cons, List.not_mem_nil, or_false] at hv
      rcases hv with rfl | rfl
      · exact (by decide : 101 < 200)
      · exact ⟨by decide, by decide⟩
    · refine shw_out (fun v hv => ?_) (show 65 < 200 by decide) (by decide)
      simp only [O3, List.mem_cons, List.not_mem_nil, or_false] at hv
      rcases hv with rfl
      exact (by decide : 101 < 200)
    · refine shw_out (fun v hv => ?_) trivial (by decide)
      simp only [O4, List.mem_cons, List.not_mem_nil, or_false] at hv
      rcases hv with rfl
      exact (by decide : 101 < 200)
    · exact shw_out (fun v hv => (List.not_mem_nil hv).elim) (show 0 < 10 by decide) (by decide)
    · exact shw_out (fun v hv => (List.not_mem_nil hv).elim) trivial (by decide)
  exact rep_shw (shw_lst (shwL_cons (sh O1 (by simp)) (shwL_cons (sh O2 (by simp)) (shwL_cons (sh O3 (by simp)) (shwL_cons (sh O4 (by simp)) (shwL_cons (sh O5 (by simp)) (shwL_cons (sh O6 (by simp)) (shwL_cons (sh O5 (by simp)) shwL_nil)))))))) (by decide) (by decide) rfl
theorem tail_run {lv : Nat} {o1 o2 o3 o4 o5 o6 o7 : Option D} : CI.exec (cfgAt T.prg (lv + 7)) b tailB [some (.ref n), o1, o2, o3, o4, o5, o6, o7] S = .ok (.rt (.bl true)) S := by
  obtain ⟨x, z, hk⟩ := k_known (lv := lv + 6) (b := b) (S := S)
  obtain ⟨zz, hz⟩ := fin_rep
  have hz' : ∀ S : Store, biD S .repr [.lst [.tup [.tup [.tup [.str sDEED, .str [101]], .tup [.str sASK, .str [65], .int 0]], .tup [.str sSTOP]], .tup [.tup [.tup [.str sDEED, .str [101]], .tup [.str sASK, .str [65], .int 1]], .tup [.str sOUT, .int 0]], .tup [.tup [.tup [.str sDEED, .str [101]]], .tup [.str [119, 97, 105, 116, 115], .str [65]]], .tup [.tup [.tup [.str sDEED, .str [101]]], .tup [.str [109, 111, 114, 101]]], .tup [.tup [], .tup [.str sOUT, .int 0]], .tup [.tup [], .tup [.str [115, 116, 105, 108, 108]]], .tup [.tup [], .tup [.str sOUT, .int 0]]]] = some (.str zz) := hz
  have hs : ∀ S : Store, slcD S (.tup [.tup [.str [117, 112]], .tup [.str [122, 101, 114, 111], .int 3], .tup [.str [106, 117, 109, 112], .int 0], .tup [.str [111, 117, 116]]]) none (some 1) = some (.tup [.tup [.str [117, 112]]]) := fun _ => rfl
  simp [tailB, pickA, pick, hs, hk, run1, run2, run3, run4, run5, run6, run7, add_ll, add_tt, hz']
theorem k_law_right {lv : Nat} {a m k : Int} (h : S[n]? = some (pl3 a m k)) (ha : 0 ≤ a) :
    ∃ a' m' k', (cfgAt T.prg (lv + 8)).call (PySem.Str.ofString "_law_right") [.ref n] b S = .ok (.bl true) (S.set n (pl3 a' m' k')) ∧ 0 ≤ a' := by
  have hn : n < S.length := lt_of_get h
  have h0 : S.set n (pl3 a m k) = S := by
    apply List.ext_getElem?
    intro i
    by_cases hi : n = i
    · subst hi; rw [List.getElem?_set_self hn, h]
    · rw [List.getElem?_set_ne hi]
  have loop := forL_inv (G := cfgAt T.prg (lv + 7)) (b := S.length) (tg := .tnm 1) (body := lapB) (fun i ρ S' => ∃ o1 o2 o3 o4 o6 o7 a m k, ρ = [some (.ref n), o1, o2, o3, o4, none, o6, o7] ∧ S' = S.set n (pl3 a m k) ∧ 0 ≤ a)
    (xs := rngOf 0 12) (i := 0) (ys := rngOf 0 12) (ρ := [some (.ref n), none, none, none, none, none, none, none]) (S := S)
    (fun j x ρ S' hx hI => by
      obtain ⟨o1, o2, o3, o4, o6, o7, a, m, k, rfl, rfl, hp⟩ := hI
      refine ⟨_, _, rfl, ?_⟩
      obtain ⟨p2, p3, p4, p6, p7, a', m', k', e, hp'⟩ := lap_run (S := S.set n (pl3 a m k)) (b := S.length) (lv := lv) (o1 := some x) (o2 := o2) (o3 := o3) (o4 := o4) (o5 := none) (o6 := o6) (o7 := o7) (get_set hn) hp
      rw [List.set_set] at e
      exact ⟨_, _, e, some x, p2, p3, p4, p6, p7, a', m', k', rfl, rfl, hp'⟩)
    ⟨none, none, none, none, none, none, a, m, k, rfl, h0.symm, ha⟩
  obtain ⟨ρ', S', e2, o1, o2, o3, o4, o6, o7, a2, m2, k2, rfl, rfl, hp2⟩ := loop
  refine ⟨a2, m2, k2, ?_, hp2⟩
  rw [call_eq (r := r__law_right) rfl, run_closed rfl]
  show closeR S.length (flV (exec (cfgAt T.prg (lv + 7)) S.length b__law_right [some (.ref n), none, none, none, none, none, none, none] S)) = _
  rw [body_rt]
  have key : exec (cfgAt T.prg (lv + 7)) S.length (.seq (.for_ (.tnm 1) (.rng1 (.lit (.int 12))) lapB) tailB) [some (.ref n), none, none, none, none, none, none, none] S = .ok (.rt (.bl true)) (S.set n (pl3 a2 m2 k2)) := by
    simp [e2, tail_run]
  rw [key]
  exact close_len (by simp) rfl
end K36
end
end
section
set_option Elab.async false
set_option linter.all false
set_option maxRecDepth 100000
set_option maxHeartbeats 4000000
noncomputable section
namespace K36
open PySem CI
variable {n b : Nat} {S : Store}
theorem k_law_pail {lv : Nat} {ns : List Int} {t : Nat} : ∃ a m, (cfgAt T.prg (lv + 1)).call (PySem.Str.ofString "_law_pail") [.scr (ns.map .int), .int (t : Int)] b S = .ok (.ref S.length) (S ++ [pl3 a m 0]) ∧ 0 ≤ a := by
  obtain ⟨a, m, e, ha⟩ := pail_run (G := cfgAt T.prg lv) (b := b) (S := S) (c0 := 2262217) (c1 := 12511) (c2 := 65071) (q1 := 2147483423) (e5 := 17) (e9 := 5) (q2 := 2147483423) (d1 := 61) (d2 := 30011) (d3 := 7) (ns := ns) (t := t) (by decide) (by decide) (by decide) (by decide) (by decide) (by decide) (by decide)
  refine ⟨a, m, ?_, ha⟩
  rw [call_eq (r := r__law_pail) rfl, run_open rfl]
  show flV (exec (cfgAt T.prg lv) b (pailB 2262217 12511 65071 2147483423 17 5 2147483423 61 30011 7) [some (.scr (ns.map .int)), some (.int (t : Int)), none, none, none] S) = _
  rw [e]; rfl
theorem all_true : ∀ {zs : List D}, (∀ z ∈ zs, z = .bl true) → boolsOf zs = some (List.replicate zs.length true)
  | [], _ => rfl
  | z :: zs, h => by
    rw [h z List.mem_cons_self]
    show (boolsOf zs).map (true :: ·) = _
    rw [all_true fun x hx => h x (List.mem_cons_of_mem _ hx)]
    rfl
theorem plain (ns : List Int) (hns : ns.length ≤ 63) : ∃ S', (cfgAt T.prg 40).call (PySem.Str.ofString "law") [.scr (ns.map .int)] 0 [] = .ok (.bl true) S' := by
  obtain ⟨j, hj⟩ : ∃ j : Int, j = (if (if 3 < (ns.length : Int) then (3 : Int) else ns.length) > 1 then (if 3 < (ns.length : Int) then (3 : Int) else ns.length) else 1) := ⟨_, rfl⟩
  have hj1 : 1 ≤ j ∧ j ≤ 3 := by
    rw [hj]; split <;> (try split) <;> omega
  obtain ⟨zs, S', e, l, p, hI⟩ := lcF_inv (G := cfgAt T.prg 39) (b := 0) (tg := .tnm 1) (elt := .call (PySem.Str.ofString "_law_right") 1 0 [0] [] (.cons (.call (PySem.Str.ofString "_law_pail") 2 0 [0, 1] [] (.cons (.var 0) (.cons (.var 1) .nil)) .nil) .nil) .nil) (vs := [1]) (k := false) (xs := rngOf 0 j.toNat) (ρ := [some (.scr (ns.map .int)), none]) (S := [])
    (fun _ _ => True) (fun z => z = .bl true) (by rw [rng_len]; omega) (fun i x S hx _ => by
      have hi : i < j.toNat := by
        rcases Nat.lt_or_ge i j.toNat with q | q
        · exact q
        · rw [List.getElem?_eq_none (by rw [rng_len]; exact q)] at hx; cases hx
      rw [rngOf_get hi] at hx
      cases hx
      obtain ⟨a, m, e1, ha⟩ := k_law_pail (b := 0) (S := S) (lv := 38) (ns := ns) (t := i)
      obtain ⟨a', m', k', e2, _⟩ := k_law_right (b := 0) (S := S ++ [pl3 a m 0]) (n := S.length) (lv := 31) (a := a) (m := m) (k := 0) (by simp) ha
      have e1' : (cfgAt T.prg 39).call (PySem.Str.ofString "_law_pail") [.scr (ns.map .int), .int (i : Int)] 0 S = .ok (.ref S.length) (S ++ [pl3 a m 0]) := e1
      have e2' : (cfgAt T.prg 39).call (PySem.Str.ofString "_law_right") [.ref S.length] 0 (S ++ [pl3 a m 0]) = .ok (.bl true) ((S ++ [pl3 a m 0]).set S.length (pl3 a' m' k')) := e2
      refine ⟨[some (.scr (ns.map .int)), some (.int (0 + (i : Int)))], .bl true, (S ++ [pl3 a m 0]).set S.length (pl3 a' m' k'), rfl, ?_, rfl, True.intro⟩
      have z : (0 : Int) + (i : Int) = (i : Int) := by omega
      rw [z]
      simp [pickA, pick, e1', e2']) True.intro
  refine ⟨[], ?_⟩
  rw [call_eq (r := r_law) rfl, run_closed rfl]
  have key : exec (cfgAt T.prg 39) 0 b_law [some (.scr (ns.map .int)), none] [] = .ok (.rt (.bl true)) S' := by
    have hm : ∀ S : Store, biD S .min2 [.int (ns.length : Int), .int 3] = some (.int (if 3 < (ns.length : Int) then 3 else ns.length)) := fun _ => rfl
    have hM : ∀ S : Store, biD S .max2 [.int 1, .int (if 3 < (ns.length : Int) then 3 else ns.length)] = some (.int j) := fun _ => by rw [hj]; rfl
    have hl : ∀ S : Store, biD S .len [.scr (ns.map .int)] = some (.int (ns.length : Int)) := fun S => by rw [len_scr, List.length_map]
    have ha : ∀ S : Store, biD S .all [.lst zs] = some (.bl true) := fun S => by
      show (boolsOf zs).map (fun bs => D.bl (bs.all id)) = _
      rw [all_true p]
      simp
    have g1 : j ≤ 16777216 := by omega
    have g2 : (-4611686018427387904 : Int) ≤ j := by omega
    simp [b_law, hl, hm, hM, g1, g2, e, ha]
  show closeR 0 (flV (exec (cfgAt T.prg 39) 0 b_law [some (.scr (ns.map .int)), none] [])) = _
  rw [key]
  have hz : frz S' 0 64 (.bl true) = some (.bl true) := rfl
  show closeR 0 (.ok (.bl true) S') = _
  unfold closeR
  simp only [hz]
  rfl
end K36
end
end
section
set_option Elab.async false
set_option linter.all false
set_option maxRecDepth 100000
set_option maxHeartbeats 0
namespace K36
open PySem PySem.W PySem.Spec PySem.Calls PyProof.Rows L2 CI
abbrev qv : Program := view R.prog [61]
def names0 : List PySem.Str := [PySem.Str.ofString "SignError", PySem.Str.ofString "InvalidCode", PySem.Str.ofString "InvalidNumber", PySem.Str.ofString "InvalidAnswers", PySem.Str.ofString "MOST_COUNTS", PySem.Str.ofString "ASK_NAMES", PySem.Str.ofString "DEED_LETTERS", PySem.Str.ofString "MOST_ANSWERS", PySem.Str.ofString "is_whole", PySem.Str.ofString "is_number", PySem.Str.ofString "is_counts", PySem.Str.ofString "is_tuple_of", PySem.Str.ofString "is_short_tuple", PySem.Str.ofString "is_one_of", PySem.Str.ofString "first_wrong", PySem.Str.ofString "is_answer", PySem.Str.ofString "wrong_answers", PySem.Str.ofString "ON_signwork", PySem.Str.ofString "ASK_signwork", PySem.Str.ofString "DEED_signwork", PySem.Str.ofString "MOST_EVENTS", PySem.Str.ofString "check_answers", PySem.Str.ofString "check_most", PySem.Str.ofString "MOST_ROWS", PySem.Str.ofString "DEED_codework", PySem.Str.ofString "UP", PySem.Str.ofString "DOWN", PySem.Str.ofString "STOP", PySem.Str.ofString "OUT", PySem.Str.ofString "JUMP", PySem.Str.ofString "ASK_codework", PySem.Str.ofString "ZERO", PySem.Str.ofString "ALONE", PySem.Str.ofString "is_code_row", PySem.Str.ofString "is_code_form", PySem.Str.ofString "check_code", PySem.Str.ofString "ON_codewalk", PySem.Str.ofString "CodeWalk", PySem.Str.ofString "STILL", PySem.Str.ofString "WAITS"]
def names1 : List PySem.Str := [PySem.Str.ofString "MORE", PySem.Str.ofString "outcome_by", PySem.Str.ofString "run_code", PySem.Str.ofString "_law_pail", PySem.Str.ofString "_law_deal", PySem.Str.ofString "_law_any", PySem.Str.ofString "_law_answers", PySem.Str.ofString "_law_code_flow", PySem.Str.ofString "_law_known", PySem.Str.ofString "_law_code_drawn", PySem.Str.ofString "_law_run_code", PySem.Str.ofString "_law_right"]
def names : List PySem.Str := names0 ++ names1
abbrev hk : PySem.W.Hook := hookC 5 T
def ob (s : PySem.W.SharedT) : He.AlD := obsCG 5 T (HandSHeadRun.getT s)
theorem ob_eq (s : PySem.W.SharedT) : ob s = hk.obs s.abs := obsCG_eq (HandSHeadRun.getT_eq s)
theorem run (w : World) : HandSHeadRun.RunEq R qv hk ob 3000 names w := by
  refine byRow2 "special-get-raises" (P := fun w => HandSHeadRun.RunEq R qv hk ob 3000 names w) (fun w => ?_) (fun w => ?_) w
  · intro os
    kernel_rfl
  · intro os
    kernel_rfl
theorem hb : ∀ (K : PySem.W.Frag) (f : Addr) (fd : FuncData), FunD K (PySem.Str.ofString "law") (PySem.Str.ofString "law") r_law.params r_law.bd r_law.sc [] [] f fd → ∀ (s : Shared) (v : Value), BindsTo s fd ⟨[v], []⟩ [(PySem.Str.ofString "script", v)] := fun K f fd F s v => by
  obtain ⟨oc, od, dV, kV, doc, pm, an, cdv, ct, osl, rfl, lk, hcd, hD, hK⟩ := F.ex
  obtain rfl : dV = .none := hD.elim (fun z => z.2) fun z => (z.1 rfl).elim
  exact .of_eq (by with_unfolding_all rfl)
end K36
end
section
set_option Elab.async false
set_option maxRecDepth 100000
open PySem PySem.W PySem.Calls PyProof.Rows L2 CI
theorem PySem.Challenge.cw_signwalks_k36_whole_runs_of_codes_holds : PySem.Challenge.rw_signwalks_k36_whole_runs_of_codes.Holds := by
  w_on; o_law
  refine HandSHeadRun.head_any (r := OpenLaw.row PySem.Challenge.rw_signwalks_k36_whole_runs_of_codes) (q := view (OpenLaw.row PySem.Challenge.rw_signwalks_k36_whole_runs_of_codes).prog [61]) (H := K36.hk) (ob := K36.ob) (M := 3000) (loose := K36.names) (d := HandSHeadRun.topDef (OpenLaw.row PySem.Challenge.rw_signwalks_k36_whole_runs_of_codes).prog 61) (kwd := []) K36.ob_eq
    (by kernel_rfl) (fun s => by kernel_rfl) K36.run (by kernel_rfl) (by kernel_rfl) (by kernel_rfl) (by rfl) (by first | assumption | decide +kernel) (by decide +kernel) ⟨rfl, rfl, rfl, rfl, rfl, by decide +kernel⟩ ?hw ?hc
  case hw => w_witness2
  case hc =>
    exact law_named (l := PySem.Challenge.rw_signwalks_k36_whole_runs_of_codes) (n := 63) (k := 40) (x := PySem.Str.ofString "script") (nm := PySem.Str.ofString "law") (T := K36.T) (r := K36.r_law) (by kernel_rfl) rfl (by decide) (by kernel_rfl) ⟨rfl, by decide, by decide⟩ K36.ok K36.hdl rfl (fun _ _ h => h) rfl rfl rfl K36.hb K36.plain
end

import PyProof.Rows.All
import Wide.All
import OpenK.AllK
import Wide.FinOn
import HandS.ForMost
import HandS.ForExc
import HandS.Sort
import HandS.SortRule
import HandS.SortInts
import HandS.Deep
import HandS.Style
import HandS.IsInst
import HandS.Conv
import HandS.Zip
import HandS.TupAny
import HandS.TupSets
import HandS.WordsExc
import HandS.Small
import HandS.TryOnly
import HandS.ExcIs
import HandS.Codes
import HandS.Defaults
import KE.KStateDown
import HandS.More
import HandS.Head0
import HandS.Head1
import HandS.Head2
import HandS.HeadEnd
import HandS.HeadHook1
import HandS.HeadHook2
import PySem.Challenge.RW_roofweb_k91_numbers_and_spots_read
import KE.IntTextLaws
import KE.IntTextText
set_option Elab.async false
set_option linter.all false
set_option maxRecDepth 100000
set_option maxHeartbeats 4000000
/-! VmA: the small interpreter: its data, its programs, its run. -/
namespace Vm
open PySem L2

/-- the refusals -/
inductive Ex where
  | NoNumber | NoDrawing | NoEdge | NoCorner | Unlike | NoBalance | NoRoof | NoTurned | NoSites | NoPulls | TooMany | NoText | NoName | NoRow | NoFace | NoSpot | NothingLeft | NoBuilder
  deriving DecidableEq
def Ex.name : Ex → Str
  | .NoNumber => "NoNumber" | .NoDrawing => "NoDrawing" | .NoEdge => "NoEdge" | .NoCorner => "NoCorner" | .Unlike => "Unlike" | .NoBalance => "NoBalance" | .NoRoof => "NoRoof"
  | .NoTurned => "NoTurned" | .NoSites => "NoSites" | .NoPulls => "NoPulls" | .TooMany => "TooMany" | .NoText => "NoText" | .NoName => "NoName" | .NoRow => "NoRow"
  | .NoFace => "NoFace" | .NoSpot => "NoSpot" | .NothingLeft => "NothingLeft" | .NoBuilder => "NoBuilder"

/-- data -/
inductive D where
  | non | bl (b : Bool) | int (i : Int) | str (s : Str)
  | tup (l : List D) | lst (l : List D)
  /-- the script -/
  | sc (l : List Int)
  | dk (l : List (Key × D)) | dt (l : List (List Key × D))
instance : Inhabited D := ⟨.non⟩

/-- a name's place: empty, a value, a list or dict that no one else has, the same while a loop walks it -/
inductive Slot where
  | emp | val (d : D) | own (d : D) | lck (d : D)
instance : Inhabited Slot := ⟨.emp⟩
abbrev Env := List Slot

inductive Res (α : Type) where
  | ok (a : α) (e : Env) | exc (x : Ex) (e : Env) | bad
def Res.bind {α β : Type} (r : Res α) (f : α → Env → Res β) : Res β := match r with
  | .ok a e => f a e
  | .exc x e => .exc x e
  | .bad => .bad
theorem Res.bind_ok {α β : Type} (a : α) (e : Env) (f : α → Env → Res β) : (Res.ok a e).bind f = f a e := rfl
theorem Res.bind_exc {α β : Type} (x : Ex) (e : Env) (f : α → Env → Res β) : (Res.exc x e : Res α).bind f = .exc x e := rfl
theorem Res.bind_bad {α β : Type} (f : α → Env → Res β) : (Res.bad : Res α).bind f = .bad := rfl
def ofO {α : Type} (o : Option α) (e : Env) : Res α := match o with
  | some a => .ok a e
  | none => .bad
theorem ofO_some {α : Type} (a : α) (e : Env) : ofO (some a) e = .ok a e := rfl
theorem ofO_none {α : Type} (e : Env) : ofO (none : Option α) e = .bad := rfl

/-! ### the programs -/
inductive C where
  | non | bl (b : Bool) | int (i : Int) | str (s : Str)
  deriving DecidableEq
def C.d : C → D
  | .non => .non | .bl b => .bl b | .int i => .int i | .str s => .str s
inductive BO where | add | sub | mul | fdiv | mod | pow
  deriving DecidableEq
inductive CO where | eq | ne | lt | le | gt | ge | isIn | notIn | isS | notS
  deriving DecidableEq
/-- built-ins by name, upon values -/
inductive BI where | len | abs | int | str | min | max | all | any | tuple | list | sorted
  deriving DecidableEq
inductive MT where | index | split | join | startswith | get
  deriving DecidableEq
inductive Ty where | str | int | bool | tuple | list
  deriving DecidableEq
mutual
inductive E where
  | con (c : C) | var (i : Nat) | glb (x : Str) (c : C)
  | tup (es : Es) | lst (es : Es)
  | bin (o : BO) (a b : E) | neg (a : E) | cmp (o : CO) (a b : E) | chn (o p : CO) (a b c : E)
  /-- and (true), or (false) -/
  | bop (k : Bool) (es : Es)
  | not (a : E) | ite (c a b : E)
  | idx (a i : E) | slc (a : E) (lo hi : Eo) | stp (a : E) (k : Int)
  | call (f : Nat) (as : As)
  | bi (b : BI) (es : Es)
  | bid (b : BI) (a d : E)
  | lset (a : E)
  | lrng (t : Bool) (es : Es)
  | mth (m : MT) (r : E) (es : Es)
  | isi (a : E) (t : Ty)
  | newd (t : Bool)
  /-- [elt for ts in src if cond]; tp: the target is a tuple -/
  | comp (elt : E) (tp : Bool) (ts : List Nat) (src : Src) (cond : Eo)
inductive Es where
  | nil | cons (a : E) (r : Es)
inductive Eo where
  | none | some (a : E)
/-- arguments: a value; a name, lent; a list of this frame's given to be changed; a new list to be changed; a new list given away -/
inductive As where
  | nil | val (a : E) (r : As) | lend (i : Nat) (r : As) | ref (i : Nat) (r : As) | mov (a : E) (r : As) | give (a : E) (r : As)
inductive Src where
  | ex (a : E) | own (i : Nat) | rng (es : Es) | zip (a b : E)
end
mutual
inductive S where
  | asg (i : Nat) (a : E)
  | unp (ts : List Nat) (a : E)
  | par (i j : Nat) (a b : E)
  | seti (i : Nat) (k : E) (a : E)
  | app (i : Nat) (a : E)
  | ins (i : Nat) (k : E) (a : E)
  | pop (i : Nat)
  | popk (i : Nat) (k : E)
  | xpr (a : E)
  | ret (a : E)
  | ret0
  | ifs (c : E) (a b : Ss)
  | loop (tp : Bool) (ts : List Nat) (src : Src) (b : Ss)
  | whl (fuel : Env → Nat) (c : E) (b : Ss)
  | rse (x : Ex)
  /-- try: b  except RoofError as e: the suite puts lists of isinstance(e, ..) into names -/
  | tryk (i : Nat) (xs : List Ex) (b : Ss) (h : List (Nat × Bool × List (Option Ex)))
inductive Ss where
  | nil | cons (a : S) (r : Ss)
end
/-- a parameter: a value; changed in place; given away to the def -/
inductive PM where | v | r | g
  deriving DecidableEq
/-- a def: its parameters, the number of its names, its body -/
structure Fn where
  ps : List PM
  n : Nat
  body : Ss

/-! ### values -/
def flat : D → Bool
  | .non => true | .bl _ => true | .int _ => true | .str _ => true
  | .tup l => flats l
  | _ => false
where flats : List D → Bool
  | [] => true
  | d :: r => flat d && flats r
def py : D → Option PyData
  | .non => some .none | .bl b => some (.bool b) | .int i => some (.int i) | .str s => some (.str s)
  | .tup l => (pys l).map .tuple
  | .lst l => (pys l).map .list
  | _ => none
where pys : List D → Option (List PyData)
  | [] => some []
  | d :: r => match py d, pys r with
    | some a, some b => some (a :: b)
    | _, _ => none
def eqD (a b : D) : Option Bool := match py a, py b with
  | some x, some y => if SeqAt.shaped x = true ∧ SeqAt.shaped y = true then some (PyData.eqv x y) else none
  | _, _ => none
def mulOk (i j : Int) : Bool := decide (i.natAbs.log2 + j.natAbs.log2 < 1000000)
def binD (o : BO) (a b : D) : Option D := match o, a, b with
  | .add, .int i, .int j => some (.int (i + j))
  | .add, .str x, .str y => if x.length + y.length ≤ 16777216 then some (.str (x ++ y)) else none
  | .add, .lst x, .lst y => if x.length + y.length ≤ 16777216 then some (.lst (x ++ y)) else none
  | .add, .tup x, .tup y => if x ≠ [] ∧ x.length + y.length ≤ 16777216 then some (.tup (x ++ y)) else none
  | .sub, .int i, .int j => some (.int (i - j))
  | .mul, .int i, .int j => if mulOk i j then some (.int (i * j)) else none
  | .mul, .lst x, .int k => if k < 4096 ∧ -4096 < k ∧ x.length ≤ 4096 then some (.lst (List.replicate k.toNat x).flatten) else none
  | .fdiv, .int i, .int j => if j ≠ 0 ∧ j.natAbs.log2 < 9000 then some (.int (i.fdiv j)) else none
  | .mod, .int i, .int j => if j ≠ 0 then some (.int (i.fmod j)) else none
  | .pow, .int i, .int j => if 0 ≤ j ∧ j ≤ 1000000 ∧ i.natAbs < 2 ^ 64 then some (.int (i ^ j.toNat)) else none
  | _, _, _ => none
def keyOf : D → Option (Key ⊕ List Key)
  | .int i => some (.inl (.inl i))
  | .str s => some (.inl (.inr s))
  | .tup l => (keysOf l).map .inr
  | _ => none
where keysOf : List D → Option (List Key)
  | [] => some []
  | .int i :: r => (keysOf r).map (Sum.inl i :: ·)
  | .str s :: r => (keysOf r).map (Sum.inr s :: ·)
  | _ :: _ => none
def keyD : Key → D
  | .inl i => .int i
  | .inr s => .str s
def look {κ : Type} [DecidableEq κ] (kvs : List (κ × D)) (k : κ) : Option D := (kvs.find? fun kv => decide (kv.1 = k)).map (·.2)
def put {κ : Type} [DecidableEq κ] (kvs : List (κ × D)) (k : κ) (v : D) : List (κ × D) :=
  if (look kvs k).isSome then kvs.map fun kv => if kv.1 = k then (kv.1, v) else kv else kvs ++ [(k, v)]
def drop {κ : Type} [DecidableEq κ] (kvs : List (κ × D)) (k : κ) : List (κ × D) := kvs.filter fun kv => decide (kv.1 ≠ k)
/-- d[k], as far as it is there; none: no dict, no key -/
def dget (d k : D) : Option (Option D) := match d, keyOf k with
  | .dk l, some (.inl x) => some (look l x)
  | .dt l, some (.inr x) => some (look l x)
  | _, _ => none
def asInts : List D → Option (List Int)
  | [] => some []
  | .int i :: r => (asInts r).map (i :: ·)
  | _ :: _ => none
def asBools : List D → Option (List Bool)
  | [] => some []
  | .bl i :: r => (asBools r).map (i :: ·)
  | _ :: _ => none
def asStrs : List D → Option (List Str)
  | [] => some []
  | .str i :: r => (asStrs r).map (i :: ·)
  | _ :: _ => none
def inD (a b : D) : Option Bool := match b with
  | .str y => match a with
    | .str x => if x.cps.size = 1 then some (decide (x.cps.getD 0 0 ∈ y.cps.toList)) else none
    | _ => none
  | .lst l => match py a, py.pys l with
    | some x, some ys => if SeqAt.shaped x = true ∧ SeqAt.shaped (.list ys) = true then some (ys.any fun z => PyData.eqv z x) else none
    | _, _ => none
  | .tup l => match a with
    | .int k => (asInts l).map fun ns => ns.any (· == k)
    | .str k => (asStrs l).map fun ns => ns.any (· == k)
    | _ => none
  | .dk _ => (dget b a).map Option.isSome
  | .dt _ => (dget b a).map Option.isSome
  | _ => none
def isNon : D → Bool
  | .non => true
  | _ => false
def cmpD (o : CO) (a b : D) : Option Bool := match o with
  | .eq => eqD a b
  | .ne => (eqD a b).map not
  | .lt => match a, b with | .int i, .int j => some (decide (i < j)) | _, _ => none
  | .le => match a, b with | .int i, .int j => some (decide (i ≤ j)) | _, _ => none
  | .gt => match a, b with | .int i, .int j => some (decide (j < i)) | _, _ => none
  | .ge => match a, b with | .int i, .int j => some (decide (j ≤ i)) | _, _ => none
  | .isIn => inD a b
  | .notIn => (inD a b).map not
  | .isS => match b with
    | .non => some (isNon a)
    | .bl y => match a with | .bl x => some (decide (x = y)) | _ => none
    | _ => none
  | .notS => match b with
    | .non => some (!isNon a)
    | .bl y => match a with | .bl x => some (!decide (x = y)) | _ => none
    | _ => none
def idxD (a i : D) : Option D := match a, i with
  | .tup l, .int k => atI l k
  | .lst l, .int k => atI l k
  | .sc l, .int k => (atI l k).map .int
  | .str s, .int k => if s.length ≤ 16777216 then (atI s.cps.toList k).map fun c => .str ⟨#[c]⟩ else none
  | .dk _, _ => (dget a i).bind id
  | .dt _, _ => (dget a i).bind id
  | _, _ => none
def cutL {α : Type} (xs : List α) (lo hi : Option Int) : List α := (xs.drop (HT.sIx xs.length 0 lo)).take (HT.sIx xs.length xs.length hi - HT.sIx xs.length 0 lo)
def slcD (a : D) (lo hi : Option Int) : Option D := match a with
  | .tup l => some (.tup (cutL l lo hi))
  | .lst l => some (.lst (cutL l lo hi))
  | .str s => if s.length ≤ 16777216 then some (.str (cutS s lo hi)) else none
  | _ => none
def maxL : Int → List Int → Int
  | m, [] => m
  | m, a :: r => maxL (if a > m then a else m) r
def minL : Int → List Int → Int
  | m, [] => m
  | m, a :: r => minL (if a < m then a else m) r
def biLen : List D → Option D
  | [.str s] => if s.length ≤ 16777216 then some (.int s.length) else none
  | [.tup l] => some (.int l.length)
  | [.lst l] => some (.int l.length)
  | [.sc l] => some (.int l.length)
  | [.dk l] => some (.int l.length)
  | _ => none
def biAbs : List D → Option D
  | [.int i] => some (.int (if i < 0 then -i else i))
  | _ => none
def biInt : List D → Option D
  | [.int i] => some (.int i)
  | [.bl b] => some (.int (if b then 1 else 0))
  | [.str s] => if s.length ≤ 640 then (intText? s).map .int else none
  | _ => none
def biStr : List D → Option D
  | [.int i] => if i.natAbs.log2 < 1920 then some (.str (toString i)) else none
  | _ => none
def biMax : List D → Option D
  | [.int i, .int j] => some (.int (if j > i then j else i))
  | [.lst l] => (asInts l).bind fun ns => match ns with | [] => none | a :: r => some (.int (maxL a r))
  | _ => none
def biMin : List D → Option D
  | [.int i, .int j] => some (.int (if j < i then j else i))
  | [.lst l] => (asInts l).bind fun ns => match ns with | [] => none | a :: r => some (.int (minL a r))
  | _ => none
def biAll : List D → Option D
  | [.lst l] => (asBools l).map fun bs => .bl (bs.all id)
  | _ => none
def biAny : List D → Option D
  | [.lst l] => (asBools l).map fun bs => .bl (bs.any id)
  | _ => none
def biTup : List D → Option D
  | [.tup l] => some (.tup l)
  | [.lst l] => some (.tup l)
  | _ => none
def biLst : List D → Option D
  | [.tup l] => some (.lst l)
  | [.lst l] => some (.lst l)
  | [.dk l] => some (.lst (l.map fun kv => keyD kv.1))
  | [.dt l] => some (.lst (l.map fun kv => .tup (kv.1.map keyD)))
  | _ => none
def biD (b : BI) (l : List D) : Option D := match b with
  | .len => biLen l | .abs => biAbs l | .int => biInt l | .str => biStr l | .max => biMax l | .min => biMin l | .all => biAll l | .any => biAny l
  | .tuple => biTup l | .list => biLst l | .sorted => none
def mthD (m : MT) (r : D) (l : List D) : Option D := match m, r, l with
  | .split, .str x, [.str y] => if (y.length == 0) = false ∧ x.length + 2 ≤ 16777216 then some (.lst ((Txt.split x y).map .str)) else none
  | .startswith, .str x, [.str y] => some (.bl (Txt.startswith x y))
  | .join, .str x, [.lst l] => (asStrs l).bind fun ys => if (ys.map (·.length)).sum + ys.length * x.length ≤ 16777216 then some (.str (Txt.join x ys)) else none
  | .get, d, [k, x] => (dget d k).map fun o => o.getD x
  | _, _, _ => none
/-- a receiver -/
def rcv : MT → D → Bool
  | .get, .dk _ => true | .get, .dt _ => true | .get, _ => false
  | .index, _ => false
  | _, .str _ => true | _, _ => false
def isiD (d : D) (t : Ty) : Option Bool := match d, t with
  | .non, _ => some false
  | .bl _, .bool => some true | .bl _, .int => some true | .bl _, _ => some false
  | .int _, .int => some true | .int _, _ => some false
  | .str _, .str => some true | .str _, _ => some false
  | .tup _, .tuple => some true | .tup _, _ => some false
  | .lst _, .list => some true | .lst _, _ => some false
  | _, _ => none
def rngL (lo : Int) (n : Nat) : List D := (List.range n).map fun i => .int (lo + (i : Nat))
def rngD : List D → Option (List D)
  | [.int n] => if n < 2 ^ 20 ∧ -(2 ^ 62) ≤ n then some (rngL 0 n.toNat) else none
  | [.int a, .int b] => if (-(2 ^ 61) ≤ a ∧ a < 2 ^ 61 ∧ -(2 ^ 61) ≤ b ∧ b < 2 ^ 61) ∧ b - a < 2 ^ 20 then some (rngL a (b - a).toNat) else none
  | _ => none
/-- what a loop walks -/
def itemsD : D → Option (List D)
  | .tup l => some l
  | .lst l => some l
  | .str s => some (s.cps.toList.map fun c => .str ⟨#[c]⟩)
  | .sc l => some (l.map .int)
  | _ => none
def zipD : D → D → Option (List D)
  | .lst a, .lst b => some ((a.zip b).map fun p => .tup [p.1, p.2])
  | _, _ => none

/-! ### places -/
def getO (e : Env) (i : Nat) : Option D := match e[i]? with
  | some (.own d) => some d
  | some (.lck d) => some d
  | _ => none
/-- a name as a value: what was one's own is no more changed -/
def rd (e : Env) (i : Nat) : Res D := match e[i]? with
  | some (.val d) => .ok d e
  | some (.own d) => .ok d (e.set i (.val d))
  | some (.lck d) => .ok d (e.set i (.val d))
  | _ => .bad
/-- a name that is looked at -/
def pk (e : Env) (i : Nat) : Option D := match e[i]? with
  | some (.val d) => some d
  | some (.own d) => some d
  | some (.lck d) => some d
  | _ => none
/-- what is stored: a new list is one's own -/
def slotOf (fr : Bool) (d : D) : Slot := if fr then .own d else .val d
/-- the names that are given to be changed are never stored to -/
def sto (refs : List Nat) (i : Nat) (s : Slot) (e : Env) : Res Unit := if i ∈ refs ∨ e.length ≤ i then .bad else .ok () (e.set i s)
def stoL (refs : List Nat) : List Nat → List D → Env → Res Unit
  | [], [], e => .ok () e
  | i :: is, d :: ds, e => (sto refs i (.val d) e).bind fun _ e => stoL refs is ds e
  | _, _, _ => .bad
/-- a loop's target -/
def stoT (refs : List Nat) (tp : Bool) (ts : List Nat) (d : D) (e : Env) : Res Unit := match tp, ts, d with
  | false, [i], d => sto refs i (.val d) e
  | true, ts, .tup l => stoL refs ts l e
  | _, _, _ => .bad
/-- the block's own names: none at its begin; behind it they are as they were -/
def hideOk (refs ts : List Nat) (e : Env) : Bool := ts.all fun i => !(refs.contains i) && (match e[i]? with | some .emp => true | some (.val _) => true | _ => false)
def clr : List Nat → Env → Env
  | [], e => e
  | i :: r, e => (clr r e).set i .emp
def back (old : Env) : List Nat → Env → Env
  | [], e => e
  | i :: r, e => (back old r e).set i (old.getD i .emp)

/-- an argument's value -/
inductive AV where
  | val (d : D) | own (d : D) | give (d : D)
/-- a call's outcome: what it tells (new: its own), what became of the lists given to be changed -/
inductive Out where
  | ret (fr : Bool) (d : D) (os : List D) | exc (x : Ex) (os : List D) | bad
abbrev CallT := Nat → List AV → Out
def okLend (fr : Bool) (d : D) : Bool := flat d || (fr && match d with
  | .lst l => flat.flats l
  | _ => false)
/-- a changed list that can have nothing of what was lent -/
def okOut : D → Bool
  | .lst l => flat.flats l
  | .dk l => flat.flats (l.map (·.2))
  | .dt l => flat.flats (l.map (·.2))
  | _ => false
/-- an argument ahead of the call: a value, a new list given away, a name lent, a name to be changed -/
inductive AA where
  | v (d : D) | m (d : D) | g (d : D) | l (i : Nat) | r (i : Nat)
def AA.ix : AA → Option Nat
  | .l i => some i | .r i => some i | _ => none
/-- what the arguments hold when the call begins -/
def fetch (e : Env) : List AA → Option (List AV)
  | [] => some []
  | .v d :: r => (fetch e r).map (.val d :: ·)
  | .m d :: r => (fetch e r).map (.own d :: ·)
  | .g d :: r => (fetch e r).map (.give d :: ·)
  | .l i :: r => (pk e i).bind fun d => (fetch e r).map (.val d :: ·)
  | .r i :: r => match e[i]? with
    | some (.own d) => (fetch e r).map (.own d :: ·)
    | _ => none
def ixs (as : List AA) : List Nat := as.filterMap AA.ix
/-- what was lent is no more one's own -/
def frzS (e : Env) (i : Nat) : Env := match e[i]? with
  | some (.own d) => e.set i (.val d)
  | some (.lck d) => e.set i (.val d)
  | _ => e
def frzA : List AA → Env → Env
  | [], e => e
  | .l i :: r, e => frzS (frzA r e) i
  | _ :: r, e => frzA r e
/-- the changed lists put back -/
def putBack : List AA → List D → Env → Option Env
  | [], [], e => some e
  | .v _ :: r, os, e => putBack r os e
  | .l _ :: r, os, e => putBack r os e
  | .g _ :: r, os, e => putBack r os e
  | .m _ :: r, _ :: os, e => putBack r os e
  | .r i :: r, o :: os, e => (putBack r os e).map fun e => e.set i (.own o)
  | _, _, _ => none
def doCall (call : CallT) (f : Nat) (as : List AA) (e : Env) : Res (Bool × D) := if (ixs as).Nodup then
    match fetch e as with
    | none => .bad
    | some vs => match call f vs with
      | .bad => .bad
      | .ret fr d os => match putBack as os e with
        | some e => .ok (fr, d) (if (okLend fr d && os.all okOut) = true then e else frzA as e)
        | none => .bad
      | .exc x os => match putBack as os e with
        | some e => .exc x (if os.all okOut = true then e else frzA as e)
        | none => .bad
  else .bad

/-! ### the run -/
def isVar : E → Option Nat
  | .var i => some i
  | _ => none
def isL : D → Bool
  | .lst _ => true
  | _ => false
/-- an operand: a name (what it holds is looked at when the operation is done), or a value -/
inductive Opd where
  | slot (i : Nat) | d (d : D)
def got (o : Opd) (e : Env) : Option D := match o with
  | .slot i => pk e i
  | .d d => some d
def opnd (v : Option Nat) (r : Unit → Res (Bool × D)) (e : Env) : Res Opd := match v with
  | some i => match pk e i with
    | some _ => .ok (.slot i) e
    | none => .bad
  | none => (r ()).bind fun p e => .ok (.d p.2) e
def gots (os : List Opd) (e : Env) : Option (List D) := match os with
  | [] => some []
  | o :: r => (got o e).bind fun d => (gots r e).map (d :: ·)
/-- one operand, two -/
def op1 {α : Type} (o : Opd) (e : Env) (f : D → Res α) : Res α := match got o e with
  | some d => f d
  | none => .bad
def op2 {α : Type} (o p : Opd) (e : Env) (f : D → D → Res α) : Res α := match got o e, got p e with
  | some d, some d' => f d d'
  | _, _ => .bad
def opn {α : Type} (os : List Opd) (e : Env) (f : List D → Res α) : Res α := match gots os e with
  | some d => f d
  | none => .bad
def asB : D → Env → Res Bool := fun d e => match d with
  | .bl b => .ok b e
  | _ => .bad
def asI : D → Env → Res Int := fun d e => match d with
  | .int b => .ok b e
  | _ => .bad
def fresh (o : Option D) (e : Env) : Res (Bool × D) := match o with
  | some d => .ok (isL d, d) e
  | none => .bad
def old (o : Option D) (e : Env) : Res (Bool × D) := match o with
  | some d => .ok (false, d) e
  | none => .bad
def ofB (o : Option Bool) (e : Env) : Res (Bool × D) := match o with
  | some d => .ok (false, .bl d) e
  | none => .bad
def rngOk : Es → List D → Bool
  | .cons _ .nil, [_] => true
  | .cons _ (.cons _ .nil), [_, _] => true
  | _, _ => false
/-- what a loop walks: things that are there; a list of one's own, as it stands at each turn -/
inductive Wk where
  | st (l : List D) | ow (i : Nat) (n : Nat)
def Wk.fuel : Wk → Nat
  | .st l => l.length
  | .ow _ n => n
def Wk.look (w : Wk) (e : Env) (n : Nat) : Option (Option D) := match w with
  | .st l => some l[n]?
  | .ow i _ => match pk e i with
    | some (.lst l) => some l[n]?
    | _ => none
def Wk.ix : Wk → List Nat
  | .st _ => []
  | .ow i _ => [i]
def compL (elt : Env → Res (Bool × D)) (cond : Env → Res Bool) (st : D → Env → Res Unit) (w : Wk) : Nat → Nat → Env → Res (List D)
  | 0, n, e => match w.look e n with
    | some none => .ok [] e
    | _ => .bad
  | k + 1, n, e => match w.look e n with
    | some none => .ok [] e
    | some (some d) => match st d e with
      | .ok _ e => match cond e with
        | .ok true e => match elt e with
          | .ok p e => match compL elt cond st w k (n + 1) e with
            | .ok l e => .ok (p.2 :: l) e
            | _ => .bad
          | _ => .bad
        | .ok false e => compL elt cond st w k (n + 1) e
        | _ => .bad
      | _ => .bad
    | none => .bad
mutual
def evE (call : CallT) (refs : List Nat) : E → Env → Res (Bool × D)
  | .con c, e => .ok (false, c.d) e
  | .glb _ c, e => .ok (false, c.d) e
  | .var i, e => (rd e i).bind fun d e => .ok (false, d) e
  | .tup es, e => (evEs call refs es e).bind fun l e => if l.length ≤ 4096 then .ok (false, .tup l) e else .bad
  | .lst es, e => (evEs call refs es e).bind fun l e => if l.length ≤ 4096 then .ok (true, .lst l) e else .bad
  | .bin o a b, e => (opnd (isVar a) (fun _ => evE call refs a e) e).bind fun x e => (opnd (isVar b) (fun _ => evE call refs b e) e).bind fun y e => op2 x y e fun x y => fresh (binD o x y) e
  | .neg a, e => (opnd (isVar a) (fun _ => evE call refs a e) e).bind fun x e => op1 x e fun x => (asI x e).bind fun i e => .ok (false, .int (-i)) e
  | .cmp o a b, e => (opnd (isVar a) (fun _ => evE call refs a e) e).bind fun x e => (opnd (isVar b) (fun _ => evE call refs b e) e).bind fun y e => op2 x y e fun x y => ofB (cmpD o x y) e
  | .chn o p a b c, e => (opnd (isVar a) (fun _ => evE call refs a e) e).bind fun x e => (opnd (isVar b) (fun _ => evE call refs b e) e).bind fun y e =>
      op2 x y e fun x' y' => (ofO (cmpD o x' y') e).bind fun k e => if k = true then (opnd (isVar c) (fun _ => evE call refs c e) e).bind fun z e => op2 y z e fun y z => ofB (cmpD p y z) e else .ok (false, .bl false) e
  | .bop k es, e => evBs call refs k es e
  | .not a, e => (opnd (isVar a) (fun _ => evE call refs a e) e).bind fun x e => op1 x e fun x => (asB x e).bind fun b e => .ok (false, .bl (!b)) e
  | .ite c a b, e => (opnd (isVar c) (fun _ => evE call refs c e) e).bind fun x e => op1 x e fun x => (asB x e).bind fun k e => if k = true then evE call refs a e else evE call refs b e
  | .idx a i, e => (opnd (isVar a) (fun _ => evE call refs a e) e).bind fun x e => (opnd (isVar i) (fun _ => evE call refs i e) e).bind fun y e => op2 x y e fun x y => old (idxD x y) e
  | .slc a lo hi, e => (opnd (isVar a) (fun _ => evE call refs a e) e).bind fun x e => (evEo call refs lo e).bind fun l e => (evEo call refs hi e).bind fun h e => op1 x e fun x => fresh (slcD x l h) e
  | .stp a k, e => .bad
  | .call f as, e => (evAs call refs as e).bind fun vs e => doCall call f vs e
  | .bi b es, e => (evPs call refs es e).bind fun l e => opn l e fun l => fresh (biD b l) e
  | .bid b a d, e => .bad
  | .lset a, e => .bad
  | .lrng t es, e => (evPs call refs es e).bind fun l e => opn l e fun l => (ofO (rngD l) e).bind fun l e => if t then .ok (false, .tup l) e else .ok (true, .lst l) e
  | .mth m r es, e => (opnd (isVar r) (fun _ => evE call refs r e) e).bind fun x e => op1 x e fun d => if rcv m d = true then (evEs call refs es e).bind fun l e => op1 x e fun x => match m with
      | .get => old (mthD m x l) e
      | _ => fresh (mthD m x l) e
      else .bad
  | .isi a t, e => (opnd (isVar a) (fun _ => evE call refs a e) e).bind fun x e => op1 x e fun x => ofB (isiD x t) e
  | .newd t, e => .ok (true, if t then .dt [] else .dk []) e
  | .comp elt tp ts src cond, e => (evSrc call refs src e).bind fun w e => if hideOk (w.ix ++ refs) ts e = true ∧ w.fuel ≤ 16777216 then match compL (fun e => evE call refs elt e) (fun e => evC call refs cond e) (fun d e => stoT refs tp ts d (clr ts e)) w w.fuel 0 e with
        | .ok l e2 => .ok (true, .lst l) (back e ts e2)
        | _ => .bad
      else .bad
def evEs (call : CallT) (refs : List Nat) : Es → Env → Res (List D)
  | .nil, e => .ok [] e
  | .cons a r, e => (evE call refs a e).bind fun p e => (evEs call refs r e).bind fun l e => .ok (p.2 :: l) e
def evPs (call : CallT) (refs : List Nat) : Es → Env → Res (List Opd)
  | .nil, e => .ok [] e
  | .cons a r, e => (opnd (isVar a) (fun _ => evE call refs a e) e).bind fun d e => (evPs call refs r e).bind fun l e => .ok (d :: l) e
def evBs (call : CallT) (refs : List Nat) (k : Bool) : Es → Env → Res (Bool × D)
  | .nil, e => .bad
  | .cons a .nil, e => evE call refs a e
  | .cons a r, e => (opnd (isVar a) (fun _ => evE call refs a e) e).bind fun x e => op1 x e fun x => (asB x e).bind fun b e => if b = k then evBs call refs k r e else .ok (false, .bl b) e
def evEo (call : CallT) (refs : List Nat) : Eo → Env → Res (Option Int)
  | .none, e => .ok none e
  | .some a, e => (opnd (isVar a) (fun _ => evE call refs a e) e).bind fun x e => op1 x e fun x => (asI x e).bind fun i e => .ok (some i) e
def evC (call : CallT) (refs : List Nat) : Eo → Env → Res Bool
  | .none, e => .ok true e
  | .some a, e => (opnd (isVar a) (fun _ => evE call refs a e) e).bind fun x e => op1 x e fun x => asB x e
def evAs (call : CallT) (refs : List Nat) : As → Env → Res (List AA)
  | .nil, e => .ok [] e
  | .val a r, e => (evE call refs a e).bind fun p e => (evAs call refs r e).bind fun l e => .ok (.v p.2 :: l) e
  | .mov a r, e => (evE call refs a e).bind fun p e => if p.1 = true then (evAs call refs r e).bind fun l e => .ok (.m p.2 :: l) e else .bad
  | .give a r, e => (evE call refs a e).bind fun p e => if p.1 = true then (evAs call refs r e).bind fun l e => .ok (.g p.2 :: l) e else .bad
  | .lend i r, e => (ofO (pk e i) e).bind fun _ e => (evAs call refs r e).bind fun l e => .ok (.l i :: l) e
  | .ref i r, e => (ofO (pk e i) e).bind fun _ e => (evAs call refs r e).bind fun l e => .ok (.r i :: l) e
def evSrc (call : CallT) (refs : List Nat) : Src → Env → Res Wk
  | .ex a, e => (evE call refs a e).bind fun p e => ofO ((itemsD p.2).map .st) e
  | .own i, e => match e[i]? with
    | some (.own (.lst l)) => .ok (.ow i (l.length + 4096)) e
    | some (.val d) => ofO ((itemsD d).map .st) e
    | _ => .bad
  | .rng es, e => (evPs call refs es e).bind fun l e => opn l e fun l => if rngOk es l = true then ofO ((rngD l).map .st) e else .bad
  | .zip a b, e => .bad
end
/-- a test -/
def evT (call : CallT) (refs : List Nat) (a : E) (e : Env) : Res Bool := (opnd (isVar a) (fun _ => evE call refs a e) e).bind fun x e => op1 x e fun x => asB x e

inductive SR where
  | next (e : Env) | ret (fr : Bool) (d : D) (e : Env) | exc (x : Ex) (e : Env) | bad
def SR.then (r : SR) (f : Env → SR) : SR := match r with
  | .next e => f e
  | .ret fr d e => .ret fr d e
  | .exc x e => .exc x e
  | .bad => .bad
def Res.to {α : Type} (r : Res α) (f : α → Env → SR) : SR := match r with
  | .ok a e => f a e
  | .exc x e => .exc x e
  | .bad => .bad
def forL (body : Env → SR) (st : D → Env → Res Unit) (w : Wk) : Nat → Nat → Env → SR
  | 0, n, e => match w.look e n with
    | some none => .next e
    | _ => .bad
  | k + 1, n, e => match w.look e n with
    | some none => .next e
    | some (some d) => (st d e).to fun _ e => (body e).then fun e => forL body st w k (n + 1) e
    | none => .bad
def whlL (c : Env → Res Bool) (body : Env → SR) : Nat → Env → SR
  | 0, _ => .bad
  | n + 1, e => (c e).to fun b e => if b = true then (body e).then fun e => whlL c body n e else .next e
def SR.map (f : Env → Env) (r : SR) : SR := match r with
  | .next e => .next (f e)
  | .ret fr d e => .ret fr d (f e)
  | .exc x e => .exc x (f e)
  | .bad => .bad
/-- a change of one's own list or dict -/
def modify (e : Env) (i : Nat) (f : D → Option D) : SR := match e[i]? with
  | some (.own d) => match f d with
    | some d => .next (e.set i (.own d))
    | none => .bad
  | _ => .bad
def modK (e : Env) (i : Nat) (k : Opd) (f : D → D → Option D) : SR := match got k e with
  | some k => modify e i fun d => f d k
  | none => .bad
def setD (d k a : D) : Option D := match d, k with
  | .lst l, .int i => (ixN l.length i).map fun j => .lst (l.set j a)
  | .dk l, k => match keyOf k with
    | some (.inl x) => if l.length < 4096 then some (.dk (put l x a)) else none
    | _ => none
  | .dt l, k => match keyOf k with
    | some (.inr x) => if l.length < 4096 then some (.dt (put l x a)) else none
    | _ => none
  | _, _ => none
def appD (d a : D) : Option D := match d with
  | .lst l => if l.length < 4096 then some (.lst (l ++ [a])) else none
  | _ => none
def insD (d k a : D) : Option D := match d, k with
  | .lst l, .int i => if l.length < 4096 ∧ 0 ≤ i ∧ i < 2 ^ 62 then some (.lst (l.insertIdx (min i.toNat l.length) a)) else none
  | _, _ => none
def popD (d : D) : Option D := match d with
  | .lst l => if l = [] then none else some (.lst l.dropLast)
  | _ => none
def popkD (d k : D) : Option D := match d, keyOf k with
  | .dk l, some (.inl x) => if (look l x).isSome = true then some (.dk (drop l x)) else none
  | _, _ => none
/-- the suite's lists -/
def hndl (refs : List Nat) (x : Ex) : List (Nat × Bool × List (Option Ex)) → Env → SR
  | [], e => .next e
  | (j, ap, cs) :: r, e =>
    let l : List D := cs.map fun c => .bl (match c with | some y => decide (x = y) | none => true)
    if e.length ≤ j ∨ j ∈ refs then .bad else if ap = true then match e[j]? with
      | some (.own (.lst o)) => if o.length + l.length ≤ 4096 then hndl refs x r (e.set j (.own (.lst (o ++ l)))) else .bad
      | _ => .bad
    else if l.length ≤ 4096 then hndl refs x r (e.set j (.own (.lst l))) else .bad
mutual
def evS (call : CallT) : S → List Nat → Env → SR
  | .asg i a, refs, e => (evE call refs a e).to fun p e => (sto refs i (slotOf p.1 p.2) e).to fun _ e => .next e
  | .unp ts a, refs, e => (evE call refs a e).to fun p e => match p.2 with
      | .tup l => (stoL refs ts l e).to fun _ e => .next e
      | .lst l => (stoL refs ts l e).to fun _ e => .next e
      | _ => .bad
  | .par i j a b, refs, e => (evE call refs a e).to fun p e => (evE call refs b e).to fun q e => (sto refs j (.val q.2) e).to fun _ e => (sto refs i (.val p.2) e).to fun _ e => .next e
  | .seti i k a, refs, e => (evE call refs a e).to fun p e => match e[i]? with
      | some (.own _) => (opnd (isVar k) (fun _ => evE call refs k e) e).to fun k e => modK e i k fun d k => setD d k p.2
      | _ => .bad
  | .app i a, refs, e => match e[i]? with
      | some (.own (.lst _)) => (evE call refs a e).to fun p e => modify e i fun d => appD d p.2
      | _ => .bad
  | .ins i k a, refs, e => match e[i]? with
    | some (.own (.lst _)) => (opnd (isVar k) (fun _ => evE call refs k e) e).to fun k e => (evE call refs a e).to fun p e => modK e i k fun d k => insD d k p.2
    | _ => .bad
  | .pop i, refs, e => modify e i popD
  | .popk i k, refs, e => (opnd (isVar k) (fun _ => evE call refs k e) e).to fun k e => modK e i k fun d k => popkD d k
  | .xpr a, refs, e => (evE call refs a e).to fun _ e => .next e
  | .ret a, refs, e => match isVar a with
      | some i => match e[i]? with
        | some (.val d) => .ret false d e
        | some (.own d) => if i ∈ refs then .bad else .ret true d (e.set i .emp)
        | some (.lck d) => if i ∈ refs then .bad else .ret true d (e.set i .emp)
        | _ => .bad
      | none => (evE call refs a e).to fun p e => .ret p.1 p.2 e
  | .ret0, refs, e => .ret false .non e
  | .ifs c a b, refs, e => (evT call refs c e).to fun k e => if k = true then evSs call a refs e else evSs call b refs e
  | .loop tp ts src b, refs, e => (evSrc call refs src e).to fun w e => forL (fun e => evSs call b (w.ix ++ refs) e) (stoT (w.ix ++ refs) tp ts) w w.fuel 0 e
  | .whl fuel c b, refs, e => whlL (fun e => evT call refs c e) (fun e => evSs call b refs e) (fuel e) e
  | .rse x, refs, e => .exc x e
  | .tryk i xs b h, refs, e => match evSs call b refs e with
      | .exc x e => if e.length ≤ i ∨ x ∉ xs ∨ i ∈ refs then .bad else (hndl refs x h (e.set i .emp)).then fun e => .next (e.set i .emp)
      | r => r
def evSs (call : CallT) : Ss → List Nat → Env → SR
  | .nil, refs, e => .next e
  | .cons a r, refs, e => (evS call a refs e).then fun e => evSs call r refs e
end

/-! ### defs -/
def params : List PM → List AV → Option Env
  | [], [] => some []
  | .v :: r, .val d :: as => (params r as).map (.val d :: ·)
  | .r :: r, .own d :: as => (params r as).map (.own d :: ·)
  | .g :: r, .give d :: as => (params r as).map (.own d :: ·)
  | _, _ => none
def refsOf : Nat → List PM → List Nat
  | _, [] => []
  | i, .r :: r => i :: refsOf (i + 1) r
  | i, .v :: r => refsOf (i + 1) r
  | i, .g :: r => refsOf (i + 1) r
def outs (e : Env) : List Nat → Option (List D)
  | [] => some []
  | i :: r => (getO e i).bind fun d => (outs e r).map (d :: ·)
def runFn (call : CallT) (f : Fn) (as : List AV) : Out := match params f.ps as with
  | none => .bad
  | some e => match evSs call f.body (refsOf 0 f.ps) (e ++ List.replicate (f.n - e.length) .emp) with
    | .next e => match outs e (refsOf 0 f.ps) with | some os => .ret false .non os | none => .bad
    | .ret fr d e => match outs e (refsOf 0 f.ps) with | some os => .ret fr d os | none => .bad
    | .exc x e => match outs e (refsOf 0 f.ps) with | some os => .exc x os | none => .bad
    | .bad => .bad
def run (tab : Nat → Option Fn) : Nat → CallT
  | 0 => fun _ _ => .bad
  | k + 1 => fun f as => match tab f with
    | some fn => runFn (run tab k) fn as
    | none => .bad
end Vm

/-! VmB: how data lie in the abstract heap; the state of a def that runs. -/
namespace Vm
open PySem PySem.Spec PyProof.Rows L2

def Sub (S H : Hp) : Prop := ∀ b o, S b = some o → H b = some o
theorem Sub.refl (S : Hp) : Sub S S := fun _ _ h => h
theorem Sub.trans {A B C : Hp} (h : Sub A B) (g : Sub B C) : Sub A C := fun b o q => g b o (h b o q)
theorem Sub.upd {S : Hp} {p : Addr} {o : HO} (h : S p = none) : Sub S (upd S p o) := fun b u q => by
  rw [upd_ne (ne_of_none q h)]; exact q
theorem Sub.updR {S H : Hp} {p : Addr} {o : HO} (h : Sub S H) (n : S p = none) : Sub S (L2.upd H p o) := fun b u q => by
  rw [upd_ne (ne_of_none q n)]; exact h b u q
theorem Sub.upd2 {S H : Hp} {p : Addr} {o : HO} (h : Sub S H) : Sub (L2.upd S p o) (L2.upd H p o) := fun b u q => by
  unfold L2.upd at q ⊢
  split
  · rename_i e; rw [if_pos e] at q; exact q
  · rename_i e; rw [if_neg e] at q; exact h b u q
theorem Sub.none {S H : Hp} {p : Addr} (h : Sub S H) (n : H p = Option.none) : S p = Option.none := by
  cases e : S p with
  | none => rfl
  | some o => rw [h p o e] at n; cases n
theorem sqT_sub {K : PySem.W.Frag} {S H : Hp} {a : Addr} {xs : List V} (h : Sub S H) (q : SqT K S a xs) : SqT K H a xs := by
  rcases q with (q | ⟨o, q⟩) | q
  · exact .inl (.inl (h _ _ q))
  · exact .inl (.inr ⟨o, h _ _ q⟩)
  · exact .inr q
theorem sqL_sub {K : PySem.W.Frag} {S H : Hp} {a : Addr} {xs : List V} (h : Sub S H) (q : SqL K S a xs) : SqL K H a xs := by
  rcases q with (q | ⟨o, q⟩) | q
  · exact .inl (.inl (h _ _ q))
  · exact .inl (.inr ⟨o, h _ _ q⟩)
  · exact .inr q

mutual
/-- v stands for the data d: all that it leans on is in S -/
inductive Rep (K : PySem.W.Frag) (S : Hp) : V → D → Prop
  | non : Rep K S .non .non
  | bl (b : Bool) : Rep K S (.bl b) (.bl b)
  | int (i : Int) : Rep K S (.int i) (.int i)
  | str (s : Str) : Rep K S (.str s) (.str s)
  | tup {a : Addr} {vs : List V} {l : List D} : S a = some (.tup vs) → RepL K S vs l → Rep K S (.ref a) (.tup l)
  | lst {a : Addr} {vs : List V} {l : List D} : S a = some (.lst vs) → RepL K S vs l → Rep K S (.ref a) (.lst l)
  | sc {a : Addr} {l : List Int} : SqL K S a (l.map V.int) → Rep K S (.ref a) (.sc l)
  | dk {a : Addr} {vs : List V} {l : List (Key × D)} : S a = some (.dK ((l.map (·.1)).zip vs)) → RepL K S vs (l.map (·.2)) → Rep K S (.ref a) (.dk l)
  | dt {a : Addr} {vs : List V} {l : List (List Key × D)} : S a = some (.dT ((l.map (·.1)).zip vs)) → RepL K S vs (l.map (·.2)) → Rep K S (.ref a) (.dt l)
inductive RepL (K : PySem.W.Frag) (S : Hp) : List V → List D → Prop
  | nil : RepL K S [] []
  | cons {v : V} {vs : List V} {d : D} {l : List D} : Rep K S v d → RepL K S vs l → RepL K S (v :: vs) (d :: l)
end
section
variable {K : PySem.W.Frag} {S S' H : Hp}
mutual
theorem Rep.mono (h : Sub S S') : ∀ {v : V} {d : D}, Rep K S v d → Rep K S' v d
  | _, _, .non => .non
  | _, _, .bl b => .bl b
  | _, _, .int b => .int b
  | _, _, .str b => .str b
  | _, _, .tup a r => .tup (h _ _ a) (RepL.mono h r)
  | _, _, .lst a r => .lst (h _ _ a) (RepL.mono h r)
  | _, _, .sc a => .sc (sqL_sub h a)
  | _, _, .dk a r => .dk (h _ _ a) (RepL.mono h r)
  | _, _, .dt a r => .dt (h _ _ a) (RepL.mono h r)
theorem RepL.mono (h : Sub S S') : ∀ {v : List V} {d : List D}, RepL K S v d → RepL K S' v d
  | _, _, .nil => .nil
  | _, _, .cons a r => .cons (Rep.mono h a) (RepL.mono h r)
end
theorem RepL.length : ∀ {vs : List V} {l : List D}, RepL K S vs l → vs.length = l.length
  | _, _, .nil => rfl
  | _, _, .cons _ r => congrArg Nat.succ (RepL.length r)
theorem RepL.get : ∀ {vs : List V} {l : List D} {i : Nat} {d : D}, RepL K S vs l → l[i]? = some d → ∃ v, vs[i]? = some v ∧ Rep K S v d
  | _, _, _, _, .nil, e => by simp at e
  | _, _, 0, _, .cons r _, e => by simp at e; subst e; exact ⟨_, rfl, r⟩
  | _, _, i + 1, _, .cons _ t, e => by
    obtain ⟨v, h1, h2⟩ := RepL.get (i := i) t (by simpa using e)
    exact ⟨v, by simpa using h1, h2⟩
theorem RepL.append : ∀ {vs ws : List V} {l m : List D}, RepL K S vs l → RepL K S ws m → RepL K S (vs ++ ws) (l ++ m)
  | _, _, _, _, .nil, s => s
  | _, _, _, _, .cons r t, s => .cons r (RepL.append t s)
theorem RepL.set {v : V} {d : D} (r : Rep K S v d) : ∀ {vs : List V} {l : List D} (i : Nat), RepL K S vs l → RepL K S (vs.set i v) (l.set i d)
  | _, _, _, .nil => .nil
  | _, _, 0, .cons _ t => .cons r t
  | _, _, i + 1, .cons q t => .cons q (RepL.set r i t)
theorem RepL.take : ∀ {vs : List V} {l : List D} (n : Nat), RepL K S vs l → RepL K S (vs.take n) (l.take n)
  | _, _, 0, _ => .nil
  | _, _, _ + 1, .nil => .nil
  | _, _, n + 1, .cons r t => .cons r (RepL.take n t)
theorem RepL.drop : ∀ {vs : List V} {l : List D} (n : Nat), RepL K S vs l → RepL K S (vs.drop n) (l.drop n)
  | _, _, 0, r => r
  | _, _, _ + 1, .nil => .nil
  | _, _, n + 1, .cons _ t => RepL.drop n t
theorem RepL.insert {v : V} {d : D} (r : Rep K S v d) : ∀ {vs : List V} {l : List D} (i : Nat), RepL K S vs l → RepL K S (vs.insertIdx i v) (l.insertIdx i d)
  | _, _, 0, .nil => .cons r .nil
  | _, _, _ + 1, .nil => .nil
  | _, _, 0, .cons q t => .cons r (.cons q t)
  | _, _, i + 1, .cons q t => by simp only [List.insertIdx_succ_cons]; exact .cons q (RepL.insert r i t)
theorem RepL.dropLast : ∀ {vs : List V} {l : List D}, RepL K S vs l → RepL K S vs.dropLast l.dropLast := fun {vs l} r => by
  rw [List.dropLast_eq_take, List.dropLast_eq_take, r.length]; exact r.take _
theorem RepL.rep {vs : List V} {l : List D} (r : RepL K S vs l) : ∀ n : Nat, RepL K S (List.replicate n vs).flatten (List.replicate n l).flatten
  | 0 => .nil
  | n + 1 => by rw [List.replicate_succ, List.replicate_succ, List.flatten_cons, List.flatten_cons]; exact r.append (RepL.rep r n)
theorem RepL.ints : ∀ (ns : List Int), RepL K S (ns.map V.int) (ns.map D.int)
  | [] => .nil
  | _ :: r => .cons (.int _) (RepL.ints r)
theorem RepL.strs : ∀ (ns : List Str), RepL K S (ns.map V.str) (ns.map D.str)
  | [] => .nil
  | _ :: r => .cons (.str _) (RepL.strs r)
theorem RepL.asInts : ∀ {vs : List V} {l : List D} {ns : List Int}, RepL K S vs l → asInts l = some ns → vs = ns.map V.int
  | _, _, _, .nil, e => by cases e; rfl
  | _, _, _, .cons (d := d) r t, e => by
    cases r with
    | int i =>
      simp only [Vm.asInts] at e
      cases q : Vm.asInts (by assumption) with
      | none => rw [q] at e; cases e
      | some m => rw [q] at e; cases e; rw [List.map_cons, RepL.asInts t q]
    | _ => cases e
theorem RepL.asBools : ∀ {vs : List V} {l : List D} {ns : List Bool}, RepL K S vs l → asBools l = some ns → vs = ns.map V.bl
  | _, _, _, .nil, e => by cases e; rfl
  | _, _, _, .cons (d := d) r t, e => by
    cases r with
    | bl i =>
      simp only [Vm.asBools] at e
      cases q : Vm.asBools (by assumption) with
      | none => rw [q] at e; cases e
      | some m => rw [q] at e; cases e; rw [List.map_cons, RepL.asBools t q]
    | _ => cases e
theorem RepL.asStrs : ∀ {vs : List V} {l : List D} {ns : List Str}, RepL K S vs l → asStrs l = some ns → vs = ns.map V.str
  | _, _, _, .nil, e => by cases e; rfl
  | _, _, _, .cons (d := d) r t, e => by
    cases r with
    | str i =>
      simp only [Vm.asStrs] at e
      cases q : Vm.asStrs (by assumption) with
      | none => rw [q] at e; cases e
      | some m => rw [q] at e; cases e; rw [List.map_cons, RepL.asStrs t q]
    | _ => cases e
mutual
theorem Rep.py (h : Sub S H) : ∀ {v : V} {d : D} {p : PyData}, Rep K S v d → py d = some p → Dp K H v p
  | _, _, _, .non, e => by cases e; exact .non
  | _, _, _, .bl b, e => by cases e; exact .bl b
  | _, _, _, .int b, e => by cases e; exact .int b
  | _, _, _, .str b, e => by cases e; exact .str b
  | _, _, _, .tup (l := l) a r, e => by
    simp only [Vm.py, Option.map_eq_some_iff] at e
    obtain ⟨ps, q, rfl⟩ := e
    exact .tup (.of (h _ _ a)) (RepL.py h r q)
  | _, _, _, .lst (l := l) a r, e => by
    simp only [Vm.py, Option.map_eq_some_iff] at e
    obtain ⟨ps, q, rfl⟩ := e
    exact .lst (.of (h _ _ a)) (RepL.py h r q)
  | _, _, _, .sc _, e => by cases e
  | _, _, _, .dk _ _, e => by cases e
  | _, _, _, .dt _ _, e => by cases e
theorem RepL.py (h : Sub S H) : ∀ {v : List V} {d : List D} {p : List PyData}, RepL K S v d → py.pys d = some p → DpAll K H v p
  | _, _, _, .nil, e => by cases e; exact .nil
  | _, _, _, .cons (d := d) (l := l) a r, e => by
    simp only [Vm.py.pys] at e
    cases q1 : Vm.py d with
    | none => rw [q1] at e; cases e
    | some x => cases q2 : Vm.py.pys l with
      | none => rw [q1, q2] at e; cases e
      | some y => rw [q1, q2] at e; cases e; exact .cons (Rep.py h a q1) (RepL.py h r q2)
end
/-- what no change of a list or a dict can touch -/
def NM (S S' : Hp) : Prop := ∀ b o, S b = some o → ¬ Mut (some o) → S' b = some o
mutual
theorem Rep.flat (h : NM S S') : ∀ {v : V} {d : D}, Rep K S v d → flat d = true → Rep K S' v d
  | _, _, .non, _ => .non
  | _, _, .bl b, _ => .bl b
  | _, _, .int b, _ => .int b
  | _, _, .str b, _ => .str b
  | _, _, .tup a r, e => by
    exact .tup (h _ _ a (fun z => z)) (RepL.flat h r (by simpa only [Vm.flat] using e))
  | _, _, .lst _ _, e => by cases e
  | _, _, .sc _, e => by cases e
  | _, _, .dk _ _, e => by cases e
  | _, _, .dt _ _, e => by cases e
theorem RepL.flat (h : NM S S') : ∀ {v : List V} {d : List D}, RepL K S v d → Vm.flat.flats d = true → RepL K S' v d
  | _, _, .nil, _ => .nil
  | _, _, .cons a r, e => by
    simp only [Vm.flat.flats, Bool.and_eq_true] at e
    exact .cons (Rep.flat h a e.1) (RepL.flat h r e.2)
end

/-- at l lies a list or a dict, its things in S -/
def OwnAt (K : PySem.W.Frag) (S H : Hp) (l : Addr) : D → Prop
  | .lst ds => ∃ vs, H l = some (.lst vs) ∧ RepL K S vs ds
  | .dk kvs => ∃ vs, H l = some (.dK ((kvs.map (·.1)).zip vs)) ∧ RepL K S vs (kvs.map (·.2))
  | .dt kvs => ∃ vs, H l = some (.dT ((kvs.map (·.1)).zip vs)) ∧ RepL K S vs (kvs.map (·.2))
  | _ => False
/-- no one else has it -/
def Own (K : PySem.W.Frag) (S H : Hp) (l : Addr) (d : D) : Prop := S l = none ∧ OwnAt K S H l d
theorem OwnAt.mono {l : Addr} {d : D} (h : Sub S S') {H' : Hp} (e : H' l = H l) (o : OwnAt K S H l d) : OwnAt K S' H' l d := by
  cases d with
  | lst ds => obtain ⟨vs, a, r⟩ := o; exact ⟨vs, by rw [e]; exact a, r.mono h⟩
  | dk ds => obtain ⟨vs, a, r⟩ := o; exact ⟨vs, by rw [e]; exact a, r.mono h⟩
  | dt ds => obtain ⟨vs, a, r⟩ := o; exact ⟨vs, by rw [e]; exact a, r.mono h⟩
  | _ => exact o.elim
theorem OwnAt.some {l : Addr} {d : D} (o : OwnAt K S H l d) : ∃ u, H l = Option.some u ∧ Mut (Option.some u) := by
  cases d with
  | lst ds => obtain ⟨vs, a, r⟩ := o; exact ⟨_, a, trivial⟩
  | dk ds => obtain ⟨vs, a, r⟩ := o; exact ⟨_, a, trivial⟩
  | dt ds => obtain ⟨vs, a, r⟩ := o; exact ⟨_, a, trivial⟩
  | _ => exact o.elim
/-- it becomes a value: the ground takes it -/
theorem OwnAt.rep {l : Addr} {d : D} (o : OwnAt K S H l d) (n : S l = none) {u : HO} (e : H l = Option.some u) : Rep K (upd S l u) (.ref l) d := by
  have hs : Sub S (upd S l u) := Sub.upd n
  cases d with
  | lst ds => obtain ⟨vs, a, r⟩ := o; rw [e] at a; cases a; exact .lst upd_same (r.mono hs)
  | dk ds => obtain ⟨vs, a, r⟩ := o; rw [e] at a; cases a; exact .dk upd_same (r.mono hs)
  | dt ds => obtain ⟨vs, a, r⟩ := o; rw [e] at a; cases a; exact .dt upd_same (r.mono hs)
  | _ => exact o.elim
/-- what an operation sees of a value: the thing itself in H, its things in S -/
def See (K : PySem.W.Frag) (S H : Hp) (v : V) : D → Prop
  | .lst ds => ∃ a vs, v = .ref a ∧ H a = some (.lst vs) ∧ RepL K S vs ds
  | .dk kvs => ∃ a vs, v = .ref a ∧ H a = some (.dK ((kvs.map (·.1)).zip vs)) ∧ RepL K S vs (kvs.map (·.2))
  | .dt kvs => ∃ a vs, v = .ref a ∧ H a = some (.dT ((kvs.map (·.1)).zip vs)) ∧ RepL K S vs (kvs.map (·.2))
  | d => Rep K S v d
theorem Rep.see (h : Sub S H) {v : V} {d : D} (r : Rep K S v d) : See K S H v d := by
  cases r with
  | lst a r => exact ⟨_, _, rfl, h _ _ a, r⟩
  | dk a r => exact ⟨_, _, rfl, h _ _ a, r⟩
  | dt a r => exact ⟨_, _, rfl, h _ _ a, r⟩
  | non => exact .non
  | bl b => exact .bl b
  | int b => exact .int b
  | str b => exact .str b
  | tup a r => exact .tup a r
  | sc a => exact .sc a
theorem OwnAt.see {l : Addr} {d : D} (o : OwnAt K S H l d) : See K S H (.ref l) d := by
  cases d with
  | lst ds => obtain ⟨vs, a, r⟩ := o; exact ⟨_, vs, rfl, a, r⟩
  | dk ds => obtain ⟨vs, a, r⟩ := o; exact ⟨_, vs, rfl, a, r⟩
  | dt ds => obtain ⟨vs, a, r⟩ := o; exact ⟨_, vs, rfl, a, r⟩
  | _ => exact o.elim
theorem See.py (h : Sub S H) {v : V} {d : D} {p : PyData} (r : See K S H v d) (e : Vm.py d = some p) : Dp K H v p := by
  cases d with
  | lst ds =>
    obtain ⟨a, vs, rfl, ha, r⟩ := r
    simp only [Vm.py, Option.map_eq_some_iff] at e
    obtain ⟨ps, q, rfl⟩ := e
    exact .lst (.of ha) (r.py h q)
  | dk ds => cases e
  | dt ds => cases e
  | _ => exact Rep.py h r e
end
end Vm

/-! VmC: the state of a def that runs: names, the ground, lists of one's own, lists that are not yet put anywhere. -/
namespace Vm
open PySem PySem.Spec PyProof.Rows L2

/-- the entry: the heap, the ground, the addresses that may be changed, the names of those given to be changed -/
structure Gh where
  H : Hp
  S : Hp
  B : List Addr
  R : List (Nat × Addr)
def IsOwn (e : Env) (i : Nat) (d : D) : Prop := e[i]? = some (.own d) ∨ e[i]? = some (.lck d)
def At (σ : L2.St) (i : Nat) (l : Addr) : Prop := σ[i]? = some (some (.ref l))
structure Rel (K : PySem.W.Frag) (G : Gh) (P : List (Addr × HO)) (e : Env) (σ : L2.St) (S H : Hp) : Prop where
  sub : Sub S H
  fr : ∀ b o, G.H b = some o → b ∉ G.B → H b = some o
  s0 : Sub G.S S
  new : ∀ b o, S b = some o → Mut (some o) → G.S b ≠ none ∨ G.H b = none ∨ b ∈ G.B
  len : e.length = σ.length
  val : ∀ (i : Nat) (d : D), e[i]? = some (.val d) → ∃ v, σ[i]? = some (some v) ∧ Rep K S v d
  own : ∀ i d, IsOwn e i d → ∃ l, At σ i l ∧ Own K S H l d ∧ (G.H l = none ∨ l ∈ G.B)
  sep : ∀ i j d d' l, IsOwn e i d → IsOwn e j d' → At σ i l → At σ j l → i = j
  pen : ∀ p ∈ P, H p.1 = some p.2 ∧ S p.1 = none ∧ (∀ i d, IsOwn e i d → ¬ At σ i p.1) ∧ (G.H p.1 = none ∨ p.1 ∈ G.B) ∧ Mut (some p.2)
  pnd : (P.map (·.1)).Nodup
  refs : ∀ r ∈ G.R, At σ r.1 r.2
/-- a new list that nothing else has -/
structure Fre (K : PySem.W.Frag) (G : Gh) (P : List (Addr × HO)) (e : Env) (σ : L2.St) (S H : Hp) (l : Addr) (d : D) : Prop where
  own : Own K S H l d
  noe : ∀ i d', IsOwn e i d' → ¬ At σ i l
  nop : ∀ p ∈ P, p.1 ≠ l
  gh : G.H l = none ∨ l ∈ G.B

section
variable {K : PySem.W.Frag} {G : Gh} {P : List (Addr × HO)} {e : Env} {σ : L2.St} {S H : Hp}
theorem IsOwn.lt {i : Nat} {d : D} (h : IsOwn e i d) : i < e.length := by
  rcases h with h | h <;> exact (List.getElem?_eq_some_iff.mp h).1
theorem IsOwn.inj {i : Nat} {d d' : D} (h : IsOwn e i d) (h' : IsOwn e i d') : d = d' := by
  rcases h with h | h <;> rcases h' with h' | h' <;> (rw [h] at h'; cases h') <;> rfl
/-- the ground takes a thing that is new, or that was one's own -/
theorem Rel.ground (R : Rel K G P e σ S H) {p : Addr} {u : HO} (n : S p = none) (hu : H p = some u) (ne : ∀ i d, IsOwn e i d → ¬ At σ i p) (np : ∀ q ∈ P, q.1 ≠ p) (g : G.H p = none ∨ p ∈ G.B) : Rel K G P e σ (upd S p u) H where
  sub := fun b o q => by
    by_cases h : b = p
    · subst h; rw [upd_same] at q; cases q; exact hu
    · rw [upd_ne h] at q; exact R.sub b o q
  fr := R.fr
  s0 := R.s0.trans (Sub.upd n)
  new := fun b o q m => by
    by_cases h : b = p
    · subst h; exact .inr g
    · rw [upd_ne h] at q; exact R.new b o q m
  len := R.len
  val := fun i d q => let ⟨v, a, r⟩ := R.val i d q; ⟨v, a, r.mono (Sub.upd n)⟩
  own := fun i d q => by
    obtain ⟨l, a, ⟨o1, o2⟩, g⟩ := R.own i d q
    have : l ≠ p := fun z => ne i d q (z ▸ a)
    exact ⟨l, a, ⟨by rw [upd_ne this]; exact o1, o2.mono (Sub.upd n) rfl⟩, g⟩
  sep := R.sep
  pen := fun q hq => let ⟨a, b, c, d⟩ := R.pen q hq; ⟨a, by rw [upd_ne (np q hq)]; exact b, c, d⟩
  pnd := R.pnd
  refs := R.refs
/-- the ground takes what never changes -/
theorem Rel.ext (R : Rel K G P e σ S H) {S1 : Hp} (h1 : Sub S S1) (h2 : Sub S1 H) (h3 : ∀ b o, S1 b = some o → S b = some o ∨ ¬ Mut (some o)) : Rel K G P e σ S1 H := by
  have no : ∀ {l u}, S l = none → H l = some u → Mut (some u) → S1 l = none := fun {l u} n hu m => by
    cases q : S1 l with
    | none => rfl
    | some o =>
      rcases h3 l o q with z | z
      · rw [n] at z; cases z
      · have := h2 l o q
        rw [hu] at this; cases this; exact absurd m z
  exact {
    sub := h2, fr := R.fr, s0 := R.s0.trans h1
    new := fun b o q m => by
      rcases h3 b o q with z | z
      · exact R.new b o z m
      · exact absurd m z
    len := R.len
    val := fun i d q => let ⟨v, a, r⟩ := R.val i d q; ⟨v, a, r.mono h1⟩
    own := fun i d q => by
      obtain ⟨l, a, ⟨o1, o2⟩, g⟩ := R.own i d q
      obtain ⟨u, hu, m⟩ := o2.some
      exact ⟨l, a, ⟨no o1 hu m, o2.mono h1 rfl⟩, g⟩
    sep := R.sep
    pen := fun q hq => let ⟨a, b, c, d, m⟩ := R.pen q hq; ⟨a, no b a m, c, d, m⟩
    pnd := R.pnd, refs := R.refs }
/-- the heap has changed at one free place: laid -/
theorem Rel.laid (R : Rel K G P e σ S H) {p : Addr} {u : HO} (n : H p = none) : Rel K G P e σ S (upd H p u) := by
  have key : ∀ {b o}, H b = some o → b ≠ p := fun {b o} q z => by subst z; rw [n] at q; cases q
  exact {
    sub := R.sub.updR (R.sub.none n)
    fr := fun b o q hb => by rw [upd_ne (key (R.fr b o q hb))]; exact R.fr b o q hb
    s0 := R.s0, new := R.new, len := R.len, val := R.val
    own := fun i d q => by
      obtain ⟨l, a, ⟨o1, o2⟩, g⟩ := R.own i d q
      obtain ⟨u, hu, _⟩ := o2.some
      exact ⟨l, a, ⟨o1, o2.mono (Sub.refl S) (upd_ne (key hu))⟩, g⟩
    sep := R.sep
    pen := fun q hq => let ⟨a, b, c, d⟩ := R.pen q hq; ⟨by rw [upd_ne (key a)]; exact a, b, c, d⟩
    pnd := R.pnd, refs := R.refs }
theorem Rel.gfree (R : Rel K G P e σ S H) {p : Addr} (n : H p = none) : G.H p = none ∨ p ∈ G.B := by
  by_cases h : p ∈ G.B
  · exact .inr h
  · refine .inl ?_
    cases q : G.H p with
    | none => rfl
    | some o => rw [R.fr p o q h] at n; cases n
/-- a new value: laid, and in the ground -/
theorem Rel.alloc (R : Rel K G P e σ S H) {p : Addr} {u : HO} (n : H p = none) : Rel K G P e σ (upd S p u) (upd H p u) := by
  refine (R.laid (u := u) n).ground (R.sub.none n) upd_same (fun i d q a => ?_) (fun q hq z => ?_) (R.gfree n)
  · obtain ⟨l, a', ⟨_, o2⟩, _⟩ := R.own i d q
    have : l = p := by have := a.symm.trans a'; cases this; rfl
    subst this
    obtain ⟨u, hu, _⟩ := o2.some
    rw [n] at hu; cases hu
  · have := (R.pen q hq).1
    rw [z, n] at this; cases this
/-- a new list: laid, no one has it -/
theorem Rel.fresh (R : Rel K G P e σ S H) {p : Addr} {u : HO} {d : D} (n : H p = none) (o : OwnAt K S (upd H p u) p d) : Rel K G P e σ S (upd H p u) ∧ Fre K G P e σ S (upd H p u) p d := by
  refine ⟨R.laid n, ⟨R.sub.none n, o⟩, fun i d' q a => ?_, fun q hq z => ?_, R.gfree n⟩
  · obtain ⟨l, a', ⟨_, o2⟩, _⟩ := R.own i d' q
    have : l = p := by have := a.symm.trans a'; cases this; rfl
    subst this
    obtain ⟨u, hu, _⟩ := o2.some
    rw [n] at hu; cases hu
  · have := (R.pen q hq).1
    rw [z, n] at this; cases this
/-- a new list becomes a value -/
theorem Rel.frz (R : Rel K G P e σ S H) {l : Addr} {d : D} (F : Fre K G P e σ S H l d) : ∃ S', Sub S S' ∧ Rel K G P e σ S' H ∧ Rep K S' (.ref l) d := by
  obtain ⟨u, hu, _⟩ := F.own.2.some
  exact ⟨_, Sub.upd F.own.1, R.ground F.own.1 hu F.noe F.nop F.gh, F.own.2.rep F.own.1 hu⟩
/-- a name's own list becomes a value -/
theorem Rel.frzSlot (R : Rel K G P e σ S H) {i : Nat} {d : D} (h : IsOwn e i d) : ∃ S', Sub S S' ∧ Rel K G P (e.set i (.val d)) σ S' H := by
  obtain ⟨l, a, ⟨o1, o2⟩, g⟩ := R.own i d h
  obtain ⟨u, hu, _⟩ := o2.some
  have hs : Sub S (upd S l u) := Sub.upd o1
  have old : ∀ {j d'}, IsOwn (e.set i (.val d)) j d' → j ≠ i ∧ IsOwn e j d' := fun {j d'} q => by
    by_cases z : j = i
    · subst z
      rcases q with q | q <;> (rw [List.getElem?_set_self h.lt] at q; cases q)
    · refine ⟨z, ?_⟩
      rcases q with q | q
      · rw [List.getElem?_set_ne (Ne.symm z)] at q; exact .inl q
      · rw [List.getElem?_set_ne (Ne.symm z)] at q; exact .inr q
  refine ⟨upd S l u, hs, {
    sub := fun b o q => by
      by_cases hb : b = l
      · subst hb; rw [upd_same] at q; cases q; exact hu
      · rw [upd_ne hb] at q; exact R.sub b o q
    fr := R.fr
    s0 := R.s0.trans hs
    new := fun b o q m => by
      by_cases hb : b = l
      · subst hb; exact .inr g
      · rw [upd_ne hb] at q; exact R.new b o q m
    len := by rw [List.length_set]; exact R.len
    val := fun j d' q => by
      by_cases z : j = i
      · subst z
        rw [List.getElem?_set_self h.lt] at q; cases q
        exact ⟨.ref l, a, o2.rep o1 hu⟩
      · rw [List.getElem?_set_ne (Ne.symm z)] at q
        obtain ⟨v, a', r⟩ := R.val j d' q
        exact ⟨v, a', r.mono hs⟩
    own := fun j d' q => by
      obtain ⟨z, q⟩ := old q
      obtain ⟨l', a', ⟨p1, p2⟩, g'⟩ := R.own j d' q
      have : l' ≠ l := fun w => z (R.sep j i d' d l' q h a' (by rw [w]; exact a))
      exact ⟨l', a', ⟨by rw [upd_ne this]; exact p1, p2.mono hs rfl⟩, g'⟩
    sep := fun j k d1 d2 l' q1 q2 => R.sep j k d1 d2 l' (old q1).2 (old q2).2
    pen := fun q hq => by
      obtain ⟨x1, x2, x3, x4⟩ := R.pen q hq
      have : q.1 ≠ l := fun w => x3 i d h (by rw [w]; exact a)
      exact ⟨x1, by rw [upd_ne this]; exact x2, (fun j d' q' => x3 j d' (old q').2), x4⟩
    pnd := R.pnd, refs := R.refs }⟩
/-- less is kept of the names (their lists stay where they lie) -/
theorem Rel.weak {e' : Env} (R : Rel K G P e σ S H) (hl : e'.length = e.length) (h : ∀ (i : Nat) (s : Slot), e'[i]? = some s → s = .emp ∨ e[i]? = some s) : Rel K G P e' σ S H := by
  have old : ∀ {j d'}, IsOwn e' j d' → IsOwn e j d' := fun {j d'} q => by
    rcases q with q | q
    · rcases h _ _ q with z | z
      · cases z
      · exact .inl z
    · rcases h _ _ q with z | z
      · cases z
      · exact .inr z
  exact { sub := R.sub, fr := R.fr, s0 := R.s0, new := R.new, len := hl.trans R.len
          val := fun i d q => R.val i d (by rcases h _ _ q with z | z; cases z; exact z)
          own := fun i d q => R.own i d (old q)
          sep := fun i j d d' l q1 q2 => R.sep i j d d' l (old q1) (old q2)
          pen := fun q hq => let ⟨a, b, c, x⟩ := R.pen q hq; ⟨a, b, fun i d z => c i d (old z), x⟩
          pnd := R.pnd, refs := R.refs }
/-- locked and freed: the same -/
theorem Rel.lck {e' : Env} (R : Rel K G P e σ S H) (hl : e'.length = e.length) (h1 : ∀ (i : Nat) (d : D), e'[i]? = some (.val d) → e[i]? = some (.val d)) (h2 : ∀ i d, IsOwn e' i d → IsOwn e i d) : Rel K G P e' σ S H :=
  { sub := R.sub, fr := R.fr, s0 := R.s0, new := R.new, len := hl.trans R.len
    val := fun i d q => R.val i d (h1 i d q)
    own := fun i d q => R.own i d (h2 i d q)
    sep := fun i j d d' l q1 q2 => R.sep i j d d' l (h2 _ _ q1) (h2 _ _ q2)
    pen := fun q hq => let ⟨a, b, c, x⟩ := R.pen q hq; ⟨a, b, fun i d z => c i d (h2 _ _ z), x⟩
    pnd := R.pnd, refs := R.refs }
theorem Rel.pick (R : Rel K G P e σ S H) {i : Nat} {d : D} (h : pk e i = some d) : ∃ v, σ[i]? = some (some v) ∧ See K S H v d := by
  unfold pk at h
  split at h
  · rename_i d' q; cases h
    obtain ⟨v, a, r⟩ := R.val i _ q
    exact ⟨v, a, r.see R.sub⟩
  · rename_i d' q; cases h
    obtain ⟨l, a, o, _⟩ := R.own i _ (.inl q)
    exact ⟨.ref l, a, o.2.see⟩
  · rename_i d' q; cases h
    obtain ⟨l, a, o, _⟩ := R.own i _ (.inr q)
    exact ⟨.ref l, a, o.2.see⟩
  · cases h
/-- a new list waits -/
theorem Rel.push (R : Rel K G P e σ S H) {l : Addr} {d : D} (F : Fre K G P e σ S H l d) {u : HO} (hu : H l = some u) : Rel K G ((l, u) :: P) e σ S H :=
  { sub := R.sub, fr := R.fr, s0 := R.s0, new := R.new, len := R.len, val := R.val, own := R.own, sep := R.sep
    pen := fun q hq => by
      rcases List.mem_cons.mp hq with rfl | hq
      · obtain ⟨u', hu', m⟩ := F.own.2.some
        rw [hu] at hu'; cases hu'
        exact ⟨hu, F.own.1, F.noe, F.gh, m⟩
      · exact R.pen q hq
    pnd := by
      rw [List.map_cons, List.nodup_cons]
      refine ⟨fun hm => ?_, R.pnd⟩
      obtain ⟨q, hq, e⟩ := List.mem_map.mp hm
      exact F.nop q hq e
    refs := R.refs }
theorem Rel.tail {p : Addr × HO} (R : Rel K G (p :: P) e σ S H) : Rel K G P e σ S H :=
  { sub := R.sub, fr := R.fr, s0 := R.s0, new := R.new, len := R.len, val := R.val, own := R.own, sep := R.sep
    pen := fun q hq => R.pen q (List.mem_cons_of_mem _ hq)
    pnd := (List.nodup_cons.mp R.pnd).2
    refs := R.refs }
/-- the first that waits, taken -/
theorem Rel.pop {l : Addr} {u : HO} {d : D} {S0 : Hp} (R : Rel K G ((l, u) :: P) e σ S H) (o : OwnAt K S0 (fun a => if a = l then some u else none) l d) (hs : Sub S0 S) : Fre K G P e σ S H l d := by
  obtain ⟨a, b, c, x⟩ := R.pen (l, u) List.mem_cons_self
  refine ⟨⟨b, o.mono hs (by simp only [if_pos]; exact a)⟩, c, fun q hq z => ?_, x.1⟩
  have := (List.nodup_cons.mp R.pnd).1
  exact this (List.mem_map.mpr ⟨q, hq, z⟩)
end
end Vm

/-! VmD: the operations upon values. -/
namespace Vm
open PySem PySem.Spec PyProof.Rows L2

theorem line_eq : (sizeLine : Nat) = 16777216 := sizeLine_eq
/-- v in H' stands for d: nothing was made, or one thing, new (the ground may have taken what never changes) -/
def New (K : PySem.W.Frag) (S H : Hp) (v : V) (H' : Hp) (d : D) : Prop :=
  ∃ S1, Sub S S1 ∧ Sub S1 H ∧ (∀ b o, S1 b = some o → S b = some o ∨ ¬ Mut (some o)) ∧
  ((H' = H ∧ isL d = false ∧ Rep K S1 v d) ∨ ∃ p u, v = .ref p ∧ H p = none ∧ H' = upd H p u ∧ (isL d = true → OwnAt K S1 H' p d) ∧ (isL d = false → Rep K (upd S1 p u) v d))
def Told (K : PySem.W.Frag) (S H : Hp) (Q : VK) (o : Option D) : Prop := match o with
  | some d => ∀ v H', New K S H v H' d → Q v H'
  | none => False
section
variable {K : PySem.W.Frag} {S H : Hp} {Q : VK}
theorem told_rep {d : D} {v : V} (hs : Sub S H) (h : Told K S H Q (some d)) (l : isL d = false) (r : Rep K S v d) : Q v H := h v H ⟨S, .refl S, hs, fun _ _ q => .inl q, .inl ⟨rfl, l, r⟩⟩
theorem told_int {i : Int} (hs : Sub S H) (h : Told K S H Q (some (.int i))) : Q (.int i) H := told_rep hs h rfl (.int i)
theorem told_bl {i : Bool} (hs : Sub S H) (h : Told K S H Q (some (.bl i))) : Q (.bl i) H := told_rep hs h rfl (.bl i)
theorem told_str {i : Str} (hs : Sub S H) (h : Told K S H Q (some (.str i))) : Q (.str i) H := told_rep hs h rfl (.str i)
theorem told_lst {l : List D} {vs : List V} (hs : Sub S H) (h : Told K S H Q (some (.lst l))) (r : RepL K S vs l) : ∀ p, H p = none → Q (.ref p) (upd H p (.lst vs)) := fun p n =>
  h _ _ ⟨S, .refl S, hs, fun _ _ q => .inl q, .inr ⟨p, _, rfl, n, rfl, (fun _ => ⟨vs, upd_same, r⟩), (fun z => nomatch z)⟩⟩
theorem told_tup {l : List D} {vs : List V} (hs : Sub S H) (h : Told K S H Q (some (.tup l))) (r : RepL K S vs l) : ∀ p, H p = none → Q (.ref p) (upd H p (.tup vs)) := fun p n =>
  h _ _ ⟨S, .refl S, hs, fun _ _ q => .inl q, .inr ⟨p, _, rfl, n, rfl, (fun z => nomatch z), (fun _ => .tup upd_same (r.mono (Sub.upd (hs.none n))))⟩⟩
/-- two operands -/
def r2 (K : PySem.W.Frag) (f : D → D → Option D) : R2 := fun x y H Q => ∃ S d1 d2, Sub S H ∧ See K S H x d1 ∧ See K S H y d2 ∧ Told K S H Q (f d1 d2)
theorem see_int {v : V} {i : Int} (h : See K S H v (.int i)) : v = .int i := by cases h; rfl
theorem see_bl {v : V} {i : Bool} (h : See K S H v (.bl i)) : v = .bl i := by cases h; rfl
theorem see_str {v : V} {i : Str} (h : See K S H v (.str i)) : v = .str i := by cases h; rfl
theorem see_non {v : V} (h : See K S H v .non) : v = .non := by cases h; rfl
theorem see_tup {v : V} {l : List D} (h : See K S H v (.tup l)) : ∃ a vs, v = .ref a ∧ S a = some (.tup vs) ∧ RepL K S vs l := by
  cases h with | tup a r => exact ⟨_, _, rfl, a, r⟩
theorem see_sc {v : V} {l : List Int} (h : See K S H v (.sc l)) : ∃ a, v = .ref a ∧ SqL K S a (l.map V.int) := by
  cases h with | sc a => exact ⟨_, rfl, a⟩
end
section
variable {X : Cx}
def boOp : BO → Operator
  | .add => .Add | .sub => .Sub | .mul => .Mult | .fdiv => .FloorDiv | .mod => .Mod | .pow => .Pow
theorem op_fdivZ : OpR X (binaryOp .FloorDiv) (rI (fun _ j => j ≠ 0 ∧ j.natAbs.log2 < 9000) fun i j => .int (i.fdiv j)) := opI fun _ _ _ _ _ _ _ hc q => floordiv_int hc.1 q (.inl (PyProof.noPylong_of_log2 hc.2))
theorem mulZ {i j : Int} (h : i.natAbs.log2 + j.natAbs.log2 < 1000000) : IntMulOk i j := by
  have b : ∀ x : Int, Builtin.Int.intBits x ≤ x.natAbs.log2 + 1 := fun x => by
    unfold Builtin.Int.intBits
    split <;> omega
  have h1 := b i
  have h2 := b j
  have e : bitsLine = 134217728 := by decide
  unfold IntMulOk
  intro z
  rw [Bool.and_eq_true] at z
  have z2 := z.2
  unfold Builtin.Int.intTooBig at z2
  have z3 := of_decide_eq_true z2
  rw [e] at z3
  omega
theorem op_mulZ : OpR X (binaryOp .Mult) (rI (fun i j => i.natAbs.log2 + j.natAbs.log2 < 1000000) fun i j => .int (i * j)) := opI fun _ _ _ _ _ _ _ hc q => mul_int q (mulZ hc)
theorem op_bin (o : BO) : OpR X (binaryOp (boOp o)) (r2 X.K (binD o)) := by
  intro pins s σ H x y v u Q I rx ry h
  obtain ⟨S, d1, d2, hs, s1, s2, q⟩ := h
  cases o with
  | add =>
    cases d1 with
    | int i =>
      cases d2 with
      | int j =>
        obtain rfl := see_int s1; obtain rfl := see_int s2
        exact op_add pins s σ H _ _ v u Q I rx ry ⟨i, j, rfl, rfl, told_int hs q⟩
      | _ => exact q.elim
    | str i =>
      cases d2 with
      | str j =>
        obtain rfl := see_str s1; obtain rfl := see_str s2
        by_cases hz : i.length + j.length ≤ 16777216
        · simp only [binD, if_pos hz] at q
          exact op_add_str pins s σ H _ _ v u Q I rx ry ⟨i, j, rfl, rfl, by rw [line_eq]; exact hz, told_str hs q⟩
        · simp only [binD, if_neg hz] at q; exact q.elim
      | _ => exact q.elim
    | lst i =>
      cases d2 with
      | lst j =>
        obtain ⟨a, vs, rfl, ha, ra⟩ := s1; obtain ⟨b, ws, rfl, hb, rb⟩ := s2
        by_cases hz : i.length + j.length ≤ 16777216
        · simp only [binD, if_pos hz] at q
          exact op_cat pins s σ H _ _ v u Q I rx ry ⟨a, b, vs, ws, rfl, rfl, ha, hb, by rw [line_eq, ra.length, rb.length]; exact hz, told_lst hs q (ra.append rb)⟩
        · simp only [binD, if_neg hz] at q; exact q.elim
      | _ => exact q.elim
    | tup i =>
      cases d2 with
      | tup j =>
        obtain ⟨a, vs, rfl, ha, ra⟩ := see_tup s1; obtain ⟨b, ws, rfl, hb, rb⟩ := see_tup s2
        by_cases hz : i ≠ [] ∧ i.length + j.length ≤ 16777216
        · simp only [binD, if_pos hz] at q
          refine op_catT pins s σ H _ _ v u Q I rx ry ⟨a, b, vs, ws, rfl, rfl, .of (hs _ _ ha), .of (hs _ _ hb), fun z => hz.1 ?_, by rw [line_eq, ra.length, rb.length]; exact hz.2, fun z => ?_, fun z => told_tup hs q (ra.append rb)⟩
          · have := ra.length; rw [z] at this; exact List.length_eq_zero_iff.mp this.symm
          · have e : j = [] := by have := rb.length; rw [z] at this; exact List.length_eq_zero_iff.mp this.symm
            subst e
            rw [List.append_nil] at q
            exact told_rep hs q rfl (.tup ha ra)
        · simp only [binD, if_neg hz] at q; exact q.elim
      | _ => exact q.elim
    | _ => exact q.elim
  | sub =>
    cases d1 with
    | int i =>
      cases d2 with
      | int j =>
        obtain rfl := see_int s1; obtain rfl := see_int s2
        exact op_sub pins s σ H _ _ v u Q I rx ry ⟨i, j, rfl, rfl, told_int hs q⟩
      | _ => exact q.elim
    | _ => exact q.elim
  | mul =>
    cases d1 with
    | int i =>
      cases d2 with
      | int j =>
        obtain rfl := see_int s1; obtain rfl := see_int s2
        by_cases hz : mulOk i j = true
        · simp only [binD, if_pos hz] at q
          exact op_mulZ pins s σ H _ _ v u Q I rx ry ⟨i, j, rfl, rfl, of_decide_eq_true hz, told_int hs q⟩
        · simp only [binD, if_neg hz] at q; exact q.elim
      | _ => exact q.elim
    | lst l =>
      cases d2 with
      | int k =>
        obtain ⟨a, vs, rfl, ha, ra⟩ := s1; obtain rfl := see_int s2
        by_cases hz : k < 4096 ∧ -4096 < k ∧ l.length ≤ 4096
        · simp only [binD, if_pos hz] at q
          refine op_rep pins s σ H _ _ v u Q I rx ry ⟨a, k, vs, rfl, rfl, ha, by omega, by omega, ?_, told_lst hs q (ra.rep _)⟩
          rw [line_eq, ra.length]
          exact Nat.le_trans (Nat.mul_le_mul hz.2.2 (show k.toNat ≤ 4096 by omega)) (by decide)
        · simp only [binD, if_neg hz] at q; exact q.elim
      | _ => exact q.elim
    | _ => exact q.elim
  | fdiv =>
    cases d1 with
    | int i =>
      cases d2 with
      | int j =>
        obtain rfl := see_int s1; obtain rfl := see_int s2
        by_cases hz : j ≠ 0 ∧ j.natAbs.log2 < 9000
        · simp only [binD, if_pos hz] at q
          exact op_fdivZ pins s σ H _ _ v u Q I rx ry ⟨i, j, rfl, rfl, hz, told_int hs q⟩
        · simp only [binD, if_neg hz] at q; exact q.elim
      | _ => exact q.elim
    | _ => exact q.elim
  | mod =>
    cases d1 with
    | int i =>
      cases d2 with
      | int j =>
        obtain rfl := see_int s1; obtain rfl := see_int s2
        by_cases hz : j ≠ 0
        · simp only [binD, if_pos hz] at q
          exact op_modN pins s σ H _ _ v u Q I rx ry ⟨i, j, rfl, rfl, hz, told_int hs q⟩
        · simp only [binD, if_neg hz] at q; exact q.elim
      | _ => exact q.elim
    | _ => exact q.elim
  | pow =>
    cases d1 with
    | int i =>
      cases d2 with
      | int j =>
        obtain rfl := see_int s1; obtain rfl := see_int s2
        by_cases hz : 0 ≤ j ∧ j ≤ 1000000 ∧ i.natAbs < 2 ^ 64
        · simp only [binD, if_pos hz] at q
          exact op_pow pins s σ H _ _ v u Q I rx ry ⟨i, j, rfl, rfl, hz, told_int hs q⟩
        · simp only [binD, if_neg hz] at q; exact q.elim
      | _ => exact q.elim
    | _ => exact q.elim

/-! ### comparisons -/
def coOp : CO → CmpOp
  | .eq => .Eq | .ne => .NotEq | .lt => .Lt | .le => .LtE | .gt => .Gt | .ge => .GtE | .isIn => .In | .notIn => .NotIn | .isS => .Is | .notS => .IsNot
def rc (K : PySem.W.Frag) (f : D → D → Option Bool) : R2 := fun x y H Q => ∃ S d1 d2, Sub S H ∧ See K S H x d1 ∧ See K S H y d2 ∧ match f d1 d2 with
  | some b => Q (.bl b) H
  | none => False
def KeyV (H : Hp) (y : V) : Key ⊕ List Key → Prop
  | .inl k => y = kV k
  | .inr ks => ∃ b, y = .ref b ∧ H b = some (.tup (ks.map kV))
/-- what a dict has at a key -/
def OptV (K : PySem.W.Frag) (S : Hp) : Option V → Option D → Prop
  | ov, some d => ∃ v, ov = some v ∧ Rep K S v d
  | ov, none => ov = none
theorem See.key {K : PySem.W.Frag} {S H : Hp} (hs : Sub S H) {y : V} {d : D} {k : Key ⊕ List Key} (h : See K S H y d) (e : keyOf d = some k) : KeyV H y k := by
  cases d with
  | int i => obtain rfl := see_int h; cases e; rfl
  | str i => obtain rfl := see_str h; cases e; rfl
  | tup l =>
    obtain ⟨a, vs, rfl, ha, ra⟩ := see_tup h
    simp only [keyOf, Option.map_eq_some_iff] at e
    obtain ⟨ks, q, rfl⟩ := e
    refine ⟨a, rfl, ?_⟩
    have : ∀ {vs : List V} {l : List D} {ks : List Key}, RepL K S vs l → keyOf.keysOf l = some ks → vs = ks.map kV := by
      intro vs l
      induction l generalizing vs with
      | nil => intro ks r q; cases r; cases q; rfl
      | cons d l ih =>
        intro ks r q
        cases r with
        | cons r1 r2 =>
          cases r1 with
          | int i =>
            simp only [keyOf.keysOf, Option.map_eq_some_iff] at q
            obtain ⟨m, q, rfl⟩ := q
            rw [List.map_cons, ih r2 q]; rfl
          | str i =>
            simp only [keyOf.keysOf, Option.map_eq_some_iff] at q
            obtain ⟨m, q, rfl⟩ := q
            rw [List.map_cons, ih r2 q]; rfl
          | _ => cases q
    rw [← this ra q]
    exact hs _ _ ha
  | _ => cases e
theorem look_zip {κ : Type} [DecidableEq κ] {K : PySem.W.Frag} {S : Hp} (k : κ) : ∀ {l : List (κ × D)} {vs : List V}, RepL K S vs (l.map (·.2)) → OptV K S (valV ((l.map (·.1)).zip vs) k) (look l k)
  | [], _, .nil => rfl
  | (k', d) :: l, _, .cons (v := v) r t => by
    by_cases e : k' = k
    · have h1 : look ((k', d) :: l) k = some d := by simp [look, e]
      rw [h1]
      refine ⟨v, ?_, r⟩
      simp [valV, e]
    · have h1 : look ((k', d) :: l) k = look l k := by simp [look, List.find?_cons, e]
      have h2 : ∀ vs, valV (((k', d) :: l).map (·.1) |>.zip (v :: vs)) k = valV ((l.map (·.1)).zip vs) k := fun vs => by simp [valV, List.find?_cons, e]
      rw [h1, h2]
      exact look_zip k t
theorem See.dget {K : PySem.W.Frag} {S H : Hp} (hs : Sub S H) {x y : V} {d k : D} {o : Option D} (h : See K S H x d) (hk : See K S H y k) (e : dget d k = some o) :
    ∃ a ov, x = .ref a ∧ DGet H a y ov ∧ OptV K S ov o := by
  unfold Vm.dget at e
  cases d with
  | dk l =>
    obtain ⟨a, vs, rfl, ha, ra⟩ := h
    cases q : keyOf k with
    | none => rw [q] at e; cases e
    | some kk =>
      have hy := hk.key hs q
      cases kk with
      | inr ks => rw [q] at e; cases e
      | inl z =>
        rw [q] at e; cases e
        have hy : y = kV z := hy
        subst hy
        exact ⟨a, _, rfl, DGet.k ha, look_zip z ra⟩
  | dt l =>
    obtain ⟨a, vs, rfl, ha, ra⟩ := h
    cases q : keyOf k with
    | none => rw [q] at e; cases e
    | some kk =>
      have hy := hk.key hs q
      cases kk with
      | inl ks => rw [q] at e; cases e
      | inr z =>
        rw [q] at e; cases e
        obtain ⟨b, rfl, hb⟩ := hy
        exact ⟨a, _, rfl, DGet.t ha hb, look_zip z ra⟩
  | _ => cases e
end
end Vm

namespace Vm
open PySem PySem.Spec PyProof.Rows L2
section
variable {K : PySem.W.Frag} {S H : Hp} {Q : VK}
def ToldB (H : Hp) (Q : VK) (o : Option Bool) : Prop := match o with
  | some b => Q (.bl b) H
  | none => False
def rcmp (K : PySem.W.Frag) (f : D → D → Option Bool) : R2 := fun x y H Q => ∃ S d1 d2, Sub S H ∧ See K S H x d1 ∧ See K S H y d2 ∧ ToldB H Q (f d1 d2)
end
section
variable {X : Cx}
theorem eqD_some {a b : D} {r : Bool} (h : eqD a b = some r) : ∃ x y, py a = some x ∧ py b = some y ∧ SeqAt.shaped x = true ∧ SeqAt.shaped y = true ∧ r = PyData.eqv x y := by
  unfold eqD at h
  split at h
  · rename_i x y h1 h2
    split at h
    · rename_i hs; cases h; exact ⟨x, y, h1, h2, hs.1, hs.2, rfl⟩
    · cases h
  · cases h
theorem inV_int (k : Int) : ∀ ns : List Int, inV (.int k) (ns.map V.int) = ns.any (· == k)
  | [] => rfl
  | n :: r => by
    have := inV_int k r
    unfold inV at this ⊢
    rw [List.map_cons, List.any_cons, List.any_cons, this]; rfl
theorem inV_str (k : Str) : ∀ ns : List Str, inV (.str k) (ns.map V.str) = ns.any (· == k)
  | [] => rfl
  | n :: r => by
    have := inV_str k r
    unfold inV at this ⊢
    rw [List.map_cons, List.any_cons, List.any_cons, this]; rfl
theorem flat_ints : ∀ ns : List Int, (ns.map V.int).all flatV = true
  | [] => rfl
  | n :: r => by rw [List.map_cons, List.all_cons, flat_ints r]; rfl
theorem flat_strs : ∀ ns : List Str, (ns.map V.str).all flatV = true
  | [] => rfl
  | n :: r => by rw [List.map_cons, List.all_cons, flat_strs r]; rfl
theorem str_one {x : Str} (h : x.cps.size = 1) : x = ⟨#[x.cps.getD 0 0]⟩ := by
  obtain ⟨⟨l⟩⟩ := x
  match l, h with
  | [c], _ => rfl
theorem optV_some {K : PySem.W.Frag} {S : Hp} {ov : Option V} {o : Option D} (h : OptV K S ov o) : ov.isSome = o.isSome := by
  cases o with
  | none => rw [show ov = none from h]; rfl
  | some d => obtain ⟨v, rfl, _⟩ := h; rfl
/-- in -/
theorem op_inZ (hu : X.A.units + 100 < cLine) : OpR X (compareOp .In) (rcmp X.K inD) := by
  intro pins s σ H x y v u Q I rx ry h
  obtain ⟨S, d1, d2, hs, s1, s2, q⟩ := h
  unfold inD at q
  cases d2 with
  | str z =>
    obtain rfl := see_str s2
    cases d1 with
    | str c =>
      obtain rfl := see_str s1
      by_cases e : c.cps.size = 1
      · simp only [if_pos e] at q
        rw [str_one e] at rx
        exact op_in_sign pins s σ H _ _ v u Q I rx ry ⟨_, z, rfl, rfl, q⟩
      · simp only [if_neg e] at q; exact q.elim
    | _ => exact q.elim
  | lst l =>
    dsimp only at q
    split at q
    · rename_i px py h1 h2
      split at q
      · rename_i hsh
        exact op_inD (by omega) pins s σ H x y v u Q I rx ry ⟨px, py, s1.py hs h1, s2.py hs (by simp only [Vm.py, h2, Option.map_some]), hsh.1, hsh.2, q⟩
      · exact q.elim
    · exact q.elim
  | tup l =>
    obtain ⟨a, vs, rfl, ha, ra⟩ := see_tup s2
    cases d1 with
    | int k =>
      obtain rfl := see_int s1
      dsimp only at q
      cases h : asInts l with
      | none => rw [h] at q; exact q.elim
      | some ns =>
        rw [h] at q
        obtain rfl := ra.asInts h
        exact op_in_seq pins s σ H _ _ v u Q I rx ry ⟨a, _, rfl, .inr (.of (hs _ _ ha)), rfl, flat_ints ns, by simp only [Bool.false_eq_true, if_false, inV_int]; exact q⟩
    | str k =>
      obtain rfl := see_str s1
      dsimp only at q
      cases h : asStrs l with
      | none => rw [h] at q; exact q.elim
      | some ns =>
        rw [h] at q
        obtain rfl := ra.asStrs h
        exact op_in_seq pins s σ H _ _ v u Q I rx ry ⟨a, _, rfl, .inr (.of (hs _ _ ha)), rfl, flat_strs ns, by simp only [Bool.false_eq_true, if_false, inV_str]; exact q⟩
    | _ => exact q.elim
  | dk l =>
    dsimp only at q
    cases h : dget (.dk l) d1 with
    | none => rw [h] at q; exact q.elim
    | some o =>
      rw [h] at q
      obtain ⟨a, ov, rfl, g, ho⟩ := s2.dget hs s1 h
      obtain rfl : u = Value.ref a := ry
      refine d_in (by omega) I g rx fun s3 I3 => ⟨.bl ov.isSome, H, I3, rfl, ?_⟩
      rw [optV_some ho]; exact q
  | dt l =>
    dsimp only at q
    cases h : dget (.dt l) d1 with
    | none => rw [h] at q; exact q.elim
    | some o =>
      rw [h] at q
      obtain ⟨a, ov, rfl, g, ho⟩ := s2.dget hs s1 h
      obtain rfl : u = Value.ref a := ry
      refine d_in (by omega) I g rx fun s3 I3 => ⟨.bl ov.isSome, H, I3, rfl, ?_⟩
      rw [optV_some ho]; exact q
  | _ => exact q.elim
theorem map_not {o : Option Bool} {H : Hp} {Q : VK} (h : ToldB H Q (o.map not)) : ∃ b, o = some b ∧ Q (.bl (!b)) H := by
  cases o with
  | none => exact h.elim
  | some b => exact ⟨b, rfl, h⟩
theorem op_notInZ (hu : X.A.units + 100 < cLine) : OpR X (compareOp .NotIn) (rcmp X.K fun a b => (inD a b).map not) := by
  intro pins s σ H x y v u Q I rx ry h
  obtain ⟨S, d1, d2, hs, s1, s2, q⟩ := h
  obtain ⟨r, hr, q⟩ := map_not q
  unfold inD at hr
  cases d2 with
  | str z =>
    obtain rfl := see_str s2
    cases d1 with
    | str c =>
      obtain rfl := see_str s1
      by_cases e : c.cps.size = 1
      · simp only [if_pos e] at hr
        cases hr
        rw [str_one e] at rx
        exact op_notIn_sign pins s σ H _ _ v u Q I rx ry ⟨_, z, rfl, rfl, q⟩
      · simp only [if_neg e] at hr; cases hr
    | _ => cases hr
  | lst l =>
    dsimp only at hr
    split at hr
    · rename_i px py h1 h2
      split at hr
      · rename_i hsh
        cases hr
        exact op_notInD (by omega) pins s σ H x y v u Q I rx ry ⟨px, py, s1.py hs h1, s2.py hs (by simp only [Vm.py, h2, Option.map_some]), hsh.1, hsh.2, q⟩
      · cases hr
    · cases hr
  | tup l =>
    obtain ⟨a, vs, rfl, ha, ra⟩ := see_tup s2
    cases d1 with
    | int k =>
      obtain rfl := see_int s1
      dsimp only at hr
      cases h : asInts l with
      | none => rw [h] at hr; cases hr
      | some ns =>
        rw [h] at hr; cases hr
        obtain rfl := ra.asInts h
        exact op_notIn_seq pins s σ H _ _ v u Q I rx ry ⟨a, _, rfl, .inr (.of (hs _ _ ha)), rfl, flat_ints ns, by simp only [if_true, inV_int]; exact q⟩
    | str k =>
      obtain rfl := see_str s1
      dsimp only at hr
      cases h : asStrs l with
      | none => rw [h] at hr; cases hr
      | some ns =>
        rw [h] at hr; cases hr
        obtain rfl := ra.asStrs h
        exact op_notIn_seq pins s σ H _ _ v u Q I rx ry ⟨a, _, rfl, .inr (.of (hs _ _ ha)), rfl, flat_strs ns, by simp only [if_true, inV_str]; exact q⟩
    | _ => cases hr
  | dk l =>
    dsimp only at hr
    cases h : dget (.dk l) d1 with
    | none => rw [h] at hr; cases hr
    | some o =>
      rw [h] at hr; cases hr
      obtain ⟨a, ov, rfl, g, ho⟩ := s2.dget hs s1 h
      obtain rfl : u = Value.ref a := ry
      refine d_notIn (by omega) I g rx fun s3 I3 => ⟨.bl (!ov.isSome), H, I3, rfl, ?_⟩
      rw [optV_some ho]; exact q
  | dt l =>
    dsimp only at hr
    cases h : dget (.dt l) d1 with
    | none => rw [h] at hr; cases hr
    | some o =>
      rw [h] at hr; cases hr
      obtain ⟨a, ov, rfl, g, ho⟩ := s2.dget hs s1 h
      obtain rfl : u = Value.ref a := ry
      refine d_notIn (by omega) I g rx fun s3 I3 => ⟨.bl (!ov.isSome), H, I3, rfl, ?_⟩
      rw [optV_some ho]; exact q
  | _ => cases hr
theorem see_isNon {K : PySem.W.Frag} {S H : Hp} {x : V} {d : D} (h : See K S H x d) : decide (x = .non) = isNon d := by
  cases d with
  | non => obtain rfl := see_non h; rfl
  | bl b => obtain rfl := see_bl h; rfl
  | int b => obtain rfl := see_int h; rfl
  | str b => obtain rfl := see_str h; rfl
  | tup b => obtain ⟨_, _, rfl, _⟩ := see_tup h; rfl
  | sc b => obtain ⟨_, rfl, _⟩ := see_sc h; rfl
  | lst b => obtain ⟨_, _, rfl, _⟩ := h; rfl
  | dk b => obtain ⟨_, _, rfl, _⟩ := h; rfl
  | dt b => obtain ⟨_, _, rfl, _⟩ := h; rfl
theorem op_cmp (o : CO) (hu : X.A.units + 100 < cLine) : OpR X (compareOp (coOp o)) (rcmp X.K (cmpD o)) := by
  intro pins s σ H x y v u Q I rx ry h
  have h0 := h
  obtain ⟨S, d1, d2, hs, s1, s2, q⟩ := h
  cases o with
  | eq =>
    cases e : eqD d1 d2 with
    | none => simp only [cmpD, e] at q; exact q.elim
    | some b =>
      simp only [cmpD, e] at q
      obtain ⟨p1, p2, h1, h2, h3, h4, rfl⟩ := eqD_some e
      exact op_eqD (by omega) pins s σ H x y v u Q I rx ry ⟨p1, p2, s1.py hs h1, s2.py hs h2, h3, h4, q⟩
  | ne =>
    cases e : eqD d1 d2 with
    | none => simp only [cmpD, e] at q; exact q.elim
    | some b =>
      simp only [cmpD, e] at q
      obtain ⟨p1, p2, h1, h2, h3, h4, rfl⟩ := eqD_some e
      exact op_neD (by omega) pins s σ H x y v u Q I rx ry ⟨p1, p2, s1.py hs h1, s2.py hs h2, h3, h4, q⟩
  | lt =>
    cases d1 with
    | int i =>
      cases d2 with
      | int j =>
        obtain rfl := see_int s1; obtain rfl := see_int s2
        exact op_lt pins s σ H _ _ v u Q I rx ry ⟨i, j, rfl, rfl, q⟩
      | _ => exact q.elim
    | _ => exact q.elim
  | le =>
    cases d1 with
    | int i =>
      cases d2 with
      | int j =>
        obtain rfl := see_int s1; obtain rfl := see_int s2
        exact op_le pins s σ H _ _ v u Q I rx ry ⟨i, j, rfl, rfl, q⟩
      | _ => exact q.elim
    | _ => exact q.elim
  | gt =>
    cases d1 with
    | int i =>
      cases d2 with
      | int j =>
        obtain rfl := see_int s1; obtain rfl := see_int s2
        exact op_gt pins s σ H _ _ v u Q I rx ry ⟨i, j, rfl, rfl, q⟩
      | _ => exact q.elim
    | _ => exact q.elim
  | ge =>
    cases d1 with
    | int i =>
      cases d2 with
      | int j =>
        obtain rfl := see_int s1; obtain rfl := see_int s2
        exact op_ge pins s σ H _ _ v u Q I rx ry ⟨i, j, rfl, rfl, q⟩
      | _ => exact q.elim
    | _ => exact q.elim
  | isIn => exact op_inZ hu pins s σ H x y v u Q I rx ry h0
  | notIn => exact op_notInZ hu pins s σ H x y v u Q I rx ry h0
  | isS =>
    cases d2 with
    | non =>
      obtain rfl := see_non s2
      exact op_isN pins s σ H _ _ v u Q I rx ry ⟨rfl, by rw [see_isNon s1]; exact q⟩
    | bl y' =>
      obtain rfl := see_bl s2
      cases d1 with
      | bl x' =>
        obtain rfl := see_bl s1
        exact op_isBl pins s σ H _ _ v u Q I rx ry ⟨_, _, rfl, rfl, q⟩
      | _ => exact q.elim
    | _ => exact q.elim
  | notS =>
    cases d2 with
    | non =>
      obtain rfl := see_non s2
      refine op_notN pins s σ H _ _ v u Q I rx ry ⟨rfl, ?_⟩
      rw [see_isNon s1]; exact q
    | bl y' =>
      obtain rfl := see_bl s2
      cases d1 with
      | bl x' =>
        obtain rfl := see_bl s1
        exact op_notBl pins s σ H _ _ v u Q I rx ry ⟨_, _, rfl, rfl, q⟩
      | _ => exact q.elim
    | _ => exact q.elim

/-! ### places, slices -/
theorem RepL.atI {K : PySem.W.Frag} {S : Hp} {vs : List V} {l : List D} {i : Int} {d : D} (r : RepL K S vs l) (h : atI l i = some d) : ∃ v, L2.atI vs i = some v ∧ Rep K S v d := by
  unfold L2.atI at h ⊢
  rw [r.length]
  cases e : ixN l.length i with
  | none => rw [e] at h; cases h
  | some j =>
    rw [e] at h
    obtain ⟨v, a, b⟩ := r.get (i := j) h
    exact ⟨v, a, b⟩
theorem atI_map {α β : Type} (f : α → β) (l : List α) (i : Int) : L2.atI (l.map f) i = (L2.atI l i).map f := by
  unfold L2.atI
  rw [List.length_map]
  cases ixN l.length i with
  | none => rfl
  | some j => simp [Option.bind]
/-- an item -/
def rIdx (K : PySem.W.Frag) (f : D → D → Option D) : R2 := fun x y H Q => ∃ S d1 d2, Sub S H ∧ See K S H x d1 ∧ See K S H y d2 ∧ ∃ d, f d1 d2 = some d ∧ ∀ v, Rep K S v d → Q v H
theorem ix_Z : IxR X (rIdx X.K fun a i => match a with | .dk _ => none | .dt _ => none | _ => idxD a i) := by
  intro value slice pins s σ H x y v u Q I rx ry h hsub
  obtain ⟨S, d1, d2, hs, s1, s2, d, e, q⟩ := h
  cases d1 with
  | tup l =>
    cases d2 with
    | int k =>
      obtain ⟨a, vs, rfl, ha, ra⟩ := see_tup s1
      obtain rfl := see_int s2
      obtain ⟨w, hw, rw'⟩ := ra.atI e
      exact ix_tup value slice pins s σ H _ _ v u Q I rx ry ⟨a, vs, k, w, rfl, rfl, .of (hs _ _ ha), hw, q _ rw'⟩ hsub
    | _ => cases e
  | lst l =>
    cases d2 with
    | int k =>
      obtain ⟨a, vs, rfl, ha, ra⟩ := s1
      obtain rfl := see_int s2
      obtain ⟨w, hw, rw'⟩ := ra.atI e
      exact ix_list value slice pins s σ H _ _ v u Q I rx ry ⟨a, vs, k, w, rfl, rfl, .of ha, hw, q _ rw'⟩ hsub
    | _ => cases e
  | sc l =>
    cases d2 with
    | int k =>
      obtain ⟨a, rfl, ha⟩ := see_sc s1
      obtain rfl := see_int s2
      simp only [idxD, Option.map_eq_some_iff] at e
      obtain ⟨n, hn, rfl⟩ := e
      exact ix_list value slice pins s σ H _ _ v u Q I rx ry ⟨a, _, k, .int n, rfl, rfl, sqL_sub hs ha, by rw [atI_map, hn]; rfl, q _ (.int n)⟩ hsub
    | _ => cases e
  | str z =>
    cases d2 with
    | int k =>
      obtain rfl := see_str s1
      obtain rfl := see_int s2
      simp only [idxD] at e
      split at e
      · rename_i hz
        simp only [Option.map_eq_some_iff] at e
        obtain ⟨n, hn, rfl⟩ := e
        exact ix_str value slice pins s σ H _ _ v u Q I rx ry ⟨z, k, n, rfl, rfl, by rw [line_eq]; exact hz, hn, q _ (.str _)⟩ hsub
      · cases e
    | _ => cases e
  | _ => cases e
theorem RepL.cut {K : PySem.W.Frag} {S : Hp} {vs : List V} {l : List D} (r : RepL K S vs l) (lo hi : Option Int) : RepL K S (cutV vs lo hi) (cutL l lo hi) := by
  unfold cutV cutL
  rw [r.length]
  exact (r.drop _).take _
def rSlc (K : PySem.W.Frag) : V → Option Int → Option Int → Hp → VK → Prop := fun x lo hi H Q => ∃ S d, Sub S H ∧ See K S H x d ∧ Told K S H Q (slcD d lo hi)
theorem sl_Z : SlR X (rSlc X.K) := by
  intro pins s σ H x v vl vu lo hi sl Q I rx hsl pl pu h
  obtain ⟨S, d, hs, s1, q⟩ := h
  cases d with
  | tup l =>
    obtain ⟨a, vs, rfl, ha, ra⟩ := see_tup s1
    refine sl_tupA pins s σ H _ v vl vu lo hi sl Q I rx hsl pl pu ⟨a, vs, rfl, .of (hs _ _ ha), fun hw => ?_, fun _ => told_tup hs q (ra.cut lo hi)⟩
    rw [ra.length] at hw
    have e : cutL l lo hi = l := by
      unfold cutL
      rw [hw.1, hw.2]
      simp
    have q : Told X.K S H Q (some (.tup (cutL l lo hi))) := q
    rw [e] at q
    exact told_rep hs q rfl (.tup ha ra)
  | lst l =>
    obtain ⟨a, vs, rfl, ha, ra⟩ := s1
    exact sl_list pins s σ H _ v vl vu lo hi sl Q I rx hsl pl pu ⟨a, vs, rfl, .of ha, told_lst hs q (ra.cut lo hi)⟩
  | str z =>
    obtain rfl := see_str s1
    by_cases hz : z.length ≤ 16777216
    · simp only [slcD, if_pos hz] at q
      exact sl_str pins s σ H _ v vl vu lo hi sl Q I rx hsl pl pu ⟨z, rfl, by rw [line_eq]; exact hz, told_str hs q⟩
    · simp only [slcD, if_neg hz] at q; exact q.elim
  | _ => exact q.elim
end
end Vm

namespace Vm
open PySem PySem.Spec PyProof.Rows L2
section
variable {K : PySem.W.Frag} {S H : Hp} {Q : VK}
inductive SeeL (K : PySem.W.Frag) (S H : Hp) : List V → List D → Prop
  | nil : SeeL K S H [] []
  | cons {v : V} {d : D} {vs : List V} {ds : List D} : See K S H v d → SeeL K S H vs ds → SeeL K S H (v :: vs) (d :: ds)
theorem SeeL.one {vs : List V} {d : D} (h : SeeL K S H vs [d]) : ∃ v, vs = [v] ∧ See K S H v d := by
  cases h with | cons a b => cases b; exact ⟨_, rfl, a⟩
theorem SeeL.two {vs : List V} {d e : D} (h : SeeL K S H vs [d, e]) : ∃ v w, vs = [v, w] ∧ See K S H v d ∧ See K S H w e := by
  cases h with | cons a b => cases b with | cons c d => cases d; exact ⟨_, _, rfl, a, c⟩
theorem maxL_spec : ∀ (r : List Int) (m : Int), (maxL m r = m ∨ maxL m r ∈ r) ∧ m ≤ maxL m r ∧ ∀ y ∈ r, y ≤ maxL m r
  | [], m => ⟨.inl rfl, Int.le_refl _, fun y h => nomatch h⟩
  | a :: r, m => by
    obtain ⟨h1, h2, h3⟩ := maxL_spec r (if a > m then a else m)
    simp only [maxL]
    refine ⟨?_, ?_, fun y hy => ?_⟩
    · rcases h1 with h1 | h1
      · split at h1
        · right; rename_i hh; rw [if_pos hh, h1]; exact List.mem_cons_self
        · left; rename_i hh; rw [if_neg hh]; exact h1
      · exact .inr (List.mem_cons_of_mem _ h1)
    · split at h2 <;> rename_i hh <;> simp only [hh, if_true, if_false] <;> omega
    · rcases List.mem_cons.mp hy with rfl | hy
      · split at h2 <;> rename_i hh <;> simp only [hh, if_true, if_false] <;> omega
      · exact h3 y hy
theorem minL_spec : ∀ (r : List Int) (m : Int), (minL m r = m ∨ minL m r ∈ r) ∧ minL m r ≤ m ∧ ∀ y ∈ r, minL m r ≤ y
  | [], m => ⟨.inl rfl, Int.le_refl _, fun y h => nomatch h⟩
  | a :: r, m => by
    obtain ⟨h1, h2, h3⟩ := minL_spec r (if a < m then a else m)
    simp only [minL]
    refine ⟨?_, ?_, fun y hy => ?_⟩
    · rcases h1 with h1 | h1
      · split at h1
        · right; rename_i hh; rw [if_pos hh, h1]; exact List.mem_cons_self
        · left; rename_i hh; rw [if_neg hh]; exact h1
      · exact .inr (List.mem_cons_of_mem _ h1)
    · split at h2 <;> rename_i hh <;> simp only [hh, if_true, if_false] <;> omega
    · rcases List.mem_cons.mp hy with rfl | hy
      · split at h2 <;> rename_i hh <;> simp only [hh, if_true, if_false] <;> omega
      · exact h3 y hy
theorem maxL_only {a : Int} {r : List Int} {m : Int} (h : m ∈ a :: r) (hm : ∀ y, y ∈ a :: r → y ≤ m) : m = maxL a r := by
  obtain ⟨h1, h2, h3⟩ := maxL_spec r a
  have u : m ≤ maxL a r := by
    rcases List.mem_cons.mp h with rfl | h
    · exact h2
    · exact h3 m h
  have w : maxL a r ≤ m := by
    rcases h1 with h1 | h1
    · rw [h1]; exact hm a List.mem_cons_self
    · exact hm _ (List.mem_cons_of_mem _ h1)
  omega
theorem minL_only {a : Int} {r : List Int} {m : Int} (h : m ∈ a :: r) (hm : ∀ y, y ∈ a :: r → m ≤ y) : m = minL a r := by
  obtain ⟨h1, h2, h3⟩ := minL_spec r a
  have u : minL a r ≤ m := by
    rcases List.mem_cons.mp h with rfl | h
    · exact h2
    · exact h3 m h
  have w : m ≤ minL a r := by
    rcases h1 with h1 | h1
    · rw [h1]; exact hm a List.mem_cons_self
    · exact hm _ (List.mem_cons_of_mem _ h1)
  omega
end
def biVal : BI → Value
  | .len => .builtin "len" | .abs => .builtin "abs" | .int => .type "int" | .str => .type "str" | .min => .builtin "min" | .max => .builtin "max"
  | .all => .builtin "all" | .any => .builtin "any" | .tuple => .type "tuple" | .list => .type "list" | .sorted => .builtin "sorted"
def biName : BI → Str
  | .len => "len" | .abs => "abs" | .int => "int" | .str => "str" | .min => "min" | .max => "max"
  | .all => "all" | .any => "any" | .tuple => "tuple" | .list => "list" | .sorted => "sorted"
def rBi (K : PySem.W.Frag) (b : BI) : List V → Hp → VK → Prop := fun xs H Q => ∃ S ds, Sub S H ∧ SeeL K S H xs ds ∧ Told K S H Q (biD b ds)
theorem RepL.keys {K : PySem.W.Frag} {S : Hp} {β : Type} : ∀ {l : List (Key × D)} {vs : List V}, vs.length = l.length → RepL K S (((l.map (·.1)).zip vs).map fun kv => kV kv.1) (l.map fun kv => keyD kv.1)
  | [], [], _ => .nil
  | (.inl i, d) :: l, v :: vs, e => .cons (.int i) (RepL.keys (β := β) (by simpa using e))
  | (.inr i, d) :: l, v :: vs, e => .cons (.str i) (RepL.keys (β := β) (by simpa using e))
theorem told_none {K : PySem.W.Frag} {S H : Hp} {Q : VK} {p : Prop} (h : Told K S H Q none) : p := h.elim
section
variable {K : PySem.W.Frag} {S H : Hp} {Q : VK}
theorem told_some {o : Option D} (h : Told K S H Q o) : ∃ d, o = some d ∧ Told K S H Q (some d) := by
  cases o with
  | none => exact h.elim
  | some d => exact ⟨d, rfl, h⟩
theorem KVT_size {κ : Type} {l : List (κ × D)} {vs : List V} (ra : RepL K S vs (l.map (·.2))) : ((l.map (·.1)).zip vs).length = l.length := by
  have h1 := ra.length
  rw [List.length_map] at h1
  rw [List.length_zip, List.length_map, h1, Nat.min_self]
/-- the keys that are tuples, in the ground -/
def tupS (S : Hp) (H : Hp) (bs : List Addr) : Hp := fun b => if b ∈ bs ∧ S b = none then H b else S b
theorem tupS_sub (S H : Hp) (bs : List Addr) : Sub S (tupS S H bs) := fun b o q => by
  unfold tupS
  rw [if_neg (by rw [q]; simp)]; exact q
theorem tupS_le {bs : List Addr} (hs : Sub S H) : Sub (tupS S H bs) H := fun b o q => by
  unfold tupS at q
  split at q
  · exact q
  · exact hs b o q
theorem keyD_rep {S : Hp} : ∀ k : Key, Rep K S (kV k) (keyD k)
  | .inl i => .int i
  | .inr i => .str i
theorem keyDs_rep {S : Hp} : ∀ k : List Key, RepL K S (k.map kV) (k.map keyD)
  | [] => .nil
  | a :: r => .cons (keyD_rep a) (keyDs_rep r)
theorem keysT {l : List (List Key × D)} {vs : List V} {bs : List Addr} (hl : vs.length = l.length) (hs : Sub S H) (k : IsKeys H ((l.map (·.1)).zip vs) bs) :
    RepL K (tupS S H bs) (bs.map V.ref) (l.map fun kv => .tup (kv.1.map keyD)) ∧ ∀ b o, tupS S H bs b = some o → S b = some o ∨ ¬ Mut (some o) := by
  have key : ∀ {b xs}, b ∈ bs → H b = some (.tup xs) → tupS S H bs b = some (.tup xs) := fun {b xs} hb e => by
    unfold tupS
    by_cases z : S b = none
    · rw [if_pos ⟨hb, z⟩]; exact e
    · rw [if_neg (fun q => z q.2)]
      cases q : S b with
      | none => exact absurd q z
      | some o => rw [hs b o q] at e; exact e
  have all : ∀ {l : List (List Key × D)} {vs : List V} {cs : List Addr}, vs.length = l.length → IsKeys H ((l.map (·.1)).zip vs) cs → (∀ c ∈ cs, c ∈ bs) →
      RepL K (tupS S H bs) (cs.map V.ref) (l.map fun kv => .tup (kv.1.map keyD)) ∧ ∀ c ∈ cs, ∃ xs, H c = some (.tup xs) := by
    intro l
    induction l with
    | nil => intro vs cs e k _; cases k; exact ⟨.nil, fun c h => nomatch h⟩
    | cons p l ih =>
      intro vs cs e k sub
      match vs, e with
      | v :: vs, e =>
        cases k with
        | cons h t =>
          obtain ⟨r1, r2⟩ := ih (by simpa using e) t fun c hc => sub c (List.mem_cons_of_mem _ hc)
          refine ⟨.cons (.tup (key (sub _ List.mem_cons_self) h) (keyDs_rep _)) r1, fun c hc => ?_⟩
          rcases List.mem_cons.mp hc with rfl | hc
          · exact ⟨_, h⟩
          · exact r2 c hc
  obtain ⟨r1, r2⟩ := all hl k fun c h => h
  refine ⟨r1, fun b o q => ?_⟩
  unfold tupS at q
  split at q
  · rename_i z
    obtain ⟨xs, e⟩ := r2 b z.1
    rw [e] at q; cases q
    exact .inr fun m => m
  · exact .inl q
end
section
variable {X : Cx}
theorem call_len_Z : CallR X (.builtin "len") (rBi X.K .len) := by
  intro pins s σ H xs us Q I r h
  obtain ⟨S, ds, hs, hl, q⟩ := h
  obtain ⟨d, e, q⟩ := told_some q
  replace e : biLen ds = some d := e
  unfold biLen at e
  split at e
  · split at e
    · rename_i z hz
      cases e
      obtain ⟨v, rfl, s1⟩ := hl.one
      obtain rfl := see_str s1
      exact call_len pins s σ H _ us Q I r ⟨_, _, rfl, ⟨by rw [line_eq]; exact hz, rfl⟩, told_int hs q⟩
    · cases e
  · cases e
    obtain ⟨v, rfl, s1⟩ := hl.one
    obtain ⟨a, vs, rfl, ha, ra⟩ := see_tup s1
    have q := told_int hs q
    rw [← ra.length] at q
    exact call_len pins s σ H _ us Q I r ⟨_, _, rfl, .inr ⟨vs, .of (hs _ _ ha), rfl⟩, q⟩
  · cases e
    obtain ⟨v, rfl, s1⟩ := hl.one
    obtain ⟨a, vs, rfl, ha, ra⟩ := s1
    have q := told_int hs q
    rw [← ra.length] at q
    exact call_len pins s σ H _ us Q I r ⟨_, _, rfl, .inl ⟨vs, .of ha, rfl⟩, q⟩
  · cases e
    obtain ⟨v, rfl, s1⟩ := hl.one
    obtain ⟨a, rfl, ha⟩ := see_sc s1
    exact call_len pins s σ H _ us Q I r ⟨_, _, rfl, .inl ⟨_, sqL_sub hs ha, rfl⟩, by rw [List.length_map]; exact told_int hs q⟩
  · rename_i l
    cases e
    obtain ⟨v, rfl, s1⟩ := hl.one
    obtain ⟨a, vs, rfl, ha, ra⟩ := s1
    obtain ⟨u, rfl, rx⟩ := vals1 r
    obtain rfl : u = Value.ref a := rx
    exact d_len I (.inl ha) fun t s' I' => ⟨.int l.length, H, I', ⟨t, by rw [KVT_size ra]⟩, told_int hs q⟩
  · cases e
theorem call_abs_Z : CallR X (.builtin "abs") (rBi X.K .abs) := by
  intro pins s σ H xs us Q I r h
  obtain ⟨S, ds, hs, hl, q⟩ := h
  obtain ⟨d, e, q⟩ := told_some q
  replace e : biAbs ds = some d := e
  unfold biAbs at e
  split at e
  · cases e
    obtain ⟨v, rfl, s1⟩ := hl.one
    obtain rfl := see_int s1
    exact call_abs pins s σ H _ us Q I r ⟨_, rfl, told_int hs q⟩
  · cases e
theorem call_int_Z : CallR X (.type "int") (rBi X.K .int) := by
  intro pins s σ H xs us Q I r h
  obtain ⟨S, ds, hs, hl, q⟩ := h
  obtain ⟨d, e, q⟩ := told_some q
  replace e : biInt ds = some d := e
  unfold biInt at e
  split at e
  · cases e
    obtain ⟨v, rfl, s1⟩ := hl.one
    obtain rfl := see_int s1
    exact call_int1 pins s σ H _ us Q I r (.inl ⟨_, rfl, told_int hs q⟩)
  · cases e
    obtain ⟨v, rfl, s1⟩ := hl.one
    obtain rfl := see_bl s1
    exact call_int1 pins s σ H _ us Q I r (.inr ⟨_, rfl, told_int hs q⟩)
  · split at e
    · rename_i z hz
      obtain ⟨v, rfl, s1⟩ := hl.one
      obtain rfl := see_str s1
      simp only [Option.map_eq_some_iff] at e
      obtain ⟨n, hn, rfl⟩ := e
      exact call_int_str pins s σ H _ us Q I r ⟨z, n, rfl, hn, hz, told_int hs q⟩
    · cases e
  · cases e
theorem call_str_Z : CallR X (.type "str") (rBi X.K .str) := by
  intro pins s σ H xs us Q I r h
  obtain ⟨S, ds, hs, hl, q⟩ := h
  obtain ⟨d, e, q⟩ := told_some q
  replace e : biStr ds = some d := e
  unfold biStr at e
  split at e
  · split at e
    · rename_i i hz
      cases e
      obtain ⟨v, rfl, s1⟩ := hl.one
      obtain rfl := see_int s1
      exact call_str_int pins s σ H _ us Q I r ⟨i, rfl, hz, told_str hs q⟩
    · cases e
  · cases e
theorem call_max_Z (hc : X.calm = true) : CallR X (.builtin "max") (rBi X.K .max) := by
  intro pins s σ H xs us Q I r h
  obtain ⟨S, ds, hs, hl, q⟩ := h
  obtain ⟨d, e, q⟩ := told_some q
  replace e : biMax ds = some d := e
  unfold biMax at e
  split at e
  · cases e
    obtain ⟨v, w, rfl, s1, s2⟩ := hl.two
    obtain rfl := see_int s1; obtain rfl := see_int s2
    exact call_max2 hc pins s σ H _ us Q I r ⟨_, _, rfl, told_int hs q⟩
  · rename_i l
    obtain ⟨v, rfl, s1⟩ := hl.one
    obtain ⟨a, vs, rfl, ha, ra⟩ := s1
    cases e2 : asInts l with
    | none => rw [e2] at e; cases e
    | some ns =>
      rw [e2] at e
      obtain rfl := ra.asInts e2
      cases ns with
      | nil => cases e
      | cons n ns => cases e; exact cr_max hc pins s σ H _ us Q I r ⟨a, _, rfl, .of ha, Nat.zero_lt_succ _, fun m hm hle => by rw [maxL_only hm hle]; exact told_int hs q⟩
  · cases e
theorem call_min_Z (hc : X.calm = true) : CallR X (.builtin "min") (rBi X.K .min) := by
  intro pins s σ H xs us Q I r h
  obtain ⟨S, ds, hs, hl, q⟩ := h
  obtain ⟨d, e, q⟩ := told_some q
  replace e : biMin ds = some d := e
  unfold biMin at e
  split at e
  · cases e
    obtain ⟨v, w, rfl, s1, s2⟩ := hl.two
    obtain rfl := see_int s1; obtain rfl := see_int s2
    exact call_min2 hc pins s σ H _ us Q I r ⟨_, _, rfl, told_int hs q⟩
  · rename_i l
    obtain ⟨v, rfl, s1⟩ := hl.one
    obtain ⟨a, vs, rfl, ha, ra⟩ := s1
    cases e2 : asInts l with
    | none => rw [e2] at e; cases e
    | some ns =>
      rw [e2] at e
      obtain rfl := ra.asInts e2
      cases ns with
      | nil => cases e
      | cons n ns => cases e; exact cr_min hc pins s σ H _ us Q I r ⟨a, _, rfl, .of ha, Nat.zero_lt_succ _, fun m hm hle => by rw [minL_only hm hle]; exact told_int hs q⟩
  · cases e
theorem call_all_Z (hc : X.calm = true) : CallR X (.builtin "all") (rBi X.K .all) := by
  intro pins s σ H xs us Q I r h
  obtain ⟨S, ds, hs, hl, q⟩ := h
  obtain ⟨d, e, q⟩ := told_some q
  replace e : biAll ds = some d := e
  unfold biAll at e
  split at e
  · obtain ⟨v, rfl, s1⟩ := hl.one
    obtain ⟨a, vs, rfl, ha, ra⟩ := s1
    simp only [Option.map_eq_some_iff] at e
    obtain ⟨bs, h1, rfl⟩ := e
    obtain rfl := ra.asBools h1
    exact cr_all hc pins s σ H _ us Q I r ⟨a, bs, rfl, .of ha, told_bl hs q⟩
  · cases e
theorem call_any_Z (hc : X.calm = true) : CallR X (.builtin "any") (rBi X.K .any) := by
  intro pins s σ H xs us Q I r h
  obtain ⟨S, ds, hs, hl, q⟩ := h
  obtain ⟨d, e, q⟩ := told_some q
  replace e : biAny ds = some d := e
  unfold biAny at e
  split at e
  · obtain ⟨v, rfl, s1⟩ := hl.one
    obtain ⟨a, vs, rfl, ha, ra⟩ := s1
    simp only [Option.map_eq_some_iff] at e
    obtain ⟨bs, h1, rfl⟩ := e
    obtain rfl := ra.asBools h1
    exact cr_any hc pins s σ H _ us Q I r ⟨a, bs, rfl, .of ha, told_bl hs q⟩
  · cases e
theorem call_tup_Z : CallR X (.type "tuple") (rBi X.K .tuple) := by
  intro pins s σ H xs us Q I r h
  obtain ⟨S, ds, hs, hl, q⟩ := h
  obtain ⟨d, e, q⟩ := told_some q
  replace e : biTup ds = some d := e
  unfold biTup at e
  split at e
  · cases e
    obtain ⟨v, rfl, s1⟩ := hl.one
    obtain ⟨a, vs, rfl, ha, ra⟩ := see_tup s1
    exact call_tuple_of pins s σ H _ us Q I r ⟨a, vs, rfl, .inr ⟨.of (hs _ _ ha), told_rep hs q rfl (.tup ha ra)⟩⟩
  · cases e
    obtain ⟨v, rfl, s1⟩ := hl.one
    obtain ⟨a, vs, rfl, ha, ra⟩ := s1
    exact call_tuple_of pins s σ H _ us Q I r ⟨a, vs, rfl, .inl ⟨.of ha, told_tup hs q ra⟩⟩
  · cases e
theorem call_lst_Z (hc : X.calm = true) : CallR X (.type "list") (rBi X.K .list) := by
  intro pins s σ H xs us Q I r h
  obtain ⟨S, ds, hs, hl, q⟩ := h
  obtain ⟨d, e, q⟩ := told_some q
  replace e : biLst ds = some d := e
  unfold biLst at e
  split at e
  · cases e
    obtain ⟨v, rfl, s1⟩ := hl.one
    obtain ⟨a, vs, rfl, ha, ra⟩ := see_tup s1
    exact call_list_of pins s σ H _ us Q I r ⟨a, vs, rfl, .inr (.of (hs _ _ ha)), told_lst hs q ra⟩
  · cases e
    obtain ⟨v, rfl, s1⟩ := hl.one
    obtain ⟨a, vs, rfl, ha, ra⟩ := s1
    exact call_list_of pins s σ H _ us Q I r ⟨a, vs, rfl, .inl (.of ha), told_lst hs q ra⟩
  · cases e
    obtain ⟨v, rfl, s1⟩ := hl.one
    obtain ⟨a, vs, rfl, ha, ra⟩ := s1
    exact call_list_dK hc pins s σ H _ us Q I r ⟨a, _, rfl, ha, told_lst hs q (RepL.keys (β := Nat) (by have := ra.length; rw [List.length_map] at this; exact this))⟩
  · rename_i l
    cases e
    obtain ⟨v, rfl, s1⟩ := hl.one
    obtain ⟨a, vs, rfl, ha, ra⟩ := s1
    refine call_list_dT hc pins s σ H _ us Q I r ⟨a, _, rfl, .inl ha, fun p bs n k => ?_⟩
    obtain ⟨k1, k2⟩ := keysT (K := X.K) (by have := ra.length; rw [List.length_map] at this; exact this) hs k
    exact q _ _ ⟨_, tupS_sub S H bs, tupS_le hs, k2, .inr ⟨p, _, rfl, n, rfl, (fun _ => ⟨_, upd_same, k1⟩), (fun z => nomatch z)⟩⟩
  · cases e
end
end Vm

/-! VmG: which text a program of the interpreter stands for. -/
namespace Vm
open PySem PySem.Spec PyProof.Rows L2
mutual
/-- a test that the interpreter takes -/
def tstB : E → Bool
  | .cmp _ _ _ => true | .chn _ _ _ _ _ => true | .bop _ es => tstsB es | .not a => tstB a | .call _ _ => true | .bi _ _ => true | .isi _ _ => true | .mth _ _ _ => true | .var _ => true | .idx _ _ => true
  | _ => false
def tstsB : Es → Bool
  | .nil => true
  | .cons a r => tstB a && tstsB r
end
section
variable (nm : Nat → Str) (N : List Str)
def visB (sc : Scope) (x : Str) : Bool := match sc.names.lookup x with
  | some .local => true | some .cell => true | some .free => true | _ => false
def locB (sc : Scope) (x : Str) : Bool := match sc.names.lookup x with
  | some .local => true | some .cell => true | _ => false
def glB (sc : Scope) (x : Str) : Bool := match sc.names.lookup x with
  | some .globalImplicit => true | _ => false
def okNm (x : Str) : Bool := !(x == ("__debug__" : Str)) && !(x == ("__classdict__" : Str)) && !(x == ("__name__" : Str))
def varB (sc : Scope) (i : Nat) (x : Str) : Bool := decide (N[i]? = some x) && visB sc x && okNm x
/-- a name that is stored to -/
def stoB (fn : Str → Bool) (sc : Scope) (i : Nat) : Expr → Bool
  | .Name x _ => decide (N[i]? = some x) && locB sc x && okNm x && (fn x || decide (sc.names.lookup x = some .local))
  | _ => false
def stosB (fn : Str → Bool) (sc : Scope) : List Nat → List Expr → Bool
  | [], x => x.isEmpty
  | i :: is, x => (match x with | y :: ys => stoB N fn sc i y && stosB fn sc is ys | _ => false)
def tgtB (fn : Str → Bool) (sc : Scope) (tp : Bool) (ts : List Nat) (x : Expr) : Bool := match tp with
  | false => (match ts with | [i] => stoB N fn sc i x | _ => false)
  | true => (match x with | .Tuple xs _ _ => stosB N fn sc ts xs | _ => false)
def conB : C → Const → Bool
  | .non, .none => true
  | .bl b, .bool c => b == c
  | .int i, .int j => decide (i = j)
  | .str i, .str j => decide (i = j)
  | _, _ => false
def isNameB (x : Str) (sc : Scope) : Expr → Bool
  | .Name y _ => decide (y = x) && glB sc y && okNm y
  | _ => false
def mthName : MT → Str
  | .index => "index" | .split => "split" | .join => "join" | .startswith => "startswith" | .get => "get"
def mthOk : MT → Es → Bool
  | .index, _ => false
  | .get, .cons _ (.cons _ .nil) => true
  | .get, _ => false
  | _, .cons _ .nil => true
  | _, _ => false
def rngE : Es → Bool
  | .cons _ .nil => true
  | .cons _ (.cons _ .nil) => true
  | _ => false
/-- no super() -/
def baseB : Expr → Bool
  | .Call _ [] _ _ => false
  | _ => true
def tyName : Ty → String
  | .str => "str" | .int => "int" | .bool => "bool" | .tuple => "tuple" | .list => "list"
def tyStr : Ty → Str
  | .str => "str" | .int => "int" | .bool => "bool" | .tuple => "tuple" | .list => "list"
mutual
def mE (sc : Scope) : E → Expr → Bool
  | .con c, x => (match x with | .Constant k _ _ => conB c k | _ => false)
  | .var i, x => (match x with | .Name y _ => varB N sc i y | _ => false)
  | .glb _ _, _ => false
  | .tup es, x => (match x with | .Tuple l _ _ => mEs sc es l | _ => false)
  | .lst es, x => (match x with | .List l _ => mEs sc es l | _ => false)
  | .bin o a b, x => (match x with | .BinOp l op r _ => decide (op = boOp o) && mE sc a l && mE sc b r | _ => false)
  | .neg a, x => (match x with | .UnaryOp op l _ => decide (op = .USub) && mE sc a l | _ => false)
  | .cmp o a b, x => (match x with | .Compare l ops rs _ => (match ops, rs with | [op], [r] => decide (op = coOp o) && mE sc a l && mE sc b r | _, _ => false) | _ => false)
  | .chn o p a b c, x => (match x with | .Compare l ops rs _ => (match ops, rs with | [op, op'], [r, t] => decide (op = coOp o) && decide (op' = coOp p) && mE sc a l && mE sc b r && mE sc c t | _, _ => false) | _ => false)
  | .bop k es, x => (match x with | .BoolOp op l _ => decide (op = if k then .And else .Or) && mEs sc es l | _ => false)
  | .not a, x => (match x with | .UnaryOp op l _ => decide (op = .Not) && mE sc a l | _ => false)
  | .ite c a b, x => (match x with | .IfExp t l r _ => mE sc c t && mE sc a l && mE sc b r && tstB c | _ => false)
  | .idx a i, x => (match x with | .Subscript l r _ => mE sc a l && mE sc i r | _ => false)
  | .slc a lo hi, x => (match x with | .Subscript l s _ => (match s with | .Slice lo' hi' st _ => st.isNone && mE sc a l && mEo sc lo lo' && mEo sc hi hi' | _ => false) | _ => false)
  | .stp _ _, _ => false
  | .call f as, x => (match x with | .Call g args kw _ => isNameB (nm f) sc g && kw.isEmpty && !args.isEmpty && !(nm f == "") && mAs sc as args | _ => false)
  | .bi b es, x => (match x with | .Call g args kw _ => isNameB (biName b) sc g && kw.isEmpty && !args.isEmpty && mEs sc es args | _ => false)
  | .bid _ _ _, _ => false
  | .lset _, _ => false
  | .lrng _ _, _ => false
  | .mth m r es, x => (match x with | .Call g args kw pos => (match g with | .Attribute o name apos => decide (name = mthName m) && (apos.endLine == pos.line) && baseB o && kw.isEmpty && mthOk m es && mE sc r o && mEs sc es args | _ => false) | _ => false)
  | .isi a t, x => (match x with | .Call g args kw _ => isNameB "isinstance" sc g && kw.isEmpty && (match args with | [y, c] => mE sc a y && isNameB (tyStr t) sc c | _ => false) | _ => false)
  | .newd _, x => (match x with | .Dict ks vs _ => ks.isEmpty && vs.isEmpty | _ => false)
  | .comp elt tp ts src cond, x => (match x with
    | .ListComp y gens scope _ => (match gens with
      | [⟨tg, iter, ifs, asy⟩] => decide (asy = 0) && blkC N sc scope ((ts.filterMap fun i => (N[i]?).map fun x => (x, i))) && decide ((ts.filterMap fun i => (N[i]?).map fun x => (x, i)).length = ts.length) && tgtB N (fun x => scope.names.lookup x == some .cell) (relS scope sc) tp ts tg && mSrc sc src iter && mE (relS scope sc) elt y && (match cond, ifs with
        | .none, [] => true
        | .some c, [z] => mE (relS scope sc) c z && tstB c
        | _, _ => false)
      | _ => false)
    | _ => false)
def mEs (sc : Scope) : Es → List Expr → Bool
  | .nil, x => x.isEmpty
  | .cons a r, x => (match x with | y :: ys => mE sc a y && mEs sc r ys | _ => false)
def mEo (sc : Scope) : Eo → Option Expr → Bool
  | .none, x => x.isNone
  | .some a, x => (match x with | some y => mE sc a y | _ => false)
def mAs (sc : Scope) : As → List Expr → Bool
  | .nil, x => x.isEmpty
  | .val a r, x => (match x with | y :: ys => mE sc a y && mAs sc r ys | _ => false)
  | .mov a r, x => (match x with | y :: ys => mE sc a y && mAs sc r ys | _ => false)
  | .give a r, x => (match x with | y :: ys => mE sc a y && mAs sc r ys | _ => false)
  | .lend i r, x => (match x with | y :: ys => (match y with | .Name z _ => varB N sc i z | _ => false) && mAs sc r ys | _ => false)
  | .ref i r, x => (match x with | y :: ys => (match y with | .Name z _ => varB N sc i z | _ => false) && mAs sc r ys | _ => false)
def mSrc (sc : Scope) : Src → Expr → Bool
  | .ex a, x => mE sc a x
  | .own i, x => (match x with | .Name z _ => varB N sc i z | _ => false)
  | .rng es, x => (match x with | .Call g args kw _ => isNameB "range" sc g && kw.isEmpty && rngE es && mEs sc es args | _ => false)
  | .zip _ _, _ => false
end
end
/-- what an expression of the interpreter never stands for -/
def plainX : Expr → Bool
  | .Starred _ _ => false | .Slice _ _ _ _ => false | .Set _ _ _ => false | .SetComp _ _ _ _ => false | .DictComp _ _ _ _ _ => false | .Lambda _ _ _ _ => false | .GeneratorExp _ _ _ _ => false
  | .NamedExpr _ _ _ => false | .Await _ _ => false | .Yield _ _ => false | .YieldFrom _ _ => false
  | _ => true
theorem mE_plain {nm : Nat → Str} {N : List Str} {sc : Scope} {a : E} {x : Expr} (h : mE nm N sc a x = true) : plainX x = true := by
  cases x <;> first | rfl | (exfalso; cases a <;> simp [mE] at h)
theorem plain_star {x : Expr} (h : plainX x = true) (es : List Expr) (env : PySem.Env) : starEach (x :: es) env = (false, eval x env) :: starEach es env := by
  cases x <;> first | rfl | cases h
theorem plain_sw {x : Expr} (h : plainX x = true) (hl : ∀ a b c d, x ≠ .ListComp a b c d) (t : Option Expr) (l : Nat) (env : PySem.Env) : swapsWith x t l env = pure false := by
  cases x <;> first | exact absurd rfl (hl _ _ _ _) | rfl | cases h
theorem plain_fold {x : Expr} (h : plainX x = true) (env : PySem.Env) (v : Value) : foldedSetIterable x env v = pure v := by
  cases x <;> first | rfl | cases h
theorem plain_mark {x : Expr} (h : plainX x = true) (op : CmpOp) : behindInMarks op x = false := by
  cases x <;> first | rfl | cases h
theorem plain_ix {x : Expr} (h : plainX x = true) : PlainIx x := by
  intro o i
  cases x <;> first | rfl | cases h
end Vm

/-! VmH: what the interpreter tells of an expression is what the text does. -/
namespace Vm
open PySem PySem.Spec PyProof.Rows L2

theorem PE.weak {X : Cx} {x : Expr} {t t' : TE} (h : PE X x t) (k : ∀ σ H Q, t' σ H Q → t σ H Q) : PE X x t' := ⟨fun pins s σ H Q I q => h.run pins s σ H Q I (k σ H Q q)⟩
theorem PT.weak {X : Cx} {x : Expr} {t t' : TT} (h : PT X x t) (k : ∀ σ H Q, t' σ H Q → t σ H Q) : PT X x t' := ⟨fun pins s σ H Q I q => h.run pins s σ H Q I (k σ H Q q)⟩
theorem PA.weak {X : Cx} {x : List Expr} {t t' : TA} (h : PA X x t) (k : ∀ σ H Q, t' σ H Q → t σ H Q) : PA X x t' := ⟨fun pos pins s σ H Q I q => h.run pos pins s σ H Q I (k σ H Q q)⟩
theorem PO.weak {X : Cx} {x : Option Expr} {t t' : TO} (h : PO X x t) (k : ∀ σ H Q, t' σ H Q → t σ H Q) : PO X x t' := ⟨fun pins s σ H Q I q => h.run pins s σ H Q I (k σ H Q q)⟩
theorem PE.never {X : Cx} {x : Expr} {t : TE} (k : ∀ σ H Q, ¬ t σ H Q) : PE X x t := ⟨fun _ _ σ H Q _ q => (k σ H Q q).elim⟩
theorem PT.never {X : Cx} {x : Expr} {t : TT} (k : ∀ σ H Q, ¬ t σ H Q) : PT X x t := ⟨fun _ _ σ H Q _ q => (k σ H Q q).elim⟩

section
variable (K : PySem.W.Frag) (ca : Ex → Addr) (G : Gh)
/-- what holds behind a run: J of what is told; W of what is raised -/
def Pst {α : Type} (P : List (Addr × HO)) (W : WX) (σ : L2.St) (S : Hp) (r : Res α) (J : α → Env → Hp → Hp → Prop) : Prop := match r with
  | .ok a e => ∀ S' H', Sub S S' → Rel K G P e σ S' H' → J a e S' H'
  | .exc x e => ∀ S' H', Sub S S' → Rel K G P e σ S' H' → W (.ref (ca x)) none σ H'
  | .bad => False
/-- v is what was told: a value, or a new list -/
def RV (P : List (Addr × HO)) (e : Env) (σ : L2.St) (S H : Hp) (p : Bool × D) (v : V) : Prop := match p with
  | (true, d) => ∃ l, v = .ref l ∧ Fre K G P e σ S H l d
  | (false, d) => Rep K S v d
def OV (σ : L2.St) (S : Hp) (o : Opd) (v : V) : Prop := match o with
  | .slot i => σ[i]? = some (some v)
  | .d d => Rep K S v d
inductive OVs (σ : L2.St) (S : Hp) : List Opd → List V → Prop
  | nil : OVs σ S [] []
  | cons {o : Opd} {v : V} {os : List Opd} {vs : List V} : OV K σ S o v → OVs σ S os vs → OVs σ S (o :: os) (v :: vs)
end
section
variable {K : PySem.W.Frag} {ca : Ex → Addr} {G : Gh} {P : List (Addr × HO)} {W : WX} {σ : L2.St} {S S1 H : Hp} {e : Env}
theorem Pst.mono {α : Type} {r : Res α} {J : α → Env → Hp → Hp → Prop} (hs : Sub S S1) (h : Pst K ca G P W σ S r J) : Pst K ca G P W σ S1 r J := by
  cases r with
  | ok a e => exact fun S' H' q R => h S' H' (hs.trans q) R
  | exc x e => exact fun S' H' q R => h S' H' (hs.trans q) R
  | bad => exact h
theorem Pst.bind {α β : Type} {r : Res α} {f : α → Env → Res β} {J : β → Env → Hp → Hp → Prop} (h : Pst K ca G P W σ S (r.bind f) J) : Pst K ca G P W σ S r fun a e S' H' => Pst K ca G P W σ S' (f a e) J := by
  cases r with
  | ok a e => exact fun S' H' q R => Pst.mono q h
  | exc x e => exact h
  | bad => exact h
theorem Pst.imp {α : Type} {r : Res α} {J J' : α → Env → Hp → Hp → Prop} (h : Pst K ca G P W σ S r J) (k : ∀ a e S' H', Sub S S' → Rel K G P e σ S' H' → J a e S' H' → J' a e S' H') : Pst K ca G P W σ S r J' := by
  cases r with
  | ok a e => exact fun S' H' q R => k a e S' H' q R (h S' H' q R)
  | exc x e => exact h
  | bad => exact h
theorem OV.mono {o : Opd} {v : V} (hs : Sub S S1) (h : OV K σ S o v) : OV K σ S1 o v := by
  cases o with
  | slot i => exact h
  | d d => exact Rep.mono hs h
theorem OVs.mono (hs : Sub S S1) : ∀ {os : List Opd} {vs : List V}, OVs K σ S os vs → OVs K σ S1 os vs
  | _, _, .nil => .nil
  | _, _, .cons a b => .cons (a.mono hs) (OVs.mono hs b)
theorem Rel.see (R : Rel K G P e σ S H) {o : Opd} {v : V} {d : D} (ov : OV K σ S o v) (g : got o e = some d) : See K S H v d := by
  cases o with
  | slot i =>
    obtain ⟨v', h1, h2⟩ := R.pick g
    have : v' = v := by
      have h3 : σ[i]? = some (some v) := ov
      rw [h3] at h1; cases h1; rfl
    rw [← this]; exact h2
  | d d' => cases g; exact Rep.see R.sub ov
theorem Rel.sees (R : Rel K G P e σ S H) : ∀ {os : List Opd} {vs : List V} {ds : List D}, OVs K σ S os vs → gots os e = some ds → SeeL K S H vs ds
  | _, _, _, .nil, g => by cases g; exact .nil
  | _, _, _, .cons (o := o) (os := os) a b, g => by
    simp only [gots, Option.bind_eq_some_iff, Option.map_eq_some_iff] at g
    obtain ⟨d, h1, ds, h2, rfl⟩ := g
    exact .cons (R.see a h1) (R.sees b h2)
/-- what was told, as a value -/
theorem Rel.rep (R : Rel K G P e σ S H) {p : Bool × D} {v : V} (h : RV K G P e σ S H p v) : ∃ S', Sub S S' ∧ Rel K G P e σ S' H ∧ Rep K S' v p.2 := by
  obtain ⟨b, d⟩ := p
  cases b with
  | true =>
    obtain ⟨l, rfl, F⟩ := h
    exact R.frz F
  | false => exact ⟨S, .refl S, R, h⟩
/-- what an operation has made -/
theorem Rel.made (R : Rel K G P e σ S H) {v : V} {H' : Hp} {d : D} (n : New K S H v H' d) : ∃ S', Sub S S' ∧ Rel K G P e σ S' H' ∧ RV K G P e σ S' H' (isL d, d) v := by
  obtain ⟨S1, h1, h2, h3, n⟩ := n
  have R1 := R.ext h1 h2 h3
  rcases n with ⟨rfl, hl, r⟩ | ⟨p, u, rfl, hp, rfl, n1, n2⟩
  · rw [hl]; exact ⟨S1, h1, R1, r⟩
  · cases hl : isL d with
    | true =>
      obtain ⟨R2, F⟩ := R1.fresh hp (n1 hl)
      exact ⟨S1, h1, R2, p, rfl, F⟩
    | false => exact ⟨upd S1 p u, h1.trans (Sub.upd (h2.none hp)), R1.alloc hp, n2 hl⟩
theorem Pst.told {o : Option D} {Q : VK} (R : Rel K G P e σ S H) (h : Pst K ca G P W σ S (Vm.fresh o e) fun p e' S' H' => ∀ v, RV K G P e' σ S' H' p v → Q v H') : Told K S H Q o := by
  cases o with
  | none => exact h
  | some d =>
    intro v H' n
    obtain ⟨S', hs, R', rv⟩ := R.made n
    exact h S' H' hs R' v rv
theorem Pst.toldB {o : Option Bool} {Q : VK} (R : Rel K G P e σ S H) (h : Pst K ca G P W σ S (ofB o e) fun p e' S' H' => ∀ v, RV K G P e' σ S' H' p v → Q v H') : ToldB H Q o := by
  cases o with
  | none => exact h
  | some d => exact h S H (.refl S) R _ (.bl d)
end

section
variable (K : PySem.W.Frag) (ca : Ex → Addr) (G : Gh) (call : CallT) (refs : List Nat) (W : WX)
/-- the readings that the interpreter gives -/
def tE (a : E) : TE := fun σ H Q => ∃ e S P, Rel K G P e σ S H ∧ Pst K ca G P W σ S (evE call refs a e) fun p e' S' H' => ∀ v, RV K G P e' σ S' H' p v → Q v H'
def tO (a : E) : TE := fun σ H Q => ∃ e S P, Rel K G P e σ S H ∧ Pst K ca G P W σ S (opnd (isVar a) (fun _ => evE call refs a e) e) fun o e' S' H' => ∀ v, OV K σ S' o v → Q v H'
def tBs (k : Bool) (es : Es) : TE := fun σ H Q => ∃ e S P, Rel K G P e σ S H ∧ Pst K ca G P W σ S (evBs call refs k es e) fun p e' S' H' => ∀ v, RV K G P e' σ S' H' p v → Q v H'
def tT (a : E) : TT := fun σ H Q => ∃ e S P, Rel K G P e σ S H ∧ Pst K ca G P W σ S (evT call refs a e) fun b e' S' H' => Q b H'
def tEs (es : Es) : TA := fun σ H Q => ∃ e S P, Rel K G P e σ S H ∧ Pst K ca G P W σ S (evEs call refs es e) fun l e' S' H' => ∀ vs, RepL K S' vs l → Q vs H'
def tPs (es : Es) : TA := fun σ H Q => ∃ e S P, Rel K G P e σ S H ∧ Pst K ca G P W σ S (evPs call refs es e) fun l e' S' H' => ∀ vs, OVs K σ S' l vs → Q vs H'
def tEo (a : Eo) : TO := fun σ H Q => ∃ e S P, Rel K G P e σ S H ∧ Pst K ca G P W σ S (evEo call refs a e) fun o e' S' H' => Q o H'
end

def freeNames : List Str := ["len", "abs", "int", "str", "min", "max", "all", "any", "tuple", "list", "sorted", "range", "zip", "isinstance", "bool", "set", "ValueError"]
/-- the arguments of a call, as they lie -/
inductive Args (K : PySem.W.Frag) (S H : Hp) : List AV → List V → List Addr → List Addr → Prop
  | nil : Args K S H [] [] [] []
  | val {d : D} {v : V} {as : List AV} {vs : List V} {B C : List Addr} : Rep K S v d → Args K S H as vs B C → Args K S H (.val d :: as) (v :: vs) B C
  | own {d : D} {l : Addr} {as : List AV} {vs : List V} {B C : List Addr} : Own K S H l d → Args K S H as vs B C → Args K S H (.own d :: as) (.ref l :: vs) (l :: B) C
  | give {d : D} {l : Addr} {as : List AV} {vs : List V} {B C : List Addr} : Own K S H l d → Args K S H as vs B C → Args K S H (.give d :: as) (.ref l :: vs) B (l :: C)
/-- the changed lists, behind the call -/
inductive Outs (K : PySem.W.Frag) (S H : Hp) : List Addr → List D → Prop
  | nil : Outs K S H [] []
  | cons {l : Addr} {d : D} {B : List Addr} {os : List D} : Own K S H l d → Outs K S H B os → Outs K S H (l :: B) (d :: os)
/-- what is so behind a call: B may be changed, C was given away -/
structure After (K : PySem.W.Frag) (S H : Hp) (B C : List Addr) (S' H' : Hp) (os : List D) : Prop where
  s0 : Sub S S'
  sub : Sub S' H'
  fr : ∀ b o, H b = some o → b ∉ B → b ∉ C → H' b = some o
  new : ∀ b o, S' b = some o → Mut (some o) → S b ≠ none ∨ H b = none ∨ b ∈ C
  outs : Outs K S' H' B os
/-- a call's promise by the interpreter -/
def PstF (K : PySem.W.Frag) (ca : Ex → Addr) (S H : Hp) (B C : List Addr) (Q : VK) (E : XK) : Out → Prop
  | .ret fr d os => ∀ v S' H', After K S H B C S' H' os → (match fr with
      | true => ∃ l, v = .ref l ∧ Own K S' H' l d ∧ l ∉ B ∧ (H l = none ∨ l ∈ C)
      | false => Rep K S' v d) → Q v H'
  | .exc x os => ∀ S' H', After K S H B C S' H' os → E (.ref (ca x)) none H'
  | .bad => False
def spOf (K : PySem.W.Frag) (ca : Ex → Addr) (call : CallT) (f : Nat) : Sp := fun vs H Q E => ∃ S as B C, Sub S H ∧ Args K S H as vs B C ∧ (B ++ C).Nodup ∧ PstF K ca S H B C Q E (call f as)
def CallsOk (P : Program) (w : World) (K : PySem.W.Frag) (mg : Str → Option Value) (base : Heap) (nm : Nat → Str) (ca : Ex → Addr) (call : CallT) (j : Nat) : Prop :=
  ∀ f, nm f ≠ "" → ∃ (a : Addr) (fd : FuncData) (ps : List Str), mg (nm f) = some (.ref a) ∧ PySem.W.keepIn K (.ref a) = true ∧ Binds K fd ps [] ∧ FnOk P w K mg base (L2.CX P w) j a fd ps (spOf K ca call f)
structure Good (nm : Nat → Str) (ca : Ex → Addr) (call : CallT) (j : Nat) (X : Cx) : Prop where
  calm : X.calm = true
  nd : X.N.Nodup
  room : Room j X.A
  calls : CallsOk X.prog X.w X.K X.mg X.base nm ca call j
  free : ∀ x ∈ freeNames, X.mg x = none

section
variable {nm : Nat → Str} {ca : Ex → Addr} {G : Gh} {call : CallT} {j : Nat} {refs : List Nat} {W : WX} {X : Cx} {N : List Str}
theorem and2 {a b : Bool} (h : (a && b) = true) : a = true ∧ b = true := Bool.and_eq_true_iff.mp h
theorem visB_ok {sc : Scope} {x : Str} (h : visB sc x = true) : Vis sc x := by
  unfold visB at h
  split at h
  · exact .inl (by assumption)
  · exact .inr (.inl (by assumption))
  · exact .inr (.inr (by assumption))
  · cases h
theorem locB_ok {sc : Scope} {x : Str} (h : locB sc x = true) : Loc sc x := by
  unfold locB at h
  split at h
  · exact .inl (by assumption)
  · exact .inr (by assumption)
  · cases h
theorem okNm_ok {x : Str} (h : okNm x = true) : (x == ("__debug__" : Str)) = false ∧ (x == ("__classdict__" : Str)) = false ∧ x ≠ ("__name__" : Str) := by
  unfold okNm at h
  obtain ⟨h, h3⟩ := and2 h
  obtain ⟨h1, h2⟩ := and2 h
  refine ⟨by simpa using h1, by simpa using h2, fun z => ?_⟩
  subst z
  simp at h3
theorem pe_name {i : Nat} {x : Str} {pos : Pos} (h : varB X.N X.env.scope i x = true) : PE X (.Name x pos) (tVar i) := by
  unfold varB at h
  obtain ⟨h, h3⟩ := and2 h
  obtain ⟨h1, h2⟩ := and2 h
  obtain ⟨k1, k2, _⟩ := okNm_ok h3
  exact pe_var (of_decide_eq_true h1) (visB_ok h2) k1 k2
theorem isNameB_ok {x : Str} {sc : Scope} {e : Expr} (h : isNameB x sc e = true) : ∃ pos, e = .Name x pos ∧ sc.names.lookup x = some .globalImplicit ∧ okNm x = true := by
  unfold isNameB at h
  split at h
  · rename_i y pos
    obtain ⟨h, h3⟩ := and2 h
    obtain ⟨h1, h2⟩ := and2 h
    obtain rfl := of_decide_eq_true h1
    refine ⟨pos, rfl, ?_, h3⟩
    unfold glB at h2
    split at h2
    · assumption
    · cases h2
  · cases h
/-- an operand -/
theorem sO {a : E} {x : Expr} (hm : mE nm X.N X.env.scope a x = true) (h : PE X x (tE X.K ca G call refs W a)) : PE X x (tO X.K ca G call refs W a) := by
  cases hv : isVar a with
  | none =>
    refine PE.weak h fun σ H Q ⟨e, S, P, R, q⟩ => ⟨e, S, P, R, ?_⟩
    rw [hv] at q
    exact (Pst.bind q).imp fun p e1 S1 H1 hs1 R1 q1 v rv => by
      obtain ⟨S2, hs2, R2, r2⟩ := R1.rep rv
      exact q1 S2 H1 hs2 R2 v r2
  | some i =>
    have ha : a = .var i := by
      cases a with
      | var i' => cases hv; rfl
      | _ => cases hv
    subst ha
    unfold mE at hm
    split at hm
    · refine PE.weak (pe_name hm) fun σ H Q ⟨e, S, P, R, q⟩ => ?_
      simp only [isVar, opnd] at q
      cases e1 : pk e i with
      | none => rw [e1] at q; exact q.elim
      | some d =>
        rw [e1] at q
        obtain ⟨v, h1, h2⟩ := R.pick e1
        exact ⟨v, h1, q S H (.refl S) R v h1⟩
    · cases hm
end
end Vm

namespace Vm
open PySem PySem.Spec PyProof.Rows L2
section
variable {nm : Nat → Str} {ca : Ex → Addr} {G : Gh} {call : CallT} {j : Nat} {refs : List Nat} {W : WX} {X : Cx}
theorem Res.bind_assoc {α β γ : Type} (r : Res α) (f : α → Env → Res β) (g : β → Env → Res γ) : (r.bind f).bind g = r.bind fun a e => (f a e).bind g := by
  cases r <;> rfl
theorem op1_bind {α β : Type} (o : Opd) (e : Env) (f : D → Res α) (g : α → Env → Res β) : (op1 o e f).bind g = op1 o e fun x => (f x).bind g := by
  unfold op1
  cases got o e <;> rfl
theorem Pst.op1 {α : Type} {K : PySem.W.Frag} {P : List (Addr × HO)} {σ : L2.St} {S H : Hp} {e : Env} {o : Opd} {v : V} {f : D → Res α} {J : α → Env → Hp → Hp → Prop} (R : Rel K G P e σ S H) (ov : OV K σ S o v)
    (h : Pst K ca G P W σ S (Vm.op1 o e f) J) : ∃ d, See K S H v d ∧ Pst K ca G P W σ S (f d) J := by
  unfold Vm.op1 at h
  cases g : got o e with
  | none => rw [g] at h; exact h.elim
  | some d => rw [g] at h; exact ⟨d, R.see ov g, h⟩
theorem Pst.op2 {α : Type} {K : PySem.W.Frag} {P : List (Addr × HO)} {σ : L2.St} {S H : Hp} {e : Env} {o p : Opd} {v w : V} {f : D → D → Res α} {J : α → Env → Hp → Hp → Prop} (R : Rel K G P e σ S H) (ov : OV K σ S o v) (ow : OV K σ S p w)
    (h : Pst K ca G P W σ S (Vm.op2 o p e f) J) : ∃ d d', got o e = some d ∧ See K S H v d ∧ See K S H w d' ∧ Pst K ca G P W σ S (f d d') J := by
  unfold Vm.op2 at h
  cases g : got o e with
  | none => rw [g] at h; exact h.elim
  | some d => cases g2 : got p e with
    | none => rw [g, g2] at h; exact h.elim
    | some d' => rw [g, g2] at h; exact ⟨d, d', rfl, R.see ov g, R.see ow g2, h⟩
theorem s_con {c : C} {x : Expr} (h : mE nm X.N X.env.scope (.con c) x = true) : PE X x (tE X.K ca G call refs W (.con c)) := by
  unfold mE at h
  split at h
  · rename_i k _ _
    cases c with
    | non =>
      cases k <;> first | (cases h; done) | skip
      exact PE.weak pe_non fun σ H Q ⟨e, S, P, R, q⟩ => q S H (.refl S) R _ .non
    | bl b =>
      cases k <;> first | (cases h; done) | skip
      rename_i b'
      have hb : b = b' := eq_of_beq h
      subst hb
      exact PE.weak pe_bl fun σ H Q ⟨e, S, P, R, q⟩ => q S H (.refl S) R _ (.bl b)
    | int b =>
      cases k <;> first | (cases h; done) | skip
      obtain rfl := of_decide_eq_true h
      exact PE.weak pe_int fun σ H Q ⟨e, S, P, R, q⟩ => q S H (.refl S) R _ (.int b)
    | str b =>
      cases k <;> first | (cases h; done) | skip
      obtain rfl := of_decide_eq_true h
      exact PE.weak pe_str fun σ H Q ⟨e, S, P, R, q⟩ => q S H (.refl S) R _ (.str b)
  · cases h
theorem s_var {i : Nat} {x : Expr} (h : mE nm X.N X.env.scope (.var i) x = true) : PE X x (tE X.K ca G call refs W (.var i)) := by
  unfold mE at h
  split at h
  · refine PE.weak (pe_name h) fun σ H Q ⟨e, S, P, R, q⟩ => ?_
    simp only [evE, rd] at q
    split at q
    · rename_i d hd
      obtain ⟨v, h1, r⟩ := R.val i d hd
      exact ⟨v, h1, q S H (.refl S) R v r⟩
    · rename_i d hd
      obtain ⟨S', hs, R'⟩ := R.frzSlot (.inl hd)
      obtain ⟨v, h1, r⟩ := R'.val i d (by rw [List.getElem?_set_self (IsOwn.lt (.inl hd))])
      exact ⟨v, h1, q S' H hs R' v r⟩
    · rename_i d hd
      obtain ⟨S', hs, R'⟩ := R.frzSlot (.inr hd)
      obtain ⟨v, h1, r⟩ := R'.val i d (by rw [List.getElem?_set_self (IsOwn.lt (.inr hd))])
      exact ⟨v, h1, q S' H hs R' v r⟩
    · exact q.elim
  · cases h
theorem s_tup {es : Es} {x : Expr} (h : mE nm X.N X.env.scope (.tup es) x = true) (ih : ∀ l, mEs nm X.N X.env.scope es l = true → PA X l (tEs X.K ca G call refs W es)) : PE X x (tE X.K ca G call refs W (.tup es)) := by
  unfold mE at h
  split at h
  · refine PE.weak (pe_tup (ih _ h)) fun σ H Q ⟨e, S, P, R, q⟩ => ⟨e, S, P, R, ?_⟩
    exact (Pst.bind q).imp fun l e1 S1 H1 hs1 R1 q1 vs r => by
      split at q1
      · rename_i hl
        refine ⟨by rw [line_eq, r.length]; omega, fun p n => ?_⟩
        exact q1 _ _ (Sub.upd (R1.sub.none n)) (R1.alloc n) _ (.tup upd_same (r.mono (Sub.upd (R1.sub.none n))))
      · exact q1.elim
  · cases h
theorem s_lst {es : Es} {x : Expr} (h : mE nm X.N X.env.scope (.lst es) x = true) (ih : ∀ l, mEs nm X.N X.env.scope es l = true → PA X l (tEs X.K ca G call refs W es)) : PE X x (tE X.K ca G call refs W (.lst es)) := by
  unfold mE at h
  split at h
  · refine PE.weak (pe_lst (ih _ h)) fun σ H Q ⟨e, S, P, R, q⟩ => ⟨e, S, P, R, ?_⟩
    exact (Pst.bind q).imp fun l e1 S1 H1 hs1 R1 q1 vs r => by
      split at q1
      · rename_i hl
        refine ⟨by rw [line_eq, r.length]; omega, fun p n => ?_⟩
        obtain ⟨R2, F⟩ := R1.fresh (d := .lst l) n ⟨vs, upd_same, r⟩
        exact q1 _ _ (.refl S1) R2 _ ⟨p, rfl, F⟩
      · exact q1.elim
  · cases h
theorem s_bin {o : BO} {a b : E} {x : Expr} (h : mE nm X.N X.env.scope (.bin o a b) x = true) (iha : ∀ y, mE nm X.N X.env.scope a y = true → PE X y (tE X.K ca G call refs W a)) (ihb : ∀ y, mE nm X.N X.env.scope b y = true → PE X y (tE X.K ca G call refs W b)) : PE X x (tE X.K ca G call refs W (.bin o a b)) := by
  unfold mE at h
  split at h
  · obtain ⟨h, h3⟩ := and2 h
    obtain ⟨h1, h2⟩ := and2 h
    obtain rfl := of_decide_eq_true h1
    refine PE.weak (pe_op (op_bin o) (sO h2 (iha _ h2)) (sO h3 (ihb _ h3))) fun σ H Q ⟨e, S, P, R, q⟩ => ⟨e, S, P, R, ?_⟩
    exact (Pst.bind q).imp fun p e1 S1 H1 hs1 R1 q1 v ov => ⟨e1, S1, P, R1, (Pst.bind q1).imp fun p' e2 S2 H2 hs2 R2 q2 w ow => by
      obtain ⟨d, d', _, s1, s2, q3⟩ := q2.op2 R2 (ov.mono hs2) ow
      exact ⟨S2, d, d', R2.sub, s1, s2, q3.told R2⟩⟩
  · cases h
theorem s_neg {a : E} {x : Expr} (h : mE nm X.N X.env.scope (.neg a) x = true) (iha : ∀ y, mE nm X.N X.env.scope a y = true → PE X y (tE X.K ca G call refs W a)) : PE X x (tE X.K ca G call refs W (.neg a)) := by
  unfold mE at h
  split at h
  · obtain ⟨h1, h2⟩ := and2 h
    obtain rfl := of_decide_eq_true h1
    refine PE.weak (pe_un un_neg (sO h2 (iha _ h2))) fun σ H Q ⟨e, S, P, R, q⟩ => ⟨e, S, P, R, ?_⟩
    exact (Pst.bind q).imp fun p e1 S1 H1 hs1 R1 q1 v ov => by
      obtain ⟨d, s1, q2⟩ := q1.op1 R1 ov
      cases d with
      | int i =>
        obtain rfl := see_int s1
        exact ⟨i, rfl, q2 S1 H1 (.refl S1) R1 _ (.int _)⟩
      | _ => exact q2.elim
  · cases h
theorem s_cmp {o : CO} {a b : E} {x : Expr} (g : Good nm ca call j X) (h : mE nm X.N X.env.scope (.cmp o a b) x = true) (iha : ∀ y, mE nm X.N X.env.scope a y = true → PE X y (tE X.K ca G call refs W a)) (ihb : ∀ y, mE nm X.N X.env.scope b y = true → PE X y (tE X.K ca G call refs W b)) :
    PE X x (tE X.K ca G call refs W (.cmp o a b)) ∧ PT X x (tT X.K ca G call refs W (.cmp o a b)) := by
  have hu : X.A.units + 100 < cLine := by have := g.room.un; omega
  unfold mE at h
  split at h
  · split at h
    · obtain ⟨h, h3⟩ := and2 h
      obtain ⟨h1, h2⟩ := and2 h
      obtain rfl := of_decide_eq_true h1
      refine ⟨PE.weak (pe_cmpR (op_cmp o hu) (sO h2 (iha _ h2)) (sO h3 (ihb _ h3)) (plain_mark (mE_plain h3) _)) fun σ H Q ⟨e, S, P, R, q⟩ => ⟨e, S, P, R, ?_⟩, PT.weak (pt_cmpR (op_cmp o hu) (sO h2 (iha _ h2)) (sO h3 (ihb _ h3)) (plain_mark (mE_plain h3) _)) fun σ H Q ⟨e, S, P, R, q⟩ => ⟨e, S, P, R, ?_⟩⟩
      · exact (Pst.bind q).imp fun p e1 S1 H1 hs1 R1 q1 v ov => ⟨e1, S1, P, R1, (Pst.bind q1).imp fun p' e2 S2 H2 hs2 R2 q2 w ow => by
          obtain ⟨d, d', _, s1, s2, q3⟩ := q2.op2 R2 (ov.mono hs2) ow
          exact ⟨S2, d, d', R2.sub, s1, s2, q3.toldB R2⟩⟩
      · have q : Pst X.K ca G P W σ S ((evE call refs (.cmp o a b) e).bind fun p e => asB p.2 e) fun b e' S' H' => Q b H' := by
          have e1 : evT call refs (.cmp o a b) e = (evE call refs (.cmp o a b) e).bind fun p e => asB p.2 e := by
            simp only [evT, isVar, opnd, Res.bind_assoc]
            congr 1
          rw [← e1]; exact q
        simp only [evE, Res.bind_assoc] at q
        exact (Pst.bind q).imp fun p e1 S1 H1 hs1 R1 q1 v ov => ⟨e1, S1, P, R1, (Pst.bind q1).imp fun p' e2 S2 H2 hs2 R2 q2 w ow => by
          have q2 : Pst X.K ca G P W σ S2 (Vm.op2 p p' e2 fun x y => (ofB (cmpD o x y) e2).bind fun p e => asB p.2 e) fun b e' S' H' => Q b H' := by
            unfold Vm.op2 at q2 ⊢
            cases g1 : got p e2 <;> cases g2 : got p' e2 <;> (rw [g1, g2] at q2; exact q2)
          obtain ⟨d, d', _, s1, s2, q3⟩ := q2.op2 R2 (ov.mono hs2) ow
          refine ⟨S2, d, d', R2.sub, s1, s2, ?_⟩
          cases hc : cmpD o d d' with
          | none => rw [hc] at q3; exact q3.elim
          | some b => rw [hc] at q3; exact ⟨b, rfl, q3 S2 H2 (.refl S2) R2⟩⟩
    · cases h
  · cases h
end
end Vm

namespace Vm
open PySem PySem.Spec PyProof.Rows L2
section
variable {nm : Nat → Str} {ca : Ex → Addr} {G : Gh} {call : CallT} {j : Nat} {refs : List Nat} {W : WX} {X : Cx}
theorem Res.bind_congr {α β : Type} {r : Res α} {f g : α → Env → Res β} (h : ∀ a e, f a e = g a e) : r.bind f = r.bind g := by
  cases r with
  | ok a e => exact h a e
  | exc x e => rfl
  | bad => rfl
theorem op2_bind {α β : Type} (o p : Opd) (e : Env) (f : D → D → Res α) (g : α → Env → Res β) : (Vm.op2 o p e f).bind g = Vm.op2 o p e fun x y => (f x y).bind g := by
  unfold Vm.op2
  cases got o e <;> cases got p e <;> rfl
/-- a test of no name -/
theorem evT_of {a : E} (h : isVar a = none) (e : Env) : evT call refs a e = (evE call refs a e).bind fun p e => asB p.2 e := by
  simp only [evT, h, opnd, Res.bind_assoc]
  exact Res.bind_congr fun p e => rfl
theorem asB_some {K : PySem.W.Frag} {P : List (Addr × HO)} {σ : L2.St} {S : Hp} {d : D} {e : Env} {J : Bool → Env → Hp → Hp → Prop} (h : Pst K ca G P W σ S (asB d e) J) : ∃ b, d = .bl b ∧ Pst K ca G P W σ S (.ok b e) J := by
  cases d with
  | bl b => exact ⟨b, rfl, h⟩
  | _ => exact h.elim
theorem rv_bl {K : PySem.W.Frag} {P : List (Addr × HO)} {σ : L2.St} {S H : Hp} {e : Env} {fr : Bool} {b : Bool} {v : V} (h : RV K G P e σ S H (fr, .bl b) v) : v = .bl b := by
  cases fr with
  | true => obtain ⟨l, _, F⟩ := h; exact F.own.2.elim
  | false => exact see_bl (K := K) (S := S) (H := S) (Rep.see (.refl S) h)
/-- a test by its value -/
theorem pt_of {a : E} {x : Expr} (hv : isVar a = none) (h : PE X x (tE X.K ca G call refs W a)) (he : ∀ whole, isTrue x X.env whole = (do let v ← whole; standAt x.pos; holding [v] (truthy v))) : PT X x (tT X.K ca G call refs W a) := by
  refine PT.weak (pt_val h he) fun σ H Q ⟨e, S, P, R, q⟩ => ⟨e, S, P, R, ?_⟩
  rw [evT_of hv] at q
  exact (Pst.bind q).imp fun p e1 S1 H1 hs1 R1 q1 v rv => by
    obtain ⟨fr, d⟩ := p
    obtain ⟨b, rfl, q2⟩ := asB_some q1
    exact ⟨b, rv_bl rv, q2 S1 H1 (.refl S1) R1⟩
theorem s_chn {o p : CO} {a b c : E} {x : Expr} (g : Good nm ca call j X) (h : mE nm X.N X.env.scope (.chn o p a b c) x = true) (iha : ∀ y, mE nm X.N X.env.scope a y = true → PE X y (tE X.K ca G call refs W a)) (ihb : ∀ y, mE nm X.N X.env.scope b y = true → PE X y (tE X.K ca G call refs W b)) (ihc : ∀ y, mE nm X.N X.env.scope c y = true → PE X y (tE X.K ca G call refs W c)) :
    PE X x (tE X.K ca G call refs W (.chn o p a b c)) ∧ PT X x (tT X.K ca G call refs W (.chn o p a b c)) := by
  have hu : X.A.units + 100 < cLine := by have := g.room.un; omega
  unfold mE at h
  split at h
  · split at h
    · obtain ⟨h, h5⟩ := and2 h
      obtain ⟨h, h4⟩ := and2 h
      obtain ⟨h, h3⟩ := and2 h
      obtain ⟨h1, h2⟩ := and2 h
      obtain rfl := of_decide_eq_true h1
      obtain rfl := of_decide_eq_true h2
      have hm : ∀ {r t : Expr}, plainX t = true → lastMarks [coOp o, coOp p] [r, t] = false := fun {r t} z => plain_mark z _
      have core : ∀ {σ : L2.St} {H : Hp} {Q : VK} {e : Env} {S : Hp} {P : List (Addr × HO)}, Rel X.K G P e σ S H →
          Pst X.K ca G P W σ S (evE call refs (.chn o p a b c) e) (fun p e' S' H' => ∀ v, RV X.K G P e' σ S' H' p v → Q v H') →
          tChain (rcmp X.K (cmpD o)) (rcmp X.K (cmpD p)) (tO X.K ca G call refs W a) (tO X.K ca G call refs W b) (tO X.K ca G call refs W c) σ H Q := fun {σ H Q e S P} R q => ⟨e, S, P, R, (Pst.bind q).imp fun pa e1 S1 H1 hs1 R1 q1 v ov => ⟨e1, S1, P, R1, (Pst.bind q1).imp fun pb e2 S2 H2 hs2 R2 q2 w ow => by
        obtain ⟨d, d', _, s1, s2, q3⟩ := q2.op2 R2 (ov.mono hs2) ow
        refine ⟨S2, d, d', R2.sub, s1, s2, ?_⟩
        cases hc : cmpD o d d' with
        | none => rw [hc] at q3; exact q3.elim
        | some k =>
          rw [hc] at q3
          refine ⟨k, rfl, ?_⟩
          simp only [ofO, Res.bind] at q3
          cases k with
          | false => exact q3 S2 H2 (.refl S2) R2 _ (.bl false)
          | true =>
            simp only [if_true] at q3 ⊢
            exact ⟨e2, S2, P, R2, (Pst.bind q3).imp fun pc e3 S3 H3 hs3 R3 q4 z oz => by
              obtain ⟨d1, d2, _, t1, t2, q5⟩ := q4.op2 R3 (ow.mono hs3) oz
              exact ⟨S3, d1, d2, R3.sub, t1, t2, q5.toldB R3⟩⟩⟩⟩
      refine ⟨PE.weak (pe_chain (op_cmp o hu) (op_cmp p hu) (sO h3 (iha _ h3)) (sO h4 (ihb _ h4)) (sO h5 (ihc _ h5)) (hm (mE_plain h5))) fun σ H Q ⟨e, S, P, R, q⟩ => core R q,
        PT.weak (pt_chain (op_cmp o hu) (op_cmp p hu) (sO h3 (iha _ h3)) (sO h4 (ihb _ h4)) (sO h5 (ihc _ h5)) (hm (mE_plain h5))) fun σ H Q ⟨e, S, P, R, q⟩ => core R ?_⟩
      rw [evT_of rfl] at q
      exact (Pst.bind q).imp fun p e1 S1 H1 hs1 R1 q1 v rv => by
        obtain ⟨fr, d⟩ := p
        obtain ⟨b, rfl, q2⟩ := asB_some q1
        exact ⟨b, rv_bl rv, q2 S1 H1 (.refl S1) R1⟩
    · cases h
  · cases h
/-- and, or as a test -/
def tTs (K : PySem.W.Frag) (ca : Ex → Addr) (G : Gh) (call : CallT) (refs : List Nat) (W : WX) (k : Bool) (es : Es) : TT := fun σ H Q => ∃ e S P, Rel K G P e σ S H ∧ Pst K ca G P W σ S ((evBs call refs k es e).bind fun p e => asB p.2 e) fun b e' S' H' => Q b H'
def bOp (k : Bool) : PySem.BoolOp := if k then .And else .Or
theorem evBs_cons {k : Bool} {a b : E} {r : Es} {e : Env} : evBs call refs k (.cons a (.cons b r)) e = (evT call refs a e).bind fun c e => if c = k then evBs call refs k (.cons b r) e else .ok (false, .bl c) e := by
  simp only [evBs, evT, Res.bind_assoc]
  exact Res.bind_congr fun o e => by rw [op1_bind]
theorem s_bopT (k : Bool) : ∀ (es : Es) (l : List Expr) (pos : Pos), mEs nm X.N X.env.scope es l = true → tstsB es = true → (∀ a y, mE nm X.N X.env.scope a y = true → tstB a = true → sizeOf a < sizeOf es → PT X y (tT X.K ca G call refs W a)) → l ≠ [] →
    PW X (.BoolOp (bOp k) l pos) (tTs X.K ca G call refs W k es)
  | .nil, l, pos, h, ht, ih, ne => by
    unfold mEs at h
    exact absurd (List.isEmpty_iff.mp h) ne
  | .cons a .nil, l, pos, h, ht, ih, ne => by
    unfold mEs at h
    split at h
    · rename_i y ys
      obtain ⟨h1, h2⟩ := and2 h
      have e1 : ys = [] := by unfold mEs at h2; exact List.isEmpty_iff.mp h2
      subst e1
      have t1 : tstB a = true := by unfold tstsB at ht; exact (and2 ht).1
      have p := ih a y h1 t1 (by simp; omega)
      have p' : PT X y (tTs X.K ca G call refs W k (.cons a .nil)) := PT.weak p fun σ H Q ⟨e, S, P, R, q⟩ => ⟨e, S, P, R, by
        cases hv : isVar a with
        | none => rw [evT_of hv]; exact q
        | some i =>
          have ha : a = .var i := by cases a <;> first | (cases hv; rfl) | cases hv
          subst ha
          simp only [evBs, evE, rd] at q
          simp only [evT, isVar, opnd, pk]
          split at q
          · rename_i d hd
            obtain ⟨b, rfl, q2⟩ := asB_some q
            simp only [hd, Res.bind, op1, got, pk, asB]
            exact q2
          · rename_i d hd
            obtain ⟨b, rfl, q2⟩ := asB_some q
            obtain ⟨l, a, o, _⟩ := R.own i _ (.inl hd)
            exact o.2.elim
          · rename_i d hd
            obtain ⟨b, rfl, q2⟩ := asB_some q
            obtain ⟨l, a, o, _⟩ := R.own i _ (.inr hd)
            exact o.2.elim
          · exact q.elim⟩
      cases k with
      | true => exact pw_and1 p'
      | false => exact pw_or1 p'
    · cases h
  | .cons a (.cons b r), l, pos, h, ht, ih, ne => by
    unfold mEs at h
    split at h
    · rename_i y ys
      obtain ⟨h1, h2⟩ := and2 h
      have t := ht
      unfold tstsB at t
      obtain ⟨t1, t2⟩ := and2 t
      have p := ih a y h1 t1 (by simp; omega)
      match ys, h2 with
      | [], h2 => unfold mEs at h2; cases h2
      | z :: zs, h2 =>
        have p2 := s_bopT k (.cons b r) (z :: zs) pos h2 t2 (fun a y h h' hz => ih a y h h' (by simp at hz ⊢; omega)) (by simp)
        have key : ∀ {σ : L2.St} {H : Hp} {Q : Bool → Hp → Prop}, tTs X.K ca G call refs W k (.cons a (.cons b r)) σ H Q → tT X.K ca G call refs W a σ H fun c H1 => if c = k then tTs X.K ca G call refs W k (.cons b r) σ H1 Q else Q c H1 := fun {σ H Q} ⟨e, S, P, R, q⟩ => ⟨e, S, P, R, by
          rw [evBs_cons, Res.bind_assoc] at q
          exact (Pst.bind q).imp fun c e1 S1 H1 hs1 R1 q1 => by
            by_cases hc : c = k
            · rw [if_pos hc] at q1 ⊢
              exact ⟨e1, S1, P, R1, q1⟩
            · rw [if_neg hc] at q1 ⊢
              exact q1 S1 H1 (.refl S1) R1⟩
        cases k with
        | true =>
          exact ⟨fun wh pins s σ H Q I hh => (pw_and p p2).run wh pins s σ H Q I (by
            obtain ⟨e, S, P, R, q⟩ := key hh
            refine ⟨e, S, P, R, q.imp fun c e1 S1 H1 hs1 R1 q1 => ?_⟩
            cases c with
            | true => exact q1
            | false => exact q1)⟩
        | false =>
          exact ⟨fun wh pins s σ H Q I hh => (pw_or p p2).run wh pins s σ H Q I (by
            obtain ⟨e, S, P, R, q⟩ := key hh
            refine ⟨e, S, P, R, q.imp fun c e1 S1 H1 hs1 R1 q1 => ?_⟩
            cases c with
            | true => exact q1
            | false => exact q1)⟩
    · cases h
end
end Vm

namespace Vm
open PySem PySem.Spec PyProof.Rows L2
theorem PE.or {X : Cx} {x : Expr} {t t' : TE} (h : PE X x t) (h' : PE X x t') : PE X x (fun σ H Q => t σ H Q ∨ t' σ H Q) := ⟨fun pins s σ H Q I q => by
  rcases q with q | q
  · exact h.run pins s σ H Q I q
  · exact h'.run pins s σ H Q I q⟩
section
variable {nm : Nat → Str} {ca : Ex → Addr} {G : Gh} {call : CallT} {j : Nat} {refs : List Nat} {W : WX} {X : Cx}
theorem s_bopE (k : Bool) : ∀ (es : Es) (l : List Expr) (pos : Pos), mEs nm X.N X.env.scope es l = true → (∀ a y, mE nm X.N X.env.scope a y = true → sizeOf a < sizeOf es → PE X y (tE X.K ca G call refs W a)) → l ≠ [] →
    PE X (.BoolOp (bOp k) l pos) (tBs X.K ca G call refs W k es)
  | .nil, l, pos, h, ih, ne => by
    unfold mEs at h
    exact absurd (List.isEmpty_iff.mp h) ne
  | .cons a .nil, l, pos, h, ih, ne => by
    unfold mEs at h
    split at h
    · rename_i y ys
      obtain ⟨h1, h2⟩ := and2 h
      have e1 : ys = [] := by unfold mEs at h2; exact List.isEmpty_iff.mp h2
      subst e1
      exact pe_one (PE.weak (ih a y h1 (by simp; omega)) fun σ H Q ⟨e, S, P, R, q⟩ => ⟨e, S, P, R, q⟩)
    · cases h
  | .cons a (.cons b r), l, pos, h, ih, ne => by
    unfold mEs at h
    split at h
    · rename_i y ys
      obtain ⟨h1, h2⟩ := and2 h
      have p := sO h1 (ih a y h1 (by simp; omega))
      match ys, h2 with
      | [], h2 => unfold mEs at h2; cases h2
      | z :: zs, h2 =>
        have p2 := s_bopE k (.cons b r) (z :: zs) pos h2 (fun a y h hz => ih a y h (by simp at hz ⊢; omega)) (by simp)
        have key : ∀ {σ : L2.St} {H : Hp} {Q : VK}, tBs X.K ca G call refs W k (.cons a (.cons b r)) σ H Q → tO X.K ca G call refs W a σ H fun v H1 => ∃ c, v = .bl c ∧ if c = k then tBs X.K ca G call refs W k (.cons b r) σ H1 Q else Q (.bl c) H1 := fun {σ H Q} ⟨e, S, P, R, q⟩ => ⟨e, S, P, R, by
          simp only [evBs] at q
          exact (Pst.bind q).imp fun c e1 S1 H1 hs1 R1 q1 v ov => by
            obtain ⟨d, s1, q2⟩ := q1.op1 R1 ov
            cases d with
            | bl c' =>
              obtain rfl := see_bl s1
              refine ⟨c', rfl, ?_⟩
              simp only [asB, Res.bind] at q2
              by_cases hc : c' = k
              · rw [if_pos hc] at q2 ⊢
                exact ⟨e1, S1, P, R1, q2⟩
              · rw [if_neg hc] at q2 ⊢
                exact q2 S1 H1 (.refl S1) R1 _ (.bl c')
            | _ => exact q2.elim⟩
        cases k with
        | true =>
          refine PE.weak (pe_and p p2) fun σ H Q hh => ?_
          obtain ⟨e, S, P, R, q⟩ := key hh
          refine ⟨e, S, P, R, q.imp fun c e1 S1 H1 hs1 R1 q1 v ov => ?_⟩
          obtain ⟨c, rfl, q2⟩ := q1 v ov
          refine ⟨c, rfl, ?_⟩
          cases c with
          | true => exact q2
          | false => exact q2
        | false =>
          refine PE.weak (pe_or p p2) fun σ H Q hh => ?_
          obtain ⟨e, S, P, R, q⟩ := key hh
          refine ⟨e, S, P, R, q.imp fun c e1 S1 H1 hs1 R1 q1 v ov => ?_⟩
          obtain ⟨c, rfl, q2⟩ := q1 v ov
          refine ⟨c, rfl, ?_⟩
          cases c with
          | true => exact q2
          | false => exact q2
    · cases h
theorem s_bop {k : Bool} {es : Es} {x : Expr} (h : mE nm X.N X.env.scope (.bop k es) x = true) (ih : ∀ a y, mE nm X.N X.env.scope a y = true → sizeOf a < sizeOf es → PE X y (tE X.K ca G call refs W a) ∧ (tstB a = true → PT X y (tT X.K ca G call refs W a))) :
    PE X x (tE X.K ca G call refs W (.bop k es)) ∧ (tstB (.bop k es) = true → PT X x (tT X.K ca G call refs W (.bop k es))) := by
  unfold mE at h
  split at h
  · rename_i op l pos
    obtain ⟨h1, h2⟩ := and2 h
    have e1 : op = bOp k := of_decide_eq_true h1
    subst e1
    by_cases ne : l = []
    · subst ne
      have e2 : es = .nil := by cases es <;> first | rfl | (unfold mEs at h2; cases h2)
      subst e2
      exact ⟨PE.never fun σ H Q ⟨e, S, P, R, q⟩ => q, fun _ => PT.never fun σ H Q ⟨e, S, P, R, q⟩ => q⟩
    · refine ⟨PE.weak (s_bopE k es l pos h2 (fun a y hm hz => (ih a y hm hz).1) ne) fun σ H Q ⟨e, S, P, R, q⟩ => ⟨e, S, P, R, q⟩, fun ht => ?_⟩
      unfold tstB at ht
      refine PT.weak (s_bopT k es l pos h2 ht (fun a y hm t hz => (ih a y hm hz).2 t) ne).pt fun σ H Q ⟨e, S, P, R, q⟩ => ⟨e, S, P, R, ?_⟩
      rw [evT_of rfl] at q
      exact q
  · cases h
theorem s_not {a : E} {x : Expr} (h : mE nm X.N X.env.scope (.not a) x = true) (ih : ∀ y, mE nm X.N X.env.scope a y = true → PE X y (tE X.K ca G call refs W a) ∧ (tstB a = true → PT X y (tT X.K ca G call refs W a))) :
    PE X x (tE X.K ca G call refs W (.not a)) ∧ (tstB (.not a) = true → PT X x (tT X.K ca G call refs W (.not a))) := by
  unfold mE at h
  split at h
  · obtain ⟨h1, h2⟩ := and2 h
    obtain rfl := of_decide_eq_true h1
    refine ⟨PE.weak (pe_not (sO h2 (ih _ h2).1)) fun σ H Q ⟨e, S, P, R, q⟩ => ⟨e, S, P, R, ?_⟩, fun ht => ?_⟩
    · exact (Pst.bind q).imp fun p e1 S1 H1 hs1 R1 q1 v ov => by
        obtain ⟨d, s1, q2⟩ := q1.op1 R1 ov
        cases d with
        | bl c =>
          obtain rfl := see_bl s1
          exact ⟨c, rfl, q2 S1 H1 (.refl S1) R1 _ (.bl _)⟩
        | _ => exact q2.elim
    · unfold tstB at ht
      refine PT.weak (pt_not ((ih _ h2).2 ht)) fun σ H Q ⟨e, S, P, R, q⟩ => ⟨e, S, P, R, ?_⟩
      rw [evT_of rfl] at q
      have e1 : (evE call refs (.not a) e).bind (fun p e => asB p.2 e) = (evT call refs a e).bind fun b e => .ok (!b) e := by
        simp only [evE, evT, Res.bind_assoc]
        refine Res.bind_congr fun o e => ?_
        rw [op1_bind, op1_bind]
        congr 1
        funext x
        rw [Res.bind_assoc]
        exact Res.bind_congr fun b e => rfl
      rw [e1] at q
      exact (Pst.bind q).imp fun b e1 S1 H1 hs1 R1 q1 => q1 S1 H1 (.refl S1) R1
  · cases h
theorem s_ite {c a b : E} {x : Expr} (h : mE nm X.N X.env.scope (.ite c a b) x = true) (ihc : ∀ y, mE nm X.N X.env.scope c y = true → tstB c = true → PT X y (tT X.K ca G call refs W c)) (iha : ∀ y, mE nm X.N X.env.scope a y = true → PE X y (tE X.K ca G call refs W a)) (ihb : ∀ y, mE nm X.N X.env.scope b y = true → PE X y (tE X.K ca G call refs W b)) : PE X x (tE X.K ca G call refs W (.ite c a b)) := by
  unfold mE at h
  split at h
  · obtain ⟨h, h4⟩ := and2 h
    obtain ⟨h, h3⟩ := and2 h
    obtain ⟨h1, h2⟩ := and2 h
    refine PE.weak (pe_ifExp (ihc _ h1 h4) (iha _ h2) (ihb _ h3)) fun σ H Q ⟨e, S, P, R, q⟩ => ⟨e, S, P, R, ?_⟩
    have e1 : evE call refs (.ite c a b) e = (evT call refs c e).bind fun k e => if k = true then evE call refs a e else evE call refs b e := by
      simp only [evE, evT, Res.bind_assoc]
      refine Res.bind_congr fun o e => ?_
      rw [op1_bind]
    rw [e1] at q
    exact (Pst.bind q).imp fun k e1 S1 H1 hs1 R1 q1 => by
      cases k with
      | true => exact ⟨e1, S1, P, R1, q1⟩
      | false => exact ⟨e1, S1, P, R1, q1⟩
  · cases h
theorem plain_nosl {x : Expr} (h : plainX x = true) : NoSl x := by
  intro o i
  cases x <;> first | rfl | cases h
theorem ix_A (hu : X.A.units + 1 < cLine) : IxR X (rIdx X.K idxD) := by
  intro value slice pins s σ H x y v u Q I rx ry h hsub
  obtain ⟨S, d1, d2, hs, s1, s2, d, e, q⟩ := h
  have dict : ∀ {d1 : D}, See X.K S H x d1 → (dget d1 d2).bind id = some d → wpAny (model X.prog X.w) X.A (subscriptTail value slice v u) (EP X pins σ Q) X.xe s := fun {d1} s1 e => by
    cases e1 : dget d1 d2 with
    | none => rw [e1] at e; cases e
    | some o =>
      rw [e1] at e
      have e : o = some d := e
      subst e
      obtain ⟨a, ov, rfl, g, w, rfl, rw'⟩ := s1.dget hs s2 e1
      obtain rfl : v = Value.ref a := rx
      exact tail_any (dict_typeIs I g) PySem.F.slot_dict_getitem.lookup (d_getItem hu I g ry fun w' s3 I3 rz => ⟨w, H, I3, rz, q w rw'⟩) hsub
  cases d1 with
  | dk l => exact dict s1 e
  | dt l => exact dict s1 e
  | _ => exact ix_Z value slice pins s σ H x y v u Q I rx ry ⟨S, _, d2, hs, s1, s2, d, e, q⟩ hsub
theorem s_idx {a i : E} {x : Expr} (g : Good nm ca call j X) (h : mE nm X.N X.env.scope (.idx a i) x = true) (iha : ∀ y, mE nm X.N X.env.scope a y = true → PE X y (tE X.K ca G call refs W a)) (ihb : ∀ y, mE nm X.N X.env.scope i y = true → PE X y (tE X.K ca G call refs W i)) : PE X x (tE X.K ca G call refs W (.idx a i)) := by
  have hu : X.A.units + 1 < cLine := by have := g.room.un; omega
  unfold mE at h
  split at h
  · obtain ⟨h1, h2⟩ := and2 h
    refine PE.weak (pe_ix (ix_A hu) (sO h1 (iha _ h1)) (sO h2 (ihb _ h2)) (plain_ix (mE_plain h2))) fun σ H Q ⟨e, S, P, R, q⟩ => ⟨e, S, P, R, ?_⟩
    exact (Pst.bind q).imp fun p e1 S1 H1 hs1 R1 q1 v ov => ⟨e1, S1, P, R1, (Pst.bind q1).imp fun p' e2 S2 H2 hs2 R2 q2 w ow => by
      obtain ⟨d, d', _, s1, s2, q3⟩ := q2.op2 R2 (ov.mono hs2) ow
      cases e3 : idxD d d' with
      | none => rw [e3] at q3; exact q3.elim
      | some z => rw [e3] at q3; exact ⟨S2, d, d', R2.sub, s1, s2, z, e3, fun v r => q3 S2 H2 (.refl S2) R2 v r⟩⟩
  · cases h
end
end Vm

namespace Vm
open PySem PySem.Spec PyProof.Rows L2
section
variable {nm : Nat → Str} {ca : Ex → Addr} {G : Gh} {call : CallT} {j : Nat} {refs : List Nat} {W : WX} {X : Cx}
theorem mEs_cons {N : List Str} {sc : Scope} {a : E} {r : Es} {l : List Expr} (h : mEs nm N sc (.cons a r) l = true) : ∃ y ys, l = y :: ys ∧ mE nm N sc a y = true ∧ mEs nm N sc r ys = true := by
  unfold mEs at h
  split at h
  · obtain ⟨h1, h2⟩ := and2 h
    exact ⟨_, _, rfl, h1, h2⟩
  · cases h
theorem mEs_nil {N : List Str} {sc : Scope} {l : List Expr} (h : mEs nm N sc .nil l = true) : l = [] := by
  unfold mEs at h
  exact List.isEmpty_iff.mp h
theorem mEs_stars {N : List Str} {sc : Scope} {env : PySem.Env} : ∀ {es : Es} {l : List Expr}, mEs nm N sc es l = true → starEach l env = l.map fun y => (false, eval y env)
  | .nil, l, h => by rw [mEs_nil h]; rfl
  | .cons a r, l, h => by
    obtain ⟨y, ys, rfl, h1, h2⟩ := mEs_cons h
    rw [plain_star (mE_plain h1), mEs_stars h2]; rfl
theorem star_any {l : List Expr} {env : PySem.Env} {pos : Pos} (h : starEach l env = l.map fun y => (false, eval y env)) : (backTo pos (starEach l env)).any (·.1) = false := by
  rw [h]
  unfold backTo
  rw [List.map_map]
  induction l with
  | nil => rfl
  | cons y ys ih => simp
theorem sEs : ∀ {es : Es} {l : List Expr}, mEs nm X.N X.env.scope es l = true → (∀ a y, mE nm X.N X.env.scope a y = true → sizeOf a < sizeOf es → PE X y (tE X.K ca G call refs W a)) → PA X l (tEs X.K ca G call refs W es)
  | .nil, l, h, ih => by
    rw [mEs_nil h]
    exact PA.weak pa_nil fun σ H Q ⟨e, S, P, R, q⟩ => q S H (.refl S) R [] .nil
  | .cons a r, l, h, ih => by
    obtain ⟨y, ys, rfl, h1, h2⟩ := mEs_cons h
    refine PA.weak (pa_cons (ih a y h1 (by simp; omega)) (sEs h2 fun a y h hz => ih a y h (by simp at hz ⊢; omega)) (plain_star (mE_plain h1) _ _)) fun σ H Q ⟨e, S, P, R, q⟩ => ⟨e, S, P, R, ?_⟩
    simp only [evEs] at q
    exact (Pst.bind q).imp fun p e1 S1 H1 hs1 R1 q1 v rv => by
      obtain ⟨S2, hs2, R2, r2⟩ := R1.rep rv
      exact ⟨e1, S2, P, R2, (Pst.bind (Pst.mono hs2 q1)).imp fun l e3 S3 H3 hs3 R3 q3 vs rs => q3 S3 H3 (.refl S3) R3 _ (.cons (r2.mono hs3) rs)⟩
theorem sPs : ∀ {es : Es} {l : List Expr}, mEs nm X.N X.env.scope es l = true → (∀ a y, mE nm X.N X.env.scope a y = true → sizeOf a < sizeOf es → PE X y (tE X.K ca G call refs W a)) → PA X l (tPs X.K ca G call refs W es)
  | .nil, l, h, ih => by
    rw [mEs_nil h]
    exact PA.weak pa_nil fun σ H Q ⟨e, S, P, R, q⟩ => q S H (.refl S) R [] .nil
  | .cons a r, l, h, ih => by
    obtain ⟨y, ys, rfl, h1, h2⟩ := mEs_cons h
    refine PA.weak (pa_cons (sO h1 (ih a y h1 (by simp; omega))) (sPs h2 fun a y h hz => ih a y h (by simp at hz ⊢; omega)) (plain_star (mE_plain h1) _ _)) fun σ H Q ⟨e, S, P, R, q⟩ => ⟨e, S, P, R, ?_⟩
    simp only [evPs] at q
    exact (Pst.bind q).imp fun o e1 S1 H1 hs1 R1 q1 v ov => ⟨e1, S1, P, R1, (Pst.bind q1).imp fun l e3 S3 H3 hs3 R3 q3 vs rs => q3 S3 H3 (.refl S3) R3 _ (.cons (ov.mono hs3) rs)⟩
theorem asI_some {K : PySem.W.Frag} {P : List (Addr × HO)} {σ : L2.St} {S : Hp} {d : D} {e : Env} {α : Type} {f : Int → Env → Res α} {J : α → Env → Hp → Hp → Prop} (h : Pst K ca G P W σ S ((asI d e).bind f) J) : ∃ b, d = .int b ∧ Pst K ca G P W σ S (f b e) J := by
  cases d with
  | int b => exact ⟨b, rfl, h⟩
  | _ => exact h.elim
theorem sEo {a : Eo} {x : Option Expr} (h : mEo nm X.N X.env.scope a x = true) (ih : ∀ b y, mE nm X.N X.env.scope b y = true → sizeOf b < sizeOf a → PE X y (tE X.K ca G call refs W b)) : PO X x (tEo X.K ca G call refs W a) := by
  cases a with
  | none =>
    unfold mEo at h
    cases x with
    | none => exact PO.weak po_none fun σ H Q ⟨e, S, P, R, q⟩ => q S H (.refl S) R
    | some x => cases h
  | some a =>
    unfold mEo at h
    cases x with
    | none => cases h
    | some x =>
      refine PO.weak (po_some (sO h (ih a x h (by simp)))) fun σ H Q ⟨e, S, P, R, q⟩ => ⟨e, S, P, R, ?_⟩
      simp only [evEo] at q
      exact (Pst.bind q).imp fun o e1 S1 H1 hs1 R1 q1 v ov => by
        obtain ⟨d, s1, q2⟩ := q1.op1 R1 ov
        obtain ⟨i, rfl, q3⟩ := asI_some q2
        exact ⟨i, see_int s1, q3 S1 H1 (.refl S1) R1⟩
theorem s_slc {a : E} {lo hi : Eo} {x : Expr} (h : mE nm X.N X.env.scope (.slc a lo hi) x = true) (ih : ∀ b y, mE nm X.N X.env.scope b y = true → sizeOf b < sizeOf (E.slc a lo hi) → PE X y (tE X.K ca G call refs W b)) : PE X x (tE X.K ca G call refs W (.slc a lo hi)) := by
  unfold mE at h
  split at h
  · split at h
    · obtain ⟨h, h4⟩ := and2 h
      obtain ⟨h, h3⟩ := and2 h
      obtain ⟨h1, h2⟩ := and2 h
      obtain rfl := Option.isNone_iff_eq_none.mp h1
      · skip
        refine PE.weak (pe_slice sl_Z (sO h2 (ih _ _ h2 (by simp; omega))) (sEo h3 fun b y m hz => ih b y m (by simp; omega)) (sEo h4 fun b y m hz => ih b y m (by simp; omega))) fun σ H Q ⟨e, S, P, R, q⟩ => ⟨e, S, P, R, ?_⟩
        simp only [evE] at q
        exact (Pst.bind q).imp fun o e1 S1 H1 hs1 R1 q1 v ov => ⟨e1, S1, P, R1, (Pst.bind q1).imp fun l e2 S2 H2 hs2 R2 q2 => ⟨e2, S2, P, R2, (Pst.bind q2).imp fun u e3 S3 H3 hs3 R3 q3 => by
          obtain ⟨d, s1, q4⟩ := q3.op1 R3 (ov.mono (hs2.trans hs3))
          exact ⟨S3, d, R3.sub, s1, q4.told R3⟩⟩⟩
    · cases h
  · cases h
theorem opn_some {α : Type} {K : PySem.W.Frag} {P : List (Addr × HO)} {σ : L2.St} {S H : Hp} {e : Env} {os : List Opd} {vs : List V} {f : List D → Res α} {J : α → Env → Hp → Hp → Prop} (R : Rel K G P e σ S H) (ov : OVs K σ S os vs)
    (h : Pst K ca G P W σ S (opn os e f) J) : ∃ ds, SeeL K S H vs ds ∧ Pst K ca G P W σ S (f ds) J := by
  unfold opn at h
  cases g : gots os e with
  | none => rw [g] at h; exact h.elim
  | some d => rw [g] at h; exact ⟨d, R.sees ov g, h⟩
theorem s_bi {b : BI} {es : Es} {x : Expr} (g : Good nm ca call j X) (h : mE nm X.N X.env.scope (.bi b es) x = true) (ih : ∀ b' y, mE nm X.N X.env.scope b' y = true → sizeOf b' < sizeOf es → PE X y (tE X.K ca G call refs W b')) : PE X x (tE X.K ca G call refs W (.bi b es)) := by
  unfold mE at h
  split at h
  · rename_i f args kw pos
    obtain ⟨h, h4⟩ := and2 h
    obtain ⟨h, h3⟩ := and2 h
    obtain ⟨h1, h2⟩ := and2 h
    obtain rfl := List.isEmpty_iff.mp h2
    obtain ⟨p, rfl, hg, hok⟩ := isNameB_ok h1
    cases args with
    | nil => cases h3
    | cons y ys =>
      have hp := sPs h4 ih
      have st : starEach (y :: ys) X.env = (y :: ys).map fun y => (false, eval y X.env) := mEs_stars h4
      have key : ∀ {Q : VK} {σ : L2.St} {H : Hp}, tE X.K ca G call refs W (.bi b es) σ H Q → tCB (rBi X.K b) (tPs X.K ca G call refs W es) σ H Q := fun {Q σ H} ⟨e, S, P, R, q⟩ => ⟨e, S, P, R, by
        simp only [evE] at q
        exact (Pst.bind q).imp fun os e1 S1 H1 hs1 R1 q1 vs ov => by
          obtain ⟨ds, sl, q2⟩ := opn_some R1 ov q1
          exact ⟨S1, ds, R1.sub, sl, q2.told R1⟩⟩
      have st1 : starEach (y :: ys) X.env = (false, eval y X.env) :: starEach ys X.env := by
        obtain ⟨y', ys', e1, m1, m2⟩ : ∃ y' ys', (y :: ys) = y' :: ys' ∧ plainX y' = true ∧ True := by
          cases es with
          | nil => have := mEs_nil h4; cases this
          | cons a r => obtain ⟨y', ys', e1, m1, m2⟩ := mEs_cons h4; exact ⟨y', ys', e1, mE_plain m1, trivial⟩
        cases e1
        exact plain_star m1 _ _
      have st2 : (backTo pos (starEach ys X.env)).any (·.1) = false := by
        have := star_any (pos := pos) st
        rw [st1] at this
        unfold backTo at this ⊢
        rw [List.map_cons, List.any_cons] at this
        simpa using this
      cases b with
      | len => exact PE.weak (pe_callB call_len_Z hg (g.free "len" (by simp [freeNames])) (by decide +kernel) hp (by decide) (by decide) st1 st2) fun σ H Q q => key q
      | abs => exact PE.weak (pe_callB call_abs_Z hg (g.free "abs" (by simp [freeNames])) (by decide +kernel) hp (by decide) (by decide) st1 st2) fun σ H Q q => key q
      | int => exact PE.weak (pe_callTy call_int_Z hg (g.free "int" (by simp [freeNames])) (by decide +kernel) hp (by decide) (by decide) st1 st2) fun σ H Q q => key q
      | str => exact PE.weak (pe_callTy call_str_Z hg (g.free "str" (by simp [freeNames])) (by decide +kernel) hp (by decide) (by decide) st1 st2) fun σ H Q q => key q
      | min => exact PE.weak (pe_callB (call_min_Z g.calm) hg (g.free "min" (by simp [freeNames])) (by decide +kernel) hp (by decide) (by decide) st1 st2) fun σ H Q q => key q
      | max => exact PE.weak (pe_callB (call_max_Z g.calm) hg (g.free "max" (by simp [freeNames])) (by decide +kernel) hp (by decide) (by decide) st1 st2) fun σ H Q q => key q
      | all => exact PE.weak (pe_callB (call_all_Z g.calm) hg (g.free "all" (by simp [freeNames])) (by decide +kernel) hp (by decide) (by decide) st1 st2) fun σ H Q q => key q
      | any => exact PE.weak (pe_callB (call_any_Z g.calm) hg (g.free "any" (by simp [freeNames])) (by decide +kernel) hp (by decide) (by decide) st1 st2) fun σ H Q q => key q
      | tuple => exact PE.weak (pe_callTy call_tup_Z hg (g.free "tuple" (by simp [freeNames])) (by decide +kernel) hp (by decide) (by decide) st1 st2) fun σ H Q q => key q
      | list => exact PE.weak (pe_callTy (call_lst_Z g.calm) hg (g.free "list" (by simp [freeNames])) (by decide +kernel) hp (by decide) (by decide) st1 st2) fun σ H Q q => key q
      | sorted =>
        have hc : CallR X (.builtin "sorted") (rBi X.K .sorted) := fun _ _ _ _ _ _ _ _ _ ⟨_, _, _, _, q⟩ => q.elim
        exact PE.weak (pe_callB hc hg (g.free "sorted" (by simp [freeNames])) (by decide +kernel) hp (by decide) (by decide) st1 st2) fun σ H Q q => key q
  · cases h
end
end Vm

namespace Vm
open PySem PySem.Spec PyProof.Rows L2
section
variable {nm : Nat → Str} {ca : Ex → Addr} {G : Gh} {call : CallT} {j : Nat} {refs : List Nat} {W : WX} {X : Cx}
theorem s_newd {t : Bool} {x : Expr} (h : mE nm X.N X.env.scope (.newd t) x = true) : PE X x (tE X.K ca G call refs W (.newd t)) := by
  unfold mE at h
  split at h
  · rename_i ks vs pos
    obtain ⟨h1, h2⟩ := and2 h
    obtain rfl := List.isEmpty_iff.mp h1
    obtain rfl := List.isEmpty_iff.mp h2
    cases t with
    | false =>
      refine PE.weak pe_dnewK fun σ H Q ⟨e, S, P, R, q⟩ p n => ?_
      obtain ⟨R2, F⟩ := R.fresh (u := .dK []) (d := .dk []) n ⟨[], upd_same, .nil⟩
      exact q S _ (.refl S) R2 _ ⟨p, rfl, F⟩
    | true =>
      refine PE.weak pe_dnewT fun σ H Q ⟨e, S, P, R, q⟩ p n => ?_
      obtain ⟨R2, F⟩ := R.fresh (u := .dT []) (d := .dt []) n ⟨[], upd_same, .nil⟩
      exact q S _ (.refl S) R2 _ ⟨p, rfl, F⟩
  · cases h
theorem baseB_ok {o : Expr} {m : Str} {env : PySem.Env} {w : Sem Value} (h : baseB o = true) : attributeBase o m env w = w := by
  unfold attributeBase
  split
  · cases h
  · rfl
theorem line_ok {a b : Nat} (h : (a == b) = true) : (a == b) = true := h
theorem rcv_str {m : MT} {K : PySem.W.Frag} {S H : Hp} {v : V} {d : D} (hm : m ≠ .get) (s : See K S H v d) (h : rcv m d = true) : ∃ z, v = .str z := by
  cases d with
  | str z => exact ⟨z, see_str s⟩
  | _ => cases m <;> first | exact absurd rfl hm | cases h
theorem see_isD {K : PySem.W.Frag} {S H : Hp} {v : V} {d : D} (s : See K S H v d) (h : rcv .get d = true) : ∃ a, v = .ref a ∧ IsD H a := by
  cases d with
  | dk l => obtain ⟨a, vs, rfl, ha, _⟩ := s; exact ⟨a, rfl, .inl ⟨_, .inl ha⟩⟩
  | dt l => obtain ⟨a, vs, rfl, ha, _⟩ := s; exact ⟨a, rfl, .inr ⟨_, .inl ha⟩⟩
  | _ => cases h
theorem strs_told {K : PySem.W.Frag} {S H : Hp} {Q : VK} {ys : List Str} (hs : Sub S H) (h : Told K S H Q (some (.lst (ys.map .str)))) : rNewStrs ys H Q := told_lst hs h (RepL.strs ys)
/-- a text's method -/
theorem m1_core {m : MT} {r : E} {es : Es} {e : Env} {S H : Hp} {P : List (Addr × HO)} {σ : L2.St} {Q : VK} {rule : V → List V → Hp → VK → Prop} {t : E} (hm : m ≠ .get) (hes : es = .cons t .nil)
    (hr : ∀ {S H : Hp} {v w : V} {d d' : D} {Q : VK}, Sub S H → See X.K S H v d → Rep X.K S w d' → Told X.K S H Q (mthD m d [d']) → rule v [w] H Q)
    (R : Rel X.K G P e σ S H) (q : Pst X.K ca G P W σ S (evE call refs (.mth m r es) e) fun p e' S' H' => ∀ v, RV X.K G P e' σ S' H' p v → Q v H') : tM1 rule (tO X.K ca G call refs W r) (tE X.K ca G call refs W t) σ H Q := by
  subst hes
  refine ⟨e, S, P, R, ?_⟩
  simp only [evE] at q
  exact (Pst.bind q).imp fun o e1 S1 H1 hs1 R1 q1 v ov => by
    obtain ⟨d, s1, q2⟩ := q1.op1 R1 ov
    by_cases hrc : rcv m d = true
    · rw [if_pos hrc] at q2
      refine ⟨rcv_str hm s1 hrc, e1, S1, P, R1, ?_⟩
      simp only [evEs, Res.bind_assoc] at q2
      exact (Pst.bind q2).imp fun p e2 S2 H2 hs2 R2 q3 w rv => by
        obtain ⟨S3, hs3, R3, r3⟩ := R2.rep rv
        obtain ⟨d', s2, q5⟩ := (Pst.mono hs3 q3).op1 R3 (ov.mono (hs2.trans hs3))
        refine hr R3.sub s2 r3 ?_
        cases m with
        | get => exact absurd rfl hm
        | _ => exact q5.told R3
    · rw [if_neg hrc] at q2; exact q2.elim
theorem s_mth {m : MT} {r : E} {es : Es} {x : Expr} (g : Good nm ca call j X) (h : mE nm X.N X.env.scope (.mth m r es) x = true) (ih : ∀ b y, mE nm X.N X.env.scope b y = true → sizeOf b < sizeOf (E.mth m r es) → PE X y (tE X.K ca G call refs W b)) : PE X x (tE X.K ca G call refs W (.mth m r es)) := by
  have hu : X.A.units + 1 < cLine := by have := g.room.un; omega
  unfold mE at h
  split at h
  · split at h
    · rename_i kw pos _ o name apos
      obtain ⟨h, h6⟩ := and2 h
      obtain ⟨h, h5⟩ := and2 h
      obtain ⟨h, hok⟩ := and2 h
      obtain ⟨h, h4⟩ := and2 h
      obtain ⟨h, h3⟩ := and2 h
      obtain ⟨h1, h2⟩ := and2 h
      obtain rfl := of_decide_eq_true h1
      obtain rfl := List.isEmpty_iff.mp h4
      have po := sO h5 (ih _ _ h5 (by simp; omega))
      have hb : attributeBase o (mthName m) X.env (eval o X.env) = eval o X.env := baseB_ok h3
      cases m with
      | index => cases hok
      | get =>
        cases es with
        | nil => cases hok
        | cons a r2 => cases r2 with
          | nil => cases hok
          | cons b r3 => cases r3 with
            | cons _ _ => cases hok
            | nil =>
              obtain ⟨y, ys, rfl, m1, h6⟩ := mEs_cons h6
              obtain ⟨z, zs, rfl, m2, h6⟩ := mEs_cons h6
              obtain rfl := mEs_nil h6
              have st : starEach [y, z] X.env = [(false, eval y X.env), (false, eval z X.env)] := by
                rw [plain_star (mE_plain m1), plain_star (mE_plain m2)]; rfl
              have M : M2 X o "get" apos y z pos := ⟨hb, by rw [st]; rfl, h2, by rw [st]; rfl⟩
              refine PE.weak (pe_dget2 hu po (ih _ _ m1 (by simp; omega)) (ih _ _ m2 (by simp; omega)) M) fun σ H Q ⟨e, S, P, R, q⟩ => ⟨e, S, P, R, ?_⟩
              simp only [evE] at q
              exact (Pst.bind q).imp fun o e1 S1 H1 hs1 R1 q1 v ov => by
                obtain ⟨d, s1, q2⟩ := q1.op1 R1 ov
                by_cases hrc : rcv .get d = true
                · rw [if_pos hrc] at q2
                  obtain ⟨a', rfl, isd⟩ := see_isD s1 hrc
                  refine ⟨a', rfl, isd, e1, S1, P, R1, ?_⟩
                  simp only [evEs, Res.bind_assoc] at q2
                  exact (Pst.bind q2).imp fun p e2 S2 H2 hs2 R2 q3 w rv => by
                    obtain ⟨S3, hs3, R3, r3⟩ := R2.rep rv
                    refine ⟨e2, S3, P, R3, ?_⟩
                    have q4 := Pst.mono hs3 q3
                    exact (Pst.bind q4).imp fun p' e4 S4 H4 hs4 R4 q5 w' rv' => by
                      obtain ⟨S5, hs5, R5, r5⟩ := R4.rep rv'
                      obtain ⟨d', s2, q6⟩ := (Pst.mono hs5 q5).op1 R5 (ov.mono (hs2.trans (hs3.trans (hs4.trans hs5))))
                      simp only [mthD] at q6
                      cases hd : dget d' p.2 with
                      | none => 
                        rw [hd] at q6; exact q6.elim
                      | some oo =>
                        rw [hd] at q6
                        have r3' := (r3.mono (hs4.trans hs5)).see R5.sub
                        obtain ⟨a2, ov2, e3, g2, ho⟩ := s2.dget R5.sub r3' hd
                        cases e3
                        refine ⟨ov2, g2, ?_⟩
                        cases oo with
                        | none =>
                          have ho : ov2 = none := ho
                          subst ho
                          exact q6 S5 H4 (.refl S5) R5 _ r5
                        | some dd =>
                          obtain ⟨vv, rfl, rr⟩ := ho
                          exact q6 S5 H4 (.refl S5) R5 _ rr
                · rw [if_neg hrc] at q2; exact q2.elim
      | split =>
        cases es with
        | nil => cases hok
        | cons a r2 => cases r2 with
          | cons _ _ => cases hok
          | nil =>
            obtain ⟨y, ys, rfl, m1, h6⟩ := mEs_cons h6
            obtain rfl := mEs_nil h6
            refine PE.weak (pe_split po (ih _ _ m1 (by simp; omega)) (plain_star (mE_plain m1) _ _) hb h2) fun σ H Q ⟨e, S, P, R, q⟩ => m1_core (by decide) rfl (fun {S H v w d d' Q} hs s r t => ?_) R q
            cases d with
            | str a' => cases d' with
              | str b' =>
                obtain rfl := see_str s
                cases r
                by_cases hz : (b'.length == 0) = false ∧ a'.length + 2 ≤ 16777216
                · simp only [mthD, if_pos hz] at t
                  exact ⟨a', b', rfl, rfl, hz.1, by rw [line_eq]; exact hz.2, strs_told hs t⟩
                · simp only [mthD, if_neg hz] at t; exact t.elim
              | _ => exact t.elim
            | _ => exact t.elim
      | startswith =>
        cases es with
        | nil => cases hok
        | cons a r2 => cases r2 with
          | cons _ _ => cases hok
          | nil =>
            obtain ⟨y, ys, rfl, m1, h6⟩ := mEs_cons h6
            obtain rfl := mEs_nil h6
            refine PE.weak (pe_m1 F.slot_str_startswith F.type_str_startswith mt_startswith po (ih _ _ m1 (by simp; omega)) (plain_star (mE_plain m1) _ _) hb h2) fun σ H Q ⟨e, S, P, R, q⟩ => m1_core (by decide) rfl (fun {S H v w d d' Q} hs s r t => ?_) R q
            cases d with
            | str a' => cases d' with
              | str b' =>
                obtain rfl := see_str s
                cases r
                exact ⟨a', b', rfl, rfl, told_bl hs t⟩
              | _ => exact t.elim
            | _ => exact t.elim
      | join =>
        cases es with
        | nil => cases hok
        | cons a r2 => cases r2 with
          | cons _ _ => cases hok
          | nil =>
            obtain ⟨y, ys, rfl, m1, h6⟩ := mEs_cons h6
            obtain rfl := mEs_nil h6
            refine PE.weak (pe_join po (ih _ _ m1 (by simp; omega)) (plain_star (mE_plain m1) _ _) hb h2) fun σ H Q ⟨e, S, P, R, q⟩ => m1_core (by decide) rfl (fun {S H v w d d' Q} hs s r t => ?_) R q
            cases d with
            | str a' => cases d' with
              | lst l =>
                obtain rfl := see_str s
                cases r with
                | lst ha ra =>
                  simp only [mthD] at t
                  cases hy : asStrs l with
                  | none => rw [hy] at t; exact t.elim
                  | some ys =>
                    rw [hy] at t
                    obtain rfl := ra.asStrs hy
                    by_cases hz : (ys.map (·.length)).sum + ys.length * a'.length ≤ 16777216
                    · simp only [Option.bind, if_pos hz] at t
                      exact ⟨a', _, ys, rfl, rfl, .inl (.of (hs _ _ ha)), hz, told_str hs t⟩
                    · simp only [Option.bind, if_neg hz] at t; exact t.elim
              | _ => exact t.elim
            | _ => exact t.elim
    · cases h
  · cases h
end
end Vm

namespace Vm
open PySem PySem.Spec PyProof.Rows L2
section
variable {nm : Nat → Str} {ca : Ex → Addr} {G : Gh} {call : CallT} {j : Nat} {refs : List Nat} {W : WX} {X : Cx}
def dTy : D → String
  | .non => "NoneType" | .bl _ => "bool" | .int _ => "int" | .str _ => "str" | .tup _ => "tuple" | .lst _ => "list" | .sc _ => "?" | .dk _ => "dict" | .dt _ => "dict"
theorem isi_ty {K : PySem.W.Frag} {S H : Hp} (hs : Sub S H) {v : V} {d : D} {t : Ty} {b : Bool} (s : See K S H v d) (h : isiD d t = some b) : TyX K H v (.type (dTy d)) := by
  cases d with
  | non => obtain rfl := see_non s; exact .base .non
  | bl b => obtain rfl := see_bl s; exact .base (.bl _)
  | int b => obtain rfl := see_int s; exact .base (.int _)
  | str b => obtain rfl := see_str s; exact .base (.str _)
  | tup b => obtain ⟨a, vs, rfl, ha, _⟩ := see_tup s; exact .base (.tup (hs _ _ ha))
  | lst b => obtain ⟨a, vs, rfl, ha, _⟩ := s; exact .base (.lst ha)
  | _ => cases t <;> cases h
theorem isi_kit {d : D} {t : Ty} {b : Bool} (h : isiD d t = some b) : kitB (dTy d) (tyName t) = some b := by
  have k1 : ∀ t, kitB "NoneType" (tyName t) = some false := by intro t; cases t <;> decide +kernel
  have k2 : kitB "bool" "bool" = some true ∧ kitB "bool" "int" = some true ∧ kitB "bool" "str" = some false ∧ kitB "bool" "tuple" = some false ∧ kitB "bool" "list" = some false := by decide +kernel
  have k3 : kitB "int" "bool" = some false ∧ kitB "int" "int" = some true ∧ kitB "int" "str" = some false ∧ kitB "int" "tuple" = some false ∧ kitB "int" "list" = some false := by decide +kernel
  have k4 : kitB "str" "bool" = some false ∧ kitB "str" "int" = some false ∧ kitB "str" "str" = some true ∧ kitB "str" "tuple" = some false ∧ kitB "str" "list" = some false := by decide +kernel
  have k5 : kitB "tuple" "bool" = some false ∧ kitB "tuple" "int" = some false ∧ kitB "tuple" "str" = some false ∧ kitB "tuple" "tuple" = some true ∧ kitB "tuple" "list" = some false := by decide +kernel
  have k6 : kitB "list" "bool" = some false ∧ kitB "list" "int" = some false ∧ kitB "list" "str" = some false ∧ kitB "list" "tuple" = some false ∧ kitB "list" "list" = some true := by decide +kernel
  cases d with
  | non => cases h; exact k1 t
  | bl x => cases t <;> cases h <;> simp [dTy, tyName, k2]
  | int x => cases t <;> cases h <;> simp [dTy, tyName, k3]
  | str x => cases t <;> cases h <;> simp [dTy, tyName, k4]
  | tup x => cases t <;> cases h <;> simp [dTy, tyName, k5]
  | lst x => cases t <;> cases h <;> simp [dTy, tyName, k6]
  | _ => cases t <;> cases h
theorem s_isi {a : E} {t : Ty} {x : Expr} (g : Good nm ca call j X) (h : mE nm X.N X.env.scope (.isi a t) x = true) (ih : ∀ y, mE nm X.N X.env.scope a y = true → PE X y (tE X.K ca G call refs W a)) : PE X x (tE X.K ca G call refs W (.isi a t)) := by
  unfold mE at h
  split at h
  · rename_i f args kw pos
    obtain ⟨h, h3⟩ := and2 h
    obtain ⟨h1, h2⟩ := and2 h
    obtain rfl := List.isEmpty_iff.mp h2
    obtain ⟨p, rfl, hg, hok⟩ := isNameB_ok h1
    split at h3
    · rename_i y c
      obtain ⟨h4, h5⟩ := and2 h3
      obtain ⟨p', rfl, hg', hok'⟩ := isNameB_ok h5
      have pc : PE X (.Name (tyStr t) p') (tC (.ty (tyName t))) := by
        cases t with
        | str => exact pe_bltn hg' (g.free "str" (by simp [freeNames])) (u := .type "str") (by decide +kernel) rfl (by decide) (by decide)
        | int => exact pe_bltn hg' (g.free "int" (by simp [freeNames])) (u := .type "int") (by decide +kernel) rfl (by decide) (by decide)
        | bool => exact pe_bltn hg' (g.free "bool" (by simp [freeNames])) (u := .type "bool") (by decide +kernel) rfl (by decide) (by decide)
        | tuple => exact pe_bltn hg' (g.free "tuple" (by simp [freeNames])) (u := .type "tuple") (by decide +kernel) rfl (by decide) (by decide)
        | list => exact pe_bltn hg' (g.free "list" (by simp [freeNames])) (u := .type "list") (by decide +kernel) rfl (by decide) (by decide)
      have st := plain_star (mE_plain h4) [Expr.Name (tyStr t) p'] X.env
      refine PE.weak (pe_callB call_isi hg (g.free "isinstance" (by simp [freeNames])) (by decide +kernel) (pa_cons (sO h4 (ih _ h4)) (pa_cons pc pa_nil) st) (by decide) (by decide) st) fun σ H Q ⟨e, S, P, R, q⟩ => ⟨e, S, P, R, ?_⟩
      simp only [evE] at q
      exact (Pst.bind q).imp fun o e1 S1 H1 hs1 R1 q1 v ov => by
        obtain ⟨d, s1, q2⟩ := q1.op1 R1 ov
        cases hd : isiD d t with
        | none => rw [hd] at q2; exact q2.elim
        | some b =>
          rw [hd] at q2
          exact ⟨v, _, _, _, b, rfl, .ty _, isi_ty R1.sub s1 hd, kit_ty (isi_kit hd), q2 S1 H1 (.refl S1) R1 _ (.bl b)⟩
    · cases h3
  · cases h
end
end Vm

namespace Vm
open PySem PySem.Spec PyProof.Rows L2
/-- the arguments as they wait -/
inductive AAr (K : PySem.W.Frag) (σ : L2.St) (S : Hp) : List AA → List V → List (Addr × HO) → Prop
  | nil : AAr K σ S [] [] []
  | v {d : D} {v : V} {as : List AA} {vs : List V} {P : List (Addr × HO)} : Rep K S v d → AAr K σ S as vs P → AAr K σ S (.v d :: as) (v :: vs) P
  | m {d : D} {l : Addr} {u : HO} {as : List AA} {vs : List V} {P : List (Addr × HO)} : OwnAt K S (fun a => if a = l then some u else none) l d → AAr K σ S as vs P → AAr K σ S (.m d :: as) (.ref l :: vs) (P ++ [(l, u)])
  | g {d : D} {l : Addr} {u : HO} {as : List AA} {vs : List V} {P : List (Addr × HO)} : OwnAt K S (fun a => if a = l then some u else none) l d → AAr K σ S as vs P → AAr K σ S (.g d :: as) (.ref l :: vs) (P ++ [(l, u)])
  | l {i : Nat} {v : V} {as : List AA} {vs : List V} {P : List (Addr × HO)} : σ[i]? = some (some v) → AAr K σ S as vs P → AAr K σ S (.l i :: as) (v :: vs) P
  | r {i : Nat} {v : V} {as : List AA} {vs : List V} {P : List (Addr × HO)} : σ[i]? = some (some v) → AAr K σ S as vs P → AAr K σ S (.r i :: as) (v :: vs) P
section
variable (K : PySem.W.Frag) (ca : Ex → Addr) (G : Gh)
def PstA (P : List (Addr × HO)) (W : WX) (σ : L2.St) (S : Hp) (r : Res (List AA)) (J : List AA → Env → Hp → Hp → List (Addr × HO) → Prop) : Prop := match r with
  | .ok a e => ∀ S' H' Pn, Sub S S' → Rel K G (Pn ++ P) e σ S' H' → J a e S' H' Pn
  | .exc x e => ∀ S' H' Pn, Sub S S' → Rel K G (Pn ++ P) e σ S' H' → W (.ref (ca x)) none σ H'
  | .bad => False
def tAs (call : CallT) (refs : List Nat) (W : WX) (as : As) : TA := fun σ H Q => ∃ e S P, Rel K G P e σ S H ∧ PstA K ca G P W σ S (evAs call refs as e) fun l e' S' H' Pn => ∀ vs, AAr K σ S' l vs Pn → Q vs H'
end
section
variable {K : PySem.W.Frag} {G : Gh} {P : List (Addr × HO)} {σ : L2.St} {S S1 H : Hp} {e : Env}
theorem Rel.drops (R : ∀ {P}, Rel K G P e σ S H → Rel K G P e σ S H) : ∀ (Pn : List (Addr × HO)) {P : List (Addr × HO)}, Rel K G (Pn ++ P) e σ S H → Rel K G P e σ S H
  | [], _, h => h
  | _ :: t, _, h => Rel.drops R t (Rel.tail h)
theorem Rel.cutP {Pn : List (Addr × HO)} (h : Rel K G (Pn ++ P) e σ S H) : Rel K G P e σ S H := Rel.drops (fun h => h) Pn h
theorem AAr.mono (hs : Sub S S1) : ∀ {as : List AA} {vs : List V} {P : List (Addr × HO)}, AAr K σ S as vs P → AAr K σ S1 as vs P
  | _, _, _, .nil => .nil
  | _, _, _, .v w t => .v (w.mono hs) (AAr.mono hs t)
  | _, _, _, .m w t => .m (w.mono hs rfl) (AAr.mono hs t)
  | _, _, _, .g w t => .g (w.mono hs rfl) (AAr.mono hs t)
  | _, _, _, .l w t => .l w (AAr.mono hs t)
  | _, _, _, .r w t => .r w (AAr.mono hs t)
end
section
variable {nm : Nat → Str} {ca : Ex → Addr} {G : Gh} {call : CallT} {j : Nat} {refs : List Nat} {W : WX} {X : Cx}
theorem PstA.mono {K : PySem.W.Frag} {P : List (Addr × HO)} {σ : L2.St} {S S1 : Hp} {r : Res (List AA)} {J : List AA → Env → Hp → Hp → List (Addr × HO) → Prop} (hs : Sub S S1) (h : PstA K ca G P W σ S r J) : PstA K ca G P W σ S1 r J := by
  cases r with
  | ok a e => exact fun S' H' Pn q R => h S' H' Pn (hs.trans q) R
  | exc x e => exact fun S' H' Pn q R => h S' H' Pn (hs.trans q) R
  | bad => exact h
theorem PstA.bind {α : Type} {K : PySem.W.Frag} {P : List (Addr × HO)} {σ : L2.St} {S : Hp} {r : Res α} {f : α → Env → Res (List AA)} {J : List AA → Env → Hp → Hp → List (Addr × HO) → Prop} (h : PstA K ca G P W σ S (r.bind f) J) :
    Pst K ca G P W σ S r fun a e S' H' => PstA K ca G P W σ S' (f a e) J := by
  cases r with
  | ok a e => exact fun S' H' q R => PstA.mono q h
  | exc x e => exact fun S' H' q R => h S' H' [] q R
  | bad => exact h
theorem PstA.imp {K : PySem.W.Frag} {P : List (Addr × HO)} {σ : L2.St} {S : Hp} {r : Res (List AA)} {J J' : List AA → Env → Hp → Hp → List (Addr × HO) → Prop} {f : List AA → List AA} {Q : List (Addr × HO)}
    (h : PstA K ca G P W σ S (r.bind fun l e => .ok (f l) e) J) (k : ∀ a e S' H' Pn, Sub S S' → Rel K G (Pn ++ (Q ++ P)) e σ S' H' → J (f a) e S' H' (Pn ++ Q) → J' a e S' H' Pn) : PstA K ca G (Q ++ P) W σ S r J' := by
  cases r with
  | ok a e => exact fun S' H' Pn q R => k a e S' H' Pn q R (h S' H' (Pn ++ Q) q (by rw [List.append_assoc]; exact R))
  | exc x e => exact fun S' H' Pn q R => h S' H' (Pn ++ Q) q (by rw [List.append_assoc]; exact R)
  | bad => exact h
theorem varB_pe {N : List Str} {sc : Scope} {i : Nat} {y : Expr} (h : (match y with | .Name z _ => varB N sc i z | _ => false) = true) : ∃ z pos, y = .Name z pos ∧ varB N sc i z = true := by
  split at h
  · exact ⟨_, _, rfl, h⟩
  · cases h
theorem name_star {z : Str} {pos : Pos} (es : List Expr) (env : PySem.Env) : starEach (.Name z pos :: es) env = (false, eval (.Name z pos) env) :: starEach es env := rfl
theorem own_at {K : PySem.W.Frag} {S H : Hp} {l : Addr} {d : D} {u : HO} (o : OwnAt K S H l d) (h : H l = some u) : OwnAt K S (fun a => if a = l then some u else none) l d := o.mono (.refl S) (by simp only [if_pos]; exact h.symm)
theorem sAs : ∀ {as : As} {l : List Expr}, mAs nm X.N X.env.scope as l = true → (∀ a y, mE nm X.N X.env.scope a y = true → sizeOf a < sizeOf as → PE X y (tE X.K ca G call refs W a)) → PA X l (tAs X.K ca G call refs W as) ∧ starEach l X.env = l.map fun y => (false, eval y X.env)
  | .nil, l, h, ih => by
    unfold mAs at h
    obtain rfl := List.isEmpty_iff.mp h
    exact ⟨PA.weak pa_nil fun σ H Q ⟨e, S, P, R, q⟩ => q S H [] (.refl S) R [] .nil, rfl⟩
  | .val a r, l, h, ih => by
    unfold mAs at h
    split at h
    · rename_i y ys
      obtain ⟨h1, h2⟩ := and2 h
      have st := plain_star (mE_plain h1) ys X.env
      obtain ⟨p2, st2⟩ := sAs h2 fun a y h hz => ih a y h (by simp at hz ⊢; omega)
      refine ⟨PA.weak (pa_cons (ih a y h1 (by simp; omega)) p2 st) fun σ H Q ⟨e, S, P, R, q⟩ => ⟨e, S, P, R, ?_⟩, by rw [st, st2]; rfl⟩
      simp only [evAs] at q
      exact (PstA.bind q).imp fun p e1 S1 H1 hs1 R1 q1 v rv => by
        obtain ⟨S2, hs2, R2, r2⟩ := R1.rep rv
        exact ⟨e1, S2, P, R2, PstA.imp (Q := []) (PstA.mono hs2 q1) fun l e3 S3 H3 Pn hs3 R3 q3 vs rs => q3 _ (by rw [List.append_nil]; exact .v (r2.mono hs3) rs)⟩
    · cases h
  | .mov a r, l, h, ih => by
    unfold mAs at h
    split at h
    · rename_i y ys
      obtain ⟨h1, h2⟩ := and2 h
      have st := plain_star (mE_plain h1) ys X.env
      obtain ⟨p2, st2⟩ := sAs h2 fun a y h hz => ih a y h (by simp at hz ⊢; omega)
      refine ⟨PA.weak (pa_cons (ih a y h1 (by simp; omega)) p2 st) fun σ H Q ⟨e, S, P, R, q⟩ => ⟨e, S, P, R, ?_⟩, by rw [st, st2]; rfl⟩
      simp only [evAs] at q
      exact (PstA.bind q).imp fun p e1 S1 H1 hs1 R1 q1 v rv => by
        obtain ⟨fr, d⟩ := p
        cases fr with
        | false => exact q1.elim
        | true =>
          simp only [if_true] at q1
          obtain ⟨l, rfl, F⟩ := rv
          obtain ⟨u, hu, _⟩ := F.own.2.some
          have oa := own_at F.own.2 hu
          exact ⟨e1, S1, [(l, u)] ++ P, R1.push F hu, PstA.imp (Q := [(l, u)]) q1 fun as e3 S3 H3 Pn hs3 R3 q3 vs rs => q3 _ (.m (oa.mono hs3 rfl) rs)⟩
    · cases h
  | .give a r, l, h, ih => by
    unfold mAs at h
    split at h
    · rename_i y ys
      obtain ⟨h1, h2⟩ := and2 h
      have st := plain_star (mE_plain h1) ys X.env
      obtain ⟨p2, st2⟩ := sAs h2 fun a y h hz => ih a y h (by simp at hz ⊢; omega)
      refine ⟨PA.weak (pa_cons (ih a y h1 (by simp; omega)) p2 st) fun σ H Q ⟨e, S, P, R, q⟩ => ⟨e, S, P, R, ?_⟩, by rw [st, st2]; rfl⟩
      simp only [evAs] at q
      exact (PstA.bind q).imp fun p e1 S1 H1 hs1 R1 q1 v rv => by
        obtain ⟨fr, d⟩ := p
        cases fr with
        | false => exact q1.elim
        | true =>
          simp only [if_true] at q1
          obtain ⟨l, rfl, F⟩ := rv
          obtain ⟨u, hu, _⟩ := F.own.2.some
          have oa := own_at F.own.2 hu
          exact ⟨e1, S1, [(l, u)] ++ P, R1.push F hu, PstA.imp (Q := [(l, u)]) q1 fun as e3 S3 H3 Pn hs3 R3 q3 vs rs => q3 _ (.g (oa.mono hs3 rfl) rs)⟩
    · cases h
  | .lend i r, l, h, ih => by
    unfold mAs at h
    split at h
    · rename_i y ys
      obtain ⟨h1, h2⟩ := and2 h
      obtain ⟨z, pos, rfl, hv⟩ := varB_pe h1
      obtain ⟨p2, st2⟩ := sAs h2 fun a y h hz => ih a y h (by simp at hz ⊢; omega)
      refine ⟨PA.weak (pa_cons (pe_name hv) p2 (name_star _ _)) fun σ H Q ⟨e, S, P, R, q⟩ => ?_, by rw [name_star, st2]; rfl⟩
      simp only [evAs] at q
      cases hp : pk e i with
      | none => rw [hp] at q; exact q.elim
      | some d =>
        rw [hp] at q
        obtain ⟨v, hv1, _⟩ := R.pick hp
        exact ⟨v, hv1, e, S, P, R, PstA.imp (Q := []) q fun l e3 S3 H3 Pn hs3 R3 q3 vs rs => q3 _ (by rw [List.append_nil]; exact .l hv1 rs)⟩
    · cases h
  | .ref i r, l, h, ih => by
    unfold mAs at h
    split at h
    · rename_i y ys
      obtain ⟨h1, h2⟩ := and2 h
      obtain ⟨z, pos, rfl, hv⟩ := varB_pe h1
      obtain ⟨p2, st2⟩ := sAs h2 fun a y h hz => ih a y h (by simp at hz ⊢; omega)
      refine ⟨PA.weak (pa_cons (pe_name hv) p2 (name_star _ _)) fun σ H Q ⟨e, S, P, R, q⟩ => ?_, by rw [name_star, st2]; rfl⟩
      simp only [evAs] at q
      cases hp : pk e i with
      | none => rw [hp] at q; exact q.elim
      | some d =>
        rw [hp] at q
        obtain ⟨v, hv1, _⟩ := R.pick hp
        exact ⟨v, hv1, e, S, P, R, PstA.imp (Q := []) q fun l e3 S3 H3 Pn hs3 R3 q3 vs rs => q3 _ (by rw [List.append_nil]; exact .r hv1 rs)⟩
    · cases h
end
end Vm

namespace Vm
open PySem PySem.Spec PyProof.Rows L2
open Classical in
/-- the ground with what is lent -/
noncomputable def lendS (S H : Hp) (L : Addr → Prop) : Hp := fun b => if L b then H b else S b
theorem lendS_in {S H : Hp} {L : Addr → Prop} {b : Addr} (h : L b) : lendS S H L b = H b := if_pos h
theorem lendS_out {S H : Hp} {L : Addr → Prop} {b : Addr} (h : ¬ L b) : lendS S H L b = S b := if_neg h
theorem lendS_sub {S H : Hp} {L : Addr → Prop} (h : Sub S H) : Sub S (lendS S H L) := fun b o q => by
  by_cases z : L b
  · rw [lendS_in z]; exact h b o q
  · rw [lendS_out z]; exact q
theorem lendS_le {S H : Hp} {L : Addr → Prop} (h : Sub S H) : Sub (lendS S H L) H := fun b o q => by
  by_cases z : L b
  · rw [lendS_in z] at q; exact q
  · rw [lendS_out z] at q; exact h b o q
inductive AB (σ : L2.St) : List AA → List Addr → Prop
  | nil : AB σ [] []
  | v {d : D} {as : List AA} {B : List Addr} : AB σ as B → AB σ (.v d :: as) B
  | g {d : D} {as : List AA} {B : List Addr} : AB σ as B → AB σ (.g d :: as) B
  | l {i : Nat} {as : List AA} {B : List Addr} : AB σ as B → AB σ (.l i :: as) B
  | m {d : D} {l : Addr} {as : List AA} {B : List Addr} : AB σ as B → AB σ (.m d :: as) (l :: B)
  | r {i : Nat} {l : Addr} {as : List AA} {B : List Addr} : At σ i l → AB σ as B → AB σ (.r i :: as) (l :: B)
theorem at_inj {σ : L2.St} {i : Nat} {l l' : Addr} (h : At σ i l) (h' : At σ i l') : l = l' := by
  have := h.symm.trans h'; cases this; rfl
theorem OwnAt.rep2 {K : PySem.W.Frag} {S S1 H : Hp} {l : Addr} {d : D} (o : OwnAt K S H l d) (hs : Sub S S1) (e : S1 l = H l) : Rep K S1 (.ref l) d := by
  cases d with
  | lst ds => obtain ⟨vs, a, r⟩ := o; exact .lst (by rw [e]; exact a) (r.mono hs)
  | dk ds => obtain ⟨vs, a, r⟩ := o; exact .dk (by rw [e]; exact a) (r.mono hs)
  | dt ds => obtain ⟨vs, a, r⟩ := o; exact .dt (by rw [e]; exact a) (r.mono hs)
  | _ => exact o.elim
theorem mem_ixs_l {as : List AA} {i : Nat} (h : AA.l i ∈ as) : i ∈ ixs as := List.mem_filterMap.mpr ⟨_, h, rfl⟩
theorem mem_ixs_r {as : List AA} {i : Nat} (h : AA.r i ∈ as) : i ∈ ixs as := List.mem_filterMap.mpr ⟨_, h, rfl⟩
theorem mem_map_fst {P : List (Addr × HO)} {l : Addr} {u : HO} : l ∈ (P ++ [(l, u)]).map (·.1) := by simp
section
variable {K : PySem.W.Frag} {G : Gh} {P : List (Addr × HO)} {σ : L2.St} {S H : Hp} {e : Env}
theorem args_of (R : Rel K G P e σ S H) (L : Addr → Prop) : ∀ {as : List AA} {vs : List V} {Pa : List (Addr × HO)} {avs : List AV}, AAr K σ S as vs Pa → fetch e as = some avs → (ixs as).Nodup → (∀ q ∈ Pa, q ∈ P) → (Pa.map (·.1)).Nodup →
    (∀ i d l, AA.l i ∈ as → IsOwn e i d → At σ i l → L l) → (∀ l, L l → ∃ i d, IsOwn e i d ∧ At σ i l ∧ AA.r i ∉ as) →
    ∃ B C, Args K (lendS S H L) H avs vs B C ∧ (B ++ C).Nodup ∧ (∀ l ∈ B, (∃ i d, IsOwn e i d ∧ At σ i l ∧ AA.r i ∈ as) ∨ l ∈ Pa.map (·.1)) ∧ (∀ l ∈ C, l ∈ Pa.map (·.1)) ∧ AB σ as B
  | _, _, _, _, .nil, hf, _, _, _, _, _ => by
    cases hf
    exact ⟨[], [], .nil, .nil, (fun l h => nomatch h), (fun l h => nomatch h), .nil⟩
  | .v d :: as, v :: vs, Pa, avs, .v hr ht, hf, hn, hp, hpn, h1, h2 => by
    simp only [fetch, Option.map_eq_some_iff] at hf
    obtain ⟨avs, hf, rfl⟩ := hf
    obtain ⟨B, C, a1, a2, a3, a4, a5⟩ := args_of R L ht hf hn hp hpn (fun i d l hi => h1 i d l (List.mem_cons_of_mem _ hi)) fun l hl => by
      obtain ⟨i, d, x1, x2, x3⟩ := h2 l hl
      exact ⟨i, d, x1, x2, fun z => x3 (List.mem_cons_of_mem _ z)⟩
    exact ⟨B, C, .val (hr.mono (lendS_sub R.sub)) a1, a2, fun l hl => (a3 l hl).imp (fun ⟨i, d, x1, x2, x3⟩ => ⟨i, d, x1, x2, List.mem_cons_of_mem _ x3⟩) fun h => h, a4, .v a5⟩
  | .l i :: as, v :: vs, Pa, avs, .l hv ht, hf, hn, hp, hpn, h1, h2 => by
    simp only [fetch, Option.bind_eq_some_iff, Option.map_eq_some_iff] at hf
    obtain ⟨d, hd, avs, hf, rfl⟩ := hf
    have hn' : (ixs as).Nodup := (List.nodup_cons.mp (show (i :: ixs as).Nodup from hn)).2
    obtain ⟨B, C, a1, a2, a3, a4, a5⟩ := args_of R L ht hf hn' hp hpn (fun i d l hi => h1 i d l (List.mem_cons_of_mem _ hi)) fun l hl => by
      obtain ⟨i, d, x1, x2, x3⟩ := h2 l hl
      exact ⟨i, d, x1, x2, fun z => x3 (List.mem_cons_of_mem _ z)⟩
    refine ⟨B, C, .val ?_ a1, a2, fun l hl => (a3 l hl).imp (fun ⟨i, d, x1, x2, x3⟩ => ⟨i, d, x1, x2, List.mem_cons_of_mem _ x3⟩) fun h => h, a4, .l a5⟩
    have own : ∀ {d}, IsOwn e i d → Rep K (lendS S H L) v d := fun {d} hi => by
      obtain ⟨l, x1, x2, x3⟩ := R.own i d hi
      have x1' : σ[i]? = some (some (.ref l)) := x1
      rw [x1'] at hv; cases hv
      exact x2.2.rep2 (lendS_sub R.sub) (lendS_in (h1 i d l List.mem_cons_self hi x1))
    unfold pk at hd
    split at hd
    · rename_i d' q; cases hd
      obtain ⟨w, x1, x2⟩ := R.val i d q
      rw [x1] at hv; cases hv
      exact x2.mono (lendS_sub R.sub)
    · rename_i d' q; cases hd; exact own (.inl q)
    · rename_i d' q; cases hd; exact own (.inr q)
    · cases hd
  | .r i :: as, v :: vs, Pa, avs, .r hv ht, hf, hn, hp, hpn, h1, h2 => by
    simp only [fetch] at hf
    split at hf
    · rename_i d hd
      simp only [Option.map_eq_some_iff] at hf
      obtain ⟨avs, hf, rfl⟩ := hf
      have hn0 := List.nodup_cons.mp (show (i :: ixs as).Nodup from hn)
      obtain ⟨B, C, a1, a2, a3, a4, a5⟩ := args_of R L ht hf hn0.2 hp hpn (fun i d l hi => h1 i d l (List.mem_cons_of_mem _ hi)) fun l hl => by
        obtain ⟨i, d, x1, x2, x3⟩ := h2 l hl
        exact ⟨i, d, x1, x2, fun z => x3 (List.mem_cons_of_mem _ z)⟩
      obtain ⟨l, x1, x2, x3⟩ := R.own i d (.inl hd)
      have x1' : σ[i]? = some (some (.ref l)) := x1
      rw [x1'] at hv; cases hv
      have hl : ¬ L l := fun z => by
        obtain ⟨i', d', y1, y2, y3⟩ := h2 l z
        have := R.sep i' i d' d l y1 (.inl hd) y2 x1
        subst this
        exact y3 List.mem_cons_self
      have notP : l ∉ Pa.map (·.1) := fun z => by
        obtain ⟨q, hq, rfl⟩ := List.mem_map.mp z
        exact (R.pen q (hp q hq)).2.2.1 i d (.inl hd) x1
      refine ⟨l :: B, C, .own ⟨by rw [lendS_out hl]; exact x2.1, x2.2.mono (lendS_sub R.sub) rfl⟩ a1, ?_, fun l' hl' => ?_, a4, .r x1 a5⟩
      · rw [List.cons_append, List.nodup_cons]
        refine ⟨fun z => ?_, a2⟩
        rcases List.mem_append.mp z with z | z
        · rcases a3 l z with ⟨i', d', y1, y2, y3⟩ | z
          · have := R.sep i' i d' d l y1 (.inl hd) y2 x1
            subst this
            exact hn0.1 (mem_ixs_r y3)
          · exact notP z
        · exact notP (a4 l z)
      · rcases List.mem_cons.mp hl' with rfl | hl'
        · exact .inl ⟨i, d, .inl hd, x1, List.mem_cons_self⟩
        · exact (a3 l' hl').imp (fun ⟨i, d, x1, x2, x3⟩ => ⟨i, d, x1, x2, List.mem_cons_of_mem _ x3⟩) fun h => h
    · cases hf
  | .m d :: as, .ref l :: vs, _, avs, .m (P := Pa) (u := u) ho ht, hf, hn, hp, hpn, h1, h2 => by
    simp only [fetch, Option.map_eq_some_iff] at hf
    obtain ⟨avs, hf, rfl⟩ := hf
    rw [List.map_append] at hpn
    have hpn0 := List.nodup_append.mp hpn
    obtain ⟨B, C, a1, a2, a3, a4, a5⟩ := args_of R L ht hf hn (fun q hq => hp q (List.mem_append_left _ hq)) hpn0.1 (fun i d l hi => h1 i d l (List.mem_cons_of_mem _ hi)) fun l hl => by
      obtain ⟨i, d, x1, x2, x3⟩ := h2 l hl
      exact ⟨i, d, x1, x2, fun z => x3 (List.mem_cons_of_mem _ z)⟩
    obtain ⟨p1, p2, p3, p4⟩ := R.pen (l, u) (hp _ (by simp))
    have notP : l ∉ Pa.map (·.1) := fun z => hpn0.2.2 l z l (by simp) rfl
    have hl : ¬ L l := fun z => by
      obtain ⟨i', d', y1, y2, y3⟩ := h2 l z
      exact p3 i' d' y1 y2
    refine ⟨l :: B, C, .own ⟨by rw [lendS_out hl]; exact p2, ho.mono (lendS_sub R.sub) (by simp only [if_pos]; exact p1)⟩ a1, ?_, fun l' hl' => ?_, fun l' hl' => by rw [List.map_append]; exact List.mem_append_left _ (a4 l' hl'), .m a5⟩
    · rw [List.cons_append, List.nodup_cons]
      refine ⟨fun z => ?_, a2⟩
      rcases List.mem_append.mp z with z | z
      · rcases a3 l z with ⟨i', d', y1, y2, y3⟩ | z
        · exact p3 i' d' y1 y2
        · exact notP z
      · exact notP (a4 l z)
    · rcases List.mem_cons.mp hl' with rfl | hl'
      · exact .inr mem_map_fst
      · exact (a3 l' hl').imp (fun ⟨i, d, x1, x2, x3⟩ => ⟨i, d, x1, x2, List.mem_cons_of_mem _ x3⟩) fun h => by rw [List.map_append]; exact List.mem_append_left _ h
  | .g d :: as, .ref l :: vs, _, avs, .g (P := Pa) (u := u) ho ht, hf, hn, hp, hpn, h1, h2 => by
    simp only [fetch, Option.map_eq_some_iff] at hf
    obtain ⟨avs, hf, rfl⟩ := hf
    rw [List.map_append] at hpn
    have hpn0 := List.nodup_append.mp hpn
    obtain ⟨B, C, a1, a2, a3, a4, a5⟩ := args_of R L ht hf hn (fun q hq => hp q (List.mem_append_left _ hq)) hpn0.1 (fun i d l hi => h1 i d l (List.mem_cons_of_mem _ hi)) fun l hl => by
      obtain ⟨i, d, x1, x2, x3⟩ := h2 l hl
      exact ⟨i, d, x1, x2, fun z => x3 (List.mem_cons_of_mem _ z)⟩
    obtain ⟨p1, p2, p3, p4⟩ := R.pen (l, u) (hp _ (by simp))
    have notP : l ∉ Pa.map (·.1) := fun z => hpn0.2.2 l z l (by simp) rfl
    have hl : ¬ L l := fun z => by
      obtain ⟨i', d', y1, y2, y3⟩ := h2 l z
      exact p3 i' d' y1 y2
    refine ⟨B, l :: C, .give ⟨by rw [lendS_out hl]; exact p2, ho.mono (lendS_sub R.sub) (by simp only [if_pos]; exact p1)⟩ a1, ?_, fun l' hl' => (a3 l' hl').imp (fun ⟨i, d, x1, x2, x3⟩ => ⟨i, d, x1, x2, List.mem_cons_of_mem _ x3⟩) fun h => by rw [List.map_append]; exact List.mem_append_left _ h, fun l' hl' => ?_, .g a5⟩
    · refine (List.perm_middle.nodup_iff).mpr (List.nodup_cons.mpr ⟨fun z => ?_, a2⟩)
      rcases List.mem_append.mp z with z | z
      · rcases a3 l z with ⟨i', d', y1, y2, y3⟩ | z
        · exact p3 i' d' y1 y2
        · exact notP z
      · exact notP (a4 l z)
    · rcases List.mem_cons.mp hl' with rfl | hl'
      · exact mem_map_fst
      · rw [List.map_append]; exact List.mem_append_left _ (a4 l' hl')
/-- what the names are behind the call -/
theorem putBack_ok {S2 H2 : Hp} : ∀ {as : List AA} {B : List Addr} {os : List D} {e1 : Env}, AB σ as B → Outs K S2 H2 B os → putBack as os e = some e1 → (ixs as).Nodup → (∀ i, AA.r i ∈ as → i < e.length) →
    e1.length = e.length ∧ ∀ i, (AA.r i ∉ as → e1[i]? = e[i]?) ∧ (AA.r i ∈ as → ∃ d l, e1[i]? = some (.own d) ∧ At σ i l ∧ l ∈ B ∧ Own K S2 H2 l d ∧ d ∈ os)
  | [], _, os, e1, .nil, ho, hp, _, _ => by
    cases ho; cases hp
    exact ⟨rfl, fun i => ⟨fun _ => rfl, fun z => nomatch z⟩⟩
  | .v d :: as, B, os, e1, .v ab, ho, hp, hn, hlt => by
    obtain ⟨a1, a2⟩ := putBack_ok ab ho (show putBack as os e = some e1 from hp) hn fun i h => hlt i (List.mem_cons_of_mem _ h)
    refine ⟨a1, fun i => ⟨fun z => (a2 i).1 fun w => z (List.mem_cons_of_mem _ w), fun z => ?_⟩⟩
    rcases List.mem_cons.mp z with z | z
    · cases z
    · exact (a2 i).2 z
  | .g d :: as, B, os, e1, .g ab, ho, hp, hn, hlt => by
    obtain ⟨a1, a2⟩ := putBack_ok ab ho (show putBack as os e = some e1 from hp) hn fun i h => hlt i (List.mem_cons_of_mem _ h)
    refine ⟨a1, fun i => ⟨fun z => (a2 i).1 fun w => z (List.mem_cons_of_mem _ w), fun z => ?_⟩⟩
    rcases List.mem_cons.mp z with z | z
    · cases z
    · exact (a2 i).2 z
  | .l d :: as, B, os, e1, .l ab, ho, hp, hn, hlt => by
    obtain ⟨a1, a2⟩ := putBack_ok ab ho (show putBack as os e = some e1 from hp) (List.nodup_cons.mp (show (d :: ixs as).Nodup from hn)).2 fun i h => hlt i (List.mem_cons_of_mem _ h)
    refine ⟨a1, fun i => ⟨fun z => (a2 i).1 fun w => z (List.mem_cons_of_mem _ w), fun z => ?_⟩⟩
    rcases List.mem_cons.mp z with z | z
    · cases z
    · exact (a2 i).2 z
  | .m d :: as, _, _, e1, .m ab, .cons (os := os) (d := o) ho1 ho, hp, hn, hlt => by
    obtain ⟨a1, a2⟩ := putBack_ok ab ho (show putBack as os e = some e1 from hp) hn fun i h => hlt i (List.mem_cons_of_mem _ h)
    refine ⟨a1, fun i => ⟨fun z => (a2 i).1 fun w => z (List.mem_cons_of_mem _ w), fun z => ?_⟩⟩
    rcases List.mem_cons.mp z with z | z
    · cases z
    · obtain ⟨d, l, x1, x2, x3, x4, x5⟩ := (a2 i).2 z
      exact ⟨d, l, x1, x2, List.mem_cons_of_mem _ x3, x4, List.mem_cons_of_mem _ x5⟩
  | .r k :: as, _, _, e1, .r (l := l) hat ab, .cons (os := os) (d := o) ho1 ho, hp, hn, hlt => by
    have hp0 : (putBack as os e).map (fun e => e.set k (.own o)) = some e1 := hp
    simp only [Option.map_eq_some_iff] at hp0
    obtain ⟨e2, hp2, rfl⟩ := hp0
    have hn0 := List.nodup_cons.mp (show (k :: ixs as).Nodup from hn)
    obtain ⟨a1, a2⟩ := putBack_ok ab ho hp2 hn0.2 fun i h => hlt i (List.mem_cons_of_mem _ h)
    refine ⟨by rw [List.length_set]; exact a1, fun i => ⟨fun z => ?_, fun z => ?_⟩⟩
    · have hne : k ≠ i := fun w => z (w ▸ List.mem_cons_self)
      rw [List.getElem?_set_ne hne]
      exact (a2 i).1 fun w => z (List.mem_cons_of_mem _ w)
    · by_cases hki : k = i
      · subst hki
        exact ⟨o, l, by rw [List.getElem?_set_self (by rw [a1]; exact hlt k List.mem_cons_self)], hat, List.mem_cons_self, ho1, List.mem_cons_self⟩
      · rcases List.mem_cons.mp z with z | z
        · cases z; exact absurd rfl hki
        · rw [List.getElem?_set_ne hki]
          obtain ⟨d, l, x1, x2, x3, x4, x5⟩ := (a2 i).2 z
          exact ⟨d, l, x1, x2, List.mem_cons_of_mem _ x3, x4, List.mem_cons_of_mem _ x5⟩
theorem frzS_get {e : Env} {j i : Nat} {s : Slot} (h : (frzS e j)[i]? = some s) : (e[i]? = some s ∧ (i = j → ∀ d, ¬ IsOwn e i d)) ∨ (i = j ∧ ∃ d, s = .val d ∧ IsOwn e i d) := by
  unfold frzS at h
  split at h
  · rename_i d hd
    by_cases hij : j = i
    · subst hij
      rw [List.getElem?_set_self (IsOwn.lt (.inl hd))] at h; cases h
      exact .inr ⟨rfl, d, rfl, .inl hd⟩
    · rw [List.getElem?_set_ne hij] at h
      exact .inl ⟨h, fun z => absurd z.symm hij⟩
  · rename_i d hd
    by_cases hij : j = i
    · subst hij
      rw [List.getElem?_set_self (IsOwn.lt (.inr hd))] at h; cases h
      exact .inr ⟨rfl, d, rfl, .inr hd⟩
    · rw [List.getElem?_set_ne hij] at h
      exact .inl ⟨h, fun z => absurd z.symm hij⟩
  · rename_i h1 h2
    refine .inl ⟨h, fun z d o => ?_⟩
    subst z
    rcases o with o | o
    · exact h1 d o
    · exact h2 d o
theorem frzS_len {e : Env} {j : Nat} : (frzS e j).length = e.length := by
  unfold frzS
  split <;> simp
theorem frzA_get : ∀ {as : List AA} {e : Env} {i : Nat} {s : Slot}, (frzA as e)[i]? = some s → (e[i]? = some s ∧ (AA.l i ∈ as → ∀ d, ¬ IsOwn e i d)) ∨ (AA.l i ∈ as ∧ ∃ d, s = .val d ∧ IsOwn e i d)
  | [], e, i, s, h => .inl ⟨h, fun z => nomatch z⟩
  | .l j :: as, e, i, s, h => by
    rcases frzS_get (show (frzS (frzA as e) j)[i]? = some s from h) with ⟨h1, h2⟩ | ⟨rfl, d, rfl, h1⟩
    · rcases frzA_get h1 with ⟨h3, h4⟩ | ⟨h3, d, rfl, h4⟩
      · refine .inl ⟨h3, fun z d o => ?_⟩
        rcases List.mem_cons.mp z with z | z
        · cases z
          refine h2 rfl d ?_
          rcases o with o | o
          · rw [h3] at o; cases o; exact .inl h1
          · rw [h3] at o; cases o; exact .inr h1
        · exact h4 z d o
      · exact .inr ⟨List.mem_cons_of_mem _ h3, d, rfl, h4⟩
    · rcases h1 with h1 | h1
      · rcases frzA_get h1 with ⟨h3, h4⟩ | ⟨h3, d', z, h4⟩
        · exact .inr ⟨List.mem_cons_self, d, rfl, .inl h3⟩
        · cases z
      · rcases frzA_get h1 with ⟨h3, h4⟩ | ⟨h3, d', z, h4⟩
        · exact .inr ⟨List.mem_cons_self, d, rfl, .inr h3⟩
        · cases z
  | .v _ :: as, e, i, s, h => by
    rcases frzA_get (show (frzA as e)[i]? = some s from h) with ⟨h3, h4⟩ | ⟨h3, h4⟩
    · exact .inl ⟨h3, fun z => by rcases List.mem_cons.mp z with z | z; cases z; exact h4 z⟩
    · exact .inr ⟨List.mem_cons_of_mem _ h3, h4⟩
  | .m _ :: as, e, i, s, h => by
    rcases frzA_get (show (frzA as e)[i]? = some s from h) with ⟨h3, h4⟩ | ⟨h3, h4⟩
    · exact .inl ⟨h3, fun z => by rcases List.mem_cons.mp z with z | z; cases z; exact h4 z⟩
    · exact .inr ⟨List.mem_cons_of_mem _ h3, h4⟩
  | .g _ :: as, e, i, s, h => by
    rcases frzA_get (show (frzA as e)[i]? = some s from h) with ⟨h3, h4⟩ | ⟨h3, h4⟩
    · exact .inl ⟨h3, fun z => by rcases List.mem_cons.mp z with z | z; cases z; exact h4 z⟩
    · exact .inr ⟨List.mem_cons_of_mem _ h3, h4⟩
  | .r _ :: as, e, i, s, h => by
    rcases frzA_get (show (frzA as e)[i]? = some s from h) with ⟨h3, h4⟩ | ⟨h3, h4⟩
    · exact .inl ⟨h3, fun z => by rcases List.mem_cons.mp z with z | z; cases z; exact h4 z⟩
    · exact .inr ⟨List.mem_cons_of_mem _ h3, h4⟩
theorem frzA_len : ∀ {as : List AA} {e : Env}, (frzA as e).length = e.length
  | [], _ => rfl
  | .l j :: as, e => by show (frzS (frzA as e) j).length = _; rw [frzS_len, frzA_len]
  | .v _ :: as, e => frzA_len (as := as)
  | .m _ :: as, e => frzA_len (as := as)
  | .g _ :: as, e => frzA_len (as := as)
  | .r _ :: as, e => frzA_len (as := as)
end
end Vm

namespace Vm
open PySem PySem.Spec PyProof.Rows L2
theorem okOut_at {K : PySem.W.Frag} {S S' H : Hp} {l : Addr} {d : D} (h : NM S S') (o : OwnAt K S H l d) (k : okOut d = true) : OwnAt K S' H l d := by
  cases d with
  | lst ds => obtain ⟨vs, a, r⟩ := o; exact ⟨vs, a, RepL.flat h r k⟩
  | dk ds => obtain ⟨vs, a, r⟩ := o; exact ⟨vs, a, RepL.flat h r k⟩
  | dt ds => obtain ⟨vs, a, r⟩ := o; exact ⟨vs, a, RepL.flat h r k⟩
  | _ => exact o.elim
section
variable {K : PySem.W.Frag} {G : Gh} {P Pn : List (Addr × HO)} {σ : L2.St} {S H S2 H2 : Hp} {e e1 : Env}
/-- what is lent -/
def Lent (e : Env) (σ : L2.St) (as : List AA) : Addr → Prop := fun l => ∃ i d, AA.l i ∈ as ∧ IsOwn e i d ∧ At σ i l
theorem ixs_lr : ∀ {as : List AA}, (ixs as).Nodup → ∀ i, AA.l i ∈ as → AA.r i ∈ as → False
  | [], _, _, h, _ => nomatch h
  | a :: as, hn, i, h1, h2 => by
    have step : ∀ k, AA.ix a = some k → k ∉ ixs as ∧ (ixs as).Nodup := fun k hk => by
      have : ixs (a :: as) = k :: ixs as := by unfold ixs; rw [List.filterMap_cons, hk]
      rw [this] at hn
      exact List.nodup_cons.mp hn
    have rest : (ixs as).Nodup := by
      cases hk : AA.ix a with
      | none =>
        have : ixs (a :: as) = ixs as := by unfold ixs; rw [List.filterMap_cons, hk]
        rw [this] at hn; exact hn
      | some k => exact (step k hk).2
    rcases List.mem_cons.mp h1 with h1 | h1
    · subst h1
      rcases List.mem_cons.mp h2 with h2 | h2
      · cases h2
      · exact (step i rfl).1 (mem_ixs_r h2)
    · rcases List.mem_cons.mp h2 with h2 | h2
      · subst h2
        rename_i hm
        exact (step i rfl).1 (mem_ixs_l (by first | exact h1 | exact hm))
      · exact ixs_lr rest i h1 h2
open Classical in
theorem Rel.called {as : List AA} {vs : List V} {B C : List Addr} {os : List D} (R : Rel K G (Pn ++ P) e σ S H) (ha : AAr K σ S as vs Pn) (hn : (ixs as).Nodup)
    (b3 : ∀ l ∈ B, (∃ i d, IsOwn e i d ∧ At σ i l ∧ AA.r i ∈ as) ∨ l ∈ Pn.map (·.1)) (b4 : ∀ l ∈ C, l ∈ Pn.map (·.1)) (ab : AB σ as B) (A : After K (lendS S H (Lent e σ as)) H B C S2 H2 os)
    (hp : putBack as os e = some e1) (hr : ∀ i, AA.r i ∈ as → ∃ d, e[i]? = some (.own d)) (th : Bool) (hth : th = true → os.all okOut = true) :
    ∃ S3, Sub S S3 ∧ Rel K G P (if th = true then e1 else frzA as e1) σ S3 H2 ∧ (th = false → S3 = S2) ∧ (th = true → NM S2 S3) ∧ (∀ b, S2 b = none → S3 b = none) ∧ (∀ i d, IsOwn (if th = true then e1 else frzA as e1) i d → ∃ d0, IsOwn e i d0) := by
  have hpnd := R.pnd
  rw [List.map_append] at hpnd
  have hpn0 := List.nodup_append.mp hpnd
  have notB : ∀ {i d l}, IsOwn e i d → At σ i l → AA.r i ∉ as → l ∉ B := fun {i d l} o a nr z => by
    rcases b3 l z with ⟨i', d', y1, y2, y3⟩ | z
    · have := R.sep i' i d' d l y1 o y2 a
      subst this
      exact nr y3
    · obtain ⟨q, hq, rfl⟩ := List.mem_map.mp z
      exact (R.pen q (List.mem_append_left _ hq)).2.2.1 i d o a
  have notC : ∀ {i d l}, IsOwn e i d → At σ i l → l ∉ C := fun {i d l} o a z => by
    obtain ⟨q, hq, rfl⟩ := List.mem_map.mp (b4 l z)
    exact (R.pen q (List.mem_append_left _ hq)).2.2.1 i d o a
  have hbk := putBack_ok (e := e) ab A.outs hp hn fun i h => by
    obtain ⟨d, hd⟩ := hr i h
    exact IsOwn.lt (.inl hd)
  -- the names behind the call
  have slots : ∀ i s, (if th = true then e1 else frzA as e1)[i]? = some s → (∃ d l d0, s = .own d ∧ AA.r i ∈ as ∧ e[i]? = some (.own d0) ∧ At σ i l ∧ Own K S2 H2 l d ∧ d ∈ os) ∨
      (e[i]? = some s ∧ AA.r i ∉ as ∧ (th = false → AA.l i ∈ as → ∀ d, ¬ IsOwn e i d)) ∨ (th = false ∧ ∃ d, s = .val d ∧ AA.l i ∈ as ∧ IsOwn e i d) := by
    intro i s hs
    have base : ∀ s, e1[i]? = some s → (∃ d l d0, s = .own d ∧ AA.r i ∈ as ∧ e[i]? = some (.own d0) ∧ At σ i l ∧ Own K S2 H2 l d ∧ d ∈ os) ∨ (e[i]? = some s ∧ AA.r i ∉ as) := fun s hs => by
      by_cases hi : AA.r i ∈ as
      · obtain ⟨d, l, x1, x2, _, x4, x5⟩ := (hbk.2 i).2 hi
        obtain ⟨d0, hd0⟩ := hr i hi
        rw [x1] at hs; cases hs
        exact .inl ⟨d, l, d0, rfl, hi, hd0, x2, x4, x5⟩
      · rw [(hbk.2 i).1 hi] at hs
        exact .inr ⟨hs, hi⟩
    cases th with
    | true =>
      rcases base s hs with h | ⟨h1, h2⟩
      · exact .inl h
      · exact .inr (.inl ⟨h1, h2, fun z => nomatch z⟩)
    | false =>
      have hs : (frzA as e1)[i]? = some s := hs
      rcases frzA_get hs with ⟨h1, h2⟩ | ⟨h1, d, rfl, h2⟩
      · rcases base s h1 with h | ⟨h3, h4⟩
        · exact .inl h
        · refine .inr (.inl ⟨h3, h4, fun _ z d o => h2 z d ?_⟩)
          rcases o with o | o
          · exact .inl (by rw [(hbk.2 i).1 h4]; exact o)
          · exact .inr (by rw [(hbk.2 i).1 h4]; exact o)
      · have hi : AA.r i ∉ as := fun z => ixs_lr hn i h1 z
        refine .inr (.inr ⟨rfl, d, rfl, h1, ?_⟩)
        rcases h2 with h2 | h2
        · exact .inl (by rw [← (hbk.2 i).1 hi]; exact h2)
        · exact .inr (by rw [← (hbk.2 i).1 hi]; exact h2)
  have owned : ∀ i d, IsOwn (if th = true then e1 else frzA as e1) i d → ∃ d0, IsOwn e i d0 := fun i d o => by
    have key : ∀ s, (if th = true then e1 else frzA as e1)[i]? = some s → (s = .own d ∨ s = .lck d) → ∃ d0, IsOwn e i d0 := fun s hs hsd => by
      rcases slots i s hs with ⟨d', l, d0, rfl, h1, h2, _⟩ | ⟨h1, h2, _⟩ | ⟨_, d', rfl, _, h2⟩
      · exact ⟨d0, .inl h2⟩
      · rcases hsd with rfl | rfl
        · exact ⟨d, .inl h1⟩
        · exact ⟨d, .inr h1⟩
      · exact ⟨d', h2⟩
    rcases o with o | o
    · exact key _ o (.inl rfl)
    · exact key _ o (.inr rfl)
  have lentH : ∀ l, Lent e σ as l → ∃ u, H l = some u ∧ S2 l = some u ∧ H2 l = some u ∧ Mut (some u) ∧ S l = none := fun l hl => by
    obtain ⟨i, d, h1, h2, h3⟩ := hl
    obtain ⟨l', x1, x2, x3⟩ := R.own i d h2
    have := at_inj h3 x1
    subst this
    obtain ⟨u, hu, mu⟩ := x2.2.some
    have := A.s0 l u (by rw [lendS_in ⟨i, d, h1, h2, h3⟩]; exact hu)
    exact ⟨u, hu, this, A.sub l u this, mu, x2.1⟩
  have sub2 : Sub S S2 := (lendS_sub R.sub).trans A.s0
  -- what was none and mutable stays none
  have stay : ∀ l u, H l = some u → Mut (some u) → S l = none → l ∉ B → l ∉ C → ¬ Lent e σ as l → S2 l = none := fun l u hu mu hs hB hC hL => by
    cases q : S2 l with
    | none => rfl
    | some o =>
      have h2 := A.sub l o q
      have := A.fr l u hu hB hC
      rw [h2] at this; cases this
      rcases A.new l _ q mu with z | z | z
      · rw [lendS_out hL, hs] at z; exact absurd rfl z
      · rw [hu] at z; cases z
      · exact absurd z hC
  -- the ground behind the call
  obtain ⟨S3, s3a, s3b, s3c, s3d, s3e⟩ : ∃ S3 : Hp, Sub S S3 ∧ Sub S3 S2 ∧ (th = false → S3 = S2) ∧ (th = true → NM S2 S3) ∧ (th = true → ∀ l, Lent e σ as l → S3 l = none) := by
    cases th with
    | false => exact ⟨S2, sub2, .refl S2, fun _ => rfl, (fun z => nomatch z), fun z => nomatch z⟩
    | true =>
      refine ⟨fun b => if Lent e σ as b then none else S2 b, fun b o q => ?_, fun b o q => ?_, (fun z => nomatch z), fun _ b o q m => ?_, fun _ l hl => if_pos hl⟩
      · show (if Lent e σ as b then none else S2 b) = some o
        by_cases z : Lent e σ as b
        · obtain ⟨u, _, _, _, _, hn⟩ := lentH b z
          rw [hn] at q; cases q
        · rw [if_neg z]; exact sub2 b o q
      · have q : (if Lent e σ as b then none else S2 b) = some o := q
        by_cases z : Lent e σ as b
        · rw [if_pos z] at q; cases q
        · rw [if_neg z] at q; exact q
      · show (if Lent e σ as b then none else S2 b) = some o
        by_cases z : Lent e σ as b
        · obtain ⟨u, _, h2, _, mu, _⟩ := lentH b z
          rw [q] at h2; cases h2; exact absurd mu m
        · rw [if_neg z]; exact q
  have none3 : ∀ b, S2 b = none → S3 b = none := fun b h => by
    cases q : S3 b with
    | none => rfl
    | some o => rw [s3b b o q] at h; cases h
  refine ⟨S3, s3a, ?_, s3c, s3d, none3, owned⟩
  exact {
    sub := s3b.trans A.sub
    fr := fun b o hb hB => by
      have hH := R.fr b o hb hB
      refine A.fr b o hH (fun z => ?_) fun z => ?_
      · rcases b3 b z with ⟨i, d, y1, y2, y3⟩ | z
        · obtain ⟨l, x1, x2, x3⟩ := R.own i d y1
          have := at_inj y2 x1
          subst this
          rcases x3 with x3 | x3
          · rw [x3] at hb; cases hb
          · exact hB x3
        · obtain ⟨q, hq, rfl⟩ := List.mem_map.mp z
          rcases (R.pen q (List.mem_append_left _ hq)).2.2.2.1 with x3 | x3
          · rw [x3] at hb; cases hb
          · exact hB x3
      · obtain ⟨q, hq, rfl⟩ := List.mem_map.mp (b4 b z)
        rcases (R.pen q (List.mem_append_left _ hq)).2.2.2.1 with x3 | x3
        · rw [x3] at hb; cases hb
        · exact hB x3
    s0 := R.s0.trans s3a
    new := fun b o hb mu => by
      rcases A.new b o (s3b b o hb) mu with z | z | z
      · by_cases hl : Lent e σ as b
        · obtain ⟨i, d, h1, h2, h3⟩ := hl
          obtain ⟨l', x1, x2, x3⟩ := R.own i d h2
          have := at_inj h3 x1
          subst this
          exact .inr x3
        · rw [lendS_out hl] at z
          cases q : S b with
          | none => exact absurd q z
          | some o' =>
            have := s3a b o' q
            rw [hb] at this; cases this
            exact R.new b o q mu
      · exact .inr (R.gfree z)
      · obtain ⟨q, hq, rfl⟩ := List.mem_map.mp (b4 b z)
        exact .inr (R.pen q (List.mem_append_left _ hq)).2.2.2.1
    len := by
      cases th with
      | true => exact hbk.1.trans R.len
      | false => exact (frzA_len.trans hbk.1).trans R.len
    val := fun i d hs => by
      rcases slots i _ hs with ⟨d', l, d0, z, _⟩ | ⟨h1, h2, _⟩ | ⟨hf, d', z, h1, h2⟩
      · cases z
      · obtain ⟨v, x1, x2⟩ := R.val i d h1
        exact ⟨v, x1, x2.mono s3a⟩
      · cases z
        obtain ⟨l, x1, x2, x3⟩ := R.own i d h2
        refine ⟨.ref l, x1, ?_⟩
        rw [s3c hf]
        have : Rep K (lendS S H (Lent e σ as)) (.ref l) d := x2.2.rep2 (lendS_sub R.sub) (lendS_in ⟨i, d, h1, h2, x1⟩)
        exact this.mono A.s0
    own := fun i d o => by
      have key : ∀ s, (if th = true then e1 else frzA as e1)[i]? = some s → (s = .own d ∨ s = .lck d) → ∃ l, At σ i l ∧ Own K S3 H2 l d ∧ (G.H l = none ∨ l ∈ G.B) := fun s hs hsd => by
        rcases slots i s hs with ⟨d', l, d0, rfl, h1, h2, h3, h4, h5⟩ | ⟨h1, h2, h3⟩ | ⟨_, d', rfl, _, h2⟩
        · have hdd : d' = d := by rcases hsd with z | z <;> cases z; rfl
          subst hdd
          obtain ⟨l', x1, x2, x3⟩ := R.own i d0 (.inl h2)
          have := at_inj h3 x1
          subst this
          refine ⟨l, h3, ⟨none3 l h4.1, ?_⟩, x3⟩
          cases hh : th with
          | false => rw [s3c hh]; exact h4.2
          | true => exact okOut_at (s3d hh) h4.2 (List.all_eq_true.mp (hth hh) _ h5)
        · have hown : IsOwn e i d := by
            rcases hsd with rfl | rfl
            · exact .inl h1
            · exact .inr h1
          obtain ⟨l, x1, x2, x3⟩ := R.own i d hown
          obtain ⟨u, hu, mu⟩ := x2.2.some
          have hB := notB hown x1 h2
          have hC := notC hown x1
          refine ⟨l, x1, ⟨?_, x2.2.mono s3a ((A.fr l u hu hB hC).trans hu.symm)⟩, x3⟩
          by_cases hl : Lent e σ as l
          · cases hh : th with
            | true => exact s3e hh l hl
            | false =>
              obtain ⟨i', d', y1, y2, y3⟩ := hl
              have := R.sep i' i d' d l y2 hown y3 x1
              subst this
              exact absurd hown (h3 hh y1 d)
          · exact none3 l (stay l u hu mu x2.1 hB hC hl)
        · rcases hsd with z | z <;> cases z
      rcases o with o | o
      · exact key _ o (.inl rfl)
      · exact key _ o (.inr rfl)
    sep := fun i k d d' l o1 o2 a1 a2 => by
      obtain ⟨d1, p1⟩ := owned i d o1
      obtain ⟨d2, p2⟩ := owned k d' o2
      exact R.sep i k d1 d2 l p1 p2 a1 a2
    pen := fun q hq => by
      obtain ⟨p1, p2, p3, p4, p5⟩ := R.pen q (List.mem_append_right _ hq)
      have nP : q.1 ∉ Pn.map (·.1) := fun z => hpn0.2.2 q.1 z q.1 (List.mem_map.mpr ⟨q, hq, rfl⟩) rfl
      have hB : q.1 ∉ B := fun z => by
        rcases b3 _ z with ⟨i, d, y1, y2, y3⟩ | z
        · exact p3 i d y1 y2
        · exact nP z
      have hC : q.1 ∉ C := fun z => nP (b4 _ z)
      refine ⟨A.fr _ _ p1 hB hC, none3 _ (stay _ _ p1 p5 p2 hB hC fun ⟨i, d, y1, y2, y3⟩ => p3 i d y2 y3), fun i d o => ?_, p4, p5⟩
      obtain ⟨d0, o0⟩ := owned i d o
      exact p3 i d0 o0
    pnd := hpn0.2.1
    refs := R.refs }
theorem fetch_r : ∀ {as : List AA} {avs : List AV}, fetch e as = some avs → ∀ i, AA.r i ∈ as → ∃ d, e[i]? = some (.own d)
  | [], _, _, i, h => nomatch h
  | a :: as, avs, hf, i, h => by
    have rest : ∃ avs', fetch e as = some avs' := by
      cases a with
      | v d => simp only [fetch, Option.map_eq_some_iff] at hf; obtain ⟨x, y, _⟩ := hf; exact ⟨x, y⟩
      | m d => simp only [fetch, Option.map_eq_some_iff] at hf; obtain ⟨x, y, _⟩ := hf; exact ⟨x, y⟩
      | g d => simp only [fetch, Option.map_eq_some_iff] at hf; obtain ⟨x, y, _⟩ := hf; exact ⟨x, y⟩
      | l k => simp only [fetch, Option.bind_eq_some_iff, Option.map_eq_some_iff] at hf; obtain ⟨_, _, x, y, _⟩ := hf; exact ⟨x, y⟩
      | r k =>
        simp only [fetch] at hf
        split at hf
        · simp only [Option.map_eq_some_iff] at hf; obtain ⟨x, y, _⟩ := hf; exact ⟨x, y⟩
        · cases hf
    rcases List.mem_cons.mp h with h | h
    · subst h
      simp only [fetch] at hf
      split at hf
      · rename_i d hd; exact ⟨d, hd⟩
      · cases hf
    · obtain ⟨avs', hf'⟩ := rest
      exact fetch_r hf' i h
end
section
variable {nm : Nat → Str} {ca : Ex → Addr} {G : Gh} {call : CallT} {j : Nat} {refs : List Nat} {W : WX} {X : Cx}
theorem doCall_ok {K : PySem.W.Frag} {P Pn : List (Addr × HO)} {e : Env} {σ : L2.St} {S H : Hp} {f : Nat} {as : List AA} {vs : List V} {Q : VK} (R : Rel K G (Pn ++ P) e σ S H) (ha : AAr K σ S as vs Pn)
    (q : Pst K ca G P W σ S (doCall call f as e) fun p e' S' H' => ∀ v, RV K G P e' σ S' H' p v → Q v H') : spOf K ca call f vs H Q (WE W σ) := by
  unfold doCall at q
  split at q
  · rename_i hn
    split at q
    · exact q.elim
    · rename_i avs hf
      have hpnd := R.pnd
      rw [List.map_append] at hpnd
      have hpn0 := List.nodup_append.mp hpnd
      obtain ⟨B, C, a1, a2, a3, a4, a5⟩ := args_of R (Lent e σ as) ha hf hn (fun q hq => List.mem_append_left _ hq) hpn0.1 (fun i d l h1 h2 h3 => ⟨i, d, h1, h2, h3⟩)
        fun l ⟨i, d, h1, h2, h3⟩ => ⟨i, d, h2, h3, fun z => ixs_lr hn i h1 z⟩
      refine ⟨_, avs, B, C, lendS_le R.sub, a1, a2, ?_⟩
      have hr := fetch_r hf
      split at q
      · exact q.elim
      · rename_i fr d os hc
        rw [hc]
        split at q
        · rename_i e1 hp
          intro v S2 H2 A rv
          obtain ⟨S3, c1, c2, c3, c4, c5, c6⟩ := R.called ha hn a3 a4 a5 A hp hr (okLend fr d && os.all okOut) (fun h => (and2 h).2)
          refine q S3 H2 c1 c2 v ?_
          cases fr with
          | false =>
            have rv : Rep K S2 v d := rv
            show Rep K S3 v d
            cases hth : (okLend false d && os.all okOut) with
            | false => rw [c3 hth]; exact rv
            | true =>
              refine rv.flat (c4 hth) ?_
              have := (and2 hth).1
              unfold okLend at this
              simpa using this
          | true =>
            obtain ⟨l, rfl, o, hB, hl⟩ := rv
            obtain ⟨u, hu, mu⟩ := o.2.some
            refine ⟨l, rfl, ⟨c5 l o.1, ?_⟩, fun i d' o' at' => ?_, fun q hq z => ?_, ?_⟩
            · cases hth : (okLend true d && os.all okOut) with
              | false => rw [c3 hth]; exact o.2
              | true =>
                have h1 := (and2 hth).1
                refine okOut_at (c4 hth) o.2 ?_
                cases d with
                | lst ds =>
                  unfold okLend at h1
                  simpa [flat, okOut] using h1
                | dk ds => cases h1
                | dt ds => cases h1
                | _ => exact o.2.elim
            · obtain ⟨d0, o0⟩ := c6 i d' o'
              obtain ⟨l', x1, x2, x3⟩ := R.own i d0 o0
              have := at_inj at' x1
              subst this
              obtain ⟨u', hu', _⟩ := x2.2.some
              rcases hl with hl | hl
              · rw [hl] at hu'; cases hu'
              · obtain ⟨q, hq, e4⟩ := List.mem_map.mp (a4 l hl)
                subst e4
                exact (R.pen q (List.mem_append_left _ hq)).2.2.1 i d0 o0 at'
            · rcases hl with hl | hl
              · have := (R.pen q (List.mem_append_right _ hq)).1
                rw [z, hl] at this; cases this
              · exact hpn0.2.2 l (a4 l hl) q.1 (List.mem_map.mpr ⟨q, hq, rfl⟩) z.symm
            · rcases hl with hl | hl
              · exact R.gfree hl
              · obtain ⟨q, hq, e4⟩ := List.mem_map.mp (a4 l hl)
                subst e4
                exact (R.pen q (List.mem_append_left _ hq)).2.2.2.1
        · exact q.elim
      · rename_i x os hc
        rw [hc]
        split at q
        · rename_i e1 hp
          intro S2 H2 A
          obtain ⟨S3, c1, c2, c3, c4, c5, c6⟩ := R.called ha hn a3 a4 a5 A hp hr (os.all okOut) (fun h => h)
          exact q S3 H2 c1 c2
        · exact q.elim
  · exact q.elim
theorem s_call {f : Nat} {as : As} {x : Expr} (g : Good nm ca call j X) (tk : Takes X W) (h : mE nm X.N X.env.scope (.call f as) x = true) (ih : ∀ b y, mE nm X.N X.env.scope b y = true → sizeOf b < sizeOf as → PE X y (tE X.K ca G call refs W b)) : PE X x (tE X.K ca G call refs W (.call f as)) := by
  unfold mE at h
  split at h
  · rename_i f' args kw pos
    obtain ⟨h, h5⟩ := and2 h
    obtain ⟨h, h4⟩ := and2 h
    obtain ⟨h, h3⟩ := and2 h
    obtain ⟨h1, h2⟩ := and2 h
    obtain rfl := List.isEmpty_iff.mp h2
    obtain ⟨p, rfl, hg, hok⟩ := isNameB_ok h1
    obtain ⟨k1, k2, k3⟩ := okNm_ok hok
    obtain ⟨pa, st⟩ := sAs (ca := ca) (G := G) (call := call) (refs := refs) (W := W) h5 ih
    obtain ⟨a, fd, ps, m1, m2, m3, m4⟩ := g.calls f (by simpa using h4)
    cases args with
    | nil => cases h3
    | cons y ys =>
      have st1 : starEach (y :: ys) X.env = (false, eval y X.env) :: starEach ys X.env ∧ starEach ys X.env = ys.map fun y => (false, eval y X.env) := by
        cases y <;> first | (refine ⟨rfl, ?_⟩; exact (List.cons.inj st).2) | (have := (List.cons.inj st).1; cases this)
      refine PE.weak (pe_callS m4 g.room hg m1 m2 m3 (passAt tk) pa k1 st1.1 (star_any st1.2)) fun σ H Q ⟨e, S, P, R, q⟩ => ⟨e, S, P, R, ?_⟩
      simp only [evE] at q
      cases hq : evAs call refs as e with
      | bad => rw [hq] at q; exact q.elim
      | exc x e1 => rw [hq] at q; exact fun S' H' Pn hs R1 => q S' H' hs R1.cutP
      | ok l e1 =>
        rw [hq] at q
        intro S' H' Pn hs R1 vs ha
        exact doCall_ok R1 ha (Pst.mono hs q)
  · cases h
end
end Vm

namespace Vm
open PySem PySem.Spec PyProof.Rows L2
/-- the n-th turn -/
def Serve (K : PySem.W.Frag) (S : Hp) (J : It) (n : Nat) (H : Hp) : Option D → Prop
  | some d => J.go n H ∧ ∀ x H', J.yld n H x H' → H' = H ∧ Rep K S x d
  | none => J.stop n H
/-- J serves what the interpreter walks -/
def Walk (K : PySem.W.Frag) (S : Hp) (σ : L2.St) : Wk → It → Prop
  | .st l, J => ∀ H n, Sub S H → Serve K S J n H l[n]?
  | .ow i _, J => ∃ l, At σ i l ∧ J = Itl K l
section
variable {K : PySem.W.Frag} {G : Gh} {P : List (Addr × HO)} {σ σ' : L2.St} {S S0 H : Hp} {e : Env}
theorem Serve.mono {J : It} {n : Nat} {o : Option D} (hs : Sub S0 S) (h : Serve K S0 J n H o) : Serve K S J n H o := by
  cases o with
  | none => exact h
  | some d => exact ⟨h.1, fun x H' y => ⟨(h.2 x H' y).1, (h.2 x H' y).2.mono hs⟩⟩
theorem serve_lst {a : Addr} {vs : List V} {l : List D} {n : Nat} (hq : SqL K H a vs) (r : RepL K S vs l) : Serve K S (Itl K a) n H l[n]? := by
  cases q : l[n]? with
  | none => exact ⟨vs, hq, by rw [r.length]; exact List.getElem?_eq_none_iff.mp q⟩
  | some d =>
    obtain ⟨x, hx1, hx2⟩ := r.get q
    refine ⟨⟨vs, x, hq, hx1⟩, fun y H' ⟨e1, e2⟩ => ?_⟩
    have := e2 vs hq
    rw [hx1] at this; cases this
    exact ⟨e1, hx2⟩
theorem Walk.look {w : Wk} {J : It} {n : Nat} {o : Option D} (h : Walk K S0 σ w J) (hs : Sub S0 S) (R : Rel K G P e σ' S H) (hx : ∀ i ∈ w.ix, σ'[i]? = σ[i]?) (hl : w.look e n = some o) : Serve K S J n H o := by
  cases w with
  | st l =>
    cases hl
    exact (h H n (hs.trans R.sub)).mono hs
  | ow i k =>
    obtain ⟨l, hat, rfl⟩ := h
    unfold Wk.look at hl
    dsimp only at hl
    split at hl
    · rename_i ds hp
      obtain rfl := Option.some.inj hl
      obtain ⟨v, h1, a, vs, rfl, ha, ra⟩ := R.pick hp
      rw [hx i (by simp [Wk.ix])] at h1
      have h2 : σ[i]? = some (some (.ref l)) := hat
      rw [h2] at h1; cases h1
      exact serve_lst (.of ha) ra
    · cases hl
/-- the things of a value -/
theorem walk_lst {a : Addr} {vs : List V} {l : List D} (hq : SqL K S a vs) (r : RepL K S vs l) : Walk K S σ (.st l) (Itl K a) := fun H n hs => serve_lst (sqL_sub hs hq) r
theorem walk_tup {a : Addr} {vs : List V} {l : List D} (ha : S a = some (.tup vs)) (r : RepL K S vs l) : Walk K S σ (.st l) (Itt K a) := by
  intro H n hs
  cases q : l[n]? with
  | none => exact ⟨vs, .of (hs _ _ ha), by rw [r.length]; exact List.getElem?_eq_none_iff.mp q⟩
  | some d =>
    obtain ⟨x, hx1, hx2⟩ := r.get q
    refine ⟨⟨vs, x, .of (hs _ _ ha), hx1⟩, fun y H' ⟨e1, e2⟩ => ?_⟩
    have := e2 vs (.of (hs _ _ ha))
    rw [hx1] at this; cases this
    exact ⟨e1, hx2⟩
theorem walk_str {x : Str} : Walk K S σ (.st (x.cps.toList.map fun c => .str ⟨#[c]⟩)) (Its x) := by
  intro H n hs
  rw [List.getElem?_map]
  cases q : x.cps.toList[n]? with
  | none =>
    have := List.getElem?_eq_none_iff.mp q
    exact (by simpa using this : x.cps.size ≤ n)
  | some c =>
    have hlt := (List.getElem?_eq_some_iff.mp q).1
    refine ⟨(by simpa using hlt : n < x.cps.size), fun y H' ⟨e1, c', h1, h2⟩ => ⟨e1, ?_⟩⟩
    subst h2
    have : c' = c := by
      rw [← Array.getElem?_toList] at h1
      rw [q] at h1; cases h1; rfl
    subst this
    exact .str _
theorem walk_rng {lo : Int} {n : Nat} : Walk K S σ (.st (rngL lo n)) (Itr lo n) := by
  intro H k hs
  unfold rngL
  rw [List.getElem?_map]
  cases q : (List.range n)[k]? with
  | none =>
    have := List.getElem?_eq_none_iff.mp q
    exact (by simpa using this : n ≤ k)
  | some c =>
    have h1 := List.getElem?_eq_some_iff.mp q
    obtain ⟨hlt, h2⟩ := h1
    simp at hlt h2
    subst h2
    refine ⟨hlt, fun y H' ⟨e1, e2⟩ => ⟨e1, ?_⟩⟩
    subst e2
    exact .int _
theorem At.eq {i : Nat} {l : Addr} {v : V} (h : At σ i l) (h' : σ[i]? = some (some v)) : v = .ref l := by
  have h2 : σ[i]? = some (some (.ref l)) := h
  rw [h2] at h'; cases h'; rfl
end
section
variable {nm : Nat → Str} {ca : Ex → Addr} {G : Gh} {call : CallT} {j : Nat} {refs : List Nat} {W : WX} {X : Cx}
theorem PI.weak {tg y : Expr} {t t' : TI} (h : PI X tg y t) (k : ∀ σ H R, t' σ H R → t σ H R) : PI X tg y t' := ⟨fun pins s σ H R I q => h.run pins s σ H R I (k σ H R q)⟩
theorem PI.or3 {tg y : Expr} {t1 t2 t3 : TI} (h1 : PI X tg y t1) (h2 : PI X tg y t2) (h3 : PI X tg y t3) : PI X tg y (fun σ H R => t1 σ H R ∨ t2 σ H R ∨ t3 σ H R) := ⟨fun pins s σ H R I q => by
  rcases q with q | q | q
  · exact h1.run pins s σ H R I q
  · exact h2.run pins s σ H R I q
  · exact h3.run pins s σ H R I q⟩
def tSrc (K : PySem.W.Frag) (ca : Ex → Addr) (G : Gh) (call : CallT) (refs : List Nat) (W : WX) (src : Src) : TI := fun σ H R => ∃ e S P, Rel K G P e σ S H ∧ Pst K ca G P W σ S (evSrc call refs src e) fun w e' S' H' => ∀ J, Walk K S' σ w J → R J H'
theorem sSrc_ex {a : E} {y tg : Expr} (h : PE X y (tE X.K ca G call refs W a)) : PI X tg y (tSrc X.K ca G call refs W (.ex a)) := by
  refine PI.weak (PI.or3 (pi_list h) (pi_tup h) (pi_str h)) fun σ H Rr ⟨e, S, P, R0, q⟩ => ?_
  simp only [evSrc] at q
  cases hq : evE call refs a e with
  | bad => rw [hq] at q; exact q.elim
  | exc x e1 => rw [hq] at q; exact .inl ⟨e, S, P, R0, by rw [hq]; exact q⟩
  | ok p e1 =>
    rw [hq] at q
    obtain ⟨fr, d⟩ := p
    cases hi : itemsD d with
    | none => simp only [Res.bind, hi] at q; exact q.elim
    | some l =>
      have q : ∀ S' H', Sub S S' → Rel X.K G P e1 σ S' H' → ∀ J, Walk X.K S' σ (.st l) J → Rr J H' := by
        simp only [Res.bind, hi] at q
        exact q
      cases d with
      | tup ds =>
        cases hi
        refine .inr (.inl ⟨e, S, P, R0, ?_⟩)
        rw [hq]
        intro S1 H1 hs1 R1 v rv
        obtain ⟨S2, hs2, R2, r2⟩ := R1.rep rv
        cases r2 with
        | tup ha ra => exact ⟨_, rfl, ⟨_, .of (R2.sub _ _ ha)⟩, q S2 H1 (hs1.trans hs2) R2 _ (walk_tup ha ra)⟩
      | lst ds =>
        cases hi
        refine .inl ⟨e, S, P, R0, ?_⟩
        rw [hq]
        intro S1 H1 hs1 R1 v rv
        obtain ⟨S2, hs2, R2, r2⟩ := R1.rep rv
        cases r2 with
        | lst ha ra => exact ⟨_, rfl, ⟨_, .of (R2.sub _ _ ha)⟩, q S2 H1 (hs1.trans hs2) R2 _ (walk_lst (.of ha) ra)⟩
      | sc ds =>
        cases hi
        refine .inl ⟨e, S, P, R0, ?_⟩
        rw [hq]
        intro S1 H1 hs1 R1 v rv
        obtain ⟨S2, hs2, R2, r2⟩ := R1.rep rv
        cases r2 with
        | sc ha => exact ⟨_, rfl, ⟨_, sqL_sub R2.sub ha⟩, q S2 H1 (hs1.trans hs2) R2 _ (walk_lst ha (RepL.ints ds))⟩
      | str z =>
        cases hi
        refine .inr (.inr ⟨e, S, P, R0, ?_⟩)
        rw [hq]
        intro S1 H1 hs1 R1 v rv
        obtain ⟨S2, hs2, R2, r2⟩ := R1.rep rv
        cases r2 with
        | str z => exact ⟨_, rfl, q S2 H1 (hs1.trans hs2) R2 _ walk_str⟩
      | _ => cases hi
theorem sSrc_own {i : Nat} {y tg : Expr} (h : PE X y (tVar i)) : PI X tg y (tSrc X.K ca G call refs W (.own i)) := by
  refine PI.weak (PI.or3 (pi_list h) (pi_tup h) (pi_str h)) fun σ H Rr ⟨e, S, P, R0, q⟩ => ?_
  simp only [evSrc] at q
  split at q
  · rename_i l hl
    obtain ⟨a, hat, ⟨_, vs, ha, ra⟩, _⟩ := R0.own i _ (.inl hl)
    exact .inl ⟨.ref a, hat, a, rfl, ⟨vs, .of ha⟩, q S H (.refl S) R0 _ ⟨a, hat, rfl⟩⟩
  · rename_i d hd
    obtain ⟨v, hv, r⟩ := R0.val i d hd
    cases hi : itemsD d with
    | none => simp only [hi] at q; exact q.elim
    | some l =>
      simp only [hi] at q
      have q0 : ∀ J, Walk X.K S σ (.st l) J → Rr J H := q S H (.refl S) R0
      cases r with
      | tup ha ra => cases hi; exact .inr (.inl ⟨_, hv, _, rfl, ⟨_, .of (R0.sub _ _ ha)⟩, q0 _ (walk_tup ha ra)⟩)
      | lst ha ra => cases hi; exact .inl ⟨_, hv, _, rfl, ⟨_, .of (R0.sub _ _ ha)⟩, q0 _ (walk_lst (.of ha) ra)⟩
      | sc ha => cases hi; exact .inl ⟨_, hv, _, rfl, ⟨_, sqL_sub R0.sub ha⟩, q0 _ (walk_lst ha (RepL.ints _))⟩
      | str z => cases hi; exact .inr (.inr ⟨_, hv, _, rfl, q0 _ walk_str⟩)
      | _ => cases hi
  · exact q.elim
theorem sSrc_rng {es : Es} {args : List Expr} {p pos : Pos} {tg : Expr} (g : Good nm ca call j X) (hg : Gl X "range") (hr : rngE es = true) (h : mEs nm X.N X.env.scope es args = true) (ih : ∀ a y, mE nm X.N X.env.scope a y = true → sizeOf a < sizeOf es → PE X y (tE X.K ca G call refs W a)) :
    PI X tg (.Call (.Name "range" p) args [] pos) (tSrc X.K ca G call refs W (.rng es)) := by
  have hp := sPs (ca := ca) (G := G) (call := call) (refs := refs) (W := W) h ih
  have hst := mEs_stars (env := X.env) h
  cases es with
  | nil => cases hr
  | cons a r => cases r with
    | nil =>
      obtain ⟨y, ys, rfl, m1, h⟩ := mEs_cons h
      obtain rfl := mEs_nil h
      refine PI.weak (pi_range1 hg (g.free "range" (by simp [freeNames])) hp hst) fun σ H Rr ⟨e, S, P, R0, q⟩ => ⟨e, S, P, R0, ?_⟩
      simp only [evSrc] at q
      exact (Pst.bind q).imp fun os e1 S1 H1 hs1 R1 q1 vs ov => by
        obtain ⟨ds, sl, q2⟩ := opn_some R1 ov q1
        split at q2
        case isFalse => exact q2.elim
        rename_i hrk
        unfold rngD at q2
        split at q2
        · rename_i n
          by_cases hn : n < 2 ^ 20 ∧ -(2 ^ 62) ≤ n
          · rw [if_pos hn] at q2
            obtain ⟨v, rfl, s1⟩ := sl.one
            obtain rfl := see_int s1
            exact ⟨n, rfl, hn.2, by omega, q2 S1 H1 (.refl S1) R1 _ walk_rng⟩
          · rw [if_neg hn] at q2; exact q2.elim
        · -- two
          cases hrk
        · exact q2.elim
    | cons b r => cases r with
      | cons _ _ => cases hr
      | nil =>
        obtain ⟨y, ys, rfl, m1, h⟩ := mEs_cons h
        obtain ⟨z, zs, rfl, m2, h⟩ := mEs_cons h
        obtain rfl := mEs_nil h
        refine PI.weak (pi_range2 hg (g.free "range" (by simp [freeNames])) hp hst (by rw [plain_star (mE_plain m2)]; rfl)) fun σ H Rr ⟨e, S, P, R0, q⟩ => ⟨e, S, P, R0, ?_⟩
        simp only [evSrc] at q
        exact (Pst.bind q).imp fun os e1 S1 H1 hs1 R1 q1 vs ov => by
          obtain ⟨ds, sl, q2⟩ := opn_some R1 ov q1
          split at q2
          case isFalse => exact q2.elim
          rename_i hrk
          unfold rngD at q2
          split at q2
          · cases hrk
          · rename_i n m
            by_cases hn : (-(2 ^ 61) ≤ n ∧ n < 2 ^ 61 ∧ -(2 ^ 61) ≤ m ∧ m < 2 ^ 61) ∧ m - n < 2 ^ 20
            · rw [if_pos hn] at q2
              obtain ⟨v, w, rfl, s1, s2⟩ := sl.two
              obtain rfl := see_int s1
              obtain rfl := see_int s2
              exact ⟨n, m, rfl, by omega, q2 S1 H1 (.refl S1) R1 _ walk_rng⟩
            · rw [if_neg hn] at q2; exact q2.elim
          · exact q2.elim
end
end Vm

namespace Vm
open PySem PySem.Spec PyProof.Rows L2
section
variable {K : PySem.W.Frag} {G : Gh} {P : List (Addr × HO)} {σ σ' : L2.St} {S S0 H : Hp} {e : Env}
/-- a value is stored -/
theorem Rel.sto (R : Rel K G P e σ S H) {i : Nat} {v : V} {d : D} (r : Rep K S v d) (hi : i < e.length) (hr : ∀ r ∈ G.R, r.1 ≠ i) : Rel K G P (e.set i (.val d)) (σ.set i (some v)) S H := by
  have hs : i < σ.length := by rw [← R.len]; exact hi
  have old : ∀ {k d'}, IsOwn (e.set i (.val d)) k d' → k ≠ i ∧ IsOwn e k d' := fun {k d'} q => by
    by_cases z : k = i
    · subst z
      rcases q with q | q <;> (rw [List.getElem?_set_self hi] at q; cases q)
    · refine ⟨z, ?_⟩
      rcases q with q | q
      · rw [List.getElem?_set_ne (Ne.symm z)] at q; exact .inl q
      · rw [List.getElem?_set_ne (Ne.symm z)] at q; exact .inr q
  have at' : ∀ {k l}, k ≠ i → At (σ.set i (some v)) k l → At σ k l := fun {k l} z q => by
    have q : (σ.set i (some v))[k]? = some (some (.ref l)) := q
    rw [List.getElem?_set_ne (Ne.symm z)] at q; exact q
  exact {
    sub := R.sub, fr := R.fr, s0 := R.s0, new := R.new
    len := by rw [List.length_set, List.length_set]; exact R.len
    val := fun k d' q => by
      by_cases z : k = i
      · subst z
        rw [List.getElem?_set_self hi] at q; cases q
        exact ⟨v, by rw [List.getElem?_set_self hs], r⟩
      · rw [List.getElem?_set_ne (Ne.symm z)] at q ⊢
        exact R.val k d' q
    own := fun k d' q => by
      obtain ⟨z, q⟩ := old q
      obtain ⟨l, a, o, g⟩ := R.own k d' q
      refine ⟨l, ?_, o, g⟩
      show (σ.set i (some v))[k]? = _
      rw [List.getElem?_set_ne (Ne.symm z)]; exact a
    sep := fun a b d1 d2 l q1 q2 h1 h2 => R.sep a b d1 d2 l (old q1).2 (old q2).2 (at' (old q1).1 h1) (at' (old q2).1 h2)
    pen := fun q hq => let ⟨a, b, c, x⟩ := R.pen q hq; ⟨a, b, fun k d' z w => c k d' (old z).2 (at' (old z).1 w), x⟩
    pnd := R.pnd
    refs := fun r hr' => by
      show (σ.set i (some v))[r.1]? = _
      rw [List.getElem?_set_ne (Ne.symm (hr r hr'))]; exact R.refs r hr' }
/-- a new list is stored -/
theorem Rel.stoOwn (R : Rel K G P e σ S H) {i : Nat} {l : Addr} {d : D} (F : Fre K G P e σ S H l d) (hi : i < e.length) (hr : ∀ r ∈ G.R, r.1 ≠ i) : Rel K G P (e.set i (.own d)) (σ.set i (some (.ref l))) S H := by
  have hs : i < σ.length := by rw [← R.len]; exact hi
  have old : ∀ {k d'}, IsOwn (e.set i (.own d)) k d' → (k = i ∧ d' = d) ∨ (k ≠ i ∧ IsOwn e k d') := fun {k d'} q => by
    by_cases z : k = i
    · subst z
      rcases q with q | q
      · rw [List.getElem?_set_self hi] at q; cases q; exact .inl ⟨rfl, rfl⟩
      · rw [List.getElem?_set_self hi] at q; cases q
    · refine .inr ⟨z, ?_⟩
      rcases q with q | q
      · rw [List.getElem?_set_ne (Ne.symm z)] at q; exact .inl q
      · rw [List.getElem?_set_ne (Ne.symm z)] at q; exact .inr q
  have at' : ∀ {k l'}, k ≠ i → At (σ.set i (some (.ref l))) k l' → At σ k l' := fun {k l'} z q => by
    have q : (σ.set i (some (.ref l)))[k]? = some (some (.ref l')) := q
    rw [List.getElem?_set_ne (Ne.symm z)] at q; exact q
  have ati : ∀ {l'}, At (σ.set i (some (.ref l))) i l' → l' = l := fun {l'} q => by
    have q : (σ.set i (some (.ref l)))[i]? = some (some (.ref l')) := q
    rw [List.getElem?_set_self hs] at q; cases q; rfl
  exact {
    sub := R.sub, fr := R.fr, s0 := R.s0, new := R.new
    len := by rw [List.length_set, List.length_set]; exact R.len
    val := fun k d' q => by
      by_cases z : k = i
      · subst z
        rw [List.getElem?_set_self hi] at q; cases q
      · rw [List.getElem?_set_ne (Ne.symm z)] at q ⊢
        exact R.val k d' q
    own := fun k d' q => by
      rcases old q with ⟨rfl, rfl⟩ | ⟨z, q⟩
      · refine ⟨l, ?_, F.own, F.gh⟩
        show (σ.set k (some (.ref l)))[k]? = _
        rw [List.getElem?_set_self hs]
      · obtain ⟨l', a, o, g⟩ := R.own k d' q
        refine ⟨l', ?_, o, g⟩
        show (σ.set i (some (.ref l)))[k]? = _
        rw [List.getElem?_set_ne (Ne.symm z)]; exact a
    sep := fun a b d1 d2 l' q1 q2 h1 h2 => by
      rcases old q1 with ⟨rfl, rfl⟩ | ⟨z1, o1⟩
      · rcases old q2 with ⟨rfl, rfl⟩ | ⟨z2, o2⟩
        · rfl
        · have := ati h1
          subst this
          exact absurd (at' z2 h2) (F.noe b d2 o2)
      · rcases old q2 with ⟨rfl, rfl⟩ | ⟨z2, o2⟩
        · have := ati h2
          subst this
          exact absurd (at' z1 h1) (F.noe a d1 o1)
        · exact R.sep a b d1 d2 l' o1 o2 (at' z1 h1) (at' z2 h2)
    pen := fun q hq => by
      obtain ⟨a, b, c, x⟩ := R.pen q hq
      refine ⟨a, b, fun k d' z w => ?_, x⟩
      rcases old z with ⟨rfl, rfl⟩ | ⟨z1, q1⟩
      · exact F.nop q hq (ati w)
      · exact c k d' q1 (at' z1 w)
    pnd := R.pnd
    refs := fun r hr' => by
      show (σ.set i (some (.ref l)))[r.1]? = _
      rw [List.getElem?_set_ne (Ne.symm (hr r hr'))]; exact R.refs r hr' }
theorem clr_len : ∀ {ts : List Nat} {e : Env}, (clr ts e).length = e.length
  | [], _ => rfl
  | i :: r, e => by show ((clr r e).set i .emp).length = _; rw [List.length_set, clr_len]
theorem clr_get : ∀ {ts : List Nat} {e : Env} {i : Nat} {s : Slot}, (clr ts e)[i]? = some s → (i ∈ ts ∧ s = .emp) ∨ (i ∉ ts ∧ e[i]? = some s)
  | [], e, i, s, h => .inr ⟨by simp, h⟩
  | k :: r, e, i, s, h => by
    have h : ((clr r e).set k .emp)[i]? = some s := h
    by_cases z : k = i
    · subst z
      have hlt : k < (clr r e).length := by
        have := (List.getElem?_eq_some_iff.mp h).1
        rwa [List.length_set] at this
      rw [List.getElem?_set_self hlt] at h; cases h
      exact .inl ⟨List.mem_cons_self, rfl⟩
    · rw [List.getElem?_set_ne z] at h
      rcases clr_get h with ⟨h1, h2⟩ | ⟨h1, h2⟩
      · exact .inl ⟨List.mem_cons_of_mem _ h1, h2⟩
      · exact .inr ⟨fun w => by rcases List.mem_cons.mp w with w | w; exact z w.symm; exact h1 w, h2⟩
theorem clr_out : ∀ {ts : List Nat} {e : Env} {i : Nat}, i ∉ ts → (clr ts e)[i]? = e[i]?
  | [], _, _, _ => rfl
  | k :: r, e, i, h => by
    show ((clr r e).set k .emp)[i]? = _
    rw [List.getElem?_set_ne (fun (z : k = i) => h (by rw [z]; exact List.mem_cons_self)), clr_out fun w => h (List.mem_cons_of_mem _ w)]
theorem Rel.wipe (R : Rel K G P e σ S H) {ts : List Nat} (hr : ∀ r ∈ G.R, r.1 ∉ ts) : Rel K G P (clr ts e) (L2.wipe σ ts) S H := by
  have old : ∀ {k d}, IsOwn (clr ts e) k d → k ∉ ts ∧ IsOwn e k d := fun {k d} q => by
    rcases q with q | q
    · rcases clr_get q with ⟨_, z⟩ | ⟨h1, h2⟩
      · cases z
      · exact ⟨h1, .inl h2⟩
    · rcases clr_get q with ⟨_, z⟩ | ⟨h1, h2⟩
      · cases z
      · exact ⟨h1, .inr h2⟩
  have at' : ∀ {k l}, k ∉ ts → At (L2.wipe σ ts) k l → At σ k l := fun {k l} z q => by
    have q : (L2.wipe σ ts)[k]? = some (some (.ref l)) := q
    rw [wipe_out z] at q; exact q
  exact {
    sub := R.sub, fr := R.fr, s0 := R.s0, new := R.new
    len := by rw [clr_len, wipe_length]; exact R.len
    val := fun k d q => by
      rcases clr_get q with ⟨_, z⟩ | ⟨h1, h2⟩
      · cases z
      · obtain ⟨v, a, r⟩ := R.val k d h2
        exact ⟨v, by rw [wipe_out h1]; exact a, r⟩
    own := fun k d q => by
      obtain ⟨z, q⟩ := old q
      obtain ⟨l, a, o, g⟩ := R.own k d q
      exact ⟨l, by show (L2.wipe σ ts)[k]? = _; rw [wipe_out z]; exact a, o, g⟩
    sep := fun a b d1 d2 l q1 q2 h1 h2 => R.sep a b d1 d2 l (old q1).2 (old q2).2 (at' (old q1).1 h1) (at' (old q2).1 h2)
    pen := fun q hq => let ⟨a, b, c, x⟩ := R.pen q hq; ⟨a, b, fun k d' z w => c k d' (old z).2 (at' (old z).1 w), x⟩
    pnd := R.pnd
    refs := fun r hr' => by
      show (L2.wipe σ ts)[r.1]? = _
      rw [wipe_out (hr r hr')]; exact R.refs r hr' }
/-- a waiting list is changed -/
theorem Rel.putP {l : Addr} {u u' : HO} (R : Rel K G ((l, u) :: P) e σ S H) (mu : Mut (some u')) : Rel K G ((l, u') :: P) e σ S (upd H l u') := by
  obtain ⟨p1, p2, p3, p4, p5⟩ := R.pen (l, u) List.mem_cons_self
  have nd := List.nodup_cons.mp R.pnd
  exact {
    sub := R.sub.updR p2
    fr := fun b o hb hB => by
      have : b ≠ l := fun z => by
        subst z
        rcases p4 with p4 | p4
        · have p4 : G.H b = none := p4
          rw [p4] at hb; cases hb
        · exact hB p4
      rw [upd_ne this]; exact R.fr b o hb hB
    s0 := R.s0, new := R.new, len := R.len, val := R.val
    own := fun k d q => by
      obtain ⟨l', a, o, g⟩ := R.own k d q
      have : l' ≠ l := fun z => p3 k d q (z ▸ a)
      exact ⟨l', a, ⟨o.1, o.2.mono (.refl S) (upd_ne this)⟩, g⟩
    sep := R.sep
    pen := fun q hq => by
      rcases List.mem_cons.mp hq with rfl | hq
      · exact ⟨upd_same, p2, p3, p4, mu⟩
      · obtain ⟨a, b⟩ := R.pen q (List.mem_cons_of_mem _ hq)
        have : q.1 ≠ l := fun z => nd.1 (List.mem_map.mpr ⟨q, hq, z⟩)
        exact ⟨by rw [upd_ne this]; exact a, b⟩
    pnd := R.pnd, refs := R.refs }
theorem back_len : ∀ {ts : List Nat} {e2 : Env}, (back e ts e2).length = e2.length
  | [], _ => rfl
  | i :: r, e2 => by show ((back e r e2).set i _).length = _; rw [List.length_set, back_len]
theorem back_get : ∀ {ts : List Nat} {e2 : Env} {i : Nat} {s : Slot}, e2.length = e.length → (back e ts e2)[i]? = some s → (i ∈ ts ∧ e[i]? = some s) ∨ (i ∉ ts ∧ e2[i]? = some s)
  | [], e2, i, s, _, h => .inr ⟨by simp, h⟩
  | k :: r, e2, i, s, hle, h => by
    have h : ((back e r e2).set k (e.getD k .emp))[i]? = some s := h
    by_cases z : k = i
    · subst z
      have hlt : k < (back e r e2).length := by
        have := (List.getElem?_eq_some_iff.mp h).1
        rwa [List.length_set] at this
      rw [List.getElem?_set_self hlt] at h
      rw [back_len, hle] at hlt
      refine .inl ⟨List.mem_cons_self, ?_⟩
      rw [List.getD_eq_getElem?_getD, List.getElem?_eq_getElem hlt] at h
      rw [List.getElem?_eq_getElem hlt]; exact h
    · rw [List.getElem?_set_ne z] at h
      rcases back_get hle h with ⟨h1, h2⟩ | ⟨h1, h2⟩
      · exact .inl ⟨List.mem_cons_of_mem _ h1, h2⟩
      · exact .inr ⟨fun w => by rcases List.mem_cons.mp w with w | w; exact z w.symm; exact h1 w, h2⟩
/-- behind a block -/
theorem Rel.back {H0 : Hp} {P0 : List (Addr × HO)} {e2 : Env} {ts refs : List Nat} (R0 : Rel K G P0 e σ S0 H0) (hs : Sub S0 S) (hk : hideOk refs ts e = true) (R : Rel K G P (clr ts e2) (L2.wipe σ ts) S H) :
    Rel K G P (Vm.back e ts e2) σ S H ∧ ∀ k d, IsOwn (Vm.back e ts e2) k d → k ∉ ts ∧ IsOwn (clr ts e2) k d := by
  have le : e2.length = e.length := by
    have := R.len
    rw [clr_len, wipe_length] at this
    rw [this, R0.len]
  have key : ∀ {i : Nat} {s : Slot}, (Vm.back e ts e2)[i]? = some s → (i ∈ ts ∧ e[i]? = some s ∧ (s = .emp ∨ ∃ d, s = .val d)) ∨ (i ∉ ts ∧ (clr ts e2)[i]? = some s) := fun {i s} h => by
    rcases back_get le h with ⟨h1, h2⟩ | ⟨h1, h2⟩
    · refine .inl ⟨h1, h2, ?_⟩
      have := (and2 (List.all_eq_true.mp hk i h1)).2
      rw [h2] at this
      cases s with
      | emp => exact .inl rfl
      | val d => exact .inr ⟨d, rfl⟩
      | _ => cases this
    · exact .inr ⟨h1, by rw [clr_out h1]; exact h2⟩
  have old : ∀ k d, IsOwn (Vm.back e ts e2) k d → k ∉ ts ∧ IsOwn (clr ts e2) k d := fun k d q => by
    rcases q with q | q
    · rcases key q with ⟨_, _, z | ⟨_, z⟩⟩ | ⟨h1, h2⟩
      · cases z
      · cases z
      · exact ⟨h1, .inl h2⟩
    · rcases key q with ⟨_, _, z | ⟨_, z⟩⟩ | ⟨h1, h2⟩
      · cases z
      · cases z
      · exact ⟨h1, .inr h2⟩
  have at' : ∀ {k l}, k ∉ ts → At σ k l → At (L2.wipe σ ts) k l := fun {k l} z q => by
    show (L2.wipe σ ts)[k]? = _
    rw [wipe_out z]; exact q
  refine ⟨{
    sub := R.sub, fr := R.fr, s0 := R.s0, new := R.new
    len := by rw [back_len, le]; exact R0.len
    val := fun k d q => by
      rcases key q with ⟨h1, h2, _⟩ | ⟨h1, h2⟩
      · obtain ⟨v, a, r⟩ := R0.val k d h2
        exact ⟨v, a, r.mono hs⟩
      · obtain ⟨v, a, r⟩ := R.val k d h2
        rw [wipe_out h1] at a
        exact ⟨v, a, r⟩
    own := fun k d q => by
      obtain ⟨z, q⟩ := old k d q
      obtain ⟨l, a, o, g⟩ := R.own k d q
      have a : (L2.wipe σ ts)[k]? = some (some (.ref l)) := a
      rw [wipe_out z] at a
      exact ⟨l, a, o, g⟩
    sep := fun a b d1 d2 l q1 q2 h1 h2 => R.sep a b d1 d2 l (old _ _ q1).2 (old _ _ q2).2 (at' (old _ _ q1).1 h1) (at' (old _ _ q2).1 h2)
    pen := fun q hq => let ⟨a, b, c, x⟩ := R.pen q hq; ⟨a, b, fun k d' z w => c k d' (old _ _ z).2 (at' (old _ _ z).1 w), x⟩
    pnd := R.pnd
    refs := R0.refs }, old⟩
end
/-! ### targets -/
def gNs : List Nat → TGs
  | [] => gNil
  | i :: r => gCons (gName i) (gNs r)
def gT (K : PySem.W.Frag) (tp : Bool) (ts : List Nat) : TG := match tp, ts with
  | false, [i] => gName i
  | false, _ => fun _ _ _ _ => False
  | true, ts => gTup K ts.length (gNs ts)
section
variable {X : Cx}
theorem stoB_pg {fn : Str → Bool} {i : Nat} {y : Expr} (hnd : X.N.Nodup) (hf : ∀ x, fn x = true → X.fn x = true) (h : stoB X.N fn X.env.scope i y = true) : PG X y (gName i) ∧ (assignEach [y] X.env) = [(false, assign y X.env)] := by
  unfold stoB at h
  split at h
  · rename_i x pos
    obtain ⟨h, h4⟩ := and2 h
    obtain ⟨h, h3⟩ := and2 h
    obtain ⟨h1, h2⟩ := and2 h
    refine ⟨pg_name hnd (of_decide_eq_true h1) (locB_ok h2) ?_, rfl⟩
    rcases Bool.or_eq_true_iff.mp h4 with z | z
    · exact .inl (hf _ z)
    · exact .inr (of_decide_eq_true z)
  · cases h
theorem stosB_pg {fn : Str → Bool} (hnd : X.N.Nodup) (hf : ∀ x, fn x = true → X.fn x = true) : ∀ {ts : List Nat} {l : List Expr}, stosB X.N fn X.env.scope ts l = true → PGs X l (gNs ts) ∧ (assignEach l X.env).length = ts.length ∧ (assignEach l X.env).findIdx? (·.1) = none
  | [], l, h => by
    unfold stosB at h
    obtain rfl := List.isEmpty_iff.mp h
    exact ⟨pgs_nil, rfl, rfl⟩
  | i :: ts, l, h => by
    unfold stosB at h
    split at h
    · rename_i y ys
      obtain ⟨h1, h2⟩ := and2 h
      obtain ⟨p, e1⟩ := stoB_pg hnd hf h1
      obtain ⟨ps, e2, e3⟩ := stosB_pg hnd hf h2
      have e0 : assignEach (y :: ys) X.env = (false, assign y X.env) :: assignEach ys X.env := by
        unfold stoB at h1
        split at h1
        · rfl
        · cases h1
      refine ⟨pgs_cons p ps (by rw [e0]; rfl), by rw [e0, List.length_cons, e2, List.length_cons], ?_⟩
      rw [e0, List.findIdx?_cons]
      simp [e3]
    · cases h
theorem tgtB_pg {fn : Str → Bool} {tp : Bool} {ts : List Nat} {y : Expr} (hc : X.calm = true) (hnd : X.N.Nodup) (hf : ∀ x, fn x = true → X.fn x = true) (h : tgtB X.N fn X.env.scope tp ts y = true) : PG X y (gT X.K tp ts) := by
  unfold tgtB at h
  cases tp with
  | false =>
    dsimp only at h
    split at h
    · exact (stoB_pg hnd hf h).1
    · cases h
  | true =>
    dsimp only at h
    split at h
    · obtain ⟨h1, h2, h3⟩ := stosB_pg hnd hf h
      exact pg_tup hc h1 h2 h3
    · cases h
end
section
variable {K : PySem.W.Frag} {G : Gh} {P : List (Addr × HO)} {σ : L2.St} {S H : Hp} {e e1 : Env} {refs : List Nat}
theorem sto_ok {i : Nat} {s : Slot} {r : Env} (h : Vm.sto refs i s e = .ok () r) : i ∉ refs ∧ i < e.length ∧ r = e.set i s := by
  unfold Vm.sto at h
  split at h
  · cases h
  · rename_i z
    cases h
    exact ⟨fun w => z (.inl w), by rcases Nat.lt_or_ge i e.length with w | w; exact w; exact absurd (.inr w) z, rfl⟩
theorem stoL_run (hR : ∀ r ∈ G.R, r.1 ∈ refs) {Q : L2.St → Hp → Prop} : ∀ {ts : List Nat} {vs : List V} {ds : List D} {e : Env} {σ : L2.St}, Rel K G P e σ S H → RepL K S vs ds → stoL refs ts ds e = .ok () e1 →
    (∀ σ2, Rel K G P e1 σ2 S H → σ2.length = σ.length → (∀ i, i ∉ ts → σ2[i]? = σ[i]?) → Q σ2 H) → gNs ts vs σ H Q
  | [], _, _, e, σ, R, .nil, h, k => by
    cases h
    exact ⟨rfl, k σ R rfl fun _ _ => rfl⟩
  | i :: ts, _, _, e, σ, R, .cons (v := v) (d := d) r rs, h, k => by
    simp only [stoL] at h
    cases hq : Vm.sto refs i (.val d) e with
    | bad => rw [hq] at h; cases h
    | exc x e' => rw [hq] at h; cases h
    | ok a e2 =>
      rw [hq] at h
      obtain ⟨h1, h2, rfl⟩ := sto_ok hq
      refine ⟨v, _, rfl, ?_⟩
      show gNs ts _ (σ.set i (some v)) H Q
      refine stoL_run hR (R.sto r h2 fun r hr z => h1 (z ▸ hR r hr)) rs h fun σ2 R2 hl hx => k σ2 R2 (hl.trans (List.length_set ..)) fun k' hk => ?_
      rw [hx k' fun w => hk (List.mem_cons_of_mem _ w), List.getElem?_set_ne (fun z => hk (by rw [← z]; exact List.mem_cons_self))]
  | [], _, _, e, σ, R, .cons _ _, h, k => by cases h
  | _ :: _, _, _, e, σ, R, .nil, h, k => by cases h
theorem stoL_len : ∀ {ts : List Nat} {ds : List D} {e : Env}, stoL refs ts ds e = .ok () e1 → ds.length = ts.length
  | [], [], _, _ => rfl
  | i :: ts, d :: ds, e, h => by
    simp only [stoL] at h
    cases hq : Vm.sto refs i (.val d) e with
    | bad => rw [hq] at h; cases h
    | exc x e' => rw [hq] at h; cases h
    | ok a e2 => rw [hq] at h; rw [List.length_cons, List.length_cons, stoL_len h]
  | [], _ :: _, _, h => by cases h
  | _ :: _, [], _, h => by cases h
theorem stoT_run (hR : ∀ r ∈ G.R, r.1 ∈ refs) {tp : Bool} {ts : List Nat} {v : V} {d : D} (R : Rel K G P e σ S H) (r : Rep K S v d) (h : stoT refs tp ts d e = .ok () e1) {Q : L2.St → Hp → Prop}
    (k : ∀ σ2, Rel K G P e1 σ2 S H → σ2.length = σ.length → (∀ i, i ∉ ts → σ2[i]? = σ[i]?) → Q σ2 H) : gT K tp ts v σ H Q := by
  unfold stoT at h
  split at h
  · rename_i i _
    obtain ⟨h1, h2, rfl⟩ := sto_ok h
    exact k _ (R.sto r h2 fun r hr z => h1 (z ▸ hR r hr)) (List.length_set ..) fun k' hk => List.getElem?_set_ne (fun z => hk (by rw [← z]; exact List.mem_cons_self))
  · rename_i l
    cases r with
    | tup ha ra => exact ⟨_, _, rfl, .of (R.sub _ _ ha), by rw [ra.length, stoL_len h], stoL_run hR R ra h k⟩
  · cases h
end
end Vm

namespace Vm
open PySem PySem.Spec PyProof.Rows L2
def IH (nm : Nat → Str) (ca : Ex → Addr) (call : CallT) (j : Nat) (n : Nat) : Prop := ∀ (a : E), sizeOf a < n → ∀ (X : Cx) (G : Gh) (refs : List Nat) (W : WX), Good nm ca call j X → Takes X W → (∀ r ∈ G.R, r.1 ∈ refs) →
  ∀ x, mE nm X.N X.env.scope a x = true → PE X x (tE X.K ca G call refs W a) ∧ (tstB a = true → PT X x (tT X.K ca G call refs W a))
section
variable {elt : Env → Res (Bool × D)} {cond : Env → Res Bool} {st : D → Env → Res Unit} {w : Wk}
theorem compL_ok {k i : Nat} {e e2 : Env} {l : List D} (h : compL elt cond st w (k + 1) i e = .ok l e2) : (w.look e i = some none ∧ l = [] ∧ e2 = e) ∨ ∃ d e3 b e4, w.look e i = some (some d) ∧ st d e = .ok () e3 ∧ cond e3 = .ok b e4 ∧
    ((b = false ∧ compL elt cond st w k (i + 1) e4 = .ok l e2) ∨ (b = true ∧ ∃ p e5 l3, elt e4 = .ok p e5 ∧ compL elt cond st w k (i + 1) e5 = .ok l3 e2 ∧ l = p.2 :: l3)) := by
  unfold compL at h
  split at h
  · rename_i h1; cases h; exact .inl ⟨h1, rfl, rfl⟩
  · rename_i d h1
    split at h
    · rename_i e3 h2
      split at h
      · rename_i e4 h3
        split at h
        · rename_i p e5 h4
          split at h
          · rename_i l3 e6 h5
            cases h
            exact .inr ⟨d, e3, true, e4, h1, h2, h3, .inr ⟨rfl, p, e5, l3, h4, h5, rfl⟩⟩
          · cases h
        · cases h
      · rename_i e4 h3
        exact .inr ⟨d, e3, false, e4, h1, h2, h3, .inl ⟨rfl, h⟩⟩
      · cases h
    · cases h
  · cases h
theorem compL_ok0 {i : Nat} {e e2 : Env} {l : List D} (h : compL elt cond st w 0 i e = .ok l e2) : w.look e i = some none ∧ l = [] ∧ e2 = e := by
  unfold compL at h
  split at h
  · rename_i h1; cases h; exact ⟨h1, rfl, rfl⟩
  · cases h
end
theorem look_clr {w : Wk} {ts : List Nat} {e : Env} {n : Nat} (h : ∀ i ∈ w.ix, i ∉ ts) : w.look (clr ts e) n = w.look e n := by
  cases w with
  | st l => rfl
  | ow i k =>
    unfold Wk.look
    dsimp only
    have : pk (clr ts e) i = pk e i := by unfold pk; rw [clr_out (h i (by simp [Wk.ix]))]
    rw [this]
theorem wipe_eq {σ σ2 : L2.St} {ts : List Nat} (hl : σ2.length = σ.length) (h : ∀ i, i ∉ ts → σ2[i]? = σ[i]?) : L2.wipe σ2 ts = L2.wipe σ ts := by
  have key : ∀ {σ : L2.St} {ts : List Nat} {i : Nat}, i ∈ ts → i < σ.length → (L2.wipe σ ts)[i]? = some none := by
    intro σ ts
    induction ts with
    | nil => intro i h; cases h
    | cons k r ih =>
      intro i h hlt
      show ((L2.wipe σ r).set k none)[i]? = _
      by_cases z : k = i
      · subst z; rw [List.getElem?_set_self (by rw [wipe_length]; exact hlt)]
      · rw [List.getElem?_set_ne z]
        rcases List.mem_cons.mp h with h | h
        · exact absurd h.symm z
        · exact ih h hlt
  refine List.ext_getElem? fun i => ?_
  by_cases hi : i ∈ ts
  · by_cases hlt : i < σ.length
    · rw [key hi hlt, key hi (by rw [hl]; exact hlt)]
    · rw [List.getElem?_eq_none (by rw [wipe_length, hl]; omega), List.getElem?_eq_none (by rw [wipe_length]; omega)]
  · rw [wipe_out hi, wipe_out hi, h i hi]
theorem wipe_idem {σ : L2.St} {ts : List Nat} : L2.wipe (L2.wipe σ ts) ts = L2.wipe σ ts := wipe_eq (wipe_length ..) fun i h => wipe_out h
theorem own_ts {N : List Str} : ∀ {ts : List Nat}, (ts.filterMap fun i => (N[i]?).map fun x => (x, i)).length = ts.length → (ts.filterMap fun i => (N[i]?).map fun x => (x, i)).map (·.2) = ts
  | [], _ => rfl
  | i :: r, h => by
    cases hN : N[i]? with
    | none =>
      rw [List.filterMap_cons, hN] at h
      have : (List.filterMap (fun i => Option.map (fun x => (x, i)) N[i]?) r).length ≤ r.length := List.length_filterMap_le ..
      simp at h
      omega
    | some x =>
      rw [List.filterMap_cons, hN] at h ⊢
      simp only [Option.map_some, List.map_cons] at h ⊢
      rw [own_ts (by simpa using h)]
section
variable {nm : Nat → Str} {ca : Ex → Addr} {G : Gh} {call : CallT} {j : Nat} {refs : List Nat} {W : WX} {X : Cx}
theorem Good.blk (g : Good nm ca call j X) (s : Shared) (H : Hp) (scope : Scope) (cenv : PySem.Env) (fp : List Addr) : Good nm ca call j (X.blk s H scope cenv fp) := ⟨g.calm, g.nd, g.room, g.calls, g.free⟩
theorem mSrc_plain {N : List Str} {sc : Scope} {src : Src} {y : Expr} (h : mSrc nm N sc src y = true) : plainX y = true := by
  unfold mSrc at h
  split at h
  · exact mE_plain h
  · split at h
    · rfl
    · cases h
  · split at h
    · rfl
    · cases h
  · cases h
theorem sSrc {n : Nat} (g : Good nm ca call j X) (tk : Takes X W) (hR : ∀ r ∈ G.R, r.1 ∈ refs) (ih : IH nm ca call j n) {src : Src} (hn : sizeOf src ≤ n) {y tg : Expr} (h : mSrc nm X.N X.env.scope src y = true) : PI X tg y (tSrc X.K ca G call refs W src) := by
  unfold mSrc at h
  split at h
  · exact sSrc_ex (ih _ (by simp at hn; omega) X G refs W g tk hR _ h).1
  · split at h
    · exact sSrc_own (pe_name h)
    · cases h
  · split at h
    · obtain ⟨h, h4⟩ := and2 h
      obtain ⟨h, h3⟩ := and2 h
      obtain ⟨h1, h2⟩ := and2 h
      obtain rfl := List.isEmpty_iff.mp h2
      obtain ⟨p, rfl, hg, hok⟩ := isNameB_ok h1
      exact sSrc_rng g hg h3 h4 fun a y m hz => (ih a (by simp at hn; omega) X G refs W g tk hR y m).1
    · cases h
  · cases h
/-- a clause's test -/
def tCond (K : PySem.W.Frag) (ca : Ex → Addr) (G : Gh) (call : CallT) (refs : List Nat) (W : WX) (cond : Eo) : TT := fun σ H Q => ∃ e S P, Rel K G P e σ S H ∧ Pst K ca G P W σ S (evC call refs cond e) fun b e' S' H' => Q b H'
/-- a comprehension, in its parts -/
structure CompP (nm : Nat → Str) (ca : Ex → Addr) (G : Gh) (call : CallT) (refs : List Nat) (W : WX) (X : Cx) (elt : E) (tp : Bool) (ts : List Nat) (src : Src) (cond : Eo) (y tg iter : Expr) (ifs : List Expr) (scope : Scope) (own : List (Str × Nat)) : Prop where
  pi : PI X tg iter (tSrc X.K ca G call refs W src)
  ok : BlkOk X.N X.env.scope scope own
  hg : ∀ (s : Shared) (H : Hp) (C : Addr) (cl : List (Str × Addr)) (fp : List Addr), PG (X.blk s H scope (compEnvC scope cl C X.env) fp) tg (gT X.K tp ts)
  ht : ∀ (s : Shared) (H : Hp) (C : Addr) (cl : List (Str × Addr)) (fp : List Addr), PTs (X.blk s H scope (compEnvC scope cl C X.env) fp) ifs (tCond X.K ca G call refs (fun _ _ _ _ => False) cond)
  he : ∀ (s : Shared) (H : Hp) (C : Addr) (cl : List (Str × Addr)) (fp : List Addr), PE (X.blk s H scope (compEnvC scope cl C X.env) fp) y (tE X.K ca G call refs (fun _ _ _ _ => False) elt)
  hs : ∀ x, foldedSetIterable iter X.env x = pure x
  rd : ∀ σ H Q, tE X.K ca G call refs W (.comp elt tp ts src cond) σ H Q → tLc (tSrc X.K ca G call refs W src) (gT X.K tp ts) (tCond X.K ca G call refs (fun _ _ _ _ => False) cond) (tE X.K ca G call refs (fun _ _ _ _ => False) elt) (own.map (·.2)) σ H Q
theorem comp_parts {n : Nat} {elt : E} {tp : Bool} {ts : List Nat} {src : Src} {cond : Eo} {x : Expr} (g : Good nm ca call j X) (tk : Takes X W) (hR : ∀ r ∈ G.R, r.1 ∈ refs) (ih : IH nm ca call j n) (hn : sizeOf (E.comp elt tp ts src cond) ≤ n) (h : mE nm X.N X.env.scope (.comp elt tp ts src cond) x = true) :
    ∃ y tg iter ifs scope own pos, x = .ListComp y [⟨tg, iter, ifs, 0⟩] scope pos ∧ CompP nm ca G call refs W X elt tp ts src cond y tg iter ifs scope own := by
  unfold mE at h
  split at h
  · split at h
    · rename_i scope pos _ tg iter ifs asy
      obtain ⟨h, h7⟩ := and2 h
      obtain ⟨h, h6⟩ := and2 h
      obtain ⟨h, h5⟩ := and2 h
      obtain ⟨h, h4⟩ := and2 h
      obtain ⟨h, h3⟩ := and2 h
      obtain ⟨h1, h2⟩ := and2 h
      obtain rfl := of_decide_eq_true h1
      have hts := own_ts (of_decide_eq_true h3)
      have pi := sSrc (tg := tg) (G := G) (refs := refs) g tk hR ih (src := src) (by simp at hn; omega) h5
      generalize hown : (ts.filterMap fun i => (X.N[i]?).map fun x => (x, i)) = own at h2 h3 hts
      have blk := fun (s : Shared) (H : Hp) (C : Addr) (cl : List (Str × Addr)) (fp : List Addr) => g.blk s H scope (compEnvC scope cl C X.env) fp
      have hg : ∀ (s : Shared) (H : Hp) (C : Addr) (cl : List (Str × Addr)) (fp : List Addr), PG (X.blk s H scope (compEnvC scope cl C X.env) fp) tg (gT X.K tp ts) := fun s H C cl fp => tgtB_pg (X := X.blk s H scope (compEnvC scope cl C X.env) fp) g.calm g.nd (fun _ z => z) h4
      have he : ∀ (s : Shared) (H : Hp) (C : Addr) (cl : List (Str × Addr)) (fp : List Addr), PE (X.blk s H scope (compEnvC scope cl C X.env) fp) _ (tE X.K ca G call refs (fun _ _ _ _ => False) elt) := fun s H C cl fp => (ih elt (by simp at hn; omega) _ G refs _ (blk s H C cl fp) takes0 hR _ h6).1
      have ht : ∀ (s : Shared) (H : Hp) (C : Addr) (cl : List (Str × Addr)) (fp : List Addr), PTs (X.blk s H scope (compEnvC scope cl C X.env) fp) ifs (tCond X.K ca G call refs (fun _ _ _ _ => False) cond) := fun s H C cl fp => by
        cases cond with
        | none =>
          cases ifs with
          | nil => exact ⟨fun pins s σ H Q I ⟨e, S, P, R, q⟩ => pts_nil.run pins s σ H Q I (q S H (.refl S) R)⟩
          | cons _ _ => cases h7
        | some c => cases ifs with
          | nil => cases h7
          | cons z zs => cases zs with
            | cons _ _ => cases h7
            | nil =>
              obtain ⟨h8, h9⟩ := and2 h7
              have := (ih c (by simp at hn; omega) _ G refs _ (blk s H C cl fp) takes0 hR _ h8).2 h9
              exact ⟨fun pins s σ H Q I ⟨e, S, P, R, q⟩ => (pts_one this).run pins s σ H Q I ⟨e, S, P, R, q⟩⟩
      refine ⟨_, tg, iter, ifs, scope, own, pos, rfl, pi, blkOk_by h2, hg, ht, he, plain_fold (mSrc_plain h5) X.env, fun σ H Q ⟨e, S, P, R, q⟩ => ?_⟩
      rw [hts]
      refine ⟨e, S, P, R, ?_⟩
      simp only [evE] at q
      exact (Pst.bind q).imp fun w e1 S1 H1 hs1 R1 q1 J wk Dd hD => by
        split at q1
        case isFalse => exact q1.elim
        rename_i hk
        obtain ⟨hk, hfu⟩ := hk
        split at q1
        case h_2 => exact q1.elim
        rename_i l e2 hL
        have notin : ∀ i ∈ w.ix ++ refs, i ∉ ts := fun i hi z => by
          have := (and2 (List.all_eq_true.mp hk i z)).1
          simp at this
          rcases List.mem_append.mp hi with hi | hi
          · exact this.1 hi
          · exact this.2 hi
        have hrt : ∀ r ∈ G.R, r.1 ∉ ts := fun r hr => notin _ (List.mem_append_right _ (hR r hr))
        have hix : ∀ i ∈ w.ix, i ∉ ts := fun i hi => notin _ (List.mem_append_left _ hi)
        refine ⟨fun i m H => ∃ e S acc ds l2, m + i = w.fuel ∧ Sub S1 S ∧ Rel X.K G ((Dd, .lst acc) :: P) (clr ts e) (L2.wipe σ ts) S H ∧ RepL X.K S acc ds ∧ acc.length ≤ i ∧ compL (fun e => evE call refs elt e) (fun e => evC call refs cond e) (fun d e => stoT refs tp ts d (clr ts e)) w m i e = .ok l2 e2 ∧ l = ds ++ l2, ⟨w.fuel, e1, S1, [], [], l, rfl, .refl S1, ?_, .nil, Nat.le_refl _, hL, rfl⟩, ?_⟩
        · obtain ⟨R2, F⟩ := (R1.wipe hrt).fresh (d := .lst []) (u := .lst []) hD ⟨[], upd_same, .nil⟩
          exact R2.push F upd_same
        · rintro i m H2 ⟨e, S2, acc, ds, l2, hm, hs2, Rr, ra, hlen, hc, hl⟩
          have fin : w.look e i = some none → l2 = [] → e2 = e → J.stop i H2 ∧ Q (.ref Dd) H2 := fun hlk h1 h2 => by
            subst h1 h2
            rw [List.append_nil] at hl
            subst hl
            have sv := wk.look (n := i) (o := none) hs2 Rr (fun k hk' => wipe_out (hix k hk')) (by rw [look_clr hix]; exact hlk)
            obtain ⟨Rb, _⟩ := R1.back hs2 hk Rr
            have F := Rel.pop (S0 := S2) (d := .lst l) Rb ⟨acc, by simp, ra⟩ (.refl S2)
            exact ⟨sv, q1 S2 H2 hs2 Rb.tail (.ref Dd) ⟨Dd, rfl, F⟩⟩
          cases m with
          | zero =>
            obtain ⟨z1, z2, z3⟩ := compL_ok0 hc
            exact .inl (fin z1 z2 z3)
          | succ k =>
            rcases compL_ok hc with ⟨z1, z2, z3⟩ | ⟨d, e3, b, e4, z1, z2, z3, z4⟩
            · exact .inl (fin z1 z2 z3)
            · have sv := wk.look (n := i) (o := some d) hs2 Rr (fun k hk' => wipe_out (hix k hk')) (by rw [look_clr hix]; exact z1)
              refine .inr ⟨sv.1, _, fun H' hN => ⟨k, Nat.lt_succ_self k, hN⟩, fun x H' y => ?_⟩
              obtain ⟨rfl, rx⟩ := sv.2 x H' y
              refine stoT_run hR Rr rx z2 fun σ2 R2 hl2 hfr => ?_
              have hw : L2.wipe σ2 ts = L2.wipe σ ts := (wipe_eq hl2 hfr).trans wipe_idem
              refine ⟨hw, e3, S2, _, R2, ?_⟩
              rw [z3]
              intro S3 H3 hs3 R3
              have R3' : Rel X.K G ((Dd, .lst acc) :: P) (clr ts e4) (L2.wipe σ ts) S3 H3 := hw ▸ R3.wipe hrt
              rcases z4 with ⟨rfl, z4⟩ | ⟨rfl, p, e5, l3, z5, z6, rfl⟩
              · show ∃ e S acc ds l2, _
                exact ⟨e4, S3, acc, ds, l2, by omega, hs2.trans hs3, R3', ra.mono hs3, by omega, z4, hl⟩
              · show tE X.K ca G call refs (fun _ _ _ _ => False) elt σ2 H3 _
                refine ⟨e4, S3, _, R3, ?_⟩
                rw [z5]
                intro S4 H4 hs4 R4 v rv
                obtain ⟨S5, hs5, R5, r5⟩ := R4.rep rv
                refine ⟨acc, (R5.pen _ List.mem_cons_self).1, by rw [line_eq]; omega, e5, S5, acc ++ [v], ds ++ [p.2], l3, by omega, hs2.trans (hs3.trans (hs4.trans hs5)), ?_, (ra.mono (hs3.trans (hs4.trans hs5))).append (.cons r5 .nil), by rw [List.length_append]; exact Nat.succ_le_succ hlen, z6, by rw [hl, List.append_assoc]; rfl⟩
                exact hw ▸ (R5.putP (u' := .lst (acc ++ [v])) trivial).wipe hrt
    · cases h
  · cases h
theorem s_comp {n : Nat} {elt : E} {tp : Bool} {ts : List Nat} {src : Src} {cond : Eo} {x : Expr} (g : Good nm ca call j X) (tk : Takes X W) (hR : ∀ r ∈ G.R, r.1 ∈ refs) (ih : IH nm ca call j n) (hn : sizeOf (E.comp elt tp ts src cond) ≤ n) (h : mE nm X.N X.env.scope (.comp elt tp ts src cond) x = true) :
    PE X x (tE X.K ca G call refs W (.comp elt tp ts src cond)) := by
  obtain ⟨y, tg, iter, ifs, scope, own, pos, rfl, c⟩ := comp_parts g tk hR ih hn h
  exact PE.weak (pe_lc (own := own) g.calm g.nd c.pi c.ok c.hg c.ht c.he c.hs) c.rd
end
end Vm

namespace Vm
open PySem PySem.Spec PyProof.Rows L2
section
variable {nm : Nat → Str} {ca : Ex → Addr} {G : Gh} {call : CallT} {j : Nat} {refs : List Nat} {W : WX} {X : Cx}
theorem isTrue_call {f : Expr} {args : List Expr} {kw : List Keyword} {pos : Pos} {env : PySem.Env} (whole : Sem Value) : isTrue (.Call f args kw pos) env whole = (do let v ← whole; standAt (Expr.Call f args kw pos).pos; holding [v] (truthy v)) := rfl
theorem isTrue_sub {a b : Expr} {pos : Pos} {env : PySem.Env} (whole : Sem Value) : isTrue (.Subscript a b pos) env whole = (do let v ← whole; standAt (Expr.Subscript a b pos).pos; holding [v] (truthy v)) := rfl
theorem isTrue_name {a : Str} {pos : Pos} {env : PySem.Env} (whole : Sem Value) : isTrue (.Name a pos) env whole = (do let v ← whole; standAt (Expr.Name a pos).pos; holding [v] (truthy v)) := rfl
theorem pt_call {a : E} {x : Expr} (hv : isVar a = none) (hx : ∃ f args kw pos, x = .Call f args kw pos) (h : PE X x (tE X.K ca G call refs W a)) : PT X x (tT X.K ca G call refs W a) := by
  obtain ⟨f, args, kw, pos, rfl⟩ := hx
  exact pt_of hv h fun w => isTrue_call w
theorem main_E : ∀ n, IH nm ca call j n := by
  intro n
  induction n with
  | zero => intro a ha; exact absurd ha (Nat.not_lt_zero _)
  | succ n ih =>
    intro a ha X G refs W g tk hR x h
    have ihE : ∀ b, sizeOf b < n → ∀ y, mE nm X.N X.env.scope b y = true → PE X y (tE X.K ca G call refs W b) := fun b hb y m => (ih b hb X G refs W g tk hR y m).1
    have ihB : ∀ b, sizeOf b < n → ∀ y, mE nm X.N X.env.scope b y = true → PE X y (tE X.K ca G call refs W b) ∧ (tstB b = true → PT X y (tT X.K ca G call refs W b)) := fun b hb y m => ih b hb X G refs W g tk hR y m
    have isCall : ∀ {a : E}, (∀ p q r s, x = .Call p q r s → True) → True := fun _ => trivial
    cases a with
    | con c => exact ⟨s_con h, fun t => by cases t⟩
    | var i =>
      refine ⟨s_var h, fun _ => ?_⟩
      unfold mE at h
      split at h
      · refine PT.weak (pt_val (pe_name h) isTrue_name) fun σ H Q ⟨e, S, P, R, q⟩ => ?_
        simp only [evT, isVar, opnd] at q
        cases hp : pk e i with
        | none => rw [hp] at q; exact q.elim
        | some d =>
          simp only [hp, Res.bind, op1, got] at q
          obtain ⟨v, h1, s1⟩ := R.pick hp
          obtain ⟨b, rfl, q2⟩ := asB_some q
          exact ⟨v, h1, b, see_bl s1, q2 S H (.refl S) R⟩
      · cases h
    | glb y c => unfold mE at h; cases h
    | tup es => exact ⟨s_tup h fun l m => sEs m fun b y m hz => ihE b (by simp at ha; omega) y m, fun t => by cases t⟩
    | lst es => exact ⟨s_lst h fun l m => sEs m fun b y m hz => ihE b (by simp at ha; omega) y m, fun t => by cases t⟩
    | bin o a b => exact ⟨s_bin h (ihE a (by simp at ha; omega)) (ihE b (by simp at ha; omega)), fun t => by cases t⟩
    | neg a => exact ⟨s_neg h (ihE a (by simp at ha; omega)), fun t => by cases t⟩
    | cmp o a b =>
      have := s_cmp g h (ihE a (by simp at ha; omega)) (ihE b (by simp at ha; omega))
      exact ⟨this.1, fun _ => this.2⟩
    | chn o p a b c =>
      have := s_chn g h (ihE a (by simp at ha; omega)) (ihE b (by simp at ha; omega)) (ihE c (by simp at ha; omega))
      exact ⟨this.1, fun _ => this.2⟩
    | bop k es => exact s_bop h fun b y m hz => ihB b (by simp at ha; omega) y m
    | not a => exact s_not h (ihB a (by simp at ha; omega))
    | ite c a b => exact ⟨s_ite h (fun y m t => (ihB c (by simp at ha; omega) y m).2 t) (ihE a (by simp at ha; omega)) (ihE b (by simp at ha; omega)), fun t => by cases t⟩
    | idx a i =>
      have p := s_idx g h (ihE a (by simp at ha; omega)) (ihE i (by simp at ha; omega))
      refine ⟨p, fun _ => ?_⟩
      unfold mE at h
      split at h
      · exact pt_of rfl p fun w => isTrue_sub w
      · cases h
    | slc a lo hi => exact ⟨s_slc h fun b y m hz => ihE b (by simp at ha hz; omega) y m, fun t => by cases t⟩
    | stp a k => unfold mE at h; cases h
    | call f as =>
      have p := s_call g tk h fun b y m hz => ihE b (by simp at ha; omega) y m
      refine ⟨p, fun _ => ?_⟩
      unfold mE at h
      split at h
      · exact pt_of rfl p fun w => isTrue_call w
      · cases h
    | bi b es =>
      have p := s_bi g h fun b y m hz => ihE b (by simp at ha; omega) y m
      refine ⟨p, fun _ => ?_⟩
      unfold mE at h
      split at h
      · exact pt_of rfl p fun w => isTrue_call w
      · cases h
    | bid b a d => unfold mE at h; cases h
    | lset a => unfold mE at h; cases h
    | lrng t es => unfold mE at h; cases h
    | mth m r es =>
      have p := s_mth g h fun b y m hz => ihE b (by simp at ha hz; omega) y m
      refine ⟨p, fun _ => ?_⟩
      unfold mE at h
      split at h
      · exact pt_of rfl p fun w => isTrue_call w
      · cases h
    | isi a t =>
      have p := s_isi g h (ihE a (by simp at ha; omega))
      refine ⟨p, fun _ => ?_⟩
      unfold mE at h
      split at h
      · exact pt_of rfl p fun w => isTrue_call w
      · cases h
    | newd t => exact ⟨s_newd h, fun t => by cases t⟩
    | comp elt tp ts src cond => exact ⟨s_comp g tk hR ih (by omega) h, fun t => by cases t⟩
end
end Vm

/-! VmV: statements: their texts, what they tell. -/
namespace Vm
open PySem PySem.Spec PyProof.Rows L2
section
variable (nm : Nat → Str) (N : List Str) (exR exC : List Ex)
def yesB : Str → Bool := fun _ => true
/-- a comprehension that is stored to a name -/
def lcB (sc : Scope) (y : Str) (py : Pos) : Expr → Bool
  | .ListComp _ _ scope pos => decide (sc.names.lookup y = some .local) && (py.line == pos.line) && !(scope.names.any fun (n, k) => n == y && (k == .local || k == .cell))
  | _ => true
def noLc : Expr → Bool
  | .ListComp _ _ _ _ => false
  | _ => true
/-- what is unpacked: no display, no comprehension -/
def unpV : Expr → Bool
  | .Name _ _ => true | .Call _ _ _ _ => true | .Subscript _ _ _ => true
  | _ => false
def parB (sc : Scope) (x y : Str) (px py : Pos) (a b : Expr) : Bool :=
  decide (sc.names.lookup x = some .local) && decide (sc.names.lookup y = some .local) && decide (x ≠ y) && (py.line == px.line) && !([a, b].all (foldedForSure 8)) && !([a, b].all (constantsAlone 8))
def isiB (sc : Scope) (n : Str) (c : Option Ex) : Expr → Bool
  | .Call g args kw _ => isNameB "isinstance" sc g && kw.isEmpty && (match args with
    | [a, b] => (match a with | .Name z _ => decide (z = n) | _ => false) && (match c with
      | some y => isNameB y.name sc b && decide (y ∈ exC)
      | none => isNameB "ValueError" sc b)
    | _ => false)
  | _ => false
def isisB (sc : Scope) (n : Str) : List (Option Ex) → List Expr → Bool
  | [], x => x.isEmpty
  | c :: cs, x => (match x with | y :: ys => isiB exC sc n c y && isisB sc n cs ys | _ => false)
def hndB (sc : Scope) (n : Str) (i : Nat) : List (Nat × Bool × List (Option Ex)) → List Stmt → Bool
  | [], x => x.isEmpty
  | (j, ap, cs) :: r, x => (match x with
    | y :: ys => (match y with
      | .Assign ts v _ => (match ts with
        | [t] => stoB N yesB sc j t && decide (j ≠ i) && (if ap = true then (match v with
            | .BinOp l op w _ => decide (op = .Add) && (match l with | .Name z _ => varB N sc j z | _ => false) && (match w with | .List es _ => isisB exC sc n cs es | _ => false)
            | _ => false)
          else (match v with | .List es _ => isisB exC sc n cs es | _ => false))
        | _ => false)
      | _ => false) && hndB sc n i r ys
    | _ => false)
mutual
def mS (sc : Scope) : S → Stmt → Bool
  | .asg i a, x => (match x with
    | .Assign ts v _ => (match ts with
      | [t] => stoB N yesB sc i t && mE nm N sc a v && (match t with | .Name y py => lcB sc y py v | _ => false)
      | _ => false)
    | _ => false)
  | .unp is a, x => (match x with
    | .Assign ts v _ => (match ts with
      | [t] => tgtB N yesB sc true is t && mE nm N sc a v && unpV v
      | _ => false)
    | _ => false)
  | .par i j a b, x => (match x with
    | .Assign ts v _ => (match ts, v with
      | [.Tuple [.Name x px, .Name y py] _ _], .Tuple [va, vb] _ _ => decide (N[i]? = some x) && decide (N[j]? = some y) && parB sc x y px py va vb && mE nm N sc a va && mE nm N sc b vb
      | _, _ => false)
    | _ => false)
  | .seti i k a, x => (match x with
    | .Assign ts v _ => (match ts with
      | [.Subscript (.Name z _) kx _] => varB N sc i z && mE nm N sc k kx && mE nm N sc a v && noLc v
      | _ => false)
    | _ => false)
  | .app i a, x => (match x with
    | .Expr (.Call (.Attribute (.Name z _) name apos) args kw pos) _ => varB N sc i z && decide (name = "append") && (apos.endLine == pos.line) && kw.isEmpty && (match args with | [y] => mE nm N sc a y | _ => false)
    | _ => false)
  | .xpr a, x => (match x with | .Expr v _ => mE nm N sc a v && noLc v | _ => false)
  | .ret a, x => (match x with | .Return (some v) _ => mE nm N sc a v | _ => false)
  | .ret0, x => (match x with | .Return none _ => true | _ => false)
  | .ifs c a b, x => (match x with | .If t p q _ => mE nm N sc c t && tstB c && mSs sc a p && mSs sc b q | _ => false)
  | .loop tp ts src b, x => (match x with | .For tg iter body orelse _ => orelse.isEmpty && tgtB N yesB sc tp ts tg && mSrc nm N sc src iter && mSs sc b body | _ => false)
  | .whl _ c b, x => (match x with | .While t body orelse _ => orelse.isEmpty && mE nm N sc c t && tstB c && mSs sc b body | _ => false)
  | .rse e, x => (match x with | .Raise (some (.Call g args kw _)) none _ => isNameB e.name sc g && args.isEmpty && kw.isEmpty && decide (e ∈ exR) | _ => false)
  | .tryk i xs b h, x => (match x with
    | .Try body hs orelse fin _ => orelse.isEmpty && fin.isEmpty && mSs sc b body && (match hs with
      | [.ExceptHandler (some (.Name r _)) (some n) (b0 :: su) _] => decide (r = "RoofError") && glB sc r && decide (N[i]? = some n) && decide (sc.names.lookup n = some .local) && okNm n && hndB N exC sc n i h (b0 :: su) && !exR.isEmpty && (xs.all fun x => decide (x ∈ exR))
      | _ => false)
    | _ => false)
  | _, _ => false
def mSs (sc : Scope) : Ss → List Stmt → Bool
  | .nil, x => x.isEmpty
  | .cons a r, x => (match x with | y :: ys => mS sc a y && mSs sc r ys | _ => false)
end
end
section
variable (K : PySem.W.Frag) (ca : Ex → Addr) (G : Gh)
def PstS (W : WX) (D : Ends) (S : Hp) : SR → Prop
  | .next e => ∀ σ' S' H', Sub S S' → Rel K G [] e σ' S' H' → D.nx σ' H'
  | .ret fr d e => ∀ v σ' S' H', Sub S S' → Rel K G [] e σ' S' H' → RV K G [] e σ' S' H' (fr, d) v → D.rt v H'
  | .exc x e => ∀ σ' S' H', Sub S S' → Rel K G [] e σ' S' H' → W (.ref (ca x)) none σ' H'
  | .bad => False
def tS (call : CallT) (refs : List Nat) (W : WX) (s : S) : TS := fun D σ H => ∃ e S, Rel K G [] e σ S H ∧ PstS K ca G W D S (evS call s refs e)
def tSs (call : CallT) (refs : List Nat) (W : WX) (s : Ss) : TS := fun D σ H => ∃ e S, Rel K G [] e σ S H ∧ PstS K ca G W D S (evSs call s refs e)
end
/-- what is so of an exception's class -/
structure ExOk (K : PySem.W.Frag) (mg : Str → Option Value) (ca : Ex → Addr) (ro : Addr) (exC : List Ex) (x : Ex) : Prop where
  mg : mg x.name = some (.ref (ca x))
  keep : PySem.W.keepIn K (.ref (ca x)) = true
  exc : PySem.W.excIn K (ca x) [.type "ValueError", .type "Exception", .type "BaseException", .type "object"] "ValueError.__new__" = true
  sub : PySem.W.subIn K (.ref (ca x)) (.type "BaseException") = some true
  typ : PySem.W.typeIn K (.ref (ca x)) = some (.type "type")
  root : PySem.W.exmOne K (.ref (ca x)) (.ref ro) = some true
  isE : ExcC K (ca x)
  kit : ∀ y ∈ exC, PySem.W.kitOne K (.ref (ca x)) (.ref (ca y)) = some (decide (x = y))
  kitV : PySem.W.kitOne K (.ref (ca x)) (.type "ValueError") = some true
structure GoodS (nm : Nat → Str) (ca : Ex → Addr) (call : CallT) (j : Nat) (exR exC : List Ex) (ro : Addr) (X : Cx) : Prop extends Good nm ca call j X where
  hp : PassesOwn (model X.prog X.w) X.A X.env X.xe
  hs : X.stack = X.env :: X.outer
  hf : X.env.frame = some X.env.locals
  fn : ∀ x, X.fn x = true
  kind : X.env.scope.kind = .function
  ex : ∀ x ∈ exR, ExOk X.K X.mg ca ro exC x
  exc : ∀ x ∈ exC, X.mg x.name = some (.ref (ca x))
  ro : exR ≠ [] → X.mg "RoofError" = some (.ref ro)
section
variable {K : PySem.W.Frag} {ca : Ex → Addr} {G : Gh} {W : WX} {D : Ends} {S S1 : Hp} {σ : L2.St}
theorem PstS.mono {r : SR} (hs : Sub S S1) (h : PstS K ca G W D S r) : PstS K ca G W D S1 r := by
  cases r with
  | next e => exact fun σ' S' H' q R => h σ' S' H' (hs.trans q) R
  | ret fr d e => exact fun v σ' S' H' q R => h v σ' S' H' (hs.trans q) R
  | exc x e => exact fun σ' S' H' q R => h σ' S' H' (hs.trans q) R
  | bad => exact h
theorem PstS.to {α : Type} {r : Res α} {f : α → Env → SR} (h : PstS K ca G W D S (r.to f)) : Pst K ca G [] W σ S r fun a e S' H' => PstS K ca G W D S' (f a e) := by
  cases r with
  | ok a e => exact fun S' H' q R => PstS.mono q h
  | exc x e => exact fun S' H' q R => h σ S' H' q R
  | bad => exact h
theorem PstS.then {r : SR} {f : Env → SR} (h : PstS K ca G W D S (r.then f)) : PstS K ca G W { D with nx := fun σ' H' => ∃ e S', Rel K G [] e σ' S' H' ∧ PstS K ca G W D S' (f e) } S r := by
  cases r with
  | next e => exact fun σ' S' H' q R => ⟨e, S', R, PstS.mono q h⟩
  | ret fr d e => exact h
  | exc x e => exact h
  | bad => exact h
end
section
variable {K : PySem.W.Frag} {G : Gh} {P : List (Addr × HO)} {σ : L2.St} {S H : Hp} {e : Env}
/-- a change of one's own list -/
theorem Rel.write (R : Rel K G P e σ S H) {i : Nat} {l : Addr} {d d' : D} {u' : HO} (hi : IsOwn e i d) (hat : At σ i l) (ho : OwnAt K S (upd H l u') l d') : Rel K G P (e.set i (.own d')) σ S (upd H l u') := by
  have old : ∀ {k d1}, IsOwn (e.set i (.own d')) k d1 → (k = i ∧ d1 = d') ∨ (k ≠ i ∧ IsOwn e k d1) := fun {k d1} q => by
    by_cases z : k = i
    · subst z
      rcases q with q | q
      · rw [List.getElem?_set_self hi.lt] at q; cases q; exact .inl ⟨rfl, rfl⟩
      · rw [List.getElem?_set_self hi.lt] at q; cases q
    · refine .inr ⟨z, ?_⟩
      rcases q with q | q
      · rw [List.getElem?_set_ne (Ne.symm z)] at q; exact .inl q
      · rw [List.getElem?_set_ne (Ne.symm z)] at q; exact .inr q
  obtain ⟨l0, a0, o0, g0⟩ := R.own i d hi
  have := at_inj hat a0
  subst this
  exact {
    sub := R.sub.updR o0.1
    fr := fun b o hb hB => by
      have : b ≠ l := fun z => by
        subst z
        rcases g0 with g0 | g0
        · rw [g0] at hb; cases hb
        · exact hB g0
      rw [upd_ne this]; exact R.fr b o hb hB
    s0 := R.s0, new := R.new
    len := by rw [List.length_set]; exact R.len
    val := fun k d1 q => by
      by_cases z : k = i
      · subst z
        rw [List.getElem?_set_self hi.lt] at q; cases q
      · rw [List.getElem?_set_ne (Ne.symm z)] at q
        exact R.val k d1 q
    own := fun k d1 q => by
      rcases old q with ⟨rfl, rfl⟩ | ⟨z, q⟩
      · exact ⟨l, hat, ⟨o0.1, ho⟩, g0⟩
      · obtain ⟨l', a, o, g⟩ := R.own k d1 q
        have : l' ≠ l := fun w => z (R.sep k i d1 d l' q hi a (w ▸ hat))
        exact ⟨l', a, ⟨o.1, o.2.mono (.refl S) (upd_ne this)⟩, g⟩
    sep := fun a b d1 d2 l' q1 q2 h1 h2 => by
      have p1 : ∃ d0, IsOwn e a d0 := by
        rcases old q1 with ⟨rfl, rfl⟩ | ⟨_, o1⟩
        · exact ⟨d, hi⟩
        · exact ⟨_, o1⟩
      have p2 : ∃ d0, IsOwn e b d0 := by
        rcases old q2 with ⟨rfl, rfl⟩ | ⟨_, o1⟩
        · exact ⟨d, hi⟩
        · exact ⟨_, o1⟩
      obtain ⟨x, p1⟩ := p1
      obtain ⟨y, p2⟩ := p2
      exact R.sep a b x y l' p1 p2 h1 h2
    pen := fun q hq => by
      obtain ⟨a, b, c, x⟩ := R.pen q hq
      have : q.1 ≠ l := fun z => c i d hi (z ▸ hat)
      refine ⟨by rw [upd_ne this]; exact a, b, fun k d1 z w => ?_, x⟩
      rcases old z with ⟨rfl, rfl⟩ | ⟨_, q1⟩
      · exact c k d hi w
      · exact c k d1 q1 w
    pnd := R.pnd, refs := R.refs }
theorem Rel.stoAny (R : Rel K G P e σ S H) {i : Nat} {x : Option V} (hr : ∀ r ∈ G.R, r.1 ≠ i) : Rel K G P (e.set i .emp) (σ.set i x) S H := by
  have get : ∀ {k s}, (e.set i .emp)[k]? = some s → s ≠ .emp → k ≠ i ∧ e[k]? = some s := fun {k s} q hs => by
    by_cases z : k = i
    · subst z
      have hlt := (List.getElem?_eq_some_iff.mp q).1
      rw [List.length_set] at hlt
      rw [List.getElem?_set_self hlt] at q; cases q; exact absurd rfl hs
    · rw [List.getElem?_set_ne (Ne.symm z)] at q; exact ⟨z, q⟩
  have old : ∀ {k d}, IsOwn (e.set i .emp) k d → k ≠ i ∧ IsOwn e k d := fun {k d} q => by
    rcases q with q | q
    · obtain ⟨z, q⟩ := get q (fun w => nomatch w); exact ⟨z, .inl q⟩
    · obtain ⟨z, q⟩ := get q (fun w => nomatch w); exact ⟨z, .inr q⟩
  have at' : ∀ {k l}, k ≠ i → At (σ.set i x) k l → At σ k l := fun {k l} z q => by
    have q : (σ.set i x)[k]? = some (some (.ref l)) := q
    rw [List.getElem?_set_ne (Ne.symm z)] at q; exact q
  exact {
    sub := R.sub, fr := R.fr, s0 := R.s0, new := R.new
    len := by rw [List.length_set, List.length_set]; exact R.len
    val := fun k d q => by
      obtain ⟨z, q⟩ := get q (fun w => nomatch w)
      rw [List.getElem?_set_ne (Ne.symm z)]
      exact R.val k d q
    own := fun k d q => by
      obtain ⟨z, q⟩ := old q
      obtain ⟨l, a, o, g⟩ := R.own k d q
      exact ⟨l, by show (σ.set i x)[k]? = _; rw [List.getElem?_set_ne (Ne.symm z)]; exact a, o, g⟩
    sep := fun a b d1 d2 l q1 q2 h1 h2 => R.sep a b d1 d2 l (old q1).2 (old q2).2 (at' (old q1).1 h1) (at' (old q2).1 h2)
    pen := fun q hq => let ⟨a, b, c, y⟩ := R.pen q hq; ⟨a, b, fun k d z w => c k d (old z).2 (at' (old z).1 w), y⟩
    pnd := R.pnd
    refs := fun r hr' => by
      show (σ.set i x)[r.1]? = _
      rw [List.getElem?_set_ne (Ne.symm (hr r hr'))]; exact R.refs r hr' }
/-- a name that is kept where it is -/
theorem Rel.addR (R : Rel K G P e σ S H) {i : Nat} {l : Addr} (h : At σ i l) : Rel K { G with R := (i, l) :: G.R } P e σ S H :=
  { sub := R.sub, fr := R.fr, s0 := R.s0, new := R.new, len := R.len, val := R.val, own := R.own, sep := R.sep, pen := R.pen, pnd := R.pnd
    refs := fun r hr => by
      rcases List.mem_cons.mp hr with rfl | hr
      · exact h
      · exact R.refs r hr }
theorem Rel.delR {i : Nat} {l : Addr} (R : Rel K { G with R := (i, l) :: G.R } P e σ S H) : Rel K G P e σ S H ∧ At σ i l :=
  ⟨{ sub := R.sub, fr := R.fr, s0 := R.s0, new := R.new, len := R.len, val := R.val, own := R.own, sep := R.sep, pen := R.pen, pnd := R.pnd
     refs := fun r hr => R.refs r (List.mem_cons_of_mem _ hr) }, R.refs _ List.mem_cons_self⟩
/-- a name's own list, taken out of the name -/
theorem Rel.take (R : Rel K G [] e σ S H) {i : Nat} {d : D} (hi : IsOwn e i d) : ∃ l, At σ i l ∧ Rel K G [] (e.set i .emp) σ S H ∧ Fre K G [] (e.set i .emp) σ S H l d := by
  obtain ⟨l, a, o, g⟩ := R.own i d hi
  have old : ∀ {k d1}, IsOwn (e.set i .emp) k d1 → k ≠ i ∧ IsOwn e k d1 := fun {k d1} q => by
    by_cases z : k = i
    · subst z
      rcases q with q | q <;> (rw [List.getElem?_set_self hi.lt] at q; cases q)
    · refine ⟨z, ?_⟩
      rcases q with q | q
      · rw [List.getElem?_set_ne (Ne.symm z)] at q; exact .inl q
      · rw [List.getElem?_set_ne (Ne.symm z)] at q; exact .inr q
  refine ⟨l, a, R.weak (List.length_set ..) (fun k s q => ?_), o, fun k d1 q w => (old q).1 (R.sep k i d1 d l (old q).2 hi w a), (fun q hq => nomatch hq), g⟩
  by_cases z : k = i
  · subst z
    rw [List.getElem?_set_self hi.lt] at q; cases q; exact .inl rfl
  · rw [List.getElem?_set_ne (Ne.symm z)] at q; exact .inr q
end
end Vm

namespace Vm
open PySem PySem.Spec PyProof.Rows L2
theorem PS.weak {X : Cx} {x : Stmt} {t t' : TS} (h : PS X x t) (k : ∀ D σ H, t' D σ H → t D σ H) : PS X x t' := ⟨fun pins s σ H D I q => h.run pins s σ H D I (k D σ H q)⟩
theorem PSs.weak {X : Cx} {x : List Stmt} {t t' : TS} (h : PSs X x t) (k : ∀ D σ H, t' D σ H → t D σ H) : PSs X x t' := ⟨fun pins s σ H D I q => h.run pins s σ H D I (k D σ H q)⟩
theorem PG.or {X : Cx} {x : Expr} {t t' : TG} (h : PG X x t) (h' : PG X x t') : PG X x (fun v σ H Q => t v σ H Q ∨ t' v σ H Q) := ⟨fun pins s σ H v u Q I r q => by
  rcases q with q | q
  · exact h.run pins s σ H v u Q I r q
  · exact h'.run pins s σ H v u Q I r q⟩
section
variable {nm : Nat → Str} {ca : Ex → Addr} {G : Gh} {call : CallT} {j : Nat} {refs : List Nat} {W : WX} {X : Cx} {exR exC : List Ex} {ro : Addr}
theorem exE (g : GoodS nm ca call j exR exC ro X) (tk : Takes X W) (hR : ∀ r ∈ G.R, r.1 ∈ refs) {a : E} {x : Expr} (h : mE nm X.N X.env.scope a x = true) : PE X x (tE X.K ca G call refs W a) ∧ (tstB a = true → PT X x (tT X.K ca G call refs W a)) :=
  main_E (sizeOf a + 1) a (Nat.lt_succ_self _) X G refs W g.toGood tk hR x h
theorem stoB_name {fn : Str → Bool} {N : List Str} {sc : Scope} {i : Nat} {t : Expr} (h : stoB N fn sc i t = true) : ∃ y py, t = .Name y py ∧ N[i]? = some y ∧ locB sc y = true := by
  unfold stoB at h
  split at h
  · obtain ⟨h, h4⟩ := and2 h
    obtain ⟨h, h3⟩ := and2 h
    obtain ⟨h1, h2⟩ := and2 h
    exact ⟨_, _, rfl, of_decide_eq_true h1, h2⟩
  · cases h
theorem nr {i : Nat} (hR : ∀ r ∈ G.R, r.1 ∈ refs) (h : i ∉ refs) : ∀ r ∈ G.R, r.1 ≠ i := fun r hr z => h (z ▸ hR r hr)
/-- what is told is stored -/
theorem sto_told {K : PySem.W.Frag} {Z : Ends} {e1 : Env} {σ : L2.St} {S1 H1 : Hp} {i : Nat} {p : Bool × D} {v : V} (hR : ∀ r ∈ G.R, r.1 ∈ refs) (R1 : Rel K G [] e1 σ S1 H1) (rv : RV K G [] e1 σ S1 H1 p v)
    (q : PstS K ca G W Z S1 ((Vm.sto refs i (slotOf p.1 p.2) e1).to fun _ e => .next e)) : Z.nx (σ.set i (some v)) H1 := by
  cases hs : Vm.sto refs i (slotOf p.1 p.2) e1 with
  | bad => rw [hs] at q; exact q.elim
  | exc x e => unfold Vm.sto at hs; split at hs <;> cases hs
  | ok u e2 =>
    rw [hs] at q
    obtain ⟨h1, h2, rfl⟩ := sto_ok hs
    obtain ⟨fr, d⟩ := p
    cases fr with
    | true =>
      obtain ⟨l, rfl, F⟩ := rv
      exact q _ S1 H1 (.refl S1) (R1.stoOwn F h2 (nr hR h1))
    | false => exact q _ S1 H1 (.refl S1) (R1.sto rv h2 (nr hR h1))
theorem w_asg {i : Nat} {a : E} {x : Stmt} (g : GoodS nm ca call j exR exC ro X) (tk : Takes X W) (hR : ∀ r ∈ G.R, r.1 ∈ refs) (h : mS nm X.N exR exC X.env.scope (.asg i a) x = true) : PS X x (tS X.K ca G call refs W (.asg i a)) := by
  unfold mS at h
  split at h
  · split at h
    · obtain ⟨h, h3⟩ := and2 h
      obtain ⟨h1, h2⟩ := and2 h
      obtain ⟨y, py, rfl, hN, hl⟩ := stoB_name h1
      have key : ∀ D σ H, tS X.K ca G call refs W (.asg i a) D σ H → tAsg (tE X.K ca G call refs W a) (gName i) D σ H := fun D σ H ⟨e, S, R, q⟩ => ⟨e, S, [], R, (PstS.to (σ := σ) q).imp fun p e1 S1 H1 hs1 R1 q1 v rv => sto_told hR R1 rv q1⟩
      rename_i v _ _ _
      by_cases hv : noLc v = true
      · refine PS.weak (ps_set g.nd hN (locB_ok hl) (exE g tk hR h2).1 (plain_sw (mE_plain h2) (fun a b c d z => by subst z; cases hv) _ _ _) (.inl (g.fn y))) key
      · cases v with
        | ListComp y0 gs scope0 pos0 =>
          cases a with
          | comp elt tp ts src cond =>
            obtain ⟨y1, tg, iter, ifs, scope, own, lpos, e0, c⟩ := comp_parts (refs := refs) (G := G) g.toGood tk hR (main_E _) (Nat.le_refl _) h2
            cases e0
            dsimp only at h3
            unfold lcB at h3
            obtain ⟨h3, h6⟩ := and2 h3
            obtain ⟨h4, h5⟩ := and2 h3
            have hyl := of_decide_eq_true h4
            refine PS.weak (ps_setLc g.calm g.nd hN hyl (sw_true g.kind hyl h5 (by simpa using h6)) c.pi c.ok c.hg c.ht c.he c.hs) fun D σ H hh => ?_
            exact c.rd _ _ _ (key D σ H hh)
          | _ => unfold mE at h2; cases h2
        | _ => exact absurd rfl hv
    · cases h
  · cases h
theorem w_xpr {a : E} {x : Stmt} (g : GoodS nm ca call j exR exC ro X) (tk : Takes X W) (hR : ∀ r ∈ G.R, r.1 ∈ refs) (h : mS nm X.N exR exC X.env.scope (.xpr a) x = true) : PS X x (tS X.K ca G call refs W (.xpr a)) := by
  unfold mS at h
  split at h
  · obtain ⟨h1, h2⟩ := and2 h
    refine PS.weak (ps_expr (exE g tk hR h1).1 (plain_sw (mE_plain h1) (fun a b c d z => by subst z; cases h2) _ _ _)) fun D σ H ⟨e, S, R, q⟩ => ⟨e, S, [], R, ?_⟩
    exact (PstS.to (σ := σ) q).imp fun p e1 S1 H1 hs1 R1 q1 v rv => q1 σ S1 H1 (.refl S1) R1
  · cases h
theorem w_ret {a : E} {x : Stmt} (g : GoodS nm ca call j exR exC ro X) (tk : Takes X W) (hR : ∀ r ∈ G.R, r.1 ∈ refs) (h : mS nm X.N exR exC X.env.scope (.ret a) x = true) : PS X x (tS X.K ca G call refs W (.ret a)) := by
  unfold mS at h
  split at h
  · cases hv : isVar a with
    | none =>
      refine PS.weak (ps_ret (exE g tk hR h).1) fun D σ H ⟨e, S, R, q⟩ => ⟨e, S, [], R, ?_⟩
      simp only [evS, hv] at q
      exact (PstS.to (σ := σ) q).imp fun p e1 S1 H1 hs1 R1 q1 v rv => q1 v σ S1 H1 (.refl S1) R1 rv
    | some i =>
      have ha : a = .var i := by cases a <;> first | (cases hv; rfl) | cases hv
      subst ha
      unfold mE at h
      split at h
      · refine PS.weak (ps_ret (pe_name h)) fun D σ H ⟨e, S, R, q⟩ => ?_
        simp only [evS, isVar] at q
        split at q
        · rename_i d hd
          obtain ⟨v, h1, r⟩ := R.val i d hd
          exact ⟨v, h1, q v σ S H (.refl S) R r⟩
        · rename_i d hd
          split at q
          · exact q.elim
          · obtain ⟨l, a, R2, F⟩ := R.take (.inl hd)
            exact ⟨_, a, q _ σ S H (.refl S) R2 ⟨l, rfl, F⟩⟩
        · rename_i d hd
          split at q
          · exact q.elim
          · obtain ⟨l, a, R2, F⟩ := R.take (.inr hd)
            exact ⟨_, a, q _ σ S H (.refl S) R2 ⟨l, rfl, F⟩⟩
        · exact q.elim
      · cases h
  · cases h
theorem w_ret0 {x : Stmt} (h : mS nm X.N exR exC X.env.scope .ret0 x = true) : PS X x (tS X.K ca G call refs W .ret0) := by
  unfold mS at h
  split at h
  · exact PS.weak ps_retN fun D σ H ⟨e, S, R, q⟩ => q .non σ S H (.refl S) R .non
  · cases h
theorem w_rse {ex : Ex} {x : Stmt} (g : GoodS nm ca call j exR exC ro X) (tk : Takes X W) (h : mS nm X.N exR exC X.env.scope (.rse ex) x = true) : PS X x (tS X.K ca G call refs W (.rse ex)) := by
  unfold mS at h
  split at h
  · rename_i f args kw pos _
    obtain ⟨h, h4⟩ := and2 h
    obtain ⟨h, h3⟩ := and2 h
    obtain ⟨h1, h2⟩ := and2 h
    obtain rfl := List.isEmpty_iff.mp h2
    obtain rfl := List.isEmpty_iff.mp h3
    obtain ⟨p, rfl, hg, hok⟩ := isNameB_ok h1
    obtain ⟨k1, _, _⟩ := okNm_ok hok
    have T := g.ex ex (of_decide_eq_true h4)
    have r : Raises X (.ref (ca ex)) := raises_own T.sub T.typ
    have mk : PMk X (.Call (.Name ex.name p) [] [] pos) (fun _ H Q => Q (.ref (ca ex)) none H) := by
      intro pins s σ H Q I hq
      refine wpAny_Call_Name_kw (ld_glob I hg T.mg ?_ k1)
      refine PySem.W.callWith_K0 I.kIn T.keep ?_
      obtain ⟨bm, N, nm, qn, bs, hdct, sn, sub, ab, col, dd, k0, k1, k2, k3, k5, mN, hC, hN, hni, T'⟩ := exc_obj I.kIn T.exc
      refine wpAny_call_exc_subT PySem.F.excBase_ValueError T' hC hN hni (fun h' e hm => ?_) (by show 0 ≤ sizeLine; exact Nat.zero_le _)
      exact mk_of I hm r hq (I.hok.gone hm.new)
    exact PS.weak (ps_raise g.calm tk mk) fun D σ H ⟨e, S, R, q⟩ => q σ S H (.refl S) R
  · cases h
end
end Vm

namespace Vm
open PySem PySem.Spec PyProof.Rows L2
section
variable {nm : Nat → Str} {ca : Ex → Addr} {G : Gh} {call : CallT} {j : Nat} {refs : List Nat} {W : WX} {X : Cx} {exR exC : List Ex} {ro : Addr}
theorem stoL_exc : ∀ {is : List Nat} {l : List D} {e1 e : Env} {x : Ex}, stoL refs is l e1 ≠ .exc x e := by
  intro is
  induction is with
  | nil => intro l e1 e x z; cases l <;> cases z
  | cons i is ih =>
    intro l e1 e x z
    cases l with
    | nil => cases z
    | cons d l =>
      unfold stoL at z
      cases hq : Vm.sto refs i (.val d) e1 with
      | bad => rw [hq] at z; cases z
      | exc x' e' => unfold Vm.sto at hq; split at hq <;> cases hq
      | ok a e2 => rw [hq] at z; exact ih z
theorem tgt_tup {is : List Nat} {t : Expr} (hc : X.calm = true) (hnd : X.N.Nodup) (hf : ∀ x, X.fn x = true) (h : tgtB X.N yesB X.env.scope true is t = true) : PG X t (fun v σ H Q => gTup X.K is.length (gNs is) v σ H Q ∨ gLst X.K is.length (gNs is) v σ H Q) ∧ (assignEach [t] X.env).map (·.2) = [assign t X.env] ∧ ∃ es k pos, t = .Tuple es k pos := by
  unfold tgtB at h
  dsimp only at h
  split at h
  · obtain ⟨h1, h2, h3⟩ := stosB_pg hnd (fn := yesB) (fun x _ => hf x) h
    exact ⟨Vm.PG.or (pg_tup hc h1 h2 h3) (pg_lst hc h1 h2 h3), rfl, _, _, _, rfl⟩
  · cases h
theorem w_unp {is : List Nat} {a : E} {x : Stmt} (g : GoodS nm ca call j exR exC ro X) (tk : Takes X W) (hR : ∀ r ∈ G.R, r.1 ∈ refs) (h : mS nm X.N exR exC X.env.scope (.unp is a) x = true) : PS X x (tS X.K ca G call refs W (.unp is a)) := by
  unfold mS at h
  split at h
  · split at h
    · rename_i v0 v pos t
      obtain ⟨h, h3⟩ := and2 h
      obtain ⟨h1, h2⟩ := and2 h
      obtain ⟨pg, ha, es, k, tp, rfl⟩ := tgt_tup g.calm g.nd g.fn h1
      refine PS.weak (ps_asg (exE g tk hR h2).1 pg (by cases v0 <;> first | rfl | cases h3) (by cases v0 <;> first | rfl | cases h3) ha) fun Z σ H ⟨e, S, R, q⟩ => ⟨e, S, [], R, ?_⟩
      simp only [evS] at q
      exact (PstS.to (σ := σ) q).imp fun p e1 S1 H1 hs1 R1 q1 v rv => by
        obtain ⟨S2, hs2, R2, r2⟩ := R1.rep rv
        obtain ⟨fr, d⟩ := p
        have go : ∀ (l : List D) (vs : List V), RepL X.K S2 vs l → PstS X.K ca G W Z S1 ((stoL refs is l e1).to fun _ e => .next e) → vs.length = is.length ∧ gNs is vs σ H1 Z.nx := fun l vs ra q1 => by
          cases hs : stoL refs is l e1 with
          | bad => rw [hs] at q1; exact q1.elim
          | exc x e =>
            exact absurd hs stoL_exc
          | ok u e2 =>
            rw [hs] at q1
            exact ⟨by rw [ra.length, stoL_len hs], stoL_run hR R2 ra hs fun σ2 R3 _ _ => q1 σ2 S2 H1 hs2 R3⟩
        cases d with
        | tup l =>
          cases r2 with
          | tup hb ra =>
            obtain ⟨z1, z2⟩ := go l _ ra q1
            exact .inl ⟨_, _, rfl, .of (R2.sub _ _ hb), z1, z2⟩
        | lst l =>
          cases r2 with
          | lst hb ra =>
            obtain ⟨z1, z2⟩ := go l _ ra q1
            exact .inr ⟨_, _, rfl, .of (R2.sub _ _ hb), z1, z2⟩
        | _ => exact q1.elim
    · cases h
  · cases h
theorem par_sw {env : PySem.Env} {x y : Str} {px py pt : Pos} {kt k2 : Nat} {pt2 : Pos} {a b : Expr} (hk : env.scope.kind = .function) (h : parB env.scope x y px py a b = true) (pa : plainX a = true) (pb : plainX b = true) :
    swappedStores [.Tuple [.Name x px, .Name y py] kt pt] (.Tuple [a, b] k2 pt2) env = pure (some [x, y]) := by
  unfold parB at h
  obtain ⟨h, h6⟩ := and2 h
  obtain ⟨h, h5⟩ := and2 h
  obtain ⟨h, h4⟩ := and2 h
  obtain ⟨h, h3⟩ := and2 h
  obtain ⟨h1, h2⟩ := and2 h
  have h1 : env.kindOf x = some .local := of_decide_eq_true h1
  have h2 : env.kindOf y = some .local := of_decide_eq_true h2
  have h3 := of_decide_eq_true h3
  have hb : env.blockKind = .function := by unfold Env.blockKind; rw [hk]; rfl
  have h5 : ([a, b].all (foldedForSure 8)) = false := (Bool.not_eq_true' _).mp h5
  have h6 : ([a, b].all (constantsAlone 8)) = false := (Bool.not_eq_true' _).mp h6
  have hs : ([a, b].any fun | .Starred .. => true | _ => false) = false := by
    have : ∀ {z : Expr}, plainX z = true → (match z with | .Starred .. => true | _ => false) = false := fun {z} q => by cases z <;> first | rfl | cases q
    rw [List.any_cons, List.any_cons, this pa, this pb]; rfl
  have hxy : [x, y].eraseDups.length = 2 := by
    have e : (y == x) = false := by simpa using Ne.symm h3
    simp [List.eraseDups, List.eraseDupsBy, List.eraseDupsBy.loop, e]
  unfold swappedStores
  dsimp only
  have h4' : py.line = px.line := by simpa using h4
  have e1 : (env.kindOf x == some NameKind.local) = true := by rw [h1]; rfl
  have e2 : (env.kindOf y == some NameKind.local) = true := by rw [h2]; rfl
  have tf : ∀ {b : Bool}, b = false → ¬ b = true := fun {b} h => by rw [h]; exact Bool.false_ne_true
  refine (if_neg (tf ?_)).trans ((if_neg (tf hs)).trans ?_)
  · rw [hb]; rfl
  have hf : ∀ (F : Expr → Option Str), F (.Name x px) = some x → F (.Name y py) = some y → List.filterMap F [.Name x px, .Name y py] = [x, y] := fun F f1 f2 => by rw [List.filterMap_cons, f1, List.filterMap_cons, f2]; rfl
  rw [hf _ (by show (if (env.kindOf x == some NameKind.local && px.line == px.line) = true then some x else none) = some x; rw [e1]; simp) (by show (if (env.kindOf y == some NameKind.local && py.line == px.line) = true then some y else none) = some y; rw [e2, h4']; simp)]
  refine (if_neg (tf ?_)).trans ((if_neg (tf h5)).trans ?_)
  · rw [hxy]; rfl
  · rw [if_neg (tf h6)]
theorem w_par {i k : Nat} {a b : E} {x : Stmt} (g : GoodS nm ca call j exR exC ro X) (tk : Takes X W) (hR : ∀ r ∈ G.R, r.1 ∈ refs) (h : mS nm X.N exR exC X.env.scope (.par i k a b) x = true) : PS X x (tS X.K ca G call refs W (.par i k a b)) := by
  unfold mS at h
  split at h
  · split at h
    · rename_i va vb _ _
      obtain ⟨h, h5⟩ := and2 h
      obtain ⟨h, h4⟩ := and2 h
      obtain ⟨h, h3⟩ := and2 h
      obtain ⟨h1, h2⟩ := and2 h
      have hN1 := of_decide_eq_true h1
      have hN2 := of_decide_eq_true h2
      have hsave := h3
      unfold parB at h3
      obtain ⟨h3, _⟩ := and2 h3
      obtain ⟨h3, _⟩ := and2 h3
      obtain ⟨h3, _⟩ := and2 h3
      obtain ⟨h3, h8⟩ := and2 h3
      obtain ⟨h6, h7⟩ := and2 h3
      have hne := of_decide_eq_true h8
      have hik : i ≠ k := fun z => by
        subst z
        rw [hN1] at hN2
        exact hne (Option.some.inj hN2)
      refine PS.weak (ps_par g.calm g.nd hN1 hN2 hik (of_decide_eq_true h6) (of_decide_eq_true h7) (pa_cons (exE g tk hR h4).1 (pa_cons (exE g tk hR h5).1 pa_nil (plain_star (mE_plain h5) _ _)) (plain_star (mE_plain h4) _ _)) (par_sw g.kind hsave (mE_plain h4) (mE_plain h5))) fun Z σ H ⟨e, S, R, q⟩ => ⟨e, S, [], R, ?_⟩
      simp only [evS] at q
      exact (PstS.to (σ := σ) q).imp fun p e1 S1 H1 hs1 R1 q1 v rv => by
        obtain ⟨S2, hs2, R2, r2⟩ := R1.rep rv
        refine ⟨e1, S2, [], R2, ?_⟩
        exact (PstS.to (σ := σ) (PstS.mono hs2 q1)).imp fun p' e3 S3 H3 hs3 R3 q3 w rw' => by
          obtain ⟨S4, hs4, R4, r4⟩ := R3.rep rw'
          refine ⟨v, w, rfl, ?_⟩
          cases hq : Vm.sto refs k (.val p'.2) e3 with
          | bad => rw [hq] at q3; exact q3.elim
          | exc x e => unfold Vm.sto at hq; split at hq <;> cases hq
          | ok u e4 =>
            rw [hq] at q3
            obtain ⟨z1, z2, rfl⟩ := sto_ok hq
            have q3 : PstS X.K ca G W Z S3 ((Vm.sto refs i (.val p.2) (e3.set k (.val p'.2))).to fun _ e => .next e) := q3
            cases hq2 : Vm.sto refs i (.val p.2) (e3.set k (.val p'.2)) with
            | bad => rw [hq2] at q3; exact q3.elim
            | exc x e => unfold Vm.sto at hq2; split at hq2 <;> cases hq2
            | ok u e5 =>
              rw [hq2] at q3
              obtain ⟨y1, y2, rfl⟩ := sto_ok hq2
              have R5 := (R4.sto r4 z2 (nr hR z1)).sto ((r2.mono hs3).mono hs4) y2 (nr hR y1)
              rw [List.set_comm (some w) (some v) (Ne.symm hik)] at R5
              exact q3 _ S4 H3 hs4 R5
    · cases h
  · cases h
theorem modify_ok {K : PySem.W.Frag} {Z : Ends} {S : Hp} {e : Env} {i : Nat} {f : D → Option D} (q : PstS K ca G W Z S (modify e i f)) : ∃ d d', e[i]? = some (.own d) ∧ f d = some d' ∧ PstS K ca G W Z S (.next (e.set i (.own d'))) := by
  unfold modify at q
  split at q
  · rename_i d hd
    cases hf : f d with
    | none => rw [hf] at q; exact q.elim
    | some d' => rw [hf] at q; exact ⟨d, d', hd, hf, q⟩
  · exact q.elim
theorem w_app {i : Nat} {a : E} {x : Stmt} (g : GoodS nm ca call j exR exC ro X) (tk : Takes X W) (hR : ∀ r ∈ G.R, r.1 ∈ refs) (h : mS nm X.N exR exC X.env.scope (.app i a) x = true) : PS X x (tS X.K ca G call refs W (.app i a)) := by
  unfold mS at h
  split at h
  · rename_i z zp name apos args kw pos p2
    obtain ⟨h, h5⟩ := and2 h
    obtain ⟨h, h4⟩ := and2 h
    obtain ⟨h, h3⟩ := and2 h
    obtain ⟨h1, h2⟩ := and2 h
    obtain rfl := of_decide_eq_true h2
    obtain rfl := List.isEmpty_iff.mp h4
    split at h5
    · rename_i y
      have st := plain_star (mE_plain h5) [] X.env
      have call := pe_bm (X := X) (cpos := pos) F.plainAttrs_list F.slot_list_append F.type_list_append mt_append (pe_name h1 (pos := zp)) (pa_cons (exE (refs := refs) (G := G) g tk hR h5).1 pa_nil st) rfl (by rw [st]; rfl) h3 st rfl
      refine PS.weak (ps_expr call) fun Z σ H ⟨e, S, R, q⟩ => ?_
      simp only [evS] at q
      split at q
      · rename_i l0 hl0
        obtain ⟨l, hat, ⟨_, vs0, hv0, ra0⟩, _⟩ := R.own i _ (.inl hl0)
        refine ⟨.ref l, hat, .inl ⟨rfl, vs0, .of hv0⟩, e, S, [], R, ?_⟩
        exact (PstS.to (σ := σ) q).imp fun p e1 S1 H1 hs1 R1 q1 v rv => by
          obtain ⟨S2, hs2, R2, r2⟩ := R1.rep rv
          obtain ⟨d, d', hd, hf, q2⟩ := modify_ok q1
          cases d with
          | lst ds =>
            unfold appD at hf
            dsimp only at hf
            split at hf
            · rename_i hlen
              cases hf
              obtain ⟨l', hat', ⟨on, vs, hv, ra⟩, _⟩ := R2.own i _ (.inl hd)
              have := at_inj hat hat'
              subst this
              refine ⟨l, vs, v, rfl, rfl, hv, by rw [line_eq, ra.length]; omega, ?_⟩
              exact q2 σ S2 _ hs2 (R2.write (.inl hd) hat ⟨_, upd_same, ra.append (.cons r2 .nil)⟩)
            · cases hf
          | _ => cases hf
      · exact q.elim
    · cases h5
  · cases h
theorem putK_zip {κ : Type} [DecidableEq κ] {K : PySem.W.Frag} {S : Hp} {v : V} {d : D} (r : Rep K S v d) (k : κ) : ∀ {l : List (κ × D)} {vs : List V}, RepL K S vs (l.map (·.2)) →
    ∃ vs', putK ((l.map (·.1)).zip vs) k v = ((put l k d).map (·.1)).zip vs' ∧ RepL K S vs' ((put l k d).map (·.2)) := by
  intro l vs ra
  have hlen : vs.length = l.length := by have := ra.length; rwa [List.length_map] at this
  have hany : ∀ {l : List (κ × D)} {vs : List V}, vs.length = l.length → (((l.map (·.1)).zip vs).any fun kv => decide (kv.1 = k)) = (look l k).isSome := by
    intro l
    induction l with
    | nil => intro vs _; rfl
    | cons p l ih =>
      intro vs h
      match vs, h with
      | v :: vs, h =>
        have ih := ih (vs := vs) (by simpa using h)
        rw [List.map_cons, List.zip_cons_cons, List.any_cons, ih]
        unfold look
        rw [List.find?_cons]
        by_cases hk : p.1 = k
        · simp [hk]
        · simp [hk]
  unfold putK put
  rw [hany hlen]
  by_cases hs : (look l k).isSome = true
  · rw [if_pos hs, if_pos hs]
    have : ∀ {l : List (κ × D)} {vs : List V}, RepL K S vs (l.map (·.2)) → ∃ vs', (((l.map (·.1)).zip vs).map fun kv => if kv.1 = k then (kv.1, v) else kv) = ((l.map fun kv => if kv.1 = k then (kv.1, d) else kv).map (·.1)).zip vs' ∧ RepL K S vs' ((l.map fun kv => if kv.1 = k then (kv.1, d) else kv).map (·.2)) := by
      intro l
      induction l with
      | nil => intro vs r; cases r; exact ⟨[], rfl, .nil⟩
      | cons p l ih =>
        intro vs ra
        cases ra with
        | @cons v1 _ _ _ r1 r2 =>
          obtain ⟨vs', h1, h2⟩ := ih r2
          by_cases hk : p.1 = k
          · refine ⟨v :: vs', ?_, ?_⟩
            · simp only [List.map_cons, List.zip_cons_cons, hk, if_true, h1]
            · simp only [List.map_cons, hk, if_true]; exact .cons r h2
          · refine ⟨v1 :: vs', ?_, ?_⟩
            · simp only [List.map_cons, List.zip_cons_cons, if_neg hk, h1]
            · simp only [List.map_cons, if_neg hk]; exact .cons r1 h2
    exact this ra
  · rw [if_neg hs, if_neg hs]
    refine ⟨vs ++ [v], ?_, ?_⟩
    · rw [List.map_append, List.zip_append (by rw [List.length_map]; exact hlen.symm)]; rfl
    · rw [List.map_append]; exact ra.append (.cons r .nil)
theorem w_seti {i : Nat} {kx a : E} {x : Stmt} (g : GoodS nm ca call j exR exC ro X) (tk : Takes X W) (hR : ∀ r ∈ G.R, r.1 ∈ refs) (h : mS nm X.N exR exC X.env.scope (.seti i kx a) x = true) : PS X x (tS X.K ca G call refs W (.seti i kx a)) := by
  have hu : X.A.units + 1 < cLine := by have := g.room.un; omega
  have ps : PSet X (fun o k v H Q => rSetL o k v H Q ∨ rSetD o k v H Q) := fun pins s σ H o i v ov iv u Q I ro ri rv q => by
    rcases q with q | q
    · exact set_list pins s σ H o i v ov iv u Q I ro ri rv q
    · exact set_dict hu pins s σ H o i v ov iv u Q I ro ri rv q
  unfold mS at h
  split at h
  · split at h
    · rename_i v pos _ z zp ky kp
      obtain ⟨h, h4⟩ := and2 h
      obtain ⟨h, h3⟩ := and2 h
      obtain ⟨h1, h2⟩ := and2 h
      refine PS.weak (ps_asg (exE g tk hR h3).1 (pg_sub (pe_name h1) (sO h2 (exE g tk hR h2).1) ps (by intro v; have hp := mE_plain h2; cases ky <;> first | rfl | cases hp)) (by cases v <;> rfl) (by cases v <;> rfl)) fun Z σ H ⟨e, S, R, q⟩ => ⟨e, S, [], R, ?_⟩
      simp only [evS] at q
      exact (PstS.to (σ := σ) q).imp fun p e1 S1 H1 hs1 R1 q1 v rv => by
        obtain ⟨S2, hs2, R2, r2⟩ := R1.rep rv
        split at q1
        · rename_i d0 hd0
          obtain ⟨l, hat, _, _⟩ := R2.own i _ (.inl hd0)
          refine ⟨.ref l, hat, e1, S2, [], R2, ?_⟩
          exact (PstS.to (σ := σ) (PstS.mono hs2 q1)).imp fun o e3 S3 H3 hs3 R3 q3 w ow => by
            unfold modK at q3
            cases hg : got o e3 with
            | none => rw [hg] at q3; exact q3.elim
            | some kd =>
              rw [hg] at q3
              have sw := R3.see ow hg
              obtain ⟨d, d', hd, hf, q4⟩ := modify_ok q3
              obtain ⟨l', hat', ho, _⟩ := R3.own i _ (.inl hd)
              have := at_inj hat hat'
              subst this
              have r3 := r2.mono hs3
              have nx : ∀ u', OwnAt X.K S3 (upd H3 l u') l d' → Z.nx σ (upd H3 l u') := fun u' hu' => q4 σ S3 _ (.refl S3) (R3.write (.inl hd) hat hu')
              dsimp only at hf
              unfold setD at hf
              split at hf
              · rename_i ds z
                simp only [Option.map_eq_some_iff] at hf
                obtain ⟨jj, hj, rfl⟩ := hf
                obtain ⟨vs, hv, ra⟩ := ho.2
                obtain rfl := see_int sw
                exact .inl ⟨l, vs, z, jj, rfl, rfl, hv, by rw [ra.length]; exact hj, nx _ ⟨_, upd_same, ra.set r3 jj⟩⟩
              · rename_i ds
                obtain ⟨vs, hv, ra⟩ := ho.2
                cases hk : keyOf kd with
                | none => rw [hk] at hf; cases hf
                | some kk =>
                  have hy := sw.key R3.sub hk
                  cases kk with
                  | inr x => rw [hk] at hf; cases hf
                  | inl x =>
                    rw [hk] at hf
                    dsimp only at hf
                    split at hf
                    · rename_i hlen
                      cases hf
                      have hy : w = kV x := hy
                      subst hy
                      obtain ⟨vs', h1', h2'⟩ := putK_zip r3 x ra
                      refine .inr ⟨l, _, rfl, DPut.k hv (by rw [KVT_size ra, line_eq]; omega), nx _ ⟨vs', by rw [upd_same, h1'], h2'⟩⟩
                    · cases hf
              · rename_i ds
                obtain ⟨vs, hv, ra⟩ := ho.2
                cases hk : keyOf kd with
                | none => rw [hk] at hf; cases hf
                | some kk =>
                  have hy := sw.key R3.sub hk
                  cases kk with
                  | inl x => rw [hk] at hf; cases hf
                  | inr x =>
                    rw [hk] at hf
                    dsimp only at hf
                    split at hf
                    · rename_i hlen
                      cases hf
                      obtain ⟨bb, rfl, hb⟩ := hy
                      obtain ⟨vs', h1', h2'⟩ := putK_zip r3 x ra
                      refine .inr ⟨l, _, rfl, DPut.t hv hb (by rw [KVT_size ra, line_eq]; omega), nx _ ⟨vs', by rw [upd_same, h1'], h2'⟩⟩
                    · cases hf
              · cases hf
        · exact q1.elim
    · cases h
  · cases h
end
end Vm

namespace Vm
open PySem PySem.Spec PyProof.Rows L2
def IHb (nm : Nat → Str) (ca : Ex → Addr) (call : CallT) (j : Nat) (exR exC : List Ex) (ro : Addr) (n : Nat) : Prop := ∀ (b : Ss), sizeOf b < n → ∀ (X : Cx) (G : Gh) (refs : List Nat) (W : WX), GoodS nm ca call j exR exC ro X → Takes X W → (∀ r ∈ G.R, r.1 ∈ refs) →
  ∀ l, mSs nm X.N exR exC X.env.scope b l = true → PSs X l (tSs X.K ca G call refs W b)
section
variable {nm : Nat → Str} {ca : Ex → Addr} {G : Gh} {call : CallT} {j : Nat} {refs : List Nat} {W : WX} {X : Cx} {exR exC : List Ex} {ro : Addr} {n : Nat}
theorem w_ifs {c : E} {a b : Ss} {x : Stmt} (g : GoodS nm ca call j exR exC ro X) (tk : Takes X W) (hR : ∀ r ∈ G.R, r.1 ∈ refs) (ih : IHb nm ca call j exR exC ro n) (hn : sizeOf (S.ifs c a b) ≤ n) (h : mS nm X.N exR exC X.env.scope (.ifs c a b) x = true) : PS X x (tS X.K ca G call refs W (.ifs c a b)) := by
  unfold mS at h
  split at h
  · obtain ⟨h, h4⟩ := and2 h
    obtain ⟨h, h3⟩ := and2 h
    obtain ⟨h1, h2⟩ := and2 h
    refine PS.weak (ps_if ((exE g tk hR h1).2 h2) (ih a (by simp at hn; omega) X G refs W g tk hR _ h3) (ih b (by simp at hn; omega) X G refs W g tk hR _ h4)) fun Z σ H ⟨e, S, R, q⟩ => ⟨e, S, [], R, ?_⟩
    simp only [evS] at q
    exact (PstS.to (σ := σ) q).imp fun k e1 S1 H1 hs1 R1 q1 => by
      cases k with
      | true => exact ⟨e1, S1, R1, q1⟩
      | false => exact ⟨e1, S1, R1, q1⟩
  · cases h
theorem stoT_exc {tp : Bool} {ts : List Nat} {d : D} {e e1 : Env} {x : Ex} : stoT refs tp ts d e ≠ .exc x e1 := by
  unfold stoT
  split
  · intro z; unfold Vm.sto at z; split at z <;> cases z
  · exact stoL_exc
  · intro z; cases z
theorem w_loop {tp : Bool} {ts : List Nat} {src : Src} {b : Ss} {x : Stmt} (g : GoodS nm ca call j exR exC ro X) (tk : Takes X W) (hR : ∀ r ∈ G.R, r.1 ∈ refs) (ih : IHb nm ca call j exR exC ro n) (hn : sizeOf (S.loop tp ts src b) ≤ n) (h : mS nm X.N exR exC X.env.scope (.loop tp ts src b) x = true) : PS X x (tS X.K ca G call refs W (.loop tp ts src b)) := by
  unfold mS at h
  split at h
  · rename_i tg iter body orelse pos
    obtain ⟨h, h4⟩ := and2 h
    obtain ⟨h, h3⟩ := and2 h
    obtain ⟨h1, h2⟩ := and2 h
    obtain rfl := List.isEmpty_iff.mp h1
    have pi := sSrc (tg := tg) (G := G) (refs := refs) g.toGood tk hR (main_E (sizeOf src)) (Nat.le_refl _) h3
    have pg := tgtB_pg (fn := yesB) g.calm g.nd (fun y _ => g.fn y) h2
    have pb : PSs X body (fun Z σ H => ∃ (G' : Gh) (refs' : List Nat), (∀ r ∈ G'.R, r.1 ∈ refs') ∧ tSs X.K ca G' call refs' W b Z σ H) := ⟨fun pins s σ H Z I ⟨G', refs', hR', q⟩ => (ih b (by simp at hn; omega) X G' refs' W g tk hR' _ h4).run pins s σ H Z I q⟩
    refine PS.weak (ps_for g.hp g.calm pi pg pb (plain_fold (mSrc_plain h3) X.env)) fun Z σ H ⟨e, S, R, q⟩ => ⟨e, S, [], R, ?_⟩
    simp only [evS] at q
    exact (PstS.to (σ := σ) q).imp fun w e1 S1 H1 hs1 R1 q1 J wk => by
      obtain ⟨G', gR, gto, gof, gH, gB⟩ : ∃ G' : Gh, (∀ r ∈ G'.R, r.1 ∈ w.ix ++ refs) ∧ (∀ {e : Env} {S H : Hp}, Rel X.K G [] e σ S H → Rel X.K G' [] e σ S H) ∧ (∀ {e : Env} {σ' : L2.St} {S H : Hp}, Rel X.K G' [] e σ' S H → Rel X.K G [] e σ' S H ∧ ∀ i ∈ w.ix, σ'[i]? = σ[i]?) ∧ G'.H = G.H ∧ G'.B = G.B := by
        cases w with
        | st l => exact ⟨G, hR, (fun h => h), (fun h => ⟨h, fun i hi => by simp [Wk.ix] at hi⟩), rfl, rfl⟩
        | ow i k =>
          obtain ⟨l, hat, _⟩ := wk
          refine ⟨{ G with R := (i, l) :: G.R }, fun r hr => ?_, fun h => h.addR hat, fun h => ⟨h.delR.1, fun i' hi => ?_⟩, rfl, rfl⟩
          · rcases List.mem_cons.mp hr with rfl | hr
            · simp [Wk.ix]
            · exact List.mem_append_right _ (hR r hr)
          · have : i' = i := by simpa [Wk.ix] using hi
            subst this
            have h1 := h.delR.2
            have h1 : _ = _ := h1
            have h2 : _ = _ := hat
            rw [h1, h2]
      have rvG : ∀ {e : Env} {σ' : L2.St} {S H : Hp} {p : Bool × D} {v : V}, RV X.K G' [] e σ' S H p v → RV X.K G [] e σ' S H p v := fun {e σ' S H p v} rv => by
        obtain ⟨fr, d⟩ := p
        cases fr with
        | true =>
          obtain ⟨l, rfl, F⟩ := rv
          exact ⟨l, rfl, F.own, F.noe, F.nop, by rw [← gH, ← gB]; exact F.gh⟩
        | false => exact rv
      refine ⟨fun i m σ' H => ∃ e S, Sub S1 S ∧ Rel X.K G' [] e σ' S H ∧ PstS X.K ca G W Z S (forL (fun e => evSs call b (w.ix ++ refs) e) (stoT (w.ix ++ refs) tp ts) w m i e), ⟨w.fuel, e1, S1, .refl S1, gto R1, q1⟩, ?_⟩
      rintro i m σ2 H2 ⟨e, S2, hs2, R2, q2⟩
      have fin : w.look e i = some none → PstS X.K ca G W Z S2 (.next e) → J.stop i H2 ∧ Z.nx σ2 H2 := fun hl q2 => ⟨wk.look (n := i) (o := none) hs2 (gof R2).1 (gof R2).2 hl, q2 σ2 S2 H2 (.refl S2) (gof R2).1⟩
      cases m with
      | zero =>
        unfold forL at q2
        split at q2
        · rename_i hl; exact .inl (fin hl q2)
        · exact q2.elim
      | succ k =>
        unfold forL at q2
        split at q2
        · rename_i hl; exact .inl (fin hl q2)
        · rename_i d hl
          have sv := wk.look (n := i) (o := some d) hs2 (gof R2).1 (gof R2).2 hl
          refine .inr ⟨sv.1, _, fun σ' H' hN => ⟨k, Nat.lt_succ_self k, hN⟩, fun x H' y => ?_⟩
          obtain ⟨rfl, rx⟩ := sv.2 x H' y
          cases hst : stoT (w.ix ++ refs) tp ts d e with
          | bad => rw [hst] at q2; exact q2.elim
          | exc y e' => exact absurd hst stoT_exc
          | ok u e3 =>
            rw [hst] at q2
            refine stoT_run gR R2 rx hst fun σ3 R3 _ _ => ⟨G', w.ix ++ refs, gR, e3, S2, R3, ?_⟩
            have q2 : PstS X.K ca G W Z S2 ((evSs call b (w.ix ++ refs) e3).then fun e => forL (fun e => evSs call b (w.ix ++ refs) e) (stoT (w.ix ++ refs) tp ts) w k (i + 1) e) := q2
            cases hb : evSs call b (w.ix ++ refs) e3 with
            | bad => rw [hb] at q2; exact q2.elim
            | next e4 =>
              rw [hb] at q2
              exact fun σ' S' H' hs' R' => ⟨e4, S', hs2.trans hs', R', PstS.mono hs' q2⟩
            | ret fr d' e4 =>
              rw [hb] at q2
              exact fun v σ' S' H' hs' R' rv => q2 v σ' S' H' hs' (gof R').1 (rvG rv)
            | exc y e4 =>
              rw [hb] at q2
              exact fun σ' S' H' hs' R' => q2 σ' S' H' hs' (gof R').1
        · exact q2.elim
  · cases h
theorem w_whl {fuel : Env → Nat} {c : E} {b : Ss} {x : Stmt} (g : GoodS nm ca call j exR exC ro X) (tk : Takes X W) (hR : ∀ r ∈ G.R, r.1 ∈ refs) (ih : IHb nm ca call j exR exC ro n) (hn : sizeOf (S.whl fuel c b) ≤ n) (h : mS nm X.N exR exC X.env.scope (.whl fuel c b) x = true) : PS X x (tS X.K ca G call refs W (.whl fuel c b)) := by
  unfold mS at h
  split at h
  · obtain ⟨h, h4⟩ := and2 h
    obtain ⟨h, h3⟩ := and2 h
    obtain ⟨h1, h2⟩ := and2 h
    obtain rfl := List.isEmpty_iff.mp h1
    refine PS.weak (ps_while g.hp ((exE g tk hR h2).2 h3) (ih b (by simp at hn; omega) X G refs W g tk hR _ h4)) fun Z σ H ⟨e, S, R, q⟩ => ?_
    simp only [evS] at q
    refine ⟨fun m σ H => ∃ e S, Rel X.K G [] e σ S H ∧ PstS X.K ca G W Z S (whlL (fun e => evT call refs c e) (fun e => evSs call b refs e) m e), ⟨_, e, S, R, q⟩, ?_⟩
    rintro m σ2 H2 ⟨e2, S2, R2, q2⟩
    cases m with
    | zero => exact q2.elim
    | succ k =>
      unfold whlL at q2
      refine ⟨e2, S2, [], R2, ?_⟩
      exact (PstS.to (σ := σ2) q2).imp fun t e3 S3 H3 hs3 R3 q3 => by
        cases t with
        | true =>
          rw [if_pos rfl] at q3
          refine ⟨_, fun σ' H' hN => ⟨k, Nat.lt_succ_self k, hN⟩, e3, S3, R3, ?_⟩
          have q3 : PstS X.K ca G W Z S3 ((evSs call b refs e3).then fun e => whlL (fun e => evT call refs c e) (fun e => evSs call b refs e) k e) := q3
          cases hb : evSs call b refs e3 with
          | bad => rw [hb] at q3; exact q3.elim
          | next e4 => rw [hb] at q3; exact fun σ' S' H' hs' R' => ⟨e4, S', R', PstS.mono hs' q3⟩
          | ret fr d' e4 => rw [hb] at q3; exact q3
          | exc y e4 => rw [hb] at q3; exact q3
        | false =>
          rw [if_neg Bool.false_ne_true] at q3
          exact q3 σ2 S3 H3 (.refl S3) R3
  · cases h
end
end Vm

namespace Vm
open PySem PySem.Spec PyProof.Rows L2
section
variable {nm : Nat → Str} {ca : Ex → Addr} {G : Gh} {call : CallT} {j : Nat} {refs : List Nat} {W : WX} {X : Cx} {exR exC : List Ex} {ro : Addr} {n : Nat}
def isX (x : Ex) (c : Option Ex) : Bool := match c with
  | some y => decide (x = y)
  | none => true
def tIs (i : Nat) (a : Addr) (x : Ex) (cs : List (Option Ex)) : TA := fun σ H Q => At σ i a ∧ Q (cs.map fun c => V.bl (isX x c)) H
theorem is_one {i : Nat} {a : Addr} {oe : Obj} {pn : List (Addr × Obj)} {x : Ex} {c : Option Ex} {y : Expr} {n : Str} (g : GoodS nm ca call j exR exC ro X) (hx : x ∈ exR) (hN : X.N[i]? = some n) (hl : X.env.scope.names.lookup n = some .local) (hok : okNm n = true) (hz : Zc (.ref (ca x)) none oe) (hf : ∃ vs, oe.data = .fields vs)
    (h : isiB exC X.env.scope n c y = true) : PE (X.suite a ((a, oe) :: pn)) y (fun σ H Q => At σ i a ∧ Q (.bl (isX x c)) H) ∧ plainX y = true := by
  have T := g.ex x hx
  have hv : varB X.N X.env.scope i n = true := by
    unfold varB visB
    rw [hl, hok, decide_eq_true hN]; rfl
  unfold isiB at h
  split at h
  · rename_i f args kw pos
    obtain ⟨h, h3⟩ := and2 h
    obtain ⟨h1, h2⟩ := and2 h
    obtain rfl := List.isEmpty_iff.mp h2
    obtain ⟨p, rfl, hg, _⟩ := isNameB_ok h1
    split at h3
    · rename_i ea eb
      obtain ⟨h4, h5⟩ := and2 h3
      split at h4
      · rename_i z zp
        obtain rfl := of_decide_eq_true h4
        have pn' : PE (X.suite a ((a, oe) :: pn)) (.Name z zp) (tVar i) := pe_name (X := X.suite a ((a, oe) :: pn)) hv
        refine ⟨?_, rfl⟩
        have bi : bootBuiltins "isinstance" = some (.builtin "isinstance") := by decide +kernel
        cases c with
        | some yy =>
          obtain ⟨h6, h7⟩ := and2 h5
          have h7 := of_decide_eq_true h7
          obtain ⟨p', rfl, hg', hok'⟩ := isNameB_ok h6
          obtain ⟨k1, _, _⟩ := okNm_ok hok'
          have pc : PE (X.suite a ((a, oe) :: pn)) (.Name yy.name p') (tC (.ref (ca yy))) := pe_glob hg' (g.exc yy h7) rfl k1
          exact PE.weak (pe_callB (call_isE T.isE hz hf) hg (g.free "isinstance" (by simp [freeNames])) bi (pa_cons pn' (pa_cons pc pa_nil)) (by decide) (by decide) rfl rfl) fun σ H Q ⟨hat, q⟩ => ⟨_, hat, _, _, _, rfl, (fun u r => r), T.kit yy h7, q⟩
        | none =>
          obtain ⟨p', rfl, hg', hok'⟩ := isNameB_ok h5
          have pc : PE (X.suite a ((a, oe) :: pn)) (.Name "ValueError" p') (tC (.ty "ValueError")) := pe_bltn hg' (g.free "ValueError" (by simp [freeNames])) (u := .type "ValueError") (by decide +kernel) rfl (by decide) (by decide)
          exact PE.weak (pe_callB (call_isE T.isE hz hf) hg (g.free "isinstance" (by simp [freeNames])) bi (pa_cons pn' (pa_cons pc pa_nil)) (by decide) (by decide) rfl rfl) fun σ H Q ⟨hat, q⟩ => ⟨_, hat, _, _, _, rfl, (fun u r => r), T.kitV, q⟩
      · cases h4
    · cases h3
  · cases h
theorem is_all {i : Nat} {a : Addr} {oe : Obj} {pn : List (Addr × Obj)} {x : Ex} {n : Str} (g : GoodS nm ca call j exR exC ro X) (hx : x ∈ exR) (hN : X.N[i]? = some n) (hl : X.env.scope.names.lookup n = some .local) (hok : okNm n = true) (hz : Zc (.ref (ca x)) none oe) (hf : ∃ vs, oe.data = .fields vs) :
    ∀ {cs : List (Option Ex)} {l : List Expr}, isisB exC X.env.scope n cs l = true → PA (X.suite a ((a, oe) :: pn)) l (tIs i a x cs)
  | [], l, h => by
    unfold isisB at h
    obtain rfl := List.isEmpty_iff.mp h
    exact PA.weak pa_nil fun σ H Q ⟨_, q⟩ => q
  | c :: cs, l, h => by
    unfold isisB at h
    split at h
    · obtain ⟨h1, h2⟩ := and2 h
      obtain ⟨p1, pl⟩ := is_one (pn := pn) (a := a) g hx hN hl hok hz hf h1
      exact PA.weak (pa_cons p1 (is_all g hx hN hl hok hz hf h2) (plain_star pl _ _)) fun σ H Q ⟨hat, q⟩ => ⟨hat, hat, q⟩
    · cases h
def PstH (K : PySem.W.Frag) (G : Gh) (Z : Ends) (S : Hp) : SR → Prop
  | .next e' => ∀ σ' S' H', Sub S S' → Rel K G [] e' σ' S' H' → Z.nx σ' H'
  | _ => False
theorem PstH.mono {K : PySem.W.Frag} {G : Gh} {Z : Ends} {S S1 : Hp} {r : SR} (hs : Sub S S1) (h : PstH K G Z S r) : PstH K G Z S1 r := by
  cases r with
  | next e => exact fun σ' S' H' q R => h σ' S' H' (hs.trans q) R
  | _ => exact h
def tHn (K : PySem.W.Frag) (G : Gh) (i : Nat) (a : Addr) (refs : List Nat) (x : Ex) (h : List (Nat × Bool × List (Option Ex))) : TS := fun Z σ H => ∃ e S, Rel K G [] e σ S H ∧ At σ i a ∧ PstH K G Z S (hndl refs x h e)
theorem boolsR {K : PySem.W.Frag} {S : Hp} {x : Ex} : ∀ {cs : List (Option Ex)}, RepL K S (cs.map fun c => V.bl (isX x c)) (cs.map fun c => D.bl (isX x c))
  | [] => .nil
  | _ :: r => .cons (.bl _) boolsR
theorem hndl_cons {x : Ex} {jj : Nat} {ap : Bool} {cs : List (Option Ex)} {r : List (Nat × Bool × List (Option Ex))} {e : Env} : hndl refs x ((jj, ap, cs) :: r) e = if e.length ≤ jj ∨ jj ∈ refs then .bad else if ap = true then match e[jj]? with
      | some (.own (.lst o)) => if o.length + (cs.map fun c => D.bl (isX x c)).length ≤ 4096 then hndl refs x r (e.set jj (.own (.lst (o ++ cs.map fun c => D.bl (isX x c))))) else .bad
      | _ => .bad
    else if (cs.map fun c => D.bl (isX x c)).length ≤ 4096 then hndl refs x r (e.set jj (.own (.lst (cs.map fun c => D.bl (isX x c))))) else .bad := rfl
theorem w_hnd {i : Nat} {a : Addr} {oe : Obj} {pn : List (Addr × Obj)} {x : Ex} {n : Str} (g : GoodS nm ca call j exR exC ro X) (hR : ∀ r ∈ G.R, r.1 ∈ refs) (hx : x ∈ exR) (hN : X.N[i]? = some n) (hl : X.env.scope.names.lookup n = some .local) (hok : okNm n = true) (hz : Zc (.ref (ca x)) none oe) (hf : ∃ vs, oe.data = .fields vs) :
    ∀ {h : List (Nat × Bool × List (Option Ex))} {su : List Stmt}, hndB X.N exC X.env.scope n i h su = true → PSs (X.suite a ((a, oe) :: pn)) su (tHn X.K G i a refs x h)
  | [], su, h => by
    unfold hndB at h
    obtain rfl := List.isEmpty_iff.mp h
    exact PSs.weak pss_nil fun Z σ H ⟨e, S, R, _, q⟩ => q σ S H (.refl S) R
  | (jj, ap, cs) :: r, su, h => by
    unfold hndB at h
    split at h
    · obtain ⟨h1, h2⟩ := and2 h
      have ih := w_hnd (pn := pn) (a := a) g hR hx hN hl hok hz hf h2
      split at h1
      · split at h1
        · obtain ⟨h1, h4⟩ := and2 h1
          obtain ⟨h1, h3⟩ := and2 h1
          have hji := of_decide_eq_true h3
          obtain ⟨y, py, rfl, hNj, hlj⟩ := stoB_name h1
          have atk : ∀ {σ : L2.St} {v : V}, At σ i a → At (σ.set jj (some v)) i a := fun {σ v} hat => by
            show (σ.set jj (some v))[i]? = _
            rw [List.getElem?_set_ne hji]; exact hat
          have fnX : (X.suite a ((a, oe) :: pn)).fn y = true := g.fn y
          cases ap with
          | false =>
            simp only [Bool.false_eq_true, if_false] at h4
            split at h4
            · have pa := is_all (pn := pn) (a := a) g hx hN hl hok hz hf h4
              refine PSs.weak (pss_cons (ps_set (X := X.suite a ((a, oe) :: pn)) g.nd hNj (locB_ok hlj) (pe_lst pa) rfl (.inl fnX)) ih) fun Z σ H ⟨e, S, R, hat, q⟩ => ?_
              rw [hndl_cons] at q
              by_cases hc : e.length ≤ jj ∨ jj ∈ refs
              · rw [if_pos hc] at q; exact (q : False).elim
              · rw [if_neg hc, if_neg Bool.false_ne_true] at q
                by_cases hc2 : (cs.map fun c => D.bl (isX x c)).length ≤ 4096
                · rw [if_pos hc2] at q
                  refine ⟨hat, by rw [List.length_map, line_eq]; rw [List.length_map] at hc2; omega, fun p np => ?_⟩
                  obtain ⟨R2, F⟩ := R.fresh (d := .lst (cs.map fun c => D.bl (isX x c))) (u := .lst (cs.map fun c => V.bl (isX x c))) np ⟨_, upd_same, boolsR⟩
                  exact ⟨_, S, R2.stoOwn F (by omega) (nr hR fun z => hc (.inr z)), atk hat, q⟩
                · rw [if_neg hc2] at q; exact (q : False).elim
            · cases h4
          | true =>
            simp only [if_true] at h4
            split at h4
            · obtain ⟨h4, h7⟩ := and2 h4
              obtain ⟨h5, h6⟩ := and2 h4
              obtain rfl := of_decide_eq_true h5
              obtain ⟨z, zp, rfl, hv⟩ := varB_pe h6
              split at h7
              · have pa := is_all (pn := pn) (a := a) g hx hN hl hok hz hf h7
                have pj : PE (X.suite a ((a, oe) :: pn)) (.Name z zp) (tVar jj) := pe_name (X := X.suite a ((a, oe) :: pn)) hv
                refine PSs.weak (pss_cons (ps_set (X := X.suite a ((a, oe) :: pn)) g.nd hNj (locB_ok hlj) (pe_op (op_bin .add) pj (pe_lst pa)) rfl (.inl fnX)) ih) fun Z σ H ⟨e, S, R, hat, q⟩ => ?_
                rw [hndl_cons] at q
                by_cases hc : e.length ≤ jj ∨ jj ∈ refs
                · rw [if_pos hc] at q; exact (q : False).elim
                · rw [if_neg hc, if_pos rfl] at q
                  split at q
                  · rename_i o ho
                    by_cases hc2 : o.length + (cs.map fun c => D.bl (isX x c)).length ≤ 4096
                    · rw [if_pos hc2] at q
                      have hp : pk e jj = some (.lst o) := by unfold pk; rw [ho]
                      obtain ⟨v, hv1, _⟩ := R.pick hp
                      refine ⟨v, hv1, hat, by rw [List.length_map, line_eq]; rw [List.length_map] at hc2; omega, fun p np => ?_⟩
                      obtain ⟨R2, F⟩ := R.fresh (d := .lst (cs.map fun c => D.bl (isX x c))) (u := .lst (cs.map fun c => V.bl (isX x c))) np ⟨_, upd_same, boolsR⟩
                      obtain ⟨S3, hs3, R3, r3⟩ := R2.frz F
                      obtain ⟨v', hv2, s2⟩ := R3.pick hp
                      rw [hv1] at hv2; cases hv2
                      refine ⟨S3, _, _, R3.sub, s2, r3.see R3.sub, ?_⟩
                      have eb : binD .add (.lst o) (.lst (cs.map fun c => D.bl (isX x c))) = some (.lst (o ++ cs.map fun c => D.bl (isX x c))) := by
                        show (if _ then _ else _) = _
                        rw [if_pos (by omega)]
                      rw [eb]
                      intro w H' nw
                      obtain ⟨S4, hs4, R4, rv⟩ := R3.made nw
                      obtain ⟨l4, rfl, F4⟩ := rv
                      exact ⟨_, S4, R4.stoOwn F4 (by omega) (nr hR fun z => hc (.inr z)), atk hat, PstH.mono (hs3.trans hs4) q⟩
                    · rw [if_neg hc2] at q; exact (q : False).elim
                  · exact (q : False).elim
              · cases h7
            · cases h4
        · cases h1
      · cases h1
    · cases h
theorem w_try {i : Nat} {xs : List Ex} {b : Ss} {h : List (Nat × Bool × List (Option Ex))} {x : Stmt} (g : GoodS nm ca call j exR exC ro X) (tk : Takes X W) (hR : ∀ r ∈ G.R, r.1 ∈ refs) (ih : IHb nm ca call j exR exC ro n) (hn : sizeOf (S.tryk i xs b h) ≤ n) (hm : mS nm X.N exR exC X.env.scope (.tryk i xs b h) x = true) :
    PS X x (tS X.K ca G call refs W (.tryk i xs b h)) := by
  unfold mS at hm
  split at hm
  · rename_i body hs orelse fin pos
    obtain ⟨hm, h4⟩ := and2 hm
    obtain ⟨hm, h3⟩ := and2 hm
    obtain ⟨h1, h2⟩ := and2 hm
    obtain rfl := List.isEmpty_iff.mp h1
    obtain rfl := List.isEmpty_iff.mp h2
    split at h4
    · rename_i r np nn b0 su p2
      obtain ⟨h4, k7⟩ := and2 h4
      obtain ⟨h4, k6⟩ := and2 h4
      obtain ⟨h4, k5⟩ := and2 h4
      obtain ⟨h4, k4⟩ := and2 h4
      obtain ⟨h4, k3⟩ := and2 h4
      obtain ⟨h4, k2⟩ := and2 h4
      obtain ⟨h4, k1⟩ := and2 h4
      have er := of_decide_eq_true h4
      subst er
      have hN := of_decide_eq_true k2
      have hl := of_decide_eq_true k3
      have hg : Gl X "RoofError" := by
        unfold glB at k1
        split at k1
        · assumption
        · cases k1
      have hne : exR ≠ [] := fun z => by subst z; cases k6
      have hx : ∀ x ∈ xs, x ∈ exR := fun x hx => of_decide_eq_true (List.all_eq_true.mp k7 x hx)
      refine PS.weak (ps_try_as (Wout := W) (tb := fun W' => tSs X.K ca G call refs W' b) (ts := fun a cls d => fun Z σ H => ∃ x ∈ xs, cls = .ref (ca x) ∧ d = none ∧ tHn X.K G i a refs x h Z σ H) g.hs g.hf g.nd hN hl ⟨hg, by decide, .inl (g.ro hne)⟩ tk
        (fun W' pn xe tk' po => ih b (by simp at hn; omega) (X.tr pn xe) G refs W' ⟨⟨g.calm, g.nd, g.room, g.calls, g.free⟩, po, g.hs, g.hf, g.fn, g.kind, g.ex, g.exc, g.ro⟩ tk' hR _ h3)
        (fun a oe cls d pn hz hf => ⟨fun pins s σ H Z I ⟨x, hxs, hc, hd, q⟩ => ?_⟩)) fun Z σ H ⟨e, S, R, q⟩ => ⟨e, S, R, ?_⟩
      · subst hc hd
        exact (w_hnd g hR (hx x hxs) hN hl k4 hz hf k5).run pins s σ H Z I q
      · simp only [evS] at q
        split at q
        · rename_i y e1 hb
          rw [hb]
          split at q
          · exact q.elim
          · rename_i hc
            have hc1 : i < e1.length := by
              rcases Nat.lt_or_ge i e1.length with w | w
              · exact w
              · exact absurd (.inl w) hc
            have hc2 : y ∈ xs := Classical.byContradiction fun w => hc (.inr (.inl w))
            have hc3 : i ∉ refs := fun w => hc (.inr (.inr w))
            intro σ' S' H' hs' R'
            refine ⟨true, (g.ex y (hx y hc2)).root, fun _ a ha => ⟨y, hc2, rfl, rfl, e1.set i .emp, S', R'.stoAny (nr hR hc3), ?_, ?_⟩, fun z => nomatch z⟩
            · show (σ'.set i _)[i]? = _
              rw [List.getElem?_set_self (by rw [← R'.len]; exact hc1)]
            · cases hh : hndl refs y h (e1.set i .emp) with
              | next e2 =>
                rw [hh] at q
                exact fun σ2 S2 H2 hs2 R2 => q (σ2.set i none) S2 H2 (hs'.trans hs2) (R2.stoAny (nr hR hc3))
              | ret fr d e2 =>
                have : ∀ {h : List (Nat × Bool × List (Option Ex))} {e : Env}, hndl refs y h e ≠ .ret fr d e2 := by
                  intro h
                  induction h with
                  | nil => intro e z; cases z
                  | cons p r ihh =>
                    intro e z
                    obtain ⟨jj, ap, cs⟩ := p
                    rw [hndl_cons] at z
                    split at z
                    · cases z
                    · split at z
                      · split at z
                        · split at z
                          · exact ihh z
                          · cases z
                        · cases z
                      · split at z
                        · exact ihh z
                        · cases z
                exact absurd hh this
              | exc x2 e2 =>
                have : ∀ {h : List (Nat × Bool × List (Option Ex))} {e : Env}, hndl refs y h e ≠ .exc x2 e2 := by
                  intro h
                  induction h with
                  | nil => intro e z; cases z
                  | cons p r ihh =>
                    intro e z
                    obtain ⟨jj, ap, cs⟩ := p
                    rw [hndl_cons] at z
                    split at z
                    · cases z
                    · split at z
                      · split at z
                        · split at z
                          · exact ihh z
                          · cases z
                        · cases z
                      · split at z
                        · exact ihh z
                        · cases z
                exact absurd hh this
              | bad => rw [hh] at q; exact q.elim
        · rename_i r hr hh
          cases hb : evSs call b refs e with
          | exc y e1 => exact absurd hb (hh y e1)
          | next e1 => rw [hb] at q; exact q
          | ret fr d e1 => rw [hb] at q; exact q
          | bad => rw [hb] at q; exact q
    · cases h4
  · cases hm
theorem main_b : ∀ n, IHb nm ca call j exR exC ro n := by
  intro n
  induction n with
  | zero => intro b hb; exact absurd hb (Nat.not_lt_zero _)
  | succ n ih =>
    intro b hb X G refs W g tk hR l h
    cases b with
    | nil =>
      unfold mSs at h
      obtain rfl := List.isEmpty_iff.mp h
      exact PSs.weak pss_nil fun Z σ H ⟨e, S, R, q⟩ => q σ S H (.refl S) R
    | cons s r =>
      unfold mSs at h
      split at h
      · rename_i y ys
        obtain ⟨h1, h2⟩ := and2 h
        have pr := ih r (by simp at hb; omega) X G refs W g tk hR _ h2
        have hn : sizeOf s ≤ n := by simp at hb; omega
        have ps : PS X y (tS X.K ca G call refs W s) := by
          cases s with
          | asg i a => exact w_asg g tk hR h1
          | unp ts a => exact w_unp g tk hR h1
          | par i k a b => exact w_par g tk hR h1
          | seti i k a => exact w_seti g tk hR h1
          | app i a => exact w_app g tk hR h1
          | ins i k a => unfold mS at h1; cases h1
          | pop i => unfold mS at h1; cases h1
          | popk i k => unfold mS at h1; cases h1
          | xpr a => exact w_xpr g tk hR h1
          | ret a => exact w_ret g tk hR h1
          | ret0 => exact w_ret0 h1
          | ifs c a b => exact w_ifs g tk hR ih hn h1
          | loop tp ts src b => exact w_loop g tk hR ih hn h1
          | whl fuel c b => exact w_whl g tk hR ih hn h1
          | rse x => exact w_rse g tk h1
          | tryk i xs b h => exact w_try g tk hR ih hn h1
        refine PSs.weak (pss_cons ps pr) fun Z σ H ⟨e, S, R, q⟩ => ⟨e, S, R, ?_⟩
        simp only [evSs] at q
        exact PstS.then q
      · cases h
end
end Vm

/-! Vm1: defs. -/
namespace Vm
open PySem PySem.Spec PyProof.Rows L2
/-- a def, its text and its program -/
structure DR where
  st : Stmt
  N : List Str
  ps : List Str
  fn : Fn
def chkD (nm : Nat → Str) (exR exC : List Ex) (r : DR) : Bool := C8.scC r.N r.ps (defScope r.st) && mSs nm r.N exR exC (defScope r.st) r.fn.body (defBody r.st) && decide (r.ps.length = r.fn.ps.length) && decide (r.N.length = r.fn.n)
section
variable {K : PySem.W.Frag} {S H S' H' : Hp} {e : Env} {σ : L2.St}
theorem Args.length : ∀ {as : List AV} {vs : List V} {B C : List Addr}, Args K S H as vs B C → as.length = vs.length
  | _, _, _, _, .nil => rfl
  | _, _, _, _, .val _ h => congrArg Nat.succ (Args.length h)
  | _, _, _, _, .own _ h => congrArg Nat.succ (Args.length h)
  | _, _, _, _, .give _ h => congrArg Nat.succ (Args.length h)
/-- the names at the entry -/
theorem params_ok : ∀ {ps : List PM} {as : List AV} {vs : List V} {B C : List Addr} {e : Env}, Args K S H as vs B C → params ps as = some e → (B ++ C).Nodup →
    e.length = vs.length ∧ as.length = ps.length ∧ (∀ (i : Nat) (d : D), e[i]? = some (.val d) → ∃ v, vs[i]? = some v ∧ Rep K S v d) ∧ (∀ (i : Nat) (d : D), IsOwn e i d → ∃ l, vs[i]? = some (.ref l) ∧ Own K S H l d ∧ l ∈ B ++ C) ∧
    (∀ (i k : Nat) (d d' : D) (l : Addr), IsOwn e i d → IsOwn e k d' → vs[i]? = some (.ref l) → vs[k]? = some (.ref l) → i = k) := by
  intro ps
  induction ps with
  | nil =>
    intro as vs B C e ha hp hn
    cases as with
    | nil =>
      cases hp; cases ha
      refine ⟨rfl, rfl, fun i d h => by simp at h, fun i d h => ?_, fun i k d d' l h => ?_⟩
      · rcases h with h | h <;> simp at h
      · rcases h with h | h <;> simp at h
    | cons a as => cases hp
  | cons p ps ih =>
    intro as vs B C e ha hp hn
    have own0 : ∀ {s : Slot} {e : Env} {i : Nat} {d : D}, IsOwn (s :: e) (i + 1) d → IsOwn e i d := fun {s e i d} h => by
      rcases h with h | h
      · exact .inl (by simpa using h)
      · exact .inr (by simpa using h)
    cases ha with
    | nil => cases p <;> cases hp
    | @val d v as vs B C r ha =>
      cases p <;> first | (cases hp; done) | skip
      have hp : (params ps as).map (fun e => Slot.val d :: e) = some e := hp
      simp only [Option.map_eq_some_iff] at hp
      obtain ⟨e, hp2, rfl⟩ := hp
      obtain ⟨h1, h2, h3, h4, h5⟩ := ih ha hp2 hn
      refine ⟨by simp [h1], by simp [h2], fun i d' h => ?_, fun i d' h => ?_, fun i k d1 d2 l o1 o2 a1 a2 => ?_⟩
      · cases i with
        | zero => simp at h; subst h; exact ⟨v, rfl, r⟩
        | succ i => exact h3 i d' (by simpa using h)
      · cases i with
        | zero => rcases h with h | h <;> simp at h
        | succ i => exact h4 i d' (own0 h)
      · cases i with
        | zero => rcases o1 with h | h <;> simp at h
        | succ i => cases k with
          | zero => rcases o2 with h | h <;> simp at h
          | succ k => rw [h5 i k d1 d2 l (own0 o1) (own0 o2) (by simpa using a1) (by simpa using a2)]
    | @own d l0 as vs B C o ha =>
      cases p <;> first | (cases hp; done) | skip
      have hp : (params ps as).map (fun e => Slot.own d :: e) = some e := hp
      simp only [Option.map_eq_some_iff] at hp
      obtain ⟨e, hp2, rfl⟩ := hp
      have hn1 := List.nodup_cons.mp (show (l0 :: (B ++ C)).Nodup from hn)
      obtain ⟨h1, h2, h3, h4, h5⟩ := ih ha hp2 hn1.2
      refine ⟨by simp [h1], by simp [h2], fun i d' h => ?_, fun i d' h => ?_, fun i k d1 d2 l o1 o2 a1 a2 => ?_⟩
      · cases i with
        | zero => simp at h
        | succ i => exact h3 i d' (by simpa using h)
      · cases i with
        | zero =>
          rcases h with h | h
          · simp at h; subst h; exact ⟨l0, rfl, o, List.mem_cons_self⟩
          · simp at h
        | succ i =>
          obtain ⟨l, x1, x2, x3⟩ := h4 i d' (own0 h)
          exact ⟨l, x1, x2, List.mem_cons_of_mem _ x3⟩
      · cases i with
        | zero =>
          cases k with
          | zero => rfl
          | succ k =>
            obtain ⟨l', x1, x2, x3⟩ := h4 k d2 (own0 o2)
            have a2 : vs[k]? = some (.ref l) := by simpa using a2
            rw [x1] at a2; cases a2
            simp at a1
            subst a1
            exact absurd x3 hn1.1
        | succ i => cases k with
          | zero =>
            obtain ⟨l', x1, x2, x3⟩ := h4 i d1 (own0 o1)
            have a1 : vs[i]? = some (.ref l) := by simpa using a1
            rw [x1] at a1; cases a1
            simp at a2
            subst a2
            exact absurd x3 hn1.1
          | succ k => rw [h5 i k d1 d2 l (own0 o1) (own0 o2) (by simpa using a1) (by simpa using a2)]
    | @give d l0 as vs B C o ha =>
      cases p <;> first | (cases hp; done) | skip
      have hp : (params ps as).map (fun e => Slot.own d :: e) = some e := hp
      simp only [Option.map_eq_some_iff] at hp
      obtain ⟨e, hp2, rfl⟩ := hp
      have hn1 := List.nodup_cons.mp ((List.perm_middle.nodup_iff).mp hn)
      obtain ⟨h1, h2, h3, h4, h5⟩ := ih ha hp2 hn1.2
      have mem : ∀ {x : Addr}, x ∈ B ++ C → x ∈ B ++ l0 :: C := fun {x} h => by
        rcases List.mem_append.mp h with h | h
        · exact List.mem_append_left _ h
        · exact List.mem_append_right _ (List.mem_cons_of_mem _ h)
      refine ⟨by simp [h1], by simp [h2], fun i d' h => ?_, fun i d' h => ?_, fun i k d1 d2 l o1 o2 a1 a2 => ?_⟩
      · cases i with
        | zero => simp at h
        | succ i => exact h3 i d' (by simpa using h)
      · cases i with
        | zero =>
          rcases h with h | h
          · simp at h; subst h; exact ⟨l0, rfl, o, List.mem_append_right _ List.mem_cons_self⟩
          · simp at h
        | succ i =>
          obtain ⟨l, x1, x2, x3⟩ := h4 i d' (own0 h)
          exact ⟨l, x1, x2, mem x3⟩
      · cases i with
        | zero =>
          cases k with
          | zero => rfl
          | succ k =>
            obtain ⟨l', x1, x2, x3⟩ := h4 k d2 (own0 o2)
            have a2 : vs[k]? = some (.ref l) := by simpa using a2
            rw [x1] at a2; cases a2
            simp at a1
            subst a1
            exact absurd x3 hn1.1
        | succ i => cases k with
          | zero =>
            obtain ⟨l', x1, x2, x3⟩ := h4 i d1 (own0 o1)
            have a1 : vs[i]? = some (.ref l) := by simpa using a1
            rw [x1] at a1; cases a1
            simp at a2
            subst a2
            exact absurd x3 hn1.1
          | succ k => rw [h5 i k d1 d2 l (own0 o1) (own0 o2) (by simpa using a1) (by simpa using a2)]
/-- the names that are given to be changed, with their addresses -/
theorem refs_ok : ∀ {ps : List PM} {as : List AV} {vs : List V} {B C : List Addr} {e : Env} (k : Nat), Args K S H as vs B C → params ps as = some e →
    ∃ R : List (Nat × Addr), R.map (·.1) = refsOf k ps ∧ R.map (·.2) = B ∧ ∀ r ∈ R, k ≤ r.1 ∧ vs[r.1 - k]? = some (.ref r.2) := by
  intro ps
  induction ps with
  | nil =>
    intro as vs B C e k ha hp
    cases as with
    | nil => cases hp; cases ha; exact ⟨[], rfl, rfl, fun r h => by simp at h⟩
    | cons a as => cases hp
  | cons p ps ih =>
    intro as vs B C e k ha hp
    have up : ∀ {R : List (Nat × Addr)} {v : V} {vs : List V}, (∀ r ∈ R, k + 1 ≤ r.1 ∧ vs[r.1 - (k + 1)]? = some (.ref r.2)) → ∀ r ∈ R, k ≤ r.1 ∧ (v :: vs)[r.1 - k]? = some (.ref r.2) := fun {R v vs} h r hr => by
      obtain ⟨h1, h2⟩ := h r hr
      refine ⟨by omega, ?_⟩
      have : r.1 - k = (r.1 - (k + 1)) + 1 := by omega
      rw [this, List.getElem?_cons_succ]; exact h2
    cases ha with
    | nil => cases p <;> cases hp
    | @val d v as vs B C r ha =>
      cases p <;> first | (cases hp; done) | skip
      have hp : (params ps as).map (fun e => Slot.val d :: e) = some e := hp
      simp only [Option.map_eq_some_iff] at hp
      obtain ⟨e, hp2, rfl⟩ := hp
      obtain ⟨R, h1, h2, h3⟩ := ih (k + 1) ha hp2
      exact ⟨R, h1, h2, up h3⟩
    | @own d l0 as vs B C o ha =>
      cases p <;> first | (cases hp; done) | skip
      have hp : (params ps as).map (fun e => Slot.own d :: e) = some e := hp
      simp only [Option.map_eq_some_iff] at hp
      obtain ⟨e, hp2, rfl⟩ := hp
      obtain ⟨R, h1, h2, h3⟩ := ih (k + 1) ha hp2
      refine ⟨(k, l0) :: R, by rw [List.map_cons, h1]; rfl, by rw [List.map_cons, h2], fun r hr => ?_⟩
      rcases List.mem_cons.mp hr with rfl | hr
      · exact ⟨Nat.le_refl _, by simp⟩
      · exact up h3 r hr
    | @give d l0 as vs B C o ha =>
      cases p <;> first | (cases hp; done) | skip
      have hp : (params ps as).map (fun e => Slot.own d :: e) = some e := hp
      simp only [Option.map_eq_some_iff] at hp
      obtain ⟨e, hp2, rfl⟩ := hp
      obtain ⟨R, h1, h2, h3⟩ := ih (k + 1) ha hp2
      exact ⟨R, h1, h2, up h3⟩
/-- the changed lists at the end -/
theorem outs_ok {G : Gh} (Rl : Rel K G [] e σ S H) : ∀ {R : List (Nat × Addr)} {os : List D}, (∀ r ∈ R, At σ r.1 r.2) → outs e (R.map (·.1)) = some os → Outs K S H (R.map (·.2)) os ∧ ∀ l ∈ R.map (·.2), ∃ i d, IsOwn e i d ∧ At σ i l
  | [], os, hr, ho => by
    cases ho
    exact ⟨.nil, fun l h => by simp at h⟩
  | r :: R, os, hr, ho => by
    have ho : (getO e r.1).bind (fun d => (outs e (R.map (·.1))).map (d :: ·)) = some os := ho
    simp only [Option.bind_eq_some_iff, Option.map_eq_some_iff] at ho
    obtain ⟨d, hd, os, ho2, rfl⟩ := ho
    obtain ⟨h1, h2⟩ := outs_ok Rl (R := R) (fun r h => hr r (List.mem_cons_of_mem _ h)) ho2
    have own : IsOwn e r.1 d := by
      unfold getO at hd
      split at hd
      · rename_i h; cases hd; exact .inl h
      · rename_i h; cases hd; exact .inr h
      · cases hd
    obtain ⟨l, x1, x2, _⟩ := Rl.own _ _ own
    have := at_inj x1 (hr r List.mem_cons_self)
    subst this
    refine ⟨.cons x2 h1, fun l hl => ?_⟩
    rcases List.mem_cons.mp hl with rfl | hl
    · exact ⟨r.1, d, own, hr r List.mem_cons_self⟩
    · exact h2 l hl
theorem start_get {N : List Str} {vs : List V} {i : Nat} : (L2.start N vs)[i]? = if i < vs.length then some vs[i]? else (if i < vs.length + (N.length - vs.length) then some none else none) := by
  unfold L2.start
  by_cases h : i < vs.length
  · rw [if_pos h, List.getElem?_append_left (by simpa using h), List.getElem?_map]
    rw [List.getElem?_eq_getElem h]; rfl
  · rw [if_neg h, List.getElem?_append_right (by simpa using h), List.getElem?_replicate, List.length_map]
    split <;> split <;> first | rfl | omega
end
section
variable {P : Program} {w : World} {K : PySem.W.Frag} {mg : Str → Option Value} {base : Heap} {nm : Nat → Str} {ca : Ex → Addr} {exR exC : List Ex} {ro : Addr} {tab : Nat → Option Fn} {nmx : Str}
theorem fn_ok {call : CallT} {k : Nat} {r : DR} {a : Addr} {fd : FuncData} (hc : chkD nm exR exC r = true) (F : FunD K nmx nmx (defArgs r.st) (defBody r.st) (defScope r.st) [] [] a fd) (cs : CallsOk P w K mg base nm ca call k)
    (free : ∀ x ∈ freeNames, mg x = none) (ex : ∀ x ∈ exR, ExOk K mg ca ro exC x) (exc : ∀ x ∈ exC, mg x.name = some (.ref (ca x))) (hro : exR ≠ [] → mg "RoofError" = some (.ref ro)) :
    FnOk P w K mg base (L2.CX P w) (k + 1) a fd r.ps (fun vs H Q E => ∃ S as B C, Sub S H ∧ Args K S H as vs B C ∧ (B ++ C).Nodup ∧ PstF K ca S H B C Q E (runFn call r.fn as)) := by
  unfold chkD at hc
  obtain ⟨hc, h4⟩ := and2 hc
  obtain ⟨hc, h3⟩ := and2 hc
  obtain ⟨h1, h2⟩ := and2 hc
  have S0 := C8.fnScope_by h1
  have hlen := of_decide_eq_true h3
  have hN := of_decide_eq_true h4
  have lens : ∀ {vs : List V} {H : Hp} {Q : VK} {E : XK} {S : Hp} {as : List AV} {B C : List Addr}, Args K S H as vs B C → (B ++ C).Nodup → PstF K ca S H B C Q E (runFn call r.fn as) → ∃ e, params r.fn.ps as = some e ∧ e.length = vs.length ∧ vs.length = r.ps.length := fun {vs H Q E S as B C} ha hn q => by
    unfold runFn at q
    cases hp : params r.fn.ps as with
    | none => rw [hp] at q; exact q.elim
    | some e =>
      obtain ⟨x1, x2, _⟩ := params_ok ha hp hn
      have : as.length = vs.length := ha.length
      exact ⟨e, rfl, x1, by rw [← this, x2, hlen]⟩
  refine F.ok S0 (fun vs H Q E ⟨S, as, B, C, hs, ha, hn, q⟩ => (lens ha hn q).elim fun e z => z.2.2) fun cdv A outer s H vs Q E hr ⟨S, as, B, C, hs, ha, hn, q⟩ => ?_
  obtain ⟨e, hp, hl1, hl2⟩ := lens ha hn q
  obtain ⟨_, _, pv, po, psep⟩ := params_ok ha hp hn
  obtain ⟨R, r1, r2, r3⟩ := refs_ok 0 ha hp
  have q0 := q
  unfold runFn at q
  rw [hp] at q
  dsimp only at q
  have g : GoodS nm ca call k exR exC ro (cxOf (L2.CX P w) P w K mg base r.N nmx (defScope r.st) a cdv A outer s H E) := ⟨⟨rfl, S0.nd, hr, cs, free⟩, passes_of rfl, rfl, rfl, fun _ => rfl, S0.kind, ex, exc, hro⟩
  have tk : Takes (cxOf (L2.CX P w) P w K mg base r.N nmx (defScope r.st) a cdv A outer s H E) (fun cls d _ H => E cls d H) := takes_of rfl rfl rfl rfl
  let G : Gh := ⟨H, S, B ++ C, R⟩
  have hR : ∀ x ∈ G.R, x.1 ∈ refsOf 0 r.fn.ps := fun x hx => by rw [← r1]; exact List.mem_map.mpr ⟨x, hx, rfl⟩
  refine ⟨tSs K ca G call (refsOf 0 r.fn.ps) (fun cls d _ H => E cls d H) r.fn.body, main_b _ r.fn.body (Nat.lt_succ_self _) _ G _ _ g tk hR _ h2, e ++ List.replicate (r.fn.n - e.length) .emp, S, ?_, ?_⟩
  · have hNl : r.N.length = r.fn.n := hN
    have hle : vs.length ≤ r.N.length := by rw [hl2]; have := congrArg List.length S0.pre; rw [List.length_take] at this; omega
    have get : ∀ {i : Nat} {s : Slot}, (e ++ List.replicate (r.fn.n - e.length) Slot.emp)[i]? = some s → s ≠ .emp → e[i]? = some s := fun {i s} h hne => by
      by_cases hi : i < e.length
      · rwa [List.getElem?_append_left hi] at h
      · rw [List.getElem?_append_right (by omega), List.getElem?_replicate] at h
        split at h
        · cases h; exact absurd rfl hne
        · cases h
    have own : ∀ {i : Nat} {d : D}, IsOwn (e ++ List.replicate (r.fn.n - e.length) Slot.emp) i d → IsOwn e i d := fun {i d} h => by
      rcases h with h | h
      · exact .inl (get h (fun z => nomatch z))
      · exact .inr (get h (fun z => nomatch z))
    have at1 : ∀ {i : Nat} {v : V}, vs[i]? = some v → (L2.start r.N vs)[i]? = some (some v) := fun {i v} h => by
      have hi := (List.getElem?_eq_some_iff.mp h).1
      rw [start_get, if_pos hi, h]
    have at2 : ∀ {i : Nat} {v : V}, (L2.start r.N vs)[i]? = some (some v) → vs[i]? = some v := fun {i v} h => by
      rw [start_get] at h
      split at h
      · exact Option.some.inj h
      · split at h <;> cases h
    exact {
      sub := hs
      fr := fun b o h _ => h
      s0 := .refl S
      new := fun b o h _ => .inl (by show S b ≠ none; rw [h]; exact fun z => nomatch z)
      len := by rw [List.length_append, List.length_replicate, hl1]; unfold L2.start; rw [List.length_append, List.length_map, List.length_replicate]; omega
      val := fun i d h => by
        obtain ⟨v, x1, x2⟩ := pv i d (get h (fun z => nomatch z))
        exact ⟨v, at1 x1, x2⟩
      own := fun i d h => by
        obtain ⟨l, x1, x2, x3⟩ := po i d (own h)
        exact ⟨l, at1 x1, x2, .inr x3⟩
      sep := fun i k d d' l o1 o2 a1 a2 => psep i k d d' l (own o1) (own o2) (at2 a1) (at2 a2)
      pen := fun q hq => nomatch hq
      pnd := .nil
      refs := fun x hx => at1 (r3 x hx).2 }
  · have after : ∀ {e' : Env} {σ' : L2.St} {S' H' : Hp} {os : List D}, Rel K G [] e' σ' S' H' → outs e' (refsOf 0 r.fn.ps) = some os → After K S H B C S' H' os ∧ ∀ l ∈ B, ∃ i d, IsOwn e' i d ∧ At σ' i l := fun {e' σ' S' H' os} R' ho => by
      rw [← r1] at ho
      obtain ⟨o1, o2⟩ := outs_ok R' R'.refs ho
      rw [r2] at o1 o2
      refine ⟨⟨R'.s0, R'.sub, fun b o h hb hc => R'.fr b o h (fun z => (List.mem_append.mp z).elim hb hc), fun b o h mu => ?_, o1⟩, o2⟩
      rcases R'.new b o h mu with z | z | z
      · exact .inl z
      · exact .inr (.inl z)
      · rcases List.mem_append.mp z with z | z
        · obtain ⟨i, d, x1, x2⟩ := o2 b z
          obtain ⟨l, y1, y2, _⟩ := R'.own i d x1
          have := at_inj x2 y1
          subst this
          rw [y2.1] at h; cases h
        · exact .inr (.inr z)
    cases hb : evSs call r.fn.body (refsOf 0 r.fn.ps) (e ++ List.replicate (r.fn.n - e.length) .emp) with
    | bad => rw [hb] at q; exact q.elim
    | next e' =>
      rw [hb] at q
      dsimp only at q
      cases ho : outs e' (refsOf 0 r.fn.ps) with
      | none => rw [ho] at q; exact q.elim
      | some os =>
        rw [ho] at q
        exact fun σ' S' H' hs' R' => q .non S' H' (after R' ho).1 .non
    | ret fr d e' =>
      rw [hb] at q
      dsimp only at q
      cases ho : outs e' (refsOf 0 r.fn.ps) with
      | none => rw [ho] at q; exact q.elim
      | some os =>
        rw [ho] at q
        intro v σ' S' H' hs' R' rv
        obtain ⟨A1, A2⟩ := after R' ho
        refine q v S' H' A1 ?_
        cases fr with
        | false => exact rv
        | true =>
          obtain ⟨l, rfl, Fr⟩ := rv
          have hB : l ∉ B := fun z => by
            obtain ⟨i, d', x1, x2⟩ := A2 l z
            exact Fr.noe i d' x1 x2
          refine ⟨l, rfl, Fr.own, hB, ?_⟩
          rcases Fr.gh with z | z
          · exact .inl z
          · rcases List.mem_append.mp z with z | z
            · exact absurd z hB
            · exact .inr z
    | exc x e' =>
      rw [hb] at q
      dsimp only at q
      cases ho : outs e' (refsOf 0 r.fn.ps) with
      | none => rw [ho] at q; exact q.elim
      | some os =>
        rw [ho] at q
        exact fun σ' S' H' hs' R' => q S' H' (after R' ho).1
/-- every def keeps the interpreter's promise -/
theorem calls_ok (hrow : ∀ f, nm f ≠ "" → ∃ r : DR, tab f = some r.fn ∧ chkD nm exR exC r = true ∧ ∃ (a : Addr) (fd : FuncData), mg (nm f) = some (.ref a) ∧ FunD K (nm f) (nm f) (defArgs r.st) (defBody r.st) (defScope r.st) [] [] a fd ∧ Binds K fd r.ps [])
    (free : ∀ x ∈ freeNames, mg x = none) (ex : ∀ x ∈ exR, ExOk K mg ca ro exC x) (exc : ∀ x ∈ exC, mg x.name = some (.ref (ca x))) (hro : exR ≠ [] → mg "RoofError" = some (.ref ro)) : ∀ k, CallsOk P w K mg base nm ca (run tab k) k := by
  intro k
  induction k with
  | zero =>
    intro f hf
    obtain ⟨r, _, _, a, fd, m, F, b⟩ := hrow f hf
    exact ⟨a, fd, r.ps, m, F.kp, b, ⟨fun vs H Q E ⟨_, _, _, _, _, _, _, q⟩ => q.elim, fun _ _ _ _ _ _ _ _ _ _ _ _ _ ⟨_, _, _, _, _, _, _, q⟩ => q.elim⟩⟩
  | succ k ih =>
    intro f hf
    obtain ⟨r, ht, hc, a, fd, m, F, b⟩ := hrow f hf
    refine ⟨a, fd, r.ps, m, F.kp, b, (fn_ok hc F ih free ex exc hro).imp fun vs H Q E ⟨S, as, B, C, hs, ha, hn, q⟩ => ⟨S, as, B, C, hs, ha, hn, ?_⟩⟩
    have e : run tab (k + 1) f as = runFn (run tab k) r.fn as := by
      show (match tab f with | some fn => runFn (run tab k) fn as | none => .bad) = _
      rw [ht]
    rw [e] at q
    exact q
end
end Vm

/-! Vm2: the head's facts for the interpreter; the end. -/
namespace Vm
open PySem PySem.Spec PyProof.Rows L2
structure LRow where
  name : Str
  i : Nat
  N : List Str
  ps : List Str
  fn : Fn
def LRow.dd (top : Nat → Stmt) (r : LRow) : He.DefD := ⟨(r.name, none), r.name, r.name, defArgs (top r.i), defBody (top r.i), defScope (top r.i), [], []⟩
def LRow.dr (top : Nat → Stmt) (r : LRow) : DR := ⟨top r.i, r.N, r.ps, r.fn⟩
def nmOf (dl : List LRow) (f : Nat) : Str := match dl[f]? with
  | some r => r.name
  | none => ""
def tabOf (dl : List LRow) (f : Nat) : Option Fn := match dl[f]? with
  | some r => some r.fn
  | none => none
def BindsP (top : Nat → Stmt) (r : LRow) : Prop := ∀ (kV doc pm : Value) (an : Option Addr) (cdv ct : Value) (us : List Value), us.length = r.ps.length →
  bindArgs (PySem.W.fnOf r.name r.name (defArgs (top r.i)) (defBody (top r.i)) (defScope (top r.i)) .none kV doc pm an cdv ct) ⟨us, []⟩ = pure (r.ps.zip us)
inductive AllB (top : Nat → Stmt) : List LRow → Prop
  | nil : AllB top []
  | cons {r : LRow} {l : List LRow} : BindsP top r → AllB top l → AllB top (r :: l)
theorem AllB.get {top : Nat → Stmt} : ∀ {l : List LRow} {r : LRow}, AllB top l → r ∈ l → BindsP top r
  | _, _, .cons b t, h => by
    rcases List.mem_cons.mp h with rfl | h
    · exact b
    · exact t.get h
theorem AllB.append {top : Nat → Stmt} : ∀ {l m : List LRow}, AllB top l → AllB top m → AllB top (l ++ m)
  | _, _, .nil, h => h
  | _, _, .cons b t, h => .cons b (t.append h)
def excB (K : PySem.W.Frag) (exC : List Ex) (x : Ex) : Bool :=
  (He.Fa.glo x.name).ok K && ((He.Fa.exc x.name).ok K && ((He.Fa.exm x.name "RoofError" true).ok K &&
  (He.eqO (PySem.W.findIn K (.ref (He.ga K x.name)) "__getattribute__") (some (some (.builtin "BaseException.__getattribute__"))) &&
  (He.eqO (PySem.W.findIn K (.ref (He.ga K x.name)) "__getattr__") (some none) &&
  (PySem.W.hasDictIn K (He.ga K x.name) &&
  (He.eqO (PySem.W.findIn K (.ref (He.ga K x.name)) "__class__") (some (some (.builtin "object.__class__"))) &&
  (He.eqO (PySem.W.specialIn K (.builtin "object.__class__") "__get__") (some (some (.builtin "getset_descriptor.__get__"))) &&
  (decide (PySem.W.takesIn K (.builtin "object.__class__") = some true) &&
  (decide (PySem.W.mroIn K (He.ga K x.name) (.type "object") = some true) &&
  (decide (PySem.W.kitOne K (.ref (He.ga K x.name)) (.type "ValueError") = some true) &&
  exC.all fun y => decide (PySem.W.kitOne K (.ref (He.ga K x.name)) (.ref (He.ga K y.name)) = some (decide (x = y)))))))))))))
def mine (dl : List LRow) (exR exC : List Ex) (K : PySem.W.Frag) : Bool :=
  (dl.all fun r => (He.Fa.glo r.name).ok K) && ((freeNames.all fun x => (He.Fa.free x).ok K) && ((exC.all fun y => (He.Fa.glo y.name).ok K) && ((exR.all fun x => excB K exC x) && (exR.isEmpty || (He.Fa.glo "RoofError").ok K))))
def obsV (m : PySem.W.Frag → Bool) (fn : List He.DefD) (K : PySem.W.Frag) : He.AlD := (m K && (He.obsD [] fn K).1, (He.obsD [] fn K).2)
def obsVG (n : Nat) (m : PySem.W.Frag → Bool) (fn : List He.DefD) (g : Addr → Option Obj) : He.AlD := obsV m fn (He.frG g (He.asD g n))
def hookV (n : Nat) (m : PySem.W.Frag → Bool) (fn : List He.DefD) : PySem.W.Hook where
  α := He.AlD
  obs := fun s => obsVG n m fn s.heap.get?
  val := fun _ => He.valD fn
  says := fun _ h => ∃ K : PySem.W.Frag, K.In h ∧ obsV m fn K = He.valD fn
  of := fun _ _ e => ⟨_, He.frG_in, e⟩
  keeps := fun _ _ _ ⟨K, hK, c⟩ k => ⟨K, PySem.W.Frag.In.keeps hK k, c⟩
theorem obsVG_eq {n : Nat} {m : PySem.W.Frag → Bool} {fn : List He.DefD} {g : Addr → Option Obj} {s : Shared} (h : ∀ a, g a = s.heap.get? a) : obsVG n m fn g = (hookV n m fn).obs s := by
  have e : g = s.heap.get? := funext h
  rw [e] <;> rfl
theorem obsV_of {m : PySem.W.Frag → Bool} {fn : List He.DefD} {K : PySem.W.Frag} (h : obsV m fn K = He.valD fn) : m K = true ∧ He.SaysD [] fn K := by
  have h1 : (m K && (He.obsD [] fn K).1) = true := congrArg (fun z : He.AlD => z.1) h
  have h2 : (He.obsD [] fn K).2 = fn.map He.DefD.val := congrArg (fun z : He.AlD => z.2) h
  obtain ⟨h3, h4⟩ := and2 h1
  exact ⟨h3, Prod.ext h4 h2⟩
theorem exc_all {K : PySem.W.Frag} {h : Heap} {mg : Str → Option Value} {exC : List Ex} {x : Ex} (X : K.In h) (Gn : h.Ns mainGlobals mg) (c : excB K exC x = true) : ExOk K mg (fun x => He.ga K x.name) (He.ga K "RoofError") exC x := by
  unfold excB at c
  obtain ⟨c1, c⟩ := and2 c
  obtain ⟨c2, c⟩ := and2 c
  obtain ⟨c3, c⟩ := and2 c
  obtain ⟨c4, c⟩ := and2 c
  obtain ⟨c5, c⟩ := and2 c
  obtain ⟨c6, c⟩ := and2 c
  obtain ⟨c7, c⟩ := and2 c
  obtain ⟨c8, c⟩ := and2 c
  obtain ⟨c9, c⟩ := and2 c
  obtain ⟨c10, c⟩ := and2 c
  obtain ⟨c11, c12⟩ := and2 c
  obtain ⟨e1, e2, e3, e4⟩ := He.exc_ok c2
  exact ⟨He.glo_ok X Gn c1, e2, e1, e3, e4, He.exm_ok c3, ⟨He.eqO_ok c4, He.eqO_ok c5, e3, c6, He.eqO_ok c7, He.eqO_ok c8, of_decide_eq_true c9, of_decide_eq_true c10⟩,
    fun y hy => of_decide_eq_true (List.all_eq_true.mp c12 y hy), of_decide_eq_true c11⟩
theorem FnOk.nox {P : Program} {w : World} {K : PySem.W.Frag} {mg : Str → Option Value} {base : Heap} {k : Nat} {f : Addr} {fd : FuncData} {ps : List Str} {sp : Sp} (F : FnOk P w K mg base (L2.CX P w) k f fd ps sp) :
    FnOk P w K mg base CX0 k f fd ps (fun vs H Q _ => sp vs H Q fun _ _ _ => False) := ⟨fun vs H Q E q => F.len vs H Q _ q, fun A outer s H args us vs Q E hr e0 hb hv hs => by
  refine codeAny_mono (F.run A outer s H args us vs Q _ hr e0 hb hv hs) fun r s' q => ?_
  cases r with
  | ok fl => cases fl <;> exact q
  | error e =>
    obtain ⟨_, _, _, _, _, _, _, _, _, _, _, _, z⟩ := (show L2.CX P w outer H s (fun _ _ _ => False) e s' from q)
    exact z.elim⟩
/-- what the end asks -/
theorem vm_end {top : Nat → Stmt} {dl : List LRow} {exR exC : List Ex} {li k n : Nat} {rl : LRow} {x : Str} {P : Program} (hchk : (dl.all fun r => chkD (nmOf dl) exR exC (r.dr top)) = true) (hb : AllB top dl) (hl : dl[li]? = some rl) (hx : rl.ps = [x])
    (hrun : ∀ ns : List Int, ns.length ≤ n → run (tabOf dl) (k + 1) li [.val (.sc ns)] = .ret false (.bl true) [])
    {w : World} {mg : Str → Option Value} {fa : Addr} {h : Heap} (Y : ∃ K : PySem.W.Frag, K.In h ∧ obsV (mine dl exR exC) (dl.map (LRow.dd top)) K = He.valD (dl.map (LRow.dd top))) (Gn : h.Ns mainGlobals mg) (hmg : mg rl.name = some (.ref fa)) :
    ∃ (K : PySem.W.Frag) (fd : FuncData) (sp : Sp), K.In h ∧ (∀ (s : Shared) (u : Value), BindsTo s fd ⟨[u], []⟩ [(x, u)]) ∧
        (∀ (H : Hp) (a : Addr) (ns : List Int), ns.length ≤ n → Only H → SqL K H a (ns.map V.int) → sp [.ref a] H (fun v _ => v = .bl true) fun _ _ _ => False) ∧
        ∀ base : Heap, K.In base → base.Ns mainGlobals mg → FnOk P w K mg base CX0 (k + 1) fa fd [x] sp := by
  obtain ⟨K, KX, c⟩ := Y
  obtain ⟨m, sd⟩ := obsV_of c
  unfold mine at m
  obtain ⟨m1, m⟩ := and2 m
  obtain ⟨m2, m⟩ := and2 m
  obtain ⟨m3, m⟩ := and2 m
  obtain ⟨m4, m5⟩ := and2 m
  have free : ∀ x ∈ freeNames, mg x = none := fun x hx => He.free_ok KX Gn (List.all_eq_true.mp m2 x hx)
  have exc : ∀ x ∈ exC, mg x.name = some (.ref (He.ga K x.name)) := fun x hx => He.glo_ok KX Gn (List.all_eq_true.mp m3 x hx)
  have ex : ∀ x ∈ exR, ExOk K mg (fun x => He.ga K x.name) (He.ga K "RoofError") exC x := fun x hx => exc_all KX Gn (List.all_eq_true.mp m4 x hx)
  have ro : exR ≠ [] → mg "RoofError" = some (.ref (He.ga K "RoofError")) := fun hne => He.glo_ok KX Gn (by
    rcases Bool.or_eq_true_iff.mp m5 with z | z
    · exact absurd (List.isEmpty_iff.mp z) hne
    · exact z)
  have row : ∀ {f : Nat} {r : LRow}, dl[f]? = some r → chkD (nmOf dl) exR exC (r.dr top) = true ∧ ∃ (fd : FuncData), mg r.name = some (.ref (He.ga K r.name)) ∧ FunD K r.name r.name (defArgs (top r.i)) (defBody (top r.i)) (defScope (top r.i)) [] [] (He.ga K r.name) fd ∧ BindsP top r := fun {f r} hf => by
    have mem := List.mem_of_getElem? hf
    obtain ⟨fd, F⟩ := sd.def_ f (d := r.dd top) (by rw [List.getElem?_map, hf]; rfl)
    exact ⟨List.all_eq_true.mp hchk r mem, fd, He.glo_ok KX Gn (List.all_eq_true.mp m1 r mem), F, hb.get mem⟩
  have hrow : ∀ f, nmOf dl f ≠ "" → ∃ r : DR, tabOf dl f = some r.fn ∧ chkD (nmOf dl) exR exC r = true ∧ ∃ (a : Addr) (fd : FuncData), mg (nmOf dl f) = some (.ref a) ∧ FunD K (nmOf dl f) (nmOf dl f) (defArgs r.st) (defBody r.st) (defScope r.st) [] [] a fd ∧ Binds K fd r.ps [] := fun f hf => by
    cases hr : dl[f]? with
    | none => unfold nmOf at hf; rw [hr] at hf; exact absurd rfl hf
    | some r =>
      obtain ⟨h1, fd, h2, h3, h4⟩ := row hr
      have e : nmOf dl f = r.name := by unfold nmOf; rw [hr]
      rw [e]
      exact ⟨r.dr top, by unfold tabOf; rw [hr]; rfl, h1, _, fd, h2, h3, h3.bindsN h4⟩
  obtain ⟨h1, fd, h2, h3, h4⟩ := row hl
  have efa : fa = He.ga K rl.name := by rw [h2] at hmg; cases hmg; rfl
  subst efa
  refine ⟨K, fd, fun vs H Q _ => ∃ S as B C, Sub S H ∧ Args K S H as vs B C ∧ (B ++ C).Nodup ∧ PstF K (fun x => He.ga K x.name) S H B C Q (fun _ _ _ => False) (runFn (run (tabOf dl) k) rl.fn as), KX, fun s u => ?_, ?_, fun base hbase hns => ?_⟩
  rotate_left 2
  · have F := fn_ok (P := P) (w := w) (base := base) (ca := fun x => He.ga K x.name) h1 h3 (calls_ok hrow free ex exc ro k) free ex exc ro
    have F := FnOk.nox F
    have e : (rl.dr top).ps = [x] := hx
    rw [e] at F
    exact F
  · have := FunD.bindsA h3 h4 s [u] (by rw [hx]; rfl)
    rw [hx] at this
    exact this
  · intro H a ns hlen _ hS
    refine ⟨H, [.val (.sc ns)], [], [], .refl H, .val (.sc hS) .nil, .nil, ?_⟩
    have e := hrun ns hlen
    have e2 : run (tabOf dl) (k + 1) li [.val (.sc ns)] = runFn (run (tabOf dl) k) rl.fn [.val (.sc ns)] := by
      show (match tabOf dl li with | some fn => runFn (run (tabOf dl) k) fn _ | none => .bad) = _
      unfold tabOf; rw [hl]
    rw [e2] at e
    show PstF K _ H H [] [] _ _ (runFn (run (tabOf dl) k) rl.fn [.val (.sc ns)])
    rw [e]
    intro v S' H' A rv
    cases rv
    rfl
end Vm

/-! Vm3: the interpreter's steps, as rewriting. -/
namespace Vm
open PySem L2
section
variable {call : CallT} {refs : List Nat} {e : Env} {α β : Type}
@[simp] theorem rb1 (a : α) (f : α → Env → Res β) : (Res.ok a e).bind f = f a e := rfl
@[simp] theorem rb2 (x : Ex) (f : α → Env → Res β) : (Res.exc x e : Res α).bind f = .exc x e := rfl
@[simp] theorem rt1 (a : α) (f : α → Env → SR) : (Res.ok a e).to f = f a e := rfl
@[simp] theorem rt2 (x : Ex) (f : α → Env → SR) : (Res.exc x e : Res α).to f = .exc x e := rfl
@[simp] theorem sr1 (f : Env → SR) : (SR.next e).then f = f e := rfl
@[simp] theorem sr2 (fr : Bool) (d : D) (f : Env → SR) : (SR.ret fr d e).then f = .ret fr d e := rfl
@[simp] theorem sr3 (x : Ex) (f : Env → SR) : (SR.exc x e).then f = .exc x e := rfl
@[simp] theorem to_ite {c : Prop} [Decidable c] (r s : Res α) (f : α → Env → SR) : (if c then r else s).to f = if c then r.to f else s.to f := by split <;> rfl
@[simp] theorem bind_ite {c : Prop} [Decidable c] (r s : Res α) (f : α → Env → Res β) : (if c then r else s).bind f = if c then r.bind f else s.bind f := by split <;> rfl
@[simp] theorem then_ite {c : Prop} [Decidable c] (r s : SR) (f : Env → SR) : (if c then r else s).then f = if c then r.then f else s.then f := by split <;> rfl
@[simp] theorem op_none (r : Unit → Res (Bool × D)) : opnd none r e = (r ()).bind fun p e => .ok (.d p.2) e := rfl
theorem op_some (i : Nat) (r : Unit → Res (Bool × D)) : opnd (some i) r e = match pk e i with | some _ => .ok (.slot i) e | none => .bad := rfl
theorem g_slot (i : Nat) : got (.slot i) e = pk e i := rfl
@[simp] theorem g_d (d : D) : got (.d d) e = some d := rfl
@[simp] theorem gs0 : gots [] e = some [] := rfl
@[simp] theorem gs1 (o : Opd) (r : List Opd) : gots (o :: r) e = (got o e).bind fun d => (gots r e).map (d :: ·) := rfl
@[simp] theorem fr1 (d : D) : fresh (some d) e = .ok (isL d, d) e := rfl
@[simp] theorem ol1 (d : D) : old (some d) e = .ok (false, d) e := rfl
@[simp] theorem ob1 (b : Bool) : ofB (some b) e = .ok (false, .bl b) e := rfl
@[simp] theorem oo1 (a : α) : ofO (some a) e = .ok a e := rfl
@[simp] theorem ab1 (b : Bool) : asB (.bl b) e = .ok b e := rfl
@[simp] theorem ai1 (b : Int) : asI (.int b) e = .ok b e := rfl
@[simp] theorem il1 (i : Int) : isL (.int i) = false := rfl
@[simp] theorem il2 (i : Str) : isL (.str i) = false := rfl
@[simp] theorem il3 (i : Bool) : isL (.bl i) = false := rfl
@[simp] theorem il4 : isL .non = false := rfl
@[simp] theorem il5 (l : List D) : isL (.tup l) = false := rfl
@[simp] theorem il6 (l : List D) : isL (.lst l) = true := rfl
@[simp] theorem ee_con (c : C) : evE call refs (.con c) e = .ok (false, c.d) e := by simp only [evE]
@[simp] theorem ee_var (i : Nat) : evE call refs (.var i) e = (rd e i).bind fun d e => .ok (false, d) e := by simp only [evE]
@[simp] theorem ee_tup (es : Es) : evE call refs (.tup es) e = (evEs call refs es e).bind fun l e => if l.length ≤ 4096 then .ok (false, .tup l) e else .bad := by simp only [evE]
@[simp] theorem ee_lst (es : Es) : evE call refs (.lst es) e = (evEs call refs es e).bind fun l e => if l.length ≤ 4096 then .ok (true, .lst l) e else .bad := by simp only [evE]
@[simp] theorem ee_bin (o : BO) (a b : E) : evE call refs (.bin o a b) e = (opnd (isVar a) (fun _ => evE call refs a e) e).bind fun x e => (opnd (isVar b) (fun _ => evE call refs b e) e).bind fun y e => op2 x y e fun x y => fresh (binD o x y) e := by simp only [evE]
@[simp] theorem ee_neg (a : E) : evE call refs (.neg a) e = (opnd (isVar a) (fun _ => evE call refs a e) e).bind fun x e => op1 x e fun x => (asI x e).bind fun i e => .ok (false, .int (-i)) e := by simp only [evE]
@[simp] theorem ee_cmp (o : CO) (a b : E) : evE call refs (.cmp o a b) e = (opnd (isVar a) (fun _ => evE call refs a e) e).bind fun x e => (opnd (isVar b) (fun _ => evE call refs b e) e).bind fun y e => op2 x y e fun x y => ofB (cmpD o x y) e := by simp only [evE]
@[simp] theorem ee_bop (k : Bool) (es : Es) : evE call refs (.bop k es) e = evBs call refs k es e := by simp only [evE]
@[simp] theorem ee_not (a : E) : evE call refs (.not a) e = (opnd (isVar a) (fun _ => evE call refs a e) e).bind fun x e => op1 x e fun x => (asB x e).bind fun b e => .ok (false, .bl (!b)) e := by simp only [evE]
@[simp] theorem ee_ite (c a b : E) : evE call refs (.ite c a b) e = (opnd (isVar c) (fun _ => evE call refs c e) e).bind fun x e => op1 x e fun x => (asB x e).bind fun k e => if k = true then evE call refs a e else evE call refs b e := by simp only [evE]
@[simp] theorem ee_idx (a i : E) : evE call refs (.idx a i) e = (opnd (isVar a) (fun _ => evE call refs a e) e).bind fun x e => (opnd (isVar i) (fun _ => evE call refs i e) e).bind fun y e => op2 x y e fun x y => old (idxD x y) e := by simp only [evE]
@[simp] theorem ee_slc (a : E) (lo hi : Eo) : evE call refs (.slc a lo hi) e = (opnd (isVar a) (fun _ => evE call refs a e) e).bind fun x e => (evEo call refs lo e).bind fun l e => (evEo call refs hi e).bind fun h e => op1 x e fun x => fresh (slcD x l h) e := by simp only [evE]
@[simp] theorem ee_call (f : Nat) (as : As) : evE call refs (.call f as) e = (evAs call refs as e).bind fun vs e => doCall call f vs e := by simp only [evE]
@[simp] theorem ee_bi (b : BI) (es : Es) : evE call refs (.bi b es) e = (evPs call refs es e).bind fun l e => opn l e fun l => fresh (biD b l) e := by simp only [evE]
@[simp] theorem ee_isi (a : E) (t : Ty) : evE call refs (.isi a t) e = (opnd (isVar a) (fun _ => evE call refs a e) e).bind fun x e => op1 x e fun x => ofB (isiD x t) e := by simp only [evE]
@[simp] theorem es0 : evEs call refs .nil e = .ok [] e := by simp only [evEs]
@[simp] theorem es1 (a : E) (r : Es) : evEs call refs (.cons a r) e = (evE call refs a e).bind fun p e => (evEs call refs r e).bind fun l e => .ok (p.2 :: l) e := by simp only [evEs]
@[simp] theorem ps0 : evPs call refs .nil e = .ok [] e := by simp only [evPs]
@[simp] theorem ps1 (a : E) (r : Es) : evPs call refs (.cons a r) e = (opnd (isVar a) (fun _ => evE call refs a e) e).bind fun d e => (evPs call refs r e).bind fun l e => .ok (d :: l) e := by simp only [evPs]
@[simp] theorem bs1 (k : Bool) (a : E) : evBs call refs k (.cons a .nil) e = evE call refs a e := by simp only [evBs]
@[simp] theorem bs2 (k : Bool) (a b : E) (r : Es) : evBs call refs k (.cons a (.cons b r)) e = (opnd (isVar a) (fun _ => evE call refs a e) e).bind fun x e => op1 x e fun x => (asB x e).bind fun t e => if t = k then evBs call refs k (.cons b r) e else .ok (false, .bl t) e := by simp only [evBs]
@[simp] theorem eo0 : evEo call refs .none e = .ok none e := by simp only [evEo]
@[simp] theorem eo1 (a : E) : evEo call refs (.some a) e = (opnd (isVar a) (fun _ => evE call refs a e) e).bind fun x e => op1 x e fun x => (asI x e).bind fun i e => .ok (some i) e := by simp only [evEo]
@[simp] theorem as0 : evAs call refs .nil e = .ok [] e := by simp only [evAs]
@[simp] theorem as1 (a : E) (r : As) : evAs call refs (.val a r) e = (evE call refs a e).bind fun p e => (evAs call refs r e).bind fun l e => .ok (.v p.2 :: l) e := by simp only [evAs]
@[simp] theorem as2 (a : E) (r : As) : evAs call refs (.mov a r) e = (evE call refs a e).bind fun p e => if p.1 = true then (evAs call refs r e).bind fun l e => .ok (.m p.2 :: l) e else .bad := by simp only [evAs]
@[simp] theorem as3 (i : Nat) (r : As) : evAs call refs (.lend i r) e = (ofO (pk e i) e).bind fun _ e => (evAs call refs r e).bind fun l e => .ok (.l i :: l) e := by simp only [evAs]
@[simp] theorem as4 (i : Nat) (r : As) : evAs call refs (.ref i r) e = (ofO (pk e i) e).bind fun _ e => (evAs call refs r e).bind fun l e => .ok (.r i :: l) e := by simp only [evAs]
@[simp] theorem et1 (a : E) : evT call refs a e = (opnd (isVar a) (fun _ => evE call refs a e) e).bind fun x e => op1 x e fun x => asB x e := rfl
@[simp] theorem st_asg (i : Nat) (a : E) : evS call (.asg i a) refs e = (evE call refs a e).to fun p e => (sto refs i (slotOf p.1 p.2) e).to fun _ e => .next e := by simp only [evS]
@[simp] theorem st_par (i j : Nat) (a b : E) : evS call (.par i j a b) refs e = (evE call refs a e).to fun p e => (evE call refs b e).to fun q e => (sto refs j (.val q.2) e).to fun _ e => (sto refs i (.val p.2) e).to fun _ e => .next e := by simp only [evS]
@[simp] theorem st_xpr (a : E) : evS call (.xpr a) refs e = (evE call refs a e).to fun _ e => .next e := by simp only [evS]
@[simp] theorem st_ifs (c : E) (a b : Ss) : evS call (.ifs c a b) refs e = (evT call refs c e).to fun k e => if k = true then evSs call a refs e else evSs call b refs e := by simp only [evS]
@[simp] theorem st_rse (x : Ex) : evS call (.rse x) refs e = .exc x e := by simp only [evS]
def whlE (call : CallT) (refs : List Nat) (c : E) (b : Ss) (n : Nat) (e : Env) : SR := whlL (fun e => evT call refs c e) (fun e => evSs call b refs e) n e
@[simp] theorem st_whl (fuel : Env → Nat) (c : E) (b : Ss) : evS call (.whl fuel c b) refs e = whlE call refs c b (fuel e) e := by simp only [evS]; rfl
theorem whl1 (c : E) (b : Ss) (n : Nat) : whlE call refs c b (n + 1) e = (evT call refs c e).to fun t e => if t = true then (evSs call b refs e).then fun e => whlE call refs c b n e else .next e := rfl
@[simp] theorem ee_mth (m : MT) (r : E) (es : Es) : evE call refs (.mth m r es) e = (opnd (isVar r) (fun _ => evE call refs r e) e).bind fun x e => op1 x e fun d => if rcv m d = true then (evEs call refs es e).bind fun l e => op1 x e fun x => match m with
      | .get => old (mthD m x l) e
      | _ => fresh (mthD m x l) e
      else .bad := by first | (simp only [evE]; done) | (simp only [evE]; rfl)
theorem st_ret (a : E) (h : isVar a = none) : evS call (.ret a) refs e = (evE call refs a e).to fun p e => .ret p.1 p.2 e := by simp only [evS, h]
@[simp] theorem st_ret_con (c : C) : evS call (.ret (.con c)) refs e = (evE call refs (.con c) e).to fun p e => .ret p.1 p.2 e := st_ret _ rfl
@[simp] theorem st_ret_tup (es : Es) : evS call (.ret (.tup es)) refs e = (evE call refs (.tup es) e).to fun p e => .ret p.1 p.2 e := st_ret _ rfl
@[simp] theorem st_ret_lst (es : Es) : evS call (.ret (.lst es)) refs e = (evE call refs (.lst es) e).to fun p e => .ret p.1 p.2 e := st_ret _ rfl
@[simp] theorem st_ret_bin (o : BO) (a b : E) : evS call (.ret (.bin o a b)) refs e = (evE call refs (.bin o a b) e).to fun p e => .ret p.1 p.2 e := st_ret _ rfl
@[simp] theorem st_ret_cmp (o : CO) (a b : E) : evS call (.ret (.cmp o a b)) refs e = (evE call refs (.cmp o a b) e).to fun p e => .ret p.1 p.2 e := st_ret _ rfl
@[simp] theorem st_ret_bop (k : Bool) (es : Es) : evS call (.ret (.bop k es)) refs e = (evE call refs (.bop k es) e).to fun p e => .ret p.1 p.2 e := st_ret _ rfl
@[simp] theorem st_ret_not (a : E) : evS call (.ret (.not a)) refs e = (evE call refs (.not a) e).to fun p e => .ret p.1 p.2 e := st_ret _ rfl
@[simp] theorem st_ret_idx (a i : E) : evS call (.ret (.idx a i)) refs e = (evE call refs (.idx a i) e).to fun p e => .ret p.1 p.2 e := st_ret _ rfl
@[simp] theorem st_ret_call (f : Nat) (as : As) : evS call (.ret (.call f as)) refs e = (evE call refs (.call f as) e).to fun p e => .ret p.1 p.2 e := st_ret _ rfl
@[simp] theorem st_ret_bi (b : BI) (es : Es) : evS call (.ret (.bi b es)) refs e = (evE call refs (.bi b es) e).to fun p e => .ret p.1 p.2 e := st_ret _ rfl
@[simp] theorem st_ret_comp (x : E) (a : Bool) (b : List Nat) (s : Src) (c : Eo) : evS call (.ret (.comp x a b s c)) refs e = (evE call refs (.comp x a b s c) e).to fun p e => .ret p.1 p.2 e := st_ret _ rfl
@[simp] theorem st_ret_ite (c a b : E) : evS call (.ret (.ite c a b)) refs e = (evE call refs (.ite c a b) e).to fun p e => .ret p.1 p.2 e := st_ret _ rfl
@[simp] theorem st_ret_mth (m : MT) (r : E) (es : Es) : evS call (.ret (.mth m r es)) refs e = (evE call refs (.mth m r es) e).to fun p e => .ret p.1 p.2 e := st_ret _ rfl
@[simp] theorem st_ret_isi (a : E) (t : Ty) : evS call (.ret (.isi a t)) refs e = (evE call refs (.isi a t) e).to fun p e => .ret p.1 p.2 e := st_ret _ rfl
@[simp] theorem st_retv (i : Nat) : evS call (.ret (.var i)) refs e = match e[i]? with
        | some (.val d) => .ret false d e
        | some (.own d) => if i ∈ refs then .bad else .ret true d (e.set i .emp)
        | some (.lck d) => if i ∈ refs then .bad else .ret true d (e.set i .emp)
        | _ => .bad := by first | (simp only [evS, isVar]; done) | (simp only [evS, isVar]; rfl)
@[simp] theorem st_ret0 : evS call .ret0 refs e = .ret false .non e := by simp only [evS]
/-- a loop over what is there -/
def forS (call : CallT) (refs : List Nat) (tp : Bool) (ts : List Nat) (b : Ss) : List D → Env → SR
  | [], e => .next e
  | d :: r, e => (stoT refs tp ts d e).to fun _ e => (evSs call b refs e).then fun e => forS call refs tp ts b r e
theorem forL_st (tp : Bool) (ts : List Nat) (b : Ss) (l : List D) : ∀ (k n : Nat) (e : Env), k + n = l.length → forL (fun e => evSs call b refs e) (stoT refs tp ts) (.st l) k n e = forS call refs tp ts b (l.drop n) e
  | 0, n, e, h => by
    have : l[n]? = none := List.getElem?_eq_none (by omega)
    unfold forL Wk.look
    dsimp only
    rw [this, List.drop_of_length_le (by omega)]; rfl
  | k + 1, n, e, h => by
    have hn : n < l.length := by omega
    have : l[n]? = some l[n] := List.getElem?_eq_getElem hn
    unfold forL Wk.look
    rw [List.drop_eq_getElem_cons hn]
    simp only [this]
    unfold forS
    congr 1
    funext _ e
    congr 1
    funext e
    exact forL_st tp ts b l k (n + 1) e (by omega)
theorem st_loop_st {tp : Bool} {ts : List Nat} {src : Src} {b : Ss} {l : List D} {e1 : Env} (h : evSrc call refs src e = .ok (.st l) e1) : evS call (.loop tp ts src b) refs e = forS call refs tp ts b l e1 := by
  simp only [evS, h, rt1]
  exact forL_st tp ts b l l.length 0 e1 rfl
theorem clr_clr {ts : List Nat} {e : Env} : clr ts (clr ts e) = clr ts e := by
  refine List.ext_getElem? fun i => ?_
  by_cases hi : i ∈ ts
  · have key : ∀ {e : Env}, i < e.length → (clr ts e)[i]? = some .emp := fun {e} hlt => by
      cases q : (clr ts e)[i]? with
      | none => rw [List.getElem?_eq_none_iff, clr_len] at q; omega
      | some s =>
        rcases clr_get q with ⟨_, z⟩ | ⟨z, _⟩
        · rw [z]
        · exact absurd hi z
    by_cases hlt : i < e.length
    · rw [key hlt, key (by rw [clr_len]; exact hlt)]
    · rw [List.getElem?_eq_none (by rw [clr_len, clr_len]; omega), List.getElem?_eq_none (by rw [clr_len]; omega)]
  · rw [clr_out hi]
theorem back_same {ts : List Nat} {e e' : Env} (h : clr ts e' = clr ts e) : Vm.back e ts e' = e := by
  have hl : e'.length = e.length := by have := congrArg List.length h; rwa [clr_len, clr_len] at this
  refine List.ext_getElem? fun i => ?_
  cases q : (Vm.back e ts e')[i]? with
  | none => rw [List.getElem?_eq_none_iff, back_len, hl] at q; rw [List.getElem?_eq_none (by omega)]
  | some s =>
    rcases back_get hl q with ⟨_, z⟩ | ⟨z1, z2⟩
    · exact z.symm
    · rw [← clr_out z1, h, clr_out z1] at z2; exact z2.symm
/-- a comprehension that leaves the names as they are -/
theorem compL_pure {elt : Env → Res (Bool × D)} {cond : Env → Res Bool} {tp : Bool} {ts : List Nat} {w : Wk} {l : List D} {eb : Env} {f : D → Option D} (hl : ∀ n e, clr ts e = eb → w.look e n = some l[n]?)
    (ht : ∀ d ∈ l, ∃ e3, stoT refs tp ts d eb = .ok () e3 ∧ match f d with
      | some v => cond e3 = .ok true e3 ∧ ∃ fr e4, elt e3 = .ok (fr, v) e4 ∧ clr ts e4 = eb
      | none => cond e3 = .ok false e3 ∧ clr ts e3 = eb) : ∀ (k n : Nat) (e : Env), l.length ≤ k + n → n ≤ l.length → clr ts e = eb →
    ∃ e', compL elt cond (fun d e => stoT refs tp ts d (clr ts e)) w k n e = .ok ((l.drop n).filterMap f) e' ∧ clr ts e' = eb
  | 0, n, e, h1, h2, he => by
    refine ⟨e, ?_, he⟩
    have : l[n]? = none := List.getElem?_eq_none (by omega)
    unfold compL
    rw [hl n e he, this, List.drop_of_length_le (by omega)]; rfl
  | k + 1, n, e, h1, h2, he => by
    by_cases hn : n < l.length
    · have hg : l[n]? = some l[n] := List.getElem?_eq_getElem hn
      obtain ⟨e3, s1, s2⟩ := ht l[n] (List.getElem_mem hn)
      rw [List.drop_eq_getElem_cons hn, List.filterMap_cons]
      unfold compL
      rw [hl n e he, hg]
      dsimp only
      rw [he, s1]
      dsimp only
      cases hf : f l[n] with
      | none =>
        rw [hf] at s2
        obtain ⟨c1, c2⟩ := s2
        rw [c1]
        exact compL_pure hl ht k (n + 1) e3 (by omega) hn c2
      | some v =>
        rw [hf] at s2
        obtain ⟨c1, fr, e4, c2, c3⟩ := s2
        rw [c1]
        dsimp only
        rw [c2]
        dsimp only
        obtain ⟨e', r1, r2⟩ := compL_pure hl ht k (n + 1) e4 (by omega) hn c3
        rw [r1]
        exact ⟨e', rfl, r2⟩
    · refine ⟨e, ?_, he⟩
      have : l[n]? = none := List.getElem?_eq_none (by omega)
      unfold compL
      rw [hl n e he, this, List.drop_of_length_le (by omega)]; rfl
theorem comp_pure {elt : E} {tp : Bool} {ts : List Nat} {src : Src} {cond : Eo} {w : Wk} {l : List D} {e1 : Env} {f : D → Option D} (hs : evSrc call refs src e = .ok w e1) (hk : hideOk (w.ix ++ refs) ts e1 = true) (hfu : l.length ≤ w.fuel) (hf2 : w.fuel ≤ 16777216)
    (hl : ∀ n e, clr ts e = clr ts e1 → w.look e n = some l[n]?)
    (ht : ∀ d ∈ l, ∃ e3, stoT refs tp ts d (clr ts e1) = .ok () e3 ∧ match f d with
      | some v => evC call refs cond e3 = .ok true e3 ∧ ∃ fr e4, evE call refs elt e3 = .ok (fr, v) e4 ∧ clr ts e4 = clr ts e1
      | none => evC call refs cond e3 = .ok false e3 ∧ clr ts e3 = clr ts e1) :
    evE call refs (.comp elt tp ts src cond) e = .ok (true, .lst (l.filterMap f)) e1 := by
  simp only [evE, hs, rb1]
  rw [if_pos ⟨hk, hf2⟩]
  obtain ⟨e', r1, r2⟩ := compL_pure (cond := fun e => evC call refs cond e) (elt := fun e => evE call refs elt e) hl ht w.fuel 0 e1 (by omega) (Nat.zero_le _) rfl
  rw [r1]
  show Res.ok _ (Vm.back e1 ts e') = _
  rw [back_same r2]
  rfl
/-- over one's own list -/
theorem look_ow {ts : List Nat} {e1 : Env} {i m : Nat} {l : List D} (hi : i ∉ ts) (h : e1[i]? = some (.own (.lst l)) ∨ e1[i]? = some (.val (.lst l))) : ∀ n e, clr ts e = clr ts e1 → (Wk.ow i m).look e n = some l[n]? := fun n e he => by
  have : e[i]? = e1[i]? := by rw [← clr_out (ts := ts) (e := e) hi, he, clr_out hi]
  have hp : pk e i = some (.lst l) := by
    unfold pk
    rcases h with h | h <;> (rw [this, h])
  show (match pk e i with | some (.lst l) => some l[n]? | _ => none) = _
  rw [hp]
@[simp] theorem ss0 : evSs call .nil refs e = .next e := by simp only [evSs]
@[simp] theorem ss1 (a : S) (r : Ss) : evSs call (.cons a r) refs e = (evS call a refs e).then fun e => evSs call r refs e := by simp only [evSs]
@[simp] theorem iv0 (i : Nat) : isVar (.var i) = some i := rfl
@[simp] theorem iv1 (c : C) : isVar (.con c) = none := rfl
@[simp] theorem iv2 (o : BO) (a b : E) : isVar (.bin o a b) = none := rfl
@[simp] theorem iv3 (o : CO) (a b : E) : isVar (.cmp o a b) = none := rfl
@[simp] theorem iv4 (k : Bool) (es : Es) : isVar (.bop k es) = none := rfl
@[simp] theorem iv5 (a : E) : isVar (.not a) = none := rfl
@[simp] theorem iv6 (a i : E) : isVar (.idx a i) = none := rfl
@[simp] theorem iv7 (a : E) (lo hi : Eo) : isVar (.slc a lo hi) = none := rfl
@[simp] theorem iv8 (f : Nat) (as : As) : isVar (.call f as) = none := rfl
@[simp] theorem iv9 (b : BI) (es : Es) : isVar (.bi b es) = none := rfl
@[simp] theorem iv10 (es : Es) : isVar (.tup es) = none := rfl
@[simp] theorem iv11 (es : Es) : isVar (.lst es) = none := rfl
@[simp] theorem iv12 (a : E) (t : Ty) : isVar (.isi a t) = none := rfl
@[simp] theorem iv13 (m : MT) (r : E) (es : Es) : isVar (.mth m r es) = none := rfl
@[simp] theorem iv14 (x : E) (a : Bool) (b : List Nat) (s : Src) (c : Eo) : isVar (.comp x a b s c) = none := rfl
@[simp] theorem iv15 (c a b : E) : isVar (.ite c a b) = none := rfl
@[simp] theorem iv16 (a : E) : isVar (.neg a) = none := rfl
def pkS : Slot → Option D
  | .val d => some d | .own d => some d | .lck d => some d | .emp => none
@[simp] theorem pkS1 (d : D) : pkS (.val d) = some d := rfl
@[simp] theorem pkS2 (d : D) : pkS (.own d) = some d := rfl
@[simp] theorem pkS3 : pkS .emp = none := rfl
@[simp] theorem pk_zero (s : Slot) : pk (s :: e) 0 = pkS s := by cases s <;> rfl
@[simp] theorem pk_succ (s : Slot) (i : Nat) : pk (s :: e) (i + 1) = pk e i := rfl
@[simp] theorem op_cons (s : Slot) (i : Nat) (r : Unit → Res (Bool × D)) : opnd (some i) r (s :: e) = match pk (s :: e) i with | some _ => .ok (.slot i) (s :: e) | none => .bad := rfl
@[simp] theorem got_cons (s : Slot) (i : Nat) : got (.slot i) (s :: e) = pk (s :: e) i := rfl
@[simp] theorem rd_cons (s : Slot) (i : Nat) : rd (s :: e) i = match (s :: e)[i]? with
  | some (.val d) => .ok d (s :: e)
  | some (.own d) => .ok d ((s :: e).set i (.val d))
  | some (.lck d) => .ok d ((s :: e).set i (.val d))
  | _ => .bad := rfl
@[simp] theorem sto_cons (s s' : Slot) (i : Nat) : sto refs i s' (s :: e) = if i ∈ refs ∨ (s :: e).length ≤ i then .bad else .ok () ((s :: e).set i s') := rfl
@[simp] theorem so1 (d : D) : slotOf true d = .own d := rfl
@[simp] theorem so2 (d : D) : slotOf false d = .val d := rfl
theorem op1_of {o : Opd} {d : D} {f : D → Res α} (h : got o e = some d) : op1 o e f = f d := by unfold op1; rw [h]
@[simp] theorem op1_d (d : D) (f : D → Res α) : op1 (.d d) e f = f d := rfl
@[simp] theorem op1_s (s : Slot) (i : Nat) (f : D → Res α) : op1 (.slot i) (s :: e) f = match pk (s :: e) i with | some d => f d | none => .bad := rfl
@[simp] theorem op2_dd (d d' : D) (f : D → D → Res α) : op2 (.d d) (.d d') e f = f d d' := rfl
@[simp] theorem op2_sd (s : Slot) (i : Nat) (d' : D) (f : D → D → Res α) : op2 (.slot i) (.d d') (s :: e) f = match pk (s :: e) i with | some d => f d d' | none => .bad := by
  show (match pk (s :: e) i, some d' with | some d, some d' => f d d' | _, _ => .bad) = _
  cases pk (s :: e) i <;> rfl
@[simp] theorem op2_ds (s : Slot) (i : Nat) (d : D) (f : D → D → Res α) : op2 (.d d) (.slot i) (s :: e) f = match pk (s :: e) i with | some d' => f d d' | none => .bad := by
  show (match some d, pk (s :: e) i with | some d, some d' => f d d' | _, _ => .bad) = _
  cases pk (s :: e) i <;> rfl
@[simp] theorem op2_ss (s : Slot) (i j : Nat) (f : D → D → Res α) : op2 (.slot i) (.slot j) (s :: e) f = match pk (s :: e) i with | some d => (match pk (s :: e) j with | some d' => f d d' | none => .bad) | none => .bad := by
  show (match pk (s :: e) i, pk (s :: e) j with | some d, some d' => f d d' | _, _ => .bad) = _
  cases pk (s :: e) i <;> cases pk (s :: e) j <;> rfl
@[simp] theorem opn_of (os : List Opd) (f : List D → Res α) : opn os e f = match gots os e with | some d => f d | none => .bad := rfl
@[simp] theorem bd1 (i j : Int) : binD .add (.int i) (.int j) = some (.int (i + j)) := rfl
@[simp] theorem bd2 (i j : Int) : binD .sub (.int i) (.int j) = some (.int (i - j)) := rfl
@[simp] theorem bd3 (i j : Int) : binD .mul (.int i) (.int j) = if mulOk i j then some (.int (i * j)) else none := rfl
@[simp] theorem bd4 (i j : Int) : binD .fdiv (.int i) (.int j) = if j ≠ 0 ∧ j.natAbs.log2 < 9000 then some (.int (i.fdiv j)) else none := rfl
@[simp] theorem bd5 (i j : Int) : binD .mod (.int i) (.int j) = if j ≠ 0 then some (.int (i.fmod j)) else none := rfl
@[simp] theorem bd6 (i j : Int) : binD .pow (.int i) (.int j) = if 0 ≤ j ∧ j ≤ 1000000 ∧ i.natAbs < 2 ^ 64 then some (.int (i ^ j.toNat)) else none := rfl
@[simp] theorem bd7 (x y : Str) : binD .add (.str x) (.str y) = if x.length + y.length ≤ 16777216 then some (.str (x ++ y)) else none := rfl
@[simp] theorem bd8 (x y : List D) : binD .add (.lst x) (.lst y) = if x.length + y.length ≤ 16777216 then some (.lst (x ++ y)) else none := rfl
@[simp] theorem cd1 (a b : D) : cmpD .eq a b = eqD a b := rfl
@[simp] theorem cd2 (a b : D) : cmpD .ne a b = (eqD a b).map not := rfl
@[simp] theorem cd3 (i j : Int) : cmpD .lt (.int i) (.int j) = some (decide (i < j)) := rfl
@[simp] theorem cd4 (i j : Int) : cmpD .le (.int i) (.int j) = some (decide (i ≤ j)) := rfl
@[simp] theorem cd5 (i j : Int) : cmpD .gt (.int i) (.int j) = some (decide (j < i)) := rfl
@[simp] theorem cd6 (i j : Int) : cmpD .ge (.int i) (.int j) = some (decide (j ≤ i)) := rfl
@[simp] theorem cd7 (a b : D) : cmpD .isIn a b = inD a b := rfl
@[simp] theorem cd8 (a b : D) : cmpD .notIn a b = (inD a b).map not := rfl
@[simp] theorem cd9 (a : D) : cmpD .isS a .non = some (isNon a) := by cases a <;> rfl
@[simp] theorem cd10 (a : D) : cmpD .notS a .non = some (!isNon a) := by cases a <;> rfl
@[simp] theorem cdd (b : Bool) : (C.bl b).d = .bl b := rfl
@[simp] theorem cdd2 (b : Int) : (C.int b).d = .int b := rfl
@[simp] theorem cdd3 (b : Str) : (C.str b).d = .str b := rfl
@[simp] theorem cdd4 : C.non.d = .non := rfl
theorem shaped_int (i : Int) : SeqAt.shaped (.int i) = true := rfl
@[simp] theorem eq_int (i j : Int) : eqD (.int i) (.int j) = some (i == j) := rfl
theorem shaped_str (x : Str) : SeqAt.shaped (.str x) = PyData.strOk x := by
  show (PyData.strOk x && decide (0 ≤ 64)) = _
  simp
theorem eq_str {x y : Str} (h1 : PyData.strOk x = true) (h2 : PyData.strOk y = true) : eqD (.str x) (.str y) = some (x == y) := by
  show (if SeqAt.shaped (.str x) = true ∧ SeqAt.shaped (.str y) = true then some (x == y) else none) = _
  rw [if_pos ⟨by rw [shaped_str]; exact h1, by rw [shaped_str]; exact h2⟩]
@[simp] theorem ob_if {c : Prop} [Decidable c] (a b : Option Bool) : ofB (if c then a else b) e = if c then ofB a e else ofB b e := by split <;> rfl
@[simp] theorem fr_if {c : Prop} [Decidable c] (a b : Option D) : fresh (if c then a else b) e = if c then fresh a e else fresh b e := by split <;> rfl
end
end Vm

namespace L91
open PySem PySem.Spec PyProof.Rows L2 Vm
def top (i : Nat) : Stmt := PySem.Challenge.pw_roofweb_k91_numbers_and_spots_read.main.body.getD i (.Pass ⟨0, 0, 0, 0⟩)
def gcdFuel (i : Nat) (e : Vm.Env) : Nat := match e[i]? with
  | some (.val (.int k)) => k.natAbs + 1
  | _ => 0
abbrev fuel_divisor := gcdFuel 1
abbrev fuel__law_common := gcdFuel 1
def f_divisor : Fn := ⟨[.v, .v], 2, (.cons (.asg 0 (.bi .abs (.cons (.var 0) .nil))) (.cons (.asg 1 (.bi .abs (.cons (.var 1) .nil))) (.cons (.whl fuel_divisor (.cmp .gt (.var 1) (.con (.int 0))) (.cons (.par 0 1 (.var 1) (.bin .mod (.var 0) (.var 1))) .nil)) (.cons (.ret (.var 0)) .nil))))⟩
def r_0 : LRow := ⟨"divisor", 17, ["one", "other"], ["one", "other"], f_divisor⟩
def f_fraction : Fn := ⟨[.v, .v], 3, (.cons (.ifs (.cmp .eq (.var 1) (.con (.int 0))) (.cons (.rse .NoNumber) .nil) .nil) (.cons (.asg 2 (.call 0 (.lend 0 (.lend 1 .nil)))) (.cons (.ifs (.cmp .lt (.var 1) (.con (.int 0))) (.cons (.asg 2 (.bin .sub (.con (.int 0)) (.var 2))) .nil) .nil) (.cons (.ret (.tup (.cons (.bin .fdiv (.var 0) (.var 2)) (.cons (.bin .fdiv (.var 1) (.var 2)) .nil)))) .nil))))⟩
def r_1 : LRow := ⟨"fraction", 18, ["top", "bottom", "many"], ["top", "bottom"], f_fraction⟩
def f_is_number : Fn := ⟨[.v], 3, (.cons (.asg 1 (.var 0)) (.cons (.ifs (.mth .startswith (.var 0) (.cons (.con (.str "-")) .nil)) (.cons (.asg 1 (.slc (.var 0) (.some (.con (.int 1))) .none)) .nil) .nil) (.cons (.ifs (.bop false (.cons (.cmp .lt (.bi .len (.cons (.var 1) .nil)) (.con (.int 1))) (.cons (.cmp .gt (.bi .len (.cons (.var 1) .nil)) (.con (.int 60))) .nil))) (.cons (.ret (.con (.bl false))) .nil) .nil) (.cons (.loop false [2] (.own 1) (.cons (.ifs (.cmp .notIn (.var 2) (.con (.str "0123456789"))) (.cons (.ret (.con (.bl false))) .nil) .nil) .nil)) (.cons (.ret (.bop false (.cons (.cmp .ne (.idx (.var 1) (.con (.int 0))) (.con (.str "0"))) (.cons (.cmp .eq (.var 0) (.con (.str "0"))) .nil)))) .nil)))))⟩
def r_2 : LRow := ⟨"is_number", 20, ["text", "figures", "sign"], ["text"], f_is_number⟩
def f_check_text : Fn := ⟨[.v], 1, (.cons (.ifs (.not (.isi (.var 0) .str)) (.cons (.rse .NoText) .nil) .nil) .nil)⟩
def r_3 : LRow := ⟨"check_text", 21, ["text"], ["text"], f_check_text⟩
def f_read_fraction : Fn := ⟨[.v], 4, (.cons (.xpr (.call 3 (.lend 0 .nil))) (.cons (.asg 1 (.mth .split (.var 0) (.cons (.con (.str "/")) .nil))) (.cons (.ifs (.bop false (.cons (.cmp .gt (.bi .len (.cons (.var 1) .nil)) (.con (.int 2))) (.cons (.not (.bi .all (.cons (.comp (.call 2 (.lend 3 .nil)) false [3] (.own 1) .none) .nil))) .nil))) (.cons (.rse .NoText) .nil) .nil) (.cons (.ifs (.cmp .eq (.bi .len (.cons (.var 1) .nil)) (.con (.int 1))) (.cons (.ret (.tup (.cons (.bi .int (.cons (.var 0) .nil)) (.cons (.con (.int 1)) .nil)))) .nil) .nil) (.cons (.asg 2 (.tup (.cons (.bi .int (.cons (.idx (.var 1) (.con (.int 0))) .nil)) (.cons (.bi .int (.cons (.idx (.var 1) (.con (.int 1))) .nil)) .nil)))) (.cons (.ifs (.bop false (.cons (.cmp .lt (.idx (.var 2) (.con (.int 1))) (.con (.int 2))) (.cons (.cmp .ne (.call 1 (.val (.idx (.var 2) (.con (.int 0))) (.val (.idx (.var 2) (.con (.int 1))) .nil))) (.var 2)) .nil))) (.cons (.rse .NoText) .nil) .nil) (.cons (.ret (.var 2)) .nil)))))))⟩
def r_4 : LRow := ⟨"read_fraction", 22, ["text", "parts", "found", "part"], ["text"], f_read_fraction⟩
def f_show_fraction : Fn := ⟨[.v], 1, (.cons (.ifs (.cmp .eq (.idx (.var 0) (.con (.int 1))) (.con (.int 1))) (.cons (.ret (.bi .str (.cons (.idx (.var 0) (.con (.int 0))) .nil))) .nil) .nil) (.cons (.ret (.bin .add (.bin .add (.bi .str (.cons (.idx (.var 0) (.con (.int 0))) .nil)) (.con (.str "/"))) (.bi .str (.cons (.idx (.var 0) (.con (.int 1))) .nil)))) .nil))⟩
def r_5 : LRow := ⟨"show_fraction", 23, ["one"], ["one"], f_show_fraction⟩
def f_read_point : Fn := ⟨[.v], 2, (.cons (.xpr (.call 3 (.lend 0 .nil))) (.cons (.asg 1 (.mth .split (.var 0) (.cons (.con (.str ",")) .nil))) (.cons (.ifs (.cmp .ne (.bi .len (.cons (.var 1) .nil)) (.con (.int 2))) (.cons (.rse .NoText) .nil) .nil) (.cons (.ret (.tup (.cons (.call 4 (.val (.idx (.var 1) (.con (.int 0))) .nil)) (.cons (.call 4 (.val (.idx (.var 1) (.con (.int 1))) .nil)) .nil)))) .nil))))⟩
def r_6 : LRow := ⟨"read_point", 24, ["text", "parts"], ["text"], f_read_point⟩
def f_show_point : Fn := ⟨[.v], 1, (.cons (.ret (.bin .add (.bin .add (.call 5 (.val (.idx (.var 0) (.con (.int 0))) .nil)) (.con (.str ","))) (.call 5 (.val (.idx (.var 0) (.con (.int 1))) .nil)))) .nil)⟩
def r_7 : LRow := ⟨"show_point", 25, ["spot"], ["spot"], f_show_point⟩
def f_law_draw : Fn := ⟨[.r, .v], 3, (.cons (.ifs (.cmp .gt (.idx (.var 0) (.con (.int 0))) (.con (.int 0))) (.cons (.asg 2 (.bin .mod (.idx (.var 0) (.con (.int 0))) (.var 1))) (.cons (.seti 0 (.con (.int 0)) (.bin .fdiv (.idx (.var 0) (.con (.int 0))) (.var 1))) (.cons (.ret (.var 2)) .nil))) .nil) (.cons (.seti 0 (.con (.int 1)) (.bin .mod (.bin .mul (.idx (.var 0) (.con (.int 1))) (.con (.int 69621))) (.con (.int 2147483647)))) (.cons (.ret (.bin .mod (.bin .fdiv (.bin .mod (.bin .mul (.idx (.var 0) (.con (.int 1))) (.bin .add (.bin .fdiv (.idx (.var 0) (.con (.int 1))) (.con (.int 128))) (.con (.int 3)))) (.con (.int 2147483629))) (.con (.int 8))) (.var 1))) .nil)))⟩
def r_8 : LRow := ⟨"_law_draw", 27, ["draws", "many", "found"], ["draws", "many"], f_law_draw⟩
def f_law_figures : Fn := ⟨[.r, .v], 4, (.cons (.asg 2 (.call 8 (.ref 0 (.val (.bin .pow (.con (.int 10)) (.con (.int 6))) .nil)))) (.cons (.loop false [3] (.rng (.cons (.call 8 (.ref 0 (.lend 1 .nil))) .nil)) (.cons (.asg 2 (.bin .add (.bin .mul (.var 2) (.bin .pow (.con (.int 10)) (.con (.int 6)))) (.call 8 (.ref 0 (.val (.bin .pow (.con (.int 10)) (.con (.int 6))) .nil))))) .nil)) (.cons (.ret (.idx (.lst (.cons (.var 2) (.cons (.bin .sub (.con (.int 0)) (.var 2)) (.cons (.bin .sub (.bin .mod (.var 2) (.con (.int 7))) (.con (.int 3))) .nil)))) (.call 8 (.ref 0 (.val (.con (.int 3)) .nil))))) .nil)))⟩
def r_9 : LRow := ⟨"_law_figures", 28, ["draws", "most", "number", "k"], ["draws", "most"], f_law_figures⟩
def f_law_spoilt : Fn := ⟨[.v, .r], 6, (.cons (.asg 2 (.con (.str " !\"#$&'()*+,-./0123456789:;<=>?@ABCDEFGHIJKLMNOPQRSTUVWXYZ[\\]^_`{|}~\n\tabcdefghijklmnopqrstuvwxyz"))) (.cons (.asg 3 (.idx (.lst (.cons (.idx (.var 2) (.call 8 (.ref 1 (.val (.bi .len (.cons (.var 2) .nil)) .nil)))) (.cons (.idx (.con (.str "0123456789-/, ")) (.call 8 (.ref 1 (.val (.con (.int 14)) .nil)))) .nil))) (.call 8 (.ref 1 (.val (.con (.int 2)) .nil))))) (.cons (.asg 4 (.call 8 (.ref 1 (.val (.bin .add (.bi .len (.cons (.var 0) .nil)) (.con (.int 1))) .nil)))) (.cons (.asg 5 (.call 8 (.ref 1 (.val (.con (.int 4)) .nil)))) (.cons (.asg 2 (.lst (.cons (.bin .add (.bin .add (.slc (.var 0) .none (.some (.var 4))) (.var 3)) (.slc (.var 0) (.some (.var 4)) .none)) (.cons (.bin .add (.bin .add (.slc (.var 0) .none (.some (.var 4))) (.var 3)) (.slc (.var 0) (.some (.bin .add (.var 4) (.con (.int 1)))) .none)) (.cons (.bin .add (.slc (.var 0) .none (.some (.var 4))) (.slc (.var 0) (.some (.bin .add (.var 4) (.con (.int 1)))) .none)) .nil))))) (.cons (.ret (.idx (.bin .add (.var 2) (.lst (.cons (.bin .add (.slc (.var 0) .none (.some (.bin .add (.var 4) (.con (.int 1))))) (.slc (.var 0) (.some (.var 4)) .none)) .nil))) (.var 5))) .nil))))))⟩
def r_10 : LRow := ⟨"_law_spoilt", 29, ["text", "draws", "some", "sign", "at", "way"], ["text", "draws"], f_law_spoilt⟩
def f_law_draws : Fn := ⟨[.v, .v], 3, (.cons (.asg 2 (.bin .mul (.con (.int 15485863)) (.var 1))) (.cons (.ifs (.cmp .lt (.var 1) (.bi .len (.cons (.var 0) .nil))) (.cons (.asg 2 (.bin .mod (.idx (.var 0) (.var 1)) (.bin .mul (.bin .pow (.con (.int 10)) (.con (.int 60))) (.bin .pow (.con (.int 10)) (.con (.int 60)))))) .nil) (.cons (.ifs (.cmp .gt (.bi .len (.cons (.var 0) .nil)) (.con (.int 0))) (.cons (.asg 2 (.bin .add (.bin .mod (.idx (.var 0) (.bin .mod (.var 1) (.bi .len (.cons (.var 0) .nil)))) (.bin .pow (.con (.int 10)) (.con (.int 15)))) (.bin .mul (.con (.int 15485863)) (.var 1)))) .nil) .nil) .nil)) (.cons (.ret (.lst (.cons (.bin .mul (.var 2) (.bi .int (.cons (.cmp .ge (.var 2) (.bin .pow (.con (.int 10)) (.con (.int 18)))) .nil))) (.cons (.bin .add (.con (.int 1)) (.bin .mod (.bin .add (.bin .mul (.var 2) (.con (.int 69621))) (.bin .mul (.con (.int 86028121)) (.bin .add (.var 1) (.con (.int 1))))) (.con (.int 2147483646)))) .nil)))) .nil)))⟩
def r_11 : LRow := ⟨"_law_draws", 30, ["script", "k", "cell"], ["script", "k"], f_law_draws⟩
def f_law_number : Fn := ⟨[.v], 3, (.cons (.asg 1 (.slc (.var 0) (.some (.bi .int (.cons (.cmp .eq (.slc (.var 0) .none (.some (.con (.int 1)))) (.con (.str "-"))) .nil))) .none)) (.cons (.ifs (.bop false (.cons (.cmp .eq (.bi .len (.cons (.var 1) .nil)) (.con (.int 0))) (.cons (.cmp .gt (.bi .len (.cons (.var 1) .nil)) (.con (.int 60))) (.cons (.cmp .ne (.comp (.var 2) false [2] (.own 1) (.some (.cmp .notIn (.var 2) (.con (.str "0123456789"))))) (.lst .nil)) .nil)))) (.cons (.ret (.con .non)) .nil) .nil) (.cons (.ifs (.bop true (.cons (.cmp .eq (.idx (.var 1) (.con (.int 0))) (.con (.str "0"))) (.cons (.cmp .ne (.var 0) (.con (.str "0"))) .nil))) (.cons (.ret (.con .non)) .nil) .nil) (.cons (.ret (.bi .int (.cons (.var 0) .nil))) .nil))))⟩
def r_12 : LRow := ⟨"_law_number", 31, ["text", "figures", "sign"], ["text"], f_law_number⟩
def f_law_common : Fn := ⟨[.v, .v], 2, (.cons (.asg 0 (.bi .abs (.cons (.var 0) .nil))) (.cons (.asg 1 (.bi .abs (.cons (.var 1) .nil))) (.cons (.whl fuel__law_common (.cmp .gt (.var 1) (.con (.int 0))) (.cons (.par 0 1 (.var 1) (.bin .mod (.var 0) (.var 1))) .nil)) (.cons (.ret (.var 0)) .nil))))⟩
def r_13 : LRow := ⟨"_law_common", 32, ["one", "other"], ["one", "other"], f_law_common⟩
def f_law_fraction : Fn := ⟨[.v], 3, (.cons (.asg 1 (.comp (.call 12 (.lend 2 .nil)) false [2] (.ex (.mth .split (.var 0) (.cons (.con (.str "/")) .nil))) .none)) (.cons (.ifs (.bop true (.cons (.cmp .eq (.bi .len (.cons (.var 1) .nil)) (.con (.int 1))) (.cons (.cmp .notS (.idx (.var 1) (.con (.int 0))) (.con .non)) .nil))) (.cons (.ret (.tup (.cons (.idx (.var 1) (.con (.int 0))) (.cons (.con (.int 1)) .nil)))) .nil) .nil) (.cons (.ifs (.bop false (.cons (.cmp .isIn (.con .non) (.var 1)) (.cons (.cmp .ne (.bi .len (.cons (.var 1) .nil)) (.con (.int 2))) (.cons (.cmp .lt (.idx (.var 1) (.con (.int 1))) (.con (.int 2))) (.cons (.cmp .ne (.call 13 (.val (.idx (.var 1) (.con (.int 0))) (.val (.idx (.var 1) (.con (.int 1))) .nil))) (.con (.int 1))) .nil))))) (.cons (.ret (.con .non)) .nil) .nil) (.cons (.ret (.tup (.cons (.idx (.var 1) (.con (.int 0))) (.cons (.idx (.var 1) (.con (.int 1))) .nil)))) .nil))))⟩
def r_14 : LRow := ⟨"_law_fraction", 33, ["text", "parts", "part"], ["text"], f_law_fraction⟩
def f_law_point : Fn := ⟨[.v], 3, (.cons (.asg 1 (.comp (.call 14 (.lend 2 .nil)) false [2] (.ex (.mth .split (.var 0) (.cons (.con (.str ",")) .nil))) .none)) (.cons (.ifs (.bop false (.cons (.cmp .isIn (.con .non) (.var 1)) (.cons (.cmp .ne (.bi .len (.cons (.var 1) .nil)) (.con (.int 2))) .nil))) (.cons (.ret (.con .non)) .nil) .nil) (.cons (.ret (.tup (.cons (.idx (.var 1) (.con (.int 0))) (.cons (.idx (.var 1) (.con (.int 1))) .nil)))) .nil)))⟩
def r_15 : LRow := ⟨"_law_point", 34, ["text", "parts", "part"], ["text"], f_law_point⟩
def f_law_only : Fn := ⟨[.v], 3, (.cons (.asg 1 (.lst (.cons (.con (.str "number")) (.cons (.con (.str "drawing")) (.cons (.con (.str "edge")) (.cons (.con (.str "corner")) (.cons (.con (.str "unlike")) (.cons (.con (.str "balance")) (.cons (.con (.str "roof")) (.cons (.con (.str "turned")) (.cons (.con (.str "sites")) (.cons (.con (.str "pulls")) .nil)))))))))))) (.cons (.ret (.bin .add (.comp (.cmp .eq (.var 2) (.var 0)) false [2] (.ex (.bin .add (.var 1) (.lst (.cons (.con (.str "many")) (.cons (.con (.str "text")) (.cons (.con (.str "name")) (.cons (.con (.str "row")) .nil))))))) .none) (.lst (.cons (.con (.bl true)) .nil)))) .nil))⟩
def r_16 : LRow := ⟨"_law_only", 35, ["which", "names", "name"], ["which"], f_law_only⟩
def f_law_whole : Fn := ⟨[.v], 1, (.cons (.ret (.bop true (.cons (.isi (.var 0) .int) (.cons (.not (.isi (.var 0) .bool)) .nil)))) .nil)⟩
def r_17 : LRow := ⟨"_law_whole", 36, ["found"], ["found"], f_law_whole⟩
def f_law_is_fraction : Fn := ⟨[.v], 1, (.cons (.ifs (.bop false (.cons (.not (.isi (.var 0) .tuple)) (.cons (.cmp .ne (.bi .len (.cons (.var 0) .nil)) (.con (.int 2))) (.cons (.not (.call 17 (.val (.idx (.var 0) (.con (.int 0))) .nil))) (.cons (.not (.call 17 (.val (.idx (.var 0) (.con (.int 1))) .nil))) .nil))))) (.cons (.ret (.con (.bl false))) .nil) .nil) (.cons (.ret (.bop true (.cons (.cmp .gt (.idx (.var 0) (.con (.int 1))) (.con (.int 0))) (.cons (.cmp .eq (.call 13 (.val (.idx (.var 0) (.con (.int 0))) (.val (.idx (.var 0) (.con (.int 1))) .nil))) (.con (.int 1))) .nil)))) .nil))⟩
def r_18 : LRow := ⟨"_law_is_fraction", 37, ["found"], ["found"], f_law_is_fraction⟩
def f_law_is_spot : Fn := ⟨[.v], 2, (.cons (.ret (.bop true (.cons (.isi (.var 0) .tuple) (.cons (.cmp .eq (.bi .len (.cons (.var 0) .nil)) (.con (.int 2))) (.cons (.bi .all (.cons (.comp (.call 18 (.lend 1 .nil)) false [1] (.own 0) .none) .nil)) .nil))))) .nil)⟩
def r_19 : LRow := ⟨"_law_is_spot", 38, ["found", "one"], ["found"], f_law_is_spot⟩
def f_law_tried : Fn := ⟨[.v, .v], 5, (.cons (.asg 2 (.con .non)) (.cons (.asg 3 (.lst .nil)) (.cons (.tryk 4 [.NoNumber, .NoText] (.cons (.ifs (.cmp .eq (.var 0) (.con (.int 0))) (.cons (.asg 2 (.call 4 (.lend 1 .nil))) .nil) (.cons (.asg 2 (.call 6 (.lend 1 .nil))) .nil)) .nil) [(3, false, [some .NoNumber, some .NoDrawing, some .NoEdge, some .NoCorner]), (3, true, [some .Unlike, some .NoBalance, some .NoRoof]), (3, true, [some .NoTurned, some .NoSites, some .NoPulls]), (3, true, [some .TooMany, some .NoText, some .NoName]), (3, true, [some .NoRow, none])]) (.cons (.ret (.tup (.cons (.var 2) (.cons (.var 3) .nil)))) .nil))))⟩
def r_20 : LRow := ⟨"_law_tried", 39, ["way", "text", "found", "kinds", "e"], ["way", "text"], f_law_tried⟩
def f_law_written : Fn := ⟨[.r], 3, (.cons (.asg 1 (.idx (.lst (.cons (.bin .sub (.call 8 (.ref 0 (.val (.con (.int 30)) .nil))) (.con (.int 9))) (.cons (.call 9 (.ref 0 (.val (.con (.int 9)) .nil))) .nil))) (.call 8 (.ref 0 (.val (.con (.int 2)) .nil))))) (.cons (.ifs (.cmp .eq (.call 8 (.ref 0 (.val (.con (.int 12)) .nil))) (.con (.int 0))) (.cons (.asg 1 (.bin .add (.bin .sub (.bin .pow (.con (.int 10)) (.con (.int 60))) (.con (.int 1))) (.bin .mul (.call 8 (.ref 0 (.val (.con (.int 3)) .nil))) (.bin .sub (.bin .pow (.con (.int 10)) (.con (.int 60))) (.con (.int 1)))))) .nil) .nil) (.cons (.asg 2 (.bi .str (.cons (.var 1) .nil))) (.cons (.ifs (.cmp .eq (.call 8 (.ref 0 (.val (.con (.int 3)) .nil))) (.con (.int 0))) (.cons (.asg 2 (.bin .add (.bin .add (.var 2) (.con (.str "/"))) (.bi .str (.cons (.idx (.lst (.cons (.call 8 (.ref 0 (.val (.con (.int 12)) .nil))) (.cons (.call 9 (.ref 0 (.val (.con (.int 8)) .nil))) .nil))) (.call 8 (.ref 0 (.val (.con (.int 2)) .nil)))) .nil)))) .nil) .nil) (.cons (.ret (.var 2)) .nil)))))⟩
def r_21 : LRow := ⟨"_law_written", 40, ["draws", "number", "text"], ["draws"], f_law_written⟩
def f_law_drawn_text : Fn := ⟨[.r], 5, (.cons (.asg 1 (.call 8 (.ref 0 (.val (.con (.int 9)) .nil)))) (.cons (.asg 2 (.call 21 (.ref 0 .nil))) (.cons (.ifs (.cmp .lt (.var 1) (.con (.int 4))) (.cons (.asg 2 (.bin .add (.bin .add (.var 2) (.con (.str ","))) (.call 21 (.ref 0 .nil)))) .nil) .nil) (.cons (.ifs (.cmp .eq (.var 1) (.con (.int 8))) (.cons (.asg 4 (.lst (.cons (.con (.str "")) (.cons (.con (.str "-")) (.cons (.con (.str "-0")) (.cons (.con (.str "00")) (.cons (.con (.str "1/1")) (.cons (.con (.str "0/2")) (.cons (.con (.str "2/4")) (.cons (.con (.str "1/-2")) (.cons (.con (.str "/")) (.cons (.con (.str ",")) (.cons (.con (.str "1,")) (.cons (.con (.str ",1")) (.cons (.con (.str "1,2,3")) (.cons (.con (.str "1/2/3")) (.cons (.con (.str "+1")) (.cons (.con (.str " 1")) .nil)))))))))))))))))) (.cons (.ret (.idx (.bin .add (.var 4) (.lst (.cons (.con .non) (.cons (.con (.int 7)) .nil)))) (.call 8 (.ref 0 (.val (.con (.int 18)) .nil))))) .nil)) .nil) (.cons (.loop false [3] (.rng (.cons (.idx (.lst (.cons (.con (.int 0)) (.cons (.con (.int 1)) (.cons (.con (.int 2)) .nil)))) (.call 8 (.ref 0 (.val (.con (.int 3)) .nil)))) .nil)) (.cons (.asg 2 (.call 10 (.lend 2 (.ref 0 .nil)))) .nil)) (.cons (.ret (.var 2)) .nil))))))⟩
def r_22 : LRow := ⟨"_law_drawn_text", 41, ["draws", "way", "text", "k", "odd"], ["draws"], f_law_drawn_text⟩
def f_law : Fn := ⟨[.v], 6, (.cons (.loop false [1] (.rng (.cons (.bi .max (.cons (.con (.int 1)) (.cons (.bi .min (.cons (.con (.int 40)) (.cons (.bi .len (.cons (.var 0) .nil)) .nil))) .nil))) .nil)) (.cons (.asg 2 (.call 22 (.mov (.call 11 (.lend 0 (.lend 1 .nil))) .nil))) (.cons (.asg 3 (.lst (.cons (.con .non) (.cons (.con .non) .nil)))) (.cons (.ifs (.isi (.var 2) .str) (.cons (.asg 3 (.lst (.cons (.call 14 (.lend 2 .nil)) (.cons (.call 15 (.lend 2 .nil)) .nil)))) .nil) .nil) (.cons (.asg 4 (.lst (.cons (.call 20 (.val (.con (.int 0)) (.lend 2 .nil))) (.cons (.call 20 (.val (.con (.int 1)) (.lend 2 .nil))) .nil)))) (.cons (.loop false [5] (.rng (.cons (.con (.int 2)) .nil)) (.cons (.ifs (.cmp .isS (.idx (.var 3) (.var 5)) (.con .non)) (.cons (.ifs (.cmp .ne (.idx (.var 4) (.var 5)) (.tup (.cons (.con .non) (.cons (.call 16 (.val (.con (.str "text")) .nil)) .nil)))) (.cons (.ret (.con (.bl false))) .nil) .nil) .nil) (.cons (.ifs (.cmp .ne (.idx (.var 4) (.var 5)) (.tup (.cons (.idx (.var 3) (.var 5)) (.cons (.lst .nil) .nil)))) (.cons (.ret (.con (.bl false))) .nil) .nil) .nil)) .nil)) (.cons (.ifs (.bop true (.cons (.cmp .notS (.idx (.var 3) (.con (.int 0))) (.con .non)) (.cons (.bop false (.cons (.not (.call 18 (.val (.idx (.idx (.var 4) (.con (.int 0))) (.con (.int 0))) .nil))) (.cons (.cmp .ne (.call 5 (.val (.idx (.var 3) (.con (.int 0))) .nil)) (.var 2)) .nil))) .nil))) (.cons (.ret (.con (.bl false))) .nil) .nil) (.cons (.ifs (.bop true (.cons (.cmp .notS (.idx (.var 3) (.con (.int 1))) (.con .non)) (.cons (.bop false (.cons (.not (.call 19 (.val (.idx (.idx (.var 4) (.con (.int 1))) (.con (.int 0))) .nil))) (.cons (.cmp .ne (.call 7 (.val (.idx (.var 3) (.con (.int 1))) .nil)) (.var 2)) .nil))) .nil))) (.cons (.ret (.con (.bl false))) .nil) .nil) .nil)))))))) (.cons (.ret (.con (.bl true))) .nil))⟩
def r_23 : LRow := ⟨"law", 42, ["script", "k", "text", "due", "found", "way"], ["script"], f_law⟩
def exR : List Ex := [.NoNumber, .NoText]
def exC : List Ex := [.NoNumber, .NoDrawing, .NoEdge, .NoCorner, .Unlike, .NoBalance, .NoRoof, .NoTurned, .NoSites, .NoPulls, .TooMany, .NoText, .NoName, .NoRow]
def dl0 : List LRow := [r_0, r_1, r_2, r_3, r_4, r_5, r_6, r_7, r_8, r_9, r_10, r_11, r_12, r_13, r_14, r_15, r_16, r_17, r_18, r_19]
def dl1 : List LRow := [r_20, r_21, r_22, r_23]
def dl : List LRow := dl0 ++ dl1
theorem b_0 : BindsP top r_0 := fun _ _ _ _ _ _ us hl => match us, hl with | [_, _], _ => rfl
theorem b_1 : BindsP top r_1 := fun _ _ _ _ _ _ us hl => match us, hl with | [_, _], _ => rfl
theorem b_2 : BindsP top r_2 := fun _ _ _ _ _ _ us hl => match us, hl with | [_], _ => rfl
theorem b_3 : BindsP top r_3 := fun _ _ _ _ _ _ us hl => match us, hl with | [_], _ => rfl
theorem b_4 : BindsP top r_4 := fun _ _ _ _ _ _ us hl => match us, hl with | [_], _ => rfl
theorem b_5 : BindsP top r_5 := fun _ _ _ _ _ _ us hl => match us, hl with | [_], _ => rfl
theorem b_6 : BindsP top r_6 := fun _ _ _ _ _ _ us hl => match us, hl with | [_], _ => rfl
theorem b_7 : BindsP top r_7 := fun _ _ _ _ _ _ us hl => match us, hl with | [_], _ => rfl
theorem b_8 : BindsP top r_8 := fun _ _ _ _ _ _ us hl => match us, hl with | [_, _], _ => rfl
theorem b_9 : BindsP top r_9 := fun _ _ _ _ _ _ us hl => match us, hl with | [_, _], _ => rfl
theorem b_10 : BindsP top r_10 := fun _ _ _ _ _ _ us hl => match us, hl with | [_, _], _ => rfl
theorem b_11 : BindsP top r_11 := fun _ _ _ _ _ _ us hl => match us, hl with | [_, _], _ => rfl
theorem b_12 : BindsP top r_12 := fun _ _ _ _ _ _ us hl => match us, hl with | [_], _ => rfl
theorem b_13 : BindsP top r_13 := fun _ _ _ _ _ _ us hl => match us, hl with | [_, _], _ => rfl
theorem b_14 : BindsP top r_14 := fun _ _ _ _ _ _ us hl => match us, hl with | [_], _ => rfl
theorem b_15 : BindsP top r_15 := fun _ _ _ _ _ _ us hl => match us, hl with | [_], _ => rfl
theorem b_16 : BindsP top r_16 := fun _ _ _ _ _ _ us hl => match us, hl with | [_], _ => rfl
theorem b_17 : BindsP top r_17 := fun _ _ _ _ _ _ us hl => match us, hl with | [_], _ => rfl
theorem b_18 : BindsP top r_18 := fun _ _ _ _ _ _ us hl => match us, hl with | [_], _ => rfl
theorem b_19 : BindsP top r_19 := fun _ _ _ _ _ _ us hl => match us, hl with | [_], _ => rfl
theorem b_20 : BindsP top r_20 := fun _ _ _ _ _ _ us hl => match us, hl with | [_, _], _ => rfl
theorem b_21 : BindsP top r_21 := fun _ _ _ _ _ _ us hl => match us, hl with | [_], _ => rfl
theorem b_22 : BindsP top r_22 := fun _ _ _ _ _ _ us hl => match us, hl with | [_], _ => rfl
theorem b_23 : BindsP top r_23 := fun _ _ _ _ _ _ us hl => match us, hl with | [_], _ => rfl
theorem ab0 : AllB top dl0 := .cons b_0 (.cons b_1 (.cons b_2 (.cons b_3 (.cons b_4 (.cons b_5 (.cons b_6 (.cons b_7 (.cons b_8 (.cons b_9 (.cons b_10 (.cons b_11 (.cons b_12 (.cons b_13 (.cons b_14 (.cons b_15 (.cons b_16 (.cons b_17 (.cons b_18 (.cons b_19 (.nil))))))))))))))))))))
theorem ab1 : AllB top dl1 := .cons b_20 (.cons b_21 (.cons b_22 (.cons b_23 (.nil))))
theorem ab : AllB top dl := (ab0).append ab1
theorem c_0 : chkD (nmOf dl) exR exC (r_0.dr top) = true := by decide +kernel
theorem c_1 : chkD (nmOf dl) exR exC (r_1.dr top) = true := by decide +kernel
theorem c_2 : chkD (nmOf dl) exR exC (r_2.dr top) = true := by decide +kernel
theorem c_3 : chkD (nmOf dl) exR exC (r_3.dr top) = true := by decide +kernel
theorem c_4 : chkD (nmOf dl) exR exC (r_4.dr top) = true := by decide +kernel
theorem c_5 : chkD (nmOf dl) exR exC (r_5.dr top) = true := by decide +kernel
theorem c_6 : chkD (nmOf dl) exR exC (r_6.dr top) = true := by decide +kernel
theorem c_7 : chkD (nmOf dl) exR exC (r_7.dr top) = true := by decide +kernel
theorem c_8 : chkD (nmOf dl) exR exC (r_8.dr top) = true := by decide +kernel
theorem c_9 : chkD (nmOf dl) exR exC (r_9.dr top) = true := by decide +kernel
theorem c_10 : chkD (nmOf dl) exR exC (r_10.dr top) = true := by decide +kernel
theorem c_11 : chkD (nmOf dl) exR exC (r_11.dr top) = true := by decide +kernel
theorem c_12 : chkD (nmOf dl) exR exC (r_12.dr top) = true := by decide +kernel
theorem c_13 : chkD (nmOf dl) exR exC (r_13.dr top) = true := by decide +kernel
theorem c_14 : chkD (nmOf dl) exR exC (r_14.dr top) = true := by decide +kernel
theorem c_15 : chkD (nmOf dl) exR exC (r_15.dr top) = true := by decide +kernel
theorem c_16 : chkD (nmOf dl) exR exC (r_16.dr top) = true := by decide +kernel
theorem c_17 : chkD (nmOf dl) exR exC (r_17.dr top) = true := by decide +kernel
theorem c_18 : chkD (nmOf dl) exR exC (r_18.dr top) = true := by decide +kernel
theorem c_19 : chkD (nmOf dl) exR exC (r_19.dr top) = true := by decide +kernel
theorem c_20 : chkD (nmOf dl) exR exC (r_20.dr top) = true := by decide +kernel
theorem c_21 : chkD (nmOf dl) exR exC (r_21.dr top) = true := by decide +kernel
theorem c_22 : chkD (nmOf dl) exR exC (r_22.dr top) = true := by decide +kernel
theorem c_23 : chkD (nmOf dl) exR exC (r_23.dr top) = true := by decide +kernel
theorem ck0 : (dl0.all fun r => chkD (nmOf dl) exR exC (r.dr top)) = true := by
  unfold dl0
  simp only [List.all_cons, List.all_nil, c_0, c_1, c_2, c_3, c_4, c_5, c_6, c_7, c_8, c_9, c_10, c_11, c_12, c_13, c_14, c_15, c_16, c_17, c_18, c_19, Bool.and_true]
theorem ck1 : (dl1.all fun r => chkD (nmOf dl) exR exC (r.dr top)) = true := by
  unfold dl1
  simp only [List.all_cons, List.all_nil, c_20, c_21, c_22, c_23, Bool.and_true]
theorem ck : (dl.all fun r => chkD (nmOf dl) exR exC (r.dr top)) = true := by
  show ((dl0 ++ dl1).all fun r => chkD (nmOf dl) exR exC (r.dr top)) = true
  rw [List.all_append, ck0, ck1]
  rfl
def lo0 : List Str := ["divisor", "fraction", "is_number", "check_text", "read_fraction", "show_fraction", "read_point", "show_point", "_law_draw", "_law_figures", "_law_spoilt", "_law_draws", "_law_number", "_law_common", "_law_fraction", "_law_point", "_law_only", "_law_whole", "_law_is_fraction", "_law_is_spot"]
def lo1 : List Str := ["_law_tried", "_law_written", "_law_drawn_text", "RoofError", "NoNumber", "NoDrawing", "NoEdge", "NoCorner", "Unlike", "NoBalance", "NoRoof", "NoTurned", "NoSites", "NoPulls", "TooMany", "NoText", "NoName", "NoRow"]
def loose : List Str := lo0 ++ lo1
abbrev R : PySem.W.OpenRow := PySem.W.OpenLaw.row PySem.Challenge.rw_roofweb_k91_numbers_and_spots_read
abbrev fnD : List He.DefD := dl.map (LRow.dd top)
abbrev hk : PySem.W.Hook := hookV 4 (mine dl exR exC) fnD
def ob (s : PySem.W.SharedT) : He.AlD := obsVG 4 (mine dl exR exC) fnD (HandSHeadRun.getT s)
theorem ob_eq (s : PySem.W.SharedT) : ob s = hk.obs s.abs := obsVG_eq (HandSHeadRun.getT_eq s)
set_option maxHeartbeats 0 in
theorem runs (w : World) : HandSHeadRun.RunEq R (PySem.W.view R.prog [42]) hk ob 20000 loose w := by
  intro os
  kernel_rfl
theorem law_end (hrun : ∀ ns : List Int, ns.length ≤ 63 → run (tabOf dl) 20 23 [.val (.sc ns)] = .ret false (.bl true) []) : PySem.Challenge.rw_roofweb_k91_numbers_and_spots_read.Holds := by
  w_on; o_law
  refine HandSHeadRun.head_any (r := PySem.W.OpenLaw.row PySem.Challenge.rw_roofweb_k91_numbers_and_spots_read) (q := PySem.W.view (PySem.W.OpenLaw.row PySem.Challenge.rw_roofweb_k91_numbers_and_spots_read).prog [42]) (H := hk) (ob := ob) (M := 20000) (loose := loose) (d := HandSHeadRun.topDef (PySem.W.OpenLaw.row PySem.Challenge.rw_roofweb_k91_numbers_and_spots_read).prog 42) (kwd := []) ob_eq
    (by kernel_rfl) (fun s => by kernel_rfl) runs (by kernel_rfl) (by kernel_rfl) (by kernel_rfl) (by rfl) (by first | assumption | decide +kernel) (by decide +kernel) ⟨rfl, rfl, rfl, rfl, rfl, by decide +kernel⟩ ?hw ?hc
  case hw => w_witness2
  case hc =>
    refine L2.walk_ofE (l := PySem.Challenge.rw_roofweb_k91_numbers_and_spots_read) (n := 63) (k := 20) (x := "script") (CX := L2.CX0) rfl (by decide) (by kernel_rfl) ⟨rfl, by decide, by decide⟩ ?F (fun _ _ _ _ z => z)
    intro w mg fa h Y G hmg0
    have hmg : mg ("law" : PySem.Str) = some (.ref fa) := by
      have e : (HandSHeadRun.topDef (PySem.W.OpenLaw.row PySem.Challenge.rw_roofweb_k91_numbers_and_spots_read).prog 42).name = ("law" : PySem.Str) := by kernel_rfl
      rw [← e]
      exact hmg0
    exact vm_end (P := (PySem.Challenge.rw_roofweb_k91_numbers_and_spots_read).prog) (li := 23) (k := 19) (n := 63) (rl := r_23) (x := "script") ck ab rfl rfl hrun Y G hmg
end L91

namespace L91
open Vm PySem
open SX (S S_len S_beq_eq)
abbrev run' := run (tabOf dl)
/-! ### the greatest common divisor -/
theorem t0 (k : Nat) (as : List AV) : run (tabOf dl) (k + 1) 0 as = runFn (run (tabOf dl) k) f_divisor as := rfl
theorem t1 (k : Nat) (as : List AV) : run (tabOf dl) (k + 1) 1 as = runFn (run (tabOf dl) k) f_fraction as := rfl
theorem t2 (k : Nat) (as : List AV) : run (tabOf dl) (k + 1) 2 as = runFn (run (tabOf dl) k) f_is_number as := rfl
theorem t3 (k : Nat) (as : List AV) : run (tabOf dl) (k + 1) 3 as = runFn (run (tabOf dl) k) f_check_text as := rfl
theorem t4 (k : Nat) (as : List AV) : run (tabOf dl) (k + 1) 4 as = runFn (run (tabOf dl) k) f_read_fraction as := rfl
theorem t12 (k : Nat) (as : List AV) : run (tabOf dl) (k + 1) 12 as = runFn (run (tabOf dl) k) f_law_number as := rfl
theorem t13 (k : Nat) (as : List AV) : run (tabOf dl) (k + 1) 13 as = runFn (run (tabOf dl) k) f_law_common as := rfl
def gcdC : E := .cmp .gt (.var 1) (.con (.int 0))
def gcdB : Ss := .cons (.par 0 1 (.var 1) (.bin .mod (.var 0) (.var 1))) .nil
theorem gcd_loop (call : CallT) : ∀ (n : Nat) (a b : Nat), b < n → whlE call [] gcdC gcdB n [.val (.int a), .val (.int b)] = .next [.val (.int (Nat.gcd a b)), .val (.int 0)]
  | 0, a, b, h => by omega
  | n + 1, a, b, h => by
    rw [whl1]
    by_cases hb : b = 0
    · subst hb
      simp [gcdC]
    · have hp : 0 < b := Nat.pos_of_ne_zero hb
      have ih := gcd_loop call n b (a % b) (by have := Nat.mod_lt a hp; omega)
      have e1 : ((a : Int).fmod (b : Int)) = ((a % b : Nat) : Int) := by
        rw [Int.fmod_eq_emod_of_nonneg _ (by omega)]; rfl
      have e2 : Nat.gcd b (a % b) = Nat.gcd a b := by rw [Nat.gcd_comm a b, Nat.gcd_rec b a]; exact Nat.gcd_comm ..
      rw [e2] at ih
      have hb' : (b : Int) ≠ 0 := by omega
      simp only [gcdC, gcdB] at ih ⊢
      simpa [e1, hb, hp] using ih
theorem abs_nat (a : Int) : (if a < 0 then -a else a) = (a.natAbs : Int) := by split <;> omega
theorem r_gcd (k : Nat) (a b : Int) : run (tabOf dl) (k + 1) 0 [.val (.int a), .val (.int b)] = .ret false (.int (Int.gcd a b)) [] := by
  rw [t0]
  have := gcd_loop (run (tabOf dl) k) (b.natAbs + 1) a.natAbs b.natAbs (by omega)
  unfold gcdC gcdB at this
  simp [f_divisor, runFn, params, refsOf, biD, biAbs, abs_nat, gcdFuel, this, outs, Int.gcd]
theorem r_common (k : Nat) (a b : Int) : run (tabOf dl) (k + 1) 13 [.val (.int a), .val (.int b)] = .ret false (.int (Int.gcd a b)) [] := by
  rw [t13]
  have := gcd_loop (run (tabOf dl) k) (b.natAbs + 1) a.natAbs b.natAbs (by omega)
  unfold gcdC gcdB at this
  simp [f_law_common, runFn, params, refsOf, biD, biAbs, abs_nat, gcdFuel, this, outs, Int.gcd]
/-! ### fraction -/
theorem r_fraction (k : Nat) (a b : Int) (hb : 2 ≤ b) (hb2 : b.natAbs.log2 < 9000) : run (tabOf dl) (k + 2) 1 [.val (.int a), .val (.int b)] = .ret false (.tup [.int (a.fdiv (Int.gcd a b)), .int (b.fdiv (Int.gcd a b))]) [] := by
  rw [t1]
  have hg : (Int.gcd a b : Int) ≠ 0 := by
    intro z
    have : Int.gcd a b = 0 := by omega
    have := (Int.gcd_eq_zero_iff.mp this).2
    omega
  have hl : (Int.gcd a b).log2 < 9000 := by
    have : Int.gcd a b ∣ b.natAbs := Int.gcd_dvd_natAbs_right a b
    have h2 := Nat.le_of_dvd (by omega) this
    have h3 := (Nat.log2_lt (by omega : b.natAbs ≠ 0)).mp hb2
    exact (Nat.log2_lt (by omega : Int.gcd a b ≠ 0)).mpr (Nat.lt_of_le_of_lt h2 h3)
  have hb0 : b ≠ 0 := by omega
  have hn : ¬ b < 0 := by omega
  simp [f_fraction, runFn, params, refsOf,  doCall, ixs, AA.ix, fetch, r_gcd, putBack, okLend, flat, outs, hb0, hn, hg, hl]
end L91

namespace L91
open Vm PySem
open SX (S S_len S_beq_eq)
def body (a : List Nat) : List Nat := if a.head? = some 45 then a.drop 1 else a
def dig (c : Nat) : Bool := decide (48 ≤ c) && decide (c ≤ 57)
def numOK (a : List Nat) : Bool := decide (1 ≤ (body a).length) && decide ((body a).length ≤ 60) && (body a).all dig && (!decide ((body a).head? = some 48) || decide (a = [48]))
/-- a drawn text -/
structure T (a : List Nat) : Prop where
  lt : ∀ c ∈ a, c < 256
  len : a.length ≤ 1000
theorem T.ok {a : List Nat} (h : T a) : PyData.strOk (S a) = true := by
  unfold PyData.strOk
  rw [Array.all_eq_true]
  intro i hi
  have : (S a).cps[i] ∈ a := by
    have h1 : (S a).cps[i] ∈ (S a).cps := Array.getElem_mem hi
    simpa using h1
  have := h.lt _ this
  exact decide_eq_true (by omega)
theorem sw_dash (a : List Nat) : Txt.startswith (S a) "-" = decide (a.head? = some 45) := by
  cases a with
  | nil => rfl
  | cons c r =>
    have e : Txt.startswith (S (c :: r)) "-" = (decide (0 + 1 ≤ (S (c :: r)).length) && Builtin.Str.subAt (S (c :: r)) "-" 0) := rfl
    rw [e, StrLaws.subAt_eq, S_len]
    have h2 : ((S (c :: r)).cps.toList.drop 0).take ("-" : Str).length = [c] := rfl
    rw [h2]
    have h3 : ("-" : Str).cps.toList = [45] := rfl
    rw [h3]
    by_cases hc : c = 45
    · subst hc; simp
    · simp [hc]
theorem cut_from1 (a : List Nat) : L2.cutS (S a) (some 1) none = S (a.drop 1) := by
  unfold L2.cutS
  have h1 : HT.sIx (S a).length 0 (some 1) = min 1 a.length := by rw [S_len]; exact HT.sIx_nat a.length 0 1
  have h2 : HT.sIx (S a).length (S a).length none = a.length := S_len a
  rw [h1, h2]
  show S _ = _
  cases a with
  | nil => rfl
  | cons c r =>
    have : min 1 (c :: r).length = 1 := by simp
    rw [this]
    congr 1
    show List.take _ r = r
    exact List.take_of_length_le (by simp)
theorem cut_to1 (a : List Nat) : L2.cutS (S a) none (some 1) = S (a.take 1) := by
  unfold L2.cutS
  have h1 : HT.sIx (S a).length (S a).length (some 1) = min 1 a.length := by rw [S_len]; exact HT.sIx_nat a.length _ 1
  have h2 : HT.sIx (S a).length 0 none = 0 := rfl
  rw [h1, h2]
  show S _ = _
  cases a with
  | nil => rfl
  | cons c r => simp
theorem cut_from0 (a : List Nat) : L2.cutS (S a) (some 0) none = S a := by
  unfold L2.cutS
  have h1 : HT.sIx (S a).length 0 (some 0) = 0 := by rw [S_len]; exact (HT.sIx_nat a.length 0 0).trans (Nat.zero_min _)
  have h2 : HT.sIx (S a).length (S a).length none = a.length := S_len a
  rw [h1, h2]
  show S _ = _
  congr 1
  show List.take _ a = a
  exact List.take_of_length_le (by simp)
theorem in_dig (c : Nat) : inD (.str ⟨#[c]⟩) (.str "0123456789") = some (dig c) := by
  show some (decide (c ∈ [48, 49, 50, 51, 52, 53, 54, 55, 56, 57])) = _
  congr 1
  unfold dig
  by_cases h : 48 ≤ c ∧ c ≤ 57
  · rw [decide_eq_true h.1, decide_eq_true h.2, decide_eq_true]; rfl
    simp; omega
  · rw [decide_eq_false (by simp; omega)]
    by_cases h1 : 48 ≤ c
    · rw [decide_eq_true h1, decide_eq_false (by omega)]; rfl
    · rw [decide_eq_false h1]; rfl
theorem at0 {α : Type} (c : α) (r : List α) : L2.atI (c :: r) 0 = some c := by
  unfold L2.atI L2.ixN
  simp
def digB : Ss := .cons (.ifs (.cmp .notIn (.var 2) (.con (.str "0123456789"))) (.cons (.ret (.con (.bl false))) .nil) .nil) .nil
theorem digs_loop (call : CallT) (s1 s2 : Slot) : ∀ (b : List Nat) (s3 : Slot), ∃ s4, forS call [] false [2] digB (b.map fun c => .str ⟨#[c]⟩) [s1, s2, s3] = if b.all dig = true then .next [s1, s2, s4] else .ret false (.bl false) [s1, s2, s4]
  | [], s3 => ⟨s3, rfl⟩
  | c :: r, s3 => by
    obtain ⟨s4, h⟩ := digs_loop call s1 s2 r (.val (.str ⟨#[c]⟩))
    have step : forS call [] false [2] digB ((c :: r).map fun c => .str ⟨#[c]⟩) [s1, s2, s3] = if dig c = true then forS call [] false [2] digB (r.map fun c => .str ⟨#[c]⟩) [s1, s2, .val (.str ⟨#[c]⟩)] else .ret false (.bl false) [s1, s2, .val (.str ⟨#[c]⟩)] := by
      rw [List.map_cons]
      simp only [forS, stoT, sto_cons]
      cases hd : dig c <;> simp [digB, in_dig, hd]
    rw [step]
    cases hd : dig c with
    | true => exact ⟨s4, by rw [if_pos rfl, h, List.all_cons, hd, Bool.true_and]⟩
    | false => exact ⟨_, by rw [if_neg Bool.false_ne_true, List.all_cons, hd, Bool.false_and, if_neg Bool.false_ne_true]⟩
theorem body_len {a : List Nat} : (body a).length ≤ a.length := by
  unfold body
  split <;> simp
theorem num_fig (call : CallT) (a : List Nat) (h : T a) (r : Ss) : evSs call (.cons (.asg 1 (.var 0)) (.cons (.ifs (.mth .startswith (.var 0) (.cons (.con (.str "-")) .nil)) (.cons (.asg 1 (.slc (.var 0) (.some (.con (.int 1))) .none)) .nil) .nil) r)) [] [.val (.str (S a)), .emp, .emp] =
    evSs call r [] [.val (.str (S a)), .val (.str (S (body a))), .emp] := by
  have hl := h.len
  by_cases hc : a.head? = some 45
  · simp [rcv, mthD, sw_dash, slcD, S_len, (show a.length ≤ 16777216 by omega), cut_from1, hc, body]
  · simp [rcv, mthD, sw_dash, hc, body]
theorem S_zero : (S [48]) = ("0" : Str) := rfl
theorem r_num (k : Nat) (a : List Nat) (h : T a) : run (tabOf dl) (k + 1) 2 [.val (.str (S a))] = .ret false (.bl (numOK a)) [] := by
  rw [t2]
  have hl := h.len
  have hb := body_len (a := a)
  have hi : itemsD (.str (S (body a))) = some ((body a).map fun c => .str ⟨#[c]⟩) := rfl
  simp only [f_is_number, runFn, params, refsOf, List.length_cons, List.length_nil, List.replicate, Option.map, List.cons_append, List.nil_append]
  show (match evSs _ _ [] [.val (.str (S a)), .emp, .emp] with | .next e => _ | .ret fr d e => _ | .exc x e => _ | .bad => _) = _
  rw [num_fig _ a h]
  obtain ⟨s4, hf⟩ := digs_loop (run (tabOf dl) k) (.val (.str (S a))) (.val (.str (S (body a)))) (body a) .emp
  by_cases h1 : (body a).length < 1
  · have : numOK a = false := by unfold numOK; rw [decide_eq_false (by omega)]; rfl
    rw [this]
    simp [biD, biLen, S_len, (show (body a).length ≤ 16777216 by omega), (show body a = [] from List.length_eq_zero_iff.mp (by omega)), outs]
  · by_cases h2 : 60 < (body a).length
    · have : numOK a = false := by unfold numOK; rw [decide_eq_false (show ¬ (body a).length ≤ 60 by omega), Bool.and_false]; rfl
      rw [this]
      have e1 : ¬ ((body a).length : Int) < 1 := by omega
      have e2 : (60 : Int) < ((body a).length : Int) := by omega
      simp [biD, biLen, S_len, (show (body a).length ≤ 16777216 by omega), e1, e2, outs]
    · have e1 : ¬ ((body a).length : Int) < 1 := by omega
      have e2 : ¬ (60 : Int) < ((body a).length : Int) := by omega
      have hs : evSrc (run (tabOf dl) k) [] (.own 1) [.val (.str (S a)), .val (.str (S (body a))), .emp] = .ok (.st ((body a).map fun c => .str ⟨#[c]⟩)) [.val (.str (S a)), .val (.str (S (body a))), .emp] := rfl
      have hlp := st_loop_st (call := run (tabOf dl) k) (refs := []) (tp := false) (ts := [2]) (b := digB) hs
      rw [hf] at hlp
      unfold digB at hlp
      cases hd : (body a).all dig with
      | false =>
        have : numOK a = false := by unfold numOK; rw [hd, Bool.and_false]; rfl
        rw [this]
        rw [hd, if_neg Bool.false_ne_true] at hlp
        simp [biD, biLen, S_len, (show (body a).length ≤ 16777216 by omega), e1, e2, outs, hlp]
      | true =>
        rw [hd, if_pos rfl] at hlp
        obtain ⟨c, r, hb0⟩ : ∃ c r, body a = c :: r := by
          cases hq : body a with
          | nil => rw [hq] at h1; simp at h1
          | cons c r => exact ⟨c, r, rfl⟩
        · skip
          have hz : idxD (.str (S (body a))) (.int 0) = some (.str (S [c])) := by
            show (if (S (body a)).length ≤ 16777216 then (L2.atI (body a) 0).map fun c => D.str ⟨#[c]⟩ else none) = _
            rw [if_pos (by rw [S_len]; omega), hb0, at0]; rfl
          have hT : PyData.strOk (S [c]) = true := by
            have hm : c ∈ a := by
              have : c ∈ body a := by rw [hb0]; exact List.mem_cons_self
              unfold body at this
              split at this
              · exact List.mem_of_mem_drop this
              · exact this
            exact (T.mk (fun x hx => by rw [List.mem_singleton.mp hx]; exact h.lt c hm) (by simp)).ok
          have q1 : eqD (.str (S [c])) (.str "0") = some (decide (c = 48)) := by rw [eq_str hT (by decide +kernel), ← S_zero, S_beq_eq]; simp
          have q2 : eqD (.str (S a)) (.str "0") = some (decide (a = [48])) := by rw [eq_str h.ok (by decide +kernel), ← S_zero, S_beq_eq]
          have hn : numOK a = (!decide (c = 48) || decide (a = [48])) := by
            unfold numOK
            rw [hd, decide_eq_true (by omega), decide_eq_true (by omega), hb0]
            simp
          rw [hn]
          simp [biD, biLen, S_len, (show (body a).length ≤ 16777216 by omega), e1, e2, outs, hlp, hz, q1, q2]
          cases hc : decide (c = 48) <;> simp_all
end L91

namespace L91
open Vm PySem
open SX (S S_len S_beq_eq)
def val (a : List Nat) : Int := if a.head? = some 45 then -((NumText.digitsVal (a.drop 1) : Nat) : Int) else ((NumText.digitsVal a : Nat) : Int)
theorem numOK_of {a : List Nat} (h : numOK a = true) : 1 ≤ (body a).length ∧ (body a).length ≤ 60 ∧ (body a).all dig = true ∧ ((body a).head? = some 48 → a = [48]) := by
  unfold numOK at h
  obtain ⟨h, h4⟩ := and2 h
  obtain ⟨h, h3⟩ := and2 h
  obtain ⟨h1, h2⟩ := and2 h
  refine ⟨of_decide_eq_true h1, of_decide_eq_true h2, h3, fun z => ?_⟩
  rw [decide_eq_true z] at h4
  simpa using h4
theorem digs_all {b : List Nat} (h : b.all dig = true) : NumText.AllDigits b := fun c hc => by
  have := List.all_eq_true.mp h c hc
  unfold dig at this
  obtain ⟨h1, h2⟩ := and2 this
  exact ⟨of_decide_eq_true h1, of_decide_eq_true h2⟩
theorem int_val {a : List Nat} (h : numOK a = true) (hl : a.length ≤ 4300) : intText? (S a) = some (val a) := by
  obtain ⟨h1, h2, h3, h4⟩ := numOK_of h
  unfold val
  by_cases hc : a.head? = some 45
  · rw [if_pos hc]
    have hb : body a = a.drop 1 := by unfold body; rw [if_pos hc]
    rw [hb] at h1 h3
    obtain ⟨r, rfl⟩ : ∃ r, a = 45 :: r := by
      cases a with
      | nil => cases hc
      | cons c r => simp at hc; exact ⟨r, by rw [hc]⟩
    exact PySem.intText_neg (cs := r) rfl (digs_all h3) (by intro z; subst z; simp at h1) (by rw [S_len]; omega)
  · rw [if_neg hc]
    have hb : body a = a := by unfold body; rw [if_neg hc]
    rw [hb] at h1 h3
    exact PySem.intText_digits (x := S a) (digs_all h3) (by intro z; have : a = [] := z; subst this; simp at h1) (by rw [S_len]; omega)
/-- texts in a list, against the empty list -/
theorem pys_strs : ∀ (M : List Str), py.pys (M.map D.str) = some (M.map PyData.str)
  | [] => rfl
  | x :: r => by simp [py.pys, py, pys_strs r]
theorem lay_strs : ∀ {M : List Str}, (∀ x ∈ M, PyData.strOk x = true) → PyData.canLayAll0 (M.map PyData.str) = true ∧ PyData.depthAll (M.map PyData.str) = 0
  | [], _ => ⟨rfl, rfl⟩
  | x :: r, h => by
    obtain ⟨h1, h2⟩ := lay_strs (M := r) fun y hy => h y (List.mem_cons_of_mem _ hy)
    have := h x List.mem_cons_self
    constructor
    · show (PyData.strOk x && PyData.canLayAll0 (r.map PyData.str)) = true
      rw [this, h1]; rfl
    · show max 0 (PyData.depthAll (r.map PyData.str)) = 0
      rw [h2]; rfl
theorem eq_strs_nil {M : List Str} (h : ∀ x ∈ M, PyData.strOk x = true) : eqD (.lst (M.map D.str)) (.lst []) = some M.isEmpty := by
  obtain ⟨h1, h2⟩ := lay_strs h
  have e : py (.lst (M.map D.str)) = some (.list (M.map PyData.str)) := by simp [py, pys_strs]
  unfold eqD
  rw [e]
  have s1 : SeqAt.shaped (.list (M.map PyData.str)) = true := by
    show (PyData.canLayAll0 _ && decide (PyData.depthAll _ + 1 ≤ 64)) = true
    rw [h1, h2]; rfl
  show (if SeqAt.shaped (.list (M.map PyData.str)) = true ∧ SeqAt.shaped (.list []) = true then some (PyData.eqvAll (M.map PyData.str) []) else none) = _
  rw [if_pos ⟨s1, by decide +kernel⟩]
  cases M <;> rfl
theorem r_lnum (k : Nat) (a : List Nat) (h : T a) : run (tabOf dl) (k + 1) 12 [.val (.str (S a))] = .ret false (if numOK a = true then .int (val a) else .non) [] := by
  rw [t12]
  have hl := h.len
  have hb := body_len (a := a)
  have hok1 : PyData.strOk (S (a.take 1)) = true := (T.mk (fun c hc => h.lt c (List.mem_of_mem_take hc)) (by rw [List.length_take]; omega)).ok
  have q0 : eqD (.str (S (a.take 1))) (.str "-") = some (decide (a.head? = some 45)) := by
    rw [eq_str hok1 (by decide +kernel)]
    have : ("-" : Str) = S [45] := rfl
    rw [this, S_beq_eq]
    cases a with
    | nil => rfl
    | cons c r => simp
  -- the figures
  have fig : ∀ (call : CallT) (r : Ss), evSs call (.cons (.asg 1 (.slc (.var 0) (.some (.bi .int (.cons (.cmp .eq (.slc (.var 0) .none (.some (.con (.int 1)))) (.con (.str "-"))) .nil))) .none)) r) [] [.val (.str (S a)), .emp, .emp] = evSs call r [] [.val (.str (S a)), .val (.str (S (body a))), .emp] := by
    intro call r
    by_cases hc : a.head? = some 45
    · simp [slcD, S_len, (show a.length ≤ 16777216 by omega), cut_to1, q0, hc, biD, biInt, cut_from1, body]
    · simp [slcD, S_len, (show a.length ≤ 16777216 by omega), cut_to1, q0, hc, biD, biInt, cut_from0, body]
  simp only [f_law_number, runFn, params, refsOf, List.length_cons, List.length_nil, List.replicate, Option.map, List.cons_append, List.nil_append]
  show (match evSs _ _ [] [.val (.str (S a)), .emp, .emp] with | .next e => _ | .ret fr d e => _ | .exc x e => _ | .bad => _) = _
  rw [fig]
  -- the strange signs
  have cmp : evE (run (tabOf dl) k) [] (.comp (.var 2) false [2] (.own 1) (.some (.cmp .notIn (.var 2) (.con (.str "0123456789"))))) [.val (.str (S a)), .val (.str (S (body a))), .emp] =
      .ok (true, .lst (((body a).map fun c => D.str ⟨#[c]⟩).filterMap fun d => match d with | .str s => if dig (s.cps.getD 0 0) = true then none else some (.str s) | _ => none)) [.val (.str (S a)), .val (.str (S (body a))), .emp] := by
    refine comp_pure (w := .st ((body a).map fun c => D.str ⟨#[c]⟩)) (e1 := [.val (.str (S a)), .val (.str (S (body a))), .emp]) rfl rfl (Nat.le_refl _) (by show ((body a).map _).length ≤ _; rw [List.length_map]; omega) (fun n e _ => rfl) fun d hd => ?_
    obtain ⟨c, hc, rfl⟩ := List.mem_map.mp hd
    refine ⟨[.val (.str (S a)), .val (.str (S (body a))), .val (.str ⟨#[c]⟩)], rfl, ?_⟩
    have g0 : (#[c] : Array Nat).getD 0 0 = c := rfl
    dsimp only
    rw [g0]
    cases hdg : dig c with
    | true => exact ⟨by simp [evC, in_dig, hdg], rfl⟩
    | false => exact ⟨by simp [evC, in_dig, hdg], false, [.val (.str (S a)), .val (.str (S (body a))), .val (.str ⟨#[c]⟩)], by simp, rfl⟩
  have odd : ∃ M : List Str, (((body a).map fun c => D.str ⟨#[c]⟩).filterMap fun d => match d with | .str s => if dig (s.cps.getD 0 0) = true then none else some (.str s) | _ => none) = M.map D.str ∧ (∀ x ∈ M, PyData.strOk x = true) ∧ (M.isEmpty = (body a).all dig) := by
    have hm : ∀ c ∈ body a, c < 256 := fun c hc => by
      unfold body at hc
      split at hc
      · exact h.lt c (List.mem_of_mem_drop hc)
      · exact h.lt c hc
    generalize body a = b at hm
    clear cmp fig
    induction b with
    | nil => exact ⟨[], rfl, fun x hx => by simp at hx, rfl⟩
    | cons c r ih =>
      obtain ⟨M, m1, m2, m3⟩ := ih fun x hx => hm x (List.mem_cons_of_mem _ hx)
      have g0 : (#[c] : Array Nat).getD 0 0 = c := rfl
      rw [List.map_cons, List.filterMap_cons, m1, List.all_cons]
      dsimp only
      rw [g0]
      cases hdg : dig c with
      | true => exact ⟨M, rfl, m2, by rw [Bool.true_and]; exact m3⟩
      | false =>
        refine ⟨S [c] :: M, rfl, fun x hx => ?_, rfl⟩
        rcases List.mem_cons.mp hx with rfl | hx
        · exact (T.mk (fun x hx => by rw [List.mem_singleton.mp hx]; exact hm c List.mem_cons_self) (by simp)).ok
        · exact m2 x hx
  obtain ⟨M, m1, m2, m3⟩ := odd
  rw [m1] at cmp
  have q1 := eq_strs_nil m2
  have hS : (S (body a)).length ≤ 16777216 := by rw [S_len]; omega
  by_cases h1 : (body a).length = 0
  · have hn : numOK a = false := by unfold numOK; rw [decide_eq_false (by omega)]; rfl
    rw [hn]
    simp [biD, biLen, S_len, (show (body a).length ≤ 16777216 by omega), (show body a = [] from List.length_eq_zero_iff.mp h1), outs]
  · by_cases h2 : 60 < (body a).length
    · have hn : numOK a = false := by unfold numOK; rw [decide_eq_false (show ¬ (body a).length ≤ 60 by omega), Bool.and_false]; rfl
      rw [hn]
      have e1 : ¬ ((body a).length : Int) = 0 := by omega
      have e2 : (60 : Int) < ((body a).length : Int) := by omega
      have e3 : ¬ body a = [] := fun z => h1 (by rw [z]; rfl)
      simp [biD, biLen, S_len, (show (body a).length ≤ 16777216 by omega), e1, e2, e3, outs]
    · have e1 : ¬ ((body a).length : Int) = 0 := by omega
      have e2 : ¬ (60 : Int) < ((body a).length : Int) := by omega
      have e3 : ¬ body a = [] := fun z => h1 (by rw [z]; rfl)
      cases hd : (body a).all dig with
      | false =>
        rw [hd] at m3
        have hn : numOK a = false := by unfold numOK; rw [hd, Bool.and_false]; rfl
        rw [hn]
        rw [m3] at q1
        simp [biD, biLen, S_len, (show (body a).length ≤ 16777216 by omega), e1, e2, e3, outs, cmp, q1]
      | true =>
        rw [hd] at m3
        rw [m3] at q1
        obtain ⟨c, r, hb0⟩ : ∃ c r, body a = c :: r := by
          cases hq : body a with
          | nil => exact absurd hq e3
          | cons c r => exact ⟨c, r, rfl⟩
        have hz : idxD (.str (S (body a))) (.int 0) = some (.str (S [c])) := by
          show (if (S (body a)).length ≤ 16777216 then (L2.atI (body a) 0).map fun c => D.str ⟨#[c]⟩ else none) = _
          rw [if_pos (by rw [S_len]; omega), hb0, at0]; rfl
        have hT : PyData.strOk (S [c]) = true := by
          have hm : c ∈ a := by
            have : c ∈ body a := by rw [hb0]; exact List.mem_cons_self
            unfold body at this
            split at this
            · exact List.mem_of_mem_drop this
            · exact this
          exact (T.mk (fun x hx => by rw [List.mem_singleton.mp hx]; exact h.lt c hm) (by simp)).ok
        have q2 : eqD (.str (S [c])) (.str "0") = some (decide (c = 48)) := by rw [eq_str hT (by decide +kernel), ← S_zero, S_beq_eq]; simp
        have q3 : eqD (.str (S a)) (.str "0") = some (decide (a = [48])) := by rw [eq_str h.ok (by decide +kernel), ← S_zero, S_beq_eq]
        have hn : numOK a = (!decide (c = 48) || decide (a = [48])) := by
          unfold numOK
          rw [hd, decide_eq_true (by omega), decide_eq_true (by omega), hb0]
          simp
        by_cases hok : numOK a = true
        · have hv := int_val hok (by omega)
          rw [if_pos hok]
          rw [hn] at hok
          by_cases hc : c = 48
          · have ha : a = [48] := by subst hc; simpa using hok
            subst hc
            have q2' : eqD (.str (S [48])) (.str "0") = some true := by rw [q2]; rfl
            have q3' : eqD (.str (S a)) (.str "0") = some true := by rw [q3, decide_eq_true ha]
            simp [biD, biLen, biInt, S_len, (show (body a).length ≤ 16777216 by omega), e1, e2, e3, outs, cmp, q1, hz, q2', q3', hv, (show a.length ≤ 640 by rw [ha]; decide)]
          · have hl2 : a.length ≤ 61 := by
              have : a.length ≤ (body a).length + 1 := by
                unfold body
                split
                · rw [List.length_drop]; omega
                · omega
              omega
            simp [biD, biLen, biInt, S_len, (show (body a).length ≤ 16777216 by omega), e1, e2, e3, outs, cmp, q1, hz, q2, hc, hv, (show a.length ≤ 640 by omega)]
        · rw [if_neg hok]
          rw [hn] at hok
          have hc : c = 48 := by simp at hok; exact hok.1
          have ha : ¬ a = [48] := by simp at hok; exact hok.2
          subst hc
          have q2' : eqD (.str (S [48])) (.str "0") = some true := by rw [q2]; rfl
          have q3' : eqD (.str (S a)) (.str "0") = some false := by rw [q3, decide_eq_false ha]
          simp [biD, biLen, biInt, S_len, (show (body a).length ≤ 16777216 by omega), e1, e2, e3, outs, cmp, q1, hz, q2', q3']
end L91

namespace L91
open Vm PySem TL
open SX (S S_len S_beq_eq)
/-! ### cutting -/
theorem pre1 (c d : Nat) (r : List Nat) : pre [c] (d :: r) = decide (d = c) := by
  show ([d] == [c]) = _
  by_cases h : d = c
  · subst h; simp
  · simp [h]
theorem spl_cons (c d : Nat) (acc r : List Nat) : spl [c] 0 acc (d :: r) = if d = c then acc :: spl [c] 0 [] r else spl [c] 0 (acc ++ [d]) r := by
  by_cases h : d = c
  · rw [if_pos h, spl_hit (by rw [pre1]; exact decide_eq_true h)]; rfl
  · rw [if_neg h, spl_miss (by rw [pre1]; exact decide_eq_false h)]
theorem joinL_cons {c : Nat} {p : List Nat} {l : List (List Nat)} (h : l ≠ []) : joinL [c] (p :: l) = p ++ c :: joinL [c] l := by
  cases l with
  | nil => exact absurd rfl h
  | cons q r => rfl
theorem spl_ne (c : Nat) : ∀ (a acc : List Nat), spl [c] 0 acc a ≠ []
  | [], acc => by rw [spl_nil]; simp
  | d :: r, acc => by
    rw [spl_cons]
    split
    · simp
    · exact spl_ne c r _
theorem join_spl (c : Nat) : ∀ (a acc : List Nat), joinL [c] (spl [c] 0 acc a) = acc ++ a
  | [], acc => by rw [spl_nil]; simp [joinL]
  | d :: r, acc => by
    rw [spl_cons]
    split
    · rename_i h
      rw [joinL_cons (spl_ne c r []), join_spl c r []]
      subst h; rfl
    · rw [join_spl c r, List.append_assoc]; rfl
theorem spl_mem (c : Nat) : ∀ (a acc : List Nat), ∀ p ∈ spl [c] 0 acc a, (∀ x ∈ p, x ∈ acc ∨ x ∈ a) ∧ p.length ≤ acc.length + a.length
  | [], acc => fun p hp => by
    rw [spl_nil] at hp
    rw [List.mem_singleton.mp hp]
    exact ⟨fun x hx => .inl hx, by simp⟩
  | d :: r, acc => fun p hp => by
    rw [spl_cons] at hp
    split at hp
    · rcases List.mem_cons.mp hp with rfl | hp
      · exact ⟨fun x hx => .inl hx, by simp⟩
      · obtain ⟨h1, h2⟩ := spl_mem c r [] p hp
        refine ⟨fun x hx => .inr (List.mem_cons_of_mem _ ?_), by simp at h2 ⊢; omega⟩
        rcases h1 x hx with z | z
        · simp at z
        · exact z
    · obtain ⟨h1, h2⟩ := spl_mem c r (acc ++ [d]) p hp
      refine ⟨fun x hx => ?_, by simp at h2 ⊢; omega⟩
      rcases h1 x hx with z | z
      · rcases List.mem_append.mp z with z | z
        · exact .inl z
        · rw [List.mem_singleton.mp z]; exact .inr List.mem_cons_self
      · exact .inr (List.mem_cons_of_mem _ z)
theorem spl_len (c : Nat) : ∀ (a acc : List Nat), (spl [c] 0 acc a).length ≤ a.length + 1
  | [], acc => by rw [spl_nil]; simp
  | d :: r, acc => by
    rw [spl_cons]
    split
    · have := spl_len c r []; simp; omega
    · have := spl_len c r (acc ++ [d]); simp; omega
theorem T.part {c : Nat} {a p : List Nat} (h : T a) (hp : p ∈ spl [c] 0 [] a) : T p := by
  obtain ⟨h1, h2⟩ := spl_mem c a [] p hp
  have := h.len
  refine ⟨fun x hx => ?_, by simp at h2; omega⟩
  rcases h1 x hx with z | z
  · simp at z
  · exact h.lt x z
theorem spl_one {c : Nat} {a p : List Nat} (h : spl [c] 0 [] a = [p]) : p = a := by
  have := join_spl c a []
  rw [h] at this
  exact this
theorem spl_two {c : Nat} {a p q : List Nat} (h : spl [c] 0 [] a = [p, q]) : a = p ++ c :: q := by
  have := join_spl c a []
  rw [h] at this
  exact this.symm
def strL (l : List (List Nat)) : List D := l.map fun p => .str (S p)
theorem split_at (c : Nat) (hc : c < 256) (a : List Nat) (h : a.length ≤ 1000) : mthD .split (.str (S a)) [.str (S [c])] = some (.lst (strL (spl [c] 0 [] a))) := by
  show (if ((S [c]).length == 0) = false ∧ (S a).length + 2 ≤ 16777216 then some (D.lst ((Txt.split (S a) (S [c])).map .str)) else none) = _
  rw [if_pos ⟨rfl, by rw [S_len]; omega⟩, SX.split_S (by simp) (by simp [hc])]
  unfold strL
  rw [List.map_map]; rfl
def frac (a : List Nat) : Option (Int × Int) := match spl [47] 0 [] a with
  | [_] => if numOK a = true then some (val a, 1) else none
  | [p, q] => if numOK p = true ∧ numOK q = true ∧ 2 ≤ val q ∧ Int.gcd (val p) (val q) = 1 then some (val p, val q) else none
  | _ => none
theorem fold_lt : ∀ (a : List Nat) (n m : Nat), (∀ c ∈ a, c ≤ 57) → n < 10 ^ m → a.foldl (fun acc c => acc * 10 + (c - 48)) n < 10 ^ (m + a.length)
  | [], n, m, _, h => by simpa using h
  | c :: r, n, m, hc, h => by
    have h0 := hc c List.mem_cons_self
    have := fold_lt r (n * 10 + (c - 48)) (m + 1) (fun x hx => hc x (List.mem_cons_of_mem _ hx)) (by rw [Nat.pow_succ]; omega)
    rw [List.length_cons, show m + (r.length + 1) = m + 1 + r.length by omega]
    exact this
theorem digitsVal_lt {a : List Nat} (h : a.all dig = true) : NumText.digitsVal a < 10 ^ a.length := by
  have := fold_lt a 0 0 (fun c hc => (digs_all h c hc).2) (by decide)
  rw [Nat.zero_add] at this
  exact this
theorem val_small {a : List Nat} (h : numOK a = true) : (val a).natAbs < 10 ^ 60 := by
  obtain ⟨h1, h2, h3, h4⟩ := numOK_of h
  have := Nat.lt_of_lt_of_le (digitsVal_lt h3) (Nat.pow_le_pow_right (by decide) h2)
  unfold val
  unfold body at this
  by_cases hc : a.head? = some 45
  · rw [if_pos hc] at this ⊢; rw [Int.natAbs_neg, Int.natAbs_natCast]; exact this
  · rw [if_neg hc] at this ⊢; rw [Int.natAbs_natCast]; exact this
theorem log_small {n : Nat} (h : n < 10 ^ 60) : n.log2 < 300 := by
  by_cases h0 : n = 0
  · subst h0; decide
  · exact (Nat.log2_lt h0).mpr (Nat.lt_trans h (by decide))
theorem gcd_same {x y : Int} (hy : 2 ≤ y) : ((x.fdiv (Int.gcd x y) == x) && (y.fdiv (Int.gcd x y) == y)) = decide (Int.gcd x y = 1) := by
  have hg : 0 < Int.gcd x y := Int.gcd_pos_of_ne_zero_right _ (by omega)
  by_cases h : Int.gcd x y = 1
  · rw [h]
    simp
  · rw [decide_eq_false h, Bool.and_eq_false_iff]
    refine .inr ?_
    have hd : (Int.gcd x y : Int) ∣ y := Int.gcd_dvd_right _ _
    obtain ⟨z, hz⟩ := hd
    have e : y.fdiv (Int.gcd x y) = z := by
      have := Int.mul_fdiv_cancel_left z (show (Int.gcd x y : Int) ≠ 0 by omega)
      rw [← hz] at this
      exact this
    rw [e]
    simp only [beq_eq_false_iff_ne, ne_eq]
    intro w
    have h1 : (Int.gcd x y : Int) * y = 1 * y := by rw [Int.one_mul, ← w]; rw [w]; rw [w] at hz; exact hz.symm
    have : (Int.gcd x y : Int) = 1 := Int.eq_of_mul_eq_mul_right (by omega) h1
    omega
theorem r_check (k : Nat) (s : Str) : run (tabOf dl) (k + 1) 3 [.val (.str s)] = .ret false .non [] := by
  rw [t3]
  simp [f_check_text, runFn, params, refsOf, outs, isiD]
theorem t14 (k : Nat) (as : List AV) : run (tabOf dl) (k + 1) 14 as = runFn (run (tabOf dl) k) f_law_fraction as := rfl
theorem eq_pair (x y u v : Int) : eqD (.tup [.int x, .int y]) (.tup [.int u, .int v]) = some (x == u && y == v) := by
  show (if SeqAt.shaped (.tuple [.int x, .int y]) = true ∧ SeqAt.shaped (.tuple [.int u, .int v]) = true then some (PyData.eqvAll [.int x, .int y] [.int u, .int v]) else none) = _
  rw [if_pos ⟨rfl, rfl⟩]
  show some ((x == u) && ((y == v) && true)) = _
  rw [Bool.and_true]
/-- what the check tells of parts -/
theorem isnum_comp (k : Nat) (s0 s2 : Slot) (l : List (List Nat)) (h : ∀ p ∈ l, T p) (hl : l.length ≤ 5000) : evE (run (tabOf dl) (k + 1)) [] (.comp (.call 2 (.lend 3 .nil)) false [3] (.own 1) .none) [s0, .own (.lst (strL l)), s2, .emp] =
    .ok (true, .lst (l.map fun p => .bl (numOK p))) [s0, .own (.lst (strL l)), s2, .emp] := by
  have hlen : (strL l).length = l.length := by unfold strL; rw [List.length_map]
  have := comp_pure (call := run (tabOf dl) (k + 1)) (refs := []) (elt := .call 2 (.lend 3 .nil)) (tp := false) (ts := [3]) (src := .own 1) (cond := .none) (w := .ow 1 ((strL l).length + 4096)) (l := strL l) (e := [s0, .own (.lst (strL l)), s2, .emp]) (e1 := [s0, .own (.lst (strL l)), s2, .emp])
    (f := fun d => match d with | .str s => some (.bl (numOK s.cps.toList)) | _ => none) rfl rfl (by show _ ≤ (strL l).length + 4096; omega) (by show (strL l).length + 4096 ≤ _; rw [hlen]; omega) (look_ow (by simp) (.inl rfl)) (fun d hd => by
      obtain ⟨p, hp, rfl⟩ := List.mem_map.mp hd
      refine ⟨[s0, .own (.lst (strL l)), s2, .val (.str (S p))], rfl, ?_⟩
      refine ⟨by simp only [evC], false, [s0, .own (.lst (strL l)), s2, .val (.str (S p))], ?_, rfl⟩
      have hn := r_num k p (h p hp)
      simp [doCall, ixs, AA.ix, List.filterMap_cons, fetch, hn, putBack, okLend, flat])
  rw [this]
  congr 2
  unfold strL
  rw [List.filterMap_map]
  congr 1
  show List.filterMap (some ∘ fun p => D.bl (numOK p)) l = _
  rw [List.filterMap_eq_map]
theorem pair_at0 (d e : D) : idxD (.tup [d, e]) (.int 0) = some d := rfl
theorem pair_at1 (d e : D) : idxD (.tup [d, e]) (.int 1) = some e := rfl
theorem lst_at0 (d e : D) : idxD (.lst [d, e]) (.int 0) = some d := rfl
theorem lst_at1 (d e : D) : idxD (.lst [d, e]) (.int 1) = some e := rfl
theorem asB_map (l : List (List Nat)) : asBools (l.map fun p => D.bl (numOK p)) = some (l.map numOK) := by
  induction l with
  | nil => rfl
  | cons p r ih => show (asBools (r.map fun p => D.bl (numOK p))).map (numOK p :: ·) = _; rw [ih]; rfl
def fracOut (a : List Nat) : Out := match frac a with
  | some (x, y) => .ret false (.tup [.int x, .int y]) []
  | none => .exc .NoText []
theorem r_read (k : Nat) (a : List Nat) (h : T a) : run (tabOf dl) (k + 3) 4 [.val (.str (S a))] = fracOut a := by
  rw [t4]
  have hl := h.len
  have hT : ∀ p ∈ spl [47] 0 [] a, T p := fun p hp => h.part hp
  have hlen := spl_len 47 a []
  have sp := split_at 47 (by decide) a hl
  have hs : (S [47]) = ("/" : Str) := rfl
  rw [hs] at sp
  have cm := isnum_comp (k + 1) (.val (.str (S a))) .emp (spl [47] 0 [] a) hT (by omega)
  generalize hL : spl [47] 0 [] a = L at hT hlen sp cm
  have hll : (strL L).length = L.length := by unfold strL; rw [List.length_map]
  simp only [f_read_fraction, runFn, params, refsOf, List.length_cons, List.length_nil, List.replicate, Option.map, List.cons_append, List.nil_append]
  show (match evSs _ _ [] [.val (.str (S a)), .emp, .emp, .emp] with | .next e => _ | .ret fr d e => _ | .exc x e => _ | .bad => _) = _
  have c1 := r_check (k + 1) (S a)
  by_cases h1 : 2 < L.length
  · have hf : frac a = none := by
      unfold frac
      rw [hL]
      match L, h1 with
      | _ :: _ :: _ :: _, _ => rfl
    unfold fracOut
    rw [hf]
    have e1 : (2 : Int) < ((L.length : Nat) : Int) := by omega
    simp [doCall, ixs, AA.ix, List.filterMap_cons, fetch, c1, putBack, okLend, flat, rcv, sp, biD, biLen, hll, e1, outs]
  · have e1 : ¬ (2 : Int) < ((L.length : Nat) : Int) := by omega
    have pre : ∀ (b : Bool), (L.map numOK).all id = b → True := fun _ _ => trivial
    by_cases h2 : (L.map numOK).all id = true
    · match L, hL, hT, sp, cm, hll, h1, e1, h2 with
      | [], hL, _, _, _, _, _, _, _ => exact absurd hL (spl_ne 47 a [])
      | [p], hL, hT, sp, cm, hll, h1, e1, h2 =>
        have hp : numOK p = true := by simpa using h2
        have ep := spl_one hL
        subst ep
        have hf : frac p = some (val p, 1) := by unfold frac; rw [hL]; exact if_pos hp
        unfold fracOut
        rw [hf]
        have hv := int_val hp (by omega)
        have cm' : evE (run (tabOf dl) (k + 1 + 1)) [] (.comp (.call 2 (.lend 3 .nil)) false [3] (.own 1) .none) [.val (.str (S p)), .own (.lst [.str (S p)]), .emp, .emp] = .ok (true, .lst [.bl (numOK p)]) [.val (.str (S p)), .own (.lst [.str (S p)]), .emp, .emp] := cm
        have sp' : mthD .split (.str (S p)) [.str "/"] = some (.lst [.str (S p)]) := sp
        rw [hp] at cm'
        simp [doCall, ixs, AA.ix, List.filterMap_cons, fetch, c1, putBack, okLend, flat, rcv, sp', biD, biLen, cm', biAll, asBools, biInt, hv, S_len, (show p.length ≤ 640 by have := (numOK_of hp).2.1; have : p.length ≤ (body p).length + 1 := (by unfold body; split; (rw [List.length_drop]; omega); omega); omega), outs]
      | [p, q], hL, hT, sp, cm, hll, h1, e1, h2 =>
        have hpq : numOK p = true ∧ numOK q = true := by simpa using h2
        obtain ⟨hp, hq⟩ := hpq
        have lp : ∀ {z : List Nat}, numOK z = true → z.length ≤ 61 := fun {z} hz => by
          have := (numOK_of hz).2.1
          have : z.length ≤ (body z).length + 1 := by unfold body; split; (rw [List.length_drop]; omega); omega
          omega
        have vp := int_val hp (by have := lp hp; omega)
        have vq := int_val hq (by have := lp hq; omega)
        have cm' : evE (run (tabOf dl) (k + 1 + 1)) [] (.comp (.call 2 (.lend 3 .nil)) false [3] (.own 1) .none) [.val (.str (S a)), .own (.lst [.str (S p), .str (S q)]), .emp, .emp] = .ok (true, .lst [.bl true, .bl true]) [.val (.str (S a)), .own (.lst [.str (S p), .str (S q)]), .emp, .emp] := by
          have := cm
          rw [show ([p, q].map fun p => D.bl (numOK p)) = [.bl true, .bl true] from by simp [hp, hq]] at this
          exact this
        have sp' : mthD .split (.str (S a)) [.str "/"] = some (.lst [.str (S p), .str (S q)]) := sp
        by_cases h3 : 2 ≤ val q
        · have fr := r_fraction (k := k) (val p) (val q) h3 (by have := log_small (val_small hq); omega)
          have ge := gcd_same (x := val p) h3
          have e3 : ¬ val q < 2 := by omega
          by_cases h4 : Int.gcd (val p) (val q) = 1
          · have hf : frac a = some (val p, val q) := by unfold frac; rw [hL]; exact if_pos ⟨hp, hq, h3, h4⟩
            unfold fracOut
            rw [hf]
            rw [decide_eq_true h4] at ge
            simp [doCall, ixs, AA.ix, List.filterMap_cons, fetch, c1, putBack, okLend, flat, flat.flats, rcv, sp', biD, biLen, cm', biAll, asBools, biInt, vp, vq, S_len, (show p.length ≤ 640 by have := lp hp; omega), (show q.length ≤ 640 by have := lp hq; omega), outs, lst_at0, lst_at1, pair_at0, pair_at1, e3, fr, eq_pair, ge]
          · have hf : frac a = none := by unfold frac; rw [hL]; exact if_neg fun z => h4 z.2.2.2
            unfold fracOut
            rw [hf]
            rw [decide_eq_false h4] at ge
            simp [doCall, ixs, AA.ix, List.filterMap_cons, fetch, c1, putBack, okLend, flat, flat.flats, rcv, sp', biD, biLen, cm', biAll, asBools, biInt, vp, vq, S_len, (show p.length ≤ 640 by have := lp hp; omega), (show q.length ≤ 640 by have := lp hq; omega), outs, lst_at0, lst_at1, pair_at0, pair_at1, e3, fr, eq_pair, ge]
        · have hf : frac a = none := by unfold frac; rw [hL]; exact if_neg fun z => h3 z.2.2.1
          unfold fracOut
          rw [hf]
          have e3 : val q < 2 := by omega
          simp [doCall, ixs, AA.ix, List.filterMap_cons, fetch, c1, putBack, okLend, flat, flat.flats, rcv, sp', biD, biLen, cm', biAll, asBools, biInt, vp, vq, S_len, (show p.length ≤ 640 by have := lp hp; omega), (show q.length ≤ 640 by have := lp hq; omega), outs, lst_at0, lst_at1, pair_at0, pair_at1, e3]
      | _ :: _ :: _ :: _, _, _, _, _, _, h1, _, _ => exact absurd h1 (by simp)
    · have h2 : (L.map numOK).all id = false := by simpa using h2
      have hf : frac a = none := by
        unfold frac
        rw [hL]
        match L, hL, h2 with
        | [], _, _ => rfl
        | [p], hL, h2 =>
          have ep := spl_one hL
          subst ep
          have : numOK p = false := by simpa using h2
          exact if_neg (by rw [this]; exact Bool.false_ne_true)
        | [p, q], _, h2 => exact if_neg fun z => by simp [z.1, z.2.1] at h2
        | _ :: _ :: _ :: _, _, _ => rfl
      unfold fracOut
      rw [hf]
      simp [doCall, ixs, AA.ix, List.filterMap_cons, fetch, c1, putBack, okLend, flat, rcv, sp, biD, biLen, hll, e1, cm, biAll, asB_map, h2, outs]
end L91

namespace L91
open Vm PySem TL
open SX (S S_len S_beq_eq)
/-- None in a list of what is none or not -/
theorem in_none {α : Type} (f : α → D) (g : α → PyData) (b : α → Bool) (hf : ∀ x, py (f x) = some (g x)) (hl : ∀ x, PyData.canLay0 (g x) = true) (hd : ∀ x, PyData.depth (g x) ≤ 60) (hb : ∀ x, PyData.eqv (g x) .none = b x) (l : List α) : inD .non (.lst (l.map f)) = some (l.any b) := by
  have h1 : py.pys (l.map f) = some (l.map g) := by
    induction l with
    | nil => rfl
    | cons x r ih => rw [List.map_cons, py.pys, hf, ih]; rfl
  have h2 : PyData.canLayAll0 (l.map g) = true ∧ PyData.depthAll (l.map g) ≤ 60 := by
    clear h1
    induction l with
    | nil => exact ⟨rfl, Nat.zero_le _⟩
    | cons x r ih =>
      refine ⟨?_, ?_⟩
      · show (PyData.canLay0 (g x) && PyData.canLayAll0 (r.map g)) = true
        rw [hl, ih.1]; rfl
      · show max (PyData.depth (g x)) (PyData.depthAll (r.map g)) ≤ 60
        have := hd x
        have := ih.2
        omega
  have s : SeqAt.shaped (.list (l.map g)) = true := by
    show (PyData.canLayAll0 (l.map g) && decide (PyData.depthAll (l.map g) + 1 ≤ 64)) = true
    rw [h2.1, decide_eq_true (by have := h2.2; omega)]; rfl
  unfold inD
  dsimp only
  rw [h1]
  show (if SeqAt.shaped .none = true ∧ SeqAt.shaped (.list (l.map g)) = true then some ((l.map g).any fun z => PyData.eqv z .none) else none) = _
  rw [if_pos ⟨rfl, s⟩, List.any_map]
  congr 1
  congr 1
  funext x
  exact hb x
def numD (p : List Nat) : D := if numOK p = true then .int (val p) else .non
def numP (p : List Nat) : PyData := if numOK p = true then .int (val p) else .none
theorem in_nums (l : List (List Nat)) : inD .non (.lst (l.map numD)) = some (l.any fun p => !numOK p) := by
  refine in_none numD numP _ (fun p => ?_) (fun p => ?_) (fun p => ?_) (fun p => ?_) l
  · unfold numD numP; split <;> rfl
  · unfold numP; split <;> rfl
  · unfold numP; split <;> exact Nat.zero_le _
  · unfold numP
    cases h : numOK p <;> rfl
def fracD : Option (Int × Int) → D
  | some (x, y) => .tup [.int x, .int y]
  | none => .non
def fracP : Option (Int × Int) → PyData
  | some (x, y) => .tuple [.int x, .int y]
  | none => .none
theorem in_fracs (l : List (Option (Int × Int))) : inD .non (.lst (l.map fracD)) = some (l.any fun p => p.isNone) := by
  refine in_none fracD fracP _ (fun p => ?_) (fun p => ?_) (fun p => ?_) (fun p => ?_) l
  · cases p <;> rfl
  · cases p <;> rfl
  · cases p with
    | none => exact Nat.zero_le _
    | some x => show (max 0 (max 0 0)) + 1 ≤ 60; decide
  · cases p <;> rfl
theorem lnum_comp (k : Nat) (a : List Nat) (s1 : Slot) (h : T a) : evE (run (tabOf dl) (k + 1)) [] (.comp (.call 12 (.lend 2 .nil)) false [2] (.ex (.mth .split (.var 0) (.cons (.con (.str "/")) .nil))) .none) [.val (.str (S a)), s1, .emp] =
    .ok (true, .lst ((spl [47] 0 [] a).map numD)) [.val (.str (S a)), s1, .emp] := by
  have hl := h.len
  have hlen := spl_len 47 a []
  have sp := split_at 47 (by decide) a hl
  have hs : (S [47]) = ("/" : Str) := rfl
  rw [hs] at sp
  have hll : (strL (spl [47] 0 [] a)).length = (spl [47] 0 [] a).length := by unfold strL; rw [List.length_map]
  have := comp_pure (call := run (tabOf dl) (k + 1)) (refs := []) (elt := .call 12 (.lend 2 .nil)) (tp := false) (ts := [2]) (src := .ex (.mth .split (.var 0) (.cons (.con (.str "/")) .nil))) (cond := .none) (w := .st (strL (spl [47] 0 [] a))) (l := strL (spl [47] 0 [] a)) (e := [.val (.str (S a)), s1, .emp]) (e1 := [.val (.str (S a)), s1, .emp])
    (f := fun d => match d with | .str s => some (numD s.cps.toList) | _ => none) (by simp [evSrc, rcv, sp, itemsD]) rfl (Nat.le_refl _) (by show (strL _).length ≤ _; rw [hll]; omega) (fun n e _ => rfl) (fun d hd => by
      obtain ⟨p, hp, rfl⟩ := List.mem_map.mp hd
      refine ⟨[.val (.str (S a)), s1, .val (.str (S p))], rfl, ?_⟩
      refine ⟨by simp only [evC], false, [.val (.str (S a)), s1, .val (.str (S p))], ?_, rfl⟩
      have hn := r_lnum k p (h.part hp)
      have e : (if numOK p = true then D.int (val p) else D.non) = numD p := rfl
      rw [e] at hn
      simp [doCall, ixs, AA.ix, List.filterMap_cons, fetch, hn, putBack, frzA, frzS])
  rw [this]
  congr 2
  unfold strL
  rw [List.filterMap_map]
  congr 1
  show List.filterMap (some ∘ numD) _ = _
  rw [List.filterMap_eq_map]
theorem r_lfrac (k : Nat) (a : List Nat) (h : T a) : run (tabOf dl) (k + 2) 14 [.val (.str (S a))] = .ret false (fracD (frac a)) [] := by
  rw [t14]
  have cm0 := lnum_comp k a .emp h
  simp only [f_law_fraction, runFn, params, refsOf, List.length_cons, List.length_nil, List.replicate, Option.map, List.cons_append, List.nil_append]
  show (match evSs _ _ [] [.val (.str (S a)), .emp, .emp] with | .next e => _ | .ret fr d e => _ | .exc x e => _ | .bad => _) = _
  have hi0 := in_nums (spl [47] 0 [] a)
  unfold frac
  match hL : spl [47] 0 [] a, cm0, hi0 with
  | [], _, _ => exact absurd hL (spl_ne 47 a [])
  | [p], cm, hi =>
    have ep := spl_one hL
    subst ep
    dsimp only
    have z0 : idxD (.lst [numD p]) (.int 0) = some (numD p) := rfl
    cases hp : numOK p with
    | true =>
      have e1 : numD p = .int (val p) := if_pos hp
      rw [List.map_cons, List.map_nil, e1] at cm
      rw [e1] at z0
      simp [cm, biD, biLen, z0, isNon, outs, fracD]
    | false =>
      have e1 : numD p = .non := if_neg (by rw [hp]; exact Bool.false_ne_true)
      rw [List.map_cons, List.map_nil, e1] at cm hi
      rw [e1] at z0
      rw [show ([p].any fun p => !numOK p) = true from by simp [hp]] at hi
      simp [cm, biD, biLen, z0, isNon, outs, fracD, hi]
  | [p, q], cm, hi =>
    dsimp only
    by_cases hpq : numOK p = true ∧ numOK q = true
    · obtain ⟨hp, hq⟩ := hpq
      have e1 : numD p = .int (val p) := if_pos hp
      have e2 : numD q = .int (val q) := if_pos hq
      rw [List.map_cons, List.map_cons, List.map_nil, e1, e2] at cm hi
      rw [show ([p, q].any fun p => !numOK p) = false from by simp [hp, hq]] at hi
      by_cases h3 : 2 ≤ val q
      · have e3 : ¬ val q < 2 := by omega
        have gc := r_common k (val p) (val q)
        by_cases h4 : Int.gcd (val p) (val q) = 1
        · rw [if_pos ⟨hp, hq, h3, h4⟩]
          rw [h4] at gc
          simp [cm, biD, biLen, lst_at0, lst_at1, outs, fracD, hi, e3, doCall, ixs, AA.ix, List.filterMap_cons, fetch, gc, putBack, okLend, flat]
        · rw [if_neg fun z => h4 z.2.2.2]
          have h5 : ¬ ((Int.gcd (val p) (val q) : Int) = 1) := by omega
          simp [cm, biD, biLen, lst_at0, lst_at1, outs, fracD, hi, e3, doCall, ixs, AA.ix, List.filterMap_cons, fetch, gc, putBack, okLend, flat, h5, h4]
      · rw [if_neg fun z => h3 z.2.2.1]
        have e3 : val q < 2 := by omega
        simp [cm, biD, biLen, lst_at0, lst_at1, outs, fracD, hi, e3]
    · rw [if_neg fun z => hpq ⟨z.1, z.2.1⟩]
      rw [show ([p, q].any fun p => !numOK p) = true from by
        rcases Classical.not_and_iff_not_or_not.mp hpq with z | z
        · simp [z]
        · simp [z]] at hi
      simp [cm, biD, biLen, outs, fracD]
      simp only [List.map_cons, List.map_nil] at hi
      simp [hi, outs]
  | p :: q :: r :: l, cm, hi =>
    dsimp only
    have hlen : ((p :: q :: r :: l).map numD).length = l.length + 3 := by simp
    have e0 : ¬ (((l.length : Int) + 1 + 1 + 1) = 1) := by omega
    have e1 : ¬ (((l.length : Int) + 1 + 1 + 1) = 2) := by omega
    simp only [List.map_cons] at cm hi
    cases hn : ((p :: q :: r :: l).any fun p => !numOK p) <;> (rw [hn] at hi; simp [cm, biD, biLen, hi, outs, fracD, e0, e1])
/-! ### spots -/
theorem t6 (k : Nat) (as : List AV) : run (tabOf dl) (k + 1) 6 as = runFn (run (tabOf dl) k) f_read_point as := rfl
theorem t15 (k : Nat) (as : List AV) : run (tabOf dl) (k + 1) 15 as = runFn (run (tabOf dl) k) f_law_point as := rfl
def spot (a : List Nat) : Option ((Int × Int) × (Int × Int)) := match spl [44] 0 [] a with
  | [p, q] => match frac p, frac q with
    | some x, some y => some (x, y)
    | _, _ => none
  | _ => none
def spotD : Option ((Int × Int) × (Int × Int)) → D
  | some (x, y) => .tup [fracD (some x), fracD (some y)]
  | none => .non
def spotOut (a : List Nat) : Out := match spot a with
  | some x => .ret false (spotD (some x)) []
  | none => .exc .NoText []
theorem r_rpoint (k : Nat) (a : List Nat) (h : T a) : run (tabOf dl) (k + 4) 6 [.val (.str (S a))] = spotOut a := by
  rw [t6]
  have hl := h.len
  have hlen := spl_len 44 a []
  have sp0 := split_at 44 (by decide) a hl
  have hs : (S [44]) = ("," : Str) := rfl
  rw [hs] at sp0
  have c1 := r_check (k + 2) (S a)
  have hT0 : ∀ p ∈ spl [44] 0 [] a, T p := fun p hp => h.part hp
  simp only [f_read_point, runFn, params, refsOf, List.length_cons, List.length_nil, List.replicate, Option.map, List.cons_append, List.nil_append]
  show (match evSs _ _ [] [.val (.str (S a)), .emp] with | .next e => _ | .ret fr d e => _ | .exc x e => _ | .bad => _) = _
  unfold spotOut spot
  match hL : spl [44] 0 [] a, sp0, hT0 with
  | [], _, _ => exact absurd hL (spl_ne 44 a [])
  | [p], sp, hT =>
    dsimp only
    have sp : mthD .split (.str (S a)) [.str ","] = some (.lst [.str (S p)]) := sp
    simp [doCall, ixs, AA.ix, List.filterMap_cons, fetch, c1, putBack, okLend, flat, rcv, sp, biD, biLen, outs]
  | [p, q], sp, hT =>
    dsimp only
    have sp : mthD .split (.str (S a)) [.str ","] = some (.lst [.str (S p), .str (S q)]) := sp
    have fp := r_read k p (hT p (by simp))
    have fq := r_read k q (hT q (by simp))
    unfold fracOut at fp fq
    cases h1 : frac p with
    | none =>
      rw [h1] at fp
      simp [doCall, ixs, AA.ix, List.filterMap_cons, fetch, c1, putBack, okLend, flat, rcv, sp, biD, biLen, outs, lst_at0, lst_at1, fp]
    | some x =>
      rw [h1] at fp
      cases h2 : frac q with
      | none =>
        rw [h2] at fq
        simp [doCall, ixs, AA.ix, List.filterMap_cons, fetch, c1, putBack, okLend, flat, flat.flats, rcv, sp, biD, biLen, outs, lst_at0, lst_at1, fp, fq]
      | some y =>
        rw [h2] at fq
        simp [doCall, ixs, AA.ix, List.filterMap_cons, fetch, c1, putBack, okLend, flat, flat.flats, rcv, sp, biD, biLen, outs, lst_at0, lst_at1, fp, fq, spotD, fracD]
  | p :: q :: r :: l, sp, hT =>
    dsimp only
    have e0 : ¬ (((l.length : Int) + 1 + 1 + 1) = 2) := by omega
    have hll : (strL (p :: q :: r :: l)) = .str (S p) :: .str (S q) :: .str (S r) :: strL l := rfl
    have hl2 : (strL l).length = l.length := by unfold strL; rw [List.length_map]
    rw [hll] at sp
    simp [doCall, ixs, AA.ix, List.filterMap_cons, fetch, c1, putBack, okLend, flat, rcv, sp, biD, biLen, outs, hl2, e0]
theorem lfrac_comp (k : Nat) (a : List Nat) (s1 : Slot) (h : T a) : evE (run (tabOf dl) (k + 2)) [] (.comp (.call 14 (.lend 2 .nil)) false [2] (.ex (.mth .split (.var 0) (.cons (.con (.str ",")) .nil))) .none) [.val (.str (S a)), s1, .emp] =
    .ok (true, .lst ((spl [44] 0 [] a).map fun p => fracD (frac p))) [.val (.str (S a)), s1, .emp] := by
  have hl := h.len
  have hlen := spl_len 44 a []
  have sp := split_at 44 (by decide) a hl
  have hs : (S [44]) = ("," : Str) := rfl
  rw [hs] at sp
  have hll : (strL (spl [44] 0 [] a)).length = (spl [44] 0 [] a).length := by unfold strL; rw [List.length_map]
  have := comp_pure (call := run (tabOf dl) (k + 2)) (refs := []) (elt := .call 14 (.lend 2 .nil)) (tp := false) (ts := [2]) (src := .ex (.mth .split (.var 0) (.cons (.con (.str ",")) .nil))) (cond := .none) (w := .st (strL (spl [44] 0 [] a))) (l := strL (spl [44] 0 [] a)) (e := [.val (.str (S a)), s1, .emp]) (e1 := [.val (.str (S a)), s1, .emp])
    (f := fun d => match d with | .str s => some (fracD (frac s.cps.toList)) | _ => none) (by simp [evSrc, rcv, sp, itemsD]) rfl (Nat.le_refl _) (by show (strL _).length ≤ _; rw [hll]; omega) (fun n e _ => rfl) (fun d hd => by
      obtain ⟨p, hp, rfl⟩ := List.mem_map.mp hd
      refine ⟨[.val (.str (S a)), s1, .val (.str (S p))], rfl, ?_⟩
      refine ⟨by simp only [evC], false, [.val (.str (S a)), s1, .val (.str (S p))], ?_, rfl⟩
      have hn := r_lfrac k p (h.part hp)
      simp [doCall, ixs, AA.ix, List.filterMap_cons, fetch, hn, putBack, frzA, frzS])
  rw [this]
  congr 2
  unfold strL
  rw [List.filterMap_map]
  congr 1
  show List.filterMap (some ∘ fun p => fracD (frac p)) _ = _
  rw [List.filterMap_eq_map]
theorem r_lpoint (k : Nat) (a : List Nat) (h : T a) : run (tabOf dl) (k + 3) 15 [.val (.str (S a))] = .ret false (spotD (spot a)) [] := by
  rw [t15]
  have cm0 := lfrac_comp k a .emp h
  simp only [f_law_point, runFn, params, refsOf, List.length_cons, List.length_nil, List.replicate, Option.map, List.cons_append, List.nil_append]
  show (match evSs _ _ [] [.val (.str (S a)), .emp, .emp] with | .next e => _ | .ret fr d e => _ | .exc x e => _ | .bad => _) = _
  have hi0 := in_fracs ((spl [44] 0 [] a).map frac)
  rw [List.map_map] at hi0
  unfold spot
  match hL : spl [44] 0 [] a, cm0, hi0 with
  | [], _, _ => exact absurd hL (spl_ne 44 a [])
  | [p], cm, hi =>
    dsimp only
    simp only [List.map_cons, List.map_nil, Function.comp] at cm hi
    cases h1 : frac p with
    | none => rw [h1] at cm hi; simp only [List.any_cons, List.any_nil, Option.isNone] at hi; simp [cm, biD, biLen, hi, outs, spotD]
    | some x => rw [h1] at cm hi; simp only [List.any_cons, List.any_nil, Option.isNone] at hi; simp [cm, biD, biLen, hi, outs, spotD]
  | [p, q], cm, hi =>
    dsimp only
    simp only [List.map_cons, List.map_nil, Function.comp] at cm hi
    cases h1 : frac p with
    | none => rw [h1] at cm hi; simp only [List.any_cons, List.any_nil, Option.isNone] at hi; simp [cm, biD, biLen, hi, outs, spotD]
    | some x =>
      cases h2 : frac q with
      | none => rw [h1, h2] at cm hi; simp only [List.any_cons, List.any_nil, Option.isNone] at hi; simp [cm, biD, biLen, hi, outs, spotD]
      | some y => rw [h1, h2] at cm hi; simp only [List.any_cons, List.any_nil, Option.isNone] at hi; simp [cm, biD, biLen, hi, outs, spotD, lst_at0, lst_at1]
  | p :: q :: r :: l, cm, hi =>
    dsimp only
    have e1 : ¬ (((l.length : Int) + 1 + 1 + 1) = 2) := by omega
    have hi : inD .non (.lst ((p :: q :: r :: l).map fun p => fracD (frac p))) = some (((p :: q :: r :: l).map frac).any fun p => p.isNone) := hi
    cases hn : (((p :: q :: r :: l).map frac).any fun p => p.isNone) <;> (rw [hn] at hi; simp only [List.map_cons] at cm hi; simp [cm, biD, biLen, hi, outs, spotD, e1])
end L91

namespace L91
open Vm PySem TL
open SX (S S_len S_beq_eq)
theorem ofNat_toNat : ∀ c : Nat, c ≤ 57 → (Char.ofNat c).toNat = c := by
  intro c h
  have : c.isValidChar := by left; omega
  unfold Char.ofNat
  rw [dif_pos this]
  show (Char.ofNatAux c this).val.toNat = c
  unfold Char.ofNatAux
  rfl
theorem numL_digs {b : List Nat} (h1 : b ≠ []) (h2 : b.all dig = true) (h3 : b.head? = some 48 → b = [48]) : numL (NumText.digitsVal b) = b := by
  have had := digs_all h2
  have key := PySem.NumText.toDigits_digitsVal (b.length - 1) b (by have : 0 < b.length := List.length_pos_iff.mpr h1; omega) had (by
    cases b with
    | nil => exact absurd rfl h1
    | cons c r =>
      by_cases hc : c = 48
      · subst hc
        have := h3 rfl
        rw [this]; exact .inl rfl
      · have := had.head
        exact .inr ⟨c, r, rfl, by omega⟩)
  unfold numL
  rw [key, List.map_map]
  have : ∀ l : List Nat, (∀ c ∈ l, c ≤ 57) → l.map (Char.toNat ∘ Char.ofNat) = l := by
    intro l
    induction l with
    | nil => intro _; rfl
    | cons c r ih =>
      intro h
      rw [List.map_cons, ih fun x hx => h x (List.mem_cons_of_mem _ hx)]
      show (Char.ofNat c).toNat :: r = _
      rw [ofNat_toNat c (h c List.mem_cons_self)]
  exact this b fun c hc => (had c hc).2
theorem num_neg (n : Nat) (h : 0 < n) : Str.ofString (toString (-(n : Int))) = S (45 :: numL n) := by
  obtain ⟨m, rfl⟩ : ∃ m, n = m + 1 := ⟨n - 1, by omega⟩
  have e1 : (toString (-((m + 1 : Nat) : Int))) = "-" ++ Nat.repr (m + 1) := rfl
  rw [e1, Str.ofString_eq_toList, String.toList_append, Nat.toList_repr]
  rfl
theorem show_val {a : List Nat} (h : numOK a = true) : Str.ofString (toString (val a)) = S a := by
  obtain ⟨h1, h2, h3, h4⟩ := numOK_of h
  have hne : body a ≠ [] := fun z => by rw [z] at h1; simp at h1
  unfold val
  by_cases hc : a.head? = some 45
  · rw [if_pos hc]
    have hb : body a = a.drop 1 := by unfold body; rw [if_pos hc]
    rw [hb] at h1 h3 h4 hne
    obtain ⟨r, rfl⟩ : ∃ r, a = 45 :: r := by
      cases a with
      | nil => cases hc
      | cons c r => simp at hc; exact ⟨r, by rw [hc]⟩
    have hr : (List.drop 1 (45 :: r)) = r := rfl
    rw [hr] at h1 h3 h4 hne ⊢
    have h5 : ¬ r.head? = some 48 := fun z => by have := h4 z; simp at this
    have hn := numL_digs hne h3 (fun z => absurd z h5)
    have hp : 0 < NumText.digitsVal r := by
      cases r with
      | nil => exact absurd rfl hne
      | cons c r =>
        have := (digs_all h3).head
        have hc : c ≠ 48 := fun z => h5 (by rw [z]; rfl)
        exact PySem.NumText.digitsVal_pos (by omega)
    rw [num_neg _ hp, hn]
  · rw [if_neg hc]
    have hb : body a = a := by unfold body; rw [if_neg hc]
    rw [hb] at h1 h3 h4 hne
    rw [SX.num_S, numL_digs hne h3 h4]
theorem str_val {a : List Nat} (h : numOK a = true) : biStr [.int (val a)] = some (.str (S a)) := by
  show (if (val a).natAbs.log2 < 1920 then some (D.str (Str.ofString (toString (val a)))) else none) = _
  rw [if_pos (by have := log_small (val_small h); omega), show_val h]
theorem str_one : biStr [.int 1] = some (.str "1") := by
  show (if (1 : Int).natAbs.log2 < 1920 then some (D.str (Str.ofString (toString (1 : Int)))) else none) = _
  rw [if_pos (by decide)]; rfl
/-! ### printing -/
theorem t5 (k : Nat) (as : List AV) : run (tabOf dl) (k + 1) 5 as = runFn (run (tabOf dl) k) f_show_fraction as := rfl
theorem t7 (k : Nat) (as : List AV) : run (tabOf dl) (k + 1) 7 as = runFn (run (tabOf dl) k) f_show_point as := rfl
theorem t16 (k : Nat) (as : List AV) : run (tabOf dl) (k + 1) 16 as = runFn (run (tabOf dl) k) f_law_only as := rfl
theorem t17 (k : Nat) (as : List AV) : run (tabOf dl) (k + 1) 17 as = runFn (run (tabOf dl) k) f_law_whole as := rfl
theorem t18 (k : Nat) (as : List AV) : run (tabOf dl) (k + 1) 18 as = runFn (run (tabOf dl) k) f_law_is_fraction as := rfl
theorem t19 (k : Nat) (as : List AV) : run (tabOf dl) (k + 1) 19 as = runFn (run (tabOf dl) k) f_law_is_spot as := rfl
theorem t20 (k : Nat) (as : List AV) : run (tabOf dl) (k + 1) 20 as = runFn (run (tabOf dl) k) f_law_tried as := rfl
/-- what a fraction's text is -/
theorem frac_of {a : List Nat} {x y : Int} (h : frac a = some (x, y)) : (numOK a = true ∧ x = val a ∧ y = 1) ∨ ∃ p q, a = p ++ 47 :: q ∧ numOK p = true ∧ numOK q = true ∧ 2 ≤ y ∧ Int.gcd x y = 1 ∧ x = val p ∧ y = val q := by
  unfold frac at h
  match hL : spl [47] 0 [] a, h with
  | [], h => cases h
  | [p], h =>
    dsimp only at h
    have ep := spl_one hL
    subst ep
    split at h
    · rename_i hp
      cases h
      exact .inl ⟨hp, rfl, rfl⟩
    · cases h
  | [p, q], h =>
    dsimp only at h
    split at h
    · rename_i hp
      cases h
      exact .inr ⟨p, q, spl_two hL, hp.1, hp.2.1, hp.2.2.1, hp.2.2.2, rfl, rfl⟩
    · cases h
  | _ :: _ :: _ :: _, h => cases h
theorem r_show (k : Nat) (a : List Nat) (ht : T a) {x y : Int} (h : frac a = some (x, y)) : run (tabOf dl) (k + 1) 5 [.val (fracD (some (x, y)))] = .ret false (.str (S a)) [] := by
  rw [t5]
  rcases frac_of h with ⟨h1, rfl, rfl⟩ | ⟨p, q, rfl, h1, h2, h3, _, rfl, rfl⟩
  · have hs := str_val h1
    simp [f_show_fraction, runFn, params, refsOf, outs, fracD, pair_at0, pair_at1, biD, hs]
  · have hp := str_val h1
    have hq := str_val h2
    have h4 : ¬ val q = 1 := by omega
    have hl := ht.len
    rw [List.length_append, List.length_cons] at hl
    have e1 : (S p) ++ ("/" : Str) = S (p ++ [47]) := SX.S_cat p [47]
    have e2 : (S (p ++ [47])) ++ (S q) = S (p ++ 47 :: q) := by rw [SX.S_cat, List.append_assoc]; rfl
    have l1 : (S p).length + ("/" : Str).length ≤ 16777216 := by rw [S_len]; show p.length + 1 ≤ _; omega
    have l2 : (S (p ++ [47])).length + (S q).length ≤ 16777216 := by rw [S_len, S_len, List.length_append]; show p.length + 1 + q.length ≤ _; omega
    simp [f_show_fraction, runFn, params, refsOf, outs, fracD, pair_at0, pair_at1, biD, hp, hq, h4]
    rw [if_pos l1]
    simp [e1]
    rw [if_pos l2, e2]
theorem spot_of {a : List Nat} {x y : Int × Int} (h : spot a = some (x, y)) : ∃ p q, a = p ++ 44 :: q ∧ frac p = some x ∧ frac q = some y ∧ p ∈ spl [44] 0 [] a ∧ q ∈ spl [44] 0 [] a := by
  unfold spot at h
  match hL : spl [44] 0 [] a, h with
  | [], h => cases h
  | [p], h => cases h
  | [p, q], h =>
    dsimp only at h
    cases h1 : frac p with
    | none => rw [h1] at h; cases h
    | some x' =>
      cases h2 : frac q with
      | none => rw [h1, h2] at h; cases h
      | some y' => rw [h1, h2] at h; cases h; exact ⟨p, q, spl_two hL, h1, h2, by simp, by simp⟩
  | _ :: _ :: _ :: _, h => cases h
theorem r_show2 (k : Nat) (a : List Nat) (ht : T a) {x y : Int × Int} (h : spot a = some (x, y)) : run (tabOf dl) (k + 2) 7 [.val (spotD (some (x, y)))] = .ret false (.str (S a)) [] := by
  rw [t7]
  obtain ⟨p, q, e, h1, h2, m1, m2⟩ := spot_of h
  have hp := r_show k p (ht.part m1) (x := x.1) (y := x.2) h1
  have hq := r_show k q (ht.part m2) (x := y.1) (y := y.2) h2
  have hl := ht.len
  subst e
  rw [List.length_append, List.length_cons] at hl
  have e1 : (S p) ++ ("," : Str) = S (p ++ [44]) := SX.S_cat p [44]
  have e2 : (S (p ++ [44])) ++ (S q) = S (p ++ 44 :: q) := by rw [SX.S_cat, List.append_assoc]; rfl
  have l1 : (S p).length + ("," : Str).length ≤ 16777216 := by rw [S_len]; show p.length + 1 ≤ _; omega
  have l2 : (S (p ++ [44])).length + (S q).length ≤ 16777216 := by rw [S_len, S_len, List.length_append]; show p.length + 1 + q.length ≤ _; omega
  have g1 : fracD (some x) = .tup [.int x.1, .int x.2] := rfl
  have g2 : fracD (some y) = .tup [.int y.1, .int y.2] := rfl
  have hp : run (tabOf dl) (k + 1) 5 [.val (fracD (some x))] = .ret false (.str (S p)) [] := hp
  have hq : run (tabOf dl) (k + 1) 5 [.val (fracD (some y))] = .ret false (.str (S q)) [] := hq
  simp [f_show_point, runFn, params, refsOf, outs, spotD, pair_at0, pair_at1, doCall, ixs, AA.ix, List.filterMap_cons, fetch, hp, hq, putBack, okLend, flat]
  rw [if_pos l1]
  simp [e1, doCall, ixs, AA.ix, List.filterMap_cons, fetch, hp, hq, putBack, okLend, flat, pair_at0, pair_at1]
  rw [if_pos l2, e2]
/-! ### kinds of what is told -/
theorem r_whole (k : Nat) (i : Int) : run (tabOf dl) (k + 1) 17 [.val (.int i)] = .ret false (.bl true) [] := by
  rw [t17]
  simp [f_law_whole, runFn, params, refsOf, outs, isiD]
theorem r_isfrac (k : Nat) (a : List Nat) {x y : Int} (h : frac a = some (x, y)) : run (tabOf dl) (k + 2) 18 [.val (fracD (some (x, y)))] = .ret false (.bl true) [] := by
  rw [t18]
  have w1 := r_whole k x
  have w2 := r_whole k y
  have gc := r_common k x y
  have hg : Int.gcd x y = 1 ∧ 0 < y := by
    rcases frac_of h with ⟨h1, rfl, rfl⟩ | ⟨p, q, rfl, h1, h2, h3, h4, _, _⟩
    · exact ⟨by simp, by decide⟩
    · exact ⟨h4, by omega⟩
  rw [hg.1] at gc
  simp [f_law_is_fraction, runFn, params, refsOf, outs, fracD, isiD, biD, biLen, pair_at0, pair_at1, doCall, ixs, AA.ix, List.filterMap_cons, fetch, w1, w2, gc, putBack, okLend, flat, hg.2]
theorem r_isspot (k : Nat) (a : List Nat) {x y : Int × Int} (h : spot a = some (x, y)) : run (tabOf dl) (k + 3) 19 [.val (spotD (some (x, y)))] = .ret false (.bl true) [] := by
  rw [t19]
  obtain ⟨p, q, e, h1, h2, m1, m2⟩ := spot_of h
  have f1 := r_isfrac k p (x := x.1) (y := x.2) h1
  have f2 := r_isfrac k q (x := y.1) (y := y.2) h2
  have f1 : run (tabOf dl) (k + 2) 18 [.val (fracD (some x))] = .ret false (.bl true) [] := f1
  have f2 : run (tabOf dl) (k + 2) 18 [.val (fracD (some y))] = .ret false (.bl true) [] := f2
  have cm := comp_pure (call := run (tabOf dl) (k + 2)) (refs := []) (elt := .call 18 (.lend 1 .nil)) (tp := false) (ts := [1]) (src := .own 0) (cond := .none) (w := .st [fracD (some x), fracD (some y)]) (l := [fracD (some x), fracD (some y)]) (e := [.val (.tup [fracD (some x), fracD (some y)]), .emp]) (e1 := [.val (.tup [fracD (some x), fracD (some y)]), .emp])
    (f := fun d => some (.bl true)) rfl rfl (Nat.le_refl _) (by show 2 ≤ 16777216; omega) (fun n e _ => rfl) (fun d hd => by
      refine ⟨[.val (.tup [fracD (some x), fracD (some y)]), .val d], rfl, ?_⟩
      refine ⟨by simp only [evC], false, [.val (.tup [fracD (some x), fracD (some y)]), .val d], ?_, rfl⟩
      have hd : d = fracD (some x) ∨ d = fracD (some y) := by simpa using hd
      rcases hd with rfl | rfl
      · simp [doCall, ixs, AA.ix, List.filterMap_cons, fetch, f1, putBack, okLend, flat]
      · simp [doCall, ixs, AA.ix, List.filterMap_cons, fetch, f2, putBack, okLend, flat])
  simp [f_law_is_spot, runFn, params, refsOf, outs, spotD, isiD, biD, biLen, cm, biAll, asBools]
end L91

namespace L91
open Vm PySem TL
open SX (S S_len S_beq_eq)
def onlyL : List D := [.bl false, .bl false, .bl false, .bl false, .bl false, .bl false, .bl false, .bl false, .bl false, .bl false, .bl false, .bl true, .bl false, .bl false, .bl true]
theorem r_only (k : Nat) : run (tabOf dl) (k + 1) 16 [.val (.str "text")] = .ret true (.lst onlyL) [] := by
  kernel_rfl
theorem st_try_ok {call : CallT} {refs : List Nat} {e e' : Vm.Env} {i : Nat} {xs : List Ex} {b : Ss} {h : List (Nat × Bool × List (Option Ex))} (hb : evSs call b refs e = .next e') : evS call (.tryk i xs b h) refs e = .next e' := by
  simp only [evS, hb]
theorem st_try_exc {call : CallT} {refs : List Nat} {e e' : Vm.Env} {i : Nat} {xs : List Ex} {b : Ss} {h : List (Nat × Bool × List (Option Ex))} {x : Ex} (hb : evSs call b refs e = .exc x e') : evS call (.tryk i xs b h) refs e = if e'.length ≤ i ∨ x ∉ xs ∨ i ∈ refs then .bad else (hndl refs x h (e'.set i .emp)).then fun e => .next (e.set i .emp) := by
  simp only [evS, hb]
/-- what the law tries -/
def triedD (o : Out) : D := match o with
  | .ret _ d _ => .tup [d, .lst []]
  | _ => .tup [.non, .lst onlyL]
theorem r_tried (k : Nat) (w : Int) (t d : D) (hw : (w = 0 ∧ (run (tabOf dl) k 4 [.val t] = .ret false d [] ∧ okLend false d = true)) ∨ (w = 1 ∧ run (tabOf dl) k 6 [.val t] = .ret false d [] ∧ okLend false d = true)) : run (tabOf dl) (k + 1) 20 [.val (.int w), .val t] = .ret false (.tup [d, .lst []]) [] := by
  rw [t20]
  rcases hw with ⟨rfl, h1, h2⟩ | ⟨rfl, h1, h2⟩
  · have hb : evSs (run (tabOf dl) k) (.cons (.ifs (.cmp .eq (.var 0) (.con (.int 0))) (.cons (.asg 2 (.call 4 (.lend 1 .nil))) .nil) (.cons (.asg 2 (.call 6 (.lend 1 .nil))) .nil)) .nil) [] [.val (.int 0), .val t, .val .non, .own (.lst []), .emp] = .next [.val (.int 0), .val t, .val d, .own (.lst []), .emp] := by
      simp [doCall, ixs, AA.ix, List.filterMap_cons, fetch, h1, putBack, frzA, frzS]
    have := st_try_ok (call := run (tabOf dl) k) (refs := []) (i := 4) (xs := [.NoNumber, .NoText]) (h := [(3, false, [some .NoNumber, some .NoDrawing, some .NoEdge, some .NoCorner]), (3, true, [some .Unlike, some .NoBalance, some .NoRoof]), (3, true, [some .NoTurned, some .NoSites, some .NoPulls]), (3, true, [some .TooMany, some .NoText, some .NoName]), (3, true, [some .NoRow, none])]) hb
    simp [f_law_tried, runFn, params, refsOf, outs, this]
  · have hb : evSs (run (tabOf dl) k) (.cons (.ifs (.cmp .eq (.var 0) (.con (.int 0))) (.cons (.asg 2 (.call 4 (.lend 1 .nil))) .nil) (.cons (.asg 2 (.call 6 (.lend 1 .nil))) .nil)) .nil) [] [.val (.int 1), .val t, .val .non, .own (.lst []), .emp] = .next [.val (.int 1), .val t, .val d, .own (.lst []), .emp] := by
      simp [doCall, ixs, AA.ix, List.filterMap_cons, fetch, h1, putBack, frzA, frzS]
    have := st_try_ok (call := run (tabOf dl) k) (refs := []) (i := 4) (xs := [.NoNumber, .NoText]) (h := [(3, false, [some .NoNumber, some .NoDrawing, some .NoEdge, some .NoCorner]), (3, true, [some .Unlike, some .NoBalance, some .NoRoof]), (3, true, [some .NoTurned, some .NoSites, some .NoPulls]), (3, true, [some .TooMany, some .NoText, some .NoName]), (3, true, [some .NoRow, none])]) hb
    simp [f_law_tried, runFn, params, refsOf, outs, this]
theorem r_tried_x (k : Nat) (w : Int) (t : D) (hw : (w = 0 ∧ run (tabOf dl) k 4 [.val t] = .exc .NoText []) ∨ (w = 1 ∧ run (tabOf dl) k 6 [.val t] = .exc .NoText [])) : run (tabOf dl) (k + 1) 20 [.val (.int w), .val t] = .ret false (.tup [.non, .lst onlyL]) [] := by
  rw [t20]
  rcases hw with ⟨rfl, h1⟩ | ⟨rfl, h1⟩
  · have hb : evSs (run (tabOf dl) k) (.cons (.ifs (.cmp .eq (.var 0) (.con (.int 0))) (.cons (.asg 2 (.call 4 (.lend 1 .nil))) .nil) (.cons (.asg 2 (.call 6 (.lend 1 .nil))) .nil)) .nil) [] [.val (.int 0), .val t, .val .non, .own (.lst []), .emp] = .exc .NoText [.val (.int 0), .val t, .val .non, .own (.lst []), .emp] := by
      simp [doCall, ixs, AA.ix, List.filterMap_cons, fetch, h1, putBack, frzA, frzS]
    have := st_try_exc (call := run (tabOf dl) k) (refs := []) (i := 4) (xs := [.NoNumber, .NoText]) (h := [(3, false, [some .NoNumber, some .NoDrawing, some .NoEdge, some .NoCorner]), (3, true, [some .Unlike, some .NoBalance, some .NoRoof]), (3, true, [some .NoTurned, some .NoSites, some .NoPulls]), (3, true, [some .TooMany, some .NoText, some .NoName]), (3, true, [some .NoRow, none])]) hb
    simp [f_law_tried, runFn, params, refsOf, outs, this, hndl, onlyL]
  · have hb : evSs (run (tabOf dl) k) (.cons (.ifs (.cmp .eq (.var 0) (.con (.int 0))) (.cons (.asg 2 (.call 4 (.lend 1 .nil))) .nil) (.cons (.asg 2 (.call 6 (.lend 1 .nil))) .nil)) .nil) [] [.val (.int 1), .val t, .val .non, .own (.lst []), .emp] = .exc .NoText [.val (.int 1), .val t, .val .non, .own (.lst []), .emp] := by
      simp [doCall, ixs, AA.ix, List.filterMap_cons, fetch, h1, putBack, frzA, frzS]
    have := st_try_exc (call := run (tabOf dl) k) (refs := []) (i := 4) (xs := [.NoNumber, .NoText]) (h := [(3, false, [some .NoNumber, some .NoDrawing, some .NoEdge, some .NoCorner]), (3, true, [some .Unlike, some .NoBalance, some .NoRoof]), (3, true, [some .NoTurned, some .NoSites, some .NoPulls]), (3, true, [some .TooMany, some .NoText, some .NoName]), (3, true, [some .NoRow, none])]) hb
    simp [f_law_tried, runFn, params, refsOf, outs, this, hndl, onlyL]
theorem r_check_x (k : Nat) (d : D) (hd : d = .non ∨ d = .int 7) : run (tabOf dl) (k + 1) 3 [.val d] = .exc .NoText [] := by
  rw [t3]
  rcases hd with rfl | rfl <;> simp [f_check_text, runFn, params, refsOf, outs, isiD]
theorem r_read_x (k : Nat) (d : D) (hd : d = .non ∨ d = .int 7) : run (tabOf dl) (k + 2) 4 [.val d] = .exc .NoText [] := by
  rw [t4]
  have := r_check_x k d hd
  simp [f_read_fraction, runFn, params, refsOf, outs, doCall, ixs, AA.ix, List.filterMap_cons, fetch, this, putBack, frzA, frzS]
theorem r_rpoint_x (k : Nat) (d : D) (hd : d = .non ∨ d = .int 7) : run (tabOf dl) (k + 2) 6 [.val d] = .exc .NoText [] := by
  rw [t6]
  have := r_check_x k d hd
  simp [f_read_point, runFn, params, refsOf, outs, doCall, ixs, AA.ix, List.filterMap_cons, fetch, this, putBack, frzA, frzS]
end L91

namespace L91
open Vm PySem TL
open SX (S S_len S_beq_eq)
/-! ### drawing -/
theorem t8 (k : Nat) (as : List AV) : run (tabOf dl) (k + 1) 8 as = runFn (run (tabOf dl) k) f_law_draw as := rfl
theorem t9 (k : Nat) (as : List AV) : run (tabOf dl) (k + 1) 9 as = runFn (run (tabOf dl) k) f_law_figures as := rfl
theorem t10 (k : Nat) (as : List AV) : run (tabOf dl) (k + 1) 10 as = runFn (run (tabOf dl) k) f_law_spoilt as := rfl
theorem t11 (k : Nat) (as : List AV) : run (tabOf dl) (k + 1) 11 as = runFn (run (tabOf dl) k) f_law_draws as := rfl
theorem t21 (k : Nat) (as : List AV) : run (tabOf dl) (k + 1) 21 as = runFn (run (tabOf dl) k) f_law_written as := rfl
theorem t22 (k : Nat) (as : List AV) : run (tabOf dl) (k + 1) 22 as = runFn (run (tabOf dl) k) f_law_drawn_text as := rfl
theorem t23 (k : Nat) (as : List AV) : run (tabOf dl) (k + 1) 23 as = runFn (run (tabOf dl) k) f_law as := rfl
/-- draws in order -/
def DrOk (d : D) : Prop := ∃ x y : Int, d = .lst [.int x, .int y] ∧ 0 ≤ y ∧ y < 2147483648
@[simp] theorem st_seti (call : CallT) (refs : List Nat) (e : Vm.Env) (i : Nat) (k a : E) : evS call (.seti i k a) refs e = (evE call refs a e).to fun p e => match e[i]? with
      | some (.own _) => (opnd (isVar k) (fun _ => evE call refs k e) e).to fun k e => modK e i k fun d k => setD d k p.2
      | _ => .bad := by first | (simp only [evS]; done) | (simp only [evS]; rfl)
@[simp] theorem mod_cons (s : Vm.Slot) (e : Vm.Env) (i : Nat) (f : D → Option D) : Vm.modify (s :: e) i f = match (s :: e)[i]? with
  | some (.own d) => (match f d with
    | some d => .next ((s :: e).set i (.own d))
    | none => .bad)
  | _ => .bad := rfl
@[simp] theorem modK_cons (s : Vm.Slot) (e : Vm.Env) (i : Nat) (k : Opd) (f : D → D → Option D) : modK (s :: e) i k f = match got k (s :: e) with
  | some k => Vm.modify (s :: e) i fun d => f d k
  | none => .bad := rfl
@[simp] theorem set0 (a b v : D) : setD (.lst [a, b]) (.int 0) v = some (.lst [v, b]) := rfl
@[simp] theorem set1 (a b v : D) : setD (.lst [a, b]) (.int 1) v = some (.lst [a, v]) := rfl
theorem mul_ok {i j : Int} {a b : Nat} (hi : i.natAbs < 2 ^ a) (hj : j.natAbs < 2 ^ b) (h : a + b < 1000000) : mulOk i j = true := by
  have key : ∀ {n m : Nat}, n < 2 ^ m → n.log2 ≤ m := fun {n m} h => by
    by_cases h0 : n = 0
    · subst h0; simp
    · exact Nat.le_of_lt ((Nat.log2_lt h0).mpr h)
  unfold mulOk
  exact decide_eq_true (by have := key hi; have := key hj; omega)
theorem r_draw (k : Nat) {d : D} (h : DrOk d) {m : Int} (hm : 1 ≤ m) (hm2 : m ≤ 2 ^ 40) : ∃ r d', run (tabOf dl) (k + 1) 8 [.own d, .val (.int m)] = .ret false (.int r) [d'] ∧ DrOk d' ∧ 0 ≤ r ∧ r < m := by
  obtain ⟨x, y, rfl, hy, hy2⟩ := h
  rw [t8]
  have hm0 : m ≠ 0 := by omega
  have hl : m.natAbs.log2 < 9000 := by
    have : m.natAbs < 2 ^ 41 := by omega
    have := (Nat.log2_lt (by omega : m.natAbs ≠ 0)).mpr this
    omega
  by_cases hx : 0 < x
  · refine ⟨x.fmod m, .lst [.int (x.fdiv m), .int y], ?_, ⟨_, _, rfl, hy, hy2⟩, Int.fmod_nonneg_of_pos _ (by omega), Int.fmod_lt_of_pos _ (by omega)⟩
    simp [f_law_draw, runFn, params, refsOf, lst_at0, lst_at1, hx, hm0, hl, outs, getO]
  · have p1 : mulOk y 69621 = true := mul_ok (a := 31) (b := 17) (by omega) (by decide) (by decide)
    have n1 := Int.fmod_nonneg_of_pos (y * 69621) (show (0 : Int) < 2147483647 by decide)
    have n2 := Int.fmod_lt_of_pos (y * 69621) (show (0 : Int) < 2147483647 by decide)
    generalize hz : (y * 69621).fmod 2147483647 = z at n1 n2
    have n3 : 0 ≤ z.fdiv 128 ∧ z.fdiv 128 ≤ z := by
      rw [Int.fdiv_eq_ediv_of_nonneg _ (by decide)]; omega
    have p2 : mulOk z (z.fdiv 128 + 3) = true := mul_ok (a := 31) (b := 32) (by omega) (by omega) (by decide)
    refine ⟨(((z * (z.fdiv 128 + 3)).fmod 2147483629).fdiv 8).fmod m, .lst [.int x, .int z], ?_, ⟨_, _, rfl, n1, by omega⟩, Int.fmod_nonneg_of_pos _ (by omega), Int.fmod_lt_of_pos _ (by omega)⟩
    have l1 : (128 : Nat).log2 < 9000 := by decide
    have l2 : (8 : Nat).log2 < 9000 := by decide
    simp [f_law_draw, runFn, params, refsOf, lst_at0, lst_at1, hx, hm0, hl, outs, getO, p1, hz, p2, l1, l2]
end L91

namespace L91
open Vm PySem TL
open SX (S S_len S_beq_eq)
theorem pow6 : binD .pow (.int 10) (.int 6) = some (.int 1000000) := rfl
theorem pow60 : binD .pow (.int 10) (.int 60) = some (.int (10 ^ 60)) := rfl
theorem pow15 : binD .pow (.int 10) (.int 15) = some (.int (10 ^ 15)) := rfl
theorem pow18 : binD .pow (.int 10) (.int 18) = some (.int (10 ^ 18)) := rfl
theorem pow_mono {i j : Nat} (h : i ≤ j) : (10 : Int) ^ i ≤ 10 ^ j := by
  have := Nat.pow_le_pow_right (show 0 < 10 by decide) h
  have e : ∀ i : Nat, (10 : Int) ^ i = ((10 ^ i : Nat) : Int) := fun i => by rw [Int.natCast_pow]; rfl
  rw [e, e]; omega
def figB : Ss := .cons (.asg 2 (.bin .add (.bin .mul (.var 2) (.bin .pow (.con (.int 10)) (.con (.int 6)))) (.call 8 (.ref 0 (.val (.bin .pow (.con (.int 10)) (.con (.int 6))) .nil))))) .nil
theorem fig_loop (k : Nat) (m : D) : ∀ (L : List D) (d : D) (n : Int) (j : Nat) (s3 : Vm.Slot), DrOk d → 0 ≤ n → n < 10 ^ j → j + 6 * L.length ≤ 60 → ∃ d' n' s3', forS (run (tabOf dl) (k + 1)) [0] false [3] figB L [.own d, .val m, .val (.int n), s3] = .next [.own d', .val m, .val (.int n'), s3'] ∧ DrOk d' ∧ 0 ≤ n' ∧ n' < 10 ^ (j + 6 * L.length)
  | [], d, n, j, s3, hd, h0, h1, _ => ⟨d, n, s3, rfl, hd, h0, by simpa using h1⟩
  | x :: L, d, n, j, s3, hd, h0, h1, hj => by
    rw [List.length_cons] at hj
    obtain ⟨r, d1, e1, hd1, r0, r1⟩ := r_draw k hd (m := 1000000) (by decide) (by decide)
    have p10 : (10 : Int) ^ (j + 6) = 10 ^ j * 1000000 := by rw [Int.pow_add]; rfl
    have hn : n * 1000000 + r < 10 ^ (j + 6) := by rw [p10]; omega
    obtain ⟨d', n', s3', h2, h3, h4, h5⟩ := fig_loop k m L d1 (n * 1000000 + r) (j + 6) (.val x) hd1 (by omega) hn (by omega)
    refine ⟨d', n', s3', ?_, h3, h4, by rw [List.length_cons, show j + 6 * (L.length + 1) = j + 6 + 6 * L.length by omega]; exact h5⟩
    have mk : mulOk n 1000000 = true := by
      have hb : (10 : Int) ^ j ≤ 10 ^ 60 := pow_mono (by omega)
      have : n.natAbs < 2 ^ 200 := by
        have : n < 10 ^ 60 := by omega
        have h2 : (10 : Int) ^ 60 < 2 ^ 200 := by decide
        omega
      exact mul_ok this (b := 20) (by decide) (by decide)
    unfold figB at h2 ⊢
    simp [-bd6, forS, stoT, pow6, mk, doCall, ixs, AA.ix, List.filterMap_cons, fetch, e1, putBack, frzA, h2]
theorem idx3 (a b c : D) {r : Int} (h0 : 0 ≤ r) (h1 : r < 3) : idxD (.lst [a, b, c]) (.int r) = some (if r = 0 then a else if r = 1 then b else c) := by
  rcases (by omega : r = 0 ∨ r = 1 ∨ r = 2) with rfl | rfl | rfl <;> rfl
theorem rng_one {n : Int} (h0 : 0 ≤ n) (h1 : n < 1000) : rngD [.int n] = some (rngL 0 n.toNat) := by
  show (if n < 2 ^ 20 ∧ -(2 ^ 62) ≤ n then some (rngL 0 n.toNat) else none) = _
  rw [if_pos ⟨by omega, by omega⟩]
theorem rngL_len (a : Int) (n : Nat) : (rngL a n).length = n := by unfold rngL; simp
theorem r_figures (k : Nat) {d : D} (hd : DrOk d) {m : Int} (hm : 1 ≤ m) (hm2 : m ≤ 9) : ∃ v d', run (tabOf dl) (k + 2) 9 [.own d, .val (.int m)] = .ret false (.int v) [d'] ∧ DrOk d' ∧ v.natAbs < 10 ^ 60 := by
  rw [t9]
  obtain ⟨r1, d1, e1, hd1, a1, b1⟩ := r_draw k hd (m := 1000000) (by decide) (by decide)
  obtain ⟨r2, d2, e2, hd2, a2, b2⟩ := r_draw k hd1 (m := m) hm (by omega)
  have hL : (rngL 0 r2.toNat).length ≤ 8 := by rw [rngL_len]; omega
  obtain ⟨d3, n, s3, e3, hd3, a3, b3⟩ := fig_loop k (.int m) (rngL 0 r2.toNat) d2 r1 6 .emp hd2 a1 (by exact b1) (by omega)
  obtain ⟨r4, d4, e4, hd4, a4, b4⟩ := r_draw k hd3 (m := 3) (by decide) (by decide)
  have hs : evSrc (run (tabOf dl) (k + 1)) [0] (.rng (.cons (.call 8 (.ref 0 (.lend 1 .nil))) .nil)) [.own d1, .val (.int m), .val (.int r1), .emp] = .ok (.st (rngL 0 r2.toNat)) [.own d2, .val (.int m), .val (.int r1), .emp] := by
    simp [evSrc, doCall, ixs, AA.ix, List.filterMap_cons, fetch, e2, putBack, frzA, frzS, rngOk, rng_one a2 (by omega)]
  have lp := st_loop_st (tp := false) (ts := [3]) (b := figB) hs
  rw [e3] at lp
  unfold figB at lp
  have nb : n < 10 ^ 54 := by
    refine Int.lt_of_lt_of_le b3 (pow_mono (by omega))
  have i3 := idx3 (.int n) (.int (0 - n)) (.int (n.fmod 7 - 3)) a4 b4
  have m0 := Int.fmod_nonneg_of_pos n (show (0 : Int) < 7 by decide)
  have m1 := Int.fmod_lt_of_pos n (show (0 : Int) < 7 by decide)
  refine ⟨if r4 = 0 then n else if r4 = 1 then 0 - n else n.fmod 7 - 3, d4, ?_, hd4, ?_⟩
  · have i4 : idxD (.lst [.int n, .int (-n), .int (n.fmod 7 - 3)]) (.int r4) = some (.int (if r4 = 0 then n else if r4 = 1 then -n else n.fmod 7 - 3)) := by
      rw [Int.zero_sub] at i3
      rw [i3]
      split
      · rfl
      · split <;> rfl
    simp [-bd6, f_law_figures, runFn, params, refsOf, pow6, doCall, ixs, AA.ix, List.filterMap_cons, fetch, e1, putBack, frzA, frzS, lp, e4, i4, outs, getO]
  · have : (10 : Int) ^ 54 < 10 ^ 60 := by decide
    have h10 : ((10 : Nat) ^ 60 : Int) = 10 ^ 60 := rfl
    split
    · omega
    · split
      · omega
      · omega
end L91

namespace L91
open Vm PySem TL
open SX (S S_len S_beq_eq)
structure Tn (n : Nat) (a : List Nat) : Prop where
  lt : ∀ c ∈ a, c < 256
  len : a.length ≤ n
theorem Tn.t {n : Nat} {a : List Nat} (h : Tn n a) (hn : n ≤ 1000) : T a := ⟨h.lt, by have := h.len; omega⟩
theorem num_text {n : Int} (h : n.natAbs < 10 ^ 62) : ∃ a, biStr [.int n] = some (.str (S a)) ∧ Tn 63 a := by
  have hl : n.natAbs.log2 < 1920 := by
    by_cases h0 : n.natAbs = 0
    · rw [h0]; decide
    · have := (Nat.log2_lt h0).mpr (Nat.lt_trans h (show 10 ^ 62 < 2 ^ 210 by decide)); omega
  have base : ∀ a, Str.ofString (toString n) = S a → biStr [.int n] = some (.str (S a)) := fun a e => by
    show (if n.natAbs.log2 < 1920 then some (D.str (Str.ofString (toString n))) else none) = _
    rw [if_pos hl, e]
  by_cases hn : 0 ≤ n
  · obtain ⟨m, rfl⟩ := Int.eq_ofNat_of_zero_le hn
    refine ⟨_, base _ (SX.num_S m), fun c hc => ?_, ?_⟩
    · have := numL_digits m c hc; omega
    · have := numL_len (n := m) (k := 62) (by decide) (by simpa using h); omega
  · obtain ⟨m, rfl⟩ : ∃ m : Nat, n = -(m : Int) := ⟨n.natAbs, by omega⟩
    refine ⟨_, base _ (num_neg m (by omega)), fun c hc => ?_, ?_⟩
    · rcases List.mem_cons.mp hc with rfl | hc
      · decide
      · have := numL_digits m c hc; omega
    · have := numL_len (n := m) (k := 62) (by decide) (by simpa using h)
      simp; omega
theorem idx2 (a b : D) {r : Int} (h0 : 0 ≤ r) (h1 : r < 2) : idxD (.lst [a, b]) (.int r) = some (if r = 0 then a else b) := by
  rcases (by omega : r = 0 ∨ r = 1) with rfl | rfl <;> rfl
def w1 : S := .asg 1 (.idx (.lst (.cons (.bin .sub (.call 8 (.ref 0 (.val (.con (.int 30)) .nil))) (.con (.int 9))) (.cons (.call 9 (.ref 0 (.val (.con (.int 9)) .nil))) .nil))) (.call 8 (.ref 0 (.val (.con (.int 2)) .nil))))
def w2 : S := .ifs (.cmp .eq (.call 8 (.ref 0 (.val (.con (.int 12)) .nil))) (.con (.int 0))) (.cons (.asg 1 (.bin .add (.bin .sub (.bin .pow (.con (.int 10)) (.con (.int 60))) (.con (.int 1))) (.bin .mul (.call 8 (.ref 0 (.val (.con (.int 3)) .nil))) (.bin .sub (.bin .pow (.con (.int 10)) (.con (.int 60))) (.con (.int 1)))))) .nil) .nil
def w4 : S := .ifs (.cmp .eq (.call 8 (.ref 0 (.val (.con (.int 3)) .nil))) (.con (.int 0))) (.cons (.asg 2 (.bin .add (.bin .add (.var 2) (.con (.str "/"))) (.bi .str (.cons (.idx (.lst (.cons (.call 8 (.ref 0 (.val (.con (.int 12)) .nil))) (.cons (.call 9 (.ref 0 (.val (.con (.int 8)) .nil))) .nil))) (.call 8 (.ref 0 (.val (.con (.int 2)) .nil)))) .nil)))) .nil) .nil
theorem h_w1 (k : Nat) {d : D} (hd : DrOk d) : ∃ d' n, evS (run (tabOf dl) (k + 2)) w1 [0] [.own d, .emp, .emp] = .next [.own d', .val (.int n), .emp] ∧ DrOk d' ∧ n.natAbs < 10 ^ 62 := by
  obtain ⟨r1, d1, e1, hd1, a1, b1⟩ := r_draw (k + 1) hd (m := 30) (by decide) (by decide)
  obtain ⟨r2, d2, e2, hd2, c2⟩ := r_figures k hd1 (m := 9) (by decide) (by decide)
  obtain ⟨r3, d3, e3, hd3, a3, b3⟩ := r_draw (k + 1) hd2 (m := 2) (by decide) (by decide)
  have i2 := idx2 (.int (r1 - 9)) (.int r2) a3 b3
  refine ⟨d3, if r3 = 0 then r1 - 9 else r2, ?_, hd3, ?_⟩
  · have i3 : idxD (.lst [.int (r1 - 9), .int r2]) (.int r3) = some (.int (if r3 = 0 then r1 - 9 else r2)) := by rw [i2]; split <;> rfl
    simp [w1, doCall, ixs, AA.ix, List.filterMap_cons, fetch, e1, e2, e3, putBack, frzA, i3]
  · have : (10 : Nat) ^ 60 < 10 ^ 62 := by decide
    split
    · have : (30 : Nat) < 10 ^ 62 := by decide
      omega
    · omega
theorem h_w2 (k : Nat) {d : D} (hd : DrOk d) {n : Int} (hn : n.natAbs < 10 ^ 62) : ∃ d' n', evS (run (tabOf dl) (k + 2)) w2 [0] [.own d, .val (.int n), .emp] = .next [.own d', .val (.int n'), .emp] ∧ DrOk d' ∧ n'.natAbs < 10 ^ 62 := by
  obtain ⟨r1, d1, e1, hd1, a1, b1⟩ := r_draw (k + 1) hd (m := 12) (by decide) (by decide)
  obtain ⟨r2, d2, e2, hd2, a2, b2⟩ := r_draw (k + 1) hd1 (m := 3) (by decide) (by decide)
  by_cases h : r1 = 0
  · have mk : mulOk r2 (10 ^ 60 - 1) = true := mul_ok (a := 2) (b := 200) (by omega) (by decide) (by decide)
    refine ⟨d2, 10 ^ 60 - 1 + r2 * (10 ^ 60 - 1), ?_, hd2, ?_⟩
    · subst h
      have mk' := mk
      simp only [w2, st_ifs, et1, iv3, op_none, ee_cmp, ee_call, as4, as1, as0, pk_zero, pkS2, oo1, rb1, ee_con, iv8, iv1]
      simp [-bd6, -Int.reducePow, doCall, ixs, AA.ix, List.filterMap_cons, fetch, e1, e2, putBack, frzA, pow60, mk']
    · rcases (by omega : r2 = 0 ∨ r2 = 1 ∨ r2 = 2) with rfl | rfl | rfl <;> decide
  · refine ⟨d1, n, ?_, hd1, hn⟩
    simp [-bd6, w2, doCall, ixs, AA.ix, List.filterMap_cons, fetch, e1, putBack, frzA, h]
theorem h_w4 (k : Nat) {d x : D} (hd : DrOk d) {a : List Nat} (ha : Tn 63 a) : ∃ d' a', evS (run (tabOf dl) (k + 2)) w4 [0] [.own d, .val x, .val (.str (S a))] = .next [.own d', .val x, .val (.str (S a'))] ∧ DrOk d' ∧ Tn 127 a' := by
  obtain ⟨r1, d1, e1, hd1, a1, b1⟩ := r_draw (k + 1) hd (m := 3) (by decide) (by decide)
  obtain ⟨r2, d2, e2, hd2, a2, b2⟩ := r_draw (k + 1) hd1 (m := 12) (by decide) (by decide)
  obtain ⟨r3, d3, e3, hd3, c3⟩ := r_figures k hd2 (m := 8) (by decide) (by decide)
  obtain ⟨r4, d4, e4, hd4, a4, b4⟩ := r_draw (k + 1) hd3 (m := 2) (by decide) (by decide)
  by_cases h : r1 = 0
  · have i2 := idx2 (.int r2) (.int r3) a4 b4
    have i3 : idxD (.lst [.int r2, .int r3]) (.int r4) = some (.int (if r4 = 0 then r2 else r3)) := by rw [i2]; split <;> rfl
    obtain ⟨b, hb, tb⟩ := num_text (n := if r4 = 0 then r2 else r3) (by
      have : (10 : Nat) ^ 60 < 10 ^ 62 := by decide
      have : (30 : Nat) < 10 ^ 62 := by decide
      split <;> omega)
    have la := ha.len
    have lb := tb.len
    have s1 : (S a) ++ ("/" : Str) = S (a ++ [47]) := SX.S_cat a [47]
    have s2 : (S (a ++ [47])) ++ (S b) = S (a ++ 47 :: b) := by rw [SX.S_cat, List.append_assoc]; rfl
    have l1 : (S a).length + ("/" : Str).length ≤ 16777216 := by rw [S_len]; show a.length + 1 ≤ _; omega
    have l2 : (S (a ++ [47])).length + (S b).length ≤ 16777216 := by rw [S_len, S_len, List.length_append]; show a.length + 1 + b.length ≤ _; omega
    have q1 : binD .add (.str (S a)) (.str "/") = some (.str (S (a ++ [47]))) := by rw [bd7, if_pos l1, s1]
    have q2 : binD .add (.str (S (a ++ [47]))) (.str (S b)) = some (.str (S (a ++ 47 :: b))) := by rw [bd7, if_pos l2, s2]
    refine ⟨d4, a ++ 47 :: b, ?_, hd4, fun c hc => ?_, by rw [List.length_append, List.length_cons]; omega⟩
    · subst h
      simp [-bd7, w4, doCall, ixs, AA.ix, List.filterMap_cons, fetch, e1, e2, e3, e4, putBack, frzA, i3, biD, hb, q1, q2]
    · rcases List.mem_append.mp hc with hc | hc
      · exact ha.lt c hc
      · rcases List.mem_cons.mp hc with rfl | hc
        · decide
        · exact tb.lt c hc
  · refine ⟨d1, a, ?_, hd1, ha.lt, by have := ha.len; omega⟩
    simp [w4, doCall, ixs, AA.ix, List.filterMap_cons, fetch, e1, putBack, frzA, h]
theorem r_written (k : Nat) {d : D} (hd : DrOk d) : ∃ d' a, run (tabOf dl) (k + 3) 21 [.own d] = .ret false (.str (S a)) [d'] ∧ DrOk d' ∧ Tn 127 a := by
  rw [t21]
  obtain ⟨d1, n1, e1, hd1, b1⟩ := h_w1 k hd
  obtain ⟨d2, n2, e2, hd2, b2⟩ := h_w2 k hd1 b1
  obtain ⟨a, hs, ta⟩ := num_text b2
  obtain ⟨d4, a4, e4, hd4, t4⟩ := h_w4 k (x := .int n2) hd2 ta
  refine ⟨d4, a4, ?_, hd4, t4⟩
  unfold w1 at e1
  unfold w2 at e2
  unfold w4 at e4
  simp only [f_law_written, runFn, params, refsOf, List.length_cons, List.length_nil, List.replicate, Option.map, List.cons_append, List.nil_append, Nat.reduceSub, Nat.reduceAdd, ss1, e1, sr1, e2]
  simp [biD, hs, outs, getO, -st_ifs, e4]
end L91

namespace L91
open Vm PySem TL
open SX (S S_len S_beq_eq)
theorem cut_to (a : List Nat) (k : Nat) : L2.cutS (S a) none (some (k : Int)) = S (a.take k) := by
  unfold L2.cutS
  have h1 : HT.sIx (S a).length (S a).length (some (k : Int)) = min k a.length := by rw [S_len]; exact HT.sIx_nat a.length _ k
  have h2 : HT.sIx (S a).length 0 none = 0 := rfl
  rw [h1, h2]
  show S _ = _
  congr 1
  show List.take (min k a.length - 0) a = _
  rw [Nat.sub_zero]
  by_cases h : k ≤ a.length
  · rw [Nat.min_eq_left h]
  · rw [Nat.min_eq_right (by omega), List.take_of_length_le (Nat.le_refl _), List.take_of_length_le (by omega)]
theorem cut_from (a : List Nat) (k : Nat) : L2.cutS (S a) (some (k : Int)) none = S (a.drop k) := by
  unfold L2.cutS
  have h1 : HT.sIx (S a).length 0 (some (k : Int)) = min k a.length := by rw [S_len]; exact HT.sIx_nat a.length 0 k
  have h2 : HT.sIx (S a).length (S a).length none = a.length := S_len a
  rw [h1, h2]
  show S _ = _
  congr 1
  show List.take (a.length - min k a.length) (List.drop (min k a.length) a) = _
  by_cases h : k ≤ a.length
  · rw [Nat.min_eq_left h, List.take_of_length_le (by rw [List.length_drop]; omega)]
  · rw [Nat.min_eq_right (by omega), Nat.sub_self, List.take_zero, List.drop_of_length_le (by omega)]
theorem str_at (z : List Nat) (hz : ∀ c ∈ z, c < 256) (hl : z.length ≤ 1000) {r : Int} (h0 : 0 ≤ r) (h1 : r < z.length) : ∃ c, idxD (.str (S z)) (.int r) = some (.str (S [c])) ∧ c < 256 := by
  obtain ⟨k, rfl⟩ := Int.eq_ofNat_of_zero_le h0
  have hk : k < z.length := by omega
  refine ⟨z[k], ?_, hz _ (List.getElem_mem hk)⟩
  show (if (S z).length ≤ 16777216 then (L2.atI z (k : Int)).map fun c => D.str ⟨#[c]⟩ else none) = _
  rw [if_pos (by rw [S_len]; omega), L2.atI_nat (List.getElem?_eq_getElem hk)]
  rfl
theorem cat {a b : List Nat} (h : a.length + b.length ≤ 16777216) : binD .add (.str (S a)) (.str (S b)) = some (.str (S (a ++ b))) := by
  rw [bd7, if_pos (by rw [S_len, S_len]; exact h), SX.S_cat]
theorem idx4 (a b c d : D) {r : Int} (h0 : 0 ≤ r) (h1 : r < 4) : idxD (.lst [a, b, c, d]) (.int r) = some (if r = 0 then a else if r = 1 then b else if r = 2 then c else d) := by
  rcases (by omega : r = 0 ∨ r = 1 ∨ r = 2 ∨ r = 3) with rfl | rfl | rfl | rfl <;> rfl
def some1 : Str := " !\"#$&'()*+,-./0123456789:;<=>?@ABCDEFGHIJKLMNOPQRSTUVWXYZ[\\]^_`{|}~\n\tabcdefghijklmnopqrstuvwxyz"
def some2 : Str := "0123456789-/, "
theorem some1_at {r : Int} (h0 : 0 ≤ r) (h1 : r < 96) : ∃ c, idxD (.str some1) (.int r) = some (.str (S [c])) ∧ c < 256 := by
  have e : some1 = S some1.cps.toList := (SX.S_tl _).symm
  have hl : some1.cps.toList.length = 96 := by decide +kernel
  rw [e]
  exact str_at _ (by decide +kernel) (by rw [hl]; decide) h0 (by rw [hl]; exact h1)
theorem some2_at {r : Int} (h0 : 0 ≤ r) (h1 : r < 14) : ∃ c, idxD (.str some2) (.int r) = some (.str (S [c])) ∧ c < 256 := by
  have e : some2 = S some2.cps.toList := (SX.S_tl _).symm
  have hl : some2.cps.toList.length = 14 := by decide +kernel
  rw [e]
  exact str_at _ (by decide +kernel) (by rw [hl]; decide) h0 (by rw [hl]; exact h1)
theorem r_spoilt (k : Nat) {d : D} (hd : DrOk d) {n : Nat} (hn : n ≤ 900) {a : List Nat} (ha : Tn n a) : ∃ d' a', run (tabOf dl) (k + 2) 10 [.val (.str (S a)), .own d] = .ret false (.str (S a')) [d'] ∧ DrOk d' ∧ Tn (n + 1) a' := by
  rw [t10]
  have hl := ha.len
  obtain ⟨r1, d1, e1, hd1, a1, b1⟩ := r_draw k hd (m := 96) (by decide) (by decide)
  obtain ⟨c1, i1, z1⟩ := some1_at a1 b1
  obtain ⟨r2, d2, e2, hd2, a2, b2⟩ := r_draw k hd1 (m := 14) (by decide) (by decide)
  obtain ⟨c2, i2, z2⟩ := some2_at a2 b2
  obtain ⟨r3, d3, e3, hd3, a3, b3⟩ := r_draw k hd2 (m := 2) (by decide) (by decide)
  have i3 := idx2 (.str (S [c1])) (.str (S [c2])) a3 b3
  obtain ⟨c, i4, z4⟩ : ∃ c, idxD (.lst [.str (S [c1]), .str (S [c2])]) (.int r3) = some (.str (S [c])) ∧ c < 256 := by
    rw [i3]
    by_cases h : r3 = 0
    · exact ⟨c1, by rw [if_pos h], z1⟩
    · exact ⟨c2, by rw [if_neg h], z2⟩
  obtain ⟨r5, d5, e5, hd5, a5, b5⟩ := r_draw k hd3 (m := (a.length : Int) + 1) (by omega) (by omega)
  obtain ⟨p, rfl⟩ := Int.eq_ofNat_of_zero_le a5
  obtain ⟨r6, d6, e6, hd6, a6, b6⟩ := r_draw k hd5 (m := 4) (by decide) (by decide)
  have s1 : slcD (.str (S a)) none (some (p : Int)) = some (.str (S (a.take p))) := by
    show (if (S a).length ≤ 16777216 then some (D.str (L2.cutS (S a) none (some (p : Int)))) else none) = _
    rw [if_pos (by rw [S_len]; omega), cut_to]
  have s2 : slcD (.str (S a)) (some (p : Int)) none = some (.str (S (a.drop p))) := by
    show (if (S a).length ≤ 16777216 then some (D.str (L2.cutS (S a) (some (p : Int)) none)) else none) = _
    rw [if_pos (by rw [S_len]; omega), cut_from]
  have s3 : slcD (.str (S a)) (some ((p : Int) + 1)) none = some (.str (S (a.drop (p + 1)))) := by
    show (if (S a).length ≤ 16777216 then some (D.str (L2.cutS (S a) (some ((p + 1 : Nat) : Int)) none)) else none) = _
    rw [if_pos (by rw [S_len]; omega), cut_from]
  have s4 : slcD (.str (S a)) none (some ((p : Int) + 1)) = some (.str (S (a.take (p + 1)))) := by
    show (if (S a).length ≤ 16777216 then some (D.str (L2.cutS (S a) none (some ((p + 1 : Nat) : Int)))) else none) = _
    rw [if_pos (by rw [S_len]; omega), cut_to]
  have t1 : (a.take p).length ≤ 1000 := by rw [List.length_take]; omega
  have t2 : (a.drop p).length ≤ 1000 := by rw [List.length_drop]; omega
  have t3 : (a.drop (p + 1)).length ≤ 1000 := by rw [List.length_drop]; omega
  have t4 : (a.take (p + 1)).length ≤ 1000 := by rw [List.length_take]; omega
  have q1 : binD .add (.str (S (a.take p))) (.str (S [c])) = some (.str (S (a.take p ++ [c]))) := cat (by simp; omega)
  have q2 : binD .add (.str (S (a.take p ++ [c]))) (.str (S (a.drop p))) = some (.str (S (a.take p ++ [c] ++ a.drop p))) := cat (by rw [List.length_append]; simp; omega)
  have q3 : binD .add (.str (S (a.take p ++ [c]))) (.str (S (a.drop (p + 1)))) = some (.str (S (a.take p ++ [c] ++ a.drop (p + 1)))) := cat (by rw [List.length_append]; simp; omega)
  have q4 : binD .add (.str (S (a.take p))) (.str (S (a.drop (p + 1)))) = some (.str (S (a.take p ++ a.drop (p + 1)))) := cat (by omega)
  have q5 : binD .add (.str (S (a.take (p + 1)))) (.str (S (a.drop p))) = some (.str (S (a.take (p + 1) ++ a.drop p))) := cat (by omega)
  have i7 := idx4 (.str (S (a.take p ++ [c] ++ a.drop p))) (.str (S (a.take p ++ [c] ++ a.drop (p + 1)))) (.str (S (a.take p ++ a.drop (p + 1)))) (.str (S (a.take (p + 1) ++ a.drop p))) a6 b6
  generalize A1 : a.take p ++ [c] ++ a.drop p = x1 at q2 i7
  generalize A2 : a.take p ++ [c] ++ a.drop (p + 1) = x2 at q3 i7
  generalize A3 : a.take p ++ a.drop (p + 1) = x3 at q4 i7
  generalize A4 : a.take (p + 1) ++ a.drop p = x4 at q5 i7
  have tn : ∀ x, x = x1 ∨ x = x2 ∨ x = x3 ∨ x = x4 → Tn (n + 1) x := by
    have mt : ∀ {i c}, c ∈ a.take i → c < 256 := fun h => ha.lt _ (List.mem_of_mem_take h)
    have md : ∀ {i c}, c ∈ a.drop i → c < 256 := fun h => ha.lt _ (List.mem_of_mem_drop h)
    intro x hx
    rcases hx with rfl | rfl | rfl | rfl
    · subst A1
      refine ⟨fun y hy => ?_, by simp; omega⟩
      rcases List.mem_append.mp hy with hy | hy
      · rcases List.mem_append.mp hy with hy | hy
        · exact mt hy
        · rw [List.mem_singleton.mp hy]; exact z4
      · exact md hy
    · subst A2
      refine ⟨fun y hy => ?_, by simp; omega⟩
      rcases List.mem_append.mp hy with hy | hy
      · rcases List.mem_append.mp hy with hy | hy
        · exact mt hy
        · rw [List.mem_singleton.mp hy]; exact z4
      · exact md hy
    · subst A3
      refine ⟨fun y hy => ?_, by simp; omega⟩
      rcases List.mem_append.mp hy with hy | hy
      · exact mt hy
      · exact md hy
    · subst A4
      refine ⟨fun y hy => ?_, by simp; omega⟩
      rcases List.mem_append.mp hy with hy | hy
      · exact mt hy
      · exact md hy
  obtain ⟨x, i8, hx⟩ : ∃ x, idxD (.lst [.str (S x1), .str (S x2), .str (S x3), .str (S x4)]) (.int r6) = some (.str (S x)) ∧ (x = x1 ∨ x = x2 ∨ x = x3 ∨ x = x4) := by
    rw [i7]
    by_cases h0 : r6 = 0
    · exact ⟨x1, by rw [if_pos h0], .inl rfl⟩
    · by_cases h1 : r6 = 1
      · exact ⟨x2, by rw [if_neg h0, if_pos h1], .inr (.inl rfl)⟩
      · by_cases h2 : r6 = 2
        · exact ⟨x3, by rw [if_neg h0, if_neg h1, if_pos h2], .inr (.inr (.inl rfl))⟩
        · exact ⟨x4, by rw [if_neg h0, if_neg h1, if_neg h2], .inr (.inr (.inr rfl))⟩
  refine ⟨d6, x, ?_, hd6, tn x hx⟩
  have ln : biLen [.str some1] = some (.int 96) := by
    show (if some1.length ≤ 16777216 then some (D.int (some1.length : Nat)) else none) = _
    have : some1.length = 96 := by decide +kernel
    rw [this]; rfl
  have la : biLen [.str (S a)] = some (.int (a.length : Nat)) := by
    show (if (S a).length ≤ 16777216 then some (D.int ((S a).length : Nat)) else none) = _
    rw [S_len, if_pos (by omega)]
  unfold some1 at ln i1
  unfold some2 at i2
  simp [-bd7, f_law_spoilt, runFn, params, refsOf, doCall, ixs, AA.ix, List.filterMap_cons, fetch, e1, e2, e3, e5, e6, putBack, frzA, biD, ln, la, i1, i2, i4, s1, s2, s3, s4, q1, q2, q3, q4, q5, i8, outs, getO]
end L91

namespace L91
open Vm PySem TL
open SX (S S_len S_beq_eq)
def dr1 : S := .asg 2 (.bin .mul (.con (.int 15485863)) (.var 1))
def dr2 : S := .ifs (.cmp .lt (.var 1) (.bi .len (.cons (.var 0) .nil))) (.cons (.asg 2 (.bin .mod (.idx (.var 0) (.var 1)) (.bin .mul (.bin .pow (.con (.int 10)) (.con (.int 60))) (.bin .pow (.con (.int 10)) (.con (.int 60)))))) .nil) (.cons (.ifs (.cmp .gt (.bi .len (.cons (.var 0) .nil)) (.con (.int 0))) (.cons (.asg 2 (.bin .add (.bin .mod (.idx (.var 0) (.bin .mod (.var 1) (.bi .len (.cons (.var 0) .nil)))) (.bin .pow (.con (.int 10)) (.con (.int 15)))) (.bin .mul (.con (.int 15485863)) (.var 1)))) .nil) .nil) .nil)
theorem sc_at (ns : List Int) {i : Int} (h0 : 0 ≤ i) (h1 : i < ns.length) : ∃ v, idxD (.sc ns) (.int i) = some (.int v) := by
  obtain ⟨k, rfl⟩ := Int.eq_ofNat_of_zero_le h0
  have hk : k < ns.length := by omega
  refine ⟨ns[k], ?_⟩
  show (L2.atI ns (k : Int)).map D.int = _
  rw [L2.atI_nat (List.getElem?_eq_getElem hk)]; rfl
theorem h_dr2 (call : CallT) (ns : List Int) (hns : ns.length ≤ 63) {i : Int} (h0 : 0 ≤ i) (h1 : i < 64) (c : Int) (hc : c.natAbs < 2 ^ 400) : ∃ c', evS call dr2 [] [.val (.sc ns), .val (.int i), .val (.int c)] = .next [.val (.sc ns), .val (.int i), .val (.int c')] ∧ c'.natAbs < 2 ^ 400 := by
  have bl : biLen [.sc ns] = some (.int (ns.length : Nat)) := rfl
  by_cases hi : i < ns.length
  · obtain ⟨v, hv⟩ := sc_at ns h0 hi
    have mk : mulOk (10 ^ 60) (10 ^ 60) = true := mul_ok (a := 200) (b := 200) (by decide) (by decide) (by decide)
    have n1 := Int.fmod_nonneg_of_pos v (show (0 : Int) < 10 ^ 60 * 10 ^ 60 by decide)
    have n2 := Int.fmod_lt_of_pos v (show (0 : Int) < 10 ^ 60 * 10 ^ 60 by decide)
    have hb : (10 : Int) ^ 60 * 10 ^ 60 < ((2 ^ 400 : Nat) : Int) := by decide +kernel
    refine ⟨v.fmod (10 ^ 60 * 10 ^ 60), ?_, by omega⟩
    have hne : ((10 : Int) ^ 60 * 10 ^ 60 : Int) ≠ 0 := by decide
    simp [-bd6, -bd3, -Int.reducePow, -Int.reduceMul, dr2, biD, bl, hi, hv, pow60, (show binD .mul (.int (10 ^ 60)) (.int (10 ^ 60)) = some (.int (10 ^ 60 * 10 ^ 60)) from by rw [bd3, if_pos mk])]
    intro z; exact absurd z (by decide)
  · by_cases hz : 0 < ns.length
    · have m0 := Int.fmod_nonneg_of_pos i (show (0 : Int) < (ns.length : Nat) by omega)
      have m1 := Int.fmod_lt_of_pos i (show (0 : Int) < (ns.length : Nat) by omega)
      obtain ⟨v, hv⟩ := sc_at ns m0 m1
      have n1 := Int.fmod_nonneg_of_pos v (show (0 : Int) < 10 ^ 15 by decide)
      have n2 := Int.fmod_lt_of_pos v (show (0 : Int) < 10 ^ 15 by decide)
      have mk : mulOk 15485863 i = true := mul_ok (a := 24) (b := 7) (by decide) (by omega) (by decide)
      have hne : ((ns.length : Nat) : Int) ≠ 0 := by omega
      have hbig : (2 : Nat) ^ 80 < 2 ^ 400 := by decide +kernel
      refine ⟨v.fmod (10 ^ 15) + 15485863 * i, ?_, by
        have : (10 : Int) ^ 15 = 1000000000000000 := rfl
        have h80 : (2 : Nat) ^ 80 = 1208925819614629174706176 := rfl
        omega⟩
      have hnz : ns ≠ [] := by intro z; subst z; simp at hz
      simp [-bd6, -bd3, -Int.reducePow, dr2, biD, bl, hi, hz, hnz, hv, pow15, hne, (show binD .mul (.int 15485863) (.int i) = some (.int (15485863 * i)) from by rw [bd3, if_pos mk])]
      intro z; exact absurd z (by decide)
    · refine ⟨c, ?_, hc⟩
      have hnz : ns = [] := by cases ns with | nil => rfl | cons _ _ => simp at hz
      subst hnz
      simp [dr2, biD, bl, (show ¬ i < 0 by omega), biLen]
theorem r_draws (k : Nat) (ns : List Int) (hns : ns.length ≤ 63) {i : Int} (h0 : 0 ≤ i) (h1 : i < 64) : ∃ d, run (tabOf dl) (k + 1) 11 [.val (.sc ns), .val (.int i)] = .ret true d [] ∧ DrOk d := by
  rw [t11]
  have mk : mulOk 15485863 i = true := mul_ok (a := 24) (b := 7) (by decide) (by omega) (by decide)
  have h80 : (2 : Nat) ^ 80 < 2 ^ 400 := by decide +kernel
  have h80' : (2 : Nat) ^ 80 = 1208925819614629174706176 := rfl
  obtain ⟨c, e2, hc⟩ := h_dr2 (run (tabOf dl) k) ns hns h0 h1 (15485863 * i) (by omega)
  unfold dr2 at e2
  have m1 : mulOk c 1 = true := mul_ok (a := 400) (b := 1) hc (by decide) (by decide)
  have m2 : mulOk c 0 = true := mul_ok (a := 400) (b := 1) hc (by decide) (by decide)
  have m3 : mulOk c 69621 = true := mul_ok (a := 400) (b := 17) hc (by decide) (by decide)
  have m4 : mulOk 86028121 (i + 1) = true := mul_ok (a := 27) (b := 8) (by decide) (by omega) (by decide)
  have n1 := Int.fmod_nonneg_of_pos (c * 69621 + 86028121 * (i + 1)) (show (0 : Int) < 2147483646 by decide)
  have n2 := Int.fmod_lt_of_pos (c * 69621 + 86028121 * (i + 1)) (show (0 : Int) < 2147483646 by decide)
  by_cases hg : (10 : Int) ^ 18 ≤ c
  · refine ⟨.lst [.int (c * 1), .int (1 + (c * 69621 + 86028121 * (i + 1)).fmod 2147483646)], ?_, _, _, rfl, by omega, by omega⟩
    simp only [f_law_draws, runFn, params, refsOf, List.length_cons, List.length_nil, List.replicate, Option.map, List.cons_append, List.nil_append, Nat.reduceSub, Nat.reduceAdd, ss1]
    simp [-bd6, -Int.reducePow, -st_ifs, mk, e2, pow18, hg, biD, biInt, m1, m3, m4, outs]
  · refine ⟨.lst [.int (c * 0), .int (1 + (c * 69621 + 86028121 * (i + 1)).fmod 2147483646)], ?_, _, _, rfl, by omega, by omega⟩
    simp only [f_law_draws, runFn, params, refsOf, List.length_cons, List.length_nil, List.replicate, Option.map, List.cons_append, List.nil_append, Nat.reduceSub, Nat.reduceAdd, ss1]
    simp [-bd6, -Int.reducePow, -st_ifs, mk, e2, pow18, hg, biD, biInt, m2, m3, m4, outs]
end L91

namespace L91
open Vm PySem TL
open SX (S S_len S_beq_eq)
/-- what is drawn: a text, or no text -/
def Txd (t : D) : Prop := t = .non ∨ t = .int 7 ∨ ∃ a, t = .str (S a) ∧ T a
def d1 : S := .asg 1 (.call 8 (.ref 0 (.val (.con (.int 9)) .nil)))
def d2 : S := .asg 2 (.call 21 (.ref 0 .nil))
def d3 : S := .ifs (.cmp .lt (.var 1) (.con (.int 4))) (.cons (.asg 2 (.bin .add (.bin .add (.var 2) (.con (.str ","))) (.call 21 (.ref 0 .nil)))) .nil) .nil
def oddE : Es := .cons (.con (.str "")) (.cons (.con (.str "-")) (.cons (.con (.str "-0")) (.cons (.con (.str "00")) (.cons (.con (.str "1/1")) (.cons (.con (.str "0/2")) (.cons (.con (.str "2/4")) (.cons (.con (.str "1/-2")) (.cons (.con (.str "/")) (.cons (.con (.str ",")) (.cons (.con (.str "1,")) (.cons (.con (.str ",1")) (.cons (.con (.str "1,2,3")) (.cons (.con (.str "1/2/3")) (.cons (.con (.str "+1")) (.cons (.con (.str " 1")) .nil)))))))))))))))
def oddS : List Str := ["", "-", "-0", "00", "1/1", "0/2", "2/4", "1/-2", "/", ",", "1,", ",1", "1,2,3", "1/2/3", "+1", " 1"]
def oddD : List D := oddS.map D.str
theorem h_d3 (k : Nat) {d : D} (hd : DrOk d) (w : Int) {a : List Nat} (ha : Tn 127 a) : ∃ d' a', evS (run (tabOf dl) (k + 3)) d3 [0] [.own d, .val (.int w), .val (.str (S a)), .emp, .emp] = .next [.own d', .val (.int w), .val (.str (S a')), .emp, .emp] ∧ DrOk d' ∧ Tn 255 a' := by
  obtain ⟨d2, b, e2, hd2, tb⟩ := r_written k hd
  have la := ha.len
  have lb := tb.len
  by_cases h : w < 4
  · have q1 : binD .add (.str (S a)) (.str ",") = some (.str (S (a ++ [44]))) := cat (b := [44]) (by simp; omega)
    have q2 : binD .add (.str (S (a ++ [44]))) (.str (S b)) = some (.str (S (a ++ [44] ++ b))) := cat (by simp; omega)
    refine ⟨d2, a ++ [44] ++ b, ?_, hd2, fun c hc => ?_, by simp; omega⟩
    · simp [-bd7, d3, h, q1, q2, doCall, ixs, AA.ix, List.filterMap_cons, fetch, e2, putBack, frzA]
    · rcases List.mem_append.mp hc with hc | hc
      · rcases List.mem_append.mp hc with hc | hc
        · exact ha.lt c hc
        · rw [List.mem_singleton.mp hc]; decide
      · exact tb.lt c hc
  · refine ⟨d, a, ?_, hd, ha.lt, by omega⟩
    simp [d3, h]
def spB : Ss := .cons (.asg 2 (.call 10 (.lend 2 (.ref 0 .nil)))) .nil
theorem sp_loop (k : Nat) (w : D) : ∀ (L : List D) (d : D) (n : Nat) (a : List Nat) (s3 : Vm.Slot), DrOk d → Tn n a → n + L.length ≤ 900 → ∃ d' a' s3', forS (run (tabOf dl) (k + 2)) [0] false [3] spB L [.own d, .val w, .val (.str (S a)), s3, .emp] = .next [.own d', .val w, .val (.str (S a')), s3', .emp] ∧ DrOk d' ∧ Tn (n + L.length) a'
  | [], d, n, a, s3, hd, ha, _ => ⟨d, a, s3, rfl, hd, ha⟩
  | x :: L, d, n, a, s3, hd, ha, hn => by
    rw [List.length_cons] at hn
    obtain ⟨d1, b, e1, hd1, hb⟩ := r_spoilt k hd (n := n) (by omega) ha
    obtain ⟨d', a', s3', h2, h3, h4⟩ := sp_loop k w L d1 (n + 1) b (.val x) hd1 hb (by omega)
    refine ⟨d', a', s3', ?_, h3, by rw [List.length_cons, show n + (L.length + 1) = n + 1 + L.length by omega]; exact h4⟩
    unfold spB at h2 ⊢
    simp [forS, stoT, doCall, ixs, AA.ix, List.filterMap_cons, fetch, e1, putBack, frzA, frzS, h2]
theorem odd_at {r : Int} (h0 : 0 ≤ r) (h1 : r < 18) : ∃ t, idxD (.lst (oddD ++ [.non, .int 7])) (.int r) = some t ∧ Txd t := by
  obtain ⟨k, rfl⟩ := Int.eq_ofNat_of_zero_le h0
  have hk : k < (oddD ++ [D.non, .int 7]).length := by show k < 18; omega
  refine ⟨(oddD ++ [D.non, .int 7])[k], ?_, ?_⟩
  · show L2.atI _ (k : Int) = _
    rw [L2.atI_nat (List.getElem?_eq_getElem hk)]
  · have st : ∀ x ∈ oddD, Txd x := fun x hx => by
      obtain ⟨s, hs, rfl⟩ := List.mem_map.mp hx
      refine .inr (.inr ⟨s.cps.toList, by rw [SX.S_tl], ?_, ?_⟩)
      · exact (by decide +kernel : ∀ s ∈ (["", "-", "-0", "00", "1/1", "0/2", "2/4", "1/-2", "/", ",", "1,", ",1", "1,2,3", "1/2/3", "+1", " 1"] : List Str), ∀ c ∈ s.cps.toList, c < 256) s hs
      · exact (by decide +kernel : ∀ s ∈ (["", "-", "-0", "00", "1/1", "0/2", "2/4", "1/-2", "/", ",", "1,", ",1", "1,2,3", "1/2/3", "+1", " 1"] : List Str), s.cps.toList.length ≤ 1000) s hs
    have hm := List.getElem_mem hk
    rcases List.mem_append.mp hm with z | z
    · exact st _ z
    · rcases List.mem_cons.mp z with z | z
      · exact .inl z
      · exact .inr (.inl (List.mem_singleton.mp z))
theorem r_drawn (k : Nat) {d : D} (hd : DrOk d) : ∃ d' t, run (tabOf dl) (k + 4) 22 [.own d] = .ret false t [d'] ∧ DrOk d' ∧ Txd t := by
  rw [t22]
  obtain ⟨w, x1, e1, hx1, w0, w1⟩ := r_draw (k + 2) hd (m := 9) (by decide) (by decide)
  obtain ⟨x2, a2, e2, hx2, ta2⟩ := r_written k hx1
  obtain ⟨x3, a3, e3, hx3, ta3⟩ := h_d3 k hx2 w ta2
  unfold d3 at e3
  by_cases h8 : w = 8
  · subst h8
    obtain ⟨r, x4, e4, hx4, r0, r1⟩ := r_draw (k + 2) hx3 (m := 18) (by decide) (by decide)
    obtain ⟨t, i4, ht⟩ := odd_at r0 r1
    refine ⟨x4, t, ?_, hx4, ht⟩
    simp only [oddD, oddS, List.map_cons, List.map_nil, List.cons_append, List.nil_append] at i4
    simp only [f_law_drawn_text, runFn, params, refsOf, List.length_cons, List.length_nil, List.replicate, Option.map, List.cons_append, List.nil_append, Nat.reduceSub, Nat.reduceAdd, ss1]
    simp [-st_ifs, doCall, ixs, AA.ix, List.filterMap_cons, fetch, e1, e2, putBack, frzA, e3]
    simp [doCall, ixs, AA.ix, List.filterMap_cons, fetch, e4, putBack, frzA, i4, outs, getO]
  · obtain ⟨r, x4, e4, hx4, r0, r1⟩ := r_draw (k + 2) hx3 (m := 3) (by decide) (by decide)
    have i3 := idx3 (.int 0) (.int 1) (.int 2) r0 r1
    have i4 : idxD (.lst [.int 0, .int 1, .int 2]) (.int r) = some (.int r) := by
      rw [i3]
      rcases (by omega : r = 0 ∨ r = 1 ∨ r = 2) with rfl | rfl | rfl <;> rfl
    obtain ⟨x5, a5, s5, e5, hx5, ta5⟩ := sp_loop (k + 1) (.int w) (rngL 0 r.toNat) x4 255 a3 .emp hx4 ta3 (by rw [rngL_len]; omega)
    have hs : evSrc (run (tabOf dl) (k + 3)) [0] (.rng (.cons (.idx (.lst (.cons (.con (.int 0)) (.cons (.con (.int 1)) (.cons (.con (.int 2)) .nil)))) (.call 8 (.ref 0 (.val (.con (.int 3)) .nil)))) .nil)) [.own x3, .val (.int w), .val (.str (S a3)), .emp, .emp] = .ok (.st (rngL 0 r.toNat)) [.own x4, .val (.int w), .val (.str (S a3)), .emp, .emp] := by
      simp [evSrc, doCall, ixs, AA.ix, List.filterMap_cons, fetch, e4, putBack, frzA, i4, rngOk, rng_one r0 (by omega)]
    have lp := st_loop_st (tp := false) (ts := [3]) (b := spB) hs
    rw [e5] at lp
    unfold spB at lp
    refine ⟨x5, .str (S a5), ?_, hx5, .inr (.inr ⟨a5, rfl, ta5.t (by rw [rngL_len]; omega)⟩)⟩
    simp only [f_law_drawn_text, runFn, params, refsOf, List.length_cons, List.length_nil, List.replicate, Option.map, List.cons_append, List.nil_append, Nat.reduceSub, Nat.reduceAdd, ss1]
    simp [-st_ifs, doCall, ixs, AA.ix, List.filterMap_cons, fetch, e1, e2, putBack, frzA, e3]
    simp [h8, lp, outs, getO]
end L91

namespace L91
open Vm PySem TL
open SX (S S_len S_beq_eq)
def P0 (t D0 F0 : D) : Prop := (D0 = .non ∧ F0 = .tup [.non, .lst onlyL]) ∨ ∃ a x, t = .str (S a) ∧ T a ∧ frac a = some x ∧ D0 = fracD (some x) ∧ F0 = .tup [fracD (some x), .lst []]
def P1 (t D0 F0 : D) : Prop := (D0 = .non ∧ F0 = .tup [.non, .lst onlyL]) ∨ ∃ a x, t = .str (S a) ∧ T a ∧ spot a = some x ∧ D0 = spotD (some x) ∧ F0 = .tup [spotD (some x), .lst []]
def b1 : S := .asg 2 (.call 22 (.mov (.call 11 (.lend 0 (.lend 1 .nil))) .nil))
def b2 : S := .asg 3 (.lst (.cons (.con .non) (.cons (.con .non) .nil)))
def b3 : S := .ifs (.isi (.var 2) .str) (.cons (.asg 3 (.lst (.cons (.call 14 (.lend 2 .nil)) (.cons (.call 15 (.lend 2 .nil)) .nil)))) .nil) .nil
def b4 : S := .asg 4 (.lst (.cons (.call 20 (.val (.con (.int 0)) (.lend 2 .nil))) (.cons (.call 20 (.val (.con (.int 1)) (.lend 2 .nil))) .nil)))
def b5b : Ss := .cons (.ifs (.cmp .isS (.idx (.var 3) (.var 5)) (.con .non)) (.cons (.ifs (.cmp .ne (.idx (.var 4) (.var 5)) (.tup (.cons (.con .non) (.cons (.call 16 (.val (.con (.str "text")) .nil)) .nil)))) (.cons (.ret (.con (.bl false))) .nil) .nil) .nil) (.cons (.ifs (.cmp .ne (.idx (.var 4) (.var 5)) (.tup (.cons (.idx (.var 3) (.var 5)) (.cons (.lst .nil) .nil)))) (.cons (.ret (.con (.bl false))) .nil) .nil) .nil)) .nil
def b5 : S := .loop false [5] (.rng (.cons (.con (.int 2)) .nil)) b5b
def b6 : S := .ifs (.bop true (.cons (.cmp .notS (.idx (.var 3) (.con (.int 0))) (.con .non)) (.cons (.bop false (.cons (.not (.call 18 (.val (.idx (.idx (.var 4) (.con (.int 0))) (.con (.int 0))) .nil))) (.cons (.cmp .ne (.call 5 (.val (.idx (.var 3) (.con (.int 0))) .nil)) (.var 2)) .nil))) .nil))) (.cons (.ret (.con (.bl false))) .nil) .nil
def b7 : S := .ifs (.bop true (.cons (.cmp .notS (.idx (.var 3) (.con (.int 1))) (.con .non)) (.cons (.bop false (.cons (.not (.call 19 (.val (.idx (.idx (.var 4) (.con (.int 1))) (.con (.int 0))) .nil))) (.cons (.cmp .ne (.call 7 (.val (.idx (.var 3) (.con (.int 1))) .nil)) (.var 2)) .nil))) .nil))) (.cons (.ret (.con (.bl false))) .nil) .nil
theorem h_b1 (k : Nat) (ns : List Int) (hns : ns.length ≤ 63) {i : Int} (h0 : 0 ≤ i) (h1 : i < 64) (s2 s3 s4 s5 : Vm.Slot) : ∃ t, evS (run (tabOf dl) (k + 5)) b1 [] [.val (.sc ns), .val (.int i), s2, s3, s4, s5] = .next [.val (.sc ns), .val (.int i), .val t, s3, s4, s5] ∧ Txd t := by
  obtain ⟨d, e1, hd⟩ := r_draws (k + 4) ns hns h0 h1
  obtain ⟨d', t, e2, hd', ht⟩ := r_drawn (k + 1) hd
  have e1 : run (tabOf dl) (k + 5) 11 [.val (.sc ns), .val (.int i)] = .ret true d [] := e1
  have e2 : run (tabOf dl) (k + 5) 22 [.own d] = .ret false t [d'] := e2
  refine ⟨t, ?_, ht⟩
  simp [b1, doCall, ixs, AA.ix, List.filterMap_cons, fetch, e1, e2, putBack, frzA, frzS]
theorem h_b234 (k : Nat) (ns : List Int) (i : Int) {t : D} (ht : Txd t) (s3 s4 s5 : Vm.Slot) : ∃ D0 D1 F0 F1, (∀ r : Ss, evSs (run (tabOf dl) (k + 5)) (.cons b2 (.cons b3 (.cons b4 r))) [] [.val (.sc ns), .val (.int i), .val t, s3, s4, s5] = evSs (run (tabOf dl) (k + 5)) r [] [.val (.sc ns), .val (.int i), .val t, .own (.lst [D0, D1]), .own (.lst [F0, F1]), s5]) ∧ P0 t D0 F0 ∧ P1 t D1 F1 := by
  have non : ∀ t : D, (t = .non ∨ t = .int 7) → isiD t .str = some false → ∃ D0 D1 F0 F1, (∀ r : Ss, evSs (run (tabOf dl) (k + 5)) (.cons b2 (.cons b3 (.cons b4 r))) [] [.val (.sc ns), .val (.int i), .val t, s3, s4, s5] = evSs (run (tabOf dl) (k + 5)) r [] [.val (.sc ns), .val (.int i), .val t, .own (.lst [D0, D1]), .own (.lst [F0, F1]), s5]) ∧ P0 t D0 F0 ∧ P1 t D1 F1 := fun t ht hi => by
    have q0 : run (tabOf dl) (k + 5) 20 [.val (.int 0), .val t] = .ret false (.tup [.non, .lst onlyL]) [] := r_tried_x (k + 4) 0 t (.inl ⟨rfl, r_read_x (k + 2) t ht⟩)
    have q1 : run (tabOf dl) (k + 5) 20 [.val (.int 1), .val t] = .ret false (.tup [.non, .lst onlyL]) [] := r_tried_x (k + 4) 1 t (.inr ⟨rfl, r_rpoint_x (k + 2) t ht⟩)
    refine ⟨.non, .non, .tup [.non, .lst onlyL], .tup [.non, .lst onlyL], fun r => ?_, .inl ⟨rfl, rfl⟩, .inl ⟨rfl, rfl⟩⟩
    simp [b2, b3, b4, hi, doCall, ixs, AA.ix, List.filterMap_cons, fetch, q0, q1, putBack, frzA, frzS]
  rcases ht with rfl | rfl | ⟨a, rfl, ha⟩
  · exact non _ (.inl rfl) rfl
  · exact non _ (.inr rfl) rfl
  · have c14 : run (tabOf dl) (k + 5) 14 [.val (.str (S a))] = .ret false (fracD (frac a)) [] := r_lfrac (k + 3) a ha
    have c15 : run (tabOf dl) (k + 5) 15 [.val (.str (S a))] = .ret false (spotD (spot a)) [] := r_lpoint (k + 2) a ha
    have q0 : ∃ F0, run (tabOf dl) (k + 5) 20 [.val (.int 0), .val (.str (S a))] = .ret false F0 [] ∧ P0 (.str (S a)) (fracD (frac a)) F0 := by
      have h := r_read (k + 1) a ha
      unfold fracOut at h
      cases hf : frac a with
      | none =>
        rw [hf] at h
        exact ⟨_, r_tried_x (k + 4) 0 _ (.inl ⟨rfl, h⟩), .inl ⟨rfl, rfl⟩⟩
      | some x =>
        rw [hf] at h
        exact ⟨_, r_tried (k + 4) 0 _ (fracD (some x)) (.inl ⟨rfl, h, rfl⟩), .inr ⟨a, x, rfl, ha, hf, rfl, rfl⟩⟩
    have q1 : ∃ F1, run (tabOf dl) (k + 5) 20 [.val (.int 1), .val (.str (S a))] = .ret false F1 [] ∧ P1 (.str (S a)) (spotD (spot a)) F1 := by
      have h := r_rpoint k a ha
      unfold spotOut at h
      cases hf : spot a with
      | none =>
        rw [hf] at h
        exact ⟨_, r_tried_x (k + 4) 1 _ (.inr ⟨rfl, h⟩), .inl ⟨rfl, rfl⟩⟩
      | some x =>
        rw [hf] at h
        exact ⟨_, r_tried (k + 4) 1 _ (spotD (some x)) (.inr ⟨rfl, h, rfl⟩), .inr ⟨a, x, rfl, ha, hf, rfl, rfl⟩⟩
    obtain ⟨F0, q0, p0⟩ := q0
    obtain ⟨F1, q1, p1⟩ := q1
    refine ⟨fracD (frac a), spotD (spot a), F0, F1, fun r => ?_, p0, p1⟩
    simp [b2, b3, b4, isiD, doCall, ixs, AA.ix, List.filterMap_cons, fetch, c14, c15, q0, q1, putBack, frzA, frzS]
theorem eq_only : eqD (.tup [.non, .lst onlyL]) (.tup [.non, .lst onlyL]) = some true := by kernel_rfl
theorem eq_f (x : Int × Int) : eqD (.tup [fracD (some x), .lst []]) (.tup [fracD (some x), .lst []]) = some true := by
  show (if SeqAt.shaped (.tuple [.tuple [.int x.1, .int x.2], .list []]) = true ∧ SeqAt.shaped (.tuple [.tuple [.int x.1, .int x.2], .list []]) = true then some (((x.1 == x.1) && ((x.2 == x.2) && true)) && (true && true)) else none) = _
  rw [if_pos ⟨rfl, rfl⟩]
  simp
theorem eq_s (x : (Int × Int) × (Int × Int)) : eqD (.tup [spotD (some x), .lst []]) (.tup [spotD (some x), .lst []]) = some true := by
  show (if SeqAt.shaped (.tuple [.tuple [.tuple [.int x.1.1, .int x.1.2], .tuple [.int x.2.1, .int x.2.2]], .list []]) = true ∧ SeqAt.shaped (.tuple [.tuple [.tuple [.int x.1.1, .int x.1.2], .tuple [.int x.2.1, .int x.2.2]], .list []]) = true then some ((((x.1.1 == x.1.1) && ((x.1.2 == x.1.2) && true)) && (((x.2.1 == x.2.1) && ((x.2.2 == x.2.2) && true)) && true)) && (true && true)) else none) = _
  rw [if_pos ⟨rfl, rfl⟩]
  simp
theorem fracD_ne (x : Int × Int) : isNon (fracD (some x)) = false := rfl
theorem spotD_ne (x : (Int × Int) × (Int × Int)) : isNon (spotD (some x)) = false := rfl
theorem h_b5 (k : Nat) (s0 s1 : Vm.Slot) {t D0 D1 F0 F1 : D} (p0 : P0 t D0 F0) (p1 : P1 t D1 F1) (s5 : Vm.Slot) : ∃ s6, evS (run (tabOf dl) (k + 5)) b5 [] [s0, s1, .val t, .own (.lst [D0, D1]), .own (.lst [F0, F1]), s5] = .next [s0, s1, .val t, .own (.lst [D0, D1]), .own (.lst [F0, F1]), s6] := by
  have hs : evSrc (run (tabOf dl) (k + 5)) [] (.rng (.cons (.con (.int 2)) .nil)) [s0, s1, .val t, .own (.lst [D0, D1]), .own (.lst [F0, F1]), s5] = .ok (.st [.int 0, .int 1]) [s0, s1, .val t, .own (.lst [D0, D1]), .own (.lst [F0, F1]), s5] := by
    simp [evSrc, rngOk, rng_one (n := 2) (by decide) (by decide)]
    rfl
  have lp := st_loop_st (tp := false) (ts := [5]) (b := b5b) hs
  refine ⟨.val (.int 1), ?_⟩
  unfold b5
  rw [lp]
  have ro := r_only (k + 4)
  have ro : run (tabOf dl) (k + 5) 16 [.val (.str "text")] = .ret true (.lst onlyL) [] := ro
  have turn0 : evSs (run (tabOf dl) (k + 5)) b5b [] [s0, s1, .val t, .own (.lst [D0, D1]), .own (.lst [F0, F1]), .val (.int 0)] = .next [s0, s1, .val t, .own (.lst [D0, D1]), .own (.lst [F0, F1]), .val (.int 0)] := by
    rcases p0 with ⟨rfl, rfl⟩ | ⟨a, x, rfl, ha, hf, rfl, rfl⟩
    · simp [b5b, lst_at0, isNon, doCall, ixs, AA.ix, List.filterMap_cons, fetch, ro, putBack, frzA, eq_only]
    · simp [b5b, lst_at0, fracD_ne, eq_f]
  have turn1 : evSs (run (tabOf dl) (k + 5)) b5b [] [s0, s1, .val t, .own (.lst [D0, D1]), .own (.lst [F0, F1]), .val (.int 1)] = .next [s0, s1, .val t, .own (.lst [D0, D1]), .own (.lst [F0, F1]), .val (.int 1)] := by
    rcases p1 with ⟨rfl, rfl⟩ | ⟨a, x, rfl, ha, hf, rfl, rfl⟩
    · simp [b5b, lst_at1, isNon, doCall, ixs, AA.ix, List.filterMap_cons, fetch, ro, putBack, frzA, eq_only]
    · simp [b5b, lst_at1, spotD_ne, eq_s]
  simp [forS, stoT, turn0, turn1]
theorem h_b6 (k : Nat) (s0 s1 s5 : Vm.Slot) {t D0 D1 F0 F1 : D} (p0 : P0 t D0 F0) : evS (run (tabOf dl) (k + 5)) b6 [] [s0, s1, .val t, .own (.lst [D0, D1]), .own (.lst [F0, F1]), s5] = .next [s0, s1, .val t, .own (.lst [D0, D1]), .own (.lst [F0, F1]), s5] := by
  rcases p0 with ⟨rfl, rfl⟩ | ⟨a, x, rfl, ha, hf, rfl, rfl⟩
  · simp [b6, lst_at0, isNon]
  · have c18 : run (tabOf dl) (k + 5) 18 [.val (fracD (some x))] = .ret false (.bl true) [] := r_isfrac (k + 3) a (x := x.1) (y := x.2) hf
    have c5 : run (tabOf dl) (k + 5) 5 [.val (fracD (some x))] = .ret false (.str (S a)) [] := r_show (k + 4) a ha (x := x.1) (y := x.2) hf
    have eq : eqD (.str (S a)) (.str (S a)) = some true := by rw [eq_str ha.ok ha.ok]; simp
    simp [b6, lst_at0, fracD_ne, pair_at0, doCall, ixs, AA.ix, List.filterMap_cons, fetch, c18, c5, putBack, frzA, eq]
theorem h_b7 (k : Nat) (s0 s1 s5 : Vm.Slot) {t D0 D1 F0 F1 : D} (p1 : P1 t D1 F1) : evS (run (tabOf dl) (k + 5)) b7 [] [s0, s1, .val t, .own (.lst [D0, D1]), .own (.lst [F0, F1]), s5] = .next [s0, s1, .val t, .own (.lst [D0, D1]), .own (.lst [F0, F1]), s5] := by
  rcases p1 with ⟨rfl, rfl⟩ | ⟨a, x, rfl, ha, hf, rfl, rfl⟩
  · simp [b7, lst_at1, isNon]
  · have c19 : run (tabOf dl) (k + 5) 19 [.val (spotD (some x))] = .ret false (.bl true) [] := r_isspot (k + 2) a (x := x.1) (y := x.2) hf
    have c7 : run (tabOf dl) (k + 5) 7 [.val (spotD (some x))] = .ret false (.str (S a)) [] := r_show2 (k + 3) a ha (x := x.1) (y := x.2) hf
    have eq : eqD (.str (S a)) (.str (S a)) = some true := by rw [eq_str ha.ok ha.ok]; simp
    simp [b7, lst_at1, spotD_ne, pair_at0, doCall, ixs, AA.ix, List.filterMap_cons, fetch, c19, c7, putBack, frzA, eq]
def lawB : Ss := .cons b1 (.cons b2 (.cons b3 (.cons b4 (.cons b5 (.cons b6 (.cons b7 .nil))))))
theorem law_loop (k : Nat) (ns : List Int) (hns : ns.length ≤ 63) : ∀ (L : List D) (s1 s2 s3 s4 s5 : Vm.Slot), (∀ x ∈ L, ∃ i : Int, x = .int i ∧ 0 ≤ i ∧ i < 64) → ∃ s1' s2' s3' s4' s5', forS (run (tabOf dl) (k + 5)) [] false [1] lawB L [.val (.sc ns), s1, s2, s3, s4, s5] = .next [.val (.sc ns), s1', s2', s3', s4', s5']
  | [], s1, s2, s3, s4, s5, _ => ⟨s1, s2, s3, s4, s5, rfl⟩
  | x :: L, s1, s2, s3, s4, s5, h => by
    obtain ⟨i, rfl, h0, h1⟩ := h x List.mem_cons_self
    obtain ⟨t, e1, ht⟩ := h_b1 k ns hns h0 h1 s2 s3 s4 s5
    obtain ⟨D0, D1, F0, F1, e2, p0, p1⟩ := h_b234 k ns i ht s3 s4 s5
    obtain ⟨s6, e5⟩ := h_b5 k (.val (.sc ns)) (.val (.int i)) p0 p1 s5
    have e6 := h_b6 k (.val (.sc ns)) (.val (.int i)) s6 (D1 := D1) (F1 := F1) p0
    have e7 := h_b7 k (.val (.sc ns)) (.val (.int i)) s6 (D0 := D0) (F0 := F0) p1
    obtain ⟨a1, a2, a3, a4, a5, ih⟩ := law_loop k ns hns L (.val (.int i)) (.val t) (.own (.lst [D0, D1])) (.own (.lst [F0, F1])) s6 fun x hx => h x (List.mem_cons_of_mem _ hx)
    refine ⟨a1, a2, a3, a4, a5, ?_⟩
    have turn : evSs (run (tabOf dl) (k + 5)) lawB [] [.val (.sc ns), .val (.int i), s2, s3, s4, s5] = .next [.val (.sc ns), .val (.int i), .val t, .own (.lst [D0, D1]), .own (.lst [F0, F1]), s6] := by
      unfold lawB
      rw [ss1, e1, sr1, e2, ss1, e5, sr1, ss1, e6, sr1, ss1, e7, sr1, ss0]
    simp only [forS, stoT, sto_cons]
    simp [turn, ih]
theorem r_law (ns : List Int) (hns : ns.length ≤ 63) : run (tabOf dl) 20 23 [.val (.sc ns)] = .ret false (.bl true) [] := by
  show run (tabOf dl) (19 + 1) 23 [.val (.sc ns)] = _
  rw [t23]
  have hs : ∃ m : Nat, m ≤ 64 ∧ evSrc (run (tabOf dl) 19) [] (.rng (.cons (.bi .max (.cons (.con (.int 1)) (.cons (.bi .min (.cons (.con (.int 40)) (.cons (.bi .len (.cons (.var 0) .nil)) .nil))) .nil))) .nil)) [.val (.sc ns), .emp, .emp, .emp, .emp, .emp] = .ok (.st (rngL 0 m)) [.val (.sc ns), .emp, .emp, .emp, .emp, .emp] := by
    have bl : biLen [.sc ns] = some (.int (ns.length : Nat)) := rfl
    have bm : biMin [.int 40, .int (ns.length : Nat)] = some (.int (if ((ns.length : Nat) : Int) < 40 then ((ns.length : Nat) : Int) else 40)) := rfl
    generalize hv : (if ((ns.length : Nat) : Int) < 40 then ((ns.length : Nat) : Int) else 40) = v at bm
    have hv1 : v ≤ 40 := by rw [← hv]; split <;> omega
    have bM : biMax [.int 1, .int v] = some (.int (if v > 1 then v else 1)) := rfl
    generalize hu : (if v > 1 then v else 1) = u at bM
    have hu1 : 1 ≤ u ∧ u ≤ 40 := by rw [← hu]; split <;> omega
    refine ⟨u.toNat, by omega, ?_⟩
    simp [evSrc, biD, bl, bm, bM, rngOk, rng_one (show (0 : Int) ≤ u by omega) (by omega)]
  obtain ⟨m, hm, hs⟩ := hs
  have lp := st_loop_st (tp := false) (ts := [1]) (b := lawB) hs
  obtain ⟨s1, s2, s3, s4, s5, e⟩ := law_loop 14 ns hns (rngL 0 m) .emp .emp .emp .emp .emp fun x hx => by
    unfold rngL at hx
    obtain ⟨i, hi, rfl⟩ := List.mem_map.mp hx
    have := List.mem_range.mp hi
    exact ⟨_, rfl, by omega, by omega⟩
  have e : forS (run (tabOf dl) 19) [] false [1] lawB (rngL 0 m) [.val (.sc ns), .emp, .emp, .emp, .emp, .emp] = .next [.val (.sc ns), s1, s2, s3, s4, s5] := e
  rw [e] at lp
  unfold lawB b1 b2 b3 b4 b5 b5b b6 b7 at lp
  simp only [f_law, runFn, params, refsOf, List.length_cons, List.length_nil, List.replicate, Option.map, List.cons_append, List.nil_append, Nat.reduceSub, Nat.reduceAdd, ss1, lp, sr1]
  simp [outs]
theorem holds : PySem.Challenge.rw_roofweb_k91_numbers_and_spots_read.Holds := law_end r_law
end L91

theorem PySem.Challenge.cw_roofweb_k91_numbers_and_spots_read_holds : PySem.Challenge.rw_roofweb_k91_numbers_and_spots_read.Holds := by
  exact L91.law_end L91.r_law

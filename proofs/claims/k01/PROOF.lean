import PyProof.Rows.All
import Wide.All
import OpenK.AllK
import Wide.FinOn
import HandS.ForMost
import HandS.ForExc
import HandS.TryMany
import HandS.IsInst
import HandS.TupAny
import HandS.TupLe
import HandS.TupMul
import HandS.CallSlots
import HandS.Star
import HandS.Style
import HandS.More
import HandS.FStr
import HandS.Small
import HandS.ExcInit
import HandS.ExcOwn
import HandS.WordsExc
import HandS.SetFor
import HandS.Strs
import KE.KStateDown
import HandS.Defaults
import HandS.Head0
import HandS.Head1
import HandS.Head2
import HandS.HeadEnd
import HandS.HeadHook1
import HandS.HeadHook2
import HandS.HeadHook3
import HandS.HeadHook4
import PyProof.ExcBaseAll.ValueError
import PySem.Challenge.RW_likeshapes_k01_whole_shapes
/-! LkA: a small Python, without positions, and what it answers. Values are plain data; what is changed by reference lies in a store. -/
set_option autoImplicit false
set_option linter.all false
namespace Lk

/-- a text: its code points -/
abbrev Sn := List Nat

inductive Val where
  | non
  | bl (b : Bool)
  | int (i : Int)
  | str (s : Sn)
  | tup (xs : List Val)
  | lst (xs : List Val)
  | dct (kvs : List (Val × Val))
  | ref (n : Nat)
  /-- the script: a list that is only walked -/
  | scr (ns : List Int)
  deriving Inhabited

inductive Bop where
  | add | sub | mul | fdv | mod | pow
  deriving DecidableEq
inductive Cop where
  | eq | ne | lt | le | gt | ge | isin | notin | is_ | isnot
  deriving DecidableEq
inductive Ty where
  | tint | tbool | tstr | ttup | tlst | tdct
  deriving DecidableEq
inductive Bi where
  | len | all | sorted | srtset | list | tuple | dict | max | min | abs | int | lrange | lzip | dzip
  deriving DecidableEq
/-- what a loop walks -/
inductive Ik where
  | ex | rng1 | rng2 | rng3 | zip | enum
  deriving DecidableEq
/-- a target: a name, or a tuple of names -/
inductive Tg where
  | nm (i : Nat)
  | tp (is : List Nat)
  deriving DecidableEq

inductive Ex where
  | var (i : Nat)
  | glb (g : Nat)
  | cst (v : Val)
  | neg (i : Nat)
  | tup (es : List Ex)
  | lst (es : List Ex)
  | star (e : Ex)
  | dct (es : List Ex)
  | dctS (d k v : Ex)
  | bin (op : Bop) (a b : Ex)
  | cmp (op : Cop) (a b : Ex)
  | cmp2 (o1 o2 : Cop) (a b c : Ex)
  | and (es : List Ex)
  | or (es : List Ex)
  | not (a : Ex)
  | ife (c a b : Ex)
  | call (f : Nat) (es : List Ex)
  | make (c : Nat) (es : List Ex)
  | meth (o : Ex) (m : Nat) (es : List Ex)
  | attr (o : Ex) (f : Nat)
  | prop (o : Ex) (f : Nat)
  | bi (b : Bi) (es : List Ex)
  | isi (e : Ex) (ts : List Ty)
  | isc (e : Ex) (c : Nat)
  | sub (o i : Ex)
  | gsub (g : Nat) (i : Ex)
  | gnin (g : Nat) (i : Ex)
  | slc (o a b : Ex)
  | slcL (o a : Ex)
  | slcR (o b : Ex)
  | rev (o : Ex)
  | lc (e : Ex) (tg : Tg) (k : Ik) (args : List Ex) (cs : List Ex)
  | lc2 (e : Ex) (tg : Tg) (k : Ik) (args : List Ex) (tg2 : Tg) (k2 : Ik) (args2 : List Ex) (cs : List Ex)
  | dc (k v : Ex) (i : Nat) (it : Ex) (cs : List Ex)
  | fstr (es : List Ex)
  | get (d k v : Ex)
  | pop (o i : Ex)
  | lenO (e : Ex)
  | inO (a b : Ex)
  | eqO (ng : Bool) (a b : Ex)
  /-- what is never come to -/
  | hole
  deriving Inhabited

/-- what an except suite says -/
inductive Hx where
  | cst (v : Val)
  | inc (i : Nat) (k : Int)
  | fld (f : Nat)
  | tagf (s : Sn) (f : Nat)
  | ifn (f : Nat) (a b : Sn)
inductive Hs where
  | asg (i : Nat) (h : Hx)
  | app (i : Nat) (h : Hx)
/-- except (class) as (slot): suite -/
structure Hd where
  cls : Nat
  as : Option Nat
  suite : Hs

inductive Sm where
  | asg (i : Nat) (e : Ex)
  | asgB (i : Nat) (e : Ex)
  | asgP (is : List Nat) (es : List Ex)
  | unp (is : List Nat) (e : Ex)
  | app (o : Ex) (e : Ex)
  | ext (i : Nat) (e : Ex)
  | rem (i : Nat) (e : Ex)
  | updt (i : Nat) (e : Ex)
  | put (o k e : Ex)
  | fld (o : Ex) (f : Nat) (e : Ex)
  | fldB (o : Ex) (f : Nat) (e : Ex)
  | fldA (o : Ex) (f : Nat) (neg : Bool) (e : Ex)
  | ex (e : Ex)
  | ret (e : Ex)
  | retV (i : Nat)
  | ife (c : Ex) (a b : List Sm)
  | for_ (tg : Tg) (k : Ik) (args : List Ex) (body : List Sm)
  | forO (tg : Tg) (i : Nat) (body : List Sm)
  | whl (c : Ex) (body : List Sm)
  | rse (c : Nat) (es : List Ex)
  | try_ (body : List Sm) (hs : List Hd)
  | fz (is : List Nat)
  | popA (i j : Nat)
  | dpopA (i j : Nat) (k : Ex)
  | hole
  deriving Inhabited

structure Fd where
  np : Nat
  ns : Nat
  body : List Sm

inductive Ob where
  | lst (xs : List Val)
  | dct (kvs : List (Val × Val))
  | ins (c : Nat) (fs : List (Nat × Val))
  deriving Inhabited
abbrev Store := List Ob
/-- a slot: whether it holds a list or dict of its own that no one else knows, and the value -/
abbrev Slot := Option (Bool × Val)
abbrev Env := List Slot
abbrev Rv := Bool × Val

inductive Res (α : Type) where
  | ok (a : α) (st : Store)
  | exc (c : Nat) (fs : List (Nat × Val)) (st : Store)
  | bad
def Res.bind {α β : Type} (r : Res α) (f : α → Store → Res β) : Res β :=
  match r with
  | .ok a st => f a st
  | .exc c fs st => .exc c fs st
  | .bad => .bad
@[simp] theorem Res.bind_ok {α β : Type} (a : α) (st : Store) (f : α → Store → Res β) : (Res.ok a st).bind f = f a st := rfl
@[simp] theorem Res.bind_exc {α β : Type} (c : Nat) (fs : List (Nat × Val)) (st : Store) (f : α → Store → Res β) : (Res.exc c fs st : Res α).bind f = .exc c fs st := rfl
@[simp] theorem Res.bind_bad {α β : Type} (f : α → Store → Res β) : (Res.bad : Res α).bind f = .bad := rfl
/-- an exception may not leave a comprehension -/
def Res.noX {α : Type} (r : Res α) : Res α :=
  match r with
  | .exc _ _ _ => .bad
  | r => r
@[simp] theorem Res.noX_ok {α : Type} (a : α) (st : Store) : (Res.ok a st).noX = .ok a st := rfl
@[simp] theorem Res.noX_exc {α : Type} (c : Nat) (fs : List (Nat × Val)) (st : Store) : (Res.exc c fs st : Res α).noX = .bad := rfl
@[simp] theorem Res.noX_bad {α : Type} : (Res.bad : Res α).noX = .bad := rfl
def Res.of {α : Type} (o : Option α) (st : Store) : Res α :=
  match o with
  | some a => .ok a st
  | none => .bad
@[simp] theorem Res.of_some {α : Type} (a : α) (st : Store) : Res.of (some a) st = .ok a st := rfl
@[simp] theorem Res.of_none {α : Type} (st : Store) : (Res.of none st : Res α) = .bad := rfl

inductive SRes where
  | nx (env : Env) (st : Store)
  | rt (r : Rv) (st : Store)
  | exc (c : Nat) (fs : List (Nat × Val)) (env : Env) (st : Store)
  | bad
def SRes.bind (r : SRes) (f : Env → Store → SRes) : SRes :=
  match r with
  | .nx env st => f env st
  | .rt r st => .rt r st
  | .exc c fs env st => .exc c fs env st
  | .bad => .bad
@[simp] theorem SRes.bind_nx (env : Env) (st : Store) (f : Env → Store → SRes) : (SRes.nx env st).bind f = f env st := rfl
@[simp] theorem SRes.bind_rt (r : Rv) (st : Store) (f : Env → Store → SRes) : (SRes.rt r st).bind f = .rt r st := rfl
@[simp] theorem SRes.bind_exc (c : Nat) (fs : List (Nat × Val)) (env : Env) (st : Store) (f : Env → Store → SRes) : (SRes.exc c fs env st).bind f = .exc c fs env st := rfl
@[simp] theorem SRes.bind_bad (f : Env → Store → SRes) : SRes.bad.bind f = .bad := rfl
/-- an expression's answer in a statement -/
def Res.inS {α : Type} (r : Res α) (env : Env) (f : α → Store → SRes) : SRes :=
  match r with
  | .ok a st => f a st
  | .exc c fs st => .exc c fs env st
  | .bad => .bad
@[simp] theorem Res.inS_ok {α : Type} (a : α) (st : Store) (env : Env) (f : α → Store → SRes) : (Res.ok a st).inS env f = f a st := rfl
@[simp] theorem Res.inS_exc {α : Type} (c : Nat) (fs : List (Nat × Val)) (st : Store) (env : Env) (f : α → Store → SRes) : (Res.exc c fs st : Res α).inS env f = .exc c fs env st := rfl
@[simp] theorem Res.inS_bad {α : Type} (env : Env) (f : α → Store → SRes) : (Res.bad : Res α).inS env f = .bad := rfl

def maxLen : Nat := 100000
def snOk (s : Sn) : Bool := decide (s.length ≤ maxLen) && s.all fun c => decide (c < 1114112)

/-- what is written down: no list, no object -/
def flat : Val → Val
  | .bl b => .bl b
  | .int i => .int i
  | .str s => .str s
  | _ => .non
@[simp] theorem flat_non : flat .non = .non := rfl
@[simp] theorem flat_bl (b : Bool) : flat (.bl b) = .bl b := rfl
@[simp] theorem flat_int (i : Int) : flat (.int i) = .int i := rfl
@[simp] theorem flat_str (s : Sn) : flat (.str s) = .str s := rfl

/-! ### == and < -/
def b2i (b : Bool) : Int := if b then 1 else 0
mutual
/-- == of plain data (none of an object) -/
def pyEq : Val → Val → Bool
  | .non, .non => true
  | .bl a, .bl b => a == b
  | .bl a, .int b => b2i a == b
  | .int a, .bl b => a == b2i b
  | .int a, .int b => a == b
  | .str a, .str b => a == b
  | .tup a, .tup b => pyEqs a b
  | .lst a, .lst b => pyEqs a b
  | .dct a, .dct b => a.length == b.length && pyEqd a b
  | _, _ => false
def pyEqs : List Val → List Val → Bool
  | [], [] => true
  | a :: r, b :: q => pyEq a b && pyEqs r q
  | _, _ => false
def pyEqd : List (Val × Val) → List (Val × Val) → Bool
  | [], _ => true
  | (k, v) :: r, b => (b.any fun p => (match k, p.1 with | .str x, .str y => x == y | .int x, .int y => x == y | _, _ => false) && pyEq v p.2) && pyEqd r b
end
mutual
/-- no objects within, no dicts -/
def plainD : Val → Bool
  | .ref _ => false
  | .scr _ => false
  | .tup a => plainDs a
  | .lst a => plainDs a
  | .dct _ => false
  | _ => true
def plainDs : List Val → Bool
  | [] => true
  | a :: r => plainD a && plainDs r
end
mutual
def dep : Val → Nat
  | .tup a => deps a + 1
  | .lst a => deps a + 1
  | _ => 0
def deps : List Val → Nat
  | [] => 0
  | a :: r => max (dep a) (deps r)
end
def eqOk (a b : Val) : Bool := plainD a && plainD b && (decide (dep a ≤ 150) || decide (dep b ≤ 150))
def ltOk (a : Val) : Bool := plainD a && decide (dep a ≤ 120)
def snLt : Sn → Sn → Bool
  | [], [] => false
  | [], _ :: _ => true
  | _ :: _, [] => false
  | a :: r, b :: q => if a = b then snLt r q else decide (a < b)
mutual
/-- <, where both are of one kind -/
def pyLt : Val → Val → Option Bool
  | .int a, .int b => some (decide (a < b))
  | .str a, .str b => some (snLt a b)
  | .tup a, .tup b => pyLts a b
  | _, _ => none
def pyLts : List Val → List Val → Option Bool
  | [], [] => some false
  | [], _ :: _ => some true
  | _ :: _, [] => some false
  | a :: r, b :: q => if pyEq a b then pyLts r q else pyLt a b
end

/-! ### places in a sequence -/
def ixOf (n : Nat) (i : Int) : Option Nat :=
  if 0 ≤ i then (if i < n then some i.toNat else none) else if -(n : Int) ≤ i then some (i + n).toNat else none
/-- a slice's end, clipped -/
def clip (n : Nat) (i : Int) : Nat :=
  if i < 0 then (i + n).toNat else if i < n then i.toNat else n
def cutL {α : Type} (xs : List α) (lo hi : Option Int) : List α :=
  let a := match lo with | none => 0 | some i => clip xs.length i
  let b := match hi with | none => xs.length | some i => clip xs.length i
  (xs.drop a).take (b - a)

/-! ### dicts: keys are ints, texts -/
def keyOk : Val → Bool
  | .int _ => true
  | .str _ => true
  | _ => false
def isStr : Val → Bool
  | .str _ => true
  | _ => false
def keyEq : Val → Val → Bool
  | .int a, .int b => a == b
  | .str a, .str b => a == b
  | _, _ => false
def dget : List (Val × Val) → Val → Option Val
  | [], _ => none
  | (k, v) :: r, x => if keyEq k x then some v else dget r x
/-- in its place, or at the end -/
def dput (d : List (Val × Val)) (x y : Val) : List (Val × Val) :=
  if d.any (fun p => keyEq p.1 x) then d.map (fun p => if keyEq p.1 x then (p.1, y) else p) else d ++ [(x, y)]
def dputs (d : List (Val × Val)) : List (Val × Val) → List (Val × Val)
  | [] => d
  | (k, v) :: r => dputs (dput d k v) r
def ddel (d : List (Val × Val)) (x : Val) : List (Val × Val) := d.filter fun p => !keyEq p.1 x
def pairUp : List Val → Option (List (Val × Val))
  | [] => some []
  | k :: v :: r => if keyOk k then (pairUp r).map ((k, v) :: ·) else none
  | _ => none
/-- dict(a list of pairs) -/
def pairsOf : List Val → Option (List (Val × Val))
  | [] => some []
  | .tup [k, v] :: r => if keyOk k then (pairsOf r).map ((k, v) :: ·) else none
  | _ => none

/-! ### looking through a reference -/
def asList (st : Store) : Val → Option (List Val)
  | .lst xs => some xs
  | .ref n => match st[n]? with | some (.lst xs) => some xs | _ => none
  | _ => none
def asDict (st : Store) : Val → Option (List (Val × Val))
  | .dct kvs => some kvs
  | .ref n => match st[n]? with | some (.dct kvs) => some kvs | _ => none
  | _ => none
def asIns (st : Store) : Val → Option (Nat × Nat × List (Nat × Val))
  | .ref n => match st[n]? with | some (.ins c fs) => some (n, c, fs) | _ => none
  | _ => none
/-- what a for walks -/
def itemsOf (st : Store) (v : Val) : Option (List Val) :=
  match v with
  | .tup xs => some xs
  | .dct kvs => some (kvs.map (·.1))
  | .lst xs => some xs
  | .ref n => match st[n]? with
    | some (.lst xs) => some xs
    | some (.dct kvs) => some (kvs.map (·.1))
    | _ => none
  | _ => none

/-- what a star takes apart -/
def seqOf (st : Store) (v : Val) : Option (List Val) :=
  match v with
  | .tup xs => some xs
  | .str s => some (s.map fun c => .str [c])
  | v => asList st v
/-- what a loop walks: plain values, never what may be changed meanwhile -/
def walkOf (v : Val) : Option (List Val) :=
  match v with
  | .tup xs => some xs
  | .str s => some (s.map fun c => .str [c])
  | .lst xs => some xs
  | .scr ns => some (ns.map .int)
  | _ => none

/-! ### operators -/
def small64 (i : Int) : Bool := decide (i.natAbs < 2 ^ 64)
def rept {α : Type} (xs : List α) : Nat → List α
  | 0 => []
  | n + 1 => xs ++ rept xs n
def binop (op : Bop) (st : Store) (a b : Val) : Option Rv :=
  match op, a, b with
  | .add, .int i, .int j => some (false, .int (i + j))
  | .add, .str x, .str y => if x.length + y.length ≤ maxLen then some (false, .str (x ++ y)) else none
  | .add, .tup x, .tup y => if x.length + y.length ≤ maxLen then some (false, .tup (x ++ y)) else none
  | .add, a, b => match asList st a, asList st b with
    | some x, some y => if x.length + y.length ≤ maxLen then some (true, .lst (x ++ y)) else none
    | _, _ => none
  | .sub, .int i, .int j => some (false, .int (i - j))
  | .mul, .int i, .int j => if small64 i || small64 j then some (false, .int (i * j)) else none
  | .fdv, .int i, .int j => if 0 < j && j < 1073741824 then some (false, .int (i / j)) else none
  | .mod, .int i, .int j => if 0 < j then some (false, .int (i % j)) else none
  | .pow, .int i, .int j => if 0 ≤ j && j ≤ 1000 && small64 i then some (false, .int (i ^ j.toNat)) else none
  | _, _, _ => none
def isIn (st : Store) (a b : Val) : Option Bool :=
  match b with
  | .str s => match a with
    | .str [c] => some (s.contains c)
    | _ => none
  | .tup xs => if xs.all (fun y => eqOk y a) then some (xs.any fun y => pyEq y a) else none
  | _ => match asList st b with
    | some xs => if xs.all (fun y => eqOk y a) then some (xs.any fun y => pyEq y a) else none
    | none => match asDict st b with
      | some kvs => if keyOk a then some (dget kvs a).isSome else none
      | none => none
def isNon : Val → Bool
  | .non => true
  | _ => false
def isBlV (c : Bool) : Val → Bool
  | .bl d => c == d
  | _ => false
def isOp (a b : Val) : Option Bool :=
  match b with
  | .non => some (isNon a)
  | .bl c => some (isBlV c a)
  | _ => none
def cmpop (op : Cop) (st : Store) (a b : Val) : Option Bool :=
  match op with
  | .eq => if eqOk a b then some (pyEq a b) else none
  | .ne => if eqOk a b then some (!pyEq a b) else none
  | .lt => if ltOk a && ltOk b then pyLt a b else none
  | .le => match a, b with | .int i, .int j => some (decide (i ≤ j)) | _, _ => none
  | .gt => match a, b with | .int i, .int j => some (decide (j < i)) | _, _ => none
  | .ge => match a, b with | .int i, .int j => some (decide (j ≤ i)) | _, _ => none
  | .isin => isIn st a b
  | .notin => (isIn st a b).map (!·)
  | .is_ => isOp a b
  | .isnot => (isOp a b).map (!·)
def subOp (st : Store) (o i : Val) : Option Val :=
  match o, i with
  | .tup xs, .int i => (ixOf xs.length i).bind fun j => xs[j]?
  | .str s, .int i => (ixOf s.length i).bind fun j => s[j]?.map fun c => .str [c]
  | .tup _, _ => none
  | .str _, _ => none
  | o, i => match asList st o with
    | some xs => (match i with | .int i => (ixOf xs.length i).bind fun j => xs[j]? | _ => none)
    | none => match asDict st o with
      | some kvs => if keyOk i then dget kvs i else none
      | none => none
def asInt : Val → Option Int
  | .int i => some i
  | _ => none
def slcI (st : Store) (o : Val) (lo hi : Option Int) : Option Rv :=
  match o with
  | .tup xs => some (false, .tup (cutL xs lo hi))
  | .str s => some (false, .str (cutL s lo hi))
  | o => (asList st o).map fun xs => (true, .lst (cutL xs lo hi))
def revOp (st : Store) (o : Val) : Option Rv :=
  match o with
  | .tup xs => some (false, .tup xs.reverse)
  | .str s => some (false, .str s.reverse)
  | o => (asList st o).map fun xs => (true, .lst xs.reverse)
inductive Tag where
  | non | bool | int | str | tup | lst | dct
  deriving DecidableEq
def tagOf (st : Store) : Val → Option Tag
  | .non => some .non
  | .bl _ => some .bool
  | .int _ => some .int
  | .str _ => some .str
  | .tup _ => some .tup
  | .lst _ => some .lst
  | .scr _ => some .lst
  | .dct _ => some .dct
  | .ref n => match st[n]? with
    | some (.lst _) => some .lst
    | some (.dct _) => some .dct
    | _ => none
def isTag : Tag → Ty → Bool
  | .int, .tint => true
  | .bool, .tint => true
  | .bool, .tbool => true
  | .str, .tstr => true
  | .tup, .ttup => true
  | .lst, .tlst => true
  | .dct, .tdct => true
  | _, _ => false

/-! ### sorted -/
/-- before the first that is not less -/
def insV (x : Val) : List Val → Option (List Val)
  | [] => some [x]
  | y :: r => (pyLt y x).bind fun b => if b then (insV x r).map (y :: ·) else some (x :: y :: r)
def sortV : List Val → Option (List Val)
  | [] => some []
  | x :: r => (sortV r).bind (insV x)
/-- each once, of texts -/
def dedup : List Val → List Val
  | [] => []
  | x :: r => if (dedup r).any (fun y => pyEq y x) then dedup r else x :: dedup r
def allStr : List Val → Bool
  | [] => true
  | .str _ :: r => allStr r
  | _ => false
mutual
/-- texts, and tuples of such -/
def shp : Val → Bool
  | .str _ => true
  | .tup xs => shps xs
  | _ => false
def shps : List Val → Bool
  | [] => true
  | x :: r => shp x && shps r
end
/-- tuples that begin with a text -/
def allShp : List Val → Bool
  | [] => true
  | .tup (.str _ :: q) :: r => shps q && allShp r
  | _ => false
def isT : Option Bool → Bool
  | some true => true
  | _ => false
def isF : Option Bool → Bool
  | some false => true
  | _ => false
/-- each is the next ones' like, or less -/
def srtB : List Val → Bool
  | [] => true
  | x :: r => r.all (fun y => pyEq x y || isT (pyLt x y) && isF (pyLt y x)) && srtB r
def sortable (xs : List Val) : Bool := (allStr xs || allShp xs) && decide (xs.length < 64)
def sortC (xs : List Val) : Option (List Val) := (sortV xs).bind fun ys => if srtB ys then some ys else none
def allBl : List Val → Option Bool
  | [] => some true
  | .bl b :: r => (allBl r).map (b && ·)
  | _ => none
def maxI : List Val → Option Int
  | [] => none
  | [.int i] => some i
  | .int i :: r => (maxI r).map fun j => if i < j then j else i
  | _ => none
def minI : List Val → Option Int
  | [] => none
  | [.int i] => some i
  | .int i :: r => (minI r).map fun j => if j < i then j else i
  | _ => none
def zipV : List Val → List Val → List Val
  | a :: r, b :: q => .tup [a, b] :: zipV r q
  | _, _ => []
def rangeV (lo : Int) : Nat → List Val
  | 0 => []
  | n + 1 => .int lo :: rangeV (lo + 1) n
def rangeS (lo : Int) (c : Int) : Nat → List Val
  | 0 => []
  | n + 1 => .int lo :: rangeS (lo + c) c n
def enumV (i : Int) : List Val → List Val
  | [] => []
  | x :: r => .tup [.int i, x] :: enumV (i + 1) r
def biOp (b : Bi) (st : Store) (vs : List Val) : Option Rv :=
  match b, vs with
  | .len, [.tup xs] => some (false, .int xs.length)
  | .len, [.str s] => some (false, .int s.length)
  | .len, [v] => match asList st v with
    | some xs => some (false, .int xs.length)
    | none => (asDict st v).map fun kvs => (false, .int kvs.length)
  | .all, [v] => (asList st v).bind fun xs => (allBl xs).map fun b => (false, .bl b)
  | .sorted, [v] => (asList st v).bind fun xs => if sortable xs && xs.all ltOk then (sortC xs).map fun ys => (true, .lst ys) else none
  | .srtset, [v] => (asList st v).bind fun xs => if allStr xs && decide (xs.length < 64) then (sortC (dedup xs)).map fun ys => (true, .lst ys) else none
  | .list, [v] => (itemsOf st v).map fun xs => (true, .lst xs)
  | .tuple, [.tup xs] => some (false, .tup xs)
  | .tuple, [v] => (asList st v).map fun xs => (false, .tup xs)
  | .dict, [v] => match asDict st v with
    | some kvs => some (true, .dct kvs)
    | none => (asList st v).bind fun xs => (pairsOf xs).map fun kvs => (true, .dct (dputs [] kvs))
  | .max, [.int a, .int b] => some (false, .int (if a < b then b else a))
  | .max, [v] => (asList st v).bind fun xs => (maxI xs).map fun i => (false, .int i)
  | .min, [.int a, .int b] => some (false, .int (if b < a then b else a))
  | .min, [v] => (asList st v).bind fun xs => (minI xs).map fun i => (false, .int i)
  | .abs, [.int a] => some (false, .int (if a < 0 then -a else a))
  | .int, [.int a] => some (false, .int a)
  | .int, [.bl b] => some (false, .int (b2i b))
  | .lrange, [.int n] => if n ≤ 100000 then some (true, .lst (rangeV 0 n.toNat)) else none
  | .lzip, [a, b] => (itemsOf st a).bind fun xs => (itemsOf st b).map fun ys => (true, .lst (zipV xs ys))
  | .dzip, [a, b] => (itemsOf st a).bind fun xs => (itemsOf st b).bind fun ys => (pairsOf (zipV xs ys)).map fun kvs => (true, .dct (dputs [] kvs))
  | _, _ => none
def itOp (k : Ik) (st : Store) (vs : List Val) : Option (List Val) :=
  match k, vs with
  | .ex, [v] => walkOf v
  | .rng1, [.int n] => if -100000 ≤ n && n ≤ 100000 then some (rangeV 0 n.toNat) else none
  | .rng2, [.int a, .int b] => if -100000 ≤ a && a ≤ 100000 && -100000 ≤ b && b ≤ 100000 then some (rangeV a (b - a).toNat) else none
  | .rng3, [.int a, .int b, .int c] => if 0 ≤ a && a ≤ b && b ≤ 100000 && 0 < c && c ≤ 100000 then some (rangeS a c ((b - a + c - 1) / c).toNat) else none
  | .zip, [a, b] => (walkOf a).bind fun xs => (walkOf b).map fun ys => zipV xs ys
  | .enum, [a] => (walkOf a).map fun xs => enumV 0 xs
  | _, _ => none

/-! ### targets -/
def setTs : List Nat → List Val → Env → Option Env
  | [], [], env => some env
  | i :: is, v :: vs, env => setTs is vs (env.set i (some (false, v)))
  | _, _, _ => none
def setTg (tg : Tg) (v : Val) (env : Env) : Option Env :=
  match tg with
  | .nm i => some (env.set i (some (false, v)))
  | .tp is => match v with
    | .tup vs => setTs is vs env
    | _ => none
def asStr : Val → Option Sn
  | .str s => some s
  | _ => none

/-- one turn of a comprehension -/
def bodyL (tg : Tg) (fc : Env → Store → Res Bool) (fe : Env → Store → Res Rv) (env : Env) (x : Val) (st : Store) : Res (List Val) :=
  match setTg tg x env with
  | none => .bad
  | some env' => (fc env' st).bind fun b st => if b then (fe env' st).bind fun v st => .ok [v.2] st else .ok [] st
/-! ### loops -/
def lcLoop (f : Val → Store → Res (List Val)) : List Val → Store → Res (List Val)
  | [], st => .ok [] st
  | x :: r, st => (f x st).bind fun ys st => (lcLoop f r st).bind fun zs st => .ok (ys ++ zs) st
def dcLoop (f : Val → Store → Res (Option (Val × Val))) : List Val → List (Val × Val) → Store → Res (List (Val × Val))
  | [], acc, st => .ok acc st
  | x :: r, acc, st => (f x st).bind fun o st => match o with
    | some (k, v) => dcLoop f r (dput acc k v) st
    | none => dcLoop f r acc st
def forLoop (tg : Tg) (body : Env → Store → SRes) : List Val → Env → Store → SRes
  | [], env, st => .nx env st
  | x :: r, env, st => match setTg tg x env with
    | none => .bad
    | some env => (body env st).bind fun env st => forLoop tg body r env st
/-- over a list in the store, as it stands at each turn -/
def refLoop (tg : Tg) (body : Env → Store → SRes) (n : Nat) : Nat → Nat → Env → Store → SRes
  | _, 0, _, _ => .bad
  | i, f + 1, env, st => match st[n]? with
    | some (.lst xs) => match xs[i]? with
      | none => .nx env st
      | some x => match setTg tg x env with
        | none => .bad
        | some env => (body env st).bind fun env st => refLoop tg body n (i + 1) f env st
    | _ => .bad
def whlLoop (c : Env → Store → Res Bool) (body : Env → Store → SRes) : Nat → Env → Store → SRes
  | 0, _, _ => .bad
  | n + 1, env, st => (c env st).inS env fun b st => if b then (body env st).bind fun env st => whlLoop c body n env st else .nx env st

structure Cfg where
  fn : Nat → Option Fd
  glb : Nat → Option Val
  gdc : Nat → Option (List (Val × Val))
  init : Nat → Option Nat
  meth : Nat → Nat → Option Nat
  prop : Nat → Nat → Option Nat
  /-- the fields of a class -/
  fld : Nat → Nat → Bool
  xf : Nat → Option (Option Nat)
abbrev CallF := Nat → List Val → Store → Res Rv

section
variable (C : Cfg) (cal mk : CallF)
/-- an operand that is only looked at -/
def peek (i : Nat) (env : Env) (st : Store) : Res Val :=
  match env[i]? with
  | some (some (false, v)) => .ok v st
  | some (some (true, .lst xs)) => .ok (.lst xs) st
  | some (some (true, .dct xs)) => .ok (.dct xs) st
  | _ => .bad
def asBl : Rv → Option Bool
  | (_, .bl b) => some b
  | _ => none
def makeOp (c : Nat) (vs : List Val) (st : Store) : Res Rv :=
  match C.init c with
  | none => .bad
  | some f => (mk f (.ref st.length :: vs) (st ++ [.ins c []])).bind fun r st' => match r with
    | (_, .non) => .ok (false, .ref st.length) st'
    | _ => .bad
/-- the method's def and the object, ahead of the arguments -/
def methOf (o : Val) (m : Nat) (st : Store) : Option (Nat × Nat) :=
  match asIns st o with
  | some (n, c, fs) => match C.meth c m, fs.lookup m with
    | some f, none => some (f, n)
    | _, _ => none
  | none => none
def methOp (o : Val) (m : Nat) (vs : List Val) (st : Store) : Res Rv :=
  match methOf C o m st with
  | some (f, n) => cal f (.ref n :: vs) st
  | none => .bad
def popOp (o i : Val) (st : Store) : Res Rv :=
  match o, i with
  | .ref n, .int i => match st[n]? with
    | some (.lst xs) => match ixOf xs.length i with
      | some j => match xs[j]? with
        | some v => .ok (false, v) (st.set n (.lst (xs.eraseIdx j)))
        | none => .bad
      | none => .bad
    | _ => .bad
  | _, _ => .bad
/-- an operand: a name is only looked at -/
def opF (e : Ex) (f : Env → Store → Res Rv) (env : Env) (st : Store) : Res Val :=
  match e with
  | .var i => peek i env st
  | _ => (f env st).bind fun v st => .ok v.2 st
mutual
def ev : Ex → Env → Store → Res Rv
  | .var i, env, st => match env[i]? with
    | some (some (false, v)) => .ok (false, v) st
    | _ => .bad
  | .glb g, _, st => Res.of ((C.glb g).map fun v => (false, v)) st
  | .cst v, _, st => .ok (false, flat v) st
  | .neg i, _, st => .ok (false, .int (-(i : Int))) st
  | .tup es, env, st => (evs es env st).bind fun vs st => .ok (false, .tup vs) st
  | .lst es, env, st => (evs es env st).bind fun vs st => .ok (true, .lst vs) st
  | .star _, _, _ => .bad
  | .hole, _, _ => .bad
  | .dct es, env, st => (evs es env st).bind fun vs st => Res.of ((pairUp vs).map fun kvs => (true, .dct (dputs [] kvs))) st
  | .dctS d k v, env, st => (opF d (fun env st => ev d env st) env st).bind fun d st => (ev k env st).bind fun k st => (ev v env st).bind fun v st =>
    Res.of ((asDict st d).bind fun kvs => if keyOk k.2 && kvs.length < maxLen then some (true, .dct (dput kvs k.2 v.2)) else none) st
  | .bin op a b, env, st => (opF a (fun env st => ev a env st) env st).bind fun x st => (opF b (fun env st => ev b env st) env st).bind fun y st => Res.of (binop op st x y) st
  | .cmp op a b, env, st => (opF a (fun env st => ev a env st) env st).bind fun x st => (opF b (fun env st => ev b env st) env st).bind fun y st => Res.of ((cmpop op st x y).map fun b => (false, .bl b)) st
  | .cmp2 o1 o2 a b c, env, st => (opF a (fun env st => ev a env st) env st).bind fun x st => (opF b (fun env st => ev b env st) env st).bind fun y st => (Res.of (cmpop o1 st x y) st).bind fun r st =>
    if r then (opF c (fun env st => ev c env st) env st).bind fun z st => Res.of ((cmpop o2 st y z).map fun b => (false, .bl b)) st else .ok (false, .bl false) st
  | .and es, env, st => evAnd es env st
  | .or es, env, st => evOr es env st
  | .not a, env, st => (ev a env st).bind fun v st => Res.of ((asBl v).map fun b => (false, .bl (!b))) st
  | .ife c a b, env, st => (ev c env st).bind fun v st => (Res.of (asBl v) st).bind fun b' st => if b' then ev a env st else ev b env st
  | .call f es, env, st => (evs es env st).bind fun vs st => cal f vs st
  | .make c es, env, st => (evs es env st).bind fun vs st => makeOp C mk c vs st
  | .meth o m es, env, st => (opF o (fun env st => ev o env st) env st).bind fun o st => (Res.of (methOf C o m st) st).bind fun p st => (evs es env st).bind fun vs st => cal p.1 (.ref p.2 :: vs) st
  | .attr o f, env, st => (opF o (fun env st => ev o env st) env st).bind fun o st => Res.of ((asIns st o).bind fun p => if C.fld p.2.1 f then (p.2.2.lookup f).map fun v => (false, v) else none) st
  | .prop o f, env, st => (opF o (fun env st => ev o env st) env st).bind fun o st => match asIns st o with
    | some (n, c, _) => match C.prop c f with
      | some g => cal g [.ref n] st
      | none => .bad
    | none => .bad
  | .bi b es, env, st => (opds es env st).bind fun vs st => Res.of (biOp b st vs) st
  | .isi e ts, env, st => (opF e (fun env st => ev e env st) env st).bind fun v st => Res.of ((tagOf st v).map fun t => (false, .bl (ts.any (isTag t)))) st
  | .isc e c, env, st => (opF e (fun env st => ev e env st) env st).bind fun v st => .ok (false, .bl (match asIns st v with | some (_, c', _) => c' == c | none => false)) st
  | .sub o i, env, st => (opF o (fun env st => ev o env st) env st).bind fun o st => (ev i env st).bind fun i st => Res.of ((subOp st o i.2).map fun v => (false, v)) st
  | .gsub g i, env, st => match C.gdc g with
    | none => .bad
    | some kvs => (ev i env st).bind fun i st => Res.of (if keyOk i.2 then (dget kvs i.2).map fun v => (false, v) else none) st
  | .gnin g i, env, st => match C.gdc g with
    | none => .bad
    | some kvs => (ev i env st).bind fun i st => Res.of (if isStr i.2 then some (false, .bl (!(dget kvs i.2).isSome)) else none) st
  | .slc o a b, env, st => (opF o (fun env st => ev o env st) env st).bind fun o st => (ev a env st).bind fun a st => (Res.of (asInt a.2) st).bind fun i st =>
    (ev b env st).bind fun b st => (Res.of (asInt b.2) st).bind fun j st => Res.of (slcI st o (some i) (some j)) st
  | .slcL o a, env, st => (opF o (fun env st => ev o env st) env st).bind fun o st => (ev a env st).bind fun a st => (Res.of (asInt a.2) st).bind fun i st => Res.of (slcI st o (some i) none) st
  | .slcR o b, env, st => (opF o (fun env st => ev o env st) env st).bind fun o st => (ev b env st).bind fun b st => (Res.of (asInt b.2) st).bind fun j st => Res.of (slcI st o none (some j)) st
  | .rev o, env, st => (opF o (fun env st => ev o env st) env st).bind fun o st => Res.of (revOp st o) st
  | .lc e tg k args cs, env, st => (opds args env st).bind fun vs st => (Res.of (itOp k st vs) st).bind fun xs st =>
    (lcLoop (fun x st => (bodyL tg (fun env st => evAll cs env st) (fun env st => ev e env st) env x st).noX) xs st).bind fun ys st => .ok (true, .lst ys) st
  | .lc2 e tg k args tg2 k2 args2 cs, env, st => (opds args env st).bind fun vs st => (Res.of (itOp k st vs) st).bind fun xs st =>
    (lcLoop (fun x st => match setTg tg x env with
      | none => .bad
      | some env' => ((opds args2 env' st).bind fun vs st => (Res.of (itOp k2 st vs) st).bind fun xs st =>
        lcLoop (fun x st => (bodyL tg2 (fun env st => evAll cs env st) (fun env st => ev e env st) env' x st).noX) xs st).noX) xs st).bind fun ys st => if ys.length ≤ maxLen then .ok (true, .lst ys) st else .bad
  | .dc k v i it cs, env, st => (opF it (fun env st => ev it env st) env st).bind fun w st => (Res.of (walkOf w) st).bind fun xs st =>
    (dcLoop (fun x st => ((evAll cs (env.set i (some (false, x))) st).bind fun b st =>
      if b then (ev k (env.set i (some (false, x))) st).bind fun kv st => (ev v (env.set i (some (false, x))) st).bind fun vv st =>
        if keyOk kv.2 then .ok (some (kv.2, vv.2)) st else .bad
      else .ok none st).noX) xs [] st).bind fun d st => .ok (true, .dct d) st
  | .fstr es, env, st => (evF es env st).bind fun s st => if s.length ≤ maxLen then .ok (false, .str s) st else .bad
  | .get d k v, env, st => (opF d (fun env st => ev d env st) env st).bind fun d st => (ev k env st).bind fun k st => (ev v env st).bind fun v st =>
    Res.of ((asDict st d).bind fun kvs => if keyOk k.2 then some (false, (dget kvs k.2).getD v.2) else none) st
  | .pop o i, env, st => (opF o (fun env st => ev o env st) env st).bind fun o st => if (asList st o).isSome then (ev i env st).bind fun i st => popOp o i.2 st else .bad
  | .lenO e, env, st => (opF e (fun env st => ev e env st) env st).bind fun o st => methOp C cal o 1 [] st
  | .inO a b, env, st => (ev a env st).bind fun a st => (opF b (fun env st => ev b env st) env st).bind fun o st => methOp C cal o 2 [a.2] st
  | .eqO ng a b, env, st => (opF a (fun env st => ev a env st) env st).bind fun o st => (ev b env st).bind fun b st => (methOp C cal o 3 [b.2] st).bind fun r st =>
    Res.of ((asBl r).map fun c => (false, .bl (c != ng))) st
def evs : List Ex → Env → Store → Res (List Val)
  | [], _, st => .ok [] st
  | .star e :: r, env, st => (opF e (fun env st => ev e env st) env st).bind fun v st => (Res.of (seqOf st v) st).bind fun xs st => (evs r env st).bind fun ys st => if xs.length + ys.length + 1000 ≤ maxLen then .ok (xs ++ ys) st else .bad
  | e :: r, env, st => (ev e env st).bind fun v st => (evs r env st).bind fun ys st => .ok (v.2 :: ys) st
def opds : List Ex → Env → Store → Res (List Val)
  | [], _, st => .ok [] st
  | e :: r, env, st => (opF e (fun env st => ev e env st) env st).bind fun v st => (opds r env st).bind fun ys st => .ok (v :: ys) st
def evF : List Ex → Env → Store → Res Sn
  | [], _, st => .ok [] st
  | e :: r, env, st => (ev e env st).bind fun v st => (Res.of (asStr v.2) st).bind fun s st => (evF r env st).bind fun t st => .ok (s ++ t) st
def evAnd : List Ex → Env → Store → Res Rv
  | [], _, _ => .bad
  | [e], env, st => (ev e env st).bind fun v st => .ok (false, v.2) st
  | e :: r, env, st => (ev e env st).bind fun v st => (Res.of (asBl v) st).bind fun b st => if b then evAnd r env st else .ok (false, .bl false) st
def evOr : List Ex → Env → Store → Res Rv
  | [], _, _ => .bad
  | [e], env, st => (ev e env st).bind fun v st => .ok (false, v.2) st
  | e :: r, env, st => (ev e env st).bind fun v st => (Res.of (asBl v) st).bind fun b st => if b then .ok (false, .bl true) st else evOr r env st
def evAll : List Ex → Env → Store → Res Bool
  | [], _, st => .ok true st
  | e :: r, env, st => (ev e env st).bind fun v st => (Res.of (asBl v) st).bind fun b st => if b then evAll r env st else .ok false st
end
def opd (e : Ex) (env : Env) (st : Store) : Res Val := opF e (fun env st => ev C cal mk e env st) env st
def evB (c : Ex) (env : Env) (st : Store) : Res Bool := (ev C cal mk c env st).bind fun v st => Res.of (asBl v) st
/-- each keeps what is its own -/
def evOs : List Ex → Env → Store → Res (List Rv)
  | [], _, st => .ok [] st
  | e :: r, env, st => (ev C cal mk e env st).bind fun v st => (evOs r env st).bind fun ys st => .ok (v :: ys) st
def setOs : List Nat → List Rv → Env → Option Env
  | [], [], env => some env
  | i :: is, v :: vs, env => setOs is vs (env.set i (some v))
  | _, _, _ => none
def thaw : List Nat → Env → Env
  | [], env => env
  | i :: is, env => thaw is (match env[i]? with
    | some (some (true, .lst v)) => env.set i (some (false, .lst v))
    | some (some (true, .dct v)) => env.set i (some (false, .dct v))
    | _ => env)
def hxOp (fs : List (Nat × Val)) (env : Env) : Hx → Option Val
  | .cst v => some (flat v)
  | .inc i k => match env[i]? with
    | some (some (_, .int j)) => some (.int (j + k))
    | _ => none
  | .fld f => fs.lookup f
  | .tagf s f => (fs.lookup f).map fun v => .tup [.str s, v]
  | .ifn f a b => (fs.lookup f).map fun v => match v with | .non => .str a | _ => .str b
def hsOp (fs : List (Nat × Val)) (env : Env) : Hs → Option Env
  | .asg i h => (hxOp fs env h).map fun v => env.set i (some (false, v))
  | .app i h => (hxOp fs env h).bind fun v => match env[i]? with
    | some (some (true, .lst xs)) => if xs.length < maxLen then some (env.set i (some (true, .lst (xs ++ [v])))) else none
    | _ => none
def handle (c : Nat) (fs : List (Nat × Val)) (env : Env) (st : Store) : List Hd → SRes
  | [] => .exc c fs env st
  | h :: r => if h.cls = c then
      match hsOp fs (match h.as with | some i => env.set i none | none => env) h.suite with
      | some env' => .nx (match h.as with | some i => env'.set i none | none => env') st
      | none => .bad
    else handle c fs env st r
/-- a list's or dict's content is changed by f: it is this slot's own, or lies in the store -/
def change (i : Nat) (env : Env) (st : Store) (f : Val → Option Val) (g : Ob → Option Ob) : SRes :=
  match env[i]? with
  | some (some (true, v)) => match f v with
    | some w => .nx (env.set i (some (true, w))) st
    | none => .bad
  | some (some (false, .ref n)) => match st[n]? with
    | some o => match g o with
      | some o' => .nx env (st.set n o')
      | none => .bad
    | none => .bad
  | _ => .bad
/-- a slot that holds a list -/
def isL (i : Nat) (env : Env) (st : Store) : Bool :=
  match env[i]? with
  | some (some (_, v)) => (asList st v).isSome
  | _ => false
def appV (y : Val) : Val → Option Val
  | .lst xs => if xs.length < maxLen then some (.lst (xs ++ [y])) else none
  | _ => none
def appO (y : Val) : Ob → Option Ob
  | .lst xs => if xs.length < maxLen then some (.lst (xs ++ [y])) else none
  | _ => none
def extV (ys : List Val) : Val → Option Val
  | .lst xs => if xs.length + ys.length < maxLen then some (.lst (xs ++ ys)) else none
  | _ => none
def eraseV (y : Val) : List Val → Option (List Val)
  | [] => none
  | x :: r => if pyEq x y then some r else (eraseV y r).map (x :: ·)
def remV (y : Val) : Val → Option Val
  | .lst xs => if xs.all (fun x => eqOk x y) then (eraseV y xs).map .lst else none
  | _ => none
def remO (y : Val) : Ob → Option Ob
  | .lst xs => if xs.all (fun x => eqOk x y) then (eraseV y xs).map .lst else none
  | _ => none
def putV (k y : Val) : Val → Option Val
  | .lst xs => match k with
    | .int i => (ixOf xs.length i).map fun j => .lst (xs.set j y)
    | _ => none
  | .dct kvs => if keyOk k && kvs.length < maxLen then some (.dct (dput kvs k y)) else none
  | _ => none
def putO (k y : Val) : Ob → Option Ob
  | .lst xs => match k with
    | .int i => (ixOf xs.length i).map fun j => .lst (xs.set j y)
    | _ => none
  | .dct kvs => if keyOk k && kvs.length < maxLen then some (.dct (dput kvs k y)) else none
  | _ => none
def fput (fs : List (Nat × Val)) (f : Nat) (v : Val) : List (Nat × Val) :=
  match fs with
  | [] => [(f, v)]
  | (g, w) :: r => if g = f then (g, v) :: r else (g, w) :: fput r f v
def putF (o : Val) (f : Nat) (v : Val) (st : Store) : Option Store :=
  match o with
  | .ref n => match st[n]? with
    | some (.ins c fs) => if C.fld c f && decide (fs.length < 50) then some (st.set n (.ins c (fput fs f v))) else none
    | _ => none
  | _ => none
/-- a field that is an int, and the object's class -/
def fldI (o : Val) (f : Nat) (st : Store) : Option (Nat × Int) :=
  match asIns st o with
  | some (_, c, fs) => if C.fld c f then (match fs.lookup f with | some (.int i) => some (c, i) | _ => none) else none
  | none => none
def clsIs (st : Store) (o : Val) (c : Nat) : Bool :=
  match asIns st o with
  | some (_, c', _) => c' == c
  | none => false
/-- a new object in the store -/
def box (r : Rv) (st : Store) : Option (Val × Store) :=
  match r with
  | (true, .lst xs) => some (.ref st.length, st ++ [.lst xs])
  | (true, .dct kvs) => some (.ref st.length, st ++ [.dct kvs])
  | _ => none
/-- behind a loop over a slot's own list -/
def unlock (i : Nat) (xs : List Val) : SRes → SRes
  | .nx env st => match env[i]? with
    | some (some (true, .non)) => .nx (env.set i (some (true, .lst xs))) st
    | _ => .bad
  | .exc c fs env st => .exc c fs (env.set i none) st
  | r => r
def whlFuel : Nat := 2000
mutual
def evS : Sm → Env → Store → SRes
  | .asg i e, env, st => (ev C cal mk e env st).inS env fun v st => .nx (env.set i (some v)) st
  | .asgB i e, env, st => (ev C cal mk e env st).inS env fun v st => match box v st with
    | some (w, st) => .nx (env.set i (some (false, w))) st
    | none => .bad
  | .asgP is es, env, st => (evOs C cal mk es env st).inS env fun vs st => match setOs is vs env with
    | some env => .nx env st
    | none => .bad
  | .unp is e, env, st => (opd C cal mk e env st).inS env fun v st => match setTg (.tp is) v env with
    | some env => .nx env st
    | none => .bad
  | .app o e, env, st => match o with
    | .var i => if isL i env st then (ev C cal mk e env st).inS env fun v st => change i env st (appV v.2) (appO v.2) else .bad
    | o => (opd C cal mk o env st).inS env fun w st => if (asList st w).isSome then (ev C cal mk e env st).inS env fun v st => match w with
      | .ref n => match st[n]? with
        | some ob => match appO v.2 ob with
          | some ob' => .nx env (st.set n ob')
          | none => .bad
        | none => .bad
      | _ => .bad
      else .bad
  | .ext i e, env, st => (opd C cal mk e env st).inS env fun v st => match asList st v with
    | some ys => change i env st (extV ys) (fun _ => none)
    | none => .bad
  | .rem i e, env, st => (ev C cal mk e env st).inS env fun v st => change i env st (remV v.2) (remO v.2)
  | .updt i e, env, st => (opd C cal mk e env st).inS env fun v st => match asDict st v with
    | some kvs => change i env st (fun _ => none) (fun o => match o with | .dct d => if d.length + kvs.length ≤ maxLen then some (.dct (dputs d kvs)) else none | _ => none)
    | none => .bad
  | .put o k e, env, st => match o with
    | .var i => (ev C cal mk e env st).inS env fun v st => (peek i env st).inS env fun _ st => (ev C cal mk k env st).inS env fun k st => change i env st (putV k.2 v.2) (putO k.2 v.2)
    | _ => .bad
  | .fld o f e, env, st => (ev C cal mk e env st).inS env fun v st => (opd C cal mk o env st).inS env fun o st => match putF C o f v.2 st with
    | some st => .nx env st
    | none => .bad
  | .fldB o f e, env, st => (ev C cal mk e env st).inS env fun v st => match box v st with
    | some (w, st) => (opd C cal mk o env st).inS env fun o st => match putF C o f w st with
      | some st => .nx env st
      | none => .bad
    | none => .bad
  | .fldA o f ng e, env, st => (opd C cal mk o env st).inS env fun o st => match fldI C o f st with
    | some (c, i) => (ev C cal mk e env st).inS env fun v st => match asInt v.2 with
      | some j => if clsIs st o c then match putF C o f (.int (if ng then i - j else i + j)) st with
          | some st => .nx env st
          | none => .bad
        else .bad
      | none => .bad
    | none => .bad
  | .ex e, env, st => (ev C cal mk e env st).inS env fun _ st => .nx env st
  | .ret e, env, st => (ev C cal mk e env st).inS env fun v st => .rt v st
  | .retV i, env, st => match env[i]? with
    | some (some (false, v)) => .rt (false, v) st
    | some (some (true, .lst v)) => .rt (true, .lst v) st
    | some (some (true, .dct v)) => .rt (true, .dct v) st
    | _ => .bad
  | .ife c a b, env, st => (evB C cal mk c env st).inS env fun t st => if t then evSs a env st else evSs b env st
  | .for_ tg k args body, env, st => ((evs C cal mk args env st).bind fun vs st => Res.of (itOp k st vs) st).inS env fun xs st => forLoop tg (fun env st => evSs body env st) xs env st
  | .forO tg i body, env, st => match env[i]? with
    | some (some (true, .lst xs)) => unlock i xs (forLoop tg (fun env st => evSs body env st) xs (env.set i (some (true, .non))) st)
    | _ => .bad
  | .whl c body, env, st => whlLoop (fun env st => evB C cal mk c env st) (fun env st => evSs body env st) whlFuel env st
  | .rse c es, env, st => match C.xf c, es with
    | some none, [] => .exc c [] env st
    | some (some f), [e] => (ev C cal mk e env st).inS env fun v st => .exc c [(f, v.2)] env st
    | _, _ => .bad
  | .try_ body hs, env, st => match evSs body env st with
    | .exc c fs env st => if (C.xf c).isSome then handle c fs env st hs else .bad
    | r => r
  | .hole, _, _ => .bad
  | .fz is, env, st => .nx (thaw is env) st
  | .popA i j, env, st => match env[j]? with
    | some (some (true, .lst xs)) => match xs.reverse with
      | v :: r => .nx ((env.set j (some (true, .lst r.reverse))).set i (some (false, v))) st
      | [] => .bad
    | _ => .bad
  | .dpopA i j k, env, st => (ev C cal mk k env st).inS env fun k st => match env[j]? with
    | some (some (true, .dct kvs)) => match dget kvs k.2 with
      | some v => if keyOk k.2 then .nx ((env.set j (some (true, .dct (ddel kvs k.2)))).set i (some (false, v))) st else .bad
      | none => .bad
    | _ => .bad
def evSs : List Sm → Env → Store → SRes
  | [], env, st => .nx env st
  | s :: r, env, st => (evS s env st).bind fun env st => evSs r env st
end
def startE (d : Fd) (vs : List Val) : Env := vs.map (fun v => some (false, v)) ++ List.replicate (d.ns - d.np) none
def runFn (f : Nat) (vs : List Val) (st : Store) : Res Rv :=
  match C.fn f with
  | none => .bad
  | some d => if vs.length = d.np then
      match evSs C cal mk d.body (startE d vs) st with
      | .nx _ st => .ok (false, .non) st
      | .rt r st => .ok r st
      | .exc c fs _ st => .exc c fs st
      | .bad => .bad
    else .bad
end
/-- calls, so many of them one within another; and one less -/
def calls (C : Cfg) : Nat → CallF × CallF
  | 0 => (fun _ _ _ => .bad, fun _ _ _ => .bad)
  | k + 1 => (fun f vs st => runFn C (calls C k).1 (calls C k).2 f vs st, (calls C k).1)
abbrev evCall (C : Cfg) (k : Nat) : CallF := (calls C k).1
end Lk
set_option Elab.async false
set_option linter.all false
set_option maxRecDepth 100000
set_option autoImplicit false
/-! LkB: how plain values lie in the hand layer's abstract heap. Z: the part of the heap that never changes again; ρ: the addresses of the store's objects. -/
namespace Lk
open PySem L2

def sv (s : Sn) : Str := ⟨s.toArray⟩
theorem sv_inj {a b : Sn} (h : sv a = sv b) : a = b := by
  have := congrArg (fun z : Str => z.cps.toList) h
  simpa [sv] using this
theorem sv_len (s : Sn) : (sv s).length = s.length := by simp [sv, Str.length]
theorem snOk_len {s : Sn} (h : snOk s = true) : s.length ≤ maxLen := by
  unfold snOk at h
  exact of_decide_eq_true (Bool.and_eq_true_iff.mp h).1
theorem snOk_cps {s : Sn} (h : snOk s = true) : ∀ c ∈ s, c < 1114112 := fun c hc => by
  unfold snOk at h
  exact of_decide_eq_true (List.all_eq_true.mp (Bool.and_eq_true_iff.mp h).2 c hc)
theorem snOk_of {s : Sn} (h1 : s.length ≤ maxLen) (h2 : ∀ c ∈ s, c < 1114112) : snOk s = true := by
  unfold snOk
  exact Bool.and_eq_true_iff.mpr ⟨decide_eq_true h1, List.all_eq_true.mpr fun c hc => decide_eq_true (h2 c hc)⟩
theorem sv_cps (s : Sn) : (sv s).cps.toList = s := by simp [sv]

mutual
inductive RV (K : PySem.W.Frag) (Z : Hp) (ρ : List Addr) : V → Val → Prop
  | non : RV K Z ρ .non .non
  | bl (b : Bool) : RV K Z ρ (.bl b) (.bl b)
  | int (i : Int) : RV K Z ρ (.int i) (.int i)
  | str (s : Sn) : snOk s = true → RV K Z ρ (.str (sv s)) (.str s)
  | tup {a : Addr} {xs : List V} {vs : List Val} : SqT K Z a xs → RVs K Z ρ xs vs → vs.length ≤ maxLen → RV K Z ρ (.ref a) (.tup vs)
  | lst {a : Addr} {xs : List V} {vs : List Val} : Z a = some (.lst xs) → RVs K Z ρ xs vs → vs.length ≤ maxLen → RV K Z ρ (.ref a) (.lst vs)
  | scr {a : Addr} {ns : List Int} : SqL K Z a (ns.map V.int) → ns.length ≤ maxLen → RV K Z ρ (.ref a) (.scr ns)
  | dct {a : Addr} {kvs : List (Key × V)} {ds : List (Val × Val)} : Rd Z a (.dK kvs) → RKs K Z ρ kvs ds → ds.length ≤ maxLen → RV K Z ρ (.ref a) (.dct ds)
  | ref {n : Nat} {a : Addr} : ρ[n]? = some a → RV K Z ρ (.ref a) (.ref n)
inductive RVs (K : PySem.W.Frag) (Z : Hp) (ρ : List Addr) : List V → List Val → Prop
  | nil : RVs K Z ρ [] []
  | cons {x : V} {v : Val} {xs : List V} {vs : List Val} : RV K Z ρ x v → RVs K Z ρ xs vs → RVs K Z ρ (x :: xs) (v :: vs)
inductive RKs (K : PySem.W.Frag) (Z : Hp) (ρ : List Addr) : List (Key × V) → List (Val × Val) → Prop
  | nil : RKs K Z ρ [] []
  | int {i : Int} {x : V} {v : Val} {kvs : List (Key × V)} {ds : List (Val × Val)} : RV K Z ρ x v → RKs K Z ρ kvs ds → RKs K Z ρ ((.inl i, x) :: kvs) ((.int i, v) :: ds)
  | str {s : Sn} {x : V} {v : Val} {kvs : List (Key × V)} {ds : List (Val × Val)} : snOk s = true → RV K Z ρ x v → RKs K Z ρ kvs ds → RKs K Z ρ ((.inr (sv s), x) :: kvs) ((.str s, v) :: ds)
end

/-- what is no lock -/
def nf : HO → Bool
  | .frz _ _ => false
  | _ => true
/-- all that was told of Z is told of Z' -/
structure ZLe (Z Z' : Hp) : Prop where
  rd : ∀ a u, nf u = true → Rd Z a u → Rd Z' a u
  ls : ∀ a xs, Z a = some (.lst xs) → Z' a = some (.lst xs)
theorem ZLe.refl (Z : Hp) : ZLe Z Z := ⟨fun _ _ _ h => h, fun _ _ h => h⟩
theorem ZLe.trans {Z Z1 Z2 : Hp} (a : ZLe Z Z1) (b : ZLe Z1 Z2) : ZLe Z Z2 := ⟨fun x u n h => b.rd x u n (a.rd x u n h), fun x u h => b.ls x u (a.ls x u h)⟩
theorem ZLe.upd {Z : Hp} {p : Addr} {o : HO} (h : Z p = none) : ZLe Z (upd Z p o) := by
  refine ⟨fun a u _ r => ?_, fun a xs r => by rw [upd_ne (ne_of_none r h)]; exact r⟩
  have ne : a ≠ p := by
    rintro rfl
    rcases r with r | ⟨_, r⟩ <;> (rw [h] at r; cases r)
  rcases r with r | ⟨ob, r⟩
  · exact .inl (by rw [upd_ne ne]; exact r)
  · exact .inr ⟨ob, by rw [upd_ne ne]; exact r⟩
theorem sqL_le {K : PySem.W.Frag} {Z Z' : Hp} {a : Addr} {xs : List V} (z : ZLe Z Z') (h : SqL K Z a xs) : SqL K Z' a xs := h.elim (fun r => .inl (z.rd _ _ rfl r)) .inr
theorem sqT_le {K : PySem.W.Frag} {Z Z' : Hp} {a : Addr} {xs : List V} (z : ZLe Z Z') (h : SqT K Z a xs) : SqT K Z' a xs := h.elim (fun r => .inl (z.rd _ _ rfl r)) .inr

theorem pre_get {ρ ρ' : List Addr} (p : ρ <+: ρ') {n : Nat} {a : Addr} (h : ρ[n]? = some a) : ρ'[n]? = some a := by
  obtain ⟨t, rfl⟩ := p
  rw [List.getElem?_append_left (List.getElem?_eq_some_iff.mp h).1]
  exact h
section
variable {K : PySem.W.Frag} {Z Z' : Hp} {ρ ρ' : List Addr}
mutual
theorem RV.mono (z : ZLe Z Z') (p : ρ <+: ρ') : ∀ {x : V} {v : Val}, RV K Z ρ x v → RV K Z' ρ' x v
  | _, _, .non => .non
  | _, _, .bl b => .bl b
  | _, _, .int i => .int i
  | _, _, .str s l => .str s l
  | _, _, .tup h r l => .tup (sqT_le z h) (RVs.mono z p r) l
  | _, _, .lst h r l => .lst (z.ls _ _ h) (RVs.mono z p r) l
  | _, _, .scr h l => .scr (sqL_le z h) l
  | _, _, .dct h r l => .dct (z.rd _ _ rfl h) (RKs.mono z p r) l
  | _, _, .ref h => .ref (pre_get p h)
theorem RVs.mono (z : ZLe Z Z') (p : ρ <+: ρ') : ∀ {xs : List V} {vs : List Val}, RVs K Z ρ xs vs → RVs K Z' ρ' xs vs
  | _, _, .nil => .nil
  | _, _, .cons h r => .cons (RV.mono z p h) (RVs.mono z p r)
theorem RKs.mono (z : ZLe Z Z') (p : ρ <+: ρ') : ∀ {xs : List (Key × V)} {vs : List (Val × Val)}, RKs K Z ρ xs vs → RKs K Z' ρ' xs vs
  | _, _, .nil => .nil
  | _, _, .int h r => .int (RV.mono z p h) (RKs.mono z p r)
  | _, _, .str l h r => .str l (RV.mono z p h) (RKs.mono z p r)
end
theorem RVs.length : ∀ {xs : List V} {vs : List Val}, RVs K Z ρ xs vs → xs.length = vs.length
  | _, _, .nil => rfl
  | _, _, .cons _ r => by rw [List.length_cons, List.length_cons, RVs.length r]
theorem RKs.length : ∀ {xs : List (Key × V)} {vs : List (Val × Val)}, RKs K Z ρ xs vs → xs.length = vs.length
  | _, _, .nil => rfl
  | _, _, .int _ r => by rw [List.length_cons, List.length_cons, RKs.length r]
  | _, _, .str _ _ r => by rw [List.length_cons, List.length_cons, RKs.length r]
theorem RVs.get : ∀ {xs : List V} {vs : List Val} {i : Nat} {v : Val}, RVs K Z ρ xs vs → vs[i]? = some v → ∃ x, xs[i]? = some x ∧ RV K Z ρ x v
  | _, _, _, _, .nil, e => by simp at e
  | _, _, 0, _, .cons h _, e => by simp at e; subst e; exact ⟨_, rfl, h⟩
  | _, _, i + 1, _, .cons _ r, e => by
    obtain ⟨x, h1, h2⟩ := RVs.get (i := i) r (by simpa using e)
    exact ⟨x, by simpa using h1, h2⟩
theorem RVs.get' : ∀ {xs : List V} {vs : List Val} {i : Nat} {x : V}, RVs K Z ρ xs vs → xs[i]? = some x → ∃ v, vs[i]? = some v ∧ RV K Z ρ x v
  | _, _, _, _, .nil, e => by simp at e
  | _, _, 0, _, .cons h _, e => by simp at e; subst e; exact ⟨_, rfl, h⟩
  | _, _, i + 1, _, .cons _ r, e => by
    obtain ⟨x, h1, h2⟩ := RVs.get' (i := i) r (by simpa using e)
    exact ⟨x, by simpa using h1, h2⟩
theorem RVs.append : ∀ {xs ys : List V} {vs ws : List Val}, RVs K Z ρ xs vs → RVs K Z ρ ys ws → RVs K Z ρ (xs ++ ys) (vs ++ ws)
  | _, _, _, _, .nil, s => s
  | _, _, _, _, .cons h r, s => .cons h (RVs.append r s)
theorem RVs.take : ∀ {xs : List V} {vs : List Val} (n : Nat), RVs K Z ρ xs vs → RVs K Z ρ (xs.take n) (vs.take n)
  | _, _, 0, _ => .nil
  | _, _, _ + 1, .nil => .nil
  | _, _, n + 1, .cons h r => .cons h (RVs.take n r)
theorem RVs.drop : ∀ {xs : List V} {vs : List Val} (n : Nat), RVs K Z ρ xs vs → RVs K Z ρ (xs.drop n) (vs.drop n)
  | _, _, 0, r => r
  | _, _, _ + 1, .nil => .nil
  | _, _, n + 1, .cons _ r => RVs.drop n r
theorem RVs.set {x : V} {v : Val} (q : RV K Z ρ x v) : ∀ {xs : List V} {vs : List Val} (n : Nat), RVs K Z ρ xs vs → RVs K Z ρ (xs.set n x) (vs.set n v)
  | _, _, _, .nil => .nil
  | _, _, 0, .cons _ r => .cons q r
  | _, _, n + 1, .cons h r => .cons h (RVs.set q n r)
theorem RVs.eraseIdx : ∀ {xs : List V} {vs : List Val} (n : Nat), RVs K Z ρ xs vs → RVs K Z ρ (xs.eraseIdx n) (vs.eraseIdx n)
  | _, _, _, .nil => .nil
  | _, _, 0, .cons _ r => r
  | _, _, n + 1, .cons h r => .cons h (RVs.eraseIdx n r)
theorem RVs.reverse {xs : List V} {vs : List Val} (r : RVs K Z ρ xs vs) : RVs K Z ρ xs.reverse vs.reverse := by
  induction xs generalizing vs with
  | nil => cases r; exact .nil
  | cons x xs ih =>
    cases r with
    | cons h r =>
      rw [List.reverse_cons, List.reverse_cons]
      exact (ih r).append (.cons h .nil)
end

/-! ### the store's objects -/
/-- attributes by name -/
inductive RFs (K : PySem.W.Frag) (an : Nat → Str) (Z : Hp) (ρ : List Addr) : List (Str × V) → List (Nat × Val) → Prop
  | nil : RFs K an Z ρ [] []
  | cons {f : Nat} {x : V} {v : Val} {gs : List (Str × V)} {fs : List (Nat × Val)} : f < 100 → RV K Z ρ x v → RFs K an Z ρ gs fs → RFs K an Z ρ ((an f, x) :: gs) ((f, v) :: fs)
/-- the names and addresses of the program's classes, attributes -/
structure Nm where
  an : Nat → Str
  inj : ∀ i j, i < 100 → j < 100 → an i = an j → i = j
  ca : Nat → Addr
  xa : Nat → Addr
def RO (K : PySem.W.Frag) (M : Nm) (H Z : Hp) (ρ : List Addr) (a : Addr) : Ob → Prop
  | .lst vs => ∃ xs, H a = some (.lst xs) ∧ RVs K Z ρ xs vs ∧ vs.length ≤ maxLen
  | .dct ds => ∃ kvs, H a = some (.dK kvs) ∧ RKs K Z ρ kvs ds ∧ ds.length ≤ maxLen
  | .ins c fs => ∃ dx gs, H a = some (.ins (M.ca c) dx gs) ∧ RFs K M.an Z ρ gs fs ∧ fs.length ≤ 60
structure RH (K : PySem.W.Frag) (M : Nm) (H Z : Hp) (ρ : List Addr) (st : Store) : Prop where
  zin : ∀ a o, Z a = some o → H a = some o
  len : ρ.length = st.length
  nd : ρ.Nodup
  out : ∀ a, a ∈ ρ → Z a = none
  obj : ∀ (n : Nat) (a : Addr) (o : Ob), ρ[n]? = some a → st[n]? = some o → RO K M H Z ρ a o
/-- a step: Z and ρ grow; what is tracked, but neither in Z nor of the store, stays as it is -/
structure Adv (H Z : Hp) (ρ : List Addr) (H' Z' : Hp) (ρ' : List Addr) : Prop where
  z : ZLe Z Z'
  r : ρ <+: ρ'
  fr : ∀ a o, H a = some o → Z a = none → a ∉ ρ → H' a = some o ∧ Z' a = none ∧ a ∉ ρ'
  th : ∀ a, H a ≠ none → H' a ≠ none
section
variable {H Z H1 Z1 H2 Z2 : Hp} {ρ ρ1 ρ2 : List Addr}
theorem Adv.refl : Adv H Z ρ H Z ρ := ⟨ZLe.refl Z, List.prefix_rfl, fun _ _ h1 h2 h3 => ⟨h1, h2, h3⟩, fun _ h => h⟩
theorem Adv.trans (a : Adv H Z ρ H1 Z1 ρ1) (b : Adv H1 Z1 ρ1 H2 Z2 ρ2) : Adv H Z ρ H2 Z2 ρ2 :=
  ⟨a.z.trans b.z, a.r.trans b.r, fun x o h1 h2 h3 => let ⟨p, q, r⟩ := a.fr x o h1 h2 h3; b.fr x o p q r, fun x h => b.th x (a.th x h)⟩
theorem RFs.mono {K : PySem.W.Frag} {an : Nat → Str} (z : ZLe Z Z1) (p : ρ <+: ρ1) : ∀ {gs : List (Str × V)} {fs : List (Nat × Val)}, RFs K an Z ρ gs fs → RFs K an Z1 ρ1 gs fs
  | _, _, .nil => .nil
  | _, _, .cons l h r => .cons l (h.mono z p) (RFs.mono z p r)
end
section
variable {K : PySem.W.Frag} {M : Nm} {H Z : Hp} {ρ : List Addr} {st : Store}
theorem RH.rd (h : RH K M H Z ρ st) {a : Addr} {u : HO} (r : Rd Z a u) : Rd H a u := r.elim (fun q => .inl (h.zin _ _ q)) fun ⟨o, q⟩ => .inr ⟨o, h.zin _ _ q⟩
theorem RH.sqL (h : RH K M H Z ρ st) {a : Addr} {xs : List V} (r : SqL K Z a xs) : SqL K H a xs := r.elim (fun q => .inl (h.rd q)) .inr
theorem RH.sqT (h : RH K M H Z ρ st) {a : Addr} {xs : List V} (r : SqT K Z a xs) : SqT K H a xs := r.elim (fun q => .inl (h.rd q)) .inr
theorem RH.there (h : RH K M H Z ρ st) {a : Addr} (m : a ∈ ρ) : H a ≠ none := by
  obtain ⟨n, hn, e⟩ := List.mem_iff_getElem.mp m
  have e1 : ρ[n]? = some a := by rw [List.getElem?_eq_getElem hn, e]
  have hl : n < st.length := by rw [← h.len]; exact hn
  have q := h.obj n a st[n] e1 (List.getElem?_eq_getElem hl)
  intro z
  cases o : st[n] with
  | lst vs => rw [o] at q; obtain ⟨_, q, _⟩ := q; rw [z] at q; cases q
  | dct vs => rw [o] at q; obtain ⟨_, q, _⟩ := q; rw [z] at q; cases q
  | ins c vs => rw [o] at q; obtain ⟨_, _, q, _⟩ := q; rw [z] at q; cases q
theorem RH.fresh (h : RH K M H Z ρ st) {p : Addr} (n : H p = none) : Z p = none ∧ p ∉ ρ := by
  refine ⟨?_, fun m => h.there m n⟩
  cases e : Z p with
  | none => rfl
  | some o => rw [h.zin p o e] at n; cases n
/-- a new object that is in Z from the start -/
theorem RH.newZ (h : RH K M H Z ρ st) {p : Addr} {o : HO} (n : H p = none) : RH K M (upd H p o) (upd Z p o) ρ st ∧ Adv H Z ρ (upd H p o) (upd Z p o) ρ := by
  obtain ⟨nz, nr⟩ := h.fresh n
  have zl : ZLe Z (upd Z p o) := ZLe.upd nz
  have ne : ∀ {a : Addr}, H a ≠ none → a ≠ p := fun {a} q e => q (by rw [e]; exact n)
  refine ⟨⟨fun a u q => ?_, h.len, h.nd, fun a m => ?_, fun k a ob e1 e2 => ?_⟩, ⟨zl, List.prefix_rfl, fun a u h1 h2 h3 => ?_, fun a q => ?_⟩⟩
  · by_cases e : a = p
    · rw [e, upd_same] at q ⊢; exact q
    · rw [upd_ne e] at q ⊢; exact h.zin a u q
  · rw [upd_ne (ne (h.there m))]; exact h.out a m
  · have q := h.obj k a ob e1 e2
    have na : a ≠ p := ne (h.there (List.mem_of_getElem? e1))
    cases ob with
    | lst vs => obtain ⟨xs, q1, q2, q3⟩ := q; exact ⟨xs, by rw [upd_ne na]; exact q1, q2.mono zl List.prefix_rfl, q3⟩
    | dct vs => obtain ⟨xs, q1, q2, q3⟩ := q; exact ⟨xs, by rw [upd_ne na]; exact q1, q2.mono zl List.prefix_rfl, q3⟩
    | ins c vs => obtain ⟨dx, gs, q1, q2, q3⟩ := q; exact ⟨dx, gs, by rw [upd_ne na]; exact q1, q2.mono zl List.prefix_rfl, q3⟩
  · have na : a ≠ p := ne (by rw [h1]; exact fun z => nomatch z)
    exact ⟨by rw [upd_ne na]; exact h1, by rw [upd_ne na]; exact h2, h3⟩
  · by_cases e : a = p
    · rw [e, upd_same]; exact fun z => nomatch z
    · rw [upd_ne e]; exact q
/-- a new object that is no one's yet -/
theorem RH.newO (h : RH K M H Z ρ st) {p : Addr} {o : HO} (n : H p = none) : RH K M (upd H p o) Z ρ st ∧ Adv H Z ρ (upd H p o) Z ρ := by
  obtain ⟨nz, nr⟩ := h.fresh n
  have ne : ∀ {a : Addr}, H a ≠ none → a ≠ p := fun {a} q e => q (by rw [e]; exact n)
  refine ⟨⟨fun a u q => ?_, h.len, h.nd, h.out, fun k a ob e1 e2 => ?_⟩, ⟨ZLe.refl _, List.prefix_rfl, fun a u h1 h2 h3 => ?_, fun a q => ?_⟩⟩
  · have na : a ≠ p := fun e => by rw [e, nz] at q; cases q
    rw [upd_ne na]; exact h.zin a u q
  · have q := h.obj k a ob e1 e2
    have na : a ≠ p := ne (h.there (List.mem_of_getElem? e1))
    cases ob with
    | lst vs => obtain ⟨xs, q1, q2⟩ := q; exact ⟨xs, by rw [upd_ne na]; exact q1, q2⟩
    | dct vs => obtain ⟨xs, q1, q2⟩ := q; exact ⟨xs, by rw [upd_ne na]; exact q1, q2⟩
    | ins c vs => obtain ⟨dx, gs, q1, q2⟩ := q; exact ⟨dx, gs, by rw [upd_ne na]; exact q1, q2⟩
  · have na : a ≠ p := ne (by rw [h1]; exact fun z => nomatch z)
    exact ⟨by rw [upd_ne na]; exact h1, h2, h3⟩
  · by_cases e : a = p
    · rw [e, upd_same]; exact fun z => nomatch z
    · rw [upd_ne e]; exact q
/-- what is no one's is put into Z -/
theorem RH.freeze (h : RH K M H Z ρ st) {p : Addr} {o : HO} (n : H p = some o) (nz : Z p = none) (nr : p ∉ ρ) : RH K M H (upd Z p o) ρ st ∧ ZLe Z (upd Z p o) := by
  have zl : ZLe Z (upd Z p o) := ZLe.upd nz
  refine ⟨⟨fun a u q => ?_, h.len, h.nd, fun a m => ?_, fun k a ob e1 e2 => ?_⟩, zl⟩
  · by_cases e : a = p
    · rw [e, upd_same] at q; cases q; rw [e]; exact n
    · rw [upd_ne e] at q; exact h.zin a u q
  · rw [upd_ne (fun e : a = p => nr (by rw [← e]; exact m))]; exact h.out a m
  · have q := h.obj k a ob e1 e2
    cases ob with
    | lst vs => obtain ⟨xs, q1, q2, q3⟩ := q; exact ⟨xs, q1, q2.mono zl List.prefix_rfl, q3⟩
    | dct vs => obtain ⟨xs, q1, q2, q3⟩ := q; exact ⟨xs, q1, q2.mono zl List.prefix_rfl, q3⟩
    | ins c vs => obtain ⟨dx, gs, q1, q2, q3⟩ := q; exact ⟨dx, gs, q1, q2.mono zl List.prefix_rfl, q3⟩
end

theorem RFs.look {K : PySem.W.Frag} {M : Nm} {Z : Hp} {ρ : List Addr} {m : Nat} (hm : m < 100) : ∀ {gs : List (Str × V)} {fs : List (Nat × Val)}, RFs K M.an Z ρ gs fs →
    (∀ v, fs.lookup m = some v → ∃ x, gs.lookup (M.an m) = some x ∧ RV K Z ρ x v) ∧ (fs.lookup m = none → gs.lookup (M.an m) = none)
  | _, _, .nil => ⟨fun v e => by simp at e, fun _ => rfl⟩
  | _, _, .cons (f := f) (x := x) l h r => by
    obtain ⟨l1, l2⟩ := RFs.look hm r
    simp only [List.lookup_cons]
    by_cases c : m = f
    · subst c
      simp only [beq_self_eq_true]
      exact ⟨fun v e => ⟨x, rfl, by cases e; exact h⟩, fun e => by cases e⟩
    · have c2 : (m == f) = false := beq_eq_false_iff_ne.mpr c
      have c3 : (M.an m == M.an f) = false := beq_eq_false_iff_ne.mpr fun e => c (M.inj m f hm l e)
      simp only [c2, c3]
      exact ⟨l1, l2⟩
theorem RFs.put {K : PySem.W.Frag} {M : Nm} {Z : Hp} {ρ : List Addr} {m : Nat} (hm : m < 100) {y : V} {w : Val} (q : RV K Z ρ y w) : ∀ {gs : List (Str × V)} {fs : List (Nat × Val)}, RFs K M.an Z ρ gs fs → RFs K M.an Z ρ (L2.putF (M.an m) y gs) (fput fs m w)
  | _, _, .nil => .cons hm q .nil
  | _, _, .cons (f := f) (x := x) (v := v) (gs := gs) (fs := fs) l h r => by
    have ih := RFs.put hm q r
    unfold fput L2.putF
    by_cases c : f = m
    · subst c
      simp only [if_true]
      exact .cons l q r
    · have c3 : ¬ M.an f = M.an m := fun e => c (M.inj f m l hm e)
      simp only [if_neg c, if_neg c3]
      exact .cons l h ih
theorem fput_len (fs : List (Nat × Val)) (m : Nat) (w : Val) : (fput fs m w).length ≤ fs.length + 1 := by
  induction fs with
  | nil => simp [fput]
  | cons p r ih =>
    obtain ⟨g, u⟩ := p
    unfold fput
    split
    · simp
    · simp only [List.length_cons]; omega
/-! ### what is one's own; slots -/
/-- the list or dict at a is no one else's; it was not there in Hb -/
def RW (K : PySem.W.Frag) (Hb H Z : Hp) (ρ : List Addr) (a : Addr) (v : Val) : Prop :=
  Hb a = none ∧ Z a = none ∧ a ∉ ρ ∧ match v with
    | .lst vs => ∃ xs, H a = some (.lst xs) ∧ RVs K Z ρ xs vs ∧ vs.length ≤ maxLen
    | .dct ds => ∃ kvs, H a = some (.dK kvs) ∧ RKs K Z ρ kvs ds ∧ ds.length ≤ maxLen
    | _ => False
def RR (K : PySem.W.Frag) (Hb H Z : Hp) (ρ : List Addr) (x : V) (r : Rv) : Prop :=
  match r with
  | (false, v) => RV K Z ρ x v
  | (true, v) => ∃ a, x = .ref a ∧ RW K Hb H Z ρ a v
/-- looked at only -/
def RB (K : PySem.W.Frag) (H Z : Hp) (ρ : List Addr) (x : V) (v : Val) : Prop :=
  RV K Z ρ x v ∨ ∃ a, x = .ref a ∧ Z a = none ∧ a ∉ ρ ∧ match v with
    | .lst vs => ∃ xs, H a = some (.lst xs) ∧ RVs K Z ρ xs vs ∧ vs.length ≤ maxLen
    | .dct ds => ∃ kvs, H a = some (.dK kvs) ∧ RKs K Z ρ kvs ds ∧ ds.length ≤ maxLen
    | _ => False
structure RE (K : PySem.W.Frag) (Hb H Z : Hp) (ρ : List Addr) (σ : L2.St) (env : Env) : Prop where
  len : σ.length = env.length
  val : ∀ (i : Nat) (v : Val), env[i]? = some (some (false, v)) → ∃ x, σ[i]? = some (some x) ∧ RV K Z ρ x v
  own : ∀ (i : Nat) (v : Val), env[i]? = some (some (true, v)) → v ≠ .non → ∃ a, σ[i]? = some (some (.ref a)) ∧ RW K Hb H Z ρ a v
  dis : ∀ (i j : Nat) (a : Addr) (v w : Val), env[i]? = some (some (true, v)) → v ≠ .non → env[j]? = some (some (true, w)) → w ≠ .non → σ[i]? = some (some (.ref a)) → σ[j]? = some (some (.ref a)) → i = j
section
variable {K : PySem.W.Frag} {M : Nm} {Hb H Z H' Z' : Hp} {ρ ρ' : List Addr} {st : Store} {σ : L2.St} {env : Env} {x : V} {v : Val} {a : Addr} {r : Rv}
theorem RW.adv (ad : Adv H Z ρ H' Z' ρ') (h : RW K Hb H Z ρ a v) : RW K Hb H' Z' ρ' a v := by
  obtain ⟨h1, h2, h3, h4⟩ := h
  have go : ∀ o, H a = some o → H' a = some o ∧ Z' a = none ∧ a ∉ ρ' := fun o e => ad.fr a o e h2 h3
  cases v with
  | lst vs => obtain ⟨xs, e, q, l⟩ := h4; obtain ⟨g1, g2, g3⟩ := go _ e; exact ⟨h1, g2, g3, xs, g1, q.mono ad.z ad.r, l⟩
  | dct vs => obtain ⟨xs, e, q, l⟩ := h4; obtain ⟨g1, g2, g3⟩ := go _ e; exact ⟨h1, g2, g3, xs, g1, q.mono ad.z ad.r, l⟩
  | _ => exact h4.elim
theorem RB.adv (ad : Adv H Z ρ H' Z' ρ') (h : RB K H Z ρ x v) : RB K H' Z' ρ' x v := by
  rcases h with h | ⟨a, e, h2, h3, h4⟩
  · exact .inl (h.mono ad.z ad.r)
  have go : ∀ o, H a = some o → H' a = some o ∧ Z' a = none ∧ a ∉ ρ' := fun o e => ad.fr a o e h2 h3
  cases v with
  | lst vs => obtain ⟨xs, e2, q, l⟩ := h4; obtain ⟨g1, g2, g3⟩ := go _ e2; exact .inr ⟨a, e, g2, g3, xs, g1, q.mono ad.z ad.r, l⟩
  | dct vs => obtain ⟨xs, e2, q, l⟩ := h4; obtain ⟨g1, g2, g3⟩ := go _ e2; exact .inr ⟨a, e, g2, g3, xs, g1, q.mono ad.z ad.r, l⟩
  | _ => exact h4.elim
theorem RE.adv (ad : Adv H Z ρ H' Z' ρ') (h : RE K Hb H Z ρ σ env) : RE K Hb H' Z' ρ' σ env :=
  ⟨h.len, fun i v e => let ⟨x, q, r⟩ := h.val i v e; ⟨x, q, r.mono ad.z ad.r⟩, fun i v e n => let ⟨x, q, r⟩ := h.own i v e n; ⟨x, q, r.adv ad⟩, h.dis⟩
/-- a result is put into Z -/
theorem RR.freeze {Hs : Hp} (h : RH K M H' Z' ρ' st) (ad : Adv Hs Z ρ H' Z' ρ') (q : RR K Hs H' Z' ρ' x r) : ∃ Z2, RH K M H' Z2 ρ' st ∧ Adv Hs Z ρ H' Z2 ρ' ∧ RV K Z2 ρ' x r.2 := by
  obtain ⟨own, v⟩ := r
  cases own with
  | false => exact ⟨Z', h, ad, q⟩
  | true =>
    obtain ⟨a, rfl, n, nz, nr, q⟩ := q
    have mk : ∀ o, H' a = some o → RH K M H' (upd Z' a o) ρ' st ∧ Adv Hs Z ρ H' (upd Z' a o) ρ' ∧ ZLe Z' (upd Z' a o) := fun o e => by
      obtain ⟨h2, zl⟩ := h.freeze e nz nr
      refine ⟨h2, ⟨ad.z.trans zl, ad.r, fun b u e1 e2 e3 => ?_, ad.th⟩, zl⟩
      obtain ⟨g1, g2, g3⟩ := ad.fr b u e1 e2 e3
      have nb : b ≠ a := fun z => by rw [z, n] at e1; cases e1
      exact ⟨g1, by rw [upd_ne nb]; exact g2, g3⟩
    cases v with
    | lst vs =>
      obtain ⟨xs, e, r, l⟩ := q
      obtain ⟨m1, m2, m3⟩ := mk _ e
      exact ⟨_, m1, m2, .lst upd_same (r.mono m3 List.prefix_rfl) l⟩
    | dct vs =>
      obtain ⟨xs, e, r, l⟩ := q
      obtain ⟨m1, m2, m3⟩ := mk _ e
      exact ⟨_, m1, m2, .dct (.inl upd_same) (r.mono m3 List.prefix_rfl) l⟩
    | _ => exact q.elim
/-- a list that is looked at -/
theorem RB.list (h : RH K M H Z ρ st) (q : RB K H Z ρ x v) {vs : List Val} (e : asList st v = some vs) : ∃ a xs, x = .ref a ∧ H a = some (.lst xs) ∧ RVs K Z ρ xs vs ∧ vs.length ≤ maxLen := by
  cases v with
  | lst ws =>
    cases e
    rcases q with q | ⟨a, e, _, _, xs, g, r, l⟩
    · cases q with | lst s r l => exact ⟨_, _, rfl, h.zin _ _ s, r, l⟩
    · exact ⟨a, xs, e, g, r, l⟩
  | ref n =>
    rcases q with q | ⟨a, e, _, _, f⟩
    · cases q with
      | ref g =>
        simp only [asList] at e
        cases o : st[n]? with
        | none => rw [o] at e; cases e
        | some ob =>
          rw [o] at e
          cases ob with
          | lst ws => cases e; obtain ⟨xs, g2, r, l⟩ := h.obj _ _ _ g o; exact ⟨_, xs, rfl, g2, r, l⟩
          | dct ws => cases e
          | ins c ws => cases e
    · exact f.elim
  | non => cases e
  | bl _ => cases e
  | int _ => cases e
  | str _ => cases e
  | tup _ => cases e
  | scr _ => cases e
  | dct _ => cases e
/-- .. a dict -/
theorem RB.dict (h : RH K M H Z ρ st) (q : RB K H Z ρ x v) {ds : List (Val × Val)} (e : asDict st v = some ds) : ∃ a kvs, x = .ref a ∧ Rd H a (.dK kvs) ∧ RKs K Z ρ kvs ds ∧ ds.length ≤ maxLen := by
  cases v with
  | dct ws =>
    cases e
    rcases q with q | ⟨a, e, _, _, xs, g, r, l⟩
    · cases q with | dct s r l => exact ⟨_, _, rfl, h.rd s, r, l⟩
    · exact ⟨a, xs, e, .inl g, r, l⟩
  | ref n =>
    rcases q with q | ⟨a, e, _, _, f⟩
    · cases q with
      | ref g =>
        simp only [asDict] at e
        cases o : st[n]? with
        | none => rw [o] at e; cases e
        | some ob =>
          rw [o] at e
          cases ob with
          | dct ws => cases e; obtain ⟨xs, g2, r, l⟩ := h.obj _ _ _ g o; exact ⟨_, xs, rfl, .inl g2, r, l⟩
          | lst ws => cases e
          | ins c ws => cases e
    · exact f.elim
  | non => cases e
  | bl _ => cases e
  | int _ => cases e
  | str _ => cases e
  | tup _ => cases e
  | scr _ => cases e
  | lst _ => cases e
theorem RB.tup (h : RH K M H Z ρ st) {vs : List Val} (q : RB K H Z ρ x (.tup vs)) : ∃ a xs, x = .ref a ∧ SqT K H a xs ∧ RVs K Z ρ xs vs ∧ vs.length ≤ maxLen := by
  rcases q with q | ⟨_, _, _, _, f⟩
  · cases q with | tup s r l => exact ⟨_, _, rfl, h.sqT s, r, l⟩
  · exact f.elim
theorem RB.int {i : Int} (q : RB K H Z ρ x (.int i)) : x = .int i := by
  rcases q with q | ⟨_, _, _, _, f⟩
  · cases q; rfl
  · exact f.elim
theorem RB.bl {i : Bool} (q : RB K H Z ρ x (.bl i)) : x = .bl i := by
  rcases q with q | ⟨_, _, _, _, f⟩
  · cases q; rfl
  · exact f.elim
theorem RB.non (q : RB K H Z ρ x .non) : x = .non := by
  rcases q with q | ⟨_, _, _, _, f⟩
  · cases q; rfl
  · exact f.elim
theorem RB.str {s : Sn} (q : RB K H Z ρ x (.str s)) : x = .str (sv s) ∧ snOk s = true := by
  rcases q with q | ⟨_, _, _, _, f⟩
  · cases q with | str _ l => exact ⟨rfl, l⟩
  · exact f.elim
theorem RB.ins (h : RH K M H Z ρ st) (q : RB K H Z ρ x v) {n c : Nat} {fs : List (Nat × Val)} (e : asIns st v = some (n, c, fs)) :
    v = .ref n ∧ st[n]? = some (.ins c fs) ∧ ∃ a dx gs, x = .ref a ∧ ρ[n]? = some a ∧ H a = some (.ins (M.ca c) dx gs) ∧ RFs K M.an Z ρ gs fs ∧ fs.length ≤ 60 := by
  cases v with
  | ref m =>
    rcases q with q | ⟨_, _, _, _, f⟩
    · cases q with
      | ref g =>
        simp only [asIns] at e
        cases o : st[m]? with
        | none => rw [o] at e; cases e
        | some ob =>
          rw [o] at e
          cases ob with
          | ins c' ws => cases e; obtain ⟨dx, gs, g2, r, l⟩ := h.obj _ _ _ g o; exact ⟨rfl, o, _, dx, gs, rfl, g, g2, r, l⟩
          | lst ws => cases e
          | dct ws => cases e
    · exact f.elim
  | non => cases e
  | bl _ => cases e
  | int _ => cases e
  | str _ => cases e
  | tup _ => cases e
  | scr _ => cases e
  | lst _ => cases e
  | dct _ => cases e
theorem RE.peek (re : RE K Hb H Z ρ σ env) {i : Nat} {o : Bool} (e : env[i]? = some (some (o, v))) (nn : o = true → v ≠ .non) : ∃ x, σ[i]? = some (some x) ∧ RB K H Z ρ x v := by
  cases o with
  | false => obtain ⟨x, q, r⟩ := re.val i v e; exact ⟨x, q, .inl r⟩
  | true =>
    obtain ⟨a, q, r⟩ := re.own i v e (nn rfl)
    obtain ⟨_, r2, r3, r4⟩ := r
    exact ⟨_, q, .inr ⟨a, rfl, r2, r3, r4⟩⟩
end
end Lk
set_option Elab.async false
set_option linter.all false
set_option maxRecDepth 100000
set_option autoImplicit false
set_option maxHeartbeats 1000000
/-! LkC: operators, by values. -/
namespace Lk
open PySem L2

/-- what is wanted of an answer -/
def Ok1 (K : PySem.W.Frag) (M : Nm) (H Z : Hp) (ρ : List Addr) (rv : Rv) (st : Store) (Q : VK) : Prop :=
  ∀ x H' Z' ρ', Adv H Z ρ H' Z' ρ' → RH K M H' Z' ρ' st → RR K H H' Z' ρ' x rv → Q x H'
theorem maxLen_line : maxLen ≤ sizeLine := by decide
section
variable {K : PySem.W.Frag} {M : Nm} {H Z : Hp} {ρ : List Addr} {st : Store} {Q : VK} {x : V} {v : Val} {xs : List V} {vs : List Val} {p : Addr}
theorem Ok1.val (h : RH K M H Z ρ st) (q : Ok1 K M H Z ρ (false, v) st Q) (r : RV K Z ρ x v) : Q x H := q x H Z ρ Adv.refl h r
theorem Ok1.int {i : Int} (h : RH K M H Z ρ st) (q : Ok1 K M H Z ρ (false, .int i) st Q) : Q (.int i) H := q.val h (.int i)
theorem Ok1.bl {i : Bool} (h : RH K M H Z ρ st) (q : Ok1 K M H Z ρ (false, .bl i) st Q) : Q (.bl i) H := q.val h (.bl i)
theorem Ok1.tupN (h : RH K M H Z ρ st) (q : Ok1 K M H Z ρ (false, .tup vs) st Q) (r : RVs K Z ρ xs vs) (l : vs.length ≤ maxLen) (n : H p = none) : Q (.ref p) (upd H p (.tup xs)) := by
  obtain ⟨h1, h2⟩ := h.newZ (o := .tup xs) n
  exact q _ _ _ _ h2 h1 (.tup (.inl (.inl upd_same)) (r.mono h2.z List.prefix_rfl) l)
theorem Ok1.lstN (h : RH K M H Z ρ st) (q : Ok1 K M H Z ρ (true, .lst vs) st Q) (r : RVs K Z ρ xs vs) (l : vs.length ≤ maxLen) (n : H p = none) : Q (.ref p) (upd H p (.lst xs)) := by
  obtain ⟨h1, h2⟩ := h.newO (o := .lst xs) n
  obtain ⟨n1, n2⟩ := h.fresh n
  exact q _ _ _ _ h2 h1 ⟨p, rfl, n, n1, n2, xs, upd_same, r, l⟩
theorem Ok1.dctN {kvs : List (Key × V)} {ds : List (Val × Val)} (h : RH K M H Z ρ st) (q : Ok1 K M H Z ρ (true, .dct ds) st Q) (r : RKs K Z ρ kvs ds) (l : ds.length ≤ maxLen) (n : H p = none) : Q (.ref p) (upd H p (.dK kvs)) := by
  obtain ⟨h1, h2⟩ := h.newO (o := .dK kvs) n
  obtain ⟨n1, n2⟩ := h.fresh n
  exact q _ _ _ _ h2 h1 ⟨p, rfl, n, n1, n2, kvs, upd_same, r, l⟩
end

def BinR (K : PySem.W.Frag) (M : Nm) (f : Store → Val → Val → Option Rv) : R2 := fun x y H Q =>
  ∃ Z ρ st a b rv, RH K M H Z ρ st ∧ RB K H Z ρ x a ∧ RB K H Z ρ y b ∧ f st a b = some rv ∧ Ok1 K M H Z ρ rv st Q

theorem add_cases {st : Store} {a b : Val} {rv : Rv} (e : binop .add st a b = some rv) :
    (∃ i j, a = .int i ∧ b = .int j ∧ rv = (false, .int (i + j))) ∨
    (∃ x y, a = .str x ∧ b = .str y ∧ x.length + y.length ≤ maxLen ∧ rv = (false, .str (x ++ y))) ∨
    (∃ x y, a = .tup x ∧ b = .tup y ∧ x.length + y.length ≤ maxLen ∧ rv = (false, .tup (x ++ y))) ∨
    (∃ x y, asList st a = some x ∧ asList st b = some y ∧ x.length + y.length ≤ maxLen ∧ rv = (true, .lst (x ++ y))) := by
  unfold binop at e
  split at e
  all_goals first | (rename_i q; cases q; done) | skip
  · exact .inl ⟨_, _, rfl, rfl, (Option.some.inj e).symm⟩
  · split at e
    · exact .inr (.inl ⟨_, _, rfl, rfl, by assumption, (Option.some.inj e).symm⟩)
    · cases e
  · split at e
    · exact .inr (.inr (.inl ⟨_, _, rfl, rfl, by assumption, (Option.some.inj e).symm⟩))
    · cases e
  · split at e
    · rename_i h1 h2
      split at e
      · exact .inr (.inr (.inr ⟨_, _, h1, h2, by assumption, (Option.some.inj e).symm⟩))
      · cases e
    · cases e
  all_goals cases e

section
variable {X : Cx} {M : Nm}
theorem sv_append (x y : Sn) : sv x ++ sv y = sv (x ++ y) := by
  show Str.append (sv x) (sv y) = _
  unfold Str.append sv
  simp
theorem bin_add : OpR X (binaryOp .Add) (BinR X.K M (binop .add)) := by
  intro pins s σ H x y v u Q I r1 r2 h
  obtain ⟨Z, ρ, st, a, b, rv, h, ra, rb, e, q⟩ := h
  rcases add_cases e with ⟨i, j, rfl, rfl, rfl⟩ | ⟨c, d, rfl, rfl, l, rfl⟩ | ⟨c, d, rfl, rfl, l, rfl⟩ | ⟨c, d, e1, e2, l, rfl⟩
  · exact op_add pins s σ H x y v u Q I r1 r2 ⟨i, j, ra.int, rb.int, q.int h⟩
  · refine op_add_str pins s σ H x y v u Q I r1 r2 ⟨sv c, sv d, ra.str.1, rb.str.1, ?_, ?_⟩
    · rw [sv_len, sv_len]; exact Nat.le_trans l maxLen_line
    · rw [sv_append]; exact q.val h (.str _ (snOk_of (by rw [List.length_append]; exact l) fun k hk => (List.mem_append.mp hk).elim (snOk_cps ra.str.2 k) (snOk_cps rb.str.2 k)))
  · obtain ⟨a1, xs, ex, hx, rx, lx⟩ := ra.tup h
    obtain ⟨b1, ys, ey, hy, ry, ly⟩ := rb.tup h
    refine op_catA pins s σ H x y v u Q I r1 r2 ⟨a1, b1, xs, ys, ex, ey, hx, hy, ?_, ?_, ?_, ?_⟩
    · rw [rx.length, ry.length]; exact Nat.le_trans l maxLen_line
    · intro n
      subst n
      cases rx
      rcases rb with rb | ⟨_, _, _, _, f⟩
      · rw [← ey]; exact q.val h (by simpa using rb)
      · exact f.elim
    · intro _ n
      subst n
      cases ry
      rcases ra with ra | ⟨_, _, _, _, f⟩
      · rw [← ex]; exact q.val h (by simpa using ra)
      · exact f.elim
    · intro _ _ p n
      exact q.tupN h (rx.append ry) (by rw [List.length_append]; exact l) n
  · obtain ⟨a1, xs, ex, hx, rx, lx⟩ := ra.list h e1
    obtain ⟨b1, ys, ey, hy, ry, ly⟩ := rb.list h e2
    refine op_cat pins s σ H x y v u Q I r1 r2 ⟨a1, b1, xs, ys, ex, ey, hx, hy, ?_, fun p n => ?_⟩
    · rw [rx.length, ry.length]; exact Nat.le_trans l maxLen_line
    · exact q.lstN h (rx.append ry) (by rw [List.length_append]; exact l) n
theorem bin_ints {op : Bop} (hne : op ≠ .add) {st : Store} {a b : Val} {rv : Rv} (e : binop op st a b = some rv) : ∃ i j, a = .int i ∧ b = .int j := by
  cases op <;> first | (exact absurd rfl hne) | (cases a <;> cases b <;> first | (exact ⟨_, _, rfl, rfl⟩) | (cases e; done))
theorem bin_sub : OpR X (binaryOp .Sub) (BinR X.K M (binop .sub)) := by
  intro pins s σ H x y v u Q I r1 r2 h
  obtain ⟨Z, ρ, st, a, b, rv, h, ra, rb, e, q⟩ := h
  obtain ⟨i, j, rfl, rfl⟩ := bin_ints (by decide) e
  cases e
  exact op_sub pins s σ H x y v u Q I r1 r2 ⟨_, _, ra.int, rb.int, q.int h⟩
theorem small64_of {i : Int} (h : small64 i = true) : -(2 ^ 64) < i ∧ i < 2 ^ 64 := by
  unfold small64 at h
  have := of_decide_eq_true h
  omega
theorem bin_mul : OpR X (binaryOp .Mult) (BinR X.K M (binop .mul)) := by
  intro pins s σ H x y v u Q I r1 r2 h
  obtain ⟨Z, ρ, st, a, b, rv, h, ra, rb, e, q⟩ := h
  obtain ⟨i, j, rfl, rfl⟩ := bin_ints (by decide) e
  simp only [binop] at e
  · split at e
    · rename_i c
      cases e
      refine op_mul pins s σ H x y v u Q I r1 r2 ⟨_, _, ra.int, rb.int, ?_, q.int h⟩
      rcases Bool.or_eq_true_iff.mp c with c | c
      · exact .inl (small64_of c)
      · exact .inr (small64_of c)
    · cases e
theorem bin_fdv : OpR X (binaryOp .FloorDiv) (BinR X.K M (binop .fdv)) := by
  intro pins s σ H x y v u Q I r1 r2 h
  obtain ⟨Z, ρ, st, a, b, rv, h, ra, rb, e, q⟩ := h
  obtain ⟨i, j, rfl, rfl⟩ := bin_ints (by decide) e
  simp only [binop] at e
  · split at e
    · rename_i c
      cases e
      simp only [Bool.and_eq_true, decide_eq_true_eq] at c
      exact op_fdiv pins s σ H x y v u Q I r1 r2 ⟨_, _, ra.int, rb.int, c, q.int h⟩
    · cases e
theorem bin_mod : OpR X (binaryOp .Mod) (BinR X.K M (binop .mod)) := by
  intro pins s σ H x y v u Q I r1 r2 h
  obtain ⟨Z, ρ, st, a, b, rv, h, ra, rb, e, q⟩ := h
  obtain ⟨i, j, rfl, rfl⟩ := bin_ints (by decide) e
  simp only [binop] at e
  · split at e
    · rename_i c
      cases e
      exact op_mod pins s σ H x y v u Q I r1 r2 ⟨_, _, ra.int, rb.int, c, q.int h⟩
    · cases e
theorem bin_pow : OpR X (binaryOp .Pow) (BinR X.K M (binop .pow)) := by
  intro pins s σ H x y v u Q I r1 r2 h
  obtain ⟨Z, ρ, st, a, b, rv, h, ra, rb, e, q⟩ := h
  obtain ⟨i, j, rfl, rfl⟩ := bin_ints (by decide) e
  simp only [binop] at e
  · split at e
    · rename_i c
      cases e
      simp only [Bool.and_eq_true, decide_eq_true_eq, small64] at c
      exact op_pow pins s σ H x y v u Q I r1 r2 ⟨_, _, ra.int, rb.int, ⟨c.1.1, by omega, c.2⟩, q.int h⟩
    · cases e
/-- the model's operator -/
def bopP : Bop → Operator
  | .add => .Add
  | .sub => .Sub
  | .mul => .Mult
  | .fdv => .FloorDiv
  | .mod => .Mod
  | .pow => .Pow
theorem bin_ok : ∀ op : Bop, OpR X (binaryOp (bopP op)) (BinR X.K M (binop op))
  | .add => bin_add
  | .sub => bin_sub
  | .mul => bin_mul
  | .fdv => bin_fdv
  | .mod => bin_mod
  | .pow => bin_pow

/-! ### == -/
mutual
def toD : Val → PyData
  | .non => .none
  | .bl b => .bool b
  | .int i => .int i
  | .str s => .str (sv s)
  | .tup xs => .tuple (toDs xs)
  | .lst xs => .list (toDs xs)
  | _ => .none
def toDs : List Val → List PyData
  | [] => []
  | x :: r => toD x :: toDs r
end
theorem sv_beq (a b : Sn) : (sv a == sv b) = (a == b) := by
  by_cases h : a = b
  · subst h; simp
  · have h2 : sv a ≠ sv b := fun e => h (sv_inj e)
    rw [beq_eq_false_iff_ne.mpr h2, beq_eq_false_iff_ne.mpr h]
mutual
theorem eqv_toD : ∀ (a b : Val), plainD a = true → plainD b = true → PyData.eqv (toD a) (toD b) = pyEq a b
  | .non, b, _, hb => by cases b <;> first | rfl | (simp [plainD] at hb)
  | .bl x, b, _, hb => by cases b <;> first | rfl | (simp [plainD] at hb)
  | .int x, b, _, hb => by cases b <;> first | rfl | (simp [plainD] at hb)
  | .str x, b, _, hb => by
    cases b <;> first | rfl | (simp [plainD] at hb; done) | skip
    simp only [toD, PyData.eqv, pyEq]
    exact sv_beq _ _
  | .tup x, b, ha, hb => by
    cases b <;> first | rfl | (simp [plainD] at hb; done) | skip
    simp only [toD, PyData.eqv, pyEq]
    exact eqv_toDs _ _ (by simpa [plainD] using ha) (by simpa [plainD] using hb)
  | .lst x, b, ha, hb => by
    cases b <;> first | rfl | (simp [plainD] at hb; done) | skip
    simp only [toD, PyData.eqv, pyEq]
    exact eqv_toDs _ _ (by simpa [plainD] using ha) (by simpa [plainD] using hb)
  | .dct _, _, ha, _ => by simp [plainD] at ha
  | .ref _, _, ha, _ => by simp [plainD] at ha
  | .scr _, _, ha, _ => by simp [plainD] at ha
theorem eqv_toDs : ∀ (a b : List Val), plainDs a = true → plainDs b = true → PyData.eqvAll (toDs a) (toDs b) = pyEqs a b
  | [], [], _, _ => rfl
  | [], _ :: _, _, _ => rfl
  | _ :: _, [], _, _ => rfl
  | x :: r, y :: q, ha, hb => by
    simp only [plainDs, Bool.and_eq_true] at ha hb
    simp only [toDs, PyData.eqvAll, pyEqs]
    rw [eqv_toD x y ha.1 hb.1, eqv_toDs r q ha.2 hb.2]
end
mutual
theorem depth_toD : ∀ a : Val, (toD a).depth = dep a
  | .non => rfl
  | .bl x => rfl
  | .int x => rfl
  | .str x => rfl
  | .tup x => by simp only [toD, PyData.depth, dep]; rw [depth_toDs x]
  | .lst x => by simp only [toD, PyData.depth, dep]; rw [depth_toDs x]
  | .dct _ => rfl
  | .ref _ => rfl
  | .scr _ => rfl
theorem depth_toDs : ∀ a : List Val, PyData.depthAll (toDs a) = deps a
  | [] => rfl
  | x :: r => by simp only [toDs, PyData.depthAll, deps]; rw [depth_toD x, depth_toDs r]
end
section
variable {K : PySem.W.Frag} {H Z : Hp} {ρ : List Addr}
mutual
theorem RV.dp (zin : ∀ a o, Z a = some o → H a = some o) : ∀ (v : Val) (x : V), RV K Z ρ x v → plainD v = true → Dp K H x (toD v)
  | .non, _, h, _ => by cases h; exact .non
  | .bl _, _, h, _ => by cases h; exact .bl _
  | .int _, _, h, _ => by cases h; exact .int _
  | .str _, _, h, _ => by cases h; exact .str _
  | .tup vs, _, h, p => by
    cases h with
    | tup s r l =>
      refine .tup (s.elim (fun q => .inl (q.elim (fun q => .inl (zin _ _ q)) fun ⟨o, q⟩ => .inr ⟨o, zin _ _ q⟩)) .inr) (RVs.dp zin vs _ r (by simpa [plainD] using p))
  | .lst vs, _, h, p => by
    cases h with
    | lst s r l => exact .lst (.inl (.inl (zin _ _ s))) (RVs.dp zin vs _ r (by simpa [plainD] using p))
  | .dct _, _, _, p => by simp [plainD] at p
  | .ref _, _, _, p => by simp [plainD] at p
  | .scr _, _, _, p => by simp [plainD] at p
theorem RVs.dp (zin : ∀ a o, Z a = some o → H a = some o) : ∀ (vs : List Val) (xs : List V), RVs K Z ρ xs vs → plainDs vs = true → DpAll K H xs (toDs vs)
  | [], _, h, _ => by cases h; exact .nil
  | v :: vs, _, h, p => by
    simp only [plainDs, Bool.and_eq_true] at p
    cases h with
    | cons h r => exact .cons (RV.dp zin v _ h p.1) (RVs.dp zin vs _ r p.2)
end
theorem strOk_sv {s : Sn} (h : snOk s = true) : PyData.strOk (sv s) = true := by
  unfold PyData.strOk
  rw [Array.all_eq_true_iff_forall_mem]
  intro c hc
  have := snOk_cps h c (by simpa [sv] using hc)
  exact decide_eq_true this
mutual
theorem RV.lay : ∀ (v : Val) (x : V), RV K Z ρ x v → plainD v = true → (toD v).canLay0 = true
  | .non, _, h, _ => by simp [toD, PyData.canLay0]
  | .bl _, _, h, _ => by simp [toD, PyData.canLay0]
  | .int _, _, h, _ => by simp [toD, PyData.canLay0]
  | .str s, _, h, _ => by
    cases h with
    | str _ l => simp only [toD, PyData.canLay0]; exact strOk_sv l
  | .tup vs, _, h, p => by
    cases h with
    | tup s r l => simp only [toD, PyData.canLay0]; exact RVs.lay vs _ r (by simpa [plainD] using p)
  | .lst vs, _, h, p => by
    cases h with
    | lst s r l => simp only [toD, PyData.canLay0]; exact RVs.lay vs _ r (by simpa [plainD] using p)
  | .dct _, _, _, p => by simp [plainD] at p
  | .ref _, _, _, p => by simp [plainD] at p
  | .scr _, _, _, p => by simp [plainD] at p
theorem RVs.lay : ∀ (vs : List Val) (xs : List V), RVs K Z ρ xs vs → plainDs vs = true → PyData.canLayAll0 (toDs vs) = true
  | [], _, h, _ => by simp [toDs, PyData.canLayAll0]
  | v :: vs, _, h, p => by
    simp only [plainDs, Bool.and_eq_true] at p
    cases h with
    | cons h r =>
      simp only [toDs, PyData.canLayAll0, Bool.and_eq_true]
      exact ⟨RV.lay v _ h p.1, RVs.lay vs _ r p.2⟩
end
/-- looked at: the same -/
theorem RB.dp (zin : ∀ a o, Z a = some o → H a = some o) {v : Val} {x : V} (h : RB K H Z ρ x v) (p : plainD v = true) : Dp K H x (toD v) ∧ (toD v).canLay0 = true := by
  rcases h with h | ⟨a, e, _, _, h⟩
  · exact ⟨h.dp zin v x p, h.lay v x p⟩
  · subst e
    cases v with
    | lst vs =>
      obtain ⟨xs, g, r, l⟩ := h
      have p' : plainDs vs = true := by simpa [plainD] using p
      exact ⟨.lst (.inl (.inl g)) (RVs.dp zin vs _ r p'), by simp only [toD, PyData.canLay0]; exact RVs.lay vs _ r p'⟩
    | dct ds => simp [plainD] at p
    | _ => exact h.elim
end
theorem eqOk_split {a b : Val} (h : eqOk a b = true) : plainD a = true ∧ plainD b = true ∧ min (dep a) (dep b) ≤ 150 := by
  unfold eqOk at h
  simp only [Bool.and_eq_true, Bool.or_eq_true, decide_eq_true_eq] at h
  exact ⟨h.1.1, h.1.2, by omega⟩
/-- == of two values, as the machine's eqBool -/
theorem eqAt_ok {X : Cx} {M : Nm} {pins : List (Addr × Obj)} {s : Shared} {σ : L2.St} {H Z : Hp} {ρ : List Addr} {st : Store} {x y : V} {u w : Value} {a b : Val} {A : Around} (I : L2.Inv X pins σ H s) (h : RH X.K M H Z ρ st) (rx : RelV x u) (ry : RelV y w)
    (ra : RB X.K H Z ρ x a) (rb : RB X.K H Z ρ y b) (ok : eqOk a b = true) (hu : A.units + 150 < cLine) : SeqAt.EqAt A s u w (pyEq a b) := by
  obtain ⟨p1, p2, p3⟩ := eqOk_split ok
  obtain ⟨d1, l1⟩ := ra.dp h.zin p1
  obtain ⟨d2, l2⟩ := rb.dp h.zin p2
  obtain ⟨as, e1⟩ := Dp.reads I _ _ _ d1 rx
  obtain ⟨bs, e2⟩ := Dp.reads I _ _ _ d2 ry
  rw [← eqv_toD a b p1 p2]
  exact SeqAt.eqAt_reads _ _ A s u w as bs e1 e2 l1 l2 (by rw [depth_toD, depth_toD]; omega)
/-- a comparison, by values -/
def CmpR (K : PySem.W.Frag) (M : Nm) (f : Store → Val → Val → Option Bool) : R2 := fun x y H Q =>
  ∃ Z ρ st a b r, RH K M H Z ρ st ∧ RB K H Z ρ x a ∧ RB K H Z ρ y b ∧ f st a b = some r ∧ Q (.bl r) H
theorem cmp_eq (hu : X.A.units + 150 < cLine) : OpR X (compareOp .Eq) (CmpR X.K M (cmpop .eq)) := by
  intro pins s σ H x y v u Q I r1 r2 h
  obtain ⟨Z, ρ, st, a, b, r, h, ra, rb, e, q⟩ := h
  simp only [cmpop] at e
  split at e
  · rename_i ok
    cases e
    obtain ⟨p1, p2, p3⟩ := eqOk_split ok
    obtain ⟨d1, l1⟩ := ra.dp h.zin p1
    obtain ⟨d2, l2⟩ := rb.dp h.zin p2
    obtain ⟨as, e1⟩ := Dp.reads I _ _ _ d1 r1
    obtain ⟨bs, e2⟩ := Dp.reads I _ _ _ d2 r2
    refine SeqAt.compareEq_reads e1 e2 l1 l2 (by rw [depth_toD, depth_toD]; omega) ?_
    rw [eqv_toD a b p1 p2]
    exact ⟨.bl _, H, I, rfl, q⟩
  · cases e
theorem cmp_ne (hu : X.A.units + 150 < cLine) : OpR X (compareOp .NotEq) (CmpR X.K M (cmpop .ne)) := by
  intro pins s σ H x y v u Q I r1 r2 h
  obtain ⟨Z, ρ, st, a, b, r, h, ra, rb, e, q⟩ := h
  simp only [cmpop] at e
  split at e
  · rename_i ok
    cases e
    obtain ⟨p1, p2, p3⟩ := eqOk_split ok
    obtain ⟨d1, l1⟩ := ra.dp h.zin p1
    obtain ⟨d2, l2⟩ := rb.dp h.zin p2
    obtain ⟨as, e1⟩ := Dp.reads I _ _ _ d1 r1
    obtain ⟨bs, e2⟩ := Dp.reads I _ _ _ d2 r2
    refine SeqAt.compareNe_reads e1 e2 l1 l2 (by rw [depth_toD, depth_toD]; omega) ?_
    rw [eqv_toD a b p1 p2]
    exact ⟨.bl _, H, I, rfl, q⟩
  · cases e
end
end Lk
set_option Elab.async false
set_option linter.all false
set_option maxRecDepth 100000
set_option autoImplicit false
set_option maxHeartbeats 1000000
/-! LkC2: < of nested tuples, where items behind the first that differs need not be comparable; in; is. -/
namespace Lk
open PySem PySem.Spec L2 PyProof.Rows

section
open _root_.Ob SeqAt PyProof
/-- as the library's rule for two tuples, but an item is compared only if all ahead of it are the same -/
theorem tupLtFirst (l b : Addr) (us ws : Array Value) (n n2 : Nat) (dd dd2 : Option Addr) (sl sl2 : Array (Option Value)) (e r : Nat → Bool) :
    Meets (Builtin.«tuple.__lt__» ⟨[.ref l, .ref b], []⟩) (fun A R s =>
      s.heap.get? l = some { cls := .type "tuple", dict := dd, data := .seq us n, slots := sl } ∧
      s.heap.get? b = some { cls := .type "tuple", dict := dd2, data := .seq ws n2, slots := sl2 } ∧
      (∀ j (h1 : j < us.size) (h2 : j < ws.size), EqAt A.in1 s us[j] ws[j] (e j)) ∧
      (∀ j (h1 : j < us.size) (h2 : j < ws.size), (∀ i, i < j → e i = true) → e j = false → RcOp .Lt A.in1 s us[j] ws[j] (r j)) ∧
      R (.ok (.ret (.bool (lexAt e r (decide (us.size < ws.size)) 0 (min us.size ws.size))))) s) := by
  refine .of_wp fun prog w A R s h => ?_
  obtain ⟨hp, g, d, tk, os⟩ := s
  obtain ⟨hl, hb, he, hr, h⟩ := h
  have f2 := AutoSeq1.sub_tuple_tuple
  have zl : (us.toList.zip ws.toList).length = min us.size ws.size := by simp
  wp_walk using wpAny_loadPart' hl, wpAny_loadPart' hb, wpAny_forIn_list _ (fun rest b s' => b.1 = none ∧ s' = ⟨hp, g, d, tk, os⟩ ∧
    ∃ i, (∀ i', i' < i → e i' = true) ∧ rest = (us.toList.zip ws.toList).drop i ∧ R (.ok (.ret (.bool (lexAt e r (decide (us.size < ws.size)) i (min us.size ws.size - i))))) ⟨hp, g, d, tk, os⟩) _
  case turn =>
    rintro ⟨y, x⟩ rest b s' ⟨hb', rfl, i, same, hz, hR⟩
    have lt : i < (us.toList.zip ws.toList).length := by
      rcases Nat.lt_or_ge i (us.toList.zip ws.toList).length with k | k
      · exact k
      · rw [List.drop_of_length_le k] at hz
        cases hz
    have lm : i < min us.size ws.size := zl ▸ lt
    have h1 : i < us.size := Nat.lt_of_lt_of_le lm (Nat.min_le_left _ _)
    have h2 : i < ws.size := Nat.lt_of_lt_of_le lm (Nat.min_le_right _ _)
    rw [List.drop_eq_getElem_cons lt] at hz
    injection hz with hyx hrest
    obtain rfl : y = us[i] := by simpa using congrArg Prod.fst hyx
    obtain rfl : x = ws[i] := by simpa using congrArg Prod.snd hyx
    rw [show min us.size ws.size - i = (min us.size ws.size - (i + 1)) + 1 by omega, lexAt_succ] at hR
    refine wpAny_bind (he i h1 h2 prog w _ _ ?_)
    cases hei : e i with
    | true =>
      rw [hei, if_pos rfl] at hR
      wp_walk
      refine ⟨rfl, rfl, i + 1, fun i' hi' => ?_, hrest, hR⟩
      rcases Nat.lt_or_ge i' i with k | k
      · exact same i' k
      · rw [show i' = i by omega]; exact hei
    | false =>
      rw [hei, if_neg Bool.false_ne_true] at hR
      have hri := hr i h1 h2 same hei prog w
      wp_walk using hri
      exact ⟨_, rfl, by simpa using hR⟩
  case fin =>
    rintro ⟨b1, b2⟩ s' ⟨hb', rfl, i, same, hz, hR⟩
    simp only at hb'
    subst hb'
    have ge : min us.size ws.size ≤ i := by
      rcases Nat.lt_or_ge i (us.toList.zip ws.toList).length with k | k
      · rw [List.drop_eq_getElem_cons k] at hz
        cases hz
      · exact zl ▸ k
    rw [Nat.sub_eq_zero_of_le ge, lexAt_zero] at hR
    wp_walk
    exact ⟨_, rfl, by simpa [Builtin.Tuple.tupleCompareSizes] using hR⟩
  case h => exact ⟨rfl, rfl, 0, fun _ z => absurd z (Nat.not_lt_zero _), rfl, by simpa using h⟩
theorem tuplesLt {A : Around} {s : Shared} {l b : Addr} {us ws : Array Value} {e r : Nat → Bool} (hl : s.heap.IsTuple l us) (hb : s.heap.IsTuple b ws) (hu : A.units < cLine)
    (he : ∀ j (h1 : j < us.size) (h2 : j < ws.size), EqAt A.in1 s us[j] ws[j] (e j))
    (hr : ∀ j (h1 : j < us.size) (h2 : j < ws.size), (∀ i, i < j → e i = true) → e j = false → RcOp .Lt A.in1 s us[j] ws[j] (r j)) :
    RcOp .Lt A s (.ref l) (.ref b) (lexAt e r (decide (us.size < ws.size)) 0 (min us.size ws.size)) := fun prog w E Q h => by
  obtain ⟨⟨c1, d1, k1, s1⟩, g1, hc1, n1, hd1⟩ := id hl
  obtain ⟨⟨c2, d2, k2, s2⟩, g2, hc2, n2, hd2⟩ := id hb
  simp only at hc1 hd1 hc2 hd2
  subst hc1 hd1 hc2 hd2
  exact richCompare_meets_room (op := .Lt) ⟨_, g1, rfl⟩ ⟨_, g2, rfl⟩ F.slot_tuple_lt F.entry_tuple_lt (F.args_tuple_lt_2 _ _) (tupLtFirst l b us ws n1 n2 d1 d2 s1 s2 e r) ⟨g1, g2, he, hr, ⟨(fun x => nomatch x), h⟩⟩ hu
end

def eAt (xs ys : List Val) (j : Nat) : Bool := match xs[j]?, ys[j]? with
  | some a, some b => pyEq a b
  | _, _ => false
def rAt (xs ys : List Val) (j : Nat) : Bool := match xs[j]?, ys[j]? with
  | some a, some b => (pyLt a b).getD false
  | _, _ => false
theorem lex_of (xs ys : List Val) : ∀ (k i : Nat) (res : Bool), k = min xs.length ys.length - i → i ≤ min xs.length ys.length → pyLts (xs.drop i) (ys.drop i) = some res →
    _root_.Ob.lexAt (eAt xs ys) (rAt xs ys) (decide (xs.length < ys.length)) i k = res
  | 0, i, res, hk, hi, h => by
    rw [_root_.Ob.lexAt_zero]
    have e : i = min xs.length ys.length := by omega
    rcases Nat.lt_or_ge xs.length ys.length with c | c
    · have e1 : i = xs.length := by omega
      rw [e1, List.drop_length, List.drop_eq_getElem_cons c] at h
      simp only [pyLts] at h
      cases h
      exact decide_eq_true c
    · have e1 : i = ys.length := by omega
      rw [e1, List.drop_length] at h
      rw [decide_eq_false (by omega)]
      cases d : xs.drop ys.length with
      | nil => rw [d] at h; simp only [pyLts] at h; cases h; rfl
      | cons a r => rw [d] at h; simp only [pyLts] at h; cases h; rfl
  | k + 1, i, res, hk, hi, h => by
    rw [_root_.Ob.lexAt_succ]
    have h1 : i < xs.length := by omega
    have h2 : i < ys.length := by omega
    rw [List.drop_eq_getElem_cons h1, List.drop_eq_getElem_cons h2] at h
    simp only [pyLts] at h
    have ee : eAt xs ys i = pyEq xs[i] ys[i] := by simp [eAt, List.getElem?_eq_getElem h1, List.getElem?_eq_getElem h2]
    rw [ee]
    split at h
    · rename_i c
      rw [if_pos c]
      exact lex_of xs ys k (i + 1) res (by omega) (by omega) h
    · rename_i c
      rw [if_neg c]
      simp [rAt, List.getElem?_eq_getElem h1, List.getElem?_eq_getElem h2, h]
theorem dep_get : ∀ (xs : List Val) (j : Nat) (v : Val), xs[j]? = some v → dep v ≤ deps xs
  | [], _, _, h => by simp at h
  | x :: r, 0, v, h => by simp at h; subst h; simp only [deps]; omega
  | x :: r, j + 1, v, h => by
    have := dep_get r j v (by simpa using h)
    simp only [deps]; omega
theorem plain_get : ∀ (xs : List Val) (j : Nat) (v : Val), plainDs xs = true → xs[j]? = some v → plainD v = true
  | [], _, _, _, h => by simp at h
  | x :: r, 0, v, p, h => by simp at h; subst h; simp only [plainDs, Bool.and_eq_true] at p; exact p.1
  | x :: r, j + 1, v, p, h => by
    simp only [plainDs, Bool.and_eq_true] at p
    exact plain_get r j v p.2 (by simpa using h)
/-- the first place where two lists part has a comparison -/
theorem lt_first : ∀ (xs ys : List Val) (j : Nat) (a b : Val) (res : Bool), pyLts xs ys = some res → xs[j]? = some a → ys[j]? = some b → (∀ i, i < j → eAt xs ys i = true) → pyEq a b = false → ∃ r, pyLt a b = some r
  | [], _, _, _, _, _, _, h, _, _, _ => by simp at h
  | _ :: _, [], _, _, _, _, _, _, h, _, _ => by simp at h
  | x :: xs, y :: ys, 0, a, b, res, h, h1, h2, _, ne => by
    simp at h1 h2; subst h1 h2
    simp only [pyLts, ne, Bool.false_eq_true, if_false] at h
    exact ⟨res, h⟩
  | x :: xs, y :: ys, j + 1, a, b, res, h, h1, h2, same, ne => by
    have e0 : pyEq x y = true := by simpa [eAt] using same 0 (by omega)
    simp only [pyLts, e0, if_true] at h
    exact lt_first xs ys j a b res h (by simpa using h1) (by simpa using h2) (fun i hi => by simpa [eAt] using same (i + 1) (by omega)) ne
theorem snLt_iff : ∀ (a b : Sn), snLt a b = decide (a < b)
  | [], [] => by simp [snLt]
  | [], _ :: _ => by simp [snLt]
  | _ :: _, [] => by simp [snLt]
  | x :: r, y :: q => by
    simp only [snLt]
    by_cases h : x = y
    · subst h
      rw [if_pos rfl, snLt_iff r q]
      exact decide_eq_decide.mpr (by simp)
    · rw [if_neg h]
      refine decide_eq_decide.mpr ?_
      simp [List.cons_lt_cons_iff, h]
section
variable {X : Cx} {M : Nm} {pins : List (Addr × Obj)} {s : Shared} {σ : L2.St} {H Z : Hp} {ρ : List Addr} {st : Store}
theorem eqAt_of {x y : V} {u w : Value} {a b : Val} {A : Around} (I : L2.Inv X pins σ H s) (h : RH X.K M H Z ρ st) (rx : RelV x u) (ry : RelV y w)
    (ra : RB X.K H Z ρ x a) (rb : RB X.K H Z ρ y b) (p1 : plainD a = true) (p2 : plainD b = true) (hu : A.units + min (dep a) (dep b) < cLine) : SeqAt.EqAt A s u w (pyEq a b) := by
  obtain ⟨d1, l1⟩ := ra.dp h.zin p1
  obtain ⟨d2, l2⟩ := rb.dp h.zin p2
  obtain ⟨as, e1⟩ := Dp.reads I _ _ _ d1 rx
  obtain ⟨bs, e2⟩ := Dp.reads I _ _ _ d2 ry
  rw [← eqv_toD a b p1 p2]
  exact SeqAt.eqAt_reads _ _ A s u w as bs e1 e2 l1 l2 (by rw [depth_toD, depth_toD]; exact hu)
theorem ltAt (I : L2.Inv X pins σ H s) (h : RH X.K M H Z ρ st) : ∀ (n : Nat) (a b : Val) (x y : V) (u w : Value) (A : Around) (res : Bool), dep a ≤ n → RelV x u → RelV y w → RV X.K Z ρ x a → RV X.K Z ρ y b →
    plainD a = true → plainD b = true → A.units + n < cLine → pyLt a b = some res → _root_.Ob.RcOp .Lt A s u w res
  | n, .int i, b, x, y, u, w, A, res, hn, rx, ry, ra, rb, pa, pb, hu, e => by
    cases b <;> first | (cases e; done) | skip
    cases ra; cases rb; cases e
    obtain ⟨t, rfl⟩ := rx
    obtain ⟨t', rfl⟩ := ry
    exact _root_.Ob.RcOp.lt_int _ _ _ _
  | n, .str i, b, x, y, u, w, A, res, hn, rx, ry, ra, rb, pa, pb, hu, e => by
    cases b <;> first | (cases e; done) | skip
    cases ra; cases rb; cases e
    obtain ⟨t, rfl⟩ := rx
    obtain ⟨t', rfl⟩ := ry
    intro prog w E Q q
    refine lt_str ?_
    rw [sv_cps, sv_cps, ← snLt_iff]
    exact q
  | 0, .tup xs, b, x, y, u, w, A, res, hn, rx, ry, ra, rb, pa, pb, hu, e => by simp [dep] at hn
  | n + 1, .tup xs, .tup ys, x, y, u, w, A, res, hn, rx, ry, ra, rb, pa, pb, hu, e => by
    obtain ⟨a1, vx, ex, hx, qx, lx⟩ := RB.tup h (.inl ra)
    obtain ⟨b1, vy, ey, hy, qy, ly⟩ := RB.tup h (.inl rb)
    subst ex ey
    cases rx; cases ry
    obtain ⟨ix, kx, tx, _⟩ := I.tuple hx
    obtain ⟨iy, ky, ty, _⟩ := I.tuple hy
    have lx2 : ix.length = xs.length := by rw [← kx.length, qx.length]
    have ly2 : iy.length = ys.length := by rw [← ky.length, qy.length]
    have pa' : plainDs xs = true := by simpa [plainD] using pa
    have pb' : plainDs ys = true := by simpa [plainD] using pb
    have hd : deps xs ≤ n := by simp only [dep] at hn; omega
    have e' : pyLts xs ys = some res := by simpa [pyLt] using e
    have fin := lex_of xs ys _ 0 res rfl (Nat.zero_le _) (by simpa using e')
    have item : ∀ j (h1 : j < ix.length) (h2 : j < iy.length), ∃ a b xa xb, xs[j]? = some a ∧ ys[j]? = some b ∧ RV X.K Z ρ xa a ∧ RV X.K Z ρ xb b ∧ RelV xa ix[j] ∧ RelV xb iy[j] := fun j h1 h2 => by
      have g1 : j < xs.length := by omega
      have g2 : j < ys.length := by omega
      obtain ⟨xa, f1, r1⟩ := qx.get (List.getElem?_eq_getElem g1)
      obtain ⟨xb, f2, r2⟩ := qy.get (List.getElem?_eq_getElem g2)
      obtain ⟨u1, f3, r3⟩ := kx.get f1
      obtain ⟨u2, f4, r4⟩ := ky.get f2
      rw [List.getElem?_eq_getElem h1] at f3; cases f3
      rw [List.getElem?_eq_getElem h2] at f4; cases f4
      exact ⟨_, _, xa, xb, List.getElem?_eq_getElem g1, List.getElem?_eq_getElem g2, r1, r2, r3, r4⟩
    have main := tuplesLt (A := A) (e := eAt xs ys) (r := rAt xs ys) (show s.heap.IsTuple a1 ix.toArray from tx) (show s.heap.IsTuple b1 iy.toArray from ty) (by omega) (fun j h1 h2 => ?_) (fun j h1 h2 same ne => ?_)
    · simp only [List.size_toArray] at main
      rw [lx2, ly2] at main
      rw [Nat.sub_zero] at fin
      rw [fin] at main
      exact main
    · simp only [List.size_toArray] at h1 h2
      obtain ⟨a, b, xa, xb, ga, gb, r1, r2, r3, r4⟩ := item j h1 h2
      have ee : eAt xs ys j = pyEq a b := by simp [eAt, ga, gb]
      rw [ee]
      have dd := dep_get xs j a ga
      simpa using eqAt_of (A := A.in1) I h r3 r4 (.inl r1) (.inl r2) (plain_get xs j a pa' ga) (plain_get ys j b pb' gb) (by show A.units + 1 + _ < _; omega)
    · simp only [List.size_toArray] at h1 h2
      obtain ⟨a, b, xa, xb, ga, gb, r1, r2, r3, r4⟩ := item j h1 h2
      have ee : eAt xs ys j = pyEq a b := by simp [eAt, ga, gb]
      rw [ee] at ne
      obtain ⟨rr, q⟩ := lt_first xs ys j a b res e' ga gb same ne
      have er : rAt xs ys j = rr := by simp [rAt, ga, gb, q]
      rw [er]
      have dd := dep_get xs j a ga
      simpa using ltAt I h n a b xa xb _ _ A.in1 rr (by omega) r3 r4 r1 r2 (plain_get xs j a pa' ga) (plain_get ys j b pb' gb) (by show A.units + 1 + _ < _; omega) q
  | _, .tup _, .non, _, _, _, _, _, _, _, _, _, _, _, _, _, _, e => by cases e
  | _, .tup _, .bl _, _, _, _, _, _, _, _, _, _, _, _, _, _, _, e => by cases e
  | _, .tup _, .int _, _, _, _, _, _, _, _, _, _, _, _, _, _, _, e => by cases e
  | _, .tup _, .str _, _, _, _, _, _, _, _, _, _, _, _, _, _, _, e => by cases e
  | _, .tup _, .lst _, _, _, _, _, _, _, _, _, _, _, _, _, _, _, e => by cases e
  | _, .tup _, .dct _, _, _, _, _, _, _, _, _, _, _, _, _, _, _, e => by cases e
  | _, .tup _, .ref _, _, _, _, _, _, _, _, _, _, _, _, _, _, _, e => by cases e
  | _, .tup _, .scr _, _, _, _, _, _, _, _, _, _, _, _, _, _, _, e => by cases e
  | _, .non, b, _, _, _, _, _, _, _, _, _, _, _, _, _, _, e => by cases b <;> cases e
  | _, .bl _, b, _, _, _, _, _, _, _, _, _, _, _, _, _, _, e => by cases b <;> cases e
  | _, .lst _, b, _, _, _, _, _, _, _, _, _, _, _, _, _, _, e => by cases b <;> cases e
  | _, .dct _, b, _, _, _, _, _, _, _, _, _, _, _, _, _, _, e => by cases b <;> cases e
  | _, .ref _, b, _, _, _, _, _, _, _, _, _, _, _, _, _, _, e => by cases b <;> cases e
  | _, .scr _, b, _, _, _, _, _, _, _, _, _, _, _, _, _, _, e => by cases b <;> cases e
end
end Lk
set_option Elab.async false
set_option linter.all false
set_option maxRecDepth 100000
set_option autoImplicit false
set_option maxHeartbeats 1000000
/-! LkC3: comparisons: <, <=, in, is. -/
namespace Lk
open PySem PySem.Spec L2 PyProof.Rows
section
variable {X : Cx} {M : Nm} {pins : List (Addr × Obj)} {s : Shared} {σ : L2.St} {H Z : Hp} {ρ : List Addr} {st : Store}
theorem not_both (I : L2.Inv X pins σ H s) {a : Addr} {xs ys : List V} (h1 : SqT X.K H a xs) (h2 : H a = some (.lst ys)) : False := by
  obtain ⟨i1, _, ⟨o1, g1, c1, _⟩, _⟩ := I.tuple h1
  obtain ⟨i2, _, ⟨o2, n2, g2, c2, _⟩, _⟩ := I.list (.inl (.inl h2))
  rw [g1] at g2; cases g2
  rw [c1] at c2
  exact absurd c2 (by decide)
theorem RV.strV {K : PySem.W.Frag} {z : Str} {v : Val} (h : RV K Z ρ (.str z) v) : ∃ k, v = .str k ∧ z = sv k := by
  cases h with
  | str k l => exact ⟨k, rfl, rfl⟩
mutual
theorem RV.fn (I : L2.Inv X pins σ H s) (h : RH X.K M H Z ρ st) : ∀ (v w : Val) (x : V), RV X.K Z ρ x v → RV X.K Z ρ x w → plainD v = true → plainD w = true → v = w
  | .non, w, _, a, b, _, p => by cases a; cases b; rfl
  | .bl _, w, _, a, b, _, p => by cases a; cases b; rfl
  | .int _, w, _, a, b, _, p => by cases a; cases b; rfl
  | .str k, w, _, a, b, _, p => by
    cases a
    obtain ⟨k2, rfl, e⟩ := RV.strV b
    rw [sv_inj e]
  | .tup vs, w, _, a, b, p, q => by
    cases a with
    | tup s1 r1 l1 =>
      cases w with
      | tup ws =>
        cases b with
        | tup s2 r2 l2 =>
          have e := I.tuple_inj (h.sqT s1) (h.sqT s2)
          subst e
          rw [RVs.fn I h vs ws _ r1 r2 (by simpa [plainD] using p) (by simpa [plainD] using q)]
      | lst ws => cases b with | lst s2 r2 l2 => exact (not_both I (h.sqT s1) (h.zin _ _ s2)).elim
      | dct _ => simp [plainD] at q
      | ref _ => simp [plainD] at q
      | scr _ => simp [plainD] at q
      | non => cases b
      | bl _ => cases b
      | int _ => cases b
      | str _ => cases b
  | .lst vs, w, _, a, b, p, q => by
    cases a with
    | lst s1 r1 l1 =>
      cases w with
      | lst ws =>
        cases b with
        | lst s2 r2 l2 =>
          rw [s1] at s2; cases s2
          rw [RVs.fn I h vs ws _ r1 r2 (by simpa [plainD] using p) (by simpa [plainD] using q)]
      | tup ws => cases b with | tup s2 r2 l2 => exact (not_both I (h.sqT s2) (h.zin _ _ s1)).elim
      | dct _ => simp [plainD] at q
      | ref _ => simp [plainD] at q
      | scr _ => simp [plainD] at q
      | non => cases b
      | bl _ => cases b
      | int _ => cases b
      | str _ => cases b
  | .dct _, _, _, _, _, p, _ => by simp [plainD] at p
  | .ref _, _, _, _, _, p, _ => by simp [plainD] at p
  | .scr _, _, _, _, _, p, _ => by simp [plainD] at p
theorem RVs.fn (I : L2.Inv X pins σ H s) (h : RH X.K M H Z ρ st) : ∀ (vs ws : List Val) (xs : List V), RVs X.K Z ρ xs vs → RVs X.K Z ρ xs ws → plainDs vs = true → plainDs ws = true → vs = ws
  | [], _, _, a, b, _, _ => by cases a; cases b; rfl
  | v :: vs, _, _, a, b, p, q => by
    cases a with
    | cons a1 a2 =>
      cases b with
      | cons b1 b2 =>
        simp only [plainDs, Bool.and_eq_true] at p q
        rw [RV.fn I h v _ _ a1 b1 p.1 q.1, RVs.fn I h vs _ _ a2 b2 p.2 q.2]
end

/-- x in a list or tuple, by values -/
theorem any_of {a : Val} (I : L2.Inv X pins σ H s) (h : RH X.K M H Z ρ st) {x : V} {u : Value} (rx : RelV x u) (ra : RB X.K H Z ρ x a) {A : Around} (hu : A.units + 150 < cLine) {xs : List V} {vs : List Val} {its : List Value}
    (r : RVs X.K Z ρ xs vs) (k : Vals xs its) (ok : vs.all (fun y => eqOk y a) = true) :
    ∃ e : Value → Bool, (∀ y, y ∈ its → SeqAt.EqAt A s y u (e y)) ∧ its.any e = vs.any fun y => pyEq y a := by
  classical
  have all : ∀ v ∈ vs, eqOk v a = true := List.all_eq_true.mp ok
  refine ⟨fun y => decide (∃ z v, RelV z y ∧ RV X.K Z ρ z v ∧ v ∈ vs ∧ pyEq v a = true), fun y hy => ?_, ?_⟩
  · obtain ⟨j, hj, e⟩ := List.mem_iff_getElem.mp hy
    have hl : its.length = vs.length := by rw [← k.length, r.length]
    obtain ⟨z, g1, q1⟩ := r.get (i := j) (List.getElem?_eq_getElem (by omega))
    obtain ⟨y2, g2, q2⟩ := k.get g1
    rw [List.getElem?_eq_getElem hj, e] at g2; cases g2
    have mem : vs[j]'(by omega) ∈ vs := List.getElem_mem _
    have okj := all _ mem
    have main := eqAt_ok (A := A) I h q2 rx (.inl q1) ra okj hu
    have ee : decide (∃ z v, RelV z y ∧ RV X.K Z ρ z v ∧ v ∈ vs ∧ pyEq v a = true) = pyEq (vs[j]'(by omega)) a := by
      cases c : pyEq (vs[j]'(by omega)) a with
      | true => exact decide_eq_true ⟨z, _, q2, q1, mem, c⟩
      | false =>
        refine decide_eq_false ?_
        rintro ⟨z', v', w1, w2, w3, w4⟩
        have ez := w1.inj q2
        subst ez
        have ev := RV.fn I h v' _ _ w2 q1 (eqOk_split (all v' w3)).1 (eqOk_split okj).1
        rw [ev, c] at w4; cases w4
    dsimp only
    rw [ee]
    exact main
  · cases c : vs.any (fun y => pyEq y a) with
    | true =>
      obtain ⟨v, hv, ev⟩ := List.any_eq_true.mp c
      obtain ⟨j, hj, e⟩ := List.mem_iff_getElem.mp hv
      obtain ⟨z, g1, q1⟩ := r.get (i := j) (List.getElem?_eq_getElem hj)
      obtain ⟨y2, g2, q2⟩ := k.get g1
      refine List.any_eq_true.mpr ⟨y2, List.mem_of_getElem? g2, decide_eq_true ⟨z, v, q2, ?_, hv, ev⟩⟩
      rw [← e]; exact q1
    | false =>
      refine List.any_eq_false.mpr fun y hy => ?_
      rw [Bool.not_eq_true]
      refine decide_eq_false ?_
      rintro ⟨z', v', w1, w2, w3, w4⟩
      have := List.any_eq_false.mp c v' w3
      exact this w4
theorem units_in1 {A : Around} (h : A.units + 160 < cLine) : A.in1.units + 150 < cLine := by show A.units + 1 + 150 < cLine; omega
def keyOf : Val → Option Key
  | .int i => some (.inl i)
  | .str t => some (.inr (sv t))
  | _ => none
theorem keyOf_some {k : Val} (h : keyOk k = true) : ∃ key, keyOf k = some key := by
  cases k <;> first | exact ⟨_, rfl⟩ | (simp [keyOk] at h)
theorem keyEq_int {i : Int} {k : Val} {key : Key} (hk : keyOf k = some key) : keyEq (.int i) k = decide ((Sum.inl i : Key) = key) := by
  cases k <;> simp [keyOf] at hk
  · rename_i j
    subst hk
    by_cases c : i = j
    · subst c; simp [keyEq]
    · simp [keyEq, c]
  · subst hk; simp [keyEq]
theorem keyEq_str {t : Sn} {k : Val} {key : Key} (hk : keyOf k = some key) : keyEq (.str t) k = decide ((Sum.inr (sv t) : Key) = key) := by
  cases k <;> simp [keyOf] at hk
  · subst hk; simp [keyEq]
  · rename_i t2
    subst hk
    by_cases c : t = t2
    · subst c; simp [keyEq]
    · have c2 : sv t ≠ sv t2 := fun e => c (sv_inj e)
      simp [keyEq, c, c2]
theorem RKs.look {K : PySem.W.Frag} {k : Val} {key : Key} (hk : keyOf k = some key) : ∀ {kvs : List (Key × V)} {ds : List (Val × Val)}, RKs K Z ρ kvs ds →
    (∀ v, dget ds k = some v → ∃ x, valV kvs key = some x ∧ RV K Z ρ x v) ∧ (dget ds k = none → valV kvs key = none)
  | _, _, .nil => ⟨fun v e => by simp [dget] at e, fun _ => rfl⟩
  | _, _, .int (i := i) (x := x) h r => by
    obtain ⟨l1, l2⟩ := RKs.look hk r
    simp only [dget, keyEq_int hk, decide_eq_true_eq]
    by_cases c : (Sum.inl i : Key) = key
    · rw [if_pos c, valV_pos c]
      exact ⟨fun v e => ⟨x, rfl, by cases e; exact h⟩, fun e => by cases e⟩
    · rw [if_neg c, valV_neg c]
      exact ⟨l1, l2⟩
  | _, _, .str (s := t) (x := x) l h r => by
    obtain ⟨l1, l2⟩ := RKs.look hk r
    simp only [dget, keyEq_str hk, decide_eq_true_eq]
    by_cases c : (Sum.inr (sv t) : Key) = key
    · rw [if_pos c, valV_pos c]
      exact ⟨fun v e => ⟨x, rfl, by cases e; exact h⟩, fun e => by cases e⟩
    · rw [if_neg c, valV_neg c]
      exact ⟨l1, l2⟩
theorem RB.key {k : Val} {key : Key} {x : V} (hk : keyOf k = some key) (r : RB X.K H Z ρ x k) : x = kV key := by
  cases k <;> simp [keyOf] at hk
  · subst hk; exact r.int
  · subst hk; exact r.str.1
/-- a dict that is asked -/
theorem dget_of {a : Addr} {kvs : List (Key × V)} {ds : List (Val × Val)} {k : Val} {y : V} (rd : Rd H a (.dK kvs)) (r : RKs X.K Z ρ kvs ds) (ok : keyOk k = true) (ry : RB X.K H Z ρ y k) :
    ∃ o, DGet H a y o ∧ (∀ v, dget ds k = some v → ∃ x, o = some x ∧ RV X.K Z ρ x v) ∧ (dget ds k = none → o = none) ∧ o.isSome = (dget ds k).isSome := by
  obtain ⟨key, hk⟩ := keyOf_some ok
  obtain ⟨l1, l2⟩ := RKs.look hk r
  refine ⟨valV kvs key, .inl ⟨kvs, key, rd, ry.key hk, rfl⟩, l1, l2, ?_⟩
  cases c : dget ds k with
  | none => rw [l2 c]; rfl
  | some v => obtain ⟨x, e, _⟩ := l1 v c; rw [e]; rfl

theorem isIn_cases {a b : Val} {r : Bool} (e : isIn st a b = some r) :
    (∃ t c, b = .str t ∧ a = .str [c] ∧ r = t.contains c) ∨
    (∃ vs, b = .tup vs ∧ vs.all (fun y => eqOk y a) = true ∧ r = vs.any fun y => pyEq y a) ∨
    (∃ vs, asList st b = some vs ∧ vs.all (fun y => eqOk y a) = true ∧ r = vs.any fun y => pyEq y a) ∨
    (∃ ds, asDict st b = some ds ∧ keyOk a = true ∧ r = (dget ds a).isSome) := by
  unfold isIn at e
  split at e
  · split at e
    · cases e; exact .inl ⟨_, _, rfl, rfl, rfl⟩
    · cases e
  · split at e
    · rename_i c; cases e; exact .inr (.inl ⟨_, rfl, c, rfl⟩)
    · cases e
  · split at e
    · rename_i c
      split at e
      · rename_i c2; cases e; exact .inr (.inr (.inl ⟨_, c, c2, rfl⟩))
      · cases e
    · split at e
      · rename_i c
        split at e
        · rename_i c2; cases e; exact .inr (.inr (.inr ⟨_, c, c2, rfl⟩))
        · cases e
      · cases e
theorem contains_dec (t : Sn) (c : Nat) : t.contains c = decide (c ∈ (sv t).cps.toList) := by
  rw [sv_cps]
  by_cases h : c ∈ t
  · rw [decide_eq_true h]; simpa using h
  · rw [decide_eq_false h]; simpa using h
theorem cmp_in (hu : X.A.units + 160 < cLine) : OpR X (compareOp .In) (CmpR X.K M (cmpop .isin)) := by
  intro pins s σ H x y v u Q I r1 r2 h
  obtain ⟨Z, ρ, st, a, b, r, h, ra, rb, e, q⟩ := h
  rcases isIn_cases e with ⟨t, c, rfl, rfl, rfl⟩ | ⟨vs, rfl, ok, rfl⟩ | ⟨vs, e1, ok, rfl⟩ | ⟨ds, e1, ok, rfl⟩
  · rw [contains_dec] at q
    exact op_in_sign pins s σ H x y v u Q I r1 r2 ⟨c, sv t, ra.str.1, rb.str.1, q⟩
  · obtain ⟨p, xs, ey, hs, rv, l⟩ := rb.tup h
    subst ey
    cases r2
    obtain ⟨its, k, pl, _⟩ := I.tuple hs
    obtain ⟨ee, e1, e2⟩ := any_of I h r1 ra (units_in1 hu) rv k ok
    refine SeqAt.in_tupleAt ee pl (fun w hw => e1 w (by simpa using hw)) ⟨.bl _, H, I, rfl, ?_⟩
    rw [show its.toArray.any ee = its.any ee by simp, e2]
    exact q
  · obtain ⟨p, xs, ey, hs, rv, l⟩ := rb.list h e1
    subst ey
    cases r2
    obtain ⟨its, k, pl, _⟩ := I.list (.inl (.inl hs))
    obtain ⟨ee, e1, e2⟩ := any_of I h r1 ra (units_in1 hu) rv k ok
    refine SeqAt.in_listAt ee pl.isList (fun w hw => e1 w (by simpa using hw)) ⟨.bl _, H, I, rfl, ?_⟩
    rw [show its.toArray.any ee = its.any ee by simp, e2]
    exact q
  · obtain ⟨p, kvs, ey, hs, rv, l⟩ := rb.dict h e1
    subst ey
    cases r2
    obtain ⟨o, g, _, _, go⟩ := dget_of hs rv ok ra
    refine d_in (by omega) I g r1 fun s3 I3 => ⟨.bl o.isSome, H, I3, rfl, ?_⟩
    rw [go]; exact q
theorem cmp_notin (hu : X.A.units + 160 < cLine) : OpR X (compareOp .NotIn) (CmpR X.K M (cmpop .notin)) := by
  intro pins s σ H x y v u Q I r1 r2 h
  obtain ⟨Z, ρ, st, a, b, r, h, ra, rb, e, q⟩ := h
  simp only [cmpop, Option.map_eq_some_iff] at e
  obtain ⟨r0, e, rfl⟩ := e
  rcases isIn_cases e with ⟨t, c, rfl, rfl, rfl⟩ | ⟨vs, rfl, ok, rfl⟩ | ⟨vs, e1, ok, rfl⟩ | ⟨ds, e1, ok, rfl⟩
  · rw [contains_dec] at q
    exact op_notIn_sign pins s σ H x y v u Q I r1 r2 ⟨c, sv t, ra.str.1, rb.str.1, q⟩
  · obtain ⟨p, xs, ey, hs, rv, l⟩ := rb.tup h
    subst ey
    cases r2
    obtain ⟨its, k, pl, _⟩ := I.tuple hs
    obtain ⟨ee, e1, e2⟩ := any_of I h r1 ra (units_in1 hu) rv k ok
    refine SeqAt.notIn_tupleAt ee pl (fun w hw => e1 w (by simpa using hw)) ⟨.bl _, H, I, rfl, ?_⟩
    rw [show its.toArray.any ee = its.any ee by simp, e2]
    exact q
  · obtain ⟨p, xs, ey, hs, rv, l⟩ := rb.list h e1
    subst ey
    cases r2
    obtain ⟨its, k, pl, _⟩ := I.list (.inl (.inl hs))
    obtain ⟨ee, e1, e2⟩ := any_of I h r1 ra (units_in1 hu) rv k ok
    refine SeqAt.notIn_listAt ee pl.isList (fun w hw => e1 w (by simpa using hw)) ⟨.bl _, H, I, rfl, ?_⟩
    rw [show its.toArray.any ee = its.any ee by simp, e2]
    exact q
  · obtain ⟨p, kvs, ey, hs, rv, l⟩ := rb.dict h e1
    subst ey
    cases r2
    obtain ⟨o, g, _, _, go⟩ := dget_of hs rv ok ra
    refine d_notIn (by omega) I g r1 fun s3 I3 => ⟨.bl (!o.isSome), H, I3, rfl, ?_⟩
    rw [go]; exact q
theorem cmp_lt (hu : X.A.units + 160 < cLine) : OpR X (compareOp .Lt) (CmpR X.K M (cmpop .lt)) := by
  intro pins s σ H x y v u Q I r1 r2 h
  obtain ⟨Z, ρ, st, a, b, r, h, ra, rb, e, q⟩ := h
  simp only [cmpop] at e
  split at e
  · rename_i c
    simp only [ltOk, Bool.and_eq_true, decide_eq_true_eq] at c
    have ra' : RV X.K Z ρ x a := by
      rcases ra with ra | ⟨_, _, _, _, f⟩
      · exact ra
      · cases a <;> first | (exact f.elim) | (cases b <;> cases e)
    have rb' : RV X.K Z ρ y b := by
      rcases rb with rb | ⟨_, _, _, _, f⟩
      · exact rb
      · cases b <;> first | (exact f.elim) | (cases a <;> cases e)
    exact ltAt I h 120 a b x y v u X.A r c.1.2 r1 r2 ra' rb' c.1.1 c.2.1 (by omega) e X.prog X.w X.xe _ ⟨.bl _, H, I, rfl, q⟩
  · cases e
theorem cmp_le : OpR X (compareOp .LtE) (CmpR X.K M (cmpop .le)) := by
  intro pins s σ H x y v u Q I r1 r2 h
  obtain ⟨Z, ρ, st, a, b, r, h, ra, rb, e, q⟩ := h
  cases a <;> cases b <;> first | (cases e; done) | skip
  cases e
  exact op_le pins s σ H x y v u Q I r1 r2 ⟨_, _, ra.int, rb.int, q⟩
theorem cmp_gt : OpR X (compareOp .Gt) (CmpR X.K M (cmpop .gt)) := by
  intro pins s σ H x y v u Q I r1 r2 h
  obtain ⟨Z, ρ, st, a, b, r, h, ra, rb, e, q⟩ := h
  cases a <;> cases b <;> first | (cases e; done) | skip
  cases e
  exact op_gt pins s σ H x y v u Q I r1 r2 ⟨_, _, ra.int, rb.int, q⟩
theorem cmp_ge : OpR X (compareOp .GtE) (CmpR X.K M (cmpop .ge)) := by
  intro pins s σ H x y v u Q I r1 r2 h
  obtain ⟨Z, ρ, st, a, b, r, h, ra, rb, e, q⟩ := h
  cases a <;> cases b <;> first | (cases e; done) | skip
  cases e
  exact op_ge pins s σ H x y v u Q I r1 r2 ⟨_, _, ra.int, rb.int, q⟩
theorem RB.nonIff {x : V} {a : Val} (r : RB X.K H Z ρ x a) : decide (x = .non) = isNon a := by
  rcases r with r | ⟨p, e, _⟩
  · cases r <;> rfl
  · subst e
    cases a <;> first | rfl | (rename_i h; exact h.2.2.elim)
theorem is_bool {pins : List (Addr × Obj)} {s : Shared} {σ : L2.St} {H Z : Hp} {ρ : List Addr} {st : Store} {x : V} {v : Value} {a : Val} {c : Bool} (r1 : RelV x v) (ra : RB X.K H Z ρ x a) :
    (v = .bool c ∧ isBlV c a = true) ∨ (v ≠ .bool c ∧ isBlV c a = false) := by
  rcases ra with ra | ⟨p, e, _, _, f⟩
  · cases ra
    case bl d =>
      cases (show v = Value.bool d from r1)
      by_cases e : c = d
      · subst e; exact .inl ⟨rfl, by simp [isBlV]⟩
      · exact .inr ⟨fun z => e (Value.bool.inj z).symm, by simpa [isBlV] using e⟩
    case non => cases (show v = Value.none from r1); exact .inr ⟨(fun z => nomatch z), rfl⟩
    case int => obtain ⟨t, rfl⟩ := r1; exact .inr ⟨(fun z => nomatch z), rfl⟩
    case str => obtain ⟨t, rfl⟩ := r1; exact .inr ⟨(fun z => nomatch z), rfl⟩
    all_goals (cases r1; exact .inr ⟨(fun z => nomatch z), rfl⟩)
  · subst e
    cases r1
    refine .inr ⟨(fun z => nomatch z), ?_⟩
    cases a <;> first | rfl | (exact f.elim)
theorem relV_plain {x : V} {v : Value} {c : Bool} (r : RelV x v) : plainIs v (.bool c) = true := by
  cases x <;> first | (cases r; rfl) | (obtain ⟨t, rfl⟩ := r; rfl)
theorem cmp_is : OpR X (compareOp .Is) (CmpR X.K M (cmpop .is_)) := by
  intro pins s σ H x y v u Q I r1 r2 h
  obtain ⟨Z, ρ, st, a, b, r, h, ra, rb, e, q⟩ := h
  cases b <;> first | (cases e; done) | skip
  · cases e
    refine op_isN pins s σ H x y v u Q I r1 r2 ⟨rb.non, ?_⟩
    rw [ra.nonIff]; exact q
  · rename_i c
    cases e
    have ey := rb.bl
    subst ey
    cases (show u = Value.bool c from r2)
    rcases is_bool (c := c) (st := st) (pins := pins) (s := s) (σ := σ) r1 ra with ⟨rfl, e⟩ | ⟨ne, e⟩
    · rw [e] at q
      exact wpAny_is_self rfl ⟨.bl true, H, I, rfl, q⟩
    · rw [e] at q
      refine wpAny_is_other ?_ ne ⟨.bl false, H, I, rfl, q⟩
      exact relV_plain r1
theorem cmp_isnot : OpR X (compareOp .IsNot) (CmpR X.K M (cmpop .isnot)) := by
  intro pins s σ H x y v u Q I r1 r2 h
  obtain ⟨Z, ρ, st, a, b, r, h, ra, rb, e, q⟩ := h
  cases b <;> first | (cases e; done) | skip
  · cases e
    refine op_notN pins s σ H x y v u Q I r1 r2 ⟨rb.non, ?_⟩
    rw [ra.nonIff]; exact q
  · rename_i c
    cases e
    have ey := rb.bl
    subst ey
    cases (show u = Value.bool c from r2)
    rcases is_bool (c := c) (st := st) (pins := pins) (s := s) (σ := σ) r1 ra with ⟨rfl, e⟩ | ⟨ne, e⟩
    · rw [e] at q
      exact wpAny_isNot_self rfl ⟨.bl false, H, I, rfl, q⟩
    · rw [e] at q
      refine wpAny_isNot_other ?_ ne ⟨.bl true, H, I, rfl, q⟩
      exact relV_plain r1
def copP : Cop → CmpOp
  | .eq => .Eq
  | .ne => .NotEq
  | .lt => .Lt
  | .le => .LtE
  | .gt => .Gt
  | .ge => .GtE
  | .isin => .In
  | .notin => .NotIn
  | .is_ => .Is
  | .isnot => .IsNot
theorem cmp_ok (hu : X.A.units + 160 < cLine) : ∀ op : Cop, OpR X (compareOp (copP op)) (CmpR X.K M (cmpop op))
  | .eq => cmp_eq (by omega)
  | .ne => cmp_ne (by omega)
  | .lt => cmp_lt hu
  | .le => cmp_le
  | .gt => cmp_gt
  | .ge => cmp_ge
  | .isin => cmp_in hu
  | .notin => cmp_notin hu
  | .is_ => cmp_is
  | .isnot => cmp_isnot
end
end Lk
set_option Elab.async false
set_option linter.all false
set_option maxRecDepth 100000
set_option autoImplicit false
set_option maxHeartbeats 1000000
/-! LkD: readings of expressions by the evaluator; a lemma for each construct. -/
namespace Lk
open PySem PySem.Spec L2 PyProof.Rows

/-- an exception's fields -/
def RX (K : PySem.W.Frag) (M : Nm) (H Z : Hp) (ρ : List Addr) (d : Option Addr) (fs : List (Nat × Val)) : Prop :=
  (fs = [] ∧ d = none) ∨ ∃ a gs, d = some a ∧ H a = some (.xd gs) ∧ RFs K M.an Z ρ gs fs
def Exc1 (K : PySem.W.Frag) (M : Nm) (H Z : Hp) (ρ : List Addr) (W : XK) (c : Nat) (fs : List (Nat × Val)) (st : Store) : Prop :=
  ∀ d H' Z' ρ', Adv H Z ρ H' Z' ρ' → RH K M H' Z' ρ' st → RX K M H' Z' ρ' d fs → W (.ref (M.xa c)) d H'
/-- what is wanted of an answer, of whatever kind -/
def After {α : Type} (K : PySem.W.Frag) (M : Nm) (H Z : Hp) (ρ : List Addr) (W : XK) (r : Res α) (k : α → Store → Prop) : Prop :=
  match r with
  | .ok a st => k a st
  | .exc c fs st => Exc1 K M H Z ρ W c fs st
  | .bad => False
def OkV (K : PySem.W.Frag) (M : Nm) (H Z : Hp) (ρ : List Addr) (v : Val) (st : Store) (Q : VK) : Prop :=
  ∀ x H' Z' ρ', Adv H Z ρ H' Z' ρ' → RH K M H' Z' ρ' st → RV K Z' ρ' x v → Q x H'
def OkB (K : PySem.W.Frag) (M : Nm) (H Z : Hp) (ρ : List Addr) (v : Val) (st : Store) (Q : VK) : Prop :=
  ∀ x H' Z' ρ', Adv H Z ρ H' Z' ρ' → RH K M H' Z' ρ' st → RB K H' Z' ρ' x v → Q x H'
def OkVs (K : PySem.W.Frag) (M : Nm) (H Z : Hp) (ρ : List Addr) (vs : List Val) (st : Store) (Q : List V → Hp → Prop) : Prop :=
  ∀ xs H' Z' ρ', Adv H Z ρ H' Z' ρ' → RH K M H' Z' ρ' st → RVs K Z' ρ' xs vs → Q xs H'
inductive RBs (K : PySem.W.Frag) (H Z : Hp) (ρ : List Addr) : List V → List Val → Prop
  | nil : RBs K H Z ρ [] []
  | cons {x : V} {v : Val} {xs : List V} {vs : List Val} : RB K H Z ρ x v → RBs K H Z ρ xs vs → RBs K H Z ρ (x :: xs) (v :: vs)
def OkBs (K : PySem.W.Frag) (M : Nm) (H Z : Hp) (ρ : List Addr) (vs : List Val) (st : Store) (Q : List V → Hp → Prop) : Prop :=
  ∀ xs H' Z' ρ', Adv H Z ρ H' Z' ρ' → RH K M H' Z' ρ' st → RBs K H' Z' ρ' xs vs → Q xs H'

section
variable (K : PySem.W.Frag) (M : Nm) (W : WX)
def TR (f : Env → Store → Res Rv) : TE := fun σ H Q => ∃ Hb Z ρ env st, RH K M H Z ρ st ∧ RE K Hb H Z ρ σ env ∧ After K M H Z ρ (fun c d H' => W c d σ H') (f env st) fun rv st' => Ok1 K M H Z ρ rv st' Q
def TV (f : Env → Store → Res Rv) : TE := fun σ H Q => ∃ Hb Z ρ env st, RH K M H Z ρ st ∧ RE K Hb H Z ρ σ env ∧ After K M H Z ρ (fun c d H' => W c d σ H') (f env st) fun rv st' => OkV K M H Z ρ rv.2 st' Q
def TB (f : Env → Store → Res Val) : TE := fun σ H Q => ∃ Hb Z ρ env st, RH K M H Z ρ st ∧ RE K Hb H Z ρ σ env ∧ After K M H Z ρ (fun c d H' => W c d σ H') (f env st) fun v st' => OkB K M H Z ρ v st' Q
def TVs (f : Env → Store → Res (List Val)) : TA := fun σ H Q => ∃ Hb Z ρ env st, RH K M H Z ρ st ∧ RE K Hb H Z ρ σ env ∧ After K M H Z ρ (fun c d H' => W c d σ H') (f env st) fun vs st' => OkVs K M H Z ρ vs st' Q
def TBs (f : Env → Store → Res (List Val)) : TA := fun σ H Q => ∃ Hb Z ρ env st, RH K M H Z ρ st ∧ RE K Hb H Z ρ σ env ∧ After K M H Z ρ (fun c d H' => W c d σ H') (f env st) fun vs st' => OkBs K M H Z ρ vs st' Q
def TT' (f : Env → Store → Res Bool) : TT := fun σ H Q => ∃ Hb Z ρ env st, RH K M H Z ρ st ∧ RE K Hb H Z ρ σ env ∧ After K M H Z ρ (fun c d H' => W c d σ H') (f env st) fun b st' =>
  ∀ H' Z' ρ', Adv H Z ρ H' Z' ρ' → RH K M H' Z' ρ' st' → Q b H'
end

section
variable {K : PySem.W.Frag} {M : Nm} {W : XK} {H Z H1 Z1 : Hp} {ρ ρ1 : List Addr} {st : Store} {Q : VK} {rv : Rv} {v : Val} {vs : List Val} {QL : List V → Hp → Prop}
theorem Exc1.adv {c : Nat} {fs : List (Nat × Val)} (a : Adv H Z ρ H1 Z1 ρ1) (h : Exc1 K M H Z ρ W c fs st) : Exc1 K M H1 Z1 ρ1 W c fs st := fun d H' Z' ρ' b => h d H' Z' ρ' (a.trans b)
theorem RR.back {Hb H' Z' : Hp} {ρ' : List Addr} {x : V} (th : ∀ a, Hb a ≠ none → H1 a ≠ none) (r : RR K H1 H' Z' ρ' x rv) : RR K Hb H' Z' ρ' x rv := by
  obtain ⟨o, v⟩ := rv
  cases o with
  | false => exact r
  | true =>
    obtain ⟨a, e, n, q⟩ := r
    refine ⟨a, e, ?_, q⟩
    cases z : Hb a with
    | none => rfl
    | some u => exact (th a (by rw [z]; exact fun q => nomatch q) n).elim
theorem Ok1.adv (a : Adv H Z ρ H1 Z1 ρ1) (h : Ok1 K M H Z ρ rv st Q) : Ok1 K M H1 Z1 ρ1 rv st Q := fun x H' Z' ρ' b h' r => h x H' Z' ρ' (a.trans b) h' (r.back a.th)
theorem OkV.adv (a : Adv H Z ρ H1 Z1 ρ1) (h : OkV K M H Z ρ v st Q) : OkV K M H1 Z1 ρ1 v st Q := fun x H' Z' ρ' b => h x H' Z' ρ' (a.trans b)
theorem OkB.adv (a : Adv H Z ρ H1 Z1 ρ1) (h : OkB K M H Z ρ v st Q) : OkB K M H1 Z1 ρ1 v st Q := fun x H' Z' ρ' b => h x H' Z' ρ' (a.trans b)
theorem OkVs.adv (a : Adv H Z ρ H1 Z1 ρ1) (h : OkVs K M H Z ρ vs st QL) : OkVs K M H1 Z1 ρ1 vs st QL := fun x H' Z' ρ' b => h x H' Z' ρ' (a.trans b)
theorem OkBs.adv (a : Adv H Z ρ H1 Z1 ρ1) (h : OkBs K M H Z ρ vs st QL) : OkBs K M H1 Z1 ρ1 vs st QL := fun x H' Z' ρ' b => h x H' Z' ρ' (a.trans b)
theorem After.adv {α : Type} {r : Res α} {k k' : α → Store → Prop} (a : Adv H Z ρ H1 Z1 ρ1) (h : After K M H Z ρ W r k) (hk : ∀ x s, k x s → k' x s) : After K M H1 Z1 ρ1 W r k' := by
  cases r with
  | ok x s => exact hk x s h
  | exc c fs s => exact Exc1.adv a h
  | bad => exact h
theorem After.mono {α : Type} {r : Res α} {k k' : α → Store → Prop} (h : After K M H Z ρ W r k) (hk : ∀ x s, k x s → k' x s) : After K M H Z ρ W r k' := h.adv Adv.refl hk
theorem After.bind {α β : Type} {r : Res α} {f : α → Store → Res β} {k : β → Store → Prop} (h : After K M H Z ρ W (r.bind f) k) : After K M H Z ρ W r fun a s => After K M H Z ρ W (f a s) k := by
  cases r with
  | ok x s => exact h
  | exc c fs s => exact h
  | bad => exact h
theorem After.of {α : Type} {o : Option α} {k : α → Store → Prop} (h : After K M H Z ρ W (Res.of o st) k) : ∃ a, o = some a ∧ k a st := by
  cases o with
  | none => exact h.elim
  | some a => exact ⟨a, rfl, h⟩
theorem RBs.adv (a : Adv H Z ρ H1 Z1 ρ1) : ∀ {xs : List V} {vs : List Val}, RBs K H Z ρ xs vs → RBs K H1 Z1 ρ1 xs vs
  | _, _, .nil => .nil
  | _, _, .cons h r => .cons (h.adv a) (RBs.adv a r)
end
theorem _root_.L2.PE.weak {X : Cx} {e : Expr} {t t' : TE} (h : PE X e t) (w : ∀ σ H Q, t' σ H Q → t σ H Q) : PE X e t' := ⟨fun pins s σ H Q I q => h.run pins s σ H Q I (w σ H Q q)⟩
theorem _root_.L2.PT.weak {X : Cx} {e : Expr} {t t' : TT} (h : PT X e t) (w : ∀ σ H Q, t' σ H Q → t σ H Q) : PT X e t' := ⟨fun pins s σ H Q I q => h.run pins s σ H Q I (w σ H Q q)⟩
theorem _root_.L2.PW.weak {X : Cx} {e : Expr} {t t' : TT} (h : PW X e t) (w : ∀ σ H Q, t' σ H Q → t σ H Q) : PW X e t' := ⟨fun wh pins s σ H Q I q => h.run wh pins s σ H Q I (w σ H Q q)⟩
theorem _root_.L2.PA.weak {X : Cx} {e : List Expr} {t t' : TA} (h : PA X e t) (w : ∀ σ H Q, t' σ H Q → t σ H Q) : PA X e t' := ⟨fun pos pins s σ H Q I q => h.run pos pins s σ H Q I (w σ H Q q)⟩
theorem _root_.L2.PSs.weak {X : Cx} {e : List Stmt} {t t' : TS} (h : PSs X e t) (w : ∀ D σ H, t' D σ H → t D σ H) : PSs X e t' := ⟨fun pins s σ H D I q => h.run pins s σ H D I (w D σ H q)⟩
theorem _root_.L2.PS.weak {X : Cx} {e : Stmt} {t t' : TS} (h : PS X e t) (w : ∀ D σ H, t' D σ H → t D σ H) : PS X e t' := ⟨fun pins s σ H D I q => h.run pins s σ H D I (w D σ H q)⟩

section
variable {X : Cx} {M : Nm} {W : WX} {x y z : Expr} {pos : Pos} {fa fb fc : Env → Store → Res Val} {fr : Env → Store → Res Rv}
/-- frozen -/
theorem pe_frz (h : PE X x (TR X.K M W fr)) : PE X x (TV X.K M W fr) := h.weak fun σ H Q ⟨Hb, Z, ρ, env, st, rh, re, q⟩ =>
  ⟨Hb, Z, ρ, env, st, rh, re, q.mono fun rv st' k x H' Z' ρ' ad rh' r => let ⟨Z2, g1, g2, g3⟩ := r.freeze rh' ad; k x H' Z2 ρ' g2 g1 g3⟩
theorem pe_opd (h : PE X x (TR X.K M W fr)) : PE X x (TB X.K M W fun env st => (fr env st).bind fun v st => .ok v.2 st) := (pe_frz h).weak fun σ H Q ⟨Hb, Z, ρ, env, st, rh, re, q⟩ =>
  ⟨Hb, Z, ρ, env, st, rh, re, q.bind.mono fun rv st' k x H' Z' ρ' ad rh' r => k x H' Z' ρ' ad rh' (.inl r)⟩
theorem c_peek {i : Nat} {n : Str} (hN : X.N[i]? = some n) (hv : Vis X.env.scope n) (hd : (n == ("__debug__" : Str)) = false) (hcd : (n == ("__classdict__" : Str)) = false) :
    PE X (.Name n pos) (TB X.K M W fun env st => peek i env st) := (pe_var hN hv hd hcd).weak fun σ H Q ⟨Hb, Z, ρ, env, st, rh, re, q⟩ => by
  simp only [peek] at q
  split at q
  · rename_i v e
    obtain ⟨x, e1, r⟩ := re.peek e (fun z => nomatch z)
    exact ⟨x, e1, q x H Z ρ Adv.refl rh r⟩
  · rename_i v e
    obtain ⟨x, e1, r⟩ := re.peek e (fun _ z => nomatch z)
    exact ⟨x, e1, q x H Z ρ Adv.refl rh r⟩
  · rename_i v e
    obtain ⟨x, e1, r⟩ := re.peek e (fun _ z => nomatch z)
    exact ⟨x, e1, q x H Z ρ Adv.refl rh r⟩
  · exact q.elim
theorem c_var {i : Nat} {n : Str} (hN : X.N[i]? = some n) (hv : Vis X.env.scope n) (hd : (n == ("__debug__" : Str)) = false) (hcd : (n == ("__classdict__" : Str)) = false) :
    PE X (.Name n pos) (TR X.K M W fun env st => match env[i]? with | some (some (false, v)) => .ok (false, v) st | _ => .bad) := (pe_var hN hv hd hcd).weak fun σ H Q ⟨Hb, Z, ρ, env, st, rh, re, q⟩ => by
  dsimp only at q
  split at q
  · rename_i v e
    obtain ⟨x, e1, r⟩ := re.val i v e
    exact ⟨x, e1, q.val rh r⟩
  · exact q.elim
/-- a constant -/
theorem c_cst {v : Val} {w : V} (h : PE X x (tC w)) (r : ∀ Z ρ, RV X.K Z ρ w v) : PE X x (TR X.K M W fun _ st => .ok (false, v) st) := h.weak fun σ H Q ⟨Hb, Z, ρ, env, st, rh, re, q⟩ => Ok1.val rh q (r Z ρ)
/-- two operands, then an operator -/
theorem t_two {σ : L2.St} {H : Hp} {Q : VK} {K : PySem.W.Frag} {g : Env → Store → Val → Val → Res Rv} {R : V → V → Hp → Prop}
    (q : TR K M W (fun env st => (fa env st).bind fun u st => (fb env st).bind fun v st => g env st u v) σ H Q)
    (hR : ∀ Hb Z ρ env st H0 Z0 ρ0 u v x y H, RH K M H Z ρ st → RE K Hb H Z ρ σ env → RB K H Z ρ x u → RB K H Z ρ y v → After K M H0 Z0 ρ0 (fun c d H' => W c d σ H') (g env st u v) (fun rv st' => Ok1 K M H0 Z0 ρ0 rv st' Q) → Adv H0 Z0 ρ0 H Z ρ → R x y H) :
    TB K M W fa σ H fun x H1 => TB K M W fb σ H1 fun y H2 => R x y H2 := by
  obtain ⟨Hb, Z, ρ, env, st, rh, re, q⟩ := q
  refine ⟨Hb, Z, ρ, env, st, rh, re, q.bind.mono fun u st1 q1 x H1 Z1 ρ1 a1 rh1 r1 => ?_⟩
  refine ⟨Hb, Z1, ρ1, env, st1, rh1, re.adv a1, (q1.bind.adv a1 fun _ _ k => k).mono fun v st2 q2 y H2 Z2 ρ2 a2 rh2 r2 => ?_⟩
  exact hR Hb Z2 ρ2 env st2 H Z ρ u v x y H2 rh2 ((re.adv a1).adv a2) (r1.adv a2) r2 q2 (a1.trans a2)
theorem c_bin {op : Bop} (ha : PE X x (TB X.K M W fa)) (hb : PE X y (TB X.K M W fb)) :
    PE X (.BinOp x (bopP op) y pos) (TR X.K M W fun env st => (fa env st).bind fun u st => (fb env st).bind fun v st => Res.of (binop op st u v) st) :=
  (pe_op (bin_ok (M := M) op) ha hb).weak fun σ H Q q => t_two q fun Hb Z ρ env st H0 Z0 ρ0 u v x y H rh re r1 r2 q ad => by
    obtain ⟨rv, e, k⟩ := q.of
    exact ⟨Z, ρ, st, u, v, rv, rh, r1, r2, e, k.adv ad⟩
theorem c_cmp {op : Cop} (hu : X.A.units + 160 < cLine) (hm : behindInMarks (copP op) y = false) (ha : PE X x (TB X.K M W fa)) (hb : PE X y (TB X.K M W fb)) :
    PE X (.Compare x [copP op] [y] pos) (TR X.K M W fun env st => (fa env st).bind fun u st => (fb env st).bind fun v st => Res.of ((cmpop op st u v).map fun b => (false, .bl b)) st) :=
  (pe_cmpR (cmp_ok (M := M) hu op) ha hb hm).weak fun σ H Q q => t_two q fun Hb Z ρ env st H0 Z0 ρ0 u v x y H rh re r1 r2 q ad => by
    obtain ⟨rv, e, k⟩ := q.of
    obtain ⟨b, e2, rfl⟩ := Option.map_eq_some_iff.mp e
    exact ⟨Z, ρ, st, u, v, b, rh, r1, r2, e2, (k.adv ad).bl rh⟩
theorem c_cmp2 {o1 o2 : Cop} (hu : X.A.units + 160 < cLine) (hm : lastMarks [copP o1, copP o2] [y, z] = false) (ha : PE X x (TB X.K M W fa)) (hb : PE X y (TB X.K M W fb)) (hc : PE X z (TB X.K M W fc)) :
    PE X (.Compare x [copP o1, copP o2] [y, z] pos) (TR X.K M W fun env st => (fa env st).bind fun u st => (fb env st).bind fun v st => (Res.of (cmpop o1 st u v) st).bind fun r st =>
      if r then (fc env st).bind fun w st => Res.of ((cmpop o2 st v w).map fun b => (false, .bl b)) st else .ok (false, .bl false) st) :=
  (pe_chain (cmp_ok (M := M) hu o1) (cmp_ok (M := M) hu o2) ha hb hc hm).weak fun σ H Q q => t_two q fun Hb Z ρ env st H0 Z0 ρ0 u v x y H rh re r1 r2 q ad => by
    cases e : cmpop o1 st u v with
    | none => rw [e] at q; exact q.elim
    | some b =>
      rw [e] at q
      simp only [Res.of_some, Res.bind_ok] at q
      refine ⟨Z, ρ, st, u, v, b, rh, r1, r2, e, b, rfl, ?_⟩
      cases b with
      | false => exact iteF (Ok1.bl rh (Ok1.adv ad q))
      | true =>
        simp only [if_true] at q
        refine iteT ⟨Hb, Z, ρ, env, st, rh, re, (q.bind.adv ad fun _ _ k => k).mono fun w st2 q2 y2 H2 Z2 ρ2 a2 rh2 r3 => ?_⟩
        obtain ⟨rv, e, k⟩ := q2.of
        obtain ⟨b, e2, rfl⟩ := Option.map_eq_some_iff.mp e
        exact ⟨Z2, ρ2, st2, v, w, b, rh2, r2.adv a2, r3, e2, Ok1.bl rh2 (k.adv (ad.trans a2))⟩
end
end Lk
set_option Elab.async false
set_option linter.all false
set_option maxRecDepth 100000
set_option autoImplicit false
set_option maxHeartbeats 1000000
/-! LkD2: tests, and, or, not, if; displays; subscripts, slices. -/
namespace Lk
open PySem PySem.Spec L2 PyProof.Rows
section
variable {X : Cx} {M : Nm} {W : WX} {x y z : Expr} {xs : List Expr} {pos : Pos} {fa fb fc : Env → Store → Res Val} {fr fs ft : Env → Store → Res Rv} {fl : Env → Store → Res (List Val)}
theorem asBl_eq {v : Rv} {b : Bool} (h : asBl v = some b) : v.2 = .bl b := by
  obtain ⟨o, v⟩ := v
  cases v <;> simp [asBl] at h
  subst h
  rfl
/-- a value that is a bool, as a test -/
def bOf (f : Env → Store → Res Rv) : Env → Store → Res Bool := fun env st => (f env st).bind fun v st => Res.of (asBl v) st
theorem pt_of (h : PE X x (TR X.K M W fr)) (he : ∀ whole, isTrue x X.env whole = (do let v ← whole; standAt x.pos; holding [v] (truthy v))) : PT X x (TT' X.K M W (bOf fr)) :=
  (pt_val (pe_frz h) he).weak fun σ H Q ⟨Hb, Z, ρ, env, st, rh, re, q⟩ => by
    refine ⟨Hb, Z, ρ, env, st, rh, re, q.bind.mono fun rv st' k x H' Z' ρ' ad rh' r => ?_⟩
    obtain ⟨b, e, k⟩ := k.of
    rw [asBl_eq e] at r
    cases r
    exact ⟨b, rfl, k H' Z' ρ' ad rh'⟩
theorem pt_cmpT {op : Cop} (hu : X.A.units + 160 < cLine) (hm : behindInMarks (copP op) y = false) (ha : PE X x (TB X.K M W fa)) (hb : PE X y (TB X.K M W fb)) :
    PT X (.Compare x [copP op] [y] pos) (TT' X.K M W fun env st => (fa env st).bind fun u st => (fb env st).bind fun v st => Res.of (cmpop op st u v) st) :=
  (pt_cmpR (cmp_ok (M := M) hu op) ha hb hm).weak fun σ H Q ⟨Hb, Z, ρ, env, st, rh, re, q⟩ => by
    refine ⟨Hb, Z, ρ, env, st, rh, re, q.bind.mono fun u st1 q1 x H1 Z1 ρ1 a1 rh1 r1 => ?_⟩
    refine ⟨Hb, Z1, ρ1, env, st1, rh1, re.adv a1, (q1.bind.adv a1 fun _ _ k => k).mono fun v st2 q2 y H2 Z2 ρ2 a2 rh2 r2 => ?_⟩
    obtain ⟨b, e, k⟩ := q2.of
    exact ⟨Z2, ρ2, st2, u, v, b, rh2, r1.adv a2, r2, e, b, rfl, k H2 Z2 ρ2 (a1.trans a2) rh2⟩
theorem pt_cmp2T {o1 o2 : Cop} (hu : X.A.units + 160 < cLine) (hm : lastMarks [copP o1, copP o2] [y, z] = false) (ha : PE X x (TB X.K M W fa)) (hb : PE X y (TB X.K M W fb)) (hc : PE X z (TB X.K M W fc)) :
    PT X (.Compare x [copP o1, copP o2] [y, z] pos) (TT' X.K M W fun env st => (fa env st).bind fun u st => (fb env st).bind fun v st => (Res.of (cmpop o1 st u v) st).bind fun r st =>
      if r then (fc env st).bind fun w st => Res.of (cmpop o2 st v w) st else .ok false st) :=
  (pt_chain (cmp_ok (M := M) hu o1) (cmp_ok (M := M) hu o2) ha hb hc hm).weak fun σ H Q ⟨Hb, Z, ρ, env, st, rh, re, q⟩ => by
    refine ⟨Hb, Z, ρ, env, st, rh, re, q.bind.mono fun u st1 q1 x H1 Z1 ρ1 a1 rh1 r1 => ?_⟩
    refine ⟨Hb, Z1, ρ1, env, st1, rh1, re.adv a1, (q1.bind.adv a1 fun _ _ k => k).mono fun v st2 q2 y H2 Z2 ρ2 a2 rh2 r2 => ?_⟩
    cases e : cmpop o1 st2 u v with
    | none => rw [e] at q2; exact q2.elim
    | some b =>
      rw [e] at q2
      simp only [Res.of_some, Res.bind_ok] at q2
      refine ⟨Z2, ρ2, st2, u, v, b, rh2, r1.adv a2, r2, e, b, rfl, ?_⟩
      cases b with
      | false => exact iteF ⟨false, rfl, q2 H2 Z2 ρ2 (a1.trans a2) rh2⟩
      | true =>
        simp only [if_true] at q2
        refine iteT ⟨Hb, Z2, ρ2, env, st2, rh2, (re.adv a1).adv a2, (q2.bind.adv (a1.trans a2) fun _ _ k => k).mono fun w st3 q3 y2 H3 Z3 ρ3 a3 rh3 r3 => ?_⟩
        obtain ⟨b, e2, k⟩ := q3.of
        exact ⟨Z3, ρ3, st3, v, w, b, rh3, r2.adv a3, r3, e2, b, rfl, k H3 Z3 ρ3 ((a1.trans a2).trans a3) rh3⟩
variable {ga gb : Env → Store → Res Bool}
theorem pt_notT (h : PT X x (TT' X.K M W ga)) : PT X (.UnaryOp .Not x pos) (TT' X.K M W fun env st => (ga env st).bind fun b st => .ok (!b) st) :=
  (pt_not h).weak fun σ H Q ⟨Hb, Z, ρ, env, st, rh, re, q⟩ => ⟨Hb, Z, ρ, env, st, rh, re, q.bind.mono fun b st' k => k⟩
theorem pw_andT {rest : List Expr} (h : PT X x (TT' X.K M W ga)) (h2 : PW X (.BoolOp .And (y :: rest) pos) (TT' X.K M W gb)) :
    PW X (.BoolOp .And (x :: y :: rest) pos) (TT' X.K M W fun env st => (ga env st).bind fun b st => if b then gb env st else .ok false st) :=
  (pw_and h h2).weak fun σ H Q ⟨Hb, Z, ρ, env, st, rh, re, q⟩ => by
    refine ⟨Hb, Z, ρ, env, st, rh, re, q.bind.mono fun b st1 q1 H1 Z1 ρ1 a1 rh1 => ?_⟩
    cases b with
    | false => exact iteF (q1 H1 Z1 ρ1 a1 rh1)
    | true =>
      simp only [if_true] at q1
      exact iteT ⟨Hb, Z1, ρ1, env, st1, rh1, re.adv a1, (q1.adv a1 fun _ _ k => k).mono fun b st2 k H2 Z2 ρ2 a2 => k H2 Z2 ρ2 (a1.trans a2)⟩
theorem pw_orT {rest : List Expr} (h : PT X x (TT' X.K M W ga)) (h2 : PW X (.BoolOp .Or (y :: rest) pos) (TT' X.K M W gb)) :
    PW X (.BoolOp .Or (x :: y :: rest) pos) (TT' X.K M W fun env st => (ga env st).bind fun b st => if b then .ok true st else gb env st) :=
  (pw_or h h2).weak fun σ H Q ⟨Hb, Z, ρ, env, st, rh, re, q⟩ => by
    refine ⟨Hb, Z, ρ, env, st, rh, re, q.bind.mono fun b st1 q1 H1 Z1 ρ1 a1 rh1 => ?_⟩
    cases b with
    | true => exact iteT (q1 H1 Z1 ρ1 a1 rh1)
    | false =>
      simp only [Bool.false_eq_true, if_false] at q1
      exact iteF ⟨Hb, Z1, ρ1, env, st1, rh1, re.adv a1, (q1.adv a1 fun _ _ k => k).mono fun b st2 k H2 Z2 ρ2 a2 => k H2 Z2 ρ2 (a1.trans a2)⟩
/-! ### values -/
theorem c_not (h : PE X x (TR X.K M W fr)) : PE X (.UnaryOp .Not x pos) (TR X.K M W fun env st => (fr env st).bind fun v st => Res.of ((asBl v).map fun b => (false, .bl (!b))) st) :=
  (pe_not (pe_frz h)).weak fun σ H Q ⟨Hb, Z, ρ, env, st, rh, re, q⟩ => by
    refine ⟨Hb, Z, ρ, env, st, rh, re, q.bind.mono fun rv st' k x H' Z' ρ' ad rh' r => ?_⟩
    obtain ⟨rv2, e, k⟩ := k.of
    obtain ⟨b, e2, rfl⟩ := Option.map_eq_some_iff.mp e
    rw [asBl_eq e2] at r
    cases r
    exact ⟨b, rfl, Ok1.bl rh' (k.adv ad)⟩
theorem c_and1 {op : BoolOp} (h : PE X x (TR X.K M W fr)) : PE X (.BoolOp op [x] pos) (TR X.K M W fun env st => (fr env st).bind fun v st => .ok (false, v.2) st) :=
  (pe_one (pe_frz h)).weak fun σ H Q ⟨Hb, Z, ρ, env, st, rh, re, q⟩ => ⟨Hb, Z, ρ, env, st, rh, re, q.bind.mono fun rv st' k x H' Z' ρ' ad rh' r => k x H' Z' ρ' ad rh' r⟩
theorem c_and {rest : List Expr} (h : PE X x (TR X.K M W fr)) (h2 : PE X (.BoolOp .And (y :: rest) pos) (TR X.K M W fs)) :
    PE X (.BoolOp .And (x :: y :: rest) pos) (TR X.K M W fun env st => (fr env st).bind fun v st => (Res.of (asBl v) st).bind fun b st => if b then fs env st else .ok (false, .bl false) st) :=
  (pe_and (pe_frz h) h2).weak fun σ H Q ⟨Hb, Z, ρ, env, st, rh, re, q⟩ => by
    refine ⟨Hb, Z, ρ, env, st, rh, re, q.bind.mono fun rv st1 k x H' Z' ρ' ad rh' r => ?_⟩
    obtain ⟨b, e, k⟩ := k.bind.of
    rw [asBl_eq e] at r
    cases r
    refine ⟨b, rfl, ?_⟩
    cases b with
    | false => exact iteF (Ok1.bl rh' (Ok1.adv ad k))
    | true =>
      simp only [if_true] at k
      exact iteT ⟨Hb, Z', ρ', env, st1, rh', re.adv ad, k.adv ad fun _ _ k => Ok1.adv ad k⟩
theorem c_or {rest : List Expr} (h : PE X x (TR X.K M W fr)) (h2 : PE X (.BoolOp .Or (y :: rest) pos) (TR X.K M W fs)) :
    PE X (.BoolOp .Or (x :: y :: rest) pos) (TR X.K M W fun env st => (fr env st).bind fun v st => (Res.of (asBl v) st).bind fun b st => if b then .ok (false, .bl true) st else fs env st) :=
  (pe_or (pe_frz h) h2).weak fun σ H Q ⟨Hb, Z, ρ, env, st, rh, re, q⟩ => by
    refine ⟨Hb, Z, ρ, env, st, rh, re, q.bind.mono fun rv st1 k x H' Z' ρ' ad rh' r => ?_⟩
    obtain ⟨b, e, k⟩ := k.bind.of
    rw [asBl_eq e] at r
    cases r
    refine ⟨b, rfl, ?_⟩
    cases b with
    | true => exact iteT (Ok1.bl rh' (Ok1.adv ad k))
    | false =>
      simp only [Bool.false_eq_true, if_false] at k
      exact iteF ⟨Hb, Z', ρ', env, st1, rh', re.adv ad, k.adv ad fun _ _ k => Ok1.adv ad k⟩
theorem c_ife (hc : PT X z (TT' X.K M W ga)) (h : PE X x (TR X.K M W fr)) (h2 : PE X y (TR X.K M W fs)) :
    PE X (.IfExp z x y pos) (TR X.K M W fun env st => (ga env st).bind fun b st => if b then fr env st else fs env st) :=
  (pe_ifExp hc h h2).weak fun σ H Q ⟨Hb, Z, ρ, env, st, rh, re, q⟩ => by
    refine ⟨Hb, Z, ρ, env, st, rh, re, q.bind.mono fun b st1 k H' Z' ρ' ad rh' => ?_⟩
    cases b with
    | true =>
      simp only [if_true] at k
      exact iteT ⟨Hb, Z', ρ', env, st1, rh', re.adv ad, k.adv ad fun _ _ k => Ok1.adv ad k⟩
    | false =>
      simp only [Bool.false_eq_true, if_false] at k
      exact iteF ⟨Hb, Z', ρ', env, st1, rh', re.adv ad, k.adv ad fun _ _ k => Ok1.adv ad k⟩

/-! ### argument lists and displays -/
def noStar : Expr → Bool
  | .Starred _ _ => false
  | _ => true
theorem starEach_no {e : Expr} {es : List Expr} {env : PySem.Env} (h : noStar e = true) : starEach (e :: es) env = (false, eval e env) :: starEach es env := by
  cases e <;> first | rfl | (cases h)
theorem a_nil : PA X [] (TVs X.K M W fun _ st => .ok [] st) := pa_nil.weak fun σ H Q ⟨Hb, Z, ρ, env, st, rh, re, q⟩ => q [] H Z ρ Adv.refl rh .nil
theorem a_cons (ns : noStar x = true) (h : PE X x (TR X.K M W fr)) (hr : PA X xs (TVs X.K M W fl)) :
    PA X (x :: xs) (TVs X.K M W fun env st => (fr env st).bind fun v st => (fl env st).bind fun ys st => .ok (v.2 :: ys) st) :=
  (pa_cons (pe_frz h) hr (starEach_no ns)).weak fun σ H Q ⟨Hb, Z, ρ, env, st, rh, re, q⟩ => by
    refine ⟨Hb, Z, ρ, env, st, rh, re, q.bind.mono fun rv st1 k x H1 Z1 ρ1 a1 rh1 r => ?_⟩
    refine ⟨Hb, Z1, ρ1, env, st1, rh1, re.adv a1, (k.bind.adv a1 fun _ _ k => k).mono fun ys st2 k xs H2 Z2 ρ2 a2 rh2 rs => ?_⟩
    exact k (x :: xs) H2 Z2 ρ2 (a1.trans a2) rh2 (.cons (r.mono a2.z a2.r) rs)
theorem b_nil : PA X [] (TBs X.K M W fun _ st => .ok [] st) := pa_nil.weak fun σ H Q ⟨Hb, Z, ρ, env, st, rh, re, q⟩ => q [] H Z ρ Adv.refl rh .nil
theorem b_cons (ns : noStar x = true) (h : PE X x (TB X.K M W fa)) (hr : PA X xs (TBs X.K M W fl)) :
    PA X (x :: xs) (TBs X.K M W fun env st => (fa env st).bind fun v st => (fl env st).bind fun ys st => .ok (v :: ys) st) :=
  (pa_cons h hr (starEach_no ns)).weak fun σ H Q ⟨Hb, Z, ρ, env, st, rh, re, q⟩ => by
    refine ⟨Hb, Z, ρ, env, st, rh, re, q.bind.mono fun v st1 k x H1 Z1 ρ1 a1 rh1 r => ?_⟩
    refine ⟨Hb, Z1, ρ1, env, st1, rh1, re.adv a1, (k.bind.adv a1 fun _ _ k => k).mono fun ys st2 k xs H2 Z2 ρ2 a2 rh2 rs => ?_⟩
    exact k (x :: xs) H2 Z2 ρ2 (a1.trans a2) rh2 (.cons (r.adv a2) rs)
/-- the length of what is displayed -/
def TVn (K : PySem.W.Frag) (M : Nm) (W : WX) (n : Nat) (f : Env → Store → Res (List Val)) : TA := fun σ H Q => ∃ Hb Z ρ env st, RH K M H Z ρ st ∧ RE K Hb H Z ρ σ env ∧ After K M H Z ρ (fun c d H' => W c d σ H') (f env st) fun vs st' => vs.length ≤ n → OkVs K M H Z ρ vs st' Q
theorem c_tup {k : Nat} (h : PA X xs (TVs X.K M W fl)) (hl : ∀ env st vs st', fl env st = .ok vs st' → vs.length ≤ maxLen) :
    PE X (.Tuple xs k pos) (TR X.K M W fun env st => (fl env st).bind fun vs st => .ok (false, .tup vs) st) :=
  (pe_tup h).weak fun σ H Q ⟨Hb, Z, ρ, env, st, rh, re, q⟩ => by
    refine ⟨Hb, Z, ρ, env, st, rh, re, ?_⟩
    dsimp only at q
    cases e : fl env st with
    | bad => rw [e] at q; exact q.elim
    | exc c fs s => rw [e] at q; exact q
    | ok vs st1 =>
      rw [e] at q
      intro xs H1 Z1 ρ1 a1 rh1 r1
      have l := hl env st vs st1 e
      exact ⟨by rw [r1.length]; exact Nat.le_trans l maxLen_line, fun p n => Ok1.tupN rh1 (Ok1.adv a1 q) r1 l n⟩
theorem c_lst (h : PA X xs (TVs X.K M W fl)) (hl : ∀ env st vs st', fl env st = .ok vs st' → vs.length ≤ maxLen) :
    PE X (.List xs pos) (TR X.K M W fun env st => (fl env st).bind fun vs st => .ok (true, .lst vs) st) :=
  (pe_lst h).weak fun σ H Q ⟨Hb, Z, ρ, env, st, rh, re, q⟩ => by
    refine ⟨Hb, Z, ρ, env, st, rh, re, ?_⟩
    dsimp only at q
    cases e : fl env st with
    | bad => rw [e] at q; exact q.elim
    | exc c fs s => rw [e] at q; exact q
    | ok vs st1 =>
      rw [e] at q
      intro xs H1 Z1 ρ1 a1 rh1 r1
      have l := hl env st vs st1 e
      exact ⟨by rw [r1.length]; exact Nat.le_trans l maxLen_line, fun p n => Ok1.lstN rh1 (Ok1.adv a1 q) r1 l n⟩

/-! ### subscripts -/
theorem ixOf_eq (n : Nat) (i : Int) : ixOf n i = ixN n i := rfl
theorem RVs.at {K : PySem.W.Frag} {Z : Hp} {ρ : List Addr} {xs : List V} {vs : List Val} (r : RVs K Z ρ xs vs) {i : Int} {v : Val} (e : ((ixOf vs.length i).bind fun j => vs[j]?) = some v) : ∃ x, atI xs i = some x ∧ RV K Z ρ x v := by
  rw [ixOf_eq, ← r.length] at e
  unfold atI
  cases c : ixN xs.length i with
  | none => rw [c] at e; cases e
  | some j =>
    rw [c] at e
    obtain ⟨x, h1, h2⟩ := r.get e
    exact ⟨x, h1, h2⟩
theorem sub_cases {st : Store} {o i v : Val} (e : subOp st o i = some v) :
    (∃ vs j, o = .tup vs ∧ i = .int j ∧ ((ixOf vs.length j).bind fun k => vs[k]?) = some v) ∨
    (∃ t j c, o = .str t ∧ i = .int j ∧ ((ixOf t.length j).bind fun k => t[k]?) = some c ∧ v = .str [c]) ∨
    (∃ vs j, asList st o = some vs ∧ i = .int j ∧ ((ixOf vs.length j).bind fun k => vs[k]?) = some v) ∨
    (∃ ds, asDict st o = some ds ∧ keyOk i = true ∧ dget ds i = some v) := by
  unfold subOp at e
  split at e
  · exact .inl ⟨_, _, rfl, rfl, e⟩
  · cases c : ixOf _ _ with
    | none => rw [c] at e; cases e
    | some k =>
      rw [c] at e
      obtain ⟨c1, e1, rfl⟩ := Option.map_eq_some_iff.mp e
      exact .inr (.inl ⟨_, _, c1, rfl, rfl, by rw [c]; exact e1, rfl⟩)
  · cases e
  · cases e
  · split at e
    · rename_i c
      split at e
      · exact .inr (.inr (.inl ⟨_, _, c, rfl, e⟩))
      · cases e
    · split at e
      · rename_i c
        split at e
        · rename_i c2
          exact .inr (.inr (.inr ⟨_, c, c2, e⟩))
        · cases e
      · cases e
theorem c_sub (hu : X.A.units + 160 < cLine) (hs : PlainIx y) (ha : PE X x (TB X.K M W fa)) (hb : PE X y (TR X.K M W fr)) :
    PE X (.Subscript x y pos) (TR X.K M W fun env st => (fa env st).bind fun o st => (fr env st).bind fun i st => Res.of ((subOp st o i.2).map fun v => (false, v)) st) := by
  have ix : IxR X (fun x y H Q => ∃ Z ρ st o i v, RH X.K M H Z ρ st ∧ RB X.K H Z ρ x o ∧ RB X.K H Z ρ y i ∧ subOp st o i = some v ∧ ∀ w, RV X.K Z ρ w v → Q w H) := by
    intro value slice pins s σ H x y v u Q I r1 r2 h hs
    obtain ⟨Z, ρ, st, o, i, w, rh, ro, ri, e, q⟩ := h
    rcases sub_cases e with ⟨vs, j, rfl, rfl, e'⟩ | ⟨t, j, c, rfl, rfl, e', rfl⟩ | ⟨vs, j, e1, rfl, e'⟩ | ⟨ds, e1, ok, e'⟩
    · obtain ⟨p, xs, ex, hx, rx, l⟩ := ro.tup rh
      obtain ⟨z, e2, rz⟩ := rx.at e'
      exact ix_tup value slice pins s σ H x y v u Q I r1 r2 ⟨p, xs, j, z, ex, ri.int, hx, e2, q z rz⟩ hs
    · refine ix_str value slice pins s σ H x y v u Q I r1 r2 ⟨sv t, j, c, ro.str.1, ri.int, ?_, ?_, ?_⟩ hs
      · rw [sv_len]; exact Nat.le_trans (snOk_len ro.str.2) maxLen_line
      · rw [sv_cps]; exact e'
      · refine q _ (.str [c] (snOk_of (by show 1 ≤ maxLen; decide) fun k hk => ?_))
        have ek : k = c := by simpa using hk
        subst ek
        cases c2 : ixOf t.length j with
        | none => rw [c2] at e'; cases e'
        | some n => rw [c2] at e'; exact snOk_cps ro.str.2 k (List.mem_of_getElem? e')
    · obtain ⟨p, xs, ex, hx, rx, l⟩ := ro.list rh e1
      obtain ⟨z, e2, rz⟩ := rx.at e'
      exact ix_list value slice pins s σ H x y v u Q I r1 r2 ⟨p, xs, j, z, ex, ri.int, .inl (.inl hx), e2, q z rz⟩ hs
    · obtain ⟨p, kvs, ex, hx, rx, l⟩ := ro.dict rh e1
      obtain ⟨o2, g, g1, g2, g3⟩ := dget_of hx rx ok ri
      obtain ⟨z, rfl, rz⟩ := g1 _ e'
      subst ex
      cases r1
      exact tail_any (dict_typeIs I g) PySem.F.slot_dict_getitem.lookup (d_getItem (by omega) I g r2 fun w' s3 I3 rw' => ⟨z, H, I3, rw', q z rz⟩) hs
  exact (pe_ix ix ha (pe_opd hb) hs).weak fun σ H Q q => t_two (fb := fun env st => (fr env st).bind fun v st => .ok v.2 st) (g := fun _ st o i => Res.of ((subOp st o i).map fun v => (false, v)) st)
    (by
      obtain ⟨Hb, Z, ρ, env, st, rh, re, q⟩ := q
      refine ⟨Hb, Z, ρ, env, st, rh, re, ?_⟩
      dsimp only at q ⊢
      cases e : fa env st with
      | bad => rw [e] at q; exact q.elim
      | exc c f s => rw [e] at q; exact q
      | ok o st1 =>
        rw [e] at q
        simp only [Res.bind_ok] at q ⊢
        cases e2 : fr env st1 with
        | bad => rw [e2] at q; exact q.elim
        | exc c f s => rw [e2] at q; exact q
        | ok i st2 => rw [e2] at q; exact q)
    fun Hb Z ρ env st H0 Z0 ρ0 u v x y H rh re r1 r2 q ad => by
      obtain ⟨rv, e, k⟩ := q.of
      obtain ⟨w, e2, rfl⟩ := Option.map_eq_some_iff.mp e
      exact ⟨Z, ρ, st, u, v, w, rh, r1, r2, e2, fun z rz => Ok1.val rh (k.adv ad) rz⟩
end
end Lk
set_option Elab.async false
set_option linter.all false
set_option maxRecDepth 100000
set_option autoImplicit false
set_option maxHeartbeats 1000000
/-! LkD3: slices; stars in displays; isinstance; calls of built-ins. -/
namespace Lk
open PySem PySem.Spec L2 PyProof.Rows
section
variable {X : Cx} {M : Nm} {W : WX} {x y z : Expr} {xs : List Expr} {pos : Pos} {fa fb fc : Env → Store → Res Val} {fr fs ft : Env → Store → Res Rv} {fl : Env → Store → Res (List Val)}
/-! ### slices -/
theorem clip_sIx (n d : Nat) (i : Int) : clip n i = HT.sIx n d (some i) := by
  show _ = (if i < 0 then (i + (n : Int)).toNat else min i.toNat n)
  unfold clip
  split
  · rfl
  · split <;> omega
theorem cutL_eq {α : Type} (xs : List α) (lo hi : Option Int) : cutL xs lo hi = (xs.drop (HT.sIx xs.length 0 lo)).take (HT.sIx xs.length xs.length hi - HT.sIx xs.length 0 lo) := by
  unfold cutL
  cases lo <;> cases hi <;> simp only [clip_sIx xs.length 0, clip_sIx xs.length xs.length, HT.sIx_none]
  all_goals first | rfl | (rw [← clip_sIx xs.length xs.length, clip_sIx xs.length 0])
theorem RVs.cut {K : PySem.W.Frag} {Z : Hp} {ρ : List Addr} {xs : List V} {vs : List Val} (r : RVs K Z ρ xs vs) (lo hi : Option Int) : RVs K Z ρ (cutV xs lo hi) (cutL vs lo hi) := by
  rw [cutL_eq, ← r.length]
  exact (r.drop _).take _
theorem cutL_len {α : Type} (xs : List α) (lo hi : Option Int) : (cutL xs lo hi).length ≤ xs.length := by
  rw [cutL_eq, List.length_take, List.length_drop]; omega
theorem cutL_mem {α : Type} {xs : List α} {lo hi : Option Int} {a : α} (h : a ∈ cutL xs lo hi) : a ∈ xs := by
  rw [cutL_eq] at h
  exact List.mem_of_mem_drop (List.mem_of_mem_take h)
theorem sl_ok : SlR X (fun x lo hi H Q => ∃ Z ρ st o rv, RH X.K M H Z ρ st ∧ RB X.K H Z ρ x o ∧ slcI st o lo hi = some rv ∧ Ok1 X.K M H Z ρ rv st Q) := by
  intro pins s σ H x v vl vu lo hi sl Q I rx hs pl pu h
  obtain ⟨Z, ρ, st, o, rv, rh, ro, e, q⟩ := h
  unfold slcI at e
  split at e
  · rename_i vs
    cases e
    obtain ⟨p, xs, ex, hx, r, l⟩ := ro.tup rh
    have lc : (cutL vs lo hi).length ≤ maxLen := Nat.le_trans (cutL_len _ _ _) l
    refine sl_tupA pins s σ H x v vl vu lo hi sl Q I rx hs pl pu ⟨p, xs, ex, hx, fun c => ?_, fun _ p2 n => ?_⟩
    · have e : cutL vs lo hi = vs := by
        rw [cutL_eq, ← r.length, c.1, c.2, r.length]; simp
      rw [e] at q
      rcases ro with ro | ⟨_, _, _, _, f⟩
      · rw [← ex]; exact q.val rh ro
      · exact f.elim
    · exact q.tupN rh (r.cut lo hi) lc n
  · rename_i t
    cases e
    obtain ⟨ex, ok⟩ := ro.str
    refine sl_str pins s σ H x v vl vu lo hi sl Q I rx hs pl pu ⟨sv t, ex, ?_, ?_⟩
    · rw [sv_len]; exact Nat.le_trans (snOk_len ok) maxLen_line
    · have e : cutS (sv t) lo hi = sv (cutL t lo hi) := by
        unfold cutS sv
        rw [cutL_eq]
        simp [Str.length]
      rw [e]
      exact q.val rh (.str _ (snOk_of (Nat.le_trans (cutL_len _ _ _) (snOk_len ok)) fun c hc => snOk_cps ok c (cutL_mem hc)))
  · obtain ⟨vs, e1, rfl⟩ := Option.map_eq_some_iff.mp e
    obtain ⟨p, xs, ex, hx, r, l⟩ := ro.list rh e1
    refine sl_list pins s σ H x v vl vu lo hi sl Q I rx hs pl pu ⟨p, xs, ex, .inl (.inl hx), fun p2 n => ?_⟩
    exact q.lstN rh (r.cut lo hi) (Nat.le_trans (cutL_len _ _ _) l) n
theorem asInt_eq {v : Val} {i : Int} (h : asInt v = some i) : v = .int i := by
  cases v <;> simp [asInt] at h
  subst h
  rfl
theorem c_slc {p2 : Pos} (ho : PE X x (TB X.K M W fa)) (ha : PE X y (TR X.K M W fr)) (hb : PE X z (TR X.K M W fs)) :
    PE X (.Subscript x (.Slice (some y) (some z) none p2) pos) (TR X.K M W fun env st => (fa env st).bind fun o st => (fr env st).bind fun a st => (Res.of (asInt a.2) st).bind fun i st =>
      (fs env st).bind fun b st => (Res.of (asInt b.2) st).bind fun j st => Res.of (slcI st o (some i) (some j)) st) :=
  (pe_slice (sl_ok (M := M)) ho (po_some (pe_frz ha)) (po_some (pe_frz hb))).weak fun σ H Q ⟨Hb, Z, ρ, env, st, rh, re, q⟩ => by
    refine ⟨Hb, Z, ρ, env, st, rh, re, q.bind.mono fun o st1 q1 w H1 Z1 ρ1 a1 rh1 r1 => ?_⟩
    refine ⟨Hb, Z1, ρ1, env, st1, rh1, re.adv a1, (q1.bind.adv a1 fun _ _ k => k).mono fun a st2 q2 w2 H2 Z2 ρ2 a2 rh2 r2 => ?_⟩
    obtain ⟨i, ei, q2⟩ := q2.bind.of
    rw [asInt_eq ei] at r2
    cases r2
    refine ⟨i, rfl, Hb, Z2, ρ2, env, st2, rh2, (re.adv a1).adv a2, (q2.bind.adv (a1.trans a2) fun _ _ k => k).mono fun b st3 q3 w3 H3 Z3 ρ3 a3 rh3 r3 => ?_⟩
    obtain ⟨j, ej, q3⟩ := q3.bind.of
    rw [asInt_eq ej] at r3
    cases r3
    obtain ⟨rv, e, k⟩ := After.of q3
    exact ⟨j, rfl, Z3, ρ3, st3, o, rv, rh3, (r1.adv a2).adv a3, e, Ok1.adv ((a1.trans a2).trans a3) k⟩
theorem c_slcL {p2 : Pos} (ho : PE X x (TB X.K M W fa)) (ha : PE X y (TR X.K M W fr)) :
    PE X (.Subscript x (.Slice (some y) none none p2) pos) (TR X.K M W fun env st => (fa env st).bind fun o st => (fr env st).bind fun a st => (Res.of (asInt a.2) st).bind fun i st => Res.of (slcI st o (some i) none) st) :=
  (pe_slice (sl_ok (M := M)) ho (po_some (pe_frz ha)) po_none).weak fun σ H Q ⟨Hb, Z, ρ, env, st, rh, re, q⟩ => by
    refine ⟨Hb, Z, ρ, env, st, rh, re, q.bind.mono fun o st1 q1 w H1 Z1 ρ1 a1 rh1 r1 => ?_⟩
    refine ⟨Hb, Z1, ρ1, env, st1, rh1, re.adv a1, (q1.bind.adv a1 fun _ _ k => k).mono fun a st2 q2 w2 H2 Z2 ρ2 a2 rh2 r2 => ?_⟩
    obtain ⟨i, ei, q2⟩ := q2.bind.of
    rw [asInt_eq ei] at r2
    cases r2
    obtain ⟨rv, e, k⟩ := After.of q2
    exact ⟨i, rfl, Z2, ρ2, st2, o, rv, rh2, r1.adv a2, e, Ok1.adv (a1.trans a2) k⟩
theorem c_slcR {p2 : Pos} (ho : PE X x (TB X.K M W fa)) (ha : PE X y (TR X.K M W fr)) :
    PE X (.Subscript x (.Slice none (some y) none p2) pos) (TR X.K M W fun env st => (fa env st).bind fun o st => (fr env st).bind fun a st => (Res.of (asInt a.2) st).bind fun i st => Res.of (slcI st o none (some i)) st) :=
  (pe_slice (sl_ok (M := M)) ho po_none (po_some (pe_frz ha))).weak fun σ H Q ⟨Hb, Z, ρ, env, st, rh, re, q⟩ => by
    refine ⟨Hb, Z, ρ, env, st, rh, re, q.bind.mono fun o st1 q1 w H1 Z1 ρ1 a1 rh1 r1 => ?_⟩
    refine ⟨Hb, Z1, ρ1, env, st1, rh1, re.adv a1, (q1.bind.adv a1 fun _ _ k => k).mono fun a st2 q2 w2 H2 Z2 ρ2 a2 rh2 r2 => ?_⟩
    obtain ⟨i, ei, q2⟩ := q2.bind.of
    rw [asInt_eq ei] at r2
    cases r2
    obtain ⟨rv, e, k⟩ := After.of q2
    exact ⟨i, rfl, Z2, ρ2, st2, o, rv, rh2, r1.adv a2, e, Ok1.adv (a1.trans a2) k⟩

/-! ### a star in a display -/
theorem vals_of : ∀ {xs : List V} {us : List Value}, xs.length = us.length → (∀ (i : Nat) x u, xs[i]? = some x → us[i]? = some u → RelV x u) → Vals xs us
  | [], [], _, _ => .nil
  | [], _ :: _, h, _ => by cases h
  | _ :: _, [], h, _ => by cases h
  | x :: xs, u :: us, h, q => .cons (q 0 x u rfl rfl) (vals_of (by simpa using h) fun i x u h1 h2 => q (i + 1) x u (by simpa using h1) (by simpa using h2))
theorem rvs_chars {K : PySem.W.Frag} {Z : Hp} {ρ : List Addr} : ∀ {t : Sn}, (∀ c ∈ t, c < 1114112) → RVs K Z ρ (t.map fun c => V.str ⟨#[c]⟩) (t.map fun c => Val.str [c])
  | [], _ => .nil
  | c :: t, h => .cons (.str [c] (snOk_of (by show 1 ≤ maxLen; decide) fun k hk => by
      have e : k = c := by simpa using hk
      rw [e]; exact h c List.mem_cons_self)) (rvs_chars fun k hk => h k (List.mem_cons_of_mem _ hk))
theorem star_str {pins : List (Addr × Obj)} {σ : L2.St} {H : Hp} {s : Shared} (hc : X.calm = true) (I : L2.Inv X pins σ H s) {t : Sn} {tk : Tok} {E : Value → Shared → Prop} {Q : List Value → Shared → Prop} (ok : snOk t = true)
    (hQ : ∀ us s', L2.Inv X pins σ H s' → Vals (t.map fun c => V.str ⟨#[c]⟩) us → Q us s') : PySem.W.StarOf (model X.prog X.w) X.A E (.str (sv t) tk) Q s := by
  have z : wpAny (model X.prog X.w) X.A (collect (.str (sv t) tk)) Q E s := by
    refine wpAny_collect_str (I.ok.hd hc) (sv t) tk (fun s' acc k g d o it => ?_) (by show (sv t).length ≤ _; rw [sv_len]; exact Nat.le_trans (snOk_len ok) maxLen_line)
    have I' : L2.Inv X pins σ H s' := by
      obtain ⟨h', g', d', t', o'⟩ := s'
      simp only at g d o
      subst g d o
      exact I.kept (h' := h') (t' := t') k
    refine hQ _ _ I' ?_
    have hlen : (sv t).cps.size = t.length := sv_len t
    refine vals_of (by rw [List.length_map, Array.length_toList]; exact hlen.symm.trans it.1.symm) fun i x u h1 h2 => ?_
    obtain ⟨c, u2, e1, e2⟩ := it.2 i u (by simpa using h2)
    have e3 : t[i]? = some c := by simpa [sv] using e1
    rw [List.getElem?_map, e3] at h1
    cases h1
    subst e2
    exact ⟨u2, rfl⟩
  unfold PySem.W.StarOf notIterableAtAll
  exact wpAny_bind (wpAny_specialOf (T := "str") rfl PySem.F.slot_str_iter.lookup (wpAny_pure ⟨rfl, z⟩))
theorem seq_cases {st : Store} {v : Val} {us : List Val} (e : seqOf st v = some us) : (v = .tup us) ∨ (∃ t, v = .str t ∧ us = t.map fun c => .str [c]) ∨ asList st v = some us := by
  unfold seqOf at e
  split at e
  · cases e; exact .inl rfl
  · cases e; exact .inr (.inl ⟨_, rfl, rfl⟩)
  · exact .inr (.inr e)
theorem a_star {sp : Pos} (hc : X.calm = true) (h : PE X x (TB X.K M W fa)) (hr : PA X xs (TVs X.K M W fl)) :
    PA X (.Starred x sp :: xs) (TVs X.K M W fun env st => (fa env st).bind fun v st => (Res.of (seqOf st v) st).bind fun us st => (fl env st).bind fun ys st => if us.length + ys.length + 1000 ≤ maxLen then .ok (us ++ ys) st else .bad) := by
  refine ⟨fun pos pins s σ H Q I ⟨Hb, Z, ρ, env, st, rh, re, q⟩ => ?_⟩
  refine PySem.W.items_star (thn (h.run pins s σ H (fun w H1 => ∃ Z1 ρ1 st1 v us, Adv H Z ρ H1 Z1 ρ1 ∧ RH X.K M H1 Z1 ρ1 st1 ∧ RB X.K H1 Z1 ρ1 w v ∧ seqOf st1 v = some us ∧
    After X.K M H Z ρ (fun c d H' => W c d σ H') ((fl env st1).bind fun ys st => if us.length + ys.length + 1000 ≤ maxLen then .ok (us ++ ys) st else .bad) fun vs st' => OkVs X.K M H Z ρ vs st' Q) I ⟨Hb, Z, ρ, env, st, rh, re, q.bind.mono fun v st1 q1 w H1 Z1 ρ1 a1 rh1 r1 => ?_⟩) fun v s1 ⟨y, H1, I1, ry, Z1, ρ1, st1, w, us, a1, rh1, r1, e, q1⟩ => ?_) rfl
  · obtain ⟨us, e, k⟩ := q1.bind.of
    exact ⟨Z1, ρ1, st1, v, us, a1, rh1, r1, e, k⟩
  · have fin : ∀ (zs : List V) (ws : List Value) (s' : Shared), L2.Inv X pins σ H1 s' → Vals zs ws → RVs X.K Z1 ρ1 zs us →
        wpAny (model X.prog X.w) X.A (spliced (backTo pos (starEach xs X.env))) (fun vs s₃ => AP X pins σ Q (ws ++ vs) s₃) X.xe s' := fun zs ws s' I' hv hr' => by
      refine thn (hr.run pos pins s' σ H1 (fun ks H2 => Q (zs ++ ks) H2) I' ⟨Hb, Z1, ρ1, env, st1, rh1, re.adv a1, (q1.bind.adv a1 fun _ _ k => k).mono fun ys st2 k ks H2 Z2 ρ2 a2 rh2 r2 => ?_⟩) fun vs s₃ ⟨ks, H3, I3, r3, q3⟩ => ⟨zs ++ ks, H3, I3, hv.append r3, q3⟩
      split at k
      · exact k _ H2 Z2 ρ2 (a1.trans a2) rh2 ((hr'.mono a2.z a2.r).append r2)
      · exact k.elim
    rcases seq_cases e with rfl | ⟨t, rfl, rfl⟩ | e1
    · obtain ⟨p, zs, ey, hz, rz, l⟩ := r1.tup rh1
      subst ey
      cases ry
      exact star_tup I1 hz fun ws s' I' hv => fin zs ws s' I' hv rz
    · obtain ⟨ey, ok⟩ := r1.str
      subst ey
      obtain ⟨tk, rfl⟩ := ry
      exact star_str hc I1 ok fun ws s' I' hv => fin _ ws s' I' hv (rvs_chars (snOk_cps ok))
    · obtain ⟨p, zs, ey, hz, rz, l⟩ := r1.list rh1 e1
      subst ey
      cases ry
      exact StX.star_lst I1 (.inl (.inl hz)) fun ws s' I' hv => fin zs ws s' I' hv rz

/-! ### calls of what is built in -/
theorem noStar_any {env : PySem.Env} {pos : Pos} : ∀ {es : List Expr}, es.all noStar = true → (backTo pos (starEach es env)).any (·.1) = false
  | [], _ => rfl
  | e :: es, h => by
    simp only [List.all_cons, Bool.and_eq_true] at h
    rw [starEach_no (h.1)]
    have := noStar_any (env := env) (pos := pos) h.2
    show (false || (backTo pos (starEach es env)).any (·.1)) = false
    rw [this]
    rfl
def tyS : Ty → String
  | .tint => "int"
  | .tbool => "bool"
  | .tstr => "str"
  | .ttup => "tuple"
  | .tlst => "list"
  | .tdct => "dict"
def tagS : Tag → String
  | .non => "NoneType"
  | .bool => "bool"
  | .int => "int"
  | .str => "str"
  | .tup => "tuple"
  | .lst => "list"
  | .dct => "dict"
theorem kit_tag {K : PySem.W.Frag} (t : Tag) (T : Ty) : PySem.W.kitOne K (.type (tagS t)) (.type (tyS T)) = some (isTag t T) := by
  cases t <;> cases T <;> exact kit_ty (by decide +kernel)
theorem boot_ty (T : Ty) : bootBuiltins (Str.ofString (tyS T)) = some (.type (tyS T)) := by cases T <;> decide +kernel
theorem tag_ty {H Z : Hp} {ρ : List Addr} {st : Store} {x : V} {v : Val} {t : Tag} (rh : RH X.K M H Z ρ st) (r : RB X.K H Z ρ x v) (e : tagOf st v = some t) : TyX X.K H x (.type (tagS t)) := by
  have dk : ∀ {a : Addr} {kvs : List (Key × V)}, Rd H a (.dK kvs) → TyX X.K H (.ref a) (.type "dict") := fun {a kvs} h => h.elim (fun h => .base (.dK h)) fun ⟨o, h⟩ => .fDict h
  have tp : ∀ {a : Addr} {xs : List V}, SqT X.K H a xs → TyX X.K H (.ref a) (.type "tuple") := fun {a xs} h => by
    rcases h with (h | ⟨o, h⟩) | ⟨o, its, n, h, c, _⟩
    · exact .base (.tup h)
    · exact .fTuple h
    · exact .kTuple h c
  have ls : ∀ {a : Addr} {xs : List V}, SqL X.K H a xs → TyX X.K H (.ref a) (.type "list") := fun {a xs} h => by
    rcases h with (h | ⟨o, h⟩) | ⟨o, its, n, h, c, _⟩
    · exact .base (.lst h)
    · exact .base (.frz h)
    · exact .kList h c
  cases v with
  | non => cases e; rw [r.non]; exact .base .non
  | bl b => cases e; rw [r.bl]; exact .base (.bl b)
  | int i => cases e; rw [r.int]; exact .base (.int i)
  | str s => cases e; rw [r.str.1]; exact .base (.str _)
  | tup vs => cases e; obtain ⟨p, xs, rfl, h, _⟩ := r.tup rh; exact tp h
  | lst vs => cases e; obtain ⟨p, xs, rfl, h, _⟩ := r.list rh rfl; exact ls (.inl (.inl h))
  | dct ds => cases e; obtain ⟨p, xs, rfl, h, _⟩ := r.dict rh rfl; exact dk h
  | scr ns =>
    cases e
    rcases r with r | ⟨_, _, _, _, f⟩
    · cases r with | scr h l => exact ls (rh.sqL h)
    · exact f.elim
  | ref n =>
    simp only [tagOf] at e
    cases o : st[n]? with
    | none => rw [o] at e; cases e
    | some ob =>
      rw [o] at e
      cases ob with
      | lst vs =>
        cases e
        obtain ⟨p, xs, rfl, h, _⟩ := r.list rh (vs := vs) (by simp [asList, o])
        exact ls (.inl (.inl h))
      | dct ds =>
        cases e
        obtain ⟨p, xs, rfl, h, _⟩ := r.dict rh (ds := ds) (by simp [asDict, o])
        exact dk h
      | ins c f => cases e
theorem c_isi1 {T : Ty} {p p2 : Pos} (ns : noStar x = true) (hg : Gl X "isinstance") (hm : X.mg "isinstance" = none) (hgT : Gl X (Str.ofString (tyS T))) (hmT : X.mg (Str.ofString (tyS T)) = none) (h : PE X x (TB X.K M W fa)) :
    PE X (.Call (.Name "isinstance" p) [x, .Name (Str.ofString (tyS T)) p2] [] pos) (TR X.K M W fun env st => (fa env st).bind fun v st => Res.of ((tagOf st v).map fun t => (false, .bl ([T].any (isTag t)))) st) := by
  have hT : PE X (.Name (Str.ofString (tyS T)) p2) (tC (.ty (tyS T))) := by
    cases T <;> exact pe_bltn hgT hmT (boot_ty _) rfl
  refine (pe_callB call_isi hg hm (by decide +kernel) (pa_cons h (pa_cons hT pa_nil) (starEach_no ns)) (by decide) (by decide) (starEach_no ns) rfl).weak fun σ H Q ⟨Hb, Z, ρ, env, st, rh, re, q⟩ => ?_
  refine ⟨Hb, Z, ρ, env, st, rh, re, q.bind.mono fun v st1 q1 w H1 Z1 ρ1 a1 rh1 r1 => ?_⟩
  obtain ⟨rv, e, k⟩ := q1.of
  obtain ⟨t, e2, rfl⟩ := Option.map_eq_some_iff.mp e
  refine ⟨w, .ty (tyS T), .type (tagS t), .type (tyS T), isTag t T, rfl, .ty _, tag_ty rh1 r1 e2, kit_tag t T, ?_⟩
  have k' := Ok1.adv a1 k
  rw [List.any_cons, List.any_nil, Bool.or_false] at k'
  exact k'.bl rh1
theorem c_isi2 {T T2 : Ty} {p p2 p3 p4 : Pos} {kt : Nat} (ns : noStar x = true) (hg : Gl X "isinstance") (hm : X.mg "isinstance" = none) (hgT : Gl X (Str.ofString (tyS T))) (hmT : X.mg (Str.ofString (tyS T)) = none)
    (hgT2 : Gl X (Str.ofString (tyS T2))) (hmT2 : X.mg (Str.ofString (tyS T2)) = none) (h : PE X x (TB X.K M W fa)) :
    PE X (.Call (.Name "isinstance" p) [x, .Tuple [.Name (Str.ofString (tyS T)) p2, .Name (Str.ofString (tyS T2)) p3] kt p4] [] pos) (TR X.K M W fun env st => (fa env st).bind fun v st => Res.of ((tagOf st v).map fun t => (false, .bl ([T, T2].any (isTag t)))) st) := by
  have hT : ∀ {T : Ty} {q : Pos}, Gl X (Str.ofString (tyS T)) → X.mg (Str.ofString (tyS T)) = none → PE X (.Name (Str.ofString (tyS T)) q) (tC (.ty (tyS T))) := fun {T q} g m => by
    cases T <;> exact pe_bltn g m (boot_ty _) rfl
  refine (pe_callB call_isiT hg hm (by decide +kernel) (pa_cons h (pa_cons (pe_tup (pa_cons (hT hgT hmT) (pa_cons (hT hgT2 hmT2) pa_nil))) pa_nil) (starEach_no ns)) (by decide) (by decide) (starEach_no ns) rfl).weak fun σ H Q ⟨Hb, Z, ρ, env, st, rh, re, q⟩ => ?_
  refine ⟨Hb, Z, ρ, env, st, rh, re, q.bind.mono fun v st1 q1 w H1 Z1 ρ1 a1 rh1 r1 => ?_⟩
  obtain ⟨rv, e, k⟩ := q1.of
  obtain ⟨t, e2, rfl⟩ := Option.map_eq_some_iff.mp e
  refine ⟨by show 2 ≤ sizeLine; decide, fun tp n => ?_⟩
  obtain ⟨rh2, a2⟩ := rh1.newO (o := .tup [.ty (tyS T), .ty (tyS T2)]) n
  refine ⟨w, tp, _, .type (tagS t), [.type (tyS T), .type (tyS T2)], [T, T2].any (isTag t), rfl, upd_same, .cons (.ty _) (.cons (.ty _) .nil), tag_ty rh2 (r1.adv a2) e2, ?_, ?_⟩
  · refine kitAny_cons (kit_tag t T) (fun c => kitAny_cons (kit_tag t T2) (fun c2 => ?_) fun c2 => ?_) fun c => ?_
    · rw [kitAny_nil]; simp [c, c2]
    · simp [c, c2]
    · simp [c]
  · exact Ok1.bl rh2 (Ok1.adv (a1.trans a2) k)
end
end Lk
set_option Elab.async false
set_option linter.all false
set_option maxRecDepth 100000
set_option autoImplicit false
set_option maxHeartbeats 1000000
/-! LkD4: calls of own defs and methods, making of instances, attributes. -/
namespace Lk
open PySem PySem.Spec L2 PyProof.Rows

/-- what a def promises: the evaluator's answer -/
def SpC (K : PySem.W.Frag) (M : Nm) (g : List Val → Store → Res Rv) : Sp := fun vs H Q E =>
  ∃ Z ρ st args, RH K M H Z ρ st ∧ RVs K Z ρ vs args ∧ After K M H Z ρ E (g args st) fun rv st' => Ok1 K M H Z ρ rv st' Q
section
variable {X : Cx} {M : Nm} {W : WX} {x y z : Expr} {xs : List Expr} {pos p apos : Pos} {fa fb fc : Env → Store → Res Val} {fr fs ft : Env → Store → Res Rv} {fl : Env → Store → Res (List Val)}
  {k : Nat} {f C : Addr} {fd : FuncData} {ps : List Str} {g : List Val → Store → Res Rv} {n m : Str}
theorem t_call {σ : L2.St} {H : Hp} {Q : VK} {E : XK} (hE : ∀ c d H', W c d σ H' → E c d H') (q : TR X.K M W (fun env st => (fl env st).bind fun vs st => g vs st) σ H Q) : TVs X.K M W fl σ H fun vs H1 => SpC X.K M g (vs ++ []) H1 Q E := by
  obtain ⟨Hb, Z, ρ, env, st, rh, re, q⟩ := q
  refine ⟨Hb, Z, ρ, env, st, rh, re, q.bind.mono fun vs st1 q1 ws H1 Z1 ρ1 a1 rh1 r1 => ?_⟩
  dsimp only
  rw [List.append_nil]
  refine ⟨Z1, ρ1, st1, vs, rh1, r1, ?_⟩
  cases e : g vs st1 with
  | bad => rw [e] at q1; exact q1.elim
  | exc c fs s => rw [e] at q1; exact fun d H' Z' ρ' ad rh' rx => hE _ _ _ (q1 d H' Z' ρ' (a1.trans ad) rh' rx)
  | ok rv s => rw [e] at q1; exact Ok1.adv a1 q1
theorem c_call (F : FnOk X.prog X.w X.K X.mg X.base (L2.CX X.prog X.w) k f fd ps (SpC X.K M g)) (hr : Room k X.A) (tk : Takes X W) (hg : Gl X n) (hm : X.mg n = some (.ref f)) (hk : PySem.W.keepIn X.K (.ref f) = true) (hb : Binds X.K fd ps [])
    (hdb : (n == ("__debug__" : Str)) = false) (ns : noStar x = true) (ns2 : xs.all noStar = true) (ha : PA X (x :: xs) (TVs X.K M W fl)) :
    PE X (.Call (.Name n p) (x :: xs) [] pos) (TR X.K M W fun env st => (fl env st).bind fun vs st => g vs st) :=
  (pe_callSD (dvs := []) (E := fun σ => WE W σ) F hr hg hm hk hb .nil (fun σ => passAt tk σ) ha hdb (starEach_no ns) (noStar_any ns2)).weak fun σ H Q q => t_call (fun _ _ _ h => h) q
theorem c_call0 (F : FnOk X.prog X.w X.K X.mg X.base (L2.CX X.prog X.w) k f fd ps (SpC X.K M g)) (hr : Room k X.A) (tk : Takes X W) (hg : Gl X n) (hm : X.mg n = some (.ref f)) (hk : PySem.W.keepIn X.K (.ref f) = true) (hb : Binds X.K fd ps [])
    (hdb : (n == ("__debug__" : Str)) = false) : PE X (.Call (.Name n p) [] [] pos) (TR X.K M W fun env st => (Res.ok [] st : Res (List Val)).bind fun vs st => g vs st) := by
  refine ⟨fun pins s σ H Q I q => ?_⟩
  refine wpAny_Call_Name_kw (ld_glob I hg hm ?_ hdb)
  obtain ⟨Hb, Z, ρ, env, st, rh, re, q⟩ := q
  refine PySem.W.callWith_K0 I.kIn hk (run_fnSD (us := []) (vs := []) (dvs := []) (E := fun σ => WE W σ) F hr hb .nil (passAt tk σ) I .nil ⟨Z, ρ, st, [], rh, .nil, ?_⟩)
  exact q

/-! ### methods -/
def noSup : Expr → Bool
  | .Call (.Name _ _) [] [] _ => false
  | _ => true
theorem base_of {o : Expr} {a : Str} {env : PySem.Env} {w : Sem Value} (h : noSup o = true) : attributeBase o a env w = w := by
  unfold attributeBase
  split
  · cases h
  · rfl
theorem form_of {args : List Expr} {env : PySem.Env} {pos : Pos} (h : args.all noStar = true) (hl : args.length < 29) : methodCallForm (args.length + 0) (backTo pos (starEach args env)) (backToKw pos (keywordEach [] env)) = true := by
  unfold methodCallForm
  have e1 : (backTo pos (starEach args env)).all (!·.1) = true := by
    rw [List.all_eq_not_any_not]
    simp only [Bool.not_not]
    rw [noStar_any h]
    rfl
  rw [e1]
  show (true && true && decide (args.length + 0 + 0 < 30)) = true
  simp only [Bool.true_and]
  exact decide_eq_true (by omega)
theorem meth_eval {o : Expr} {args : List Expr} {env : PySem.Env} (h1 : noSup o = true) (h2 : args.all noStar = true) (h3 : args.length < 29) (h4 : (apos.endLine == pos.line) = true) :
    eval (.Call (.Attribute o m apos) args [] pos) env = (do
      let ov ← eval o env
      standAt apos.atName
      let (f, first) ← holding [ov] (getMethod ov m (do return (← importBound o env).getD true))
      callWith pos f first (backTo pos (starEach args env)) (backToKw pos (keywordEach [] env))) := by
  show (do
    let ov ← attributeBase o m env (eval o env)
    standAt apos.atName
    methodCall o m apos pos env ov (args.length + 0) (backTo pos (starEach args env)) (backToKw pos (keywordEach [] env))) = _
  rw [base_of h1]
  unfold methodCall calleeOf methodCallPos
  rw [form_of h2 h3]
  simp only [h4, Bool.not_true, Bool.false_or, if_true, pure_bind]
/-- the class of a method, by the evaluator's tables -/
structure MethAt (X : Cx) (M : Nm) (k : Nat) (cal : CallF) (c m f : Nat) : Prop where
  ex : ∃ (fa : Addr) (fd : FuncData) (ps : List Str), Cls X.K (M.ca c) ∧ Meth X.K (M.ca c) (M.an m) fa ∧ Binds X.K fd ps [] ∧ FnOk X.prog X.w X.K X.mg X.base (L2.CX X.prog X.w) k fa fd ps (SpC X.K M (cal f))
theorem methOf_some {C : Cfg} {o : Val} {m : Nat} {st : Store} {p : Nat × Nat} (e : methOf C o m st = some p) : ∃ c fs, asIns st o = some (p.2, c, fs) ∧ C.meth c m = some p.1 ∧ fs.lookup m = none := by
  unfold methOf at e
  cases e1 : asIns st o with
  | none => rw [e1] at e; cases e
  | some q =>
    obtain ⟨n, c, fs⟩ := q
    rw [e1] at e
    dsimp only at e
    cases e2 : C.meth c m with
    | none => rw [e2] at e; cases e
    | some f =>
      rw [e2] at e
      cases e3 : fs.lookup m with
      | some v => rw [e3] at e; cases e
      | none => rw [e3] at e; cases e; exact ⟨c, fs, rfl, e2, e3⟩
variable {Cf : Cfg} {cal mk : CallF} {mi : Nat}
theorem c_meth (hM : ∀ c f, Cf.meth c mi = some f → MethAt X M k cal c mi f) (hr : Room k X.A) (tk : Takes X W) (hmi : mi < 100)
    (h1 : noSup x = true) (ns : noStar y = true) (ns2 : xs.all noStar = true) (hl : (y :: xs).length < 29) (h4 : (apos.endLine == pos.line) = true) (ho : PE X x (TB X.K M W fa)) (ha : PA X (y :: xs) (TVs X.K M W fl)) :
    PE X (.Call (.Attribute x (M.an mi) apos) (y :: xs) [] pos) (TR X.K M W fun env st => (fa env st).bind fun o st => (Res.of (methOf Cf o mi st) st).bind fun p st => (fl env st).bind fun vs st => cal p.1 (.ref p.2 :: vs) st) := by
  refine ⟨fun pins s σ H Q I ⟨Hb, Z, ρ, env, st, rh, re, q⟩ => ?_⟩
  have nsA : (y :: xs).all noStar = true := by simp only [List.all_cons, Bool.and_eq_true]; exact ⟨ns, ns2⟩
  refine PySem.W.methodCall_KW (thn (ho.run pins s σ H (fun w H1 => ∃ Z1 ρ1 st1 o p, Adv H Z ρ H1 Z1 ρ1 ∧ RH X.K M H1 Z1 ρ1 st1 ∧ RB X.K H1 Z1 ρ1 w o ∧ methOf Cf o mi st1 = some p ∧
    After X.K M H Z ρ (fun c d H' => W c d σ H') ((fl env st1).bind fun vs st => cal p.1 (.ref p.2 :: vs) st) fun rv st' => Ok1 X.K M H Z ρ rv st' Q) I ⟨Hb, Z, ρ, env, st, rh, re, q.bind.mono fun o st1 q1 w H1 Z1 ρ1 a1 rh1 r1 => ?_⟩)
    fun u s1 ⟨w, H1, I1, rw', Z1, ρ1, st1, o, p, a1, rh1, r1, e, q1⟩ => ?_) (meth_eval h1 nsA hl h4)
  · obtain ⟨p, e, k⟩ := q1.bind.of
    exact ⟨Z1, ρ1, st1, o, p, a1, rh1, r1, e, k⟩
  · obtain ⟨c, fs, e1, e2, e3⟩ := methOf_some e
    obtain ⟨rfl, e4, a, dx, gs, rfl, ga, hH, rf, l⟩ := r1.ins rh1 e1
    cases rw'
    obtain ⟨fa, fd, ps, cl, hm, hb, F⟩ := (hM c p.1 e2).ex
    refine getmeth_ok I1 hH cl hm ((rf.look hmi).2 e3) ?_
    refine PySem.W.callWith_K (first := [.ref a]) (h₀ := X.base) I.ok.mod.kin hm.kp (thn (ha.run pos pins s1 σ H1 (fun ws H2 => SpC X.K M (cal p.1) ((V.ref a :: ws) ++ []) H2 Q (WE W σ)) I1 ⟨Hb, Z1, ρ1, env, st1, rh1, re.adv a1, (q1.bind.adv a1 fun _ _ k => k).mono fun vs st2 q2 ws H2 Z2 ρ2 a2 rh2 r2 => ?_⟩)
      fun us s2 ⟨vs, H2, I2, r, q2⟩ => ⟨I2.kIn, ?_⟩) (starEach_no ns) (noStar_any ns2)
    · dsimp only
      rw [List.append_nil]
      refine ⟨Z2, ρ2, st2, .ref p.2 :: vs, rh2, .cons (.ref (pre_get a2.r ga)) r2, ?_⟩
      cases e : cal p.1 (.ref p.2 :: vs) st2 with
      | bad => rw [e] at q2; exact q2.elim
      | exc c fs s => rw [e] at q2; exact fun d H' Z' ρ' ad rh' rx => q2 d H' Z' ρ' ((a1.trans a2).trans ad) rh' rx
      | ok rv s => rw [e] at q2; exact Ok1.adv (a1.trans a2) q2
    · exact run_fnSD (us := .ref a :: us) (vs := .ref a :: vs) (dvs := []) (E := fun σ => WE W σ) F hr hb .nil (passAt tk σ) I2 (.cons rfl r) q2
theorem c_meth0 (hM : ∀ c f, Cf.meth c mi = some f → MethAt X M k cal c mi f) (hr : Room k X.A) (tk : Takes X W) (hmi : mi < 100)
    (h1 : noSup x = true) (h4 : (apos.endLine == pos.line) = true) (ho : PE X x (TB X.K M W fa)) :
    PE X (.Call (.Attribute x (M.an mi) apos) [] [] pos) (TR X.K M W fun env st => (fa env st).bind fun o st => (Res.of (methOf Cf o mi st) st).bind fun p st => (Res.ok [] st : Res (List Val)).bind fun vs st => cal p.1 (.ref p.2 :: vs) st) := by
  refine ⟨fun pins s σ H Q I ⟨Hb, Z, ρ, env, st, rh, re, q⟩ => ?_⟩
  refine PySem.W.methodCall_KW (thn (ho.run pins s σ H (fun w H1 => ∃ Z1 ρ1 st1 o p, Adv H Z ρ H1 Z1 ρ1 ∧ RH X.K M H1 Z1 ρ1 st1 ∧ RB X.K H1 Z1 ρ1 w o ∧ methOf Cf o mi st1 = some p ∧
    After X.K M H Z ρ (fun c d H' => W c d σ H') (cal p.1 [.ref p.2] st1) fun rv st' => Ok1 X.K M H Z ρ rv st' Q) I ⟨Hb, Z, ρ, env, st, rh, re, q.bind.mono fun o st1 q1 w H1 Z1 ρ1 a1 rh1 r1 => ?_⟩)
    fun u s1 ⟨w, H1, I1, rw', Z1, ρ1, st1, o, p, a1, rh1, r1, e, q1⟩ => ?_) (meth_eval h1 rfl (by decide) h4)
  · obtain ⟨p, e, k⟩ := q1.bind.of
    exact ⟨Z1, ρ1, st1, o, p, a1, rh1, r1, e, k⟩
  · obtain ⟨c, fs, e1, e2, e3⟩ := methOf_some e
    obtain ⟨rfl, e4, a, dx, gs, rfl, ga, hH, rf, l⟩ := r1.ins rh1 e1
    cases rw'
    obtain ⟨fa, fd, ps, cl, hm, hb, F⟩ := (hM c p.1 e2).ex
    refine getmeth_ok I1 hH cl hm ((rf.look hmi).2 e3) ?_
    refine PySem.W.callWith_K0 (first := [.ref a]) I1.kIn hm.kp (run_fnSD (us := [.ref a]) (vs := [.ref a]) (dvs := []) (E := fun σ => WE W σ) F hr hb .nil (passAt tk σ) I1 (.cons rfl .nil) ⟨Z1, ρ1, st1, [.ref p.2], rh1, .cons (.ref ga) .nil, ?_⟩)
    cases e : cal p.1 [.ref p.2] st1 with
    | bad => rw [e] at q1; exact q1.elim
    | exc c fs s => rw [e] at q1; exact fun d H' Z' ρ' ad rh' rx => q1 d H' Z' ρ' (a1.trans ad) rh' rx
    | ok rv s => rw [e] at q1; exact Ok1.adv a1 q1

/-! ### attributes -/
theorem c_attr (hA : ∀ c, Cf.fld c mi = true → Cls X.K (M.ca c) ∧ NoAttr X.K (M.ca c) (M.an mi)) (hmi : mi < 100) (h1 : noSup x = true) (ho : PE X x (TB X.K M W fa)) :
    PE X (.Attribute x (M.an mi) pos) (TR X.K M W fun env st => (fa env st).bind fun o st => Res.of ((asIns st o).bind fun p => if Cf.fld p.2.1 mi then (p.2.2.lookup mi).map fun v => (false, v) else none) st) :=
  (pe_fld ho (base_of h1)).weak fun σ H Q ⟨Hb, Z, ρ, env, st, rh, re, q⟩ => by
    refine ⟨Hb, Z, ρ, env, st, rh, re, q.bind.mono fun o st1 q1 w H1 Z1 ρ1 a1 rh1 r1 => ?_⟩
    obtain ⟨rv, e, k⟩ := q1.of
    cases e1 : asIns st1 o with
    | none => rw [e1] at e; cases e
    | some p =>
      obtain ⟨n, c, fs⟩ := p
      rw [e1] at e
      dsimp only [Option.bind] at e
      split at e
      · rename_i hf
        obtain ⟨v, e2, rfl⟩ := Option.map_eq_some_iff.mp e
        obtain ⟨rfl, e4, a, dx, gs, rfl, ga, hH, rf, l⟩ := r1.ins rh1 e1
        obtain ⟨z, g1, g2⟩ := (rf.look hmi).1 v e2
        exact ⟨a, M.ca c, dx, gs, z, rfl, hH, (hA c hf).1, (hA c hf).2, g1, Ok1.val rh1 (Ok1.adv a1 k) g2⟩
      · cases e
end
end Lk
set_option Elab.async false
set_option linter.all false
set_option maxRecDepth 100000
set_option autoImplicit false
set_option maxHeartbeats 1000000
/-! LkD5: instances made. -/
namespace Lk
open PySem PySem.Spec L2 PyProof.Rows
section
variable {K : PySem.W.Frag} {M : Nm} {H Z : Hp} {ρ : List Addr} {st : Store}
theorem RO.mono {Z1 : Hp} {ρ1 : List Addr} {H1 : Hp} {a : Addr} {o : Ob} (z : ZLe Z Z1) (p : ρ <+: ρ1) (e : H1 a = H a) (h : RO K M H Z ρ a o) : RO K M H1 Z1 ρ1 a o := by
  cases o with
  | lst vs => obtain ⟨xs, q1, q2, q3⟩ := h; exact ⟨xs, e.trans q1, q2.mono z p, q3⟩
  | dct vs => obtain ⟨xs, q1, q2, q3⟩ := h; exact ⟨xs, e.trans q1, q2.mono z p, q3⟩
  | ins c vs => obtain ⟨dx, gs, q1, q2, q3⟩ := h; exact ⟨dx, gs, e.trans q1, q2.mono z p, q3⟩
/-- one more object in the store: it stands at a already -/
theorem RH.more (h : RH K M H Z ρ st) {a : Addr} {o : Ob} (nz : Z a = none) (nr : a ∉ ρ) (q : RO K M H Z (ρ ++ [a]) a o) : RH K M H Z (ρ ++ [a]) (st ++ [o]) := by
  refine ⟨h.zin, by simp [h.len], ?_, fun b m => ?_, fun n b ob e1 e2 => ?_⟩
  · rw [List.nodup_append]
    refine ⟨h.nd, by simp, fun x hx y hy => ?_⟩
    have e : y = a := by simpa using hy
    rw [e]; exact fun z => nr (z ▸ hx)
  · rcases List.mem_append.mp m with m | m
    · exact h.out b m
    · have e : b = a := by simpa using m
      rw [e]; exact nz
  · by_cases c : n < ρ.length
    · rw [List.getElem?_append_left c] at e1
      rw [List.getElem?_append_left (by rw [← h.len]; exact c)] at e2
      exact (h.obj n b ob e1 e2).mono (ZLe.refl _) (List.prefix_append _ _) rfl
    · rw [List.getElem?_append_right (by omega)] at e1
      rw [List.getElem?_append_right (by rw [← h.len]; omega)] at e2
      have e3 : n - ρ.length = 0 := by
        rcases Nat.eq_zero_or_pos (n - ρ.length) with z | z
        · exact z
        · rw [List.getElem?_eq_none (show [a].length ≤ n - ρ.length from z)] at e1; cases e1
      rw [e3] at e1
      rw [← h.len, e3] at e2
      cases e1; cases e2
      exact q
theorem RH.newI (h : RH K M H Z ρ st) {x dx : Addr} {c : Nat} (n1 : H x = none) (n2 : H dx = none) (ne : dx ≠ x) :
    RH K M (upd (upd H dx (.own x)) x (.ins (M.ca c) dx [])) Z (ρ ++ [x]) (st ++ [.ins c []]) ∧ Adv H Z ρ (upd (upd H dx (.own x)) x (.ins (M.ca c) dx [])) Z (ρ ++ [x]) := by
  obtain ⟨h1, a1⟩ := h.newO (o := .own x) n2
  have n1' : upd H dx (.own x) x = none := by rw [upd_ne (Ne.symm ne)]; exact n1
  obtain ⟨h2, a2⟩ := h1.newO (o := .ins (M.ca c) dx []) n1'
  obtain ⟨nz, nr⟩ := h.fresh n1
  refine ⟨h2.more nz nr ⟨dx, [], upd_same, .nil, by decide⟩, ?_⟩
  have a3 := a1.trans a2
  refine ⟨a3.z, List.prefix_append _ _, fun b o e1 e2 e3 => ?_, a3.th⟩
  obtain ⟨g1, g2, g3⟩ := a3.fr b o e1 e2 e3
  refine ⟨g1, g2, fun m => ?_⟩
  rcases List.mem_append.mp m with m | m
  · exact e3 m
  · have e : b = x := by simpa using m
    rw [e, n1] at e1; cases e1
end
section
variable {X : Cx} {M : Nm} {W : WX} {x y z : Expr} {xs : List Expr} {pos p : Pos} {fl : Env → Store → Res (List Val)} {k : Nat} {n : Str} {Cf : Cfg} {mk : CallF} {c : Nat}
/-- a class that is made: its __init__, by the evaluator's tables -/
structure MakeAt (X : Cx) (M : Nm) (k : Nat) (mk : CallF) (c f : Nat) : Prop where
  ex : ∃ (fa : Addr) (fd : FuncData) (ps : List Str), Mk X.K (M.ca c) fa ∧ Binds X.K fd ps [] ∧ FnOk X.prog X.w X.K X.mg X.base (L2.CX X.prog X.w) k fa fd ps (SpC X.K M (mk f))
theorem run_mk {pins : List (Addr × Obj)} {σ : L2.St} {H : Hp} {s : Shared} {Q : VK} {us : List Value} {ws : List V} {Z : Hp} {ρ : List Addr} {st : Store} {vs : List Val} {f : Nat} (A : MakeAt X M k mk c f) (hr : Room (k + 1) X.A) (tk : Takes X W)
    (I : L2.Inv X pins σ H s) (r : Vals ws us) (rh : RH X.K M H Z ρ st) (rv : RVs X.K Z ρ ws vs) (hi : Cf.init c = some f) (q : After X.K M H Z ρ (fun c d H' => W c d σ H') (makeOp Cf mk c vs st) fun rv st' => Ok1 X.K M H Z ρ rv st' Q) :
    wpAny (model X.prog X.w) X.A (call (.ref (M.ca c)) us) (EP X pins σ Q) X.xe s := by
  obtain ⟨fa, fd, ps, mkc, hb, F⟩ := A.ex
  have n1 : H (s.heap.objs.size + 1) = none := I.hok.fresh (Nat.le_succ _)
  have n2 : H s.heap.objs.size = none := I.hok.fresh (Nat.le_refl _)
  have ne : s.heap.objs.size ≠ s.heap.objs.size + 1 := Nat.ne_of_lt (Nat.lt_succ_self _)
  obtain ⟨rh2, a2⟩ := rh.newI (c := c) n1 n2 ne
  have I2 := Inv.made (C := M.ca c) I
  have sp : SpC X.K M (mk f) (V.ref (s.heap.objs.size + 1) :: ws) (upd (upd H s.heap.objs.size (.own (s.heap.objs.size + 1))) (s.heap.objs.size + 1) (.ins (M.ca c) s.heap.objs.size []))
      (fun v H2 => v = .non ∧ Q (.ref (s.heap.objs.size + 1)) H2) (WE W σ) := by
    have gx : (ρ ++ [s.heap.objs.size + 1])[st.length]? = some (s.heap.objs.size + 1) := by
      rw [← rh.len, List.getElem?_append_right (Nat.le_refl _)]; simp
    refine ⟨Z, _, _, .ref st.length :: vs, rh2, .cons (.ref gx) (rv.mono a2.z a2.r), ?_⟩
    simp only [makeOp, hi] at q
    cases e : mk f (.ref st.length :: vs) (st ++ [.ins c []]) with
    | bad => rw [e] at q; exact q.elim
    | exc c' fs s' => rw [e] at q; exact fun d H' Z' ρ' ad rh' rx => q d H' Z' ρ' (a2.trans ad) rh' rx
    | ok rv2 s' =>
      rw [e] at q
      simp only [Res.bind_ok] at q
      obtain ⟨o, v⟩ := rv2
      cases v <;> first | (exact q.elim) | skip
      intro w H' Z' ρ' ad rh' rr
      have q' : Ok1 X.K M H Z ρ (false, .ref st.length) s' Q := q
      have ew : w = .non := by
        cases o with
        | false => cases rr; rfl
        | true => obtain ⟨a, _, _, _, _, f⟩ := rr; exact f.elim
      exact ⟨ew, q' _ H' Z' ρ' (a2.trans ad) rh' (.ref (pre_get ad.r gx))⟩
  have r2 : Vals (V.ref (s.heap.objs.size + 1) :: ws) (Value.ref (s.heap.objs.size + 1) :: us) := .cons rfl r
  have hl : (Value.ref (s.heap.objs.size + 1) :: us).length = ps.length := by
    have e := r2.length
    rw [F.len _ _ _ _ sp] at e
    exact e.symm
  have hb2 := hb _ (Value.ref (s.heap.objs.size + 1) :: us) I2.kIn (by rw [List.append_nil]; exact hl)
  rw [List.append_nil] at hb2
  refine wpAny_call (make_map (f := fa) I.kIn mkc.makes mkc.init (beq_iff_eq.mp mkc.fn) (codeAny_mono (F.run _ X.stack _ _ ⟨Value.ref (s.heap.objs.size + 1) :: us, []⟩ _ _ _ (WE W σ) (hr.make (M.ca c) us [])
    (I2.env0.make (M.ca c) us []) hb2 r2 sp) fun r s' hq' => ?_))
  cases r with
  | error e => exact passAt tk σ pins _ _ e s' I2 hq'
  | ok fl =>
    cases fl with
    | ret u =>
      obtain ⟨v, H', I3, rv3, ev, q3⟩ := I2.after hq'
      subst ev
      exact ⟨rv3, ⟨V.ref (s.heap.objs.size + 1), H', I3, rfl, q3⟩⟩
    | next => exact False.elim hq'
    | brk => exact False.elim hq'
    | cont => exact False.elim hq'
theorem c_make (hM : ∀ f, Cf.init c = some f → MakeAt X M k mk c f) (hr : Room (k + 1) X.A) (tk : Takes X W) (hg : Gl X n) (hm : X.mg n = some (.ref (M.ca c))) (hk : PySem.W.keepIn X.K (.ref (M.ca c)) = true)
    (hdb : (n == ("__debug__" : Str)) = false) (ns : noStar x = true) (ns2 : xs.all noStar = true) (ha : PA X (x :: xs) (TVs X.K M W fl)) :
    PE X (.Call (.Name n p) (x :: xs) [] pos) (TR X.K M W fun env st => (fl env st).bind fun vs st => makeOp Cf mk c vs st) := by
  refine ⟨fun pins s σ H Q I ⟨Hb, Z, ρ, env, st, rh, re, q⟩ => ?_⟩
  refine wpAny_Call_Name_kw (ld_glob I hg hm ?_ hdb)
  refine PySem.W.callWith_K (h₀ := X.base) I.ok.mod.kin hk (thn (ha.run pos pins s σ H (fun ws H1 => ∃ Z1 ρ1 st1 vs, RH X.K M H1 Z1 ρ1 st1 ∧ RVs X.K Z1 ρ1 ws vs ∧ After X.K M H1 Z1 ρ1 (fun c d H' => W c d σ H') (makeOp Cf mk c vs st1) fun rv st' => Ok1 X.K M H1 Z1 ρ1 rv st' Q) I
    ⟨Hb, Z, ρ, env, st, rh, re, q.bind.mono fun vs st1 q1 ws H1 Z1 ρ1 a1 rh1 r1 => ⟨Z1, ρ1, st1, vs, rh1, r1, q1.adv a1 fun _ _ k => Ok1.adv a1 k⟩⟩) fun us s1 ⟨ws, H1, I1, r, Z1, ρ1, st1, vs, rh1, r1, q1⟩ => ⟨I1.kIn, ?_⟩) (starEach_no ns) (noStar_any ns2)
  cases hi : Cf.init c with
  | none => simp only [makeOp, hi] at q1; exact q1.elim
  | some f => exact run_mk (hM f hi) hr tk I1 r rh1 r1 hi q1
end
end Lk
set_option Elab.async false
set_option linter.all false
set_option maxRecDepth 100000
set_option autoImplicit false
set_option maxHeartbeats 1000000
/-! LkD6: built-in functions. -/
namespace Lk
open PySem PySem.Spec L2 PyProof.Rows
def BiR (K : PySem.W.Frag) (M : Nm) (b : Bi) : List V → Hp → VK → Prop := fun xs H Q =>
  ∃ Z ρ st vs rv, RH K M H Z ρ st ∧ RBs K H Z ρ xs vs ∧ biOp b st vs = some rv ∧ Ok1 K M H Z ρ rv st Q
section
variable {K : PySem.W.Frag} {H Z : Hp} {ρ : List Addr}
theorem RBs.one {xs : List V} {v : Val} (r : RBs K H Z ρ xs [v]) : ∃ x, xs = [x] ∧ RB K H Z ρ x v := by
  cases r with
  | cons h t => cases t; exact ⟨_, rfl, h⟩
theorem RBs.two {xs : List V} {v w : Val} (r : RBs K H Z ρ xs [v, w]) : ∃ x y, xs = [x, y] ∧ RB K H Z ρ x v ∧ RB K H Z ρ y w := by
  cases r with
  | cons h t => obtain ⟨y, rfl, q⟩ := RBs.one t; exact ⟨_, _, rfl, h, q⟩
theorem RVs.bls : ∀ {xs : List V} {vs : List Val} {b : Bool}, RVs K Z ρ xs vs → allBl vs = some b → ∃ bs : List Bool, xs = bs.map V.bl ∧ bs.all id = b
  | _, _, _, .nil, e => by cases e; exact ⟨[], rfl, rfl⟩
  | _, _, b, .cons h r, e => by
    cases h <;> first | (cases e; done) | skip
    obtain ⟨c, e1, e2⟩ := Option.map_eq_some_iff.mp e
    obtain ⟨bs, rfl, e3⟩ := RVs.bls r e1
    exact ⟨_ :: bs, rfl, by rw [← e2, ← e3]; rfl⟩
theorem RVs.strs : ∀ {xs : List V} {vs : List Val}, RVs K Z ρ xs vs → allStr vs = true → ∃ ts : List Sn, vs = ts.map Val.str ∧ xs = ts.map (fun t => V.str (sv t)) ∧ ∀ t ∈ ts, snOk t = true
  | _, _, .nil, _ => ⟨[], rfl, rfl, fun _ h => nomatch h⟩
  | _, _, .cons h r, e => by
    cases h <;> first | (simp [allStr] at e; done) | skip
    rename_i t ok
    obtain ⟨ts, rfl, rfl, q⟩ := RVs.strs r (by simpa [allStr] using e)
    exact ⟨t :: ts, rfl, rfl, fun u hu => (List.mem_cons.mp hu).elim (fun e => e ▸ ok) (q u)⟩
theorem rvs_strs : ∀ {ts : List Sn}, (∀ t ∈ ts, snOk t = true) → RVs K Z ρ (ts.map fun t => V.str (sv t)) (ts.map Val.str)
  | [], _ => .nil
  | t :: ts, h => .cons (.str t (h t List.mem_cons_self)) (rvs_strs fun u hu => h u (List.mem_cons_of_mem _ hu))
theorem RKs.keys : ∀ {kvs : List (Key × V)} {ds : List (Val × Val)}, RKs K Z ρ kvs ds → RVs K Z ρ (kvs.map fun kv => kV kv.1) (ds.map (·.1))
  | _, _, .nil => .nil
  | _, _, .int _ r => .cons (.int _) (RKs.keys r)
  | _, _, .str l _ r => .cons (.str _ l) (RKs.keys r)
end
theorem asList_none {st : Store} {v : Val} {ds : List (Val × Val)} (h : asDict st v = some ds) : asList st v = none := by
  cases v <;> first | rfl | (simp [asDict] at h; done) | skip
  rename_i n
  simp only [asDict] at h
  simp only [asList]
  cases o : st[n]? with
  | none => rfl
  | some ob => rw [o] at h; cases ob <;> first | rfl | (cases h)
theorem items_cases {st : Store} {v : Val} {xs : List Val} (e : itemsOf st v = some xs) : v = .tup xs ∨ asList st v = some xs ∨ ∃ ds, asDict st v = some ds ∧ xs = ds.map (·.1) := by
  cases v <;> first | (simp [itemsOf] at e; done) | skip
  · cases e; exact .inl rfl
  · cases e; exact .inr (.inl rfl)
  · cases e; exact .inr (.inr ⟨_, rfl, rfl⟩)
  · rename_i n
    simp only [itemsOf] at e
    cases o : st[n]? with
    | none => rw [o] at e; cases e
    | some ob =>
      rw [o] at e
      cases ob <;> first | (cases e; done) | skip
      · cases e; exact .inr (.inl (by simp [asList, o]))
      · cases e; exact .inr (.inr ⟨_, by simp [asDict, o], rfl⟩)
section
variable {X : Cx} {M : Nm}
theorem bi_len : CallR X (.builtin "len") (BiR X.K M .len) := by
  intro pins s σ H xs us Q I r h
  obtain ⟨Z, ρ, st, vs, rv, rh, rb, e, q⟩ := h
  match vs, rb, e with
  | v :: w :: t, _, e => exact absurd e (by cases v <;> simp [biOp])
  | [v], rb, e =>
    obtain ⟨x, rfl, rx⟩ := rb.one
    have seq : ∀ {a : Addr} {ys : List V}, (SqL X.K H a ys ∨ SqT X.K H a ys) → x = .ref a → rv = (false, .int ys.length) → wpAny (model X.prog X.w) X.A (call (.builtin "len") us) (EP X pins σ Q) X.xe s := fun {a ys} hs ex er => by
      subst ex er
      exact call_len_seq pins s σ H _ us Q I r ⟨a, ys, rfl, hs, q.int rh⟩
    have lst : ∀ {ws : List Val}, asList st v = some ws → rv = (false, .int ws.length) → wpAny (model X.prog X.w) X.A (call (.builtin "len") us) (EP X pins σ Q) X.xe s := fun {ws} h er => by
      obtain ⟨a, ys, ex, hs, ry, _⟩ := rx.list rh h
      exact seq (.inl (.inl (.inl hs))) ex (by rw [er, ry.length])
    have dct : ∀ {ws : List (Val × Val)}, asDict st v = some ws → rv = (false, .int ws.length) → wpAny (model X.prog X.w) X.A (call (.builtin "len") us) (EP X pins σ Q) X.xe s := fun {ws} h er => by
      obtain ⟨a, ys, ex, hs, ry, _⟩ := rx.dict rh h
      subst ex er
      obtain ⟨u, rfl, ru⟩ := vals1 r
      cases ru
      refine d_len I hs fun t s' I' => ⟨.int ys.length, H, I', ⟨t, rfl⟩, ?_⟩
      rw [ry.length]; exact q.int rh
    have gen : (match asList st v with | some xs => some (false, Val.int xs.length) | none => (asDict st v).map fun kvs => (false, Val.int kvs.length)) = some rv → wpAny (model X.prog X.w) X.A (call (.builtin "len") us) (EP X pins σ Q) X.xe s := fun e => by
      cases c : asList st v with
      | some ws => rw [c] at e; cases e; exact lst c rfl
      | none =>
        rw [c] at e
        obtain ⟨ds, c2, e2⟩ := Option.map_eq_some_iff.mp e
        exact dct c2 e2.symm
    cases v with
    | tup ws =>
      cases e
      obtain ⟨a, ys, ex, hs, ry, _⟩ := rx.tup rh
      exact seq (.inr hs) ex (by rw [ry.length])
    | str t =>
      cases e
      obtain ⟨ex, ok⟩ := rx.str
      subst ex
      refine call_len_str pins s σ H _ us Q I r ⟨sv t, rfl, ?_, ?_⟩
      · rw [sv_len]; exact Nat.le_trans (snOk_len ok) maxLen_line
      · rw [sv_len]; exact q.int rh
    | non => exact gen e
    | bl _ => exact gen e
    | int _ => exact gen e
    | lst _ => exact gen e
    | dct _ => exact gen e
    | ref _ => exact gen e
    | scr _ => exact gen e
theorem bi_all (hc : X.calm = true) : CallR X (.builtin "all") (BiR X.K M .all) := by
  intro pins s σ H xs us Q I r h
  obtain ⟨Z, ρ, st, vs, rv, rh, rb, e, q⟩ := h
  match vs, rb, e with
  | v :: w :: t, _, e => exact absurd e (by cases v <;> simp [biOp])
  | [v], rb, e =>
    obtain ⟨x, rfl, rx⟩ := rb.one
    have e' : ((asList st v).bind fun xs => (allBl xs).map fun b => ((false, Val.bl b) : Rv)) = some rv := by cases v <;> exact e
    cases c : asList st v with
    | none => rw [c] at e'; cases e'
    | some ws =>
      rw [c] at e'
      obtain ⟨b, c2, rfl⟩ := Option.map_eq_some_iff.mp e'
      obtain ⟨a, ys, rfl, hs, ry, _⟩ := rx.list rh c
      obtain ⟨bs, rfl, rfl⟩ := ry.bls c2
      exact cr_all hc pins s σ H _ us Q I r ⟨a, bs, rfl, .inl (.inl hs), q.bl rh⟩
theorem bi_list (hc : X.calm = true) : CallR X (.type "list") (BiR X.K M .list) := by
  intro pins s σ H xs us Q I r h
  obtain ⟨Z, ρ, st, vs, rv, rh, rb, e, q⟩ := h
  match vs, rb, e with
  | v :: w :: t, _, e => exact absurd e (by cases v <;> simp [biOp])
  | [v], rb, e =>
    obtain ⟨x, rfl, rx⟩ := rb.one
    have e' : ((itemsOf st v).map fun xs => ((true, Val.lst xs) : Rv)) = some rv := by cases v <;> exact e
    obtain ⟨ws, c, rfl⟩ := Option.map_eq_some_iff.mp e'
    rcases items_cases c with rfl | c | ⟨ds, c', rfl⟩
    · obtain ⟨a, ys, rfl, hs, ry, l⟩ := rx.tup rh
      exact call_list_of pins s σ H _ us Q I r ⟨a, ys, rfl, .inr hs, fun p n => q.lstN rh ry l n⟩
    · obtain ⟨a, ys, rfl, hs, ry, l⟩ := rx.list rh c
      exact call_list_of pins s σ H _ us Q I r ⟨a, ys, rfl, .inl (.inl (.inl hs)), fun p n => q.lstN rh ry l n⟩
    · obtain ⟨a, ys, rfl, hs, ry, l⟩ := rx.dict rh c'
      exact call_listD hc pins s σ H _ us Q I r ⟨a, ys, rfl, hs, fun p n => q.lstN rh ry.keys (by rw [List.length_map]; exact l) n⟩
theorem bi_tuple : CallR X (.type "tuple") (BiR X.K M .tuple) := by
  intro pins s σ H xs us Q I r h
  obtain ⟨Z, ρ, st, vs, rv, rh, rb, e, q⟩ := h
  match vs, rb, e with
  | v :: w :: t, _, e => exact absurd e (by cases v <;> simp [biOp])
  | [v], rb, e =>
    obtain ⟨x, rfl, rx⟩ := rb.one
    have lst : ((asList st v).map fun xs => ((false, Val.tup xs) : Rv)) = some rv → wpAny (model X.prog X.w) X.A (call (.type "tuple") us) (EP X pins σ Q) X.xe s := fun e => by
      obtain ⟨ws, c, rfl⟩ := Option.map_eq_some_iff.mp e
      obtain ⟨a, ys, rfl, hs, ry, l⟩ := rx.list rh c
      exact call_tuple_of pins s σ H _ us Q I r ⟨a, ys, rfl, .inl ⟨.inl (.inl hs), fun p n => q.tupN rh ry l n⟩⟩
    cases v with
    | tup ws =>
      cases e
      have rx0 := rx
      obtain ⟨a, ys, rfl, hs, ry, l⟩ := rx.tup rh
      rcases rx0 with rx0 | ⟨_, _, _, _, f⟩
      · exact call_tuple_of pins s σ H _ us Q I r ⟨a, ys, rfl, .inr ⟨hs, q.val rh rx0⟩⟩
      · exact f.elim
    | non => exact lst e
    | bl _ => exact lst e
    | int _ => exact lst e
    | str _ => exact lst e
    | lst _ => exact lst e
    | dct _ => exact lst e
    | ref _ => exact lst e
    | scr _ => exact lst e
theorem bi_abs : CallR X (.builtin "abs") (BiR X.K M .abs) := by
  intro pins s σ H xs us Q I r h
  obtain ⟨Z, ρ, st, vs, rv, rh, rb, e, q⟩ := h
  match vs, rb, e with
  | v :: w :: t, _, e => exact absurd e (by cases v <;> simp [biOp])
  | [v], rb, e =>
    obtain ⟨x, rfl, rx⟩ := rb.one
    cases v <;> first | (cases e; done) | skip
    cases e
    rw [rx.int] at r
    exact call_abs pins s σ H _ us Q I r ⟨_, rfl, q.int rh⟩
theorem bi_int : CallR X (.type "int") (BiR X.K M .int) := by
  intro pins s σ H xs us Q I r h
  obtain ⟨Z, ρ, st, vs, rv, rh, rb, e, q⟩ := h
  match vs, rb, e with
  | v :: w :: t, _, e => exact absurd e (by cases v <;> simp [biOp])
  | [v], rb, e =>
    obtain ⟨x, rfl, rx⟩ := rb.one
    cases v <;> first | (cases e; done) | skip
    · cases e
      rw [rx.bl] at r
      exact call_int1 pins s σ H _ us Q I r (.inr ⟨_, rfl, q.int rh⟩)
    · cases e
      rw [rx.int] at r
      exact call_int1 pins s σ H _ us Q I r (.inl ⟨_, rfl, q.int rh⟩)
/-! ### max, min -/
theorem RVs.ints : ∀ {K : PySem.W.Frag} {Z : Hp} {ρ : List Addr} {xs : List V} {vs : List Val} {m : Int}, RVs K Z ρ xs vs → maxI vs = some m → ∃ ns : List Int, xs = ns.map V.int ∧ 0 < ns.length ∧ m ∈ ns ∧ ∀ y ∈ ns, y ≤ m
  | _, _, _, _, _, _, .nil, e => by cases e
  | _, _, _, _, _, _, .cons h .nil, e => by
    cases h <;> first | (cases e; done) | skip
    cases e
    exact ⟨[_], rfl, by simp, by simp, fun y hy => by simp at hy; omega⟩
  | _, _, _, _, _, m, .cons h (.cons h2 r), e => by
    cases h <;> first | (cases e; done) | skip
    rename_i i
    obtain ⟨j, e1, e2⟩ := Option.map_eq_some_iff.mp e
    obtain ⟨ns, e3, l, mem, all⟩ := RVs.ints (.cons h2 r) e1
    refine ⟨i :: ns, by rw [e3]; rfl, by simp, ?_, fun y hy => ?_⟩
    · split at e2 <;> (subst e2; simp [mem])
    · rcases List.mem_cons.mp hy with z | z
      · split at e2 <;> omega
      · have := all y z
        split at e2 <;> omega
theorem RVs.intsMin : ∀ {K : PySem.W.Frag} {Z : Hp} {ρ : List Addr} {xs : List V} {vs : List Val} {m : Int}, RVs K Z ρ xs vs → minI vs = some m → ∃ ns : List Int, xs = ns.map V.int ∧ 0 < ns.length ∧ m ∈ ns ∧ ∀ y ∈ ns, m ≤ y
  | _, _, _, _, _, _, .nil, e => by cases e
  | _, _, _, _, _, _, .cons h .nil, e => by
    cases h <;> first | (cases e; done) | skip
    cases e
    exact ⟨[_], rfl, by simp, by simp, fun y hy => by simp at hy; omega⟩
  | _, _, _, _, _, m, .cons h (.cons h2 r), e => by
    cases h <;> first | (cases e; done) | skip
    rename_i i
    obtain ⟨j, e1, e2⟩ := Option.map_eq_some_iff.mp e
    obtain ⟨ns, e3, l, mem, all⟩ := RVs.intsMin (.cons h2 r) e1
    refine ⟨i :: ns, by rw [e3]; rfl, by simp, ?_, fun y hy => ?_⟩
    · split at e2 <;> (subst e2; simp [mem])
    · rcases List.mem_cons.mp hy with z | z
      · split at e2 <;> omega
      · have := all y z
        split at e2 <;> omega
theorem bi_max (hc : X.calm = true) : CallR X (.builtin "max") (BiR X.K M .max) := by
  intro pins s σ H xs us Q I r h
  obtain ⟨Z, ρ, st, vs, rv, rh, rb, e, q⟩ := h
  match vs, rb, e with
  | [], _, e => cases e
  | v :: w :: u :: t, _, e => exact absurd e (by cases v <;> cases w <;> simp [biOp])
  | [v, w], rb, e =>
    obtain ⟨x, y, rfl, rx, ry⟩ := rb.two
    cases v <;> cases w <;> first | (cases e; done) | skip
    cases e
    rw [rx.int, ry.int] at r
    exact call_max2 hc pins s σ H _ us Q I r ⟨_, _, rfl, q.int rh⟩
  | [v], rb, e =>
    obtain ⟨x, rfl, rx⟩ := rb.one
    have e' : ((asList st v).bind fun xs => (maxI xs).map fun i => ((false, Val.int i) : Rv)) = some rv := by cases v <;> exact e
    cases c : asList st v with
    | none => rw [c] at e'; cases e'
    | some ws =>
      rw [c] at e'
      obtain ⟨b, c2, rfl⟩ := Option.map_eq_some_iff.mp e'
      obtain ⟨a, ys, rfl, hs, ry, _⟩ := rx.list rh c
      obtain ⟨ns, rfl, l, mem, all⟩ := ry.ints c2
      refine cr_max hc pins s σ H _ us Q I r ⟨a, ns, rfl, .inl (.inl hs), l, fun m h1 h2 => ?_⟩
      have : m = b := Int.le_antisymm (all m h1) (h2 b mem)
      rw [this]; exact q.int rh
theorem bi_min (hc : X.calm = true) : CallR X (.builtin "min") (BiR X.K M .min) := by
  intro pins s σ H xs us Q I r h
  obtain ⟨Z, ρ, st, vs, rv, rh, rb, e, q⟩ := h
  match vs, rb, e with
  | [], _, e => cases e
  | v :: w :: u :: t, _, e => exact absurd e (by cases v <;> cases w <;> simp [biOp])
  | [v, w], rb, e =>
    obtain ⟨x, y, rfl, rx, ry⟩ := rb.two
    cases v <;> cases w <;> first | (cases e; done) | skip
    cases e
    rw [rx.int, ry.int] at r
    exact call_min2 hc pins s σ H _ us Q I r ⟨_, _, rfl, q.int rh⟩
  | [v], rb, e =>
    obtain ⟨x, rfl, rx⟩ := rb.one
    have e' : ((asList st v).bind fun xs => (minI xs).map fun i => ((false, Val.int i) : Rv)) = some rv := by cases v <;> exact e
    cases c : asList st v with
    | none => rw [c] at e'; cases e'
    | some ws =>
      rw [c] at e'
      obtain ⟨b, c2, rfl⟩ := Option.map_eq_some_iff.mp e'
      obtain ⟨a, ys, rfl, hs, ry, _⟩ := rx.list rh c
      obtain ⟨ns, rfl, l, mem, all⟩ := ry.intsMin c2
      refine cr_min hc pins s σ H _ us Q I r ⟨a, ns, rfl, .inl (.inl hs), l, fun m h1 h2 => ?_⟩
      have : m = b := Int.le_antisymm (h2 b mem) (all m h1)
      rw [this]; exact q.int rh
variable {W : WX} {x y z : Expr} {xs : List Expr} {pos p : Pos} {fl : Env → Store → Res (List Val)} {n : Str} {b : Bi} {id : String}
theorem t_bi {σ : L2.St} {H : Hp} {Q : VK} (q : TR X.K M W (fun env st => (fl env st).bind fun vs st => Res.of (biOp b st vs) st) σ H Q) : TBs X.K M W fl σ H fun vs H1 => BiR X.K M b vs H1 Q := by
  obtain ⟨Hb, Z, ρ, env, st, rh, re, q⟩ := q
  refine ⟨Hb, Z, ρ, env, st, rh, re, q.bind.mono fun vs st1 q1 ws H1 Z1 ρ1 a1 rh1 r1 => ?_⟩
  obtain ⟨rv, e, k⟩ := q1.of
  exact ⟨Z1, ρ1, st1, vs, rv, rh1, r1, e, k.adv a1⟩
theorem c_biB (hc : CallR X (.builtin id) (BiR X.K M b)) (hg : Gl X n) (hm : X.mg n = none) (hv : bootBuiltins n = some (.builtin id)) (hn : n ≠ "__name__") (hdb : (n == ("__debug__" : Str)) = false)
    (ns : noStar x = true) (ns2 : xs.all noStar = true) (ha : PA X (x :: xs) (TBs X.K M W fl)) : PE X (.Call (.Name n p) (x :: xs) [] pos) (TR X.K M W fun env st => (fl env st).bind fun vs st => Res.of (biOp b st vs) st) :=
  (pe_callB hc hg hm hv ha hn hdb (starEach_no ns) (noStar_any ns2)).weak fun σ H Q q => t_bi q
theorem c_biT (hc : CallR X (.type id) (BiR X.K M b)) (hg : Gl X n) (hm : X.mg n = none) (hv : bootBuiltins n = some (.type id)) (hn : n ≠ "__name__") (hdb : (n == ("__debug__" : Str)) = false)
    (ns : noStar x = true) (ns2 : xs.all noStar = true) (ha : PA X (x :: xs) (TBs X.K M W fl)) : PE X (.Call (.Name n p) (x :: xs) [] pos) (TR X.K M W fun env st => (fl env st).bind fun vs st => Res.of (biOp b st vs) st) :=
  (pe_callTy hc hg hm hv ha hn hdb (starEach_no ns) (noStar_any ns2)).weak fun σ H Q q => t_bi q
end
end Lk
set_option Elab.async false
set_option linter.all false
set_option maxRecDepth 100000
set_option autoImplicit false
set_option maxHeartbeats 1000000
/-! LkE: what loops and comprehensions walk. -/
namespace Lk
open PySem PySem.Spec L2 PyProof.Rows

/-- which states may come while the walk goes on -/
abbrev OkP := Hp → Hp → List Addr → Prop
/-- J yields vs, one after the other, in whatever state of that kind -/
structure Wk (K : PySem.W.Frag) (M : Nm) (Ok : OkP) (J : It) (vs : List Val) : Prop where
  len : vs.length ≤ maxLen
  go : ∀ i H1 Z1 ρ1 st1, Ok H1 Z1 ρ1 → RH K M H1 Z1 ρ1 st1 → i < vs.length → J.go i H1
  stop : ∀ i H1 Z1 ρ1 st1, Ok H1 Z1 ρ1 → RH K M H1 Z1 ρ1 st1 → vs.length ≤ i → J.stop i H1
  yld : ∀ i v x H1 H2 Z1 ρ1 st1, Ok H1 Z1 ρ1 → RH K M H1 Z1 ρ1 st1 → vs[i]? = some v → J.yld i H1 x H2 → ∃ Z2, Adv H1 Z1 ρ1 H2 Z2 ρ1 ∧ RH K M H2 Z2 ρ1 st1 ∧ RV K Z2 ρ1 x v
def okS (Z : Hp) (ρ : List Addr) : OkP := fun _ Z1 ρ1 => ZLe Z Z1 ∧ ρ <+: ρ1
def okA (H Z : Hp) (ρ : List Addr) : OkP := fun H1 Z1 ρ1 => Adv H Z ρ H1 Z1 ρ1
/-- for statements: the values stand in Z -/
def WIs (K : PySem.W.Frag) (M : Nm) (W : WX) (f : Env → Store → Res (List Val)) : TI := fun σ H R => ∃ Hb Z ρ env st, RH K M H Z ρ st ∧ RE K Hb H Z ρ σ env ∧ After K M H Z ρ (fun c d H' => W c d σ H') (f env st) fun vs st' =>
  ∀ J H' Z' ρ', Adv H Z ρ H' Z' ρ' → RH K M H' Z' ρ' st' → Wk K M (okS Z' ρ') J vs → R J H'
/-- for comprehensions -/
def WIc (K : PySem.W.Frag) (M : Nm) (W : WX) (f : Env → Store → Res (List Val)) : TI := fun σ H R => ∃ Hb Z ρ env st, RH K M H Z ρ st ∧ RE K Hb H Z ρ σ env ∧ After K M H Z ρ (fun c d H' => W c d σ H') (f env st) fun vs st' =>
  ∀ J H' Z' ρ', Adv H Z ρ H' Z' ρ' → RH K M H' Z' ρ' st' → Wk K M (okA H' Z' ρ') J vs → R J H'
theorem _root_.L2.PI.weak {X : Cx} {tg e : Expr} {t t' : TI} (h : PI X tg e t) (w : ∀ σ H R, t' σ H R → t σ H R) : PI X tg e t' := ⟨fun pins s σ H R I q => h.run pins s σ H R I (w σ H R q)⟩

section
variable {X : Cx} {M : Nm} {tg : Expr} {pins : List (Addr × Obj)} {σ : L2.St} {H Z : Hp} {ρ : List Addr} {st : Store} {s : Shared} {R : It → Hp → Prop} {E : Value → Shared → Prop} {Ok : OkP}
theorem get_lt {α : Type} {xs : List α} {i : Nat} {v : α} (h : xs[i]? = some v) : i < xs.length := (List.getElem?_eq_some_iff.mp h).1
theorem wk_list {a : Addr} {xs : List V} {vs : List Val} (len : vs.length ≤ maxLen) (hk : ∀ H1 Z1 ρ1 st1, Ok H1 Z1 ρ1 → RH X.K M H1 Z1 ρ1 st1 → SqL X.K H1 a xs ∧ RVs X.K Z1 ρ1 xs vs) : Wk X.K M Ok (Itl X.K a) vs where
  len := len
  go := fun i H1 Z1 ρ1 st1 ok rh l => by
    obtain ⟨h1, h2⟩ := hk H1 Z1 ρ1 st1 ok rh
    exact ⟨xs, xs[i]'(by rw [h2.length]; exact l), h1, List.getElem?_eq_getElem _⟩
  stop := fun i H1 Z1 ρ1 st1 ok rh l => by
    obtain ⟨h1, h2⟩ := hk H1 Z1 ρ1 st1 ok rh
    exact ⟨xs, h1, by rw [h2.length]; exact l⟩
  yld := fun i v x H1 H2 Z1 ρ1 st1 ok rh e y => by
    obtain ⟨h1, h2⟩ := hk H1 Z1 ρ1 st1 ok rh
    obtain ⟨rfl, y⟩ := y
    obtain ⟨x', g1, g2⟩ := h2.get e
    rw [y xs h1] at g1
    cases g1
    exact ⟨Z1, Adv.refl, rh, g2⟩
theorem wk_tup {a : Addr} {xs : List V} {vs : List Val} (len : vs.length ≤ maxLen) (hk : ∀ H1 Z1 ρ1 st1, Ok H1 Z1 ρ1 → RH X.K M H1 Z1 ρ1 st1 → SqT X.K H1 a xs ∧ RVs X.K Z1 ρ1 xs vs) : Wk X.K M Ok (Itt X.K a) vs where
  len := len
  go := fun i H1 Z1 ρ1 st1 ok rh l => by
    obtain ⟨h1, h2⟩ := hk H1 Z1 ρ1 st1 ok rh
    exact ⟨xs, xs[i]'(by rw [h2.length]; exact l), h1, List.getElem?_eq_getElem _⟩
  stop := fun i H1 Z1 ρ1 st1 ok rh l => by
    obtain ⟨h1, h2⟩ := hk H1 Z1 ρ1 st1 ok rh
    exact ⟨xs, h1, by rw [h2.length]; exact l⟩
  yld := fun i v x H1 H2 Z1 ρ1 st1 ok rh e y => by
    obtain ⟨h1, h2⟩ := hk H1 Z1 ρ1 st1 ok rh
    obtain ⟨rfl, y⟩ := y
    obtain ⟨x', g1, g2⟩ := h2.get e
    rw [y xs h1] at g1
    cases g1
    exact ⟨Z1, Adv.refl, rh, g2⟩
theorem wk_str {t : Sn} (ok0 : snOk t = true) : Wk X.K M Ok (Its (sv t)) (t.map fun c => .str [c]) where
  len := by rw [List.length_map]; exact snOk_len ok0
  go := fun i H1 Z1 ρ1 st1 ok rh l => by
    show i < (sv t).cps.size
    rw [List.length_map] at l
    have := sv_len t
    unfold Str.length at this
    omega
  stop := fun i H1 Z1 ρ1 st1 ok rh l => by
    show (sv t).cps.size ≤ i
    rw [List.length_map] at l
    have := sv_len t
    unfold Str.length at this
    omega
  yld := fun i v x H1 H2 Z1 ρ1 st1 ok rh e y => by
    obtain ⟨rfl, c, e2, rfl⟩ := y
    have e3 : t[i]? = some c := by simpa [sv] using e2
    rw [List.getElem?_map, e3] at e
    cases e
    refine ⟨Z1, Adv.refl, rh, .str [c] (snOk_of (by show 1 ≤ maxLen; decide) fun k hk => ?_)⟩
    have ek : k = c := by simpa using hk
    rw [ek]; exact snOk_cps ok0 c (List.mem_of_getElem? e3)
theorem rvs_ints {K : PySem.W.Frag} : ∀ (ns : List Int), RVs K Z ρ (ns.map V.int) (ns.map Val.int)
  | [] => .nil
  | n :: ns => .cons (.int n) (rvs_ints ns)
/-- pyIter of a plain value -/
theorem iter_of {x : V} {u : Value} {v : Val} {vs : List Val} (I : L2.Inv X pins σ H s) (rx : RelV x u) (rh : RH X.K M H Z ρ st) (r : RB X.K H Z ρ x v) (e : walkOf v = some vs) (nd : ∀ ds, v ≠ .dct ds)
    (hz : ∀ H1 Z1 ρ1, Ok H1 Z1 ρ1 → ZLe Z Z1 ∧ ρ <+: ρ1) (ho : ∀ a o H1 Z1 ρ1, Ok H1 Z1 ρ1 → H a = some o → Z a = none → a ∉ ρ → x = .ref a → ¬ RV X.K Z ρ x v → H1 a = some o)
    (q : ∀ J, Wk X.K M Ok J vs → R J H) : wpAny (model X.prog X.w) X.A (pyIter u) (PIE X pins σ tg R) E s := by
  have fp : ∀ b ∈ [s.heap.objs.size], FpOk X pins H b := fun b hb => by
    have e : b = s.heap.objs.size := by simpa using hb
    subst e
    exact I.fpOk (Nat.le_refl _) (I.hok.fresh (Nat.le_refl _))
  have lst : ∀ {a : Addr} {xs : List V}, x = .ref a → SqL X.K H a xs → Wk X.K M Ok (Itl X.K a) vs → wpAny (model X.prog X.w) X.A (pyIter u) (PIE X pins σ tg R) E s := fun {a xs} ex hq w => by
    subst ex
    cases rx
    obtain ⟨its, rv, p, _⟩ := I.list hq
    refine wpAny_pyIter_list p.isList ⟨s.heap.objs.size, _, _, _, H, rfl, I.kept (t' := s.toks) fun b o e => Heap.get?_push_of_some _ e, turn_list a _, ⟨_, Heap.get?_push_size _ rfl, rfl, rfl⟩, fp, q _ w⟩
  cases v with
  | tup ws =>
    cases e
    rcases r with r | ⟨_, _, _, _, f⟩
    · cases r with
      | @tup a0 xs0 _ hs rs l =>
        cases rx
        have hq := rh.sqT hs
        obtain ⟨its, rv, p, _⟩ := I.tuple hq
        refine wpAny_pyIter_tuple (show s.heap.IsTuple _ its.toArray from p) ⟨s.heap.objs.size, _, _, _, H, rfl, I.kept (t' := s.toks) fun b o e => Heap.get?_push_of_some _ e, turn_tuple _ _, ⟨_, Heap.get?_push_size _ rfl, rfl, rfl⟩, fp, q _ (wk_tup (xs := xs0) l fun H1 Z1 ρ1 st1 ok rh1 => ?_)⟩
        obtain ⟨z1, z2⟩ := hz _ _ _ ok
        exact ⟨rh1.sqT (sqT_le z1 hs), rs.mono z1 z2⟩
    · exact f.elim
  | str t =>
    cases e
    obtain ⟨ex, ok0⟩ := r.str
    subst ex
    obtain ⟨tk, rfl⟩ := rx
    cases ha : (sv t).cps.all (· < 128)
    · exact wpAny_pyIter_wide ha (pi_one (tk := s.toks) I _ (turn_str _ (sv t) tk "str_iterator" (.inr rfl)) ⟨_, Heap.get?_push_size _ rfl, rfl, rfl⟩ (q _ (wk_str ok0)))
    · exact wpAny_pyIter_ascii ha (pi_one (tk := s.toks) I _ (turn_str _ (sv t) tk "str_ascii_iterator" (.inl rfl)) ⟨_, Heap.get?_push_size _ rfl, rfl, rfl⟩ (q _ (wk_str ok0)))
  | lst ws =>
    cases e
    by_cases c : RV X.K Z ρ x (.lst vs)
    · cases c with
      | @lst a0 xs0 _ hs rs l =>
        refine lst rfl (.inl (.inl (rh.zin _ _ hs))) (wk_list (xs := xs0) l fun H1 Z1 ρ1 st1 ok rh1 => ?_)
        obtain ⟨z1, z2⟩ := hz _ _ _ ok
        exact ⟨.inl (.inl (rh1.zin _ _ (z1.ls _ _ hs))), rs.mono z1 z2⟩
    · rcases r with r | ⟨a, ex, n1, n2, xs, hH, rs, l⟩
      · exact absurd r c
      · refine lst ex (.inl (.inl hH)) (wk_list (xs := xs) l fun H1 Z1 ρ1 st1 ok rh1 => ?_)
        obtain ⟨z1, z2⟩ := hz _ _ _ ok
        exact ⟨.inl (.inl (ho a _ H1 Z1 ρ1 ok hH n1 n2 ex c)), rs.mono z1 z2⟩
  | scr ns =>
    cases e
    rcases r with r | ⟨_, _, _, _, f⟩
    · cases r with
      | scr hs l =>
        refine lst rfl (rh.sqL hs) (wk_list (xs := ns.map V.int) (by rw [List.length_map]; exact l) fun H1 Z1 ρ1 st1 ok rh1 => ?_)
        obtain ⟨z1, z2⟩ := hz _ _ _ ok
        exact ⟨rh1.sqL (sqL_le z1 hs), rvs_ints ns⟩
    · exact f.elim
  | dct ds => exact absurd rfl (nd ds)
  | non => cases e
  | bl _ => cases e
  | int _ => cases e
  | ref _ => cases e
variable {W : WX} {x y z : Expr} {pos p : Pos} {fa fb : Env → Store → Res Val} {fr : Env → Store → Res Rv} {fl : Env → Store → Res (List Val)}
/-- what a loop walks, but no dict -/
def walkNd (v : Val) : Option (List Val) := match v with
  | .dct _ => none
  | v => walkOf v
theorem walkNd_of {v : Val} {vs : List Val} (e : walkNd v = some vs) : walkOf v = some vs ∧ ∀ ds, v ≠ .dct ds := by
  cases v <;> first | (cases e; done) | exact ⟨e, fun _ h => nomatch h⟩
theorem i_exS (h : PE X x (TR X.K M W fr)) : PI X tg x (WIs X.K M W fun env st => (fr env st).bind fun v st => Res.of (walkNd v.2) st) := by
  refine ⟨fun pins s σ H R I ⟨Hb, Z, ρ, env, st, rh, re, q⟩ => ?_⟩
  refine thn ((pe_frz h).run pins s σ H (fun w H1 => ∃ Z1 ρ1 st1 v vs, RH X.K M H1 Z1 ρ1 st1 ∧ RV X.K Z1 ρ1 w v ∧ walkNd v = some vs ∧ ∀ J, Wk X.K M (okS Z1 ρ1) J vs → R J H1) I ⟨Hb, Z, ρ, env, st, rh, re, q.bind.mono fun rv st1 q1 w H1 Z1 ρ1 a1 rh1 r1 => ?_⟩) fun u s1 ⟨w, H1, I1, rw', Z1, ρ1, st1, v, vs, rh1, r1, e, k⟩ => ?_
  · obtain ⟨vs, e, k⟩ := q1.of
    exact ⟨Z1, ρ1, st1, rv.2, vs, rh1, r1, e, fun J w => k J H1 Z1 ρ1 a1 rh1 w⟩
  · obtain ⟨e1, e2⟩ := walkNd_of e
    exact iter_of I1 rw' rh1 (.inl r1) e1 e2 (fun _ _ _ ok => ok) (fun _ _ _ _ _ _ _ _ _ _ hn => absurd r1 hn) k
theorem i_exC (h : PE X x (TB X.K M W fa)) : PI X tg x (WIc X.K M W fun env st => (fa env st).bind fun v st => Res.of (walkNd v) st) := by
  refine ⟨fun pins s σ H R I ⟨Hb, Z, ρ, env, st, rh, re, q⟩ => ?_⟩
  refine thn (h.run pins s σ H (fun w H1 => ∃ Z1 ρ1 st1 v vs, RH X.K M H1 Z1 ρ1 st1 ∧ RB X.K H1 Z1 ρ1 w v ∧ walkNd v = some vs ∧ ∀ J, Wk X.K M (okA H1 Z1 ρ1) J vs → R J H1) I ⟨Hb, Z, ρ, env, st, rh, re, q.bind.mono fun rv st1 q1 w H1 Z1 ρ1 a1 rh1 r1 => ?_⟩) fun u s1 ⟨w, H1, I1, rw', Z1, ρ1, st1, v, vs, rh1, r1, e, k⟩ => ?_
  · obtain ⟨vs, e, k⟩ := q1.of
    exact ⟨Z1, ρ1, st1, rv, vs, rh1, r1, e, fun J w => k J H1 Z1 ρ1 a1 rh1 w⟩
  · obtain ⟨e1, e2⟩ := walkNd_of e
    exact iter_of I1 rw' rh1 r1 e1 e2 (fun _ _ _ ok => ⟨ok.z, ok.r⟩) (fun a o _ _ _ ok h1 h2 h3 _ _ => (ok.fr a o h1 h2 h3).1) k

/-! ### ranges -/
theorem rangeV_get : ∀ (n : Nat) (lo : Int) (i : Nat), i < n → (rangeV lo n)[i]? = some (.int (lo + i))
  | 0, _, _, h => absurd h (Nat.not_lt_zero _)
  | n + 1, lo, 0, _ => by simp [rangeV]
  | n + 1, lo, i + 1, h => by
    have := rangeV_get n (lo + 1) i (by omega)
    simp only [rangeV, List.getElem?_cons_succ]
    rw [this]
    congr 2
    omega
theorem rangeV_len : ∀ (n : Nat) (lo : Int), (rangeV lo n).length = n
  | 0, _ => rfl
  | n + 1, lo => by simp [rangeV, rangeV_len n]
theorem wk_range {lo : Int} {n : Nat} (hn : n ≤ 100000) : Wk X.K M Ok (Itr lo n) (rangeV lo n) where
  len := by rw [rangeV_len]; exact hn
  go := fun i H1 Z1 ρ1 st1 ok rh l => by rw [rangeV_len] at l; exact l
  stop := fun i H1 Z1 ρ1 st1 ok rh l => by rw [rangeV_len] at l; exact l
  yld := fun i v x H1 H2 Z1 ρ1 st1 ok rh e y => by
    obtain ⟨rfl, rfl⟩ := y
    have l := get_lt e
    rw [rangeV_len] at l
    rw [rangeV_get n lo i l] at e
    cases e
    exact ⟨Z1, Adv.refl, rh, .int _⟩
theorem rng1_eq {vs : List Val} {ws : List Val} (e : itOp .rng1 st vs = some ws) : ∃ n : Int, vs = [.int n] ∧ (-100000 ≤ n ∧ n ≤ 100000) ∧ ws = rangeV 0 n.toNat := by
  match vs, e with
  | [], e => cases e
  | [v], e =>
    cases v <;> first | (cases e; done) | skip
    simp only [itOp] at e
    split at e
    · rename_i c; cases e; exact ⟨_, rfl, by simpa using c, rfl⟩
    · cases e
  | v :: w :: t, e => exact absurd e (by cases v <;> simp [itOp])
theorem i_rng1 {Wi : PySem.W.Frag → Nm → WX → (Env → Store → Res (List Val)) → TI} (hw : Wi = WIs ∨ Wi = WIc) (hg : Gl X "range") (hm : X.mg "range" = none) (ns : noStar x = true) (ha : PA X [x] (TBs X.K M W fl)) :
    PI X tg (.Call (.Name "range" p) [x] [] pos) (Wi X.K M W fun env st => (fl env st).bind fun vs st => Res.of (itOp .rng1 st vs) st) := by
  refine (pi_range1 hg hm ha (starEach_no ns)).weak fun σ H R q => ?_
  have mk : ∀ {Hb Z : Hp} {ρ : List Addr} {env : Env} {st : Store} {OkF : Hp → Hp → List Addr → OkP}, RH X.K M H Z ρ st → RE X.K Hb H Z ρ σ env → After X.K M H Z ρ (fun c d H' => W c d σ H') ((fl env st).bind fun vs st => Res.of (itOp .rng1 st vs) st)
      (fun vs st' => ∀ J H' Z' ρ', Adv H Z ρ H' Z' ρ' → RH X.K M H' Z' ρ' st' → Wk X.K M (OkF H' Z' ρ') J vs → R J H') → iRng1 (TBs X.K M W fl) σ H R := fun {Hb Z ρ env st OkF} rh re q => by
    refine ⟨Hb, Z, ρ, env, st, rh, re, q.bind.mono fun vs st1 q1 ws H1 Z1 ρ1 a1 rh1 r1 => ?_⟩
    obtain ⟨us, e, k⟩ := q1.of
    obtain ⟨n, rfl, l, rfl⟩ := rng1_eq e
    obtain ⟨w, rfl, rw'⟩ := r1.one
    rw [rw'.int]
    exact ⟨n, rfl, by omega, by omega, k _ H1 Z1 ρ1 a1 rh1 (wk_range (by omega))⟩
  rcases hw with rfl | rfl
  · obtain ⟨Hb, Z, ρ, env, st, rh, re, q⟩ := q
    exact mk (OkF := fun _ Z ρ => okS Z ρ) rh re q
  · obtain ⟨Hb, Z, ρ, env, st, rh, re, q⟩ := q
    exact mk (OkF := fun H Z ρ => okA H Z ρ) rh re q
end
end Lk
set_option Elab.async false
set_option linter.all false
set_option maxRecDepth 100000
set_option autoImplicit false
set_option maxHeartbeats 1000000
/-! LkE2: targets; list comprehensions. -/
namespace Lk
open PySem PySem.Spec L2 PyProof.Rows

def setSs : List Nat → List V → L2.St → L2.St
  | i :: is, x :: xs, σ => setSs is xs (σ.set i (some x))
  | _, _, σ => σ
def gTs : List Nat → TGs
  | [] => gNil
  | i :: r => gCons (gName i) (gTs r)
theorem gTs_run : ∀ (is : List Nat) (xs : List V) (σ : L2.St) (H : Hp) (Q : L2.St → Hp → Prop), xs.length = is.length → Q (setSs is xs σ) H → gTs is xs σ H Q
  | [], [], _, _, _, _, q => ⟨rfl, q⟩
  | [], _ :: _, _, _, _, l, _ => by cases l
  | _ :: _, [], _, _, _, l, _ => by cases l
  | i :: is, x :: xs, σ, H, Q, l, q => ⟨x, xs, rfl, gTs_run is xs _ H Q (by simpa using l) q⟩
theorem setSs_length : ∀ (is : List Nat) (xs : List V) (σ : L2.St), (setSs is xs σ).length = σ.length
  | [], _, _ => by simp [setSs]
  | _ :: _, [], _ => by simp [setSs]
  | i :: is, x :: xs, σ => by rw [setSs, setSs_length, List.length_set]
theorem setSs_congr : ∀ (is : List Nat) (xs : List V) (σ σ' : L2.St), xs.length = is.length → σ.length = σ'.length → (∀ j : Nat, j ∉ is → σ[j]? = σ'[j]?) → setSs is xs σ = setSs is xs σ'
  | [], _, σ, σ', _, hl, h => by
    simp only [setSs]
    exact List.ext_getElem? fun j => h j (by simp)
  | _ :: _, [], _, _, l, _, _ => by cases l
  | i :: is, x :: xs, σ, σ', l, hl, h => by
    simp only [setSs]
    refine setSs_congr is xs _ _ (by simpa using l) (by simp [hl]) fun j hj => ?_
    by_cases e : i = j
    · subst e
      by_cases c : i < σ.length
      · rw [List.getElem?_set_self c, List.getElem?_set_self (by omega)]
      · rw [List.getElem?_eq_none (by simpa using c), List.getElem?_eq_none (by simp; omega)]
    · rw [List.getElem?_set_ne e, List.getElem?_set_ne e]
      exact h j (by simp only [List.mem_cons, not_or]; exact ⟨Ne.symm e, hj⟩)
theorem setSs_out : ∀ (is : List Nat) (xs : List V) (σ : L2.St) (j : Nat), j ∉ is → (setSs is xs σ)[j]? = σ[j]?
  | [], _, _, _, _ => by simp [setSs]
  | _ :: _, [], _, _, _ => by simp [setSs]
  | i :: is, x :: xs, σ, j, h => by
    simp only [List.mem_cons, not_or] at h
    rw [setSs, setSs_out is xs _ j h.2, List.getElem?_set_ne (Ne.symm h.1)]
theorem wipe_in : ∀ (vs : List Nat) (σ : L2.St) (j : Nat), j ∈ vs → j < σ.length → (wipe σ vs)[j]? = some none
  | [], _, _, h, _ => nomatch h
  | v :: vs, σ, j, h, l => by
    unfold wipe
    by_cases e : v = j
    · subst e; exact List.getElem?_set_self (by rw [wipe_length]; exact l)
    · rw [List.getElem?_set_ne e]
      exact wipe_in vs σ j ((List.mem_cons.mp h).elim (fun z => absurd z.symm e) id) l
theorem wipe_congr (vs : List Nat) (σ σ' : L2.St) (hl : σ.length = σ'.length) (h : ∀ j : Nat, j ∉ vs → σ[j]? = σ'[j]?) : wipe σ vs = wipe σ' vs := by
  refine List.ext_getElem? fun j => ?_
  by_cases c : j ∈ vs
  · by_cases l : j < σ.length
    · rw [wipe_in vs σ j c l, wipe_in vs σ' j c (by omega)]
    · rw [List.getElem?_eq_none (by rw [wipe_length]; omega), List.getElem?_eq_none (by rw [wipe_length]; omega)]
  · rw [wipe_out c, wipe_out c]; exact h j c
section
variable {K : PySem.W.Frag} {M : Nm} {Hb H Z : Hp} {ρ : List Addr} {σ : L2.St} {env env' : Env} {st : Store}
theorem RE.set (re : RE K Hb H Z ρ σ env) {i : Nat} {x : V} {v : Val} (r : RV K Z ρ x v) : RE K Hb H Z ρ (σ.set i (some x)) (env.set i (some (false, v))) := by
  refine ⟨by simp [re.len], fun j w e => ?_, fun j w e nn => ?_, fun j k a w u e1 n1 e2 n2 e3 e4 => ?_⟩
  · by_cases c : i = j
    · subst c
      have l : i < env.length := by
        have := get_lt e
        rwa [List.length_set] at this
      rw [List.getElem?_set_self l] at e
      cases e
      exact ⟨x, List.getElem?_set_self (by rw [re.len]; exact l), r⟩
    · rw [List.getElem?_set_ne c] at e
      obtain ⟨y, g1, g2⟩ := re.val j w e
      exact ⟨y, by rw [List.getElem?_set_ne c]; exact g1, g2⟩
  · by_cases c : i = j
    · subst c
      have l : i < env.length := by
        have := get_lt e
        rwa [List.length_set] at this
      rw [List.getElem?_set_self l] at e
      cases e
    · rw [List.getElem?_set_ne c] at e
      obtain ⟨y, g1, g2⟩ := re.own j w e nn
      exact ⟨y, by rw [List.getElem?_set_ne c]; exact g1, g2⟩
  · have nj : i ≠ j := fun c => by
      subst c
      have l : i < env.length := by
        have := get_lt e1
        rwa [List.length_set] at this
      rw [List.getElem?_set_self l] at e1
      cases e1
    have nk : i ≠ k := fun c => by
      subst c
      have l : i < env.length := by
        have := get_lt e2
        rwa [List.length_set] at this
      rw [List.getElem?_set_self l] at e2
      cases e2
    rw [List.getElem?_set_ne nj] at e1 e3
    rw [List.getElem?_set_ne nk] at e2 e4
    exact re.dis j k a w u e1 n1 e2 n2 e3 e4
theorem RE.sets : ∀ {is : List Nat} {xs : List V} {vs : List Val} {σ : L2.St} {env env' : Env}, RE K Hb H Z ρ σ env → RVs K Z ρ xs vs → setTs is vs env = some env' → RE K Hb H Z ρ (setSs is xs σ) env' ∧ xs.length = is.length
  | [], _, _, σ, env, env', re, .nil, e => by cases e; exact ⟨re, rfl⟩
  | [], _, _, _, _, _, _, .cons _ _, e => by cases e
  | _ :: _, _, _, _, _, _, _, .nil, e => by cases e
  | i :: is, _, _, σ, env, env', re, .cons h r, e => by
    obtain ⟨g1, g2⟩ := RE.sets (is := is) (re.set (i := i) h) r e
    exact ⟨g1, by simp [g2]⟩
end
/-- the slots of a target -/
def tgS : Tg → List Nat
  | .nm i => [i]
  | .tp is => is
def tgG (K : PySem.W.Frag) : Tg → TG
  | .nm i => gName i
  | .tp is => gTup K is.length (gTs is)
/-- a target takes a value -/
theorem tg_run {K : PySem.W.Frag} {M : Nm} {Hb H Z : Hp} {ρ : List Addr} {σ : L2.St} {env env' : Env} {st : Store} {t : Tg} {x : V} {v : Val} {Q : L2.St → Hp → Prop} (rh : RH K M H Z ρ st) (re : RE K Hb H Z ρ σ env) (r : RV K Z ρ x v)
    (e : setTg t v env = some env') (q : ∀ σ', RE K Hb H Z ρ σ' env' → (∀ j : Nat, j ∉ tgS t → σ'[j]? = σ[j]?) → σ'.length = σ.length → Q σ' H) : tgG K t x σ H Q ∧ tgG K t x (wipe σ (tgS t)) H Q := by
  cases t with
  | nm i =>
    cases e
    have q1 := q _ (re.set (i := i) r) (fun j hj => List.getElem?_set_ne (fun z => hj (by simp [tgS, z]))) (by simp)
    refine ⟨q1, ?_⟩
    show Q ((wipe σ [i]).set i (some x)) H
    have e2 : (wipe σ [i]).set i (some x) = σ.set i (some x) := by simp [wipe]
    rw [e2]; exact q1
  | tp is =>
    simp only [setTg] at e
    cases v <;> first | (cases e; done) | skip
    rename_i vs
    cases r with
    | @tup a xs _ hs rs l =>
      obtain ⟨g1, g2⟩ := re.sets rs e
      have q1 := q _ g1 (fun j hj => setSs_out is xs σ j hj) (setSs_length is xs σ)
      refine ⟨⟨a, xs, rfl, rh.sqT hs, g2, gTs_run is xs σ H Q g2 q1⟩, ⟨a, xs, rfl, rh.sqT hs, g2, gTs_run is xs _ H Q g2 ?_⟩⟩
      have e2 : setSs is xs (wipe σ is) = setSs is xs σ := setSs_congr is xs _ _ g2 (wipe_length _ _) fun j hj => wipe_out hj
      show Q (setSs is xs (wipe σ is)) H
      rw [e2]; exact q1

def W0 : WX := fun _ _ _ _ => False
section
variable {X : Cx} {M : Nm} {W : WX} {elt tg iter : Expr} {ifs : List Expr} {scope : Scope} {own : List (Str × Nat)} {pos : Pos} {t : Tg} {fi : Env → Store → Res (List Val)} {fc : Env → Store → Res Bool} {fe : Env → Store → Res Rv}
theorem After.never {α : Type} {K : PySem.W.Frag} {H Z : Hp} {ρ : List Addr} {r : Res α} {k : α → Store → Prop} {Wx : XK} (h : After K M H Z ρ Wx r k) : (∃ a s, r = .ok a s ∧ k a s) ∨ ∃ c fs s, r = .exc c fs s := by
  cases r with
  | ok a s => exact .inl ⟨a, s, rfl, h⟩
  | exc c fs s => exact .inr ⟨c, fs, s, rfl⟩
  | bad => exact h.elim
theorem bodyL_len {env : Env} {x : Val} {st st' : Store} {ys : List Val} (e : (bodyL t fc fe env x st).noX = .ok ys st') : ys.length ≤ 1 := by
  have e : bodyL t fc fe env x st = .ok ys st' := by
    cases h : bodyL t fc fe env x st <;> rw [h] at e <;> first | exact e | (cases e)
  unfold bodyL at e
  split at e
  · cases e
  · rename_i env' _
    cases h1 : fc env' st with
    | bad => rw [h1] at e; cases e
    | exc _ _ _ => rw [h1] at e; cases e
    | ok b s1 =>
      rw [h1] at e
      simp only [Res.bind_ok] at e
      split at e
      · cases h2 : fe env' s1 with
        | bad => rw [h2] at e; cases e
        | exc _ _ _ => rw [h2] at e; cases e
        | ok v s2 => rw [h2] at e; cases e; simp
      · cases e; simp
theorem RH.updO {K : PySem.W.Frag} {H Z : Hp} {ρ : List Addr} {st : Store} {a : Addr} {o : HO} (h : RH K M H Z ρ st) (nz : Z a = none) (nr : a ∉ ρ) : RH K M (upd H a o) Z ρ st := by
  refine ⟨fun b u e => ?_, h.len, h.nd, h.out, fun n b ob e1 e2 => ?_⟩
  · rw [upd_ne (fun c => by rw [c, nz] at e; cases e)]; exact h.zin b u e
  · exact (h.obj n b ob e1 e2).mono (ZLe.refl _) List.prefix_rfl (upd_ne fun c => nr (c ▸ List.mem_of_getElem? e1))
theorem t_lc {σ : L2.St} {H : Hp} {Q : VK}
    (q : TR X.K M W (fun env st => (fi env st).bind fun xs st => (lcLoop (fun x st => (bodyL t fc fe env x st).noX) xs st).bind fun ys st => .ok (true, .lst ys) st) σ H Q) :
    tLc (WIc X.K M W fi) (tgG X.K t) (TT' X.K M W0 fc) (TV X.K M W0 fe) (tgS t) σ H Q := by
  obtain ⟨Hb, Z, ρ, env, st, rh, re, q⟩ := q
  refine ⟨Hb, Z, ρ, env, st, rh, re, q.bind.mono fun xs st1 q1 J H1 Z1 ρ1 a1 rh1 wk D hD => ?_⟩
  obtain ⟨dz, dr⟩ := rh1.fresh hD
  let P : Nat → Hp → Prop := fun i H' => ∃ Z' ρ' st' acc accV, RH X.K M H' Z' ρ' st' ∧ Adv H1 Z1 ρ1 H' Z' ρ' ∧ H' D = some (.lst acc) ∧ Z' D = none ∧ D ∉ ρ' ∧ RVs X.K Z' ρ' acc accV ∧ accV.length ≤ i ∧
    After X.K M H Z ρ (fun c d H' => W c d σ H') ((lcLoop (fun x st => (bodyL t fc fe env x st).noX) (xs.drop i) st').bind fun ys st => .ok (true, Val.lst (accV ++ ys)) st) fun rv st' => Ok1 X.K M H Z ρ rv st' Q
  refine ⟨fun i m H' => m = xs.length - i ∧ i ≤ xs.length ∧ P i H', ⟨xs.length, rfl, Nat.zero_le _, ?_⟩, ?_⟩
  · obtain ⟨g1, g2⟩ := rh1.newO (o := .lst []) hD
    exact ⟨Z1, ρ1, st1, [], [], g1, g2, upd_same, dz, dr, .nil, Nat.zero_le _, q1⟩
  rintro i m H' ⟨rfl, hi, Z', ρ', st', acc, accV, rh', ad', hd, nz, nr, ra, la, k⟩
  by_cases hlt : i < xs.length
  · refine .inr ⟨wk.go i H' Z' ρ' st' ad' rh' hlt, P (i + 1), fun H'' p => ⟨xs.length - (i + 1), by omega, rfl, hlt, p⟩, fun x0 H2 y => ?_⟩
    obtain ⟨Z2, a2, rh2, r2⟩ := wk.yld i xs[i] x0 H' H2 Z' ρ' st' ad' rh' (List.getElem?_eq_getElem hlt) y
    rw [List.drop_eq_getElem_cons hlt] at k
    simp only [lcLoop] at k
    -- the turn's answer
    cases eb : (bodyL t fc fe env xs[i] st').noX with
    | bad => rw [eb] at k; exact k.elim
    | exc c fs s => cases h : bodyL t fc fe env xs[i] st' <;> rw [h] at eb <;> cases eb
    | ok ys st2 =>
      rw [eb] at k
      simp only [Res.bind_ok] at k
      have eb' : bodyL t fc fe env xs[i] st' = .ok ys st2 := by cases h : bodyL t fc fe env xs[i] st' <;> rw [h] at eb <;> first | exact eb | (cases eb)
      unfold bodyL at eb'
      cases es : setTg t xs[i] env with
      | none => rw [es] at eb'; cases eb'
      | some env' =>
        rw [es] at eb'
        simp only at eb'
        have ad2 := ad'.trans a2
        have reb : RE X.K Hb H2 Z2 ρ' σ env := re.adv (a1.trans ad2)
        refine (tg_run rh2 reb r2 es fun σ' re' ho hl => ⟨wipe_congr _ _ _ hl ho, ?_⟩).2
        cases ec : fc env' st' with
        | bad => rw [ec] at eb'; cases eb'
        | exc c fs s => rw [ec] at eb'; cases eb'
        | ok b st3 =>
          rw [ec] at eb'
          simp only [Res.bind_ok] at eb'
          refine ⟨Hb, Z2, ρ', env', st', rh2, re', ?_⟩
          rw [ec]
          intro H3 Z3 ρ3 a3 rh3
          obtain ⟨d3, z3, r3⟩ := (a2.trans a3).fr D _ hd nz nr
          have ad3 := ad2.trans a3
          cases b with
          | false =>
            simp only [Bool.false_eq_true, if_false] at eb'
            cases eb'
            refine iteF ⟨Z3, ρ3, _, acc, accV, rh3, ad3, d3, z3, r3, ra.mono (a2.trans a3).z (a2.trans a3).r, by omega, ?_⟩
            cases h2 : lcLoop (fun x st => (bodyL t fc fe env x st).noX) (List.drop (i + 1) xs) st2 with
            | bad => rw [h2] at k; exact k.elim
            | exc c fs s => rw [h2] at k; exact k
            | ok zs s5 => rw [h2] at k; simpa using k
          | true =>
            simp only [if_true] at eb'
            cases ee : fe env' st3 with
            | bad => rw [ee] at eb'; cases eb'
            | exc c fs s => rw [ee] at eb'; cases eb'
            | ok v st4 =>
              rw [ee] at eb'
              simp only [Res.bind_ok] at eb'
              cases eb'
              refine iteT ⟨Hb, Z3, ρ3, env', st3, rh3, re'.adv a3, ?_⟩
              rw [ee]
              intro y4 H4 Z4 ρ4 a4 rh4 r4
              obtain ⟨d4, z4, r4'⟩ := a4.fr D _ d3 z3 r3
              have ad4 := ad3.trans a4
              have ln : acc.length < sizeLine := by rw [ra.length]; have := wk.len; have := maxLen_line; omega
              refine ⟨acc, d4, ln, Z4, ρ4, st2, acc ++ [y4], accV ++ [v.2], rh4.updO z4 r4', ⟨ad4.z, ad4.r, fun b o e1 e2 e3 => ?_, fun b e => ?_⟩, upd_same, z4, r4', ?_, by simp; omega, ?_⟩
              · obtain ⟨g1, g2, g3⟩ := ad4.fr b o e1 e2 e3
                exact ⟨by rw [upd_ne (fun c => by rw [c, hD] at e1; cases e1)]; exact g1, g2, g3⟩
              · by_cases c : b = D
                · rw [c, upd_same]; exact fun z => nomatch z
                · rw [upd_ne c]; exact ad4.th b e
              · exact (ra.mono ((a2.trans a3).trans a4).z ((a2.trans a3).trans a4).r).append (.cons r4 .nil)
              · cases h2 : lcLoop (fun x st => (bodyL t fc fe env x st).noX) (List.drop (i + 1) xs) st2 with
                | bad => rw [h2] at k; exact k.elim
                | exc c fs s => rw [h2] at k; exact k
                | ok zs s5 => rw [h2] at k; simpa using k
  · have ei : i = xs.length := by omega
    subst ei
    refine .inl ⟨wk.stop _ H' Z' ρ' st' ad' rh' (Nat.le_refl _), ?_⟩
    rw [List.drop_length] at k
    simp only [lcLoop, Res.bind_ok, List.append_nil] at k
    have hn : H D = none := by
      cases z : H D with
      | none => rfl
      | some u => exact absurd hD (a1.th D (by rw [z]; exact fun q => nomatch q))
    exact k (.ref D) H' Z' ρ' (a1.trans ad') rh' ⟨D, rfl, hn, nz, nr, acc, hd, ra, Nat.le_trans la wk.len⟩
theorem c_lc (hc : X.calm = true) (hN : X.N.Nodup) (hi : PI X tg iter (WIc X.K M W fi)) (ok : BlkOk X.N X.env.scope scope own) (hown : own.map (·.2) = tgS t)
    (hg : ∀ (s : Shared) (H : Hp) (C : Addr) (cl : List (Str × Addr)) (fp : List Addr), PG (X.blk s H scope (compEnvC scope cl C X.env) fp) tg (tgG X.K t))
    (ht : ∀ (s : Shared) (H : Hp) (C : Addr) (cl : List (Str × Addr)) (fp : List Addr), PTs (X.blk s H scope (compEnvC scope cl C X.env) fp) ifs (TT' X.K M W0 fc))
    (he : ∀ (s : Shared) (H : Hp) (C : Addr) (cl : List (Str × Addr)) (fp : List Addr), PE (X.blk s H scope (compEnvC scope cl C X.env) fp) elt (TR X.K M W0 fe)) (hs : ∀ x, foldedSetIterable iter X.env x = pure x) :
    PE X (.ListComp elt [⟨tg, iter, ifs, 0⟩] scope pos) (TR X.K M W fun env st => (fi env st).bind fun xs st => (lcLoop (fun x st => (bodyL t fc fe env x st).noX) xs st).bind fun ys st => .ok (true, .lst ys) st) :=
  (pe_lc (own := own) hc hN hi ok hg ht (fun s H C cl fp => pe_frz (he s H C cl fp)) hs).weak fun σ H Q q => by rw [hown]; exact t_lc q
theorem s_setLc {i : Nat} {y : Str} {py spos : Pos} (hc : X.calm = true) (hN : X.N.Nodup) (hy : X.N[i]? = some y) (hyl : X.env.scope.names.lookup y = some .local)
    (hsw : swapsWith (.ListComp elt [⟨tg, iter, ifs, 0⟩] scope pos) (some (.Name y py)) spos.line X.env = pure true) (hi : PI X tg iter (WIc X.K M W fi)) (ok : BlkOk X.N X.env.scope scope own) (hown : own.map (·.2) = tgS t)
    (hg : ∀ (s : Shared) (H : Hp) (C : Addr) (cl : List (Str × Addr)) (fp : List Addr), PG (X.blk s H scope (compEnvC scope cl C X.env) fp) tg (tgG X.K t))
    (ht : ∀ (s : Shared) (H : Hp) (C : Addr) (cl : List (Str × Addr)) (fp : List Addr), PTs (X.blk s H scope (compEnvC scope cl C X.env) fp) ifs (TT' X.K M W0 fc))
    (he : ∀ (s : Shared) (H : Hp) (C : Addr) (cl : List (Str × Addr)) (fp : List Addr), PE (X.blk s H scope (compEnvC scope cl C X.env) fp) elt (TR X.K M W0 fe)) (hs : ∀ x, foldedSetIterable iter X.env x = pure x) :
    PS X (.Assign [.Name y py] (.ListComp elt [⟨tg, iter, ifs, 0⟩] scope pos) spos) (tAsg (TR X.K M W fun env st => (fi env st).bind fun xs st => (lcLoop (fun x st => (bodyL t fc fe env x st).noX) xs st).bind fun ys st => .ok (true, .lst ys) st) (gName i)) :=
  (ps_setLc (own := own) hc hN hy hyl hsw hi ok hg ht (fun s H C cl fp => pe_frz (he s H C cl fp)) hs).weak fun D σ H q => by
    show tLc _ _ _ _ (own.map (·.2)) σ H _
    rw [hown]; exact t_lc q
end
end Lk
set_option Elab.async false
set_option linter.all false
set_option maxRecDepth 100000
set_option autoImplicit false
set_option maxHeartbeats 1000000
/-! LkE3: f-strings; dicts asked by get; pop of a list in the store; module constants. -/
namespace Lk
open PySem PySem.Spec L2 PyProof.Rows
section
variable {X : Cx} {M : Nm} {W : WX} {x y z : Expr} {pos p : Pos} {fa fb : Env → Store → Res Val} {fr fs ft : Env → Store → Res Rv}
theorem asStr_eq {v : Val} {s : Sn} (h : asStr v = some s) : v = .str s := by
  cases v <;> simp [asStr] at h
  subst h
  rfl
/-- a part of an f-string -/
def TP' (K : PySem.W.Frag) (M : Nm) (W : WX) (f : Env → Store → Res Rv) : TE := fun σ H Q => TV K M W f σ H fun x H1 => ∃ y : Str, x = .str y ∧ y.length ≤ sizeLine ∧ Q (.str y) H1
theorem part_c (h : PE X x (TR X.K M W fr)) : PE X x (TP' X.K M W fr) := (pe_frz h).weak fun σ H Q ⟨Hb, Z, ρ, env, st, rh, re, q⟩ =>
  ⟨Hb, Z, ρ, env, st, rh, re, q.mono fun rv st' k x H' Z' ρ' ad rh' r => by obtain ⟨y, rfl, _, q⟩ := k x H' Z' ρ' ad rh' r; exact q⟩
theorem part_f (h : PE X x (TR X.K M W fr)) : PE X (.FormattedValue x (-1) none pos) (TP' X.K M W fr) := (pe_fmt (pe_frz h)).weak fun σ H Q ⟨Hb, Z, ρ, env, st, rh, re, q⟩ =>
  ⟨Hb, Z, ρ, env, st, rh, re, q.mono fun rv st' k x H' Z' ρ' ad rh' r => .inl (k x H' Z' ρ' ad rh' r)⟩
def evFl : List (Env → Store → Res Rv) → Env → Store → Res Sn
  | [], _, st => .ok [] st
  | f :: r, env, st => (f env st).bind fun v st => (Res.of (asStr v.2) st).bind fun s st => (evFl r env st).bind fun t st => .ok (s ++ t) st
theorem t_js : ∀ (gs : List (Env → Store → Res Rv)) (acc : Sn) (n : Nat) (σ : L2.St) (H Hb Z H0 Z0 : Hp) (ρ ρ0 : List Addr) (env : Env) (st : Store) (Q : Str → Hp → Prop), n + gs.length ≤ 100 → acc.length ≤ n * maxLen → (∀ c ∈ acc, c < 1114112) →
    RH X.K M H Z ρ st → RE X.K Hb H Z ρ σ env → Adv H0 Z0 ρ0 H Z ρ →
    After X.K M H0 Z0 ρ0 (fun c d H' => W c d σ H') (evFl gs env st) (fun t st' => ∀ H' Z' ρ', Adv H0 Z0 ρ0 H' Z' ρ' → RH X.K M H' Z' ρ' st' → (∀ c ∈ acc ++ t, c < 1114112) → Q (sv (acc ++ t)) H') → tJs (gs.map (TP' X.K M W)) (sv acc) σ H Q
  | [], acc, n, σ, H, Hb, Z, H0, Z0, ρ, ρ0, env, st, Q, hn, hl, hc, rh, re, ad, q => by
    have := q H Z ρ ad rh (by simpa using hc)
    show Q (sv acc) H
    simpa using this
  | g :: gs, acc, n, σ, H, Hb, Z, H0, Z0, ρ, ρ0, env, st, Q, hn, hl, hc, rh, re, ad, q => by
    refine ⟨Hb, Z, ρ, env, st, rh, re, (After.bind q |>.adv ad fun _ _ k => k).mono fun rv st1 q1 x H1 Z1 ρ1 a1 rh1 r1 => ?_⟩
    obtain ⟨s, es, q1⟩ := q1.bind.of
    rw [asStr_eq es] at r1
    cases r1 with
    | str _ ok =>
      have ls := snOk_len ok
      have hlen : (acc ++ s).length ≤ (n + 1) * maxLen := by rw [List.length_append, Nat.add_mul]; omega
      have hcs : ∀ c ∈ acc ++ s, c < 1114112 := fun c h => (List.mem_append.mp h).elim (hc c) (snOk_cps ok c)
      have hz : (acc ++ s).length ≤ sizeLine := by
        simp only [List.length_cons] at hn
        have h1 : (n + 1) * maxLen ≤ 100 * maxLen := Nat.mul_le_mul_right _ (by omega)
        have h2 : 100 * maxLen ≤ sizeLine := by decide
        omega
      refine ⟨sv s, rfl, by rw [sv_len]; exact Nat.le_trans ls maxLen_line, sv s, rfl, by rw [sv_append, sv_len]; exact hz, ?_⟩
      rw [sv_append]
      refine t_js gs (acc ++ s) (n + 1) σ H1 Hb Z1 H0 Z0 ρ1 ρ0 env st1 Q (by simp only [List.length_cons] at hn; omega) hlen hcs rh1 (re.adv a1) (ad.trans a1) ?_
      refine (After.bind q1).mono fun t st2 k H' Z' ρ' a2 rh2 h2 => ?_
      have := k H' Z' ρ' a2 rh2 (by simpa using h2)
      simpa using this
theorem c_fstr {xs : List Expr} {gs : List (Env → Store → Res Rv)} (h : PJ X (x :: y :: xs) (gs.map (TP' X.K M W))) (hn : gs.length ≤ 100) :
    PE X (.JoinedStr (x :: y :: xs) pos) (TR X.K M W fun env st => (evFl gs env st).bind fun s st => if s.length ≤ maxLen then .ok (false, .str s) st else .bad) :=
  (pe_joined h).weak fun σ H Q ⟨Hb, Z, ρ, env, st, rh, re, q⟩ => by
    have e0 : (Str.empty : Str) = sv [] := rfl
    rw [e0]
    refine t_js gs [] 0 σ H Hb Z H Z ρ ρ env st _ (by omega) (by simp) (by simp) rh re Adv.refl ((After.bind q).mono fun t st1 k H' Z' ρ' ad rh' hc => ?_)
    split at k
    · exact Ok1.val rh' (Ok1.adv ad k) (.str _ (snOk_of (by simpa using ‹_›) (by simpa using hc)))
    · exact k.elim
/-! ### d.get(k, v) -/
theorem c_glb {n : Str} {v : Val} {w : V} {u : Value} (hg : Gl X n) (hm : X.mg n = some u) (r : RelV w u) (hd : (n == ("__debug__" : Str)) = false) (rv : ∀ Z ρ, RV X.K Z ρ w v) : PE X (.Name n pos) (TR X.K M W fun _ st => Res.of ((some v).map fun v => (false, v)) st) :=
  c_cst (pe_glob hg hm r hd) rv
end
end Lk
set_option Elab.async false
set_option linter.all false
set_option maxRecDepth 100000
set_option autoImplicit false
set_option maxHeartbeats 1000000
/-! LkF: statements. The base is the def's entry: what is not there may be one's own. -/
namespace Lk
open PySem PySem.Spec L2 PyProof.Rows

structure Base where
  H : Hp
  Z : Hp
  r : List Addr
  lk : Nat → Option Addr
/-- a state of the def's body -/
structure RS (K : PySem.W.Frag) (M : Nm) (B : Base) (H Z : Hp) (ρ : List Addr) (σ : L2.St) (env : Env) (st : Store) : Prop where
  h : RH K M H Z ρ st
  e : RE K B.H H Z ρ σ env
  a : Adv B.H B.Z B.r H Z ρ
  z : ∀ a, B.H a = none → B.Z a = none ∧ a ∉ B.r
  k : ∀ i, env[i]? = some (some (true, .non)) → ∃ a, B.lk i = some a ∧ σ[i]? = some (some (.ref a))
def SPost (K : PySem.W.Frag) (M : Nm) (B : Base) (W : WX) (D : Ends) : SRes → Prop
  | .nx env st => ∀ σ H Z ρ, RS K M B H Z ρ σ env st → D.nx σ H
  | .rt rv st => ∀ x H Z ρ, Adv B.H B.Z B.r H Z ρ → RH K M H Z ρ st → RR K B.H H Z ρ x rv → D.rt x H
  | .exc c fs env st => ∀ d σ H Z ρ, RS K M B H Z ρ σ env st → RX K M H Z ρ d fs → W (.ref (M.xa c)) d σ H
  | .bad => False
def TSm (K : PySem.W.Frag) (M : Nm) (W : WX) (f : Env → Store → SRes) : TS := fun D σ H => ∃ B Z ρ env st, RS K M B H Z ρ σ env st ∧ SPost K M B W D (f env st)

section
variable {K : PySem.W.Frag} {M : Nm} {B : Base} {W : WX} {D D' : Ends} {H Z H' Z' : Hp} {ρ ρ' : List Addr} {σ : L2.St} {env : Env} {st st' : Store}
theorem RS.adv (s : RS K M B H Z ρ σ env st) (ad : Adv H Z ρ H' Z' ρ') (h : RH K M H' Z' ρ' st') : RS K M B H' Z' ρ' σ env st' := ⟨h, s.e.adv ad, s.a.trans ad, s.z, s.k⟩
theorem SPost.nxt {r : SRes} {f : Env → Store → SRes} (h : SPost K M B W D (r.bind f)) (hn : ∀ env st, SPost K M B W D (f env st) → ∀ σ H Z ρ, RS K M B H Z ρ σ env st → D'.nx σ H) (hr : D'.rt = D.rt) : SPost K M B W D' r := by
  cases r with
  | nx env st => exact fun σ H Z ρ s => hn env st h σ H Z ρ s
  | rt rv st => exact fun x H Z ρ a b c => by rw [hr]; exact h x H Z ρ a b c
  | exc c fs env st => exact h
  | bad => exact h
/-- an expression within a statement -/
theorem SPost.aft {α : Type} {r : Res α} {f : α → Store → SRes} {k : α → Store → Prop} (s : RS K M B H Z ρ σ env st) (h : SPost K M B W D (r.inS env f)) (hk : ∀ a st, SPost K M B W D (f a st) → k a st) : After K M H Z ρ (fun c d H' => W c d σ H') r k := by
  cases r with
  | ok a st => exact hk a st h
  | exc c fs st2 => exact fun d H' Z' ρ' ad rh rx => h d σ H' Z' ρ' (s.adv ad rh) rx
  | bad => exact h
theorem RR.backB {x : V} {rv : Rv} (s : RS K M B H Z ρ σ env st) (r : RR K H H' Z' ρ' x rv) : RR K B.H H' Z' ρ' x rv := r.back s.a.th
theorem RR.nn {Hb : Hp} {x : V} {rv : Rv} (r : RR K Hb H Z ρ x rv) : rv ≠ (true, .non) := by
  rintro rfl
  obtain ⟨_, _, _, _, _, f⟩ := r
  exact f
theorem getset {α : Type} {xs : List α} {i j : Nat} {x u : α} (e : (xs.set i x)[j]? = some u) : (j = i ∧ i < xs.length ∧ u = x) ∨ (j ≠ i ∧ xs[j]? = some u) := by
  by_cases c : i = j
  · subst c
    have l : i < xs.length := by
      have := get_lt e
      rwa [List.length_set] at this
    rw [List.getElem?_set_self l] at e
    cases e
    exact .inl ⟨rfl, l, rfl⟩
  · rw [List.getElem?_set_ne c] at e
    exact .inr ⟨Ne.symm c, e⟩
theorem RE.setR {Hb : Hp} (re : RE K Hb H Z ρ σ env) {i : Nat} {x : V} {r : Rv} (q : RR K Hb H Z ρ x r) (nw : r.1 = true → ∀ (j : Nat) (a : Addr), j ≠ i → σ[j]? = some (some (.ref a)) → x = .ref a → ∀ v, v ≠ .non → env[j]? ≠ some (some (true, v))) : RE K Hb H Z ρ (σ.set i (some x)) (env.set i (some r)) := by
  obtain ⟨o, v⟩ := r
  cases o with
  | false => exact re.set q
  | true =>
    obtain ⟨a, rfl, rw'⟩ := q
    refine ⟨by simp [re.len], fun j w e => ?_, fun j w e nn => ?_, fun j k b w u e1 m1 e2 m2 e3 e4 => ?_⟩
    · rcases getset e with ⟨_, _, z⟩ | ⟨n, e⟩
      · cases z
      · obtain ⟨y, g1, g2⟩ := re.val j w e
        exact ⟨y, by rw [List.getElem?_set_ne (Ne.symm n)]; exact g1, g2⟩
    · rcases getset e with ⟨rfl, l, z⟩ | ⟨n, e⟩
      · cases z
        exact ⟨a, List.getElem?_set_self (by rw [re.len]; exact l), rw'⟩
      · obtain ⟨y, g1, g2⟩ := re.own j w e nn
        exact ⟨y, by rw [List.getElem?_set_ne (Ne.symm n)]; exact g1, g2⟩
    · rcases getset e1 with ⟨rfl, l, z⟩ | ⟨n1, e1'⟩
      · rcases getset e2 with ⟨rfl, l2, z2⟩ | ⟨n2, e2'⟩
        · rfl
        · rw [List.getElem?_set_self (by rw [re.len]; exact l)] at e3
          rw [List.getElem?_set_ne (Ne.symm n2)] at e4
          cases e3
          exact absurd e2' (nw rfl k _ n2 e4 rfl u m2)
      · rw [List.getElem?_set_ne (Ne.symm n1)] at e3
        rcases getset e2 with ⟨rfl, l2, z2⟩ | ⟨n2, e2'⟩
        · rw [List.getElem?_set_self (by rw [re.len]; exact l2)] at e4
          cases e4
          exact absurd e1' (nw rfl j _ n1 e3 rfl w m1)
        · rw [List.getElem?_set_ne (Ne.symm n2)] at e4
          exact re.dis j k b w u e1' m1 e2' m2 e3 e4
/-- an own slot's object -/
theorem RE.ownH {Hb : Hp} (re : RE K Hb H Z ρ σ env) {i : Nat} {v : Val} (e : env[i]? = some (some (true, v))) (nn : v ≠ .non) {a : Addr} (ea : σ[i]? = some (some (.ref a))) : Hb a = none ∧ Z a = none ∧ a ∉ ρ ∧ H a ≠ none := by
  obtain ⟨c, ec, h1, h2, h3, h4⟩ := re.own i v e nn
  rw [ea] at ec
  cases ec
  refine ⟨h1, h2, h3, ?_⟩
  cases v <;> first | exact h4.elim | (obtain ⟨_, h4, _⟩ := h4; rw [h4]; exact fun z => nomatch z)
/-- what came of an expression is no slot's own -/
theorem RS.setN (s : RS K M B H Z ρ σ env st) (ad : Adv H Z ρ H' Z' ρ') (h : RH K M H' Z' ρ' st') {i : Nat} {x : V} {r : Rv} (q : RR K H H' Z' ρ' x r) : RS K M B H' Z' ρ' (σ.set i (some x)) (env.set i (some r)) st' := by
  refine ⟨h, (s.e.adv ad).setR (q.backB s) fun o j a nj ej ex v nn ev => ?_, s.a.trans ad, s.z, fun j e => ?_⟩
  · obtain ⟨o', v'⟩ := r
    cases o
    obtain ⟨b, eb, n, _⟩ := q
    rw [ex] at eb
    cases eb
    exact (s.e.ownH ev nn ej).2.2.2 n
  · rcases getset e with ⟨_, _, z⟩ | ⟨n, e⟩
    · exact absurd (Option.some.inj z).symm q.nn
    · obtain ⟨a, g1, g2⟩ := s.k j e
      exact ⟨a, g1, by rw [List.getElem?_set_ne (Ne.symm n)]; exact g2⟩
theorem RS.setV (s : RS K M B H Z ρ σ env st) {i : Nat} {x : V} {v : Val} (q : RV K Z ρ x v) : RS K M B H Z ρ (σ.set i (some x)) (env.set i (some (false, v))) st := s.setN Adv.refl s.h (r := (false, v)) q
theorem RS.setVs : ∀ {is : List Nat} {xs : List V} {vs : List Val} {σ : L2.St} {env env' : Env}, RS K M B H Z ρ σ env st → RVs K Z ρ xs vs → setTs is vs env = some env' → RS K M B H Z ρ (setSs is xs σ) env' st ∧ xs.length = is.length
  | [], _, _, σ, env, env', s, .nil, e => by cases e; exact ⟨s, rfl⟩
  | [], _, _, _, _, _, _, .cons _ _, e => by cases e
  | _ :: _, _, _, _, _, _, _, .nil, e => by cases e
  | i :: is, _, _, σ, env, env', s, .cons h r, e => by
    obtain ⟨g1, g2⟩ := RS.setVs (is := is) (s.setV (i := i) h) r e
    exact ⟨g1, by simp [g2]⟩
/-- a target takes a value -/
theorem RS.tg {t : Tg} {x : V} {v : Val} {Q : L2.St → Hp → Prop} {env' : Env} (s : RS K M B H Z ρ σ env st) (r : RV K Z ρ x v) (e : setTg t v env = some env') (q : ∀ σ', RS K M B H Z ρ σ' env' st → Q σ' H) : tgG K t x σ H Q := by
  cases t with
  | nm i => cases e; exact q _ (s.setV r)
  | tp is =>
    simp only [setTg] at e
    cases v <;> first | (cases e; done) | skip
    rename_i vs
    cases r with
    | @tup a xs _ hs rs l =>
      obtain ⟨g1, g2⟩ := s.setVs rs e
      exact ⟨a, xs, rfl, s.h.sqT hs, g2, gTs_run is xs σ H Q g2 (q _ g1)⟩
end

/-! ### a later base -/
open Classical in
noncomputable def Base.to (B : Base) (H Z : Hp) (ρ : List Addr) (kp : Addr → Prop) (lk : Nat → Option Addr) : Base :=
  ⟨fun a => if Z a ≠ none ∨ a ∈ ρ ∨ B.H a ≠ none ∨ kp a then H a else none, Z, ρ, lk⟩
section
variable {K : PySem.W.Frag} {M : Nm} {B : Base} {W : WX} {D : Ends} {H Z H' Z' : Hp} {ρ ρ' : List Addr} {σ σ' : L2.St} {env env' : Env} {st st' : Store} {kp : Addr → Prop} {lk : Nat → Option Addr}
open Classical in
theorem to_none {a : Addr} (h1 : Z a = none) (h2 : a ∉ ρ) (h3 : B.H a = none) (h4 : ¬ kp a) : (B.to H Z ρ kp lk).H a = none := by
  show (if Z a ≠ none ∨ a ∈ ρ ∨ B.H a ≠ none ∨ kp a then H a else none) = _
  rw [if_neg (by rintro (h | h | h | h); exact h h1; exact h2 h; exact h h3; exact h4 h)]
open Classical in
theorem to_base {a : Addr} (h : B.H a ≠ none) : (B.to H Z ρ kp lk).H a = H a := by
  show (if Z a ≠ none ∨ a ∈ ρ ∨ B.H a ≠ none ∨ kp a then H a else none) = _
  rw [if_pos (.inr (.inr (.inl h)))]
open Classical in
theorem to_kp {a : Addr} (h : kp a) : (B.to H Z ρ kp lk).H a = H a := by
  show (if Z a ≠ none ∨ a ∈ ρ ∨ B.H a ≠ none ∨ kp a then H a else none) = _
  rw [if_pos (.inr (.inr (.inr h)))]
open Classical in
theorem to_Z {a : Addr} (h : Z a ≠ none) : (B.to H Z ρ kp lk).H a = H a := by
  show (if Z a ≠ none ∨ a ∈ ρ ∨ B.H a ≠ none ∨ kp a then H a else none) = _
  rw [if_pos (.inl h)]
open Classical in
theorem to_r {a : Addr} (h : a ∈ ρ) : (B.to H Z ρ kp lk).H a = H a := by
  show (if Z a ≠ none ∨ a ∈ ρ ∨ B.H a ≠ none ∨ kp a then H a else none) = _
  rw [if_pos (.inr (.inl h))]
open Classical in
theorem to_some {a : Addr} {o : HO} (h : (B.to H Z ρ kp lk).H a = some o) : H a = some o := by
  change (if Z a ≠ none ∨ a ∈ ρ ∨ B.H a ≠ none ∨ kp a then H a else none) = _ at h
  split at h
  · exact h
  · cases h
open Classical in
theorem RS.to (s : RS K M B H Z ρ σ env st) : RS K M (B.to H Z ρ (fun _ => False) B.lk) H Z ρ σ env st := by
  refine ⟨s.h, ⟨s.e.len, s.e.val, fun i v e nn => ?_, s.e.dis⟩, ⟨ZLe.refl _, List.prefix_rfl, fun a o e1 e2 e3 => ⟨to_some e1, e2, e3⟩, fun a e z => ?_⟩, fun a e => ?_, s.k⟩
  · obtain ⟨a, g1, g2, g3, g4, g5⟩ := s.e.own i v e nn
    exact ⟨a, g1, to_none g3 g4 g2 id, g3, g4, g5⟩
  · cases q : (B.to H Z ρ (fun _ => False) B.lk).H a with
    | none => exact e q
    | some o => rw [to_some q] at z; cases z
  · constructor
    · cases q : Z a with
      | none => exact q
      | some o =>
        rw [to_Z (by rw [q]; exact fun z => nomatch z), s.h.zin a o q] at e
        cases e
    · intro m
      have m : a ∈ ρ := m
      rw [to_r m] at e
      exact s.h.there m e
theorem adv_of_to (s : RS K M B H Z ρ σ env st) (ad : Adv (B.to H Z ρ kp lk).H Z ρ H' Z' ρ') : Adv B.H B.Z B.r H' Z' ρ' := by
  refine ⟨s.a.z.trans ad.z, s.a.r.trans ad.r, fun a o e1 e2 e3 => ?_, fun a e => ?_⟩
  · obtain ⟨g1, g2, g3⟩ := s.a.fr a o e1 e2 e3
    exact ad.fr a o (by rw [to_base (by rw [e1]; exact fun z => nomatch z)]; exact g1) g2 g3
  · exact ad.th a (by rw [to_base e]; exact s.a.th a e)
theorem none_of_to {a : Addr} (s : RS K M B H Z ρ σ env st) (e : (B.to H Z ρ kp lk).H a = none) : B.H a = none := by
  cases q : B.H a with
  | none => rfl
  | some o =>
    have nb : B.H a ≠ none := by rw [q]; exact fun z => nomatch z
    rw [to_base nb] at e
    exact absurd e (s.a.th a nb)
theorem rr_of_to {x : V} {rv : Rv} (s : RS K M B H Z ρ σ env st) (r : RR K (B.to H Z ρ kp lk).H H' Z' ρ' x rv) : RR K B.H H' Z' ρ' x rv := by
  obtain ⟨o, v⟩ := rv
  cases o with
  | false => exact r
  | true =>
    obtain ⟨a, e, n, q⟩ := r
    exact ⟨a, e, none_of_to s n, q⟩
theorem re_of_to (s : RS K M B H Z ρ σ env st) (r : RE K (B.to H Z ρ kp lk).H H' Z' ρ' σ' env') : RE K B.H H' Z' ρ' σ' env' :=
  ⟨r.len, r.val, fun i v e nn => let ⟨a, g1, g2, g3⟩ := r.own i v e nn; ⟨a, g1, none_of_to s g2, g3⟩, r.dis⟩
theorem rs_of_to (s : RS K M B H Z ρ σ env st) (r : RS K M (B.to H Z ρ (fun _ => False) B.lk) H' Z' ρ' σ' env' st') : RS K M B H' Z' ρ' σ' env' st' :=
  ⟨r.h, re_of_to s r.e, adv_of_to s r.a, s.z, r.k⟩
theorem SPost.to {r : SRes} (s : RS K M B H Z ρ σ env st) (q : SPost K M B W D r) : SPost K M (B.to H Z ρ (fun _ => False) B.lk) W D r := by
  cases r with
  | nx env st => exact fun σ H Z ρ t => q σ H Z ρ (rs_of_to s t)
  | rt rv st => exact fun x H Z ρ a b c => q x H Z ρ (adv_of_to s a) b (rr_of_to s c)
  | exc c fs env st => exact fun d σ H Z ρ t rx => q d σ H Z ρ (rs_of_to s t) rx
  | bad => exact q
end

section
variable {X : Cx} {M : Nm} {W : WX} {x y z : Expr} {xs : List Expr} {pos p : Pos} {fa fb fc : Env → Store → Res Val} {fr fs ft : Env → Store → Res Rv} {fl : Env → Store → Res (List Val)} {g g1 g2 : Env → Store → SRes} {gb : Env → Store → Res Bool}
theorem s_nil : PSs X [] (TSm X.K M W fun env st => .nx env st) := pss_nil.weak fun D σ H ⟨B, Z, ρ, env, st, s, q⟩ => q σ H Z ρ s
theorem s_cons {a : Stmt} {r : List Stmt} (h1 : PS X a (TSm X.K M W g1)) (h2 : PSs X r (TSm X.K M W g2)) : PSs X (a :: r) (TSm X.K M W fun env st => (g1 env st).bind fun env st => g2 env st) :=
  (pss_cons h1 h2).weak fun D σ H ⟨B, Z, ρ, env, st, s, q⟩ => ⟨B, Z, ρ, env, st, s, q.nxt (fun env st h σ H Z ρ s => ⟨B, Z, ρ, env, st, s, h⟩) rfl⟩
theorem s_bad {a : Stmt} : PS X a (TSm X.K M W fun _ _ => .bad) := ps_never.weak fun D σ H ⟨B, Z, ρ, env, st, s, q⟩ => q
theorem s_bads {a : List Stmt} : PSs X a (TSm X.K M W fun _ _ => .bad) := pss_never.weak fun D σ H ⟨B, Z, ρ, env, st, s, q⟩ => q
theorem e_bad {a : Expr} : PE X a (TR X.K M W fun _ _ => .bad) := ⟨fun pins s σ H Q I ⟨Hb, Z, ρ, env, st, rh, re, q⟩ => q.elim⟩
theorem t_set {i : Nat} {D : Ends} {σ : L2.St} {H : Hp} (q : TSm X.K M W (fun env st => (fr env st).inS env fun v st => .nx (env.set i (some v)) st) D σ H) : TR X.K M W fr σ H fun x H1 => D.nx (σ.set i (some x)) H1 := by
  obtain ⟨B, Z, ρ, env, st, s, q⟩ := q
  exact ⟨B.H, Z, ρ, env, st, s.h, s.e, q.aft s fun rv st1 q1 x H1 Z1 ρ1 ad rh1 r => q1 _ H1 Z1 ρ1 (s.setN ad rh1 r)⟩
theorem s_asg {i : Nat} {n : Str} {pn : Pos} (hN : X.N.Nodup) (hi : X.N[i]? = some n) (hx : Loc X.env.scope n) (hf : X.fn n = true ∨ X.env.scope.names.lookup n = some .local) (he : PE X x (TR X.K M W fr)) (hs : swapsWith x (some (.Name n pn)) pos.line X.env = pure false) :
    PS X (.Assign [.Name n pn] x pos) (TSm X.K M W fun env st => (fr env st).inS env fun v st => .nx (env.set i (some v)) st) := (ps_set hN hi hx he hs hf).weak fun D σ H q => t_set q
theorem s_ex (he : PE X x (TR X.K M W fr)) (hs : swapsWith x none pos.line X.env = pure false) : PS X (.Expr x pos) (TSm X.K M W fun env st => (fr env st).inS env fun _ st => .nx env st) :=
  (ps_expr he hs).weak fun D σ H ⟨B, Z, ρ, env, st, s, q⟩ => ⟨B.H, Z, ρ, env, st, s.h, s.e, q.aft s fun rv st1 q1 x H1 Z1 ρ1 ad rh1 r => q1 σ H1 Z1 ρ1 (s.adv ad rh1)⟩
theorem s_ret (he : PE X x (TR X.K M W fr)) : PS X (.Return (some x) pos) (TSm X.K M W fun env st => (fr env st).inS env fun v st => .rt v st) :=
  (ps_ret he).weak fun D σ H ⟨B, Z, ρ, env, st, s, q⟩ => ⟨B.H, Z, ρ, env, st, s.h, s.e, q.aft s fun rv st1 q1 x H1 Z1 ρ1 ad rh1 r => q1 x H1 Z1 ρ1 (s.a.trans ad) rh1 (r.backB s)⟩
theorem s_retV {i : Nat} {n : Str} {pn : Pos} (hN : X.N[i]? = some n) (hv : Vis X.env.scope n) (hd : (n == ("__debug__" : Str)) = false) (hcd : (n == ("__classdict__" : Str)) = false) :
    PS X (.Return (some (.Name n pn)) pos) (TSm X.K M W fun env st => match env[i]? with
      | some (some (false, v)) => .rt (false, v) st
      | some (some (true, .lst v)) => .rt (true, .lst v) st
      | some (some (true, .dct v)) => .rt (true, .dct v) st
      | _ => .bad) :=
  (ps_ret (pe_var hN hv hd hcd)).weak fun D σ H ⟨B, Z, ρ, env, st, s, q⟩ => by
    dsimp only at q
    split at q
    · rename_i v e
      obtain ⟨x, g1, g2⟩ := s.e.val i v e
      exact ⟨x, g1, q x H Z ρ s.a s.h g2⟩
    · rename_i v e
      obtain ⟨x, g1, g2⟩ := s.e.own i _ e (fun z => nomatch z)
      exact ⟨_, g1, q _ H Z ρ s.a s.h ⟨x, rfl, g2⟩⟩
    · rename_i v e
      obtain ⟨x, g1, g2⟩ := s.e.own i _ e (fun z => nomatch z)
      exact ⟨_, g1, q _ H Z ρ s.a s.h ⟨x, rfl, g2⟩⟩
    · exact q.elim
theorem s_ife {a b : List Stmt} (hc : PT X x (TT' X.K M W gb)) (h1 : PSs X a (TSm X.K M W g1)) (h2 : PSs X b (TSm X.K M W g2)) : PS X (.If x a b pos) (TSm X.K M W fun env st => (gb env st).inS env fun t st => if t then g1 env st else g2 env st) :=
  (ps_if hc h1 h2).weak fun D σ H ⟨B, Z, ρ, env, st, s, q⟩ => by
    refine ⟨B.H, Z, ρ, env, st, s.h, s.e, q.aft s fun t st1 q1 H1 Z1 ρ1 ad rh1 => ?_⟩
    cases t with
    | true => exact iteT ⟨B, Z1, ρ1, env, st1, s.adv ad rh1, q1⟩
    | false => exact iteF ⟨B, Z1, ρ1, env, st1, s.adv ad rh1, q1⟩
theorem s_whl {b : List Stmt} (hp : PassesOwn (model X.prog X.w) X.A X.env X.xe) (hc : PT X x (TT' X.K M W gb)) (hb : PSs X b (TSm X.K M W g)) (n : Nat) : PS X (.While x b [] pos) (TSm X.K M W fun env st => whlLoop gb g n env st) :=
  (ps_while hp hc hb).weak fun D σ H ⟨B, Z, ρ, env, st, s, q⟩ => by
    refine ⟨fun m σ H => ∃ Z ρ env st, RS X.K M B H Z ρ σ env st ∧ SPost X.K M B W D (whlLoop gb g m env st), ⟨n, Z, ρ, env, st, s, q⟩, ?_⟩
    rintro m σ H ⟨Z, ρ, env, st, s, q⟩
    cases m with
    | zero => exact q.elim
    | succ m =>
      refine ⟨B.H, Z, ρ, env, st, s.h, s.e, q.aft s fun t st1 q1 H1 Z1 ρ1 ad rh1 => ?_⟩
      cases t with
      | false => exact iteF (q1 σ H1 Z1 ρ1 (s.adv ad rh1))
      | true =>
        simp only [if_true] at q1
        refine iteT ⟨fun σ H => ∃ Z ρ env st, RS X.K M B H Z ρ σ env st ∧ SPost X.K M B W D (whlLoop gb g m env st), fun σ' H' p => ⟨m, Nat.lt_succ_self _, p⟩, B, Z1, ρ1, env, st1, s.adv ad rh1, ?_⟩
        exact q1.nxt (fun env st h σ H Z ρ s => ⟨Z, ρ, env, st, s, h⟩) rfl
/-- the turns -/
theorem for_turns {t : Tg} {D : Ends} {σ : L2.St} {H Z : Hp} {ρ : List Addr} {env : Env} {st : Store} {B : Base} {vs : List Val} {J : It} {Ok : OkP} (s : RS X.K M B H Z ρ σ env st) (wk : Wk X.K M Ok J vs) (ok : ∀ H' Z' ρ', Adv B.H B.Z B.r H' Z' ρ' → Ok H' Z' ρ')
    (q : SPost X.K M B W D (forLoop t g vs env st)) :
    ∃ V : Nat → Nat → L2.St → Hp → Prop, (∃ m, V 0 m σ H) ∧ ∀ i m σ H, V i m σ H →
      (J.stop i H ∧ D.nx σ H) ∨ (J.go i H ∧ ∃ N : L2.St → Hp → Prop, (∀ σ' H', N σ' H' → ∃ m', m' < m ∧ V (i + 1) m' σ' H') ∧ ∀ x H', J.yld i H x H' → tgG X.K t x σ H' fun σ2 H2 => TSm X.K M W g { D with nx := N, ct := N, bk := D.nx } σ2 H2) := by
  let P : Nat → L2.St → Hp → Prop := fun i σ H => ∃ Z ρ env st, RS X.K M B H Z ρ σ env st ∧ SPost X.K M B W D (forLoop t g (vs.drop i) env st)
  refine ⟨fun i m σ H => m = vs.length - i ∧ i ≤ vs.length ∧ P i σ H, ⟨vs.length, rfl, Nat.zero_le _, Z, ρ, env, st, s, q⟩, ?_⟩
  rintro i m σ' H' ⟨rfl, hi, Z', ρ', env', st', s', q'⟩
  by_cases hlt : i < vs.length
  · refine .inr ⟨wk.go i H' Z' ρ' st' (ok _ _ _ s'.a) s'.h hlt, P (i + 1), fun σ'' H'' p => ⟨vs.length - (i + 1), by omega, rfl, hlt, p⟩, fun x0 H2 y => ?_⟩
    obtain ⟨Z2, a2, rh2, r2⟩ := wk.yld i vs[i] x0 H' H2 Z' ρ' st' (ok _ _ _ s'.a) s'.h (List.getElem?_eq_getElem hlt) y
    rw [List.drop_eq_getElem_cons hlt] at q'
    simp only [forLoop] at q'
    cases es : setTg t vs[i] env' with
    | none => rw [es] at q'; exact q'.elim
    | some env2 =>
      rw [es] at q'
      simp only at q'
      refine (s'.adv a2 rh2).tg r2 es fun σ2 s2 => ⟨B, Z2, ρ', env2, st', s2, ?_⟩
      exact q'.nxt (fun env st h σ H Z ρ s => ⟨Z, ρ, env, st, s, h⟩) rfl
  · have ei : i = vs.length := by omega
    subst ei
    refine .inl ⟨wk.stop _ H' Z' ρ' st' (ok _ _ _ s'.a) s'.h (Nat.le_refl _), ?_⟩
    rw [List.drop_length] at q'
    exact q' σ' H' Z' ρ' s'
theorem s_for {t : Tg} {tg iter : Expr} {b : List Stmt} {fi : Env → Store → Res (List Val)} (hp : PassesOwn (model X.prog X.w) X.A X.env X.xe) (hc : X.calm = true) (hi : PI X tg iter (WIs X.K M W fi)) (hg : PG X tg (tgG X.K t)) (hb : PSs X b (TSm X.K M W g))
    (hs : ∀ x, foldedSetIterable iter X.env x = pure x) : PS X (.For tg iter b [] pos) (TSm X.K M W fun env st => (fi env st).inS env fun vs st => forLoop t g vs env st) :=
  (ps_for hp hc hi hg hb hs).weak fun D σ H ⟨B, Z, ρ, env, st, s, q⟩ => by
    refine ⟨B.H, Z, ρ, env, st, s.h, s.e, q.aft s fun vs st1 q1 J H1 Z1 ρ1 ad rh1 wk => ?_⟩
    have s1 := s.adv ad rh1
    exact for_turns s1.to wk (fun _ _ _ a => ⟨a.z, a.r⟩) (q1.to s1)
end
end Lk
set_option Elab.async false
set_option linter.all false
set_option maxRecDepth 100000
set_option autoImplicit false
set_option maxHeartbeats 1000000
/-! LkF2: statements that change lists, dicts, fields. -/
namespace Lk
open PySem PySem.Spec L2 PyProof.Rows

/-- what becomes of a list, of a dict -/
def chgV (fl : List Val → Option (List Val)) (fd : List (Val × Val) → Option (List (Val × Val))) : Val → Option Val
  | .lst xs => (fl xs).map .lst
  | .dct xs => (fd xs).map .dct
  | _ => none
def chgO (fl : List Val → Option (List Val)) (fd : List (Val × Val) → Option (List (Val × Val))) : Ob → Option Ob
  | .lst xs => (fl xs).map .lst
  | .dct xs => (fd xs).map .dct
  | _ => none
section
variable {K : PySem.W.Frag} {M : Nm} {B : Base} {W : WX} {D : Ends} {H Z H' Z' : Hp} {ρ ρ' : List Addr} {σ σ' : L2.St} {env env' : Env} {st st' : Store} {fl : List Val → Option (List Val)} {fd : List (Val × Val) → Option (List (Val × Val))}
/-- an object of the store is changed -/
theorem RH.putO (h : RH K M H Z ρ st) {n : Nat} {a : Addr} {o : HO} {ob : Ob} (e : ρ[n]? = some a) (ro : RO K M (upd H a o) Z ρ a ob) : RH K M (upd H a o) Z ρ (st.set n ob) ∧ Adv H Z ρ (upd H a o) Z ρ := by
  have ma : a ∈ ρ := List.mem_of_getElem? e
  refine ⟨⟨fun b u q => ?_, by simp [h.len], h.nd, h.out, fun k b ob2 e1 e2 => ?_⟩, ⟨ZLe.refl _, List.prefix_rfl, fun b u h1 h2 h3 => ⟨?_, h2, h3⟩, fun b q => ?_⟩⟩
  · rw [upd_ne (fun c => by rw [c, h.out a ma] at q; cases q)]; exact h.zin b u q
  · rcases getset e2 with ⟨rfl, l, rfl⟩ | ⟨nk, e2⟩
    · rw [e] at e1; cases e1; exact ro
    · have nb : b ≠ a := fun c => by
        subst c
        exact nk ((List.getElem?_inj (get_lt e1) h.nd).mp (by rw [e1, e]))
      exact (h.obj k b ob2 e1 e2).mono (ZLe.refl _) List.prefix_rfl (upd_ne nb)
  · rw [upd_ne (fun c : b = a => h3 (by rw [c]; exact ma))]; exact h1
  · by_cases c : b = a
    · rw [c, upd_same]; exact fun z => nomatch z
    · rw [upd_ne c]; exact q
/-- an own list or dict is changed -/
theorem RS.mut (s : RS K M B H Z ρ σ env st) {i : Nat} {v w : Val} {a : Addr} {o : HO} (e : env[i]? = some (some (true, v))) (nn : v ≠ .non) (ea : σ[i]? = some (some (.ref a)))
    (q : RW K B.H (upd H a o) Z ρ a w) : RS K M B (upd H a o) Z ρ σ (env.set i (some (true, w))) st := by
  obtain ⟨h1, h2, h3, h4⟩ := s.e.ownH e nn ea
  have wn : w ≠ .non := by
    rintro rfl
    exact q.2.2.2.elim
  refine ⟨s.h.updO h2 h3, ⟨by simp [s.e.len], fun j u ej => ?_, fun j u ej un => ?_, fun j k b u u2 e1 n1 e2 n2 e3 e4 => ?_⟩, ⟨s.a.z, s.a.r, fun b u g1 g2 g3 => ?_, fun b g => ?_⟩, s.z, fun j ej => ?_⟩
  · rcases getset ej with ⟨_, _, z⟩ | ⟨nj, ej⟩
    · cases z
    · exact s.e.val j u ej
  · rcases getset ej with ⟨rfl, _, z⟩ | ⟨nj, ej⟩
    · cases z; exact ⟨a, ea, q⟩
    · obtain ⟨b, g1, g2, g3, g4, g5⟩ := s.e.own j u ej un
      have nb : b ≠ a := fun c => nj (s.e.dis j i a u v ej un e nn (by rw [g1, c]) ea)
      refine ⟨b, g1, g2, g3, g4, ?_⟩
      cases u <;> first | exact g5.elim | (obtain ⟨ys, g5, g6⟩ := g5; exact ⟨ys, by rw [upd_ne nb]; exact g5, g6⟩)
  · rcases getset e1 with ⟨rfl, _, z⟩ | ⟨nj, e1'⟩
    · rcases getset e2 with ⟨rfl, _, z2⟩ | ⟨nk, e2⟩
      · rfl
      · exact s.e.dis _ k b v u2 e nn e2 n2 e3 e4
    · rcases getset e2 with ⟨rfl, _, z2⟩ | ⟨nk, e2⟩
      · exact s.e.dis j _ b u v e1' n1 e nn e3 e4
      · exact s.e.dis j k b u u2 e1' n1 e2 n2 e3 e4
  · obtain ⟨k1, k2, k3⟩ := s.a.fr b u g1 g2 g3
    exact ⟨by rw [upd_ne (fun c => by rw [c, h1] at g1; cases g1)]; exact k1, k2, k3⟩
  · by_cases c : b = a
    · rw [c, upd_same]; exact fun z => nomatch z
    · rw [upd_ne c]; exact s.a.th b g
  · rcases getset ej with ⟨_, _, z⟩ | ⟨nj, ej⟩
    · exact absurd (congrArg Prod.snd (Option.some.inj z)).symm wn
    · exact s.k j ej
theorem change_ok {i : Nat} (s : RS K M B H Z ρ σ env st) (q : SPost K M B W D (change i env st (chgV fl fd) (chgO fl fd))) : ∃ a, σ[i]? = some (some (.ref a)) ∧
    ((∃ xs vs ws, H a = some (.lst xs) ∧ RVs K Z ρ xs vs ∧ vs.length ≤ maxLen ∧ fl vs = some ws ∧ ∀ ys, RVs K Z ρ ys ws → ws.length ≤ maxLen → D.nx σ (upd H a (.lst ys))) ∨
      (∃ kvs ds es, H a = some (.dK kvs) ∧ RKs K Z ρ kvs ds ∧ ds.length ≤ maxLen ∧ fd ds = some es ∧ ∀ ks, RKs K Z ρ ks es → es.length ≤ maxLen → D.nx σ (upd H a (.dK ks)))) := by
  unfold change at q
  split at q
  · rename_i v e
    cases v with
    | lst vs =>
      obtain ⟨a, ea, h1, h2, h3, xs, h4, h5, h6⟩ := s.e.own i _ e (fun z => nomatch z)
      refine ⟨a, ea, .inl ?_⟩
      simp only [chgV] at q
      cases ef : fl vs with
      | none => rw [ef] at q; exact q.elim
      | some ws =>
        rw [ef] at q
        exact ⟨xs, vs, ws, h4, h5, h6, ef, fun ys r l => q σ _ Z ρ (s.mut e (fun z => nomatch z) ea ⟨h1, h2, h3, ys, upd_same, r, l⟩)⟩
    | dct vs =>
      obtain ⟨a, ea, h1, h2, h3, xs, h4, h5, h6⟩ := s.e.own i _ e (fun z => nomatch z)
      refine ⟨a, ea, .inr ?_⟩
      simp only [chgV] at q
      cases ef : fd vs with
      | none => rw [ef] at q; exact q.elim
      | some ws =>
        rw [ef] at q
        exact ⟨xs, vs, ws, h4, h5, h6, ef, fun ys r l => q σ _ Z ρ (s.mut e (fun z => nomatch z) ea ⟨h1, h2, h3, ys, upd_same, r, l⟩)⟩
    | _ => exact q.elim
  · rename_i n e
    obtain ⟨x, ex, rx⟩ := s.e.val i _ e
    cases rx with
    | @ref _ a er =>
      refine ⟨a, ex, ?_⟩
      cases es : st[n]? with
      | none => rw [es] at q; exact q.elim
      | some ob =>
        rw [es] at q
        dsimp only at q
        cases ob with
        | lst vs =>
          obtain ⟨xs, h4, h5, h6⟩ := s.h.obj n a _ er es
          simp only [chgO] at q
          cases ef : fl vs with
          | none => rw [ef] at q; exact q.elim
          | some ws =>
            rw [ef] at q
            refine .inl ⟨xs, vs, ws, h4, h5, h6, ef, fun ys r l => ?_⟩
            obtain ⟨g1, g2⟩ := s.h.putO (o := .lst ys) (ob := .lst ws) er ⟨ys, upd_same, r, l⟩
            exact q σ _ Z ρ (s.adv g2 g1)
        | dct vs =>
          obtain ⟨xs, h4, h5, h6⟩ := s.h.obj n a _ er es
          simp only [chgO] at q
          cases ef : fd vs with
          | none => rw [ef] at q; exact q.elim
          | some ws =>
            rw [ef] at q
            refine .inr ⟨xs, vs, ws, h4, h5, h6, ef, fun ys r l => ?_⟩
            obtain ⟨g1, g2⟩ := s.h.putO (o := .dK ys) (ob := .dct ws) er ⟨ys, upd_same, r, l⟩
            exact q σ _ Z ρ (s.adv g2 g1)
        | ins c fs => exact q.elim
  · exact q.elim
end
def appL (y : Val) (xs : List Val) : Option (List Val) := if xs.length < maxLen then some (xs ++ [y]) else none
theorem appV_eq (y : Val) : appV y = chgV (appL y) (fun _ => none) := by
  funext v
  cases v <;> first | rfl | (simp only [appV, chgV, appL]; split <;> rfl)
theorem appO_eq (y : Val) : appO y = chgO (appL y) (fun _ => none) := by
  funext v
  cases v <;> first | rfl | (simp only [appO, chgO, appL]; split <;> rfl)
def putL (k y : Val) (xs : List Val) : Option (List Val) := match k with
  | .int i => (ixOf xs.length i).map fun j => xs.set j y
  | _ => none
def putD (k y : Val) (kvs : List (Val × Val)) : Option (List (Val × Val)) := if keyOk k && kvs.length < maxLen then some (dput kvs k y) else none
theorem putV_eq (k y : Val) : putV k y = chgV (putL k y) (putD k y) := by
  funext v
  cases v with
  | lst xs =>
    simp only [putV, chgV, putL]
    cases k <;> simp [Function.comp_def]
  | dct xs => simp only [putV, chgV, putD]; split <;> rfl
  | _ => rfl
theorem putO_eq (k y : Val) : putO k y = chgO (putL k y) (putD k y) := by
  funext v
  cases v with
  | lst xs =>
    simp only [putO, chgO, putL]
    cases k <;> simp [Function.comp_def]
  | dct xs => simp only [putO, chgO, putD]; split <;> rfl
  | ins c fs => rfl
section
variable {X : Cx} {M : Nm} {W : WX} {x y z o : Expr} {xs : List Expr} {pos p apos spos : Pos} {fa fb fc fk : Env → Store → Res Val} {fr fs ft : Env → Store → Res Rv} {fl : Env → Store → Res (List Val)} {g g1 g2 : Env → Store → SRes} {gb : Env → Store → Res Bool}
theorem isL_ref {K : PySem.W.Frag} {B : Base} {H Z : Hp} {ρ : List Addr} {σ : L2.St} {env : Env} {st : Store} {i : Nat} (s : RS K M B H Z ρ σ env st) (e : isL i env st = true) : ∃ a xs, σ[i]? = some (some (.ref a)) ∧ H a = some (.lst xs) := by
  unfold isL at e
  split at e
  · rename_i o v ev
    obtain ⟨vs, e⟩ := Option.isSome_iff_exists.mp e
    obtain ⟨x, ex, r⟩ := s.e.peek ev (fun _ z => by subst z; cases e)
    obtain ⟨a, xs, rfl, hH, _⟩ := r.list s.h e
    exact ⟨a, xs, ex, hH⟩
  · cases e
theorem few_of {args : List Expr} {env : PySem.Env} {pos : Pos} (h : args.all noStar = true) (hl : args.length < 29) : ((backTo pos (starEach args env)).all (fun x => !x.1) && (backToKw pos (keywordEach [] env)).all (fun x => x.1.isSome)
      && decide (args.length + ([] : List Keyword).length + (if ([] : List Keyword).isEmpty then 0 else 1) < 30)) = true := by
  have e1 : (backTo pos (starEach args env)).all (!·.1) = true := by
    rw [List.all_eq_not_any_not]
    simp only [Bool.not_not]
    rw [noStar_any h]
    rfl
  rw [e1]
  show (true && true && decide (args.length + 0 + 0 < 30)) = true
  simp only [Bool.true_and]
  exact decide_eq_true (by omega)
theorem s_app {i : Nat} {n : Str} {pn : Pos} (hN : X.N[i]? = some n) (hv : Vis X.env.scope n) (hd : (n == ("__debug__" : Str)) = false) (hcd : (n == ("__classdict__" : Str)) = false) (ns : noStar x = true) (hl : (apos.endLine == p.line) = true)
    (he : PE X x (TR X.K M W fr)) : PS X (.Expr (.Call (.Attribute (.Name n pn) "append" apos) [x] [] p) pos)
      (TSm X.K M W fun env st => if isL i env st then (fr env st).inS env fun v st => change i env st (appV v.2) (appO v.2) else .bad) :=
  (ps_expr (pe_bm PySem.F.plainAttrs_list PySem.F.slot_list_append PySem.F.type_list_append mt_append (pe_var hN hv hd hcd) (pa_cons (pe_frz he) pa_nil (starEach_no ns)) (base_of rfl) (few_of (by simp [ns]) (by simp)) hl (starEach_no ns) rfl) rfl).weak fun D σ H ⟨B, Z, ρ, env, st, s, q⟩ => by
    dsimp only at q
    split at q
    · rename_i hL
      obtain ⟨a, xs, ea, hH⟩ := isL_ref s hL
      refine ⟨.ref a, ea, .inl ⟨rfl, xs, .inl (.inl hH)⟩, B.H, Z, ρ, env, st, s.h, s.e, q.aft s fun rv st1 q1 x1 H1 Z1 ρ1 ad rh1 r => ?_⟩
      have s1 := s.adv ad rh1
      rw [appV_eq, appO_eq] at q1
      obtain ⟨b, eb, ⟨ys, vs, ws, g1, g2, g3, g4, g5⟩ | ⟨_, _, _, _, _, _, z, _⟩⟩ := change_ok s1 q1
      · rw [ea] at eb
        cases eb
        unfold appL at g4
        split at g4
        · rename_i hlt
          cases g4
          refine ⟨a, ys, x1, rfl, rfl, g1, ?_, g5 _ (g2.append (.cons r .nil)) ?_⟩
          · rw [g2.length]; exact Nat.lt_of_lt_of_le hlt maxLen_line
          · rw [List.length_append]; simp only [List.length_singleton]; omega
        · cases g4
      · cases z
    · exact q.elim
/-- o[i] = v of a list or a dict, by values -/
theorem set_any (hu : X.A.units + 1 < cLine) : PSet X (fun o i v H Q => rSetL o i v H Q ∨ rSetD o i v H Q) := by
  intro pins s σ H o i v ov iv u Q I ro ri rv h
  rcases h with h | h
  · exact set_list pins s σ H o i v ov iv u Q I ro ri rv h
  · exact set_dict hu pins s σ H o i v ov iv u Q I ro ri rv h
end
end Lk
set_option Elab.async false
set_option linter.all false
set_option maxRecDepth 100000
set_option autoImplicit false
set_option maxHeartbeats 1000000
/-! LkF3: stores into lists, dicts, fields; boxes; parallel stores; loops over one's own list; raise. -/
namespace Lk
open PySem PySem.Spec L2 PyProof.Rows

section
variable {K : PySem.W.Frag} {Z : Hp} {ρ : List Addr}
theorem RKs.any {k : Val} {key : Key} (hk : keyOf k = some key) : ∀ {kvs : List (Key × V)} {ds : List (Val × Val)}, RKs K Z ρ kvs ds → (kvs.any fun kv => decide (kv.1 = key)) = ds.any fun p => keyEq p.1 k
  | _, _, .nil => rfl
  | _, _, .int h r => by
    have := RKs.any hk r
    simp only [List.any_cons, this, keyEq_int hk]
  | _, _, .str l h r => by
    have := RKs.any hk r
    simp only [List.any_cons, this, keyEq_str hk]
theorem RKs.mapP {k : Val} {key : Key} (hk : keyOf k = some key) {y : V} {w : Val} (q : RV K Z ρ y w) : ∀ {kvs : List (Key × V)} {ds : List (Val × Val)}, RKs K Z ρ kvs ds →
    RKs K Z ρ (kvs.map fun kv => if kv.1 = key then (kv.1, y) else kv) (ds.map fun p => if keyEq p.1 k then (p.1, w) else p)
  | _, _, .nil => .nil
  | _, _, .int (i := i) h r => by
    have ih := RKs.mapP hk q r
    simp only [List.map_cons, keyEq_int hk, decide_eq_true_eq]
    by_cases c : (Sum.inl i : Key) = key
    · simp only [if_pos c]; exact .int q ih
    · simp only [if_neg c]; exact .int h ih
  | _, _, .str (s := t) l h r => by
    have ih := RKs.mapP hk q r
    simp only [List.map_cons, keyEq_str hk, decide_eq_true_eq]
    by_cases c : (Sum.inr (sv t) : Key) = key
    · simp only [if_pos c]; exact .str l q ih
    · simp only [if_neg c]; exact .str l h ih
theorem RKs.append : ∀ {xs ys : List (Key × V)} {vs ws : List (Val × Val)}, RKs K Z ρ xs vs → RKs K Z ρ ys ws → RKs K Z ρ (xs ++ ys) (vs ++ ws)
  | _, _, _, _, .nil, s => s
  | _, _, _, _, .int h r, s => .int h (RKs.append r s)
  | _, _, _, _, .str l h r, s => .str l h (RKs.append r s)
theorem RKs.put {H : Hp} {k : Val} {key : Key} (hk : keyOf k = some key) {kx : V} (rk : RV K Z ρ kx k) {y : V} {w : Val} (q : RV K Z ρ y w) {kvs : List (Key × V)} {ds : List (Val × Val)} (r : RKs K Z ρ kvs ds) : RKs K Z ρ (putK kvs key y) (dput ds k w) := by
  unfold putK dput
  rw [RKs.any hk r]
  split
  · exact r.mapP hk q
  · refine r.append ?_
    cases k <;> simp [keyOf] at hk
    · subst hk; exact .int q .nil
    · subst hk
      cases rk with
      | str _ l => exact .str l q .nil
theorem dput_len (ds : List (Val × Val)) (k w : Val) : (dput ds k w).length ≤ ds.length + 1 := by
  unfold dput
  split <;> simp
end
section
variable {X : Cx} {M : Nm} {W : WX} {x y z o : Expr} {xs : List Expr} {pos p apos spos : Pos} {fa fb fc : Env → Store → Res Val} {fr fk fs ft : Env → Store → Res Rv} {fl : Env → Store → Res (List Val)} {g g1 g2 : Env → Store → SRes} {gb : Env → Store → Res Bool}
theorem s_put {i : Nat} {n : Str} {pn : Pos} (hu : X.A.units + 1 < cLine) (hN : X.N[i]? = some n) (hv : Vis X.env.scope n) (hd : (n == ("__debug__" : Str)) = false) (hcd : (n == ("__classdict__" : Str)) = false)
    (hk : PE X y (TR X.K M W fk)) (he : PE X x (TR X.K M W fr)) (hsw : swapsWith x (some (.Subscript (.Name n pn) y spos)) pos.line X.env = pure false) :
    PS X (.Assign [.Subscript (.Name n pn) y spos] x pos) (TSm X.K M W fun env st => (fr env st).inS env fun v st => (peek i env st).inS env fun _ st => (fk env st).inS env fun k st => change i env st (putV k.2 v.2) (putO k.2 v.2)) := by
  refine PS.weak (t := fun D σ H => TV X.K M W fr σ H fun v H1 => tVar i σ H1 fun o H2 => TV X.K M W fk σ H2 fun k H3 => rSetL o k v H3 (fun H4 => D.nx σ H4) ∨ rSetD o k v H3 (fun H4 => D.nx σ H4)) ⟨fun pins s σ H D I h => ?_⟩ fun D σ H ⟨B, Z, ρ, env, st, s, q⟩ => ?_
  · refine wpAny_Assign_Subscript (thn ((pe_frz he).run pins s σ H _ I h) fun r s1 ⟨v, H1, I1, rv, q1⟩ => thn ((pe_var (i := i) (pos := pn) hN hv hd hcd).run pins s1 σ H1 _ I1 q1) fun u s2 ⟨w, H2, I2, rx, q2⟩ => thn ((pe_frz hk).run pins s2 σ H2 _ I2 q2) fun iv s3 ⟨k, H3, I3, ry, q3⟩ => ?_) hsw
    exact thn (set_any hu pins s3 σ H3 w k v u iv r _ I3 rx ry rv q3) fun _ s4 ⟨H4, I4, q4⟩ => ⟨σ, H4, I4, q4⟩
  · refine ⟨B.H, Z, ρ, env, st, s.h, s.e, q.aft s fun rv st1 q1 v1 H1 Z1 ρ1 ad rh1 r => ?_⟩
    have s1 := s.adv ad rh1
    have key : ∀ (w : V), σ[i]? = some (some w) → SPost X.K M B W D ((fk env st1).inS env fun k st => change i env st (putV k.2 rv.2) (putO k.2 rv.2)) → tVar i σ H1 fun o H2 => TV X.K M W fk σ H2 fun k H3 => rSetL o k v1 H3 (fun H4 => D.nx σ H4) ∨ rSetD o k v1 H3 (fun H4 => D.nx σ H4) := fun w ew q1 => by
      refine ⟨w, ew, B.H, Z1, ρ1, env, st1, rh1, s1.e, q1.aft s1 fun kv st2 q2 k1 H2 Z2 ρ2 ad2 rh2 rk => ?_⟩
      have s2 := s1.adv ad2 rh2
      rw [putV_eq, putO_eq] at q2
      have rv2 := r.mono ad2.z ad2.r
      obtain ⟨a, ea, ⟨xs, vs, ws, g1, g2, g3, g4, g5⟩ | ⟨kvs, ds, es, g1, g2, g3, g4, g5⟩⟩ := change_ok s2 q2
      · rw [ew] at ea
        cases ea
        obtain ⟨ko, kv⟩ := kv
        dsimp only [putL] at g4
        cases kv <;> first | (cases g4; done) | skip
        rename_i j
        obtain ⟨jn, e1, rfl⟩ := Option.map_eq_some_iff.mp g4
        cases rk
        refine .inl ⟨a, xs, j, jn, rfl, rfl, g1, by rw [g2.length, ← ixOf_eq]; exact e1, g5 _ (g2.set rv2 jn) (by rw [List.length_set]; exact g3)⟩
      · rw [ew] at ea
        cases ea
        unfold putD at g4
        split at g4
        · rename_i hc
          cases g4
          rw [Bool.and_eq_true] at hc
          obtain ⟨h1, h2⟩ := hc
          obtain ⟨key, hk⟩ := keyOf_some h1
          have ek : k1 = kV key := RB.key (X := X) (H := H2) hk (.inl rk)
          have h2 := of_decide_eq_true h2
          refine .inr ⟨a, _, rfl, ?_, g5 _ (RKs.put (H := H2) hk rk rv2 g2) ?_⟩
          · rw [ek]
            exact DPut.k g1 (by rw [g2.length]; exact Nat.lt_of_lt_of_le h2 maxLen_line)
          · have := dput_len ds kv.2 rv.2; omega
        · cases g4
    unfold peek at q1
    split at q1
    · rename_i v e
      obtain ⟨w, ew, _⟩ := s1.e.peek e (fun z => nomatch z)
      exact key w ew q1
    · rename_i v e
      obtain ⟨w, ew, _⟩ := s1.e.peek e (fun _ z => nomatch z)
      exact key w ew q1
    · rename_i v e
      obtain ⟨w, ew, _⟩ := s1.e.peek e (fun _ z => nomatch z)
      exact key w ew q1
    · exact q1.elim
/-! ### boxes -/
theorem box_ok {K : PySem.W.Frag} {B : Base} {H Z : Hp} {ρ : List Addr} {σ : L2.St} {env : Env} {st st1 st2 : Store} {H1 Z1 : Hp} {ρ1 : List Addr} {x1 : V} {rv : Rv} {w : Val} (s : RS K M B H Z ρ σ env st) (ad : Adv H Z ρ H1 Z1 ρ1) (rh : RH K M H1 Z1 ρ1 st1) (r : RR K H H1 Z1 ρ1 x1 rv)
    (e : box rv st1 = some (w, st2)) : ∃ ρ2, RH K M H1 Z1 ρ2 st2 ∧ Adv H Z ρ H1 Z1 ρ2 ∧ RV K Z1 ρ2 x1 w := by
  unfold box at e
  split at e
  · rename_i vs
    cases e
    obtain ⟨a, rfl, h1, h2, h3, xs, h4, h5, h6⟩ := r
    have g := rh.more (o := .lst vs) h2 h3 ⟨xs, h4, h5.mono (ZLe.refl _) (List.prefix_append _ _), h6⟩
    refine ⟨ρ1 ++ [a], g, ⟨ad.z, ad.r.trans (List.prefix_append _ _), fun b u e1 e2 e3 => ?_, ad.th⟩, .ref (by rw [← rh.len]; simp)⟩
    obtain ⟨k1, k2, k3⟩ := ad.fr b u e1 e2 e3
    refine ⟨k1, k2, fun m => ?_⟩
    rcases List.mem_append.mp m with m | m
    · exact k3 m
    · have eb : b = a := by simpa using m
      rw [eb, h1] at e1; cases e1
  · rename_i vs
    cases e
    obtain ⟨a, rfl, h1, h2, h3, xs, h4, h5, h6⟩ := r
    have g := rh.more (o := .dct vs) h2 h3 ⟨xs, h4, h5.mono (ZLe.refl _) (List.prefix_append _ _), h6⟩
    refine ⟨ρ1 ++ [a], g, ⟨ad.z, ad.r.trans (List.prefix_append _ _), fun b u e1 e2 e3 => ?_, ad.th⟩, .ref (by rw [← rh.len]; simp)⟩
    obtain ⟨k1, k2, k3⟩ := ad.fr b u e1 e2 e3
    refine ⟨k1, k2, fun m => ?_⟩
    rcases List.mem_append.mp m with m | m
    · exact k3 m
    · have eb : b = a := by simpa using m
      rw [eb, h1] at e1; cases e1
  · cases e
theorem s_asgB {i : Nat} {n : Str} {pn : Pos} (hN : X.N.Nodup) (hi : X.N[i]? = some n) (hx : Loc X.env.scope n) (hf : X.fn n = true ∨ X.env.scope.names.lookup n = some .local) (he : PE X x (TR X.K M W fr)) (hs : swapsWith x (some (.Name n pn)) pos.line X.env = pure false) :
    PS X (.Assign [.Name n pn] x pos) (TSm X.K M W fun env st => (fr env st).inS env fun v st => match box v st with
      | some (w, st) => .nx (env.set i (some (false, w))) st
      | none => .bad) := (ps_set hN hi hx he hs hf).weak fun D σ H ⟨B, Z, ρ, env, st, s, q⟩ => by
    refine ⟨B.H, Z, ρ, env, st, s.h, s.e, q.aft s fun rv st1 q1 x1 H1 Z1 ρ1 ad rh1 r => ?_⟩
    cases e : box rv st1 with
    | none => rw [e] at q1; exact q1.elim
    | some p =>
      obtain ⟨w, st2⟩ := p
      rw [e] at q1
      obtain ⟨ρ2, g1, g2, g3⟩ := box_ok s ad rh1 r e
      exact q1 _ H1 Z1 ρ2 ((s.adv g2 g1).setV g3)
/-! ### fields -/
variable {Cf : Cfg} {mi : Nat}
theorem RFs.length {K : PySem.W.Frag} {an : Nat → Str} {Z : Hp} {ρ : List Addr} : ∀ {gs : List (Str × V)} {fs : List (Nat × Val)}, RFs K an Z ρ gs fs → gs.length = fs.length
  | _, _, .nil => rfl
  | _, _, .cons _ _ r => by simp [RFs.length r]
theorem putF_ok {K : PySem.W.Frag} {H Z : Hp} {ρ : List Addr} {st st2 : Store} {o w : Val} {xo xw : V} (rh : RH K M H Z ρ st) (ro : RB K H Z ρ xo o) (rw' : RV K Z ρ xw w) (hmi : mi < 100) (e : putF Cf o mi w st = some st2) :
    ∃ a c dx fs, xo = .ref a ∧ H a = some (.ins (M.ca c) dx fs) ∧ Cf.fld c mi = true ∧ fs.length < 1000 ∧ RH K M (upd H a (.ins (M.ca c) dx (L2.putF (M.an mi) xw fs))) Z ρ st2 ∧ Adv H Z ρ (upd H a (.ins (M.ca c) dx (L2.putF (M.an mi) xw fs))) Z ρ := by
  unfold putF at e
  split at e
  · rename_i n
    split at e
    · rename_i c fs es
      split at e
      · rename_i hc
        cases e
        rw [Bool.and_eq_true] at hc
        obtain ⟨h1, h2⟩ := hc
        have h2 := of_decide_eq_true h2
        obtain ⟨_, _, a, dx, gs, rfl, er, hH, rf, l⟩ := ro.ins rh (show asIns st (.ref n) = some (n, c, fs) by simp [asIns, es])
        have lg : gs.length = fs.length := rf.length
        have l2 := fput_len fs mi w
        obtain ⟨g1, g2⟩ := rh.putO (n := n) (a := a) (o := .ins (M.ca c) dx (L2.putF (M.an mi) xw gs)) (ob := .ins c (fput fs mi w)) er ⟨dx, _, upd_same, rf.put hmi rw', by omega⟩
        exact ⟨a, c, dx, gs, rfl, hH, h1, by omega, g1, g2⟩
      · cases e
    · cases e
  · cases e
theorem s_fld (hA : ∀ c, Cf.fld c mi = true → Cls X.K (M.ca c) ∧ NoAttr X.K (M.ca c) (M.an mi)) (hmi : mi < 100) (ho : PE X o (TB X.K M W fa)) (he : PE X x (TR X.K M W fr)) (hs : swapsWith x (some (.Attribute o (M.an mi) p)) pos.line X.env = pure false) :
    PS X (.Assign [.Attribute o (M.an mi) p] x pos) (TSm X.K M W fun env st => (fr env st).inS env fun v st => (fa env st).inS env fun o st => match putF Cf o mi v.2 st with
      | some st => .nx env st
      | none => .bad) := (ps_fld ho (pe_frz he) hs).weak fun D σ H ⟨B, Z, ρ, env, st, s, q⟩ => by
    refine ⟨B.H, Z, ρ, env, st, s.h, s.e, q.aft s fun rv st1 q1 x1 H1 Z1 ρ1 ad rh1 r => ?_⟩
    have s1 := s.adv ad rh1
    refine ⟨B.H, Z1, ρ1, env, st1, rh1, s1.e, q1.aft s1 fun ov st2 q2 x2 H2 Z2 ρ2 ad2 rh2 r2 => ?_⟩
    cases e : putF Cf ov mi rv.2 st2 with
    | none => rw [e] at q2; exact q2.elim
    | some st3 =>
      rw [e] at q2
      obtain ⟨a, c, dx, fs, rfl, hH, hc, hl, g1, g2⟩ := putF_ok rh2 r2 (r.mono ad2.z ad2.r) hmi e
      exact ⟨a, M.ca c, dx, fs, rfl, hH, (hA c hc).1, (hA c hc).2, hl, q2 σ _ Z2 ρ2 ((s1.adv ad2 rh2).adv g2 g1)⟩
theorem s_fldA {ng : Bool} (hA : ∀ c, Cf.fld c mi = true → Cls X.K (M.ca c) ∧ NoAttr X.K (M.ca c) (M.an mi)) (hmi : mi < 100) (ho : PE X o (TB X.K M W fa)) (he : PE X x (TR X.K M W fr)) :
    PS X (.AugAssign (.Attribute o (M.an mi) p) (if ng then .Sub else .Add) x pos) (TSm X.K M W fun env st => (fa env st).inS env fun o st => match fldI Cf o mi st with
      | some (c, i) => (fr env st).inS env fun v st => match asInt v.2 with
        | some j => if clsIs st o c then match putF Cf o mi (.int (if ng then i - j else i + j)) st with
            | some st => .nx env st
            | none => .bad
          else .bad
        | none => .bad
      | none => .bad) := by
  have main : ∀ D σ H, TSm X.K M W (fun env st => (fa env st).inS env fun o st => match fldI Cf o mi st with
      | some (c, i) => (fr env st).inS env fun v st => match asInt v.2 with
        | some j => if clsIs st o c then match putF Cf o mi (.int (if ng then i - j else i + j)) st with
            | some st => .nx env st
            | none => .bad
          else .bad
        | none => .bad
      | none => .bad) D σ H → sFldAug X.K (TB X.K M W fa) (TV X.K M W fr) (fun x y H Q => ∃ i j : Int, x = .int i ∧ y = .int j ∧ Q (.int (if ng then i - j else i + j)) H) (M.an mi) D σ H := fun D σ H ⟨B, Z, ρ, env, st, s, q⟩ => by
    refine ⟨B.H, Z, ρ, env, st, s.h, s.e, q.aft s fun ov st1 q1 x1 H1 Z1 ρ1 ad rh1 r => ?_⟩
    have s1 := s.adv ad rh1
    cases e0 : fldI Cf ov mi st1 with
    | none => rw [e0] at q1; exact q1.elim
    | some ci =>
      obtain ⟨c, i⟩ := ci
      rw [e0] at q1
      unfold fldI at e0
      cases e1 : asIns st1 ov with
      | none => rw [e1] at e0; cases e0
      | some pr =>
        obtain ⟨n, c0, fs⟩ := pr
        rw [e1] at e0
        dsimp only at e0
        split at e0
        · rename_i hc
          split at e0
          · rename_i i0 ei
            cases e0
            obtain ⟨rfl, e4, a, dx, gs, rfl, ga, hH, rf, l⟩ := r.ins rh1 e1
            obtain ⟨v0, g1, g2⟩ := (rf.look hmi).1 _ ei
            cases g2
            refine ⟨a, M.ca c, dx, gs, .int i, rfl, hH, (hA c hc).1, (hA c hc).2, g1, B.H, Z1, ρ1, env, st1, rh1, s1.e, q1.aft s1 fun rv st2 q2 y2 H2 Z2 ρ2 ad2 rh2 r2 => ?_⟩
            cases ej : asInt rv.2 with
            | none => rw [ej] at q2; exact q2.elim
            | some j =>
              rw [ej] at q2
              obtain ⟨ro, v⟩ := rv
              cases v <;> first | (cases ej; done) | skip
              cases ej
              cases r2
              dsimp only at q2
              split at q2
              · rename_i hcl
                cases e5 : putF Cf (.ref n) mi (.int (if ng then i - j else i + j)) st2 with
                | none => rw [e5] at q2; exact q2.elim
                | some st3 =>
                  rw [e5] at q2
                  refine ⟨i, j, rfl, rfl, ?_⟩
                  obtain ⟨a', c', dx', fs', ea, hH', hc', hl', k1, k2⟩ := putF_ok rh2 (xo := .ref a) (.inl (.ref (pre_get ad2.r ga))) (.int _) hmi e5
                  cases ea
                  unfold clsIs at hcl
                  cases e6 : asIns st2 (.ref n) with
                  | none => rw [e6] at hcl; cases hcl
                  | some p6 =>
                    obtain ⟨n6, c6, f6⟩ := p6
                    rw [e6] at hcl
                    have hc6 : c6 = c := by simpa using hcl
                    subst hc6
                    obtain ⟨_, _, a6, dx6, gs6, ea6, _, hH6, _⟩ := RB.ins rh2 (x := .ref a) (.inl (.ref (pre_get ad2.r ga))) e6
                    cases ea6
                    rw [hH'] at hH6
                    have ec : M.ca c' = M.ca c6 := by injection hH6 with hH6; injection hH6
                    rw [ec] at hH' k1 k2
                    exact ⟨dx', fs', hH', hl', q2 σ _ Z2 ρ2 ((s1.adv ad2 rh2).adv k2 k1)⟩
              · exact q2.elim
          · cases e0
        · cases e0
  cases ng with
  | true => exact (ps_fldaug ho (pe_frz he) (in_sub)).weak fun D σ H q => main D σ H q
  | false => exact (ps_fldaug ho (pe_frz he) (in_add)).weak fun D σ H q => main D σ H q
end
end Lk
set_option Elab.async false
set_option linter.all false
set_option maxRecDepth 100000
set_option autoImplicit false
set_option maxHeartbeats 1000000
/-! LkF4: loops over one's own list; parallel stores; raise; try; pop. -/
namespace Lk
open PySem PySem.Spec L2 PyProof.Rows
section
variable {X : Cx} {M : Nm} {W : WX} {x y z o : Expr} {xs : List Expr} {pos p apos spos : Pos} {fa fb fc : Env → Store → Res Val} {fr fk fs ft : Env → Store → Res Rv} {fl : Env → Store → Res (List Val)} {g g1 g2 : Env → Store → SRes} {gb : Env → Store → Res Bool}
/-! ### a loop over one's own list -/
theorem s_forO {t : Tg} {tg : Expr} {i : Nat} {n : Str} {pn : Pos} {b : List Stmt} (hp : PassesOwn (model X.prog X.w) X.A X.env X.xe) (hc : X.calm = true) (hN : X.N[i]? = some n) (hv : Vis X.env.scope n) (hd : (n == ("__debug__" : Str)) = false) (hcd : (n == ("__classdict__" : Str)) = false)
    (hg : PG X tg (tgG X.K t)) (hb : PSs X b (TSm X.K M W g)) :
    PS X (.For tg (.Name n pn) b [] pos) (TSm X.K M W fun env st => match env[i]? with
      | some (some (true, .lst xs)) => unlock i xs (forLoop t g xs (env.set i (some (true, .non))) st)
      | _ => .bad) := by
  have hi : PI X tg (.Name n pn) (fun σ H R => ∃ a xs, σ[i]? = some (some (.ref a)) ∧ H a = some (.lst xs) ∧ R (Itl X.K a) H) := by
    refine ⟨fun pins s σ H R I ⟨a, xs, ea, hH, q⟩ => ?_⟩
    refine thn ((pe_var hN hv hd hcd).run pins s σ H (fun w H1 => w = .ref a ∧ H1 = H) I ⟨_, ea, rfl, rfl⟩) fun u s1 ⟨w, H1, I1, rw', e1, e2⟩ => ?_
    subst e1; subst e2
    cases rw'
    obtain ⟨its, rv, pl, _⟩ := I1.list (.inl (.inl hH))
    refine wpAny_pyIter_list pl.isList ⟨s1.heap.objs.size, _, _, _, H1, rfl, I1.kept (t' := s1.toks) fun b o e => Heap.get?_push_of_some _ e, turn_list a _, ⟨_, Heap.get?_push_size _ rfl, rfl, rfl⟩, fun b hb => ?_, q⟩
    have e : b = s1.heap.objs.size := by simpa using hb
    subst e
    exact I1.fpOk (Nat.le_refl _) (I1.hok.fresh (Nat.le_refl _))
  refine (ps_for hp hc hi hg hb (fun _ => rfl)).weak fun D σ H ⟨B, Z, ρ, env, st, s, q⟩ => ?_
  dsimp only at q
  split at q
  · rename_i vs e
    obtain ⟨a, ea, h1, h2, h3, xs, h4, h5, h6⟩ := s.e.own i _ e (fun z => nomatch z)
    refine ⟨a, xs, ea, h4, ?_⟩
    -- the base with the list in it
    let B1 := B.to H Z ρ (fun b => b = a) (fun j => if j = i then some a else B.lk j)
    have s1 : RS X.K M B1 H Z ρ σ (env.set i (some (true, .non))) st := by
      refine ⟨s.h, ⟨by simp [s.e.len], fun j v ej => ?_, fun j v ej nn => ?_, fun j k c v w e1 n1 e2 n2 e3 e4 => ?_⟩, ⟨ZLe.refl _, List.prefix_rfl, fun c o e1 e2 e3 => ⟨to_some e1, e2, e3⟩, fun c ec z => ?_⟩, fun c ec => ?_, fun j ej => ?_⟩
      · rcases getset ej with ⟨_, _, z⟩ | ⟨nj, ej⟩
        · cases z
        · exact s.e.val j v ej
      · rcases getset ej with ⟨_, _, z⟩ | ⟨nj, ej⟩
        · exact absurd (congrArg Prod.snd (Option.some.inj z)) nn
        · obtain ⟨c, g1, g2, g3, g4, g5⟩ := s.e.own j v ej nn
          have nc : ¬ c = a := fun z => nj (s.e.dis j i a v _ ej nn e (fun z => nomatch z) (by rw [g1, z]) ea)
          exact ⟨c, g1, to_none g3 g4 g2 nc, g3, g4, g5⟩
      · rcases getset e1 with ⟨_, _, z⟩ | ⟨nj, e1⟩
        · exact absurd (congrArg Prod.snd (Option.some.inj z)) n1
        · rcases getset e2 with ⟨_, _, z⟩ | ⟨nk, e2⟩
          · exact absurd (congrArg Prod.snd (Option.some.inj z)) n2
          · exact s.e.dis j k c v w e1 n1 e2 n2 e3 e4
      · cases hq : B1.H c with
        | none => exact ec hq
        | some u => rw [to_some hq] at z; cases z
      · constructor
        · cases hq : Z c with
          | none => exact hq
          | some u =>
            have ec : (B.to H Z ρ (fun b => b = a) (fun j => if j = i then some a else B.lk j)).H c = none := ec
            rw [to_Z (by rw [hq]; exact fun z => nomatch z), s.h.zin c u hq] at ec
            cases ec
        · intro m
          have m : c ∈ ρ := m
          have ec : (B.to H Z ρ (fun b => b = a) (fun j => if j = i then some a else B.lk j)).H c = none := ec
          rw [to_r m] at ec
          exact s.h.there m ec
      · rcases getset ej with ⟨rfl, _, _⟩ | ⟨nj, ej⟩
        · exact ⟨a, by show (if _ then _ else _) = _; rw [if_pos rfl], ea⟩
        · obtain ⟨c, g1, g2⟩ := s.k j ej
          exact ⟨c, by show (if _ then _ else _) = _; rw [if_neg nj]; exact g1, g2⟩
    have ba : B1.H a = some (.lst xs) := by
      show (B.to H Z ρ (fun b => b = a) (fun j => if j = i then some a else B.lk j)).H a = _
      rw [to_kp (kp := fun b => b = a) rfl]; exact h4
    have back : ∀ {H' Z' : Hp} {ρ' : List Addr} {σ' : L2.St} {env' : Env} {st' : Store} (r : RS X.K M B1 H' Z' ρ' σ' env' st') (u : Slot), u ≠ some (true, .non) → (∀ v, u ≠ some (false, v)) → (∀ v, u = some (true, v) → σ'[i]? = some (some (.ref a)) ∧ RW X.K B.H H' Z' ρ' a v) → RS X.K M B H' Z' ρ' σ' (env'.set i u) st' := by
      intro H' Z' ρ' σ' env' st' r u un uf uo
      have re := re_of_to s r.e
      have ad := adv_of_to s r.a
      refine ⟨r.h, ⟨by simp [re.len], fun j v ej => ?_, fun j v ej nn => ?_, fun j k c v w e1 n1 e2 n2 e3 e4 => ?_⟩, ad, s.z, fun j ej => ?_⟩
      · rcases getset ej with ⟨_, _, z⟩ | ⟨nj, ej⟩
        · exact absurd z.symm (uf v)
        · exact re.val j v ej
      · rcases getset ej with ⟨rfl, _, z⟩ | ⟨nj, ej⟩
        · obtain ⟨k1, k2⟩ := uo v z.symm
          exact ⟨a, k1, k2⟩
        · exact re.own j v ej nn
      · have sep : ∀ {j : Nat} {v : Val}, env'[j]? = some (some (true, v)) → v ≠ .non → σ'[j]? = some (some (.ref a)) → False := fun {j v} ej nn es => by
          obtain ⟨c, g1, g2, _⟩ := r.e.own j v ej nn
          rw [es] at g1
          cases g1
          rw [ba] at g2; cases g2
        rcases getset e1 with ⟨rfl, _, z⟩ | ⟨nj, e1'⟩
        · rcases getset e2 with ⟨rfl, _, z2⟩ | ⟨nk, e2'⟩
          · rfl
          · obtain ⟨k1, _⟩ := uo v z.symm
            rw [k1] at e3
            cases e3
            exact (sep e2' n2 e4).elim
        · rcases getset e2 with ⟨rfl, _, z2⟩ | ⟨nk, e2'⟩
          · obtain ⟨k1, _⟩ := uo w z2.symm
            rw [k1] at e4
            cases e4
            exact (sep e1' n1 e3).elim
          · exact re.dis j k c v w e1' n1 e2' n2 e3 e4
      · rcases getset ej with ⟨rfl, _, z⟩ | ⟨nj, ej⟩
        · exact absurd z.symm un
        · obtain ⟨c, g1, g2⟩ := r.k j ej
          have g1 : (if j = i then some a else B.lk j) = some c := g1
          rw [if_neg nj] at g1
          exact ⟨c, g1, g2⟩
    have q1 : SPost X.K M B1 W D (forLoop t g vs (env.set i (some (true, .non))) st) := by
      cases hr : forLoop t g vs (env.set i (some (true, .non))) st with
      | bad => rw [hr] at q; exact q
      | rt rv st2 =>
        rw [hr] at q
        exact fun x H Z ρ k1 k2 k3 => q x H Z ρ (adv_of_to s k1) k2 (rr_of_to s k3)
      | exc c fs env2 st2 =>
        rw [hr] at q
        exact fun d σ' H' Z' ρ' r rx => q d σ' H' Z' ρ' (back r none (fun z => nomatch z) (fun _ z => nomatch z) (fun _ z => nomatch z)) rx
      | nx env2 st2 =>
        rw [hr] at q
        simp only [unlock] at q
        split at q
        · rename_i e2
          intro σ' H' Z' ρ' r
          refine q σ' H' Z' ρ' (back r _ (fun z => nomatch z) (fun _ z => nomatch z) fun v ev => ?_)
          cases ev
          obtain ⟨c, g1, g2⟩ := r.k i e2
          have g1 : (if i = i then some a else B.lk i) = some c := g1
          rw [if_pos rfl] at g1
          cases g1
          obtain ⟨k1, k2, k3⟩ := r.a.fr a _ ba h2 h3
          exact ⟨g2, h1, k2, k3, xs, k1, h5.mono r.a.z r.a.r, h6⟩
        · exact q.elim
    refine for_turns (Ok := okA B1.H Z ρ) s1 (wk_list (xs := xs) h6 fun H1 Z1 ρ1 st1 ok rh1 => ?_) (fun _ _ _ k => k) q1
    obtain ⟨k1, k2, k3⟩ := ok.fr a _ ba h2 h3
    exact ⟨.inl (.inl k1), h5.mono ok.z ok.r⟩
  · exact q.elim

/-! ### parallel stores -/
inductive ROs (K : PySem.W.Frag) (Hb H Z : Hp) (ρ : List Addr) : List V → List Rv → Prop
  | nil : ROs K Hb H Z ρ [] []
  | cons {x : V} {r : Rv} {xs : List V} {rs : List Rv} : RR K Hb H Z ρ x r → ROs K Hb H Z ρ xs rs → (r.1 = true → ∀ (j : Nat) (q : Rv), rs[j]? = some q → q.1 = true → xs[j]? ≠ some x) → ROs K Hb H Z ρ (x :: xs) (r :: rs)
def TOs (K : PySem.W.Frag) (M : Nm) (W : WX) (f : Env → Store → Res (List Rv)) : TA := fun σ H Q => ∃ Hb Z ρ env st, RH K M H Z ρ st ∧ RE K Hb H Z ρ σ env ∧ After K M H Z ρ (fun c d H' => W c d σ H') (f env st) fun vs st' =>
  ∀ xs H' Z' ρ', Adv H Z ρ H' Z' ρ' → RH K M H' Z' ρ' st' → ROs K H H' Z' ρ' xs vs → Q xs H'
theorem RR.adv {K : PySem.W.Frag} {Hb H Z H' Z' : Hp} {ρ ρ' : List Addr} {x : V} {rv : Rv} (ad : Adv H Z ρ H' Z' ρ') (r : RR K Hb H Z ρ x rv) : RR K Hb H' Z' ρ' x rv := by
  obtain ⟨o, v⟩ := rv
  cases o with
  | false => exact RV.mono ad.z ad.r r
  | true => obtain ⟨a, e, q⟩ := r; exact ⟨a, e, q.adv ad⟩
theorem ROs.backR {K : PySem.W.Frag} {Hb H Z H1 : Hp} {ρ : List Addr} (th : ∀ a, Hb a ≠ none → H1 a ≠ none) : ∀ {xs : List V} {rs : List Rv}, ROs K H1 H Z ρ xs rs → ROs K Hb H Z ρ xs rs
  | _, _, .nil => .nil
  | _, _, .cons h r d => .cons (h.back th) (ROs.backR th r) d
theorem RR.there {K : PySem.W.Frag} {Hb H Z : Hp} {ρ : List Addr} {a : Addr} {rv : Rv} (r : RR K Hb H Z ρ (.ref a) rv) (o : rv.1 = true) : Hb a = none ∧ Z a = none ∧ a ∉ ρ ∧ H a ≠ none := by
  obtain ⟨o', v⟩ := rv
  cases o
  obtain ⟨b, e, h1, h2, h3, h4⟩ := r
  cases e
  refine ⟨h1, h2, h3, ?_⟩
  cases v <;> first | exact h4.elim | (obtain ⟨_, h4, _⟩ := h4; rw [h4]; exact fun z => nomatch z)
theorem ROs.get {K : PySem.W.Frag} {Hb H Z : Hp} {ρ : List Addr} : ∀ {xs : List V} {rs : List Rv} {j : Nat} {x : V} {q : Rv}, ROs K Hb H Z ρ xs rs → xs[j]? = some x → rs[j]? = some q → RR K Hb H Z ρ x q
  | _, _, _, _, _, .nil, e, _ => by simp at e
  | _, _, 0, _, _, .cons h _ _, e1, e2 => by simp at e1 e2; subst e1; subst e2; exact h
  | _, _, j + 1, _, _, .cons _ r _, e1, e2 => ROs.get (j := j) r (by simpa using e1) (by simpa using e2)
theorem o_nil : PA X [] (TOs X.K M W fun _ st => .ok [] st) := pa_nil.weak fun σ H Q ⟨Hb, Z, ρ, env, st, rh, re, q⟩ => q [] H Z ρ Adv.refl rh .nil
theorem o_cons {fo : Env → Store → Res (List Rv)} (ns : noStar x = true) (h : PE X x (TR X.K M W fr)) (hr : PA X xs (TOs X.K M W fo)) :
    PA X (x :: xs) (TOs X.K M W fun env st => (fr env st).bind fun v st => (fo env st).bind fun ys st => .ok (v :: ys) st) :=
  (pa_cons h hr (starEach_no ns)).weak fun σ H Q ⟨Hb, Z, ρ, env, st, rh, re, q⟩ => by
    refine ⟨Hb, Z, ρ, env, st, rh, re, q.bind.mono fun rv st1 q1 x1 H1 Z1 ρ1 a1 rh1 r1 => ?_⟩
    refine ⟨Hb, Z1, ρ1, env, st1, rh1, re.adv a1, (q1.bind.adv a1 fun _ _ k => k).mono fun vs st2 q2 ys H2 Z2 ρ2 a2 rh2 r2 => ?_⟩
    refine q2 (x1 :: ys) H2 Z2 ρ2 (a1.trans a2) rh2 (.cons (RR.adv a2 r1) (r2.backR a1.th) fun o j qv e2 oq e1 => ?_)
    obtain ⟨o1, v1⟩ := rv
    cases o
    obtain ⟨a, rfl, r1'⟩ := r1
    have k1 := (RR.there (rv := (true, v1)) ⟨a, rfl, r1'⟩ rfl).2.2.2
    exact k1 (RR.there (r2.get e1 e2) oq).1
theorem RS.setOs : ∀ {is : List Nat} {xs : List V} {rs : List Rv} {K : PySem.W.Frag} {B : Base} {H Z : Hp} {ρ : List Addr} {σ : L2.St} {env env' : Env} {st : Store}, RS K M B H Z ρ σ env st → ROs K B.H H Z ρ xs rs →
    (∀ (j i : Nat) (a : Addr) (q : Rv) (v : Val), xs[j]? = some (.ref a) → rs[j]? = some q → q.1 = true → env[i]? = some (some (true, v)) → v ≠ .non → σ[i]? ≠ some (some (.ref a))) → setOs is rs env = some env' → RS K M B H Z ρ (setSs is xs σ) env' st ∧ xs.length = is.length
  | [], _, _, _, _, _, _, _, _, _, _, _, s, .nil, _, e => by cases e; exact ⟨s, rfl⟩
  | [], _, _, _, _, _, _, _, _, _, _, _, _, .cons _ _ _, _, e => by cases e
  | _ :: _, _, _, _, _, _, _, _, _, _, _, _, _, .nil, _, e => by cases e
  | i :: is, _, _, K, B, H, Z, ρ, σ, env, env', st, s, .cons (x := x) (r := r) (xs := xs) (rs := rs) h hr hd, hn, e => by
    have s1 : RS K M B H Z ρ (σ.set i (some x)) (env.set i (some r)) st := by
      refine ⟨s.h, s.e.setR h fun o j a nj ej ex v nn ev => ?_, s.a, s.z, fun j ej => ?_⟩
      · subst ex
        exact hn 0 j a r v rfl rfl o ev nn ej
      · rcases getset ej with ⟨_, _, z⟩ | ⟨nj, ej⟩
        · exact absurd (Option.some.inj z).symm h.nn
        · obtain ⟨a, g1, g2⟩ := s.k j ej
          exact ⟨a, g1, by rw [List.getElem?_set_ne (Ne.symm nj)]; exact g2⟩
    obtain ⟨g1, g2⟩ := RS.setOs (is := is) s1 hr (fun j k a q v e1 e2 o e3 nn e4 => by
      rcases getset e3 with ⟨rfl, l, z⟩ | ⟨nk, e3⟩
      · cases z
        rw [List.getElem?_set_self (by rw [s.e.len]; exact l)] at e4
        cases e4
        exact hd rfl j q e2 o e1
      · rw [List.getElem?_set_ne (Ne.symm nk)] at e4
        exact hn (j + 1) k a q v (by simpa using e1) (by simpa using e2) o e3 nn e4) e
    exact ⟨g1, by simp [g2]⟩
theorem s_asgP {i j : Nat} {n m : Str} {px py pt pt2 : Pos} {kt k2 : Nat} {fo : Env → Store → Res (List Rv)} (hc : X.calm = true) (hN : X.N.Nodup) (hi : X.N[i]? = some n) (hj : X.N[j]? = some m) (hij : i ≠ j)
    (hx : X.env.scope.names.lookup n = some .local) (hy : X.env.scope.names.lookup m = some .local) (ha : PA X [x, y] (TOs X.K M W fo))
    (hw : swappedStores [.Tuple [.Name n px, .Name m py] kt pt] (.Tuple [x, y] k2 pt2) X.env = pure (some [n, m])) :
    PS X (.Assign [.Tuple [.Name n px, .Name m py] kt pt] (.Tuple [x, y] k2 pt2) pos) (TSm X.K M W fun env st => (fo env st).inS env fun vs st => match setOs [i, j] vs env with
      | some env => .nx env st
      | none => .bad) :=
  (ps_par hc hN hi hj hij hx hy ha hw rfl).weak fun D σ H ⟨B, Z, ρ, env, st, s, q⟩ => by
    refine ⟨B.H, Z, ρ, env, st, s.h, s.e, q.aft s fun rs st1 q1 xs H1 Z1 ρ1 ad rh1 r => ?_⟩
    have s1 := s.adv ad rh1
    cases e : setOs [i, j] rs env with
    | none => rw [e] at q1; exact q1.elim
    | some env' =>
      rw [e] at q1
      obtain ⟨g1, g2⟩ := RS.setOs (is := [i, j]) s1 (r.backR s.a.th) (fun j i a q v e1 e2 o e3 nn e4 => by
        have k1 := (RR.there (r.get e1 e2) o).1
        exact (s.e.ownH e3 nn e4).2.2.2 k1) e
      match xs, g2 with
      | [v, w], _ => exact ⟨v, w, rfl, q1 _ H1 Z1 ρ1 g1⟩
theorem s_unp {tg : Expr} {is : List Nat} (hg : PG X tg (tgG X.K (.tp is))) (he : PE X x (TB X.K M W fa)) (hs : swapsWithSole [tg] x pos.line X.env = pure false) (hw : swappedStores [tg] x X.env = pure none)
    (h1 : (assignEach [tg] X.env).map (·.2) = [assign tg X.env]) : PS X (.Assign [tg] x pos) (TSm X.K M W fun env st => (fa env st).inS env fun v st => match setTg (.tp is) v env with
      | some env => .nx env st
      | none => .bad) :=
  (ps_asg he hg hs hw h1).weak fun D σ H ⟨B, Z, ρ, env, st, s, q⟩ => by
    refine ⟨B.H, Z, ρ, env, st, s.h, s.e, q.aft s fun v st1 q1 x1 H1 Z1 ρ1 ad rh1 r => ?_⟩
    cases e : setTg (.tp is) v env with
    | none => rw [e] at q1; exact q1.elim
    | some env' =>
      rw [e] at q1
      have rv : RV X.K Z1 ρ1 x1 v := by
        rcases r with r | ⟨_, _, _, _, f⟩
        · exact r
        · cases v <;> first | exact f.elim | (simp only [setTg] at e; cases e)
      exact (s.adv ad rh1).tg rv e fun σ' s' => q1 σ' H1 Z1 ρ1 s'
/-! ### pop -/
theorem c_pop (ns : noStar y = true) (h1 : noSup x = true) (hl : (apos.endLine == p.line) = true) (ho : PE X x (TB X.K M W fa)) (hi : PE X y (TR X.K M W fr)) :
    PE X (.Call (.Attribute x "pop" apos) [y] [] p) (TR X.K M W fun env st => (fa env st).bind fun o st => if (asList st o).isSome then (fr env st).bind fun i st => popOp o i.2 st else .bad) :=
  (pe_bm PySem.F.plainAttrs_list PySem.F.slot_list_pop PySem.F.type_list_pop mt_popAt ho (pa_cons (pe_frz hi) pa_nil (starEach_no ns)) (base_of h1) (few_of (by simp [ns]) (by simp)) hl (starEach_no ns) rfl).weak fun σ H Q ⟨Hb, Z, ρ, env, st, rh, re, q⟩ => by
    refine ⟨Hb, Z, ρ, env, st, rh, re, q.bind.mono fun o st1 q1 x1 H1 Z1 ρ1 a1 rh1 r1 => ?_⟩
    split at q1
    · rename_i hL
      obtain ⟨vs, e⟩ := Option.isSome_iff_exists.mp hL
      obtain ⟨a, xs, rfl, hH, _, _⟩ := r1.list rh1 e
      refine ⟨.inl ⟨rfl, xs, .inl (.inl hH)⟩, Hb, Z1, ρ1, env, st1, rh1, re.adv a1, (q1.bind.adv a1 fun _ _ k => k).mono fun iv st2 q2 y2 H2 Z2 ρ2 a2 rh2 r2 => ?_⟩
      unfold popOp at q2
      split at q2
      · rename_i n i ei
        rw [ei] at r2
        cases r2
        split at q2
        · rename_i ws es
          split at q2
          · rename_i j ej
            split at q2
            · rename_i v ev
              have r1' := r1.adv a2
              rcases r1' with r1' | ⟨_, _, _, _, f⟩
              · cases r1' with
                | ref er =>
                  obtain ⟨zs, g1, g2, g3⟩ := rh2.obj _ _ _ er es
                  obtain ⟨w, gw, rw'⟩ := g2.get ev
                  obtain ⟨k1, k2, k3, k4⟩ := ixN_seq (by rw [← ixOf_eq]; exact ej)
                  have hz : zs.length = ws.length := g2.length
                  have hml : maxLen = 100000 := rfl
                  refine ⟨a, zs, i, j, w, rfl, rfl, g1, by omega, by omega, by rw [hz]; exact k1, gw, ?_⟩
                  obtain ⟨p1, p2⟩ := rh2.putO (o := .lst (zs.eraseIdx j)) (ob := .lst (ws.eraseIdx j)) er ⟨_, upd_same, g2.eraseIdx j, by have := len_erase ws j; omega⟩
                  exact q2 w _ Z2 ρ2 ((a1.trans a2).trans p2) p1 rw'
              · exact f.elim
            · exact q2.elim
          · exact q2.elim
        · exact q2.elim
      · exact q2.elim
    · exact q1.elim
end
end Lk
set_option Elab.async false
set_option linter.all false
set_option maxRecDepth 100000
set_option autoImplicit false
set_option maxHeartbeats 1000000
/-! LkF5: raise, try. -/
namespace Lk
open PySem PySem.Spec L2 PyProof.Rows
section
variable {X : Cx} {M : Nm} {W : WX} {x y z o : Expr} {xs : List Expr} {pos p apos spos : Pos} {fa fb fc : Env → Store → Res Val} {fr fk fs ft : Env → Store → Res Rv} {fl : Env → Store → Res (List Val)} {g g1 g2 : Env → Store → SRes} {n : Str} {c : Nat}
/-- X(), X an own exception class without own __init__ -/
theorem pmk_own0 {C : Addr} {bmB : List Value} {B newId initId : String} (F : ExcBaseFacts B newId initId bmB) (q : PySem.W.excIn X.K C bmB newId = true) (gC : X.mg n = some (.ref C)) (kC : PySem.W.keepIn X.K (.ref C) = true) (r : Raises X (.ref C)) (hg : Gl X n)
    (hdb : (n == ("__debug__" : Str)) = false) : PMk X (.Call (.Name n p) [] [] pos) (fun _ H Q => Q (.ref C) none H) := by
  intro pins s σ H Q I h
  refine wpAny_Call_Name_kw (ld_glob I hg gC ?_ hdb)
  refine PySem.W.callWith_K0 I.kIn kC ?_
  obtain ⟨bm, N, nm, qn, bs, hdct, sn, sub, ab, col, dd, k0, k1, k2, k3, k5, mN, hC, hN, hni, T⟩ := exc_obj I.kIn q
  refine wpAny_call_exc_subT F T hC hN hni (fun h' e hm => ?_) (Nat.zero_le _)
  exact mk_of I hm r h (I.hok.gone hm.new)
/-- an exception class of the text: with the name of its one field, or without -/
structure XcAt (P : Program) (w : World) (K : PySem.W.Frag) (mg : Str → Option Value) (base : Heap) (M : Nm) (n : Str) (c : Nat) (fo : Option Nat) : Prop where
  gl : mg n = some (.ref (M.xa c))
  kp : PySem.W.keepIn K (.ref (M.xa c)) = true
  ex : PySem.W.subIn K (.ref (M.xa c)) (.type "BaseException") = some true
  ty : PySem.W.typeIn K (.ref (M.xa c)) = some (.type "type")
  db : (n == ("__debug__" : Str)) = false
  no : fo = none → ∃ (bmB : List Value) (B newId initId : String), ExcBaseFacts B newId initId bmB ∧ PySem.W.excIn K (M.xa c) bmB newId = true
  yes : ∀ f, fo = some f → f < 100 ∧ OexC K (M.xa c) ∧ PySem.W.findIn K (.ref (M.xa c)) (M.an f) = some none ∧ ∃ (fI : Addr) (fd : FuncData) (ps : List Str), PySem.W.findIn K (.ref (M.xa c)) "__init__" = some (some (.ref fI)) ∧ PySem.W.typeIn K (.ref fI) = some (.type "function") ∧ Binds K fd ps [] ∧
    FnOk P w K mg base (L2.CX P w) 1 fI fd ps (fun vs H Q _ => ∃ a v, vs = [.ref a, v] ∧ H a = some (exo a (M.xa c) none) ∧ ∀ d, H d = none → d ≠ a → Q .non (upd (upd H d (exd d [(M.an f, v)])) a (exo a (M.xa c) (some d))))
theorem s_rse0 (hc : X.calm = true) (tk : Takes X W) (T : XcAt X.prog X.w X.K X.mg X.base M n c none) (hg : Gl X n) : PS X (.Raise (some (.Call (.Name n p) [] [] spos)) none pos) (TSm X.K M W fun env st => .exc c [] env st) := by
  obtain ⟨bmB, B, newId, initId, F, q⟩ := T.no rfl
  exact (ps_raise hc tk (pmk_own0 F q T.gl T.kp (raises_own T.ex T.ty) hg T.db)).weak fun D σ H ⟨B, Z, ρ, env, st, s, q⟩ => q none σ H Z ρ s (.inl ⟨rfl, rfl⟩)
theorem s_rse1 {f k : Nat} (hc : X.calm = true) (tk : Takes X W) (T : XcAt X.prog X.w X.K X.mg X.base M n c (some f)) (hg : Gl X n) (hr : Room (k + 2) X.A) (ns : noStar x = true) (he : PE X x (TR X.K M W fr)) :
    PS X (.Raise (some (.Call (.Name n p) [x] [] spos)) none pos) (TSm X.K M W fun env st => (fr env st).inS env fun v st => .exc c [(f, v.2)] env st) := by
  obtain ⟨hf, O, fi, fI, fd, ps, h1, h2, h3, F⟩ := T.yes f rfl
  refine (ps_raise hc tk (pmk_oex (ds := []) (dvs := []) O h1 h2 F (hr.mono (j := 2) (by omega)) h3 .nil passL hg T.gl (pa_cons (pe_frz he) pa_nil (starEach_no ns)) T.db (starEach_no ns) rfl)).weak fun D σ H ⟨B, Z, ρ, env, st, s, q⟩ => ?_
  refine ⟨B.H, Z, ρ, env, st, s.h, s.e, q.aft s fun rv st1 q1 x1 H1 Z1 ρ1 ad rh1 r => ⟨by show 1 ≤ 1000; omega, fun a na => ?_⟩⟩
  refine ⟨a, x1, rfl, upd_same, fun d nd ne => ⟨rfl, d, [(M.an f, x1)], upd_same, ?_, ?_, ?_⟩⟩
  · rw [upd_ne ne, upd_same]
  · rw [upd_ne ne] at nd; exact nd
  · rw [upd_ne ne] at nd
    have e : upd (del (upd (upd (upd H1 a (exo a (M.xa c) none)) d (exd d [(M.an f, x1)])) a (exo a (M.xa c) (some d))) a) d (.xd [(M.an f, x1)]) = upd H1 d (.xd [(M.an f, x1)]) := by
      funext b
      by_cases hb : b = d
      · rw [hb, upd_same, upd_same]
      · rw [upd_ne hb, upd_ne hb]
        by_cases ha : b = a
        · rw [ha, del_same, na]
        · rw [del_ne ha, upd_ne ha, upd_ne hb, upd_ne ha]
    rw [e]
    obtain ⟨g1, g2⟩ := rh1.newO (o := .xd [(M.an f, x1)]) nd
    exact q1 (some d) σ _ Z1 ρ1 ((s.adv ad rh1).adv g2 g1) (.inr ⟨d, _, rfl, upd_same, .cons hf r .nil⟩)
/-! ### the __init__ of such a class -/
theorem xinit {P : Program} {w : World} {K : PySem.W.Frag} {mg : Str → Option Value} {base : Heap} {q x : Str} {st : Stmt} {fI C : Addr} {fd : FuncData} {a b : Str} {f : Nat} {p1 p2 p3 pos : Pos} (F : Fun K x q st fI fd) (S : FnScope [a, b] [a, b] (defScope st))
    (hb : defBody st = [.Assign [.Attribute (.Name a p1) (M.an f) p2] (.Name b p3) pos]) (va : Vis (defScope st) a) (vb : Vis (defScope st) b) (da : (a == ("__debug__" : Str)) = false) (db : (b == ("__debug__" : Str)) = false) (ca : (a == ("__classdict__" : Str)) = false) (cb : (b == ("__classdict__" : Str)) = false)
    (O : OexC K C) (fi : PySem.W.findIn K (.ref C) (M.an f) = some none) :
    FnOk P w K mg base (L2.CX P w) 1 fI fd [a, b] (fun vs H Q _ => ∃ e v, vs = [.ref e, v] ∧ H e = some (exo e C none) ∧ ∀ d, H d = none → d ≠ e → Q .non (upd (upd H d (exd d [(M.an f, v)])) e (exo e C (some d)))) := by
  refine F.okX S (fun vs H Q E ⟨e, v, h, _⟩ => by rw [h]; rfl) fun cdv A outer s H vs Q E hr ⟨e, v, hv, he, hq⟩ => ?_
  refine ⟨_, by rw [hb]; exact pss_one (ps_ost (pe_var (i := 0) rfl va da ca) (pe_var (i := 1) rfl vb db cb) rfl), ?_⟩
  subst hv
  exact ⟨v, rfl, .ref e, rfl, e, C, rfl, O, fi, .inl ⟨he, fun d nd ne => hq d nd ne⟩⟩
/-! ### try -/
/-- the clauses -/
inductive HsOk (X : Cx) (M : Nm) : List ExceptHandler → List Hd → List (Value × (Addr → Value → Option Addr → TS)) → Prop
  | nil : HsOk X M [] [] []
  | cons {x : Str} {b₀ : Stmt} {suite : List Stmt} {np pos' : Pos} {hds : List ExceptHandler} {h : Hd} {hs : List Hd} {l : List (Value × (Addr → Value → Option Addr → TS))} {g : List (Nat × Val) → Env → Option Env} (hc : Names X x (.ref (M.xa h.cls))) (ha : h.as = none)
      (hgo : ∀ fs env, hsOp fs env h.suite = g fs env)
      (hsu : ∀ (a : Addr) (oe : Obj) (cls : Value) (d : Option Addr) (pn : List (Addr × Obj)), Zc cls d oe → (∃ vs, oe.data = .fields vs) →
        PSs (X.suite a ((a, oe) :: pn)) (b₀ :: suite) (fun D σ H => ∃ B Z ρ env st fs, RS X.K M B H Z ρ σ env st ∧ RX X.K M H Z ρ d fs ∧ ∃ env', g fs env = some env' ∧ SPost X.K M B (fun _ _ _ _ => False) D (.nx env' st)))
      (r : HsOk X M hds hs l) :
      HsOk X M (.ExceptHandler (some (.Name x np)) none (b₀ :: suite) pos' :: hds) (h :: hs) ((.ref (M.xa h.cls), fun _ _ d => fun D σ H => ∃ B Z ρ env st fs, RS X.K M B H Z ρ σ env st ∧ RX X.K M H Z ρ d fs ∧ ∃ env', g fs env = some env' ∧ SPost X.K M B (fun _ _ _ _ => False) D (.nx env' st)) :: l)
theorem HsOk.hds {hds : List ExceptHandler} {hs : List Hd} {l : List (Value × (Addr → Value → Option Addr → TS))} (h : HsOk X M hds hs l) : HdsOk X hds l := by
  induction h with
  | nil => exact .nil
  | cons hc ha hgo hsu r ih => exact .cons hc hsu ih
theorem HsOk.many {Wout : WX} {D : Ends} {B : Base} {H Z : Hp} {ρ : List Addr} {σ : L2.St} {env : Env} {st : Store} {d : Option Addr} {fs : List (Nat × Val)} {hds : List ExceptHandler} {hs : List Hd} {l : List (Value × (Addr → Value → Option Addr → TS))} (h : HsOk X M hds hs l)
    (hx : ∀ h ∈ hs, PySem.W.exmOne X.K (.ref (M.xa c)) (.ref (M.xa h.cls)) = some (decide (h.cls = c))) (s : RS X.K M B H Z ρ σ env st) (rx : RX X.K M H Z ρ d fs) (q : SPost X.K M B Wout D (handle c fs env st hs)) : wMany X.K Wout D l (.ref (M.xa c)) d σ H := by
  induction h with
  | nil => exact q d σ H Z ρ s rx
  | @cons x b₀ suite np pos' hds h hs l g hc ha hgo hsu r ih =>
    unfold handle at q
    by_cases e : h.cls = c
    · rw [if_pos e, ha] at q
      refine ⟨true, by rw [hx h (by simp)]; simp [e], fun _ a na => ?_, fun z => nomatch z⟩
      dsimp only at q
      rw [hgo] at q
      cases eg : g fs env with
      | none => rw [eg] at q; exact q.elim
      | some env' =>
        rw [eg] at q
        exact ⟨B, Z, ρ, env, st, fs, s, rx, env', eg, q⟩
    · rw [if_neg e] at q
      exact ⟨false, by rw [hx h (by simp)]; simp [e], (fun z => nomatch z), fun _ => ih (fun h hm => hx h (by simp [hm])) q⟩
theorem s_try {body : List Stmt} {h0 : ExceptHandler} {hds : List ExceptHandler} {hs : List Hd} {l : List (Value × (Addr → Value → Option Addr → TS))} {Cf : Cfg} (hst : X.stack = X.env :: X.outer) (hf : X.env.frame = some X.env.locals) (tk : Takes X W)
    (hx : ∀ c, (Cf.xf c).isSome = true → ∀ h ∈ hs, PySem.W.exmOne X.K (.ref (M.xa c)) (.ref (M.xa h.cls)) = some (decide (h.cls = c)))
    (hb : ∀ (W : WX) (pn : List (Addr × Obj)) (xe : Value → Shared → Prop), Takes (X.tr pn xe) W → PassesOwn (model X.prog X.w) X.A X.env xe → PSs (X.tr pn xe) body (TSm X.K M W g)) (hh : HsOk X M (h0 :: hds) hs l) :
    PS X (.Try body (h0 :: hds) [] [] pos) (TSm X.K M W fun env st => match g env st with
      | .exc c fs env st => if (Cf.xf c).isSome then handle c fs env st hs else .bad
      | r => r) :=
  (ps_try_many hst hf tk hb hh.hds).weak fun D σ H ⟨B, Z, ρ, env, st, s, q⟩ => by
    refine ⟨B, Z, ρ, env, st, s, ?_⟩
    dsimp only at q
    cases e : g env st with
    | nx env st => rw [e] at q; exact q
    | rt r st => rw [e] at q; exact q
    | bad => rw [e] at q; exact q
    | exc c fs env2 st2 =>
      rw [e] at q
      dsimp only at q
      split at q
      · rename_i hc
        exact fun d σ' H' Z' ρ' s' rx => hh.many (hx c hc) s' rx q
      · exact q.elim
/-- i = a constant, in an except suite -/
theorem hs_cst {i : Nat} {m : Str} {pn : Pos} {a : Addr} {oe : Obj} {pn' : List (Addr × Obj)} {d : Option Addr} {v : Val} {w : V} (hN : X.N.Nodup) (hi : X.N[i]? = some m) (hx : Loc X.env.scope m) (hf : X.fn m = true ∨ X.env.scope.names.lookup m = some .local)
    (he : PE (X.suite a ((a, oe) :: pn')) x (tC w)) (hr : ∀ Z ρ, RV X.K Z ρ w (flat v)) (hs : swapsWith x (some (.Name m pn)) pos.line X.env = pure false) :
    PSs (X.suite a ((a, oe) :: pn')) [.Assign [.Name m pn] x pos] (fun D σ H => ∃ B Z ρ env st fs, RS X.K M B H Z ρ σ env st ∧ RX X.K M H Z ρ d fs ∧ ∃ env', ((hxOp fs env (.cst v)).map fun v => env.set i (some (false, v))) = some env' ∧ SPost X.K M B (fun _ _ _ _ => False) D (.nx env' st)) :=
  (pss_one (ps_set (X := X.suite a ((a, oe) :: pn')) hN hi hx he hs hf)).weak fun D σ H ⟨B, Z, ρ, env, st, fs, s, rx, env', e, q⟩ => by
    cases e
    exact q _ H Z ρ (s.setV (hr Z ρ))
end
end Lk
set_option Elab.async false
set_option linter.all false
set_option maxRecDepth 100000
set_option autoImplicit false
set_option maxHeartbeats 1000000
/-! LkF6: a dict of the text, with texts for keys; more suites; -1. -/
namespace Lk
open PySem PySem.Spec L2 PyProof.Rows
/-- the dict at a, as the text's top left it -/
def GMap (P : Program) (w : World) (K : PySem.W.Frag) (a : Addr) (kvs : List (Val × Val)) : Prop :=
  (a == sysModules) = false ∧ (∀ i, dget kvs (.int i) = none) ∧ ∀ h : Heap, K.In h → ∃ f : Str → Option Value, h.MapOf (strKind P w) a f ∧
    ∀ z : Sn, (∀ v, dget kvs (.str z) = some v → ∃ x u, f (sv z) = some u ∧ RelV x u ∧ ∀ Z ρ, RV K Z ρ x v) ∧ (dget kvs (.str z) = none → f (sv z) = none)
section
variable {X : Cx} {M : Nm} {W : WX} {fr : Env → Store → Res Rv} {n : Str} {a : Addr} {kvs : List (Val × Val)} {y : Expr} {p pos : Pos}
theorem ix_gmap (G : GMap X.prog X.w X.K a kvs) : IxR X (fun x y H Q => ∃ z v, x = .ref a ∧ y = .str (sv z) ∧ dget kvs (.str z) = some v ∧ ∀ w, (∀ Z ρ, RV X.K Z ρ w v) → Q w H) := by
  intro value slice pins s σ H x y v u Q I rx ry h hs
  obtain ⟨z, val, rfl, rfl, e, q⟩ := h
  obtain rfl : v = Value.ref a := rx
  obtain ⟨t, rfl⟩ := ry
  obtain ⟨f, hm, hf⟩ := G.2.2 s.heap I.kIn
  obtain ⟨w, u0, e1, e2, e3⟩ := (hf z).1 val e
  exact tail_any hm.typeIs PySem.F.slot_dict_getitem.lookup (wpAny_getItem_of (strKind_is X.prog X.w (sv z) t) hm e1 ⟨w, H, I.tok _, e2, q w e3⟩) hs
theorem op_gnin (G : GMap X.prog X.w X.K a kvs) : OpR X (compareOp .NotIn) (fun x y H Q => ∃ z, x = .str (sv z) ∧ y = .ref a ∧ Q (.bl (!(dget kvs (.str z)).isSome)) H) := by
  intro pins s σ H x y v u Q I r1 r2 h
  obtain ⟨z, rfl, rfl, q⟩ := h
  obtain ⟨t, rfl⟩ := r1
  obtain rfl : u = Value.ref a := r2
  obtain ⟨f, hm, hf⟩ := G.2.2 s.heap I.kIn
  refine wpAny_notIn_of (strKind_is X.prog X.w (sv z) t) G.1 hm ?_
  cases e : dget kvs (.str z) with
  | none =>
    rw [e] at q
    rw [(hf z).2 e]
    exact ⟨.bl true, H, I.tok _, rfl, q⟩
  | some val =>
    rw [e] at q
    obtain ⟨w, u0, e1, _, _⟩ := (hf z).1 val e
    rw [e1]
    exact ⟨.bl false, H, I.tok _, rfl, q⟩
theorem c_gsub (G : GMap X.prog X.w X.K a kvs) (hg : Gl X n) (hm : X.mg n = some (.ref a)) (hd : (n == ("__debug__" : Str)) = false) (hs : PlainIx y) (hi : PE X y (TR X.K M W fr)) :
    PE X (.Subscript (.Name n p) y pos) (TR X.K M W fun env st => (fr env st).bind fun i st => Res.of (if keyOk i.2 then (dget kvs i.2).map fun v => (false, v) else none) st) :=
  (pe_ix (ix_gmap G) (pe_glob hg hm (v := .ref a) rfl hd) (pe_opd hi) hs).weak fun σ H Q ⟨Hb, Z, ρ, env, st, rh, re, q⟩ => by
    show TB X.K M W _ σ H _
    refine ⟨Hb, Z, ρ, env, st, rh, re, ?_⟩
    dsimp only at q ⊢
    cases e : fr env st with
    | bad => rw [e] at q; exact q.elim
    | exc c f s => rw [e] at q; exact q
    | ok i st1 =>
      rw [e] at q
      simp only [Res.bind_ok] at q ⊢
      obtain ⟨rv, e1, k⟩ := After.of q
      intro x H1 Z1 ρ1 ad rh1 r1
      obtain ⟨o, iv⟩ := i
      split at e1
      · rename_i ko
        obtain ⟨v, e2, rfl⟩ := Option.map_eq_some_iff.mp e1
        cases iv <;> first | (cases ko; done) | skip
        · rw [G.2.1] at e2; cases e2
        · rename_i z
          exact ⟨z, v, by trivial, (RB.str r1).1, e2, fun w rw' => Ok1.val rh1 (k.adv ad) (rw' Z1 ρ1)⟩
      · cases e1
theorem gnin_of {σ : L2.St} {H : Hp} {Q : VK} (q : TR X.K M W (fun env st => (fr env st).bind fun i st => Res.of (if isStr i.2 then some (false, .bl (!(dget kvs i.2).isSome)) else none) st) σ H Q) :
    TB X.K M W (fun env st => (fr env st).bind fun v st => .ok v.2 st) σ H fun x H1 => ∃ z, x = .str (sv z) ∧ V.ref a = .ref a ∧ Q (.bl (!(dget kvs (.str z)).isSome)) H1 := by
  obtain ⟨Hb, Z, ρ, env, st, rh, re, q⟩ := q
  refine ⟨Hb, Z, ρ, env, st, rh, re, ?_⟩
  dsimp only at q ⊢
  cases e : fr env st with
  | bad => rw [e] at q; exact q.elim
  | exc c f s => rw [e] at q; exact q
  | ok i st1 =>
    rw [e] at q
    simp only [Res.bind_ok] at q ⊢
    obtain ⟨rv, e1, k⟩ := After.of q
    intro x H1 Z1 ρ1 ad rh1 r1
    obtain ⟨o, iv⟩ := i
    split at e1
    · rename_i ko
      cases iv <;> first | (cases ko; done) | skip
      rename_i z
      cases e1
      exact ⟨z, (RB.str r1).1, by trivial, Ok1.bl rh1 (k.adv ad)⟩
    · cases e1
theorem c_gnin (G : GMap X.prog X.w X.K a kvs) (hg : Gl X n) (hm : X.mg n = some (.ref a)) (hd : (n == ("__debug__" : Str)) = false) (hi : PE X y (TR X.K M W fr)) :
    PE X (.Compare y [.NotIn] [.Name n p] pos) (TR X.K M W fun env st => (fr env st).bind fun i st => Res.of (if isStr i.2 then some (false, .bl (!(dget kvs i.2).isSome)) else none) st) :=
  (pe_cmpR (op_gnin G) (pe_opd hi) (pe_glob hg hm (v := .ref a) rfl hd) rfl).weak fun σ H Q q => gnin_of (a := a) q
theorem t_gnin (G : GMap X.prog X.w X.K a kvs) (hg : Gl X n) (hm : X.mg n = some (.ref a)) (hd : (n == ("__debug__" : Str)) = false) (hi : PE X y (TR X.K M W fr)) :
    PT X (.Compare y [.NotIn] [.Name n p] pos) (TT' X.K M W fun env st => (fr env st).bind fun i st => Res.of (if isStr i.2 then some (!(dget kvs i.2).isSome) else none) st) :=
  (pt_cmpR (op_gnin G) (pe_opd hi) (pe_glob hg hm (v := .ref a) rfl hd) rfl).weak fun σ H Q ⟨Hb, Z, ρ, env, st, rh, re, q⟩ => by
    refine ⟨Hb, Z, ρ, env, st, rh, re, ?_⟩
    dsimp only at q ⊢
    cases e : fr env st with
    | bad => rw [e] at q; exact q.elim
    | exc c f s => rw [e] at q; exact q
    | ok i st1 =>
      rw [e] at q
      simp only [Res.bind_ok] at q ⊢
      obtain ⟨rv, e1, k⟩ := After.of q
      intro x H1 Z1 ρ1 ad rh1 r1
      obtain ⟨o, iv⟩ := i
      split at e1
      · rename_i ko
        cases iv <;> first | (cases ko; done) | skip
        rename_i z
        cases e1
        exact ⟨z, (RB.str r1).1, by trivial, _, rfl, k H1 Z1 ρ1 ad rh1⟩
      · cases e1
/-- -i -/
theorem c_neg {i kk : Nat} {p1 : Pos} : PE X (.UnaryOp .USub (.Constant (.int (i : Int)) kk p1) pos) (TR X.K M W fun _ st => .ok (false, .int (-(i : Int))) st) :=
  (pe_un un_neg pe_int).weak fun σ H Q ⟨Hb, Z, ρ, env, st, rh, re, q⟩ => ⟨i, rfl, Ok1.int rh q⟩
/-! ### suites -/
/-- what a suite is asked -/
def TSu (K : PySem.W.Frag) (M : Nm) (d : Option Addr) (g : List (Nat × Val) → Env → Option Env) : TS := fun D σ H => ∃ B Z ρ env st fs, RS K M B H Z ρ σ env st ∧ RX K M H Z ρ d fs ∧ ∃ env', g fs env = some env' ∧ SPost K M B (fun _ _ _ _ => False) D (.nx env' st)
/-- found.append(a constant), in an except suite -/
theorem hs_app {i : Nat} {m : Str} {pn apos cp pos : Pos} {aa : Addr} {oe : Obj} {pn' : List (Addr × Obj)} {d : Option Addr} {v : Val} {w : V} {x : Expr} (hN : X.N[i]? = some m) (hv : Vis X.env.scope m) (hd : (m == ("__debug__" : Str)) = false) (hcd : (m == ("__classdict__" : Str)) = false)
    (ns : noStar x = true) (hl : (apos.endLine == cp.line) = true) (he : PE (X.suite aa ((aa, oe) :: pn')) x (tC w)) (hr : ∀ Z ρ, RV X.K Z ρ w (flat v)) :
    PSs (X.suite aa ((aa, oe) :: pn')) [.Expr (.Call (.Attribute (.Name m pn) "append" apos) [x] [] cp) pos] (TSu X.K M d fun fs env => hsOp fs env (.app i (.cst v))) := by
  have hx : PE (X.suite aa ((aa, oe) :: pn')) x (TR (X.suite aa ((aa, oe) :: pn')).K M (fun _ _ _ _ => False) fun _ st => .ok (false, flat v) st) := c_cst he hr
  refine (pss_one (s_app (X := X.suite aa ((aa, oe) :: pn')) (M := M) (W := fun _ _ _ _ => False) hN hv hd hcd ns hl hx)).weak fun D σ H ⟨B, Z, ρ, env, st, fs, s, rx, env', e, q⟩ => ?_
  refine ⟨B, Z, ρ, env, st, s, ?_⟩
  simp only [hsOp, hxOp, Option.bind_some] at e
  cases c : env[i]? with
  | none => rw [c] at e; cases e
  | some sl =>
    rw [c] at e
    cases sl with
    | none => cases e
    | some pp =>
      obtain ⟨o, u⟩ := pp
      cases o with
      | false => cases e
      | true =>
        cases u <;> first | (cases e; done) | skip
        rename_i xs
        dsimp only at e
        split at e
        · rename_i lt
          cases e
          have l1 : isL i env st = true := by unfold isL; rw [c]; rfl
          have l2 : change i env st (appV (flat v)) (appO (flat v)) = .nx (env.set i (some (true, .lst (xs ++ [flat v])))) st := by
            unfold change
            rw [c]
            simp only [appV, lt, if_true]
          dsimp only
          rw [l1, if_pos rfl]
          show SPost X.K M B (fun _ _ _ _ => False) D (change i env st (appV (flat v)) (appO (flat v)))
          rw [l2]
          exact q
        · cases e
/-- found = found + a number, in an except suite -/
theorem hs_inc {i : Nat} {m : Str} {pn pn2 ep pos : Pos} {aa : Addr} {oe : Obj} {pn' : List (Addr × Obj)} {d : Option Addr} {k : Int} {kk : Nat} {cp : Pos} (hNd : X.N.Nodup) (hN : X.N[i]? = some m) (hx : Loc X.env.scope m) (hf : X.fn m = true ∨ X.env.scope.names.lookup m = some .local)
    (hv : Vis X.env.scope m) (hd : (m == ("__debug__" : Str)) = false) (hcd : (m == ("__classdict__" : Str)) = false) :
    PSs (X.suite aa ((aa, oe) :: pn')) [.Assign [.Name m pn] (.BinOp (.Name m pn2) .Add (.Constant (.int k) kk cp) ep) pos] (TSu X.K M d fun fs env => hsOp fs env (.asg i (.inc i k))) := by
  refine (pss_one (ps_set (X := X.suite aa ((aa, oe) :: pn')) hNd hN hx (pe_op op_add (pe_var hN hv hd hcd) pe_int) rfl hf)).weak fun D σ H ⟨B, Z, ρ, env, st, fs, s, rx, env', e, q⟩ => ?_
  simp only [hsOp, hxOp] at e
  cases c : env[i]? with
  | none => rw [c] at e; cases e
  | some sl =>
    rw [c] at e
    cases sl with
    | none => cases e
    | some pp =>
      obtain ⟨o, u⟩ := pp
      cases u <;> first | (cases e; done) | skip
      rename_i j
      cases e
      obtain ⟨xv, e1, e2⟩ : ∃ xv, σ[i]? = some (some xv) ∧ xv = .int j := by
        cases o with
        | false =>
          obtain ⟨xv, g1, g2⟩ := s.e.val i _ c
          exact ⟨xv, g1, by cases g2; rfl⟩
        | true =>
          obtain ⟨a, _, _, _, _, f⟩ := s.e.own i _ c (fun z => nomatch z)
          exact f.elim
      subst e2
      exact ⟨.int j, e1, j, k, rfl, rfl, q _ H Z ρ (s.setV (.int (j + k)))⟩
end
end Lk
set_option Elab.async false
set_option linter.all false
set_option maxRecDepth 100000
set_option autoImplicit false
set_option maxHeartbeats 1000000
/-! LkS: sorted(set(xs)), xs a list of texts. -/
namespace Lk
open PySem PySem.Spec L2 PyProof.Rows

/-- the text of an entry -/
def etx (e : Int × Value) : Str := match e.2 with
  | .str x _ => x
  | _ => Str.empty
def TxE (w : World) (e : Int × Value) : Prop := ∃ k tk, e.2 = Value.str k tk ∧ e.1 = hashStr w k
/-- the set of texts at a, its members being those of ks -/
def SetS (w : World) (h : Heap) (a : Addr) (ks : List Str) : Prop :=
  ∃ o es ep t, h.get? a = some o ∧ o.ExactSet ∧ o.data = .set es ep t ∧ (∀ e ∈ es.toList, TxE w e) ∧ (es.toList.map etx).Nodup ∧ (∀ k, k ∈ es.toList.map etx ↔ k ∈ ks) ∧
    es.size ≤ ks.length ∧ t.fits es.size = true ∧ Ris t.place.toList ∧ (w.params.followText "set-order" = true ∨ t.led = true)
section
variable {P : Program} {w : World} {h h' : Heap} {a : Addr} {ks : List Str}
theorem SetS.keep (R : SetS w h a ks) (k : ∀ o, h.get? a = some o → h'.get? a = some o) : SetS w h' a ks := by
  obtain ⟨o, es, ep, t, ho, r⟩ := R
  exact ⟨o, es, ep, t, k o ho, r⟩
theorem txe_elems {l : List (Int × Value)} (g : ∀ e ∈ l, TxE w e) : ElemsOf (PySem.strKind P w) l := fun e he => by
  obtain ⟨k, tk, h1, h2⟩ := g e he
  exact ⟨⟨k, by rw [h1]; exact strKind_is P w k tk, h2⟩, by rw [h1] <;> rfl⟩
theorem txe_is {e : Int × Value} (g : TxE w e) (k : Str) : (PySem.strKind P w).is k e.2 = true ↔ etx e = k := by
  obtain ⟨k0, tk, h1, _⟩ := g
  have q := (PySem.strKind P w).is_eq_decide (strKind_is P w k0 tk) k
  unfold etx
  rw [h1, q, decide_eq_true_eq]
  exact ⟨fun z => z.symm, fun z => z.symm⟩
theorem txe_mem {l : List (Int × Value)} (g : ∀ e ∈ l, TxE w e) (k : Str) : k ∈ l.map etx ↔ ∃ e ∈ l, (PySem.strKind P w).is k e.2 = true := by
  rw [List.mem_map]
  constructor
  · rintro ⟨e, he, q⟩
    exact ⟨e, he, (txe_is (g e he) k).2 q⟩
  · rintro ⟨e, he, q⟩
    exact ⟨e, he, (txe_is (g e he) k).1 q⟩
theorem sets_none {ks : List Str} (ho : h.get? a = some { cls := .type "set", dict := none, data := .set #[] 0 (.fresh 0 0 (!w.params.followText "set-order")) }) : SetS w h a [] :=
  ⟨_, #[], 0, _, ho, ⟨rfl, rfl, rfl⟩, rfl, (fun e he => by simp at he), (by simp), (fun k => by simp), Nat.le_refl _, (by rfl), List.Pairwise.nil, by
    show _ ∨ (!w.params.followText "set-order") = true
    cases w.params.followText "set-order"
    · exact .inr rfl
    · exact .inl rfl⟩
end
section
variable {P : Program} {w : World} {A : Around} {E : Value → Shared → Prop} {s : Shared} {a : Addr} {ks : List Str}
/-- what an entry laid anew leaves -/
theorem sets_tail {g : Bool → Sem Unit} (hg : ∀ (b : Bool) (s₁ : Shared) (Q' : Unit → Shared → Prop), Q' () s₁ → wpAny (model P w) A (g b) Q' E s₁)
    {o : Obj} {es : Array (Int × Value)} {ep : Nat} {t : SetTable} (ho : s.heap.get? a = some o) (hex : o.ExactSet) (hd : o.data = .set es ep t)
    {es1 : Array (Int × Value)} {t2 : SetTable} (g1 : ∀ e ∈ es1.toList, TxE w e) (nd1 : (es1.toList.map etx).Nodup) (m1 : ∀ k, k ∈ es1.toList.map etx ↔ k ∈ ks)
    (hz : es1.size ≤ ks.length) (hb : ks.length < 65) (hf2 : t2.fits es1.size = true) (hr : Ris t2.place.toList) (hl : w.params.followText "set-order" = true ∨ t2.led = true) {wd : Bool} {R : Option Bool → Shared → Prop}
    (hR : ∀ h', Heap.SameBut a s.heap h' → SetS w h' a ks → R (some true) { s with heap := h' }) :
    wpAny (model P w) A (do
        storeSet a es1 t2
        if (!wd && t2.tooFull) = true then do
            g (relayAll t2 es1 (SetTable.grown es1.size)).2.2
            storeSet a (relayAll t2 es1 (SetTable.grown es1.size)).1 (relayAll t2 es1 (SetTable.grown es1.size)).2.1
            pure (some true)
          else pure (some true)) R E s := by
  have hb1 : es1.size < scanBound := by unfold scanBound; omega
  refine wpAny_bind (wpAny_storeSet_of ho hd ?_ (fits_of_scanBound hb1))
  have ho1 := store_at (es' := es1) (t' := t2) ho hd
  have sb1 := Heap.SameBut.update s.heap a (Obj.putSet es1 t2)
  split
  · have pm := relayAll_perm t2 es1 (SetTable.grown es1.size)
    have hf3 := relayAll_fits t2 es1 (SetTable.grown es1.size)
    have hr3 := relayAll_ris t2 es1 (SetTable.grown es1.size)
    have hl3 := relayAll_led t2 es1 (SetTable.grown es1.size)
    generalize relayAll t2 es1 (SetTable.grown es1.size) = Z at pm hf3 hr3 hl3 ⊢
    obtain ⟨es2, t3, gave⟩ := Z
    dsimp only at pm hf3 hr3 hl3 ⊢
    have hsz : es2.size = es1.size := by rw [← Array.length_toList, pm.length_eq, Array.length_toList]
    have hb2 : es2.size < scanBound := by rw [hsz]; exact hb1
    refine wpAny_bind (hg _ _ _ ?_)
    refine wpAny_bind (wpAny_storeSet_of ho1 rfl ?_ (fits_of_scanBound hb2))
    have ho2 := store_at (es' := es2) (t' := t3) ho1 rfl
    refine wpAny_pure (hR _ (sb1.trans (Heap.SameBut.update _ a _)) ?_)
    exact ⟨_, es2, _, t3, ho2, hex, rfl, fun e he => g1 e (pm.mem_iff.mp he), (pm.map etx).nodup_iff.mpr nd1, fun k => (pm.map etx).mem_iff.trans (m1 k), by rw [hsz]; exact hz, hf3, hr3,
      hl.imp id fun z => by rw [hl3]; exact z⟩
  · exact wpAny_pure (hR _ sb1 ⟨_, es1, _, t2, ho1, hex, rfl, g1, nd1, m1, hz, hf2, hr, hl⟩)
theorem sets_add {k : Str} {tk : Tok} {Q : Bool → Shared → Prop} (R : SetS w s.heap a ks) (hb : ks.length + 1 < 65)
    (hQ : ∀ b h', Heap.SameBut a s.heap h' → SetS w h' a (k :: ks) → Q b { s with heap := h' }) :
    wpAny (model P w) A (setAddHashed a (.str k tk) ((PySem.strKind P w).hash k)) Q E s := by
  obtain ⟨o, es, ep, t, ho, hex, hd, g, nd, hm, hz, hf, hr, hl⟩ := R
  have hkey : (PySem.strKind P w).is k (.str k tk) = true := strKind_is P w k tk
  have hsc : (Value.str k tk).scannable = true := rfl
  have hbs : es.size < scanBound := by unfold scanBound; omega
  have hel : ElemsOf (PySem.strKind P w) es.toList := txe_elems g
  unfold setAddHashed setAddHashedIn
  refine wpAny_holding (wpAny_bind (wpAny_setState_of ho hd hf ?_))
  dsimp only
  rw [byScan_of hsc hbs hel]
  simp only [↓reduceIte]
  unfold setAddByScan
  refine wpAny_bind ?_
  refine wpAny_bind (wpAny_rule ?_)
  refine wpAny_bind (wpAny_setScan_of hkey ho hd hf hel ?_)
  cases hfi : List.findIdx? (fun e => (PySem.strKind P w).is k e.2) es.toList with
  | some j =>
    dsimp only
    obtain ⟨hj, pj, _⟩ := List.findIdx?_eq_some_iff_getElem.mp hfi
    have hk : k ∈ ks := (hm k).1 ((txe_mem (P := P) g k).2 ⟨es.toList[j], List.getElem_mem hj, pj⟩)
    refine wpAny_pure (wpAny_pure ?_)
    exact hQ false s.heap (Heap.SameBut.refl a s.heap) ⟨o, es, ep, t, ho, hex, hd, g, nd, fun i => by
      rw [hm i, List.mem_cons]
      exact ⟨.inr, fun z => z.elim (fun e => e ▸ hk) id⟩, Nat.le_succ_of_le hz, hf, hr, hl⟩
  | none =>
    dsimp only
    have hnk : k ∉ es.toList.map etx := fun z => by
      obtain ⟨e, he, q⟩ := (txe_mem (P := P) g k).1 z
      have c := List.findIdx?_eq_none_iff.mp hfi e he
      rw [q] at c
      cases c
    have hgw : ∀ (b : Bool) {s₁ : Shared} {Q' : Unit → Shared → Prop}, Q' () s₁ → wpAny (model P w) A (match b with | true => rule "set.scan.the-table-gave-way" | false => pure ()) Q' E s₁ :=
      fun b s₁ Q' q => by cases b <;> first | exact wpAny_pure q | exact wpAny_rule q
    have pm := layNew_perm t es ((PySem.strKind P w).hash k) (.str k tk)
    have hf1 := layNew_fits t es ((PySem.strKind P w).hash k) (.str k tk)
    have hr1 := layNew_ris t es ((PySem.strKind P w).hash k) (.str k tk) hr
    have hl1 := layNew_led t es ((PySem.strKind P w).hash k) (.str k tk)
    generalize layNew t es ((PySem.strKind P w).hash k) (.str k tk) = Z at pm hf1 hr1 hl1 ⊢
    obtain ⟨es1, t1, wd, gave⟩ := Z
    dsimp only at pm hf1 hr1 hl1 ⊢
    rw [Array.toList_push] at pm
    have pc : es1.toList.Perm (((PySem.strKind P w).hash k, Value.str k tk) :: es.toList) := pm.trans (List.perm_append_singleton _ _)
    have pk : (es1.toList.map etx).Perm (k :: es.toList.map etx) := pc.map etx
    have g1 : ∀ e ∈ es1.toList, TxE w e := fun e he => by
      rcases List.mem_cons.mp (pc.mem_iff.mp he) with z | z
      · rw [z]; exact ⟨k, tk, rfl, rfl⟩
      · exact g e z
    have nd1 : (es1.toList.map etx).Nodup := pk.nodup_iff.mpr (List.nodup_cons.mpr ⟨hnk, nd⟩)
    have m1 : ∀ i, i ∈ es1.toList.map etx ↔ i ∈ k :: ks := fun i => by
      rw [pk.mem_iff, List.mem_cons, List.mem_cons, hm i]
    have hz1 : es1.size ≤ (k :: ks).length := by
      rw [← Array.length_toList, pc.length_eq, List.length_cons, Array.length_toList, List.length_cons]
      omega
    have hled : w.params.followText "set-order" = true ∨ t1.led = true := hl.imp id fun z => by rw [hl1]; exact z
    refine wpAny_bind (hgw _ ?_)
    split
    · refine wpAny_bind ?_
      rw [hashByValue_scannable 8 hsc]
      refine wpAny_pure ?_
      refine sets_tail (ks := k :: ks) ?_ ho hex hd g1 nd1 m1 hz1 hb ?_ ?_ ?_ ?_
      · intro b s₁ Q' q; cases b <;> first | exact wpAny_pure q | exact wpAny_rule q
      · first | (split <;> first | exact hf1 | exact SetTable.fits_plain_off hf1) | exact hf1
      · first | (split <;> exact hr1) | exact hr1
      · first | (split <;> exact hled) | exact hled
      · intro h' sb r; dsimp only; exact wpAny_pure (hQ true h' sb r)
    · refine wpAny_bind (wpAny_pure ?_)
      simp only [↓reduceIte]
      refine sets_tail (ks := k :: ks) ?_ ho hex hd g1 nd1 m1 hz1 hb hf1 hr1 hled ?_
      · intro b s₁ Q' q; cases b <;> first | exact wpAny_pure q | exact wpAny_rule q
      · intro h' sb r; dsimp only; exact wpAny_pure (hQ true h' sb r)
/-- the loop of set(xs) -/
theorem sets_loop {I : Addr} {fp wr : List Addr} {G : Array GenState → Array GenState → Prop} {n : Nat} {Pv : Nat → Value → Prop} {St : Nat → Shared → Prop} {R : Result → Shared → Prop}
    (W : WalksS P w A.in1 I fp wr G n Pv St) (S : Addr) (hSf : S ∉ fp) (xs : List Str) (hn : n = xs.length) (hb : xs.length < 64) (hval : ∀ i v, Pv i v → ∃ t, v = .str (xs.getD i Str.empty) t) :
    ∀ (k i : Nat) (s : Shared), n - i = k → i ≤ n → St i s → SetS w s.heap S (xs.take i).reverse →
      (∀ s', Moved (S :: wr) G s s' → SetS w s'.heap S xs.reverse → R (.ok (.ret .none)) s') →
      codeAny (model P w) A (.builtin "set.update.loop" ⟨[.ref S, .ref I], []⟩) R s := by
  have hSw : S ∉ wr := fun h => hSf (W.sub _ h)
  have hsub : ∀ b ∈ wr, b ∈ S :: wr := fun b hb => List.mem_cons_of_mem _ hb
  intro k
  induction k with
  | zero =>
    intro i s hk' hi hst hS hR
    obtain rfl : i = n := by omega
    refine codeAny_builtin F.entry_set_update_loop ?_
    rw [Around.under_plainId F.plain_set_update_loop _]
    show wpAny _ A.in1 (pyNext (.ref I) >>= _) _ _ s
    refine wpAny_bind (W.done s _ _ hst fun s' hm => ?_)
    show wpAny _ A.in1 (ret Value.none) _ _ s'
    rw [List.take_of_length_le (by omega)] at hS
    exact wpAny_pure (hR s' (hm.mono hsub) (hS.keep fun o e => hm.heap S o hSw e))
  | succ k ih =>
    intro i s hk' hi hst hS hR
    have hlt : i < n := by omega
    refine codeAny_builtin F.entry_set_update_loop ?_
    rw [Around.under_plainId F.plain_set_update_loop _]
    show wpAny _ A.in1 (pyNext (.ref I) >>= _) _ _ s
    refine wpAny_bind (W.item i s _ _ hlt hst fun v s' hP hst' hm => ?_)
    obtain ⟨t, rfl⟩ := hval i v hP
    have hS' : SetS w s'.heap S (xs.take i).reverse := hS.keep fun o e => hm.heap S o hSw e
    have hlx : i < xs.length := by omega
    have ez : xs.getD i Str.empty = xs[i] := by rw [List.getD_eq_getElem?_getD, List.getElem?_eq_getElem hlx] <;> rfl
    rw [ez]
    show wpAny _ A.in1 (holding [Value.str xs[i] t] (setAdd S (.str xs[i] t)) >>= _) _ _ s'
    refine wpAny_bind (wpAny_holding ?_)
    unfold setAdd
    refine wpAny_holding ?_
    refine wpAny_bind ((PySem.strKind P w).pyHash (k := xs[i]) (strKind_is _ _ _ _) ?_)
    refine sets_add (s := { s' with toks := s'.toks + 1 }) hS' (by rw [List.length_reverse, List.length_take]; omega) fun b h' hsb hS2 => ?_
    have e2 : xs[i] :: (xs.take i).reverse = (xs.take (i + 1)).reverse := by
      rw [List.take_add_one, List.getElem?_eq_getElem hlx, Option.toList_some, List.reverse_append] <;> rfl
    rw [e2] at hS2
    refine wpAny_pure ⟨plainId_quiet F.plain_set_update_loop _, ih (i + 1) _ (by omega) hlt (W.frame _ s' _ _ hst' (Nat.le_succ _) fun b hb o e => ?_) hS2 fun s'' hm'' hS'' => ?_⟩
    · rw [hsb.2 b (fun h : b = S => hSf (by rw [← h]; exact hb))]; exact e
    · refine hR s'' (Moved.trans W.gtrans ((hm.mono hsub).then_heap (Nat.le_succ _) fun b o hb e => ?_) hm'') hS''
      rw [hsb.2 b (fun h : b = S => hb (by rw [h]; exact List.mem_cons_self))]; exact e
abbrev newS (w : World) : Obj := { cls := .type "set", dict := none, data := .set #[] 0 (.fresh 0 0 (!w.params.followText "set-order")) }
set_option maxHeartbeats 3200000 in
/-- set(xs) -/
theorem sets_call {l : Addr} {items : Array Value} (xs : List Str) {Q : Value → Shared → Prop} (hh : A.handled = none) (hl : s.heap.IsList l items) (hi : StrsAre items.toList xs) (hb : xs.length < 64)
    (h : ∀ (h' : Heap) (tk : Nat), SetS w h' s.heap.objs.size xs.reverse → (∀ b o, s.heap.get? b = some o → h'.get? b = some o) → Q (.ref s.heap.objs.size) { s with heap := h', toks := tk }) :
    wpAny (model P w) A (call (.type "set") [.ref l]) Q E s := by
  obtain ⟨c, tl, hmro⟩ := F.called_set.mro
  have hmade := F.called_set.made
  have hsub := F.called_set.sub
  refine wpAny_call (codeAny_of_tree ?_)
  show wpAny _ _ (callAny (.type "set") _) _ _ _
  refine wpAny_pure ⟨Code.quiet_builtin _ (by decide +kernel), codeAny_builtin F.entry_type_call ?_⟩
  rw [Around.under_plain (weight_type_call_type "set" [.ref l] []) rfl]
  have h1 := F.called_set.notType
  have h2 := F.called_set.canCreate
  have hct := F.typeCall_set_1 (.ref l)
  repeat (any_goals (first | assumption | wp_step))
  refine codeAny_mono (code_set_led1 (.ref l) (E := E) (Q₁ := fun obj s₁ => obj = .ref s.heap.objs.size ∧ s₁ = { s with heap := s.heap.push (newS w) }) ⟨rfl, rfl⟩) fun r s₁ hr => ?_
  cases r with
  | error e => exact hr
  | ok fl =>
    cases fl with
    | ret obj =>
      obtain ⟨rfl, rfl⟩ := hr
      have hS : (s.heap.push (newS w)).get? s.heap.objs.size = some (newS w) := Heap.get?_push_size _ rfl
      have hT : Shared.TypeIs { s with heap := s.heap.push (newS w) } (.ref s.heap.objs.size) "set" := ⟨_, hS, rfl⟩
      have hli := F.called_set.init.lookup
      have hbi := F.called_set.init.bind (.ref s.heap.objs.size)
      repeat (any_goals (first | assumption | wp_step))
      refine codeAny_mono (codeAny_call_builtin (R := wants (fun r s₂ => r = .none ∧ ∃ h' tk, s₂ = { s with heap := h', toks := tk } ∧ SetS w h' s.heap.objs.size xs.reverse ∧
          (∀ b o, s.heap.get? b = some o → h'.get? b = some o)) E) F.called_set.init.plain F.entry_set_init (check_set_init_1 hT ?_)) fun r₂ s₂ hr₂ => ?_
      · obtain ⟨⟨ocls, odict, odata, oslots⟩, hol, hcl, nl, hdl⟩ := hl
        simp only at hcl hdl
        subst hcl; subst hdl
        have hol' : (s.heap.push (newS w)).get? l = some { cls := .type "list", dict := odict, data := .seq items nl, slots := oslots } := Heap.get?_push_of_some _ hol
        have hsls := PySem.F.sub_list_set
        have hslf := PySem.F.sub_list_frozenset
        have hne : (Value.type "list" == Value.type "dict") = false := by decide
        have hl1 : (s.heap.push (newS w)).IsList l items := ⟨_, hol', rfl, nl, rfl⟩
        unfold Builtin.«set.__init__» noKeywords Builtin.Frozenset.updateFrom
        generalize hPI : pyIter = PI
        wp_walk
        subst hPI
        refine wpAny_pyIter_list hl1 ?_
        refine wpAny_bind (wpAny_runValue ?_)
        have hlS : l < s.heap.objs.size := Heap.lt_size hol
        have hh3 : A.in1.in1.in1.handled = none := by simp [hh]
        have hneI : l ≠ (s.heap.push (newS w)).objs.size := by
          rw [Heap.size_push]; exact Nat.ne_of_lt (Nat.lt_succ_of_lt hlS)
        have hSf : s.heap.objs.size ∉ [(s.heap.push (newS w)).objs.size, l] := by
          rw [Heap.size_push]; simp only [List.mem_cons, List.mem_singleton, List.not_mem_nil, or_false, not_or]
          exact ⟨Nat.ne_of_lt (Nat.lt_succ_self _), Nat.ne_of_gt hlS⟩
        have hsz : xs.length = items.size := by rw [← StrsAre.len_eq hi, Array.length_toList]
        have hval : ∀ (i : Nat) (v : Value), items[i]? = some v → ∃ t, v = .str (xs.getD i Str.empty) t := fun i v hv => SS.strs_at hi i v (by rw [Array.getElem?_toList]; exact hv)
        refine sets_loop ((Walks.list hh3 _ l hneI items).toS) s.heap.objs.size
          hSf xs hsz.symm hb hval (items.size - 0) 0 _ (by omega) (Nat.zero_le _)
          ⟨⟨_, Heap.get?_push_size _ rfl, rfl, rfl⟩, (hl1.push _)⟩ ?hS0 ?hR
        case hS0 => exact sets_none (ks := []) (Heap.get?_push_of_some _ hS)
        case hR =>
          intro s' hm hS'
          obtain ⟨h', g2, d', tk', os'⟩ := s'
          have eg : g2 = s.gens := hm.gens
          have ed : d' = s.drawn := hm.drawn
          have eo : os' = s.os := hm.os
          subst eg; subst ed; subst eo
          show wpAny _ _ _ _ _ _
          refine wpAny_pure ?_
          show wpAny _ _ (ret Value.none) _ _ _
          refine wpAny_pure ⟨rfl, h', tk', rfl, hS', fun b o e => ?_⟩
          have hb0 : b < s.heap.objs.size := Heap.lt_size e
          have hb1 : b ≠ s.heap.objs.size := Nat.ne_of_lt hb0
          have hb2 : b ≠ (s.heap.push (newS w)).objs.size := by
            rw [Heap.size_push]; exact Nat.ne_of_lt (Nat.lt_succ_of_lt hb0)
          exact hm.heap b o (by simp only [List.mem_cons, List.mem_singleton, List.not_mem_nil, or_false, not_or]; exact ⟨hb1, hb2⟩) (Heap.get?_push_of_some _ (Heap.get?_push_of_some _ e))
      · cases r₂ with
        | error e => exact hr₂
        | ok fl₂ =>
          cases fl₂ with
          | ret r =>
            obtain ⟨rfl, h', tk, rfl, hS', hk'⟩ := hr₂
            repeat (any_goals (first | assumption | wp_step))
            exact h _ _ hS' hk'
          | _ => exact hr₂.elim
    | _ => exact hr.elim
/-- sorted(it) -/
theorem sets_sorted {Q : Value → Shared → Prop} (R : SetS w s.heap a ks) (hh : A.handled = none) (hb : ks.length < 64)
    (hQ : ∀ s' p (out : Array Value) (c : Nat) (ns : List Str), (∀ b o, s.heap.get? b = some o → s'.heap.get? b = some o) → s'.gens = s.gens → s'.os = s.os → s.heap.objs.size ≤ p →
      s'.heap.get? p = some (seqObj "list" out c) → StrsAre out.toList ns → sortedS ns = true → ns.Nodup → (∀ k, k ∈ ns ↔ k ∈ ks) → ns.length < 64 → Q (.ref p) s') :
    wpAny (model P w) A (call (.builtin "sorted") [.ref a]) Q E s := by
  obtain ⟨o, es, ep, t, ho, hex, hd, g, nd, hm, hz, hf, hr, hl⟩ := R
  have hbs : es.size < scanBound := by unfold scanBound; omega
  refine Calls.call_function_entry kind_sorted plain_sorted entry_sorted (args_sorted1 _) ?_
  unfold Builtin.«sorted»
  refine wpAny_bind (m := checkCount "sorted" 1 1 _) (wpAny_pure ?_)
  refine wpAny_bind (collect_set (A := A.in1) hh ⟨o, ho, hex.1, hd⟩ hf hbs hr hl fun s1 vs k1 hz1 g1 o1 pm => ?_)
  have hvl : vs.length = es.size := by rw [pm.length_eq, List.length_map, Array.length_toList]
  have hI : StrsAre vs (vs.map strOf) := strsAre_map vs fun v hv => by
    obtain ⟨e, he, q⟩ := List.mem_map.mp (pm.mem_iff.mp hv)
    obtain ⟨k, tk, h1, _⟩ := g e he
    exact ⟨k, tk, by rw [← q]; exact h1⟩
  have pk : (vs.map strOf).Perm (es.toList.map etx) := by
    have q := pm.map strOf
    rw [List.map_map] at q
    refine q.trans (List.Perm.of_eq (List.map_congr_left fun e he => ?_))
    obtain ⟨k, tk, h1, _⟩ := g e he
    show strOf e.2 = etx e
    unfold etx
    rw [h1] <;> rfl
  refine wpAny_bind (wpAny_newList ?_ (by rw [hvl, sizeLine_eq]; omega))
  have hoL : (s1.heap.push (seqObj "list" vs.toArray 0)).get? s1.heap.objs.size = some (seqObj "list" vs.toArray 0) := Heap.get?_push_size _ rfl
  refine wpAny_bind (wpAny_holding (wpAny_call_entry slot_list_sort ⟨_, hoL, rfl⟩ entry_list_sort
    (list_sort_treeK strKind_oneLt hoL hI.keysOf (fun v₁ v₂ rest e => keyKind_strs (by rw [← e]; exact hI)) (by rw [hvl]; omega) fun st' hp hs => ⟨_, rfl, ?_⟩) (args_list_sort _)))
  obtain ⟨ns, a1, a2, a3⟩ := sorted_out_str hI hp hs
  obtain ⟨c, hc⟩ := sortedHeap_at (vs := vs) (out := (arrOf st').map (·.2)) hoL
  have pn : ns.Perm (es.toList.map etx) := a2.trans pk
  refine wpAny_pure ⟨_, rfl, hQ _ s1.heap.objs.size _ c ns (fun b u e => ?_) g1 o1 hz1 hc a1 a3 (pn.nodup_iff.mpr nd) (fun k => by rw [pn.mem_iff, hm k]) ?_⟩
  · have q := k1 b u e
    have hlt := Heap.lt_size q
    show (sortedHeap (s1.heap.push (seqObj "list" vs.toArray 0)) s1.heap.objs.size vs _).get? b = some u
    rw [sortedHeap_old (Nat.ne_of_lt hlt) (by rw [size_push']; exact Nat.lt_succ_of_lt hlt)]
    exact Heap.get?_push_of_some _ q
  · rw [pn.length_eq, List.length_map, Array.length_toList]; omega
end
end Lk
set_option Elab.async false
set_option linter.all false
set_option maxRecDepth 100000
set_option autoImplicit false
set_option maxHeartbeats 1000000
/-! LkS2: rows of texts, sorted: one way alone. -/
namespace Lk
open PySem PySem.Spec L2 PyProof.Rows
theorem insV_perm : ∀ {x : Val} {l ys : List Val}, insV x l = some ys → ys.Perm (x :: l)
  | x, [], ys, h => by simp only [insV, Option.some.injEq] at h; subst h; exact List.Perm.refl _
  | x, y :: r, ys, h => by
    simp only [insV] at h
    cases c : pyLt y x with
    | none => rw [c] at h; cases h
    | some b =>
      rw [c] at h
      simp only [Option.bind_some] at h
      cases b with
      | true =>
        simp only [if_true] at h
        obtain ⟨zs, e, rfl⟩ := Option.map_eq_some_iff.mp h
        exact ((insV_perm e).cons y).trans (List.Perm.swap x y r)
      | false =>
        simp only [Bool.false_eq_true, if_false, Option.some.injEq] at h
        subst h
        exact List.Perm.refl _
theorem sortV_perm : ∀ {l ys : List Val}, sortV l = some ys → ys.Perm l
  | [], ys, h => by simp only [sortV, Option.some.injEq] at h; subst h; exact List.Perm.refl _
  | x :: r, ys, h => by
    simp only [sortV] at h
    obtain ⟨zs, e, e2⟩ := Option.bind_eq_some_iff.mp h
    exact (insV_perm e2).trans ((sortV_perm e).cons x)
theorem sortC_of {l ys : List Val} (h : sortC l = some ys) : ys.Perm l ∧ srtB ys = true := by
  obtain ⟨zs, e, e2⟩ := Option.bind_eq_some_iff.mp h
  split at e2
  · rename_i b
    cases e2
    exact ⟨sortV_perm e, b⟩
  · cases e2
theorem perm_strs {l : List Val} {ts : List Sn} (h : l.Perm (ts.map Val.str)) : ∃ us : List Sn, l = us.map Val.str ∧ us.Perm ts := by
  have hall : ∀ v ∈ l, ∃ t, v = Val.str t := fun v hv => by
    obtain ⟨t, _, e⟩ := List.mem_map.mp (h.mem_iff.mp hv)
    exact ⟨t, e.symm⟩
  let f : Val → Sn := fun v => match v with | .str t => t | _ => []
  have e : l = (l.map f).map Val.str := by
    rw [List.map_map]
    refine (List.map_id l).symm.trans (List.map_congr_left fun v hv => ?_)
    obtain ⟨t, rfl⟩ := hall v hv
    rfl
  refine ⟨l.map f, e, ?_⟩
  have p := h.map f
  rw [List.map_map] at p
  refine p.trans (List.Perm.of_eq ?_)
  exact (List.map_congr_left fun t _ => rfl).trans (List.map_id ts)
theorem pyEq_sd (a b : Sn) : pyEq (.str a) (.str b) = decide (a = b) := by
  by_cases h : a = b <;> simp [pyEq, h]
theorem srtB_strs : ∀ {us : List Sn}, srtB (us.map Val.str) = true → us.Pairwise (fun a b : List Nat => a ≤ b)
  | [], _ => List.Pairwise.nil
  | x :: r, h => by
    simp only [List.map_cons, srtB, Bool.and_eq_true, List.all_eq_true] at h
    refine List.pairwise_cons.mpr ⟨fun y hy => ?_, srtB_strs h.2⟩
    have q := h.1 (.str y) (List.mem_map.mpr ⟨y, hy, rfl⟩)
    rw [pyEq_sd, Bool.or_eq_true, Bool.and_eq_true, decide_eq_true_eq] at q
    rcases q with q | q
    · rw [q]; exact List.le_refl _
    · have q := q.2
      have q : isF (some (snLt y x)) = true := q
      rw [snLt_iff] at q
      by_cases c : y < x
      · simp [c, isF] at q
      · exact c
theorem rising_all : ∀ (l : List Str) (p : Str), risingS p l = true → (∀ x ∈ l, p.cps.toList ≤ x.cps.toList) ∧ (l.map fun x => x.cps.toList).Pairwise (fun a b => a ≤ b)
  | [], p, _ => ⟨fun x h => (nomatch h), List.Pairwise.nil⟩
  | y :: r, p, h => by
    simp only [risingS, Bool.and_eq_true, Bool.not_eq_true'] at h
    obtain ⟨h1, h2⟩ := rising_all r y h.2
    have hp : p.cps.toList ≤ y.cps.toList := by
      have q := h.1
      rw [ltCps_eq, decide_eq_false_iff_not] at q
      exact q
    refine ⟨fun x hx => ?_, List.pairwise_cons.mpr ⟨fun a ha => ?_, h2⟩⟩
    · rcases List.mem_cons.mp hx with rfl | hx
      · exact hp
      · exact List.le_trans hp (h1 x hx)
    · obtain ⟨x, hx, rfl⟩ := List.mem_map.mp ha
      exact h1 x hx
theorem sortedS_all {l : List Str} (h : sortedS l = true) : (l.map fun x => x.cps.toList).Pairwise (fun a b => a ≤ b) := by
  cases l with
  | nil => exact List.Pairwise.nil
  | cons x r =>
    obtain ⟨h1, h2⟩ := rising_all r x h
    refine List.pairwise_cons.mpr ⟨fun a ha => ?_, h2⟩
    obtain ⟨y, hy, rfl⟩ := List.mem_map.mp ha
    exact h1 y hy
theorem strs_back (ns : List Str) : ns = (ns.map fun x => x.cps.toList).map sv := by
  rw [List.map_map]
  refine (List.map_id ns).symm.trans (List.map_congr_left fun x _ => ?_)
  show x = sv x.cps.toList
  obtain ⟨c⟩ := x
  simp [sv]
/-- the texts, sorted, are these -/
theorem strs_one {ns : List Str} {us : List Sn} (hs : sortedS ns = true) (hu : us.Pairwise (fun a b : List Nat => a ≤ b)) (hp : (ns.map fun x => x.cps.toList).Perm us) : ns = us.map sv := by
  have e : (ns.map fun x => x.cps.toList) = us := List.Perm.eq_of_pairwise (le := fun a b : List Nat => a ≤ b) (fun a b _ _ h h' => List.le_antisymm h h') (sortedS_all hs) hu hp
  rw [← e]
  exact strs_back ns
theorem dedup_strs : ∀ (ts : List Sn), ∃ us : List Sn, dedup (ts.map Val.str) = us.map Val.str ∧ us.Nodup ∧ (∀ t, t ∈ us ↔ t ∈ ts) ∧ us.length ≤ ts.length
  | [] => ⟨[], rfl, List.nodup_nil, fun t => Iff.rfl, Nat.le_refl _⟩
  | x :: r => by
    obtain ⟨us, e, nd, hm, hl⟩ := dedup_strs r
    have ha : (us.map Val.str).any (fun y => pyEq y (.str x)) = decide (x ∈ us) := by
      rw [List.any_map]
      by_cases h : x ∈ us
      · rw [decide_eq_true h, List.any_eq_true]
        exact ⟨x, h, by show pyEq (.str x) (.str x) = true; rw [pyEq_sd]; simp⟩
      · rw [decide_eq_false h, List.any_eq_false]
        intro y hy
        show ¬ pyEq (.str y) (.str x) = true
        rw [pyEq_sd, decide_eq_true_eq]
        exact fun z => h (z ▸ hy)
    simp only [List.map_cons, dedup, e, ha]
    by_cases h : x ∈ us
    · rw [decide_eq_true h, if_pos rfl]
      refine ⟨us, rfl, nd, fun t => ?_, Nat.le_succ_of_le hl⟩
      rw [hm t, List.mem_cons]
      exact ⟨.inr, fun z => z.elim (fun e => e ▸ (hm x).1 h) id⟩
    · rw [decide_eq_false h, if_neg (by simp)]
      refine ⟨x :: us, rfl, List.nodup_cons.mpr ⟨h, nd⟩, fun t => ?_, Nat.succ_le_succ hl⟩
      rw [List.mem_cons, List.mem_cons, hm t]
section
variable {X : Cx} {M : Nm} {W : WX} {fr : Env → Store → Res Val} {y : Expr} {p p2 q pos : Pos}
theorem c_srtset (hc : X.calm = true) (hg : Gl X "sorted") (hm : X.mg "sorted" = none) (hg2 : Gl X "set") (hm2 : X.mg "set" = none) (ns : noStar y = true) (ha : PE X y (TB X.K M W fr)) :
    PE X (.Call (.Name "sorted" p) [.Call (.Name "set" p2) [y] [] q] [] pos) (TR X.K M W fun env st => (fr env st).bind fun v st => Res.of (biOp .srtset st [v]) st) := by
  refine ⟨fun pins s σ H Q I h => ?_⟩
  obtain ⟨Hb, Z, ρ, env, st, rh, re, qq⟩ := h
  have na : starEach [y] X.env = (false, eval y X.env) :: starEach [] X.env := starEach_no ns
  refine Call_ (ld_blt I hg hm boot_sorted ?_)
  refine PyProof.Rows.callWith_builtin1 (PyProof.Rows.args_cons ?_ rfl) rfl rfl
  refine Call_ (ld_blt I hg2 hm2 PyProof.Rows.boot_set ?_)
  refine PyProof.Rows.callWith_type1 (PyProof.Rows.args_cons (thn (ha.run pins s σ H
    (fun x H1 => ∃ Z1 ρ1 st1 v, Adv H Z ρ H1 Z1 ρ1 ∧ RH X.K M H1 Z1 ρ1 st1 ∧ RB X.K H1 Z1 ρ1 x v ∧ ∃ rv, biOp .srtset st1 [v] = some rv ∧ Ok1 X.K M H Z ρ rv st1 Q) I
    ⟨Hb, Z, ρ, env, st, rh, re, qq.bind.mono fun v st1 q1 x H1 Z1 ρ1 a1 rh1 r1 => ⟨Z1, ρ1, st1, v, a1, rh1, r1, q1.of⟩⟩) fun v s1 ⟨x, H1, I1, r1, q1⟩ => PyProof.Rows.args_nil ?_) na) na rfl
  obtain ⟨Z1, ρ1, st1, v1, a1, rh1, rb1, rv, e, k⟩ := q1
  have e' : ((asList st1 v1).bind fun xs => if allStr xs && decide (xs.length < 64) then (sortC (dedup xs)).map fun ys => ((true, Val.lst ys) : Rv) else none) = some rv := by cases v1 <;> exact e
  obtain ⟨ws, c1, e2⟩ := Option.bind_eq_some_iff.mp e'
  split at e2
  · rename_i cnd
    simp only [Bool.and_eq_true, decide_eq_true_eq] at cnd
    obtain ⟨ys, c2, rfl⟩ := Option.map_eq_some_iff.mp e2
    obtain ⟨a, zs, rfl, hs, rz, l⟩ := rb1.list rh1 c1
    obtain ⟨ts, rfl, rfl, hok⟩ := rz.strs cnd.1
    obtain ⟨us, d1, d2, d3, d4⟩ := dedup_strs ts
    rw [d1] at c2
    obtain ⟨pm, sb⟩ := sortC_of c2
    obtain ⟨os, rfl, po⟩ := perm_strs pm
    have ho := srtB_strs sb
    have hlen : ts.length < 64 := by simpa using cnd.2
    cases r1
    obtain ⟨its, r, pl, hz⟩ := I1.list (.inl (.inl hs))
    have r' : Vals ((ts.map sv).map V.str) its := by rw [List.map_map]; exact r
    refine sets_call (ts.map sv) (I1.ok.hd hc) pl.isList (by simpa using r'.strs) (by rw [List.length_map]; exact hlen) fun h' tk hS hk => ?_
    refine PyProof.Rows.args_nil ?_
    have I2 : Inv X pins σ H1 { s1 with heap := h', toks := tk } := I1.kept hk
    refine sets_sorted hS (I2.ok.hd hc) (by rw [List.length_reverse, List.length_map]; omega) fun s' p out c nss k2 g o hp hg' hi hso hnd hmem hl64 => ?_
    have en : nss = os.map sv := by
      refine strs_one hso ho ?_
      have nd1 : (nss.map fun x => x.cps.toList).Nodup := by
        have q := hnd
        rw [strs_back nss] at q
        exact List.Pairwise.of_map sv (fun _ _ hne e => hne (congrArg sv e)) q
      refine (List.perm_ext_iff_of_nodup nd1 (po.nodup_iff.mpr d2)).mpr fun t => ?_
      rw [po.mem_iff, d3 t, List.mem_map]
      constructor
      · rintro ⟨x, hx, rfl⟩
        have hx := (hmem x).1 hx
        rw [List.mem_reverse] at hx
        obtain ⟨t, ht, rfl⟩ := List.mem_map.mp hx
        rw [sv_cps]
        exact ht
      · intro ht
        exact ⟨sv t, (hmem _).2 (List.mem_reverse.mpr (List.mem_map.mpr ⟨t, ht, rfl⟩)), sv_cps t⟩
    subst en
    have hn : H1 p = none := I2.hok.fresh hp
    have J : Inv X pins σ (upd H1 p (.lst ((os.map sv).map V.str))) { ({ s1 with heap := h', toks := tk } : Shared) with heap := s'.heap, gens := s'.gens, drawn := s'.drawn, toks := s'.toks } :=
      I2.call (ch := []) (Un.laid k2 hp hn) (I2.hok.laid k2 hp ⟨by rw [List.length_map, sizeLine_eq]; omega, out.toList, c, vals_of_strs hi, hg'⟩) (by rw [g]; exact I2.bare) (fun _ z => nomatch z)
    have e : s' = { s1 with heap := s'.heap, gens := s'.gens, drawn := s'.drawn, toks := s'.toks } := by
      cases s'
      cases s1
      cases o
      rfl
    rw [e]
    refine ⟨.ref p, _, J, rfl, ?_⟩
    have rr : RVs X.K Z1 ρ1 ((os.map sv).map V.str) (os.map Val.str) := by
      rw [List.map_map]
      exact rvs_strs fun t ht => hok t ((d3 t).1 (po.mem_iff.mp ht))
    exact (k.adv a1).lstN rh1 rr (by rw [List.length_map] at *; have : maxLen = maxLen := rfl; unfold maxLen; omega) hn
  · cases e2
/-- {} -/
theorem c_dct0 : PE X (.Dict [] [] pos) (TR X.K M W fun env st => .ok (true, .dct []) st) :=
  pe_dnewK.weak fun σ H Q ⟨Hb, Z, ρ, env, st, rh, re, q⟩ p n => Ok1.dctN rh q .nil (Nat.zero_le _) n
end
end Lk
set_option Elab.async false
set_option linter.all false
set_option maxRecDepth 100000
set_option autoImplicit false
set_option maxHeartbeats 1000000
/-! LkG: the check of a text against its position-free form. -/
namespace Lk
open PySem

/-- the names of the text's things -/
structure Nms where
  an : Nat → Str
  isg : Nat → Bool
  ism : Nat → Bool
  fn : Nat → Str
  cl : Nat → Str
  xc : Nat → Str
  gl : Nat → Str
  gd : Nat → Str
def mkEnv (sc : Scope) : PySem.Env := PyProof.Rows.envOfC ⟨#[]⟩ sc 0 0 .none
/-- a comprehension's scope, as it runs -/
def subSc (scope sc : Scope) : Scope := PySem.relabel scope (mkEnv sc)
def plainN (n : Str) : Bool := !(n == ("__debug__" : Str)) && !(n == ("__classdict__" : Str))
def visB (sc : Scope) (n : Str) : Bool := match sc.names.lookup n with
  | some .local => true
  | some .cell => true
  | some .free => true
  | _ => false
def locB (sc : Scope) (n : Str) : Bool := match sc.names.lookup n with
  | some .local => true
  | some .cell => true
  | _ => false
def slotB (N : List Str) (i : Nat) (n : Str) : Bool := match N[i]? with
  | some m => m == n
  | none => false
def varB (N : List Str) (sc : Scope) (i : Nat) (n : Str) : Bool := slotB N i n && visB sc n && plainN n
def glbB (sc : Scope) (n : Str) : Bool := match sc.names.lookup n with
  | some .globalImplicit => plainN n
  | _ => false
def cstB : Val → Const → Bool
  | .non, .none => true
  | .bl b, .bool c => b == c
  | .int i, .int j => i == j
  | .str s, .str t => sv s == t && snOk s
  | _, _ => false
def notComp : Expr → Bool
  | .ListComp _ _ _ _ => false
  | .SetComp _ _ _ _ => false
  | .DictComp _ _ _ _ _ => false
  | _ => true
def notSet : Expr → Bool
  | .Set _ _ _ => false
  | _ => true
def notTup : Expr → Bool
  | .Tuple _ _ _ => false
  | .List _ _ => false
  | _ => true
def notSlice : Expr → Bool
  | .Slice _ _ _ _ => false
  | _ => true
def biS : Bi → Option String
  | .len => some "len"
  | .all => some "all"
  | .list => some "list"
  | .tuple => some "tuple"
  | .abs => some "abs"
  | .int => some "int"
  | .max => some "max"
  | .min => some "min"
  | _ => none
/-- tests: no conditional expression at their top -/
def tOk : Ex → Bool
  | .ife _ _ _ => false
  | .inO _ _ => false
  | .eqO _ _ _ => false
  | .not a => tOk a
  | .and es => tOks es
  | .or es => tOks es
  | _ => true
where tOks : List Ex → Bool
  | [] => true
  | e :: r => tOk e && tOks r
/-- a block's own names and their slots -/
def tgNames : Expr → List Str
  | .Name n _ => [n]
  | .Tuple xs _ _ => xs.filterMap fun x => match x with
    | .Name n _ => some n
    | _ => none
  | _ => []
def tgB (N : List Str) (ok : Str → Bool) : Tg → Expr → Bool
  | .nm i, .Name n _ => slotB N i n && ok n
  | .tp is, .Tuple xs _ _ => go is xs
  | _, _ => false
where go : List Nat → List Expr → Bool
  | [], [] => true
  | i :: is, .Name n _ :: xs => slotB N i n && ok n && go is xs
  | _, _ => false
def blkB (N : List Str) (sc scope : Scope) (own : List (Str × Nat)) : Bool :=
  decide (scope.kind = .function) && (scope.names.all fun y => decide (scope.names.lookup y.1 = some y.2)) && (own.all fun p => slotB N p.2 p.1)
    && (scope.names.all fun y => !decide (y.2 = .free) || (decide (sc.names.lookup y.1 = some .cell) || decide (sc.names.lookup y.1 = some .free)))
    && (scope.names.all fun y => !(decide (y.2 = .local) || decide (y.2 = .cell)) || ((own.map (·.1)).contains y.1 || !N.contains y.1))
section
variable (nm : Nms) (N : List Str)
mutual
def chk (sc : Scope) : Ex → Expr → Bool
  | .var i, x => match x with
    | .Name n _ => varB N sc i n
    | _ => false
  | .glb g, x => match x with
    | .Name n _ => n == nm.gl g && glbB sc n
    | _ => false
  | .cst v, x => match x with
    | .Constant c _ _ => cstB v c
    | _ => false
  | .neg i, x => match x with
    | .UnaryOp .USub (.Constant (.int j) _ _) _ => j == (i : Int)
    | _ => false
  | .gsub g i, x => match x with
    | .Subscript (.Name n _) r _ => n == nm.gd g && glbB sc n && notSlice r && chk sc i r
    | _ => false
  | .gnin g i, x => match x with
    | .Compare l [.NotIn] [.Name n _] _ => n == nm.gd g && glbB sc n && chk sc i l
    | _ => false
  | .dct es, x => match es, x with
    | [], .Dict [] [] _ => true
    | _, _ => false
  | .tup es, x => match x with
    | .Tuple xs _ _ => chks sc es xs && decide (xs.length ≤ 1000)
    | _ => false
  | .lst es, x => match x with
    | .List xs _ => chks sc es xs && decide (xs.length ≤ 1000)
    | _ => false
  | .bin op a b, x => match x with
    | .BinOp l o r _ => decide (o = bopP op) && chk sc a l && chk sc b r
    | _ => false
  | .cmp op a b, x => match x with
    | .Compare l [o] [r] _ => decide (o = copP op) && notSet r && chk sc a l && chk sc b r
    | _ => false
  | .cmp2 o1 o2 a b c, x => match x with
    | .Compare l [p1, p2] [r, t] _ => decide (p1 = copP o1) && decide (p2 = copP o2) && notSet t && chk sc a l && chk sc b r && chk sc c t
    | _ => false
  | .and es, x => match x with
    | .BoolOp .And xs _ => chks sc es xs && xs.all noStar && !es.isEmpty
    | _ => false
  | .or es, x => match x with
    | .BoolOp .Or xs _ => chks sc es xs && xs.all noStar && !es.isEmpty
    | _ => false
  | .not a, x => match x with
    | .UnaryOp .Not l _ => chk sc a l
    | _ => false
  | .ife c a b, x => match x with
    | .IfExp t l r _ => tOk c && chk sc c t && chk sc a l && chk sc b r
    | _ => false
  | .call f es, x => match x with
    | .Call (.Name n _) xs [] _ => nm.isg f && n == nm.fn f && glbB sc n && xs.all noStar && chks sc es xs
    | _ => false
  | .make c es, x => match x with
    | .Call (.Name n _) xs [] _ => nm.ism c && n == nm.cl c && glbB sc n && xs.all noStar && !xs.isEmpty && chks sc es xs
    | _ => false
  | .meth o m es, x => match x with
    | .Call (.Attribute l a ap) xs [] p => a == nm.an m && decide (m < 100) && noSup l && xs.all noStar && decide (xs.length < 29) && (ap.endLine == p.line) && chk sc o l && chks sc es xs
    | _ => false
  | .attr o m, x => match x with
    | .Attribute l a _ => a == nm.an m && decide (m < 100) && noSup l && chk sc o l
    | _ => false
  | .bi b es, x => match x with
    | .Call (.Name n _) xs [] _ => match biS b with
      | some s => n == Str.ofString s && glbB sc n && xs.all noStar && !xs.isEmpty && chks sc es xs
      | none => match es with
        | [e] => (match b, xs with
          | .srtset, [.Call (.Name n2 _) [y] [] _] => n == Str.ofString "sorted" && n2 == Str.ofString "set" && glbB sc n && glbB sc n2 && noStar y && chk sc e y
          | _, _ => false)
        | _ => false
    | _ => false
  | .isi e ts, x => match x with
    | .Call (.Name n _) [l, .Name t _] [] _ => (match ts with | [T] => t == Str.ofString (tyS T) | _ => false) && n == Str.ofString "isinstance" && glbB sc n && glbB sc t && noStar l && chk sc e l
    | .Call (.Name n _) [l, .Tuple [.Name t _, .Name t2 _] _ _] [] _ => (match ts with | [T, T2] => t == Str.ofString (tyS T) && t2 == Str.ofString (tyS T2) | _ => false) && n == Str.ofString "isinstance" && glbB sc n && glbB sc t && glbB sc t2 && noStar l && chk sc e l
    | _ => false
  | .sub o i, x => match x with
    | .Subscript l r _ => notSlice r && chk sc o l && chk sc i r
    | _ => false
  | .slc o a b, x => match x with
    | .Subscript l (.Slice (some y) (some z) none _) _ => chk sc o l && chk sc a y && chk sc b z
    | _ => false
  | .slcL o a, x => match x with
    | .Subscript l (.Slice (some y) none none _) _ => chk sc o l && chk sc a y
    | _ => false
  | .slcR o b, x => match x with
    | .Subscript l (.Slice none (some z) none _) _ => chk sc o l && chk sc b z
    | _ => false
  | .lc e tg k args cs, x => match x with
    | .ListComp elt [⟨t, it, ifs, z⟩] scope _ => decide (z = 0) && notSet it && tgB N (fun n => decide (scope.names.lookup n = some .local) && decide ((subSc scope sc).names.lookup n = some .local)) tg t
        && blkB N sc scope ((tgNames t).zip (tgS tg)) && decide (((tgNames t).zip (tgS tg)).map (·.2) = tgS tg)
        && (match k with
          | .ex => (match args with | [a] => chk sc a it | _ => false)
          | .rng1 => (match args, it with | [a], .Call (.Name n _) [y] [] _ => n == Str.ofString "range" && glbB sc n && noStar y && chk sc a y | _, _ => false)
          | _ => false)
        && (match cs, ifs with | [], [] => true | [c], [y] => tOk c && chk (subSc scope sc) c y | _, _ => false) && chk (subSc scope sc) e elt
    | _ => false
  | .fstr es, x => match x with
    | .JoinedStr xs _ => chkf sc es xs && decide (2 ≤ xs.length) && decide (xs.length ≤ 100)
    | _ => false
  | .pop o i, x => match x with
    | .Call (.Attribute l a ap) [y] [] p => a == Str.ofString "pop" && noStar y && noSup l && (ap.endLine == p.line) && chk sc o l && chk sc i y
    | _ => false
  | .hole, _ => true
  | _, _ => false
def chks (sc : Scope) : List Ex → List Expr → Bool
  | [], [] => true
  | .star e :: r, .Starred x _ :: xs => chk sc e x && chks sc r xs
  | e :: r, x :: xs => noStar x && chk sc e x && chks sc r xs
  | _, _ => false
def chkf (sc : Scope) : List Ex → List Expr → Bool
  | [], [] => true
  | e :: r, .FormattedValue x c s _ :: xs => decide (c = -1) && s.isNone && chk sc e x && chkf sc r xs
  | e :: r, .Constant c k p :: xs => chk sc e (.Constant c k p) && chkf sc r xs
  | _, _ => false
end
end
end Lk
set_option Elab.async false
set_option linter.all false
set_option maxRecDepth 100000
set_option autoImplicit false
set_option maxHeartbeats 4000000
/-! LkH: what is checked is read by the evaluator: expressions. -/
namespace Lk
open PySem PySem.Spec L2 PyProof.Rows

def bltNames : List String := ["len", "all", "list", "tuple", "abs", "int", "max", "min", "isinstance", "range", "bool", "str", "dict", "sorted", "set", "zip", "enumerate"]
/-- what the text's tables tell -/
structure Tab (P : Program) (w : World) (K : PySem.W.Frag) (mg : Str → Option Value) (base : Heap) (M : Nm) (nm : Nms) (C : Cfg) (k : Nat) (cal mk : CallF) : Prop where
  an : M.an = nm.an
  call : ∀ f, nm.isg f = true → ∃ (fa : Addr) (fd : FuncData) (ps : List Str), mg (nm.fn f) = some (.ref fa) ∧ PySem.W.keepIn K (.ref fa) = true ∧ Binds K fd ps [] ∧ FnOk P w K mg base (L2.CX P w) (k + 2) fa fd ps (SpC K M (cal f))
  meth : ∀ c m f, C.meth c m = some f → ∃ (fa : Addr) (fd : FuncData) (ps : List Str), Cls K (M.ca c) ∧ Meth K (M.ca c) (M.an m) fa ∧ Binds K fd ps [] ∧ FnOk P w K mg base (L2.CX P w) (k + 2) fa fd ps (SpC K M (cal f))
  make : ∀ c, nm.ism c = true → mg (nm.cl c) = some (.ref (M.ca c)) ∧ PySem.W.keepIn K (.ref (M.ca c)) = true ∧ ∀ f, C.init c = some f → ∃ (fa : Addr) (fd : FuncData) (ps : List Str), Mk K (M.ca c) fa ∧ Binds K fd ps [] ∧ FnOk P w K mg base (L2.CX P w) (k + 1) fa fd ps (SpC K M (mk f))
  fld : ∀ c m, C.fld c m = true → m < 100 ∧ Cls K (M.ca c) ∧ NoAttr K (M.ca c) (M.an m)
  glb : ∀ g v, C.glb g = some v → ∃ (w : V) (u : Value), mg (nm.gl g) = some u ∧ RelV w u ∧ ∀ Z ρ, RV K Z ρ w v
  gdc : ∀ g kvs, C.gdc g = some kvs → ∃ a : Addr, mg (nm.gd g) = some (.ref a) ∧ GMap P w K a kvs
  blt : ∀ s ∈ bltNames, mg (Str.ofString s) = none
  xc : ∀ c fo, C.xf c = some fo → XcAt P w K mg base M (nm.xc c) c fo
  xm : ∀ c c', (C.xf c).isSome = true → (C.xf c').isSome = true → PySem.W.exmOne K (.ref (M.xa c)) (.ref (M.xa c')) = some (decide (c' = c))
structure Ctx (M : Nm) (nm : Nms) (C : Cfg) (k : Nat) (cal mk : CallF) (X : Cx) (W : WX) (N : List Str) (sc : Scope) : Prop where
  tab : Tab X.prog X.w X.K X.mg X.base M nm C k cal mk
  eN : X.N = N
  nd : N.Nodup
  sc : X.env.scope = sc
  calm : X.calm = true
  room : Room (k + 2) X.A
  tk : Takes X W

/-! ### the checks, read -/
section
variable {N : List Str} {sc scope : Scope} {i : Nat} {n : Str}
theorem beqT {a b : Str} (h : (a == b) = true) : a = b := by simpa using h
theorem slotB_of (h : slotB N i n = true) : N[i]? = some n := by
  unfold slotB at h
  split at h
  · rename_i m e; rw [e, beqT h]
  · cases h
theorem visB_of (h : visB sc n = true) : Vis sc n := by
  unfold visB at h
  split at h
  · exact .inl (by assumption)
  · exact .inr (.inl (by assumption))
  · exact .inr (.inr (by assumption))
  · cases h
theorem locB_of (h : locB sc n = true) : Loc sc n := by
  unfold locB at h
  split at h
  · exact .inl (by assumption)
  · exact .inr (by assumption)
  · cases h
theorem plainN_of (h : plainN n = true) : (n == ("__debug__" : Str)) = false ∧ (n == ("__classdict__" : Str)) = false := by
  simpa [plainN] using h
theorem glbB_of (h : glbB sc n = true) : sc.names.lookup n = some .globalImplicit ∧ (n == ("__debug__" : Str)) = false := by
  unfold glbB at h
  split at h
  · exact ⟨by assumption, (plainN_of h).1⟩
  · cases h
theorem varB_of (h : varB N sc i n = true) : N[i]? = some n ∧ Vis sc n ∧ (n == ("__debug__" : Str)) = false ∧ (n == ("__classdict__" : Str)) = false := by
  unfold varB at h
  simp only [Bool.and_eq_true] at h
  exact ⟨slotB_of h.1.1, visB_of h.1.2, plainN_of h.2⟩
end
theorem Res.bind_assoc {α β γ : Type} (r : Res α) (f : α → Store → Res β) (g : β → Store → Res γ) : (r.bind f).bind g = r.bind fun a s => (f a s).bind g := by cases r <;> rfl
theorem _root_.L2.PE.eqv {X : Cx} {M : Nm} {W : WX} {x : Expr} {f g : Env → Store → Res Rv} (h : PE X x (TR X.K M W f)) (e : ∀ env st, f env st = g env st) : PE X x (TR X.K M W g) := by
  rw [show g = f from funext fun a => funext fun b => (e a b).symm]; exact h
theorem _root_.L2.PT.eqv {X : Cx} {M : Nm} {W : WX} {x : Expr} {f g : Env → Store → Res Bool} (h : PT X x (TT' X.K M W f)) (e : ∀ env st, f env st = g env st) : PT X x (TT' X.K M W g) := by
  rw [show g = f from funext fun a => funext fun b => (e a b).symm]; exact h
theorem _root_.L2.PA.eqv {X : Cx} {M : Nm} {W : WX} {x : List Expr} {f g : Env → Store → Res (List Val)} (h : PA X x (TVs X.K M W f)) (e : ∀ env st, f env st = g env st) : PA X x (TVs X.K M W g) := by
  rw [show g = f from funext fun a => funext fun b => (e a b).symm]; exact h
theorem _root_.L2.PA.eqvB {X : Cx} {M : Nm} {W : WX} {x : List Expr} {f g : Env → Store → Res (List Val)} (h : PA X x (TBs X.K M W f)) (e : ∀ env st, f env st = g env st) : PA X x (TBs X.K M W g) := by
  rw [show g = f from funext fun a => funext fun b => (e a b).symm]; exact h
theorem _root_.L2.PW.eqv {X : Cx} {M : Nm} {W : WX} {x : Expr} {f g : Env → Store → Res Bool} (h : PW X x (TT' X.K M W f)) (e : ∀ env st, f env st = g env st) : PW X x (TT' X.K M W g) := by
  rw [show g = f from funext fun a => funext fun b => (e a b).symm]; exact h
theorem _root_.L2.PI.eqvC {X : Cx} {M : Nm} {W : WX} {t x : Expr} {f g : Env → Store → Res (List Val)} (h : PI X t x (WIc X.K M W f)) (e : ∀ env st, f env st = g env st) : PI X t x (WIc X.K M W g) := by
  rw [show g = f from funext fun a => funext fun b => (e a b).symm]; exact h
theorem _root_.L2.PI.eqvS {X : Cx} {M : Nm} {W : WX} {t x : Expr} {f g : Env → Store → Res (List Val)} (h : PI X t x (WIs X.K M W f)) (e : ∀ env st, f env st = g env st) : PI X t x (WIs X.K M W g) := by
  rw [show g = f from funext fun a => funext fun b => (e a b).symm]; exact h
theorem plainIx_of {x : Expr} (h : notSlice x = true) : PlainIx x := by
  cases x <;> first | (cases h; done) | exact fun _ _ => rfl
theorem behind_of {op : CmpOp} {x : Expr} (h : notSet x = true) : behindInMarks op x = false := by
  cases x <;> first | (cases h; done) | rfl
theorem folded_of {x : Expr} {env : PySem.Env} (h : notSet x = true) : ∀ v, foldedSetIterable x env v = pure v := by
  cases x <;> first | (cases h; done) | exact fun _ => rfl

section
variable {M : Nm} {nm : Nms} {C : Cfg} {k : Nat} {cal mk : CallF} {N : List Str}
theorem Ctx.hu {X : Cx} {W : WX} {sc : Scope} (c : Ctx M nm C k cal mk X W N sc) : X.A.units + 160 < cLine := by have := c.room.un; omega
theorem Ctx.gl {X : Cx} {W : WX} {sc : Scope} (c : Ctx M nm C k cal mk X W N sc) {n : Str} (h : glbB sc n = true) : Gl X n := by
  have := (glbB_of h).1
  rw [← c.sc] at this
  exact this
theorem Ctx.var {X : Cx} {W : WX} {sc : Scope} (c : Ctx M nm C k cal mk X W N sc) {i : Nat} {n : Str} (h : varB N sc i n = true) : X.N[i]? = some n ∧ Vis X.env.scope n ∧ (n == ("__debug__" : Str)) = false ∧ (n == ("__classdict__" : Str)) = false := by
  rw [c.eN, c.sc]; exact varB_of h
/-- the context of a comprehension's block -/
theorem Ctx.blk {X : Cx} {W : WX} {sc : Scope} (c : Ctx M nm C k cal mk X W N sc) (s : Shared) (H : Hp) (scope : Scope) (Ca : Addr) (cl : List (Str × Addr)) (fp : List Addr) : Ctx M nm C k cal mk (X.blk s H scope (compEnvC scope cl Ca X.env) fp) W0 N (subSc scope sc) where
  tab := c.tab
  eN := c.eN
  nd := c.nd
  sc := by rw [← c.sc]; rfl
  calm := c.calm
  room := c.room
  tk := takes0
theorem blkB_of {sc scope : Scope} {own : List (Str × Nat)} (h : blkB N sc scope own = true) : BlkOk N sc scope own := by
  unfold blkB at h
  simp only [Bool.and_eq_true, List.all_eq_true, decide_eq_true_eq, Bool.or_eq_true, Bool.not_eq_true', decide_eq_false_iff_not] at h
  obtain ⟨⟨⟨⟨h1, h2⟩, h3⟩, h4⟩, h5⟩ := h
  refine ⟨h1, h2, fun p hp => slotB_of (h3 p hp), fun y hy e => ?_, fun y hy e => ?_⟩
  · rcases h4 y hy with h | h
    · exact absurd e h
    · exact h
  · rcases h5 y hy with h | h
    · exact absurd e (by
        intro e
        rcases e with e | e <;> simp [e] at h)
    · rcases h with h | h
      · exact .inl (by simpa using h)
      · exact .inr (by simpa using h)
/-- a target in a block -/
theorem tgB_go {X : Cx} (hN : X.N.Nodup) {ok : Str → Bool} (hok : ∀ n, ok n = true → Loc X.env.scope n ∧ (X.fn n = true ∨ X.env.scope.names.lookup n = some .local)) : ∀ (is : List Nat) (xs : List Expr), tgB.go X.N ok is xs = true → PGs X xs (gTs is) ∧ (assignEach xs X.env).length = is.length ∧ (assignEach xs X.env).findIdx? (·.1) = none
  | [], [], _ => ⟨pgs_nil, rfl, rfl⟩
  | [], _ :: _, h => by cases h
  | i :: is, [], h => by cases h
  | i :: is, x :: xs, h => by
    cases x <;> first | (cases h; done) | skip
    rename_i n p
    simp only [tgB.go, Bool.and_eq_true] at h
    obtain ⟨g1, g2, g3⟩ := tgB_go hN hok is xs h.2
    refine ⟨pgs_cons (pg_name hN (slotB_of h.1.1) (hok n h.1.2).1 (hok n h.1.2).2) g1 rfl, ?_, ?_⟩
    · show (assignEach xs X.env).length + 1 = is.length + 1
      rw [g2]
    · show ((false, assign (.Name n p) X.env) :: assignEach xs X.env).findIdx? (·.1) = none
      rw [List.findIdx?_cons]
      simp only [Bool.false_eq_true, if_false]
      rw [g3]
      rfl
theorem tgB_of {X : Cx} (hc : X.calm = true) (hN : X.N.Nodup) {ok : Str → Bool} (hok : ∀ n, ok n = true → Loc X.env.scope n ∧ (X.fn n = true ∨ X.env.scope.names.lookup n = some .local)) {t : Tg} {x : Expr} (h : tgB X.N ok t x = true) : PG X x (tgG X.K t) := by
  cases t with
  | nm i =>
    cases x <;> first | (cases h; done) | skip
    rename_i n p
    simp only [tgB, Bool.and_eq_true] at h
    exact pg_name hN (slotB_of h.1) (hok n h.2).1 (hok n h.2).2
  | tp is =>
    cases x <;> first | (cases h; done) | skip
    obtain ⟨g1, g2, g3⟩ := tgB_go hN hok is _ h
    exact pg_tup hc g1 g2 g3
theorem evs_ns {e : Ex} {r : List Ex} (h : ∀ e', e ≠ .star e') (env : Env) (st : Store) : evs C cal mk (e :: r) env st = (ev C cal mk e env st).bind fun v st => (evs C cal mk r env st).bind fun ys st => .ok (v.2 :: ys) st := by
  cases e <;> first | exact absurd rfl (h _) | rfl
theorem evs_len' : ∀ (es : List Ex) (env : Env) (st : Store) (vs : List Val) (st' : Store), evs C cal mk es env st = .ok vs st' → vs.length + 1000 ≤ maxLen + es.length
  | [], env, st, vs, st', e => by
    simp only [evs] at e
    cases e
    show 0 + 1000 ≤ 100000 + 0
    omega
  | a :: r, env, st, vs, st', e => by
    by_cases h : ∃ e', a = .star e'
    · obtain ⟨e', rfl⟩ := h
      simp only [evs] at e
      cases h1 : opF e' (fun env st => ev C cal mk e' env st) env st with
      | bad => rw [h1] at e; cases e
      | exc _ _ _ => rw [h1] at e; cases e
      | ok v s1 =>
        rw [h1] at e
        simp only [Res.bind_ok] at e
        cases h2 : seqOf s1 v with
        | none => rw [h2] at e; cases e
        | some xs =>
          rw [h2] at e
          simp only [Res.of_some, Res.bind_ok] at e
          cases h3 : evs C cal mk r env s1 with
          | bad => rw [h3] at e; cases e
          | exc _ _ _ => rw [h3] at e; cases e
          | ok ys s2 =>
            rw [h3] at e
            simp only [Res.bind_ok] at e
            split at e
            · cases e; simp only [List.length_append, List.length_cons]; omega
            · cases e
    · rw [evs_ns (fun e' q => h ⟨e', q⟩)] at e
      cases h1 : ev C cal mk a env st with
      | bad => rw [h1] at e; cases e
      | exc _ _ _ => rw [h1] at e; cases e
      | ok v s1 =>
        rw [h1] at e
        simp only [Res.bind_ok] at e
        cases h3 : evs C cal mk r env s1 with
        | bad => rw [h3] at e; cases e
        | exc _ _ _ => rw [h3] at e; cases e
        | ok ys s2 =>
          rw [h3] at e
          cases e
          have := evs_len' r env s1 _ _ h3
          simp only [List.length_cons]
          omega
theorem chks_len {sc : Scope} : ∀ (es : List Ex) (xs : List Expr), chks nm N sc es xs = true → es.length = xs.length
  | [], [], _ => rfl
  | [], _ :: _, h => by simp [chks] at h
  | _ :: _, [], h => by cases ‹Ex› <;> simp [chks] at h
  | e :: r, x :: xs, h => by
    have : chks nm N sc r xs = true := by
      by_cases q : ∃ e', e = .star e'
      · obtain ⟨e', rfl⟩ := q
        cases x <;> simp [chks, chk] at h
        exact h.2
      · cases e <;> first | exact absurd ⟨_, rfl⟩ q | (simp only [chks, Bool.and_eq_true] at h; exact h.2)
    simp [chks_len r xs this]
theorem chks_ns {sc : Scope} {e : Ex} {r : List Ex} {x : Expr} {xs : List Expr} (hx : noStar x = true) (h : chks nm N sc (e :: r) (x :: xs) = true) : (∀ e', e ≠ .star e') ∧ chk nm N sc e x = true ∧ chks nm N sc r xs = true := by
  by_cases q : ∃ e', e = .star e'
  · obtain ⟨e', rfl⟩ := q
    cases x <;> first | (cases hx; done) | (simp [chks, chk] at h)
  · refine ⟨fun e' z => q ⟨e', z⟩, ?_⟩
    cases e <;> first | exact absurd ⟨_, rfl⟩ q | (simp only [chks, Bool.and_eq_true] at h; exact ⟨h.1.2, h.2⟩)
theorem chks_st {sc : Scope} {e : Ex} {r : List Ex} {x : Expr} {p : Pos} {xs : List Expr} (h : chks nm N sc (e :: r) (.Starred x p :: xs) = true) : ∃ e', e = .star e' ∧ chk nm N sc e' x = true ∧ chks nm N sc r xs = true := by
  by_cases q : ∃ e', e = .star e'
  · obtain ⟨e', rfl⟩ := q
    simp only [chks, Bool.and_eq_true] at h
    exact ⟨e', rfl, h.1, h.2⟩
  · cases e <;> first | exact absurd ⟨_, rfl⟩ q | (simp [chks, noStar] at h)
theorem chkf_len {sc : Scope} : ∀ (es : List Ex) (xs : List Expr), chkf nm N sc es xs = true → es.length = xs.length
  | [], [], _ => rfl
  | [], _ :: _, h => by simp [chkf] at h
  | _ :: _, [], h => by simp [chkf] at h
  | e :: r, x :: xs, h => by
    have : chkf nm N sc r xs = true := by
      cases x <;> first | (simp [chkf] at h; done) | (simp only [chkf, Bool.and_eq_true] at h; exact h.2)
    simp [chkf_len r xs this]
theorem opd_of {X : Cx} {W : WX} {sc : Scope} {x : Expr} {e : Ex} (c : Ctx M nm C k cal mk X W N sc) (h : chk nm N sc e x = true) (p : PE X x (TR X.K M W fun env st => ev C cal mk e env st)) : PE X x (TB X.K M W fun env st => opd C cal mk e env st) := by
  cases e <;> first | exact pe_opd p | skip
  rename_i i
  cases x <;> first | (simp [chk] at h; done) | skip
  simp only [chk] at h
  obtain ⟨h1, h2, h3, h4⟩ := c.var h
  exact c_peek h1 h2 h3 h4
theorem ty_blt (T : Ty) : tyS T ∈ bltNames := by cases T <;> decide
theorem biS_blt {b : Bi} {s : String} (h : biS b = some s) : s ∈ bltNames := by
  cases b <;> first | (cases h; done) | (cases h; decide)
theorem evF_fl (es : List Ex) (env : Env) (st : Store) : evF C cal mk es env st = evFl (es.map fun e env st => ev C cal mk e env st) env st := by
  induction es generalizing st with
  | nil => rfl
  | cons e r ih =>
    simp only [evF, List.map_cons, evFl, ih]
theorem walkNd_eq (v : Val) : walkNd v = walkOf v := by cases v <;> rfl
end
/-- a value, and a test -/
structure Both (X : Cx) (W : WX) (M : Nm) (C : Cfg) (cal mk : CallF) (e : Ex) (x : Expr) : Prop where
  pe : PE X x (TR X.K M W fun env st => ev C cal mk e env st)
  pt : tOk e = true → PT X x (TT' X.K M W fun env st => evB C cal mk e env st)
theorem both_of {X : Cx} {W : WX} {M : Nm} {C : Cfg} {cal mk : CallF} {e : Ex} {x : Expr} (h : PE X x (TR X.K M W fun env st => ev C cal mk e env st)) (ht : ∀ whole, isTrue x X.env whole = (do let v ← whole; standAt x.pos; holding [v] (truthy v))) : Both X W M C cal mk e x :=
  ⟨h, fun _ => (pt_of h ht).eqv fun env st => rfl⟩
theorem t_bad {X : Cx} {M : Nm} {W : WX} {a : Expr} : PT X a (TT' X.K M W fun _ _ => .bad) := ⟨fun pins s σ H Q I ⟨Hb, Z, ρ, env, st, rh, re, q⟩ => q.elim⟩
section
variable {M : Nm} {nm : Nms} {C : Cfg} {k : Nat} {cal mk : CallF} {N : List Str}
mutual
theorem sndB : ∀ (e : Ex) {X : Cx} {W : WX} {sc : Scope} {x : Expr}, Ctx M nm C k cal mk X W N sc → chk nm N sc e x = true → Both X W M C cal mk e x
  | .var i, X, W, sc, x, c, h => by
    cases x <;> first | (simp [chk] at h; done) | skip
    simp only [chk] at h
    obtain ⟨h1, h2, h3, h4⟩ := c.var h
    exact both_of ((c_var h1 h2 h3 h4).eqv fun env st => rfl) (fun _ => rfl)
  | .glb g, X, W, sc, x, c, h => by
    cases x <;> first | (simp [chk] at h; done) | skip
    simp only [chk, Bool.and_eq_true] at h
    cases e : C.glb g with
    | none => exact both_of ((e_bad (M := M) (W := W)).eqv fun env st => by simp [ev, e]) (fun _ => rfl)
    | some v =>
      obtain ⟨w, u, g1, g2, g3⟩ := c.tab.glb g v e
      have hn := beqT h.1
      subst hn
      exact both_of ((c_glb (c.gl h.2) g1 g2 (glbB_of h.2).2 g3).eqv fun env st => by simp [ev, e]) (fun _ => rfl)
  | .cst v, X, W, sc, x, c, h => by
    cases x <;> first | (simp [chk] at h; done) | skip
    rename_i cv kk p
    simp only [chk] at h
    cases v <;> cases cv <;> first | (cases h; done) | skip
    · exact both_of ((c_cst pe_non fun _ _ => .non).eqv fun env st => rfl) (fun _ => rfl)
    · simp only [cstB, beq_iff_eq] at h; subst h; exact both_of ((c_cst pe_bl fun _ _ => .bl _).eqv fun env st => rfl) (fun _ => rfl)
    · simp only [cstB, beq_iff_eq] at h; subst h; exact both_of ((c_cst pe_int fun _ _ => .int _).eqv fun env st => rfl) (fun _ => rfl)
    · simp only [cstB, Bool.and_eq_true, beq_iff_eq] at h
      obtain ⟨h1, h2⟩ := h
      subst h1
      exact both_of ((c_cst pe_str fun _ _ => .str _ h2).eqv fun env st => rfl) (fun _ => rfl)
  | .tup es, X, W, sc, x, c, h => by
    cases x <;> first | (simp [chk] at h; done) | skip
    simp only [chk, Bool.and_eq_true, decide_eq_true_eq] at h
    exact both_of ((c_tup (snds es c h.1) fun env st vs st' e => by have := evs_len' es env st vs st' e; have := chks_len es _ h.1; omega).eqv fun env st => rfl) (fun _ => rfl)
  | .lst es, X, W, sc, x, c, h => by
    cases x <;> first | (simp [chk] at h; done) | skip
    simp only [chk, Bool.and_eq_true, decide_eq_true_eq] at h
    exact both_of ((c_lst (snds es c h.1) fun env st vs st' e => by have := evs_len' es env st vs st' e; have := chks_len es _ h.1; omega).eqv fun env st => rfl) (fun _ => rfl)
  | .bin op a b, X, W, sc, x, c, h => by
    cases x <;> first | (simp [chk] at h; done) | skip
    simp only [chk, Bool.and_eq_true, decide_eq_true_eq] at h
    obtain ⟨⟨h1, h2⟩, h3⟩ := h
    subst h1
    exact both_of ((c_bin (opd_of c h2 (sndB a c h2).pe) (opd_of c h3 (sndB b c h3).pe)).eqv fun env st => rfl) (fun _ => rfl)
  | .cmp op a b, X, W, sc, x, c, h => by
    unfold chk at h
    split at h
    · simp only [Bool.and_eq_true, decide_eq_true_eq] at h
      obtain ⟨⟨⟨h1, h2⟩, h3⟩, h4⟩ := h
      subst h1
      exact ⟨(c_cmp c.hu (behind_of h2) (opd_of c h3 (sndB a c h3).pe) (opd_of c h4 (sndB b c h4).pe)).eqv fun env st => rfl, fun ht => (pt_cmpT c.hu (behind_of h2) (opd_of c h3 (sndB a c h3).pe) (opd_of c h4 (sndB b c h4).pe)).eqv fun env st => by
        show _ = ((opd C cal mk a env st).bind fun x st => (opd C cal mk b env st).bind fun y st => Res.of ((cmpop op st x y).map fun b => (false, Val.bl b)) st).bind fun v st => Res.of (asBl v) st
        cases opd C cal mk a env st with
        | bad => rfl
        | exc _ _ _ => rfl
        | ok v s =>
          simp only [Res.bind_ok]
          cases opd C cal mk b env s with
          | bad => rfl
          | exc _ _ _ => rfl
          | ok v2 s2 =>
            simp only [Res.bind_ok]
            cases cmpop op s2 v v2 <;> rfl⟩
    · cases h
  | .cmp2 o1 o2 a b d, X, W, sc, x, c, h => by
    unfold chk at h
    split at h
    · simp only [Bool.and_eq_true, decide_eq_true_eq] at h
      obtain ⟨⟨⟨⟨⟨h1, h2⟩, h3⟩, h4⟩, h5⟩, h6⟩ := h
      subst h1; subst h2
      exact ⟨(c_cmp2 c.hu (show behindInMarks _ _ = false from behind_of h3) (opd_of c h4 (sndB a c h4).pe) (opd_of c h5 (sndB b c h5).pe) (opd_of c h6 (sndB d c h6).pe)).eqv fun env st => rfl, fun ht => (pt_cmp2T c.hu (show behindInMarks _ _ = false from behind_of h3) (opd_of c h4 (sndB a c h4).pe) (opd_of c h5 (sndB b c h5).pe) (opd_of c h6 (sndB d c h6).pe)).eqv fun env st => by
        show _ = ((opd C cal mk a env st).bind fun x st => (opd C cal mk b env st).bind fun y st => (Res.of (cmpop o1 st x y) st).bind fun r st => if r then (opd C cal mk d env st).bind fun z st => Res.of ((cmpop o2 st y z).map fun b => (false, Val.bl b)) st else .ok (false, Val.bl false) st).bind fun v st => Res.of (asBl v) st
        cases opd C cal mk a env st with
        | bad => rfl
        | exc _ _ _ => rfl
        | ok v s =>
          simp only [Res.bind_ok]
          cases opd C cal mk b env s with
          | bad => rfl
          | exc _ _ _ => rfl
          | ok v2 s2 =>
            simp only [Res.bind_ok]
            cases cmpop o1 s2 v v2 with
            | none => rfl
            | some r =>
              simp only [Res.of_some, Res.bind_ok]
              cases r with
              | false => rfl
              | true =>
                simp only [if_true]
                cases opd C cal mk d env s2 with
                | bad => rfl
                | exc _ _ _ => rfl
                | ok v3 s3 =>
                  simp only [Res.bind_ok]
                  cases cmpop o2 s3 v2 v3 <;> rfl⟩
    · cases h
  | .and es, X, W, sc, x, c, h => by
    unfold chk at h
    split at h
    · simp only [Bool.and_eq_true] at h
      exact ⟨(sndA es c h.1.1 h.1.2 (by intro z; subst z; simp at h)).eqv fun env st => rfl, fun ht => ((sndTA es c (by simpa [tOk] using ht) h.1.1 h.1.2 (by intro z; subst z; simp at h)).pt).eqv fun env st => rfl⟩
    · cases h
  | .or es, X, W, sc, x, c, h => by
    unfold chk at h
    split at h
    · simp only [Bool.and_eq_true] at h
      exact ⟨(sndO es c h.1.1 h.1.2 (by intro z; subst z; simp at h)).eqv fun env st => rfl, fun ht => ((sndTO es c (by simpa [tOk] using ht) h.1.1 h.1.2 (by intro z; subst z; simp at h)).pt).eqv fun env st => rfl⟩
    · cases h
  | .not a, X, W, sc, x, c, h => by
    unfold chk at h
    split at h
    · exact ⟨(c_not (sndB a c h).pe).eqv fun env st => rfl, fun ht => (pt_notT ((sndB a c h).pt (by simpa [tOk] using ht))).eqv fun env st => by
        simp only [evB, ev]
        cases ev C cal mk a env st with
        | bad => rfl
        | exc _ _ _ => rfl
        | ok v s =>
          simp only [Res.bind_ok]
          cases asBl v <;> rfl⟩
    · cases h
  | .ife t a b, X, W, sc, x, c, h => by
    unfold chk at h
    split at h
    · simp only [Bool.and_eq_true] at h
      obtain ⟨⟨⟨h1, h2⟩, h3⟩, h4⟩ := h
      exact ⟨(c_ife ((sndB t c h2).pt h1) (sndB a c h3).pe (sndB b c h4).pe).eqv fun env st => by unfold evB; rw [Res.bind_assoc]; rfl, fun z => by simp [tOk] at z⟩
    · cases h
  | .call f es, X, W, sc, x, c, h => by
    unfold chk at h
    split at h
    · rename_i n p xs pos
      simp only [Bool.and_eq_true] at h
      obtain ⟨⟨⟨⟨h1, h2⟩, h3⟩, h4⟩, h5⟩ := h
      have h2 := beqT h2
      subst h2
      obtain ⟨fa, fd, ps, g1, g2, g3, g4⟩ := c.tab.call f h1
      cases xs with
      | nil =>
          cases es with
          | nil => exact both_of ((c_call0 g4 c.room c.tk (c.gl h3) g1 g2 g3 (glbB_of h3).2).eqv fun env st => rfl) (fun _ => rfl)
          | cons _ _ => exact absurd (chks_len _ _ h5) (by simp)
      | cons y ys =>
          simp only [List.all_cons, Bool.and_eq_true] at h4
          exact both_of ((c_call g4 c.room c.tk (c.gl h3) g1 g2 g3 (glbB_of h3).2 h4.1 h4.2 (snds es c h5)).eqv fun env st => rfl) (fun _ => rfl)
    · cases h
  | .make cl es, X, W, sc, x, c, h => by
    unfold chk at h
    split at h
    · rename_i n p xs pos
      simp only [Bool.and_eq_true] at h
      obtain ⟨⟨⟨⟨⟨h0, h1⟩, h2⟩, h3⟩, h4⟩, h5⟩ := h
      have h1 := beqT h1
      subst h1
      cases xs with
      | nil => simp at h4
      | cons y ys =>
        obtain ⟨g1, g2, g3⟩ := c.tab.make cl h0
        simp only [List.all_cons, Bool.and_eq_true] at h3
        exact both_of ((c_make (Cf := C) (fun f hf => ⟨g3 f hf⟩) c.room c.tk (c.gl h2) g1 g2 (glbB_of h2).2 h3.1 h3.2 (snds es c h5)).eqv fun env st => rfl) (fun _ => rfl)
    · cases h
  | .meth o m es, X, W, sc, x, c, h => by
    unfold chk at h
    split at h
    · rename_i l a ap xs p
      simp only [Bool.and_eq_true, decide_eq_true_eq] at h
      obtain ⟨⟨⟨⟨⟨⟨⟨h1, h2⟩, h3⟩, h4⟩, h5⟩, h6⟩, h7⟩, h8⟩ := h
      have h1 := beqT h1
      rw [← c.tab.an] at h1
      subst h1
      cases xs with
      | nil =>
        cases es with
        | nil => exact both_of ((c_meth0 (Cf := C) (fun cl f hf => ⟨c.tab.meth cl m f hf⟩) c.room c.tk h2 h3 h6 (opd_of c h7 (sndB o c h7).pe)).eqv fun env st => rfl) (fun _ => rfl)
        | cons _ _ => exact absurd (chks_len _ _ h8) (by simp)
      | cons y ys =>
        simp only [List.all_cons, Bool.and_eq_true] at h4
        exact both_of ((c_meth (Cf := C) (fun cl f hf => ⟨c.tab.meth cl m f hf⟩) c.room c.tk h2 h3 h4.1 h4.2 h5 h6 (opd_of c h7 (sndB o c h7).pe) (snds es c h8)).eqv fun env st => rfl) (fun _ => rfl)
    · cases h
  | .attr o m, X, W, sc, x, c, h => by
    unfold chk at h
    split at h
    · simp only [Bool.and_eq_true, decide_eq_true_eq] at h
      obtain ⟨⟨⟨h1, hm⟩, h2⟩, h3⟩ := h
      have h1 := beqT h1
      rw [← c.tab.an] at h1
      subst h1
      exact both_of ((c_attr (Cf := C) (fun cl hf => (c.tab.fld cl m hf).2) hm h2 (opd_of c h3 (sndB o c h3).pe)).eqv fun env st => rfl) (fun _ => rfl)
    · cases h
  | .bi b es, X, W, sc, x, c, h => by
    unfold chk at h
    split at h
    · rename_i n p xs pos
      cases hb : biS b with
      | none =>
        rw [hb] at h
        dsimp only at h
        match es, h with
        | [], h => cases h
        | _ :: _ :: _, h => cases h
        | [e], h =>
          dsimp only at h
          split at h
          · rename_i n2 p2 y q2
            simp only [Bool.and_eq_true] at h
            obtain ⟨⟨⟨⟨⟨h1, h2⟩, h3⟩, h4⟩, h5⟩, h6⟩ := h
            have h1 := beqT h1
            have h2 := beqT h2
            subst h1
            subst h2
            exact both_of ((c_srtset c.calm (c.gl h3) (c.tab.blt "sorted" (by decide)) (c.gl h4) (c.tab.blt "set" (by decide)) h5 (opd_of c h6 (sndB e c h6).pe)).eqv fun env st => by
              show (opd C cal mk e env st).bind _ = ((opd C cal mk e env st).bind _).bind _
              cases opd C cal mk e env st <;> rfl) (fun _ => rfl)
          · cases h
      | some s =>
      rw [hb] at h
      dsimp only at h
      simp only [Bool.and_eq_true] at h
      obtain ⟨⟨⟨⟨h1, h2⟩, h3⟩, h4⟩, h5⟩ := h
      cases xs with
      | nil => simp at h4
      | cons y ys =>
          have h1 := beqT h1
          subst h1
          have ha := sndo es c h5 h3
          have hm := c.tab.blt s (biS_blt hb)
          have hdb := (glbB_of h2).2
          simp only [List.all_cons, Bool.and_eq_true] at h3
          cases b <;> first | (cases hb; done) | (cases hb)
          · exact both_of ((c_biB bi_len (c.gl h2) hm (by decide +kernel) (by decide +kernel) hdb h3.1 h3.2 ha).eqv fun env st => rfl) (fun _ => rfl)
          · exact both_of ((c_biB (bi_all c.calm) (c.gl h2) hm (by decide +kernel) (by decide +kernel) hdb h3.1 h3.2 ha).eqv fun env st => rfl) (fun _ => rfl)
          · exact both_of ((c_biT (bi_list c.calm) (c.gl h2) hm (by decide +kernel) (by decide +kernel) hdb h3.1 h3.2 ha).eqv fun env st => rfl) (fun _ => rfl)
          · exact both_of ((c_biT bi_tuple (c.gl h2) hm (by decide +kernel) (by decide +kernel) hdb h3.1 h3.2 ha).eqv fun env st => rfl) (fun _ => rfl)
          · exact both_of ((c_biB (bi_max c.calm) (c.gl h2) hm (by decide +kernel) (by decide +kernel) hdb h3.1 h3.2 ha).eqv fun env st => rfl) (fun _ => rfl)
          · exact both_of ((c_biB (bi_min c.calm) (c.gl h2) hm (by decide +kernel) (by decide +kernel) hdb h3.1 h3.2 ha).eqv fun env st => rfl) (fun _ => rfl)
          · exact both_of ((c_biB bi_abs (c.gl h2) hm (by decide +kernel) (by decide +kernel) hdb h3.1 h3.2 ha).eqv fun env st => rfl) (fun _ => rfl)
          · exact both_of ((c_biT bi_int (c.gl h2) hm (by decide +kernel) (by decide +kernel) hdb h3.1 h3.2 ha).eqv fun env st => rfl) (fun _ => rfl)
    · cases h
  | .isi e ts, X, W, sc, x, c, h => by
    unfold chk at h
    split at h
    · simp only [Bool.and_eq_true] at h
      obtain ⟨⟨⟨⟨⟨h1, h2⟩, h3⟩, h4⟩, h5⟩, h6⟩ := h
      split at h1
      · have h1 := beqT h1
        have h2 := beqT h2
        subst h1; subst h2
        exact both_of ((c_isi1 h5 (c.gl h3) (c.tab.blt _ (by decide)) (c.gl h4) (c.tab.blt _ (ty_blt _)) (opd_of c h6 (sndB e c h6).pe)).eqv fun env st => rfl) (fun _ => rfl)
      · cases h1
    · simp only [Bool.and_eq_true] at h
      obtain ⟨⟨⟨⟨⟨⟨h1, h2⟩, h3⟩, h4⟩, h4'⟩, h5⟩, h6⟩ := h
      split at h1
      · simp only [Bool.and_eq_true] at h1
        have h1a := beqT h1.1
        have h1b := beqT h1.2
        have h2 := beqT h2
        subst h1a; subst h1b; subst h2
        exact both_of ((c_isi2 h5 (c.gl h3) (c.tab.blt _ (by decide)) (c.gl h4) (c.tab.blt _ (ty_blt _)) (c.gl h4') (c.tab.blt _ (ty_blt _)) (opd_of c h6 (sndB e c h6).pe)).eqv fun env st => rfl) (fun _ => rfl)
      · cases h1
    · cases h
  | .sub o i, X, W, sc, x, c, h => by
    unfold chk at h
    split at h
    · simp only [Bool.and_eq_true] at h
      obtain ⟨⟨h1, h2⟩, h3⟩ := h
      exact both_of ((c_sub c.hu (plainIx_of h1) (opd_of c h2 (sndB o c h2).pe) (sndB i c h3).pe).eqv fun env st => rfl) (fun _ => rfl)
    · cases h
  | .slc o a b, X, W, sc, x, c, h => by
    unfold chk at h
    split at h
    · simp only [Bool.and_eq_true] at h
      obtain ⟨⟨h1, h2⟩, h3⟩ := h
      exact both_of ((c_slc (opd_of c h1 (sndB o c h1).pe) (sndB a c h2).pe (sndB b c h3).pe).eqv fun env st => rfl) (fun _ => rfl)
    · cases h
  | .slcL o a, X, W, sc, x, c, h => by
    unfold chk at h
    split at h
    · simp only [Bool.and_eq_true] at h
      exact both_of ((c_slcL (opd_of c h.1 (sndB o c h.1).pe) (sndB a c h.2).pe).eqv fun env st => rfl) (fun _ => rfl)
    · cases h
  | .slcR o a, X, W, sc, x, c, h => by
    unfold chk at h
    split at h
    · simp only [Bool.and_eq_true] at h
      exact both_of ((c_slcR (opd_of c h.1 (sndB o c h.1).pe) (sndB a c h.2).pe).eqv fun env st => rfl) (fun _ => rfl)
    · cases h
  | .pop o i, X, W, sc, x, c, h => by
    unfold chk at h
    split at h
    · simp only [Bool.and_eq_true] at h
      obtain ⟨⟨⟨⟨⟨h1, h2⟩, h3⟩, h4⟩, h5⟩, h6⟩ := h
      have h1 := beqT h1
      subst h1
      exact both_of ((c_pop h2 h3 h4 (opd_of c h5 (sndB o c h5).pe) (sndB i c h6).pe).eqv fun env st => rfl) (fun _ => rfl)
    · cases h
  | .hole, X, W, sc, x, c, h => ⟨(e_bad (M := M) (W := W)).eqv fun env st => rfl, fun _ => (t_bad (M := M) (W := W)).eqv fun env st => rfl⟩
  | .lc e tg k args cs, X, W, sc, x, c, h => by
    unfold chk at h
    split at h
    · rename_i elt t it ifs z scope pos
      simp only [Bool.and_eq_true, decide_eq_true_eq] at h
      obtain ⟨⟨⟨⟨⟨⟨⟨h1, h2⟩, h3⟩, h4⟩, h5⟩, h6⟩, h7⟩, h8⟩ := h
      subst h1
      have ok : BlkOk X.N X.env.scope scope ((tgNames t).zip (tgS tg)) := by rw [c.eN, c.sc]; exact blkB_of h4
      have hg : ∀ (s : Shared) (H : Hp) (Ca : Addr) (cl : List (Str × Addr)) (fp : List Addr), PG (X.blk s H scope (compEnvC scope cl Ca X.env) fp) t (tgG X.K tg) := fun s H Ca cl fp => by
        have cb := c.blk s H scope Ca cl fp
        refine tgB_of (X := X.blk s H scope (compEnvC scope cl Ca X.env) fp) c.calm (by rw [c.eN]; exact c.nd) (ok := fun n => decide (scope.names.lookup n = some .local) && decide ((subSc scope sc).names.lookup n = some .local)) (fun n hn => ?_) (by rw [c.eN]; exact h3)
        rw [cb.sc]
        simp only [Bool.and_eq_true, decide_eq_true_eq] at hn
        exact ⟨.inl hn.2, .inr hn.2⟩
      have he : ∀ (s : Shared) (H : Hp) (Ca : Addr) (cl : List (Str × Addr)) (fp : List Addr), PE (X.blk s H scope (compEnvC scope cl Ca X.env) fp) elt (TR X.K M W0 fun env st => ev C cal mk e env st) := fun s H Ca cl fp => (sndB e (c.blk s H scope Ca cl fp) h8).pe
      have ht : ∀ (s : Shared) (H : Hp) (Ca : Addr) (cl : List (Str × Addr)) (fp : List Addr), PTs (X.blk s H scope (compEnvC scope cl Ca X.env) fp) ifs (TT' X.K M W0 fun env st => evAll C cal mk cs env st) := fun s H Ca cl fp => by
        match cs, ifs, h7 with
        | [], [], h7 => exact ⟨fun pins s σ H Q I ⟨Hb, Z, ρ, env, st, rh, re, q⟩ => pts_nil.run pins s σ H Q I (q H Z ρ Adv.refl rh)⟩
        | [t], [y], h7 =>
          simp only [Bool.and_eq_true] at h7
          refine pts_one (PT.eqv ((sndB t (c.blk s H scope Ca cl fp) h7.2).pt h7.1) fun env st => ?_)
          simp only [evAll, evB]
          cases ev C cal mk t env st with
          | bad => rfl
          | exc _ _ _ => rfl
          | ok v s1 =>
            simp only [Res.bind_ok]
            cases asBl v with
            | none => rfl
            | some b => cases b <;> rfl
      have hi : PI X t it (WIc X.K M W fun env st => (opds C cal mk args env st).bind fun vs st => Res.of (itOp k st vs) st) := by
        cases k with
        | ex =>
          match args, h6 with
          | [a], h6 =>
            refine PI.eqvC (i_exC (opd_of c h6 (sndB a c h6).pe)) fun env st => ?_
            show _ = ((opd C cal mk a env st).bind fun v st => (Res.ok [] st : Res (List Val)).bind fun ys st => .ok (v :: ys) st).bind fun vs st => Res.of (itOp .ex st vs) st
            rw [Res.bind_assoc]
            cases opd C cal mk a env st with
            | ok v s => simp only [Res.bind_ok, walkNd_eq]; rfl
            | _ => rfl
        | rng1 =>
          match args, it, h6 with
          | [a], .Call (.Name n p) [y] [] pos, h6 =>
            simp only [Bool.and_eq_true] at h6
            obtain ⟨⟨⟨g1, g2⟩, g3⟩, g4⟩ := h6
            have g1 := beqT g1
            subst g1
            exact PI.eqvC (i_rng1 (fl := fun env st => (opd C cal mk a env st).bind fun v st => (Res.ok [] st : Res (List Val)).bind fun ys st => .ok (v :: ys) st) (.inr rfl) (c.gl g2) (c.tab.blt _ (by decide)) g3 (b_cons g3 (opd_of c g4 (sndB a c g4).pe) b_nil)) fun env st => rfl
        | _ => cases h6
      exact both_of ((c_lc c.calm (by rw [c.eN]; exact c.nd) hi ok h5 hg ht he (folded_of h2)).eqv fun env st => by rw [Res.bind_assoc]; rfl) (fun _ => rfl)
    · cases h
  | .fstr es, X, W, sc, x, c, h => by
    unfold chk at h
    split at h
    · rename_i xs pos
      simp only [Bool.and_eq_true, decide_eq_true_eq] at h
      obtain ⟨⟨h1, h2⟩, h3⟩ := h
      have hl := chkf_len es xs h1
      match xs, h2, h3, h1, hl with
      | [], h2, _, _, _ => simp at h2
      | [_], h2, _, _, _ => simp at h2
      | x :: y :: r, h2, h3, h1, hl =>
        exact both_of ((c_fstr (sndF es c h1) (by rw [List.length_map]; omega)).eqv fun env st => by rw [← evF_fl]; rfl) (fun _ => rfl)
    · cases h
  | .neg i, X, W, sc, x, c, h => by
    unfold chk at h
    split at h
    · rename_i j kk p1 p2
      have e : j = (i : Int) := by simpa using h
      subst e
      exact both_of ((c_neg (M := M) (W := W)).eqv fun env st => rfl) (fun _ => rfl)
    · cases h
  | .star _, X, W, sc, x, c, h => by simp [chk] at h
  | .dct es, X, W, sc, x, c, h => by
    unfold chk at h
    split at h
    · exact both_of ((c_dct0 (M := M) (W := W)).eqv fun env st => rfl) (fun _ => rfl)
    · cases h
  | .dctS _ _ _, X, W, sc, x, c, h => by simp [chk] at h
  | .prop _ _, X, W, sc, x, c, h => by simp [chk] at h
  | .isc _ _, X, W, sc, x, c, h => by simp [chk] at h
  | .gsub g i, X, W, sc, x, c, h => by
    cases e : C.gdc g with
    | none => exact ⟨(e_bad (M := M) (W := W)).eqv fun env st => by simp only [ev, e], fun _ => (t_bad (M := M) (W := W)).eqv fun env st => by simp only [evB, ev, e, Res.bind_bad]⟩
    | some kvs =>
      unfold chk at h
      split at h
      · simp only [Bool.and_eq_true] at h
        obtain ⟨⟨⟨h1, h2⟩, h3⟩, h4⟩ := h
        have h1 := beqT h1
        obtain ⟨a, g1, g2⟩ := c.tab.gdc g kvs e
        subst h1
        exact both_of ((c_gsub g2 (c.gl h2) g1 (glbB_of h2).2 (plainIx_of h3) (sndB i c h4).pe).eqv fun env st => by simp only [ev, e]) (fun _ => rfl)
      · cases h
  | .gnin g i, X, W, sc, x, c, h => by
    cases e : C.gdc g with
    | none => exact ⟨(e_bad (M := M) (W := W)).eqv fun env st => by simp only [ev, e], fun _ => (t_bad (M := M) (W := W)).eqv fun env st => by simp only [evB, ev, e, Res.bind_bad]⟩
    | some kvs =>
      unfold chk at h
      split at h
      · simp only [Bool.and_eq_true] at h
        obtain ⟨⟨h1, h2⟩, h4⟩ := h
        have h1 := beqT h1
        obtain ⟨a, g1, g2⟩ := c.tab.gdc g kvs e
        subst h1
        refine ⟨(c_gnin g2 (c.gl h2) g1 (glbB_of h2).2 (sndB i c h4).pe).eqv fun env st => by simp only [ev, e], fun _ => (t_gnin g2 (c.gl h2) g1 (glbB_of h2).2 (sndB i c h4).pe).eqv fun env st => ?_⟩
        simp only [evB, ev, e]
        cases ev C cal mk i env st with
        | ok v s =>
          simp only [Res.bind_ok]
          cases isStr v.2 <;> rfl
        | _ => rfl
      · cases h
  | .rev _, X, W, sc, x, c, h => by simp [chk] at h
  | .lc2 _ _ _ _ _ _ _ _, X, W, sc, x, c, h => by simp [chk] at h
  | .dc _ _ _ _ _, X, W, sc, x, c, h => by simp [chk] at h
  | .get _ _ _, X, W, sc, x, c, h => by simp [chk] at h
  | .lenO _, X, W, sc, x, c, h => by simp [chk] at h
  | .inO _ _, X, W, sc, x, c, h => by simp [chk] at h
  | .eqO _ _ _, X, W, sc, x, c, h => by simp [chk] at h
theorem sndo : ∀ (es : List Ex) {X : Cx} {W : WX} {sc : Scope} {xs : List Expr}, Ctx M nm C k cal mk X W N sc → chks nm N sc es xs = true → xs.all noStar = true → PA X xs (TBs X.K M W fun env st => opds C cal mk es env st)
  | [], X, W, sc, xs, c, h, ha => by
    cases xs with
    | nil => exact b_nil.eqvB fun env st => rfl
    | cons _ _ => simp [chks] at h
  | e :: r, X, W, sc, xs, c, h, ha => by
    cases xs with
    | nil => cases e <;> simp [chks] at h
    | cons x xs =>
      simp only [List.all_cons, Bool.and_eq_true] at ha
      obtain ⟨h1, h2, h3⟩ := chks_ns ha.1 h
      exact (b_cons ha.1 (opd_of c h2 (sndB e c h2).pe) (sndo r c h3 ha.2)).eqvB fun env st => rfl
theorem sndF : ∀ (es : List Ex) {X : Cx} {W : WX} {sc : Scope} {xs : List Expr}, Ctx M nm C k cal mk X W N sc → chkf nm N sc es xs = true → PJ X xs ((es.map fun e env st => ev C cal mk e env st).map (TP' X.K M W))
  | [], X, W, sc, xs, c, h => by
    cases xs with
    | nil => exact .nil
    | cons _ _ => simp [chkf] at h
  | e :: r, X, W, sc, xs, c, h => by
    cases xs with
    | nil => simp [chkf] at h
    | cons x xs =>
      cases x <;> first | (simp [chkf] at h; done) | skip
      · rename_i v cv s p
        simp only [chkf, Bool.and_eq_true, decide_eq_true_eq] at h
        obtain ⟨⟨⟨h1, h2⟩, h3⟩, h4⟩ := h
        subst h1
        cases s with
        | some _ => cases h2
        | none => exact .cons (part_f (sndB e c h3).pe) (sndF r c h4)
      · simp only [chkf, Bool.and_eq_true] at h
        exact .cons (part_c (sndB e c h.1).pe) (sndF r c h.2)
theorem snds : ∀ (es : List Ex) {X : Cx} {W : WX} {sc : Scope} {xs : List Expr}, Ctx M nm C k cal mk X W N sc → chks nm N sc es xs = true → PA X xs (TVs X.K M W fun env st => evs C cal mk es env st)
  | [], X, W, sc, xs, c, h => by
    cases xs with
    | nil => exact a_nil.eqv fun env st => rfl
    | cons _ _ => simp [chks] at h
  | e :: r, X, W, sc, xs, c, h => by
    cases xs with
    | nil => cases e <;> simp [chks] at h
    | cons x xs =>
      cases hx : noStar x with
      | true =>
        obtain ⟨h1, h2, h3⟩ := chks_ns hx h
        exact (a_cons hx (sndB e c h2).pe (snds r c h3)).eqv fun env st => (evs_ns h1 env st).symm
      | false =>
        cases x <;> first | (cases hx; done) | skip
        obtain ⟨e', q, h2, h3⟩ := chks_st h
        match e, q with
        | .star e2, q =>
          have q' : e' = e2 := by cases q; rfl
          rw [q'] at h2
          exact (a_star c.calm (opd_of c h2 (sndB e2 c h2).pe) (snds r c h3)).eqv fun env st => rfl
theorem sndA : ∀ (es : List Ex) {X : Cx} {W : WX} {sc : Scope} {xs : List Expr} {pos : Pos}, Ctx M nm C k cal mk X W N sc → chks nm N sc es xs = true → xs.all noStar = true → es ≠ [] → PE X (.BoolOp .And xs pos) (TR X.K M W fun env st => evAnd C cal mk es env st)
  | [], X, W, sc, xs, pos, c, h, ha, hn => absurd rfl hn
  | [e], X, W, sc, xs, pos, c, h, ha, hn => by
    match xs, ha, h with
    | [], ha, h => exact absurd (chks_len _ _ h) (by simp)
    | [x], ha, h =>
      simp only [List.all_cons, Bool.and_eq_true] at ha
      exact (c_and1 (sndB e c (chks_ns ha.1 h).2.1).pe).eqv fun env st => rfl
    | _ :: _ :: _, ha, h => exact absurd (chks_len _ _ h) (by simp)
  | e :: e2 :: r, X, W, sc, xs, pos, c, h, ha, hn => by
    match xs, ha, h with
    | [], ha, h => exact absurd (chks_len _ _ h) (by simp)
    | [x], ha, h => exact absurd (chks_len _ _ h) (by simp)
    | x :: y :: ys, ha, h =>
      simp only [List.all_cons, Bool.and_eq_true] at ha
      obtain ⟨_, h2, h3⟩ := chks_ns ha.1 h
      exact (c_and (sndB e c h2).pe (sndA (e2 :: r) c h3 (by simp [ha.2.1, ha.2.2]) (by simp))).eqv fun env st => rfl
theorem sndO : ∀ (es : List Ex) {X : Cx} {W : WX} {sc : Scope} {xs : List Expr} {pos : Pos}, Ctx M nm C k cal mk X W N sc → chks nm N sc es xs = true → xs.all noStar = true → es ≠ [] → PE X (.BoolOp .Or xs pos) (TR X.K M W fun env st => evOr C cal mk es env st)
  | [], X, W, sc, xs, pos, c, h, ha, hn => absurd rfl hn
  | [e], X, W, sc, xs, pos, c, h, ha, hn => by
    match xs, ha, h with
    | [], ha, h => exact absurd (chks_len _ _ h) (by simp)
    | [x], ha, h =>
      simp only [List.all_cons, Bool.and_eq_true] at ha
      exact (c_and1 (sndB e c (chks_ns ha.1 h).2.1).pe).eqv fun env st => rfl
    | _ :: _ :: _, ha, h => exact absurd (chks_len _ _ h) (by simp)
  | e :: e2 :: r, X, W, sc, xs, pos, c, h, ha, hn => by
    match xs, ha, h with
    | [], ha, h => exact absurd (chks_len _ _ h) (by simp)
    | [x], ha, h => exact absurd (chks_len _ _ h) (by simp)
    | x :: y :: ys, ha, h =>
      simp only [List.all_cons, Bool.and_eq_true] at ha
      obtain ⟨_, h2, h3⟩ := chks_ns ha.1 h
      exact (c_or (sndB e c h2).pe (sndO (e2 :: r) c h3 (by simp [ha.2.1, ha.2.2]) (by simp))).eqv fun env st => rfl
theorem sndTA : ∀ (es : List Ex) {X : Cx} {W : WX} {sc : Scope} {xs : List Expr} {pos : Pos}, Ctx M nm C k cal mk X W N sc → tOk.tOks es = true → chks nm N sc es xs = true → xs.all noStar = true → es ≠ [] → PW X (.BoolOp .And xs pos) (TT' X.K M W fun env st => (evAnd C cal mk es env st).bind fun v st => Res.of (asBl v) st)
  | [], X, W, sc, xs, pos, c, ht, h, ha, hn => absurd rfl hn
  | [e], X, W, sc, xs, pos, c, ht, h, ha, hn => by
    match xs, ha, h with
    | [], ha, h => exact absurd (chks_len _ _ h) (by simp)
    | [x], ha, h =>
      simp only [List.all_cons, Bool.and_eq_true] at ha
      simp only [tOk.tOks, Bool.and_eq_true] at ht
      refine pw_and1 (((sndB e c (chks_ns ha.1 h).2.1).pt ht.1).eqv fun env st => ?_)
      simp only [evAnd, evB]
      cases ev C cal mk e env st with
      | ok v s => obtain ⟨o, v⟩ := v; cases v <;> rfl
      | _ => rfl
    | _ :: _ :: _, ha, h => exact absurd (chks_len _ _ h) (by simp)
  | e :: e2 :: r, X, W, sc, xs, pos, c, ht, h, ha, hn => by
    match xs, ha, h with
    | [], ha, h => exact absurd (chks_len _ _ h) (by simp)
    | [x], ha, h => exact absurd (chks_len _ _ h) (by simp)
    | x :: y :: ys, ha, h =>
      simp only [List.all_cons, Bool.and_eq_true] at ha
      obtain ⟨_, h2, h3⟩ := chks_ns ha.1 h
      have ht' := ht
      rw [tOk.tOks, Bool.and_eq_true] at ht'
      refine PW.eqv (pw_andT ((sndB e c h2).pt ht'.1) (sndTA (e2 :: r) c ht'.2 h3 (by simp [ha.2.1, ha.2.2]) (by simp))) fun env st => ?_
      simp only [evAnd, evB]
      cases ev C cal mk e env st with
      | bad => rfl
      | exc _ _ _ => rfl
      | ok v s =>
        simp only [Res.bind_ok]
        cases asBl v with
        | none => rfl
        | some b => cases b <;> rfl
theorem sndTO : ∀ (es : List Ex) {X : Cx} {W : WX} {sc : Scope} {xs : List Expr} {pos : Pos}, Ctx M nm C k cal mk X W N sc → tOk.tOks es = true → chks nm N sc es xs = true → xs.all noStar = true → es ≠ [] → PW X (.BoolOp .Or xs pos) (TT' X.K M W fun env st => (evOr C cal mk es env st).bind fun v st => Res.of (asBl v) st)
  | [], X, W, sc, xs, pos, c, ht, h, ha, hn => absurd rfl hn
  | [e], X, W, sc, xs, pos, c, ht, h, ha, hn => by
    match xs, ha, h with
    | [], ha, h => exact absurd (chks_len _ _ h) (by simp)
    | [x], ha, h =>
      simp only [List.all_cons, Bool.and_eq_true] at ha
      simp only [tOk.tOks, Bool.and_eq_true] at ht
      refine pw_or1 (((sndB e c (chks_ns ha.1 h).2.1).pt ht.1).eqv fun env st => ?_)
      simp only [evOr, evB]
      cases ev C cal mk e env st with
      | ok v s => obtain ⟨o, v⟩ := v; cases v <;> rfl
      | _ => rfl
    | _ :: _ :: _, ha, h => exact absurd (chks_len _ _ h) (by simp)
  | e :: e2 :: r, X, W, sc, xs, pos, c, ht, h, ha, hn => by
    match xs, ha, h with
    | [], ha, h => exact absurd (chks_len _ _ h) (by simp)
    | [x], ha, h => exact absurd (chks_len _ _ h) (by simp)
    | x :: y :: ys, ha, h =>
      simp only [List.all_cons, Bool.and_eq_true] at ha
      obtain ⟨_, h2, h3⟩ := chks_ns ha.1 h
      have ht' := ht
      rw [tOk.tOks, Bool.and_eq_true] at ht'
      refine PW.eqv (pw_orT ((sndB e c h2).pt ht'.1) (sndTO (e2 :: r) c ht'.2 h3 (by simp [ha.2.1, ha.2.2]) (by simp))) fun env st => ?_
      simp only [evOr, evB]
      cases ev C cal mk e env st with
      | bad => rfl
      | exc _ _ _ => rfl
      | ok v s =>
        simp only [Res.bind_ok]
        cases asBl v with
        | none => rfl
        | some b => cases b <;> rfl
end
end
end Lk
set_option Elab.async false
set_option linter.all false
set_option maxRecDepth 100000
set_option autoImplicit false
set_option maxHeartbeats 4000000
/-! LkI: the check of statements, and what it tells. -/
namespace Lk
open PySem PySem.Spec L2 PyProof.Rows

def locS (N : List Str) (sc : Scope) (i : Nat) (n : Str) : Bool := slotB N i n && locB sc n
def locL (N : List Str) (sc : Scope) (i : Nat) (n : Str) : Bool := slotB N i n && decide (sc.names.lookup n = some .local)
def hsB (N : List Str) (sc : Scope) : Hs → List Stmt → Bool
  | .asg i (.cst v), [.Assign [.Name n _] (.Constant c _ _) _] => locS N sc i n && cstB v c
  | .asg i (.inc j k), [.Assign [.Name n _] (.BinOp (.Name m _) .Add (.Constant (.int l) _ _) _) _] => locS N sc i n && n == m && i == j && k == l && varB N sc i n
  | .app i (.cst v), [.Expr (.Call (.Attribute (.Name n _) a ap) [.Constant c _ _] [] p) _] => varB N sc i n && a == Str.ofString "append" && (ap.endLine == p.line) && cstB v c
  | _, _ => false
def hdB (nm : Nms) (N : List Str) (sc : Scope) (C : Cfg) : Hd → ExceptHandler → Bool
  | h, .ExceptHandler (some (.Name n _)) none body _ => h.as.isNone && (C.xf h.cls).isSome && n == nm.xc h.cls && glbB sc n && hsB N sc h.suite body
  | _, _ => false
def hdsB (nm : Nms) (N : List Str) (sc : Scope) (C : Cfg) : List Hd → List ExceptHandler → Bool
  | [], [] => true
  | h :: hs, x :: xs => hdB nm N sc C h x && hdsB nm N sc C hs xs
  | _, _ => false
/-- a, b = x, y: stored from the right -/
def swapB (px py : Pos) (x y : Expr) : Bool := (py.line == px.line) && noStar x && noStar y && !(foldedForSure 8 x && foldedForSure 8 y) && !(constantsAlone 8 x && constantsAlone 8 y)
section
variable (nm : Nms) (N : List Str) (C : Cfg)
mutual
def chkS (sc : Scope) : Sm → Stmt → Bool
  | .asg i e, x => match x with
    | .Assign [.Name n _] y _ => locS N sc i n && notComp y && chk nm N sc e y
    | _ => false
  | .asgB i e, x => match x with
    | .Assign [.Name n _] y _ => locS N sc i n && notComp y && chk nm N sc e y
    | _ => false
  | .asgP is es, x => match x with
    | .Assign [.Tuple [.Name n px, .Name m py] _ _] (.Tuple [y, z] _ _) _ => (match is with | [i, j] => locL N sc i n && locL N sc j m && !(i == j) | _ => false) && !(n == m) && swapB px py y z
        && (match es with | [a, b] => chk nm N sc a y && chk nm N sc b z | _ => false)
    | _ => false
  | .unp is e, x => match x with
    | .Assign [.Tuple ts kt pt] y _ => tgB N (locB sc) (.tp is) (.Tuple ts kt pt) && notComp y && notTup y && chk nm N sc e y
    | _ => false
  | .app o e, x => match x with
    | .Expr (.Call (.Attribute (.Name n _) a ap) [y] [] p) _ => (match o with | .var i => varB N sc i n | _ => false) && a == Str.ofString "append" && noStar y && (ap.endLine == p.line) && chk nm N sc e y
    | _ => false
  | .put o k e, x => match x with
    | .Assign [.Subscript (.Name n _) z _] y _ => (match o with | .var i => varB N sc i n | _ => false) && notComp y && chk nm N sc k z && chk nm N sc e y
    | _ => false
  | .fld o m e, x => match x with
    | .Assign [.Attribute l a _] y _ => a == nm.an m && decide (m < 100) && notComp y && chk nm N sc o l && chk nm N sc e y
    | _ => false
  | .fldA o m ng e, x => match x with
    | .AugAssign (.Attribute l a _) op y _ => a == nm.an m && decide (m < 100) && decide (op = if ng then .Sub else .Add) && chk nm N sc o l && chk nm N sc e y
    | _ => false
  | .ex e, x => match x with
    | .Expr y _ => notComp y && chk nm N sc e y
    | _ => false
  | .ret e, x => match x with
    | .Return (some y) _ => chk nm N sc e y
    | _ => false
  | .retV i, x => match x with
    | .Return (some (.Name n _)) _ => varB N sc i n
    | _ => false
  | .ife c a b, x => match x with
    | .If t y z _ => tOk c && chk nm N sc c t && chkSs sc a y && chkSs sc b z
    | _ => false
  | .for_ tg k args body, x => match x with
    | .For t it y [] _ => notSet it && tgB N (locB sc) tg t
        && (match k with
          | .ex => (match args with | [a] => chk nm N sc a it && noStar it | _ => false)
          | .rng1 => (match args, it with | [a], .Call (.Name n _) [z] [] _ => n == Str.ofString "range" && glbB sc n && noStar z && chk nm N sc a z | _, _ => false)
          | _ => false) && chkSs sc body y
    | _ => false
  | .forO tg i body, x => match x with
    | .For t (.Name n _) y [] _ => varB N sc i n && tgB N (locB sc) tg t && chkSs sc body y
    | _ => false
  | .whl c body, x => match x with
    | .While t y [] _ => tOk c && chk nm N sc c t && chkSs sc body y
    | _ => false
  | .rse c es, x => match x with
    | .Raise (some (.Call (.Name n _) xs [] _)) none _ => (C.xf c).isSome && n == nm.xc c && glbB sc n && xs.all noStar && (match es, xs with | [], [] => true | [e], [y] => chk nm N sc e y | _, _ => false)
    | _ => false
  | .try_ body hs, x => match x with
    | .Try y hds [] [] _ => !hds.isEmpty && hdsB nm N sc C hs hds && chkSs sc body y
    | _ => false
  | .hole, _ => true
  | _, _ => false
def chkSs (sc : Scope) : List Sm → List Stmt → Bool
  | [], [] => true
  | s :: r, xs => match s with
    | .fz _ => chkSs sc r xs
    | s => match xs with
      | x :: xs => chkS sc s x && chkSs sc r xs
      | [] => false
  | _, _ => false
end
end
/-- a statement's context -/
structure CtxS (M : Nm) (nm : Nms) (C : Cfg) (k : Nat) (cal mk : CallF) (X : Cx) (W : WX) (N : List Str) (sc : Scope) : Prop extends Ctx M nm C k cal mk X W N sc where
  kd : X.env.scope.kind = .function
  fn : ∀ x, X.fn x = true
  po : PassesOwn (model X.prog X.w) X.A X.env X.xe
  stk : X.stack = X.env :: X.outer
  fr : X.env.frame = some X.env.locals
section
variable {M : Nm} {nm : Nms} {C : Cfg} {k : Nat} {cal mk : CallF} {N : List Str} {X : Cx} {W : WX} {sc : Scope}
theorem CtxS.loc (c : CtxS M nm C k cal mk X W N sc) {i : Nat} {n : Str} (h : locS N sc i n = true) : X.N[i]? = some n ∧ Loc X.env.scope n := by
  unfold locS at h
  simp only [Bool.and_eq_true] at h
  rw [c.eN, c.sc]
  exact ⟨slotB_of h.1, locB_of h.2⟩
theorem CtxS.locl (c : CtxS M nm C k cal mk X W N sc) {i : Nat} {n : Str} (h : locL N sc i n = true) : X.N[i]? = some n ∧ X.env.scope.names.lookup n = some .local := by
  unfold locL at h
  simp only [Bool.and_eq_true, decide_eq_true_eq] at h
  rw [c.eN, c.sc]
  exact ⟨slotB_of h.1, h.2⟩
theorem swaps_no {x : Expr} {t : Option Expr} {l : Nat} {env : PySem.Env} (h : notComp x = true) : swapsWith x t l env = pure false := by
  cases x <;> first | (cases h; done) | rfl
theorem swap_ok (c : CtxS M nm C k cal mk X W N sc) {n m : Str} {px py pt pt2 : Pos} {kt k2 : Nat} {x y : Expr} (hn : X.env.scope.names.lookup n = some .local) (hm : X.env.scope.names.lookup m = some .local) (hnm : (n == m) = false) (h : swapB px py x y = true) :
    swappedStores [.Tuple [.Name n px, .Name m py] kt pt] (.Tuple [x, y] k2 pt2) X.env = pure (some [n, m]) := by
  unfold swapB at h
  simp only [Bool.and_eq_true, Bool.not_eq_true', beq_iff_eq] at h
  obtain ⟨⟨⟨⟨h1, h2⟩, h3⟩, h4⟩, h5⟩ := h
  have bk : X.env.blockKind = .function := by
    unfold Env.blockKind
    rw [c.kd]
    rfl
  unfold swappedStores
  simp only [List.length_cons, List.length_nil, bk, Env.kindOf, hn, hm, List.filterMap_cons, List.filterMap_nil, List.head?_cons, Option.map_some, Option.getD_some, Expr.pos, h1, List.any_cons, List.any_nil, List.all_cons, List.all_nil, Bool.and_true]
  have hmn : (m == n) = false := by
    cases q : (m == n) with
    | false => rfl
    | true => rw [beqT q] at hnm; simp at hnm
  have ed : [n, m].eraseDups.length = 2 := by simp [List.eraseDups, List.eraseDupsBy, List.eraseDupsBy.loop, hnm, hmn]
  have f1 : (px.line == px.line) = true := by simp
  have f2 : ((some NameKind.local : Option NameKind) == some NameKind.local) = true := by decide
  have f3 : (!(0 + 1 + 1 == 2 || 0 + 1 + 1 == 3) || 0 + 1 + 1 != 0 + 1 + 1 || ScopeKind.function != ScopeKind.function) = false := by decide
  simp only [f1, f2, f3, Bool.true_and, Bool.and_true, if_true, ed, h4, h5, Bool.false_eq_true, if_false, Bool.or_false]
  rw [if_neg]
  · rw [if_neg]
    simp
  · intro hq
    rcases Bool.or_eq_true _ _ |>.mp hq with hq | hq
    · split at hq
      · cases h2
      · cases hq
    · split at hq
      · cases h3
      · cases hq
/-! ### the clauses of a try -/
theorem hds_ok (c : CtxS M nm C k cal mk X W N sc) : ∀ (hs : List Hd) (xs : List ExceptHandler), hdsB nm N sc C hs xs = true → (∃ l, HsOk X M xs hs l) ∧ ∀ h ∈ hs, (C.xf h.cls).isSome = true
  | [], [], _ => ⟨⟨_, .nil⟩, fun _ h => nomatch h⟩
  | [], _ :: _, h => by cases h
  | _ :: _, [], h => by cases h
  | h :: hs, x :: xs, hb => by
    simp only [hdsB, Bool.and_eq_true] at hb
    obtain ⟨h1, h2⟩ := hb
    obtain ⟨⟨l, hl⟩, hall⟩ := hds_ok c hs xs h2
    unfold hdB at h1
    split at h1
    · rename_i n np body pos
      simp only [Bool.and_eq_true] at h1
      obtain ⟨⟨⟨⟨h3, h4⟩, h5⟩, h6⟩, h7⟩ := h1
      have h5 := beqT h5
      subst h5
      refine ⟨?_, fun h' hm => ?_⟩
      · obtain ⟨fo, hfo⟩ := Option.isSome_iff_exists.mp h4
        have T := c.tab.xc h.cls fo hfo
        have cst : ∀ (v : Val) (cc : Const) (kk : Nat) (pp : Pos), cstB v cc = true → ∀ (a : Addr) (oe : Obj) (pn : List (Addr × Obj)), ∃ w, PE (X.suite a ((a, oe) :: pn)) (.Constant cc kk pp) (tC w) ∧ ∀ Z ρ, RV X.K Z ρ w (flat v) := fun v cc kk pp g2 a oe pn => by
          cases v <;> cases cc <;> first | (cases g2; done) | skip
          · exact ⟨_, pe_non, fun _ _ => .non⟩
          · simp only [cstB, beq_iff_eq] at g2; subst g2; exact ⟨_, pe_bl, fun _ _ => .bl _⟩
          · simp only [cstB, beq_iff_eq] at g2; subst g2; exact ⟨_, pe_int, fun _ _ => .int _⟩
          · simp only [cstB, Bool.and_eq_true, beq_iff_eq] at g2
            obtain ⟨e1, e2⟩ := g2
            subst e1
            exact ⟨_, pe_str, fun _ _ => .str _ e2⟩
        have han : h.as = none := by cases q : h.as with | none => rfl | some _ => rw [q] at h3; cases h3
        unfold hsB at h7
        split at h7
        · rename_i i v m p cc kk pp ps hsu
          simp only [Bool.and_eq_true] at h7
          obtain ⟨g1, g2⟩ := h7
          obtain ⟨k1, k2⟩ := c.loc g1
          refine ⟨_, .cons (g := fun fs env => (hxOp fs env (.cst v)).map fun v => env.set i (some (false, v))) ⟨c.gl h6, (glbB_of h6).2, .inl T.gl⟩ han (fun fs env => by rw [hsu]; rfl) (fun a oe cls d pn _ _ => ?_) hl⟩
          obtain ⟨w, p1, p2⟩ := cst v cc kk pp g2 a oe pn
          exact hs_cst (by rw [c.eN]; exact c.nd) k1 k2 (.inl (c.fn _)) p1 p2 rfl
        · rename_i i j k m p m2 p2 l kk pp ep ps hsu
          simp only [Bool.and_eq_true] at h7
          obtain ⟨⟨⟨⟨g1, g2⟩, g3⟩, g4⟩, g5⟩ := h7
          have g2 := beqT g2
          have g3 : i = j := by simpa using g3
          have g4 : k = l := by simpa using g4
          subst g2 g3 g4
          obtain ⟨k1, k2⟩ := c.loc g1
          obtain ⟨v1, v2, v3, v4⟩ := c.toCtx.var g5
          exact ⟨_, .cons (g := fun fs env => hsOp fs env (.asg i (.inc i k))) ⟨c.gl h6, (glbB_of h6).2, .inl T.gl⟩ han (fun fs env => by rw [hsu]) (fun a oe cls d pn _ _ => hs_inc (by rw [c.eN]; exact c.nd) k1 k2 (.inl (c.fn _)) v2 v3 v4) hl⟩
        · rename_i i v m p a ap cc kk pp cp ps hsu
          simp only [Bool.and_eq_true] at h7
          obtain ⟨⟨⟨g1, g2⟩, g3⟩, g4⟩ := h7
          have g2 := beqT g2
          subst g2
          obtain ⟨v1, v2, v3, v4⟩ := c.toCtx.var g1
          refine ⟨_, .cons (g := fun fs env => hsOp fs env (.app i (.cst v))) ⟨c.gl h6, (glbB_of h6).2, .inl T.gl⟩ han (fun fs env => by rw [hsu]) (fun aa oe cls d pn _ _ => ?_) hl⟩
          obtain ⟨w, p1, p2⟩ := cst v cc kk pp g4 aa oe pn
          exact hs_app v1 v2 v3 v4 rfl g3 p1 p2
        · cases h7
      · rcases List.mem_cons.mp hm with rfl | hm
        · exact h4
        · exact hall h' hm
    · cases h1
theorem CtxS.tr (c : CtxS M nm C k cal mk X W N sc) {W' : WX} {pn : List (Addr × Obj)} {xe : Value → Shared → Prop} (tk : Takes (X.tr pn xe) W') (po : PassesOwn (model X.prog X.w) X.A X.env xe) : CtxS M nm C k cal mk (X.tr pn xe) W' N sc where
  tab := c.tab
  eN := c.eN
  nd := c.nd
  sc := c.sc
  calm := c.calm
  room := c.room
  tk := tk
  kd := c.kd
  fn := c.fn
  po := po
  stk := c.stk
  fr := c.fr
/-- a slot's own list or dict is given to all -/
theorem RS.thaw1 {K : PySem.W.Frag} {B : Base} {H Z : Hp} {ρ : List Addr} {σ : L2.St} {env : Env} {st : Store} (s : RS K M B H Z ρ σ env st) {i : Nat} {v : Val} (e : env[i]? = some (some (true, v))) (nn : v ≠ .non) : ∃ Z', RS K M B H Z' ρ σ (env.set i (some (false, v))) st := by
  obtain ⟨a, ea, h1, h2, h3, h4⟩ := s.e.own i v e nn
  have il : i < env.length := get_lt e
  have go : ∀ o, H a = some o → (∀ Z2, ZLe Z Z2 → Z2 a = some o → RV K Z2 ρ (.ref a) v) → ∃ Z', RS K M B H Z' ρ σ (env.set i (some (false, v))) st := fun o ho hv => by
    obtain ⟨g1, g2⟩ := s.h.freeze ho h2 h3
    refine ⟨_, g1, ⟨by simp [s.e.len], fun j u ej => ?_, fun j u ej un => ?_, fun j l b u u2 e1 n1 e2 n2 e3 e4 => ?_⟩, ⟨s.a.z.trans g2, s.a.r, fun b u q1 q2 q3 => ?_, s.a.th⟩, s.z, fun j ej => ?_⟩
    · rcases getset ej with ⟨rfl, _, z⟩ | ⟨nj, ej⟩
      · cases z
        exact ⟨.ref a, ea, hv _ g2 upd_same⟩
      · obtain ⟨x, k1, k2⟩ := s.e.val j u ej
        exact ⟨x, k1, k2.mono g2 List.prefix_rfl⟩
    · rcases getset ej with ⟨_, _, z⟩ | ⟨nj, ej⟩
      · cases z
      · obtain ⟨b, k1, k2, k3, k4, k5⟩ := s.e.own j u ej un
        have nb : b ≠ a := fun c => nj (s.e.dis j i a u v ej un e nn (by rw [k1, c]) ea)
        refine ⟨b, k1, k2, by rw [upd_ne nb]; exact k3, k4, ?_⟩
        cases u <;> first | exact k5.elim | (obtain ⟨ys, k5, k6, k7⟩ := k5; exact ⟨ys, k5, k6.mono g2 List.prefix_rfl, k7⟩)
    · rcases getset e1 with ⟨_, _, z⟩ | ⟨nj, e1⟩
      · cases z
      · rcases getset e2 with ⟨_, _, z⟩ | ⟨nk, e2⟩
        · cases z
        · exact s.e.dis j l b u u2 e1 n1 e2 n2 e3 e4
    · obtain ⟨k1, k2, k3⟩ := s.a.fr b u q1 q2 q3
      exact ⟨k1, by rw [upd_ne (fun c => by rw [c, h1] at q1; cases q1)]; exact k2, k3⟩
    · rcases getset ej with ⟨_, _, z⟩ | ⟨nj, ej⟩
      · cases z
      · exact s.k j ej
  cases v with
  | lst vs =>
    obtain ⟨xs, k1, k2, k3⟩ := h4
    exact go _ k1 fun Z2 zl ze => .lst ze (k2.mono zl List.prefix_rfl) k3
  | dct vs =>
    obtain ⟨xs, k1, k2, k3⟩ := h4
    exact go _ k1 fun Z2 zl ze => .dct (.inl ze) (k2.mono zl List.prefix_rfl) k3
  | _ => exact h4.elim
theorem RS.thaw {K : PySem.W.Frag} {B : Base} {H : Hp} {ρ : List Addr} {σ : L2.St} {st : Store} : ∀ (is : List Nat) {env : Env} {Z : Hp}, RS K M B H Z ρ σ env st → ∃ Z', RS K M B H Z' ρ σ (thaw is env) st
  | [], env, Z, s => ⟨Z, s⟩
  | i :: is, env, Z, s => by
    unfold Lk.thaw
    split
    · rename_i v e
      obtain ⟨Z1, s1⟩ := s.thaw1 e (fun z => nomatch z)
      exact RS.thaw is s1
    · rename_i v e
      obtain ⟨Z1, s1⟩ := s.thaw1 e (fun z => nomatch z)
      exact RS.thaw is s1
    · exact RS.thaw is s
theorem _root_.L2.PS.eqv {x : Stmt} {f g : Env → Store → SRes} (h : PS X x (TSm X.K M W f)) (e : ∀ env st, f env st = g env st) : PS X x (TSm X.K M W g) := by
  rw [show g = f from funext fun a => funext fun b => (e a b).symm]; exact h
theorem _root_.L2.PSs.eqv {x : List Stmt} {f g : Env → Store → SRes} (h : PSs X x (TSm X.K M W f)) (e : ∀ env st, f env st = g env st) : PSs X x (TSm X.K M W g) := by
  rw [show g = f from funext fun a => funext fun b => (e a b).symm]; exact h
theorem _root_.L2.PA.eqvO {x : List Expr} {f g : Env → Store → Res (List Rv)} (h : PA X x (TOs X.K M W f)) (e : ∀ env st, f env st = g env st) : PA X x (TOs X.K M W g) := by
  rw [show g = f from funext fun a => funext fun b => (e a b).symm]; exact h
end
section
variable {M : Nm} {nm : Nms} {C : Cfg} {k : Nat} {cal mk : CallF} {N : List Str}
mutual
theorem sndS : ∀ (s : Sm) {X : Cx} {W : WX} {sc : Scope} {x : Stmt}, CtxS M nm C k cal mk X W N sc → chkS nm N C sc s x = true → PS X x (TSm X.K M W fun env st => evS C cal mk s env st)
  | .asg i e, X, W, sc, x, c, h => by
    unfold chkS at h
    split at h
    · simp only [Bool.and_eq_true] at h
      obtain ⟨⟨h1, h2⟩, h3⟩ := h
      obtain ⟨k1, k2⟩ := c.loc h1
      exact (s_asg (by rw [c.eN]; exact c.nd) k1 k2 (.inl (c.fn _)) (sndB e c.toCtx h3).pe (swaps_no h2)).eqv fun env st => rfl
    · cases h
  | .asgB i e, X, W, sc, x, c, h => by
    unfold chkS at h
    split at h
    · simp only [Bool.and_eq_true] at h
      obtain ⟨⟨h1, h2⟩, h3⟩ := h
      obtain ⟨k1, k2⟩ := c.loc h1
      exact (s_asgB (by rw [c.eN]; exact c.nd) k1 k2 (.inl (c.fn _)) (sndB e c.toCtx h3).pe (swaps_no h2)).eqv fun env st => rfl
    · cases h
  | .asgP is es, X, W, sc, x, c, h => by
    unfold chkS at h
    split at h
    · simp only [Bool.and_eq_true] at h
      obtain ⟨⟨⟨h1, h2⟩, h3⟩, h4⟩ := h
      split at h1
      · rename_i i j
        simp only [Bool.and_eq_true, Bool.not_eq_true', beq_eq_false_iff_ne] at h1
        obtain ⟨⟨h5, h6⟩, h7⟩ := h1
        split at h4
        · rename_i a b
          simp only [Bool.and_eq_true] at h4
          obtain ⟨k1, k2⟩ := c.locl h5
          obtain ⟨k3, k4⟩ := c.locl h6
          have h3' := h3
          unfold swapB at h3'
          simp only [Bool.and_eq_true] at h3'
          exact (s_asgP c.calm (by rw [c.eN]; exact c.nd) k1 k3 h7 k2 k4 (o_cons h3'.1.1.1.2 (sndB a c.toCtx h4.1).pe (o_cons h3'.1.1.2 (sndB b c.toCtx h4.2).pe o_nil)) (swap_ok c k2 k4 (by simpa using h2) h3)).eqv fun env st => rfl
        · cases h4
      · cases h1
    · cases h
  | .app o e, X, W, sc, x, c, h => by
    unfold chkS at h
    split at h
    · simp only [Bool.and_eq_true] at h
      obtain ⟨⟨⟨⟨h1, h2⟩, h3⟩, h4⟩, h5⟩ := h
      have h2 := beqT h2
      subst h2
      split at h1
      · obtain ⟨k1, k2, k3, k4⟩ := c.toCtx.var h1
        exact (s_app k1 k2 k3 k4 h3 h4 (sndB e c.toCtx h5).pe).eqv fun env st => rfl
      · cases h1
    · cases h
  | .put o kk e, X, W, sc, x, c, h => by
    unfold chkS at h
    split at h
    · simp only [Bool.and_eq_true] at h
      obtain ⟨⟨⟨h1, h2⟩, h3⟩, h4⟩ := h
      split at h1
      · obtain ⟨k1, k2, k3, k4⟩ := c.toCtx.var h1
        exact (s_put (by have := c.hu; omega) k1 k2 k3 k4 (sndB kk c.toCtx h3).pe (sndB e c.toCtx h4).pe (swaps_no h2)).eqv fun env st => rfl
      · cases h1
    · cases h
  | .fld o m e, X, W, sc, x, c, h => by
    unfold chkS at h
    split at h
    · simp only [Bool.and_eq_true, decide_eq_true_eq] at h
      obtain ⟨⟨⟨⟨h1, h2⟩, h3⟩, h4⟩, h5⟩ := h
      have h1 := beqT h1
      rw [← c.tab.an] at h1
      subst h1
      exact (s_fld (Cf := C) (fun cl hf => (c.tab.fld cl m hf).2) h2 (opd_of c.toCtx h4 (sndB o c.toCtx h4).pe) (sndB e c.toCtx h5).pe (swaps_no h3)).eqv fun env st => rfl
    · cases h
  | .fldA o m ng e, X, W, sc, x, c, h => by
    unfold chkS at h
    split at h
    · simp only [Bool.and_eq_true, decide_eq_true_eq] at h
      obtain ⟨⟨⟨⟨h1, h2⟩, h3⟩, h4⟩, h5⟩ := h
      have h1 := beqT h1
      rw [← c.tab.an] at h1
      subst h1; subst h3
      exact (s_fldA (Cf := C) (ng := ng) (fun cl hf => (c.tab.fld cl m hf).2) h2 (opd_of c.toCtx h4 (sndB o c.toCtx h4).pe) (sndB e c.toCtx h5).pe).eqv fun env st => rfl
    · cases h
  | .ex e, X, W, sc, x, c, h => by
    unfold chkS at h
    split at h
    · simp only [Bool.and_eq_true] at h
      exact (s_ex (sndB e c.toCtx h.2).pe (swaps_no h.1)).eqv fun env st => rfl
    · cases h
  | .ret e, X, W, sc, x, c, h => by
    unfold chkS at h
    split at h
    · exact (s_ret (sndB e c.toCtx h).pe).eqv fun env st => rfl
    · cases h
  | .retV i, X, W, sc, x, c, h => by
    unfold chkS at h
    split at h
    · obtain ⟨k1, k2, k3, k4⟩ := c.toCtx.var h
      exact (s_retV k1 k2 k3 k4).eqv fun env st => rfl
    · cases h
  | .ife t a b, X, W, sc, x, c, h => by
    unfold chkS at h
    split at h
    · simp only [Bool.and_eq_true] at h
      obtain ⟨⟨⟨h1, h2⟩, h3⟩, h4⟩ := h
      exact (s_ife ((sndB t c.toCtx h2).pt h1) (sndSs a c h3) (sndSs b c h4)).eqv fun env st => rfl
    · cases h
  | .for_ tg kk args body, X, W, sc, x, c, h => by
    unfold chkS at h
    split at h
    · rename_i t it y pos
      simp only [Bool.and_eq_true] at h
      obtain ⟨⟨⟨h1, h2⟩, h3⟩, h4⟩ := h
      have hi : PI X t it (WIs X.K M W fun env st => (evs C cal mk args env st).bind fun vs st => Res.of (itOp kk st vs) st) := by
        cases kk with
        | ex =>
          match args, h3 with
          | [a], h3 =>
            simp only [Bool.and_eq_true] at h3
            refine PI.eqvS (i_exS (sndB a c.toCtx h3.1).pe) fun env st => ?_
            have ns : ∀ e', a ≠ .star e' := fun e' z => by
              subst z
              have := h3.1
              simp [chk] at this
            rw [evs_ns ns, Res.bind_assoc]
            cases ev C cal mk a env st with
            | ok v s => simp only [Res.bind_ok, evs, walkNd_eq]; rfl
            | _ => rfl
        | rng1 =>
          match args, it, h3 with
          | [a], .Call (.Name n p) [z] [] pos2, h3 =>
            simp only [Bool.and_eq_true] at h3
            obtain ⟨⟨⟨g1, g2⟩, g3⟩, g4⟩ := h3
            have g1 := beqT g1
            subst g1
            have ns : ∀ e', a ≠ .star e' := fun e' z => by
              subst z
              simp [chk] at g4
            refine PI.eqvS (i_rng1 (fl := fun env st => (evs C cal mk [a] env st)) (.inl rfl) (c.gl g2) (c.tab.blt _ (by decide)) g3 ?_) fun env st => rfl
            refine PA.eqvB (f := fun env st => ((ev C cal mk a env st).bind fun v st => .ok v.2 st).bind fun v st => (Res.ok [] st : Res (List Val)).bind fun ys st => .ok (v :: ys) st) (b_cons g3 (pe_opd (sndB a c.toCtx g4).pe) b_nil) fun env st => ?_
            rw [evs_ns ns, Res.bind_assoc]
            rfl
        | _ => cases h3
      exact (s_for c.po c.calm hi (tgB_of (ok := locB sc) c.calm (by rw [c.eN]; exact c.nd) (fun n hn => by rw [c.sc]; exact ⟨locB_of hn, .inl (c.fn n)⟩) (by rw [c.eN]; exact h2)) (sndSs body c h4) (folded_of h1)).eqv fun env st => rfl
    · cases h
  | .forO tg i body, X, W, sc, x, c, h => by
    unfold chkS at h
    split at h
    · simp only [Bool.and_eq_true] at h
      obtain ⟨⟨h1, h2⟩, h3⟩ := h
      obtain ⟨k1, k2, k3, k4⟩ := c.toCtx.var h1
      exact (s_forO c.po c.calm k1 k2 k3 k4 (tgB_of (ok := locB sc) c.calm (by rw [c.eN]; exact c.nd) (fun n hn => by rw [c.sc]; exact ⟨locB_of hn, .inl (c.fn n)⟩) (by rw [c.eN]; exact h2)) (sndSs body c h3)).eqv fun env st => rfl
    · cases h
  | .whl t body, X, W, sc, x, c, h => by
    unfold chkS at h
    split at h
    · simp only [Bool.and_eq_true] at h
      obtain ⟨⟨h1, h2⟩, h3⟩ := h
      exact (s_whl c.po ((sndB t c.toCtx h2).pt h1) (sndSs body c h3) whlFuel).eqv fun env st => rfl
    · cases h
  | .rse cl es, X, W, sc, x, c, h => by
    unfold chkS at h
    split at h
    · simp only [Bool.and_eq_true] at h
      obtain ⟨⟨⟨⟨h1, h2⟩, h3⟩, h4⟩, h5⟩ := h
      have h2 := beqT h2
      subst h2
      obtain ⟨fo, hfo⟩ := Option.isSome_iff_exists.mp h1
      have T := c.tab.xc cl fo hfo
      split at h5
      · cases fo with
        | none => exact (s_rse0 c.calm c.tk T (c.gl h3)).eqv fun env st => by simp only [evS, hfo]
        | some f => exact (s_bad (M := M) (W := W)).eqv fun env st => by simp only [evS, hfo]
      · rename_i e y
        simp only [List.all_cons, Bool.and_eq_true] at h4
        cases fo with
        | none => exact (s_bad (M := M) (W := W)).eqv fun env st => by simp only [evS, hfo]
        | some f => exact (s_rse1 (k := k) c.calm c.tk T (c.gl h3) c.room h4.1 (sndB e c.toCtx h5).pe).eqv fun env st => by simp only [evS, hfo]
      · cases h5
    · cases h
  | .try_ body hs, X, W, sc, x, c, h => by
    unfold chkS at h
    split at h
    · rename_i y hds pos
      simp only [Bool.and_eq_true] at h
      obtain ⟨⟨h1, h2⟩, h3⟩ := h
      obtain ⟨⟨l, hl⟩, hall⟩ := hds_ok c hs hds h2
      cases hds with
      | nil => simp at h1
      | cons h0 hds =>
        exact (s_try (Cf := C) c.stk c.fr c.tk (fun cl hc h hm => c.tab.xm cl h.cls hc (hall h hm)) (fun W' pn xe tk po => sndSs body (c.tr tk po) h3) hl).eqv fun env st => rfl
    · cases h
  | .hole, X, W, sc, x, c, h => (s_bad (M := M) (W := W)).eqv fun env st => rfl
  | .unp is e, X, W, sc, x, c, h => by
    unfold chkS at h
    split at h
    · rename_i ts kt pt y pos
      simp only [Bool.and_eq_true] at h
      obtain ⟨⟨⟨h1, h2⟩, h3⟩, h4⟩ := h
      refine (s_unp (tgB_of (ok := locB sc) c.calm (by rw [c.eN]; exact c.nd) (fun n hn => by rw [c.sc]; exact ⟨locB_of hn, .inl (c.fn n)⟩) (by rw [c.eN]; exact h1)) (opd_of c.toCtx h4 (sndB e c.toCtx h4).pe) (swaps_no h2) ?_ rfl).eqv fun env st => rfl
      cases y <;> first | (cases h3; done) | rfl
    · cases h
  | .ext _ _, X, W, sc, x, c, h => by simp [chkS] at h
  | .rem _ _, X, W, sc, x, c, h => by simp [chkS] at h
  | .updt _ _, X, W, sc, x, c, h => by simp [chkS] at h
  | .fldB _ _ _, X, W, sc, x, c, h => by simp [chkS] at h
  | .fz _, X, W, sc, x, c, h => by simp [chkS] at h
  | .popA _ _, X, W, sc, x, c, h => by simp [chkS] at h
  | .dpopA _ _ _, X, W, sc, x, c, h => by simp [chkS] at h
theorem sndSs : ∀ (ss : List Sm) {X : Cx} {W : WX} {sc : Scope} {xs : List Stmt}, CtxS M nm C k cal mk X W N sc → chkSs nm N C sc ss xs = true → PSs X xs (TSm X.K M W fun env st => evSs C cal mk ss env st)
  | [], X, W, sc, xs, c, h => by
    cases xs with
    | nil => exact s_nil.eqv fun env st => rfl
    | cons _ _ => simp [chkSs] at h
  | s :: r, X, W, sc, xs, c, h => by
    by_cases hf : ∃ is, s = .fz is
    · obtain ⟨is, rfl⟩ := hf
      simp only [chkSs] at h
      refine (sndSs r c h).weak fun D σ H ⟨B, Z, ρ, env, st, s, q⟩ => ?_
      obtain ⟨Z', s'⟩ := RS.thaw is s
      exact ⟨B, Z', ρ, thaw is env, st, s', q⟩
    · cases xs with
      | nil => cases s <;> first | exact absurd ⟨_, rfl⟩ hf | (simp [chkSs] at h)
      | cons x xs =>
        have h' : chkS nm N C sc s x = true ∧ chkSs nm N C sc r xs = true := by
          cases s <;> first | exact absurd ⟨_, rfl⟩ hf | (simpa only [chkSs, Bool.and_eq_true] using h)
        exact (s_cons (sndS s c h'.1) (sndSs r c h'.2)).eqv fun env st => rfl
end
end
end Lk
set_option Elab.async false
set_option linter.all false
set_option maxRecDepth 100000
set_option autoImplicit false
set_option maxHeartbeats 4000000
/-! LkJ: defs. -/
namespace Lk
open PySem PySem.Spec L2 PyProof.Rows
/-- a def of the text that is checked -/
structure FnAt (K : PySem.W.Frag) (nm : Nms) (C : Cfg) (f : Nat) (fa : Addr) (fd : FuncData) (ps : List Str) : Prop where
  ex : ∃ (x qual : Str) (st : Stmt) (N : List Str) (d : Fd), C.fn f = some d ∧ Fun K x qual st fa fd ∧ FnScope N ps (defScope st) ∧ ps.length = d.np ∧ N.length = d.ns ∧ chkSs nm N C (defScope st) d.body (defBody st) = true
  bd : Binds K fd ps []
section
variable {P : Program} {w : World} {K : PySem.W.Frag} {mg : Str → Option Value} {base : Heap} {M : Nm} {nm : Nms} {C : Cfg} {k : Nat} {cal mk : CallF}
theorem start_re {H Z : Hp} {ρ : List Addr} {vs : List V} {args : List Val} {N : List Str} {d : Fd} (r : RVs K Z ρ vs args) (hl : args.length = d.np) (hN : N.length = d.ns) : RE K H H Z ρ (start N vs) (startE d args) := by
  have e : vs.length = args.length := r.length
  have at_ : ∀ {i : Nat} {u : Bool × Val}, (startE d args)[i]? = some (some u) → ∃ v, args[i]? = some v ∧ u = (false, v) := fun {i u} h => by
    unfold startE at h
    by_cases c : i < args.length
    · rw [List.getElem?_append_left (by simpa using c), List.getElem?_map] at h
      rw [List.getElem?_eq_getElem c] at h
      cases h
      exact ⟨_, List.getElem?_eq_getElem c, rfl⟩
    · rw [List.getElem?_append_right (by simpa using c), List.getElem?_replicate] at h
      split at h <;> cases h
  refine ⟨?_, fun i v h => ?_, fun i v h => ?_, fun i j a v w' h => ?_⟩
  · unfold L2.start startE
    simp only [List.length_append, List.length_map, List.length_replicate]
    omega
  · obtain ⟨u, g1, g2⟩ := at_ h
    cases g2
    obtain ⟨x, k1, k2⟩ := r.get g1
    refine ⟨x, ?_, k2⟩
    unfold L2.start
    rw [List.getElem?_append_left (by have := get_lt k1; simpa using this), List.getElem?_map, k1]
    rfl
  · obtain ⟨u, _, g2⟩ := at_ h
    cases g2
  · obtain ⟨u, _, g2⟩ := at_ h
    cases g2
theorem fn_step {f : Nat} {fa : Addr} {fd : FuncData} {ps : List Str} (T : Tab P w K mg base M nm C k cal mk) (F : FnAt K nm C f fa fd ps) : FnOk P w K mg base (L2.CX P w) (k + 3) fa fd ps (SpC K M (fun vs st => runFn C cal mk f vs st)) := by
  obtain ⟨x, qual, st, N, d, hd, Fn, S, hp, hN, hc⟩ := F.ex
  refine Fn.okX (k := k + 2) S (fun vs H Q E ⟨Z, ρ, st, args, rh, r, q⟩ => ?_) fun cdv A outer s H vs Q E hr ⟨Z, ρ, st0, args, rh, r, q⟩ => ?_
  · rw [r.length, hp]
    simp only [runFn, hd] at q
    split at q
    · assumption
    · exact q.elim
  · simp only [runFn, hd] at q
    split at q
    · rename_i hl
      have cx : CtxS M nm C k cal mk (cxOf (L2.CX P w) P w K mg base N qual (defScope st) fa cdv A outer s H E) (fun c d _ H' => E c d H') N (defScope st) :=
        { tab := T, eN := rfl, nd := S.nd, sc := rfl, calm := rfl, room := hr, tk := takes_of rfl rfl rfl rfl, kd := S.kind, fn := fun _ => rfl, po := passes_of rfl, stk := rfl, fr := rfl }
      refine ⟨_, sndSs d.body cx hc, ⟨H, Z, ρ, fun _ => none⟩, Z, ρ, startE d args, st0, ⟨rh, start_re r hl hN, Adv.refl, fun a na => rh.fresh na, fun i e => ?_⟩, ?_⟩
      · exfalso
        have re := start_re (H := H) r hl hN
        unfold startE at e
        by_cases c : i < args.length
        · rw [List.getElem?_append_left (by simpa using c), List.getElem?_map, List.getElem?_eq_getElem c] at e
          cases e
        · rw [List.getElem?_append_right (by simpa using c), List.getElem?_replicate] at e
          split at e <;> cases e
      · show SPost K M ⟨H, Z, ρ, fun _ => none⟩ (fun c d _ H' => E c d H') { nx := fun _ H' => Q .non H', rt := Q } (evSs C cal mk d.body (startE d args) st0)
        cases e : evSs C cal mk d.body (startE d args) st0 with
        | bad => rw [e] at q; exact q
        | nx env st1 => rw [e] at q; exact fun σ H' Z' ρ' s' => q .non H' Z' ρ' s'.a s'.h .non
        | rt rv st1 => rw [e] at q; exact fun x H' Z' ρ' a1 a2 a3 => q x H' Z' ρ' a1 a2 a3
        | exc c fs env st1 => rw [e] at q; exact fun dd σ H' Z' ρ' s' rx => q dd H' Z' ρ' s'.a s'.h rx
    · exact q.elim
/-- the tables of a text, as they stand: no promise yet -/
structure Base0 (P : Program) (w : World) (K : PySem.W.Frag) (mg : Str → Option Value) (base : Heap) (M : Nm) (nm : Nms) (C : Cfg) : Prop where
  an : M.an = nm.an
  call : ∀ f, nm.isg f = true → ∃ (fa : Addr) (fd : FuncData) (ps : List Str), mg (nm.fn f) = some (.ref fa) ∧ PySem.W.keepIn K (.ref fa) = true ∧ FnAt K nm C f fa fd ps
  meth : ∀ c m f, C.meth c m = some f → ∃ (fa : Addr) (fd : FuncData) (ps : List Str), Cls K (M.ca c) ∧ Meth K (M.ca c) (M.an m) fa ∧ FnAt K nm C f fa fd ps
  make : ∀ c, nm.ism c = true → mg (nm.cl c) = some (.ref (M.ca c)) ∧ PySem.W.keepIn K (.ref (M.ca c)) = true ∧ ∀ f, C.init c = some f → ∃ (fa : Addr) (fd : FuncData) (ps : List Str), Mk K (M.ca c) fa ∧ FnAt K nm C f fa fd ps
  fld : ∀ c m, C.fld c m = true → m < 100 ∧ Cls K (M.ca c) ∧ NoAttr K (M.ca c) (M.an m)
  glb : ∀ g v, C.glb g = some v → ∃ (w : V) (u : Value), mg (nm.gl g) = some u ∧ RelV w u ∧ ∀ Z ρ, RV K Z ρ w v
  gdc : ∀ g kvs, C.gdc g = some kvs → ∃ a : Addr, mg (nm.gd g) = some (.ref a) ∧ GMap P w K a kvs
  blt : ∀ s ∈ bltNames, mg (Str.ofString s) = none
  xc : ∀ c fo, C.xf c = some fo → XcAt P w K mg base M (nm.xc c) c fo
  xm : ∀ c c', (C.xf c).isSome = true → (C.xf c').isSome = true → PySem.W.exmOne K (.ref (M.xa c)) (.ref (M.xa c')) = some (decide (c' = c))
theorem fn_bad {j : Nat} {f : Nat} {fa : Addr} {fd : FuncData} {ps : List Str} {g : List Val → Store → Res Rv} (hg : ∀ vs st, g vs st = .bad) : FnOk P w K mg base (L2.CX P w) j fa fd ps (SpC K M g) :=
  ⟨fun vs H Q E ⟨Z, ρ, st, args, rh, r, q⟩ => by rw [hg] at q; exact q.elim, fun A outer s H args us vs Q E _ _ _ _ ⟨Z, ρ, st, as, rh, r, q⟩ => by rw [hg] at q; exact q.elim⟩
theorem fn_all (B : Base0 P w K mg base M nm C) : ∀ (k : Nat) {f : Nat} {fa : Addr} {fd : FuncData} {ps : List Str}, FnAt K nm C f fa fd ps → FnOk P w K mg base (L2.CX P w) (k + 2) fa fd ps (SpC K M (evCall C k f))
  | 0, f, fa, fd, ps, F => fn_bad (f := f) fun _ _ => rfl
  | 1, f, fa, fd, ps, F => by
    refine fn_step (k := 0) (cal := fun _ _ _ => .bad) (mk := fun _ _ _ => .bad) ⟨B.an, fun f h => ?_, fun c m f h => ?_, fun c h => ?_, B.fld, B.glb, B.gdc, B.blt, B.xc, B.xm⟩ F
    · obtain ⟨fa, fd, ps, g1, g2, g3⟩ := B.call f h; exact ⟨fa, fd, ps, g1, g2, g3.bd, fn_bad (f := f) fun _ _ => rfl⟩
    · obtain ⟨fa, fd, ps, g1, g2, g3⟩ := B.meth c m f h; exact ⟨fa, fd, ps, g1, g2, g3.bd, fn_bad (f := f) fun _ _ => rfl⟩
    · obtain ⟨g1, g2, g3⟩ := B.make c h
      exact ⟨g1, g2, fun f hf => by obtain ⟨fa, fd, ps, k1, k2⟩ := g3 f hf; exact ⟨fa, fd, ps, k1, k2.bd, fn_bad (f := f) fun _ _ => rfl⟩⟩
  | k + 2, f, fa, fd, ps, F => by
    refine fn_step (k := k + 1) (cal := evCall C (k + 1)) (mk := evCall C k) ⟨B.an, fun f h => ?_, fun c m f h => ?_, fun c h => ?_, B.fld, B.glb, B.gdc, B.blt, B.xc, B.xm⟩ F
    · obtain ⟨fa, fd, ps, g1, g2, g3⟩ := B.call f h; exact ⟨fa, fd, ps, g1, g2, g3.bd, fn_all B (k + 1) g3⟩
    · obtain ⟨fa, fd, ps, g1, g2, g3⟩ := B.meth c m f h; exact ⟨fa, fd, ps, g1, g2, g3.bd, fn_all B (k + 1) g3⟩
    · obtain ⟨g1, g2, g3⟩ := B.make c h
      exact ⟨g1, g2, fun f hf => by obtain ⟨fa, fd, ps, k1, k2⟩ := g3 f hf; exact ⟨fa, fd, ps, k1, k2.bd, fn_all B k k2⟩⟩
end
end Lk
set_option Elab.async false
set_option linter.all false
set_option maxRecDepth 100000
set_option autoImplicit false
set_option maxHeartbeats 4000000
/-! LkK: a text's tables, what the head tells of them, a law's end. -/
namespace Lk
open PySem PySem.Spec L2 PyProof.Rows
/-- the tables of a text -/
structure Tb where
  fns : List (Nat × Fd)
  gs : List (Nat × Str)
  cl : List (Nat × Str)
  ini : List (Nat × Nat)
  mt : List ((Nat × Nat) × Nat)
  fl : List (Nat × Nat)
  gl : List (Nat × (Str × Val))
  xc : List (Nat × (Str × Option Nat))
  an : Nat → Str
  gd : List (Nat × (Str × List (Sn × Sn))) := []
def nameIn (l : List (Nat × Str)) (n : Nat) : Str := match l.lookup n with
  | some s => s
  | none => ⟨#[]⟩
def Tb.cfg (T : Tb) : Cfg where
  fn := fun n => T.fns.lookup n
  glb := fun g => (T.gl.lookup g).map (·.2)
  gdc := fun g => (T.gd.lookup g).map fun p => p.2.map fun q => (.str q.1, .str q.2)
  init := fun c => T.ini.lookup c
  meth := fun c m => T.mt.lookup (c, m)
  prop := fun _ _ => none
  fld := fun c m => T.fl.contains (c, m)
  xf := fun c => (T.xc.lookup c).map (·.2)
def Tb.nms (T : Tb) : Nms := { an := T.an, isg := fun f => (T.gs.lookup f).isSome, ism := fun c => (T.ini.lookup c).isSome, fn := nameIn T.gs, cl := nameIn T.cl, xc := fun c => (match T.xc.lookup c with | some p => p.1 | none => ⟨#[]⟩), gl := fun g => (match T.gl.lookup g with | some p => p.1 | none => ⟨#[]⟩), gd := fun g => (match T.gd.lookup g with | some p => p.1 | none => ⟨#[]⟩) }
/-- a def of the text -/
structure DefE where
  id : Nat
  at_ : Str × Option Str
  x : Str
  q : Str
  st : Stmt
  N : List Str
  ps : List Str
  d : Fd
def DefE.dd (e : DefE) : He.DefD := ⟨e.at_, e.x, e.q, defArgs e.st, defBody e.st, defScope e.st, [], []⟩
structure DefOk (T : Tb) (e : DefE) : Prop where
  fn : T.fns.lookup e.id = some e.d
  sc : FnScope e.N e.ps (defScope e.st)
  l1 : e.ps.length = e.d.np
  l2 : e.N.length = e.d.ns
  ck : chkSs T.nms e.N T.cfg (defScope e.st) e.d.body (defBody e.st) = true
  bd : ∀ (kV doc pm : Value) (an : Option Addr) (cdv ct : Value) (us : List Value), us.length = e.ps.length → bindArgs (PySem.W.fnOf e.x e.q (defArgs e.st) (defBody e.st) (defScope e.st) .none kV doc pm an cdv ct) ⟨us, []⟩ = pure (e.ps.zip us)
/-- the __init__ of an exception class: the class, its name, the def, the two names, the field -/
structure XinE where
  c : Nat
  cn : Str
  q : Str
  st : Stmt
  a : Str
  b : Str
  f : Nat
def XinE.dd (e : XinE) : He.DefD := ⟨(e.cn, some "__init__"), "__init__", e.q, defArgs e.st, defBody e.st, defScope e.st, [], []⟩
structure XinOk (T : Tb) (e : XinE) : Prop where
  xc : T.xc.lookup e.c = some (e.cn, some e.f)
  lt : e.f < 100
  sc : FnScope [e.a, e.b] [e.a, e.b] (defScope e.st)
  bo : ∃ p1 p2 p3 pos, defBody e.st = [.Assign [.Attribute (.Name e.a p1) (T.an e.f) p2] (.Name e.b p3) pos]
  va : Vis (defScope e.st) e.a
  vb : Vis (defScope e.st) e.b
  da : (e.a == ("__debug__" : Str)) = false
  db : (e.b == ("__debug__" : Str)) = false
  ca : (e.a == ("__classdict__" : Str)) = false
  cb : (e.b == ("__classdict__" : Str)) = false
  bd : ∀ (kV doc pm : Value) (an : Option Addr) (cdv ct : Value) (us : List Value), us.length = 2 → bindArgs (PySem.W.fnOf "__init__" e.q (defArgs e.st) (defBody e.st) (defScope e.st) .none kV doc pm an cdv ct) ⟨us, []⟩ = pure ([e.a, e.b].zip us)
/-! ### what is looked at behind the top -/
def oexB (K : PySem.W.Frag) (C : Addr) : Bool := match K.lookup C with
  | some ⟨.type t, _, .cls cd, sl⟩ => (match cd.mro, sl.toList with
    | .ref C' :: bm, [_, _, _, _, some (.builtin n), _] => decide (t = "type") && C' == C && decide (n = "ValueError.__new__") && !cd.hasDel && cd.hasDict && PySem.HandSPX.refsVE bm
    | _, _ => false)
  | _ => false
def xiB (K : PySem.W.Frag) (an : Nat → Str) (x : Str) (f : Nat) : Bool :=
  oexB K (He.ga K x) && He.eqO (PySem.W.findIn K (.ref (He.ga K x)) "__setattr__") (some (some (.builtin "object.__setattr__"))) && decide (PySem.W.subIn K (.ref (He.ga K x)) (.type "BaseException") = some true)
  && decide (PySem.W.typeIn K (.ref (He.ga K x)) = some (.type "type")) && PySem.W.keepIn K (.ref (He.ga K x)) && He.eqO (PySem.W.findIn K (.ref (He.ga K x)) (an f)) (some none)
  && He.eqO (PySem.W.findIn K (.ref (He.ga K x)) "__init__") (some (some (.ref (He.ma K (He.ga K x) "__init__")))) && decide (PySem.W.typeIn K (.ref (He.ma K (He.ga K x) "__init__")) = some (.type "function"))
def glB (K : PySem.W.Frag) (x : Str) : Val → Bool
  | .int i => (He.Fa.int x i).ok K
  | .str s => (He.Fa.str x (sv s)).ok K && snOk s
  | .tup [.str s] => (He.Fa.glo x).ok K && He.tupB K x [.str (sv s)] && snOk s
  | _ => false
/-- a dict of the text: its pairs -/
def gdB (K : PySem.W.Frag) (x : Str) (l : List (Sn × Sn)) : Bool := (He.Fa.glo x).ok K && l.all fun q => snOk q.2 && (match PySem.W.nsIn K (He.ga K x) (sv q.1) with
  | some (some (.str y _)) => decide (y = sv q.2)
  | _ => false)
def Tb.tabs (T : Tb) : List He.Tab := T.gd.map fun p => (fun K => He.ga K p.2.1, p.2.2.map fun q => sv q.1)
def Tb.okB (T : Tb) (K : PySem.W.Frag) : Bool :=
  (T.gs.all fun p => (He.Fa.glo p.2).ok K)
  && (T.mt.all fun p => (He.Fa.cls (T.nms.cl p.1.1)).ok K && (He.Fa.meth (T.nms.cl p.1.1) (T.an p.1.2)).ok K)
  && (T.ini.all fun p => (He.Fa.glo (T.nms.cl p.1)).ok K && (He.Fa.keep (T.nms.cl p.1)).ok K && (He.Fa.mkr (T.nms.cl p.1)).ok K)
  && (T.fl.all fun p => decide (p.2 < 100) && (He.Fa.cls (T.nms.cl p.1)).ok K && (He.Fa.noat (T.nms.cl p.1) (T.an p.2)).ok K)
  && (T.gl.all fun p => glB K p.2.1 p.2.2)
  && (bltNames.all fun s => (He.Fa.free (Str.ofString s)).ok K)
  && (T.xc.all fun p => (He.Fa.glo p.2.1).ok K && !(p.2.1 == ("__debug__" : Str)) && (match p.2.2 with
    | none => (He.Fa.exc p.2.1).ok K
    | some f => xiB K T.an p.2.1 f))
  && (T.xc.all fun p => T.xc.all fun q => (He.Fa.exm p.2.1 q.2.1 (decide (q.1 = p.1))).ok K)
  && (T.gd.all fun p => gdB K p.2.1 p.2.2)
theorem lookup_mem {α β : Type} [BEq α] [LawfulBEq α] {a : α} {b : β} : ∀ {l : List (α × β)}, l.lookup a = some b → (a, b) ∈ l
  | [], h => by simp at h
  | (c, d) :: r, h => by
    rw [List.lookup_cons] at h
    split at h
    · rename_i e
      cases h
      rw [eq_of_beq e]
      exact List.mem_cons_self
    · exact List.mem_cons_of_mem _ (lookup_mem h)
theorem oexB_ok {K : PySem.W.Frag} {C : Addr} (h : oexB K C = true) : ∃ nm q N bs bm sn sub ab col dd k0 k1 k2 k3 k5, K.lookup C = some (excClassObj nm q C N bs bm true sn sub ab col dd k0 k1 k2 k3 k5 "ValueError.__new__") ∧ PySem.HandSPX.refsVE bm = true := by
  unfold oexB at h
  split at h
  · rename_i t dd cd sl ho
    split at h
    · rename_i C' bm k0 k1 k2 k3 n k5 hm hs
      simp only [Bool.and_eq_true, beq_iff_eq, Bool.not_eq_true', decide_eq_true_eq] at h
      obtain ⟨⟨⟨⟨⟨rfl, rfl⟩, rfl⟩, hdel⟩, hdct⟩, ht⟩ := h
      obtain ⟨nm, bs, mro, ns, qn, hd, sn, sub, ab, col, del⟩ := cd
      dsimp only at hm hdel hdct
      subst hm hdel hdct
      have hsl : sl = #[k0, k1, k2, k3, some (.builtin "ValueError.__new__"), k5] := by
        obtain ⟨l⟩ := sl
        simp only at hs
        rw [hs]
      subst hsl
      exact ⟨nm, qn, ns, bs, bm, sn, sub, ab, col, dd, k0, k1, k2, k3, k5, ho, ht⟩
    · cases h
  · cases h
theorem dget_map (l : List (Sn × Sn)) (z : Sn) : dget (l.map fun q => (Val.str q.1, Val.str q.2)) (.str z) = (l.find? fun q => q.1 == z).map fun q => Val.str q.2 := by
  induction l with
  | nil => rfl
  | cons q r ih =>
    simp only [List.map_cons, dget, keyEq, List.find?_cons]
    by_cases c : (q.1 == z) = true
    · simp only [c, if_true]; rfl
    · have c' : (q.1 == z) = false := by simpa using c
      simp only [c', Bool.false_eq_true, if_false]
      exact ih
theorem dget_mapI (l : List (Sn × Sn)) (i : Int) : dget (l.map fun q => (Val.str q.1, Val.str q.2)) (.int i) = none := by
  induction l with
  | nil => rfl
  | cons q r ih => simp only [List.map_cons, dget, keyEq]; exact ih
theorem gmap_of {P : Program} {w : World} {K : PySem.W.Frag} {x : Str} {l : List (Sn × Sn)} (h1 : He.dicW K (He.ga K x) = some (He.keysIn w.params (l.map fun q => sv q.1))) (h2 : gdB K x l = true) : GMap P w K (He.ga K x) (l.map fun q => (.str q.1, .str q.2)) := by
  obtain ⟨es, n, D⟩ := He.dicW_ok h1
  have hk : es.toList.map He.keyOf = He.keysIn w.params (l.map fun q => sv q.1) := by
    unfold He.dicW at h1
    rw [D.at_] at h1
    dsimp only at h1
    split at h1
    · exact Option.some.inj h1
    · cases h1
  unfold gdB at h2
  simp only [Bool.and_eq_true, List.all_eq_true] at h2
  refine ⟨D.low, dget_mapI l, fun h kin => ⟨_, PySem.W.mapOf_K kin D.at_ D.lit, fun z => ⟨fun v e => ?_, fun e => ?_⟩⟩⟩
  · rw [dget_map] at e
    obtain ⟨q, hq, rfl⟩ := Option.map_eq_some_iff.mp e
    have hm := List.mem_of_find?_eq_some hq
    have hz : q.1 = z := by have := List.find?_some hq; simpa using this
    obtain ⟨g1, g2⟩ := h2.2 q hm
    split at g2
    · rename_i y t g3
      have g2 := of_decide_eq_true g2
      subst g2
      rw [hz] at g3
      exact ⟨.str (sv q.2), _, PySem.W.find_K D.at_ g3, ⟨t, rfl⟩, fun Z ρ => .str _ g1⟩
    · cases g2
  · rw [dget_map] at e
    have hn : l.find? (fun q => q.1 == z) = none := by
      cases c : l.find? (fun q => q.1 == z) with
      | none => rfl
      | some q => rw [c] at e; cases e
    have hno : ∀ q ∈ l, q.1 ≠ z := fun q hq c => by
      have := List.find?_eq_none.mp hn q hq
      rw [c] at this
      exact this (by simp)
    show findBy Value.isStrOf es (sv z) = none
    unfold findBy
    have : es.find? (fun e => Value.isStrOf (sv z) e.key) = none := by
      obtain ⟨es⟩ := es
      rw [List.find?_toArray]
      refine List.find?_eq_none.mpr fun e he c => ?_
      obtain ⟨t, et⟩ := Value.isStrOf_shape c
      have hmem : He.keyOf e ∈ He.keysIn w.params (l.map fun q => sv q.1) := by rw [← hk]; exact List.mem_map_of_mem he
      unfold He.keysIn at hmem
      obtain ⟨k, hk1, hk2⟩ := List.mem_map.mp hmem
      obtain ⟨q, hq, rfl⟩ := List.mem_map.mp hk1
      unfold He.keyOf at hk2
      rw [et] at hk2
      simp only [Option.some.injEq, Prod.mk.injEq] at hk2
      exact hno q hq (sv_inj hk2.1)
    rw [this]; rfl
theorem fun_of {K : PySem.W.Frag} {x q : Str} {st : Stmt} {f : Addr} {fd : FuncData} (F : FunD K x q (defArgs st) (defBody st) (defScope st) [] [] f fd) : Fun K x q st f fd := by
  obtain ⟨⟨oc, od, dV, kV, doc, pm, an, cdv, ct, osl, rfl, lk, hc, hd, _⟩, kp⟩ := F
  rcases hd with ⟨_, rfl⟩ | ⟨h, _⟩
  · exact ⟨⟨oc, od, kV, doc, pm, an, cdv, ct, osl, rfl, lk, hc⟩, kp⟩
  · exact absurd rfl h
end Lk
set_option Elab.async false
set_option linter.all false
set_option maxRecDepth 100000
set_option autoImplicit false
set_option maxHeartbeats 4000000
/-! LkK2: the tables stand; a law's end. -/
namespace Lk
open PySem PySem.Spec L2 PyProof.Rows
def Tb.M (T : Tb) (K : PySem.W.Frag) (inj : ∀ i j, i < 100 → j < 100 → T.an i = T.an j → i = j) : Nm := ⟨T.an, inj, fun c => He.ga K (T.nms.cl c), fun c => He.ga K (T.nms.xc c)⟩
/-- each name of the tables has its def -/
def Tb.defB (T : Tb) (DL : List DefE) (XL : List XinE) : Bool :=
  (T.gs.all fun p => DL.any fun e => e.id == p.1 && decide (e.at_ = (p.2, none)))
  && (T.mt.all fun p => DL.any fun e => e.id == p.2 && decide (e.at_ = (T.nms.cl p.1.1, some (T.an p.1.2))))
  && (T.ini.all fun p => DL.any fun e => e.id == p.2 && decide (e.at_ = (T.nms.cl p.1, some ("__init__" : Str))))
  && (T.xc.all fun p => match p.2.2 with
    | none => true
    | some _ => XL.any fun e => e.c == p.1)
section
variable {P : Program} {w : World} {K : PySem.W.Frag} {mg : Str → Option Value} {h : Heap} {T : Tb} {fa : List He.Fa} {fn : List He.DefD}
theorem fnAt_of {e : DefE} (c : He.SaysD fa fn K) (hm : e.dd ∈ fn) (o : DefOk T e) : ∃ fd, FnAt K T.nms T.cfg e.id (He.fAd K e.at_) fd e.ps ∧ PySem.W.keepIn K (.ref (He.fAd K e.at_)) = true := by
  obtain ⟨fd, F⟩ := c.defs hm
  have F' : Fun K e.x e.q e.st (He.fAd K e.at_) fd := fun_of F
  exact ⟨fd, ⟨⟨_, _, e.st, e.N, e.d, o.fn, F', o.sc, o.l1, o.l2, o.ck⟩, F'.binds o.bd⟩, F'.kp⟩
theorem tabs_of {DL : List DefE} {XL : List XinE} {inj : ∀ i j, i < 100 → j < 100 → T.an i = T.an j → i = j} (X : K.In h) (G : h.Ns mainGlobals mg) (c : He.SaysD fa (DL.map DefE.dd ++ XL.map XinE.dd) K) (ct : T.tabs.map (fun t => He.dicW K (t.1 K)) = T.tabs.map fun t => some (He.keysIn w.params t.2)) (ok : T.okB K = true)
    (hD : ∀ e ∈ DL, DefOk T e) (hX : ∀ e ∈ XL, XinOk T e) (hB : T.defB DL XL = true) (base : Heap) : Base0 P w K mg base (T.M K inj) T.nms T.cfg := by
  unfold Tb.okB at ok
  simp only [Bool.and_eq_true, List.all_eq_true] at ok
  obtain ⟨⟨⟨⟨⟨⟨⟨⟨o1, o2⟩, o3⟩, o4⟩, o5⟩, o6⟩, o7⟩, o8⟩, o9⟩ := ok
  unfold Tb.defB at hB
  simp only [Bool.and_eq_true, List.all_eq_true] at hB
  obtain ⟨⟨⟨b1, b2⟩, b3⟩, b4⟩ := hB
  have at_ : ∀ {f : Nat} {p : Str × Option Str}, (DL.any fun e => e.id == f && decide (e.at_ = p)) = true → ∃ fd ps, FnAt K T.nms T.cfg f (He.fAd K p) fd ps ∧ PySem.W.keepIn K (.ref (He.fAd K p)) = true := fun {f p} h => by
    obtain ⟨e, he, h2⟩ := List.any_eq_true.mp h
    simp only [Bool.and_eq_true, beq_iff_eq, decide_eq_true_eq] at h2
    obtain ⟨rfl, rfl⟩ := h2
    obtain ⟨fd, F, k⟩ := fnAt_of c (List.mem_append_left _ (List.mem_map_of_mem he)) (hD e he)
    exact ⟨fd, e.ps, F, k⟩
  refine ⟨rfl, fun f hf => ?_, fun cc m f hf => ?_, fun cc hc => ?_, fun cc m hf => ?_, fun g v hg => ?_, fun g kvs hg => ?_, fun s hs => He.free_ok X G (o6 s hs), fun cc fo hx => ?_, fun cc c' hc hc' => ?_⟩
  · have hf' : (T.gs.lookup f).isSome = true := hf
    obtain ⟨x, hx⟩ := Option.isSome_iff_exists.mp hf'
    have e : T.nms.fn f = x := by show nameIn T.gs f = x; unfold nameIn; rw [hx]
    have m := lookup_mem hx
    obtain ⟨fd, ps, F, k⟩ := at_ (b1 _ m)
    exact ⟨_, fd, ps, by rw [e]; exact He.glo_ok X G (o1 _ m), k, F⟩
  · have m' := lookup_mem (show T.mt.lookup (cc, m) = some f from hf)
    obtain ⟨fd, ps, F, k⟩ := at_ (b2 _ m')
    exact ⟨_, fd, ps, He.cls_ok (o2 _ m').1, He.meth_ok (o2 _ m').2, F⟩
  · have hc' : (T.ini.lookup cc).isSome = true := hc
    obtain ⟨f0, hf0⟩ := Option.isSome_iff_exists.mp hc'
    have m := lookup_mem hf0
    refine ⟨He.glo_ok X G (o3 _ m).1.1, (o3 _ m).1.2, fun f hf => ?_⟩
    have e : f = f0 := Option.some.inj ((show T.ini.lookup cc = some f from hf).symm.trans hf0)
    subst e
    obtain ⟨fd, ps, F, k⟩ := at_ (b3 _ m)
    exact ⟨_, fd, ps, He.mkr_ok (o3 _ m).2, F⟩
  · have m' : (cc, m) ∈ T.fl := by
      have : T.fl.contains (cc, m) = true := hf
      exact List.contains_iff_mem.mp this
    obtain ⟨⟨q1, q2⟩, q3⟩ := o4 _ m'
    exact ⟨of_decide_eq_true q1, He.cls_ok q2, He.noat_ok q3⟩
  · have hg' : (T.gl.lookup g).map (·.2) = some v := hg
    obtain ⟨p, hp, rfl⟩ := Option.map_eq_some_iff.mp hg'
    have m := lookup_mem hp
    have e : T.nms.gl g = p.1 := by show (match T.gl.lookup g with | some p => p.1 | none => ⟨#[]⟩) = p.1; rw [hp]
    have q := o5 _ m
    rw [e]
    dsimp only at q
    obtain ⟨x, v⟩ := p
    dsimp only at q ⊢
    unfold glB at q
    split at q
    · obtain ⟨t, ht⟩ := He.int_ok X G q
      exact ⟨.int _, _, ht, ⟨t, rfl⟩, fun Z ρ => .int _⟩
    · obtain ⟨q1, q2⟩ := Bool.and_eq_true_iff.mp q
      obtain ⟨t, ht⟩ := He.str_ok X G q1
      exact ⟨.str _, _, ht, ⟨t, rfl⟩, fun Z ρ => .str _ q2⟩
    · obtain ⟨q12, q3⟩ := Bool.and_eq_true_iff.mp q
      obtain ⟨q1, q2⟩ := Bool.and_eq_true_iff.mp q12
      exact ⟨.ref _, _, He.glo_ok X G q1, rfl, fun Z ρ => .tup (He.tupB_ok q2 Z) (.cons (.str _ q3) .nil) (by show 1 ≤ 100000; omega)⟩
    · cases q
  · have hg' : ((T.gd.lookup g).map fun p => p.2.map fun q => (Val.str q.1, Val.str q.2)) = some kvs := hg
    obtain ⟨p, hp, rfl⟩ := Option.map_eq_some_iff.mp hg'
    have m := lookup_mem hp
    have e : T.nms.gd g = p.1 := by show (match T.gd.lookup g with | some p => p.1 | none => ⟨#[]⟩) = p.1; rw [hp]
    have q := o9 _ m
    have q1 : (He.Fa.glo p.1).ok K = true := by
      have z := q
      unfold gdB at z
      exact (Bool.and_eq_true_iff.mp z).1
    have d : He.dicW K (He.ga K p.1) = some (He.keysIn w.params (p.2.map fun q => sv q.1)) := by
      obtain ⟨i, hi, ei⟩ := List.mem_iff_getElem.mp m
      have z : (T.tabs.map (fun t => He.dicW K (t.1 K)))[i]? = (T.tabs.map fun t => some (He.keysIn w.params t.2))[i]? := by rw [ct]
      unfold Tb.tabs at z
      simp only [List.getElem?_map, List.getElem?_eq_getElem hi, ei, Option.map_some] at z
      exact Option.some.inj z
    exact ⟨_, by rw [e]; exact He.glo_ok X G q1, gmap_of d q⟩
  · have hx' : (T.xc.lookup cc).map (·.2) = some fo := hx
    obtain ⟨p, hp, rfl⟩ := Option.map_eq_some_iff.mp hx'
    have m := lookup_mem hp
    have e : T.nms.xc cc = p.1 := by show (match T.xc.lookup cc with | some p => p.1 | none => ⟨#[]⟩) = p.1; rw [hp]
    obtain ⟨⟨q1, q2⟩, q3⟩ := o7 _ m
    have z4 := b4 _ m
    obtain ⟨x, fo⟩ := p
    dsimp only at q1 q2 q3 z4 e ⊢
    have eM : (T.M K inj).xa cc = He.ga K x := by show He.ga K (T.nms.xc cc) = _; rw [e]
    have gl : mg (T.nms.xc cc) = some (.ref ((T.M K inj).xa cc)) := by rw [eM, e]; exact He.glo_ok X G q1
    have db : (T.nms.xc cc == ("__debug__" : Str)) = false := by rw [e]; simpa using q2
    cases fo with
    | none =>
      obtain ⟨x1, x2, x3, x4⟩ := He.exc_ok q3
      exact ⟨gl, by rw [eM]; exact x2, by rw [eM]; exact x3, by rw [eM]; exact x4, db, fun _ => ⟨_, _, _, _, PySem.F.excBase_ValueError, by rw [eM]; exact x1⟩, fun f hf => by cases hf⟩
    | some f =>
      unfold xiB at q3
      simp only [Bool.and_eq_true, decide_eq_true_eq] at q3
      obtain ⟨⟨⟨⟨⟨⟨⟨x1, x2⟩, x3⟩, x4⟩, x5⟩, x6⟩, x7⟩, x8⟩ := q3
      have O : OexC K (He.ga K x) := ⟨oexB_ok x1, He.eqO_ok x2, x3, x4, x5⟩
      refine ⟨gl, by rw [eM]; exact x5, by rw [eM]; exact x3, by rw [eM]; exact x4, db, fun h => by (cases h), fun f' hf' => ?_⟩
      cases hf'
      obtain ⟨e1, he1, he2⟩ := List.any_eq_true.mp z4
      have hc : e1.c = cc := eq_of_beq he2
      have o := hX e1 he1
      have oxc := o.xc
      rw [hc, hp] at oxc
      simp only [Option.some.injEq, Prod.mk.injEq] at oxc
      obtain ⟨rfl, rfl⟩ := oxc
      obtain ⟨fd, F⟩ := c.defs (List.mem_append_right _ (List.mem_map_of_mem he1))
      have F' : Fun K "__init__" e1.q e1.st (He.ma K (He.ga K e1.cn) "__init__") fd := fun_of F
      obtain ⟨p1, p2, p3, pos, hb⟩ := o.bo
      refine ⟨o.lt, by rw [eM]; exact O, by rw [eM]; exact He.eqO_ok x6, _, fd, [e1.a, e1.b], by rw [eM]; exact He.eqO_ok x7, x8, F'.binds o.bd, ?_⟩
      rw [eM]
      exact xinit (M := T.M K inj) F' o.sc hb o.va o.vb o.da o.db o.ca o.cb O (He.eqO_ok x6)
  · have hc1 : ((T.xc.lookup cc).map (·.2)).isSome = true := hc
    have hc2 : ((T.xc.lookup c').map (·.2)).isSome = true := hc'
    rw [Option.isSome_map] at hc1 hc2
    obtain ⟨p, hp⟩ := Option.isSome_iff_exists.mp hc1
    obtain ⟨q, hq⟩ := Option.isSome_iff_exists.mp hc2
    have e1 : (T.M K inj).xa cc = He.ga K p.1 := by show He.ga K (match T.xc.lookup cc with | some p => p.1 | none => ⟨#[]⟩) = _; rw [hp]
    have e2 : (T.M K inj).xa c' = He.ga K q.1 := by show He.ga K (match T.xc.lookup c' with | some p => p.1 | none => ⟨#[]⟩) = _; rw [hq]
    rw [e1, e2]
    exact He.exm_ok (o8 _ (lookup_mem hp) _ (lookup_mem hq))
end
end Lk
set_option Elab.async false
set_option linter.all false
set_option maxRecDepth 100000
set_option autoImplicit false
set_option maxHeartbeats 4000000
/-! LkK3: a law's end. -/
namespace Lk
open PySem PySem.Spec L2 PyProof.Rows
theorem walk_w {l : PySem.W.OpenLaw} {n k : Nat} {q : Program} {loose : List Str} {XP : (Str → Option Value) → Heap → Prop} {YP : World → Heap → Prop} {d : DefRec} {CX : World → CXT} {x : Str}
    (hn : l.most = some n) (hn2 : n ≤ sizeLine) (hdf : d.params.defaults = []) (hr : Room k callerA)
    (F : ∀ (w : World) (mg : Str → Option Value) (fa : Addr) (h : Heap), YP w h → h.Ns mainGlobals mg → mg d.name = some (.ref fa) →
      ∃ (K : PySem.W.Frag) (fd : FuncData) (sp : Sp), K.In h ∧ (∀ (s : Shared) (u : Value), BindsTo s fd ⟨[u], []⟩ [(x, u)]) ∧
        (∀ (H : Hp) (a : Addr) (ns : List Int), ns.length ≤ n → Only H → SqL K H a (ns.map V.int) → sp [.ref a] H (fun v _ => v = .bl true) fun _ _ _ => False) ∧
        ∀ base : Heap, K.In base → base.Ns mainGlobals mg → FnOk l.prog w K mg base (CX w) k fa fd [x] sp)
    (hCX : ∀ (w : World) (H : Hp) (s : Shared) (e : Value) (s' : Shared), CX w [] H s (fun _ _ _ => False) e s' → False) :
    PySem.W.WalkO q loose XP YP l.row.toRowW d [] (fun f vs => PySem.call f vs) := by
  refine Att.attach_call hn hdf fun w s₀ s₁ mg mb fa o pm cd doc a vs ns G Y ho hd hcd hmg hobj hints hlen hg => ?_
  obtain ⟨K, fd, sp, KX, hb, hsp, hF⟩ := F w mg fa _ Y G.T.g hmg
  exact law_call KX G.T.g G.T.b G.T.builtins G.T.nolimit hg hobj hints (Nat.le_trans hlen hn2) hr hF hb (fun H hO hS => hsp H a ns hlen hO hS) fun H e s' => hCX w H s₁ e s'
abbrev hkOf (T : Tb) (DL : List DefE) (XL : List XinE) : PySem.W.Hook := He.hookX 6 [] (DL.map DefE.dd ++ XL.map XinE.dd) T.tabs [] T.okB
def obOf (T : Tb) (DL : List DefE) (XL : List XinE) (s : PySem.W.SharedT) : He.AlX := He.obsX 6 [] (DL.map DefE.dd ++ XL.map XinE.dd) T.tabs [] T.okB (HandSHeadRun.getT s)
theorem obOf_eq {T : Tb} {DL : List DefE} {XL : List XinE} (s : PySem.W.SharedT) : obOf T DL XL s = (hkOf T DL XL).obs s.abs := He.obsX_eq (HandSHeadRun.getT_eq s)
theorem law_walk {l : PySem.W.OpenLaw} {q : Program} {loose : List Str} {XP : (Str → Option Value) → Heap → Prop} {d : DefRec} {T : Tb} {DL : List DefE} {XL : List XinE} {k : Nat} {e : DefE} {x : Str}
    (inj : ∀ i j, i < 100 → j < 100 → T.an i = T.an j → i = j) (hn : l.most = some 63) (hdf : d.params.defaults = []) (hr : Room (k + 2) callerA) (hD : ∀ e ∈ DL, DefOk T e) (hX : ∀ e ∈ XL, XinOk T e) (hB : T.defB DL XL = true)
    (he : e ∈ DL) (hps : e.ps = [x]) (hat : e.at_ = (d.name, none)) (hgs : T.gs.lookup e.id = some d.name)
    (hp : ∀ ns : List Int, ns.length ≤ 63 → ∃ st, evCall T.cfg k e.id [.scr ns] [] = .ok (false, .bl true) st) :
    PySem.W.WalkO q loose XP (hkOf T DL XL).says l.row.toRowW d [] (fun f vs => PySem.call f vs) := by
  refine walk_w (n := 63) (k := k + 2) (x := x) (CX := fun w => L2.CX l.prog w) hn (by decide) hdf hr ?_ ?_
  · rintro w mg fa h ⟨K, KX, c⟩ G hmg
    have c1 := c.t.d
    obtain ⟨fd, F⟩ := c1.defs (List.mem_append_left _ (List.mem_map_of_mem he))
    have B := fun base => tabs_of (P := l.prog) (w := w) (T := T) (inj := inj) KX G c1 (congrArg (fun z : He.AlT => z.2) c.t) c.more hD hX hB base
    have F' : Fun K e.x e.q e.st (He.fAd K e.at_) fd := fun_of F
    have o := hD e he
    have ea : fa = He.fAd K e.at_ := by
      have g := (B h).call e.id (by show (T.gs.lookup e.id).isSome = true; rw [hgs]; rfl)
      have ok := c.more
      unfold Tb.okB at ok
      simp only [Bool.and_eq_true, List.all_eq_true] at ok
      have q1 := ok.1.1.1.1.1.1.1.1 _ (lookup_mem hgs)
      have q2 := He.glo_ok KX G q1
      rw [q2] at hmg
      cases hmg
      rw [hat]
      rfl
    subst ea
    refine ⟨K, fd, SpC K (T.M K inj) (evCall T.cfg k e.id), KX, fun s u => ?_, fun H a ns hl hO hS => ?_, fun base _ _ => ?_⟩
    · obtain ⟨⟨oc, od, kV, doc, pm, an, cdv, ct, osl, rfl, lk, hc⟩, kp⟩ := F'
      have z := o.bd kV doc pm an cdv ct [u] (by rw [hps]; rfl)
      rw [hps] at z
      exact .of_eq z
    · obtain ⟨st, q⟩ := hp ns hl
      refine ⟨H, [], [], [.scr ns], ⟨fun _ _ h => h, rfl, List.nodup_nil, fun a h => by simp at h, fun n a o h => by simp at h⟩, .cons (.scr hS (by show ns.length ≤ 100000; omega)) .nil, ?_⟩
      rw [q]
      intro x1 H1 Z1 ρ1 a1 rh r
      cases r
      rfl
    · have at_ : FnAt K T.nms T.cfg e.id (He.fAd K e.at_) fd e.ps := ⟨⟨_, _, e.st, e.N, e.d, o.fn, F', o.sc, o.l1, o.l2, o.ck⟩, F'.binds o.bd⟩
      have z := fn_all (B base) k at_
      rw [hps] at z
      exact z
  · rintro w H s u s' ⟨a, B, H', cls, d, _, _, _, _, _, _, _, hE⟩
    exact hE
end Lk
set_option linter.all false
set_option autoImplicit false
set_option maxRecDepth 100000
set_option maxHeartbeats 1000000
/-! LkL: what a call answers in a small store it answers in a larger one, all references moved on. -/
namespace Lk
mutual
def shV (n : Nat) : Val → Val
  | .ref m => .ref (m + n)
  | .tup xs => .tup (shVs n xs)
  | .lst xs => .lst (shVs n xs)
  | .dct kvs => .dct (shKs n kvs)
  | .non => .non
  | .bl b => .bl b
  | .int i => .int i
  | .str s => .str s
  | .scr ns => .scr ns
def shVs (n : Nat) : List Val → List Val
  | [] => []
  | x :: r => shV n x :: shVs n r
def shKs (n : Nat) : List (Val × Val) → List (Val × Val)
  | [] => []
  | (k, v) :: r => (shV n k, shV n v) :: shKs n r
end
theorem shVs_eq (n : Nat) (xs : List Val) : shVs n xs = xs.map (shV n) := by
  induction xs with
  | nil => rfl
  | cons x r ih => simp [shVs, ih]
theorem shKs_eq (n : Nat) (xs : List (Val × Val)) : shKs n xs = xs.map fun p => (shV n p.1, shV n p.2) := by
  induction xs with
  | nil => rfl
  | cons x r ih => obtain ⟨a, b⟩ := x; simp [shKs, ih]
def shO (n : Nat) : Ob → Ob
  | .lst xs => .lst (shVs n xs)
  | .dct kvs => .dct (shKs n kvs)
  | .ins c fs => .ins c (fs.map fun p => (p.1, shV n p.2))
def shF (n : Nat) (fs : List (Nat × Val)) : List (Nat × Val) := fs.map fun p => (p.1, shV n p.2)
def shS (pre : Store) (st : Store) : Store := pre ++ st.map (shO pre.length)
def shRv (n : Nat) (r : Rv) : Rv := (r.1, shV n r.2)
def shSl (n : Nat) : Slot → Slot
  | none => none
  | some (o, v) => some (o, shV n v)
def shE (n : Nat) (env : Env) : Env := env.map (shSl n)
def Res.sh {α : Type} (pre : Store) (g : α → α) : Res α → Res α
  | .ok a st => .ok (g a) (shS pre st)
  | .exc c fs st => .exc c (shF pre.length fs) (shS pre st)
  | .bad => .bad
def SRes.sh (pre : Store) : SRes → SRes
  | .nx env st => .nx (shE pre.length env) (shS pre st)
  | .rt r st => .rt (shRv pre.length r) (shS pre st)
  | .exc c fs env st => .exc c (shF pre.length fs) (shE pre.length env) (shS pre st)
  | .bad => .bad
section
variable {pre : Store}
theorem bind_sh {α β : Type} {g : α → α} {g' : β → β} {r : Res α} {f f' : α → Store → Res β} (h : ∀ a st, f' (g a) (shS pre st) = (f a st).sh pre g') : (r.sh pre g).bind f' = (r.bind f).sh pre g' := by
  cases r with
  | ok a st => exact h a st
  | exc c fs st => rfl
  | bad => rfl
theorem inS_sh {α : Type} {g : α → α} {r : Res α} {env : Env} {f f' : α → Store → SRes} (h : ∀ a st, f' (g a) (shS pre st) = (f a st).sh pre) : (r.sh pre g).inS (shE pre.length env) f' = (r.inS env f).sh pre := by
  cases r with
  | ok a st => exact h a st
  | exc c fs st => rfl
  | bad => rfl
theorem sbind_sh {r : SRes} {f f' : Env → Store → SRes} (h : ∀ env st, f' (shE pre.length env) (shS pre st) = (f env st).sh pre) : (r.sh pre).bind f' = (r.bind f).sh pre := by
  cases r with
  | nx a st => exact h a st
  | rt a st => rfl
  | exc c fs env st => rfl
  | bad => rfl
theorem of_sh {α : Type} {g : α → α} {o : Option α} {st : Store} : Res.of (o.map g) (shS pre st) = (Res.of o st).sh pre g := by cases o <;> rfl
theorem noX_sh {α : Type} {g : α → α} {r : Res α} : (r.sh pre g).noX = r.noX.sh pre g := by cases r <;> rfl

/-! ### the pieces -/
variable {n : Nat}
mutual
theorem pyEq_sh : ∀ a b : Val, pyEq (shV n a) (shV n b) = pyEq a b
  | .non, b => by cases b <;> rfl
  | .bl _, b => by cases b <;> rfl
  | .int _, b => by cases b <;> rfl
  | .str _, b => by cases b <;> rfl
  | .scr _, b => by cases b <;> rfl
  | .ref _, b => by cases b <;> rfl
  | .tup xs, b => by
    cases b <;> first | rfl | exact pyEqs_sh xs _
  | .lst xs, b => by
    cases b <;> first | rfl | exact pyEqs_sh xs _
  | .dct xs, b => by
    cases b <;> first | rfl | skip
    rename_i ys
    have := pyEqd_sh xs ys
    simp only [shV, pyEq, this]
    simp [shKs_eq]
theorem pyEqs_sh : ∀ a b : List Val, pyEqs (shVs n a) (shVs n b) = pyEqs a b
  | [], b => by cases b <;> rfl
  | x :: r, b => by
    cases b with
    | nil => rfl
    | cons y q => simp only [shVs, pyEqs, pyEq_sh x y, pyEqs_sh r q]
theorem pyEqd_sh : ∀ a b : List (Val × Val), pyEqd (shKs n a) (shKs n b) = pyEqd a b
  | [], b => by cases b <;> rfl
  | (k, v) :: r, b => by
    simp only [shKs, pyEqd, pyEqd_sh r b]
    congr 1
    rw [shKs_eq, List.any_map]
    congr 1
    funext p
    have := pyEq_sh v p.2
    simp only [Function.comp, this]
    cases k <;> cases p.1 <;> rfl
end
mutual
theorem plainD_sh : ∀ a : Val, plainD (shV n a) = plainD a
  | .non => rfl
  | .bl _ => rfl
  | .int _ => rfl
  | .str _ => rfl
  | .scr _ => rfl
  | .ref _ => rfl
  | .dct _ => rfl
  | .tup xs => plainDs_sh xs
  | .lst xs => plainDs_sh xs
theorem plainDs_sh : ∀ a : List Val, plainDs (shVs n a) = plainDs a
  | [] => rfl
  | x :: r => by simp only [shVs, plainDs, plainD_sh x, plainDs_sh r]
end
mutual
theorem dep_sh : ∀ a : Val, dep (shV n a) = dep a
  | .non => rfl
  | .bl _ => rfl
  | .int _ => rfl
  | .str _ => rfl
  | .scr _ => rfl
  | .ref _ => rfl
  | .dct _ => rfl
  | .tup xs => by simp only [shV, dep, deps_sh xs]
  | .lst xs => by simp only [shV, dep, deps_sh xs]
theorem deps_sh : ∀ a : List Val, deps (shVs n a) = deps a
  | [] => rfl
  | x :: r => by simp only [shVs, deps, dep_sh x, deps_sh r]
end
theorem eqOk_sh (a b : Val) : eqOk (shV n a) (shV n b) = eqOk a b := by simp only [eqOk, plainD_sh, dep_sh]
theorem ltOk_sh (a : Val) : ltOk (shV n a) = ltOk a := by simp only [ltOk, plainD_sh, dep_sh]
mutual
theorem pyLt_sh : ∀ a b : Val, pyLt (shV n a) (shV n b) = pyLt a b
  | .non, b => by cases b <;> rfl
  | .bl _, b => by cases b <;> rfl
  | .int _, b => by cases b <;> rfl
  | .str _, b => by cases b <;> rfl
  | .scr _, b => by cases b <;> rfl
  | .ref _, b => by cases b <;> rfl
  | .tup xs, b => by
    cases b <;> first | rfl | exact pyLts_sh xs _
  | .lst xs, b => by cases b <;> rfl
  | .dct xs, b => by cases b <;> rfl
theorem pyLts_sh : ∀ a b : List Val, pyLts (shVs n a) (shVs n b) = pyLts a b
  | [], b => by cases b <;> rfl
  | x :: r, b => by
    cases b with
    | nil => rfl
    | cons y q => simp only [shVs, pyLts, pyEq_sh x y, pyLt_sh x y, pyLts_sh r q]
end
theorem keyOk_sh (a : Val) : keyOk (shV n a) = keyOk a := by cases a <;> rfl
theorem keyEq_sh (a b : Val) : keyEq (shV n a) (shV n b) = keyEq a b := by cases a <;> cases b <;> rfl
theorem dget_sh (x : Val) : ∀ d : List (Val × Val), dget (shKs n d) (shV n x) = (dget d x).map (shV n)
  | [] => rfl
  | (k, v) :: r => by
    simp only [shKs, dget, keyEq_sh, dget_sh x r]
    split <;> rfl
theorem shKs_append (a b : List (Val × Val)) : shKs n (a ++ b) = shKs n a ++ shKs n b := by simp [shKs_eq]
theorem shVs_append (a b : List Val) : shVs n (a ++ b) = shVs n a ++ shVs n b := by simp [shVs_eq]
theorem dput_sh (d : List (Val × Val)) (x y : Val) : dput (shKs n d) (shV n x) (shV n y) = shKs n (dput d x y) := by
  unfold dput
  have e : (shKs n d).any (fun p => keyEq p.1 (shV n x)) = d.any fun p => keyEq p.1 x := by
    rw [shKs_eq, List.any_map]
    congr 1
    funext p
    exact keyEq_sh p.1 x
  rw [e]
  split
  · rw [shKs_eq, shKs_eq, List.map_map, List.map_map]
    congr 1
    funext p
    simp only [Function.comp, keyEq_sh]
    split <;> rfl
  · rw [shKs_append]; rfl
theorem dputs_sh (d : List (Val × Val)) : ∀ r : List (Val × Val), dputs (shKs n d) (shKs n r) = shKs n (dputs d r) := by
  intro r
  induction r generalizing d with
  | nil => rfl
  | cons p r ih =>
    obtain ⟨k, v⟩ := p
    simp only [shKs, dputs, dput_sh, ih]
theorem ddel_sh (d : List (Val × Val)) (x : Val) : ddel (shKs n d) (shV n x) = shKs n (ddel d x) := by
  unfold ddel
  rw [shKs_eq, shKs_eq, List.filter_map]
  congr 1
  congr 1
  funext p
  simp only [Function.comp, keyEq_sh]
theorem shVs_length (xs : List Val) : (shVs n xs).length = xs.length := by simp [shVs_eq]
theorem shKs_length (xs : List (Val × Val)) : (shKs n xs).length = xs.length := by simp [shKs_eq]
theorem shVs_get (xs : List Val) (i : Nat) : (shVs n xs)[i]? = xs[i]?.map (shV n) := by simp [shVs_eq]
theorem pairUp_sh : ∀ xs : List Val, pairUp (shVs n xs) = (pairUp xs).map (shKs n)
  | [] => rfl
  | [_] => rfl
  | k :: v :: r => by
    simp only [shVs, pairUp, keyOk_sh, pairUp_sh r]
    split
    · cases pairUp r <;> rfl
    · rfl
theorem pairsOf_sh : ∀ xs : List Val, pairsOf (shVs n xs) = (pairsOf xs).map (shKs n)
  | [] => rfl
  | x :: r => by
    have ih := pairsOf_sh r
    cases x with
    | tup ys =>
      match ys with
      | [] => rfl
      | [_] => rfl
      | [k, v] =>
        simp only [shVs, shV, pairsOf, keyOk_sh, ih]
        split
        · cases pairsOf r <;> rfl
        · rfl
      | _ :: _ :: _ :: _ => rfl
    | _ => rfl
/-! ### the store -/
theorem st_get (st : Store) (i : Nat) : (shS pre st)[i + pre.length]? = st[i]?.map (shO pre.length) := by
  unfold shS
  rw [List.getElem?_append_right (by omega), Nat.add_sub_cancel, List.getElem?_map]
theorem st_len (st : Store) : (shS pre st).length = st.length + pre.length := by simp [shS, Nat.add_comm]
theorem st_set (st : Store) (i : Nat) (o : Ob) : (shS pre st).set (i + pre.length) (shO pre.length o) = shS pre (st.set i o) := by
  unfold shS
  rw [List.set_append_right _ _ (by omega), Nat.add_sub_cancel, List.map_set]
theorem st_push (st : Store) (o : Ob) : shS pre st ++ [shO pre.length o] = shS pre (st ++ [o]) := by simp [shS]
theorem asList_sh (st : Store) (v : Val) : asList (shS pre st) (shV pre.length v) = (asList st v).map (shVs pre.length) := by
  cases v <;> first | rfl | skip
  rename_i m
  simp only [shV, asList, st_get]
  cases st[m]? with
  | none => rfl
  | some o => cases o <;> rfl
theorem asDict_sh (st : Store) (v : Val) : asDict (shS pre st) (shV pre.length v) = (asDict st v).map (shKs pre.length) := by
  cases v <;> first | rfl | skip
  rename_i m
  simp only [shV, asDict, st_get]
  cases st[m]? with
  | none => rfl
  | some o => cases o <;> rfl
theorem asIns_sh (st : Store) (v : Val) : asIns (shS pre st) (shV pre.length v) = (asIns st v).map fun p => (p.1 + pre.length, p.2.1, shF pre.length p.2.2) := by
  cases v <;> first | rfl | skip
  rename_i m
  simp only [shV, asIns, st_get]
  cases st[m]? with
  | none => rfl
  | some o => cases o <;> rfl
theorem keys_sh (kvs : List (Val × Val)) : (shKs n kvs).map (·.1) = shVs n (kvs.map (·.1)) := by simp [shKs_eq, shVs_eq, Function.comp_def]
theorem itemsOf_sh (st : Store) (v : Val) : itemsOf (shS pre st) (shV pre.length v) = (itemsOf st v).map (shVs pre.length) := by
  cases v <;> first | rfl | skip
  · simp only [shV, itemsOf, keys_sh]; rfl
  rename_i m
  simp only [shV, itemsOf, st_get]
  cases st[m]? with
  | none => rfl
  | some o => cases o <;> first | rfl | (simp only [Option.map_some, shO, keys_sh])
theorem strs_sh (s : Sn) : shVs n (s.map fun c => .str [c]) = s.map fun c => .str [c] := by
  rw [shVs_eq, List.map_map]; rfl
theorem ints_sh (s : List Int) : shVs n (s.map .int) = s.map .int := by
  rw [shVs_eq, List.map_map]; rfl
theorem seqOf_sh (st : Store) (v : Val) : seqOf (shS pre st) (shV pre.length v) = (seqOf st v).map (shVs pre.length) := by
  cases v with
  | tup xs => rfl
  | str s => simp only [shV, seqOf, Option.map_some, strs_sh]
  | ref m => exact asList_sh st (.ref m)
  | _ => rfl
theorem walkOf_sh (v : Val) : walkOf (shV n v) = (walkOf v).map (shVs n) := by
  cases v with
  | str s => simp only [shV, walkOf, Option.map_some, strs_sh]
  | scr s => simp only [shV, walkOf, Option.map_some, ints_sh]
  | _ => rfl
end
end Lk
set_option linter.all false
set_option autoImplicit false
set_option maxRecDepth 100000
set_option maxHeartbeats 1000000
/-! LkL2: operators, expressions, statements, calls in a larger store. -/
namespace Lk
section
variable {pre : Store} {n : Nat}
theorem binop_sh (op : Bop) (st : Store) (a b : Val) : binop op (shS pre st) (shV pre.length a) (shV pre.length b) = (binop op st a b).map (shRv pre.length) := by
  have hl : ∀ a b : Val, (match asList (shS pre st) (shV pre.length a), asList (shS pre st) (shV pre.length b) with
      | some x, some y => if x.length + y.length ≤ maxLen then some (true, Val.lst (x ++ y)) else none
      | _, _ => (none : Option Rv)) = (match asList st a, asList st b with
      | some x, some y => if x.length + y.length ≤ maxLen then some (true, Val.lst (x ++ y)) else none
      | _, _ => (none : Option Rv)).map (shRv pre.length) := fun a b => by
    rw [asList_sh, asList_sh]
    cases asList st a with
    | none => rfl
    | some x =>
      cases asList st b with
      | none => rfl
      | some y =>
        simp only [Option.map_some, shVs_length]
        split
        · simp [shRv, shV, shVs_append]
        · rfl
  cases op with
  | add =>
    have h := hl a b
    cases a <;> cases b <;> first | rfl | exact h | (simp only [binop, shV, shVs_length, shVs_append]; split <;> first | rfl | simp [shRv, shV, shVs_append]) | (simp only [binop, shV]; split <;> rfl)
  | _ => cases a <;> cases b <;> first | rfl | (simp only [binop, shV]; split <;> rfl)
theorem all_sh (xs : List Val) (a : Val) : (shVs n xs).all (fun y => eqOk y (shV n a)) = xs.all fun y => eqOk y a := by
  rw [shVs_eq, List.all_map]; congr 1; funext y; exact eqOk_sh y a
theorem any_sh (xs : List Val) (a : Val) : (shVs n xs).any (fun y => pyEq y (shV n a)) = xs.any fun y => pyEq y a := by
  rw [shVs_eq, List.any_map]; congr 1; funext y; exact pyEq_sh y a
theorem isIn_sh (st : Store) (a b : Val) : isIn (shS pre st) (shV pre.length a) (shV pre.length b) = isIn st a b := by
  have hl : ∀ b : Val, (match asList (shS pre st) (shV pre.length b) with
    | some xs => if xs.all (fun y => eqOk y (shV pre.length a)) then some (xs.any fun y => pyEq y (shV pre.length a)) else none
    | none => match asDict (shS pre st) (shV pre.length b) with
      | some kvs => if keyOk (shV pre.length a) then some (dget kvs (shV pre.length a)).isSome else none
      | none => none) = (match asList st b with
    | some xs => if xs.all (fun y => eqOk y a) then some (xs.any fun y => pyEq y a) else none
    | none => match asDict st b with
      | some kvs => if keyOk a then some (dget kvs a).isSome else none
      | none => none) := fun b => by
    rw [asList_sh, asDict_sh]
    cases asList st b with
    | some xs => simp only [Option.map_some, all_sh, any_sh]
    | none =>
      cases asDict st b with
      | none => rfl
      | some kvs => simp only [Option.map_none, Option.map_some, keyOk_sh, dget_sh, Option.isSome_map]
  have h := hl b
  cases b with
  | str s => cases a <;> rfl
  | tup xs => simp only [shV, isIn, all_sh, any_sh]
  | _ => exact h
theorem isNon_sh (a : Val) : isNon (shV n a) = isNon a := by cases a <;> rfl
theorem isBlV_sh (c : Bool) (a : Val) : isBlV c (shV n a) = isBlV c a := by cases a <;> rfl
theorem isOp_sh (a b : Val) : isOp (shV n a) (shV n b) = isOp a b := by
  cases b <;> simp only [isOp, shV, isNon_sh, isBlV_sh]
theorem cmpop_sh (op : Cop) (st : Store) (a b : Val) : cmpop op (shS pre st) (shV pre.length a) (shV pre.length b) = cmpop op st a b := by
  cases op <;> simp only [cmpop, eqOk_sh, pyEq_sh, ltOk_sh, pyLt_sh, isIn_sh, isOp_sh]
  all_goals cases a <;> cases b <;> rfl
theorem getI_sh (xs : List Val) (i : Int) : ((ixOf (shVs n xs).length i).bind fun j => (shVs n xs)[j]?) = ((ixOf xs.length i).bind fun j => xs[j]?).map (shV n) := by
  rw [shVs_length]
  cases ixOf xs.length i with
  | none => rfl
  | some j => exact shVs_get xs j
theorem subOp_sh (st : Store) (o i : Val) : subOp (shS pre st) (shV pre.length o) (shV pre.length i) = (subOp st o i).map (shV pre.length) := by
  have hl : ∀ o : Val, (match asList (shS pre st) (shV pre.length o) with
    | some xs => (match shV pre.length i with | .int i => (ixOf xs.length i).bind fun j => xs[j]? | _ => none)
    | none => match asDict (shS pre st) (shV pre.length o) with
      | some kvs => if keyOk (shV pre.length i) then dget kvs (shV pre.length i) else none
      | none => none) = (match asList st o with
    | some xs => (match i with | .int i => (ixOf xs.length i).bind fun j => xs[j]? | _ => none)
    | none => match asDict st o with
      | some kvs => if keyOk i then dget kvs i else none
      | none => none).map (shV pre.length) := fun o => by
    rw [asList_sh, asDict_sh]
    cases asList st o with
    | some xs =>
      cases i <;> first | rfl | exact getI_sh xs _
    | none =>
      cases asDict st o with
      | none => rfl
      | some kvs =>
        simp only [Option.map_none, Option.map_some, keyOk_sh, dget_sh]
        split <;> rfl
  have h := hl o
  cases o with
  | tup xs => cases i <;> first | rfl | exact getI_sh xs _
  | str s =>
    cases i <;> first | rfl | skip
    simp only [subOp, shV]
    cases ixOf s.length _ with
    | none => rfl
    | some j =>
      simp only [Option.bind_some]
      cases s[j]? <;> rfl
  | _ => cases i <;> exact h
theorem cutL_sh (xs : List Val) (lo hi : Option Int) : cutL (shVs n xs) lo hi = shVs n (cutL xs lo hi) := by
  unfold cutL
  simp only [shVs_eq, List.length_map, List.map_take, List.map_drop]
theorem slcI_sh (st : Store) (o : Val) (lo hi : Option Int) : slcI (shS pre st) (shV pre.length o) lo hi = (slcI st o lo hi).map (shRv pre.length) := by
  have hl : ∀ o : Val, ((asList (shS pre st) (shV pre.length o)).map fun xs => ((true, Val.lst (cutL xs lo hi)) : Rv)) = ((asList st o).map fun xs => ((true, Val.lst (cutL xs lo hi)) : Rv)).map (shRv pre.length) := fun o => by
    rw [asList_sh, Option.map_map, Option.map_map]
    congr 1
    funext xs
    simp only [Function.comp, shRv, shV, cutL_sh]
  have h := hl o
  cases o with
  | tup xs => simp only [slcI, shV, cutL_sh]; rfl
  | str s => rfl
  | _ => exact h
theorem revOp_sh (st : Store) (o : Val) : revOp (shS pre st) (shV pre.length o) = (revOp st o).map (shRv pre.length) := by
  have hl : ∀ o : Val, ((asList (shS pre st) (shV pre.length o)).map fun xs => ((true, Val.lst xs.reverse) : Rv)) = ((asList st o).map fun xs => ((true, Val.lst xs.reverse) : Rv)).map (shRv pre.length) := fun o => by
    rw [asList_sh, Option.map_map, Option.map_map]
    congr 1
    funext xs
    simp only [Function.comp, shRv, shV, shVs_eq, List.map_reverse]
  have h := hl o
  cases o with
  | tup xs => simp only [revOp, shV, shVs_eq, ← List.map_reverse]; simp [shRv, shV, shVs_eq]
  | str s => rfl
  | _ => exact h
theorem tagOf_sh (st : Store) (v : Val) : tagOf (shS pre st) (shV pre.length v) = tagOf st v := by
  cases v <;> first | rfl | skip
  rename_i m
  simp only [shV, tagOf, st_get]
  cases st[m]? with
  | none => rfl
  | some o => cases o <;> rfl
theorem insV_sh (x : Val) : ∀ xs : List Val, insV (shV n x) (shVs n xs) = (insV x xs).map (shVs n)
  | [] => rfl
  | y :: r => by
    simp only [shVs, insV, pyLt_sh, insV_sh x r]
    cases pyLt y x with
    | none => rfl
    | some b =>
      cases b
      · rfl
      · simp only [Option.bind_some, if_true]
        cases insV x r <;> rfl
theorem sortV_sh : ∀ xs : List Val, sortV (shVs n xs) = (sortV xs).map (shVs n)
  | [] => rfl
  | x :: r => by
    simp only [shVs, sortV, sortV_sh r]
    cases sortV r with
    | none => rfl
    | some ys => exact insV_sh x ys
theorem srtB_sh : ∀ xs : List Val, srtB (shVs n xs) = srtB xs
  | [] => rfl
  | x :: r => by
    simp only [shVs, srtB, srtB_sh r]
    congr 1
    rw [shVs_eq, List.all_map]
    congr 1
    funext y
    simp only [Function.comp, pyEq_sh, pyLt_sh]
theorem sortC_sh (xs : List Val) : sortC (shVs n xs) = (sortC xs).map (shVs n) := by
  unfold sortC
  rw [sortV_sh]
  cases sortV xs with
  | none => rfl
  | some ys =>
    simp only [Option.map_some, Option.bind_some, srtB_sh]
    split <;> rfl
theorem dedup_sh : ∀ xs : List Val, dedup (shVs n xs) = shVs n (dedup xs)
  | [] => rfl
  | x :: r => by
    simp only [shVs, dedup, dedup_sh r, any_sh]
    split <;> rfl
theorem allStr_sh : ∀ xs : List Val, allStr (shVs n xs) = allStr xs
  | [] => rfl
  | x :: r => by cases x <;> first | rfl | exact allStr_sh r
mutual
theorem shp_sh : ∀ x : Val, shp (shV n x) = shp x
  | .non => rfl
  | .bl _ => rfl
  | .int _ => rfl
  | .str _ => rfl
  | .scr _ => rfl
  | .ref _ => rfl
  | .lst _ => rfl
  | .dct _ => rfl
  | .tup xs => shps_sh xs
theorem shps_sh : ∀ xs : List Val, shps (shVs n xs) = shps xs
  | [] => rfl
  | x :: r => by simp only [shVs, shps, shp_sh x, shps_sh r]
end
theorem allShp_sh : ∀ xs : List Val, allShp (shVs n xs) = allShp xs
  | [] => rfl
  | x :: r => by
    cases x <;> first | rfl | skip
    rename_i q
    match q with
    | [] => rfl
    | y :: q => cases y <;> first | rfl | (simp only [shVs, shV, allShp, shps_sh, allShp_sh r])
theorem sortable_sh (xs : List Val) : sortable (shVs n xs) = sortable xs := by simp only [sortable, allStr_sh, allShp_sh, shVs_length]
theorem allLt_sh (xs : List Val) : (shVs n xs).all ltOk = xs.all ltOk := by
  rw [shVs_eq, List.all_map]; congr 1; funext y; exact ltOk_sh y
theorem allBl_sh : ∀ xs : List Val, allBl (shVs n xs) = allBl xs
  | [] => rfl
  | x :: r => by cases x <;> first | rfl | (simp only [shVs, shV, allBl, allBl_sh r])
theorem maxI_sh : ∀ xs : List Val, maxI (shVs n xs) = maxI xs
  | [] => rfl
  | [x] => by cases x <;> rfl
  | x :: y :: r => by
    have ih := maxI_sh (y :: r)
    cases x <;> first | rfl | skip
    simp only [shVs, shV, maxI] at ih ⊢
    rw [ih]
theorem minI_sh : ∀ xs : List Val, minI (shVs n xs) = minI xs
  | [] => rfl
  | [x] => by cases x <;> rfl
  | x :: y :: r => by
    have ih := minI_sh (y :: r)
    cases x <;> first | rfl | skip
    simp only [shVs, shV, minI] at ih ⊢
    rw [ih]
theorem zipV_sh : ∀ xs ys : List Val, zipV (shVs n xs) (shVs n ys) = shVs n (zipV xs ys)
  | [], _ => rfl
  | _ :: _, [] => rfl
  | x :: r, y :: q => by simp only [shVs, zipV, zipV_sh r q, shV]
theorem rangeV_sh : ∀ (k : Nat) (lo : Int), shVs n (rangeV lo k) = rangeV lo k
  | 0, _ => rfl
  | k + 1, lo => by simp only [rangeV, shVs, shV, rangeV_sh k]
theorem rangeS_sh (c : Int) : ∀ (k : Nat) (lo : Int), shVs n (rangeS lo c k) = rangeS lo c k
  | 0, _ => rfl
  | k + 1, lo => by simp only [rangeS, shVs, shV, rangeS_sh c k]
theorem enumV_sh : ∀ (xs : List Val) (i : Int), enumV i (shVs n xs) = shVs n (enumV i xs)
  | [], _ => rfl
  | x :: r, i => by simp only [shVs, enumV, enumV_sh r, shV]
theorem len1_sh (st : Store) (v : Val) : (match asList (shS pre st) (shV pre.length v) with
    | some xs => some ((false, Val.int xs.length) : Rv)
    | none => (asDict (shS pre st) (shV pre.length v)).map fun (kvs : List (Val × Val)) => (false, Val.int kvs.length)) = (match asList st v with
    | some xs => some ((false, Val.int xs.length) : Rv)
    | none => (asDict st v).map fun (kvs : List (Val × Val)) => (false, Val.int kvs.length)).map (shRv pre.length) := by
  rw [asList_sh, asDict_sh]
  cases asList st v with
  | some xs => simp only [Option.map_some, shVs_length]; rfl
  | none => cases asDict st v with
    | none => rfl
    | some kvs => simp only [Option.map_none, Option.map_some, shKs_length]; rfl
theorem lbind_sh {f f' : List Val → Option Rv} (st : Store) (v : Val) (h : ∀ xs, f' (shVs pre.length xs) = (f xs).map (shRv pre.length)) : (asList (shS pre st) (shV pre.length v)).bind f' = ((asList st v).bind f).map (shRv pre.length) := by
  rw [asList_sh]
  cases asList st v with
  | none => rfl
  | some xs => exact h xs
theorem ibind_sh {f f' : List Val → Option Rv} (st : Store) (v : Val) (h : ∀ xs, f' (shVs pre.length xs) = (f xs).map (shRv pre.length)) : (itemsOf (shS pre st) (shV pre.length v)).bind f' = ((itemsOf st v).bind f).map (shRv pre.length) := by
  rw [itemsOf_sh]
  cases itemsOf st v with
  | none => rfl
  | some xs => exact h xs
theorem biOp_sh (b : Bi) (st : Store) (vs : List Val) : biOp b (shS pre st) (shVs pre.length vs) = (biOp b st vs).map (shRv pre.length) := by
  match vs with
  | [] => cases b <;> rfl
  | [v] =>
    cases b with
    | len =>
      have h := len1_sh (pre := pre) st v
      cases v <;> first | exact h | (simp only [shVs, shV, biOp, shVs_length]; rfl)
    | all =>
      have h := lbind_sh (pre := pre) (f := fun xs => (allBl xs).map fun b => ((false, .bl b) : Rv)) (f' := fun xs => (allBl xs).map fun b => ((false, .bl b) : Rv)) st v fun xs => by
        rw [allBl_sh]; cases allBl xs <;> rfl
      cases v <;> exact h
    | sorted =>
      have h := lbind_sh (pre := pre) (f := fun xs => if sortable xs && xs.all ltOk then (sortC xs).map fun ys => ((true, .lst ys) : Rv) else none) (f' := fun xs => if sortable xs && xs.all ltOk then (sortC xs).map fun ys => ((true, .lst ys) : Rv) else none) st v fun xs => by
        rw [sortable_sh, allLt_sh, sortC_sh]
        split
        · cases sortC xs <;> rfl
        · rfl
      cases v <;> exact h
    | srtset =>
      have h := lbind_sh (pre := pre) (f := fun xs => if allStr xs && decide (xs.length < 64) then (sortC (dedup xs)).map fun ys => ((true, .lst ys) : Rv) else none) (f' := fun xs => if allStr xs && decide (xs.length < 64) then (sortC (dedup xs)).map fun ys => ((true, .lst ys) : Rv) else none) st v fun xs => by
        rw [allStr_sh, dedup_sh, sortC_sh, shVs_length]
        split
        · cases sortC (dedup xs) <;> rfl
        · rfl
      cases v <;> exact h
    | list =>
      have h := itemsOf_sh (pre := pre) st v
      cases v <;> (simp only [shVs, biOp]; rw [h]; cases itemsOf st _ <;> rfl)
    | tuple =>
      cases v <;> first | rfl | skip
      rename_i m
      have h := asList_sh (pre := pre) st (.ref m)
      simp only [shVs, shV, biOp] at h ⊢
      rw [h]
      cases asList st _ <;> rfl
    | dict =>
      have h : (match asDict (shS pre st) (shV pre.length v) with
          | some kvs => some (true, Val.dct kvs)
          | none => (asList (shS pre st) (shV pre.length v)).bind fun xs => (pairsOf xs).map fun kvs => ((true, Val.dct (dputs [] kvs)) : Rv)) = (match asDict st v with
          | some kvs => some (true, Val.dct kvs)
          | none => (asList st v).bind fun xs => (pairsOf xs).map fun kvs => ((true, Val.dct (dputs [] kvs)) : Rv)).map (shRv pre.length) := by
        rw [asDict_sh]
        cases asDict st v with
        | some kvs => rfl
        | none =>
          refine lbind_sh st v fun xs => ?_
          rw [pairsOf_sh]
          cases pairsOf xs with
          | none => rfl
          | some kvs =>
            have := dputs_sh (n := pre.length) [] kvs
            simp only [shKs] at this
            simp only [Option.map_some, this]
            rfl
      cases v <;> exact h
    | max =>
      have h := lbind_sh (pre := pre) (f := fun xs => (maxI xs).map fun i => ((false, .int i) : Rv)) (f' := fun xs => (maxI xs).map fun i => ((false, .int i) : Rv)) st v fun xs => by
        rw [maxI_sh]; cases maxI xs <;> rfl
      cases v <;> exact h
    | min =>
      have h := lbind_sh (pre := pre) (f := fun xs => (minI xs).map fun i => ((false, .int i) : Rv)) (f' := fun xs => (minI xs).map fun i => ((false, .int i) : Rv)) st v fun xs => by
        rw [minI_sh]; cases minI xs <;> rfl
      cases v <;> exact h
    | abs => cases v <;> rfl
    | int => cases v <;> rfl
    | lrange =>
      cases v <;> first | rfl | skip
      simp only [shVs, shV, biOp]
      split
      · simp only [Option.map_some, shRv, shV, rangeV_sh]
      · rfl
    | lzip => cases v <;> rfl
    | dzip => cases v <;> rfl
  | [v, w] =>
    cases b with
    | lzip =>
      have h : ((itemsOf (shS pre st) (shV pre.length v)).bind fun xs => (itemsOf (shS pre st) (shV pre.length w)).map fun ys => ((true, Val.lst (zipV xs ys)) : Rv)) = ((itemsOf st v).bind fun xs => (itemsOf st w).map fun ys => ((true, Val.lst (zipV xs ys)) : Rv)).map (shRv pre.length) := ibind_sh st v fun xs => by
        rw [itemsOf_sh, Option.map_map, Option.map_map]
        congr 1
        funext ys
        simp only [Function.comp, zipV_sh, shRv, shV]
      cases v <;> cases w <;> exact h
    | dzip =>
      have h : ((itemsOf (shS pre st) (shV pre.length v)).bind fun xs => (itemsOf (shS pre st) (shV pre.length w)).bind fun ys => (pairsOf (zipV xs ys)).map fun kvs => ((true, Val.dct (dputs [] kvs)) : Rv)) = ((itemsOf st v).bind fun xs => (itemsOf st w).bind fun ys => (pairsOf (zipV xs ys)).map fun kvs => ((true, Val.dct (dputs [] kvs)) : Rv)).map (shRv pre.length) := ibind_sh st v fun xs => ibind_sh st w fun ys => by
        rw [zipV_sh, pairsOf_sh]
        cases pairsOf (zipV xs ys) with
        | none => rfl
        | some kvs =>
          have := dputs_sh (n := pre.length) [] kvs
          simp only [shKs] at this
          simp only [Option.map_some, this]
          rfl
      cases v <;> cases w <;> exact h
    | max => cases v <;> cases w <;> rfl
    | min => cases v <;> cases w <;> rfl
    | _ => cases v <;> cases w <;> rfl
  | v :: w :: u :: r =>
    cases b <;> first | rfl | (cases v <;> first | rfl | (cases w <;> rfl))
theorem itOp_sh (k : Ik) (st : Store) (vs : List Val) : itOp k (shS pre st) (shVs pre.length vs) = (itOp k st vs).map (shVs pre.length) := by
  match vs with
  | [] => cases k <;> rfl
  | [v] =>
    cases k with
    | ex => exact walkOf_sh v
    | rng1 =>
      cases v <;> first | rfl | skip
      simp only [shVs, shV, itOp]
      split
      · simp only [Option.map_some, rangeV_sh]
      · rfl
    | enum =>
      simp only [shVs, itOp, walkOf_sh, Option.map_map]
      congr 1
      funext xs
      exact enumV_sh xs 0
    | _ => cases v <;> rfl
  | [v, w] =>
    cases k with
    | rng2 =>
      cases v <;> cases w <;> first | rfl | skip
      simp only [shVs, shV, itOp]
      split
      · simp only [Option.map_some, rangeV_sh]
      · rfl
    | zip =>
      simp only [shVs, itOp, walkOf_sh]
      cases walkOf v with
      | none => rfl
      | some xs =>
        cases walkOf w with
        | none => rfl
        | some ys => simp only [Option.map_some, Option.bind_some, zipV_sh]
    | _ => cases v <;> cases w <;> rfl
  | [v, w, u] =>
    cases k with
    | rng3 =>
      cases v <;> cases w <;> cases u <;> first | rfl | skip
      simp only [shVs, shV, itOp]
      split
      · simp only [Option.map_some, rangeS_sh]
      · rfl
    | _ => cases v <;> cases w <;> cases u <;> rfl
  | v :: w :: u :: x :: r => cases k <;> first | rfl | (cases v <;> cases w <;> cases u <;> rfl)
theorem env_set (env : Env) (i : Nat) (s : Slot) : (shE n env).set i (shSl n s) = shE n (env.set i s) := by simp [shE, List.map_set]
theorem env_get (env : Env) (i : Nat) : (shE n env)[i]? = env[i]?.map (shSl n) := by simp [shE]
theorem setTs_sh : ∀ (is : List Nat) (vs : List Val) (env : Env), setTs is (shVs n vs) (shE n env) = (setTs is vs env).map (shE n)
  | [], [], _ => rfl
  | [], _ :: _, _ => rfl
  | _ :: _, [], _ => rfl
  | i :: is, v :: vs, env => by
    have e : (shE n env).set i (some (false, shV n v)) = shE n (env.set i (some (false, v))) := env_set env i (some (false, v))
    simp only [shVs, setTs, e, setTs_sh is vs]
theorem setTg_sh (tg : Tg) (v : Val) (env : Env) : setTg tg (shV n v) (shE n env) = (setTg tg v env).map (shE n) := by
  cases tg with
  | nm i => simp only [setTg, Option.map_some]; exact congrArg some (env_set env i (some (false, v)))
  | tp is => cases v <;> first | rfl | exact setTs_sh is _ env
theorem asStr_sh (v : Val) : asStr (shV n v) = asStr v := by cases v <;> rfl
theorem asInt_sh (v : Val) : asInt (shV n v) = asInt v := by cases v <;> rfl
theorem asBl_sh (v : Rv) : asBl (shRv n v) = asBl v := by obtain ⟨o, v⟩ := v; cases v <;> rfl
theorem of_id {α : Type} {o : Option α} {st : Store} : Res.of o (shS pre st) = (Res.of o st).sh pre id := by cases o <;> rfl
theorem bodyL_sh {tg : Tg} {fc fc' : Env → Store → Res Bool} {fe fe' : Env → Store → Res Rv} (hc : ∀ env st, fc' (shE pre.length env) (shS pre st) = (fc env st).sh pre id) (he : ∀ env st, fe' (shE pre.length env) (shS pre st) = (fe env st).sh pre (shRv pre.length)) (env : Env) (x : Val) (st : Store) :
    bodyL tg fc' fe' (shE pre.length env) (shV pre.length x) (shS pre st) = (bodyL tg fc fe env x st).sh pre (shVs pre.length) := by
  unfold bodyL
  rw [setTg_sh]
  cases setTg tg x env with
  | none => rfl
  | some env' =>
    simp only [Option.map_some, hc]
    refine bind_sh fun b st => ?_
    show (if b then _ else _) = _
    split
    · rw [he]
      exact bind_sh fun v st => rfl
    · rfl
theorem lcLoop_sh {f f' : Val → Store → Res (List Val)} (h : ∀ x st, f' (shV pre.length x) (shS pre st) = (f x st).sh pre (shVs pre.length)) : ∀ (xs : List Val) (st : Store), lcLoop f' (shVs pre.length xs) (shS pre st) = (lcLoop f xs st).sh pre (shVs pre.length)
  | [], _ => rfl
  | x :: r, st => by
    simp only [shVs, lcLoop, h]
    refine bind_sh fun ys st => ?_
    rw [lcLoop_sh h r]
    refine bind_sh fun zs st => ?_
    simp only [Res.sh, shVs_append]
def shKv (n : Nat) (p : Val × Val) : Val × Val := (shV n p.1, shV n p.2)
theorem dcLoop_sh {f f' : Val → Store → Res (Option (Val × Val))} (h : ∀ x st, f' (shV pre.length x) (shS pre st) = (f x st).sh pre (Option.map (shKv pre.length))) : ∀ (xs : List Val) (acc : List (Val × Val)) (st : Store), dcLoop f' (shVs pre.length xs) (shKs pre.length acc) (shS pre st) = (dcLoop f xs acc st).sh pre (shKs pre.length)
  | [], _, _ => rfl
  | x :: r, acc, st => by
    simp only [shVs, dcLoop, h]
    refine bind_sh fun o st => ?_
    cases o with
    | none => exact dcLoop_sh h r acc st
    | some p =>
      obtain ⟨k, v⟩ := p
      simp only [Option.map_some, shKv, dput_sh]
      exact dcLoop_sh h r _ st
theorem forLoop_sh {tg : Tg} {body body' : Env → Store → SRes} (h : ∀ env st, body' (shE pre.length env) (shS pre st) = (body env st).sh pre) : ∀ (xs : List Val) (env : Env) (st : Store), forLoop tg body' (shVs pre.length xs) (shE pre.length env) (shS pre st) = (forLoop tg body xs env st).sh pre
  | [], _, _ => rfl
  | x :: r, env, st => by
    simp only [shVs, forLoop, setTg_sh]
    cases setTg tg x env with
    | none => rfl
    | some env => simp only [Option.map_some, h]; exact sbind_sh fun env st => forLoop_sh h r env st
theorem whlLoop_sh {c c' : Env → Store → Res Bool} {body body' : Env → Store → SRes} (hc : ∀ env st, c' (shE pre.length env) (shS pre st) = (c env st).sh pre id) (h : ∀ env st, body' (shE pre.length env) (shS pre st) = (body env st).sh pre) : ∀ (k : Nat) (env : Env) (st : Store), whlLoop c' body' k (shE pre.length env) (shS pre st) = (whlLoop c body k env st).sh pre
  | 0, _, _ => rfl
  | k + 1, env, st => by
    simp only [whlLoop, hc]
    refine inS_sh fun b st => ?_
    show (if b then _ else _) = _
    split
    · rw [h]; exact sbind_sh fun env st => whlLoop_sh hc h k env st
    · rfl
theorem peek_sh (i : Nat) (env : Env) (st : Store) : peek i (shE pre.length env) (shS pre st) = (peek i env st).sh pre (shV pre.length) := by
  unfold peek
  rw [env_get]
  cases env[i]? with
  | none => rfl
  | some s =>
    cases s with
    | none => rfl
    | some p =>
      obtain ⟨o, v⟩ := p
      cases o
      · rfl
      · cases v <;> rfl
theorem look_sh (fs : List (Nat × Val)) (m : Nat) : (shF n fs).lookup m = (fs.lookup m).map (shV n) := by
  induction fs with
  | nil => rfl
  | cons p r ih =>
    obtain ⟨a, b⟩ := p
    simp only [shF, List.map_cons, List.lookup_cons] at ih ⊢
    split
    · rfl
    · exact ih
end
end Lk
set_option linter.all false
set_option autoImplicit false
set_option maxRecDepth 100000
set_option maxHeartbeats 1000000
/-! LkL3: expressions, statements, calls in a larger store. -/
namespace Lk
/-- the tables hold no references -/
structure CfgOk (C : Cfg) : Prop where
  glb : ∀ g v n, C.glb g = some v → shV n v = v
  gdc : ∀ g d n, C.gdc g = some d → shKs n d = d
def CalOk (pre : Store) (cal : CallF) : Prop := ∀ f vs st, cal f (shVs pre.length vs) (shS pre st) = (cal f vs st).sh pre (shRv pre.length)
theorem eraseIdx_mp {α β : Type} (f : α → β) : ∀ (xs : List α) (j : Nat), (xs.map f).eraseIdx j = (xs.eraseIdx j).map f
  | [], _ => rfl
  | _ :: _, 0 => rfl
  | x :: r, j + 1 => by simp only [List.map_cons, List.eraseIdx_cons_succ, eraseIdx_mp f r j]
section
variable {C : Cfg} {cal mk : CallF} {pre : Store}
theorem opF_sh {e : Ex} {f f' : Env → Store → Res Rv} (h : ∀ env st, f' (shE pre.length env) (shS pre st) = (f env st).sh pre (shRv pre.length)) (env : Env) (st : Store) : opF e f' (shE pre.length env) (shS pre st) = (opF e f env st).sh pre (shV pre.length) := by
  have g : ((f' (shE pre.length env) (shS pre st)).bind fun v st => Res.ok v.2 st) = ((f env st).bind fun v st => Res.ok v.2 st).sh pre (shV pre.length) := by
    rw [h]; exact bind_sh fun v st => rfl
  cases e <;> first | exact peek_sh _ env st | exact g
theorem methOf_sh (o : Val) (m : Nat) (st : Store) : methOf C (shV pre.length o) m (shS pre st) = (methOf C o m st).map fun p => (p.1, p.2 + pre.length) := by
  unfold methOf
  rw [asIns_sh]
  cases asIns st o with
  | none => rfl
  | some p =>
    obtain ⟨a, c, fs⟩ := p
    simp only [Option.map_some, look_sh]
    cases C.meth c m with
    | none => rfl
    | some f => cases fs.lookup m <;> rfl
theorem methOp_sh (hc : CalOk pre cal) (o : Val) (m : Nat) (vs : List Val) (st : Store) : methOp C cal (shV pre.length o) m (shVs pre.length vs) (shS pre st) = (methOp C cal o m vs st).sh pre (shRv pre.length) := by
  unfold methOp
  rw [methOf_sh]
  cases methOf C o m st with
  | none => rfl
  | some p => exact hc p.1 (.ref p.2 :: vs) st
theorem makeOp_sh (hm : CalOk pre mk) (c : Nat) (vs : List Val) (st : Store) : makeOp C mk c (shVs pre.length vs) (shS pre st) = (makeOp C mk c vs st).sh pre (shRv pre.length) := by
  unfold makeOp
  cases C.init c with
  | none => rfl
  | some f =>
    have e : mk f (.ref (shS pre st).length :: shVs pre.length vs) (shS pre st ++ [.ins c []]) = (mk f (.ref st.length :: vs) (st ++ [.ins c []])).sh pre (shRv pre.length) := by
      rw [← hm, st_len, ← st_push]; rfl
    simp only [e]
    refine bind_sh fun r st' => ?_
    obtain ⟨o, v⟩ := r
    cases v <;> first | rfl | (simp only [shRv, shV, st_len]; rfl)
theorem popOp_sh (o i : Val) (st : Store) : popOp (shV pre.length o) (shV pre.length i) (shS pre st) = (popOp o i st).sh pre (shRv pre.length) := by
  cases o <;> first | rfl | skip
  cases i <;> first | rfl | skip
  rename_i m i
  simp only [shV, popOp, st_get]
  cases st[m]? with
  | none => rfl
  | some ob =>
    cases ob <;> first | rfl | skip
    rename_i xs
    simp only [Option.map_some, shO, shVs_length]
    cases ixOf xs.length i with
    | none => rfl
    | some j =>
      simp only [shVs_get]
      cases xs[j]? with
      | none => rfl
      | some v =>
        simp only [Option.map_some, Res.sh]
        rw [← st_set]
        simp only [shO, shVs_eq, eraseIdx_mp]
        rfl
variable (hC : CfgOk C) (hc : CalOk pre cal) (hm : CalOk pre mk)
include hC hc hm
mutual
theorem ev_sh : ∀ (e : Ex) (env : Env) (st : Store), ev C cal mk e (shE pre.length env) (shS pre st) = (ev C cal mk e env st).sh pre (shRv pre.length)
  | .var i, env, st => by
    simp only [ev, env_get]
    cases env[i]? with
    | none => rfl
    | some s =>
      cases s with
      | none => rfl
      | some p => obtain ⟨o, v⟩ := p; cases o <;> rfl
  | .glb g, env, st => by
    simp only [ev]
    cases e : C.glb g with
    | none => rfl
    | some v => simp only [Option.map_some, Res.of_some, Res.sh, shRv, hC.glb g v _ e]
  | .cst v, env, st => by simp only [ev]; cases v <;> rfl
  | .neg i, env, st => rfl
  | .tup es, env, st => by
    simp only [ev]; rw [evs_sh es]; exact bind_sh fun vs st => rfl
  | .lst es, env, st => by
    simp only [ev]; rw [evs_sh es]; exact bind_sh fun vs st => rfl
  | .star _, env, st => rfl
  | .hole, env, st => rfl
  | .dct es, env, st => by
    simp only [ev]; rw [evs_sh es]
    refine bind_sh fun vs st => ?_
    rw [pairUp_sh]
    cases pairUp vs with
    | none => rfl
    | some kvs =>
      have := dputs_sh (n := pre.length) [] kvs
      simp only [shKs] at this
      simp only [Option.map_some, this]
      rfl
  | .dctS d k v, env, st => by
    simp only [ev]
    rw [opF_sh (ev_sh d)]
    refine bind_sh fun dv st => ?_
    rw [ev_sh k]
    refine bind_sh fun kv st => ?_
    rw [ev_sh v]
    refine bind_sh fun vv st => ?_
    rw [asDict_sh]
    cases asDict st dv with
    | none => rfl
    | some kvs =>
      simp only [Option.map_some, Option.bind_some, shRv, keyOk_sh, shKs_length, dput_sh]
      split <;> rfl
  | .bin op a b, env, st => by
    simp only [ev]
    rw [opF_sh (ev_sh a)]
    refine bind_sh fun x st => ?_
    rw [opF_sh (ev_sh b)]
    refine bind_sh fun y st => ?_
    rw [binop_sh]; exact of_sh
  | .cmp op a b, env, st => by
    simp only [ev]
    rw [opF_sh (ev_sh a)]
    refine bind_sh fun x st => ?_
    rw [opF_sh (ev_sh b)]
    refine bind_sh fun y st => ?_
    rw [cmpop_sh]; cases cmpop op st x y <;> rfl
  | .cmp2 o1 o2 a b c, env, st => by
    simp only [ev]
    rw [opF_sh (ev_sh a)]
    refine bind_sh fun x st => ?_
    rw [opF_sh (ev_sh b)]
    refine bind_sh fun y st => ?_
    rw [cmpop_sh, of_id]
    refine bind_sh fun r st => ?_
    show (if r then _ else _) = _
    split
    · rw [opF_sh (ev_sh c)]
      refine bind_sh fun z st => ?_
      rw [cmpop_sh]; cases cmpop o2 st y z <;> rfl
    · rfl
  | .and es, env, st => by simp only [ev]; exact evAnd_sh es env st
  | .or es, env, st => by simp only [ev]; exact evOr_sh es env st
  | .not a, env, st => by
    simp only [ev]
    rw [ev_sh a]
    refine bind_sh fun v st => ?_
    rw [asBl_sh]; cases asBl v <;> rfl
  | .ife c a b, env, st => by
    simp only [ev]
    rw [ev_sh c]
    refine bind_sh fun v st => ?_
    rw [asBl_sh, of_id]
    refine bind_sh fun r st => ?_
    show (if r then _ else _) = _
    split
    · exact ev_sh a env st
    · exact ev_sh b env st
  | .call f es, env, st => by
    simp only [ev]; rw [evs_sh es]; exact bind_sh fun vs st => hc f vs st
  | .make c es, env, st => by
    simp only [ev]; rw [evs_sh es]; exact bind_sh fun vs st => makeOp_sh hm c vs st
  | .meth o m es, env, st => by
    simp only [ev]
    rw [opF_sh (ev_sh o)]
    refine bind_sh fun x st => ?_
    rw [methOf_sh, of_sh]
    refine bind_sh fun p st => ?_
    rw [evs_sh es]
    exact bind_sh fun vs st => hc p.1 (.ref p.2 :: vs) st
  | .attr o f, env, st => by
    simp only [ev]
    rw [opF_sh (ev_sh o)]
    refine bind_sh fun x st => ?_
    rw [asIns_sh]
    cases asIns st x with
    | none => rfl
    | some p =>
      simp only [Option.map_some, Option.bind_some, look_sh]
      split
      · cases p.2.2.lookup f <;> rfl
      · rfl
  | .prop o f, env, st => by
    simp only [ev]
    rw [opF_sh (ev_sh o)]
    refine bind_sh fun x st => ?_
    rw [asIns_sh]
    cases asIns st x with
    | none => rfl
    | some p =>
      obtain ⟨a, c, fs⟩ := p
      simp only [Option.map_some]
      cases C.prop c f with
      | none => rfl
      | some g => exact hc g [.ref a] st
  | .bi b es, env, st => by
    simp only [ev]; rw [opds_sh es]
    refine bind_sh fun vs st => ?_
    rw [biOp_sh]; exact of_sh
  | .isi e ts, env, st => by
    simp only [ev]
    rw [opF_sh (ev_sh e)]
    refine bind_sh fun x st => ?_
    rw [tagOf_sh]; cases tagOf st x <;> rfl
  | .isc e c, env, st => by
    simp only [ev]
    rw [opF_sh (ev_sh e)]
    refine bind_sh fun x st => ?_
    rw [asIns_sh]
    cases asIns st x <;> rfl
  | .sub o i, env, st => by
    simp only [ev]
    rw [opF_sh (ev_sh o)]
    refine bind_sh fun x st => ?_
    rw [ev_sh i]
    refine bind_sh fun y st => ?_
    simp only [shRv, subOp_sh]
    cases subOp st x y.2 <;> rfl
  | .gsub g i, env, st => by
    simp only [ev]
    cases e : C.gdc g with
    | none => rfl
    | some kvs =>
      simp only
      rw [ev_sh i]
      refine bind_sh fun y st => ?_
      have := hC.gdc g kvs pre.length e
      have h2 := dget_sh (n := pre.length) y.2 kvs
      rw [this] at h2
      simp only [shRv, keyOk_sh, h2]
      split
      · cases dget kvs y.2 <;> rfl
      · rfl
  | .gnin g i, env, st => by
    simp only [ev]
    cases e : C.gdc g with
    | none => rfl
    | some kvs =>
      simp only
      rw [ev_sh i]
      refine bind_sh fun y st => ?_
      have := hC.gdc g kvs pre.length e
      have h2 := dget_sh (n := pre.length) y.2 kvs
      rw [this] at h2
      have h3 : isStr (shV pre.length y.2) = isStr y.2 := by cases y.2 <;> rfl
      simp only [shRv, h3, h2]
      split
      · cases dget kvs y.2 <;> rfl
      · rfl
  | .slc o a b, env, st => by
    simp only [ev]
    rw [opF_sh (ev_sh o)]
    refine bind_sh fun x st => ?_
    rw [ev_sh a]
    refine bind_sh fun y st => ?_
    simp only [shRv, asInt_sh]
    rw [of_id]
    refine bind_sh fun i st => ?_
    rw [ev_sh b]
    refine bind_sh fun z st => ?_
    simp only [shRv, asInt_sh]
    rw [of_id]
    refine bind_sh fun j st => ?_
    simp only [id, slcI_sh]; exact of_sh
  | .slcL o a, env, st => by
    simp only [ev]
    rw [opF_sh (ev_sh o)]
    refine bind_sh fun x st => ?_
    rw [ev_sh a]
    refine bind_sh fun y st => ?_
    simp only [shRv, asInt_sh]
    rw [of_id]
    refine bind_sh fun i st => ?_
    simp only [id, slcI_sh]; exact of_sh
  | .slcR o a, env, st => by
    simp only [ev]
    rw [opF_sh (ev_sh o)]
    refine bind_sh fun x st => ?_
    rw [ev_sh a]
    refine bind_sh fun y st => ?_
    simp only [shRv, asInt_sh]
    rw [of_id]
    refine bind_sh fun i st => ?_
    simp only [id, slcI_sh]; exact of_sh
  | .rev o, env, st => by
    simp only [ev]
    rw [opF_sh (ev_sh o)]
    refine bind_sh fun x st => ?_
    rw [revOp_sh]; exact of_sh
  | .lc e tg k args cs, env, st => by
    simp only [ev]; rw [opds_sh args]
    refine bind_sh fun vs st => ?_
    rw [itOp_sh, of_sh]
    refine bind_sh fun xs st => ?_
    rw [lcLoop_sh (f := fun x st => (bodyL tg (fun env st => evAll C cal mk cs env st) (fun env st => ev C cal mk e env st) env x st).noX) (fun x st => by rw [bodyL_sh (evAll_sh cs) (ev_sh e), noX_sh])]
    exact bind_sh fun ys st => rfl
  | .lc2 e tg k args tg2 k2 args2 cs, env, st => by
    simp only [ev]; rw [opds_sh args]
    refine bind_sh fun vs st => ?_
    rw [itOp_sh, of_sh]
    refine bind_sh fun xs st => ?_
    rw [lcLoop_sh (f := fun x st => match setTg tg x env with
      | none => .bad
      | some env' => ((opds C cal mk args2 env' st).bind fun vs st => (Res.of (itOp k2 st vs) st).bind fun xs st =>
        lcLoop (fun x st => (bodyL tg2 (fun env st => evAll C cal mk cs env st) (fun env st => ev C cal mk e env st) env' x st).noX) xs st).noX) (fun x st => ?_)]
    · refine bind_sh fun ys st => ?_
      simp only [shVs_length]
      split <;> rfl
    · rw [setTg_sh]
      cases setTg tg x env with
      | none => rfl
      | some env' =>
        simp only [Option.map_some]
        rw [← noX_sh]
        congr 1
        rw [opds_sh args2]
        refine bind_sh fun vs st => ?_
        rw [itOp_sh, of_sh]
        refine bind_sh fun xs st => ?_
        exact lcLoop_sh (fun x st => by rw [bodyL_sh (evAll_sh cs) (ev_sh e), noX_sh]) xs st
  | .dc k v i it cs, env, st => by
    simp only [ev]
    rw [opF_sh (ev_sh it)]
    refine bind_sh fun w st => ?_
    rw [walkOf_sh, of_sh]
    refine bind_sh fun xs st => ?_
    have := dcLoop_sh (pre := pre) (f := fun x st => ((evAll C cal mk cs (env.set i (some (false, x))) st).bind fun b st =>
      if b then (ev C cal mk k (env.set i (some (false, x))) st).bind fun kv st => (ev C cal mk v (env.set i (some (false, x))) st).bind fun vv st =>
        if keyOk kv.2 then .ok (some (kv.2, vv.2)) st else .bad
      else .ok none st).noX) (f' := fun x st => ((evAll C cal mk cs ((shE pre.length env).set i (some (false, x))) st).bind fun b st =>
      if b then (ev C cal mk k ((shE pre.length env).set i (some (false, x))) st).bind fun kv st => (ev C cal mk v ((shE pre.length env).set i (some (false, x))) st).bind fun vv st =>
        if keyOk kv.2 then .ok (some (kv.2, vv.2)) st else .bad
      else .ok none st).noX) (fun x st => by
        have e : (shE pre.length env).set i (some (false, shV pre.length x)) = shE pre.length (env.set i (some (false, x))) := env_set env i (some (false, x))
        rw [← noX_sh]
        congr 1
        simp only [e]
        rw [evAll_sh cs]
        refine bind_sh fun b st => ?_
        show (if b then _ else _) = _
        split
        · rw [ev_sh k]
          refine bind_sh fun kv st => ?_
          rw [ev_sh v]
          refine bind_sh fun vv st => ?_
          simp only [shRv, keyOk_sh]
          split <;> rfl
        · rfl) xs [] st
    simp only [shKs] at this
    rw [this]
    exact bind_sh fun d st => rfl
  | .fstr es, env, st => by
    simp only [ev]; rw [evF_sh es]
    refine bind_sh fun s st => ?_
    simp only [id]
    split <;> rfl
  | .get d k v, env, st => by
    simp only [ev]
    rw [opF_sh (ev_sh d)]
    refine bind_sh fun dv st => ?_
    rw [ev_sh k]
    refine bind_sh fun kv st => ?_
    rw [ev_sh v]
    refine bind_sh fun vv st => ?_
    rw [asDict_sh]
    cases asDict st dv with
    | none => rfl
    | some kvs =>
      simp only [Option.map_some, Option.bind_some, shRv, keyOk_sh, dget_sh]
      split
      · cases dget kvs kv.2 <;> rfl
      · rfl
  | .pop o i, env, st => by
    simp only [ev]
    rw [opF_sh (ev_sh o)]
    refine bind_sh fun x st => ?_
    rw [asList_sh, Option.isSome_map]
    split
    · rw [ev_sh i]
      exact bind_sh fun y st => popOp_sh x y.2 st
    · rfl
  | .lenO e, env, st => by
    simp only [ev]
    rw [opF_sh (ev_sh e)]
    exact bind_sh fun x st => methOp_sh hc x 1 [] st
  | .inO a b, env, st => by
    simp only [ev]
    rw [ev_sh a]
    refine bind_sh fun y st => ?_
    rw [opF_sh (ev_sh b)]
    exact bind_sh fun x st => methOp_sh hc x 2 [y.2] st
  | .eqO ng a b, env, st => by
    simp only [ev]
    rw [opF_sh (ev_sh a)]
    refine bind_sh fun x st => ?_
    rw [ev_sh b]
    refine bind_sh fun y st => ?_
    have := methOp_sh (C := C) hc x 3 [y.2] st
    simp only [shVs] at this
    simp only [shRv, this]
    refine bind_sh fun r st => ?_
    have h := asBl_sh (n := pre.length) r
    rw [h]; cases asBl r <;> rfl
theorem evs_sh : ∀ (es : List Ex) (env : Env) (st : Store), evs C cal mk es (shE pre.length env) (shS pre st) = (evs C cal mk es env st).sh pre (shVs pre.length)
  | [], env, st => rfl
  | e :: r, env, st => by
    have ns : (ev C cal mk e (shE pre.length env) (shS pre st)).bind (fun v st => (evs C cal mk r (shE pre.length env) st).bind fun ys st => .ok (v.2 :: ys) st) = ((ev C cal mk e env st).bind fun v st => (evs C cal mk r env st).bind fun ys st => .ok (v.2 :: ys) st).sh pre (shVs pre.length) := by
      rw [ev_sh e]
      refine bind_sh fun v st => ?_
      rw [evs_sh r]
      exact bind_sh fun ys st => rfl
    match e, ns with
    | .star e, _ =>
      simp only [evs]
      rw [opF_sh (ev_sh e)]
      refine bind_sh fun x st => ?_
      rw [seqOf_sh, of_sh]
      refine bind_sh fun xs st => ?_
      rw [evs_sh r]
      refine bind_sh fun ys st => ?_
      simp only [shVs_length]
      split
      · simp only [Res.sh, shVs_append]
      · rfl
    | .var _, ns | .glb _, ns | .cst _, ns | .neg _, ns | .tup _, ns | .lst _, ns | .hole, ns | .dct _, ns | .dctS _ _ _, ns | .bin _ _ _, ns | .cmp _ _ _, ns | .cmp2 _ _ _ _ _, ns | .and _, ns | .or _, ns | .not _, ns | .ife _ _ _, ns | .call _ _, ns | .make _ _, ns | .meth _ _ _, ns | .attr _ _, ns | .prop _ _, ns | .bi _ _, ns | .isi _ _, ns | .isc _ _, ns | .sub _ _, ns | .gsub _ _, ns | .gnin _ _, ns | .slc _ _ _, ns | .slcL _ _, ns | .slcR _ _, ns | .rev _, ns | .lc _ _ _ _ _, ns | .lc2 _ _ _ _ _ _ _ _, ns | .dc _ _ _ _ _, ns | .fstr _, ns | .get _ _ _, ns | .pop _ _, ns | .lenO _, ns | .inO _ _, ns | .eqO _ _ _, ns => exact ns
theorem opds_sh : ∀ (es : List Ex) (env : Env) (st : Store), opds C cal mk es (shE pre.length env) (shS pre st) = (opds C cal mk es env st).sh pre (shVs pre.length)
  | [], env, st => rfl
  | e :: r, env, st => by
    simp only [opds]
    rw [opF_sh (ev_sh e)]
    refine bind_sh fun v st => ?_
    rw [opds_sh r]
    exact bind_sh fun ys st => rfl
theorem evF_sh : ∀ (es : List Ex) (env : Env) (st : Store), evF C cal mk es (shE pre.length env) (shS pre st) = (evF C cal mk es env st).sh pre id
  | [], env, st => rfl
  | e :: r, env, st => by
    simp only [evF]
    rw [ev_sh e]
    refine bind_sh fun v st => ?_
    simp only [shRv, asStr_sh]
    rw [of_id]
    refine bind_sh fun s st => ?_
    rw [evF_sh r]
    exact bind_sh fun ys st => rfl
theorem evAnd_sh : ∀ (es : List Ex) (env : Env) (st : Store), evAnd C cal mk es (shE pre.length env) (shS pre st) = (evAnd C cal mk es env st).sh pre (shRv pre.length)
  | [], env, st => rfl
  | [e], env, st => by
    simp only [evAnd]
    rw [ev_sh e]
    exact bind_sh fun v st => rfl
  | e :: e2 :: r, env, st => by
    simp only [evAnd]
    rw [ev_sh e]
    refine bind_sh fun v st => ?_
    rw [asBl_sh, of_id]
    refine bind_sh fun b st => ?_
    show (if b then _ else _) = _
    split
    · exact evAnd_sh (e2 :: r) env st
    · rfl
theorem evOr_sh : ∀ (es : List Ex) (env : Env) (st : Store), evOr C cal mk es (shE pre.length env) (shS pre st) = (evOr C cal mk es env st).sh pre (shRv pre.length)
  | [], env, st => rfl
  | [e], env, st => by
    simp only [evOr]
    rw [ev_sh e]
    exact bind_sh fun v st => rfl
  | e :: e2 :: r, env, st => by
    simp only [evOr]
    rw [ev_sh e]
    refine bind_sh fun v st => ?_
    rw [asBl_sh, of_id]
    refine bind_sh fun b st => ?_
    show (if b then _ else _) = _
    split
    · rfl
    · exact evOr_sh (e2 :: r) env st
theorem evAll_sh : ∀ (es : List Ex) (env : Env) (st : Store), evAll C cal mk es (shE pre.length env) (shS pre st) = (evAll C cal mk es env st).sh pre id
  | [], env, st => rfl
  | e :: r, env, st => by
    simp only [evAll]
    rw [ev_sh e]
    refine bind_sh fun v st => ?_
    rw [asBl_sh, of_id]
    refine bind_sh fun b st => ?_
    show (if b then _ else _) = _
    split
    · exact evAll_sh r env st
    · rfl
end
end
end Lk
set_option linter.all false
set_option autoImplicit false
set_option maxRecDepth 100000
set_option maxHeartbeats 1000000
/-! LkL4: statements and calls in a larger store. -/
namespace Lk
section
variable {C : Cfg} {cal mk : CallF} {pre : Store} {n : Nat}
theorem hxOp_sh (fs : List (Nat × Val)) (env : Env) (h : Hx) : hxOp (shF n fs) (shE n env) h = (hxOp fs env h).map (shV n) := by
  cases h with
  | cst v => cases v <;> rfl
  | inc i k =>
    simp only [hxOp, env_get]
    cases env[i]? with
    | none => rfl
    | some s =>
      cases s with
      | none => rfl
      | some p => obtain ⟨o, v⟩ := p; cases v <;> rfl
  | fld f => exact look_sh fs f
  | tagf s f => simp only [hxOp, look_sh]; cases fs.lookup f <;> rfl
  | ifn f a b =>
    simp only [hxOp, look_sh]
    cases fs.lookup f with
    | none => rfl
    | some v => cases v <;> rfl
theorem hsOp_sh (fs : List (Nat × Val)) (env : Env) (h : Hs) : hsOp (shF n fs) (shE n env) h = (hsOp fs env h).map (shE n) := by
  cases h with
  | asg i h =>
    simp only [hsOp, hxOp_sh]
    cases hxOp fs env h with
    | none => rfl
    | some v => simp only [Option.map_some]; exact congrArg some (env_set env i (some (false, v)))
  | app i h =>
    simp only [hsOp, hxOp_sh]
    cases hxOp fs env h with
    | none => rfl
    | some v =>
      simp only [Option.map_some, Option.bind_some, env_get]
      cases env[i]? with
      | none => rfl
      | some s =>
        cases s with
        | none => rfl
        | some p =>
          obtain ⟨o, w⟩ := p
          cases o <;> cases w <;> first | rfl | skip
          rename_i xs
          simp only [Option.map_some, shSl, shV, shVs_length]
          split
          · simp only [Option.map_some, shSl, shV, ← env_set, shVs_append]
            rfl
          · rfl
theorem handle_sh (c : Nat) (fs : List (Nat × Val)) (env : Env) (st : Store) : ∀ hs : List Hd, handle c (shF pre.length fs) (shE pre.length env) (shS pre st) hs = (handle c fs env st hs).sh pre
  | [] => rfl
  | h :: r => by
    simp only [handle]
    split
    · obtain ⟨cl, as, su⟩ := h
      cases as with
      | none =>
        simp only [hsOp_sh]
        cases hsOp fs env su <;> rfl
      | some i =>
        have e : ∀ env : Env, (shE pre.length env).set i none = shE pre.length (env.set i none) := fun env => env_set env i none
        simp only [e, hsOp_sh]
        cases hsOp fs (env.set i none) su with
        | none => rfl
        | some env' => simp only [Option.map_some, e]; rfl
    · exact handle_sh c fs env st r
theorem change_sh {f f' : Val → Option Val} {g g' : Ob → Option Ob} (hf : ∀ v, f' (shV pre.length v) = (f v).map (shV pre.length)) (hg : ∀ o, g' (shO pre.length o) = (g o).map (shO pre.length)) (i : Nat) (env : Env) (st : Store) :
    change i (shE pre.length env) (shS pre st) f' g' = (change i env st f g).sh pre := by
  unfold change
  rw [env_get]
  cases env[i]? with
  | none => rfl
  | some s =>
    cases s with
    | none => rfl
    | some p =>
      obtain ⟨o, v⟩ := p
      cases o with
      | true =>
        simp only [Option.map_some, shSl, hf]
        cases f v with
        | none => rfl
        | some w => simp only [Option.map_some, SRes.sh, ← env_set]; rfl
      | false =>
        cases v <;> first | rfl | skip
        rename_i m
        simp only [Option.map_some, shSl, shV, st_get]
        cases st[m]? with
        | none => rfl
        | some ob =>
          simp only [Option.map_some, hg]
          cases g ob with
          | none => rfl
          | some ob' => simp only [Option.map_some, SRes.sh, st_set]
theorem isL_sh (i : Nat) (env : Env) (st : Store) : isL i (shE pre.length env) (shS pre st) = isL i env st := by
  unfold isL
  rw [env_get]
  cases env[i]? with
  | none => rfl
  | some s =>
    cases s with
    | none => rfl
    | some p =>
      obtain ⟨o, v⟩ := p
      simp only [Option.map_some, shSl, asList_sh, Option.isSome_map]
theorem appV_sh (y v : Val) : appV (shV n y) (shV n v) = (appV y v).map (shV n) := by
  cases v <;> first | rfl | skip
  simp only [appV, shV, shVs_length]
  split
  · simp only [Option.map_some, shV, shVs_append]; rfl
  · rfl
theorem appO_sh (y : Val) (o : Ob) : appO (shV n y) (shO n o) = (appO y o).map (shO n) := by
  cases o <;> first | rfl | skip
  simp only [appO, shO, shVs_length]
  split
  · simp only [Option.map_some, shO, shVs_append]; rfl
  · rfl
theorem extV_sh (ys : List Val) (v : Val) : extV (shVs n ys) (shV n v) = (extV ys v).map (shV n) := by
  cases v <;> first | rfl | skip
  simp only [extV, shV, shVs_length]
  split
  · simp only [Option.map_some, shV, shVs_append]
  · rfl
theorem eraseV_sh (y : Val) : ∀ xs : List Val, eraseV (shV n y) (shVs n xs) = (eraseV y xs).map (shVs n)
  | [] => rfl
  | x :: r => by
    simp only [shVs, eraseV, pyEq_sh, eraseV_sh y r]
    split
    · rfl
    · cases eraseV y r <;> rfl
theorem remV_sh (y v : Val) : remV (shV n y) (shV n v) = (remV y v).map (shV n) := by
  cases v <;> first | rfl | skip
  simp only [remV, shV, all_sh, eraseV_sh]
  split
  · cases eraseV y _ <;> rfl
  · rfl
theorem remO_sh (y : Val) (o : Ob) : remO (shV n y) (shO n o) = (remO y o).map (shO n) := by
  cases o <;> first | rfl | skip
  simp only [remO, shO, all_sh, eraseV_sh]
  split
  · cases eraseV y _ <;> rfl
  · rfl
theorem shVs_set (xs : List Val) (j : Nat) (y : Val) : (shVs n xs).set j (shV n y) = shVs n (xs.set j y) := by simp [shVs_eq, List.map_set]
theorem putV_sh (k y v : Val) : putV (shV n k) (shV n y) (shV n v) = (putV k y v).map (shV n) := by
  cases v <;> first | rfl | skip
  · cases k <;> first | rfl | skip
    rename_i xs i
    simp only [putV, shV, shVs_length]
    cases ixOf xs.length i with
    | none => rfl
    | some j => simp only [Option.map_some, shV, shVs_set]
  · simp only [putV, shV, keyOk_sh, shKs_length, dput_sh]
    split <;> rfl
theorem putO_sh (k y : Val) (o : Ob) : putO (shV n k) (shV n y) (shO n o) = (putO k y o).map (shO n) := by
  cases o <;> first | rfl | skip
  · cases k <;> first | rfl | skip
    rename_i xs i
    simp only [putO, shO, shV, shVs_length]
    cases ixOf xs.length i with
    | none => rfl
    | some j => simp only [Option.map_some, shO, shVs_set]
  · simp only [putO, shO, keyOk_sh, shKs_length, dput_sh]
    split <;> rfl
theorem fput_sh (fs : List (Nat × Val)) (f : Nat) (v : Val) : fput (shF n fs) f (shV n v) = shF n (fput fs f v) := by
  induction fs with
  | nil => rfl
  | cons p r ih =>
    obtain ⟨g, w⟩ := p
    simp only [shF, List.map_cons, fput] at ih ⊢
    split
    · rfl
    · simp only [List.map_cons, ih]
theorem putF_sh (o : Val) (f : Nat) (v : Val) (st : Store) : putF C (shV pre.length o) f (shV pre.length v) (shS pre st) = (putF C o f v st).map (shS pre) := by
  cases o <;> first | rfl | skip
  rename_i m
  simp only [shV, putF, st_get]
  cases st[m]? with
  | none => rfl
  | some ob =>
    cases ob <;> first | rfl | skip
    rename_i c fs
    have e := fput_sh (n := pre.length) fs f v
    have l : (shF pre.length fs).length = fs.length := by simp [shF]
    simp only [Option.map_some, shO]
    show (if (C.fld c f && decide ((shF pre.length fs).length < 50)) = true then some ((shS pre st).set (m + pre.length) (.ins c (fput (shF pre.length fs) f (shV pre.length v)))) else none) = _
    rw [l, e]
    split
    · rw [Option.map_some, ← st_set]; rfl
    · rfl
theorem fldI_sh (o : Val) (f : Nat) (st : Store) : fldI C (shV pre.length o) f (shS pre st) = fldI C o f st := by
  unfold fldI
  rw [asIns_sh]
  cases asIns st o with
  | none => rfl
  | some p =>
    obtain ⟨a, c, fs⟩ := p
    simp only [Option.map_some, look_sh]
    split
    · cases fs.lookup f with
      | none => rfl
      | some v => cases v <;> rfl
    · rfl
theorem clsIs_sh (st : Store) (o : Val) (c : Nat) : clsIs (shS pre st) (shV pre.length o) c = clsIs st o c := by
  unfold clsIs
  rw [asIns_sh]
  cases asIns st o <;> rfl
theorem box_sh (r : Rv) (st : Store) : box (shRv pre.length r) (shS pre st) = (box r st).map fun p => (shV pre.length p.1, shS pre p.2) := by
  obtain ⟨o, v⟩ := r
  cases o <;> cases v <;> first | rfl | (simp only [shRv, shV, box, st_len, Option.map_some, ← st_push]; rfl)
theorem unlock_sh (i : Nat) (xs : List Val) (r : SRes) : unlock i (shVs pre.length xs) (r.sh pre) = (unlock i xs r).sh pre := by
  cases r with
  | nx env st =>
    simp only [SRes.sh, unlock, env_get]
    cases env[i]? with
    | none => rfl
    | some s =>
      cases s with
      | none => rfl
      | some p =>
        obtain ⟨o, v⟩ := p
        cases o <;> cases v <;> first | rfl | (simp only [Option.map_some, shSl, shV, SRes.sh, ← env_set])
  | exc c fs env st =>
    simp only [SRes.sh, unlock]
    rw [show (shE pre.length env).set i none = shE pre.length (env.set i none) from env_set env i none]
  | _ => rfl
theorem setOs_sh : ∀ (is : List Nat) (vs : List Rv) (env : Env), setOs is (vs.map (shRv n)) (shE n env) = (setOs is vs env).map (shE n)
  | [], [], _ => rfl
  | [], _ :: _, _ => rfl
  | _ :: _, [], _ => rfl
  | i :: is, v :: vs, env => by
    have e : (shE n env).set i (some (shRv n v)) = shE n (env.set i (some v)) := env_set env i (some v)
    simp only [List.map_cons, setOs, e, setOs_sh is vs]
theorem thaw_sh : ∀ (is : List Nat) (env : Env), thaw is (shE n env) = shE n (thaw is env)
  | [], _ => rfl
  | i :: is, env => by
    simp only [thaw, env_get]
    have e : ∀ v, (shE n env).set i (some (false, shV n v)) = shE n (env.set i (some (false, v))) := fun v => env_set env i (some (false, v))
    cases env[i]? with
    | none => exact thaw_sh is env
    | some s =>
      cases s with
      | none => exact thaw_sh is env
      | some p =>
        obtain ⟨o, v⟩ := p
        cases o
        · exact thaw_sh is env
        · cases v <;> first | exact thaw_sh is env | (simp only [Option.map_some, shSl, shV]; rw [← thaw_sh is, ← e]; rfl)
variable (hC : CfgOk C) (hc : CalOk pre cal) (hm : CalOk pre mk)
include hC hc hm
theorem opd_sh (e : Ex) (env : Env) (st : Store) : opd C cal mk e (shE pre.length env) (shS pre st) = (opd C cal mk e env st).sh pre (shV pre.length) := opF_sh (ev_sh hC hc hm e) env st
theorem evB_sh (e : Ex) (env : Env) (st : Store) : evB C cal mk e (shE pre.length env) (shS pre st) = (evB C cal mk e env st).sh pre id := by
  unfold evB
  rw [ev_sh hC hc hm e]
  refine bind_sh fun v st => ?_
  rw [asBl_sh]; exact of_id
theorem evOs_sh : ∀ (es : List Ex) (env : Env) (st : Store), evOs C cal mk es (shE pre.length env) (shS pre st) = (evOs C cal mk es env st).sh pre (List.map (shRv pre.length))
  | [], _, _ => rfl
  | e :: r, env, st => by
    simp only [evOs]
    rw [ev_sh hC hc hm e]
    refine bind_sh fun v st => ?_
    rw [evOs_sh r]
    exact bind_sh fun ys st => rfl
mutual
theorem evS_sh : ∀ (s : Sm) (env : Env) (st : Store), evS C cal mk s (shE pre.length env) (shS pre st) = (evS C cal mk s env st).sh pre
  | .asg i e, env, st => by
    simp only [evS]; rw [ev_sh hC hc hm e]
    exact inS_sh fun v st => by simp only [SRes.sh, ← env_set]; rfl
  | .asgB i e, env, st => by
    simp only [evS]; rw [ev_sh hC hc hm e]
    refine inS_sh fun v st => ?_
    rw [box_sh]
    cases box v st with
    | none => rfl
    | some p => simp only [Option.map_some, SRes.sh, ← env_set]; rfl
  | .asgP is es, env, st => by
    simp only [evS]; rw [evOs_sh hC hc hm es]
    refine inS_sh fun vs st => ?_
    rw [setOs_sh]
    cases setOs is vs env <;> rfl
  | .unp is e, env, st => by
    simp only [evS]; rw [opd_sh hC hc hm e]
    refine inS_sh fun v st => ?_
    rw [setTg_sh]
    cases setTg (.tp is) v env <;> rfl
  | .app o e, env, st => by
    have h : ∀ o : Ex, ((opd C cal mk o (shE pre.length env) (shS pre st)).inS (shE pre.length env) fun w st => if (asList st w).isSome then (ev C cal mk e (shE pre.length env) st).inS (shE pre.length env) fun v st => (match w with
      | .ref n => match st[n]? with
        | some ob => match appO v.2 ob with
          | some ob' => .nx (shE pre.length env) (st.set n ob')
          | none => .bad
        | none => .bad
      | _ => .bad : SRes)
      else .bad) = ((opd C cal mk o env st).inS env fun w st => if (asList st w).isSome then (ev C cal mk e env st).inS env fun v st => (match w with
      | .ref n => match st[n]? with
        | some ob => match appO v.2 ob with
          | some ob' => .nx env (st.set n ob')
          | none => .bad
        | none => .bad
      | _ => .bad : SRes)
      else .bad).sh pre := fun o => by
      rw [opd_sh hC hc hm o]
      refine inS_sh fun w st => ?_
      rw [asList_sh, Option.isSome_map]
      split
      · rw [ev_sh hC hc hm e]
        refine inS_sh fun v st => ?_
        cases w <;> first | rfl | skip
        rename_i m _
        simp only [shV, st_get]
        cases st[m]? with
        | none => rfl
        | some ob =>
          simp only [Option.map_some, shRv, appO_sh]
          cases appO v.2 ob with
          | none => rfl
          | some ob' => simp only [Option.map_some, SRes.sh, st_set]
      · rfl
    have h := h o
    cases o <;> first | exact h | skip
    rename_i i
    simp only [evS, isL_sh]
    split
    · rw [ev_sh hC hc hm e]
      exact inS_sh fun v st => change_sh (fun w => appV_sh v.2 w) (fun w => appO_sh v.2 w) i env st
    · rfl
  | .ext i e, env, st => by
    simp only [evS]; rw [opd_sh hC hc hm e]
    refine inS_sh fun v st => ?_
    rw [asList_sh]
    cases asList st v with
    | none => rfl
    | some ys => exact change_sh (fun w => extV_sh ys w) (fun _ => rfl) i env st
  | .rem i e, env, st => by
    simp only [evS]; rw [ev_sh hC hc hm e]
    exact inS_sh fun v st => change_sh (fun w => remV_sh v.2 w) (fun w => remO_sh v.2 w) i env st
  | .updt i e, env, st => by
    simp only [evS]; rw [opd_sh hC hc hm e]
    refine inS_sh fun v st => ?_
    rw [asDict_sh]
    cases asDict st v with
    | none => rfl
    | some kvs =>
      refine change_sh (fun _ => rfl) (fun o => ?_) i env st
      cases o <;> first | rfl | skip
      simp only [shO, shKs_length, dputs_sh]
      split <;> rfl
  | .put o k e, env, st => by
    cases o <;> first | rfl | skip
    rename_i i
    simp only [evS]
    rw [ev_sh hC hc hm e]
    refine inS_sh fun v st => ?_
    rw [peek_sh]
    refine inS_sh fun _ st => ?_
    rw [ev_sh hC hc hm k]
    exact inS_sh fun kk st => change_sh (fun w => putV_sh kk.2 v.2 w) (fun w => putO_sh kk.2 v.2 w) i env st
  | .fld o f e, env, st => by
    simp only [evS]; rw [ev_sh hC hc hm e]
    refine inS_sh fun v st => ?_
    rw [opd_sh hC hc hm o]
    refine inS_sh fun x st => ?_
    simp only [shRv, putF_sh]
    cases putF C x f v.2 st <;> rfl
  | .fldB o f e, env, st => by
    simp only [evS]; rw [ev_sh hC hc hm e]
    refine inS_sh fun v st => ?_
    rw [box_sh]
    cases box v st with
    | none => rfl
    | some p =>
      obtain ⟨w, st⟩ := p
      simp only [Option.map_some]
      rw [opd_sh hC hc hm o]
      refine inS_sh fun x st => ?_
      simp only [putF_sh]
      cases putF C x f w st <;> rfl
  | .fldA o f ng e, env, st => by
    simp only [evS]; rw [opd_sh hC hc hm o]
    refine inS_sh fun x st => ?_
    rw [fldI_sh]
    cases fldI C x f st with
    | none => rfl
    | some p =>
      obtain ⟨c, i⟩ := p
      simp only
      rw [ev_sh hC hc hm e]
      refine inS_sh fun v st => ?_
      simp only [shRv, asInt_sh]
      cases asInt v.2 with
      | none => rfl
      | some j =>
        simp only [clsIs_sh]
        have := putF_sh (C := C) (pre := pre) x f (.int (if ng then i - j else i + j)) st
        simp only [shV] at this
        rw [this]
        split
        · cases putF C x f _ st <;> rfl
        · rfl
  | .ex e, env, st => by
    simp only [evS]; rw [ev_sh hC hc hm e]
    exact inS_sh fun v st => rfl
  | .ret e, env, st => by
    simp only [evS]; rw [ev_sh hC hc hm e]
    exact inS_sh fun v st => rfl
  | .retV i, env, st => by
    simp only [evS, env_get]
    cases env[i]? with
    | none => rfl
    | some s =>
      cases s with
      | none => rfl
      | some p => obtain ⟨o, v⟩ := p; cases o <;> cases v <;> rfl
  | .ife c a b, env, st => by
    simp only [evS]; rw [evB_sh hC hc hm c]
    refine inS_sh fun t st => ?_
    show (if t then _ else _) = _
    split
    · exact evSs_sh a env st
    · exact evSs_sh b env st
  | .for_ tg k args body, env, st => by
    simp only [evS]; rw [evs_sh hC hc hm args]
    rw [bind_sh (f := fun vs st => Res.of (itOp k st vs) st) (g' := shVs pre.length) (fun vs st => by rw [itOp_sh]; exact of_sh)]
    exact inS_sh fun xs st => forLoop_sh (evSs_sh body) xs env st
  | .forO tg i body, env, st => by
    simp only [evS, env_get]
    cases env[i]? with
    | none => rfl
    | some s =>
      cases s with
      | none => rfl
      | some p =>
        obtain ⟨o, v⟩ := p
        cases o <;> cases v <;> first | rfl | skip
        rename_i xs
        simp only [Option.map_some, shSl, shV]
        rw [show (shE pre.length env).set i (some (true, .non)) = shE pre.length (env.set i (some (true, .non))) from env_set env i (some (true, .non))]
        rw [forLoop_sh (evSs_sh body), unlock_sh]
  | .whl c body, env, st => by
    simp only [evS]
    exact whlLoop_sh (evB_sh hC hc hm c) (evSs_sh body) whlFuel env st
  | .rse c es, env, st => by
    simp only [evS]
    cases C.xf c with
    | none => rfl
    | some fo =>
      cases fo with
      | none => cases es <;> rfl
      | some f =>
        match es with
        | [] => rfl
        | [e] =>
          simp only
          rw [ev_sh hC hc hm e]
          exact inS_sh fun v st => rfl
        | _ :: _ :: _ => rfl
  | .try_ body hs, env, st => by
    simp only [evS]; rw [evSs_sh body]
    cases evSs C cal mk body env st with
    | exc c fs env st =>
      simp only [SRes.sh]
      split
      · exact handle_sh c fs env st hs
      · rfl
    | _ => rfl
  | .hole, _, _ => rfl
  | .fz is, env, st => by simp only [evS, SRes.sh, thaw_sh]
  | .popA i j, env, st => by
    simp only [evS, env_get]
    cases env[j]? with
    | none => rfl
    | some s =>
      cases s with
      | none => rfl
      | some p =>
        obtain ⟨o, v⟩ := p
        cases o <;> cases v <;> first | rfl | skip
        rename_i xs
        simp only [Option.map_some, shSl, shV]
        rw [shVs_eq, ← List.map_reverse]
        cases xs.reverse with
        | nil => rfl
        | cons v r =>
          simp only [List.map_cons, SRes.sh, ← env_set, shSl, shV, shVs_eq, List.map_reverse]
  | .dpopA i j k, env, st => by
    simp only [evS]; rw [ev_sh hC hc hm k]
    refine inS_sh fun kk st => ?_
    rw [env_get]
    cases env[j]? with
    | none => rfl
    | some s =>
      cases s with
      | none => rfl
      | some p =>
        obtain ⟨o, v⟩ := p
        cases o <;> cases v <;> first | rfl | skip
        rename_i kvs
        simp only [Option.map_some, shSl, shV, shRv, dget_sh, keyOk_sh, ddel_sh]
        cases dget kvs kk.2 with
        | none => rfl
        | some v =>
          simp only [Option.map_some]
          split
          · simp only [SRes.sh, ← env_set]; rfl
          · rfl
theorem evSs_sh : ∀ (ss : List Sm) (env : Env) (st : Store), evSs C cal mk ss (shE pre.length env) (shS pre st) = (evSs C cal mk ss env st).sh pre
  | [], _, _ => rfl
  | s :: r, env, st => by
    simp only [evSs]; rw [evS_sh s]
    exact sbind_sh fun env st => evSs_sh r env st
end
theorem startE_sh (d : Fd) (vs : List Val) : startE d (shVs n vs) = shE n (startE d vs) := by
  unfold startE shE
  rw [shVs_eq, List.map_append, List.map_map, List.map_map, List.map_replicate]
  rfl
theorem runFn_sh (f : Nat) (vs : List Val) (st : Store) : runFn C cal mk f (shVs pre.length vs) (shS pre st) = (runFn C cal mk f vs st).sh pre (shRv pre.length) := by
  unfold runFn
  cases C.fn f with
  | none => rfl
  | some d =>
    simp only [shVs_length]
    split
    · rw [startE_sh hC hc hm, evSs_sh hC hc hm]
      cases evSs C cal mk d.body (startE d vs) st <;> rfl
    · rfl
end
theorem calls_sh {C : Cfg} {pre : Store} (hC : CfgOk C) : ∀ k, CalOk pre (calls C k).1 ∧ CalOk pre (calls C k).2
  | 0 => ⟨fun _ _ _ => rfl, fun _ _ _ => rfl⟩
  | k + 1 => ⟨fun f vs st => runFn_sh hC (calls_sh hC k).1 (calls_sh hC k).2 f vs st, (calls_sh hC k).1⟩
/-- a call in a larger store -/
theorem call_frame {C : Cfg} (hC : CfgOk C) {k f : Nat} {vs : List Val} {v : Rv} {st : Store} (h : evCall C k f vs [] = .ok v []) (hv : shVs st.length vs = vs) (hr : shV st.length v.2 = v.2) : evCall C k f vs st = .ok v st := by
  have := (calls_sh (pre := st) hC k).1 f vs []
  rw [hv] at this
  have e : shS st [] = st := by simp [shS]
  rw [e] at this
  show (calls C k).1 f vs st = _
  rw [this, show (calls C k).1 f vs [] = _ from h]
  simp only [Res.sh, e, shRv, hr]
end Lk
set_option linter.all false
set_option maxRecDepth 100000
namespace Lk
/-! printed by gen.py: the defs, each text once -/
abbrev f_is_name : Nat := 0
abbrev f_is_form : Nat := 1
abbrev f_leaf_count : Nat := 2
abbrev f_is_shape : Nat := 3
abbrev f_check_shape : Nat := 4
abbrev f_leaves_of : Nat := 5
abbrev f_names_of : Nat := 6
abbrev f_order_of : Nat := 7
abbrev f_leaves : Nat := 8
abbrev f_names : Nat := 9
abbrev f_order : Nat := 10
abbrev f__law_random : Nat := 11
abbrev f__law_below : Nat := 12
abbrev f__law_pick : Nat := 13
abbrev f__law_equal : Nat := 14
abbrev f__law_shape : Nat := 15
abbrev f__law_leaves : Nat := 16
abbrev f__law_order : Nat := 17
abbrev f__law_bad : Nat := 18
abbrev f__law_told : Nat := 19
abbrev f_law : Nat := 20
def d_is_name : Fd :=
  { np := 1, ns := 2, body := [.ret (.and [(.isi (.var 0) [.tstr]), (.cmp2 .le .le (.cst (.int 1)) (.bi .len [(.var 0)]) (.cst (.int 8))), (.bi .all [(.lc (.cmp .isin (.var 1) (.glb 0)) (.nm 1) .ex [(.var 0)] [])])])] }
def d_is_form : Fd :=
  { np := 1, ns := 1, body := [.ife (.or [(.not (.isi (.var 0) [.ttup])), (.not (.cmp2 .le .le (.cst (.int 1)) (.bi .len [(.var 0)]) (.cst (.int 3)))), (.not (.isi (.sub (.var 0) (.cst (.int 0))) [.tstr]))])
      [.ret (.cst (.bl false))]
      [],
      .ife (.cmp .eq (.bi .len [(.var 0)]) (.cst (.int 1)))
      [.ret (.cmp .eq (.var 0) (.glb 2))]
      [],
      .ife (.cmp .eq (.bi .len [(.var 0)]) (.cst (.int 2)))
      [.ret (.and [(.cmp .eq (.sub (.var 0) (.cst (.int 0))) (.cst (.str [110, 97, 109, 101]))), (.call f_is_name [(.sub (.var 0) (.cst (.int 1)))])])]
      [],
      .ret (.and [(.cmp .isin (.sub (.var 0) (.cst (.int 0))) (.tup [(.cst (.str [112, 97, 105, 114])), (.cst (.str [116, 111]))])), (.call f_is_form [(.sub (.var 0) (.cst (.int 1)))]), (.call f_is_form [(.sub (.var 0) (.cst (.int 2)))])])] }
def d_leaf_count : Fd :=
  { np := 1, ns := 1, body := [.ret (.ife (.cmp .lt (.bi .len [(.var 0)]) (.cst (.int 3))) (.cst (.int 1)) (.bin .add (.call f_leaf_count [(.sub (.var 0) (.cst (.int 1)))]) (.call f_leaf_count [(.sub (.var 0) (.cst (.int 2)))])))] }
def d_is_shape : Fd :=
  { np := 1, ns := 1, body := [.ret (.and [(.call f_is_form [(.var 0)]), (.cmp .le (.call f_leaf_count [(.var 0)]) (.glb 1))])] }
def d_check_shape : Fd :=
  { np := 1, ns := 1, body := [.ife (.not (.call f_is_shape [(.var 0)]))
      [.rse 0 []]
      []] }
def d_leaves_of : Fd :=
  { np := 1, ns := 1, body := [.ret (.ife (.cmp .lt (.bi .len [(.var 0)]) (.cst (.int 3))) (.lst [(.var 0)]) (.bin .add (.call f_leaves_of [(.sub (.var 0) (.cst (.int 1)))]) (.call f_leaves_of [(.sub (.var 0) (.cst (.int 2)))])))] }
def d_names_of : Fd :=
  { np := 1, ns := 2, body := [.ret (.bi .srtset [(.lc (.sub (.var 1) (.cst (.int 1))) (.nm 1) .ex [(.call f_leaves_of [(.var 0)])] [(.cmp .ne (.var 1) (.glb 2))])])] }
def d_order_of : Fd :=
  { np := 1, ns := 3, body := [.ife (.cmp .lt (.bi .len [(.var 0)]) (.cst (.int 3)))
      [.ret (.cst (.int 0))]
      [],
      .asgP [1, 2] [(.call f_order_of [(.sub (.var 0) (.cst (.int 1)))]), (.call f_order_of [(.sub (.var 0) (.cst (.int 2)))])],
      .ret (.ife (.cmp .eq (.sub (.var 0) (.cst (.int 0))) (.cst (.str [116, 111]))) (.bi .max [(.bin .add (.var 1) (.cst (.int 1))), (.var 2)]) (.bi .max [(.var 1), (.var 2)]))] }
def d_leaves : Fd :=
  { np := 1, ns := 1, body := [.ex (.call f_check_shape [(.var 0)]),
      .ret (.call f_leaf_count [(.var 0)])] }
def d_names : Fd :=
  { np := 1, ns := 1, body := [.ex (.call f_check_shape [(.var 0)]),
      .ret (.call f_names_of [(.var 0)])] }
def d_order : Fd :=
  { np := 1, ns := 1, body := [.ex (.call f_check_shape [(.var 0)]),
      .ret (.call f_order_of [(.var 0)])] }
def d__law_random : Fd :=
  { np := 2, ns := 4, body := [.asg 2 (.var 1),
      .for_ (.nm 3) .ex [(.var 0)]
      [.asg 2 (.bin .mod (.bi .int [(.bin .add (.bin .mul (.var 2) (.cst (.int 31))) (.bi .abs [(.var 3)]))]) (.cst (.int 2147483647)))],
      .ret (.bin .add (.lst [(.var 2), (.cst (.int 0))]) (.lc (.var 3) (.nm 3) .ex [(.var 0)] [(.cmp .ge (.var 3) (.bin .pow (.cst (.int 10)) (.cst (.int 18))))]))] }
def d__law_below : Fd :=
  { np := 2, ns := 3, body := [.ife (.and [(.cmp .eq (.sub (.var 0) (.cst (.int 1))) (.cst (.int 0))), (.cmp .gt (.bi .len [(.var 0)]) (.cst (.int 2)))])
      [.put (.var 0) (.cst (.int 1)) (.pop (.var 0) (.cst (.int 2)))]
      [],
      .ife (.cmp .gt (.sub (.var 0) (.cst (.int 1))) (.cst (.int 0)))
      [.asg 2 (.bin .mod (.bi .int [(.sub (.var 0) (.cst (.int 1)))]) (.var 1)),
      .put (.var 0) (.cst (.int 1)) (.bin .fdv (.sub (.var 0) (.cst (.int 1))) (.var 1)),
      .retV 2]
      [],
      .put (.var 0) (.cst (.int 0)) (.bin .mod (.bi .int [(.bin .add (.bin .mul (.sub (.var 0) (.cst (.int 0))) (.cst (.int 48271))) (.cst (.int 11)))]) (.cst (.int 2147483647))),
      .ret (.bin .mod (.bi .int [(.bin .fdv (.sub (.var 0) (.cst (.int 0))) (.cst (.int 64)))]) (.var 1))] }
def d__law_pick : Fd :=
  { np := 2, ns := 2, body := [.ret (.sub (.var 1) (.call f__law_below [(.var 0), (.bi .len [(.var 1)])]))] }
def d__law_equal : Fd :=
  { np := 2, ns := 4, body := [.ife (.cmp .is_ (.var 1) (.cst .non))
      [.ret (.cmp .is_ (.var 0) (.cst .non))]
      [],
      .ife (.isi (.var 1) [.tbool])
      [.ret (.and [(.isi (.var 0) [.tbool]), (.cmp .eq (.var 0) (.var 1))])]
      [],
      .ife (.isi (.var 1) [.tint])
      [.ret (.and [(.isi (.var 0) [.tint]), (.not (.isi (.var 0) [.tbool])), (.cmp .eq (.var 0) (.var 1))])]
      [],
      .ife (.isi (.var 1) [.tstr])
      [.ret (.and [(.isi (.var 0) [.tstr]), (.cmp .eq (.var 0) (.var 1))])]
      [],
      .ife (.isi (.var 1) [.tdct])
      [.ife (.or [(.not (.isi (.var 0) [.tdct])), (.cmp .ne (.bi .list [(.var 0)]) .hole)])
      [.ret (.cst (.bl false))]
      [],
      .ret (.bi .all [(.lc (.call f__law_equal [(.sub (.var 0) (.var 3)), (.sub (.var 1) (.var 3))]) (.nm 3) .ex [(.bi .list [(.var 0)])] [])])]
      [],
      .ife (.cmp .ne (.isi (.var 1) [.ttup]) (.isi (.var 0) [.ttup]))
      [.ret (.cst (.bl false))]
      [],
      .ife (.cmp .ne (.isi (.var 1) [.tlst]) (.isi (.var 0) [.tlst]))
      [.ret (.cst (.bl false))]
      [],
      .ife (.cmp .ne (.bi .len [(.var 0)]) (.bi .len [(.var 1)]))
      [.ret (.cst (.bl false))]
      [],
      .ret (.bi .all [(.lc (.call f__law_equal [(.sub (.var 0) (.var 2)), (.sub (.var 1) (.var 2))]) (.nm 2) .rng1 [(.bi .len [(.var 1)])] [])])] }
def d__law_shape : Fd :=
  { np := 3, ns := 6, body := [.ife (.cmp .eq (.var 1) (.cst (.int 1)))
      [.asg 5 (.call f__law_below [(.var 0), (.bin .add (.bi .len [(.var 2)]) (.cst (.int 1)))]),
      .ret (.ife (.cmp .eq (.var 5) (.bi .len [(.var 2)])) (.tup [(.cst (.str [111, 110, 101]))]) (.tup [(.cst (.str [110, 97, 109, 101])), (.sub (.var 2) (.var 5))]))]
      [],
      .asg 3 (.bin .add (.cst (.int 1)) (.call f__law_below [(.var 0), (.bin .sub (.var 1) (.cst (.int 1)))])),
      .asg 4 (.call f__law_pick [(.var 0), (.lst [(.cst (.str [112, 97, 105, 114])), (.cst (.str [116, 111]))])]),
      .fz [3],
      .ret (.tup [(.var 4), (.call f__law_shape [(.var 0), (.var 3), (.var 2)]), (.call f__law_shape [(.var 0), (.bin .sub (.var 1) (.var 3)), (.var 2)])])] }
def d__law_leaves : Fd :=
  { np := 1, ns := 1, body := [.ret (.ife (.cmp .lt (.bi .len [(.var 0)]) (.cst (.int 3))) (.lst [(.var 0)]) (.bin .add (.call f__law_leaves [(.sub (.var 0) (.cst (.int 1)))]) (.call f__law_leaves [(.sub (.var 0) (.cst (.int 2)))])))] }
def d__law_order : Fd :=
  { np := 1, ns := 3, body := [.ife (.cmp .lt (.bi .len [(.var 0)]) (.cst (.int 3)))
      [.ret (.cst (.int 0))]
      [],
      .asgP [1, 2] [(.call f__law_order [(.sub (.var 0) (.cst (.int 1)))]), (.call f__law_order [(.sub (.var 0) (.cst (.int 2)))])],
      .ret (.ife (.cmp .eq (.sub (.var 0) (.cst (.int 0))) (.cst (.str [116, 111]))) (.bi .max [(.lst [(.bin .add (.var 1) (.cst (.int 1))), (.var 2)])]) (.bi .max [(.lst [(.var 1), (.var 2)])]))] }
def d__law_bad : Fd :=
  { np := 2, ns := 3, body := [.asg 2 (.lst [(.cst .non), (.tup []), (.cst (.str [111, 110, 101])), (.lst [(.cst (.str [111, 110, 101]))]), (.tup [(.cst (.str [110, 97, 109, 101]))]), (.tup [(.cst (.str [110, 97, 109, 101])), (.cst (.str []))]), (.tup [(.cst (.str [110, 97, 109, 101])), (.cst (.str [65]))]), (.tup [(.cst (.str [110, 97, 109, 101])), (.cst (.str [97, 98, 99, 100, 101, 102, 103, 104, 105]))]), (.tup [(.cst (.str [110, 97, 109, 101])), (.cst (.int 3))])]),
      .asg 2 (.bin .add (.var 2) (.lst [(.tup [(.cst (.str [111, 110, 101])), (.cst (.int 1))]), (.tup [(.cst (.str [112, 97, 105, 114])), (.var 1)]), (.tup [(.cst (.str [116, 111])), (.var 1), (.var 1), (.var 1)]), (.tup [(.cst (.str [98, 111, 116, 104])), (.var 1), (.var 1)]), (.tup [(.var 1), (.var 1)]), (.cst (.int 7))])),
      .ret (.call f__law_pick [(.var 0), (.bin .add (.var 2) (.lst [(.tup [(.cst (.str [110, 97, 109, 101])), (.tup [(.cst (.str [97]))])]), (.tup [(.cst (.str [79, 110, 101]))]), (.tup [(.cst (.int 1))]), (.tup [(.cst (.str [112, 97, 105, 114])), (.var 1), (.cst .non)]), (.lst [(.cst (.str [116, 111])), (.var 1), (.var 1)]), (.dct [])]))])] }
def d__law_told : Fd :=
  { np := 1, ns := 2, body := [.asg 1 (.cst (.int 0)),
      .try_ [.ex (.call f_leaves [(.var 0)])]
      [⟨0, none, .asg 1 (.inc 1 1)⟩],
      .try_ [.ex (.call f_names [(.var 0)])]
      [⟨0, none, .asg 1 (.inc 1 1)⟩],
      .try_ [.ex (.call f_order [(.var 0)])]
      [⟨0, none, .asg 1 (.inc 1 1)⟩],
      .retV 1] }
def d_law : Fd :=
  { np := 1, ns := 9, body := [.asgB 1 (.call f__law_random [(.var 0), (.cst (.int 1601))]),
      .for_ (.nm 2) .rng1 [(.cst (.int 4))]
      [.asg 4 (.call f__law_shape [(.var 1), (.bin .add (.cst (.int 1)) (.call f__law_below [(.var 1), (.cst (.int 12))])), (.call f__law_pick [(.var 1), (.lst [(.lst [(.cst (.str [97])), (.cst (.str [98])), (.cst (.str [99]))]), (.lst [(.cst (.str [120]))]), (.lst [(.cst (.str [115, 105, 122, 101])), (.cst (.str [97, 98, 99, 100, 101, 102, 103, 104]))])])])]),
      .asg 5 (.call f__law_leaves [(.var 4)]),
      .ife (.or [(.cmp .isnot (.call f_is_shape [(.var 4)]) (.cst (.bl true))), (.not (.call f__law_equal [(.call f_leaves [(.var 4)]), (.bi .len [(.var 5)])]))])
      [.ret (.cst (.bl false))]
      [],
      .ife (.not (.call f__law_equal [(.call f_names [(.var 4)]), (.bi .srtset [(.lc (.sub (.var 8) (.cst (.int 1))) (.nm 8) .ex [(.var 5)] [(.cmp .eq (.bi .len [(.var 8)]) (.cst (.int 2)))])])]))
      [.ret (.cst (.bl false))]
      [],
      .ife (.not (.call f__law_equal [(.call f_order [(.var 4)]), (.call f__law_order [(.var 4)])]))
      [.ret (.cst (.bl false))]
      [],
      .asg 6 (.call f__law_bad [(.var 1), (.var 4)]),
      .asg 7 (.call f__law_pick [(.var 1), (.lst [(.var 6), (.tup [(.cst (.str [112, 97, 105, 114])), (.var 4), (.var 6)]), (.tup [(.cst (.str [116, 111])), (.var 6), (.var 4)]), (.tup [(.cst (.str [112, 97, 105, 114])), (.var 4), (.tup [(.cst (.str [116, 111])), (.var 6), (.var 4)])])])]),
      .ife (.or [(.cmp .isnot (.call f_is_shape [(.var 7)]) (.cst (.bl false))), (.cmp .ne (.call f__law_told [(.var 7)]) (.cst (.int 3)))])
      [.ret (.cst (.bl false))]
      []],
      .asg 3 (.tup [(.cst (.str [111, 110, 101]))]),
      .for_ (.nm 2) .rng1 [(.cst (.int 199))]
      [.asg 3 (.ife (.cmp .eq (.bin .mod (.var 2) (.cst (.int 2))) (.cst (.int 0))) (.tup [(.cst (.str [112, 97, 105, 114])), (.var 3), (.tup [(.cst (.str [110, 97, 109, 101])), (.cst (.str [97]))])]) (.tup [(.cst (.str [116, 111])), (.tup [(.cst (.str [111, 110, 101]))]), (.var 3)]))],
      .ret (.and [(.call f_is_shape [(.var 3)]), (.cmp .eq (.call f_leaves [(.var 3)]) (.cst (.int 200))), (.cmp .is_ (.call f_is_shape [(.tup [(.cst (.str [112, 97, 105, 114])), (.var 3), (.tup [(.cst (.str [111, 110, 101]))])])]) (.cst (.bl false)))])] }
end Lk
set_option linter.all false
set_option autoImplicit false
set_option maxRecDepth 100000
set_option maxHeartbeats 1000000
/-! LkM0: printed by mkM0.py: the evaluator's equations, in a form in which simp never sees a loop's body. -/
namespace Lk
def pick1 (o : Option Slot) (st : Store) : Res Rv := match o with
  | some (some (false, v)) => .ok (false, v) st
  | _ => .bad
def peekS (o : Option Slot) (st : Store) : Res Val := match o with
  | some (some (false, v)) => .ok v st
  | some (some (true, .lst xs)) => .ok (.lst xs) st
  | some (some (true, .dct xs)) => .ok (.dct xs) st
  | _ => .bad
def retS (o : Option Slot) (st : Store) : SRes := match o with
  | some (some (false, v)) => .rt (false, v) st
  | some (some (true, .lst v)) => .rt (true, .lst v) st
  | some (some (true, .dct v)) => .rt (true, .dct v) st
  | _ => .bad
@[simp] theorem pick1_ok (v : Val) (st : Store) : pick1 (some (some (false, v))) st = .ok (false, v) st := rfl
@[simp] theorem peekS_f (v : Val) (st : Store) : peekS (some (some (false, v))) st = .ok v st := rfl
@[simp] theorem peekS_l (v : List Val) (st : Store) : peekS (some (some (true, .lst v))) st = .ok (.lst v) st := rfl
@[simp] theorem peekS_d (v : List (Val × Val)) (st : Store) : peekS (some (some (true, .dct v))) st = .ok (.dct v) st := rfl
@[simp] theorem retS_f (v : Val) (st : Store) : retS (some (some (false, v))) st = .rt (false, v) st := rfl
@[simp] theorem retS_l (v : List Val) (st : Store) : retS (some (some (true, .lst v))) st = .rt (true, .lst v) st := rfl
@[simp] theorem retS_d (v : List (Val × Val)) (st : Store) : retS (some (some (true, .dct v))) st = .rt (true, .dct v) st := rfl
def dctSOp (st : Store) (d : Val) (k v : Rv) : Option Rv := (asDict st d).bind fun kvs => if keyOk k.2 && kvs.length < maxLen then some (true, .dct (dput kvs k.2 v.2)) else none
def attrOp (C : Cfg) (f : Nat) (o : Option (Nat × Nat × List (Nat × Val))) : Option Rv := o.bind fun p => if C.fld p.2.1 f then (p.2.2.lookup f).map fun v => (false, v) else none
def propOp (C : Cfg) (cal : CallF) (f : Nat) (o : Option (Nat × Nat × List (Nat × Val))) (st : Store) : Res Rv := match o with
  | some (n, c, _) => match C.prop c f with
    | some g => cal g [.ref n] st
    | none => .bad
  | none => .bad
def gsubOp (o : Option (List (Val × Val))) (i : Val) : Option Rv := o.bind fun kvs => if keyOk i then (dget kvs i).map fun v => (false, v) else none
def gninOp (o : Option (List (Val × Val))) (i : Val) : Option Rv := o.bind fun kvs => if isStr i then some (false, .bl (!(dget kvs i).isSome)) else none
def getOp (o : Option (List (Val × Val))) (k v : Val) : Option Rv := o.bind fun kvs => if keyOk k then some (false, (dget kvs k).getD v) else none
def lcE (C : Cfg) (cal mk : CallF) (tg : Tg) (cs : List Ex) (e : Ex) (env : Env) (xs : List Val) (st : Store) : Res (List Val) := lcLoop (fun x st => (bodyL tg (fun env st => evAll C cal mk cs env st) (fun env st => ev C cal mk e env st) env x st).noX) xs st
def lc2E (C : Cfg) (cal mk : CallF) (tg tg2 : Tg) (k2 : Ik) (args2 cs : List Ex) (e : Ex) (env : Env) (xs : List Val) (st : Store) : Res (List Val) := lcLoop (fun x st => match setTg tg x env with
      | none => .bad
      | some env' => ((opds C cal mk args2 env' st).bind fun vs st => (Res.of (itOp k2 st vs) st).bind fun xs st => lcE C cal mk tg2 cs e env' xs st).noX) xs st
def dcE (C : Cfg) (cal mk : CallF) (i : Nat) (cs : List Ex) (k v : Ex) (env : Env) (xs : List Val) (st : Store) : Res (List (Val × Val)) := dcLoop (fun x st => ((evAll C cal mk cs (env.set i (some (false, x))) st).bind fun b st =>
      if b then (ev C cal mk k (env.set i (some (false, x))) st).bind fun kv st => (ev C cal mk v (env.set i (some (false, x))) st).bind fun vv st =>
        if keyOk kv.2 then .ok (some (kv.2, vv.2)) st else .bad
      else .ok none st).noX) xs [] st
def forE (C : Cfg) (cal mk : CallF) (tg : Tg) (body : List Sm) (xs : List Val) (env : Env) (st : Store) : SRes := forLoop tg (fun env st => evSs C cal mk body env st) xs env st
def whlE (C : Cfg) (cal mk : CallF) (c : Ex) (body : List Sm) (n : Nat) (env : Env) (st : Store) : SRes := whlLoop (fun env st => evB C cal mk c env st) (fun env st => evSs C cal mk body env st) n env st
def nxO (o : Option Env) (st : Store) : SRes := match o with
  | some env => .nx env st
  | none => .bad
def nxS (env : Env) (o : Option Store) : SRes := match o with
  | some st => .nx env st
  | none => .bad
def boxS (env : Env) (i : Nat) (o : Option (Val × Store)) : SRes := match o with
  | some (w, st) => .nx (env.set i (some (false, w))) st
  | none => .bad
@[simp] theorem nxO_some (env : Env) (st : Store) : nxO (some env) st = .nx env st := rfl
@[simp] theorem nxS_some (env : Env) (st : Store) : nxS env (some st) = .nx env st := rfl
@[simp] theorem boxS_some (env : Env) (i : Nat) (w : Val) (st : Store) : boxS env i (some (w, st)) = .nx (env.set i (some (false, w))) st := rfl
def appR (env : Env) (st : Store) (w v : Val) : SRes := match w with
      | .ref n => match st[n]? with
        | some ob => match appO v ob with
          | some ob' => .nx env (st.set n ob')
          | none => .bad
        | none => .bad
      | _ => .bad
def extS (i : Nat) (env : Env) (st : Store) (o : Option (List Val)) : SRes := match o with
    | some ys => change i env st (extV ys) (fun _ => none)
    | none => .bad
def forOS (C : Cfg) (cal mk : CallF) (tg : Tg) (i : Nat) (body : List Sm) (env : Env) (st : Store) (o : Option Slot) : SRes := match o with
    | some (some (true, .lst xs)) => unlock i xs (forE C cal mk tg body xs (env.set i (some (true, .non))) st)
    | _ => .bad
def rse0 (C : Cfg) (c : Nat) (env : Env) (st : Store) : SRes := match C.xf c with
    | some none => .exc c [] env st
    | _ => .bad
def tryS (C : Cfg) (hs : List Hd) (r : SRes) : SRes := match r with
    | .exc c fs env st => if (C.xf c).isSome then handle c fs env st hs else .bad
    | r => r
@[simp] theorem tryS_nx (C : Cfg) (hs : List Hd) (env : Env) (st : Store) : tryS C hs (.nx env st) = .nx env st := rfl
@[simp] theorem tryS_rt (C : Cfg) (hs : List Hd) (r : Rv) (st : Store) : tryS C hs (.rt r st) = .rt r st := rfl
@[simp] theorem tryS_exc (C : Cfg) (hs : List Hd) (c : Nat) (fs : List (Nat × Val)) (env : Env) (st : Store) : tryS C hs (.exc c fs env st) = if (C.xf c).isSome then handle c fs env st hs else .bad := rfl
def k_wl (C : Cfg) (cal mk : CallF) (c : Ex) (body : List Sm) (n : Nat) (x : SRes) : SRes := x.bind fun env st => whlE C cal mk c body n env st
def fldAF (C : Cfg) (env : Env) (o : Val) (f : Nat) (ng : Bool) (c : Nat) (i : Int) (st : Store) (j : Option Int) : SRes := match j with
      | some j => if clsIs st o c then nxS env (putF C o f (.int (if ng then i - j else i + j)) st) else .bad
      | none => .bad
def k_tup_1 (C : Cfg) (cal mk : CallF) (es : List Ex) (env : Env)  (rr : Res (List Val)) : Res Rv := rr.bind fun vs st => .ok (false, .tup vs) st
def k_lst_1 (C : Cfg) (cal mk : CallF) (es : List Ex) (env : Env)  (rr : Res (List Val)) : Res Rv := rr.bind fun vs st => .ok (true, .lst vs) st
def k_dct_1 (C : Cfg) (cal mk : CallF) (es : List Ex) (env : Env)  (rr : Res (List Val)) : Res Rv := rr.bind fun vs st => Res.of ((pairUp vs).map fun kvs => (true, .dct (dputs [] kvs))) st
def k_dctS_3 (C : Cfg) (cal mk : CallF) (d k v : Ex) (env : Env) (dv : Val) (kv : Rv) (rr : Res (Rv)) : Res Rv := rr.bind fun vv st => Res.of (dctSOp st dv kv vv) st
def k_dctS_2 (C : Cfg) (cal mk : CallF) (d k v : Ex) (env : Env) (dv : Val) (rr : Res (Rv)) : Res Rv := rr.bind fun kv st => k_dctS_3 C cal mk d k v env dv kv (ev C cal mk v env st)
def k_dctS_1 (C : Cfg) (cal mk : CallF) (d k v : Ex) (env : Env)  (rr : Res (Val)) : Res Rv := rr.bind fun dv st => k_dctS_2 C cal mk d k v env dv (ev C cal mk k env st)
def k_bin_2 (C : Cfg) (cal mk : CallF) (op : Bop) (a b : Ex) (env : Env) (x : Val) (rr : Res (Val)) : Res Rv := rr.bind fun y st => Res.of (binop op st x y) st
def k_bin_1 (C : Cfg) (cal mk : CallF) (op : Bop) (a b : Ex) (env : Env)  (rr : Res (Val)) : Res Rv := rr.bind fun x st => k_bin_2 C cal mk op a b env x (opd C cal mk b env st)
def k_cmp_2 (C : Cfg) (cal mk : CallF) (op : Cop) (a b : Ex) (env : Env) (x : Val) (rr : Res (Val)) : Res Rv := rr.bind fun y st => Res.of ((cmpop op st x y).map fun b => (false, .bl b)) st
def k_cmp_1 (C : Cfg) (cal mk : CallF) (op : Cop) (a b : Ex) (env : Env)  (rr : Res (Val)) : Res Rv := rr.bind fun x st => k_cmp_2 C cal mk op a b env x (opd C cal mk b env st)
def k_cmp2b_1 (C : Cfg) (cal mk : CallF) (o2 : Cop) (y : Val) (c : Ex) (env : Env)  (rr : Res (Val)) : Res Rv := rr.bind fun z st => Res.of ((cmpop o2 st y z).map fun b => (false, .bl b)) st
def k_cmp2_3 (C : Cfg) (cal mk : CallF) (o1 o2 : Cop) (a b c : Ex) (env : Env) (x : Val) (y : Val) (rr : Res (Bool)) : Res Rv := rr.bind fun r st => if r then k_cmp2b_1 C cal mk o2 y c env (opd C cal mk c env st) else .ok (false, .bl false) st
def k_cmp2_2 (C : Cfg) (cal mk : CallF) (o1 o2 : Cop) (a b c : Ex) (env : Env) (x : Val) (rr : Res (Val)) : Res Rv := rr.bind fun y st => k_cmp2_3 C cal mk o1 o2 a b c env x y (Res.of (cmpop o1 st x y) st)
def k_cmp2_1 (C : Cfg) (cal mk : CallF) (o1 o2 : Cop) (a b c : Ex) (env : Env)  (rr : Res (Val)) : Res Rv := rr.bind fun x st => k_cmp2_2 C cal mk o1 o2 a b c env x (opd C cal mk b env st)
def k_not_1 (C : Cfg) (cal mk : CallF) (a : Ex) (env : Env)  (rr : Res (Rv)) : Res Rv := rr.bind fun v st => Res.of ((asBl v).map fun b => (false, .bl (!b))) st
def k_ife_2 (C : Cfg) (cal mk : CallF) (c a b : Ex) (env : Env) (v : Rv) (rr : Res (Bool)) : Res Rv := rr.bind fun t st => if t then ev C cal mk a env st else ev C cal mk b env st
def k_ife_1 (C : Cfg) (cal mk : CallF) (c a b : Ex) (env : Env)  (rr : Res (Rv)) : Res Rv := rr.bind fun v st => k_ife_2 C cal mk c a b env v (Res.of (asBl v) st)
def k_call_1 (C : Cfg) (cal mk : CallF) (f : Nat) (es : List Ex) (env : Env)  (rr : Res (List Val)) : Res Rv := rr.bind fun vs st => cal f vs st
def k_make_1 (C : Cfg) (cal mk : CallF) (c : Nat) (es : List Ex) (env : Env)  (rr : Res (List Val)) : Res Rv := rr.bind fun vs st => makeOp C mk c vs st
def k_meth_3 (C : Cfg) (cal mk : CallF) (o : Ex) (m : Nat) (es : List Ex) (env : Env) (ov : Val) (p : Nat × Nat) (rr : Res (List Val)) : Res Rv := rr.bind fun vs st => cal p.1 (.ref p.2 :: vs) st
def k_meth_2 (C : Cfg) (cal mk : CallF) (o : Ex) (m : Nat) (es : List Ex) (env : Env) (ov : Val) (rr : Res (Nat × Nat)) : Res Rv := rr.bind fun p st => k_meth_3 C cal mk o m es env ov p (evs C cal mk es env st)
def k_meth_1 (C : Cfg) (cal mk : CallF) (o : Ex) (m : Nat) (es : List Ex) (env : Env)  (rr : Res (Val)) : Res Rv := rr.bind fun ov st => k_meth_2 C cal mk o m es env ov (Res.of (methOf C ov m st) st)
def k_attr_1 (C : Cfg) (cal mk : CallF) (o : Ex) (f : Nat) (env : Env)  (rr : Res (Val)) : Res Rv := rr.bind fun ov st => Res.of (attrOp C f (asIns st ov)) st
def k_prop_1 (C : Cfg) (cal mk : CallF) (o : Ex) (f : Nat) (env : Env)  (rr : Res (Val)) : Res Rv := rr.bind fun ov st => propOp C cal f (asIns st ov) st
def k_bi_1 (C : Cfg) (cal mk : CallF) (b : Bi) (es : List Ex) (env : Env)  (rr : Res (List Val)) : Res Rv := rr.bind fun vs st => Res.of (biOp b st vs) st
def k_isi_1 (C : Cfg) (cal mk : CallF) (e : Ex) (ts : List Ty) (env : Env)  (rr : Res (Val)) : Res Rv := rr.bind fun v st => Res.of ((tagOf st v).map fun t => (false, .bl (ts.any (isTag t)))) st
def k_isc_1 (C : Cfg) (cal mk : CallF) (e : Ex) (c : Nat) (env : Env)  (rr : Res (Val)) : Res Rv := rr.bind fun v st => .ok (false, .bl (clsIs st v c)) st
def k_sub_2 (C : Cfg) (cal mk : CallF) (o i : Ex) (env : Env) (ov : Val) (rr : Res (Rv)) : Res Rv := rr.bind fun iv st => Res.of ((subOp st ov iv.2).map fun v => (false, v)) st
def k_sub_1 (C : Cfg) (cal mk : CallF) (o i : Ex) (env : Env)  (rr : Res (Val)) : Res Rv := rr.bind fun ov st => k_sub_2 C cal mk o i env ov (ev C cal mk i env st)
def k_gsub_1 (C : Cfg) (cal mk : CallF) (kvs : List (Val × Val)) (i : Ex) (env : Env)  (rr : Res (Rv)) : Res Rv := rr.bind fun iv st => Res.of (if keyOk iv.2 then (dget kvs iv.2).map fun v => (false, v) else none) st
def k_gnin_1 (C : Cfg) (cal mk : CallF) (kvs : List (Val × Val)) (i : Ex) (env : Env)  (rr : Res (Rv)) : Res Rv := rr.bind fun iv st => Res.of (if isStr iv.2 then some (false, .bl (!(dget kvs iv.2).isSome)) else none) st
def gsubS (C : Cfg) (cal mk : CallF) (i : Ex) (env : Env) (st : Store) (o : Option (List (Val × Val))) : Res Rv := match o with
  | none => .bad
  | some kvs => k_gsub_1 C cal mk kvs i env (ev C cal mk i env st)
def gninS (C : Cfg) (cal mk : CallF) (i : Ex) (env : Env) (st : Store) (o : Option (List (Val × Val))) : Res Rv := match o with
  | none => .bad
  | some kvs => k_gnin_1 C cal mk kvs i env (ev C cal mk i env st)
def k_slc_5 (C : Cfg) (cal mk : CallF) (o a b : Ex) (env : Env) (ov : Val) (av : Rv) (i : Int) (bv : Rv) (rr : Res (Int)) : Res Rv := rr.bind fun j st => Res.of (slcI st ov (some i) (some j)) st
def k_slc_4 (C : Cfg) (cal mk : CallF) (o a b : Ex) (env : Env) (ov : Val) (av : Rv) (i : Int) (rr : Res (Rv)) : Res Rv := rr.bind fun bv st => k_slc_5 C cal mk o a b env ov av i bv (Res.of (asInt bv.2) st)
def k_slc_3 (C : Cfg) (cal mk : CallF) (o a b : Ex) (env : Env) (ov : Val) (av : Rv) (rr : Res (Int)) : Res Rv := rr.bind fun i st => k_slc_4 C cal mk o a b env ov av i (ev C cal mk b env st)
def k_slc_2 (C : Cfg) (cal mk : CallF) (o a b : Ex) (env : Env) (ov : Val) (rr : Res (Rv)) : Res Rv := rr.bind fun av st => k_slc_3 C cal mk o a b env ov av (Res.of (asInt av.2) st)
def k_slc_1 (C : Cfg) (cal mk : CallF) (o a b : Ex) (env : Env)  (rr : Res (Val)) : Res Rv := rr.bind fun ov st => k_slc_2 C cal mk o a b env ov (ev C cal mk a env st)
def k_slcL_3 (C : Cfg) (cal mk : CallF) (o a : Ex) (env : Env) (ov : Val) (av : Rv) (rr : Res (Int)) : Res Rv := rr.bind fun i st => Res.of (slcI st ov (some i) none) st
def k_slcL_2 (C : Cfg) (cal mk : CallF) (o a : Ex) (env : Env) (ov : Val) (rr : Res (Rv)) : Res Rv := rr.bind fun av st => k_slcL_3 C cal mk o a env ov av (Res.of (asInt av.2) st)
def k_slcL_1 (C : Cfg) (cal mk : CallF) (o a : Ex) (env : Env)  (rr : Res (Val)) : Res Rv := rr.bind fun ov st => k_slcL_2 C cal mk o a env ov (ev C cal mk a env st)
def k_slcR_3 (C : Cfg) (cal mk : CallF) (o b : Ex) (env : Env) (ov : Val) (bv : Rv) (rr : Res (Int)) : Res Rv := rr.bind fun j st => Res.of (slcI st ov none (some j)) st
def k_slcR_2 (C : Cfg) (cal mk : CallF) (o b : Ex) (env : Env) (ov : Val) (rr : Res (Rv)) : Res Rv := rr.bind fun bv st => k_slcR_3 C cal mk o b env ov bv (Res.of (asInt bv.2) st)
def k_slcR_1 (C : Cfg) (cal mk : CallF) (o b : Ex) (env : Env)  (rr : Res (Val)) : Res Rv := rr.bind fun ov st => k_slcR_2 C cal mk o b env ov (ev C cal mk b env st)
def k_rev_1 (C : Cfg) (cal mk : CallF) (o : Ex) (env : Env)  (rr : Res (Val)) : Res Rv := rr.bind fun ov st => Res.of (revOp st ov) st
def k_lc_3 (C : Cfg) (cal mk : CallF) (e : Ex) (tg : Tg) (k : Ik) (args cs : List Ex) (env : Env) (vs : List Val) (xs : List Val) (rr : Res (List Val)) : Res Rv := rr.bind fun ys st => .ok (true, .lst ys) st
def k_lc_2 (C : Cfg) (cal mk : CallF) (e : Ex) (tg : Tg) (k : Ik) (args cs : List Ex) (env : Env) (vs : List Val) (rr : Res (List Val)) : Res Rv := rr.bind fun xs st => k_lc_3 C cal mk e tg k args cs env vs xs (lcE C cal mk tg cs e env xs st)
def k_lc_1 (C : Cfg) (cal mk : CallF) (e : Ex) (tg : Tg) (k : Ik) (args cs : List Ex) (env : Env)  (rr : Res (List Val)) : Res Rv := rr.bind fun vs st => k_lc_2 C cal mk e tg k args cs env vs (Res.of (itOp k st vs) st)
def k_lc2_3 (C : Cfg) (cal mk : CallF) (e : Ex) (tg : Tg) (k : Ik) (args : List Ex) (tg2 : Tg) (k2 : Ik) (args2 cs : List Ex) (env : Env) (vs : List Val) (xs : List Val) (rr : Res (List Val)) : Res Rv := rr.bind fun ys st => if ys.length ≤ maxLen then .ok (true, .lst ys) st else .bad
def k_lc2_2 (C : Cfg) (cal mk : CallF) (e : Ex) (tg : Tg) (k : Ik) (args : List Ex) (tg2 : Tg) (k2 : Ik) (args2 cs : List Ex) (env : Env) (vs : List Val) (rr : Res (List Val)) : Res Rv := rr.bind fun xs st => k_lc2_3 C cal mk e tg k args tg2 k2 args2 cs env vs xs (lc2E C cal mk tg tg2 k2 args2 cs e env xs st)
def k_lc2_1 (C : Cfg) (cal mk : CallF) (e : Ex) (tg : Tg) (k : Ik) (args : List Ex) (tg2 : Tg) (k2 : Ik) (args2 cs : List Ex) (env : Env)  (rr : Res (List Val)) : Res Rv := rr.bind fun vs st => k_lc2_2 C cal mk e tg k args tg2 k2 args2 cs env vs (Res.of (itOp k st vs) st)
def k_dc_3 (C : Cfg) (cal mk : CallF) (k v : Ex) (i : Nat) (it : Ex) (cs : List Ex) (env : Env) (w : Val) (xs : List Val) (rr : Res (List (Val × Val))) : Res Rv := rr.bind fun d st => .ok (true, .dct d) st
def k_dc_2 (C : Cfg) (cal mk : CallF) (k v : Ex) (i : Nat) (it : Ex) (cs : List Ex) (env : Env) (w : Val) (rr : Res (List Val)) : Res Rv := rr.bind fun xs st => k_dc_3 C cal mk k v i it cs env w xs (dcE C cal mk i cs k v env xs st)
def k_dc_1 (C : Cfg) (cal mk : CallF) (k v : Ex) (i : Nat) (it : Ex) (cs : List Ex) (env : Env)  (rr : Res (Val)) : Res Rv := rr.bind fun w st => k_dc_2 C cal mk k v i it cs env w (Res.of (walkOf w) st)
def k_fstr_1 (C : Cfg) (cal mk : CallF) (es : List Ex) (env : Env)  (rr : Res (Sn)) : Res Rv := rr.bind fun s st => if s.length ≤ maxLen then .ok (false, .str s) st else .bad
def k_get_3 (C : Cfg) (cal mk : CallF) (d k v : Ex) (env : Env) (dv : Val) (kv : Rv) (rr : Res (Rv)) : Res Rv := rr.bind fun vv st => Res.of (getOp (asDict st dv) kv.2 vv.2) st
def k_get_2 (C : Cfg) (cal mk : CallF) (d k v : Ex) (env : Env) (dv : Val) (rr : Res (Rv)) : Res Rv := rr.bind fun kv st => k_get_3 C cal mk d k v env dv kv (ev C cal mk v env st)
def k_get_1 (C : Cfg) (cal mk : CallF) (d k v : Ex) (env : Env)  (rr : Res (Val)) : Res Rv := rr.bind fun dv st => k_get_2 C cal mk d k v env dv (ev C cal mk k env st)
def k_popb_1 (C : Cfg) (cal mk : CallF) (ov : Val) (i : Ex) (env : Env)  (rr : Res (Rv)) : Res Rv := rr.bind fun iv st => popOp ov iv.2 st
def k_pop_1 (C : Cfg) (cal mk : CallF) (o i : Ex) (env : Env)  (rr : Res (Val)) : Res Rv := rr.bind fun ov st => if (asList st ov).isSome then k_popb_1 C cal mk ov i env (ev C cal mk i env st) else .bad
def k_lenO_1 (C : Cfg) (cal mk : CallF) (e : Ex) (env : Env)  (rr : Res (Val)) : Res Rv := rr.bind fun ov st => methOp C cal ov 1 [] st
def k_inO_2 (C : Cfg) (cal mk : CallF) (a b : Ex) (env : Env) (av : Rv) (rr : Res (Val)) : Res Rv := rr.bind fun ov st => methOp C cal ov 2 [av.2] st
def k_inO_1 (C : Cfg) (cal mk : CallF) (a b : Ex) (env : Env)  (rr : Res (Rv)) : Res Rv := rr.bind fun av st => k_inO_2 C cal mk a b env av (opd C cal mk b env st)
def k_eqO_3 (C : Cfg) (cal mk : CallF) (ng : Bool) (a b : Ex) (env : Env) (ov : Val) (bv : Rv) (rr : Res (Rv)) : Res Rv := rr.bind fun r st => Res.of ((asBl r).map fun c => (false, .bl (c != ng))) st
def k_eqO_2 (C : Cfg) (cal mk : CallF) (ng : Bool) (a b : Ex) (env : Env) (ov : Val) (rr : Res (Rv)) : Res Rv := rr.bind fun bv st => k_eqO_3 C cal mk ng a b env ov bv (methOp C cal ov 3 [bv.2] st)
def k_eqO_1 (C : Cfg) (cal mk : CallF) (ng : Bool) (a b : Ex) (env : Env)  (rr : Res (Val)) : Res Rv := rr.bind fun ov st => k_eqO_2 C cal mk ng a b env ov (ev C cal mk b env st)
def k_od (r : Res Rv) : Res Val := r.bind fun v st => .ok v.2 st
def k_evs_2 (C : Cfg) (cal mk : CallF) (r : List Ex) (env : Env) (v : Rv) (rr : Res (List Val)) : Res (List Val) := rr.bind fun ys st => .ok (v.2 :: ys) st
def k_evs_1 (C : Cfg) (cal mk : CallF) (r : List Ex) (env : Env)  (rr : Res (Rv)) : Res (List Val) := rr.bind fun v st => k_evs_2 C cal mk r env v (evs C cal mk r env st)
def k_evsS_3 (C : Cfg) (cal mk : CallF) (e : Ex) (r : List Ex) (env : Env) (v : Val) (xs : List Val) (rr : Res (List Val)) : Res (List Val) := rr.bind fun ys st => if xs.length + ys.length + 1000 ≤ maxLen then .ok (xs ++ ys) st else .bad
def k_evsS_2 (C : Cfg) (cal mk : CallF) (e : Ex) (r : List Ex) (env : Env) (v : Val) (rr : Res (List Val)) : Res (List Val) := rr.bind fun xs st => k_evsS_3 C cal mk e r env v xs (evs C cal mk r env st)
def k_evsS_1 (C : Cfg) (cal mk : CallF) (e : Ex) (r : List Ex) (env : Env)  (rr : Res (Val)) : Res (List Val) := rr.bind fun v st => k_evsS_2 C cal mk e r env v (Res.of (seqOf st v) st)
def k_opds_2 (C : Cfg) (cal mk : CallF) (e : Ex) (r : List Ex) (env : Env) (v : Val) (rr : Res (List Val)) : Res (List Val) := rr.bind fun ys st => .ok (v :: ys) st
def k_opds_1 (C : Cfg) (cal mk : CallF) (e : Ex) (r : List Ex) (env : Env)  (rr : Res (Val)) : Res (List Val) := rr.bind fun v st => k_opds_2 C cal mk e r env v (opds C cal mk r env st)
def k_evF_3 (C : Cfg) (cal mk : CallF) (e : Ex) (r : List Ex) (env : Env) (v : Rv) (s : Sn) (rr : Res (Sn)) : Res Sn := rr.bind fun t st => .ok (s ++ t) st
def k_evF_2 (C : Cfg) (cal mk : CallF) (e : Ex) (r : List Ex) (env : Env) (v : Rv) (rr : Res (Sn)) : Res Sn := rr.bind fun s st => k_evF_3 C cal mk e r env v s (evF C cal mk r env st)
def k_evF_1 (C : Cfg) (cal mk : CallF) (e : Ex) (r : List Ex) (env : Env)  (rr : Res (Rv)) : Res Sn := rr.bind fun v st => k_evF_2 C cal mk e r env v (Res.of (asStr v.2) st)
def k_evAnd1_1 (C : Cfg) (cal mk : CallF) (e : Ex) (env : Env)  (rr : Res (Rv)) : Res Rv := rr.bind fun v st => .ok (false, v.2) st
def k_evAnd2_2 (C : Cfg) (cal mk : CallF) (e e2 : Ex) (r : List Ex) (env : Env) (v : Rv) (rr : Res (Bool)) : Res Rv := rr.bind fun b st => if b then evAnd C cal mk (e2 :: r) env st else .ok (false, .bl false) st
def k_evAnd2_1 (C : Cfg) (cal mk : CallF) (e e2 : Ex) (r : List Ex) (env : Env)  (rr : Res (Rv)) : Res Rv := rr.bind fun v st => k_evAnd2_2 C cal mk e e2 r env v (Res.of (asBl v) st)
def k_evOr1_1 (C : Cfg) (cal mk : CallF) (e : Ex) (env : Env)  (rr : Res (Rv)) : Res Rv := rr.bind fun v st => .ok (false, v.2) st
def k_evOr2_2 (C : Cfg) (cal mk : CallF) (e e2 : Ex) (r : List Ex) (env : Env) (v : Rv) (rr : Res (Bool)) : Res Rv := rr.bind fun b st => if b then .ok (false, .bl true) st else evOr C cal mk (e2 :: r) env st
def k_evOr2_1 (C : Cfg) (cal mk : CallF) (e e2 : Ex) (r : List Ex) (env : Env)  (rr : Res (Rv)) : Res Rv := rr.bind fun v st => k_evOr2_2 C cal mk e e2 r env v (Res.of (asBl v) st)
def k_evAll_2 (C : Cfg) (cal mk : CallF) (e : Ex) (r : List Ex) (env : Env) (v : Rv) (rr : Res (Bool)) : Res Bool := rr.bind fun b st => if b then evAll C cal mk r env st else .ok false st
def k_evAll_1 (C : Cfg) (cal mk : CallF) (e : Ex) (r : List Ex) (env : Env)  (rr : Res (Rv)) : Res Bool := rr.bind fun v st => k_evAll_2 C cal mk e r env v (Res.of (asBl v) st)
def k_evOs_2 (C : Cfg) (cal mk : CallF) (e : Ex) (r : List Ex) (env : Env) (v : Rv) (rr : Res (List Rv)) : Res (List Rv) := rr.bind fun ys st => .ok (v :: ys) st
def k_evOs_1 (C : Cfg) (cal mk : CallF) (e : Ex) (r : List Ex) (env : Env)  (rr : Res (Rv)) : Res (List Rv) := rr.bind fun v st => k_evOs_2 C cal mk e r env v (evOs C cal mk r env st)
def k_evB_1 (C : Cfg) (cal mk : CallF) (c : Ex) (env : Env)  (rr : Res (Rv)) : Res Bool := rr.bind fun v st => Res.of (asBl v) st
def k_st_asg_1 (C : Cfg) (cal mk : CallF) (i : Nat) (e : Ex) (env : Env)  (rr : Res (Rv)) : SRes := rr.inS env fun v st => .nx (env.set i (some v)) st
def k_st_asgB_1 (C : Cfg) (cal mk : CallF) (i : Nat) (e : Ex) (env : Env)  (rr : Res (Rv)) : SRes := rr.inS env fun v st => boxS env i (box v st)
def k_st_asgP_1 (C : Cfg) (cal mk : CallF) (is : List Nat) (es : List Ex) (env : Env)  (rr : Res (List Rv)) : SRes := rr.inS env fun vs st => nxO (setOs is vs env) st
def k_st_unp_1 (C : Cfg) (cal mk : CallF) (is : List Nat) (e : Ex) (env : Env)  (rr : Res (Val)) : SRes := rr.inS env fun v st => nxO (setTg (.tp is) v env) st
def k_st_app_1 (C : Cfg) (cal mk : CallF) (i : Nat) (e : Ex) (env : Env)  (rr : Res (Rv)) : SRes := rr.inS env fun v st => change i env st (appV v.2) (appO v.2)
def k_st_appb_1 (C : Cfg) (cal mk : CallF) (w : Val) (e : Ex) (env : Env)  (rr : Res (Rv)) : SRes := rr.inS env fun v st => appR env st w v.2
def k_st_appA_1 (C : Cfg) (cal mk : CallF) (o : Ex) (f : Nat) (e : Ex) (env : Env)  (rr : Res (Val)) : SRes := rr.inS env fun w st => if (asList st w).isSome then k_st_appb_1 C cal mk w e env (ev C cal mk e env st) else .bad
def k_st_ext_1 (C : Cfg) (cal mk : CallF) (i : Nat) (e : Ex) (env : Env)  (rr : Res (Val)) : SRes := rr.inS env fun v st => extS i env st (asList st v)
def k_st_rem_1 (C : Cfg) (cal mk : CallF) (i : Nat) (e : Ex) (env : Env)  (rr : Res (Rv)) : SRes := rr.inS env fun v st => change i env st (remV v.2) (remO v.2)
def k_st_put_3 (C : Cfg) (cal mk : CallF) (i : Nat) (k e : Ex) (env : Env) (v : Rv) (w : Val) (rr : Res (Rv)) : SRes := rr.inS env fun kv st => change i env st (putV kv.2 v.2) (putO kv.2 v.2)
def k_st_put_2 (C : Cfg) (cal mk : CallF) (i : Nat) (k e : Ex) (env : Env) (v : Rv) (rr : Res (Val)) : SRes := rr.inS env fun w st => k_st_put_3 C cal mk i k e env v w (ev C cal mk k env st)
def k_st_put_1 (C : Cfg) (cal mk : CallF) (i : Nat) (k e : Ex) (env : Env)  (rr : Res (Rv)) : SRes := rr.inS env fun v st => k_st_put_2 C cal mk i k e env v (peekS env[i]? st)
def k_st_fld_2 (C : Cfg) (cal mk : CallF) (o : Ex) (f : Nat) (e : Ex) (env : Env) (v : Rv) (rr : Res (Val)) : SRes := rr.inS env fun ov st => nxS env (putF C ov f v.2 st)
def k_st_fld_1 (C : Cfg) (cal mk : CallF) (o : Ex) (f : Nat) (e : Ex) (env : Env)  (rr : Res (Rv)) : SRes := rr.inS env fun v st => k_st_fld_2 C cal mk o f e env v (opd C cal mk o env st)
def k_st_fldB_1 (C : Cfg) (cal mk : CallF) (o : Ex) (f : Nat) (w : Val) (env : Env)  (rr : Res (Val)) : SRes := rr.inS env fun ov st => nxS env (putF C ov f w st)
def k_st_fldAb_1 (C : Cfg) (cal mk : CallF) (ov : Val) (f : Nat) (ng : Bool) (c : Nat) (i : Int) (e : Ex) (env : Env)  (rr : Res (Rv)) : SRes := rr.inS env fun v st => fldAF C env ov f ng c i st (asInt v.2)
def k_st_rseB_1 (C : Cfg) (cal mk : CallF) (c f : Nat) (e : Ex) (env : Env)  (rr : Res (Rv)) : SRes := rr.inS env fun v st => .exc c [(f, v.2)] env st
def fldAS (C : Cfg) (cal mk : CallF) (env : Env) (o : Val) (f : Nat) (ng : Bool) (e : Ex) (st : Store) (p : Option (Nat × Int)) : SRes := match p with
    | some (c, i) => k_st_fldAb_1 C cal mk o f ng c i e env (ev C cal mk e env st)
    | none => .bad
def rse1 (C : Cfg) (cal mk : CallF) (c : Nat) (e : Ex) (env : Env) (st : Store) (o : Option (Option Nat)) : SRes := match o with
    | some (some f) => k_st_rseB_1 C cal mk c f e env (ev C cal mk e env st)
    | _ => .bad
def k_st_fldA_1 (C : Cfg) (cal mk : CallF) (o : Ex) (f : Nat) (ng : Bool) (e : Ex) (env : Env)  (rr : Res (Val)) : SRes := rr.inS env fun ov st => fldAS C cal mk env ov f ng e st (fldI C ov f st)
def k_st_ex_1 (C : Cfg) (cal mk : CallF) (e : Ex) (env : Env)  (rr : Res (Rv)) : SRes := rr.inS env fun v st => .nx env st
def k_st_ret_1 (C : Cfg) (cal mk : CallF) (e : Ex) (env : Env)  (rr : Res (Rv)) : SRes := rr.inS env fun v st => .rt v st
def k_st_ife_1 (C : Cfg) (cal mk : CallF) (c : Ex) (a b : List Sm) (env : Env)  (rr : Res (Bool)) : SRes := rr.inS env fun t st => if t then evSs C cal mk a env st else evSs C cal mk b env st
def k_st_forB_1 (C : Cfg) (cal mk : CallF) (tg : Tg) (body : List Sm) (env : Env)  (rr : Res (List Val)) : SRes := rr.inS env fun xs st => forE C cal mk tg body xs env st
def k_it (k : Ik) (r : Res (List Val)) : Res (List Val) := r.bind fun vs st => Res.of (itOp k st vs) st
def k_seq (C : Cfg) (cal mk : CallF) (r : List Sm) (x : SRes) : SRes := x.bind fun env st => evSs C cal mk r env st
def k_st_whlb_1 (C : Cfg) (cal mk : CallF) (c : Ex) (body : List Sm) (n : Nat) (env : Env)  (rr : Res (Bool)) : SRes := rr.inS env fun b st => if b then k_wl C cal mk c body n (evSs C cal mk body env st) else .nx env st
theorem e_var {C : Cfg} {cal mk : CallF} {i : Nat} {env : Env} {st : Store} : ev C cal mk (.var i) env st = pick1 env[i]? st := by first | rfl | (simp only [ev]; rfl) | (simp only [ev, rse0, rse1]; cases C.xf c with | none => rfl | some x => cases x <;> rfl)
theorem e_glb {C : Cfg} {cal mk : CallF} {g : Nat} {env : Env} {st : Store} : ev C cal mk (.glb g) env st = Res.of ((C.glb g).map fun v => (false, v)) st := by first | rfl | (simp only [ev]; rfl) | (simp only [ev, rse0, rse1]; cases C.xf c with | none => rfl | some x => cases x <;> rfl)
theorem e_cst {C : Cfg} {cal mk : CallF} {v : Val} {env : Env} {st : Store} : ev C cal mk (.cst v) env st = .ok (false, flat v) st := by first | rfl | (simp only [ev]; rfl) | (simp only [ev, rse0, rse1]; cases C.xf c with | none => rfl | some x => cases x <;> rfl)
theorem e_neg {C : Cfg} {cal mk : CallF} {i : Nat} {env : Env} {st : Store} : ev C cal mk (.neg i) env st = .ok (false, .int (-(i : Int))) st := by first | rfl | (simp only [ev]; rfl) | (simp only [ev, rse0, rse1]; cases C.xf c with | none => rfl | some x => cases x <;> rfl)
theorem k_tup_1_ok {C : Cfg} {cal mk : CallF} {es : List Ex} {env : Env}  {vs : List Val} {st : Store} : k_tup_1 C cal mk es env  (.ok vs st) = .ok (false, .tup vs) st := rfl
theorem k_tup_1_exc {C : Cfg} {cal mk : CallF} {es : List Ex} {env : Env}  {cc : Nat} {fs : List (Nat × Val)} {st : Store} : k_tup_1 C cal mk es env  (.exc cc fs st) = .exc cc fs st := rfl
theorem e_tup {C : Cfg} {cal mk : CallF} {es : List Ex} {env : Env} {st : Store} : ev C cal mk (.tup es) env st = k_tup_1 C cal mk es env (evs C cal mk es env st) := by first | rfl | (simp only [ev]; rfl)
theorem k_lst_1_ok {C : Cfg} {cal mk : CallF} {es : List Ex} {env : Env}  {vs : List Val} {st : Store} : k_lst_1 C cal mk es env  (.ok vs st) = .ok (true, .lst vs) st := rfl
theorem k_lst_1_exc {C : Cfg} {cal mk : CallF} {es : List Ex} {env : Env}  {cc : Nat} {fs : List (Nat × Val)} {st : Store} : k_lst_1 C cal mk es env  (.exc cc fs st) = .exc cc fs st := rfl
theorem e_lst {C : Cfg} {cal mk : CallF} {es : List Ex} {env : Env} {st : Store} : ev C cal mk (.lst es) env st = k_lst_1 C cal mk es env (evs C cal mk es env st) := by first | rfl | (simp only [ev]; rfl)
theorem k_dct_1_ok {C : Cfg} {cal mk : CallF} {es : List Ex} {env : Env}  {vs : List Val} {st : Store} : k_dct_1 C cal mk es env  (.ok vs st) = Res.of ((pairUp vs).map fun kvs => (true, .dct (dputs [] kvs))) st := rfl
theorem k_dct_1_exc {C : Cfg} {cal mk : CallF} {es : List Ex} {env : Env}  {cc : Nat} {fs : List (Nat × Val)} {st : Store} : k_dct_1 C cal mk es env  (.exc cc fs st) = .exc cc fs st := rfl
theorem e_dct {C : Cfg} {cal mk : CallF} {es : List Ex} {env : Env} {st : Store} : ev C cal mk (.dct es) env st = k_dct_1 C cal mk es env (evs C cal mk es env st) := by first | rfl | (simp only [ev]; rfl)
theorem k_dctS_1_ok {C : Cfg} {cal mk : CallF} {d k v : Ex} {env : Env}  {dv : Val} {st : Store} : k_dctS_1 C cal mk d k v env  (.ok dv st) = k_dctS_2 C cal mk d k v env dv (ev C cal mk k env st) := rfl
theorem k_dctS_1_exc {C : Cfg} {cal mk : CallF} {d k v : Ex} {env : Env}  {cc : Nat} {fs : List (Nat × Val)} {st : Store} : k_dctS_1 C cal mk d k v env  (.exc cc fs st) = .exc cc fs st := rfl
theorem k_dctS_2_ok {C : Cfg} {cal mk : CallF} {d k v : Ex} {env : Env} {dv : Val} {kv : Rv} {st : Store} : k_dctS_2 C cal mk d k v env dv (.ok kv st) = k_dctS_3 C cal mk d k v env dv kv (ev C cal mk v env st) := rfl
theorem k_dctS_2_exc {C : Cfg} {cal mk : CallF} {d k v : Ex} {env : Env} {dv : Val} {cc : Nat} {fs : List (Nat × Val)} {st : Store} : k_dctS_2 C cal mk d k v env dv (.exc cc fs st) = .exc cc fs st := rfl
theorem k_dctS_3_ok {C : Cfg} {cal mk : CallF} {d k v : Ex} {env : Env} {dv : Val} {kv : Rv} {vv : Rv} {st : Store} : k_dctS_3 C cal mk d k v env dv kv (.ok vv st) = Res.of (dctSOp st dv kv vv) st := rfl
theorem k_dctS_3_exc {C : Cfg} {cal mk : CallF} {d k v : Ex} {env : Env} {dv : Val} {kv : Rv} {cc : Nat} {fs : List (Nat × Val)} {st : Store} : k_dctS_3 C cal mk d k v env dv kv (.exc cc fs st) = .exc cc fs st := rfl
theorem e_dctS {C : Cfg} {cal mk : CallF} {d k v : Ex} {env : Env} {st : Store} : ev C cal mk (.dctS d k v) env st = k_dctS_1 C cal mk d k v env (opd C cal mk d env st) := by first | rfl | (simp only [ev]; rfl)
theorem k_bin_1_ok {C : Cfg} {cal mk : CallF} {op : Bop} {a b : Ex} {env : Env}  {x : Val} {st : Store} : k_bin_1 C cal mk op a b env  (.ok x st) = k_bin_2 C cal mk op a b env x (opd C cal mk b env st) := rfl
theorem k_bin_1_exc {C : Cfg} {cal mk : CallF} {op : Bop} {a b : Ex} {env : Env}  {cc : Nat} {fs : List (Nat × Val)} {st : Store} : k_bin_1 C cal mk op a b env  (.exc cc fs st) = .exc cc fs st := rfl
theorem k_bin_2_ok {C : Cfg} {cal mk : CallF} {op : Bop} {a b : Ex} {env : Env} {x : Val} {y : Val} {st : Store} : k_bin_2 C cal mk op a b env x (.ok y st) = Res.of (binop op st x y) st := rfl
theorem k_bin_2_exc {C : Cfg} {cal mk : CallF} {op : Bop} {a b : Ex} {env : Env} {x : Val} {cc : Nat} {fs : List (Nat × Val)} {st : Store} : k_bin_2 C cal mk op a b env x (.exc cc fs st) = .exc cc fs st := rfl
theorem e_bin {C : Cfg} {cal mk : CallF} {op : Bop} {a b : Ex} {env : Env} {st : Store} : ev C cal mk (.bin op a b) env st = k_bin_1 C cal mk op a b env (opd C cal mk a env st) := by first | rfl | (simp only [ev]; rfl)
theorem k_cmp_1_ok {C : Cfg} {cal mk : CallF} {op : Cop} {a b : Ex} {env : Env}  {x : Val} {st : Store} : k_cmp_1 C cal mk op a b env  (.ok x st) = k_cmp_2 C cal mk op a b env x (opd C cal mk b env st) := rfl
theorem k_cmp_1_exc {C : Cfg} {cal mk : CallF} {op : Cop} {a b : Ex} {env : Env}  {cc : Nat} {fs : List (Nat × Val)} {st : Store} : k_cmp_1 C cal mk op a b env  (.exc cc fs st) = .exc cc fs st := rfl
theorem k_cmp_2_ok {C : Cfg} {cal mk : CallF} {op : Cop} {a b : Ex} {env : Env} {x : Val} {y : Val} {st : Store} : k_cmp_2 C cal mk op a b env x (.ok y st) = Res.of ((cmpop op st x y).map fun b => (false, .bl b)) st := rfl
theorem k_cmp_2_exc {C : Cfg} {cal mk : CallF} {op : Cop} {a b : Ex} {env : Env} {x : Val} {cc : Nat} {fs : List (Nat × Val)} {st : Store} : k_cmp_2 C cal mk op a b env x (.exc cc fs st) = .exc cc fs st := rfl
theorem e_cmp {C : Cfg} {cal mk : CallF} {op : Cop} {a b : Ex} {env : Env} {st : Store} : ev C cal mk (.cmp op a b) env st = k_cmp_1 C cal mk op a b env (opd C cal mk a env st) := by first | rfl | (simp only [ev]; rfl)
theorem k_cmp2b_1_ok {C : Cfg} {cal mk : CallF} {o2 : Cop} {y : Val} {c : Ex} {env : Env}  {z : Val} {st : Store} : k_cmp2b_1 C cal mk o2 y c env  (.ok z st) = Res.of ((cmpop o2 st y z).map fun b => (false, .bl b)) st := rfl
theorem k_cmp2b_1_exc {C : Cfg} {cal mk : CallF} {o2 : Cop} {y : Val} {c : Ex} {env : Env}  {cc : Nat} {fs : List (Nat × Val)} {st : Store} : k_cmp2b_1 C cal mk o2 y c env  (.exc cc fs st) = .exc cc fs st := rfl
theorem k_cmp2_1_ok {C : Cfg} {cal mk : CallF} {o1 o2 : Cop} {a b c : Ex} {env : Env}  {x : Val} {st : Store} : k_cmp2_1 C cal mk o1 o2 a b c env  (.ok x st) = k_cmp2_2 C cal mk o1 o2 a b c env x (opd C cal mk b env st) := rfl
theorem k_cmp2_1_exc {C : Cfg} {cal mk : CallF} {o1 o2 : Cop} {a b c : Ex} {env : Env}  {cc : Nat} {fs : List (Nat × Val)} {st : Store} : k_cmp2_1 C cal mk o1 o2 a b c env  (.exc cc fs st) = .exc cc fs st := rfl
theorem k_cmp2_2_ok {C : Cfg} {cal mk : CallF} {o1 o2 : Cop} {a b c : Ex} {env : Env} {x : Val} {y : Val} {st : Store} : k_cmp2_2 C cal mk o1 o2 a b c env x (.ok y st) = k_cmp2_3 C cal mk o1 o2 a b c env x y (Res.of (cmpop o1 st x y) st) := rfl
theorem k_cmp2_2_exc {C : Cfg} {cal mk : CallF} {o1 o2 : Cop} {a b c : Ex} {env : Env} {x : Val} {cc : Nat} {fs : List (Nat × Val)} {st : Store} : k_cmp2_2 C cal mk o1 o2 a b c env x (.exc cc fs st) = .exc cc fs st := rfl
theorem k_cmp2_3_ok {C : Cfg} {cal mk : CallF} {o1 o2 : Cop} {a b c : Ex} {env : Env} {x : Val} {y : Val} {r : Bool} {st : Store} : k_cmp2_3 C cal mk o1 o2 a b c env x y (.ok r st) = if r then k_cmp2b_1 C cal mk o2 y c env (opd C cal mk c env st) else .ok (false, .bl false) st := rfl
theorem k_cmp2_3_exc {C : Cfg} {cal mk : CallF} {o1 o2 : Cop} {a b c : Ex} {env : Env} {x : Val} {y : Val} {cc : Nat} {fs : List (Nat × Val)} {st : Store} : k_cmp2_3 C cal mk o1 o2 a b c env x y (.exc cc fs st) = .exc cc fs st := rfl
theorem e_cmp2 {C : Cfg} {cal mk : CallF} {o1 o2 : Cop} {a b c : Ex} {env : Env} {st : Store} : ev C cal mk (.cmp2 o1 o2 a b c) env st = k_cmp2_1 C cal mk o1 o2 a b c env (opd C cal mk a env st) := by first | rfl | (simp only [ev]; rfl)
theorem e_and {C : Cfg} {cal mk : CallF} {es : List Ex} {env : Env} {st : Store} : ev C cal mk (.and es) env st = evAnd C cal mk es env st := by first | rfl | (simp only [ev]; rfl) | (simp only [ev, rse0, rse1]; cases C.xf c with | none => rfl | some x => cases x <;> rfl)
theorem e_or {C : Cfg} {cal mk : CallF} {es : List Ex} {env : Env} {st : Store} : ev C cal mk (.or es) env st = evOr C cal mk es env st := by first | rfl | (simp only [ev]; rfl) | (simp only [ev, rse0, rse1]; cases C.xf c with | none => rfl | some x => cases x <;> rfl)
theorem k_not_1_ok {C : Cfg} {cal mk : CallF} {a : Ex} {env : Env}  {v : Rv} {st : Store} : k_not_1 C cal mk a env  (.ok v st) = Res.of ((asBl v).map fun b => (false, .bl (!b))) st := rfl
theorem k_not_1_exc {C : Cfg} {cal mk : CallF} {a : Ex} {env : Env}  {cc : Nat} {fs : List (Nat × Val)} {st : Store} : k_not_1 C cal mk a env  (.exc cc fs st) = .exc cc fs st := rfl
theorem e_not {C : Cfg} {cal mk : CallF} {a : Ex} {env : Env} {st : Store} : ev C cal mk (.not a) env st = k_not_1 C cal mk a env (ev C cal mk a env st) := by first | rfl | (simp only [ev]; rfl)
theorem k_ife_1_ok {C : Cfg} {cal mk : CallF} {c a b : Ex} {env : Env}  {v : Rv} {st : Store} : k_ife_1 C cal mk c a b env  (.ok v st) = k_ife_2 C cal mk c a b env v (Res.of (asBl v) st) := rfl
theorem k_ife_1_exc {C : Cfg} {cal mk : CallF} {c a b : Ex} {env : Env}  {cc : Nat} {fs : List (Nat × Val)} {st : Store} : k_ife_1 C cal mk c a b env  (.exc cc fs st) = .exc cc fs st := rfl
theorem k_ife_2_ok {C : Cfg} {cal mk : CallF} {c a b : Ex} {env : Env} {v : Rv} {t : Bool} {st : Store} : k_ife_2 C cal mk c a b env v (.ok t st) = if t then ev C cal mk a env st else ev C cal mk b env st := rfl
theorem k_ife_2_exc {C : Cfg} {cal mk : CallF} {c a b : Ex} {env : Env} {v : Rv} {cc : Nat} {fs : List (Nat × Val)} {st : Store} : k_ife_2 C cal mk c a b env v (.exc cc fs st) = .exc cc fs st := rfl
theorem e_ife {C : Cfg} {cal mk : CallF} {c a b : Ex} {env : Env} {st : Store} : ev C cal mk (.ife c a b) env st = k_ife_1 C cal mk c a b env (ev C cal mk c env st) := by first | rfl | (simp only [ev]; rfl)
theorem k_call_1_ok {C : Cfg} {cal mk : CallF} {f : Nat} {es : List Ex} {env : Env}  {vs : List Val} {st : Store} : k_call_1 C cal mk f es env  (.ok vs st) = cal f vs st := rfl
theorem k_call_1_exc {C : Cfg} {cal mk : CallF} {f : Nat} {es : List Ex} {env : Env}  {cc : Nat} {fs : List (Nat × Val)} {st : Store} : k_call_1 C cal mk f es env  (.exc cc fs st) = .exc cc fs st := rfl
theorem e_call {C : Cfg} {cal mk : CallF} {f : Nat} {es : List Ex} {env : Env} {st : Store} : ev C cal mk (.call f es) env st = k_call_1 C cal mk f es env (evs C cal mk es env st) := by first | rfl | (simp only [ev]; rfl)
theorem k_make_1_ok {C : Cfg} {cal mk : CallF} {c : Nat} {es : List Ex} {env : Env}  {vs : List Val} {st : Store} : k_make_1 C cal mk c es env  (.ok vs st) = makeOp C mk c vs st := rfl
theorem k_make_1_exc {C : Cfg} {cal mk : CallF} {c : Nat} {es : List Ex} {env : Env}  {cc : Nat} {fs : List (Nat × Val)} {st : Store} : k_make_1 C cal mk c es env  (.exc cc fs st) = .exc cc fs st := rfl
theorem e_make {C : Cfg} {cal mk : CallF} {c : Nat} {es : List Ex} {env : Env} {st : Store} : ev C cal mk (.make c es) env st = k_make_1 C cal mk c es env (evs C cal mk es env st) := by first | rfl | (simp only [ev]; rfl)
theorem k_meth_1_ok {C : Cfg} {cal mk : CallF} {o : Ex} {m : Nat} {es : List Ex} {env : Env}  {ov : Val} {st : Store} : k_meth_1 C cal mk o m es env  (.ok ov st) = k_meth_2 C cal mk o m es env ov (Res.of (methOf C ov m st) st) := rfl
theorem k_meth_1_exc {C : Cfg} {cal mk : CallF} {o : Ex} {m : Nat} {es : List Ex} {env : Env}  {cc : Nat} {fs : List (Nat × Val)} {st : Store} : k_meth_1 C cal mk o m es env  (.exc cc fs st) = .exc cc fs st := rfl
theorem k_meth_2_ok {C : Cfg} {cal mk : CallF} {o : Ex} {m : Nat} {es : List Ex} {env : Env} {ov : Val} {p : Nat × Nat} {st : Store} : k_meth_2 C cal mk o m es env ov (.ok p st) = k_meth_3 C cal mk o m es env ov p (evs C cal mk es env st) := rfl
theorem k_meth_2_exc {C : Cfg} {cal mk : CallF} {o : Ex} {m : Nat} {es : List Ex} {env : Env} {ov : Val} {cc : Nat} {fs : List (Nat × Val)} {st : Store} : k_meth_2 C cal mk o m es env ov (.exc cc fs st) = .exc cc fs st := rfl
theorem k_meth_3_ok {C : Cfg} {cal mk : CallF} {o : Ex} {m : Nat} {es : List Ex} {env : Env} {ov : Val} {p : Nat × Nat} {vs : List Val} {st : Store} : k_meth_3 C cal mk o m es env ov p (.ok vs st) = cal p.1 (.ref p.2 :: vs) st := rfl
theorem k_meth_3_exc {C : Cfg} {cal mk : CallF} {o : Ex} {m : Nat} {es : List Ex} {env : Env} {ov : Val} {p : Nat × Nat} {cc : Nat} {fs : List (Nat × Val)} {st : Store} : k_meth_3 C cal mk o m es env ov p (.exc cc fs st) = .exc cc fs st := rfl
theorem e_meth {C : Cfg} {cal mk : CallF} {o : Ex} {m : Nat} {es : List Ex} {env : Env} {st : Store} : ev C cal mk (.meth o m es) env st = k_meth_1 C cal mk o m es env (opd C cal mk o env st) := by first | rfl | (simp only [ev]; rfl)
theorem k_attr_1_ok {C : Cfg} {cal mk : CallF} {o : Ex} {f : Nat} {env : Env}  {ov : Val} {st : Store} : k_attr_1 C cal mk o f env  (.ok ov st) = Res.of (attrOp C f (asIns st ov)) st := rfl
theorem k_attr_1_exc {C : Cfg} {cal mk : CallF} {o : Ex} {f : Nat} {env : Env}  {cc : Nat} {fs : List (Nat × Val)} {st : Store} : k_attr_1 C cal mk o f env  (.exc cc fs st) = .exc cc fs st := rfl
theorem e_attr {C : Cfg} {cal mk : CallF} {o : Ex} {f : Nat} {env : Env} {st : Store} : ev C cal mk (.attr o f) env st = k_attr_1 C cal mk o f env (opd C cal mk o env st) := by first | rfl | (simp only [ev]; rfl)
theorem k_prop_1_ok {C : Cfg} {cal mk : CallF} {o : Ex} {f : Nat} {env : Env}  {ov : Val} {st : Store} : k_prop_1 C cal mk o f env  (.ok ov st) = propOp C cal f (asIns st ov) st := rfl
theorem k_prop_1_exc {C : Cfg} {cal mk : CallF} {o : Ex} {f : Nat} {env : Env}  {cc : Nat} {fs : List (Nat × Val)} {st : Store} : k_prop_1 C cal mk o f env  (.exc cc fs st) = .exc cc fs st := rfl
theorem e_prop {C : Cfg} {cal mk : CallF} {o : Ex} {f : Nat} {env : Env} {st : Store} : ev C cal mk (.prop o f) env st = k_prop_1 C cal mk o f env (opd C cal mk o env st) := by first | rfl | (simp only [ev]; rfl)
theorem k_bi_1_ok {C : Cfg} {cal mk : CallF} {b : Bi} {es : List Ex} {env : Env}  {vs : List Val} {st : Store} : k_bi_1 C cal mk b es env  (.ok vs st) = Res.of (biOp b st vs) st := rfl
theorem k_bi_1_exc {C : Cfg} {cal mk : CallF} {b : Bi} {es : List Ex} {env : Env}  {cc : Nat} {fs : List (Nat × Val)} {st : Store} : k_bi_1 C cal mk b es env  (.exc cc fs st) = .exc cc fs st := rfl
theorem e_bi {C : Cfg} {cal mk : CallF} {b : Bi} {es : List Ex} {env : Env} {st : Store} : ev C cal mk (.bi b es) env st = k_bi_1 C cal mk b es env (opds C cal mk es env st) := by first | rfl | (simp only [ev]; rfl)
theorem k_isi_1_ok {C : Cfg} {cal mk : CallF} {e : Ex} {ts : List Ty} {env : Env}  {v : Val} {st : Store} : k_isi_1 C cal mk e ts env  (.ok v st) = Res.of ((tagOf st v).map fun t => (false, .bl (ts.any (isTag t)))) st := rfl
theorem k_isi_1_exc {C : Cfg} {cal mk : CallF} {e : Ex} {ts : List Ty} {env : Env}  {cc : Nat} {fs : List (Nat × Val)} {st : Store} : k_isi_1 C cal mk e ts env  (.exc cc fs st) = .exc cc fs st := rfl
theorem e_isi {C : Cfg} {cal mk : CallF} {e : Ex} {ts : List Ty} {env : Env} {st : Store} : ev C cal mk (.isi e ts) env st = k_isi_1 C cal mk e ts env (opd C cal mk e env st) := by first | rfl | (simp only [ev]; rfl)
theorem k_isc_1_ok {C : Cfg} {cal mk : CallF} {e : Ex} {c : Nat} {env : Env}  {v : Val} {st : Store} : k_isc_1 C cal mk e c env  (.ok v st) = .ok (false, .bl (clsIs st v c)) st := rfl
theorem k_isc_1_exc {C : Cfg} {cal mk : CallF} {e : Ex} {c : Nat} {env : Env}  {cc : Nat} {fs : List (Nat × Val)} {st : Store} : k_isc_1 C cal mk e c env  (.exc cc fs st) = .exc cc fs st := rfl
theorem e_isc {C : Cfg} {cal mk : CallF} {e : Ex} {c : Nat} {env : Env} {st : Store} : ev C cal mk (.isc e c) env st = k_isc_1 C cal mk e c env (opd C cal mk e env st) := by first | rfl | (simp only [ev]; rfl)
theorem k_sub_1_ok {C : Cfg} {cal mk : CallF} {o i : Ex} {env : Env}  {ov : Val} {st : Store} : k_sub_1 C cal mk o i env  (.ok ov st) = k_sub_2 C cal mk o i env ov (ev C cal mk i env st) := rfl
theorem k_sub_1_exc {C : Cfg} {cal mk : CallF} {o i : Ex} {env : Env}  {cc : Nat} {fs : List (Nat × Val)} {st : Store} : k_sub_1 C cal mk o i env  (.exc cc fs st) = .exc cc fs st := rfl
theorem k_sub_2_ok {C : Cfg} {cal mk : CallF} {o i : Ex} {env : Env} {ov : Val} {iv : Rv} {st : Store} : k_sub_2 C cal mk o i env ov (.ok iv st) = Res.of ((subOp st ov iv.2).map fun v => (false, v)) st := rfl
theorem k_sub_2_exc {C : Cfg} {cal mk : CallF} {o i : Ex} {env : Env} {ov : Val} {cc : Nat} {fs : List (Nat × Val)} {st : Store} : k_sub_2 C cal mk o i env ov (.exc cc fs st) = .exc cc fs st := rfl
theorem e_sub {C : Cfg} {cal mk : CallF} {o i : Ex} {env : Env} {st : Store} : ev C cal mk (.sub o i) env st = k_sub_1 C cal mk o i env (opd C cal mk o env st) := by first | rfl | (simp only [ev]; rfl)
theorem k_gsub_1_ok {C : Cfg} {cal mk : CallF} {kvs : List (Val × Val)} {i : Ex} {env : Env}  {iv : Rv} {st : Store} : k_gsub_1 C cal mk kvs i env  (.ok iv st) = Res.of (if keyOk iv.2 then (dget kvs iv.2).map fun v => (false, v) else none) st := rfl
theorem k_gsub_1_exc {C : Cfg} {cal mk : CallF} {kvs : List (Val × Val)} {i : Ex} {env : Env}  {cc : Nat} {fs : List (Nat × Val)} {st : Store} : k_gsub_1 C cal mk kvs i env  (.exc cc fs st) = .exc cc fs st := rfl
theorem k_gnin_1_ok {C : Cfg} {cal mk : CallF} {kvs : List (Val × Val)} {i : Ex} {env : Env}  {iv : Rv} {st : Store} : k_gnin_1 C cal mk kvs i env  (.ok iv st) = Res.of (if isStr iv.2 then some (false, .bl (!(dget kvs iv.2).isSome)) else none) st := rfl
theorem k_gnin_1_exc {C : Cfg} {cal mk : CallF} {kvs : List (Val × Val)} {i : Ex} {env : Env}  {cc : Nat} {fs : List (Nat × Val)} {st : Store} : k_gnin_1 C cal mk kvs i env  (.exc cc fs st) = .exc cc fs st := rfl
theorem e_gsub {C : Cfg} {cal mk : CallF} {g : Nat} {i : Ex} {env : Env} {st : Store} : ev C cal mk (.gsub g i) env st = gsubS C cal mk i env st (C.gdc g) := by first | rfl | (simp only [ev]; rfl) | (simp only [ev, rse0, rse1]; cases C.xf c with | none => rfl | some x => cases x <;> rfl)
theorem e_gnin {C : Cfg} {cal mk : CallF} {g : Nat} {i : Ex} {env : Env} {st : Store} : ev C cal mk (.gnin g i) env st = gninS C cal mk i env st (C.gdc g) := by first | rfl | (simp only [ev]; rfl) | (simp only [ev, rse0, rse1]; cases C.xf c with | none => rfl | some x => cases x <;> rfl)
theorem gsubS_some {C : Cfg} {cal mk : CallF} {i : Ex} {env : Env} {st : Store} {kvs : List (Val × Val)} : gsubS C cal mk i env st (some kvs) = k_gsub_1 C cal mk kvs i env (ev C cal mk i env st) := rfl
theorem gninS_some {C : Cfg} {cal mk : CallF} {i : Ex} {env : Env} {st : Store} {kvs : List (Val × Val)} : gninS C cal mk i env st (some kvs) = k_gnin_1 C cal mk kvs i env (ev C cal mk i env st) := rfl
theorem k_slc_1_ok {C : Cfg} {cal mk : CallF} {o a b : Ex} {env : Env}  {ov : Val} {st : Store} : k_slc_1 C cal mk o a b env  (.ok ov st) = k_slc_2 C cal mk o a b env ov (ev C cal mk a env st) := rfl
theorem k_slc_1_exc {C : Cfg} {cal mk : CallF} {o a b : Ex} {env : Env}  {cc : Nat} {fs : List (Nat × Val)} {st : Store} : k_slc_1 C cal mk o a b env  (.exc cc fs st) = .exc cc fs st := rfl
theorem k_slc_2_ok {C : Cfg} {cal mk : CallF} {o a b : Ex} {env : Env} {ov : Val} {av : Rv} {st : Store} : k_slc_2 C cal mk o a b env ov (.ok av st) = k_slc_3 C cal mk o a b env ov av (Res.of (asInt av.2) st) := rfl
theorem k_slc_2_exc {C : Cfg} {cal mk : CallF} {o a b : Ex} {env : Env} {ov : Val} {cc : Nat} {fs : List (Nat × Val)} {st : Store} : k_slc_2 C cal mk o a b env ov (.exc cc fs st) = .exc cc fs st := rfl
theorem k_slc_3_ok {C : Cfg} {cal mk : CallF} {o a b : Ex} {env : Env} {ov : Val} {av : Rv} {i : Int} {st : Store} : k_slc_3 C cal mk o a b env ov av (.ok i st) = k_slc_4 C cal mk o a b env ov av i (ev C cal mk b env st) := rfl
theorem k_slc_3_exc {C : Cfg} {cal mk : CallF} {o a b : Ex} {env : Env} {ov : Val} {av : Rv} {cc : Nat} {fs : List (Nat × Val)} {st : Store} : k_slc_3 C cal mk o a b env ov av (.exc cc fs st) = .exc cc fs st := rfl
theorem k_slc_4_ok {C : Cfg} {cal mk : CallF} {o a b : Ex} {env : Env} {ov : Val} {av : Rv} {i : Int} {bv : Rv} {st : Store} : k_slc_4 C cal mk o a b env ov av i (.ok bv st) = k_slc_5 C cal mk o a b env ov av i bv (Res.of (asInt bv.2) st) := rfl
theorem k_slc_4_exc {C : Cfg} {cal mk : CallF} {o a b : Ex} {env : Env} {ov : Val} {av : Rv} {i : Int} {cc : Nat} {fs : List (Nat × Val)} {st : Store} : k_slc_4 C cal mk o a b env ov av i (.exc cc fs st) = .exc cc fs st := rfl
theorem k_slc_5_ok {C : Cfg} {cal mk : CallF} {o a b : Ex} {env : Env} {ov : Val} {av : Rv} {i : Int} {bv : Rv} {j : Int} {st : Store} : k_slc_5 C cal mk o a b env ov av i bv (.ok j st) = Res.of (slcI st ov (some i) (some j)) st := rfl
theorem k_slc_5_exc {C : Cfg} {cal mk : CallF} {o a b : Ex} {env : Env} {ov : Val} {av : Rv} {i : Int} {bv : Rv} {cc : Nat} {fs : List (Nat × Val)} {st : Store} : k_slc_5 C cal mk o a b env ov av i bv (.exc cc fs st) = .exc cc fs st := rfl
theorem e_slc {C : Cfg} {cal mk : CallF} {o a b : Ex} {env : Env} {st : Store} : ev C cal mk (.slc o a b) env st = k_slc_1 C cal mk o a b env (opd C cal mk o env st) := by first | rfl | (simp only [ev]; rfl)
theorem k_slcL_1_ok {C : Cfg} {cal mk : CallF} {o a : Ex} {env : Env}  {ov : Val} {st : Store} : k_slcL_1 C cal mk o a env  (.ok ov st) = k_slcL_2 C cal mk o a env ov (ev C cal mk a env st) := rfl
theorem k_slcL_1_exc {C : Cfg} {cal mk : CallF} {o a : Ex} {env : Env}  {cc : Nat} {fs : List (Nat × Val)} {st : Store} : k_slcL_1 C cal mk o a env  (.exc cc fs st) = .exc cc fs st := rfl
theorem k_slcL_2_ok {C : Cfg} {cal mk : CallF} {o a : Ex} {env : Env} {ov : Val} {av : Rv} {st : Store} : k_slcL_2 C cal mk o a env ov (.ok av st) = k_slcL_3 C cal mk o a env ov av (Res.of (asInt av.2) st) := rfl
theorem k_slcL_2_exc {C : Cfg} {cal mk : CallF} {o a : Ex} {env : Env} {ov : Val} {cc : Nat} {fs : List (Nat × Val)} {st : Store} : k_slcL_2 C cal mk o a env ov (.exc cc fs st) = .exc cc fs st := rfl
theorem k_slcL_3_ok {C : Cfg} {cal mk : CallF} {o a : Ex} {env : Env} {ov : Val} {av : Rv} {i : Int} {st : Store} : k_slcL_3 C cal mk o a env ov av (.ok i st) = Res.of (slcI st ov (some i) none) st := rfl
theorem k_slcL_3_exc {C : Cfg} {cal mk : CallF} {o a : Ex} {env : Env} {ov : Val} {av : Rv} {cc : Nat} {fs : List (Nat × Val)} {st : Store} : k_slcL_3 C cal mk o a env ov av (.exc cc fs st) = .exc cc fs st := rfl
theorem e_slcL {C : Cfg} {cal mk : CallF} {o a : Ex} {env : Env} {st : Store} : ev C cal mk (.slcL o a) env st = k_slcL_1 C cal mk o a env (opd C cal mk o env st) := by first | rfl | (simp only [ev]; rfl)
theorem k_slcR_1_ok {C : Cfg} {cal mk : CallF} {o b : Ex} {env : Env}  {ov : Val} {st : Store} : k_slcR_1 C cal mk o b env  (.ok ov st) = k_slcR_2 C cal mk o b env ov (ev C cal mk b env st) := rfl
theorem k_slcR_1_exc {C : Cfg} {cal mk : CallF} {o b : Ex} {env : Env}  {cc : Nat} {fs : List (Nat × Val)} {st : Store} : k_slcR_1 C cal mk o b env  (.exc cc fs st) = .exc cc fs st := rfl
theorem k_slcR_2_ok {C : Cfg} {cal mk : CallF} {o b : Ex} {env : Env} {ov : Val} {bv : Rv} {st : Store} : k_slcR_2 C cal mk o b env ov (.ok bv st) = k_slcR_3 C cal mk o b env ov bv (Res.of (asInt bv.2) st) := rfl
theorem k_slcR_2_exc {C : Cfg} {cal mk : CallF} {o b : Ex} {env : Env} {ov : Val} {cc : Nat} {fs : List (Nat × Val)} {st : Store} : k_slcR_2 C cal mk o b env ov (.exc cc fs st) = .exc cc fs st := rfl
theorem k_slcR_3_ok {C : Cfg} {cal mk : CallF} {o b : Ex} {env : Env} {ov : Val} {bv : Rv} {j : Int} {st : Store} : k_slcR_3 C cal mk o b env ov bv (.ok j st) = Res.of (slcI st ov none (some j)) st := rfl
theorem k_slcR_3_exc {C : Cfg} {cal mk : CallF} {o b : Ex} {env : Env} {ov : Val} {bv : Rv} {cc : Nat} {fs : List (Nat × Val)} {st : Store} : k_slcR_3 C cal mk o b env ov bv (.exc cc fs st) = .exc cc fs st := rfl
theorem e_slcR {C : Cfg} {cal mk : CallF} {o b : Ex} {env : Env} {st : Store} : ev C cal mk (.slcR o b) env st = k_slcR_1 C cal mk o b env (opd C cal mk o env st) := by first | rfl | (simp only [ev]; rfl)
theorem k_rev_1_ok {C : Cfg} {cal mk : CallF} {o : Ex} {env : Env}  {ov : Val} {st : Store} : k_rev_1 C cal mk o env  (.ok ov st) = Res.of (revOp st ov) st := rfl
theorem k_rev_1_exc {C : Cfg} {cal mk : CallF} {o : Ex} {env : Env}  {cc : Nat} {fs : List (Nat × Val)} {st : Store} : k_rev_1 C cal mk o env  (.exc cc fs st) = .exc cc fs st := rfl
theorem e_rev {C : Cfg} {cal mk : CallF} {o : Ex} {env : Env} {st : Store} : ev C cal mk (.rev o) env st = k_rev_1 C cal mk o env (opd C cal mk o env st) := by first | rfl | (simp only [ev]; rfl)
theorem k_lc_1_ok {C : Cfg} {cal mk : CallF} {e : Ex} {tg : Tg} {k : Ik} {args cs : List Ex} {env : Env}  {vs : List Val} {st : Store} : k_lc_1 C cal mk e tg k args cs env  (.ok vs st) = k_lc_2 C cal mk e tg k args cs env vs (Res.of (itOp k st vs) st) := rfl
theorem k_lc_1_exc {C : Cfg} {cal mk : CallF} {e : Ex} {tg : Tg} {k : Ik} {args cs : List Ex} {env : Env}  {cc : Nat} {fs : List (Nat × Val)} {st : Store} : k_lc_1 C cal mk e tg k args cs env  (.exc cc fs st) = .exc cc fs st := rfl
theorem k_lc_2_ok {C : Cfg} {cal mk : CallF} {e : Ex} {tg : Tg} {k : Ik} {args cs : List Ex} {env : Env} {vs : List Val} {xs : List Val} {st : Store} : k_lc_2 C cal mk e tg k args cs env vs (.ok xs st) = k_lc_3 C cal mk e tg k args cs env vs xs (lcE C cal mk tg cs e env xs st) := rfl
theorem k_lc_2_exc {C : Cfg} {cal mk : CallF} {e : Ex} {tg : Tg} {k : Ik} {args cs : List Ex} {env : Env} {vs : List Val} {cc : Nat} {fs : List (Nat × Val)} {st : Store} : k_lc_2 C cal mk e tg k args cs env vs (.exc cc fs st) = .exc cc fs st := rfl
theorem k_lc_3_ok {C : Cfg} {cal mk : CallF} {e : Ex} {tg : Tg} {k : Ik} {args cs : List Ex} {env : Env} {vs : List Val} {xs : List Val} {ys : List Val} {st : Store} : k_lc_3 C cal mk e tg k args cs env vs xs (.ok ys st) = .ok (true, .lst ys) st := rfl
theorem k_lc_3_exc {C : Cfg} {cal mk : CallF} {e : Ex} {tg : Tg} {k : Ik} {args cs : List Ex} {env : Env} {vs : List Val} {xs : List Val} {cc : Nat} {fs : List (Nat × Val)} {st : Store} : k_lc_3 C cal mk e tg k args cs env vs xs (.exc cc fs st) = .exc cc fs st := rfl
theorem e_lc {C : Cfg} {cal mk : CallF} {e : Ex} {tg : Tg} {k : Ik} {args cs : List Ex} {env : Env} {st : Store} : ev C cal mk (.lc e tg k args cs) env st = k_lc_1 C cal mk e tg k args cs env (opds C cal mk args env st) := by first | rfl | (simp only [ev]; rfl)
theorem k_lc2_1_ok {C : Cfg} {cal mk : CallF} {e : Ex} {tg : Tg} {k : Ik} {args : List Ex} {tg2 : Tg} {k2 : Ik} {args2 cs : List Ex} {env : Env}  {vs : List Val} {st : Store} : k_lc2_1 C cal mk e tg k args tg2 k2 args2 cs env  (.ok vs st) = k_lc2_2 C cal mk e tg k args tg2 k2 args2 cs env vs (Res.of (itOp k st vs) st) := rfl
theorem k_lc2_1_exc {C : Cfg} {cal mk : CallF} {e : Ex} {tg : Tg} {k : Ik} {args : List Ex} {tg2 : Tg} {k2 : Ik} {args2 cs : List Ex} {env : Env}  {cc : Nat} {fs : List (Nat × Val)} {st : Store} : k_lc2_1 C cal mk e tg k args tg2 k2 args2 cs env  (.exc cc fs st) = .exc cc fs st := rfl
theorem k_lc2_2_ok {C : Cfg} {cal mk : CallF} {e : Ex} {tg : Tg} {k : Ik} {args : List Ex} {tg2 : Tg} {k2 : Ik} {args2 cs : List Ex} {env : Env} {vs : List Val} {xs : List Val} {st : Store} : k_lc2_2 C cal mk e tg k args tg2 k2 args2 cs env vs (.ok xs st) = k_lc2_3 C cal mk e tg k args tg2 k2 args2 cs env vs xs (lc2E C cal mk tg tg2 k2 args2 cs e env xs st) := rfl
theorem k_lc2_2_exc {C : Cfg} {cal mk : CallF} {e : Ex} {tg : Tg} {k : Ik} {args : List Ex} {tg2 : Tg} {k2 : Ik} {args2 cs : List Ex} {env : Env} {vs : List Val} {cc : Nat} {fs : List (Nat × Val)} {st : Store} : k_lc2_2 C cal mk e tg k args tg2 k2 args2 cs env vs (.exc cc fs st) = .exc cc fs st := rfl
theorem k_lc2_3_ok {C : Cfg} {cal mk : CallF} {e : Ex} {tg : Tg} {k : Ik} {args : List Ex} {tg2 : Tg} {k2 : Ik} {args2 cs : List Ex} {env : Env} {vs : List Val} {xs : List Val} {ys : List Val} {st : Store} : k_lc2_3 C cal mk e tg k args tg2 k2 args2 cs env vs xs (.ok ys st) = if ys.length ≤ maxLen then .ok (true, .lst ys) st else .bad := rfl
theorem k_lc2_3_exc {C : Cfg} {cal mk : CallF} {e : Ex} {tg : Tg} {k : Ik} {args : List Ex} {tg2 : Tg} {k2 : Ik} {args2 cs : List Ex} {env : Env} {vs : List Val} {xs : List Val} {cc : Nat} {fs : List (Nat × Val)} {st : Store} : k_lc2_3 C cal mk e tg k args tg2 k2 args2 cs env vs xs (.exc cc fs st) = .exc cc fs st := rfl
theorem e_lc2 {C : Cfg} {cal mk : CallF} {e : Ex} {tg : Tg} {k : Ik} {args : List Ex} {tg2 : Tg} {k2 : Ik} {args2 cs : List Ex} {env : Env} {st : Store} : ev C cal mk (.lc2 e tg k args tg2 k2 args2 cs) env st = k_lc2_1 C cal mk e tg k args tg2 k2 args2 cs env (opds C cal mk args env st) := by first | rfl | (simp only [ev]; rfl)
theorem k_dc_1_ok {C : Cfg} {cal mk : CallF} {k v : Ex} {i : Nat} {it : Ex} {cs : List Ex} {env : Env}  {w : Val} {st : Store} : k_dc_1 C cal mk k v i it cs env  (.ok w st) = k_dc_2 C cal mk k v i it cs env w (Res.of (walkOf w) st) := rfl
theorem k_dc_1_exc {C : Cfg} {cal mk : CallF} {k v : Ex} {i : Nat} {it : Ex} {cs : List Ex} {env : Env}  {cc : Nat} {fs : List (Nat × Val)} {st : Store} : k_dc_1 C cal mk k v i it cs env  (.exc cc fs st) = .exc cc fs st := rfl
theorem k_dc_2_ok {C : Cfg} {cal mk : CallF} {k v : Ex} {i : Nat} {it : Ex} {cs : List Ex} {env : Env} {w : Val} {xs : List Val} {st : Store} : k_dc_2 C cal mk k v i it cs env w (.ok xs st) = k_dc_3 C cal mk k v i it cs env w xs (dcE C cal mk i cs k v env xs st) := rfl
theorem k_dc_2_exc {C : Cfg} {cal mk : CallF} {k v : Ex} {i : Nat} {it : Ex} {cs : List Ex} {env : Env} {w : Val} {cc : Nat} {fs : List (Nat × Val)} {st : Store} : k_dc_2 C cal mk k v i it cs env w (.exc cc fs st) = .exc cc fs st := rfl
theorem k_dc_3_ok {C : Cfg} {cal mk : CallF} {k v : Ex} {i : Nat} {it : Ex} {cs : List Ex} {env : Env} {w : Val} {xs : List Val} {d : List (Val × Val)} {st : Store} : k_dc_3 C cal mk k v i it cs env w xs (.ok d st) = .ok (true, .dct d) st := rfl
theorem k_dc_3_exc {C : Cfg} {cal mk : CallF} {k v : Ex} {i : Nat} {it : Ex} {cs : List Ex} {env : Env} {w : Val} {xs : List Val} {cc : Nat} {fs : List (Nat × Val)} {st : Store} : k_dc_3 C cal mk k v i it cs env w xs (.exc cc fs st) = .exc cc fs st := rfl
theorem e_dc {C : Cfg} {cal mk : CallF} {k v : Ex} {i : Nat} {it : Ex} {cs : List Ex} {env : Env} {st : Store} : ev C cal mk (.dc k v i it cs) env st = k_dc_1 C cal mk k v i it cs env (opd C cal mk it env st) := by first | rfl | (simp only [ev]; rfl)
theorem k_fstr_1_ok {C : Cfg} {cal mk : CallF} {es : List Ex} {env : Env}  {s : Sn} {st : Store} : k_fstr_1 C cal mk es env  (.ok s st) = if s.length ≤ maxLen then .ok (false, .str s) st else .bad := rfl
theorem k_fstr_1_exc {C : Cfg} {cal mk : CallF} {es : List Ex} {env : Env}  {cc : Nat} {fs : List (Nat × Val)} {st : Store} : k_fstr_1 C cal mk es env  (.exc cc fs st) = .exc cc fs st := rfl
theorem e_fstr {C : Cfg} {cal mk : CallF} {es : List Ex} {env : Env} {st : Store} : ev C cal mk (.fstr es) env st = k_fstr_1 C cal mk es env (evF C cal mk es env st) := by first | rfl | (simp only [ev]; rfl)
theorem k_get_1_ok {C : Cfg} {cal mk : CallF} {d k v : Ex} {env : Env}  {dv : Val} {st : Store} : k_get_1 C cal mk d k v env  (.ok dv st) = k_get_2 C cal mk d k v env dv (ev C cal mk k env st) := rfl
theorem k_get_1_exc {C : Cfg} {cal mk : CallF} {d k v : Ex} {env : Env}  {cc : Nat} {fs : List (Nat × Val)} {st : Store} : k_get_1 C cal mk d k v env  (.exc cc fs st) = .exc cc fs st := rfl
theorem k_get_2_ok {C : Cfg} {cal mk : CallF} {d k v : Ex} {env : Env} {dv : Val} {kv : Rv} {st : Store} : k_get_2 C cal mk d k v env dv (.ok kv st) = k_get_3 C cal mk d k v env dv kv (ev C cal mk v env st) := rfl
theorem k_get_2_exc {C : Cfg} {cal mk : CallF} {d k v : Ex} {env : Env} {dv : Val} {cc : Nat} {fs : List (Nat × Val)} {st : Store} : k_get_2 C cal mk d k v env dv (.exc cc fs st) = .exc cc fs st := rfl
theorem k_get_3_ok {C : Cfg} {cal mk : CallF} {d k v : Ex} {env : Env} {dv : Val} {kv : Rv} {vv : Rv} {st : Store} : k_get_3 C cal mk d k v env dv kv (.ok vv st) = Res.of (getOp (asDict st dv) kv.2 vv.2) st := rfl
theorem k_get_3_exc {C : Cfg} {cal mk : CallF} {d k v : Ex} {env : Env} {dv : Val} {kv : Rv} {cc : Nat} {fs : List (Nat × Val)} {st : Store} : k_get_3 C cal mk d k v env dv kv (.exc cc fs st) = .exc cc fs st := rfl
theorem e_get {C : Cfg} {cal mk : CallF} {d k v : Ex} {env : Env} {st : Store} : ev C cal mk (.get d k v) env st = k_get_1 C cal mk d k v env (opd C cal mk d env st) := by first | rfl | (simp only [ev]; rfl)
theorem k_popb_1_ok {C : Cfg} {cal mk : CallF} {ov : Val} {i : Ex} {env : Env}  {iv : Rv} {st : Store} : k_popb_1 C cal mk ov i env  (.ok iv st) = popOp ov iv.2 st := rfl
theorem k_popb_1_exc {C : Cfg} {cal mk : CallF} {ov : Val} {i : Ex} {env : Env}  {cc : Nat} {fs : List (Nat × Val)} {st : Store} : k_popb_1 C cal mk ov i env  (.exc cc fs st) = .exc cc fs st := rfl
theorem k_pop_1_ok {C : Cfg} {cal mk : CallF} {o i : Ex} {env : Env}  {ov : Val} {st : Store} : k_pop_1 C cal mk o i env  (.ok ov st) = if (asList st ov).isSome then k_popb_1 C cal mk ov i env (ev C cal mk i env st) else .bad := rfl
theorem k_pop_1_exc {C : Cfg} {cal mk : CallF} {o i : Ex} {env : Env}  {cc : Nat} {fs : List (Nat × Val)} {st : Store} : k_pop_1 C cal mk o i env  (.exc cc fs st) = .exc cc fs st := rfl
theorem e_pop {C : Cfg} {cal mk : CallF} {o i : Ex} {env : Env} {st : Store} : ev C cal mk (.pop o i) env st = k_pop_1 C cal mk o i env (opd C cal mk o env st) := by first | rfl | (simp only [ev]; rfl)
theorem k_lenO_1_ok {C : Cfg} {cal mk : CallF} {e : Ex} {env : Env}  {ov : Val} {st : Store} : k_lenO_1 C cal mk e env  (.ok ov st) = methOp C cal ov 1 [] st := rfl
theorem k_lenO_1_exc {C : Cfg} {cal mk : CallF} {e : Ex} {env : Env}  {cc : Nat} {fs : List (Nat × Val)} {st : Store} : k_lenO_1 C cal mk e env  (.exc cc fs st) = .exc cc fs st := rfl
theorem e_lenO {C : Cfg} {cal mk : CallF} {e : Ex} {env : Env} {st : Store} : ev C cal mk (.lenO e) env st = k_lenO_1 C cal mk e env (opd C cal mk e env st) := by first | rfl | (simp only [ev]; rfl)
theorem k_inO_1_ok {C : Cfg} {cal mk : CallF} {a b : Ex} {env : Env}  {av : Rv} {st : Store} : k_inO_1 C cal mk a b env  (.ok av st) = k_inO_2 C cal mk a b env av (opd C cal mk b env st) := rfl
theorem k_inO_1_exc {C : Cfg} {cal mk : CallF} {a b : Ex} {env : Env}  {cc : Nat} {fs : List (Nat × Val)} {st : Store} : k_inO_1 C cal mk a b env  (.exc cc fs st) = .exc cc fs st := rfl
theorem k_inO_2_ok {C : Cfg} {cal mk : CallF} {a b : Ex} {env : Env} {av : Rv} {ov : Val} {st : Store} : k_inO_2 C cal mk a b env av (.ok ov st) = methOp C cal ov 2 [av.2] st := rfl
theorem k_inO_2_exc {C : Cfg} {cal mk : CallF} {a b : Ex} {env : Env} {av : Rv} {cc : Nat} {fs : List (Nat × Val)} {st : Store} : k_inO_2 C cal mk a b env av (.exc cc fs st) = .exc cc fs st := rfl
theorem e_inO {C : Cfg} {cal mk : CallF} {a b : Ex} {env : Env} {st : Store} : ev C cal mk (.inO a b) env st = k_inO_1 C cal mk a b env (ev C cal mk a env st) := by first | rfl | (simp only [ev]; rfl)
theorem k_eqO_1_ok {C : Cfg} {cal mk : CallF} {ng : Bool} {a b : Ex} {env : Env}  {ov : Val} {st : Store} : k_eqO_1 C cal mk ng a b env  (.ok ov st) = k_eqO_2 C cal mk ng a b env ov (ev C cal mk b env st) := rfl
theorem k_eqO_1_exc {C : Cfg} {cal mk : CallF} {ng : Bool} {a b : Ex} {env : Env}  {cc : Nat} {fs : List (Nat × Val)} {st : Store} : k_eqO_1 C cal mk ng a b env  (.exc cc fs st) = .exc cc fs st := rfl
theorem k_eqO_2_ok {C : Cfg} {cal mk : CallF} {ng : Bool} {a b : Ex} {env : Env} {ov : Val} {bv : Rv} {st : Store} : k_eqO_2 C cal mk ng a b env ov (.ok bv st) = k_eqO_3 C cal mk ng a b env ov bv (methOp C cal ov 3 [bv.2] st) := rfl
theorem k_eqO_2_exc {C : Cfg} {cal mk : CallF} {ng : Bool} {a b : Ex} {env : Env} {ov : Val} {cc : Nat} {fs : List (Nat × Val)} {st : Store} : k_eqO_2 C cal mk ng a b env ov (.exc cc fs st) = .exc cc fs st := rfl
theorem k_eqO_3_ok {C : Cfg} {cal mk : CallF} {ng : Bool} {a b : Ex} {env : Env} {ov : Val} {bv : Rv} {r : Rv} {st : Store} : k_eqO_3 C cal mk ng a b env ov bv (.ok r st) = Res.of ((asBl r).map fun c => (false, .bl (c != ng))) st := rfl
theorem k_eqO_3_exc {C : Cfg} {cal mk : CallF} {ng : Bool} {a b : Ex} {env : Env} {ov : Val} {bv : Rv} {cc : Nat} {fs : List (Nat × Val)} {st : Store} : k_eqO_3 C cal mk ng a b env ov bv (.exc cc fs st) = .exc cc fs st := rfl
theorem e_eqO {C : Cfg} {cal mk : CallF} {ng : Bool} {a b : Ex} {env : Env} {st : Store} : ev C cal mk (.eqO ng a b) env st = k_eqO_1 C cal mk ng a b env (opd C cal mk a env st) := by first | rfl | (simp only [ev]; rfl)
theorem e_hole {C : Cfg} {cal mk : CallF}  {env : Env} {st : Store} : ev C cal mk .hole env st = .bad := by first | rfl | (simp only [ev]; rfl) | (simp only [ev, rse0, rse1]; cases C.xf c with | none => rfl | some x => cases x <;> rfl)
theorem k_od_ok {v : Rv} {st : Store} : k_od (.ok v st) = .ok v.2 st := rfl
theorem k_od_exc {c : Nat} {fs : List (Nat × Val)} {st : Store} : k_od (.exc c fs st) = .exc c fs st := rfl
theorem od_glb {C : Cfg} {cal mk : CallF} {env : Env} {st : Store} {g : Nat} : opd C cal mk (.glb g) env st = k_od (ev C cal mk (.glb g) env st) := rfl
theorem od_cst {C : Cfg} {cal mk : CallF} {env : Env} {st : Store} {v : Val} : opd C cal mk (.cst v) env st = k_od (ev C cal mk (.cst v) env st) := rfl
theorem od_neg {C : Cfg} {cal mk : CallF} {env : Env} {st : Store} {i : Nat} : opd C cal mk (.neg i) env st = k_od (ev C cal mk (.neg i) env st) := rfl
theorem od_tup {C : Cfg} {cal mk : CallF} {env : Env} {st : Store} {es : List Ex} : opd C cal mk (.tup es) env st = k_od (ev C cal mk (.tup es) env st) := rfl
theorem od_lst {C : Cfg} {cal mk : CallF} {env : Env} {st : Store} {es : List Ex} : opd C cal mk (.lst es) env st = k_od (ev C cal mk (.lst es) env st) := rfl
theorem od_dct {C : Cfg} {cal mk : CallF} {env : Env} {st : Store} {es : List Ex} : opd C cal mk (.dct es) env st = k_od (ev C cal mk (.dct es) env st) := rfl
theorem od_dctS {C : Cfg} {cal mk : CallF} {env : Env} {st : Store} {a b c : Ex} : opd C cal mk (.dctS a b c) env st = k_od (ev C cal mk (.dctS a b c) env st) := rfl
theorem od_bin {C : Cfg} {cal mk : CallF} {env : Env} {st : Store} {o : Bop} {a b : Ex} : opd C cal mk (.bin o a b) env st = k_od (ev C cal mk (.bin o a b) env st) := rfl
theorem od_cmp {C : Cfg} {cal mk : CallF} {env : Env} {st : Store} {o : Cop} {a b : Ex} : opd C cal mk (.cmp o a b) env st = k_od (ev C cal mk (.cmp o a b) env st) := rfl
theorem od_cmp2 {C : Cfg} {cal mk : CallF} {env : Env} {st : Store} {o p : Cop} {a b c : Ex} : opd C cal mk (.cmp2 o p a b c) env st = k_od (ev C cal mk (.cmp2 o p a b c) env st) := rfl
theorem od_and {C : Cfg} {cal mk : CallF} {env : Env} {st : Store} {es : List Ex} : opd C cal mk (.and es) env st = k_od (ev C cal mk (.and es) env st) := rfl
theorem od_or {C : Cfg} {cal mk : CallF} {env : Env} {st : Store} {es : List Ex} : opd C cal mk (.or es) env st = k_od (ev C cal mk (.or es) env st) := rfl
theorem od_not {C : Cfg} {cal mk : CallF} {env : Env} {st : Store} {a : Ex} : opd C cal mk (.not a) env st = k_od (ev C cal mk (.not a) env st) := rfl
theorem od_ife {C : Cfg} {cal mk : CallF} {env : Env} {st : Store} {a b c : Ex} : opd C cal mk (.ife a b c) env st = k_od (ev C cal mk (.ife a b c) env st) := rfl
theorem od_call {C : Cfg} {cal mk : CallF} {env : Env} {st : Store} {f : Nat} {es : List Ex} : opd C cal mk (.call f es) env st = k_od (ev C cal mk (.call f es) env st) := rfl
theorem od_make {C : Cfg} {cal mk : CallF} {env : Env} {st : Store} {f : Nat} {es : List Ex} : opd C cal mk (.make f es) env st = k_od (ev C cal mk (.make f es) env st) := rfl
theorem od_meth {C : Cfg} {cal mk : CallF} {env : Env} {st : Store} {o : Ex} {m : Nat} {es : List Ex} : opd C cal mk (.meth o m es) env st = k_od (ev C cal mk (.meth o m es) env st) := rfl
theorem od_attr {C : Cfg} {cal mk : CallF} {env : Env} {st : Store} {o : Ex} {f : Nat} : opd C cal mk (.attr o f) env st = k_od (ev C cal mk (.attr o f) env st) := rfl
theorem od_prop {C : Cfg} {cal mk : CallF} {env : Env} {st : Store} {o : Ex} {f : Nat} : opd C cal mk (.prop o f) env st = k_od (ev C cal mk (.prop o f) env st) := rfl
theorem od_bi {C : Cfg} {cal mk : CallF} {env : Env} {st : Store} {b : Bi} {es : List Ex} : opd C cal mk (.bi b es) env st = k_od (ev C cal mk (.bi b es) env st) := rfl
theorem od_isi {C : Cfg} {cal mk : CallF} {env : Env} {st : Store} {a : Ex} {ts : List Ty} : opd C cal mk (.isi a ts) env st = k_od (ev C cal mk (.isi a ts) env st) := rfl
theorem od_isc {C : Cfg} {cal mk : CallF} {env : Env} {st : Store} {a : Ex} {c : Nat} : opd C cal mk (.isc a c) env st = k_od (ev C cal mk (.isc a c) env st) := rfl
theorem od_sub {C : Cfg} {cal mk : CallF} {env : Env} {st : Store} {a b : Ex} : opd C cal mk (.sub a b) env st = k_od (ev C cal mk (.sub a b) env st) := rfl
theorem od_gsub {C : Cfg} {cal mk : CallF} {env : Env} {st : Store} {g : Nat} {a : Ex} : opd C cal mk (.gsub g a) env st = k_od (ev C cal mk (.gsub g a) env st) := rfl
theorem od_gnin {C : Cfg} {cal mk : CallF} {env : Env} {st : Store} {g : Nat} {a : Ex} : opd C cal mk (.gnin g a) env st = k_od (ev C cal mk (.gnin g a) env st) := rfl
theorem od_slc {C : Cfg} {cal mk : CallF} {env : Env} {st : Store} {a b c : Ex} : opd C cal mk (.slc a b c) env st = k_od (ev C cal mk (.slc a b c) env st) := rfl
theorem od_slcL {C : Cfg} {cal mk : CallF} {env : Env} {st : Store} {a b : Ex} : opd C cal mk (.slcL a b) env st = k_od (ev C cal mk (.slcL a b) env st) := rfl
theorem od_slcR {C : Cfg} {cal mk : CallF} {env : Env} {st : Store} {a b : Ex} : opd C cal mk (.slcR a b) env st = k_od (ev C cal mk (.slcR a b) env st) := rfl
theorem od_rev {C : Cfg} {cal mk : CallF} {env : Env} {st : Store} {a : Ex} : opd C cal mk (.rev a) env st = k_od (ev C cal mk (.rev a) env st) := rfl
theorem od_lc {C : Cfg} {cal mk : CallF} {env : Env} {st : Store} {a : Ex} {tg : Tg} {k : Ik} {as bs : List Ex} : opd C cal mk (.lc a tg k as bs) env st = k_od (ev C cal mk (.lc a tg k as bs) env st) := rfl
theorem od_lc2 {C : Cfg} {cal mk : CallF} {env : Env} {st : Store} {a : Ex} {tg : Tg} {k : Ik} {as : List Ex} {tg2 : Tg} {k2 : Ik} {bs cs : List Ex} : opd C cal mk (.lc2 a tg k as tg2 k2 bs cs) env st = k_od (ev C cal mk (.lc2 a tg k as tg2 k2 bs cs) env st) := rfl
theorem od_dc {C : Cfg} {cal mk : CallF} {env : Env} {st : Store} {a b : Ex} {i : Nat} {c : Ex} {cs : List Ex} : opd C cal mk (.dc a b i c cs) env st = k_od (ev C cal mk (.dc a b i c cs) env st) := rfl
theorem od_fstr {C : Cfg} {cal mk : CallF} {env : Env} {st : Store} {es : List Ex} : opd C cal mk (.fstr es) env st = k_od (ev C cal mk (.fstr es) env st) := rfl
theorem od_get {C : Cfg} {cal mk : CallF} {env : Env} {st : Store} {a b c : Ex} : opd C cal mk (.get a b c) env st = k_od (ev C cal mk (.get a b c) env st) := rfl
theorem od_pop {C : Cfg} {cal mk : CallF} {env : Env} {st : Store} {a b : Ex} : opd C cal mk (.pop a b) env st = k_od (ev C cal mk (.pop a b) env st) := rfl
theorem od_lenO {C : Cfg} {cal mk : CallF} {env : Env} {st : Store} {a : Ex} : opd C cal mk (.lenO a) env st = k_od (ev C cal mk (.lenO a) env st) := rfl
theorem od_inO {C : Cfg} {cal mk : CallF} {env : Env} {st : Store} {a b : Ex} : opd C cal mk (.inO a b) env st = k_od (ev C cal mk (.inO a b) env st) := rfl
theorem od_eqO {C : Cfg} {cal mk : CallF} {env : Env} {st : Store} {n : Bool} {a b : Ex} : opd C cal mk (.eqO n a b) env st = k_od (ev C cal mk (.eqO n a b) env st) := rfl
theorem od_hole {C : Cfg} {cal mk : CallF} {env : Env} {st : Store}  : opd C cal mk (.hole) env st = k_od (ev C cal mk (.hole) env st) := rfl
theorem od_var {C : Cfg} {cal mk : CallF} {env : Env} {st : Store} {i : Nat} : opd C cal mk (.var i) env st = peekS env[i]? st := rfl
theorem e_evs_nil {C : Cfg} {cal mk : CallF}  {env : Env} {st : Store} : evs C cal mk [] env st = .ok [] st := by first | rfl | (simp only [evs]; rfl) | (simp only [evs, rse0, rse1]; cases C.xf c with | none => rfl | some x => cases x <;> rfl)
theorem k_evs_1_ok {C : Cfg} {cal mk : CallF} {r : List Ex} {env : Env}  {v : Rv} {st : Store} : k_evs_1 C cal mk r env  (.ok v st) = k_evs_2 C cal mk r env v (evs C cal mk r env st) := rfl
theorem k_evs_1_exc {C : Cfg} {cal mk : CallF} {r : List Ex} {env : Env}  {cc : Nat} {fs : List (Nat × Val)} {st : Store} : k_evs_1 C cal mk r env  (.exc cc fs st) = .exc cc fs st := rfl
theorem k_evs_2_ok {C : Cfg} {cal mk : CallF} {r : List Ex} {env : Env} {v : Rv} {ys : List Val} {st : Store} : k_evs_2 C cal mk r env v (.ok ys st) = .ok (v.2 :: ys) st := rfl
theorem k_evs_2_exc {C : Cfg} {cal mk : CallF} {r : List Ex} {env : Env} {v : Rv} {cc : Nat} {fs : List (Nat × Val)} {st : Store} : k_evs_2 C cal mk r env v (.exc cc fs st) = .exc cc fs st := rfl
theorem k_evsS_1_ok {C : Cfg} {cal mk : CallF} {e : Ex} {r : List Ex} {env : Env}  {v : Val} {st : Store} : k_evsS_1 C cal mk e r env  (.ok v st) = k_evsS_2 C cal mk e r env v (Res.of (seqOf st v) st) := rfl
theorem k_evsS_1_exc {C : Cfg} {cal mk : CallF} {e : Ex} {r : List Ex} {env : Env}  {cc : Nat} {fs : List (Nat × Val)} {st : Store} : k_evsS_1 C cal mk e r env  (.exc cc fs st) = .exc cc fs st := rfl
theorem k_evsS_2_ok {C : Cfg} {cal mk : CallF} {e : Ex} {r : List Ex} {env : Env} {v : Val} {xs : List Val} {st : Store} : k_evsS_2 C cal mk e r env v (.ok xs st) = k_evsS_3 C cal mk e r env v xs (evs C cal mk r env st) := rfl
theorem k_evsS_2_exc {C : Cfg} {cal mk : CallF} {e : Ex} {r : List Ex} {env : Env} {v : Val} {cc : Nat} {fs : List (Nat × Val)} {st : Store} : k_evsS_2 C cal mk e r env v (.exc cc fs st) = .exc cc fs st := rfl
theorem k_evsS_3_ok {C : Cfg} {cal mk : CallF} {e : Ex} {r : List Ex} {env : Env} {v : Val} {xs : List Val} {ys : List Val} {st : Store} : k_evsS_3 C cal mk e r env v xs (.ok ys st) = if xs.length + ys.length + 1000 ≤ maxLen then .ok (xs ++ ys) st else .bad := rfl
theorem k_evsS_3_exc {C : Cfg} {cal mk : CallF} {e : Ex} {r : List Ex} {env : Env} {v : Val} {xs : List Val} {cc : Nat} {fs : List (Nat × Val)} {st : Store} : k_evsS_3 C cal mk e r env v xs (.exc cc fs st) = .exc cc fs st := rfl
theorem e_evsS {C : Cfg} {cal mk : CallF} {e : Ex} {r : List Ex} {env : Env} {st : Store} : evs C cal mk (.star e :: r) env st = k_evsS_1 C cal mk e r env (opd C cal mk e env st) := by first | rfl | (simp only [evs]; rfl)
theorem e_evs_glb {C : Cfg} {cal mk : CallF} {g : Nat} {r : List Ex} {env : Env} {st : Store} : evs C cal mk (.glb g :: r) env st = k_evs_1 C cal mk r env (ev C cal mk (.glb g) env st) := by first | rfl | (simp only [evs]; rfl) | (simp only [evs, rse0, rse1]; cases C.xf c with | none => rfl | some x => cases x <;> rfl)
theorem e_evs_cst {C : Cfg} {cal mk : CallF} {v : Val} {r : List Ex} {env : Env} {st : Store} : evs C cal mk (.cst v :: r) env st = k_evs_1 C cal mk r env (ev C cal mk (.cst v) env st) := by first | rfl | (simp only [evs]; rfl) | (simp only [evs, rse0, rse1]; cases C.xf c with | none => rfl | some x => cases x <;> rfl)
theorem e_evs_neg {C : Cfg} {cal mk : CallF} {i : Nat} {r : List Ex} {env : Env} {st : Store} : evs C cal mk (.neg i :: r) env st = k_evs_1 C cal mk r env (ev C cal mk (.neg i) env st) := by first | rfl | (simp only [evs]; rfl) | (simp only [evs, rse0, rse1]; cases C.xf c with | none => rfl | some x => cases x <;> rfl)
theorem e_evs_tup {C : Cfg} {cal mk : CallF} {es : List Ex} {r : List Ex} {env : Env} {st : Store} : evs C cal mk (.tup es :: r) env st = k_evs_1 C cal mk r env (ev C cal mk (.tup es) env st) := by first | rfl | (simp only [evs]; rfl) | (simp only [evs, rse0, rse1]; cases C.xf c with | none => rfl | some x => cases x <;> rfl)
theorem e_evs_lst {C : Cfg} {cal mk : CallF} {es : List Ex} {r : List Ex} {env : Env} {st : Store} : evs C cal mk (.lst es :: r) env st = k_evs_1 C cal mk r env (ev C cal mk (.lst es) env st) := by first | rfl | (simp only [evs]; rfl) | (simp only [evs, rse0, rse1]; cases C.xf c with | none => rfl | some x => cases x <;> rfl)
theorem e_evs_dct {C : Cfg} {cal mk : CallF} {es : List Ex} {r : List Ex} {env : Env} {st : Store} : evs C cal mk (.dct es :: r) env st = k_evs_1 C cal mk r env (ev C cal mk (.dct es) env st) := by first | rfl | (simp only [evs]; rfl) | (simp only [evs, rse0, rse1]; cases C.xf c with | none => rfl | some x => cases x <;> rfl)
theorem e_evs_dctS {C : Cfg} {cal mk : CallF} {a b c : Ex} {r : List Ex} {env : Env} {st : Store} : evs C cal mk (.dctS a b c :: r) env st = k_evs_1 C cal mk r env (ev C cal mk (.dctS a b c) env st) := by first | rfl | (simp only [evs]; rfl) | (simp only [evs, rse0, rse1]; cases C.xf c with | none => rfl | some x => cases x <;> rfl)
theorem e_evs_bin {C : Cfg} {cal mk : CallF} {o : Bop} {a b : Ex} {r : List Ex} {env : Env} {st : Store} : evs C cal mk (.bin o a b :: r) env st = k_evs_1 C cal mk r env (ev C cal mk (.bin o a b) env st) := by first | rfl | (simp only [evs]; rfl) | (simp only [evs, rse0, rse1]; cases C.xf c with | none => rfl | some x => cases x <;> rfl)
theorem e_evs_cmp {C : Cfg} {cal mk : CallF} {o : Cop} {a b : Ex} {r : List Ex} {env : Env} {st : Store} : evs C cal mk (.cmp o a b :: r) env st = k_evs_1 C cal mk r env (ev C cal mk (.cmp o a b) env st) := by first | rfl | (simp only [evs]; rfl) | (simp only [evs, rse0, rse1]; cases C.xf c with | none => rfl | some x => cases x <;> rfl)
theorem e_evs_cmp2 {C : Cfg} {cal mk : CallF} {o p : Cop} {a b c : Ex} {r : List Ex} {env : Env} {st : Store} : evs C cal mk (.cmp2 o p a b c :: r) env st = k_evs_1 C cal mk r env (ev C cal mk (.cmp2 o p a b c) env st) := by first | rfl | (simp only [evs]; rfl) | (simp only [evs, rse0, rse1]; cases C.xf c with | none => rfl | some x => cases x <;> rfl)
theorem e_evs_and {C : Cfg} {cal mk : CallF} {es : List Ex} {r : List Ex} {env : Env} {st : Store} : evs C cal mk (.and es :: r) env st = k_evs_1 C cal mk r env (ev C cal mk (.and es) env st) := by first | rfl | (simp only [evs]; rfl) | (simp only [evs, rse0, rse1]; cases C.xf c with | none => rfl | some x => cases x <;> rfl)
theorem e_evs_or {C : Cfg} {cal mk : CallF} {es : List Ex} {r : List Ex} {env : Env} {st : Store} : evs C cal mk (.or es :: r) env st = k_evs_1 C cal mk r env (ev C cal mk (.or es) env st) := by first | rfl | (simp only [evs]; rfl) | (simp only [evs, rse0, rse1]; cases C.xf c with | none => rfl | some x => cases x <;> rfl)
theorem e_evs_not {C : Cfg} {cal mk : CallF} {a : Ex} {r : List Ex} {env : Env} {st : Store} : evs C cal mk (.not a :: r) env st = k_evs_1 C cal mk r env (ev C cal mk (.not a) env st) := by first | rfl | (simp only [evs]; rfl) | (simp only [evs, rse0, rse1]; cases C.xf c with | none => rfl | some x => cases x <;> rfl)
theorem e_evs_ife {C : Cfg} {cal mk : CallF} {a b c : Ex} {r : List Ex} {env : Env} {st : Store} : evs C cal mk (.ife a b c :: r) env st = k_evs_1 C cal mk r env (ev C cal mk (.ife a b c) env st) := by first | rfl | (simp only [evs]; rfl) | (simp only [evs, rse0, rse1]; cases C.xf c with | none => rfl | some x => cases x <;> rfl)
theorem e_evs_call {C : Cfg} {cal mk : CallF} {f : Nat} {es : List Ex} {r : List Ex} {env : Env} {st : Store} : evs C cal mk (.call f es :: r) env st = k_evs_1 C cal mk r env (ev C cal mk (.call f es) env st) := by first | rfl | (simp only [evs]; rfl) | (simp only [evs, rse0, rse1]; cases C.xf c with | none => rfl | some x => cases x <;> rfl)
theorem e_evs_make {C : Cfg} {cal mk : CallF} {f : Nat} {es : List Ex} {r : List Ex} {env : Env} {st : Store} : evs C cal mk (.make f es :: r) env st = k_evs_1 C cal mk r env (ev C cal mk (.make f es) env st) := by first | rfl | (simp only [evs]; rfl) | (simp only [evs, rse0, rse1]; cases C.xf c with | none => rfl | some x => cases x <;> rfl)
theorem e_evs_meth {C : Cfg} {cal mk : CallF} {o : Ex} {m : Nat} {es : List Ex} {r : List Ex} {env : Env} {st : Store} : evs C cal mk (.meth o m es :: r) env st = k_evs_1 C cal mk r env (ev C cal mk (.meth o m es) env st) := by first | rfl | (simp only [evs]; rfl) | (simp only [evs, rse0, rse1]; cases C.xf c with | none => rfl | some x => cases x <;> rfl)
theorem e_evs_attr {C : Cfg} {cal mk : CallF} {o : Ex} {f : Nat} {r : List Ex} {env : Env} {st : Store} : evs C cal mk (.attr o f :: r) env st = k_evs_1 C cal mk r env (ev C cal mk (.attr o f) env st) := by first | rfl | (simp only [evs]; rfl) | (simp only [evs, rse0, rse1]; cases C.xf c with | none => rfl | some x => cases x <;> rfl)
theorem e_evs_prop {C : Cfg} {cal mk : CallF} {o : Ex} {f : Nat} {r : List Ex} {env : Env} {st : Store} : evs C cal mk (.prop o f :: r) env st = k_evs_1 C cal mk r env (ev C cal mk (.prop o f) env st) := by first | rfl | (simp only [evs]; rfl) | (simp only [evs, rse0, rse1]; cases C.xf c with | none => rfl | some x => cases x <;> rfl)
theorem e_evs_bi {C : Cfg} {cal mk : CallF} {b : Bi} {es : List Ex} {r : List Ex} {env : Env} {st : Store} : evs C cal mk (.bi b es :: r) env st = k_evs_1 C cal mk r env (ev C cal mk (.bi b es) env st) := by first | rfl | (simp only [evs]; rfl) | (simp only [evs, rse0, rse1]; cases C.xf c with | none => rfl | some x => cases x <;> rfl)
theorem e_evs_isi {C : Cfg} {cal mk : CallF} {a : Ex} {ts : List Ty} {r : List Ex} {env : Env} {st : Store} : evs C cal mk (.isi a ts :: r) env st = k_evs_1 C cal mk r env (ev C cal mk (.isi a ts) env st) := by first | rfl | (simp only [evs]; rfl) | (simp only [evs, rse0, rse1]; cases C.xf c with | none => rfl | some x => cases x <;> rfl)
theorem e_evs_isc {C : Cfg} {cal mk : CallF} {a : Ex} {c : Nat} {r : List Ex} {env : Env} {st : Store} : evs C cal mk (.isc a c :: r) env st = k_evs_1 C cal mk r env (ev C cal mk (.isc a c) env st) := by first | rfl | (simp only [evs]; rfl) | (simp only [evs, rse0, rse1]; cases C.xf c with | none => rfl | some x => cases x <;> rfl)
theorem e_evs_sub {C : Cfg} {cal mk : CallF} {a b : Ex} {r : List Ex} {env : Env} {st : Store} : evs C cal mk (.sub a b :: r) env st = k_evs_1 C cal mk r env (ev C cal mk (.sub a b) env st) := by first | rfl | (simp only [evs]; rfl) | (simp only [evs, rse0, rse1]; cases C.xf c with | none => rfl | some x => cases x <;> rfl)
theorem e_evs_gsub {C : Cfg} {cal mk : CallF} {g : Nat} {a : Ex} {r : List Ex} {env : Env} {st : Store} : evs C cal mk (.gsub g a :: r) env st = k_evs_1 C cal mk r env (ev C cal mk (.gsub g a) env st) := by first | rfl | (simp only [evs]; rfl) | (simp only [evs, rse0, rse1]; cases C.xf c with | none => rfl | some x => cases x <;> rfl)
theorem e_evs_gnin {C : Cfg} {cal mk : CallF} {g : Nat} {a : Ex} {r : List Ex} {env : Env} {st : Store} : evs C cal mk (.gnin g a :: r) env st = k_evs_1 C cal mk r env (ev C cal mk (.gnin g a) env st) := by first | rfl | (simp only [evs]; rfl) | (simp only [evs, rse0, rse1]; cases C.xf c with | none => rfl | some x => cases x <;> rfl)
theorem e_evs_slc {C : Cfg} {cal mk : CallF} {a b c : Ex} {r : List Ex} {env : Env} {st : Store} : evs C cal mk (.slc a b c :: r) env st = k_evs_1 C cal mk r env (ev C cal mk (.slc a b c) env st) := by first | rfl | (simp only [evs]; rfl) | (simp only [evs, rse0, rse1]; cases C.xf c with | none => rfl | some x => cases x <;> rfl)
theorem e_evs_slcL {C : Cfg} {cal mk : CallF} {a b : Ex} {r : List Ex} {env : Env} {st : Store} : evs C cal mk (.slcL a b :: r) env st = k_evs_1 C cal mk r env (ev C cal mk (.slcL a b) env st) := by first | rfl | (simp only [evs]; rfl) | (simp only [evs, rse0, rse1]; cases C.xf c with | none => rfl | some x => cases x <;> rfl)
theorem e_evs_slcR {C : Cfg} {cal mk : CallF} {a b : Ex} {r : List Ex} {env : Env} {st : Store} : evs C cal mk (.slcR a b :: r) env st = k_evs_1 C cal mk r env (ev C cal mk (.slcR a b) env st) := by first | rfl | (simp only [evs]; rfl) | (simp only [evs, rse0, rse1]; cases C.xf c with | none => rfl | some x => cases x <;> rfl)
theorem e_evs_rev {C : Cfg} {cal mk : CallF} {a : Ex} {r : List Ex} {env : Env} {st : Store} : evs C cal mk (.rev a :: r) env st = k_evs_1 C cal mk r env (ev C cal mk (.rev a) env st) := by first | rfl | (simp only [evs]; rfl) | (simp only [evs, rse0, rse1]; cases C.xf c with | none => rfl | some x => cases x <;> rfl)
theorem e_evs_lc {C : Cfg} {cal mk : CallF} {a : Ex} {tg : Tg} {k : Ik} {as bs : List Ex} {r : List Ex} {env : Env} {st : Store} : evs C cal mk (.lc a tg k as bs :: r) env st = k_evs_1 C cal mk r env (ev C cal mk (.lc a tg k as bs) env st) := by first | rfl | (simp only [evs]; rfl) | (simp only [evs, rse0, rse1]; cases C.xf c with | none => rfl | some x => cases x <;> rfl)
theorem e_evs_lc2 {C : Cfg} {cal mk : CallF} {a : Ex} {tg : Tg} {k : Ik} {as : List Ex} {tg2 : Tg} {k2 : Ik} {bs cs : List Ex} {r : List Ex} {env : Env} {st : Store} : evs C cal mk (.lc2 a tg k as tg2 k2 bs cs :: r) env st = k_evs_1 C cal mk r env (ev C cal mk (.lc2 a tg k as tg2 k2 bs cs) env st) := by first | rfl | (simp only [evs]; rfl) | (simp only [evs, rse0, rse1]; cases C.xf c with | none => rfl | some x => cases x <;> rfl)
theorem e_evs_dc {C : Cfg} {cal mk : CallF} {a b : Ex} {i : Nat} {c : Ex} {cs : List Ex} {r : List Ex} {env : Env} {st : Store} : evs C cal mk (.dc a b i c cs :: r) env st = k_evs_1 C cal mk r env (ev C cal mk (.dc a b i c cs) env st) := by first | rfl | (simp only [evs]; rfl) | (simp only [evs, rse0, rse1]; cases C.xf c with | none => rfl | some x => cases x <;> rfl)
theorem e_evs_fstr {C : Cfg} {cal mk : CallF} {es : List Ex} {r : List Ex} {env : Env} {st : Store} : evs C cal mk (.fstr es :: r) env st = k_evs_1 C cal mk r env (ev C cal mk (.fstr es) env st) := by first | rfl | (simp only [evs]; rfl) | (simp only [evs, rse0, rse1]; cases C.xf c with | none => rfl | some x => cases x <;> rfl)
theorem e_evs_get {C : Cfg} {cal mk : CallF} {a b c : Ex} {r : List Ex} {env : Env} {st : Store} : evs C cal mk (.get a b c :: r) env st = k_evs_1 C cal mk r env (ev C cal mk (.get a b c) env st) := by first | rfl | (simp only [evs]; rfl) | (simp only [evs, rse0, rse1]; cases C.xf c with | none => rfl | some x => cases x <;> rfl)
theorem e_evs_pop {C : Cfg} {cal mk : CallF} {a b : Ex} {r : List Ex} {env : Env} {st : Store} : evs C cal mk (.pop a b :: r) env st = k_evs_1 C cal mk r env (ev C cal mk (.pop a b) env st) := by first | rfl | (simp only [evs]; rfl) | (simp only [evs, rse0, rse1]; cases C.xf c with | none => rfl | some x => cases x <;> rfl)
theorem e_evs_lenO {C : Cfg} {cal mk : CallF} {a : Ex} {r : List Ex} {env : Env} {st : Store} : evs C cal mk (.lenO a :: r) env st = k_evs_1 C cal mk r env (ev C cal mk (.lenO a) env st) := by first | rfl | (simp only [evs]; rfl) | (simp only [evs, rse0, rse1]; cases C.xf c with | none => rfl | some x => cases x <;> rfl)
theorem e_evs_inO {C : Cfg} {cal mk : CallF} {a b : Ex} {r : List Ex} {env : Env} {st : Store} : evs C cal mk (.inO a b :: r) env st = k_evs_1 C cal mk r env (ev C cal mk (.inO a b) env st) := by first | rfl | (simp only [evs]; rfl) | (simp only [evs, rse0, rse1]; cases C.xf c with | none => rfl | some x => cases x <;> rfl)
theorem e_evs_eqO {C : Cfg} {cal mk : CallF} {n : Bool} {a b : Ex} {r : List Ex} {env : Env} {st : Store} : evs C cal mk (.eqO n a b :: r) env st = k_evs_1 C cal mk r env (ev C cal mk (.eqO n a b) env st) := by first | rfl | (simp only [evs]; rfl) | (simp only [evs, rse0, rse1]; cases C.xf c with | none => rfl | some x => cases x <;> rfl)
theorem e_evs_hole {C : Cfg} {cal mk : CallF}  {r : List Ex} {env : Env} {st : Store} : evs C cal mk (.hole :: r) env st = k_evs_1 C cal mk r env (ev C cal mk (.hole) env st) := by first | rfl | (simp only [evs]; rfl) | (simp only [evs, rse0, rse1]; cases C.xf c with | none => rfl | some x => cases x <;> rfl)
theorem e_evs_var {C : Cfg} {cal mk : CallF} {i : Nat} {r : List Ex} {env : Env} {st : Store} : evs C cal mk (.var i :: r) env st = k_evs_1 C cal mk r env (ev C cal mk (.var i) env st) := by first | rfl | (simp only [evs]; rfl) | (simp only [evs, rse0, rse1]; cases C.xf c with | none => rfl | some x => cases x <;> rfl)
theorem e_opds_nil {C : Cfg} {cal mk : CallF}  {env : Env} {st : Store} : opds C cal mk [] env st = .ok [] st := by first | rfl | (simp only [opds]; rfl) | (simp only [opds, rse0, rse1]; cases C.xf c with | none => rfl | some x => cases x <;> rfl)
theorem k_opds_1_ok {C : Cfg} {cal mk : CallF} {e : Ex} {r : List Ex} {env : Env}  {v : Val} {st : Store} : k_opds_1 C cal mk e r env  (.ok v st) = k_opds_2 C cal mk e r env v (opds C cal mk r env st) := rfl
theorem k_opds_1_exc {C : Cfg} {cal mk : CallF} {e : Ex} {r : List Ex} {env : Env}  {cc : Nat} {fs : List (Nat × Val)} {st : Store} : k_opds_1 C cal mk e r env  (.exc cc fs st) = .exc cc fs st := rfl
theorem k_opds_2_ok {C : Cfg} {cal mk : CallF} {e : Ex} {r : List Ex} {env : Env} {v : Val} {ys : List Val} {st : Store} : k_opds_2 C cal mk e r env v (.ok ys st) = .ok (v :: ys) st := rfl
theorem k_opds_2_exc {C : Cfg} {cal mk : CallF} {e : Ex} {r : List Ex} {env : Env} {v : Val} {cc : Nat} {fs : List (Nat × Val)} {st : Store} : k_opds_2 C cal mk e r env v (.exc cc fs st) = .exc cc fs st := rfl
theorem e_opds {C : Cfg} {cal mk : CallF} {e : Ex} {r : List Ex} {env : Env} {st : Store} : opds C cal mk (e :: r) env st = k_opds_1 C cal mk e r env (opd C cal mk e env st) := by first | rfl | (simp only [opds]; rfl)
theorem e_evF_nil {C : Cfg} {cal mk : CallF}  {env : Env} {st : Store} : evF C cal mk [] env st = .ok [] st := by first | rfl | (simp only [evF]; rfl) | (simp only [evF, rse0, rse1]; cases C.xf c with | none => rfl | some x => cases x <;> rfl)
theorem k_evF_1_ok {C : Cfg} {cal mk : CallF} {e : Ex} {r : List Ex} {env : Env}  {v : Rv} {st : Store} : k_evF_1 C cal mk e r env  (.ok v st) = k_evF_2 C cal mk e r env v (Res.of (asStr v.2) st) := rfl
theorem k_evF_1_exc {C : Cfg} {cal mk : CallF} {e : Ex} {r : List Ex} {env : Env}  {cc : Nat} {fs : List (Nat × Val)} {st : Store} : k_evF_1 C cal mk e r env  (.exc cc fs st) = .exc cc fs st := rfl
theorem k_evF_2_ok {C : Cfg} {cal mk : CallF} {e : Ex} {r : List Ex} {env : Env} {v : Rv} {s : Sn} {st : Store} : k_evF_2 C cal mk e r env v (.ok s st) = k_evF_3 C cal mk e r env v s (evF C cal mk r env st) := rfl
theorem k_evF_2_exc {C : Cfg} {cal mk : CallF} {e : Ex} {r : List Ex} {env : Env} {v : Rv} {cc : Nat} {fs : List (Nat × Val)} {st : Store} : k_evF_2 C cal mk e r env v (.exc cc fs st) = .exc cc fs st := rfl
theorem k_evF_3_ok {C : Cfg} {cal mk : CallF} {e : Ex} {r : List Ex} {env : Env} {v : Rv} {s : Sn} {t : Sn} {st : Store} : k_evF_3 C cal mk e r env v s (.ok t st) = .ok (s ++ t) st := rfl
theorem k_evF_3_exc {C : Cfg} {cal mk : CallF} {e : Ex} {r : List Ex} {env : Env} {v : Rv} {s : Sn} {cc : Nat} {fs : List (Nat × Val)} {st : Store} : k_evF_3 C cal mk e r env v s (.exc cc fs st) = .exc cc fs st := rfl
theorem e_evF {C : Cfg} {cal mk : CallF} {e : Ex} {r : List Ex} {env : Env} {st : Store} : evF C cal mk (e :: r) env st = k_evF_1 C cal mk e r env (ev C cal mk e env st) := by first | rfl | (simp only [evF]; rfl)
theorem k_evAnd1_1_ok {C : Cfg} {cal mk : CallF} {e : Ex} {env : Env}  {v : Rv} {st : Store} : k_evAnd1_1 C cal mk e env  (.ok v st) = .ok (false, v.2) st := rfl
theorem k_evAnd1_1_exc {C : Cfg} {cal mk : CallF} {e : Ex} {env : Env}  {cc : Nat} {fs : List (Nat × Val)} {st : Store} : k_evAnd1_1 C cal mk e env  (.exc cc fs st) = .exc cc fs st := rfl
theorem e_evAnd1 {C : Cfg} {cal mk : CallF} {e : Ex} {env : Env} {st : Store} : evAnd C cal mk [e] env st = k_evAnd1_1 C cal mk e env (ev C cal mk e env st) := by first | rfl | (simp only [evAnd]; rfl)
theorem k_evAnd2_1_ok {C : Cfg} {cal mk : CallF} {e e2 : Ex} {r : List Ex} {env : Env}  {v : Rv} {st : Store} : k_evAnd2_1 C cal mk e e2 r env  (.ok v st) = k_evAnd2_2 C cal mk e e2 r env v (Res.of (asBl v) st) := rfl
theorem k_evAnd2_1_exc {C : Cfg} {cal mk : CallF} {e e2 : Ex} {r : List Ex} {env : Env}  {cc : Nat} {fs : List (Nat × Val)} {st : Store} : k_evAnd2_1 C cal mk e e2 r env  (.exc cc fs st) = .exc cc fs st := rfl
theorem k_evAnd2_2_ok {C : Cfg} {cal mk : CallF} {e e2 : Ex} {r : List Ex} {env : Env} {v : Rv} {b : Bool} {st : Store} : k_evAnd2_2 C cal mk e e2 r env v (.ok b st) = if b then evAnd C cal mk (e2 :: r) env st else .ok (false, .bl false) st := rfl
theorem k_evAnd2_2_exc {C : Cfg} {cal mk : CallF} {e e2 : Ex} {r : List Ex} {env : Env} {v : Rv} {cc : Nat} {fs : List (Nat × Val)} {st : Store} : k_evAnd2_2 C cal mk e e2 r env v (.exc cc fs st) = .exc cc fs st := rfl
theorem e_evAnd2 {C : Cfg} {cal mk : CallF} {e e2 : Ex} {r : List Ex} {env : Env} {st : Store} : evAnd C cal mk (e :: e2 :: r) env st = k_evAnd2_1 C cal mk e e2 r env (ev C cal mk e env st) := by first | rfl | (simp only [evAnd]; rfl)
theorem k_evOr1_1_ok {C : Cfg} {cal mk : CallF} {e : Ex} {env : Env}  {v : Rv} {st : Store} : k_evOr1_1 C cal mk e env  (.ok v st) = .ok (false, v.2) st := rfl
theorem k_evOr1_1_exc {C : Cfg} {cal mk : CallF} {e : Ex} {env : Env}  {cc : Nat} {fs : List (Nat × Val)} {st : Store} : k_evOr1_1 C cal mk e env  (.exc cc fs st) = .exc cc fs st := rfl
theorem e_evOr1 {C : Cfg} {cal mk : CallF} {e : Ex} {env : Env} {st : Store} : evOr C cal mk [e] env st = k_evOr1_1 C cal mk e env (ev C cal mk e env st) := by first | rfl | (simp only [evOr]; rfl)
theorem k_evOr2_1_ok {C : Cfg} {cal mk : CallF} {e e2 : Ex} {r : List Ex} {env : Env}  {v : Rv} {st : Store} : k_evOr2_1 C cal mk e e2 r env  (.ok v st) = k_evOr2_2 C cal mk e e2 r env v (Res.of (asBl v) st) := rfl
theorem k_evOr2_1_exc {C : Cfg} {cal mk : CallF} {e e2 : Ex} {r : List Ex} {env : Env}  {cc : Nat} {fs : List (Nat × Val)} {st : Store} : k_evOr2_1 C cal mk e e2 r env  (.exc cc fs st) = .exc cc fs st := rfl
theorem k_evOr2_2_ok {C : Cfg} {cal mk : CallF} {e e2 : Ex} {r : List Ex} {env : Env} {v : Rv} {b : Bool} {st : Store} : k_evOr2_2 C cal mk e e2 r env v (.ok b st) = if b then .ok (false, .bl true) st else evOr C cal mk (e2 :: r) env st := rfl
theorem k_evOr2_2_exc {C : Cfg} {cal mk : CallF} {e e2 : Ex} {r : List Ex} {env : Env} {v : Rv} {cc : Nat} {fs : List (Nat × Val)} {st : Store} : k_evOr2_2 C cal mk e e2 r env v (.exc cc fs st) = .exc cc fs st := rfl
theorem e_evOr2 {C : Cfg} {cal mk : CallF} {e e2 : Ex} {r : List Ex} {env : Env} {st : Store} : evOr C cal mk (e :: e2 :: r) env st = k_evOr2_1 C cal mk e e2 r env (ev C cal mk e env st) := by first | rfl | (simp only [evOr]; rfl)
theorem e_evAll_nil {C : Cfg} {cal mk : CallF}  {env : Env} {st : Store} : evAll C cal mk [] env st = .ok true st := by first | rfl | (simp only [evAll]; rfl) | (simp only [evAll, rse0, rse1]; cases C.xf c with | none => rfl | some x => cases x <;> rfl)
theorem k_evAll_1_ok {C : Cfg} {cal mk : CallF} {e : Ex} {r : List Ex} {env : Env}  {v : Rv} {st : Store} : k_evAll_1 C cal mk e r env  (.ok v st) = k_evAll_2 C cal mk e r env v (Res.of (asBl v) st) := rfl
theorem k_evAll_1_exc {C : Cfg} {cal mk : CallF} {e : Ex} {r : List Ex} {env : Env}  {cc : Nat} {fs : List (Nat × Val)} {st : Store} : k_evAll_1 C cal mk e r env  (.exc cc fs st) = .exc cc fs st := rfl
theorem k_evAll_2_ok {C : Cfg} {cal mk : CallF} {e : Ex} {r : List Ex} {env : Env} {v : Rv} {b : Bool} {st : Store} : k_evAll_2 C cal mk e r env v (.ok b st) = if b then evAll C cal mk r env st else .ok false st := rfl
theorem k_evAll_2_exc {C : Cfg} {cal mk : CallF} {e : Ex} {r : List Ex} {env : Env} {v : Rv} {cc : Nat} {fs : List (Nat × Val)} {st : Store} : k_evAll_2 C cal mk e r env v (.exc cc fs st) = .exc cc fs st := rfl
theorem e_evAll {C : Cfg} {cal mk : CallF} {e : Ex} {r : List Ex} {env : Env} {st : Store} : evAll C cal mk (e :: r) env st = k_evAll_1 C cal mk e r env (ev C cal mk e env st) := by first | rfl | (simp only [evAll]; rfl)
theorem e_evOs_nil {C : Cfg} {cal mk : CallF}  {env : Env} {st : Store} : evOs C cal mk [] env st = .ok [] st := by first | rfl | (simp only [evOs]; rfl) | (simp only [evOs, rse0, rse1]; cases C.xf c with | none => rfl | some x => cases x <;> rfl)
theorem k_evOs_1_ok {C : Cfg} {cal mk : CallF} {e : Ex} {r : List Ex} {env : Env}  {v : Rv} {st : Store} : k_evOs_1 C cal mk e r env  (.ok v st) = k_evOs_2 C cal mk e r env v (evOs C cal mk r env st) := rfl
theorem k_evOs_1_exc {C : Cfg} {cal mk : CallF} {e : Ex} {r : List Ex} {env : Env}  {cc : Nat} {fs : List (Nat × Val)} {st : Store} : k_evOs_1 C cal mk e r env  (.exc cc fs st) = .exc cc fs st := rfl
theorem k_evOs_2_ok {C : Cfg} {cal mk : CallF} {e : Ex} {r : List Ex} {env : Env} {v : Rv} {ys : List Rv} {st : Store} : k_evOs_2 C cal mk e r env v (.ok ys st) = .ok (v :: ys) st := rfl
theorem k_evOs_2_exc {C : Cfg} {cal mk : CallF} {e : Ex} {r : List Ex} {env : Env} {v : Rv} {cc : Nat} {fs : List (Nat × Val)} {st : Store} : k_evOs_2 C cal mk e r env v (.exc cc fs st) = .exc cc fs st := rfl
theorem e_evOs {C : Cfg} {cal mk : CallF} {e : Ex} {r : List Ex} {env : Env} {st : Store} : evOs C cal mk (e :: r) env st = k_evOs_1 C cal mk e r env (ev C cal mk e env st) := by first | rfl | (simp only [evOs]; rfl)
theorem k_evB_1_ok {C : Cfg} {cal mk : CallF} {c : Ex} {env : Env}  {v : Rv} {st : Store} : k_evB_1 C cal mk c env  (.ok v st) = Res.of (asBl v) st := rfl
theorem k_evB_1_exc {C : Cfg} {cal mk : CallF} {c : Ex} {env : Env}  {cc : Nat} {fs : List (Nat × Val)} {st : Store} : k_evB_1 C cal mk c env  (.exc cc fs st) = .exc cc fs st := rfl
theorem e_evB {C : Cfg} {cal mk : CallF} {c : Ex} {env : Env} {st : Store} : evB C cal mk c env st = k_evB_1 C cal mk c env (ev C cal mk c env st) := by first | rfl | (simp only [evB]; rfl)
theorem k_st_asg_1_ok {C : Cfg} {cal mk : CallF} {i : Nat} {e : Ex} {env : Env}  {v : Rv} {st : Store} : k_st_asg_1 C cal mk i e env  (.ok v st) = .nx (env.set i (some v)) st := rfl
theorem k_st_asg_1_exc {C : Cfg} {cal mk : CallF} {i : Nat} {e : Ex} {env : Env}  {cc : Nat} {fs : List (Nat × Val)} {st : Store} : k_st_asg_1 C cal mk i e env  (.exc cc fs st) = .exc cc fs env st := rfl
theorem e_st_asg {C : Cfg} {cal mk : CallF} {i : Nat} {e : Ex} {env : Env} {st : Store} : evS C cal mk (.asg i e) env st = k_st_asg_1 C cal mk i e env (ev C cal mk e env st) := by first | rfl | (simp only [evS]; rfl)
theorem k_st_asgB_1_ok {C : Cfg} {cal mk : CallF} {i : Nat} {e : Ex} {env : Env}  {v : Rv} {st : Store} : k_st_asgB_1 C cal mk i e env  (.ok v st) = boxS env i (box v st) := rfl
theorem k_st_asgB_1_exc {C : Cfg} {cal mk : CallF} {i : Nat} {e : Ex} {env : Env}  {cc : Nat} {fs : List (Nat × Val)} {st : Store} : k_st_asgB_1 C cal mk i e env  (.exc cc fs st) = .exc cc fs env st := rfl
theorem e_st_asgB {C : Cfg} {cal mk : CallF} {i : Nat} {e : Ex} {env : Env} {st : Store} : evS C cal mk (.asgB i e) env st = k_st_asgB_1 C cal mk i e env (ev C cal mk e env st) := by first | rfl | (simp only [evS]; rfl)
theorem k_st_asgP_1_ok {C : Cfg} {cal mk : CallF} {is : List Nat} {es : List Ex} {env : Env}  {vs : List Rv} {st : Store} : k_st_asgP_1 C cal mk is es env  (.ok vs st) = nxO (setOs is vs env) st := rfl
theorem k_st_asgP_1_exc {C : Cfg} {cal mk : CallF} {is : List Nat} {es : List Ex} {env : Env}  {cc : Nat} {fs : List (Nat × Val)} {st : Store} : k_st_asgP_1 C cal mk is es env  (.exc cc fs st) = .exc cc fs env st := rfl
theorem e_st_asgP {C : Cfg} {cal mk : CallF} {is : List Nat} {es : List Ex} {env : Env} {st : Store} : evS C cal mk (.asgP is es) env st = k_st_asgP_1 C cal mk is es env (evOs C cal mk es env st) := by first | rfl | (simp only [evS]; rfl)
theorem k_st_unp_1_ok {C : Cfg} {cal mk : CallF} {is : List Nat} {e : Ex} {env : Env}  {v : Val} {st : Store} : k_st_unp_1 C cal mk is e env  (.ok v st) = nxO (setTg (.tp is) v env) st := rfl
theorem k_st_unp_1_exc {C : Cfg} {cal mk : CallF} {is : List Nat} {e : Ex} {env : Env}  {cc : Nat} {fs : List (Nat × Val)} {st : Store} : k_st_unp_1 C cal mk is e env  (.exc cc fs st) = .exc cc fs env st := rfl
theorem e_st_unp {C : Cfg} {cal mk : CallF} {is : List Nat} {e : Ex} {env : Env} {st : Store} : evS C cal mk (.unp is e) env st = k_st_unp_1 C cal mk is e env (opd C cal mk e env st) := by first | rfl | (simp only [evS]; rfl)
theorem k_st_app_1_ok {C : Cfg} {cal mk : CallF} {i : Nat} {e : Ex} {env : Env}  {v : Rv} {st : Store} : k_st_app_1 C cal mk i e env  (.ok v st) = change i env st (appV v.2) (appO v.2) := rfl
theorem k_st_app_1_exc {C : Cfg} {cal mk : CallF} {i : Nat} {e : Ex} {env : Env}  {cc : Nat} {fs : List (Nat × Val)} {st : Store} : k_st_app_1 C cal mk i e env  (.exc cc fs st) = .exc cc fs env st := rfl
theorem e_st_app {C : Cfg} {cal mk : CallF} {i : Nat} {e : Ex} {env : Env} {st : Store} : evS C cal mk (.app (.var i) e) env st = if isL i env st then k_st_app_1 C cal mk i e env (ev C cal mk e env st) else .bad := by first | rfl | (simp only [evS]; rfl) | (simp only [evS, rse0, rse1]; cases C.xf c with | none => rfl | some x => cases x <;> rfl)
theorem k_st_appb_1_ok {C : Cfg} {cal mk : CallF} {w : Val} {e : Ex} {env : Env}  {v : Rv} {st : Store} : k_st_appb_1 C cal mk w e env  (.ok v st) = appR env st w v.2 := rfl
theorem k_st_appb_1_exc {C : Cfg} {cal mk : CallF} {w : Val} {e : Ex} {env : Env}  {cc : Nat} {fs : List (Nat × Val)} {st : Store} : k_st_appb_1 C cal mk w e env  (.exc cc fs st) = .exc cc fs env st := rfl
theorem k_st_appA_1_ok {C : Cfg} {cal mk : CallF} {o : Ex} {f : Nat} {e : Ex} {env : Env}  {w : Val} {st : Store} : k_st_appA_1 C cal mk o f e env  (.ok w st) = if (asList st w).isSome then k_st_appb_1 C cal mk w e env (ev C cal mk e env st) else .bad := rfl
theorem k_st_appA_1_exc {C : Cfg} {cal mk : CallF} {o : Ex} {f : Nat} {e : Ex} {env : Env}  {cc : Nat} {fs : List (Nat × Val)} {st : Store} : k_st_appA_1 C cal mk o f e env  (.exc cc fs st) = .exc cc fs env st := rfl
theorem e_st_appA {C : Cfg} {cal mk : CallF} {o : Ex} {f : Nat} {e : Ex} {env : Env} {st : Store} : evS C cal mk (.app (.attr o f) e) env st = k_st_appA_1 C cal mk o f e env (opd C cal mk (.attr o f) env st) := by first | rfl | (simp only [evS]; rfl)
theorem k_st_ext_1_ok {C : Cfg} {cal mk : CallF} {i : Nat} {e : Ex} {env : Env}  {v : Val} {st : Store} : k_st_ext_1 C cal mk i e env  (.ok v st) = extS i env st (asList st v) := rfl
theorem k_st_ext_1_exc {C : Cfg} {cal mk : CallF} {i : Nat} {e : Ex} {env : Env}  {cc : Nat} {fs : List (Nat × Val)} {st : Store} : k_st_ext_1 C cal mk i e env  (.exc cc fs st) = .exc cc fs env st := rfl
theorem e_st_ext {C : Cfg} {cal mk : CallF} {i : Nat} {e : Ex} {env : Env} {st : Store} : evS C cal mk (.ext i e) env st = k_st_ext_1 C cal mk i e env (opd C cal mk e env st) := by first | rfl | (simp only [evS]; rfl)
theorem k_st_rem_1_ok {C : Cfg} {cal mk : CallF} {i : Nat} {e : Ex} {env : Env}  {v : Rv} {st : Store} : k_st_rem_1 C cal mk i e env  (.ok v st) = change i env st (remV v.2) (remO v.2) := rfl
theorem k_st_rem_1_exc {C : Cfg} {cal mk : CallF} {i : Nat} {e : Ex} {env : Env}  {cc : Nat} {fs : List (Nat × Val)} {st : Store} : k_st_rem_1 C cal mk i e env  (.exc cc fs st) = .exc cc fs env st := rfl
theorem e_st_rem {C : Cfg} {cal mk : CallF} {i : Nat} {e : Ex} {env : Env} {st : Store} : evS C cal mk (.rem i e) env st = k_st_rem_1 C cal mk i e env (ev C cal mk e env st) := by first | rfl | (simp only [evS]; rfl)
theorem k_st_put_1_ok {C : Cfg} {cal mk : CallF} {i : Nat} {k e : Ex} {env : Env}  {v : Rv} {st : Store} : k_st_put_1 C cal mk i k e env  (.ok v st) = k_st_put_2 C cal mk i k e env v (peekS env[i]? st) := rfl
theorem k_st_put_1_exc {C : Cfg} {cal mk : CallF} {i : Nat} {k e : Ex} {env : Env}  {cc : Nat} {fs : List (Nat × Val)} {st : Store} : k_st_put_1 C cal mk i k e env  (.exc cc fs st) = .exc cc fs env st := rfl
theorem k_st_put_2_ok {C : Cfg} {cal mk : CallF} {i : Nat} {k e : Ex} {env : Env} {v : Rv} {w : Val} {st : Store} : k_st_put_2 C cal mk i k e env v (.ok w st) = k_st_put_3 C cal mk i k e env v w (ev C cal mk k env st) := rfl
theorem k_st_put_2_exc {C : Cfg} {cal mk : CallF} {i : Nat} {k e : Ex} {env : Env} {v : Rv} {cc : Nat} {fs : List (Nat × Val)} {st : Store} : k_st_put_2 C cal mk i k e env v (.exc cc fs st) = .exc cc fs env st := rfl
theorem k_st_put_3_ok {C : Cfg} {cal mk : CallF} {i : Nat} {k e : Ex} {env : Env} {v : Rv} {w : Val} {kv : Rv} {st : Store} : k_st_put_3 C cal mk i k e env v w (.ok kv st) = change i env st (putV kv.2 v.2) (putO kv.2 v.2) := rfl
theorem k_st_put_3_exc {C : Cfg} {cal mk : CallF} {i : Nat} {k e : Ex} {env : Env} {v : Rv} {w : Val} {cc : Nat} {fs : List (Nat × Val)} {st : Store} : k_st_put_3 C cal mk i k e env v w (.exc cc fs st) = .exc cc fs env st := rfl
theorem e_st_put {C : Cfg} {cal mk : CallF} {i : Nat} {k e : Ex} {env : Env} {st : Store} : evS C cal mk (.put (.var i) k e) env st = k_st_put_1 C cal mk i k e env (ev C cal mk e env st) := by first | rfl | (simp only [evS]; rfl)
theorem k_st_fld_1_ok {C : Cfg} {cal mk : CallF} {o : Ex} {f : Nat} {e : Ex} {env : Env}  {v : Rv} {st : Store} : k_st_fld_1 C cal mk o f e env  (.ok v st) = k_st_fld_2 C cal mk o f e env v (opd C cal mk o env st) := rfl
theorem k_st_fld_1_exc {C : Cfg} {cal mk : CallF} {o : Ex} {f : Nat} {e : Ex} {env : Env}  {cc : Nat} {fs : List (Nat × Val)} {st : Store} : k_st_fld_1 C cal mk o f e env  (.exc cc fs st) = .exc cc fs env st := rfl
theorem k_st_fld_2_ok {C : Cfg} {cal mk : CallF} {o : Ex} {f : Nat} {e : Ex} {env : Env} {v : Rv} {ov : Val} {st : Store} : k_st_fld_2 C cal mk o f e env v (.ok ov st) = nxS env (putF C ov f v.2 st) := rfl
theorem k_st_fld_2_exc {C : Cfg} {cal mk : CallF} {o : Ex} {f : Nat} {e : Ex} {env : Env} {v : Rv} {cc : Nat} {fs : List (Nat × Val)} {st : Store} : k_st_fld_2 C cal mk o f e env v (.exc cc fs st) = .exc cc fs env st := rfl
theorem e_st_fld {C : Cfg} {cal mk : CallF} {o : Ex} {f : Nat} {e : Ex} {env : Env} {st : Store} : evS C cal mk (.fld o f e) env st = k_st_fld_1 C cal mk o f e env (ev C cal mk e env st) := by first | rfl | (simp only [evS]; rfl)
theorem k_st_fldB_1_ok {C : Cfg} {cal mk : CallF} {o : Ex} {f : Nat} {w : Val} {env : Env}  {ov : Val} {st : Store} : k_st_fldB_1 C cal mk o f w env  (.ok ov st) = nxS env (putF C ov f w st) := rfl
theorem k_st_fldB_1_exc {C : Cfg} {cal mk : CallF} {o : Ex} {f : Nat} {w : Val} {env : Env}  {cc : Nat} {fs : List (Nat × Val)} {st : Store} : k_st_fldB_1 C cal mk o f w env  (.exc cc fs st) = .exc cc fs env st := rfl
theorem k_st_fldAb_1_ok {C : Cfg} {cal mk : CallF} {ov : Val} {f : Nat} {ng : Bool} {c : Nat} {i : Int} {e : Ex} {env : Env}  {v : Rv} {st : Store} : k_st_fldAb_1 C cal mk ov f ng c i e env  (.ok v st) = fldAF C env ov f ng c i st (asInt v.2) := rfl
theorem k_st_fldAb_1_exc {C : Cfg} {cal mk : CallF} {ov : Val} {f : Nat} {ng : Bool} {c : Nat} {i : Int} {e : Ex} {env : Env}  {cc : Nat} {fs : List (Nat × Val)} {st : Store} : k_st_fldAb_1 C cal mk ov f ng c i e env  (.exc cc fs st) = .exc cc fs env st := rfl
theorem k_st_fldA_1_ok {C : Cfg} {cal mk : CallF} {o : Ex} {f : Nat} {ng : Bool} {e : Ex} {env : Env}  {ov : Val} {st : Store} : k_st_fldA_1 C cal mk o f ng e env  (.ok ov st) = fldAS C cal mk env ov f ng e st (fldI C ov f st) := rfl
theorem k_st_fldA_1_exc {C : Cfg} {cal mk : CallF} {o : Ex} {f : Nat} {ng : Bool} {e : Ex} {env : Env}  {cc : Nat} {fs : List (Nat × Val)} {st : Store} : k_st_fldA_1 C cal mk o f ng e env  (.exc cc fs st) = .exc cc fs env st := rfl
theorem e_st_fldA {C : Cfg} {cal mk : CallF} {o : Ex} {f : Nat} {ng : Bool} {e : Ex} {env : Env} {st : Store} : evS C cal mk (.fldA o f ng e) env st = k_st_fldA_1 C cal mk o f ng e env (opd C cal mk o env st) := by first | rfl | (simp only [evS]; rfl)
theorem k_st_ex_1_ok {C : Cfg} {cal mk : CallF} {e : Ex} {env : Env}  {v : Rv} {st : Store} : k_st_ex_1 C cal mk e env  (.ok v st) = .nx env st := rfl
theorem k_st_ex_1_exc {C : Cfg} {cal mk : CallF} {e : Ex} {env : Env}  {cc : Nat} {fs : List (Nat × Val)} {st : Store} : k_st_ex_1 C cal mk e env  (.exc cc fs st) = .exc cc fs env st := rfl
theorem e_st_ex {C : Cfg} {cal mk : CallF} {e : Ex} {env : Env} {st : Store} : evS C cal mk (.ex e) env st = k_st_ex_1 C cal mk e env (ev C cal mk e env st) := by first | rfl | (simp only [evS]; rfl)
theorem k_st_ret_1_ok {C : Cfg} {cal mk : CallF} {e : Ex} {env : Env}  {v : Rv} {st : Store} : k_st_ret_1 C cal mk e env  (.ok v st) = .rt v st := rfl
theorem k_st_ret_1_exc {C : Cfg} {cal mk : CallF} {e : Ex} {env : Env}  {cc : Nat} {fs : List (Nat × Val)} {st : Store} : k_st_ret_1 C cal mk e env  (.exc cc fs st) = .exc cc fs env st := rfl
theorem e_st_ret {C : Cfg} {cal mk : CallF} {e : Ex} {env : Env} {st : Store} : evS C cal mk (.ret e) env st = k_st_ret_1 C cal mk e env (ev C cal mk e env st) := by first | rfl | (simp only [evS]; rfl)
theorem e_st_retV {C : Cfg} {cal mk : CallF} {i : Nat} {env : Env} {st : Store} : evS C cal mk (.retV i) env st = retS env[i]? st := by first | rfl | (simp only [evS]; rfl) | (simp only [evS, rse0, rse1]; cases C.xf c with | none => rfl | some x => cases x <;> rfl)
theorem k_st_ife_1_ok {C : Cfg} {cal mk : CallF} {c : Ex} {a b : List Sm} {env : Env}  {t : Bool} {st : Store} : k_st_ife_1 C cal mk c a b env  (.ok t st) = if t then evSs C cal mk a env st else evSs C cal mk b env st := rfl
theorem k_st_ife_1_exc {C : Cfg} {cal mk : CallF} {c : Ex} {a b : List Sm} {env : Env}  {cc : Nat} {fs : List (Nat × Val)} {st : Store} : k_st_ife_1 C cal mk c a b env  (.exc cc fs st) = .exc cc fs env st := rfl
theorem e_st_ife {C : Cfg} {cal mk : CallF} {c : Ex} {a b : List Sm} {env : Env} {st : Store} : evS C cal mk (.ife c a b) env st = k_st_ife_1 C cal mk c a b env (evB C cal mk c env st) := by first | rfl | (simp only [evS]; rfl)
theorem k_st_forB_1_ok {C : Cfg} {cal mk : CallF} {tg : Tg} {body : List Sm} {env : Env}  {xs : List Val} {st : Store} : k_st_forB_1 C cal mk tg body env  (.ok xs st) = forE C cal mk tg body xs env st := rfl
theorem k_st_forB_1_exc {C : Cfg} {cal mk : CallF} {tg : Tg} {body : List Sm} {env : Env}  {cc : Nat} {fs : List (Nat × Val)} {st : Store} : k_st_forB_1 C cal mk tg body env  (.exc cc fs st) = .exc cc fs env st := rfl
theorem k_it_ok {k : Ik} {vs : List Val} {st : Store} : k_it k (.ok vs st) = Res.of (itOp k st vs) st := rfl
theorem e_st_for {C : Cfg} {cal mk : CallF} {tg : Tg} {k : Ik} {args : List Ex} {body : List Sm} {env : Env} {st : Store} : evS C cal mk (.for_ tg k args body) env st = k_st_forB_1 C cal mk tg body env (k_it k (evs C cal mk args env st)) := by first | rfl | (simp only [evS]; rfl) | (simp only [evS, rse0, rse1]; cases C.xf c with | none => rfl | some x => cases x <;> rfl)
theorem e_st_forO {C : Cfg} {cal mk : CallF} {tg : Tg} {i : Nat} {body : List Sm} {env : Env} {st : Store} : evS C cal mk (.forO tg i body) env st = forOS C cal mk tg i body env st env[i]? := by first | rfl | (simp only [evS]; rfl) | (simp only [evS, rse0, rse1]; cases C.xf c with | none => rfl | some x => cases x <;> rfl)
theorem e_st_whl {C : Cfg} {cal mk : CallF} {c : Ex} {body : List Sm} {env : Env} {st : Store} : evS C cal mk (.whl c body) env st = whlE C cal mk c body whlFuel env st := by first | rfl | (simp only [evS]; rfl) | (simp only [evS, rse0, rse1]; cases C.xf c with | none => rfl | some x => cases x <;> rfl)
theorem e_st_rse0 {C : Cfg} {cal mk : CallF} {c : Nat} {env : Env} {st : Store} : evS C cal mk (.rse c []) env st = rse0 C c env st := by first | rfl | (simp only [evS]; rfl) | (simp only [evS, rse0, rse1]; cases C.xf c with | none => rfl | some x => cases x <;> rfl)
theorem k_st_rseB_1_ok {C : Cfg} {cal mk : CallF} {c f : Nat} {e : Ex} {env : Env}  {v : Rv} {st : Store} : k_st_rseB_1 C cal mk c f e env  (.ok v st) = .exc c [(f, v.2)] env st := rfl
theorem k_st_rseB_1_exc {C : Cfg} {cal mk : CallF} {c f : Nat} {e : Ex} {env : Env}  {cc : Nat} {fs : List (Nat × Val)} {st : Store} : k_st_rseB_1 C cal mk c f e env  (.exc cc fs st) = .exc cc fs env st := rfl
theorem e_st_rse1 {C : Cfg} {cal mk : CallF} {c : Nat} {e : Ex} {env : Env} {st : Store} : evS C cal mk (.rse c [e]) env st = rse1 C cal mk c e env st (C.xf c) := by first | rfl | (simp only [evS]; rfl) | (simp only [evS, rse0, rse1]; cases C.xf c with | none => rfl | some x => cases x <;> rfl)
theorem e_st_try {C : Cfg} {cal mk : CallF} {body : List Sm} {hs : List Hd} {env : Env} {st : Store} : evS C cal mk (.try_ body hs) env st = tryS C hs (evSs C cal mk body env st) := by first | rfl | (simp only [evS]; rfl) | (simp only [evS, rse0, rse1]; cases C.xf c with | none => rfl | some x => cases x <;> rfl)
theorem e_st_fz {C : Cfg} {cal mk : CallF} {is : List Nat} {env : Env} {st : Store} : evS C cal mk (.fz is) env st = .nx (thaw is env) st := by first | rfl | (simp only [evS]; rfl) | (simp only [evS, rse0, rse1]; cases C.xf c with | none => rfl | some x => cases x <;> rfl)
theorem e_st_hole {C : Cfg} {cal mk : CallF}  {env : Env} {st : Store} : evS C cal mk .hole env st = .bad := by first | rfl | (simp only [evS]; rfl) | (simp only [evS, rse0, rse1]; cases C.xf c with | none => rfl | some x => cases x <;> rfl)
theorem k_seq_nx {C : Cfg} {cal mk : CallF} {r : List Sm} {env : Env} {st : Store} : k_seq C cal mk r (.nx env st) = evSs C cal mk r env st := rfl
theorem k_seq_rt {C : Cfg} {cal mk : CallF} {r : List Sm} {v : Rv} {st : Store} : k_seq C cal mk r (.rt v st) = .rt v st := rfl
theorem k_seq_exc {C : Cfg} {cal mk : CallF} {r : List Sm} {c : Nat} {fs : List (Nat × Val)} {env : Env} {st : Store} : k_seq C cal mk r (.exc c fs env st) = .exc c fs env st := rfl
theorem e_ss_nil {C : Cfg} {cal mk : CallF}  {env : Env} {st : Store} : evSs C cal mk [] env st = .nx env st := by first | rfl | (simp only [evSs]; rfl) | (simp only [evSs, rse0, rse1]; cases C.xf c with | none => rfl | some x => cases x <;> rfl)
theorem e_ss_cons {C : Cfg} {cal mk : CallF} {s : Sm} {r : List Sm} {env : Env} {st : Store} : evSs C cal mk (s :: r) env st = k_seq C cal mk r (evS C cal mk s env st) := by first | rfl | (simp only [evSs]; rfl) | (simp only [evSs, rse0, rse1]; cases C.xf c with | none => rfl | some x => cases x <;> rfl)
theorem k_st_whlb_1_ok {C : Cfg} {cal mk : CallF} {c : Ex} {body : List Sm} {n : Nat} {env : Env}  {b : Bool} {st : Store} : k_st_whlb_1 C cal mk c body n env  (.ok b st) = if b then k_wl C cal mk c body n (evSs C cal mk body env st) else .nx env st := rfl
theorem k_st_whlb_1_exc {C : Cfg} {cal mk : CallF} {c : Ex} {body : List Sm} {n : Nat} {env : Env}  {cc : Nat} {fs : List (Nat × Val)} {st : Store} : k_st_whlb_1 C cal mk c body n env  (.exc cc fs st) = .exc cc fs env st := rfl
theorem evCall_succ (C : Cfg) (k f : Nat) (vs : List Val) (st : Store) : evCall C (k + 1) f vs st = runFn C (evCall C k) (calls C k).2 f vs st := rfl
def SRes.fin : SRes → Res Rv
  | .nx _ st => .ok (false, .non) st
  | .rt r st => .ok r st
  | .exc c fs _ st => .exc c fs st
  | .bad => .bad
@[simp] theorem fin_nx (env : Env) (st : Store) : (SRes.nx env st).fin = .ok (false, .non) st := rfl
@[simp] theorem fin_rt (r : Rv) (st : Store) : (SRes.rt r st).fin = .ok r st := rfl
@[simp] theorem fin_exc (c : Nat) (fs : List (Nat × Val)) (env : Env) (st : Store) : (SRes.exc c fs env st).fin = .exc c fs st := rfl
theorem run_of {C : Cfg} {k f : Nat} {d : Fd} {vs : List Val} {st : Store} (h : C.fn f = some d) (hl : vs.length = d.np) : evCall C (k + 1) f vs st = (evSs C (evCall C k) (calls C k).2 d.body (startE d vs) st).fin := by
  rw [evCall_succ]
  simp only [runFn, h, hl, if_true]
  cases evSs C (evCall C k) (calls C k).2 d.body (startE d vs) st <;> rfl
theorem eqOk_int (a b : Int) : eqOk (.int a) (.int b) = true := rfl
theorem pyEq_int (a b : Int) : pyEq (.int a) (.int b) = (a == b) := by unfold pyEq; rfl
theorem ltOk_int (a : Int) : ltOk (.int a) = true := rfl
theorem pyLt_int (a b : Int) : pyLt (.int a) (.int b) = some (decide (a < b)) := by unfold pyLt; rfl
theorem pyEq_str (a b : Sn) : pyEq (.str a) (.str b) = (a == b) := by unfold pyEq; rfl
theorem eqOk_str (a b : Sn) : eqOk (.str a) (.str b) = true := rfl
theorem eqOk_bl (a b : Bool) : eqOk (.bl a) (.bl b) = true := rfl
theorem pyEq_bl (a b : Bool) : pyEq (.bl a) (.bl b) = (a == b) := by unfold pyEq; rfl
theorem ixOf_nat {n i : Nat} (h : i < n) : ixOf n (i : Int) = some i := by
  unfold ixOf
  rw [if_pos (by omega), if_pos (by omega)]
  rfl
theorem ix0 {n : Nat} : ixOf (n + 1) 0 = some 0 := ixOf_nat (i := 0) (by omega)
theorem ix1 {n : Nat} : ixOf (n + 1 + 1) 1 = some 1 := ixOf_nat (i := 1) (by omega)
theorem ix2 {n : Nat} : ixOf (n + 1 + 1 + 1) 2 = some 2 := ixOf_nat (i := 2) (by omega)
theorem subOp_tup (st : Store) (xs : List Val) (i : Int) : subOp st (.tup xs) (.int i) = (ixOf xs.length i).bind fun j => xs[j]? := rfl
theorem subOp_lst (st : Store) (xs : List Val) (i : Int) : subOp st (.lst xs) (.int i) = (ixOf xs.length i).bind fun j => xs[j]? := rfl
theorem subOp_str (st : Store) (s : Sn) (i : Int) : subOp st (.str s) (.int i) = (ixOf s.length i).bind fun j => s[j]?.map fun c => .str [c] := rfl
theorem subOp_dct (st : Store) (kvs : List (Val × Val)) (i : Val) : subOp st (.dct kvs) i = if keyOk i then dget kvs i else none := by cases i <;> rfl
theorem subOp_ref (st : Store) (n : Nat) (i : Val) : subOp st (.ref n) i = match asList st (.ref n) with
    | some xs => (match i with | .int i => (ixOf xs.length i).bind fun j => xs[j]? | _ => none)
    | none => match asDict st (.ref n) with
      | some kvs => if keyOk i then dget kvs i else none
      | none => none := by cases i <;> rfl
/-! ### loops -/
theorem lcLoop_pure {f : Val → Store → Res (List Val)} {g : Val → List Val} {st : Store} : ∀ {xs : List Val}, (∀ x ∈ xs, f x st = .ok (g x) st) → lcLoop f xs st = .ok (xs.flatMap g) st
  | [], _ => rfl
  | x :: r, h => by
    have ih := lcLoop_pure (f := f) (g := g) (st := st) (xs := r) fun y hy => h y (List.mem_cons_of_mem _ hy)
    simp only [lcLoop, h x List.mem_cons_self, ih, Res.bind_ok, List.flatMap_cons]
def k_lcT2 (rr : Res Rv) : Res (List Val) := rr.bind fun v st => .ok [v.2] st
def k_lcT1 (C : Cfg) (cal mk : CallF) (e : Ex) (env : Env) (rr : Res Bool) : Res (List Val) := rr.bind fun b st => if b then k_lcT2 (ev C cal mk e env st) else .ok [] st
theorem k_lcT2_ok {v : Rv} {st : Store} : k_lcT2 (.ok v st) = .ok [v.2] st := rfl
theorem k_lcT1_ok {C : Cfg} {cal mk : CallF} {e : Ex} {env : Env} {b : Bool} {st : Store} : k_lcT1 C cal mk e env (.ok b st) = if b then k_lcT2 (ev C cal mk e env st) else .ok [] st := rfl
/-- one turn of a comprehension -/
def lcT (C : Cfg) (cal mk : CallF) (tg : Tg) (cs : List Ex) (e : Ex) (env : Env) (x : Val) (st : Store) : Res (List Val) := match setTg tg x env with
  | none => .bad
  | some env' => k_lcT1 C cal mk e env' (evAll C cal mk cs env' st)
theorem lcT_eq {C : Cfg} {cal mk : CallF} {tg : Tg} {cs : List Ex} {e : Ex} {env : Env} {x : Val} {st : Store} : bodyL tg (fun env st => evAll C cal mk cs env st) (fun env st => ev C cal mk e env st) env x st = lcT C cal mk tg cs e env x st := by
  unfold bodyL lcT
  cases setTg tg x env <;> rfl
theorem lcE_pure {C : Cfg} {cal mk : CallF} {tg : Tg} {cs : List Ex} {e : Ex} {env : Env} {g : Val → List Val} {st : Store} {xs : List Val} (h : ∀ x ∈ xs, lcT C cal mk tg cs e env x st = .ok (g x) st) : lcE C cal mk tg cs e env xs st = .ok (xs.flatMap g) st :=
  lcLoop_pure fun x hx => by
    have := h x hx
    rw [lcT_eq, this]; rfl
theorem lcE_nil {C : Cfg} {cal mk : CallF} {tg : Tg} {cs : List Ex} {e : Ex} {env : Env} {st : Store} : lcE C cal mk tg cs e env [] st = .ok [] st := rfl
def k_lcE2 (ys : List Val) (rr : Res (List Val)) : Res (List Val) := rr.bind fun zs st => .ok (ys ++ zs) st
def k_lcE1 (C : Cfg) (cal mk : CallF) (tg : Tg) (cs : List Ex) (e : Ex) (env : Env) (xs : List Val) (rr : Res (List Val)) : Res (List Val) := rr.bind fun ys st => k_lcE2 ys (lcE C cal mk tg cs e env xs st)
theorem k_lcE2_ok {ys zs : List Val} {st : Store} : k_lcE2 ys (.ok zs st) = .ok (ys ++ zs) st := rfl
theorem k_lcE1_ok {C : Cfg} {cal mk : CallF} {tg : Tg} {cs : List Ex} {e : Ex} {env : Env} {xs ys : List Val} {st : Store} : k_lcE1 C cal mk tg cs e env xs (.ok ys st) = k_lcE2 ys (lcE C cal mk tg cs e env xs st) := rfl
theorem lcE_cons {C : Cfg} {cal mk : CallF} {tg : Tg} {cs : List Ex} {e : Ex} {env : Env} {x : Val} {xs : List Val} {st : Store} : lcE C cal mk tg cs e env (x :: xs) st = k_lcE1 C cal mk tg cs e env xs (lcT C cal mk tg cs e env x st).noX := by
  simp only [lcE, lcLoop, lcT_eq, k_lcE1, k_lcE2]
theorem forE_nil {C : Cfg} {cal mk : CallF} {tg : Tg} {body : List Sm} {env : Env} {st : Store} : forE C cal mk tg body [] env st = .nx env st := rfl
/-- one turn of a loop -/
def forT (C : Cfg) (cal mk : CallF) (tg : Tg) (body : List Sm) (x : Val) (env : Env) (st : Store) : SRes := match setTg tg x env with
  | none => .bad
  | some env => evSs C cal mk body env st
def k_for (C : Cfg) (cal mk : CallF) (tg : Tg) (body : List Sm) (xs : List Val) (x : SRes) : SRes := x.bind fun env st => forE C cal mk tg body xs env st
theorem k_for_nx {C : Cfg} {cal mk : CallF} {tg : Tg} {body : List Sm} {xs : List Val} {env : Env} {st : Store} : k_for C cal mk tg body xs (.nx env st) = forE C cal mk tg body xs env st := rfl
theorem k_for_rt {C : Cfg} {cal mk : CallF} {tg : Tg} {body : List Sm} {xs : List Val} {v : Rv} {st : Store} : k_for C cal mk tg body xs (.rt v st) = .rt v st := rfl
theorem forE_cons {C : Cfg} {cal mk : CallF} {tg : Tg} {body : List Sm} {x : Val} {xs : List Val} {env : Env} {st : Store} : forE C cal mk tg body (x :: xs) env st = k_for C cal mk tg body xs (forT C cal mk tg body x env st) := by
  simp only [forE, forLoop, forT, k_for]
  cases setTg tg x env <;> rfl
/-- a loop by what holds at each turn -/
theorem forE_inv {C : Cfg} {cal mk : CallF} {tg : Tg} {body : List Sm} (P : List Val → Env → Store → Prop) (hs : ∀ x r env st, P (x :: r) env st → ∃ env' st', forT C cal mk tg body x env st = .nx env' st' ∧ P r env' st') : ∀ (xs : List Val) (env : Env) (st : Store), P xs env st → ∃ env' st', forE C cal mk tg body xs env st = .nx env' st' ∧ P [] env' st'
  | [], env, st, h => ⟨env, st, rfl, h⟩
  | x :: r, env, st, h => by
    obtain ⟨env1, st1, h1, h2⟩ := hs x r env st h
    obtain ⟨env2, st2, h3, h4⟩ := forE_inv P hs r env1 st1 h2
    exact ⟨env2, st2, by rw [forE_cons, h1, k_for_nx]; exact h3, h4⟩
theorem k_wl_nx {C : Cfg} {cal mk : CallF} {c : Ex} {body : List Sm} {n : Nat} {env : Env} {st : Store} : k_wl C cal mk c body n (.nx env st) = whlE C cal mk c body n env st := rfl
theorem k_wl_rt {C : Cfg} {cal mk : CallF} {c : Ex} {body : List Sm} {n : Nat} {v : Rv} {st : Store} : k_wl C cal mk c body n (.rt v st) = .rt v st := rfl
theorem whlE_succ {C : Cfg} {cal mk : CallF} {c : Ex} {body : List Sm} {n : Nat} {env : Env} {st : Store} : whlE C cal mk c body (n + 1) env st = k_st_whlb_1 C cal mk c body n env (evB C cal mk c env st) := rfl
theorem EV0 : (type_of% @e_var) ∧ (type_of% @e_glb) ∧ (type_of% @e_cst) ∧ (type_of% @e_neg) ∧ (type_of% @k_tup_1_ok) ∧ (type_of% @k_tup_1_exc) ∧ (type_of% @e_tup) ∧ (type_of% @k_lst_1_ok) ∧ (type_of% @k_lst_1_exc) ∧ (type_of% @e_lst) ∧ (type_of% @k_dct_1_ok) ∧ (type_of% @k_dct_1_exc) ∧ (type_of% @e_dct) ∧ (type_of% @k_dctS_1_ok) ∧ (type_of% @k_dctS_1_exc) ∧ (type_of% @k_dctS_2_ok) ∧ (type_of% @k_dctS_2_exc) ∧ (type_of% @k_dctS_3_ok) ∧ (type_of% @k_dctS_3_exc) ∧ (type_of% @e_dctS) ∧ (type_of% @k_bin_1_ok) ∧ (type_of% @k_bin_1_exc) ∧ (type_of% @k_bin_2_ok) ∧ (type_of% @k_bin_2_exc) ∧ (type_of% @e_bin) ∧ (type_of% @k_cmp_1_ok) ∧ (type_of% @k_cmp_1_exc) ∧ (type_of% @k_cmp_2_ok) ∧ (type_of% @k_cmp_2_exc) ∧ (type_of% @e_cmp) ∧ (type_of% @k_cmp2b_1_ok) ∧ (type_of% @k_cmp2b_1_exc) ∧ (type_of% @k_cmp2_1_ok) ∧ (type_of% @k_cmp2_1_exc) ∧ (type_of% @k_cmp2_2_ok) ∧ (type_of% @k_cmp2_2_exc) ∧ (type_of% @k_cmp2_3_ok) ∧ (type_of% @k_cmp2_3_exc) ∧ (type_of% @e_cmp2) ∧ (type_of% @e_and) ∧ (type_of% @e_or) ∧ (type_of% @k_not_1_ok) ∧ (type_of% @k_not_1_exc) ∧ (type_of% @e_not) ∧ (type_of% @k_ife_1_ok) ∧ (type_of% @k_ife_1_exc) ∧ (type_of% @k_ife_2_ok) ∧ (type_of% @k_ife_2_exc) ∧ (type_of% @e_ife) ∧ (type_of% @k_call_1_ok) ∧ (type_of% @k_call_1_exc) ∧ (type_of% @e_call) ∧ (type_of% @k_make_1_ok) ∧ (type_of% @k_make_1_exc) ∧ (type_of% @e_make) ∧ (type_of% @k_meth_1_ok) ∧ (type_of% @k_meth_1_exc) ∧ (type_of% @k_meth_2_ok) ∧ (type_of% @k_meth_2_exc) ∧ (type_of% @k_meth_3_ok) :=
  ⟨@e_var, @e_glb, @e_cst, @e_neg, @k_tup_1_ok, @k_tup_1_exc, @e_tup, @k_lst_1_ok, @k_lst_1_exc, @e_lst, @k_dct_1_ok, @k_dct_1_exc, @e_dct, @k_dctS_1_ok, @k_dctS_1_exc, @k_dctS_2_ok, @k_dctS_2_exc, @k_dctS_3_ok, @k_dctS_3_exc, @e_dctS, @k_bin_1_ok, @k_bin_1_exc, @k_bin_2_ok, @k_bin_2_exc, @e_bin, @k_cmp_1_ok, @k_cmp_1_exc, @k_cmp_2_ok, @k_cmp_2_exc, @e_cmp, @k_cmp2b_1_ok, @k_cmp2b_1_exc, @k_cmp2_1_ok, @k_cmp2_1_exc, @k_cmp2_2_ok, @k_cmp2_2_exc, @k_cmp2_3_ok, @k_cmp2_3_exc, @e_cmp2, @e_and, @e_or, @k_not_1_ok, @k_not_1_exc, @e_not, @k_ife_1_ok, @k_ife_1_exc, @k_ife_2_ok, @k_ife_2_exc, @e_ife, @k_call_1_ok, @k_call_1_exc, @e_call, @k_make_1_ok, @k_make_1_exc, @e_make, @k_meth_1_ok, @k_meth_1_exc, @k_meth_2_ok, @k_meth_2_exc, @k_meth_3_ok⟩
theorem EV1 : (type_of% @k_meth_3_exc) ∧ (type_of% @e_meth) ∧ (type_of% @k_attr_1_ok) ∧ (type_of% @k_attr_1_exc) ∧ (type_of% @e_attr) ∧ (type_of% @k_prop_1_ok) ∧ (type_of% @k_prop_1_exc) ∧ (type_of% @e_prop) ∧ (type_of% @k_bi_1_ok) ∧ (type_of% @k_bi_1_exc) ∧ (type_of% @e_bi) ∧ (type_of% @k_isi_1_ok) ∧ (type_of% @k_isi_1_exc) ∧ (type_of% @e_isi) ∧ (type_of% @k_isc_1_ok) ∧ (type_of% @k_isc_1_exc) ∧ (type_of% @e_isc) ∧ (type_of% @k_sub_1_ok) ∧ (type_of% @k_sub_1_exc) ∧ (type_of% @k_sub_2_ok) ∧ (type_of% @k_sub_2_exc) ∧ (type_of% @e_sub) ∧ (type_of% @k_gsub_1_ok) ∧ (type_of% @k_gsub_1_exc) ∧ (type_of% @k_gnin_1_ok) ∧ (type_of% @k_gnin_1_exc) ∧ (type_of% @e_gsub) ∧ (type_of% @e_gnin) ∧ (type_of% @gsubS_some) ∧ (type_of% @gninS_some) ∧ (type_of% @k_slc_1_ok) ∧ (type_of% @k_slc_1_exc) ∧ (type_of% @k_slc_2_ok) ∧ (type_of% @k_slc_2_exc) ∧ (type_of% @k_slc_3_ok) ∧ (type_of% @k_slc_3_exc) ∧ (type_of% @k_slc_4_ok) ∧ (type_of% @k_slc_4_exc) ∧ (type_of% @k_slc_5_ok) ∧ (type_of% @k_slc_5_exc) ∧ (type_of% @e_slc) ∧ (type_of% @k_slcL_1_ok) ∧ (type_of% @k_slcL_1_exc) ∧ (type_of% @k_slcL_2_ok) ∧ (type_of% @k_slcL_2_exc) ∧ (type_of% @k_slcL_3_ok) ∧ (type_of% @k_slcL_3_exc) ∧ (type_of% @e_slcL) ∧ (type_of% @k_slcR_1_ok) ∧ (type_of% @k_slcR_1_exc) ∧ (type_of% @k_slcR_2_ok) ∧ (type_of% @k_slcR_2_exc) ∧ (type_of% @k_slcR_3_ok) ∧ (type_of% @k_slcR_3_exc) ∧ (type_of% @e_slcR) ∧ (type_of% @k_rev_1_ok) ∧ (type_of% @k_rev_1_exc) ∧ (type_of% @e_rev) ∧ (type_of% @k_lc_1_ok) ∧ (type_of% @k_lc_1_exc) :=
  ⟨@k_meth_3_exc, @e_meth, @k_attr_1_ok, @k_attr_1_exc, @e_attr, @k_prop_1_ok, @k_prop_1_exc, @e_prop, @k_bi_1_ok, @k_bi_1_exc, @e_bi, @k_isi_1_ok, @k_isi_1_exc, @e_isi, @k_isc_1_ok, @k_isc_1_exc, @e_isc, @k_sub_1_ok, @k_sub_1_exc, @k_sub_2_ok, @k_sub_2_exc, @e_sub, @k_gsub_1_ok, @k_gsub_1_exc, @k_gnin_1_ok, @k_gnin_1_exc, @e_gsub, @e_gnin, @gsubS_some, @gninS_some, @k_slc_1_ok, @k_slc_1_exc, @k_slc_2_ok, @k_slc_2_exc, @k_slc_3_ok, @k_slc_3_exc, @k_slc_4_ok, @k_slc_4_exc, @k_slc_5_ok, @k_slc_5_exc, @e_slc, @k_slcL_1_ok, @k_slcL_1_exc, @k_slcL_2_ok, @k_slcL_2_exc, @k_slcL_3_ok, @k_slcL_3_exc, @e_slcL, @k_slcR_1_ok, @k_slcR_1_exc, @k_slcR_2_ok, @k_slcR_2_exc, @k_slcR_3_ok, @k_slcR_3_exc, @e_slcR, @k_rev_1_ok, @k_rev_1_exc, @e_rev, @k_lc_1_ok, @k_lc_1_exc⟩
theorem EV2 : (type_of% @k_lc_2_ok) ∧ (type_of% @k_lc_2_exc) ∧ (type_of% @k_lc_3_ok) ∧ (type_of% @k_lc_3_exc) ∧ (type_of% @e_lc) ∧ (type_of% @k_lc2_1_ok) ∧ (type_of% @k_lc2_1_exc) ∧ (type_of% @k_lc2_2_ok) ∧ (type_of% @k_lc2_2_exc) ∧ (type_of% @k_lc2_3_ok) ∧ (type_of% @k_lc2_3_exc) ∧ (type_of% @e_lc2) ∧ (type_of% @k_dc_1_ok) ∧ (type_of% @k_dc_1_exc) ∧ (type_of% @k_dc_2_ok) ∧ (type_of% @k_dc_2_exc) ∧ (type_of% @k_dc_3_ok) ∧ (type_of% @k_dc_3_exc) ∧ (type_of% @e_dc) ∧ (type_of% @k_fstr_1_ok) ∧ (type_of% @k_fstr_1_exc) ∧ (type_of% @e_fstr) ∧ (type_of% @k_get_1_ok) ∧ (type_of% @k_get_1_exc) ∧ (type_of% @k_get_2_ok) ∧ (type_of% @k_get_2_exc) ∧ (type_of% @k_get_3_ok) ∧ (type_of% @k_get_3_exc) ∧ (type_of% @e_get) ∧ (type_of% @k_popb_1_ok) ∧ (type_of% @k_popb_1_exc) ∧ (type_of% @k_pop_1_ok) ∧ (type_of% @k_pop_1_exc) ∧ (type_of% @e_pop) ∧ (type_of% @k_lenO_1_ok) ∧ (type_of% @k_lenO_1_exc) ∧ (type_of% @e_lenO) ∧ (type_of% @k_inO_1_ok) ∧ (type_of% @k_inO_1_exc) ∧ (type_of% @k_inO_2_ok) ∧ (type_of% @k_inO_2_exc) ∧ (type_of% @e_inO) ∧ (type_of% @k_eqO_1_ok) ∧ (type_of% @k_eqO_1_exc) ∧ (type_of% @k_eqO_2_ok) ∧ (type_of% @k_eqO_2_exc) ∧ (type_of% @k_eqO_3_ok) ∧ (type_of% @k_eqO_3_exc) ∧ (type_of% @e_eqO) ∧ (type_of% @e_hole) ∧ (type_of% @k_od_ok) ∧ (type_of% @k_od_exc) ∧ (type_of% @od_glb) ∧ (type_of% @od_cst) ∧ (type_of% @od_neg) ∧ (type_of% @od_tup) ∧ (type_of% @od_lst) ∧ (type_of% @od_dct) ∧ (type_of% @od_dctS) ∧ (type_of% @od_bin) :=
  ⟨@k_lc_2_ok, @k_lc_2_exc, @k_lc_3_ok, @k_lc_3_exc, @e_lc, @k_lc2_1_ok, @k_lc2_1_exc, @k_lc2_2_ok, @k_lc2_2_exc, @k_lc2_3_ok, @k_lc2_3_exc, @e_lc2, @k_dc_1_ok, @k_dc_1_exc, @k_dc_2_ok, @k_dc_2_exc, @k_dc_3_ok, @k_dc_3_exc, @e_dc, @k_fstr_1_ok, @k_fstr_1_exc, @e_fstr, @k_get_1_ok, @k_get_1_exc, @k_get_2_ok, @k_get_2_exc, @k_get_3_ok, @k_get_3_exc, @e_get, @k_popb_1_ok, @k_popb_1_exc, @k_pop_1_ok, @k_pop_1_exc, @e_pop, @k_lenO_1_ok, @k_lenO_1_exc, @e_lenO, @k_inO_1_ok, @k_inO_1_exc, @k_inO_2_ok, @k_inO_2_exc, @e_inO, @k_eqO_1_ok, @k_eqO_1_exc, @k_eqO_2_ok, @k_eqO_2_exc, @k_eqO_3_ok, @k_eqO_3_exc, @e_eqO, @e_hole, @k_od_ok, @k_od_exc, @od_glb, @od_cst, @od_neg, @od_tup, @od_lst, @od_dct, @od_dctS, @od_bin⟩
theorem EV3 : (type_of% @od_cmp) ∧ (type_of% @od_cmp2) ∧ (type_of% @od_and) ∧ (type_of% @od_or) ∧ (type_of% @od_not) ∧ (type_of% @od_ife) ∧ (type_of% @od_call) ∧ (type_of% @od_make) ∧ (type_of% @od_meth) ∧ (type_of% @od_attr) ∧ (type_of% @od_prop) ∧ (type_of% @od_bi) ∧ (type_of% @od_isi) ∧ (type_of% @od_isc) ∧ (type_of% @od_sub) ∧ (type_of% @od_gsub) ∧ (type_of% @od_gnin) ∧ (type_of% @od_slc) ∧ (type_of% @od_slcL) ∧ (type_of% @od_slcR) ∧ (type_of% @od_rev) ∧ (type_of% @od_lc) ∧ (type_of% @od_lc2) ∧ (type_of% @od_dc) ∧ (type_of% @od_fstr) ∧ (type_of% @od_get) ∧ (type_of% @od_pop) ∧ (type_of% @od_lenO) ∧ (type_of% @od_inO) ∧ (type_of% @od_eqO) ∧ (type_of% @od_hole) ∧ (type_of% @od_var) ∧ (type_of% @e_evs_nil) ∧ (type_of% @k_evs_1_ok) ∧ (type_of% @k_evs_1_exc) ∧ (type_of% @k_evs_2_ok) ∧ (type_of% @k_evs_2_exc) ∧ (type_of% @k_evsS_1_ok) ∧ (type_of% @k_evsS_1_exc) ∧ (type_of% @k_evsS_2_ok) ∧ (type_of% @k_evsS_2_exc) ∧ (type_of% @k_evsS_3_ok) ∧ (type_of% @k_evsS_3_exc) ∧ (type_of% @e_evsS) ∧ (type_of% @e_evs_glb) ∧ (type_of% @e_evs_cst) ∧ (type_of% @e_evs_neg) ∧ (type_of% @e_evs_tup) ∧ (type_of% @e_evs_lst) ∧ (type_of% @e_evs_dct) ∧ (type_of% @e_evs_dctS) ∧ (type_of% @e_evs_bin) ∧ (type_of% @e_evs_cmp) ∧ (type_of% @e_evs_cmp2) ∧ (type_of% @e_evs_and) ∧ (type_of% @e_evs_or) ∧ (type_of% @e_evs_not) ∧ (type_of% @e_evs_ife) ∧ (type_of% @e_evs_call) ∧ (type_of% @e_evs_make) :=
  ⟨@od_cmp, @od_cmp2, @od_and, @od_or, @od_not, @od_ife, @od_call, @od_make, @od_meth, @od_attr, @od_prop, @od_bi, @od_isi, @od_isc, @od_sub, @od_gsub, @od_gnin, @od_slc, @od_slcL, @od_slcR, @od_rev, @od_lc, @od_lc2, @od_dc, @od_fstr, @od_get, @od_pop, @od_lenO, @od_inO, @od_eqO, @od_hole, @od_var, @e_evs_nil, @k_evs_1_ok, @k_evs_1_exc, @k_evs_2_ok, @k_evs_2_exc, @k_evsS_1_ok, @k_evsS_1_exc, @k_evsS_2_ok, @k_evsS_2_exc, @k_evsS_3_ok, @k_evsS_3_exc, @e_evsS, @e_evs_glb, @e_evs_cst, @e_evs_neg, @e_evs_tup, @e_evs_lst, @e_evs_dct, @e_evs_dctS, @e_evs_bin, @e_evs_cmp, @e_evs_cmp2, @e_evs_and, @e_evs_or, @e_evs_not, @e_evs_ife, @e_evs_call, @e_evs_make⟩
theorem EV4 : (type_of% @e_evs_meth) ∧ (type_of% @e_evs_attr) ∧ (type_of% @e_evs_prop) ∧ (type_of% @e_evs_bi) ∧ (type_of% @e_evs_isi) ∧ (type_of% @e_evs_isc) ∧ (type_of% @e_evs_sub) ∧ (type_of% @e_evs_gsub) ∧ (type_of% @e_evs_gnin) ∧ (type_of% @e_evs_slc) ∧ (type_of% @e_evs_slcL) ∧ (type_of% @e_evs_slcR) ∧ (type_of% @e_evs_rev) ∧ (type_of% @e_evs_lc) ∧ (type_of% @e_evs_lc2) ∧ (type_of% @e_evs_dc) ∧ (type_of% @e_evs_fstr) ∧ (type_of% @e_evs_get) ∧ (type_of% @e_evs_pop) ∧ (type_of% @e_evs_lenO) ∧ (type_of% @e_evs_inO) ∧ (type_of% @e_evs_eqO) ∧ (type_of% @e_evs_hole) ∧ (type_of% @e_evs_var) ∧ (type_of% @e_opds_nil) ∧ (type_of% @k_opds_1_ok) ∧ (type_of% @k_opds_1_exc) ∧ (type_of% @k_opds_2_ok) ∧ (type_of% @k_opds_2_exc) ∧ (type_of% @e_opds) ∧ (type_of% @e_evF_nil) ∧ (type_of% @k_evF_1_ok) ∧ (type_of% @k_evF_1_exc) ∧ (type_of% @k_evF_2_ok) ∧ (type_of% @k_evF_2_exc) ∧ (type_of% @k_evF_3_ok) ∧ (type_of% @k_evF_3_exc) ∧ (type_of% @e_evF) ∧ (type_of% @k_evAnd1_1_ok) ∧ (type_of% @k_evAnd1_1_exc) ∧ (type_of% @e_evAnd1) ∧ (type_of% @k_evAnd2_1_ok) ∧ (type_of% @k_evAnd2_1_exc) ∧ (type_of% @k_evAnd2_2_ok) ∧ (type_of% @k_evAnd2_2_exc) ∧ (type_of% @e_evAnd2) ∧ (type_of% @k_evOr1_1_ok) ∧ (type_of% @k_evOr1_1_exc) ∧ (type_of% @e_evOr1) ∧ (type_of% @k_evOr2_1_ok) ∧ (type_of% @k_evOr2_1_exc) ∧ (type_of% @k_evOr2_2_ok) ∧ (type_of% @k_evOr2_2_exc) ∧ (type_of% @e_evOr2) ∧ (type_of% @e_evAll_nil) ∧ (type_of% @k_evAll_1_ok) ∧ (type_of% @k_evAll_1_exc) ∧ (type_of% @k_evAll_2_ok) ∧ (type_of% @k_evAll_2_exc) ∧ (type_of% @e_evAll) :=
  ⟨@e_evs_meth, @e_evs_attr, @e_evs_prop, @e_evs_bi, @e_evs_isi, @e_evs_isc, @e_evs_sub, @e_evs_gsub, @e_evs_gnin, @e_evs_slc, @e_evs_slcL, @e_evs_slcR, @e_evs_rev, @e_evs_lc, @e_evs_lc2, @e_evs_dc, @e_evs_fstr, @e_evs_get, @e_evs_pop, @e_evs_lenO, @e_evs_inO, @e_evs_eqO, @e_evs_hole, @e_evs_var, @e_opds_nil, @k_opds_1_ok, @k_opds_1_exc, @k_opds_2_ok, @k_opds_2_exc, @e_opds, @e_evF_nil, @k_evF_1_ok, @k_evF_1_exc, @k_evF_2_ok, @k_evF_2_exc, @k_evF_3_ok, @k_evF_3_exc, @e_evF, @k_evAnd1_1_ok, @k_evAnd1_1_exc, @e_evAnd1, @k_evAnd2_1_ok, @k_evAnd2_1_exc, @k_evAnd2_2_ok, @k_evAnd2_2_exc, @e_evAnd2, @k_evOr1_1_ok, @k_evOr1_1_exc, @e_evOr1, @k_evOr2_1_ok, @k_evOr2_1_exc, @k_evOr2_2_ok, @k_evOr2_2_exc, @e_evOr2, @e_evAll_nil, @k_evAll_1_ok, @k_evAll_1_exc, @k_evAll_2_ok, @k_evAll_2_exc, @e_evAll⟩
theorem EV5 : (type_of% @e_evOs_nil) ∧ (type_of% @k_evOs_1_ok) ∧ (type_of% @k_evOs_1_exc) ∧ (type_of% @k_evOs_2_ok) ∧ (type_of% @k_evOs_2_exc) ∧ (type_of% @e_evOs) ∧ (type_of% @k_evB_1_ok) ∧ (type_of% @k_evB_1_exc) ∧ (type_of% @e_evB) ∧ (type_of% @k_st_asg_1_ok) ∧ (type_of% @k_st_asg_1_exc) ∧ (type_of% @e_st_asg) ∧ (type_of% @k_st_asgB_1_ok) ∧ (type_of% @k_st_asgB_1_exc) ∧ (type_of% @e_st_asgB) ∧ (type_of% @k_st_asgP_1_ok) ∧ (type_of% @k_st_asgP_1_exc) ∧ (type_of% @e_st_asgP) ∧ (type_of% @k_st_unp_1_ok) ∧ (type_of% @k_st_unp_1_exc) ∧ (type_of% @e_st_unp) ∧ (type_of% @k_st_app_1_ok) ∧ (type_of% @k_st_app_1_exc) ∧ (type_of% @e_st_app) ∧ (type_of% @k_st_appb_1_ok) ∧ (type_of% @k_st_appb_1_exc) ∧ (type_of% @k_st_appA_1_ok) ∧ (type_of% @k_st_appA_1_exc) ∧ (type_of% @e_st_appA) ∧ (type_of% @k_st_ext_1_ok) ∧ (type_of% @k_st_ext_1_exc) ∧ (type_of% @e_st_ext) ∧ (type_of% @k_st_rem_1_ok) ∧ (type_of% @k_st_rem_1_exc) ∧ (type_of% @e_st_rem) ∧ (type_of% @k_st_put_1_ok) ∧ (type_of% @k_st_put_1_exc) ∧ (type_of% @k_st_put_2_ok) ∧ (type_of% @k_st_put_2_exc) ∧ (type_of% @k_st_put_3_ok) ∧ (type_of% @k_st_put_3_exc) ∧ (type_of% @e_st_put) ∧ (type_of% @k_st_fld_1_ok) ∧ (type_of% @k_st_fld_1_exc) ∧ (type_of% @k_st_fld_2_ok) ∧ (type_of% @k_st_fld_2_exc) ∧ (type_of% @e_st_fld) ∧ (type_of% @k_st_fldB_1_ok) ∧ (type_of% @k_st_fldB_1_exc) ∧ (type_of% @k_st_fldAb_1_ok) ∧ (type_of% @k_st_fldAb_1_exc) ∧ (type_of% @k_st_fldA_1_ok) ∧ (type_of% @k_st_fldA_1_exc) ∧ (type_of% @e_st_fldA) ∧ (type_of% @k_st_ex_1_ok) ∧ (type_of% @k_st_ex_1_exc) ∧ (type_of% @e_st_ex) ∧ (type_of% @k_st_ret_1_ok) ∧ (type_of% @k_st_ret_1_exc) ∧ (type_of% @e_st_ret) :=
  ⟨@e_evOs_nil, @k_evOs_1_ok, @k_evOs_1_exc, @k_evOs_2_ok, @k_evOs_2_exc, @e_evOs, @k_evB_1_ok, @k_evB_1_exc, @e_evB, @k_st_asg_1_ok, @k_st_asg_1_exc, @e_st_asg, @k_st_asgB_1_ok, @k_st_asgB_1_exc, @e_st_asgB, @k_st_asgP_1_ok, @k_st_asgP_1_exc, @e_st_asgP, @k_st_unp_1_ok, @k_st_unp_1_exc, @e_st_unp, @k_st_app_1_ok, @k_st_app_1_exc, @e_st_app, @k_st_appb_1_ok, @k_st_appb_1_exc, @k_st_appA_1_ok, @k_st_appA_1_exc, @e_st_appA, @k_st_ext_1_ok, @k_st_ext_1_exc, @e_st_ext, @k_st_rem_1_ok, @k_st_rem_1_exc, @e_st_rem, @k_st_put_1_ok, @k_st_put_1_exc, @k_st_put_2_ok, @k_st_put_2_exc, @k_st_put_3_ok, @k_st_put_3_exc, @e_st_put, @k_st_fld_1_ok, @k_st_fld_1_exc, @k_st_fld_2_ok, @k_st_fld_2_exc, @e_st_fld, @k_st_fldB_1_ok, @k_st_fldB_1_exc, @k_st_fldAb_1_ok, @k_st_fldAb_1_exc, @k_st_fldA_1_ok, @k_st_fldA_1_exc, @e_st_fldA, @k_st_ex_1_ok, @k_st_ex_1_exc, @e_st_ex, @k_st_ret_1_ok, @k_st_ret_1_exc, @e_st_ret⟩
theorem EV6 : (type_of% @e_st_retV) ∧ (type_of% @k_st_ife_1_ok) ∧ (type_of% @k_st_ife_1_exc) ∧ (type_of% @e_st_ife) ∧ (type_of% @k_st_forB_1_ok) ∧ (type_of% @k_st_forB_1_exc) ∧ (type_of% @k_it_ok) ∧ (type_of% @e_st_for) ∧ (type_of% @e_st_forO) ∧ (type_of% @e_st_whl) ∧ (type_of% @e_st_rse0) ∧ (type_of% @k_st_rseB_1_ok) ∧ (type_of% @k_st_rseB_1_exc) ∧ (type_of% @e_st_rse1) ∧ (type_of% @e_st_try) ∧ (type_of% @e_st_fz) ∧ (type_of% @e_st_hole) ∧ (type_of% @k_seq_nx) ∧ (type_of% @k_seq_rt) ∧ (type_of% @k_seq_exc) ∧ (type_of% @e_ss_nil) ∧ (type_of% @e_ss_cons) ∧ (type_of% @k_st_whlb_1_ok) ∧ (type_of% @k_st_whlb_1_exc) :=
  ⟨@e_st_retV, @k_st_ife_1_ok, @k_st_ife_1_exc, @e_st_ife, @k_st_forB_1_ok, @k_st_forB_1_exc, @k_it_ok, @e_st_for, @e_st_forO, @e_st_whl, @e_st_rse0, @k_st_rseB_1_ok, @k_st_rseB_1_exc, @e_st_rse1, @e_st_try, @e_st_fz, @e_st_hole, @k_seq_nx, @k_seq_rt, @k_seq_exc, @e_ss_nil, @e_ss_cons, @k_st_whlb_1_ok, @k_st_whlb_1_exc⟩
end Lk
set_option linter.all false
set_option autoImplicit false
set_option maxRecDepth 100000
set_option maxHeartbeats 1000000
/-! LkM: the law's source of choices. -/
namespace Lk
/-- the law's choices: two counters and what is left of the script -/
def Rnd (o : Ob) : Prop := ∃ (a b : Int) (ns : List Int), o = .lst (.int a :: .int b :: ns.map .int) ∧ 0 ≤ a ∧ 0 ≤ b ∧ (∀ x ∈ ns, 0 < x) ∧ ns.length ≤ 63
structure HasRnd (C : Cfg) : Prop where
  rnd : C.fn f__law_random = some d__law_random
  bel : C.fn f__law_below = some d__law_below
  pik : C.fn f__law_pick = some d__law_pick
theorem sm1 : small64 48271 = true := by decide
theorem sm2 : small64 31 = true := by decide
theorem sm3 : small64 10 = true := by decide
section
variable {C : Cfg}
def below1 : Sm := .ife (.and [(.cmp .eq (.sub (.var 0) (.cst (.int 1))) (.cst (.int 0))), (.cmp .gt (.bi .len [(.var 0)]) (.cst (.int 2)))])
      [.put (.var 0) (.cst (.int 1)) (.pop (.var 0) (.cst (.int 2)))]
      []
theorem below_head : d__law_below.body.headD .hole = below1 := rfl
theorem below_st (s : Int) : startE d__law_below [.ref 0, .int s] = [some (false, .ref 0), some (false, .int s), none] := rfl
theorem below_spec (H : HasRnd C) {k : Nat} {rest : Store} {o : Ob} {s : Int} (ho : Rnd o) (hs : 0 < s) (hs2 : s < 1073741824) :
    ∃ r o', Rnd o' ∧ 0 ≤ r ∧ r < s ∧ evCall C (k + 1) f__law_below [.ref 0, .int s] (o :: rest) = .ok (false, .int r) (o' :: rest) := by
  obtain ⟨a, b, ns, rfl, ha, hb, hns, hl⟩ := ho
  have d1 : (decide (0 < s) && decide (s < 1073741824)) = true := by simp [hs, hs2]
  have tail : ∀ (b : Int) (ns : List Int), 0 ≤ b → (∀ x ∈ ns, 0 < x) → ns.length ≤ 63 → ∃ r o', Rnd o' ∧ 0 ≤ r ∧ r < s ∧ (evSs C (evCall C k) (calls C k).2 (d__law_below.body.drop 1) [some (false, .ref 0), some (false, .int s), none] (.lst (.int a :: .int b :: ns.map .int) :: rest)).fin = .ok (false, .int r) (o' :: rest) := by
    intro b ns hb hns hl
    by_cases h : 0 < b
    · refine ⟨b % s, .lst (.int a :: .int (b / s) :: ns.map .int), ⟨a, b / s, ns, rfl, ha, Int.ediv_nonneg hb (by omega), hns, hl⟩, Int.emod_nonneg _ (by omega), Int.emod_lt_of_pos _ hs, ?_⟩
      simp only [d__law_below, List.drop, EV0, EV1, EV2, EV3, EV4, EV5, EV6, k_lcT2_ok, k_lcT1_ok, k_lcE2_ok, k_lcE1_ok, k_for_nx, k_for_rt, k_wl_nx, k_wl_rt, fldAF, pick1_ok, peekS_f, peekS_l, peekS_d, retS_f, retS_l, retS_d, nxO_some, nxS_some, boxS_some, tryS_nx, tryS_rt, tryS_exc, asBl, asInt, asStr, Res.bind_ok, Res.bind_exc, Res.bind_bad, Res.inS_ok, Res.inS_exc, Res.inS_bad, Res.of_some, Res.of_none, Res.noX_ok, fin_nx, fin_rt, fin_exc, flat_non, flat_bl, flat_int, flat_str, List.getElem?_cons_zero, List.getElem?_cons_succ, List.getElem?_nil, List.set_cons_zero, List.set_cons_succ, Option.map_some, Option.map_none, Option.bind_some, Option.bind_none,
    startE, List.map_cons, List.map_nil, List.replicate, List.cons_append, List.nil_append, setOs, setTg, setTs, thaw, Bool.not_true, Bool.not_false, if_true, if_false, Bool.false_eq_true, Option.isSome_some, Option.isSome_none, biOp, binop, cmpop, subOp_tup, subOp_lst, subOp_str, subOp_dct, subOp_ref, asList, asDict, tagOf, isTag, List.any_cons, List.any_nil, Bool.or_false, Bool.false_or, Bool.or_true, Bool.true_or, Bool.and_true, Bool.true_and, Bool.and_false, Bool.false_and, decide_true, decide_false, Int.reduceLT, Int.reduceLE, Nat.reduceLT, Nat.reduceLeDiff, Nat.reduceAdd, Int.reduceAdd, Int.reduceSub, Int.reduceToNat, Int.reduceEq, Nat.reduceEqDiff, Nat.reduceBEq, Int.reduceBEq, Int.reduceNeg, Nat.reduceSub, Int.cast_ofNat_Int, Int.natCast_one, Int.natCast_zero, reduceCtorEq, eqOk_int, pyEq_int, ltOk_int, pyLt_int, pyEq_str, eqOk_str, eqOk_bl, pyEq_bl, ix0, ix1, ix2, List.length_cons, List.length_nil, beq_self_eq_true, ↓reduceIte, h, decide_true, hs, hs2, change, putO]
    · refine ⟨((a * 48271 + 11) % 2147483647) / 64 % s, .lst (.int ((a * 48271 + 11) % 2147483647) :: .int b :: ns.map .int), ⟨_, b, ns, rfl, Int.emod_nonneg _ (by omega), hb, hns, hl⟩, Int.emod_nonneg _ (by omega), Int.emod_lt_of_pos _ hs, ?_⟩
      simp only [d__law_below, List.drop, EV0, EV1, EV2, EV3, EV4, EV5, EV6, k_lcT2_ok, k_lcT1_ok, k_lcE2_ok, k_lcE1_ok, k_for_nx, k_for_rt, k_wl_nx, k_wl_rt, fldAF, pick1_ok, peekS_f, peekS_l, peekS_d, retS_f, retS_l, retS_d, nxO_some, nxS_some, boxS_some, tryS_nx, tryS_rt, tryS_exc, asBl, asInt, asStr, Res.bind_ok, Res.bind_exc, Res.bind_bad, Res.inS_ok, Res.inS_exc, Res.inS_bad, Res.of_some, Res.of_none, Res.noX_ok, fin_nx, fin_rt, fin_exc, flat_non, flat_bl, flat_int, flat_str, List.getElem?_cons_zero, List.getElem?_cons_succ, List.getElem?_nil, List.set_cons_zero, List.set_cons_succ, Option.map_some, Option.map_none, Option.bind_some, Option.bind_none,
    startE, List.map_cons, List.map_nil, List.replicate, List.cons_append, List.nil_append, setOs, setTg, setTs, thaw, Bool.not_true, Bool.not_false, if_true, if_false, Bool.false_eq_true, Option.isSome_some, Option.isSome_none, biOp, binop, cmpop, subOp_tup, subOp_lst, subOp_str, subOp_dct, subOp_ref, asList, asDict, tagOf, isTag, List.any_cons, List.any_nil, Bool.or_false, Bool.false_or, Bool.or_true, Bool.true_or, Bool.and_true, Bool.true_and, Bool.and_false, Bool.false_and, decide_true, decide_false, Int.reduceLT, Int.reduceLE, Nat.reduceLT, Nat.reduceLeDiff, Nat.reduceAdd, Int.reduceAdd, Int.reduceSub, Int.reduceToNat, Int.reduceEq, Nat.reduceEqDiff, Nat.reduceBEq, Int.reduceBEq, Int.reduceNeg, Nat.reduceSub, Int.cast_ofNat_Int, Int.natCast_one, Int.natCast_zero, reduceCtorEq, eqOk_int, pyEq_int, ltOk_int, pyLt_int, pyEq_str, eqOk_str, eqOk_bl, pyEq_bl, ix0, ix1, ix2, List.length_cons, List.length_nil, beq_self_eq_true, ↓reduceIte, h, decide_false, sm1, hs, hs2, change, putO]
  rw [run_of H.bel rfl]
  have e : evSs C (evCall C k) (calls C k).2 d__law_below.body (startE d__law_below [.ref 0, .int s]) (.lst (.int a :: .int b :: ns.map .int) :: rest)
      = k_seq C (evCall C k) (calls C k).2 (d__law_below.body.drop 1) (evS C (evCall C k) (calls C k).2 (d__law_below.body.headD .hole) (startE d__law_below [.ref 0, .int s]) (.lst (.int a :: .int b :: ns.map .int) :: rest)) := rfl
  rw [e, below_st]
  by_cases h0 : b = 0
  · subst h0
    cases ns with
    | nil =>
      obtain ⟨r, o', h1, h2, h3, h4⟩ := tail 0 [] (by omega) (by simp) (by simp)
      refine ⟨r, o', h1, h2, h3, ?_⟩
      rw [← h4]
      simp only [below_head, below1, EV0, EV1, EV2, EV3, EV4, EV5, EV6, k_lcT2_ok, k_lcT1_ok, k_lcE2_ok, k_lcE1_ok, k_for_nx, k_for_rt, k_wl_nx, k_wl_rt, fldAF, pick1_ok, peekS_f, peekS_l, peekS_d, retS_f, retS_l, retS_d, nxO_some, nxS_some, boxS_some, tryS_nx, tryS_rt, tryS_exc, asBl, asInt, asStr, Res.bind_ok, Res.bind_exc, Res.bind_bad, Res.inS_ok, Res.inS_exc, Res.inS_bad, Res.of_some, Res.of_none, Res.noX_ok, fin_nx, fin_rt, fin_exc, flat_non, flat_bl, flat_int, flat_str, List.getElem?_cons_zero, List.getElem?_cons_succ, List.getElem?_nil, List.set_cons_zero, List.set_cons_succ, Option.map_some, Option.map_none, Option.bind_some, Option.bind_none,
    startE, List.map_cons, List.map_nil, List.replicate, List.cons_append, List.nil_append, setOs, setTg, setTs, thaw, Bool.not_true, Bool.not_false, if_true, if_false, Bool.false_eq_true, Option.isSome_some, Option.isSome_none, biOp, binop, cmpop, subOp_tup, subOp_lst, subOp_str, subOp_dct, subOp_ref, asList, asDict, tagOf, isTag, List.any_cons, List.any_nil, Bool.or_false, Bool.false_or, Bool.or_true, Bool.true_or, Bool.and_true, Bool.true_and, Bool.and_false, Bool.false_and, decide_true, decide_false, Int.reduceLT, Int.reduceLE, Nat.reduceLT, Nat.reduceLeDiff, Nat.reduceAdd, Int.reduceAdd, Int.reduceSub, Int.reduceToNat, Int.reduceEq, Nat.reduceEqDiff, Nat.reduceBEq, Int.reduceBEq, Int.reduceNeg, Nat.reduceSub, Int.cast_ofNat_Int, Int.natCast_one, Int.natCast_zero, reduceCtorEq, eqOk_int, pyEq_int, ltOk_int, pyLt_int, pyEq_str, eqOk_str, eqOk_bl, pyEq_bl, ix0, ix1, ix2, List.length_cons, List.length_nil, beq_self_eq_true, ↓reduceIte]
    | cons x ns =>
      obtain ⟨r, o', h1, h2, h3, h4⟩ := tail x ns (by have := hns x List.mem_cons_self; omega) (fun y hy => hns y (List.mem_cons_of_mem _ hy)) (by simp at hl; omega)
      refine ⟨r, o', h1, h2, h3, ?_⟩
      rw [← h4]
      have g : decide ((2 : Int) < ((List.map Val.int ns).length + 1 + 1 + 1 : Nat)) = true := decide_eq_true (by omega)
      simp only [below_head, below1, EV0, EV1, EV2, EV3, EV4, EV5, EV6, k_lcT2_ok, k_lcT1_ok, k_lcE2_ok, k_lcE1_ok, k_for_nx, k_for_rt, k_wl_nx, k_wl_rt, fldAF, pick1_ok, peekS_f, peekS_l, peekS_d, retS_f, retS_l, retS_d, nxO_some, nxS_some, boxS_some, tryS_nx, tryS_rt, tryS_exc, asBl, asInt, asStr, Res.bind_ok, Res.bind_exc, Res.bind_bad, Res.inS_ok, Res.inS_exc, Res.inS_bad, Res.of_some, Res.of_none, Res.noX_ok, fin_nx, fin_rt, fin_exc, flat_non, flat_bl, flat_int, flat_str, List.getElem?_cons_zero, List.getElem?_cons_succ, List.getElem?_nil, List.set_cons_zero, List.set_cons_succ, Option.map_some, Option.map_none, Option.bind_some, Option.bind_none,
    startE, List.map_cons, List.map_nil, List.replicate, List.cons_append, List.nil_append, setOs, setTg, setTs, thaw, Bool.not_true, Bool.not_false, if_true, if_false, Bool.false_eq_true, Option.isSome_some, Option.isSome_none, biOp, binop, cmpop, subOp_tup, subOp_lst, subOp_str, subOp_dct, subOp_ref, asList, asDict, tagOf, isTag, List.any_cons, List.any_nil, Bool.or_false, Bool.false_or, Bool.or_true, Bool.true_or, Bool.and_true, Bool.true_and, Bool.and_false, Bool.false_and, decide_true, decide_false, Int.reduceLT, Int.reduceLE, Nat.reduceLT, Nat.reduceLeDiff, Nat.reduceAdd, Int.reduceAdd, Int.reduceSub, Int.reduceToNat, Int.reduceEq, Nat.reduceEqDiff, Nat.reduceBEq, Int.reduceBEq, Int.reduceNeg, Nat.reduceSub, Int.cast_ofNat_Int, Int.natCast_one, Int.natCast_zero, reduceCtorEq, eqOk_int, pyEq_int, ltOk_int, pyLt_int, pyEq_str, eqOk_str, eqOk_bl, pyEq_bl, ix0, ix1, ix2, List.length_cons, List.length_nil, beq_self_eq_true, ↓reduceIte, g, popOp, change, putO, List.eraseIdx]
  · obtain ⟨r, o', h1, h2, h3, h4⟩ := tail b ns hb hns hl
    refine ⟨r, o', h1, h2, h3, ?_⟩
    rw [← h4]
    have g : (b == 0) = false := beq_eq_false_iff_ne.mpr h0
    simp only [below_head, below1, EV0, EV1, EV2, EV3, EV4, EV5, EV6, k_lcT2_ok, k_lcT1_ok, k_lcE2_ok, k_lcE1_ok, k_for_nx, k_for_rt, k_wl_nx, k_wl_rt, fldAF, pick1_ok, peekS_f, peekS_l, peekS_d, retS_f, retS_l, retS_d, nxO_some, nxS_some, boxS_some, tryS_nx, tryS_rt, tryS_exc, asBl, asInt, asStr, Res.bind_ok, Res.bind_exc, Res.bind_bad, Res.inS_ok, Res.inS_exc, Res.inS_bad, Res.of_some, Res.of_none, Res.noX_ok, fin_nx, fin_rt, fin_exc, flat_non, flat_bl, flat_int, flat_str, List.getElem?_cons_zero, List.getElem?_cons_succ, List.getElem?_nil, List.set_cons_zero, List.set_cons_succ, Option.map_some, Option.map_none, Option.bind_some, Option.bind_none,
    startE, List.map_cons, List.map_nil, List.replicate, List.cons_append, List.nil_append, setOs, setTg, setTs, thaw, Bool.not_true, Bool.not_false, if_true, if_false, Bool.false_eq_true, Option.isSome_some, Option.isSome_none, biOp, binop, cmpop, subOp_tup, subOp_lst, subOp_str, subOp_dct, subOp_ref, asList, asDict, tagOf, isTag, List.any_cons, List.any_nil, Bool.or_false, Bool.false_or, Bool.or_true, Bool.true_or, Bool.and_true, Bool.true_and, Bool.and_false, Bool.false_and, decide_true, decide_false, Int.reduceLT, Int.reduceLE, Nat.reduceLT, Nat.reduceLeDiff, Nat.reduceAdd, Int.reduceAdd, Int.reduceSub, Int.reduceToNat, Int.reduceEq, Nat.reduceEqDiff, Nat.reduceBEq, Int.reduceBEq, Int.reduceNeg, Nat.reduceSub, Int.cast_ofNat_Int, Int.natCast_one, Int.natCast_zero, reduceCtorEq, eqOk_int, pyEq_int, ltOk_int, pyLt_int, pyEq_str, eqOk_str, eqOk_bl, pyEq_bl, ix0, ix1, ix2, List.length_cons, List.length_nil, beq_self_eq_true, ↓reduceIte, g]
/-! ### random -/
def seedOf (a : Int) : List Int → Int
  | [] => a
  | x :: r => seedOf ((a * 31 + (if x < 0 then -x else x)) % 2147483647) r
theorem seed_nonneg : ∀ (ns : List Int) (a : Int), 0 ≤ a → 0 ≤ seedOf a ns
  | [], a, h => h
  | x :: r, a, h => seed_nonneg r _ (Int.emod_nonneg _ (by omega))
theorem random_loop {cal mk : CallF} (sc : Val) (m : Int) : ∀ (ns : List Int) (a : Int) (o : Slot) (st : Store), ∃ o', forE C cal mk (.nm 3) [.asg 2 (.bin .mod (.bi .int [(.bin .add (.bin .mul (.var 2) (.cst (.int 31))) (.bi .abs [(.var 3)]))]) (.cst (.int 2147483647)))] (ns.map .int) [some (false, sc), some (false, .int m), some (false, .int a), o] st
    = .nx [some (false, sc), some (false, .int m), some (false, .int (seedOf a ns)), o'] st
  | [], a, o, st => ⟨o, rfl⟩
  | x :: r, a, o, st => by
    obtain ⟨o', h⟩ := random_loop (cal := cal) (mk := mk) sc m r ((a * 31 + (if x < 0 then -x else x)) % 2147483647) (some (false, .int x)) st
    refine ⟨o', ?_⟩
    rw [seedOf, ← h]
    simp only [forE_cons, forT, EV0, EV1, EV2, EV3, EV4, EV5, EV6, k_lcT2_ok, k_lcT1_ok, k_lcE2_ok, k_lcE1_ok, k_for_nx, k_for_rt, k_wl_nx, k_wl_rt, fldAF, pick1_ok, peekS_f, peekS_l, peekS_d, retS_f, retS_l, retS_d, nxO_some, nxS_some, boxS_some, tryS_nx, tryS_rt, tryS_exc, asBl, asInt, asStr, Res.bind_ok, Res.bind_exc, Res.bind_bad, Res.inS_ok, Res.inS_exc, Res.inS_bad, Res.of_some, Res.of_none, Res.noX_ok, fin_nx, fin_rt, fin_exc, flat_non, flat_bl, flat_int, flat_str, List.getElem?_cons_zero, List.getElem?_cons_succ, List.getElem?_nil, List.set_cons_zero, List.set_cons_succ, Option.map_some, Option.map_none, Option.bind_some, Option.bind_none,
    startE, List.map_cons, List.map_nil, List.replicate, List.cons_append, List.nil_append, setOs, setTg, setTs, thaw, Bool.not_true, Bool.not_false, if_true, if_false, Bool.false_eq_true, Option.isSome_some, Option.isSome_none, biOp, binop, cmpop, subOp_tup, subOp_lst, subOp_str, subOp_dct, subOp_ref, asList, asDict, tagOf, isTag, List.any_cons, List.any_nil, Bool.or_false, Bool.false_or, Bool.or_true, Bool.true_or, Bool.and_true, Bool.true_and, Bool.and_false, Bool.false_and, decide_true, decide_false, Int.reduceLT, Int.reduceLE, Nat.reduceLT, Nat.reduceLeDiff, Nat.reduceAdd, Int.reduceAdd, Int.reduceSub, Int.reduceToNat, Int.reduceEq, Nat.reduceEqDiff, Nat.reduceBEq, Int.reduceBEq, Int.reduceNeg, Nat.reduceSub, Int.cast_ofNat_Int, Int.natCast_one, Int.natCast_zero, reduceCtorEq, eqOk_int, pyEq_int, ltOk_int, pyLt_int, pyEq_str, eqOk_str, eqOk_bl, pyEq_bl, ix0, ix1, ix2, List.length_cons, List.length_nil, beq_self_eq_true, ↓reduceIte, sm2]
theorem filt_loop {cal mk : CallF} (s0 s1 s2 s3 : Slot) (ns : List Int) (st : Store) : lcE C cal mk (.nm 3) [(.cmp .ge (.var 3) (.bin .pow (.cst (.int 10)) (.cst (.int 18))))] (.var 3) [s0, s1, s2, s3] (ns.map .int) st
    = .ok ((ns.filter fun x => decide (10 ^ 18 ≤ x)).map .int) st := by
  rw [lcE_pure (g := fun v => match v with | .int x => if 10 ^ 18 ≤ x then [.int x] else [] | _ => []) (fun v hv => ?_)]
  · congr 1
    induction ns with
    | nil => rfl
    | cons x r ih =>
      simp only [List.map_cons, List.flatMap_cons, ih, List.filter_cons]
      by_cases h : (10 ^ 18 : Int) ≤ x
      · simp only [if_pos h, decide_eq_true h, if_true, List.map_cons, List.cons_append, List.nil_append]
      · simp only [if_neg h, decide_eq_false h, Bool.false_eq_true, if_false, List.nil_append]
  · obtain ⟨x, _, rfl⟩ := List.mem_map.mp hv
    have e : ((10 : Int) ^ (18 : Int).toNat) = 10 ^ 18 := by decide
    have e2 : ((10 : Int) ^ 18) = 1000000000000000000 := by decide
    by_cases h : (10 ^ 18 : Int) ≤ x
    · simp only [lcT, EV0, EV1, EV2, EV3, EV4, EV5, EV6, k_lcT2_ok, k_lcT1_ok, k_lcE2_ok, k_lcE1_ok, k_for_nx, k_for_rt, k_wl_nx, k_wl_rt, fldAF, pick1_ok, peekS_f, peekS_l, peekS_d, retS_f, retS_l, retS_d, nxO_some, nxS_some, boxS_some, tryS_nx, tryS_rt, tryS_exc, asBl, asInt, asStr, Res.bind_ok, Res.bind_exc, Res.bind_bad, Res.inS_ok, Res.inS_exc, Res.inS_bad, Res.of_some, Res.of_none, Res.noX_ok, fin_nx, fin_rt, fin_exc, flat_non, flat_bl, flat_int, flat_str, List.getElem?_cons_zero, List.getElem?_cons_succ, List.getElem?_nil, List.set_cons_zero, List.set_cons_succ, Option.map_some, Option.map_none, Option.bind_some, Option.bind_none,
    startE, List.map_cons, List.map_nil, List.replicate, List.cons_append, List.nil_append, setOs, setTg, setTs, thaw, Bool.not_true, Bool.not_false, if_true, if_false, Bool.false_eq_true, Option.isSome_some, Option.isSome_none, biOp, binop, cmpop, subOp_tup, subOp_lst, subOp_str, subOp_dct, subOp_ref, asList, asDict, tagOf, isTag, List.any_cons, List.any_nil, Bool.or_false, Bool.false_or, Bool.or_true, Bool.true_or, Bool.and_true, Bool.true_and, Bool.and_false, Bool.false_and, decide_true, decide_false, Int.reduceLT, Int.reduceLE, Nat.reduceLT, Nat.reduceLeDiff, Nat.reduceAdd, Int.reduceAdd, Int.reduceSub, Int.reduceToNat, Int.reduceEq, Nat.reduceEqDiff, Nat.reduceBEq, Int.reduceBEq, Int.reduceNeg, Nat.reduceSub, Int.cast_ofNat_Int, Int.natCast_one, Int.natCast_zero, reduceCtorEq, eqOk_int, pyEq_int, ltOk_int, pyLt_int, pyEq_str, eqOk_str, eqOk_bl, pyEq_bl, ix0, ix1, ix2, List.length_cons, List.length_nil, beq_self_eq_true, ↓reduceIte, sm3, e, e2, h]
      rw [e2] at h
      simp only [h, EV0, EV1, EV2, EV3, EV4, EV5, EV6, k_lcT2_ok, k_lcT1_ok, k_lcE2_ok, k_lcE1_ok, k_for_nx, k_for_rt, k_wl_nx, k_wl_rt, fldAF, pick1_ok, peekS_f, peekS_l, peekS_d, retS_f, retS_l, retS_d, nxO_some, nxS_some, boxS_some, tryS_nx, tryS_rt, tryS_exc, asBl, asInt, asStr, Res.bind_ok, Res.bind_exc, Res.bind_bad, Res.inS_ok, Res.inS_exc, Res.inS_bad, Res.of_some, Res.of_none, Res.noX_ok, fin_nx, fin_rt, fin_exc, flat_non, flat_bl, flat_int, flat_str, List.getElem?_cons_zero, List.getElem?_cons_succ, List.getElem?_nil, List.set_cons_zero, List.set_cons_succ, Option.map_some, Option.map_none, Option.bind_some, Option.bind_none,
    startE, List.map_cons, List.map_nil, List.replicate, List.cons_append, List.nil_append, setOs, setTg, setTs, thaw, Bool.not_true, Bool.not_false, if_true, if_false, Bool.false_eq_true, Option.isSome_some, Option.isSome_none, biOp, binop, cmpop, subOp_tup, subOp_lst, subOp_str, subOp_dct, subOp_ref, asList, asDict, tagOf, isTag, List.any_cons, List.any_nil, Bool.or_false, Bool.false_or, Bool.or_true, Bool.true_or, Bool.and_true, Bool.true_and, Bool.and_false, Bool.false_and, decide_true, decide_false, Int.reduceLT, Int.reduceLE, Nat.reduceLT, Nat.reduceLeDiff, Nat.reduceAdd, Int.reduceAdd, Int.reduceSub, Int.reduceToNat, Int.reduceEq, Nat.reduceEqDiff, Nat.reduceBEq, Int.reduceBEq, Int.reduceNeg, Nat.reduceSub, Int.cast_ofNat_Int, Int.natCast_one, Int.natCast_zero, reduceCtorEq, eqOk_int, pyEq_int, ltOk_int, pyLt_int, pyEq_str, eqOk_str, eqOk_bl, pyEq_bl, ix0, ix1, ix2, List.length_cons, List.length_nil, beq_self_eq_true, ↓reduceIte]
    · simp only [lcT, EV0, EV1, EV2, EV3, EV4, EV5, EV6, k_lcT2_ok, k_lcT1_ok, k_lcE2_ok, k_lcE1_ok, k_for_nx, k_for_rt, k_wl_nx, k_wl_rt, fldAF, pick1_ok, peekS_f, peekS_l, peekS_d, retS_f, retS_l, retS_d, nxO_some, nxS_some, boxS_some, tryS_nx, tryS_rt, tryS_exc, asBl, asInt, asStr, Res.bind_ok, Res.bind_exc, Res.bind_bad, Res.inS_ok, Res.inS_exc, Res.inS_bad, Res.of_some, Res.of_none, Res.noX_ok, fin_nx, fin_rt, fin_exc, flat_non, flat_bl, flat_int, flat_str, List.getElem?_cons_zero, List.getElem?_cons_succ, List.getElem?_nil, List.set_cons_zero, List.set_cons_succ, Option.map_some, Option.map_none, Option.bind_some, Option.bind_none,
    startE, List.map_cons, List.map_nil, List.replicate, List.cons_append, List.nil_append, setOs, setTg, setTs, thaw, Bool.not_true, Bool.not_false, if_true, if_false, Bool.false_eq_true, Option.isSome_some, Option.isSome_none, biOp, binop, cmpop, subOp_tup, subOp_lst, subOp_str, subOp_dct, subOp_ref, asList, asDict, tagOf, isTag, List.any_cons, List.any_nil, Bool.or_false, Bool.false_or, Bool.or_true, Bool.true_or, Bool.and_true, Bool.true_and, Bool.and_false, Bool.false_and, decide_true, decide_false, Int.reduceLT, Int.reduceLE, Nat.reduceLT, Nat.reduceLeDiff, Nat.reduceAdd, Int.reduceAdd, Int.reduceSub, Int.reduceToNat, Int.reduceEq, Nat.reduceEqDiff, Nat.reduceBEq, Int.reduceBEq, Int.reduceNeg, Nat.reduceSub, Int.cast_ofNat_Int, Int.natCast_one, Int.natCast_zero, reduceCtorEq, eqOk_int, pyEq_int, ltOk_int, pyLt_int, pyEq_str, eqOk_str, eqOk_bl, pyEq_bl, ix0, ix1, ix2, List.length_cons, List.length_nil, beq_self_eq_true, ↓reduceIte, sm3, e, e2, h]
      rw [e2] at h
      simp only [h, EV0, EV1, EV2, EV3, EV4, EV5, EV6, k_lcT2_ok, k_lcT1_ok, k_lcE2_ok, k_lcE1_ok, k_for_nx, k_for_rt, k_wl_nx, k_wl_rt, fldAF, pick1_ok, peekS_f, peekS_l, peekS_d, retS_f, retS_l, retS_d, nxO_some, nxS_some, boxS_some, tryS_nx, tryS_rt, tryS_exc, asBl, asInt, asStr, Res.bind_ok, Res.bind_exc, Res.bind_bad, Res.inS_ok, Res.inS_exc, Res.inS_bad, Res.of_some, Res.of_none, Res.noX_ok, fin_nx, fin_rt, fin_exc, flat_non, flat_bl, flat_int, flat_str, List.getElem?_cons_zero, List.getElem?_cons_succ, List.getElem?_nil, List.set_cons_zero, List.set_cons_succ, Option.map_some, Option.map_none, Option.bind_some, Option.bind_none,
    startE, List.map_cons, List.map_nil, List.replicate, List.cons_append, List.nil_append, setOs, setTg, setTs, thaw, Bool.not_true, Bool.not_false, if_true, if_false, Bool.false_eq_true, Option.isSome_some, Option.isSome_none, biOp, binop, cmpop, subOp_tup, subOp_lst, subOp_str, subOp_dct, subOp_ref, asList, asDict, tagOf, isTag, List.any_cons, List.any_nil, Bool.or_false, Bool.false_or, Bool.or_true, Bool.true_or, Bool.and_true, Bool.true_and, Bool.and_false, Bool.false_and, decide_true, decide_false, Int.reduceLT, Int.reduceLE, Nat.reduceLT, Nat.reduceLeDiff, Nat.reduceAdd, Int.reduceAdd, Int.reduceSub, Int.reduceToNat, Int.reduceEq, Nat.reduceEqDiff, Nat.reduceBEq, Int.reduceBEq, Int.reduceNeg, Nat.reduceSub, Int.cast_ofNat_Int, Int.natCast_one, Int.natCast_zero, reduceCtorEq, eqOk_int, pyEq_int, ltOk_int, pyLt_int, pyEq_str, eqOk_str, eqOk_bl, pyEq_bl, ix0, ix1, ix2, List.length_cons, List.length_nil, beq_self_eq_true, ↓reduceIte]
theorem random_spec (H : HasRnd C) {k : Nat} {ns : List Int} {m : Int} (hm : 0 ≤ m) (hl : ns.length ≤ 63) (st : Store) : ∃ vs, Rnd (.lst vs) ∧ evCall C (k + 1) f__law_random [.scr ns, .int m] st = .ok (true, .lst vs) st := by
  refine ⟨.int (seedOf m ns) :: .int 0 :: (ns.filter fun x => decide (10 ^ 18 ≤ x)).map .int, ⟨_, 0, _, rfl, seed_nonneg ns m hm, by omega, fun x hx => ?_, Nat.le_trans (List.length_filter_le _ _) hl⟩, ?_⟩
  · have := (List.mem_filter.mp hx).2
    have := of_decide_eq_true this
    have e : (10 : Int) ^ 18 = 1000000000000000000 := by decide
    omega
  · rw [run_of H.rnd rfl]
    obtain ⟨o', h⟩ := random_loop (C := C) (cal := evCall C k) (mk := (calls C k).2) (.scr ns) m ns m none st
    simp only [d__law_random, EV0, EV1, EV2, EV3, EV4, EV5, EV6, k_lcT2_ok, k_lcT1_ok, k_lcE2_ok, k_lcE1_ok, k_for_nx, k_for_rt, k_wl_nx, k_wl_rt, fldAF, pick1_ok, peekS_f, peekS_l, peekS_d, retS_f, retS_l, retS_d, nxO_some, nxS_some, boxS_some, tryS_nx, tryS_rt, tryS_exc, asBl, asInt, asStr, Res.bind_ok, Res.bind_exc, Res.bind_bad, Res.inS_ok, Res.inS_exc, Res.inS_bad, Res.of_some, Res.of_none, Res.noX_ok, fin_nx, fin_rt, fin_exc, flat_non, flat_bl, flat_int, flat_str, List.getElem?_cons_zero, List.getElem?_cons_succ, List.getElem?_nil, List.set_cons_zero, List.set_cons_succ, Option.map_some, Option.map_none, Option.bind_some, Option.bind_none,
    startE, List.map_cons, List.map_nil, List.replicate, List.cons_append, List.nil_append, setOs, setTg, setTs, thaw, Bool.not_true, Bool.not_false, if_true, if_false, Bool.false_eq_true, Option.isSome_some, Option.isSome_none, biOp, binop, cmpop, subOp_tup, subOp_lst, subOp_str, subOp_dct, subOp_ref, asList, asDict, tagOf, isTag, List.any_cons, List.any_nil, Bool.or_false, Bool.false_or, Bool.or_true, Bool.true_or, Bool.and_true, Bool.true_and, Bool.and_false, Bool.false_and, decide_true, decide_false, Int.reduceLT, Int.reduceLE, Nat.reduceLT, Nat.reduceLeDiff, Nat.reduceAdd, Int.reduceAdd, Int.reduceSub, Int.reduceToNat, Int.reduceEq, Nat.reduceEqDiff, Nat.reduceBEq, Int.reduceBEq, Int.reduceNeg, Nat.reduceSub, Int.cast_ofNat_Int, Int.natCast_one, Int.natCast_zero, reduceCtorEq, eqOk_int, pyEq_int, ltOk_int, pyLt_int, pyEq_str, eqOk_str, eqOk_bl, pyEq_bl, ix0, ix1, ix2, List.length_cons, List.length_nil, beq_self_eq_true, ↓reduceIte, itOp, walkOf]
    rw [h]
    simp only [EV0, EV1, EV2, EV3, EV4, EV5, EV6, k_lcT2_ok, k_lcT1_ok, k_lcE2_ok, k_lcE1_ok, k_for_nx, k_for_rt, k_wl_nx, k_wl_rt, fldAF, pick1_ok, peekS_f, peekS_l, peekS_d, retS_f, retS_l, retS_d, nxO_some, nxS_some, boxS_some, tryS_nx, tryS_rt, tryS_exc, asBl, asInt, asStr, Res.bind_ok, Res.bind_exc, Res.bind_bad, Res.inS_ok, Res.inS_exc, Res.inS_bad, Res.of_some, Res.of_none, Res.noX_ok, fin_nx, fin_rt, fin_exc, flat_non, flat_bl, flat_int, flat_str, List.getElem?_cons_zero, List.getElem?_cons_succ, List.getElem?_nil, List.set_cons_zero, List.set_cons_succ, Option.map_some, Option.map_none, Option.bind_some, Option.bind_none,
    startE, List.map_cons, List.map_nil, List.replicate, List.cons_append, List.nil_append, setOs, setTg, setTs, thaw, Bool.not_true, Bool.not_false, if_true, if_false, Bool.false_eq_true, Option.isSome_some, Option.isSome_none, biOp, binop, cmpop, subOp_tup, subOp_lst, subOp_str, subOp_dct, subOp_ref, asList, asDict, tagOf, isTag, List.any_cons, List.any_nil, Bool.or_false, Bool.false_or, Bool.or_true, Bool.true_or, Bool.and_true, Bool.true_and, Bool.and_false, Bool.false_and, decide_true, decide_false, Int.reduceLT, Int.reduceLE, Nat.reduceLT, Nat.reduceLeDiff, Nat.reduceAdd, Int.reduceAdd, Int.reduceSub, Int.reduceToNat, Int.reduceEq, Nat.reduceEqDiff, Nat.reduceBEq, Int.reduceBEq, Int.reduceNeg, Nat.reduceSub, Int.cast_ofNat_Int, Int.natCast_one, Int.natCast_zero, reduceCtorEq, eqOk_int, pyEq_int, ltOk_int, pyLt_int, pyEq_str, eqOk_str, eqOk_bl, pyEq_bl, ix0, ix1, ix2, List.length_cons, List.length_nil, beq_self_eq_true, ↓reduceIte, itOp, walkOf]
    rw [filt_loop]
    have g : (2 + ((ns.filter fun x => decide (10 ^ 18 ≤ x)).map Val.int).length ≤ maxLen) := by
      have := List.length_filter_le (fun x => decide ((10:Int) ^ 18 ≤ x)) ns
      simp only [List.length_map, maxLen]
      omega
    simp only [EV0, EV1, EV2, EV3, EV4, EV5, EV6, k_lcT2_ok, k_lcT1_ok, k_lcE2_ok, k_lcE1_ok, k_for_nx, k_for_rt, k_wl_nx, k_wl_rt, fldAF, pick1_ok, peekS_f, peekS_l, peekS_d, retS_f, retS_l, retS_d, nxO_some, nxS_some, boxS_some, tryS_nx, tryS_rt, tryS_exc, asBl, asInt, asStr, Res.bind_ok, Res.bind_exc, Res.bind_bad, Res.inS_ok, Res.inS_exc, Res.inS_bad, Res.of_some, Res.of_none, Res.noX_ok, fin_nx, fin_rt, fin_exc, flat_non, flat_bl, flat_int, flat_str, List.getElem?_cons_zero, List.getElem?_cons_succ, List.getElem?_nil, List.set_cons_zero, List.set_cons_succ, Option.map_some, Option.map_none, Option.bind_some, Option.bind_none,
    startE, List.map_cons, List.map_nil, List.replicate, List.cons_append, List.nil_append, setOs, setTg, setTs, thaw, Bool.not_true, Bool.not_false, if_true, if_false, Bool.false_eq_true, Option.isSome_some, Option.isSome_none, biOp, binop, cmpop, subOp_tup, subOp_lst, subOp_str, subOp_dct, subOp_ref, asList, asDict, tagOf, isTag, List.any_cons, List.any_nil, Bool.or_false, Bool.false_or, Bool.or_true, Bool.true_or, Bool.and_true, Bool.true_and, Bool.and_false, Bool.false_and, decide_true, decide_false, Int.reduceLT, Int.reduceLE, Nat.reduceLT, Nat.reduceLeDiff, Nat.reduceAdd, Int.reduceAdd, Int.reduceSub, Int.reduceToNat, Int.reduceEq, Nat.reduceEqDiff, Nat.reduceBEq, Int.reduceBEq, Int.reduceNeg, Nat.reduceSub, Int.cast_ofNat_Int, Int.natCast_one, Int.natCast_zero, reduceCtorEq, eqOk_int, pyEq_int, ltOk_int, pyLt_int, pyEq_str, eqOk_str, eqOk_bl, pyEq_bl, ix0, ix1, ix2, List.length_cons, List.length_nil, beq_self_eq_true, ↓reduceIte, g]
/-! ### pick -/
theorem pick_spec (H : HasRnd C) {k : Nat} {rest : Store} {o : Ob} {xs : List Val} (ho : Rnd o) (hx : 0 < xs.length) (hx2 : xs.length < 1073741824) :
    ∃ (r : Nat) (x : Val) (o' : Ob), Rnd o' ∧ xs[r]? = some x ∧ evCall C (k + 2) f__law_pick [.ref 0, .lst xs] (o :: rest) = .ok (false, x) (o' :: rest) := by
  obtain ⟨r, o', h1, h2, h3, h4⟩ := below_spec H (k := k) (rest := rest) (s := xs.length) ho (by omega) (by omega)
  have hr : r.toNat < xs.length := by omega
  refine ⟨r.toNat, xs[r.toNat], o', h1, List.getElem?_eq_getElem hr, ?_⟩
  rw [run_of H.pik rfl]
  have e : ixOf xs.length r = some r.toNat := by
    unfold ixOf
    rw [if_pos h2, if_pos h3]
  have e2 : xs[r.toNat]? = some xs[r.toNat] := List.getElem?_eq_getElem hr
  simp only [d__law_pick, EV0, EV1, EV2, EV3, EV4, EV5, EV6, k_lcT2_ok, k_lcT1_ok, k_lcE2_ok, k_lcE1_ok, k_for_nx, k_for_rt, k_wl_nx, k_wl_rt, fldAF, pick1_ok, peekS_f, peekS_l, peekS_d, retS_f, retS_l, retS_d, nxO_some, nxS_some, boxS_some, tryS_nx, tryS_rt, tryS_exc, asBl, asInt, asStr, Res.bind_ok, Res.bind_exc, Res.bind_bad, Res.inS_ok, Res.inS_exc, Res.inS_bad, Res.of_some, Res.of_none, Res.noX_ok, fin_nx, fin_rt, fin_exc, flat_non, flat_bl, flat_int, flat_str, List.getElem?_cons_zero, List.getElem?_cons_succ, List.getElem?_nil, List.set_cons_zero, List.set_cons_succ, Option.map_some, Option.map_none, Option.bind_some, Option.bind_none,
    startE, List.map_cons, List.map_nil, List.replicate, List.cons_append, List.nil_append, setOs, setTg, setTs, thaw, Bool.not_true, Bool.not_false, if_true, if_false, Bool.false_eq_true, Option.isSome_some, Option.isSome_none, biOp, binop, cmpop, subOp_tup, subOp_lst, subOp_str, subOp_dct, subOp_ref, asList, asDict, tagOf, isTag, List.any_cons, List.any_nil, Bool.or_false, Bool.false_or, Bool.or_true, Bool.true_or, Bool.and_true, Bool.true_and, Bool.and_false, Bool.false_and, decide_true, decide_false, Int.reduceLT, Int.reduceLE, Nat.reduceLT, Nat.reduceLeDiff, Nat.reduceAdd, Int.reduceAdd, Int.reduceSub, Int.reduceToNat, Int.reduceEq, Nat.reduceEqDiff, Nat.reduceBEq, Int.reduceBEq, Int.reduceNeg, Nat.reduceSub, Int.cast_ofNat_Int, Int.natCast_one, Int.natCast_zero, reduceCtorEq, eqOk_int, pyEq_int, ltOk_int, pyLt_int, pyEq_str, eqOk_str, eqOk_bl, pyEq_bl, ix0, ix1, ix2, List.length_cons, List.length_nil, beq_self_eq_true, ↓reduceIte, h4, e, e2]
end
end Lk
set_option linter.all false
set_option autoImplicit false
set_option maxRecDepth 100000
set_option maxHeartbeats 1000000
/-! LkN: shapes, and what the program's small functions answer of them. -/
namespace Lk
inductive Sh where
  | one
  | nam (s : Sn)
  | pair (a b : Sh)
  | to (a b : Sh)
  deriving DecidableEq
abbrev sOne : Sn := [111, 110, 101]
abbrev sName : Sn := [110, 97, 109, 101]
abbrev sPair : Sn := [112, 97, 105, 114]
abbrev sTo : Sn := [116, 111]
def Sh.v : Sh → Val
  | .one => .tup [.str sOne]
  | .nam s => .tup [.str sName, .str s]
  | .pair a b => .tup [.str sPair, a.v, b.v]
  | .to a b => .tup [.str sTo, a.v, b.v]
def Sh.lv : Sh → Nat
  | .one => 1
  | .nam _ => 1
  | .pair a b => a.lv + b.lv
  | .to a b => a.lv + b.lv
def Sh.dp : Sh → Nat
  | .one => 0
  | .nam _ => 0
  | .pair a b => max a.dp b.dp + 1
  | .to a b => max a.dp b.dp + 1
theorem Sh.lv_pos : ∀ s : Sh, 1 ≤ s.lv
  | .one => Nat.le_refl _
  | .nam _ => Nat.le_refl _
  | .pair a b => by have := a.lv_pos; simp only [Sh.lv]; omega
  | .to a b => by have := a.lv_pos; simp only [Sh.lv]; omega
theorem Sh.dp_lt : ∀ s : Sh, s.dp < s.lv
  | .one => Nat.one_pos
  | .nam _ => Nat.one_pos
  | .pair a b => by have := a.dp_lt; have := b.dp_lt; simp only [Sh.lv, Sh.dp]; omega
  | .to a b => by have := a.dp_lt; have := b.dp_lt; simp only [Sh.lv, Sh.dp]; omega
def letters : Sn := [97, 98, 99, 100, 101, 102, 103, 104, 105, 106, 107, 108, 109, 110, 111, 112, 113, 114, 115, 116, 117, 118, 119, 120, 121, 122]
def isLet (c : Nat) : Bool := letters.contains c
def isNm (s : Sn) : Bool := decide (1 ≤ s.length) && (decide (s.length ≤ 8) && s.all isLet)
/-- its names are names -/
def Sh.ok : Sh → Bool
  | .one => true
  | .nam s => isNm s
  | .pair a b => a.ok && b.ok
  | .to a b => a.ok && b.ok
structure HasSh (C : Cfg) : Prop where
  nm : C.fn f_is_name = some d_is_name
  fm : C.fn f_is_form = some d_is_form
  lc : C.fn f_leaf_count = some d_leaf_count
  sh : C.fn f_is_shape = some d_is_shape
  ck : C.fn f_check_shape = some d_check_shape
  g0 : C.glb 0 = some (.str letters)
  g1 : C.glb 1 = some (.int 200)
  g2 : C.glb 2 = some (.tup [.str sOne])
  x0 : C.xf 0 = some none
theorem allBl_map {α : Type} (f : α → Bool) : ∀ xs : List α, allBl (xs.flatMap fun x => [.bl (f x)]) = some (xs.all f)
  | [] => rfl
  | x :: r => by simp only [List.flatMap_cons, List.cons_append, List.nil_append, allBl, allBl_map f r, Option.map_some, List.all_cons]
theorem flat_map' {α β γ : Type} (f : α → β) (g : β → List γ) : ∀ xs : List α, (xs.map f).flatMap g = xs.flatMap fun x => g (f x)
  | [] => rfl
  | x :: r => by simp only [List.map_cons, List.flatMap_cons, flat_map' f g r]
section
variable {C : Cfg}
theorem name_spec (H : HasSh C) {k : Nat} (s : Sn) (st : Store) : evCall C (k + 1) f_is_name [.str s] st = .ok (false, .bl (isNm s)) st := by
  rw [run_of H.nm rfl]
  have hl : ∀ s0 s1 : Slot, lcE C (evCall C k) (calls C k).2 (.nm 1) [] (.cmp .isin (.var 1) (.glb 0)) [s0, s1] (s.map fun c => Val.str [c]) st = .ok (s.flatMap fun c => [.bl (isLet c)]) st := fun s0 s1 => by
    rw [lcE_pure (g := fun v => match v with | .str [c] => [.bl (isLet c)] | _ => []) (fun v hv => ?_), flat_map']
    obtain ⟨c, _, rfl⟩ := List.mem_map.mp hv
    simp only [lcT, EV0, EV1, EV2, EV3, EV4, EV5, EV6, k_lcT2_ok, k_lcT1_ok, k_lcE2_ok, k_lcE1_ok, k_for_nx, k_for_rt, k_wl_nx, k_wl_rt, fldAF, pick1_ok, peekS_f, peekS_l, peekS_d, retS_f, retS_l, retS_d, nxO_some, nxS_some, boxS_some, tryS_nx, tryS_rt, tryS_exc, asBl, asInt, asStr, Res.bind_ok, Res.bind_exc, Res.bind_bad, Res.inS_ok, Res.inS_exc, Res.inS_bad, Res.of_some, Res.of_none, Res.noX_ok, fin_nx, fin_rt, fin_exc, flat_non, flat_bl, flat_int, flat_str, List.getElem?_cons_zero, List.getElem?_cons_succ, List.getElem?_nil, List.set_cons_zero, List.set_cons_succ, Option.map_some, Option.map_none, Option.bind_some, Option.bind_none,
    startE, List.map_cons, List.map_nil, List.replicate, List.cons_append, List.nil_append, setOs, setTg, setTs, thaw, Bool.not_true, Bool.not_false, if_true, if_false, Bool.false_eq_true, Option.isSome_some, Option.isSome_none, biOp, binop, cmpop, subOp_tup, subOp_lst, subOp_str, subOp_dct, subOp_ref, asList, asDict, tagOf, isTag, List.any_cons, List.any_nil, Bool.or_false, Bool.false_or, Bool.or_true, Bool.true_or, Bool.and_true, Bool.true_and, Bool.and_false, Bool.false_and, decide_true, decide_false, Int.reduceLT, Int.reduceLE, Nat.reduceLT, Nat.reduceLeDiff, Nat.reduceAdd, Int.reduceAdd, Int.reduceSub, Int.reduceToNat, Int.reduceEq, Nat.reduceEqDiff, Nat.reduceBEq, Int.reduceBEq, Int.reduceNeg, Nat.reduceSub, Int.cast_ofNat_Int, Int.natCast_one, Int.natCast_zero, reduceCtorEq, eqOk_int, pyEq_int, ltOk_int, pyLt_int, pyEq_str, eqOk_str, eqOk_bl, pyEq_bl, ix0, ix1, ix2, List.length_cons, List.length_nil, beq_self_eq_true, ↓reduceIte, H.g0, isIn] <;> rfl
  simp only [d_is_name, EV0, EV1, EV2, EV3, EV4, EV5, EV6, k_lcT2_ok, k_lcT1_ok, k_lcE2_ok, k_lcE1_ok, k_for_nx, k_for_rt, k_wl_nx, k_wl_rt, fldAF, pick1_ok, peekS_f, peekS_l, peekS_d, retS_f, retS_l, retS_d, nxO_some, nxS_some, boxS_some, tryS_nx, tryS_rt, tryS_exc, asBl, asInt, asStr, Res.bind_ok, Res.bind_exc, Res.bind_bad, Res.inS_ok, Res.inS_exc, Res.inS_bad, Res.of_some, Res.of_none, Res.noX_ok, fin_nx, fin_rt, fin_exc, flat_non, flat_bl, flat_int, flat_str, List.getElem?_cons_zero, List.getElem?_cons_succ, List.getElem?_nil, List.set_cons_zero, List.set_cons_succ, Option.map_some, Option.map_none, Option.bind_some, Option.bind_none,
    startE, List.map_cons, List.map_nil, List.replicate, List.cons_append, List.nil_append, setOs, setTg, setTs, thaw, Bool.not_true, Bool.not_false, if_true, if_false, Bool.false_eq_true, Option.isSome_some, Option.isSome_none, biOp, binop, cmpop, subOp_tup, subOp_lst, subOp_str, subOp_dct, subOp_ref, asList, asDict, tagOf, isTag, List.any_cons, List.any_nil, Bool.or_false, Bool.false_or, Bool.or_true, Bool.true_or, Bool.and_true, Bool.true_and, Bool.and_false, Bool.false_and, decide_true, decide_false, Int.reduceLT, Int.reduceLE, Nat.reduceLT, Nat.reduceLeDiff, Nat.reduceAdd, Int.reduceAdd, Int.reduceSub, Int.reduceToNat, Int.reduceEq, Nat.reduceEqDiff, Nat.reduceBEq, Int.reduceBEq, Int.reduceNeg, Nat.reduceSub, Int.cast_ofNat_Int, Int.natCast_one, Int.natCast_zero, reduceCtorEq, eqOk_int, pyEq_int, ltOk_int, pyLt_int, pyEq_str, eqOk_str, eqOk_bl, pyEq_bl, ix0, ix1, ix2, List.length_cons, List.length_nil, beq_self_eq_true, ↓reduceIte]
  by_cases h1 : 1 ≤ s.length
  · have h1' : (1 : Int) ≤ (s.length : Int) := by omega
    by_cases h2 : s.length ≤ 8
    · have h2' : (s.length : Int) ≤ 8 := by omega
      simp only [EV0, EV1, EV2, EV3, EV4, EV5, EV6, k_lcT2_ok, k_lcT1_ok, k_lcE2_ok, k_lcE1_ok, k_for_nx, k_for_rt, k_wl_nx, k_wl_rt, fldAF, pick1_ok, peekS_f, peekS_l, peekS_d, retS_f, retS_l, retS_d, nxO_some, nxS_some, boxS_some, tryS_nx, tryS_rt, tryS_exc, asBl, asInt, asStr, Res.bind_ok, Res.bind_exc, Res.bind_bad, Res.inS_ok, Res.inS_exc, Res.inS_bad, Res.of_some, Res.of_none, Res.noX_ok, fin_nx, fin_rt, fin_exc, flat_non, flat_bl, flat_int, flat_str, List.getElem?_cons_zero, List.getElem?_cons_succ, List.getElem?_nil, List.set_cons_zero, List.set_cons_succ, Option.map_some, Option.map_none, Option.bind_some, Option.bind_none,
    startE, List.map_cons, List.map_nil, List.replicate, List.cons_append, List.nil_append, setOs, setTg, setTs, thaw, Bool.not_true, Bool.not_false, if_true, if_false, Bool.false_eq_true, Option.isSome_some, Option.isSome_none, biOp, binop, cmpop, subOp_tup, subOp_lst, subOp_str, subOp_dct, subOp_ref, asList, asDict, tagOf, isTag, List.any_cons, List.any_nil, Bool.or_false, Bool.false_or, Bool.or_true, Bool.true_or, Bool.and_true, Bool.true_and, Bool.and_false, Bool.false_and, decide_true, decide_false, Int.reduceLT, Int.reduceLE, Nat.reduceLT, Nat.reduceLeDiff, Nat.reduceAdd, Int.reduceAdd, Int.reduceSub, Int.reduceToNat, Int.reduceEq, Nat.reduceEqDiff, Nat.reduceBEq, Int.reduceBEq, Int.reduceNeg, Nat.reduceSub, Int.cast_ofNat_Int, Int.natCast_one, Int.natCast_zero, reduceCtorEq, eqOk_int, pyEq_int, ltOk_int, pyLt_int, pyEq_str, eqOk_str, eqOk_bl, pyEq_bl, ix0, ix1, ix2, List.length_cons, List.length_nil, beq_self_eq_true, ↓reduceIte, h1', h2', itOp, walkOf, hl, allBl_map, isNm, h1, h2]
    · have h2' : ¬ (s.length : Int) ≤ 8 := by omega
      simp only [EV0, EV1, EV2, EV3, EV4, EV5, EV6, k_lcT2_ok, k_lcT1_ok, k_lcE2_ok, k_lcE1_ok, k_for_nx, k_for_rt, k_wl_nx, k_wl_rt, fldAF, pick1_ok, peekS_f, peekS_l, peekS_d, retS_f, retS_l, retS_d, nxO_some, nxS_some, boxS_some, tryS_nx, tryS_rt, tryS_exc, asBl, asInt, asStr, Res.bind_ok, Res.bind_exc, Res.bind_bad, Res.inS_ok, Res.inS_exc, Res.inS_bad, Res.of_some, Res.of_none, Res.noX_ok, fin_nx, fin_rt, fin_exc, flat_non, flat_bl, flat_int, flat_str, List.getElem?_cons_zero, List.getElem?_cons_succ, List.getElem?_nil, List.set_cons_zero, List.set_cons_succ, Option.map_some, Option.map_none, Option.bind_some, Option.bind_none,
    startE, List.map_cons, List.map_nil, List.replicate, List.cons_append, List.nil_append, setOs, setTg, setTs, thaw, Bool.not_true, Bool.not_false, if_true, if_false, Bool.false_eq_true, Option.isSome_some, Option.isSome_none, biOp, binop, cmpop, subOp_tup, subOp_lst, subOp_str, subOp_dct, subOp_ref, asList, asDict, tagOf, isTag, List.any_cons, List.any_nil, Bool.or_false, Bool.false_or, Bool.or_true, Bool.true_or, Bool.and_true, Bool.true_and, Bool.and_false, Bool.false_and, decide_true, decide_false, Int.reduceLT, Int.reduceLE, Nat.reduceLT, Nat.reduceLeDiff, Nat.reduceAdd, Int.reduceAdd, Int.reduceSub, Int.reduceToNat, Int.reduceEq, Nat.reduceEqDiff, Nat.reduceBEq, Int.reduceBEq, Int.reduceNeg, Nat.reduceSub, Int.cast_ofNat_Int, Int.natCast_one, Int.natCast_zero, reduceCtorEq, eqOk_int, pyEq_int, ltOk_int, pyLt_int, pyEq_str, eqOk_str, eqOk_bl, pyEq_bl, ix0, ix1, ix2, List.length_cons, List.length_nil, beq_self_eq_true, ↓reduceIte, h1', h2', isNm, h1, h2]
  · have h1' : ¬ (1 : Int) ≤ (s.length : Int) := by omega
    simp only [EV0, EV1, EV2, EV3, EV4, EV5, EV6, k_lcT2_ok, k_lcT1_ok, k_lcE2_ok, k_lcE1_ok, k_for_nx, k_for_rt, k_wl_nx, k_wl_rt, fldAF, pick1_ok, peekS_f, peekS_l, peekS_d, retS_f, retS_l, retS_d, nxO_some, nxS_some, boxS_some, tryS_nx, tryS_rt, tryS_exc, asBl, asInt, asStr, Res.bind_ok, Res.bind_exc, Res.bind_bad, Res.inS_ok, Res.inS_exc, Res.inS_bad, Res.of_some, Res.of_none, Res.noX_ok, fin_nx, fin_rt, fin_exc, flat_non, flat_bl, flat_int, flat_str, List.getElem?_cons_zero, List.getElem?_cons_succ, List.getElem?_nil, List.set_cons_zero, List.set_cons_succ, Option.map_some, Option.map_none, Option.bind_some, Option.bind_none,
    startE, List.map_cons, List.map_nil, List.replicate, List.cons_append, List.nil_append, setOs, setTg, setTs, thaw, Bool.not_true, Bool.not_false, if_true, if_false, Bool.false_eq_true, Option.isSome_some, Option.isSome_none, biOp, binop, cmpop, subOp_tup, subOp_lst, subOp_str, subOp_dct, subOp_ref, asList, asDict, tagOf, isTag, List.any_cons, List.any_nil, Bool.or_false, Bool.false_or, Bool.or_true, Bool.true_or, Bool.and_true, Bool.true_and, Bool.and_false, Bool.false_and, decide_true, decide_false, Int.reduceLT, Int.reduceLE, Nat.reduceLT, Nat.reduceLeDiff, Nat.reduceAdd, Int.reduceAdd, Int.reduceSub, Int.reduceToNat, Int.reduceEq, Nat.reduceEqDiff, Nat.reduceBEq, Int.reduceBEq, Int.reduceNeg, Nat.reduceSub, Int.cast_ofNat_Int, Int.natCast_one, Int.natCast_zero, reduceCtorEq, eqOk_int, pyEq_int, ltOk_int, pyLt_int, pyEq_str, eqOk_str, eqOk_bl, pyEq_bl, ix0, ix1, ix2, List.length_cons, List.length_nil, beq_self_eq_true, ↓reduceIte, h1', isNm, h1]
theorem name_no (H : HasSh C) {k : Nat} {v : Val} {st : Store} {t : Tag} (ht : tagOf st v = some t) (hn : t ≠ .str) : evCall C (k + 1) f_is_name [v] st = .ok (false, .bl false) st := by
  rw [run_of H.nm rfl]
  have e : isTag t .tstr = false := by cases t <;> first | rfl | exact absurd rfl hn
  have e2 : ([Ty.tstr].any (isTag t)) = false := by simp [e]
  simp only [d_is_name, e_ss_cons, e_ss_nil, k_seq_rt, e_st_ret, k_st_ret_1_ok, e_and, e_evAnd2, k_evAnd2_1_ok, k_evAnd2_2_ok, e_isi, k_isi_1_ok, od_var, startE, List.map_cons, List.map_nil, List.replicate, List.cons_append, List.nil_append, List.getElem?_cons_zero, peekS_f, Res.bind_ok, ht, Option.map_some, Res.of_some, e2, asBl, if_false, Bool.false_eq_true, fin_rt]
theorem form_spec (H : HasSh C) : ∀ (s : Sh) (k : Nat) (st : Store), s.dp + 2 ≤ k → evCall C k f_is_form [s.v] st = .ok (false, .bl s.ok) st
  | .one, k + 1, st, h => by
    rw [run_of H.fm rfl]
    simp only [d_is_form, Sh.v, EV0, EV1, EV2, EV3, EV4, EV5, EV6, k_lcT2_ok, k_lcT1_ok, k_lcE2_ok, k_lcE1_ok, k_for_nx, k_for_rt, k_wl_nx, k_wl_rt, fldAF, pick1_ok, peekS_f, peekS_l, peekS_d, retS_f, retS_l, retS_d, nxO_some, nxS_some, boxS_some, tryS_nx, tryS_rt, tryS_exc, asBl, asInt, asStr, Res.bind_ok, Res.bind_exc, Res.bind_bad, Res.inS_ok, Res.inS_exc, Res.inS_bad, Res.of_some, Res.of_none, Res.noX_ok, fin_nx, fin_rt, fin_exc, flat_non, flat_bl, flat_int, flat_str, List.getElem?_cons_zero, List.getElem?_cons_succ, List.getElem?_nil, List.set_cons_zero, List.set_cons_succ, Option.map_some, Option.map_none, Option.bind_some, Option.bind_none,
    startE, List.map_cons, List.map_nil, List.replicate, List.cons_append, List.nil_append, setOs, setTg, setTs, thaw, Bool.not_true, Bool.not_false, if_true, if_false, Bool.false_eq_true, Option.isSome_some, Option.isSome_none, biOp, binop, cmpop, subOp_tup, subOp_lst, subOp_str, subOp_dct, subOp_ref, asList, asDict, tagOf, isTag, List.any_cons, List.any_nil, Bool.or_false, Bool.false_or, Bool.or_true, Bool.true_or, Bool.and_true, Bool.true_and, Bool.and_false, Bool.false_and, decide_true, decide_false, Int.reduceLT, Int.reduceLE, Nat.reduceLT, Nat.reduceLeDiff, Nat.reduceAdd, Int.reduceAdd, Int.reduceSub, Int.reduceToNat, Int.reduceEq, Nat.reduceEqDiff, Nat.reduceBEq, Int.reduceBEq, Int.reduceNeg, Nat.reduceSub, Int.cast_ofNat_Int, Int.natCast_one, Int.natCast_zero, reduceCtorEq, eqOk_int, pyEq_int, ltOk_int, pyLt_int, pyEq_str, eqOk_str, eqOk_bl, pyEq_bl, ix0, ix1, ix2, List.length_cons, List.length_nil, beq_self_eq_true, ↓reduceIte, H.g2] <;> rfl
  | .nam s, k + 2, st, h => by
    rw [run_of H.fm rfl]
    simp only [d_is_form, Sh.v, EV0, EV1, EV2, EV3, EV4, EV5, EV6, k_lcT2_ok, k_lcT1_ok, k_lcE2_ok, k_lcE1_ok, k_for_nx, k_for_rt, k_wl_nx, k_wl_rt, fldAF, pick1_ok, peekS_f, peekS_l, peekS_d, retS_f, retS_l, retS_d, nxO_some, nxS_some, boxS_some, tryS_nx, tryS_rt, tryS_exc, asBl, asInt, asStr, Res.bind_ok, Res.bind_exc, Res.bind_bad, Res.inS_ok, Res.inS_exc, Res.inS_bad, Res.of_some, Res.of_none, Res.noX_ok, fin_nx, fin_rt, fin_exc, flat_non, flat_bl, flat_int, flat_str, List.getElem?_cons_zero, List.getElem?_cons_succ, List.getElem?_nil, List.set_cons_zero, List.set_cons_succ, Option.map_some, Option.map_none, Option.bind_some, Option.bind_none,
    startE, List.map_cons, List.map_nil, List.replicate, List.cons_append, List.nil_append, setOs, setTg, setTs, thaw, Bool.not_true, Bool.not_false, if_true, if_false, Bool.false_eq_true, Option.isSome_some, Option.isSome_none, biOp, binop, cmpop, subOp_tup, subOp_lst, subOp_str, subOp_dct, subOp_ref, asList, asDict, tagOf, isTag, List.any_cons, List.any_nil, Bool.or_false, Bool.false_or, Bool.or_true, Bool.true_or, Bool.and_true, Bool.true_and, Bool.and_false, Bool.false_and, decide_true, decide_false, Int.reduceLT, Int.reduceLE, Nat.reduceLT, Nat.reduceLeDiff, Nat.reduceAdd, Int.reduceAdd, Int.reduceSub, Int.reduceToNat, Int.reduceEq, Nat.reduceEqDiff, Nat.reduceBEq, Int.reduceBEq, Int.reduceNeg, Nat.reduceSub, Int.cast_ofNat_Int, Int.natCast_one, Int.natCast_zero, reduceCtorEq, eqOk_int, pyEq_int, ltOk_int, pyLt_int, pyEq_str, eqOk_str, eqOk_bl, pyEq_bl, ix0, ix1, ix2, List.length_cons, List.length_nil, beq_self_eq_true, ↓reduceIte, name_spec H, Sh.ok] <;> rfl
  | .pair a b, k + 1, st, h => by
    simp only [Sh.dp] at h
    rw [run_of H.fm rfl]
    have ha := form_spec H a k st (by omega)
    have hb := form_spec H b k st (by omega)
    simp only [d_is_form, Sh.v, EV0, EV1, EV2, EV3, EV4, EV5, EV6, k_lcT2_ok, k_lcT1_ok, k_lcE2_ok, k_lcE1_ok, k_for_nx, k_for_rt, k_wl_nx, k_wl_rt, fldAF, pick1_ok, peekS_f, peekS_l, peekS_d, retS_f, retS_l, retS_d, nxO_some, nxS_some, boxS_some, tryS_nx, tryS_rt, tryS_exc, asBl, asInt, asStr, Res.bind_ok, Res.bind_exc, Res.bind_bad, Res.inS_ok, Res.inS_exc, Res.inS_bad, Res.of_some, Res.of_none, Res.noX_ok, fin_nx, fin_rt, fin_exc, flat_non, flat_bl, flat_int, flat_str, List.getElem?_cons_zero, List.getElem?_cons_succ, List.getElem?_nil, List.set_cons_zero, List.set_cons_succ, Option.map_some, Option.map_none, Option.bind_some, Option.bind_none,
    startE, List.map_cons, List.map_nil, List.replicate, List.cons_append, List.nil_append, setOs, setTg, setTs, thaw, Bool.not_true, Bool.not_false, if_true, if_false, Bool.false_eq_true, Option.isSome_some, Option.isSome_none, biOp, binop, cmpop, subOp_tup, subOp_lst, subOp_str, subOp_dct, subOp_ref, asList, asDict, tagOf, isTag, List.any_cons, List.any_nil, Bool.or_false, Bool.false_or, Bool.or_true, Bool.true_or, Bool.and_true, Bool.true_and, Bool.and_false, Bool.false_and, decide_true, decide_false, Int.reduceLT, Int.reduceLE, Nat.reduceLT, Nat.reduceLeDiff, Nat.reduceAdd, Int.reduceAdd, Int.reduceSub, Int.reduceToNat, Int.reduceEq, Nat.reduceEqDiff, Nat.reduceBEq, Int.reduceBEq, Int.reduceNeg, Nat.reduceSub, Int.cast_ofNat_Int, Int.natCast_one, Int.natCast_zero, reduceCtorEq, eqOk_int, pyEq_int, ltOk_int, pyLt_int, pyEq_str, eqOk_str, eqOk_bl, pyEq_bl, ix0, ix1, ix2, List.length_cons, List.length_nil, beq_self_eq_true, ↓reduceIte, isIn, List.all_cons, List.all_nil, ha, hb, Sh.ok]
    cases a.ok <;> cases b.ok <;> rfl
  | .to a b, k + 1, st, h => by
    simp only [Sh.dp] at h
    rw [run_of H.fm rfl]
    have ha := form_spec H a k st (by omega)
    have hb := form_spec H b k st (by omega)
    simp only [d_is_form, Sh.v, EV0, EV1, EV2, EV3, EV4, EV5, EV6, k_lcT2_ok, k_lcT1_ok, k_lcE2_ok, k_lcE1_ok, k_for_nx, k_for_rt, k_wl_nx, k_wl_rt, fldAF, pick1_ok, peekS_f, peekS_l, peekS_d, retS_f, retS_l, retS_d, nxO_some, nxS_some, boxS_some, tryS_nx, tryS_rt, tryS_exc, asBl, asInt, asStr, Res.bind_ok, Res.bind_exc, Res.bind_bad, Res.inS_ok, Res.inS_exc, Res.inS_bad, Res.of_some, Res.of_none, Res.noX_ok, fin_nx, fin_rt, fin_exc, flat_non, flat_bl, flat_int, flat_str, List.getElem?_cons_zero, List.getElem?_cons_succ, List.getElem?_nil, List.set_cons_zero, List.set_cons_succ, Option.map_some, Option.map_none, Option.bind_some, Option.bind_none,
    startE, List.map_cons, List.map_nil, List.replicate, List.cons_append, List.nil_append, setOs, setTg, setTs, thaw, Bool.not_true, Bool.not_false, if_true, if_false, Bool.false_eq_true, Option.isSome_some, Option.isSome_none, biOp, binop, cmpop, subOp_tup, subOp_lst, subOp_str, subOp_dct, subOp_ref, asList, asDict, tagOf, isTag, List.any_cons, List.any_nil, Bool.or_false, Bool.false_or, Bool.or_true, Bool.true_or, Bool.and_true, Bool.true_and, Bool.and_false, Bool.false_and, decide_true, decide_false, Int.reduceLT, Int.reduceLE, Nat.reduceLT, Nat.reduceLeDiff, Nat.reduceAdd, Int.reduceAdd, Int.reduceSub, Int.reduceToNat, Int.reduceEq, Nat.reduceEqDiff, Nat.reduceBEq, Int.reduceBEq, Int.reduceNeg, Nat.reduceSub, Int.cast_ofNat_Int, Int.natCast_one, Int.natCast_zero, reduceCtorEq, eqOk_int, pyEq_int, ltOk_int, pyLt_int, pyEq_str, eqOk_str, eqOk_bl, pyEq_bl, ix0, ix1, ix2, List.length_cons, List.length_nil, beq_self_eq_true, ↓reduceIte, isIn, List.all_cons, List.all_nil, ha, hb, Sh.ok]
    cases a.ok <;> cases b.ok <;> rfl
theorem count_spec (H : HasSh C) : ∀ (s : Sh) (k : Nat) (st : Store), s.dp + 1 ≤ k → evCall C k f_leaf_count [s.v] st = .ok (false, .int s.lv) st
  | .one, k + 1, st, h => by
    rw [run_of H.lc rfl]
    simp only [d_leaf_count, Sh.v, EV0, EV1, EV2, EV3, EV4, EV5, EV6, k_lcT2_ok, k_lcT1_ok, k_lcE2_ok, k_lcE1_ok, k_for_nx, k_for_rt, k_wl_nx, k_wl_rt, fldAF, pick1_ok, peekS_f, peekS_l, peekS_d, retS_f, retS_l, retS_d, nxO_some, nxS_some, boxS_some, tryS_nx, tryS_rt, tryS_exc, asBl, asInt, asStr, Res.bind_ok, Res.bind_exc, Res.bind_bad, Res.inS_ok, Res.inS_exc, Res.inS_bad, Res.of_some, Res.of_none, Res.noX_ok, fin_nx, fin_rt, fin_exc, flat_non, flat_bl, flat_int, flat_str, List.getElem?_cons_zero, List.getElem?_cons_succ, List.getElem?_nil, List.set_cons_zero, List.set_cons_succ, Option.map_some, Option.map_none, Option.bind_some, Option.bind_none,
    startE, List.map_cons, List.map_nil, List.replicate, List.cons_append, List.nil_append, setOs, setTg, setTs, thaw, Bool.not_true, Bool.not_false, if_true, if_false, Bool.false_eq_true, Option.isSome_some, Option.isSome_none, biOp, binop, cmpop, subOp_tup, subOp_lst, subOp_str, subOp_dct, subOp_ref, asList, asDict, tagOf, isTag, List.any_cons, List.any_nil, Bool.or_false, Bool.false_or, Bool.or_true, Bool.true_or, Bool.and_true, Bool.true_and, Bool.and_false, Bool.false_and, decide_true, decide_false, Int.reduceLT, Int.reduceLE, Nat.reduceLT, Nat.reduceLeDiff, Nat.reduceAdd, Int.reduceAdd, Int.reduceSub, Int.reduceToNat, Int.reduceEq, Nat.reduceEqDiff, Nat.reduceBEq, Int.reduceBEq, Int.reduceNeg, Nat.reduceSub, Int.cast_ofNat_Int, Int.natCast_one, Int.natCast_zero, reduceCtorEq, eqOk_int, pyEq_int, ltOk_int, pyLt_int, pyEq_str, eqOk_str, eqOk_bl, pyEq_bl, ix0, ix1, ix2, List.length_cons, List.length_nil, beq_self_eq_true, ↓reduceIte] <;> rfl
  | .nam s, k + 1, st, h => by
    rw [run_of H.lc rfl]
    simp only [d_leaf_count, Sh.v, EV0, EV1, EV2, EV3, EV4, EV5, EV6, k_lcT2_ok, k_lcT1_ok, k_lcE2_ok, k_lcE1_ok, k_for_nx, k_for_rt, k_wl_nx, k_wl_rt, fldAF, pick1_ok, peekS_f, peekS_l, peekS_d, retS_f, retS_l, retS_d, nxO_some, nxS_some, boxS_some, tryS_nx, tryS_rt, tryS_exc, asBl, asInt, asStr, Res.bind_ok, Res.bind_exc, Res.bind_bad, Res.inS_ok, Res.inS_exc, Res.inS_bad, Res.of_some, Res.of_none, Res.noX_ok, fin_nx, fin_rt, fin_exc, flat_non, flat_bl, flat_int, flat_str, List.getElem?_cons_zero, List.getElem?_cons_succ, List.getElem?_nil, List.set_cons_zero, List.set_cons_succ, Option.map_some, Option.map_none, Option.bind_some, Option.bind_none,
    startE, List.map_cons, List.map_nil, List.replicate, List.cons_append, List.nil_append, setOs, setTg, setTs, thaw, Bool.not_true, Bool.not_false, if_true, if_false, Bool.false_eq_true, Option.isSome_some, Option.isSome_none, biOp, binop, cmpop, subOp_tup, subOp_lst, subOp_str, subOp_dct, subOp_ref, asList, asDict, tagOf, isTag, List.any_cons, List.any_nil, Bool.or_false, Bool.false_or, Bool.or_true, Bool.true_or, Bool.and_true, Bool.true_and, Bool.and_false, Bool.false_and, decide_true, decide_false, Int.reduceLT, Int.reduceLE, Nat.reduceLT, Nat.reduceLeDiff, Nat.reduceAdd, Int.reduceAdd, Int.reduceSub, Int.reduceToNat, Int.reduceEq, Nat.reduceEqDiff, Nat.reduceBEq, Int.reduceBEq, Int.reduceNeg, Nat.reduceSub, Int.cast_ofNat_Int, Int.natCast_one, Int.natCast_zero, reduceCtorEq, eqOk_int, pyEq_int, ltOk_int, pyLt_int, pyEq_str, eqOk_str, eqOk_bl, pyEq_bl, ix0, ix1, ix2, List.length_cons, List.length_nil, beq_self_eq_true, ↓reduceIte] <;> rfl
  | .pair a b, k + 1, st, h => by
    simp only [Sh.dp] at h
    rw [run_of H.lc rfl]
    have ha := count_spec H a k st (by omega)
    have hb := count_spec H b k st (by omega)
    simp only [d_leaf_count, Sh.v, EV0, EV1, EV2, EV3, EV4, EV5, EV6, k_lcT2_ok, k_lcT1_ok, k_lcE2_ok, k_lcE1_ok, k_for_nx, k_for_rt, k_wl_nx, k_wl_rt, fldAF, pick1_ok, peekS_f, peekS_l, peekS_d, retS_f, retS_l, retS_d, nxO_some, nxS_some, boxS_some, tryS_nx, tryS_rt, tryS_exc, asBl, asInt, asStr, Res.bind_ok, Res.bind_exc, Res.bind_bad, Res.inS_ok, Res.inS_exc, Res.inS_bad, Res.of_some, Res.of_none, Res.noX_ok, fin_nx, fin_rt, fin_exc, flat_non, flat_bl, flat_int, flat_str, List.getElem?_cons_zero, List.getElem?_cons_succ, List.getElem?_nil, List.set_cons_zero, List.set_cons_succ, Option.map_some, Option.map_none, Option.bind_some, Option.bind_none,
    startE, List.map_cons, List.map_nil, List.replicate, List.cons_append, List.nil_append, setOs, setTg, setTs, thaw, Bool.not_true, Bool.not_false, if_true, if_false, Bool.false_eq_true, Option.isSome_some, Option.isSome_none, biOp, binop, cmpop, subOp_tup, subOp_lst, subOp_str, subOp_dct, subOp_ref, asList, asDict, tagOf, isTag, List.any_cons, List.any_nil, Bool.or_false, Bool.false_or, Bool.or_true, Bool.true_or, Bool.and_true, Bool.true_and, Bool.and_false, Bool.false_and, decide_true, decide_false, Int.reduceLT, Int.reduceLE, Nat.reduceLT, Nat.reduceLeDiff, Nat.reduceAdd, Int.reduceAdd, Int.reduceSub, Int.reduceToNat, Int.reduceEq, Nat.reduceEqDiff, Nat.reduceBEq, Int.reduceBEq, Int.reduceNeg, Nat.reduceSub, Int.cast_ofNat_Int, Int.natCast_one, Int.natCast_zero, reduceCtorEq, eqOk_int, pyEq_int, ltOk_int, pyLt_int, pyEq_str, eqOk_str, eqOk_bl, pyEq_bl, ix0, ix1, ix2, List.length_cons, List.length_nil, beq_self_eq_true, ↓reduceIte, ha, hb, Sh.lv, Int.natCast_add] <;> rfl
  | .to a b, k + 1, st, h => by
    simp only [Sh.dp] at h
    rw [run_of H.lc rfl]
    have ha := count_spec H a k st (by omega)
    have hb := count_spec H b k st (by omega)
    simp only [d_leaf_count, Sh.v, EV0, EV1, EV2, EV3, EV4, EV5, EV6, k_lcT2_ok, k_lcT1_ok, k_lcE2_ok, k_lcE1_ok, k_for_nx, k_for_rt, k_wl_nx, k_wl_rt, fldAF, pick1_ok, peekS_f, peekS_l, peekS_d, retS_f, retS_l, retS_d, nxO_some, nxS_some, boxS_some, tryS_nx, tryS_rt, tryS_exc, asBl, asInt, asStr, Res.bind_ok, Res.bind_exc, Res.bind_bad, Res.inS_ok, Res.inS_exc, Res.inS_bad, Res.of_some, Res.of_none, Res.noX_ok, fin_nx, fin_rt, fin_exc, flat_non, flat_bl, flat_int, flat_str, List.getElem?_cons_zero, List.getElem?_cons_succ, List.getElem?_nil, List.set_cons_zero, List.set_cons_succ, Option.map_some, Option.map_none, Option.bind_some, Option.bind_none,
    startE, List.map_cons, List.map_nil, List.replicate, List.cons_append, List.nil_append, setOs, setTg, setTs, thaw, Bool.not_true, Bool.not_false, if_true, if_false, Bool.false_eq_true, Option.isSome_some, Option.isSome_none, biOp, binop, cmpop, subOp_tup, subOp_lst, subOp_str, subOp_dct, subOp_ref, asList, asDict, tagOf, isTag, List.any_cons, List.any_nil, Bool.or_false, Bool.false_or, Bool.or_true, Bool.true_or, Bool.and_true, Bool.true_and, Bool.and_false, Bool.false_and, decide_true, decide_false, Int.reduceLT, Int.reduceLE, Nat.reduceLT, Nat.reduceLeDiff, Nat.reduceAdd, Int.reduceAdd, Int.reduceSub, Int.reduceToNat, Int.reduceEq, Nat.reduceEqDiff, Nat.reduceBEq, Int.reduceBEq, Int.reduceNeg, Nat.reduceSub, Int.cast_ofNat_Int, Int.natCast_one, Int.natCast_zero, reduceCtorEq, eqOk_int, pyEq_int, ltOk_int, pyLt_int, pyEq_str, eqOk_str, eqOk_bl, pyEq_bl, ix0, ix1, ix2, List.length_cons, List.length_nil, beq_self_eq_true, ↓reduceIte, ha, hb, Sh.lv, Int.natCast_add] <;> rfl
theorem shape_spec (H : HasSh C) (s : Sh) {k : Nat} (st : Store) (hk : s.dp + 3 ≤ k) (ok : s.ok = true) (hl : s.lv ≤ 200) : evCall C k f_is_shape [s.v] st = .ok (false, .bl true) st := by
  obtain ⟨k, rfl⟩ : ∃ j, k = j + 1 := ⟨k - 1, by omega⟩
  rw [run_of H.sh rfl]
  have h1 := form_spec H s k st (by omega)
  have h2 := count_spec H s k st (by omega)
  have h3 : (s.lv : Int) ≤ 200 := by omega
  simp only [d_is_shape, EV0, EV1, EV2, EV3, EV4, EV5, EV6, k_lcT2_ok, k_lcT1_ok, k_lcE2_ok, k_lcE1_ok, k_for_nx, k_for_rt, k_wl_nx, k_wl_rt, fldAF, pick1_ok, peekS_f, peekS_l, peekS_d, retS_f, retS_l, retS_d, nxO_some, nxS_some, boxS_some, tryS_nx, tryS_rt, tryS_exc, asBl, asInt, asStr, Res.bind_ok, Res.bind_exc, Res.bind_bad, Res.inS_ok, Res.inS_exc, Res.inS_bad, Res.of_some, Res.of_none, Res.noX_ok, fin_nx, fin_rt, fin_exc, flat_non, flat_bl, flat_int, flat_str, List.getElem?_cons_zero, List.getElem?_cons_succ, List.getElem?_nil, List.set_cons_zero, List.set_cons_succ, Option.map_some, Option.map_none, Option.bind_some, Option.bind_none,
    startE, List.map_cons, List.map_nil, List.replicate, List.cons_append, List.nil_append, setOs, setTg, setTs, thaw, Bool.not_true, Bool.not_false, if_true, if_false, Bool.false_eq_true, Option.isSome_some, Option.isSome_none, biOp, binop, cmpop, subOp_tup, subOp_lst, subOp_str, subOp_dct, subOp_ref, asList, asDict, tagOf, isTag, List.any_cons, List.any_nil, Bool.or_false, Bool.false_or, Bool.or_true, Bool.true_or, Bool.and_true, Bool.true_and, Bool.and_false, Bool.false_and, decide_true, decide_false, Int.reduceLT, Int.reduceLE, Nat.reduceLT, Nat.reduceLeDiff, Nat.reduceAdd, Int.reduceAdd, Int.reduceSub, Int.reduceToNat, Int.reduceEq, Nat.reduceEqDiff, Nat.reduceBEq, Int.reduceBEq, Int.reduceNeg, Nat.reduceSub, Int.cast_ofNat_Int, Int.natCast_one, Int.natCast_zero, reduceCtorEq, eqOk_int, pyEq_int, ltOk_int, pyLt_int, pyEq_str, eqOk_str, eqOk_bl, pyEq_bl, ix0, ix1, ix2, List.length_cons, List.length_nil, beq_self_eq_true, ↓reduceIte, h1, h2, H.g1, ok, h3]
theorem check_spec (H : HasSh C) (s : Sh) {k : Nat} (st : Store) (hk : s.dp + 4 ≤ k) (ok : s.ok = true) (hl : s.lv ≤ 200) : evCall C k f_check_shape [s.v] st = .ok (false, .non) st := by
  obtain ⟨k, rfl⟩ : ∃ j, k = j + 1 := ⟨k - 1, by omega⟩
  rw [run_of H.ck rfl]
  have h1 := shape_spec H s (k := k) st (by omega) ok hl
  simp only [d_check_shape, EV0, EV1, EV2, EV3, EV4, EV5, EV6, k_lcT2_ok, k_lcT1_ok, k_lcE2_ok, k_lcE1_ok, k_for_nx, k_for_rt, k_wl_nx, k_wl_rt, fldAF, pick1_ok, peekS_f, peekS_l, peekS_d, retS_f, retS_l, retS_d, nxO_some, nxS_some, boxS_some, tryS_nx, tryS_rt, tryS_exc, asBl, asInt, asStr, Res.bind_ok, Res.bind_exc, Res.bind_bad, Res.inS_ok, Res.inS_exc, Res.inS_bad, Res.of_some, Res.of_none, Res.noX_ok, fin_nx, fin_rt, fin_exc, flat_non, flat_bl, flat_int, flat_str, List.getElem?_cons_zero, List.getElem?_cons_succ, List.getElem?_nil, List.set_cons_zero, List.set_cons_succ, Option.map_some, Option.map_none, Option.bind_some, Option.bind_none,
    startE, List.map_cons, List.map_nil, List.replicate, List.cons_append, List.nil_append, setOs, setTg, setTs, thaw, Bool.not_true, Bool.not_false, if_true, if_false, Bool.false_eq_true, Option.isSome_some, Option.isSome_none, biOp, binop, cmpop, subOp_tup, subOp_lst, subOp_str, subOp_dct, subOp_ref, asList, asDict, tagOf, isTag, List.any_cons, List.any_nil, Bool.or_false, Bool.false_or, Bool.or_true, Bool.true_or, Bool.and_true, Bool.true_and, Bool.and_false, Bool.false_and, decide_true, decide_false, Int.reduceLT, Int.reduceLE, Nat.reduceLT, Nat.reduceLeDiff, Nat.reduceAdd, Int.reduceAdd, Int.reduceSub, Int.reduceToNat, Int.reduceEq, Nat.reduceEqDiff, Nat.reduceBEq, Int.reduceBEq, Int.reduceNeg, Nat.reduceSub, Int.cast_ofNat_Int, Int.natCast_one, Int.natCast_zero, reduceCtorEq, eqOk_int, pyEq_int, ltOk_int, pyLt_int, pyEq_str, eqOk_str, eqOk_bl, pyEq_bl, ix0, ix1, ix2, List.length_cons, List.length_nil, beq_self_eq_true, ↓reduceIte, h1]
end
end Lk
set_option linter.all false
set_option autoImplicit false
set_option maxRecDepth 100000
set_option maxHeartbeats 1000000
/-! LkN2: drawn shapes; the law's own ==. -/
namespace Lk
/-- the law's shapes, by whatever name -/
def dShape (fs : Nat) : Fd :=
  { np := 3, ns := 6, body := [.ife (.cmp .eq (.var 1) (.cst (.int 1)))
      [.asg 5 (.call f__law_below [(.var 0), (.bin .add (.bi .len [(.var 2)]) (.cst (.int 1)))]),
      .ret (.ife (.cmp .eq (.var 5) (.bi .len [(.var 2)])) (.tup [(.cst (.str [111, 110, 101]))]) (.tup [(.cst (.str [110, 97, 109, 101])), (.sub (.var 2) (.var 5))]))]
      [],
      .asg 3 (.bin .add (.cst (.int 1)) (.call f__law_below [(.var 0), (.bin .sub (.var 1) (.cst (.int 1)))])),
      .asg 4 (.call f__law_pick [(.var 0), (.lst [(.cst (.str [112, 97, 105, 114])), (.cst (.str [116, 111]))])]),
      .fz [3],
      .ret (.tup [(.var 4), (.call fs [(.var 0), (.var 3), (.var 2)]), (.call fs [(.var 0), (.bin .sub (.var 1) (.var 3)), (.var 2)])])] }
/-- its names, in order -/
def Sh.nms : Sh → List Sn
  | .one => []
  | .nam s => [s]
  | .pair a b => a.nms ++ b.nms
  | .to a b => a.nms ++ b.nms
theorem Sh.ok_of : ∀ {s : Sh}, (∀ x ∈ s.nms, isNm x = true) → s.ok = true
  | .one, _ => rfl
  | .nam s, h => h s (by simp [Sh.nms])
  | .pair a b, h => by
    have h1 := a.ok_of fun x hx => h x (by simp [Sh.nms, hx])
    have h2 := b.ok_of fun x hx => h x (by simp [Sh.nms, hx])
    simp [Sh.ok, h1, h2]
  | .to a b, h => by
    have h1 := a.ok_of fun x hx => h x (by simp [Sh.nms, hx])
    have h2 := b.ok_of fun x hx => h x (by simp [Sh.nms, hx])
    simp [Sh.ok, h1, h2]
section
variable {C : Cfg}
theorem drawn_spec (H : HasRnd C) {fs : Nat} (hs : C.fn fs = some (dShape fs)) (names : List Sn) (hn : names.length < 1000) : ∀ (m k : Nat) (o : Ob) (rest : Store), 1 ≤ m → m < 1000 → m + 2 ≤ k → Rnd o →
    ∃ (s : Sh) (o' : Ob), Rnd o' ∧ s.lv = m ∧ (∀ x ∈ s.nms, x ∈ names) ∧ evCall C k fs [.ref 0, .int m, .lst (names.map .str)] (o :: rest) = .ok (false, s.v) (o' :: rest) := by
  intro m
  induction m using Nat.strongRecOn with
  | _ m ih =>
    intro k o rest hm hm2 hk ho
    obtain ⟨k, rfl⟩ : ∃ j, k = j + 3 := ⟨k - 3, by omega⟩
    rw [show k + 3 = (k + 2) + 1 from rfl, run_of hs rfl]
    by_cases h1 : m = 1
    · subst h1
      obtain ⟨r, o', h1, h2, h3, h4⟩ := below_spec H (k := k + 1) (rest := rest) (s := (names.length : Int) + 1) ho (by omega) (by omega)
      by_cases he : r = names.length
      · subst he
        refine ⟨.one, o', h1, rfl, by simp [Sh.nms], ?_⟩
        simp only [dShape, EV0, EV1, EV2, EV3, EV4, EV5, EV6, k_lcT2_ok, k_lcT1_ok, k_lcE2_ok, k_lcE1_ok, k_for_nx, k_for_rt, k_wl_nx, k_wl_rt, fldAF, pick1_ok, peekS_f, peekS_l, peekS_d, retS_f, retS_l, retS_d, nxO_some, nxS_some, boxS_some, tryS_nx, tryS_rt, tryS_exc, asBl, asInt, asStr, Res.bind_ok, Res.bind_exc, Res.bind_bad, Res.inS_ok, Res.inS_exc, Res.inS_bad, Res.of_some, Res.of_none, Res.noX_ok, fin_nx, fin_rt, fin_exc, flat_non, flat_bl, flat_int, flat_str, List.getElem?_cons_zero, List.getElem?_cons_succ, List.getElem?_nil, List.set_cons_zero, List.set_cons_succ, Option.map_some, Option.map_none, Option.bind_some, Option.bind_none,
    startE, List.map_cons, List.map_nil, List.replicate, List.cons_append, List.nil_append, setOs, setTg, setTs, thaw, Bool.not_true, Bool.not_false, if_true, if_false, Bool.false_eq_true, Option.isSome_some, Option.isSome_none, biOp, binop, cmpop, subOp_tup, subOp_lst, subOp_str, subOp_dct, subOp_ref, asList, asDict, tagOf, isTag, List.any_cons, List.any_nil, Bool.or_false, Bool.false_or, Bool.or_true, Bool.true_or, Bool.and_true, Bool.true_and, Bool.and_false, Bool.false_and, decide_true, decide_false, Int.reduceLT, Int.reduceLE, Nat.reduceLT, Nat.reduceLeDiff, Nat.reduceAdd, Int.reduceAdd, Int.reduceSub, Int.reduceToNat, Int.reduceEq, Nat.reduceEqDiff, Nat.reduceBEq, Int.reduceBEq, Int.reduceNeg, Nat.reduceSub, Int.cast_ofNat_Int, Int.natCast_one, Int.natCast_zero, reduceCtorEq, eqOk_int, pyEq_int, ltOk_int, pyLt_int, pyEq_str, eqOk_str, eqOk_bl, pyEq_bl, ix0, ix1, ix2, List.length_cons, List.length_nil, beq_self_eq_true, ↓reduceIte, List.length_map, h4, Sh.v]
      · have hr : r.toNat < names.length := by omega
        refine ⟨.nam names[r.toNat], o', h1, rfl, by simp [Sh.nms], ?_⟩
        have e : ixOf names.length r = some r.toNat := by
          unfold ixOf
          rw [if_pos h2, if_pos (by omega)]
        have e2 : (names.map Val.str)[r.toNat]? = some (.str names[r.toNat]) := by
          rw [List.getElem?_map, List.getElem?_eq_getElem hr]; rfl
        have e3 : (r == (names.length : Int)) = false := beq_eq_false_iff_ne.mpr he
        simp only [dShape, EV0, EV1, EV2, EV3, EV4, EV5, EV6, k_lcT2_ok, k_lcT1_ok, k_lcE2_ok, k_lcE1_ok, k_for_nx, k_for_rt, k_wl_nx, k_wl_rt, fldAF, pick1_ok, peekS_f, peekS_l, peekS_d, retS_f, retS_l, retS_d, nxO_some, nxS_some, boxS_some, tryS_nx, tryS_rt, tryS_exc, asBl, asInt, asStr, Res.bind_ok, Res.bind_exc, Res.bind_bad, Res.inS_ok, Res.inS_exc, Res.inS_bad, Res.of_some, Res.of_none, Res.noX_ok, fin_nx, fin_rt, fin_exc, flat_non, flat_bl, flat_int, flat_str, List.getElem?_cons_zero, List.getElem?_cons_succ, List.getElem?_nil, List.set_cons_zero, List.set_cons_succ, Option.map_some, Option.map_none, Option.bind_some, Option.bind_none,
    startE, List.map_cons, List.map_nil, List.replicate, List.cons_append, List.nil_append, setOs, setTg, setTs, thaw, Bool.not_true, Bool.not_false, if_true, if_false, Bool.false_eq_true, Option.isSome_some, Option.isSome_none, biOp, binop, cmpop, subOp_tup, subOp_lst, subOp_str, subOp_dct, subOp_ref, asList, asDict, tagOf, isTag, List.any_cons, List.any_nil, Bool.or_false, Bool.false_or, Bool.or_true, Bool.true_or, Bool.and_true, Bool.true_and, Bool.and_false, Bool.false_and, decide_true, decide_false, Int.reduceLT, Int.reduceLE, Nat.reduceLT, Nat.reduceLeDiff, Nat.reduceAdd, Int.reduceAdd, Int.reduceSub, Int.reduceToNat, Int.reduceEq, Nat.reduceEqDiff, Nat.reduceBEq, Int.reduceBEq, Int.reduceNeg, Nat.reduceSub, Int.cast_ofNat_Int, Int.natCast_one, Int.natCast_zero, reduceCtorEq, eqOk_int, pyEq_int, ltOk_int, pyLt_int, pyEq_str, eqOk_str, eqOk_bl, pyEq_bl, ix0, ix1, ix2, List.length_cons, List.length_nil, beq_self_eq_true, ↓reduceIte, List.length_map, h4, Sh.v, e3, e, e2]
    · have hb : ((m : Int) == 1) = false := beq_eq_false_iff_ne.mpr (by omega)
      obtain ⟨r, o1, g1, g2, g3, g4⟩ := below_spec H (k := k + 1) (rest := rest) (s := (m : Int) - 1) ho (by omega) (by omega)
      obtain ⟨r2, w, o2, p1, p2, p3⟩ := pick_spec H (k := k) (rest := rest) (o := o1) (xs := [.str sPair, .str sTo]) g1 (by simp) (by simp)
      have e1 : (1 : Int) + r = ((1 + r.toNat : Nat) : Int) := by omega
      obtain ⟨s1, o3, q1, q2, q3, q4⟩ := ih (1 + r.toNat) (by omega) (k + 2) o2 rest (by omega) (by omega) (by omega) p1
      obtain ⟨s2, o4, t1, t2, t3, t4⟩ := ih (m - (1 + r.toNat)) (by omega) (k + 2) o3 rest (by omega) (by omega) (by omega) q1
      have e2 : (m : Int) - ((1 + r.toNat : Nat) : Int) = ((m - (1 + r.toNat) : Nat) : Int) := by omega
      have fin : evSs C (evCall C (k + 2)) (calls C (k + 2)).2 (dShape fs).body (startE (dShape fs) [.ref 0, .int m, .lst (names.map .str)]) (o :: rest) = .rt (false, .tup [w, s1.v, s2.v]) (o4 :: rest) := by
        simp only [dShape, EV0, EV1, EV2, EV3, EV4, EV5, EV6, k_lcT2_ok, k_lcT1_ok, k_lcE2_ok, k_lcE1_ok, k_for_nx, k_for_rt, k_wl_nx, k_wl_rt, fldAF, pick1_ok, peekS_f, peekS_l, peekS_d, retS_f, retS_l, retS_d, nxO_some, nxS_some, boxS_some, tryS_nx, tryS_rt, tryS_exc, asBl, asInt, asStr, Res.bind_ok, Res.bind_exc, Res.bind_bad, Res.inS_ok, Res.inS_exc, Res.inS_bad, Res.of_some, Res.of_none, Res.noX_ok, fin_nx, fin_rt, fin_exc, flat_non, flat_bl, flat_int, flat_str, List.getElem?_cons_zero, List.getElem?_cons_succ, List.getElem?_nil, List.set_cons_zero, List.set_cons_succ, Option.map_some, Option.map_none, Option.bind_some, Option.bind_none,
    startE, List.map_cons, List.map_nil, List.replicate, List.cons_append, List.nil_append, setOs, setTg, setTs, thaw, Bool.not_true, Bool.not_false, if_true, if_false, Bool.false_eq_true, Option.isSome_some, Option.isSome_none, biOp, binop, cmpop, subOp_tup, subOp_lst, subOp_str, subOp_dct, subOp_ref, asList, asDict, tagOf, isTag, List.any_cons, List.any_nil, Bool.or_false, Bool.false_or, Bool.or_true, Bool.true_or, Bool.and_true, Bool.true_and, Bool.and_false, Bool.false_and, decide_true, decide_false, Int.reduceLT, Int.reduceLE, Nat.reduceLT, Nat.reduceLeDiff, Nat.reduceAdd, Int.reduceAdd, Int.reduceSub, Int.reduceToNat, Int.reduceEq, Nat.reduceEqDiff, Nat.reduceBEq, Int.reduceBEq, Int.reduceNeg, Nat.reduceSub, Int.cast_ofNat_Int, Int.natCast_one, Int.natCast_zero, reduceCtorEq, eqOk_int, pyEq_int, ltOk_int, pyLt_int, pyEq_str, eqOk_str, eqOk_bl, pyEq_bl, ix0, ix1, ix2, List.length_cons, List.length_nil, beq_self_eq_true, ↓reduceIte, hb, g4, e1, p3, q4, e2, t4]
      rw [fin]
      match r2, p2 with
      | 0, p2 =>
        cases p2
        exact ⟨.pair s1 s2, o4, t1, by simp only [Sh.lv]; omega, fun x hx => (List.mem_append.mp hx).elim (q3 x) (t3 x), rfl⟩
      | 1, p2 =>
        cases p2
        exact ⟨.to s1 s2, o4, t1, by simp only [Sh.lv]; omega, fun x hx => (List.mem_append.mp hx).elim (q3 x) (t3 x), rfl⟩
      | r2 + 2, p2 => simp at p2
/-! ### the law's own == -/
mutual
/-- data without dicts -/
def pdata : Val → Bool
  | .non => true
  | .bl _ => true
  | .int _ => true
  | .str _ => true
  | .tup xs => pdatas xs
  | .lst xs => pdatas xs
  | _ => false
def pdatas : List Val → Bool
  | [] => true
  | x :: r => pdata x && pdatas r
end
mutual
def vdep : Val → Nat
  | .tup xs => vdeps xs + 1
  | .lst xs => vdeps xs + 1
  | _ => 0
def vdeps : List Val → Nat
  | [] => 0
  | x :: r => max (vdep x) (vdeps r)
end
mutual
def vlen : Val → Bool
  | .tup xs => decide (xs.length ≤ 100000) && vlens xs
  | .lst xs => decide (xs.length ≤ 100000) && vlens xs
  | _ => true
def vlens : List Val → Bool
  | [] => true
  | x :: r => vlen x && vlens r
end
theorem vdeps_get : ∀ {xs : List Val} {i : Nat} {x : Val}, xs[i]? = some x → vdep x ≤ vdeps xs
  | [], i, x, h => by simp at h
  | y :: r, 0, x, h => by simp at h; subst h; simp only [vdeps]; omega
  | y :: r, i + 1, x, h => by have := vdeps_get (xs := r) (i := i) (by simpa using h); simp only [vdeps]; omega
theorem pdatas_get : ∀ {xs : List Val} {i : Nat} {x : Val}, pdatas xs = true → xs[i]? = some x → pdata x = true
  | [], i, x, _, h => by simp at h
  | y :: r, 0, x, p, h => by simp at h; subst h; simp only [pdatas, Bool.and_eq_true] at p; exact p.1
  | y :: r, i + 1, x, p, h => by simp only [pdatas, Bool.and_eq_true] at p; exact pdatas_get (xs := r) (i := i) p.2 (by simpa using h)
theorem mem_rangeV : ∀ {n : Nat} {lo : Int} {x : Val}, x ∈ rangeV lo n → ∃ i : Nat, i < n ∧ x = .int (lo + i)
  | 0, lo, x, h => by simp [rangeV] at h
  | n + 1, lo, x, h => by
    simp only [rangeV, List.mem_cons] at h
    rcases h with rfl | h
    · exact ⟨0, by omega, by simp⟩
    · obtain ⟨i, h1, h2⟩ := mem_rangeV h
      exact ⟨i + 1, by omega, by rw [h2]; congr 1; omega⟩
theorem allBl_const : ∀ xs : List Val, allBl (xs.flatMap fun _ => [.bl true]) = some true
  | [] => rfl
  | x :: r => by simp only [List.flatMap_cons, List.cons_append, List.nil_append, allBl, allBl_const r, Option.map_some, Bool.true_and]
theorem equal_seq (he : C.fn f__law_equal = some d__law_equal) {k : Nat} {xs : List Val} (hp : pdatas xs = true) (hl : xs.length ≤ 100000) (st : Store) (ih : ∀ (i : Nat) (x : Val), xs[i]? = some x → evCall C k f__law_equal [x, x] st = .ok (false, .bl true) st) (v : Val) (hv : v = .tup xs ∨ v = .lst xs) :
    evCall C (k + 1) f__law_equal [v, v] st = .ok (false, .bl true) st := by
  rw [run_of he rfl]
  have h1 : lcE C (evCall C k) (calls C k).2 (.nm 2) [] (.call f__law_equal [(.sub (.var 0) (.var 2)), (.sub (.var 1) (.var 2))]) [some (false, v), some (false, v), none, none] (rangeV 0 xs.length) st = .ok ((rangeV 0 xs.length).flatMap fun _ => [.bl true]) st := by
    refine lcE_pure fun x hx => ?_
    obtain ⟨i, h1, rfl⟩ := mem_rangeV hx
    rw [show ((0 : Int) + i) = (i : Int) by omega]
    have g : xs[i]? = some xs[i] := List.getElem?_eq_getElem h1
    have g2 := ih i _ g
    have g3 : ixOf xs.length (i : Int) = some i := ixOf_nat h1
    rcases hv with rfl | rfl
    · simp only [lcT, EV0, EV1, EV2, EV3, EV4, EV5, EV6, k_lcT2_ok, k_lcT1_ok, k_lcE2_ok, k_lcE1_ok, k_for_nx, k_for_rt, k_wl_nx, k_wl_rt, fldAF, pick1_ok, peekS_f, peekS_l, peekS_d, retS_f, retS_l, retS_d, nxO_some, nxS_some, boxS_some, tryS_nx, tryS_rt, tryS_exc, asBl, asInt, asStr, Res.bind_ok, Res.bind_exc, Res.bind_bad, Res.inS_ok, Res.inS_exc, Res.inS_bad, Res.of_some, Res.of_none, Res.noX_ok, fin_nx, fin_rt, fin_exc, flat_non, flat_bl, flat_int, flat_str, List.getElem?_cons_zero, List.getElem?_cons_succ, List.getElem?_nil, List.set_cons_zero, List.set_cons_succ, Option.map_some, Option.map_none, Option.bind_some, Option.bind_none,
    startE, List.map_cons, List.map_nil, List.replicate, List.cons_append, List.nil_append, setOs, setTg, setTs, thaw, Bool.not_true, Bool.not_false, if_true, if_false, Bool.false_eq_true, Option.isSome_some, Option.isSome_none, biOp, binop, cmpop, subOp_tup, subOp_lst, subOp_str, subOp_dct, subOp_ref, asList, asDict, tagOf, isTag, List.any_cons, List.any_nil, Bool.or_false, Bool.false_or, Bool.or_true, Bool.true_or, Bool.and_true, Bool.true_and, Bool.and_false, Bool.false_and, decide_true, decide_false, Int.reduceLT, Int.reduceLE, Nat.reduceLT, Nat.reduceLeDiff, Nat.reduceAdd, Int.reduceAdd, Int.reduceSub, Int.reduceToNat, Int.reduceEq, Nat.reduceEqDiff, Nat.reduceBEq, Int.reduceBEq, Int.reduceNeg, Nat.reduceSub, Int.cast_ofNat_Int, Int.natCast_one, Int.natCast_zero, reduceCtorEq, eqOk_int, pyEq_int, ltOk_int, pyLt_int, pyEq_str, eqOk_str, eqOk_bl, pyEq_bl, ix0, ix1, ix2, List.length_cons, List.length_nil, beq_self_eq_true, ↓reduceIte, g3, g, g2]
    · simp only [lcT, EV0, EV1, EV2, EV3, EV4, EV5, EV6, k_lcT2_ok, k_lcT1_ok, k_lcE2_ok, k_lcE1_ok, k_for_nx, k_for_rt, k_wl_nx, k_wl_rt, fldAF, pick1_ok, peekS_f, peekS_l, peekS_d, retS_f, retS_l, retS_d, nxO_some, nxS_some, boxS_some, tryS_nx, tryS_rt, tryS_exc, asBl, asInt, asStr, Res.bind_ok, Res.bind_exc, Res.bind_bad, Res.inS_ok, Res.inS_exc, Res.inS_bad, Res.of_some, Res.of_none, Res.noX_ok, fin_nx, fin_rt, fin_exc, flat_non, flat_bl, flat_int, flat_str, List.getElem?_cons_zero, List.getElem?_cons_succ, List.getElem?_nil, List.set_cons_zero, List.set_cons_succ, Option.map_some, Option.map_none, Option.bind_some, Option.bind_none,
    startE, List.map_cons, List.map_nil, List.replicate, List.cons_append, List.nil_append, setOs, setTg, setTs, thaw, Bool.not_true, Bool.not_false, if_true, if_false, Bool.false_eq_true, Option.isSome_some, Option.isSome_none, biOp, binop, cmpop, subOp_tup, subOp_lst, subOp_str, subOp_dct, subOp_ref, asList, asDict, tagOf, isTag, List.any_cons, List.any_nil, Bool.or_false, Bool.false_or, Bool.or_true, Bool.true_or, Bool.and_true, Bool.true_and, Bool.and_false, Bool.false_and, decide_true, decide_false, Int.reduceLT, Int.reduceLE, Nat.reduceLT, Nat.reduceLeDiff, Nat.reduceAdd, Int.reduceAdd, Int.reduceSub, Int.reduceToNat, Int.reduceEq, Nat.reduceEqDiff, Nat.reduceBEq, Int.reduceBEq, Int.reduceNeg, Nat.reduceSub, Int.cast_ofNat_Int, Int.natCast_one, Int.natCast_zero, reduceCtorEq, eqOk_int, pyEq_int, ltOk_int, pyLt_int, pyEq_str, eqOk_str, eqOk_bl, pyEq_bl, ix0, ix1, ix2, List.length_cons, List.length_nil, beq_self_eq_true, ↓reduceIte, g3, g, g2]
  have h2 : ((decide (-100000 ≤ (xs.length : Int)) && decide ((xs.length : Int) ≤ 100000))) = true := by
    rw [Bool.and_eq_true, decide_eq_true_eq, decide_eq_true_eq]; omega
  rcases hv with rfl | rfl
  · simp only [d__law_equal, EV0, EV1, EV2, EV3, EV4, EV5, EV6, k_lcT2_ok, k_lcT1_ok, k_lcE2_ok, k_lcE1_ok, k_for_nx, k_for_rt, k_wl_nx, k_wl_rt, fldAF, pick1_ok, peekS_f, peekS_l, peekS_d, retS_f, retS_l, retS_d, nxO_some, nxS_some, boxS_some, tryS_nx, tryS_rt, tryS_exc, asBl, asInt, asStr, Res.bind_ok, Res.bind_exc, Res.bind_bad, Res.inS_ok, Res.inS_exc, Res.inS_bad, Res.of_some, Res.of_none, Res.noX_ok, fin_nx, fin_rt, fin_exc, flat_non, flat_bl, flat_int, flat_str, List.getElem?_cons_zero, List.getElem?_cons_succ, List.getElem?_nil, List.set_cons_zero, List.set_cons_succ, Option.map_some, Option.map_none, Option.bind_some, Option.bind_none,
    startE, List.map_cons, List.map_nil, List.replicate, List.cons_append, List.nil_append, setOs, setTg, setTs, thaw, Bool.not_true, Bool.not_false, if_true, if_false, Bool.false_eq_true, Option.isSome_some, Option.isSome_none, biOp, binop, cmpop, subOp_tup, subOp_lst, subOp_str, subOp_dct, subOp_ref, asList, asDict, tagOf, isTag, List.any_cons, List.any_nil, Bool.or_false, Bool.false_or, Bool.or_true, Bool.true_or, Bool.and_true, Bool.true_and, Bool.and_false, Bool.false_and, decide_true, decide_false, Int.reduceLT, Int.reduceLE, Nat.reduceLT, Nat.reduceLeDiff, Nat.reduceAdd, Int.reduceAdd, Int.reduceSub, Int.reduceToNat, Int.reduceEq, Nat.reduceEqDiff, Nat.reduceBEq, Int.reduceBEq, Int.reduceNeg, Nat.reduceSub, Int.cast_ofNat_Int, Int.natCast_one, Int.natCast_zero, reduceCtorEq, eqOk_int, pyEq_int, ltOk_int, pyLt_int, pyEq_str, eqOk_str, eqOk_bl, pyEq_bl, ix0, ix1, ix2, List.length_cons, List.length_nil, beq_self_eq_true, ↓reduceIte, isOp, isNon, itOp, Bool.bne_false, bne_self_eq_false, h2, Int.toNat_natCast, h1, allBl_const]
  · simp only [d__law_equal, EV0, EV1, EV2, EV3, EV4, EV5, EV6, k_lcT2_ok, k_lcT1_ok, k_lcE2_ok, k_lcE1_ok, k_for_nx, k_for_rt, k_wl_nx, k_wl_rt, fldAF, pick1_ok, peekS_f, peekS_l, peekS_d, retS_f, retS_l, retS_d, nxO_some, nxS_some, boxS_some, tryS_nx, tryS_rt, tryS_exc, asBl, asInt, asStr, Res.bind_ok, Res.bind_exc, Res.bind_bad, Res.inS_ok, Res.inS_exc, Res.inS_bad, Res.of_some, Res.of_none, Res.noX_ok, fin_nx, fin_rt, fin_exc, flat_non, flat_bl, flat_int, flat_str, List.getElem?_cons_zero, List.getElem?_cons_succ, List.getElem?_nil, List.set_cons_zero, List.set_cons_succ, Option.map_some, Option.map_none, Option.bind_some, Option.bind_none,
    startE, List.map_cons, List.map_nil, List.replicate, List.cons_append, List.nil_append, setOs, setTg, setTs, thaw, Bool.not_true, Bool.not_false, if_true, if_false, Bool.false_eq_true, Option.isSome_some, Option.isSome_none, biOp, binop, cmpop, subOp_tup, subOp_lst, subOp_str, subOp_dct, subOp_ref, asList, asDict, tagOf, isTag, List.any_cons, List.any_nil, Bool.or_false, Bool.false_or, Bool.or_true, Bool.true_or, Bool.and_true, Bool.true_and, Bool.and_false, Bool.false_and, decide_true, decide_false, Int.reduceLT, Int.reduceLE, Nat.reduceLT, Nat.reduceLeDiff, Nat.reduceAdd, Int.reduceAdd, Int.reduceSub, Int.reduceToNat, Int.reduceEq, Nat.reduceEqDiff, Nat.reduceBEq, Int.reduceBEq, Int.reduceNeg, Nat.reduceSub, Int.cast_ofNat_Int, Int.natCast_one, Int.natCast_zero, reduceCtorEq, eqOk_int, pyEq_int, ltOk_int, pyLt_int, pyEq_str, eqOk_str, eqOk_bl, pyEq_bl, ix0, ix1, ix2, List.length_cons, List.length_nil, beq_self_eq_true, ↓reduceIte, isOp, isNon, itOp, Bool.bne_false, bne_self_eq_false, h2, Int.toNat_natCast, h1, allBl_const]
mutual
theorem equal_spec (he : C.fn f__law_equal = some d__law_equal) : ∀ (v : Val) (k : Nat) (st : Store), pdata v = true → vlen v = true → vdep v + 1 ≤ k → evCall C k f__law_equal [v, v] st = .ok (false, .bl true) st
  | .non, k + 1, st, _, _, _ => by
    rw [run_of he rfl]
    simp only [d__law_equal, EV0, EV1, EV2, EV3, EV4, EV5, EV6, k_lcT2_ok, k_lcT1_ok, k_lcE2_ok, k_lcE1_ok, k_for_nx, k_for_rt, k_wl_nx, k_wl_rt, fldAF, pick1_ok, peekS_f, peekS_l, peekS_d, retS_f, retS_l, retS_d, nxO_some, nxS_some, boxS_some, tryS_nx, tryS_rt, tryS_exc, asBl, asInt, asStr, Res.bind_ok, Res.bind_exc, Res.bind_bad, Res.inS_ok, Res.inS_exc, Res.inS_bad, Res.of_some, Res.of_none, Res.noX_ok, fin_nx, fin_rt, fin_exc, flat_non, flat_bl, flat_int, flat_str, List.getElem?_cons_zero, List.getElem?_cons_succ, List.getElem?_nil, List.set_cons_zero, List.set_cons_succ, Option.map_some, Option.map_none, Option.bind_some, Option.bind_none,
    startE, List.map_cons, List.map_nil, List.replicate, List.cons_append, List.nil_append, setOs, setTg, setTs, thaw, Bool.not_true, Bool.not_false, if_true, if_false, Bool.false_eq_true, Option.isSome_some, Option.isSome_none, biOp, binop, cmpop, subOp_tup, subOp_lst, subOp_str, subOp_dct, subOp_ref, asList, asDict, tagOf, isTag, List.any_cons, List.any_nil, Bool.or_false, Bool.false_or, Bool.or_true, Bool.true_or, Bool.and_true, Bool.true_and, Bool.and_false, Bool.false_and, decide_true, decide_false, Int.reduceLT, Int.reduceLE, Nat.reduceLT, Nat.reduceLeDiff, Nat.reduceAdd, Int.reduceAdd, Int.reduceSub, Int.reduceToNat, Int.reduceEq, Nat.reduceEqDiff, Nat.reduceBEq, Int.reduceBEq, Int.reduceNeg, Nat.reduceSub, Int.cast_ofNat_Int, Int.natCast_one, Int.natCast_zero, reduceCtorEq, eqOk_int, pyEq_int, ltOk_int, pyLt_int, pyEq_str, eqOk_str, eqOk_bl, pyEq_bl, ix0, ix1, ix2, List.length_cons, List.length_nil, beq_self_eq_true, ↓reduceIte, isOp, isNon]
  | .bl b, k + 1, st, _, _, _ => by
    rw [run_of he rfl]
    simp only [d__law_equal, EV0, EV1, EV2, EV3, EV4, EV5, EV6, k_lcT2_ok, k_lcT1_ok, k_lcE2_ok, k_lcE1_ok, k_for_nx, k_for_rt, k_wl_nx, k_wl_rt, fldAF, pick1_ok, peekS_f, peekS_l, peekS_d, retS_f, retS_l, retS_d, nxO_some, nxS_some, boxS_some, tryS_nx, tryS_rt, tryS_exc, asBl, asInt, asStr, Res.bind_ok, Res.bind_exc, Res.bind_bad, Res.inS_ok, Res.inS_exc, Res.inS_bad, Res.of_some, Res.of_none, Res.noX_ok, fin_nx, fin_rt, fin_exc, flat_non, flat_bl, flat_int, flat_str, List.getElem?_cons_zero, List.getElem?_cons_succ, List.getElem?_nil, List.set_cons_zero, List.set_cons_succ, Option.map_some, Option.map_none, Option.bind_some, Option.bind_none,
    startE, List.map_cons, List.map_nil, List.replicate, List.cons_append, List.nil_append, setOs, setTg, setTs, thaw, Bool.not_true, Bool.not_false, if_true, if_false, Bool.false_eq_true, Option.isSome_some, Option.isSome_none, biOp, binop, cmpop, subOp_tup, subOp_lst, subOp_str, subOp_dct, subOp_ref, asList, asDict, tagOf, isTag, List.any_cons, List.any_nil, Bool.or_false, Bool.false_or, Bool.or_true, Bool.true_or, Bool.and_true, Bool.true_and, Bool.and_false, Bool.false_and, decide_true, decide_false, Int.reduceLT, Int.reduceLE, Nat.reduceLT, Nat.reduceLeDiff, Nat.reduceAdd, Int.reduceAdd, Int.reduceSub, Int.reduceToNat, Int.reduceEq, Nat.reduceEqDiff, Nat.reduceBEq, Int.reduceBEq, Int.reduceNeg, Nat.reduceSub, Int.cast_ofNat_Int, Int.natCast_one, Int.natCast_zero, reduceCtorEq, eqOk_int, pyEq_int, ltOk_int, pyLt_int, pyEq_str, eqOk_str, eqOk_bl, pyEq_bl, ix0, ix1, ix2, List.length_cons, List.length_nil, beq_self_eq_true, ↓reduceIte, isOp, isNon]
  | .int i, k + 1, st, _, _, _ => by
    rw [run_of he rfl]
    simp only [d__law_equal, EV0, EV1, EV2, EV3, EV4, EV5, EV6, k_lcT2_ok, k_lcT1_ok, k_lcE2_ok, k_lcE1_ok, k_for_nx, k_for_rt, k_wl_nx, k_wl_rt, fldAF, pick1_ok, peekS_f, peekS_l, peekS_d, retS_f, retS_l, retS_d, nxO_some, nxS_some, boxS_some, tryS_nx, tryS_rt, tryS_exc, asBl, asInt, asStr, Res.bind_ok, Res.bind_exc, Res.bind_bad, Res.inS_ok, Res.inS_exc, Res.inS_bad, Res.of_some, Res.of_none, Res.noX_ok, fin_nx, fin_rt, fin_exc, flat_non, flat_bl, flat_int, flat_str, List.getElem?_cons_zero, List.getElem?_cons_succ, List.getElem?_nil, List.set_cons_zero, List.set_cons_succ, Option.map_some, Option.map_none, Option.bind_some, Option.bind_none,
    startE, List.map_cons, List.map_nil, List.replicate, List.cons_append, List.nil_append, setOs, setTg, setTs, thaw, Bool.not_true, Bool.not_false, if_true, if_false, Bool.false_eq_true, Option.isSome_some, Option.isSome_none, biOp, binop, cmpop, subOp_tup, subOp_lst, subOp_str, subOp_dct, subOp_ref, asList, asDict, tagOf, isTag, List.any_cons, List.any_nil, Bool.or_false, Bool.false_or, Bool.or_true, Bool.true_or, Bool.and_true, Bool.true_and, Bool.and_false, Bool.false_and, decide_true, decide_false, Int.reduceLT, Int.reduceLE, Nat.reduceLT, Nat.reduceLeDiff, Nat.reduceAdd, Int.reduceAdd, Int.reduceSub, Int.reduceToNat, Int.reduceEq, Nat.reduceEqDiff, Nat.reduceBEq, Int.reduceBEq, Int.reduceNeg, Nat.reduceSub, Int.cast_ofNat_Int, Int.natCast_one, Int.natCast_zero, reduceCtorEq, eqOk_int, pyEq_int, ltOk_int, pyLt_int, pyEq_str, eqOk_str, eqOk_bl, pyEq_bl, ix0, ix1, ix2, List.length_cons, List.length_nil, beq_self_eq_true, ↓reduceIte, isOp, isNon]
  | .str s, k + 1, st, _, _, _ => by
    rw [run_of he rfl]
    simp only [d__law_equal, EV0, EV1, EV2, EV3, EV4, EV5, EV6, k_lcT2_ok, k_lcT1_ok, k_lcE2_ok, k_lcE1_ok, k_for_nx, k_for_rt, k_wl_nx, k_wl_rt, fldAF, pick1_ok, peekS_f, peekS_l, peekS_d, retS_f, retS_l, retS_d, nxO_some, nxS_some, boxS_some, tryS_nx, tryS_rt, tryS_exc, asBl, asInt, asStr, Res.bind_ok, Res.bind_exc, Res.bind_bad, Res.inS_ok, Res.inS_exc, Res.inS_bad, Res.of_some, Res.of_none, Res.noX_ok, fin_nx, fin_rt, fin_exc, flat_non, flat_bl, flat_int, flat_str, List.getElem?_cons_zero, List.getElem?_cons_succ, List.getElem?_nil, List.set_cons_zero, List.set_cons_succ, Option.map_some, Option.map_none, Option.bind_some, Option.bind_none,
    startE, List.map_cons, List.map_nil, List.replicate, List.cons_append, List.nil_append, setOs, setTg, setTs, thaw, Bool.not_true, Bool.not_false, if_true, if_false, Bool.false_eq_true, Option.isSome_some, Option.isSome_none, biOp, binop, cmpop, subOp_tup, subOp_lst, subOp_str, subOp_dct, subOp_ref, asList, asDict, tagOf, isTag, List.any_cons, List.any_nil, Bool.or_false, Bool.false_or, Bool.or_true, Bool.true_or, Bool.and_true, Bool.true_and, Bool.and_false, Bool.false_and, decide_true, decide_false, Int.reduceLT, Int.reduceLE, Nat.reduceLT, Nat.reduceLeDiff, Nat.reduceAdd, Int.reduceAdd, Int.reduceSub, Int.reduceToNat, Int.reduceEq, Nat.reduceEqDiff, Nat.reduceBEq, Int.reduceBEq, Int.reduceNeg, Nat.reduceSub, Int.cast_ofNat_Int, Int.natCast_one, Int.natCast_zero, reduceCtorEq, eqOk_int, pyEq_int, ltOk_int, pyLt_int, pyEq_str, eqOk_str, eqOk_bl, pyEq_bl, ix0, ix1, ix2, List.length_cons, List.length_nil, beq_self_eq_true, ↓reduceIte, isOp, isNon]
  | .tup xs, k + 1, st, hp, hl, hk => by
    simp only [vlen, Bool.and_eq_true, decide_eq_true_eq] at hl
    simp only [pdata] at hp
    simp only [vdep] at hk
    exact equal_seq he hp hl.1 st (fun i x hx => equal_all he xs k st hp hl.2 (by omega) i x hx) _ (.inl rfl)
  | .lst xs, k + 1, st, hp, hl, hk => by
    simp only [vlen, Bool.and_eq_true, decide_eq_true_eq] at hl
    simp only [pdata] at hp
    simp only [vdep] at hk
    exact equal_seq he hp hl.1 st (fun i x hx => equal_all he xs k st hp hl.2 (by omega) i x hx) _ (.inr rfl)
theorem equal_all (he : C.fn f__law_equal = some d__law_equal) : ∀ (xs : List Val) (k : Nat) (st : Store), pdatas xs = true → vlens xs = true → vdeps xs + 1 ≤ k → ∀ (i : Nat) (x : Val), xs[i]? = some x → evCall C k f__law_equal [x, x] st = .ok (false, .bl true) st
  | [], k, st, _, _, _, i, x, h => by simp at h
  | y :: r, k, st, hp, hl, hk, 0, x, h => by
    simp only [pdatas, vlens, vdeps, Bool.and_eq_true] at hp hl hk
    simp only [List.getElem?_cons_zero, Option.some.injEq] at h
    rw [← h]
    exact equal_spec he y k st hp.1 hl.1 (by omega)
  | y :: r, k, st, hp, hl, hk, i + 1, x, h => by
    simp only [pdatas, vlens, vdeps, Bool.and_eq_true] at hp hl hk
    exact equal_all he r k st hp.2 hl.2 (by omega) i x (by simpa using h)
end
theorem Sh.pdata : ∀ s : Sh, Lk.pdata s.v = true
  | .one => rfl
  | .nam _ => rfl
  | .pair a b => by simp [Sh.v, Lk.pdata, pdatas, a.pdata, b.pdata]
  | .to a b => by simp [Sh.v, Lk.pdata, pdatas, a.pdata, b.pdata]
theorem Sh.vlen : ∀ s : Sh, Lk.vlen s.v = true
  | .one => rfl
  | .nam _ => rfl
  | .pair a b => by simp [Sh.v, Lk.vlen, vlens, a.vlen, b.vlen]
  | .to a b => by simp [Sh.v, Lk.vlen, vlens, a.vlen, b.vlen]
theorem Sh.vdep : ∀ s : Sh, Lk.vdep s.v = s.dp + 1
  | .one => rfl
  | .nam _ => rfl
  | .pair a b => by simp [Sh.v, Lk.vdep, vdeps, a.vdep, b.vdep, Sh.dp]
  | .to a b => by simp [Sh.v, Lk.vdep, vdeps, a.vdep, b.vdep, Sh.dp]
end
end Lk
set_option linter.all false
set_option autoImplicit false
set_option maxRecDepth 100000
set_option maxHeartbeats 2000000
/-! LkN3: concrete calls; shapes, ==. -/
namespace Lk
mutual
def noRef : Val → Bool
  | .ref _ => false
  | .tup xs => noRefs xs
  | .lst xs => noRefs xs
  | .dct kvs => noRefK kvs
  | _ => true
def noRefs : List Val → Bool
  | [] => true
  | x :: r => noRef x && noRefs r
def noRefK : List (Val × Val) → Bool
  | [] => true
  | (a, b) :: r => noRef a && noRef b && noRefK r
end
mutual
theorem noRef_sh {n : Nat} : ∀ v : Val, noRef v = true → shV n v = v
  | .non, _ => rfl
  | .bl _, _ => rfl
  | .int _, _ => rfl
  | .str _, _ => rfl
  | .scr _, _ => rfl
  | .ref _, h => by cases h
  | .tup xs, h => by simp only [shV]; rw [noRefs_sh xs h]
  | .lst xs, h => by simp only [shV]; rw [noRefs_sh xs h]
  | .dct xs, h => by simp only [shV]; rw [noRefK_sh xs h]
theorem noRefs_sh {n : Nat} : ∀ v : List Val, noRefs v = true → shVs n v = v
  | [], _ => rfl
  | x :: r, h => by
    simp only [noRefs, Bool.and_eq_true] at h
    simp only [shVs]; rw [noRef_sh x h.1, noRefs_sh r h.2]
theorem noRefK_sh {n : Nat} : ∀ v : List (Val × Val), noRefK v = true → shKs n v = v
  | [], _ => rfl
  | (a, b) :: r, h => by
    simp only [noRefK, Bool.and_eq_true] at h
    simp only [shKs]; rw [noRef_sh a h.1.1, noRef_sh b h.1.2, noRefK_sh r h.2]
end
/-- it answers True and makes nothing -/
def isTrueR : Res Rv → Bool
  | .ok (false, .bl true) [] => true
  | _ => false
theorem isTrueR_eq {r : Res Rv} (h : isTrueR r = true) : r = .ok (false, .bl true) [] := by
  unfold isTrueR at h
  split at h
  · rfl
  · cases h
theorem call_true {C : Cfg} (hC : CfgOk C) {k f : Nat} {vs : List Val} (h : isTrueR (evCall C k f vs []) = true) (hv : noRefs vs = true) (st : Store) : evCall C k f vs st = .ok (false, .bl true) st :=
  call_frame hC (isTrueR_eq h) (noRefs_sh vs hv) rfl
/-! ### shapes, == -/
theorem Sh.plain : ∀ s : Sh, plainD s.v = true
  | .one => rfl
  | .nam _ => rfl
  | .pair a b => by simp [Sh.v, plainD, plainDs, a.plain, b.plain]
  | .to a b => by simp [Sh.v, plainD, plainDs, a.plain, b.plain]
theorem Sh.dep : ∀ s : Sh, Lk.dep s.v = s.dp + 1
  | .one => rfl
  | .nam _ => rfl
  | .pair a b => by simp [Sh.v, Lk.dep, deps, a.dep, b.dep, Sh.dp]
  | .to a b => by simp [Sh.v, Lk.dep, deps, a.dep, b.dep, Sh.dp]
theorem Sh.eqOk (a b : Sh) (h : a.dp < 150) : Lk.eqOk a.v b.v = true := by
  simp only [Lk.eqOk, Sh.plain, Sh.dep, Bool.true_and, Bool.or_eq_true, decide_eq_true_eq]
  exact .inl (by omega)
theorem pyEq_tup (xs ys : List Val) : pyEq (.tup xs) (.tup ys) = pyEqs xs ys := by conv => lhs; unfold pyEq
theorem pyEqs_cons (x y : Val) (xs ys : List Val) : pyEqs (x :: xs) (y :: ys) = (pyEq x y && pyEqs xs ys) := by conv => lhs; unfold pyEqs
theorem pyEqs_nil : pyEqs [] [] = true := by unfold pyEqs; rfl
theorem pyEqs_n1 (x : Val) (xs : List Val) : pyEqs (x :: xs) [] = false := by unfold pyEqs; rfl
theorem pyEqs_n2 (x : Val) (xs : List Val) : pyEqs [] (x :: xs) = false := by unfold pyEqs; rfl
theorem beq_dec (a b : Sn) : (a == b) = decide (a = b) := by rw [Bool.eq_iff_iff]; simp
theorem Sh.pyEq : ∀ a b : Sh, Lk.pyEq a.v b.v = decide (a = b)
  | .one, b => by cases b <;> simp [Sh.v, pyEq_tup, pyEqs_cons, pyEqs_nil, pyEqs_n1, pyEqs_n2, pyEq_str]
  | .nam s, b => by cases b <;> simp [Sh.v, pyEq_tup, pyEqs_cons, pyEqs_nil, pyEqs_n1, pyEqs_n2, pyEq_str, beq_dec]
  | .pair a1 a2, b => by
    cases b <;> simp [Sh.v, pyEq_tup, pyEqs_cons, pyEqs_nil, pyEqs_n1, pyEqs_n2, pyEq_str, a1.pyEq, a2.pyEq]
  | .to a1 a2, b => by
    cases b <;> simp [Sh.v, pyEq_tup, pyEqs_cons, pyEqs_nil, pyEqs_n1, pyEqs_n2, pyEq_str, a1.pyEq, a2.pyEq]
theorem Sh.v_inj {a b : Sh} (h : a.v = b.v) : a = b := by
  have := a.pyEq b
  rw [h] at this
  have h2 := b.pyEq b
  rw [this] at h2
  simpa using h2
end Lk
set_option linter.all false
set_option autoImplicit false
set_option maxRecDepth 100000
set_option maxHeartbeats 8000000
/-! LkU: leaves, names, order. -/
namespace Lk
/-! ### texts can be sorted -/
theorem sn_tri (a b : List Nat) (h : ¬ b < a) : a = b ∨ a < b := by
  rcases List.le_iff_lt_or_eq.mp (show a ≤ b from h) with c | c
  · exact .inr c
  · exact .inl c
theorem ins_strs (x : Sn) : ∀ us : List Sn, us.Pairwise (fun a b : List Nat => a ≤ b) → ∃ ws : List Sn, insV (.str x) (us.map .str) = some (ws.map .str) ∧ ws.Pairwise (fun a b : List Nat => a ≤ b) ∧ ws.Perm (x :: us)
  | [], _ => ⟨[x], rfl, List.pairwise_singleton _ _, List.Perm.refl _⟩
  | y :: r, h => by
    obtain ⟨h1, h2⟩ := List.pairwise_cons.mp h
    by_cases c : y < x
    · obtain ⟨ws, e, e2, e3⟩ := ins_strs x r h2
      refine ⟨y :: ws, ?_, List.pairwise_cons.mpr ⟨fun z hz => ?_, e2⟩, (e3.cons y).trans (List.Perm.swap x y r)⟩
      · have : snLt y x = true := by rw [snLt_iff]; simpa using c
        simp only [List.map_cons, insV, pyLt, this, Option.bind_some, if_true, e, Option.map_some]
      · rcases List.mem_cons.mp (e3.mem_iff.mp hz) with rfl | hz
        · exact List.le_of_lt c
        · exact h1 z hz
    · refine ⟨x :: y :: r, ?_, List.pairwise_cons.mpr ⟨fun z hz => ?_, h⟩, List.Perm.refl _⟩
      · have : snLt y x = false := by rw [snLt_iff]; simpa using c
        simp only [List.map_cons, insV, pyLt, this, Option.bind_some, Bool.false_eq_true, if_false]
      · rcases List.mem_cons.mp hz with rfl | hz
        · exact c
        · exact List.le_trans (show x ≤ y from c) (h1 z hz)
theorem sort_strs : ∀ ts : List Sn, ∃ ws : List Sn, sortV (ts.map .str) = some (ws.map .str) ∧ ws.Pairwise (fun a b : List Nat => a ≤ b) ∧ ws.Perm ts
  | [] => ⟨[], rfl, List.Pairwise.nil, List.Perm.refl _⟩
  | x :: r => by
    obtain ⟨us, e, e2, e3⟩ := sort_strs r
    obtain ⟨ws, f, f2, f3⟩ := ins_strs x us e2
    exact ⟨ws, by simp only [List.map_cons, sortV, e, Option.bind_some, f], f2, f3.trans (e3.cons x)⟩
theorem srtB_of : ∀ us : List Sn, us.Pairwise (fun a b : List Nat => a ≤ b) → srtB (us.map .str) = true
  | [], _ => rfl
  | x :: r, h => by
    obtain ⟨h1, h2⟩ := List.pairwise_cons.mp h
    simp only [List.map_cons, srtB, srtB_of r h2, Bool.and_true, List.all_map, List.all_eq_true, Function.comp]
    intro y hy
    rcases sn_tri x y (h1 y hy) with rfl | c
    · simp [pyEq]
    · have e1 : snLt x y = true := by rw [snLt_iff]; simpa using c
      have e2 : snLt y x = false := by rw [snLt_iff]; simpa using (h1 y hy)
      simp [pyLt, e1, e2, isT, isF]
/-- the texts, each once, ascending -/
theorem srt_strs (ts : List Sn) : ∃ ws : List Sn, sortC (dedup (ts.map .str)) = some (ws.map .str) ∧ ws.length ≤ ts.length := by
  obtain ⟨us, d1, d2, d3, d4⟩ := dedup_strs ts
  obtain ⟨ws, e, e2, e3⟩ := sort_strs us
  refine ⟨ws, ?_, by rw [e3.length_eq]; exact d4⟩
  simp only [d1, sortC, e, Option.bind_some, srtB_of ws e2, if_true]
theorem allStr_map : ∀ ts : List Sn, allStr (ts.map .str) = true
  | [] => rfl
  | t :: r => by simp only [List.map_cons, allStr, allStr_map r]
def srtOf (ts : List Sn) : List Val := ((sortC (dedup (ts.map .str))).getD [])
theorem srtset_eq (ts : List Sn) (h : ts.length < 64) (st : Store) : biOp .srtset st [.lst (ts.map .str)] = some (true, .lst (srtOf ts)) := by
  obtain ⟨ws, e, _⟩ := srt_strs ts
  have c : (allStr (ts.map Val.str) && decide ((ts.map Val.str).length < 64)) = true := by rw [allStr_map, List.length_map]; simpa using h
  simp only [biOp, asList, Option.bind_some, c, if_true, srtOf, e, Option.map_some, Option.getD_some]
theorem srtOf_data (ts : List Sn) (h : ts.length < 64) : pdata (.lst (srtOf ts)) = true ∧ vlen (.lst (srtOf ts)) = true ∧ vdep (.lst (srtOf ts)) ≤ 1 := by
  obtain ⟨ws, e, l⟩ := srt_strs ts
  have es : srtOf ts = ws.map .str := by simp only [srtOf, e, Option.getD_some]
  rw [es]
  have h1 : ∀ ws : List Sn, pdatas (ws.map .str) = true := fun ws => by induction ws with | nil => rfl | cons w r ih => simpa only [List.map_cons, pdatas, pdata, Bool.true_and] using ih
  have h2 : ∀ ws : List Sn, vlens (ws.map .str) = true := fun ws => by induction ws with | nil => rfl | cons w r ih => simpa only [List.map_cons, vlens, vlen, Bool.true_and] using ih
  have h3 : ∀ ws : List Sn, vdeps (ws.map .str) = 0 := fun ws => by induction ws with | nil => rfl | cons w r ih => simp only [List.map_cons, vdeps, vdep, ih] <;> rfl
  refine ⟨by simp only [pdata, h1], ?_, by simp only [vdep, h3]; omega⟩
  simp only [vlen, h2, Bool.and_true, List.length_map]
  exact decide_eq_true (by omega)
/-! ### leaves -/
def Sh.lvs : Sh → List Sh
  | .one => [.one]
  | .nam s => [.nam s]
  | .pair a b => a.lvs ++ b.lvs
  | .to a b => a.lvs ++ b.lvs
theorem Sh.lvs_len : ∀ s : Sh, s.lvs.length = s.lv
  | .one => rfl
  | .nam _ => rfl
  | .pair a b => by simp only [Sh.lvs, List.length_append, a.lvs_len, b.lvs_len, Sh.lv]
  | .to a b => by simp only [Sh.lvs, List.length_append, a.lvs_len, b.lvs_len, Sh.lv]
theorem Sh.nms_len : ∀ s : Sh, s.nms.length ≤ s.lv
  | .one => Nat.zero_le _
  | .nam _ => Nat.le_refl _
  | .pair a b => by have := a.nms_len; have := b.nms_len; simp only [Sh.nms, List.length_append, Sh.lv]; omega
  | .to a b => by have := a.nms_len; have := b.nms_len; simp only [Sh.nms, List.length_append, Sh.lv]; omega
def lfV : Val → List Val
  | .tup [_, .str n] => [.str n]
  | _ => []
theorem Sh.lvs_nms : ∀ s : Sh, (s.lvs.map Sh.v).flatMap lfV = s.nms.map .str
  | .one => rfl
  | .nam _ => rfl
  | .pair a b => by simp only [Sh.lvs, List.map_append, List.flatMap_append, a.lvs_nms, b.lvs_nms, Sh.nms]
  | .to a b => by simp only [Sh.lvs, List.map_append, List.flatMap_append, a.lvs_nms, b.lvs_nms, Sh.nms]
theorem Sh.lvs_leaf : ∀ {s x : Sh}, x ∈ s.lvs → x = .one ∨ ∃ n, x = .nam n
  | .one, x, h => .inl (by simpa [Sh.lvs] using h)
  | .nam n, x, h => .inr ⟨n, by simpa [Sh.lvs] using h⟩
  | .pair a b, x, h => by
    rcases List.mem_append.mp (show x ∈ a.lvs ++ b.lvs from h) with h | h
    · exact Sh.lvs_leaf h
    · exact Sh.lvs_leaf h
  | .to a b, x, h => by
    rcases List.mem_append.mp (show x ∈ a.lvs ++ b.lvs from h) with h | h
    · exact Sh.lvs_leaf h
    · exact Sh.lvs_leaf h
def Sh.od : Sh → Int
  | .one => 0
  | .nam _ => 0
  | .pair a b => if a.od < b.od then b.od else a.od
  | .to a b => if a.od + 1 < b.od then b.od else a.od + 1
structure HasLv (C : Cfg) : Prop where
  S : HasSh C
  lo : C.fn f_leaves_of = some d_leaves_of
  no : C.fn f_names_of = some d_names_of
  oo : C.fn f_order_of = some d_order_of
  lv : C.fn f_leaves = some d_leaves
  nm : C.fn f_names = some d_names
  od : C.fn f_order = some d_order
  ll : C.fn f__law_leaves = some d__law_leaves
  lo2 : C.fn f__law_order = some d__law_order
section
variable {C : Cfg}
theorem lvsof_spec (H : HasLv C) : ∀ (s : Sh) (k : Nat) (st : Store), s.dp + 1 ≤ k → s.lv ≤ 1000 → evCall C k f_leaves_of [s.v] st = .ok (true, .lst (s.lvs.map Sh.v)) st
  | .one, k + 1, st, h, _ => by
    rw [run_of H.lo rfl]
    simp only [d_leaves_of, Sh.v, Sh.lvs, EV0, EV1, EV2, EV3, EV4, EV5, EV6, k_lcT2_ok, k_lcT1_ok, k_lcE2_ok, k_lcE1_ok, k_for_nx, k_for_rt, k_wl_nx, k_wl_rt, fldAF, pick1_ok, peekS_f, peekS_l, peekS_d, retS_f, retS_l, retS_d, nxO_some, nxS_some, boxS_some, tryS_nx, tryS_rt, tryS_exc, asBl, asInt, asStr, Res.bind_ok, Res.bind_exc, Res.bind_bad, Res.inS_ok, Res.inS_exc, Res.inS_bad, Res.of_some, Res.of_none, Res.noX_ok, fin_nx, fin_rt, fin_exc, flat_non, flat_bl, flat_int, flat_str, List.getElem?_cons_zero, List.getElem?_cons_succ, List.getElem?_nil, List.set_cons_zero, List.set_cons_succ, Option.map_some, Option.map_none, Option.bind_some, Option.bind_none,
    startE, List.map_cons, List.map_nil, List.replicate, List.cons_append, List.nil_append, setOs, setTg, setTs, thaw, Bool.not_true, Bool.not_false, if_true, if_false, Bool.false_eq_true, Option.isSome_some, Option.isSome_none, biOp, binop, cmpop, subOp_tup, subOp_lst, subOp_str, subOp_dct, subOp_ref, asList, asDict, tagOf, isTag, List.any_cons, List.any_nil, Bool.or_false, Bool.false_or, Bool.or_true, Bool.true_or, Bool.and_true, Bool.true_and, Bool.and_false, Bool.false_and, decide_true, decide_false, Int.reduceLT, Int.reduceLE, Nat.reduceLT, Nat.reduceLeDiff, Nat.reduceAdd, Int.reduceAdd, Int.reduceSub, Int.reduceToNat, Int.reduceEq, Nat.reduceEqDiff, Nat.reduceBEq, Int.reduceBEq, Int.reduceNeg, Nat.reduceSub, Int.cast_ofNat_Int, Int.natCast_one, Int.natCast_zero, reduceCtorEq, eqOk_int, pyEq_int, ltOk_int, pyLt_int, pyEq_str, eqOk_str, eqOk_bl, pyEq_bl, ix0, ix1, ix2, List.length_cons, List.length_nil, beq_self_eq_true, ↓reduceIte] <;> rfl
  | .nam s, k + 1, st, h, _ => by
    rw [run_of H.lo rfl]
    simp only [d_leaves_of, Sh.v, Sh.lvs, EV0, EV1, EV2, EV3, EV4, EV5, EV6, k_lcT2_ok, k_lcT1_ok, k_lcE2_ok, k_lcE1_ok, k_for_nx, k_for_rt, k_wl_nx, k_wl_rt, fldAF, pick1_ok, peekS_f, peekS_l, peekS_d, retS_f, retS_l, retS_d, nxO_some, nxS_some, boxS_some, tryS_nx, tryS_rt, tryS_exc, asBl, asInt, asStr, Res.bind_ok, Res.bind_exc, Res.bind_bad, Res.inS_ok, Res.inS_exc, Res.inS_bad, Res.of_some, Res.of_none, Res.noX_ok, fin_nx, fin_rt, fin_exc, flat_non, flat_bl, flat_int, flat_str, List.getElem?_cons_zero, List.getElem?_cons_succ, List.getElem?_nil, List.set_cons_zero, List.set_cons_succ, Option.map_some, Option.map_none, Option.bind_some, Option.bind_none,
    startE, List.map_cons, List.map_nil, List.replicate, List.cons_append, List.nil_append, setOs, setTg, setTs, thaw, Bool.not_true, Bool.not_false, if_true, if_false, Bool.false_eq_true, Option.isSome_some, Option.isSome_none, biOp, binop, cmpop, subOp_tup, subOp_lst, subOp_str, subOp_dct, subOp_ref, asList, asDict, tagOf, isTag, List.any_cons, List.any_nil, Bool.or_false, Bool.false_or, Bool.or_true, Bool.true_or, Bool.and_true, Bool.true_and, Bool.and_false, Bool.false_and, decide_true, decide_false, Int.reduceLT, Int.reduceLE, Nat.reduceLT, Nat.reduceLeDiff, Nat.reduceAdd, Int.reduceAdd, Int.reduceSub, Int.reduceToNat, Int.reduceEq, Nat.reduceEqDiff, Nat.reduceBEq, Int.reduceBEq, Int.reduceNeg, Nat.reduceSub, Int.cast_ofNat_Int, Int.natCast_one, Int.natCast_zero, reduceCtorEq, eqOk_int, pyEq_int, ltOk_int, pyLt_int, pyEq_str, eqOk_str, eqOk_bl, pyEq_bl, ix0, ix1, ix2, List.length_cons, List.length_nil, beq_self_eq_true, ↓reduceIte] <;> rfl
  | .pair a b, k + 1, st, h, hl => by
    simp only [Sh.dp, Sh.lv] at h hl
    rw [run_of H.lo rfl]
    have ha := lvsof_spec H a k st (by omega) (by omega)
    have hb := lvsof_spec H b k st (by omega) (by omega)
    have hm : (a.lvs.map Sh.v).length + (b.lvs.map Sh.v).length ≤ maxLen := by simp only [List.length_map, Sh.lvs_len, maxLen]; omega
    simp only [d_leaves_of, Sh.v, Sh.lvs, EV0, EV1, EV2, EV3, EV4, EV5, EV6, k_lcT2_ok, k_lcT1_ok, k_lcE2_ok, k_lcE1_ok, k_for_nx, k_for_rt, k_wl_nx, k_wl_rt, fldAF, pick1_ok, peekS_f, peekS_l, peekS_d, retS_f, retS_l, retS_d, nxO_some, nxS_some, boxS_some, tryS_nx, tryS_rt, tryS_exc, asBl, asInt, asStr, Res.bind_ok, Res.bind_exc, Res.bind_bad, Res.inS_ok, Res.inS_exc, Res.inS_bad, Res.of_some, Res.of_none, Res.noX_ok, fin_nx, fin_rt, fin_exc, flat_non, flat_bl, flat_int, flat_str, List.getElem?_cons_zero, List.getElem?_cons_succ, List.getElem?_nil, List.set_cons_zero, List.set_cons_succ, Option.map_some, Option.map_none, Option.bind_some, Option.bind_none,
    startE, List.map_cons, List.map_nil, List.replicate, List.cons_append, List.nil_append, setOs, setTg, setTs, thaw, Bool.not_true, Bool.not_false, if_true, if_false, Bool.false_eq_true, Option.isSome_some, Option.isSome_none, biOp, binop, cmpop, subOp_tup, subOp_lst, subOp_str, subOp_dct, subOp_ref, asList, asDict, tagOf, isTag, List.any_cons, List.any_nil, Bool.or_false, Bool.false_or, Bool.or_true, Bool.true_or, Bool.and_true, Bool.true_and, Bool.and_false, Bool.false_and, decide_true, decide_false, Int.reduceLT, Int.reduceLE, Nat.reduceLT, Nat.reduceLeDiff, Nat.reduceAdd, Int.reduceAdd, Int.reduceSub, Int.reduceToNat, Int.reduceEq, Nat.reduceEqDiff, Nat.reduceBEq, Int.reduceBEq, Int.reduceNeg, Nat.reduceSub, Int.cast_ofNat_Int, Int.natCast_one, Int.natCast_zero, reduceCtorEq, eqOk_int, pyEq_int, ltOk_int, pyLt_int, pyEq_str, eqOk_str, eqOk_bl, pyEq_bl, ix0, ix1, ix2, List.length_cons, List.length_nil, beq_self_eq_true, ↓reduceIte, ha, hb, hm, List.map_append] <;> rfl
  | .to a b, k + 1, st, h, hl => by
    simp only [Sh.dp, Sh.lv] at h hl
    rw [run_of H.lo rfl]
    have ha := lvsof_spec H a k st (by omega) (by omega)
    have hb := lvsof_spec H b k st (by omega) (by omega)
    have hm : (a.lvs.map Sh.v).length + (b.lvs.map Sh.v).length ≤ maxLen := by simp only [List.length_map, Sh.lvs_len, maxLen]; omega
    simp only [d_leaves_of, Sh.v, Sh.lvs, EV0, EV1, EV2, EV3, EV4, EV5, EV6, k_lcT2_ok, k_lcT1_ok, k_lcE2_ok, k_lcE1_ok, k_for_nx, k_for_rt, k_wl_nx, k_wl_rt, fldAF, pick1_ok, peekS_f, peekS_l, peekS_d, retS_f, retS_l, retS_d, nxO_some, nxS_some, boxS_some, tryS_nx, tryS_rt, tryS_exc, asBl, asInt, asStr, Res.bind_ok, Res.bind_exc, Res.bind_bad, Res.inS_ok, Res.inS_exc, Res.inS_bad, Res.of_some, Res.of_none, Res.noX_ok, fin_nx, fin_rt, fin_exc, flat_non, flat_bl, flat_int, flat_str, List.getElem?_cons_zero, List.getElem?_cons_succ, List.getElem?_nil, List.set_cons_zero, List.set_cons_succ, Option.map_some, Option.map_none, Option.bind_some, Option.bind_none,
    startE, List.map_cons, List.map_nil, List.replicate, List.cons_append, List.nil_append, setOs, setTg, setTs, thaw, Bool.not_true, Bool.not_false, if_true, if_false, Bool.false_eq_true, Option.isSome_some, Option.isSome_none, biOp, binop, cmpop, subOp_tup, subOp_lst, subOp_str, subOp_dct, subOp_ref, asList, asDict, tagOf, isTag, List.any_cons, List.any_nil, Bool.or_false, Bool.false_or, Bool.or_true, Bool.true_or, Bool.and_true, Bool.true_and, Bool.and_false, Bool.false_and, decide_true, decide_false, Int.reduceLT, Int.reduceLE, Nat.reduceLT, Nat.reduceLeDiff, Nat.reduceAdd, Int.reduceAdd, Int.reduceSub, Int.reduceToNat, Int.reduceEq, Nat.reduceEqDiff, Nat.reduceBEq, Int.reduceBEq, Int.reduceNeg, Nat.reduceSub, Int.cast_ofNat_Int, Int.natCast_one, Int.natCast_zero, reduceCtorEq, eqOk_int, pyEq_int, ltOk_int, pyLt_int, pyEq_str, eqOk_str, eqOk_bl, pyEq_bl, ix0, ix1, ix2, List.length_cons, List.length_nil, beq_self_eq_true, ↓reduceIte, ha, hb, hm, List.map_append] <;> rfl
theorem llvs_spec (H : HasLv C) : ∀ (s : Sh) (k : Nat) (st : Store), s.dp + 1 ≤ k → s.lv ≤ 1000 → evCall C k f__law_leaves [s.v] st = .ok (true, .lst (s.lvs.map Sh.v)) st
  | .one, k + 1, st, h, _ => by
    rw [run_of H.ll rfl]
    simp only [d__law_leaves, Sh.v, Sh.lvs, EV0, EV1, EV2, EV3, EV4, EV5, EV6, k_lcT2_ok, k_lcT1_ok, k_lcE2_ok, k_lcE1_ok, k_for_nx, k_for_rt, k_wl_nx, k_wl_rt, fldAF, pick1_ok, peekS_f, peekS_l, peekS_d, retS_f, retS_l, retS_d, nxO_some, nxS_some, boxS_some, tryS_nx, tryS_rt, tryS_exc, asBl, asInt, asStr, Res.bind_ok, Res.bind_exc, Res.bind_bad, Res.inS_ok, Res.inS_exc, Res.inS_bad, Res.of_some, Res.of_none, Res.noX_ok, fin_nx, fin_rt, fin_exc, flat_non, flat_bl, flat_int, flat_str, List.getElem?_cons_zero, List.getElem?_cons_succ, List.getElem?_nil, List.set_cons_zero, List.set_cons_succ, Option.map_some, Option.map_none, Option.bind_some, Option.bind_none,
    startE, List.map_cons, List.map_nil, List.replicate, List.cons_append, List.nil_append, setOs, setTg, setTs, thaw, Bool.not_true, Bool.not_false, if_true, if_false, Bool.false_eq_true, Option.isSome_some, Option.isSome_none, biOp, binop, cmpop, subOp_tup, subOp_lst, subOp_str, subOp_dct, subOp_ref, asList, asDict, tagOf, isTag, List.any_cons, List.any_nil, Bool.or_false, Bool.false_or, Bool.or_true, Bool.true_or, Bool.and_true, Bool.true_and, Bool.and_false, Bool.false_and, decide_true, decide_false, Int.reduceLT, Int.reduceLE, Nat.reduceLT, Nat.reduceLeDiff, Nat.reduceAdd, Int.reduceAdd, Int.reduceSub, Int.reduceToNat, Int.reduceEq, Nat.reduceEqDiff, Nat.reduceBEq, Int.reduceBEq, Int.reduceNeg, Nat.reduceSub, Int.cast_ofNat_Int, Int.natCast_one, Int.natCast_zero, reduceCtorEq, eqOk_int, pyEq_int, ltOk_int, pyLt_int, pyEq_str, eqOk_str, eqOk_bl, pyEq_bl, ix0, ix1, ix2, List.length_cons, List.length_nil, beq_self_eq_true, ↓reduceIte] <;> rfl
  | .nam s, k + 1, st, h, _ => by
    rw [run_of H.ll rfl]
    simp only [d__law_leaves, Sh.v, Sh.lvs, EV0, EV1, EV2, EV3, EV4, EV5, EV6, k_lcT2_ok, k_lcT1_ok, k_lcE2_ok, k_lcE1_ok, k_for_nx, k_for_rt, k_wl_nx, k_wl_rt, fldAF, pick1_ok, peekS_f, peekS_l, peekS_d, retS_f, retS_l, retS_d, nxO_some, nxS_some, boxS_some, tryS_nx, tryS_rt, tryS_exc, asBl, asInt, asStr, Res.bind_ok, Res.bind_exc, Res.bind_bad, Res.inS_ok, Res.inS_exc, Res.inS_bad, Res.of_some, Res.of_none, Res.noX_ok, fin_nx, fin_rt, fin_exc, flat_non, flat_bl, flat_int, flat_str, List.getElem?_cons_zero, List.getElem?_cons_succ, List.getElem?_nil, List.set_cons_zero, List.set_cons_succ, Option.map_some, Option.map_none, Option.bind_some, Option.bind_none,
    startE, List.map_cons, List.map_nil, List.replicate, List.cons_append, List.nil_append, setOs, setTg, setTs, thaw, Bool.not_true, Bool.not_false, if_true, if_false, Bool.false_eq_true, Option.isSome_some, Option.isSome_none, biOp, binop, cmpop, subOp_tup, subOp_lst, subOp_str, subOp_dct, subOp_ref, asList, asDict, tagOf, isTag, List.any_cons, List.any_nil, Bool.or_false, Bool.false_or, Bool.or_true, Bool.true_or, Bool.and_true, Bool.true_and, Bool.and_false, Bool.false_and, decide_true, decide_false, Int.reduceLT, Int.reduceLE, Nat.reduceLT, Nat.reduceLeDiff, Nat.reduceAdd, Int.reduceAdd, Int.reduceSub, Int.reduceToNat, Int.reduceEq, Nat.reduceEqDiff, Nat.reduceBEq, Int.reduceBEq, Int.reduceNeg, Nat.reduceSub, Int.cast_ofNat_Int, Int.natCast_one, Int.natCast_zero, reduceCtorEq, eqOk_int, pyEq_int, ltOk_int, pyLt_int, pyEq_str, eqOk_str, eqOk_bl, pyEq_bl, ix0, ix1, ix2, List.length_cons, List.length_nil, beq_self_eq_true, ↓reduceIte] <;> rfl
  | .pair a b, k + 1, st, h, hl => by
    simp only [Sh.dp, Sh.lv] at h hl
    rw [run_of H.ll rfl]
    have ha := llvs_spec H a k st (by omega) (by omega)
    have hb := llvs_spec H b k st (by omega) (by omega)
    have hm : (a.lvs.map Sh.v).length + (b.lvs.map Sh.v).length ≤ maxLen := by simp only [List.length_map, Sh.lvs_len, maxLen]; omega
    simp only [d__law_leaves, Sh.v, Sh.lvs, EV0, EV1, EV2, EV3, EV4, EV5, EV6, k_lcT2_ok, k_lcT1_ok, k_lcE2_ok, k_lcE1_ok, k_for_nx, k_for_rt, k_wl_nx, k_wl_rt, fldAF, pick1_ok, peekS_f, peekS_l, peekS_d, retS_f, retS_l, retS_d, nxO_some, nxS_some, boxS_some, tryS_nx, tryS_rt, tryS_exc, asBl, asInt, asStr, Res.bind_ok, Res.bind_exc, Res.bind_bad, Res.inS_ok, Res.inS_exc, Res.inS_bad, Res.of_some, Res.of_none, Res.noX_ok, fin_nx, fin_rt, fin_exc, flat_non, flat_bl, flat_int, flat_str, List.getElem?_cons_zero, List.getElem?_cons_succ, List.getElem?_nil, List.set_cons_zero, List.set_cons_succ, Option.map_some, Option.map_none, Option.bind_some, Option.bind_none,
    startE, List.map_cons, List.map_nil, List.replicate, List.cons_append, List.nil_append, setOs, setTg, setTs, thaw, Bool.not_true, Bool.not_false, if_true, if_false, Bool.false_eq_true, Option.isSome_some, Option.isSome_none, biOp, binop, cmpop, subOp_tup, subOp_lst, subOp_str, subOp_dct, subOp_ref, asList, asDict, tagOf, isTag, List.any_cons, List.any_nil, Bool.or_false, Bool.false_or, Bool.or_true, Bool.true_or, Bool.and_true, Bool.true_and, Bool.and_false, Bool.false_and, decide_true, decide_false, Int.reduceLT, Int.reduceLE, Nat.reduceLT, Nat.reduceLeDiff, Nat.reduceAdd, Int.reduceAdd, Int.reduceSub, Int.reduceToNat, Int.reduceEq, Nat.reduceEqDiff, Nat.reduceBEq, Int.reduceBEq, Int.reduceNeg, Nat.reduceSub, Int.cast_ofNat_Int, Int.natCast_one, Int.natCast_zero, reduceCtorEq, eqOk_int, pyEq_int, ltOk_int, pyLt_int, pyEq_str, eqOk_str, eqOk_bl, pyEq_bl, ix0, ix1, ix2, List.length_cons, List.length_nil, beq_self_eq_true, ↓reduceIte, ha, hb, hm, List.map_append] <;> rfl
  | .to a b, k + 1, st, h, hl => by
    simp only [Sh.dp, Sh.lv] at h hl
    rw [run_of H.ll rfl]
    have ha := llvs_spec H a k st (by omega) (by omega)
    have hb := llvs_spec H b k st (by omega) (by omega)
    have hm : (a.lvs.map Sh.v).length + (b.lvs.map Sh.v).length ≤ maxLen := by simp only [List.length_map, Sh.lvs_len, maxLen]; omega
    simp only [d__law_leaves, Sh.v, Sh.lvs, EV0, EV1, EV2, EV3, EV4, EV5, EV6, k_lcT2_ok, k_lcT1_ok, k_lcE2_ok, k_lcE1_ok, k_for_nx, k_for_rt, k_wl_nx, k_wl_rt, fldAF, pick1_ok, peekS_f, peekS_l, peekS_d, retS_f, retS_l, retS_d, nxO_some, nxS_some, boxS_some, tryS_nx, tryS_rt, tryS_exc, asBl, asInt, asStr, Res.bind_ok, Res.bind_exc, Res.bind_bad, Res.inS_ok, Res.inS_exc, Res.inS_bad, Res.of_some, Res.of_none, Res.noX_ok, fin_nx, fin_rt, fin_exc, flat_non, flat_bl, flat_int, flat_str, List.getElem?_cons_zero, List.getElem?_cons_succ, List.getElem?_nil, List.set_cons_zero, List.set_cons_succ, Option.map_some, Option.map_none, Option.bind_some, Option.bind_none,
    startE, List.map_cons, List.map_nil, List.replicate, List.cons_append, List.nil_append, setOs, setTg, setTs, thaw, Bool.not_true, Bool.not_false, if_true, if_false, Bool.false_eq_true, Option.isSome_some, Option.isSome_none, biOp, binop, cmpop, subOp_tup, subOp_lst, subOp_str, subOp_dct, subOp_ref, asList, asDict, tagOf, isTag, List.any_cons, List.any_nil, Bool.or_false, Bool.false_or, Bool.or_true, Bool.true_or, Bool.and_true, Bool.true_and, Bool.and_false, Bool.false_and, decide_true, decide_false, Int.reduceLT, Int.reduceLE, Nat.reduceLT, Nat.reduceLeDiff, Nat.reduceAdd, Int.reduceAdd, Int.reduceSub, Int.reduceToNat, Int.reduceEq, Nat.reduceEqDiff, Nat.reduceBEq, Int.reduceBEq, Int.reduceNeg, Nat.reduceSub, Int.cast_ofNat_Int, Int.natCast_one, Int.natCast_zero, reduceCtorEq, eqOk_int, pyEq_int, ltOk_int, pyLt_int, pyEq_str, eqOk_str, eqOk_bl, pyEq_bl, ix0, ix1, ix2, List.length_cons, List.length_nil, beq_self_eq_true, ↓reduceIte, ha, hb, hm, List.map_append] <;> rfl
theorem order_of_spec (H : HasLv C) : ∀ (s : Sh) (k : Nat) (st : Store), s.dp + 1 ≤ k → evCall C k f_order_of [s.v] st = .ok (false, .int s.od) st
  | .one, k + 1, st, h => by
    rw [run_of H.oo rfl]
    simp only [d_order_of, Sh.v, Sh.od, EV0, EV1, EV2, EV3, EV4, EV5, EV6, k_lcT2_ok, k_lcT1_ok, k_lcE2_ok, k_lcE1_ok, k_for_nx, k_for_rt, k_wl_nx, k_wl_rt, fldAF, pick1_ok, peekS_f, peekS_l, peekS_d, retS_f, retS_l, retS_d, nxO_some, nxS_some, boxS_some, tryS_nx, tryS_rt, tryS_exc, asBl, asInt, asStr, Res.bind_ok, Res.bind_exc, Res.bind_bad, Res.inS_ok, Res.inS_exc, Res.inS_bad, Res.of_some, Res.of_none, Res.noX_ok, fin_nx, fin_rt, fin_exc, flat_non, flat_bl, flat_int, flat_str, List.getElem?_cons_zero, List.getElem?_cons_succ, List.getElem?_nil, List.set_cons_zero, List.set_cons_succ, Option.map_some, Option.map_none, Option.bind_some, Option.bind_none,
    startE, List.map_cons, List.map_nil, List.replicate, List.cons_append, List.nil_append, setOs, setTg, setTs, thaw, Bool.not_true, Bool.not_false, if_true, if_false, Bool.false_eq_true, Option.isSome_some, Option.isSome_none, biOp, binop, cmpop, subOp_tup, subOp_lst, subOp_str, subOp_dct, subOp_ref, asList, asDict, tagOf, isTag, List.any_cons, List.any_nil, Bool.or_false, Bool.false_or, Bool.or_true, Bool.true_or, Bool.and_true, Bool.true_and, Bool.and_false, Bool.false_and, decide_true, decide_false, Int.reduceLT, Int.reduceLE, Nat.reduceLT, Nat.reduceLeDiff, Nat.reduceAdd, Int.reduceAdd, Int.reduceSub, Int.reduceToNat, Int.reduceEq, Nat.reduceEqDiff, Nat.reduceBEq, Int.reduceBEq, Int.reduceNeg, Nat.reduceSub, Int.cast_ofNat_Int, Int.natCast_one, Int.natCast_zero, reduceCtorEq, eqOk_int, pyEq_int, ltOk_int, pyLt_int, pyEq_str, eqOk_str, eqOk_bl, pyEq_bl, ix0, ix1, ix2, List.length_cons, List.length_nil, beq_self_eq_true, ↓reduceIte] <;> rfl
  | .nam s, k + 1, st, h => by
    rw [run_of H.oo rfl]
    simp only [d_order_of, Sh.v, Sh.od, EV0, EV1, EV2, EV3, EV4, EV5, EV6, k_lcT2_ok, k_lcT1_ok, k_lcE2_ok, k_lcE1_ok, k_for_nx, k_for_rt, k_wl_nx, k_wl_rt, fldAF, pick1_ok, peekS_f, peekS_l, peekS_d, retS_f, retS_l, retS_d, nxO_some, nxS_some, boxS_some, tryS_nx, tryS_rt, tryS_exc, asBl, asInt, asStr, Res.bind_ok, Res.bind_exc, Res.bind_bad, Res.inS_ok, Res.inS_exc, Res.inS_bad, Res.of_some, Res.of_none, Res.noX_ok, fin_nx, fin_rt, fin_exc, flat_non, flat_bl, flat_int, flat_str, List.getElem?_cons_zero, List.getElem?_cons_succ, List.getElem?_nil, List.set_cons_zero, List.set_cons_succ, Option.map_some, Option.map_none, Option.bind_some, Option.bind_none,
    startE, List.map_cons, List.map_nil, List.replicate, List.cons_append, List.nil_append, setOs, setTg, setTs, thaw, Bool.not_true, Bool.not_false, if_true, if_false, Bool.false_eq_true, Option.isSome_some, Option.isSome_none, biOp, binop, cmpop, subOp_tup, subOp_lst, subOp_str, subOp_dct, subOp_ref, asList, asDict, tagOf, isTag, List.any_cons, List.any_nil, Bool.or_false, Bool.false_or, Bool.or_true, Bool.true_or, Bool.and_true, Bool.true_and, Bool.and_false, Bool.false_and, decide_true, decide_false, Int.reduceLT, Int.reduceLE, Nat.reduceLT, Nat.reduceLeDiff, Nat.reduceAdd, Int.reduceAdd, Int.reduceSub, Int.reduceToNat, Int.reduceEq, Nat.reduceEqDiff, Nat.reduceBEq, Int.reduceBEq, Int.reduceNeg, Nat.reduceSub, Int.cast_ofNat_Int, Int.natCast_one, Int.natCast_zero, reduceCtorEq, eqOk_int, pyEq_int, ltOk_int, pyLt_int, pyEq_str, eqOk_str, eqOk_bl, pyEq_bl, ix0, ix1, ix2, List.length_cons, List.length_nil, beq_self_eq_true, ↓reduceIte] <;> rfl
  | .pair a b, k + 1, st, h => by
    simp only [Sh.dp] at h
    rw [run_of H.oo rfl]
    have ha := order_of_spec H a k st (by omega)
    have hb := order_of_spec H b k st (by omega)
    simp only [d_order_of, Sh.v, Sh.od, EV0, EV1, EV2, EV3, EV4, EV5, EV6, k_lcT2_ok, k_lcT1_ok, k_lcE2_ok, k_lcE1_ok, k_for_nx, k_for_rt, k_wl_nx, k_wl_rt, fldAF, pick1_ok, peekS_f, peekS_l, peekS_d, retS_f, retS_l, retS_d, nxO_some, nxS_some, boxS_some, tryS_nx, tryS_rt, tryS_exc, asBl, asInt, asStr, Res.bind_ok, Res.bind_exc, Res.bind_bad, Res.inS_ok, Res.inS_exc, Res.inS_bad, Res.of_some, Res.of_none, Res.noX_ok, fin_nx, fin_rt, fin_exc, flat_non, flat_bl, flat_int, flat_str, List.getElem?_cons_zero, List.getElem?_cons_succ, List.getElem?_nil, List.set_cons_zero, List.set_cons_succ, Option.map_some, Option.map_none, Option.bind_some, Option.bind_none,
    startE, List.map_cons, List.map_nil, List.replicate, List.cons_append, List.nil_append, setOs, setTg, setTs, thaw, Bool.not_true, Bool.not_false, if_true, if_false, Bool.false_eq_true, Option.isSome_some, Option.isSome_none, biOp, binop, cmpop, subOp_tup, subOp_lst, subOp_str, subOp_dct, subOp_ref, asList, asDict, tagOf, isTag, List.any_cons, List.any_nil, Bool.or_false, Bool.false_or, Bool.or_true, Bool.true_or, Bool.and_true, Bool.true_and, Bool.and_false, Bool.false_and, decide_true, decide_false, Int.reduceLT, Int.reduceLE, Nat.reduceLT, Nat.reduceLeDiff, Nat.reduceAdd, Int.reduceAdd, Int.reduceSub, Int.reduceToNat, Int.reduceEq, Nat.reduceEqDiff, Nat.reduceBEq, Int.reduceBEq, Int.reduceNeg, Nat.reduceSub, Int.cast_ofNat_Int, Int.natCast_one, Int.natCast_zero, reduceCtorEq, eqOk_int, pyEq_int, ltOk_int, pyLt_int, pyEq_str, eqOk_str, eqOk_bl, pyEq_bl, ix0, ix1, ix2, List.length_cons, List.length_nil, beq_self_eq_true, ↓reduceIte, ha, hb] <;> rfl
  | .to a b, k + 1, st, h => by
    simp only [Sh.dp] at h
    rw [run_of H.oo rfl]
    have ha := order_of_spec H a k st (by omega)
    have hb := order_of_spec H b k st (by omega)
    simp only [d_order_of, Sh.v, Sh.od, EV0, EV1, EV2, EV3, EV4, EV5, EV6, k_lcT2_ok, k_lcT1_ok, k_lcE2_ok, k_lcE1_ok, k_for_nx, k_for_rt, k_wl_nx, k_wl_rt, fldAF, pick1_ok, peekS_f, peekS_l, peekS_d, retS_f, retS_l, retS_d, nxO_some, nxS_some, boxS_some, tryS_nx, tryS_rt, tryS_exc, asBl, asInt, asStr, Res.bind_ok, Res.bind_exc, Res.bind_bad, Res.inS_ok, Res.inS_exc, Res.inS_bad, Res.of_some, Res.of_none, Res.noX_ok, fin_nx, fin_rt, fin_exc, flat_non, flat_bl, flat_int, flat_str, List.getElem?_cons_zero, List.getElem?_cons_succ, List.getElem?_nil, List.set_cons_zero, List.set_cons_succ, Option.map_some, Option.map_none, Option.bind_some, Option.bind_none,
    startE, List.map_cons, List.map_nil, List.replicate, List.cons_append, List.nil_append, setOs, setTg, setTs, thaw, Bool.not_true, Bool.not_false, if_true, if_false, Bool.false_eq_true, Option.isSome_some, Option.isSome_none, biOp, binop, cmpop, subOp_tup, subOp_lst, subOp_str, subOp_dct, subOp_ref, asList, asDict, tagOf, isTag, List.any_cons, List.any_nil, Bool.or_false, Bool.false_or, Bool.or_true, Bool.true_or, Bool.and_true, Bool.true_and, Bool.and_false, Bool.false_and, decide_true, decide_false, Int.reduceLT, Int.reduceLE, Nat.reduceLT, Nat.reduceLeDiff, Nat.reduceAdd, Int.reduceAdd, Int.reduceSub, Int.reduceToNat, Int.reduceEq, Nat.reduceEqDiff, Nat.reduceBEq, Int.reduceBEq, Int.reduceNeg, Nat.reduceSub, Int.cast_ofNat_Int, Int.natCast_one, Int.natCast_zero, reduceCtorEq, eqOk_int, pyEq_int, ltOk_int, pyLt_int, pyEq_str, eqOk_str, eqOk_bl, pyEq_bl, ix0, ix1, ix2, List.length_cons, List.length_nil, beq_self_eq_true, ↓reduceIte, ha, hb] <;> rfl
theorem lorder_spec (H : HasLv C) : ∀ (s : Sh) (k : Nat) (st : Store), s.dp + 1 ≤ k → evCall C k f__law_order [s.v] st = .ok (false, .int s.od) st
  | .one, k + 1, st, h => by
    rw [run_of H.lo2 rfl]
    simp only [d__law_order, Sh.v, Sh.od, EV0, EV1, EV2, EV3, EV4, EV5, EV6, k_lcT2_ok, k_lcT1_ok, k_lcE2_ok, k_lcE1_ok, k_for_nx, k_for_rt, k_wl_nx, k_wl_rt, fldAF, pick1_ok, peekS_f, peekS_l, peekS_d, retS_f, retS_l, retS_d, nxO_some, nxS_some, boxS_some, tryS_nx, tryS_rt, tryS_exc, asBl, asInt, asStr, Res.bind_ok, Res.bind_exc, Res.bind_bad, Res.inS_ok, Res.inS_exc, Res.inS_bad, Res.of_some, Res.of_none, Res.noX_ok, fin_nx, fin_rt, fin_exc, flat_non, flat_bl, flat_int, flat_str, List.getElem?_cons_zero, List.getElem?_cons_succ, List.getElem?_nil, List.set_cons_zero, List.set_cons_succ, Option.map_some, Option.map_none, Option.bind_some, Option.bind_none,
    startE, List.map_cons, List.map_nil, List.replicate, List.cons_append, List.nil_append, setOs, setTg, setTs, thaw, Bool.not_true, Bool.not_false, if_true, if_false, Bool.false_eq_true, Option.isSome_some, Option.isSome_none, biOp, binop, cmpop, subOp_tup, subOp_lst, subOp_str, subOp_dct, subOp_ref, asList, asDict, tagOf, isTag, List.any_cons, List.any_nil, Bool.or_false, Bool.false_or, Bool.or_true, Bool.true_or, Bool.and_true, Bool.true_and, Bool.and_false, Bool.false_and, decide_true, decide_false, Int.reduceLT, Int.reduceLE, Nat.reduceLT, Nat.reduceLeDiff, Nat.reduceAdd, Int.reduceAdd, Int.reduceSub, Int.reduceToNat, Int.reduceEq, Nat.reduceEqDiff, Nat.reduceBEq, Int.reduceBEq, Int.reduceNeg, Nat.reduceSub, Int.cast_ofNat_Int, Int.natCast_one, Int.natCast_zero, reduceCtorEq, eqOk_int, pyEq_int, ltOk_int, pyLt_int, pyEq_str, eqOk_str, eqOk_bl, pyEq_bl, ix0, ix1, ix2, List.length_cons, List.length_nil, beq_self_eq_true, ↓reduceIte] <;> rfl
  | .nam s, k + 1, st, h => by
    rw [run_of H.lo2 rfl]
    simp only [d__law_order, Sh.v, Sh.od, EV0, EV1, EV2, EV3, EV4, EV5, EV6, k_lcT2_ok, k_lcT1_ok, k_lcE2_ok, k_lcE1_ok, k_for_nx, k_for_rt, k_wl_nx, k_wl_rt, fldAF, pick1_ok, peekS_f, peekS_l, peekS_d, retS_f, retS_l, retS_d, nxO_some, nxS_some, boxS_some, tryS_nx, tryS_rt, tryS_exc, asBl, asInt, asStr, Res.bind_ok, Res.bind_exc, Res.bind_bad, Res.inS_ok, Res.inS_exc, Res.inS_bad, Res.of_some, Res.of_none, Res.noX_ok, fin_nx, fin_rt, fin_exc, flat_non, flat_bl, flat_int, flat_str, List.getElem?_cons_zero, List.getElem?_cons_succ, List.getElem?_nil, List.set_cons_zero, List.set_cons_succ, Option.map_some, Option.map_none, Option.bind_some, Option.bind_none,
    startE, List.map_cons, List.map_nil, List.replicate, List.cons_append, List.nil_append, setOs, setTg, setTs, thaw, Bool.not_true, Bool.not_false, if_true, if_false, Bool.false_eq_true, Option.isSome_some, Option.isSome_none, biOp, binop, cmpop, subOp_tup, subOp_lst, subOp_str, subOp_dct, subOp_ref, asList, asDict, tagOf, isTag, List.any_cons, List.any_nil, Bool.or_false, Bool.false_or, Bool.or_true, Bool.true_or, Bool.and_true, Bool.true_and, Bool.and_false, Bool.false_and, decide_true, decide_false, Int.reduceLT, Int.reduceLE, Nat.reduceLT, Nat.reduceLeDiff, Nat.reduceAdd, Int.reduceAdd, Int.reduceSub, Int.reduceToNat, Int.reduceEq, Nat.reduceEqDiff, Nat.reduceBEq, Int.reduceBEq, Int.reduceNeg, Nat.reduceSub, Int.cast_ofNat_Int, Int.natCast_one, Int.natCast_zero, reduceCtorEq, eqOk_int, pyEq_int, ltOk_int, pyLt_int, pyEq_str, eqOk_str, eqOk_bl, pyEq_bl, ix0, ix1, ix2, List.length_cons, List.length_nil, beq_self_eq_true, ↓reduceIte] <;> rfl
  | .pair a b, k + 1, st, h => by
    simp only [Sh.dp] at h
    rw [run_of H.lo2 rfl]
    have ha := lorder_spec H a k st (by omega)
    have hb := lorder_spec H b k st (by omega)
    simp only [d__law_order, Sh.v, Sh.od, EV0, EV1, EV2, EV3, EV4, EV5, EV6, k_lcT2_ok, k_lcT1_ok, k_lcE2_ok, k_lcE1_ok, k_for_nx, k_for_rt, k_wl_nx, k_wl_rt, fldAF, pick1_ok, peekS_f, peekS_l, peekS_d, retS_f, retS_l, retS_d, nxO_some, nxS_some, boxS_some, tryS_nx, tryS_rt, tryS_exc, asBl, asInt, asStr, Res.bind_ok, Res.bind_exc, Res.bind_bad, Res.inS_ok, Res.inS_exc, Res.inS_bad, Res.of_some, Res.of_none, Res.noX_ok, fin_nx, fin_rt, fin_exc, flat_non, flat_bl, flat_int, flat_str, List.getElem?_cons_zero, List.getElem?_cons_succ, List.getElem?_nil, List.set_cons_zero, List.set_cons_succ, Option.map_some, Option.map_none, Option.bind_some, Option.bind_none,
    startE, List.map_cons, List.map_nil, List.replicate, List.cons_append, List.nil_append, setOs, setTg, setTs, thaw, Bool.not_true, Bool.not_false, if_true, if_false, Bool.false_eq_true, Option.isSome_some, Option.isSome_none, biOp, binop, cmpop, subOp_tup, subOp_lst, subOp_str, subOp_dct, subOp_ref, asList, asDict, tagOf, isTag, List.any_cons, List.any_nil, Bool.or_false, Bool.false_or, Bool.or_true, Bool.true_or, Bool.and_true, Bool.true_and, Bool.and_false, Bool.false_and, decide_true, decide_false, Int.reduceLT, Int.reduceLE, Nat.reduceLT, Nat.reduceLeDiff, Nat.reduceAdd, Int.reduceAdd, Int.reduceSub, Int.reduceToNat, Int.reduceEq, Nat.reduceEqDiff, Nat.reduceBEq, Int.reduceBEq, Int.reduceNeg, Nat.reduceSub, Int.cast_ofNat_Int, Int.natCast_one, Int.natCast_zero, reduceCtorEq, eqOk_int, pyEq_int, ltOk_int, pyLt_int, pyEq_str, eqOk_str, eqOk_bl, pyEq_bl, ix0, ix1, ix2, List.length_cons, List.length_nil, beq_self_eq_true, ↓reduceIte, ha, hb, maxI, Option.map_some] <;> rfl
  | .to a b, k + 1, st, h => by
    simp only [Sh.dp] at h
    rw [run_of H.lo2 rfl]
    have ha := lorder_spec H a k st (by omega)
    have hb := lorder_spec H b k st (by omega)
    simp only [d__law_order, Sh.v, Sh.od, EV0, EV1, EV2, EV3, EV4, EV5, EV6, k_lcT2_ok, k_lcT1_ok, k_lcE2_ok, k_lcE1_ok, k_for_nx, k_for_rt, k_wl_nx, k_wl_rt, fldAF, pick1_ok, peekS_f, peekS_l, peekS_d, retS_f, retS_l, retS_d, nxO_some, nxS_some, boxS_some, tryS_nx, tryS_rt, tryS_exc, asBl, asInt, asStr, Res.bind_ok, Res.bind_exc, Res.bind_bad, Res.inS_ok, Res.inS_exc, Res.inS_bad, Res.of_some, Res.of_none, Res.noX_ok, fin_nx, fin_rt, fin_exc, flat_non, flat_bl, flat_int, flat_str, List.getElem?_cons_zero, List.getElem?_cons_succ, List.getElem?_nil, List.set_cons_zero, List.set_cons_succ, Option.map_some, Option.map_none, Option.bind_some, Option.bind_none,
    startE, List.map_cons, List.map_nil, List.replicate, List.cons_append, List.nil_append, setOs, setTg, setTs, thaw, Bool.not_true, Bool.not_false, if_true, if_false, Bool.false_eq_true, Option.isSome_some, Option.isSome_none, biOp, binop, cmpop, subOp_tup, subOp_lst, subOp_str, subOp_dct, subOp_ref, asList, asDict, tagOf, isTag, List.any_cons, List.any_nil, Bool.or_false, Bool.false_or, Bool.or_true, Bool.true_or, Bool.and_true, Bool.true_and, Bool.and_false, Bool.false_and, decide_true, decide_false, Int.reduceLT, Int.reduceLE, Nat.reduceLT, Nat.reduceLeDiff, Nat.reduceAdd, Int.reduceAdd, Int.reduceSub, Int.reduceToNat, Int.reduceEq, Nat.reduceEqDiff, Nat.reduceBEq, Int.reduceBEq, Int.reduceNeg, Nat.reduceSub, Int.cast_ofNat_Int, Int.natCast_one, Int.natCast_zero, reduceCtorEq, eqOk_int, pyEq_int, ltOk_int, pyLt_int, pyEq_str, eqOk_str, eqOk_bl, pyEq_bl, ix0, ix1, ix2, List.length_cons, List.length_nil, beq_self_eq_true, ↓reduceIte, ha, hb, maxI, Option.map_some] <;> rfl
end
end Lk
set_option linter.all false
set_option autoImplicit false
set_option maxRecDepth 100000
set_option maxHeartbeats 8000000
/-! LkU2: names, leaves and order at shapes; what is no shape. -/
namespace Lk
section
variable {C : Cfg}
theorem names_of_spec (H : HasLv C) (s : Sh) {k : Nat} (st : Store) (hk : s.dp + 2 ≤ k) (hl : s.lv < 64) : evCall C k f_names_of [s.v] st = .ok (true, .lst (srtOf s.nms)) st := by
  obtain ⟨k, rfl⟩ : ∃ j, k = j + 1 := ⟨k - 1, by omega⟩
  rw [run_of H.no rfl]
  have h1 := lvsof_spec H s k st (by omega) (by omega)
  have h2 : ∀ s0 s1 : Slot, lcE C (evCall C k) (calls C k).2 (.nm 1) [(.cmp .ne (.var 1) (.glb 2))] (.sub (.var 1) (.cst (.int 1))) [s0, s1] (s.lvs.map Sh.v) st = .ok (s.nms.map .str) st := fun s0 s1 => by
    rw [lcE_pure (g := lfV) (fun v hv => ?_), Sh.lvs_nms]
    obtain ⟨x, hx, rfl⟩ := List.mem_map.mp hv
    rcases Sh.lvs_leaf hx with rfl | ⟨n, rfl⟩
    · have e1 : eqOk (.tup [.str sOne]) (.tup [.str sOne]) = true := by decide
      have e2 : pyEq (.tup [.str sOne]) (.tup [.str sOne]) = true := by decide
      simp only [lcT, Sh.v, lfV, EV0, EV1, EV2, EV3, EV4, EV5, EV6, k_lcT2_ok, k_lcT1_ok, k_lcE2_ok, k_lcE1_ok, k_for_nx, k_for_rt, k_wl_nx, k_wl_rt, fldAF, pick1_ok, peekS_f, peekS_l, peekS_d, retS_f, retS_l, retS_d, nxO_some, nxS_some, boxS_some, tryS_nx, tryS_rt, tryS_exc, asBl, asInt, asStr, Res.bind_ok, Res.bind_exc, Res.bind_bad, Res.inS_ok, Res.inS_exc, Res.inS_bad, Res.of_some, Res.of_none, Res.noX_ok, fin_nx, fin_rt, fin_exc, flat_non, flat_bl, flat_int, flat_str, List.getElem?_cons_zero, List.getElem?_cons_succ, List.getElem?_nil, List.set_cons_zero, List.set_cons_succ, Option.map_some, Option.map_none, Option.bind_some, Option.bind_none,
    startE, List.map_cons, List.map_nil, List.replicate, List.cons_append, List.nil_append, setOs, setTg, setTs, thaw, Bool.not_true, Bool.not_false, if_true, if_false, Bool.false_eq_true, Option.isSome_some, Option.isSome_none, biOp, binop, cmpop, subOp_tup, subOp_lst, subOp_str, subOp_dct, subOp_ref, asList, asDict, tagOf, isTag, List.any_cons, List.any_nil, Bool.or_false, Bool.false_or, Bool.or_true, Bool.true_or, Bool.and_true, Bool.true_and, Bool.and_false, Bool.false_and, decide_true, decide_false, Int.reduceLT, Int.reduceLE, Nat.reduceLT, Nat.reduceLeDiff, Nat.reduceAdd, Int.reduceAdd, Int.reduceSub, Int.reduceToNat, Int.reduceEq, Nat.reduceEqDiff, Nat.reduceBEq, Int.reduceBEq, Int.reduceNeg, Nat.reduceSub, Int.cast_ofNat_Int, Int.natCast_one, Int.natCast_zero, reduceCtorEq, eqOk_int, pyEq_int, ltOk_int, pyLt_int, pyEq_str, eqOk_str, eqOk_bl, pyEq_bl, ix0, ix1, ix2, List.length_cons, List.length_nil, beq_self_eq_true, ↓reduceIte, H.S.g2, e1, e2]
    · have e1 : eqOk (.tup [.str sName, .str n]) (.tup [.str sOne]) = true := rfl
      have e2 : pyEq (.tup [.str sName, .str n]) (.tup [.str sOne]) = false := by rw [pyEq_tup, pyEqs_cons, pyEq_str] <;> rfl
      simp only [lcT, Sh.v, lfV, EV0, EV1, EV2, EV3, EV4, EV5, EV6, k_lcT2_ok, k_lcT1_ok, k_lcE2_ok, k_lcE1_ok, k_for_nx, k_for_rt, k_wl_nx, k_wl_rt, fldAF, pick1_ok, peekS_f, peekS_l, peekS_d, retS_f, retS_l, retS_d, nxO_some, nxS_some, boxS_some, tryS_nx, tryS_rt, tryS_exc, asBl, asInt, asStr, Res.bind_ok, Res.bind_exc, Res.bind_bad, Res.inS_ok, Res.inS_exc, Res.inS_bad, Res.of_some, Res.of_none, Res.noX_ok, fin_nx, fin_rt, fin_exc, flat_non, flat_bl, flat_int, flat_str, List.getElem?_cons_zero, List.getElem?_cons_succ, List.getElem?_nil, List.set_cons_zero, List.set_cons_succ, Option.map_some, Option.map_none, Option.bind_some, Option.bind_none,
    startE, List.map_cons, List.map_nil, List.replicate, List.cons_append, List.nil_append, setOs, setTg, setTs, thaw, Bool.not_true, Bool.not_false, if_true, if_false, Bool.false_eq_true, Option.isSome_some, Option.isSome_none, biOp, binop, cmpop, subOp_tup, subOp_lst, subOp_str, subOp_dct, subOp_ref, asList, asDict, tagOf, isTag, List.any_cons, List.any_nil, Bool.or_false, Bool.false_or, Bool.or_true, Bool.true_or, Bool.and_true, Bool.true_and, Bool.and_false, Bool.false_and, decide_true, decide_false, Int.reduceLT, Int.reduceLE, Nat.reduceLT, Nat.reduceLeDiff, Nat.reduceAdd, Int.reduceAdd, Int.reduceSub, Int.reduceToNat, Int.reduceEq, Nat.reduceEqDiff, Nat.reduceBEq, Int.reduceBEq, Int.reduceNeg, Nat.reduceSub, Int.cast_ofNat_Int, Int.natCast_one, Int.natCast_zero, reduceCtorEq, eqOk_int, pyEq_int, ltOk_int, pyLt_int, pyEq_str, eqOk_str, eqOk_bl, pyEq_bl, ix0, ix1, ix2, List.length_cons, List.length_nil, beq_self_eq_true, ↓reduceIte, H.S.g2, e1, e2]
  have h3 := srtset_eq s.nms (by have := s.nms_len; omega) st
  simp only [biOp, asList, Option.bind_some] at h3
  simp only [d_names_of, EV0, EV1, EV2, EV3, EV4, EV5, EV6, k_lcT2_ok, k_lcT1_ok, k_lcE2_ok, k_lcE1_ok, k_for_nx, k_for_rt, k_wl_nx, k_wl_rt, fldAF, pick1_ok, peekS_f, peekS_l, peekS_d, retS_f, retS_l, retS_d, nxO_some, nxS_some, boxS_some, tryS_nx, tryS_rt, tryS_exc, asBl, asInt, asStr, Res.bind_ok, Res.bind_exc, Res.bind_bad, Res.inS_ok, Res.inS_exc, Res.inS_bad, Res.of_some, Res.of_none, Res.noX_ok, fin_nx, fin_rt, fin_exc, flat_non, flat_bl, flat_int, flat_str, List.getElem?_cons_zero, List.getElem?_cons_succ, List.getElem?_nil, List.set_cons_zero, List.set_cons_succ, Option.map_some, Option.map_none, Option.bind_some, Option.bind_none,
    startE, List.map_cons, List.map_nil, List.replicate, List.cons_append, List.nil_append, setOs, setTg, setTs, thaw, Bool.not_true, Bool.not_false, if_true, if_false, Bool.false_eq_true, Option.isSome_some, Option.isSome_none, biOp, binop, cmpop, subOp_tup, subOp_lst, subOp_str, subOp_dct, subOp_ref, asList, asDict, tagOf, isTag, List.any_cons, List.any_nil, Bool.or_false, Bool.false_or, Bool.or_true, Bool.true_or, Bool.and_true, Bool.true_and, Bool.and_false, Bool.false_and, decide_true, decide_false, Int.reduceLT, Int.reduceLE, Nat.reduceLT, Nat.reduceLeDiff, Nat.reduceAdd, Int.reduceAdd, Int.reduceSub, Int.reduceToNat, Int.reduceEq, Nat.reduceEqDiff, Nat.reduceBEq, Int.reduceBEq, Int.reduceNeg, Nat.reduceSub, Int.cast_ofNat_Int, Int.natCast_one, Int.natCast_zero, reduceCtorEq, eqOk_int, pyEq_int, ltOk_int, pyLt_int, pyEq_str, eqOk_str, eqOk_bl, pyEq_bl, ix0, ix1, ix2, List.length_cons, List.length_nil, beq_self_eq_true, ↓reduceIte, h1, itOp, walkOf, h2, h3]
theorem leaves_spec (H : HasLv C) (s : Sh) {k : Nat} (st : Store) (hk : s.dp + 5 ≤ k) (ok : s.ok = true) (hl : s.lv ≤ 200) : evCall C k f_leaves [s.v] st = .ok (false, .int s.lv) st := by
  obtain ⟨k, rfl⟩ : ∃ j, k = j + 1 := ⟨k - 1, by omega⟩
  rw [run_of H.lv rfl]
  have h1 := check_spec H.S s (k := k) st (by omega) ok hl
  have h2 := count_spec H.S s k st (by omega)
  simp only [d_leaves, EV0, EV1, EV2, EV3, EV4, EV5, EV6, k_lcT2_ok, k_lcT1_ok, k_lcE2_ok, k_lcE1_ok, k_for_nx, k_for_rt, k_wl_nx, k_wl_rt, fldAF, pick1_ok, peekS_f, peekS_l, peekS_d, retS_f, retS_l, retS_d, nxO_some, nxS_some, boxS_some, tryS_nx, tryS_rt, tryS_exc, asBl, asInt, asStr, Res.bind_ok, Res.bind_exc, Res.bind_bad, Res.inS_ok, Res.inS_exc, Res.inS_bad, Res.of_some, Res.of_none, Res.noX_ok, fin_nx, fin_rt, fin_exc, flat_non, flat_bl, flat_int, flat_str, List.getElem?_cons_zero, List.getElem?_cons_succ, List.getElem?_nil, List.set_cons_zero, List.set_cons_succ, Option.map_some, Option.map_none, Option.bind_some, Option.bind_none,
    startE, List.map_cons, List.map_nil, List.replicate, List.cons_append, List.nil_append, setOs, setTg, setTs, thaw, Bool.not_true, Bool.not_false, if_true, if_false, Bool.false_eq_true, Option.isSome_some, Option.isSome_none, biOp, binop, cmpop, subOp_tup, subOp_lst, subOp_str, subOp_dct, subOp_ref, asList, asDict, tagOf, isTag, List.any_cons, List.any_nil, Bool.or_false, Bool.false_or, Bool.or_true, Bool.true_or, Bool.and_true, Bool.true_and, Bool.and_false, Bool.false_and, decide_true, decide_false, Int.reduceLT, Int.reduceLE, Nat.reduceLT, Nat.reduceLeDiff, Nat.reduceAdd, Int.reduceAdd, Int.reduceSub, Int.reduceToNat, Int.reduceEq, Nat.reduceEqDiff, Nat.reduceBEq, Int.reduceBEq, Int.reduceNeg, Nat.reduceSub, Int.cast_ofNat_Int, Int.natCast_one, Int.natCast_zero, reduceCtorEq, eqOk_int, pyEq_int, ltOk_int, pyLt_int, pyEq_str, eqOk_str, eqOk_bl, pyEq_bl, ix0, ix1, ix2, List.length_cons, List.length_nil, beq_self_eq_true, ↓reduceIte, h1, h2]
theorem names_spec (H : HasLv C) (s : Sh) {k : Nat} (st : Store) (hk : s.dp + 5 ≤ k) (ok : s.ok = true) (hl : s.lv < 64) : evCall C k f_names [s.v] st = .ok (true, .lst (srtOf s.nms)) st := by
  obtain ⟨k, rfl⟩ : ∃ j, k = j + 1 := ⟨k - 1, by omega⟩
  rw [run_of H.nm rfl]
  have h1 := check_spec H.S s (k := k) st (by omega) ok (by omega)
  have h2 := names_of_spec H s (k := k) st (by omega) hl
  simp only [d_names, EV0, EV1, EV2, EV3, EV4, EV5, EV6, k_lcT2_ok, k_lcT1_ok, k_lcE2_ok, k_lcE1_ok, k_for_nx, k_for_rt, k_wl_nx, k_wl_rt, fldAF, pick1_ok, peekS_f, peekS_l, peekS_d, retS_f, retS_l, retS_d, nxO_some, nxS_some, boxS_some, tryS_nx, tryS_rt, tryS_exc, asBl, asInt, asStr, Res.bind_ok, Res.bind_exc, Res.bind_bad, Res.inS_ok, Res.inS_exc, Res.inS_bad, Res.of_some, Res.of_none, Res.noX_ok, fin_nx, fin_rt, fin_exc, flat_non, flat_bl, flat_int, flat_str, List.getElem?_cons_zero, List.getElem?_cons_succ, List.getElem?_nil, List.set_cons_zero, List.set_cons_succ, Option.map_some, Option.map_none, Option.bind_some, Option.bind_none,
    startE, List.map_cons, List.map_nil, List.replicate, List.cons_append, List.nil_append, setOs, setTg, setTs, thaw, Bool.not_true, Bool.not_false, if_true, if_false, Bool.false_eq_true, Option.isSome_some, Option.isSome_none, biOp, binop, cmpop, subOp_tup, subOp_lst, subOp_str, subOp_dct, subOp_ref, asList, asDict, tagOf, isTag, List.any_cons, List.any_nil, Bool.or_false, Bool.false_or, Bool.or_true, Bool.true_or, Bool.and_true, Bool.true_and, Bool.and_false, Bool.false_and, decide_true, decide_false, Int.reduceLT, Int.reduceLE, Nat.reduceLT, Nat.reduceLeDiff, Nat.reduceAdd, Int.reduceAdd, Int.reduceSub, Int.reduceToNat, Int.reduceEq, Nat.reduceEqDiff, Nat.reduceBEq, Int.reduceBEq, Int.reduceNeg, Nat.reduceSub, Int.cast_ofNat_Int, Int.natCast_one, Int.natCast_zero, reduceCtorEq, eqOk_int, pyEq_int, ltOk_int, pyLt_int, pyEq_str, eqOk_str, eqOk_bl, pyEq_bl, ix0, ix1, ix2, List.length_cons, List.length_nil, beq_self_eq_true, ↓reduceIte, h1, h2]
theorem order_spec (H : HasLv C) (s : Sh) {k : Nat} (st : Store) (hk : s.dp + 5 ≤ k) (ok : s.ok = true) (hl : s.lv ≤ 200) : evCall C k f_order [s.v] st = .ok (false, .int s.od) st := by
  obtain ⟨k, rfl⟩ : ∃ j, k = j + 1 := ⟨k - 1, by omega⟩
  rw [run_of H.od rfl]
  have h1 := check_spec H.S s (k := k) st (by omega) ok hl
  have h2 := order_of_spec H s k st (by omega)
  simp only [d_order, EV0, EV1, EV2, EV3, EV4, EV5, EV6, k_lcT2_ok, k_lcT1_ok, k_lcE2_ok, k_lcE1_ok, k_for_nx, k_for_rt, k_wl_nx, k_wl_rt, fldAF, pick1_ok, peekS_f, peekS_l, peekS_d, retS_f, retS_l, retS_d, nxO_some, nxS_some, boxS_some, tryS_nx, tryS_rt, tryS_exc, asBl, asInt, asStr, Res.bind_ok, Res.bind_exc, Res.bind_bad, Res.inS_ok, Res.inS_exc, Res.inS_bad, Res.of_some, Res.of_none, Res.noX_ok, fin_nx, fin_rt, fin_exc, flat_non, flat_bl, flat_int, flat_str, List.getElem?_cons_zero, List.getElem?_cons_succ, List.getElem?_nil, List.set_cons_zero, List.set_cons_succ, Option.map_some, Option.map_none, Option.bind_some, Option.bind_none,
    startE, List.map_cons, List.map_nil, List.replicate, List.cons_append, List.nil_append, setOs, setTg, setTs, thaw, Bool.not_true, Bool.not_false, if_true, if_false, Bool.false_eq_true, Option.isSome_some, Option.isSome_none, biOp, binop, cmpop, subOp_tup, subOp_lst, subOp_str, subOp_dct, subOp_ref, asList, asDict, tagOf, isTag, List.any_cons, List.any_nil, Bool.or_false, Bool.false_or, Bool.or_true, Bool.true_or, Bool.and_true, Bool.true_and, Bool.and_false, Bool.false_and, decide_true, decide_false, Int.reduceLT, Int.reduceLE, Nat.reduceLT, Nat.reduceLeDiff, Nat.reduceAdd, Int.reduceAdd, Int.reduceSub, Int.reduceToNat, Int.reduceEq, Nat.reduceEqDiff, Nat.reduceBEq, Int.reduceBEq, Int.reduceNeg, Nat.reduceSub, Int.cast_ofNat_Int, Int.natCast_one, Int.natCast_zero, reduceCtorEq, eqOk_int, pyEq_int, ltOk_int, pyLt_int, pyEq_str, eqOk_str, eqOk_bl, pyEq_bl, ix0, ix1, ix2, List.length_cons, List.length_nil, beq_self_eq_true, ↓reduceIte, h1, h2]
theorem shape_many (H : HasSh C) (s : Sh) {k : Nat} (st : Store) (hk : s.dp + 3 ≤ k) (ok : s.ok = true) (hl : 200 < s.lv) : evCall C k f_is_shape [s.v] st = .ok (false, .bl false) st := by
  obtain ⟨k, rfl⟩ : ∃ j, k = j + 1 := ⟨k - 1, by omega⟩
  rw [run_of H.sh rfl]
  have h1 := form_spec H s k st (by omega)
  have h2 := count_spec H s k st (by omega)
  have h3 : ¬ (s.lv : Int) ≤ 200 := by omega
  simp only [d_is_shape, EV0, EV1, EV2, EV3, EV4, EV5, EV6, k_lcT2_ok, k_lcT1_ok, k_lcE2_ok, k_lcE1_ok, k_for_nx, k_for_rt, k_wl_nx, k_wl_rt, fldAF, pick1_ok, peekS_f, peekS_l, peekS_d, retS_f, retS_l, retS_d, nxO_some, nxS_some, boxS_some, tryS_nx, tryS_rt, tryS_exc, asBl, asInt, asStr, Res.bind_ok, Res.bind_exc, Res.bind_bad, Res.inS_ok, Res.inS_exc, Res.inS_bad, Res.of_some, Res.of_none, Res.noX_ok, fin_nx, fin_rt, fin_exc, flat_non, flat_bl, flat_int, flat_str, List.getElem?_cons_zero, List.getElem?_cons_succ, List.getElem?_nil, List.set_cons_zero, List.set_cons_succ, Option.map_some, Option.map_none, Option.bind_some, Option.bind_none,
    startE, List.map_cons, List.map_nil, List.replicate, List.cons_append, List.nil_append, setOs, setTg, setTs, thaw, Bool.not_true, Bool.not_false, if_true, if_false, Bool.false_eq_true, Option.isSome_some, Option.isSome_none, biOp, binop, cmpop, subOp_tup, subOp_lst, subOp_str, subOp_dct, subOp_ref, asList, asDict, tagOf, isTag, List.any_cons, List.any_nil, Bool.or_false, Bool.false_or, Bool.or_true, Bool.true_or, Bool.and_true, Bool.true_and, Bool.and_false, Bool.false_and, decide_true, decide_false, Int.reduceLT, Int.reduceLE, Nat.reduceLT, Nat.reduceLeDiff, Nat.reduceAdd, Int.reduceAdd, Int.reduceSub, Int.reduceToNat, Int.reduceEq, Nat.reduceEqDiff, Nat.reduceBEq, Int.reduceBEq, Int.reduceNeg, Nat.reduceSub, Int.cast_ofNat_Int, Int.natCast_one, Int.natCast_zero, reduceCtorEq, eqOk_int, pyEq_int, ltOk_int, pyLt_int, pyEq_str, eqOk_str, eqOk_bl, pyEq_bl, ix0, ix1, ix2, List.length_cons, List.length_nil, beq_self_eq_true, ↓reduceIte, h1, h2, H.g1, ok, h3]
/-- no form, at any depth from n on -/
def NoF (C : Cfg) (n : Nat) (v : Val) : Prop := ∀ k st, n ≤ k → evCall C k f_is_form [v] st = .ok (false, .bl false) st
theorem NoF.mono {n m : Nat} {v : Val} (h : NoF C n v) (l : n ≤ m) : NoF C m v := fun k st hk => h k st (Nat.le_trans l hk)
theorem nof_2nd (H : HasSh C) {t : Sn} (ht : t = sPair ∨ t = sTo) {s : Sh} {v : Val} {n : Nat} (ok : s.ok = true) (hn : s.dp + 2 ≤ n) (h : NoF C n v) : NoF C (n + 1) (.tup [.str t, s.v, v]) := fun k st hk => by
  obtain ⟨k, rfl⟩ : ∃ j, k = j + 1 := ⟨k - 1, by omega⟩
  rw [run_of H.fm rfl]
  have ha := form_spec H s k st (by omega)
  have hb := h k st (by omega)
  rcases ht with rfl | rfl <;> simp only [d_is_form, EV0, EV1, EV2, EV3, EV4, EV5, EV6, k_lcT2_ok, k_lcT1_ok, k_lcE2_ok, k_lcE1_ok, k_for_nx, k_for_rt, k_wl_nx, k_wl_rt, fldAF, pick1_ok, peekS_f, peekS_l, peekS_d, retS_f, retS_l, retS_d, nxO_some, nxS_some, boxS_some, tryS_nx, tryS_rt, tryS_exc, asBl, asInt, asStr, Res.bind_ok, Res.bind_exc, Res.bind_bad, Res.inS_ok, Res.inS_exc, Res.inS_bad, Res.of_some, Res.of_none, Res.noX_ok, fin_nx, fin_rt, fin_exc, flat_non, flat_bl, flat_int, flat_str, List.getElem?_cons_zero, List.getElem?_cons_succ, List.getElem?_nil, List.set_cons_zero, List.set_cons_succ, Option.map_some, Option.map_none, Option.bind_some, Option.bind_none,
    startE, List.map_cons, List.map_nil, List.replicate, List.cons_append, List.nil_append, setOs, setTg, setTs, thaw, Bool.not_true, Bool.not_false, if_true, if_false, Bool.false_eq_true, Option.isSome_some, Option.isSome_none, biOp, binop, cmpop, subOp_tup, subOp_lst, subOp_str, subOp_dct, subOp_ref, asList, asDict, tagOf, isTag, List.any_cons, List.any_nil, Bool.or_false, Bool.false_or, Bool.or_true, Bool.true_or, Bool.and_true, Bool.true_and, Bool.and_false, Bool.false_and, decide_true, decide_false, Int.reduceLT, Int.reduceLE, Nat.reduceLT, Nat.reduceLeDiff, Nat.reduceAdd, Int.reduceAdd, Int.reduceSub, Int.reduceToNat, Int.reduceEq, Nat.reduceEqDiff, Nat.reduceBEq, Int.reduceBEq, Int.reduceNeg, Nat.reduceSub, Int.cast_ofNat_Int, Int.natCast_one, Int.natCast_zero, reduceCtorEq, eqOk_int, pyEq_int, ltOk_int, pyLt_int, pyEq_str, eqOk_str, eqOk_bl, pyEq_bl, ix0, ix1, ix2, List.length_cons, List.length_nil, beq_self_eq_true, ↓reduceIte, isIn, List.all_cons, List.all_nil, ha, hb, ok] <;> rfl
theorem nof_1st (H : HasSh C) {t : Sn} (ht : t = sPair ∨ t = sTo) {v w : Val} {n : Nat} (h : NoF C n v) : NoF C (n + 1) (.tup [.str t, v, w]) := fun k st hk => by
  obtain ⟨k, rfl⟩ : ∃ j, k = j + 1 := ⟨k - 1, by omega⟩
  rw [run_of H.fm rfl]
  have ha := h k st (by omega)
  rcases ht with rfl | rfl <;> simp only [d_is_form, EV0, EV1, EV2, EV3, EV4, EV5, EV6, k_lcT2_ok, k_lcT1_ok, k_lcE2_ok, k_lcE1_ok, k_for_nx, k_for_rt, k_wl_nx, k_wl_rt, fldAF, pick1_ok, peekS_f, peekS_l, peekS_d, retS_f, retS_l, retS_d, nxO_some, nxS_some, boxS_some, tryS_nx, tryS_rt, tryS_exc, asBl, asInt, asStr, Res.bind_ok, Res.bind_exc, Res.bind_bad, Res.inS_ok, Res.inS_exc, Res.inS_bad, Res.of_some, Res.of_none, Res.noX_ok, fin_nx, fin_rt, fin_exc, flat_non, flat_bl, flat_int, flat_str, List.getElem?_cons_zero, List.getElem?_cons_succ, List.getElem?_nil, List.set_cons_zero, List.set_cons_succ, Option.map_some, Option.map_none, Option.bind_some, Option.bind_none,
    startE, List.map_cons, List.map_nil, List.replicate, List.cons_append, List.nil_append, setOs, setTg, setTs, thaw, Bool.not_true, Bool.not_false, if_true, if_false, Bool.false_eq_true, Option.isSome_some, Option.isSome_none, biOp, binop, cmpop, subOp_tup, subOp_lst, subOp_str, subOp_dct, subOp_ref, asList, asDict, tagOf, isTag, List.any_cons, List.any_nil, Bool.or_false, Bool.false_or, Bool.or_true, Bool.true_or, Bool.and_true, Bool.true_and, Bool.and_false, Bool.false_and, decide_true, decide_false, Int.reduceLT, Int.reduceLE, Nat.reduceLT, Nat.reduceLeDiff, Nat.reduceAdd, Int.reduceAdd, Int.reduceSub, Int.reduceToNat, Int.reduceEq, Nat.reduceEqDiff, Nat.reduceBEq, Int.reduceBEq, Int.reduceNeg, Nat.reduceSub, Int.cast_ofNat_Int, Int.natCast_one, Int.natCast_zero, reduceCtorEq, eqOk_int, pyEq_int, ltOk_int, pyLt_int, pyEq_str, eqOk_str, eqOk_bl, pyEq_bl, ix0, ix1, ix2, List.length_cons, List.length_nil, beq_self_eq_true, ↓reduceIte, isIn, List.all_cons, List.all_nil, ha] <;> rfl
def noTup : Val → Bool
  | .tup _ => false
  | .ref _ => false
  | _ => true
theorem nof_val (H : HasSh C) {v : Val} (h : noTup v = true) : NoF C 1 v := fun k st hk => by
  obtain ⟨k, rfl⟩ : ∃ j, k = j + 1 := ⟨k - 1, by omega⟩
  rw [run_of H.fm rfl]
  cases v <;> first | (cases h; done) | (simp only [d_is_form, EV0, EV1, EV2, EV3, EV4, EV5, EV6, k_lcT2_ok, k_lcT1_ok, k_lcE2_ok, k_lcE1_ok, k_for_nx, k_for_rt, k_wl_nx, k_wl_rt, fldAF, pick1_ok, peekS_f, peekS_l, peekS_d, retS_f, retS_l, retS_d, nxO_some, nxS_some, boxS_some, tryS_nx, tryS_rt, tryS_exc, asBl, asInt, asStr, Res.bind_ok, Res.bind_exc, Res.bind_bad, Res.inS_ok, Res.inS_exc, Res.inS_bad, Res.of_some, Res.of_none, Res.noX_ok, fin_nx, fin_rt, fin_exc, flat_non, flat_bl, flat_int, flat_str, List.getElem?_cons_zero, List.getElem?_cons_succ, List.getElem?_nil, List.set_cons_zero, List.set_cons_succ, Option.map_some, Option.map_none, Option.bind_some, Option.bind_none,
    startE, List.map_cons, List.map_nil, List.replicate, List.cons_append, List.nil_append, setOs, setTg, setTs, thaw, Bool.not_true, Bool.not_false, if_true, if_false, Bool.false_eq_true, Option.isSome_some, Option.isSome_none, biOp, binop, cmpop, subOp_tup, subOp_lst, subOp_str, subOp_dct, subOp_ref, asList, asDict, tagOf, isTag, List.any_cons, List.any_nil, Bool.or_false, Bool.false_or, Bool.or_true, Bool.true_or, Bool.and_true, Bool.true_and, Bool.and_false, Bool.false_and, decide_true, decide_false, Int.reduceLT, Int.reduceLE, Nat.reduceLT, Nat.reduceLeDiff, Nat.reduceAdd, Int.reduceAdd, Int.reduceSub, Int.reduceToNat, Int.reduceEq, Nat.reduceEqDiff, Nat.reduceBEq, Int.reduceBEq, Int.reduceNeg, Nat.reduceSub, Int.cast_ofNat_Int, Int.natCast_one, Int.natCast_zero, reduceCtorEq, eqOk_int, pyEq_int, ltOk_int, pyLt_int, pyEq_str, eqOk_str, eqOk_bl, pyEq_bl, ix0, ix1, ix2, List.length_cons, List.length_nil, beq_self_eq_true, ↓reduceIte] <;> rfl)
theorem nof_name (H : HasSh C) {v : Val} {t : Tag} (ht : ∀ st, tagOf st v = some t) (hn : t ≠ .str) : NoF C 2 (.tup [.str sName, v]) := fun k st hk => by
  obtain ⟨k, rfl⟩ : ∃ j, k = j + 2 := ⟨k - 2, by omega⟩
  rw [run_of H.fm rfl]
  have e := name_no H (k := k) (ht st) hn
  simp only [d_is_form, EV0, EV1, EV2, EV3, EV4, EV5, EV6, k_lcT2_ok, k_lcT1_ok, k_lcE2_ok, k_lcE1_ok, k_for_nx, k_for_rt, k_wl_nx, k_wl_rt, fldAF, pick1_ok, peekS_f, peekS_l, peekS_d, retS_f, retS_l, retS_d, nxO_some, nxS_some, boxS_some, tryS_nx, tryS_rt, tryS_exc, asBl, asInt, asStr, Res.bind_ok, Res.bind_exc, Res.bind_bad, Res.inS_ok, Res.inS_exc, Res.inS_bad, Res.of_some, Res.of_none, Res.noX_ok, fin_nx, fin_rt, fin_exc, flat_non, flat_bl, flat_int, flat_str, List.getElem?_cons_zero, List.getElem?_cons_succ, List.getElem?_nil, List.set_cons_zero, List.set_cons_succ, Option.map_some, Option.map_none, Option.bind_some, Option.bind_none,
    startE, List.map_cons, List.map_nil, List.replicate, List.cons_append, List.nil_append, setOs, setTg, setTs, thaw, Bool.not_true, Bool.not_false, if_true, if_false, Bool.false_eq_true, Option.isSome_some, Option.isSome_none, biOp, binop, cmpop, subOp_tup, subOp_lst, subOp_str, subOp_dct, subOp_ref, asList, asDict, tagOf, isTag, List.any_cons, List.any_nil, Bool.or_false, Bool.false_or, Bool.or_true, Bool.true_or, Bool.and_true, Bool.true_and, Bool.and_false, Bool.false_and, decide_true, decide_false, Int.reduceLT, Int.reduceLE, Nat.reduceLT, Nat.reduceLeDiff, Nat.reduceAdd, Int.reduceAdd, Int.reduceSub, Int.reduceToNat, Int.reduceEq, Nat.reduceEqDiff, Nat.reduceBEq, Int.reduceBEq, Int.reduceNeg, Nat.reduceSub, Int.cast_ofNat_Int, Int.natCast_one, Int.natCast_zero, reduceCtorEq, eqOk_int, pyEq_int, ltOk_int, pyLt_int, pyEq_str, eqOk_str, eqOk_bl, pyEq_bl, ix0, ix1, ix2, List.length_cons, List.length_nil, beq_self_eq_true, ↓reduceIte, e] <;> rfl
end
end Lk
set_option linter.all false
set_option autoImplicit false
set_option maxRecDepth 100000
set_option maxHeartbeats 8000000
/-! Q01: k01, plainly. -/
namespace Lk
def bad1 : List Val := [.non, .tup [], .str sOne, .lst [.str sOne], .tup [.str sName], .tup [.str sName, .str []], .tup [.str sName, .str [65]], .tup [.str sName, .str [97, 98, 99, 100, 101, 102, 103, 104, 105]], .tup [.str sName, .int 3]]
def bad2 (s : Sh) : List Val := [.tup [.str sOne, .int 1], .tup [.str sPair, s.v], .tup [.str sTo, s.v, s.v, s.v], .tup [.str [98, 111, 116, 104], s.v, s.v], .tup [s.v, s.v], .int 7]
def bad3 (s : Sh) : List Val := [.tup [.str sName, .tup [.str [97]]], .tup [.str [79, 110, 101]], .tup [.int 1], .tup [.str sPair, s.v, .non], .lst [.str sTo, s.v, s.v], .dct []]
section
variable {C : Cfg}
theorem bad1_no (H : HasSh C) : ∀ v ∈ bad1, NoF C 2 v := by
  intro v hv
  simp only [bad1, List.mem_cons, List.not_mem_nil, or_false] at hv
  rcases hv with rfl | rfl | rfl | rfl | rfl | rfl | rfl | rfl | rfl
  · exact (nof_val H rfl).mono (by omega)
  · intro k st hk
    obtain ⟨k, rfl⟩ : ∃ j, k = j + 2 := ⟨k - 2, by omega⟩
    rw [run_of H.fm rfl]
    simp only [d_is_form, EV0, EV1, EV2, EV3, EV4, EV5, EV6, k_lcT2_ok, k_lcT1_ok, k_lcE2_ok, k_lcE1_ok, k_for_nx, k_for_rt, k_wl_nx, k_wl_rt, fldAF, pick1_ok, peekS_f, peekS_l, peekS_d, retS_f, retS_l, retS_d, nxO_some, nxS_some, boxS_some, tryS_nx, tryS_rt, tryS_exc, asBl, asInt, asStr, Res.bind_ok, Res.bind_exc, Res.bind_bad, Res.inS_ok, Res.inS_exc, Res.inS_bad, Res.of_some, Res.of_none, Res.noX_ok, fin_nx, fin_rt, fin_exc, flat_non, flat_bl, flat_int, flat_str, List.getElem?_cons_zero, List.getElem?_cons_succ, List.getElem?_nil, List.set_cons_zero, List.set_cons_succ, Option.map_some, Option.map_none, Option.bind_some, Option.bind_none,
    startE, List.map_cons, List.map_nil, List.replicate, List.cons_append, List.nil_append, setOs, setTg, setTs, thaw, Bool.not_true, Bool.not_false, if_true, if_false, Bool.false_eq_true, Option.isSome_some, Option.isSome_none, biOp, binop, cmpop, subOp_tup, subOp_lst, subOp_str, subOp_dct, subOp_ref, asList, asDict, tagOf, isTag, List.any_cons, List.any_nil, Bool.or_false, Bool.false_or, Bool.or_true, Bool.true_or, Bool.and_true, Bool.true_and, Bool.and_false, Bool.false_and, decide_true, decide_false, Int.reduceLT, Int.reduceLE, Nat.reduceLT, Nat.reduceLeDiff, Nat.reduceAdd, Int.reduceAdd, Int.reduceSub, Int.reduceToNat, Int.reduceEq, Nat.reduceEqDiff, Nat.reduceBEq, Int.reduceBEq, Int.reduceNeg, Nat.reduceSub, Int.cast_ofNat_Int, Int.natCast_one, Int.natCast_zero, reduceCtorEq, eqOk_int, pyEq_int, ltOk_int, pyLt_int, pyEq_str, eqOk_str, eqOk_bl, pyEq_bl, ix0, ix1, ix2, List.length_cons, List.length_nil, beq_self_eq_true, ↓reduceIte] <;> rfl
  · exact (nof_val H rfl).mono (by omega)
  · exact (nof_val H rfl).mono (by omega)
  · intro k st hk
    obtain ⟨k, rfl⟩ : ∃ j, k = j + 2 := ⟨k - 2, by omega⟩
    rw [run_of H.fm rfl]
    simp only [d_is_form, EV0, EV1, EV2, EV3, EV4, EV5, EV6, k_lcT2_ok, k_lcT1_ok, k_lcE2_ok, k_lcE1_ok, k_for_nx, k_for_rt, k_wl_nx, k_wl_rt, fldAF, pick1_ok, peekS_f, peekS_l, peekS_d, retS_f, retS_l, retS_d, nxO_some, nxS_some, boxS_some, tryS_nx, tryS_rt, tryS_exc, asBl, asInt, asStr, Res.bind_ok, Res.bind_exc, Res.bind_bad, Res.inS_ok, Res.inS_exc, Res.inS_bad, Res.of_some, Res.of_none, Res.noX_ok, fin_nx, fin_rt, fin_exc, flat_non, flat_bl, flat_int, flat_str, List.getElem?_cons_zero, List.getElem?_cons_succ, List.getElem?_nil, List.set_cons_zero, List.set_cons_succ, Option.map_some, Option.map_none, Option.bind_some, Option.bind_none,
    startE, List.map_cons, List.map_nil, List.replicate, List.cons_append, List.nil_append, setOs, setTg, setTs, thaw, Bool.not_true, Bool.not_false, if_true, if_false, Bool.false_eq_true, Option.isSome_some, Option.isSome_none, biOp, binop, cmpop, subOp_tup, subOp_lst, subOp_str, subOp_dct, subOp_ref, asList, asDict, tagOf, isTag, List.any_cons, List.any_nil, Bool.or_false, Bool.false_or, Bool.or_true, Bool.true_or, Bool.and_true, Bool.true_and, Bool.and_false, Bool.false_and, decide_true, decide_false, Int.reduceLT, Int.reduceLE, Nat.reduceLT, Nat.reduceLeDiff, Nat.reduceAdd, Int.reduceAdd, Int.reduceSub, Int.reduceToNat, Int.reduceEq, Nat.reduceEqDiff, Nat.reduceBEq, Int.reduceBEq, Int.reduceNeg, Nat.reduceSub, Int.cast_ofNat_Int, Int.natCast_one, Int.natCast_zero, reduceCtorEq, eqOk_int, pyEq_int, ltOk_int, pyLt_int, pyEq_str, eqOk_str, eqOk_bl, pyEq_bl, ix0, ix1, ix2, List.length_cons, List.length_nil, beq_self_eq_true, ↓reduceIte, H.g2] <;> rfl
  · intro k st hk
    obtain ⟨k, rfl⟩ : ∃ j, k = j + 2 := ⟨k - 2, by omega⟩
    rw [run_of H.fm rfl]
    simp only [d_is_form, EV0, EV1, EV2, EV3, EV4, EV5, EV6, k_lcT2_ok, k_lcT1_ok, k_lcE2_ok, k_lcE1_ok, k_for_nx, k_for_rt, k_wl_nx, k_wl_rt, fldAF, pick1_ok, peekS_f, peekS_l, peekS_d, retS_f, retS_l, retS_d, nxO_some, nxS_some, boxS_some, tryS_nx, tryS_rt, tryS_exc, asBl, asInt, asStr, Res.bind_ok, Res.bind_exc, Res.bind_bad, Res.inS_ok, Res.inS_exc, Res.inS_bad, Res.of_some, Res.of_none, Res.noX_ok, fin_nx, fin_rt, fin_exc, flat_non, flat_bl, flat_int, flat_str, List.getElem?_cons_zero, List.getElem?_cons_succ, List.getElem?_nil, List.set_cons_zero, List.set_cons_succ, Option.map_some, Option.map_none, Option.bind_some, Option.bind_none,
    startE, List.map_cons, List.map_nil, List.replicate, List.cons_append, List.nil_append, setOs, setTg, setTs, thaw, Bool.not_true, Bool.not_false, if_true, if_false, Bool.false_eq_true, Option.isSome_some, Option.isSome_none, biOp, binop, cmpop, subOp_tup, subOp_lst, subOp_str, subOp_dct, subOp_ref, asList, asDict, tagOf, isTag, List.any_cons, List.any_nil, Bool.or_false, Bool.false_or, Bool.or_true, Bool.true_or, Bool.and_true, Bool.true_and, Bool.and_false, Bool.false_and, decide_true, decide_false, Int.reduceLT, Int.reduceLE, Nat.reduceLT, Nat.reduceLeDiff, Nat.reduceAdd, Int.reduceAdd, Int.reduceSub, Int.reduceToNat, Int.reduceEq, Nat.reduceEqDiff, Nat.reduceBEq, Int.reduceBEq, Int.reduceNeg, Nat.reduceSub, Int.cast_ofNat_Int, Int.natCast_one, Int.natCast_zero, reduceCtorEq, eqOk_int, pyEq_int, ltOk_int, pyLt_int, pyEq_str, eqOk_str, eqOk_bl, pyEq_bl, ix0, ix1, ix2, List.length_cons, List.length_nil, beq_self_eq_true, ↓reduceIte, name_spec H] <;> rfl
  · intro k st hk
    obtain ⟨k, rfl⟩ : ∃ j, k = j + 2 := ⟨k - 2, by omega⟩
    rw [run_of H.fm rfl]
    simp only [d_is_form, EV0, EV1, EV2, EV3, EV4, EV5, EV6, k_lcT2_ok, k_lcT1_ok, k_lcE2_ok, k_lcE1_ok, k_for_nx, k_for_rt, k_wl_nx, k_wl_rt, fldAF, pick1_ok, peekS_f, peekS_l, peekS_d, retS_f, retS_l, retS_d, nxO_some, nxS_some, boxS_some, tryS_nx, tryS_rt, tryS_exc, asBl, asInt, asStr, Res.bind_ok, Res.bind_exc, Res.bind_bad, Res.inS_ok, Res.inS_exc, Res.inS_bad, Res.of_some, Res.of_none, Res.noX_ok, fin_nx, fin_rt, fin_exc, flat_non, flat_bl, flat_int, flat_str, List.getElem?_cons_zero, List.getElem?_cons_succ, List.getElem?_nil, List.set_cons_zero, List.set_cons_succ, Option.map_some, Option.map_none, Option.bind_some, Option.bind_none,
    startE, List.map_cons, List.map_nil, List.replicate, List.cons_append, List.nil_append, setOs, setTg, setTs, thaw, Bool.not_true, Bool.not_false, if_true, if_false, Bool.false_eq_true, Option.isSome_some, Option.isSome_none, biOp, binop, cmpop, subOp_tup, subOp_lst, subOp_str, subOp_dct, subOp_ref, asList, asDict, tagOf, isTag, List.any_cons, List.any_nil, Bool.or_false, Bool.false_or, Bool.or_true, Bool.true_or, Bool.and_true, Bool.true_and, Bool.and_false, Bool.false_and, decide_true, decide_false, Int.reduceLT, Int.reduceLE, Nat.reduceLT, Nat.reduceLeDiff, Nat.reduceAdd, Int.reduceAdd, Int.reduceSub, Int.reduceToNat, Int.reduceEq, Nat.reduceEqDiff, Nat.reduceBEq, Int.reduceBEq, Int.reduceNeg, Nat.reduceSub, Int.cast_ofNat_Int, Int.natCast_one, Int.natCast_zero, reduceCtorEq, eqOk_int, pyEq_int, ltOk_int, pyLt_int, pyEq_str, eqOk_str, eqOk_bl, pyEq_bl, ix0, ix1, ix2, List.length_cons, List.length_nil, beq_self_eq_true, ↓reduceIte, name_spec H] <;> rfl
  · intro k st hk
    obtain ⟨k, rfl⟩ : ∃ j, k = j + 2 := ⟨k - 2, by omega⟩
    rw [run_of H.fm rfl]
    simp only [d_is_form, EV0, EV1, EV2, EV3, EV4, EV5, EV6, k_lcT2_ok, k_lcT1_ok, k_lcE2_ok, k_lcE1_ok, k_for_nx, k_for_rt, k_wl_nx, k_wl_rt, fldAF, pick1_ok, peekS_f, peekS_l, peekS_d, retS_f, retS_l, retS_d, nxO_some, nxS_some, boxS_some, tryS_nx, tryS_rt, tryS_exc, asBl, asInt, asStr, Res.bind_ok, Res.bind_exc, Res.bind_bad, Res.inS_ok, Res.inS_exc, Res.inS_bad, Res.of_some, Res.of_none, Res.noX_ok, fin_nx, fin_rt, fin_exc, flat_non, flat_bl, flat_int, flat_str, List.getElem?_cons_zero, List.getElem?_cons_succ, List.getElem?_nil, List.set_cons_zero, List.set_cons_succ, Option.map_some, Option.map_none, Option.bind_some, Option.bind_none,
    startE, List.map_cons, List.map_nil, List.replicate, List.cons_append, List.nil_append, setOs, setTg, setTs, thaw, Bool.not_true, Bool.not_false, if_true, if_false, Bool.false_eq_true, Option.isSome_some, Option.isSome_none, biOp, binop, cmpop, subOp_tup, subOp_lst, subOp_str, subOp_dct, subOp_ref, asList, asDict, tagOf, isTag, List.any_cons, List.any_nil, Bool.or_false, Bool.false_or, Bool.or_true, Bool.true_or, Bool.and_true, Bool.true_and, Bool.and_false, Bool.false_and, decide_true, decide_false, Int.reduceLT, Int.reduceLE, Nat.reduceLT, Nat.reduceLeDiff, Nat.reduceAdd, Int.reduceAdd, Int.reduceSub, Int.reduceToNat, Int.reduceEq, Nat.reduceEqDiff, Nat.reduceBEq, Int.reduceBEq, Int.reduceNeg, Nat.reduceSub, Int.cast_ofNat_Int, Int.natCast_one, Int.natCast_zero, reduceCtorEq, eqOk_int, pyEq_int, ltOk_int, pyLt_int, pyEq_str, eqOk_str, eqOk_bl, pyEq_bl, ix0, ix1, ix2, List.length_cons, List.length_nil, beq_self_eq_true, ↓reduceIte, name_spec H] <;> rfl
  · exact nof_name H (t := .int) (fun _ => rfl) (by simp)
theorem bad2_no (H : HasSh C) (s : Sh) : ∀ v ∈ bad2 s, NoF C 2 v := by
  intro v hv
  simp only [bad2, List.mem_cons, List.not_mem_nil, or_false] at hv
  rcases hv with rfl | rfl | rfl | rfl | rfl | rfl
  · intro k st hk
    obtain ⟨k, rfl⟩ : ∃ j, k = j + 2 := ⟨k - 2, by omega⟩
    rw [run_of H.fm rfl]
    simp only [d_is_form, EV0, EV1, EV2, EV3, EV4, EV5, EV6, k_lcT2_ok, k_lcT1_ok, k_lcE2_ok, k_lcE1_ok, k_for_nx, k_for_rt, k_wl_nx, k_wl_rt, fldAF, pick1_ok, peekS_f, peekS_l, peekS_d, retS_f, retS_l, retS_d, nxO_some, nxS_some, boxS_some, tryS_nx, tryS_rt, tryS_exc, asBl, asInt, asStr, Res.bind_ok, Res.bind_exc, Res.bind_bad, Res.inS_ok, Res.inS_exc, Res.inS_bad, Res.of_some, Res.of_none, Res.noX_ok, fin_nx, fin_rt, fin_exc, flat_non, flat_bl, flat_int, flat_str, List.getElem?_cons_zero, List.getElem?_cons_succ, List.getElem?_nil, List.set_cons_zero, List.set_cons_succ, Option.map_some, Option.map_none, Option.bind_some, Option.bind_none,
    startE, List.map_cons, List.map_nil, List.replicate, List.cons_append, List.nil_append, setOs, setTg, setTs, thaw, Bool.not_true, Bool.not_false, if_true, if_false, Bool.false_eq_true, Option.isSome_some, Option.isSome_none, biOp, binop, cmpop, subOp_tup, subOp_lst, subOp_str, subOp_dct, subOp_ref, asList, asDict, tagOf, isTag, List.any_cons, List.any_nil, Bool.or_false, Bool.false_or, Bool.or_true, Bool.true_or, Bool.and_true, Bool.true_and, Bool.and_false, Bool.false_and, decide_true, decide_false, Int.reduceLT, Int.reduceLE, Nat.reduceLT, Nat.reduceLeDiff, Nat.reduceAdd, Int.reduceAdd, Int.reduceSub, Int.reduceToNat, Int.reduceEq, Nat.reduceEqDiff, Nat.reduceBEq, Int.reduceBEq, Int.reduceNeg, Nat.reduceSub, Int.cast_ofNat_Int, Int.natCast_one, Int.natCast_zero, reduceCtorEq, eqOk_int, pyEq_int, ltOk_int, pyLt_int, pyEq_str, eqOk_str, eqOk_bl, pyEq_bl, ix0, ix1, ix2, List.length_cons, List.length_nil, beq_self_eq_true, ↓reduceIte] <;> rfl
  · intro k st hk
    obtain ⟨k, rfl⟩ : ∃ j, k = j + 2 := ⟨k - 2, by omega⟩
    rw [run_of H.fm rfl]
    simp only [d_is_form, EV0, EV1, EV2, EV3, EV4, EV5, EV6, k_lcT2_ok, k_lcT1_ok, k_lcE2_ok, k_lcE1_ok, k_for_nx, k_for_rt, k_wl_nx, k_wl_rt, fldAF, pick1_ok, peekS_f, peekS_l, peekS_d, retS_f, retS_l, retS_d, nxO_some, nxS_some, boxS_some, tryS_nx, tryS_rt, tryS_exc, asBl, asInt, asStr, Res.bind_ok, Res.bind_exc, Res.bind_bad, Res.inS_ok, Res.inS_exc, Res.inS_bad, Res.of_some, Res.of_none, Res.noX_ok, fin_nx, fin_rt, fin_exc, flat_non, flat_bl, flat_int, flat_str, List.getElem?_cons_zero, List.getElem?_cons_succ, List.getElem?_nil, List.set_cons_zero, List.set_cons_succ, Option.map_some, Option.map_none, Option.bind_some, Option.bind_none,
    startE, List.map_cons, List.map_nil, List.replicate, List.cons_append, List.nil_append, setOs, setTg, setTs, thaw, Bool.not_true, Bool.not_false, if_true, if_false, Bool.false_eq_true, Option.isSome_some, Option.isSome_none, biOp, binop, cmpop, subOp_tup, subOp_lst, subOp_str, subOp_dct, subOp_ref, asList, asDict, tagOf, isTag, List.any_cons, List.any_nil, Bool.or_false, Bool.false_or, Bool.or_true, Bool.true_or, Bool.and_true, Bool.true_and, Bool.and_false, Bool.false_and, decide_true, decide_false, Int.reduceLT, Int.reduceLE, Nat.reduceLT, Nat.reduceLeDiff, Nat.reduceAdd, Int.reduceAdd, Int.reduceSub, Int.reduceToNat, Int.reduceEq, Nat.reduceEqDiff, Nat.reduceBEq, Int.reduceBEq, Int.reduceNeg, Nat.reduceSub, Int.cast_ofNat_Int, Int.natCast_one, Int.natCast_zero, reduceCtorEq, eqOk_int, pyEq_int, ltOk_int, pyLt_int, pyEq_str, eqOk_str, eqOk_bl, pyEq_bl, ix0, ix1, ix2, List.length_cons, List.length_nil, beq_self_eq_true, ↓reduceIte] <;> rfl
  · intro k st hk
    obtain ⟨k, rfl⟩ : ∃ j, k = j + 2 := ⟨k - 2, by omega⟩
    rw [run_of H.fm rfl]
    simp only [d_is_form, EV0, EV1, EV2, EV3, EV4, EV5, EV6, k_lcT2_ok, k_lcT1_ok, k_lcE2_ok, k_lcE1_ok, k_for_nx, k_for_rt, k_wl_nx, k_wl_rt, fldAF, pick1_ok, peekS_f, peekS_l, peekS_d, retS_f, retS_l, retS_d, nxO_some, nxS_some, boxS_some, tryS_nx, tryS_rt, tryS_exc, asBl, asInt, asStr, Res.bind_ok, Res.bind_exc, Res.bind_bad, Res.inS_ok, Res.inS_exc, Res.inS_bad, Res.of_some, Res.of_none, Res.noX_ok, fin_nx, fin_rt, fin_exc, flat_non, flat_bl, flat_int, flat_str, List.getElem?_cons_zero, List.getElem?_cons_succ, List.getElem?_nil, List.set_cons_zero, List.set_cons_succ, Option.map_some, Option.map_none, Option.bind_some, Option.bind_none,
    startE, List.map_cons, List.map_nil, List.replicate, List.cons_append, List.nil_append, setOs, setTg, setTs, thaw, Bool.not_true, Bool.not_false, if_true, if_false, Bool.false_eq_true, Option.isSome_some, Option.isSome_none, biOp, binop, cmpop, subOp_tup, subOp_lst, subOp_str, subOp_dct, subOp_ref, asList, asDict, tagOf, isTag, List.any_cons, List.any_nil, Bool.or_false, Bool.false_or, Bool.or_true, Bool.true_or, Bool.and_true, Bool.true_and, Bool.and_false, Bool.false_and, decide_true, decide_false, Int.reduceLT, Int.reduceLE, Nat.reduceLT, Nat.reduceLeDiff, Nat.reduceAdd, Int.reduceAdd, Int.reduceSub, Int.reduceToNat, Int.reduceEq, Nat.reduceEqDiff, Nat.reduceBEq, Int.reduceBEq, Int.reduceNeg, Nat.reduceSub, Int.cast_ofNat_Int, Int.natCast_one, Int.natCast_zero, reduceCtorEq, eqOk_int, pyEq_int, ltOk_int, pyLt_int, pyEq_str, eqOk_str, eqOk_bl, pyEq_bl, ix0, ix1, ix2, List.length_cons, List.length_nil, beq_self_eq_true, ↓reduceIte] <;> rfl
  · intro k st hk
    obtain ⟨k, rfl⟩ : ∃ j, k = j + 2 := ⟨k - 2, by omega⟩
    rw [run_of H.fm rfl]
    simp only [d_is_form, EV0, EV1, EV2, EV3, EV4, EV5, EV6, k_lcT2_ok, k_lcT1_ok, k_lcE2_ok, k_lcE1_ok, k_for_nx, k_for_rt, k_wl_nx, k_wl_rt, fldAF, pick1_ok, peekS_f, peekS_l, peekS_d, retS_f, retS_l, retS_d, nxO_some, nxS_some, boxS_some, tryS_nx, tryS_rt, tryS_exc, asBl, asInt, asStr, Res.bind_ok, Res.bind_exc, Res.bind_bad, Res.inS_ok, Res.inS_exc, Res.inS_bad, Res.of_some, Res.of_none, Res.noX_ok, fin_nx, fin_rt, fin_exc, flat_non, flat_bl, flat_int, flat_str, List.getElem?_cons_zero, List.getElem?_cons_succ, List.getElem?_nil, List.set_cons_zero, List.set_cons_succ, Option.map_some, Option.map_none, Option.bind_some, Option.bind_none,
    startE, List.map_cons, List.map_nil, List.replicate, List.cons_append, List.nil_append, setOs, setTg, setTs, thaw, Bool.not_true, Bool.not_false, if_true, if_false, Bool.false_eq_true, Option.isSome_some, Option.isSome_none, biOp, binop, cmpop, subOp_tup, subOp_lst, subOp_str, subOp_dct, subOp_ref, asList, asDict, tagOf, isTag, List.any_cons, List.any_nil, Bool.or_false, Bool.false_or, Bool.or_true, Bool.true_or, Bool.and_true, Bool.true_and, Bool.and_false, Bool.false_and, decide_true, decide_false, Int.reduceLT, Int.reduceLE, Nat.reduceLT, Nat.reduceLeDiff, Nat.reduceAdd, Int.reduceAdd, Int.reduceSub, Int.reduceToNat, Int.reduceEq, Nat.reduceEqDiff, Nat.reduceBEq, Int.reduceBEq, Int.reduceNeg, Nat.reduceSub, Int.cast_ofNat_Int, Int.natCast_one, Int.natCast_zero, reduceCtorEq, eqOk_int, pyEq_int, ltOk_int, pyLt_int, pyEq_str, eqOk_str, eqOk_bl, pyEq_bl, ix0, ix1, ix2, List.length_cons, List.length_nil, beq_self_eq_true, ↓reduceIte, isIn, List.all_cons, List.all_nil] <;> rfl
  · intro k st hk
    obtain ⟨k, rfl⟩ : ∃ j, k = j + 2 := ⟨k - 2, by omega⟩
    rw [run_of H.fm rfl]
    cases s <;> simp only [d_is_form, Sh.v, EV0, EV1, EV2, EV3, EV4, EV5, EV6, k_lcT2_ok, k_lcT1_ok, k_lcE2_ok, k_lcE1_ok, k_for_nx, k_for_rt, k_wl_nx, k_wl_rt, fldAF, pick1_ok, peekS_f, peekS_l, peekS_d, retS_f, retS_l, retS_d, nxO_some, nxS_some, boxS_some, tryS_nx, tryS_rt, tryS_exc, asBl, asInt, asStr, Res.bind_ok, Res.bind_exc, Res.bind_bad, Res.inS_ok, Res.inS_exc, Res.inS_bad, Res.of_some, Res.of_none, Res.noX_ok, fin_nx, fin_rt, fin_exc, flat_non, flat_bl, flat_int, flat_str, List.getElem?_cons_zero, List.getElem?_cons_succ, List.getElem?_nil, List.set_cons_zero, List.set_cons_succ, Option.map_some, Option.map_none, Option.bind_some, Option.bind_none,
    startE, List.map_cons, List.map_nil, List.replicate, List.cons_append, List.nil_append, setOs, setTg, setTs, thaw, Bool.not_true, Bool.not_false, if_true, if_false, Bool.false_eq_true, Option.isSome_some, Option.isSome_none, biOp, binop, cmpop, subOp_tup, subOp_lst, subOp_str, subOp_dct, subOp_ref, asList, asDict, tagOf, isTag, List.any_cons, List.any_nil, Bool.or_false, Bool.false_or, Bool.or_true, Bool.true_or, Bool.and_true, Bool.true_and, Bool.and_false, Bool.false_and, decide_true, decide_false, Int.reduceLT, Int.reduceLE, Nat.reduceLT, Nat.reduceLeDiff, Nat.reduceAdd, Int.reduceAdd, Int.reduceSub, Int.reduceToNat, Int.reduceEq, Nat.reduceEqDiff, Nat.reduceBEq, Int.reduceBEq, Int.reduceNeg, Nat.reduceSub, Int.cast_ofNat_Int, Int.natCast_one, Int.natCast_zero, reduceCtorEq, eqOk_int, pyEq_int, ltOk_int, pyLt_int, pyEq_str, eqOk_str, eqOk_bl, pyEq_bl, ix0, ix1, ix2, List.length_cons, List.length_nil, beq_self_eq_true, ↓reduceIte] <;> rfl
  · exact (nof_val H rfl).mono (by omega)
theorem bad3_no (H : HasSh C) (s : Sh) (ok : s.ok = true) : ∀ v ∈ bad3 s, NoF C (s.dp + 3) v := by
  intro v hv
  simp only [bad3, List.mem_cons, List.not_mem_nil, or_false] at hv
  rcases hv with rfl | rfl | rfl | rfl | rfl | rfl
  · exact (nof_name H (t := .tup) (fun _ => rfl) (by simp)).mono (by omega)
  · intro k st hk
    obtain ⟨k, rfl⟩ : ∃ j, k = j + 2 := ⟨k - 2, by omega⟩
    rw [run_of H.fm rfl]
    simp only [d_is_form, EV0, EV1, EV2, EV3, EV4, EV5, EV6, k_lcT2_ok, k_lcT1_ok, k_lcE2_ok, k_lcE1_ok, k_for_nx, k_for_rt, k_wl_nx, k_wl_rt, fldAF, pick1_ok, peekS_f, peekS_l, peekS_d, retS_f, retS_l, retS_d, nxO_some, nxS_some, boxS_some, tryS_nx, tryS_rt, tryS_exc, asBl, asInt, asStr, Res.bind_ok, Res.bind_exc, Res.bind_bad, Res.inS_ok, Res.inS_exc, Res.inS_bad, Res.of_some, Res.of_none, Res.noX_ok, fin_nx, fin_rt, fin_exc, flat_non, flat_bl, flat_int, flat_str, List.getElem?_cons_zero, List.getElem?_cons_succ, List.getElem?_nil, List.set_cons_zero, List.set_cons_succ, Option.map_some, Option.map_none, Option.bind_some, Option.bind_none,
    startE, List.map_cons, List.map_nil, List.replicate, List.cons_append, List.nil_append, setOs, setTg, setTs, thaw, Bool.not_true, Bool.not_false, if_true, if_false, Bool.false_eq_true, Option.isSome_some, Option.isSome_none, biOp, binop, cmpop, subOp_tup, subOp_lst, subOp_str, subOp_dct, subOp_ref, asList, asDict, tagOf, isTag, List.any_cons, List.any_nil, Bool.or_false, Bool.false_or, Bool.or_true, Bool.true_or, Bool.and_true, Bool.true_and, Bool.and_false, Bool.false_and, decide_true, decide_false, Int.reduceLT, Int.reduceLE, Nat.reduceLT, Nat.reduceLeDiff, Nat.reduceAdd, Int.reduceAdd, Int.reduceSub, Int.reduceToNat, Int.reduceEq, Nat.reduceEqDiff, Nat.reduceBEq, Int.reduceBEq, Int.reduceNeg, Nat.reduceSub, Int.cast_ofNat_Int, Int.natCast_one, Int.natCast_zero, reduceCtorEq, eqOk_int, pyEq_int, ltOk_int, pyLt_int, pyEq_str, eqOk_str, eqOk_bl, pyEq_bl, ix0, ix1, ix2, List.length_cons, List.length_nil, beq_self_eq_true, ↓reduceIte, H.g2] <;> rfl
  · intro k st hk
    obtain ⟨k, rfl⟩ : ∃ j, k = j + 2 := ⟨k - 2, by omega⟩
    rw [run_of H.fm rfl]
    simp only [d_is_form, EV0, EV1, EV2, EV3, EV4, EV5, EV6, k_lcT2_ok, k_lcT1_ok, k_lcE2_ok, k_lcE1_ok, k_for_nx, k_for_rt, k_wl_nx, k_wl_rt, fldAF, pick1_ok, peekS_f, peekS_l, peekS_d, retS_f, retS_l, retS_d, nxO_some, nxS_some, boxS_some, tryS_nx, tryS_rt, tryS_exc, asBl, asInt, asStr, Res.bind_ok, Res.bind_exc, Res.bind_bad, Res.inS_ok, Res.inS_exc, Res.inS_bad, Res.of_some, Res.of_none, Res.noX_ok, fin_nx, fin_rt, fin_exc, flat_non, flat_bl, flat_int, flat_str, List.getElem?_cons_zero, List.getElem?_cons_succ, List.getElem?_nil, List.set_cons_zero, List.set_cons_succ, Option.map_some, Option.map_none, Option.bind_some, Option.bind_none,
    startE, List.map_cons, List.map_nil, List.replicate, List.cons_append, List.nil_append, setOs, setTg, setTs, thaw, Bool.not_true, Bool.not_false, if_true, if_false, Bool.false_eq_true, Option.isSome_some, Option.isSome_none, biOp, binop, cmpop, subOp_tup, subOp_lst, subOp_str, subOp_dct, subOp_ref, asList, asDict, tagOf, isTag, List.any_cons, List.any_nil, Bool.or_false, Bool.false_or, Bool.or_true, Bool.true_or, Bool.and_true, Bool.true_and, Bool.and_false, Bool.false_and, decide_true, decide_false, Int.reduceLT, Int.reduceLE, Nat.reduceLT, Nat.reduceLeDiff, Nat.reduceAdd, Int.reduceAdd, Int.reduceSub, Int.reduceToNat, Int.reduceEq, Nat.reduceEqDiff, Nat.reduceBEq, Int.reduceBEq, Int.reduceNeg, Nat.reduceSub, Int.cast_ofNat_Int, Int.natCast_one, Int.natCast_zero, reduceCtorEq, eqOk_int, pyEq_int, ltOk_int, pyLt_int, pyEq_str, eqOk_str, eqOk_bl, pyEq_bl, ix0, ix1, ix2, List.length_cons, List.length_nil, beq_self_eq_true, ↓reduceIte] <;> rfl
  · exact nof_2nd H (.inl rfl) ok (Nat.le_refl _) ((nof_val H (v := .non) rfl).mono (by omega))
  · exact (nof_val H rfl).mono (by omega)
  · exact (nof_val H rfl).mono (by omega)
theorem bads_no (H : HasSh C) (s : Sh) (ok : s.ok = true) {v : Val} (h : v ∈ bad1 ++ bad2 s ++ bad3 s) : NoF C (s.dp + 3) v := by
  rcases List.mem_append.mp h with h | h
  · rcases List.mem_append.mp h with h | h
    · exact (bad1_no H v h).mono (by omega)
    · exact (bad2_no H s v h).mono (by omega)
  · exact bad3_no H s ok v h
theorem shape_no (H : HasSh C) {n k : Nat} {v : Val} (h : NoF C n v) (hk : n + 1 ≤ k) (st : Store) : evCall C k f_is_shape [v] st = .ok (false, .bl false) st := by
  obtain ⟨k, rfl⟩ : ∃ j, k = j + 1 := ⟨k - 1, by omega⟩
  rw [run_of H.sh rfl]
  have h1 := h k st (by omega)
  simp only [d_is_shape, EV0, EV1, EV2, EV3, EV4, EV5, EV6, k_lcT2_ok, k_lcT1_ok, k_lcE2_ok, k_lcE1_ok, k_for_nx, k_for_rt, k_wl_nx, k_wl_rt, fldAF, pick1_ok, peekS_f, peekS_l, peekS_d, retS_f, retS_l, retS_d, nxO_some, nxS_some, boxS_some, tryS_nx, tryS_rt, tryS_exc, asBl, asInt, asStr, Res.bind_ok, Res.bind_exc, Res.bind_bad, Res.inS_ok, Res.inS_exc, Res.inS_bad, Res.of_some, Res.of_none, Res.noX_ok, fin_nx, fin_rt, fin_exc, flat_non, flat_bl, flat_int, flat_str, List.getElem?_cons_zero, List.getElem?_cons_succ, List.getElem?_nil, List.set_cons_zero, List.set_cons_succ, Option.map_some, Option.map_none, Option.bind_some, Option.bind_none,
    startE, List.map_cons, List.map_nil, List.replicate, List.cons_append, List.nil_append, setOs, setTg, setTs, thaw, Bool.not_true, Bool.not_false, if_true, if_false, Bool.false_eq_true, Option.isSome_some, Option.isSome_none, biOp, binop, cmpop, subOp_tup, subOp_lst, subOp_str, subOp_dct, subOp_ref, asList, asDict, tagOf, isTag, List.any_cons, List.any_nil, Bool.or_false, Bool.false_or, Bool.or_true, Bool.true_or, Bool.and_true, Bool.true_and, Bool.and_false, Bool.false_and, decide_true, decide_false, Int.reduceLT, Int.reduceLE, Nat.reduceLT, Nat.reduceLeDiff, Nat.reduceAdd, Int.reduceAdd, Int.reduceSub, Int.reduceToNat, Int.reduceEq, Nat.reduceEqDiff, Nat.reduceBEq, Int.reduceBEq, Int.reduceNeg, Nat.reduceSub, Int.cast_ofNat_Int, Int.natCast_one, Int.natCast_zero, reduceCtorEq, eqOk_int, pyEq_int, ltOk_int, pyLt_int, pyEq_str, eqOk_str, eqOk_bl, pyEq_bl, ix0, ix1, ix2, List.length_cons, List.length_nil, beq_self_eq_true, ↓reduceIte, h1]
theorem check_no (H : HasSh C) (hx : C.xf 0 = some none) {n k : Nat} {v : Val} (h : NoF C n v) (hk : n + 2 ≤ k) (st : Store) : evCall C k f_check_shape [v] st = .exc 0 [] st := by
  obtain ⟨k, rfl⟩ : ∃ j, k = j + 1 := ⟨k - 1, by omega⟩
  rw [run_of H.ck rfl]
  have h1 := shape_no H h (k := k) (by omega) st
  simp only [d_check_shape, EV0, EV1, EV2, EV3, EV4, EV5, EV6, k_lcT2_ok, k_lcT1_ok, k_lcE2_ok, k_lcE1_ok, k_for_nx, k_for_rt, k_wl_nx, k_wl_rt, fldAF, pick1_ok, peekS_f, peekS_l, peekS_d, retS_f, retS_l, retS_d, nxO_some, nxS_some, boxS_some, tryS_nx, tryS_rt, tryS_exc, asBl, asInt, asStr, Res.bind_ok, Res.bind_exc, Res.bind_bad, Res.inS_ok, Res.inS_exc, Res.inS_bad, Res.of_some, Res.of_none, Res.noX_ok, fin_nx, fin_rt, fin_exc, flat_non, flat_bl, flat_int, flat_str, List.getElem?_cons_zero, List.getElem?_cons_succ, List.getElem?_nil, List.set_cons_zero, List.set_cons_succ, Option.map_some, Option.map_none, Option.bind_some, Option.bind_none,
    startE, List.map_cons, List.map_nil, List.replicate, List.cons_append, List.nil_append, setOs, setTg, setTs, thaw, Bool.not_true, Bool.not_false, if_true, if_false, Bool.false_eq_true, Option.isSome_some, Option.isSome_none, biOp, binop, cmpop, subOp_tup, subOp_lst, subOp_str, subOp_dct, subOp_ref, asList, asDict, tagOf, isTag, List.any_cons, List.any_nil, Bool.or_false, Bool.false_or, Bool.or_true, Bool.true_or, Bool.and_true, Bool.true_and, Bool.and_false, Bool.false_and, decide_true, decide_false, Int.reduceLT, Int.reduceLE, Nat.reduceLT, Nat.reduceLeDiff, Nat.reduceAdd, Int.reduceAdd, Int.reduceSub, Int.reduceToNat, Int.reduceEq, Nat.reduceEqDiff, Nat.reduceBEq, Int.reduceBEq, Int.reduceNeg, Nat.reduceSub, Int.cast_ofNat_Int, Int.natCast_one, Int.natCast_zero, reduceCtorEq, eqOk_int, pyEq_int, ltOk_int, pyLt_int, pyEq_str, eqOk_str, eqOk_bl, pyEq_bl, ix0, ix1, ix2, List.length_cons, List.length_nil, beq_self_eq_true, ↓reduceIte, h1, hx, hxOp, rse0]
theorem told01 (H : HasLv C) (ht : C.fn f__law_told = some d__law_told) (hx : C.xf 0 = some none) {n k : Nat} {v : Val} (h : NoF C n v) (hk : n + 4 ≤ k) (st : Store) : evCall C k f__law_told [v] st = .ok (false, .int 3) st := by
  obtain ⟨k, rfl⟩ : ∃ j, k = j + 2 := ⟨k - 2, by omega⟩
  have h0 := check_no H.S hx h (k := k) (by omega) st
  have h1 : evCall C (k + 1) f_leaves [v] st = .exc 0 [] st := by
    rw [run_of H.lv rfl]
    simp only [d_leaves, EV0, EV1, EV2, EV3, EV4, EV5, EV6, k_lcT2_ok, k_lcT1_ok, k_lcE2_ok, k_lcE1_ok, k_for_nx, k_for_rt, k_wl_nx, k_wl_rt, fldAF, pick1_ok, peekS_f, peekS_l, peekS_d, retS_f, retS_l, retS_d, nxO_some, nxS_some, boxS_some, tryS_nx, tryS_rt, tryS_exc, asBl, asInt, asStr, Res.bind_ok, Res.bind_exc, Res.bind_bad, Res.inS_ok, Res.inS_exc, Res.inS_bad, Res.of_some, Res.of_none, Res.noX_ok, fin_nx, fin_rt, fin_exc, flat_non, flat_bl, flat_int, flat_str, List.getElem?_cons_zero, List.getElem?_cons_succ, List.getElem?_nil, List.set_cons_zero, List.set_cons_succ, Option.map_some, Option.map_none, Option.bind_some, Option.bind_none,
    startE, List.map_cons, List.map_nil, List.replicate, List.cons_append, List.nil_append, setOs, setTg, setTs, thaw, Bool.not_true, Bool.not_false, if_true, if_false, Bool.false_eq_true, Option.isSome_some, Option.isSome_none, biOp, binop, cmpop, subOp_tup, subOp_lst, subOp_str, subOp_dct, subOp_ref, asList, asDict, tagOf, isTag, List.any_cons, List.any_nil, Bool.or_false, Bool.false_or, Bool.or_true, Bool.true_or, Bool.and_true, Bool.true_and, Bool.and_false, Bool.false_and, decide_true, decide_false, Int.reduceLT, Int.reduceLE, Nat.reduceLT, Nat.reduceLeDiff, Nat.reduceAdd, Int.reduceAdd, Int.reduceSub, Int.reduceToNat, Int.reduceEq, Nat.reduceEqDiff, Nat.reduceBEq, Int.reduceBEq, Int.reduceNeg, Nat.reduceSub, Int.cast_ofNat_Int, Int.natCast_one, Int.natCast_zero, reduceCtorEq, eqOk_int, pyEq_int, ltOk_int, pyLt_int, pyEq_str, eqOk_str, eqOk_bl, pyEq_bl, ix0, ix1, ix2, List.length_cons, List.length_nil, beq_self_eq_true, ↓reduceIte, h0]
  have h2 : evCall C (k + 1) f_names [v] st = .exc 0 [] st := by
    rw [run_of H.nm rfl]
    simp only [d_names, EV0, EV1, EV2, EV3, EV4, EV5, EV6, k_lcT2_ok, k_lcT1_ok, k_lcE2_ok, k_lcE1_ok, k_for_nx, k_for_rt, k_wl_nx, k_wl_rt, fldAF, pick1_ok, peekS_f, peekS_l, peekS_d, retS_f, retS_l, retS_d, nxO_some, nxS_some, boxS_some, tryS_nx, tryS_rt, tryS_exc, asBl, asInt, asStr, Res.bind_ok, Res.bind_exc, Res.bind_bad, Res.inS_ok, Res.inS_exc, Res.inS_bad, Res.of_some, Res.of_none, Res.noX_ok, fin_nx, fin_rt, fin_exc, flat_non, flat_bl, flat_int, flat_str, List.getElem?_cons_zero, List.getElem?_cons_succ, List.getElem?_nil, List.set_cons_zero, List.set_cons_succ, Option.map_some, Option.map_none, Option.bind_some, Option.bind_none,
    startE, List.map_cons, List.map_nil, List.replicate, List.cons_append, List.nil_append, setOs, setTg, setTs, thaw, Bool.not_true, Bool.not_false, if_true, if_false, Bool.false_eq_true, Option.isSome_some, Option.isSome_none, biOp, binop, cmpop, subOp_tup, subOp_lst, subOp_str, subOp_dct, subOp_ref, asList, asDict, tagOf, isTag, List.any_cons, List.any_nil, Bool.or_false, Bool.false_or, Bool.or_true, Bool.true_or, Bool.and_true, Bool.true_and, Bool.and_false, Bool.false_and, decide_true, decide_false, Int.reduceLT, Int.reduceLE, Nat.reduceLT, Nat.reduceLeDiff, Nat.reduceAdd, Int.reduceAdd, Int.reduceSub, Int.reduceToNat, Int.reduceEq, Nat.reduceEqDiff, Nat.reduceBEq, Int.reduceBEq, Int.reduceNeg, Nat.reduceSub, Int.cast_ofNat_Int, Int.natCast_one, Int.natCast_zero, reduceCtorEq, eqOk_int, pyEq_int, ltOk_int, pyLt_int, pyEq_str, eqOk_str, eqOk_bl, pyEq_bl, ix0, ix1, ix2, List.length_cons, List.length_nil, beq_self_eq_true, ↓reduceIte, h0]
  have h3 : evCall C (k + 1) f_order [v] st = .exc 0 [] st := by
    rw [run_of H.od rfl]
    simp only [d_order, EV0, EV1, EV2, EV3, EV4, EV5, EV6, k_lcT2_ok, k_lcT1_ok, k_lcE2_ok, k_lcE1_ok, k_for_nx, k_for_rt, k_wl_nx, k_wl_rt, fldAF, pick1_ok, peekS_f, peekS_l, peekS_d, retS_f, retS_l, retS_d, nxO_some, nxS_some, boxS_some, tryS_nx, tryS_rt, tryS_exc, asBl, asInt, asStr, Res.bind_ok, Res.bind_exc, Res.bind_bad, Res.inS_ok, Res.inS_exc, Res.inS_bad, Res.of_some, Res.of_none, Res.noX_ok, fin_nx, fin_rt, fin_exc, flat_non, flat_bl, flat_int, flat_str, List.getElem?_cons_zero, List.getElem?_cons_succ, List.getElem?_nil, List.set_cons_zero, List.set_cons_succ, Option.map_some, Option.map_none, Option.bind_some, Option.bind_none,
    startE, List.map_cons, List.map_nil, List.replicate, List.cons_append, List.nil_append, setOs, setTg, setTs, thaw, Bool.not_true, Bool.not_false, if_true, if_false, Bool.false_eq_true, Option.isSome_some, Option.isSome_none, biOp, binop, cmpop, subOp_tup, subOp_lst, subOp_str, subOp_dct, subOp_ref, asList, asDict, tagOf, isTag, List.any_cons, List.any_nil, Bool.or_false, Bool.false_or, Bool.or_true, Bool.true_or, Bool.and_true, Bool.true_and, Bool.and_false, Bool.false_and, decide_true, decide_false, Int.reduceLT, Int.reduceLE, Nat.reduceLT, Nat.reduceLeDiff, Nat.reduceAdd, Int.reduceAdd, Int.reduceSub, Int.reduceToNat, Int.reduceEq, Nat.reduceEqDiff, Nat.reduceBEq, Int.reduceBEq, Int.reduceNeg, Nat.reduceSub, Int.cast_ofNat_Int, Int.natCast_one, Int.natCast_zero, reduceCtorEq, eqOk_int, pyEq_int, ltOk_int, pyLt_int, pyEq_str, eqOk_str, eqOk_bl, pyEq_bl, ix0, ix1, ix2, List.length_cons, List.length_nil, beq_self_eq_true, ↓reduceIte, h0]
  rw [run_of ht rfl]
  have e1 : (0 = 0) = True := by simp
  simp only [d__law_told, EV0, EV1, EV2, EV3, EV4, EV5, EV6, k_lcT2_ok, k_lcT1_ok, k_lcE2_ok, k_lcE1_ok, k_for_nx, k_for_rt, k_wl_nx, k_wl_rt, fldAF, pick1_ok, peekS_f, peekS_l, peekS_d, retS_f, retS_l, retS_d, nxO_some, nxS_some, boxS_some, tryS_nx, tryS_rt, tryS_exc, asBl, asInt, asStr, Res.bind_ok, Res.bind_exc, Res.bind_bad, Res.inS_ok, Res.inS_exc, Res.inS_bad, Res.of_some, Res.of_none, Res.noX_ok, fin_nx, fin_rt, fin_exc, flat_non, flat_bl, flat_int, flat_str, List.getElem?_cons_zero, List.getElem?_cons_succ, List.getElem?_nil, List.set_cons_zero, List.set_cons_succ, Option.map_some, Option.map_none, Option.bind_some, Option.bind_none,
    startE, List.map_cons, List.map_nil, List.replicate, List.cons_append, List.nil_append, setOs, setTg, setTs, thaw, Bool.not_true, Bool.not_false, if_true, if_false, Bool.false_eq_true, Option.isSome_some, Option.isSome_none, biOp, binop, cmpop, subOp_tup, subOp_lst, subOp_str, subOp_dct, subOp_ref, asList, asDict, tagOf, isTag, List.any_cons, List.any_nil, Bool.or_false, Bool.false_or, Bool.or_true, Bool.true_or, Bool.and_true, Bool.true_and, Bool.and_false, Bool.false_and, decide_true, decide_false, Int.reduceLT, Int.reduceLE, Nat.reduceLT, Nat.reduceLeDiff, Nat.reduceAdd, Int.reduceAdd, Int.reduceSub, Int.reduceToNat, Int.reduceEq, Nat.reduceEqDiff, Nat.reduceBEq, Int.reduceBEq, Int.reduceNeg, Nat.reduceSub, Int.cast_ofNat_Int, Int.natCast_one, Int.natCast_zero, reduceCtorEq, eqOk_int, pyEq_int, ltOk_int, pyLt_int, pyEq_str, eqOk_str, eqOk_bl, pyEq_bl, ix0, ix1, ix2, List.length_cons, List.length_nil, beq_self_eq_true, ↓reduceIte, h1, h2, h3, hx, handle, e1, hsOp, hxOp]
structure Has01 (C : Cfg) : Prop where
  R : HasRnd C
  L : HasLv C
  eq : C.fn f__law_equal = some d__law_equal
  sh : C.fn f__law_shape = some d__law_shape
  bd : C.fn f__law_bad = some d__law_bad
  td : C.fn f__law_told = some d__law_told
  law : C.fn f_law = some d_law
  x0 : C.xf 0 = some none
theorem lbad_spec (H : Has01 C) {k : Nat} (hk : 3 ≤ k) {o : Ob} {rest : Store} (ho : Rnd o) (s : Sh) :
    ∃ (x : Val) (o' : Ob), Rnd o' ∧ x ∈ bad1 ++ bad2 s ++ bad3 s ∧ evCall C k f__law_bad [.ref 0, s.v] (o :: rest) = .ok (false, x) (o' :: rest) := by
  obtain ⟨k, rfl⟩ : ∃ j, k = j + 3 := ⟨k - 3, by omega⟩
  obtain ⟨r, x, o', h1, h2, h3⟩ := pick_spec H.R (k := k) (rest := rest) (o := o) (xs := bad1 ++ bad2 s ++ bad3 s) ho (by simp [bad1]) (by simp [bad1, bad2, bad3])
  refine ⟨x, o', h1, List.mem_of_getElem? h2, ?_⟩
  rw [show k + 3 = (k + 2) + 1 from rfl, run_of H.bd rfl]
  have m1 : 9 + 6 ≤ maxLen := by decide
  have m2 : 15 + 6 ≤ maxLen := by decide
  simp only [bad1, bad2, bad3, List.cons_append, List.nil_append] at h3
  simp only [d__law_bad, EV0, EV1, EV2, EV3, EV4, EV5, EV6, k_lcT2_ok, k_lcT1_ok, k_lcE2_ok, k_lcE1_ok, k_for_nx, k_for_rt, k_wl_nx, k_wl_rt, fldAF, pick1_ok, peekS_f, peekS_l, peekS_d, retS_f, retS_l, retS_d, nxO_some, nxS_some, boxS_some, tryS_nx, tryS_rt, tryS_exc, asBl, asInt, asStr, Res.bind_ok, Res.bind_exc, Res.bind_bad, Res.inS_ok, Res.inS_exc, Res.inS_bad, Res.of_some, Res.of_none, Res.noX_ok, fin_nx, fin_rt, fin_exc, flat_non, flat_bl, flat_int, flat_str, List.getElem?_cons_zero, List.getElem?_cons_succ, List.getElem?_nil, List.set_cons_zero, List.set_cons_succ, Option.map_some, Option.map_none, Option.bind_some, Option.bind_none,
    startE, List.map_cons, List.map_nil, List.replicate, List.cons_append, List.nil_append, setOs, setTg, setTs, thaw, Bool.not_true, Bool.not_false, if_true, if_false, Bool.false_eq_true, Option.isSome_some, Option.isSome_none, biOp, binop, cmpop, subOp_tup, subOp_lst, subOp_str, subOp_dct, subOp_ref, asList, asDict, tagOf, isTag, List.any_cons, List.any_nil, Bool.or_false, Bool.false_or, Bool.or_true, Bool.true_or, Bool.and_true, Bool.true_and, Bool.and_false, Bool.false_and, decide_true, decide_false, Int.reduceLT, Int.reduceLE, Nat.reduceLT, Nat.reduceLeDiff, Nat.reduceAdd, Int.reduceAdd, Int.reduceSub, Int.reduceToNat, Int.reduceEq, Nat.reduceEqDiff, Nat.reduceBEq, Int.reduceBEq, Int.reduceNeg, Nat.reduceSub, Int.cast_ofNat_Int, Int.natCast_one, Int.natCast_zero, reduceCtorEq, eqOk_int, pyEq_int, ltOk_int, pyLt_int, pyEq_str, eqOk_str, eqOk_bl, pyEq_bl, ix0, ix1, ix2, List.length_cons, List.length_nil, beq_self_eq_true, ↓reduceIte, pairUp, dputs, m1, m2, h3]
def nmL : List (List Sn) := [[[97], [98], [99]], [[120]], [[115, 105, 122, 101], [97, 98, 99, 100, 101, 102, 103, 104]]]
theorem nmL_ok : ∀ l ∈ nmL, l.length < 1000 ∧ ∀ x ∈ l, isNm x = true := by decide
def turn1B : List Sm := match d_law.body with
  | [_, .for_ _ _ _ b, _, _, _] => b
  | _ => []
def env01 (sc : Val) (x2 x4 x5 x6 x7 : Slot) : Env := [some (false, sc), some (false, .ref 0), x2, none, x4, x5, x6, x7, none]
theorem ib1 : isBlV true (.bl true) = true := rfl
theorem ib2 : isBlV false (.bl false) = true := rfl
theorem turn01 (H : Has01 C) {sc v2 : Val} {o : Ob} {rest : Store} {x2 x4 x5 x6 x7 : Slot} (ho : Rnd o) :
    ∃ (o' : Ob) (y2 y4 y5 y6 y7 : Slot), Rnd o' ∧ forT C (evCall C 219) (calls C 219).2 (.nm 2) turn1B v2 (env01 sc x2 x4 x5 x6 x7) (o :: rest)
      = .nx (env01 sc y2 y4 y5 y6 y7) (o' :: rest) := by
  obtain ⟨r, o1, a1, a2, a3, a4⟩ := below_spec H.R (k := 218) (rest := rest) (s := 12) ho (by omega) (by omega)
  obtain ⟨j, x, o2, b1, b2, b3⟩ := pick_spec H.R (k := 217) (rest := rest) (o := o1) (xs := nmL.map fun l => .lst (l.map .str)) a1 (by decide) (by decide)
  rw [List.getElem?_map] at b2
  obtain ⟨l, p4, rfl⟩ := Option.map_eq_some_iff.mp b2
  obtain ⟨ll, lo⟩ := nmL_ok l (List.mem_of_getElem? p4)
  have er : (1 : Int) + r = ((1 + r.toNat : Nat) : Int) := by omega
  obtain ⟨s, o3, d1, d2, d3, d4⟩ := drawn_spec H.R (by rw [H.sh]; rfl) l ll (1 + r.toNat) 219 o2 rest (by omega) (by omega) (by omega) b1
  have ok : s.ok = true := Sh.ok_of fun y hy => lo y (d3 y hy)
  rw [← er] at d4
  have hl : s.lv ≤ 12 := by omega
  have hd := s.dp_lt
  have t1 := llvs_spec H.L s 219 (o3 :: rest) (by omega) (by omega)
  have t2 := shape_spec H.L.S s (k := 219) (o3 :: rest) (by omega) ok (by omega)
  have t3 := leaves_spec H.L s (k := 219) (o3 :: rest) (by omega) ok (by omega)
  have t4 := equal_spec H.eq (.int s.lv) 219 (o3 :: rest) rfl rfl (by simp only [vdep]; omega)
  have t5 := names_spec H.L s (k := 219) (o3 :: rest) (by omega) ok (by omega)
  have nl := s.nms_len
  obtain ⟨q1, q2, q3⟩ := srtOf_data s.nms (by omega)
  have t6 := equal_spec H.eq (.lst (srtOf s.nms)) 219 (o3 :: rest) q1 q2 (by omega)
  have t7 := order_spec H.L s (k := 219) (o3 :: rest) (by omega) ok (by omega)
  have t8 := lorder_spec H.L s 219 (o3 :: rest) (by omega)
  have t9 := equal_spec H.eq (.int s.od) 219 (o3 :: rest) rfl rfl (by simp only [vdep]; omega)
  obtain ⟨bv, o4, c1, c2, c3⟩ := lbad_spec H (k := 219) (by omega) (rest := rest) d1 s
  have nf := bads_no H.L.S s ok c2
  obtain ⟨j2, x2', o5, e1, e2, e3⟩ := pick_spec H.R (k := 217) (rest := rest) (o := o4) (xs := [bv, .tup [.str sPair, s.v, bv], .tup [.str sTo, bv, s.v], .tup [.str sPair, s.v, .tup [.str sTo, bv, s.v]]]) c1 (by simp) (by simp)
  have nx : NoF C 20 x2' := by
    have hm := List.mem_of_getElem? e2
    simp only [List.mem_cons, List.not_mem_nil, or_false] at hm
    rcases hm with rfl | rfl | rfl | rfl
    · exact nf.mono (by omega)
    · exact (nof_2nd H.L.S (.inl rfl) ok (by omega) nf).mono (by omega)
    · exact (nof_1st H.L.S (.inr rfl) nf).mono (by omega)
    · exact (nof_2nd H.L.S (.inl rfl) ok (by omega) (nof_1st H.L.S (.inr rfl) nf)).mono (by omega)
  have u1 := shape_no H.L.S nx (k := 219) (by omega) (o5 :: rest)
  have u2 := told01 H.L H.td H.x0 nx (k := 219) (by omega) (o5 :: rest)
  have lc : ∀ (y2 y4 y5 y6 y7 : Slot), lcE C (evCall C 219) (calls C 219).2 (.nm 8) [(.cmp .eq (.bi .len [(.var 8)]) (.cst (.int 2)))] (.sub (.var 8) (.cst (.int 1))) [some (false, sc), some (false, .ref 0), y2, none, y4, y5, y6, y7, none] (s.lvs.map Sh.v) (o3 :: rest) = .ok (s.nms.map .str) (o3 :: rest) := fun y2 y4 y5 y6 y7 => by
    rw [lcE_pure (g := lfV) (fun v hv => ?_), Sh.lvs_nms]
    obtain ⟨x, hx, rfl⟩ := List.mem_map.mp hv
    rcases Sh.lvs_leaf hx with rfl | ⟨n, rfl⟩
    · simp only [lcT, Sh.v, lfV, EV0, EV1, EV2, EV3, EV4, EV5, EV6, k_lcT2_ok, k_lcT1_ok, k_lcE2_ok, k_lcE1_ok, k_for_nx, k_for_rt, k_wl_nx, k_wl_rt, fldAF, pick1_ok, peekS_f, peekS_l, peekS_d, retS_f, retS_l, retS_d, nxO_some, nxS_some, boxS_some, tryS_nx, tryS_rt, tryS_exc, asBl, asInt, asStr, Res.bind_ok, Res.bind_exc, Res.bind_bad, Res.inS_ok, Res.inS_exc, Res.inS_bad, Res.of_some, Res.of_none, Res.noX_ok, fin_nx, fin_rt, fin_exc, flat_non, flat_bl, flat_int, flat_str, List.getElem?_cons_zero, List.getElem?_cons_succ, List.getElem?_nil, List.set_cons_zero, List.set_cons_succ, Option.map_some, Option.map_none, Option.bind_some, Option.bind_none,
    startE, List.map_cons, List.map_nil, List.replicate, List.cons_append, List.nil_append, setOs, setTg, setTs, thaw, Bool.not_true, Bool.not_false, if_true, if_false, Bool.false_eq_true, Option.isSome_some, Option.isSome_none, biOp, binop, cmpop, subOp_tup, subOp_lst, subOp_str, subOp_dct, subOp_ref, asList, asDict, tagOf, isTag, List.any_cons, List.any_nil, Bool.or_false, Bool.false_or, Bool.or_true, Bool.true_or, Bool.and_true, Bool.true_and, Bool.and_false, Bool.false_and, decide_true, decide_false, Int.reduceLT, Int.reduceLE, Nat.reduceLT, Nat.reduceLeDiff, Nat.reduceAdd, Int.reduceAdd, Int.reduceSub, Int.reduceToNat, Int.reduceEq, Nat.reduceEqDiff, Nat.reduceBEq, Int.reduceBEq, Int.reduceNeg, Nat.reduceSub, Int.cast_ofNat_Int, Int.natCast_one, Int.natCast_zero, reduceCtorEq, eqOk_int, pyEq_int, ltOk_int, pyLt_int, pyEq_str, eqOk_str, eqOk_bl, pyEq_bl, ix0, ix1, ix2, List.length_cons, List.length_nil, beq_self_eq_true, ↓reduceIte] <;> rfl
    · simp only [lcT, Sh.v, lfV, EV0, EV1, EV2, EV3, EV4, EV5, EV6, k_lcT2_ok, k_lcT1_ok, k_lcE2_ok, k_lcE1_ok, k_for_nx, k_for_rt, k_wl_nx, k_wl_rt, fldAF, pick1_ok, peekS_f, peekS_l, peekS_d, retS_f, retS_l, retS_d, nxO_some, nxS_some, boxS_some, tryS_nx, tryS_rt, tryS_exc, asBl, asInt, asStr, Res.bind_ok, Res.bind_exc, Res.bind_bad, Res.inS_ok, Res.inS_exc, Res.inS_bad, Res.of_some, Res.of_none, Res.noX_ok, fin_nx, fin_rt, fin_exc, flat_non, flat_bl, flat_int, flat_str, List.getElem?_cons_zero, List.getElem?_cons_succ, List.getElem?_nil, List.set_cons_zero, List.set_cons_succ, Option.map_some, Option.map_none, Option.bind_some, Option.bind_none,
    startE, List.map_cons, List.map_nil, List.replicate, List.cons_append, List.nil_append, setOs, setTg, setTs, thaw, Bool.not_true, Bool.not_false, if_true, if_false, Bool.false_eq_true, Option.isSome_some, Option.isSome_none, biOp, binop, cmpop, subOp_tup, subOp_lst, subOp_str, subOp_dct, subOp_ref, asList, asDict, tagOf, isTag, List.any_cons, List.any_nil, Bool.or_false, Bool.false_or, Bool.or_true, Bool.true_or, Bool.and_true, Bool.true_and, Bool.and_false, Bool.false_and, decide_true, decide_false, Int.reduceLT, Int.reduceLE, Nat.reduceLT, Nat.reduceLeDiff, Nat.reduceAdd, Int.reduceAdd, Int.reduceSub, Int.reduceToNat, Int.reduceEq, Nat.reduceEqDiff, Nat.reduceBEq, Int.reduceBEq, Int.reduceNeg, Nat.reduceSub, Int.cast_ofNat_Int, Int.natCast_one, Int.natCast_zero, reduceCtorEq, eqOk_int, pyEq_int, ltOk_int, pyLt_int, pyEq_str, eqOk_str, eqOk_bl, pyEq_bl, ix0, ix1, ix2, List.length_cons, List.length_nil, beq_self_eq_true, ↓reduceIte] <;> rfl
  have h3 := srtset_eq s.nms (by omega) (o3 :: rest)
  simp only [biOp, asList, Option.bind_some, List.length_map] at h3
  have nv : (nmL.map fun l => Val.lst (l.map .str)) = [.lst [.str [97], .str [98], .str [99]], .lst [.str [120]], .lst [.str [115, 105, 122, 101], .str [97, 98, 99, 100, 101, 102, 103, 104]]] := rfl
  rw [nv] at b3
  refine ⟨o5, some (false, v2), some (false, s.v), some (true, .lst (s.lvs.map Sh.v)), some (false, bv), some (false, x2'), e1, ?_⟩
  simp only [forT, turn1B, d_law, env01, EV0, EV1, EV2, EV3, EV4, EV5, EV6, k_lcT2_ok, k_lcT1_ok, k_lcE2_ok, k_lcE1_ok, k_for_nx, k_for_rt, k_wl_nx, k_wl_rt, fldAF, pick1_ok, peekS_f, peekS_l, peekS_d, retS_f, retS_l, retS_d, nxO_some, nxS_some, boxS_some, tryS_nx, tryS_rt, tryS_exc, asBl, asInt, asStr, Res.bind_ok, Res.bind_exc, Res.bind_bad, Res.inS_ok, Res.inS_exc, Res.inS_bad, Res.of_some, Res.of_none, Res.noX_ok, fin_nx, fin_rt, fin_exc, flat_non, flat_bl, flat_int, flat_str, List.getElem?_cons_zero, List.getElem?_cons_succ, List.getElem?_nil, List.set_cons_zero, List.set_cons_succ, Option.map_some, Option.map_none, Option.bind_some, Option.bind_none,
    startE, List.map_cons, List.map_nil, List.replicate, List.cons_append, List.nil_append, setOs, setTg, setTs, thaw, Bool.not_true, Bool.not_false, if_true, if_false, Bool.false_eq_true, Option.isSome_some, Option.isSome_none, biOp, binop, cmpop, subOp_tup, subOp_lst, subOp_str, subOp_dct, subOp_ref, asList, asDict, tagOf, isTag, List.any_cons, List.any_nil, Bool.or_false, Bool.false_or, Bool.or_true, Bool.true_or, Bool.and_true, Bool.true_and, Bool.and_false, Bool.false_and, decide_true, decide_false, Int.reduceLT, Int.reduceLE, Nat.reduceLT, Nat.reduceLeDiff, Nat.reduceAdd, Int.reduceAdd, Int.reduceSub, Int.reduceToNat, Int.reduceEq, Nat.reduceEqDiff, Nat.reduceBEq, Int.reduceBEq, Int.reduceNeg, Nat.reduceSub, Int.cast_ofNat_Int, Int.natCast_one, Int.natCast_zero, reduceCtorEq, eqOk_int, pyEq_int, ltOk_int, pyLt_int, pyEq_str, eqOk_str, eqOk_bl, pyEq_bl, ix0, ix1, ix2, List.length_cons, List.length_nil, beq_self_eq_true, ↓reduceIte, a4, b3, d4, t1, t2, t3, isOp, List.length_map, Sh.lvs_len, t4, t5, itOp, walkOf, lc, h3, t6, t7, t8, t9, c3, e3, u1, u2, ib1, ib2]
def gr : Nat → Sh
  | 0 => .one
  | n + 1 => if n % 2 = 0 then .pair (gr n) (.nam [97]) else .to .one (gr n)
theorem gr_lv : ∀ n, (gr n).lv = n + 1
  | 0 => rfl
  | n + 1 => by
    simp only [gr]
    split <;> simp only [Sh.lv, gr_lv n] <;> omega
theorem gr_dp : ∀ n, (gr n).dp = n
  | 0 => rfl
  | n + 1 => by
    simp only [gr]
    split <;> simp only [Sh.dp, gr_dp n] <;> omega
theorem gr_ok : ∀ n, (gr n).ok = true
  | 0 => rfl
  | n + 1 => by
    simp only [gr]
    split <;> simp only [Sh.ok, gr_ok n, Bool.true_and, Bool.and_true] <;> rfl
theorem gr_loop {cal mk : CallF} (s0 s1 s4 s5 s6 s7 s8 : Slot) (st : Store) : ∀ (m n : Nat) (x2 : Slot), ∃ y2, forE C cal mk (.nm 2) [.asg 3 (.ife (.cmp .eq (.bin .mod (.var 2) (.cst (.int 2))) (.cst (.int 0))) (.tup [(.cst (.str [112, 97, 105, 114])), (.var 3), (.tup [(.cst (.str [110, 97, 109, 101])), (.cst (.str [97]))])]) (.tup [(.cst (.str [116, 111])), (.tup [(.cst (.str [111, 110, 101]))]), (.var 3)]))] (rangeV n m) [s0, s1, x2, some (false, (gr n).v), s4, s5, s6, s7, s8] st
    = .nx [s0, s1, y2, some (false, (gr (n + m)).v), s4, s5, s6, s7, s8] st
  | 0, n, x2 => ⟨x2, rfl⟩
  | m + 1, n, x2 => by
    obtain ⟨y2, h⟩ := gr_loop (cal := cal) (mk := mk) s0 s1 s4 s5 s6 s7 s8 st m (n + 1) (some (false, .int n))
    refine ⟨y2, ?_⟩
    have e : n + (m + 1) = n + 1 + m := by omega
    have e2 : (n : Int) + 1 = ((n + 1 : Nat) : Int) := by omega
    rw [e, ← h, rangeV, forE_cons, e2]
    by_cases c : n % 2 = 0
    · have c2 : (n : Int) % 2 = 0 := by omega
      have g : (gr (n + 1)).v = .tup [.str sPair, (gr n).v, .tup [.str sName, .str [97]]] := by simp only [gr, c, if_true, Sh.v]
      rw [g]
      simp only [forT, EV0, EV1, EV2, EV3, EV4, EV5, EV6, k_lcT2_ok, k_lcT1_ok, k_lcE2_ok, k_lcE1_ok, k_for_nx, k_for_rt, k_wl_nx, k_wl_rt, fldAF, pick1_ok, peekS_f, peekS_l, peekS_d, retS_f, retS_l, retS_d, nxO_some, nxS_some, boxS_some, tryS_nx, tryS_rt, tryS_exc, asBl, asInt, asStr, Res.bind_ok, Res.bind_exc, Res.bind_bad, Res.inS_ok, Res.inS_exc, Res.inS_bad, Res.of_some, Res.of_none, Res.noX_ok, fin_nx, fin_rt, fin_exc, flat_non, flat_bl, flat_int, flat_str, List.getElem?_cons_zero, List.getElem?_cons_succ, List.getElem?_nil, List.set_cons_zero, List.set_cons_succ, Option.map_some, Option.map_none, Option.bind_some, Option.bind_none,
    startE, List.map_cons, List.map_nil, List.replicate, List.cons_append, List.nil_append, setOs, setTg, setTs, thaw, Bool.not_true, Bool.not_false, if_true, if_false, Bool.false_eq_true, Option.isSome_some, Option.isSome_none, biOp, binop, cmpop, subOp_tup, subOp_lst, subOp_str, subOp_dct, subOp_ref, asList, asDict, tagOf, isTag, List.any_cons, List.any_nil, Bool.or_false, Bool.false_or, Bool.or_true, Bool.true_or, Bool.and_true, Bool.true_and, Bool.and_false, Bool.false_and, decide_true, decide_false, Int.reduceLT, Int.reduceLE, Nat.reduceLT, Nat.reduceLeDiff, Nat.reduceAdd, Int.reduceAdd, Int.reduceSub, Int.reduceToNat, Int.reduceEq, Nat.reduceEqDiff, Nat.reduceBEq, Int.reduceBEq, Int.reduceNeg, Nat.reduceSub, Int.cast_ofNat_Int, Int.natCast_one, Int.natCast_zero, reduceCtorEq, eqOk_int, pyEq_int, ltOk_int, pyLt_int, pyEq_str, eqOk_str, eqOk_bl, pyEq_bl, ix0, ix1, ix2, List.length_cons, List.length_nil, beq_self_eq_true, ↓reduceIte, c2] <;> rfl
    · have c2 : (n : Int) % 2 = 1 := by omega
      have g : (gr (n + 1)).v = .tup [.str sTo, .tup [.str sOne], (gr n).v] := by simp only [gr, c, if_false, Sh.v]
      rw [g]
      simp only [forT, EV0, EV1, EV2, EV3, EV4, EV5, EV6, k_lcT2_ok, k_lcT1_ok, k_lcE2_ok, k_lcE1_ok, k_for_nx, k_for_rt, k_wl_nx, k_wl_rt, fldAF, pick1_ok, peekS_f, peekS_l, peekS_d, retS_f, retS_l, retS_d, nxO_some, nxS_some, boxS_some, tryS_nx, tryS_rt, tryS_exc, asBl, asInt, asStr, Res.bind_ok, Res.bind_exc, Res.bind_bad, Res.inS_ok, Res.inS_exc, Res.inS_bad, Res.of_some, Res.of_none, Res.noX_ok, fin_nx, fin_rt, fin_exc, flat_non, flat_bl, flat_int, flat_str, List.getElem?_cons_zero, List.getElem?_cons_succ, List.getElem?_nil, List.set_cons_zero, List.set_cons_succ, Option.map_some, Option.map_none, Option.bind_some, Option.bind_none,
    startE, List.map_cons, List.map_nil, List.replicate, List.cons_append, List.nil_append, setOs, setTg, setTs, thaw, Bool.not_true, Bool.not_false, if_true, if_false, Bool.false_eq_true, Option.isSome_some, Option.isSome_none, biOp, binop, cmpop, subOp_tup, subOp_lst, subOp_str, subOp_dct, subOp_ref, asList, asDict, tagOf, isTag, List.any_cons, List.any_nil, Bool.or_false, Bool.false_or, Bool.or_true, Bool.true_or, Bool.and_true, Bool.true_and, Bool.and_false, Bool.false_and, decide_true, decide_false, Int.reduceLT, Int.reduceLE, Nat.reduceLT, Nat.reduceLeDiff, Nat.reduceAdd, Int.reduceAdd, Int.reduceSub, Int.reduceToNat, Int.reduceEq, Nat.reduceEqDiff, Nat.reduceBEq, Int.reduceBEq, Int.reduceNeg, Nat.reduceSub, Int.cast_ofNat_Int, Int.natCast_one, Int.natCast_zero, reduceCtorEq, eqOk_int, pyEq_int, ltOk_int, pyLt_int, pyEq_str, eqOk_str, eqOk_bl, pyEq_bl, ix0, ix1, ix2, List.length_cons, List.length_nil, beq_self_eq_true, ↓reduceIte, c2] <;> rfl
theorem law01 (H : Has01 C) (ns : List Int) (hn : ns.length ≤ 63) : ∃ st, evCall C 220 f_law [.scr ns] [] = .ok (false, .bl true) st := by
  rw [run_of H.law rfl]
  obtain ⟨vs, r1, r2⟩ := random_spec H.R (k := 218) (m := 1601) (by omega) hn []
  obtain ⟨env1, st1, l1, o1, y2, y4, y5, y6, y7, l2, l3, l4⟩ := forE_inv (C := C) (cal := evCall C 219) (mk := (calls C 219).2) (tg := .nm 2) (body := turn1B)
    (fun _ env st => ∃ (o : Ob) (y2 y4 y5 y6 y7 : Slot), Rnd o ∧ st = [o] ∧ env = env01 (.scr ns) y2 y4 y5 y6 y7)
    (fun x r env st ⟨o, y2, y4, y5, y6, y7, h1, h2, h3⟩ => by
      subst h2 h3
      obtain ⟨o', z2, z4, z5, z6, z7, g1, g2⟩ := turn01 H (sc := .scr ns) (v2 := x) (rest := []) (x2 := y2) (x4 := y4) (x5 := y5) (x6 := y6) (x7 := y7) h1
      exact ⟨_, _, g2, o', z2, z4, z5, z6, z7, g1, rfl, rfl⟩)
    (rangeV 0 4) (env01 (.scr ns) none none none none none) [.lst vs]
    ⟨.lst vs, none, none, none, none, none, r1, rfl, rfl⟩
  subst l3 l4
  obtain ⟨z2, gl⟩ := gr_loop (C := C) (cal := evCall C 219) (mk := (calls C 219).2) (some (false, .scr ns)) (some (false, .ref 0)) y4 y5 y6 y7 none [o1] 199 0 y2
  have g1 := shape_spec H.L.S (gr 199) (k := 219) [o1] (by rw [gr_dp]; omega) (gr_ok _) (by rw [gr_lv]; omega)
  have g2 := leaves_spec H.L (gr 199) (k := 219) [o1] (by rw [gr_dp]; omega) (gr_ok _) (by rw [gr_lv]; omega)
  rw [gr_lv] at g2
  have g3 := shape_many H.L.S (.pair (gr 199) .one) (k := 219) [o1] (by simp only [Sh.dp, gr_dp]; omega) (by simp only [Sh.ok, gr_ok]; rfl) (by simp only [Sh.lv, gr_lv]; omega)
  rw [Nat.zero_add] at gl
  have g0 : (gr 0).v = .tup [.str sOne] := rfl
  have z0 : ((0 : Nat) : Int) = 0 := rfl
  rw [g0, z0] at gl
  simp only [Sh.v] at g3
  have z1 : (((199 + 1 : Nat) : Int)) = 200 := rfl
  rw [z1] at g2
  refine ⟨[o1], ?_⟩
  simp only [env01] at l1
  simp only [turn1B, d_law] at l1
  generalize (gr 199).v = G at gl g1 g2 g3
  simp only [d_law, EV0, EV1, EV2, EV3, EV4, EV5, EV6, k_lcT2_ok, k_lcT1_ok, k_lcE2_ok, k_lcE1_ok, k_for_nx, k_for_rt, k_wl_nx, k_wl_rt, fldAF, pick1_ok, peekS_f, peekS_l, peekS_d, retS_f, retS_l, retS_d, nxO_some, nxS_some, boxS_some, tryS_nx, tryS_rt, tryS_exc, asBl, asInt, asStr, Res.bind_ok, Res.bind_exc, Res.bind_bad, Res.inS_ok, Res.inS_exc, Res.inS_bad, Res.of_some, Res.of_none, Res.noX_ok, fin_nx, fin_rt, fin_exc, flat_non, flat_bl, flat_int, flat_str, List.getElem?_cons_zero, List.getElem?_cons_succ, List.getElem?_nil, List.set_cons_zero, List.set_cons_succ, Option.map_some, Option.map_none, Option.bind_some, Option.bind_none,
    startE, List.map_cons, List.map_nil, List.replicate, List.cons_append, List.nil_append, setOs, setTg, setTs, thaw, Bool.not_true, Bool.not_false, if_true, if_false, Bool.false_eq_true, Option.isSome_some, Option.isSome_none, biOp, binop, cmpop, subOp_tup, subOp_lst, subOp_str, subOp_dct, subOp_ref, asList, asDict, tagOf, isTag, List.any_cons, List.any_nil, Bool.or_false, Bool.false_or, Bool.or_true, Bool.true_or, Bool.and_true, Bool.true_and, Bool.and_false, Bool.false_and, decide_true, decide_false, Int.reduceLT, Int.reduceLE, Nat.reduceLT, Nat.reduceLeDiff, Nat.reduceAdd, Int.reduceAdd, Int.reduceSub, Int.reduceToNat, Int.reduceEq, Nat.reduceEqDiff, Nat.reduceBEq, Int.reduceBEq, Int.reduceNeg, Nat.reduceSub, Int.cast_ofNat_Int, Int.natCast_one, Int.natCast_zero, reduceCtorEq, eqOk_int, pyEq_int, ltOk_int, pyLt_int, pyEq_str, eqOk_str, eqOk_bl, pyEq_bl, ix0, ix1, ix2, List.length_cons, List.length_nil, beq_self_eq_true, ↓reduceIte, r2, box, itOp, l1, gl, g1, g2, g3, isOp, ib2]
end
end Lk
set_option linter.all false
set_option maxRecDepth 100000
namespace Lk
open PySem
/-! printed by gen.py: names and tables -/
def n_is_name : List Str := [Str.ofString "value", Str.ofString "sign"]
def n_is_form : List Str := [Str.ofString "value"]
def n_leaf_count : List Str := [Str.ofString "shape"]
def n_is_shape : List Str := [Str.ofString "value"]
def n_check_shape : List Str := [Str.ofString "shape"]
def n_leaves_of : List Str := [Str.ofString "shape"]
def n_names_of : List Str := [Str.ofString "shape", Str.ofString "leaf"]
def n_order_of : List Str := [Str.ofString "shape", Str.ofString "first", Str.ofString "second"]
def n_leaves : List Str := [Str.ofString "shape"]
def n_names : List Str := [Str.ofString "shape"]
def n_order : List Str := [Str.ofString "shape"]
def n__law_random : List Str := [Str.ofString "_law_script", Str.ofString "_law_salt", Str.ofString "_law_seed", Str.ofString "_law_cell"]
def n__law_below : List Str := [Str.ofString "_law_d", Str.ofString "_law_size", Str.ofString "_law_result"]
def n__law_pick : List Str := [Str.ofString "_law_d", Str.ofString "_law_items"]
def n__law_equal : List Str := [Str.ofString "_law_actual", Str.ofString "_law_expected", Str.ofString "_law_k", Str.ofString "_law_key"]
def n__law_shape : List Str := [Str.ofString "_law_d", Str.ofString "_law_many", Str.ofString "_law_names_so", Str.ofString "_law_first", Str.ofString "_law_word", Str.ofString "_law_at"]
def n__law_leaves : List Str := [Str.ofString "_law_shape_here"]
def n__law_order : List Str := [Str.ofString "_law_shape_here", Str.ofString "_law_first", Str.ofString "_law_second"]
def n__law_bad : List Str := [Str.ofString "_law_d", Str.ofString "_law_shape_here", Str.ofString "_law_odd"]
def n__law_told : List Str := [Str.ofString "_law_value", Str.ofString "_law_found"]
def n_law : List Str := [Str.ofString "_law_script", Str.ofString "_law_d", Str.ofString "_law_turn", Str.ofString "_law_great", Str.ofString "_law_shape_here", Str.ofString "_law_some", Str.ofString "_law_bad_here", Str.ofString "_law_value", Str.ofString "_law_leaf"]
def attL : List Str := [Str.ofString "__init__", Str.ofString "__len__", Str.ofString "__contains__", Str.ofString "__eq__", Str.ofString "shape", Str.ofString "steps", Str.ofString "part_here", Str.ofString "make_plain", Str.ofString "merge", Str.ofString "spread", Str.ofString "do", Str.ofString "insert", Str.ofString "place", Str.ofString "index", Str.ofString "most", Str.ofString "order", Str.ofString "page", Str.ofString "past", Str.ofString "future", Str.ofString "usable", Str.ofString "find", Str.ofString "find_renamed", Str.ofString "become", Str.ofString "entries", Str.ofString "strike", Str.ofString "put", Str.ofString "undo", Str.ofString "redo", Str.ofString "name", Str.ofString "text", Str.ofString "spot", Str.ofString "many", Str.ofString "owed", Str.ofString "next_sign", Str.ofString "leaf", Str.ofString "has_room", Str.ofString "whole", Str.ofString "need", Str.ofString "part", Str.ofString "at"]
def attN (n : Nat) : Str := match attL[n]? with
  | some s => s
  | none => ⟨#[1000000 + n]⟩
theorem attN_inj : ∀ i j, i < 100 → j < 100 → attN i = attN j → i = j := by
  have h : ∀ i, i < 100 → ∀ j, j < 100 → attN i = attN j → i = j := by decide +kernel
  exact fun i j hi hj => h i hi j hj
def tb_k01 : Tb where
  fns := [(f_is_name, d_is_name), (f_is_form, d_is_form), (f_leaf_count, d_leaf_count), (f_is_shape, d_is_shape), (f_check_shape, d_check_shape), (f_leaves_of, d_leaves_of), (f_names_of, d_names_of), (f_order_of, d_order_of), (f_leaves, d_leaves), (f_names, d_names), (f_order, d_order), (f__law_random, d__law_random), (f__law_below, d__law_below), (f__law_pick, d__law_pick), (f__law_equal, d__law_equal), (f__law_shape, d__law_shape), (f__law_leaves, d__law_leaves), (f__law_order, d__law_order), (f__law_bad, d__law_bad), (f__law_told, d__law_told), (f_law, d_law)]
  gs := [(0, Str.ofString "is_name"), (1, Str.ofString "is_form"), (2, Str.ofString "leaf_count"), (3, Str.ofString "is_shape"), (4, Str.ofString "check_shape"), (5, Str.ofString "leaves_of"), (6, Str.ofString "names_of"), (7, Str.ofString "order_of"), (8, Str.ofString "leaves"), (9, Str.ofString "names"), (10, Str.ofString "order"), (11, Str.ofString "_law_random"), (12, Str.ofString "_law_below"), (13, Str.ofString "_law_pick"), (14, Str.ofString "_law_equal"), (15, Str.ofString "_law_shape"), (16, Str.ofString "_law_leaves"), (17, Str.ofString "_law_order"), (18, Str.ofString "_law_bad"), (19, Str.ofString "_law_told"), (20, Str.ofString "law")]
  cl := []
  ini := []
  mt := []
  fl := []
  gl := [(0, (Str.ofString "LETTERS", .str [97, 98, 99, 100, 101, 102, 103, 104, 105, 106, 107, 108, 109, 110, 111, 112, 113, 114, 115, 116, 117, 118, 119, 120, 121, 122])), (1, (Str.ofString "MOST_LEAVES", .int 200)), (2, (Str.ofString "ONE", .tup [.str [111, 110, 101]]))]
  xc := [(0, (Str.ofString "BadShape", none))]
  an := attN
abbrev cfg_k01 : Cfg := tb_k01.cfg
/- attribute names: 0 __init__, 1 __len__, 2 __contains__, 3 __eq__, 4 shape, 5 steps, 6 part_here, 7 make_plain, 8 merge, 9 spread, 10 do, 11 insert, 12 place, 13 index, 14 most, 15 order, 16 page, 17 past, 18 future, 19 usable, 20 find, 21 find_renamed, 22 become, 23 entries, 24 strike, 25 put, 26 undo, 27 redo, 28 name, 29 text, 30 spot, 31 many, 32 owed, 33 next_sign, 34 leaf, 35 has_room, 36 whole, 37 need, 38 part, 39 at -/
end Lk
set_option Elab.async false
set_option linter.all false
set_option maxRecDepth 100000
set_option maxHeartbeats 0
namespace Lk.K01
open PySem PySem.W PySem.Calls PyProof.Rows L2
def top (i : Nat) : Stmt := PySem.Challenge.pw_likeshapes_k01_whole_shapes.main.body.getD i (.Pass ⟨0, 0, 0, 0⟩)
abbrev s_is_name : Stmt := top 7
def e_is_name : DefE := ⟨0, (Str.ofString "is_name", none), Str.ofString "is_name", Str.ofString "is_name", s_is_name, n_is_name, [Str.ofString "value"], d_is_name⟩
theorem ok_is_name : DefOk tb_k01 e_is_name := ⟨rfl, ⟨rfl, rfl, rfl, by decide +kernel, rfl, by decide +kernel, by decide +kernel⟩, rfl, rfl, by decide +kernel, fun _ _ _ _ _ _ us hl => match us, hl with | [_], _ => rfl⟩
abbrev s_is_form : Stmt := top 8
def e_is_form : DefE := ⟨1, (Str.ofString "is_form", none), Str.ofString "is_form", Str.ofString "is_form", s_is_form, n_is_form, [Str.ofString "value"], d_is_form⟩
theorem ok_is_form : DefOk tb_k01 e_is_form := ⟨rfl, ⟨rfl, rfl, rfl, by decide +kernel, rfl, by decide +kernel, by decide +kernel⟩, rfl, rfl, by decide +kernel, fun _ _ _ _ _ _ us hl => match us, hl with | [_], _ => rfl⟩
abbrev s_leaf_count : Stmt := top 9
def e_leaf_count : DefE := ⟨2, (Str.ofString "leaf_count", none), Str.ofString "leaf_count", Str.ofString "leaf_count", s_leaf_count, n_leaf_count, [Str.ofString "shape"], d_leaf_count⟩
theorem ok_leaf_count : DefOk tb_k01 e_leaf_count := ⟨rfl, ⟨rfl, rfl, rfl, by decide +kernel, rfl, by decide +kernel, by decide +kernel⟩, rfl, rfl, by decide +kernel, fun _ _ _ _ _ _ us hl => match us, hl with | [_], _ => rfl⟩
abbrev s_is_shape : Stmt := top 10
def e_is_shape : DefE := ⟨3, (Str.ofString "is_shape", none), Str.ofString "is_shape", Str.ofString "is_shape", s_is_shape, n_is_shape, [Str.ofString "value"], d_is_shape⟩
theorem ok_is_shape : DefOk tb_k01 e_is_shape := ⟨rfl, ⟨rfl, rfl, rfl, by decide +kernel, rfl, by decide +kernel, by decide +kernel⟩, rfl, rfl, by decide +kernel, fun _ _ _ _ _ _ us hl => match us, hl with | [_], _ => rfl⟩
abbrev s_check_shape : Stmt := top 11
def e_check_shape : DefE := ⟨4, (Str.ofString "check_shape", none), Str.ofString "check_shape", Str.ofString "check_shape", s_check_shape, n_check_shape, [Str.ofString "shape"], d_check_shape⟩
theorem ok_check_shape : DefOk tb_k01 e_check_shape := ⟨rfl, ⟨rfl, rfl, rfl, by decide +kernel, rfl, by decide +kernel, by decide +kernel⟩, rfl, rfl, by decide +kernel, fun _ _ _ _ _ _ us hl => match us, hl with | [_], _ => rfl⟩
abbrev s_leaves_of : Stmt := top 12
def e_leaves_of : DefE := ⟨5, (Str.ofString "leaves_of", none), Str.ofString "leaves_of", Str.ofString "leaves_of", s_leaves_of, n_leaves_of, [Str.ofString "shape"], d_leaves_of⟩
theorem ok_leaves_of : DefOk tb_k01 e_leaves_of := ⟨rfl, ⟨rfl, rfl, rfl, by decide +kernel, rfl, by decide +kernel, by decide +kernel⟩, rfl, rfl, by decide +kernel, fun _ _ _ _ _ _ us hl => match us, hl with | [_], _ => rfl⟩
abbrev s_names_of : Stmt := top 13
def e_names_of : DefE := ⟨6, (Str.ofString "names_of", none), Str.ofString "names_of", Str.ofString "names_of", s_names_of, n_names_of, [Str.ofString "shape"], d_names_of⟩
theorem ok_names_of : DefOk tb_k01 e_names_of := ⟨rfl, ⟨rfl, rfl, rfl, by decide +kernel, rfl, by decide +kernel, by decide +kernel⟩, rfl, rfl, by decide +kernel, fun _ _ _ _ _ _ us hl => match us, hl with | [_], _ => rfl⟩
abbrev s_order_of : Stmt := top 14
def e_order_of : DefE := ⟨7, (Str.ofString "order_of", none), Str.ofString "order_of", Str.ofString "order_of", s_order_of, n_order_of, [Str.ofString "shape"], d_order_of⟩
theorem ok_order_of : DefOk tb_k01 e_order_of := ⟨rfl, ⟨rfl, rfl, rfl, by decide +kernel, rfl, by decide +kernel, by decide +kernel⟩, rfl, rfl, by decide +kernel, fun _ _ _ _ _ _ us hl => match us, hl with | [_], _ => rfl⟩
abbrev s_leaves : Stmt := top 15
def e_leaves : DefE := ⟨8, (Str.ofString "leaves", none), Str.ofString "leaves", Str.ofString "leaves", s_leaves, n_leaves, [Str.ofString "shape"], d_leaves⟩
theorem ok_leaves : DefOk tb_k01 e_leaves := ⟨rfl, ⟨rfl, rfl, rfl, by decide +kernel, rfl, by decide +kernel, by decide +kernel⟩, rfl, rfl, by decide +kernel, fun _ _ _ _ _ _ us hl => match us, hl with | [_], _ => rfl⟩
abbrev s_names : Stmt := top 16
def e_names : DefE := ⟨9, (Str.ofString "names", none), Str.ofString "names", Str.ofString "names", s_names, n_names, [Str.ofString "shape"], d_names⟩
theorem ok_names : DefOk tb_k01 e_names := ⟨rfl, ⟨rfl, rfl, rfl, by decide +kernel, rfl, by decide +kernel, by decide +kernel⟩, rfl, rfl, by decide +kernel, fun _ _ _ _ _ _ us hl => match us, hl with | [_], _ => rfl⟩
abbrev s_order : Stmt := top 17
def e_order : DefE := ⟨10, (Str.ofString "order", none), Str.ofString "order", Str.ofString "order", s_order, n_order, [Str.ofString "shape"], d_order⟩
theorem ok_order : DefOk tb_k01 e_order := ⟨rfl, ⟨rfl, rfl, rfl, by decide +kernel, rfl, by decide +kernel, by decide +kernel⟩, rfl, rfl, by decide +kernel, fun _ _ _ _ _ _ us hl => match us, hl with | [_], _ => rfl⟩
abbrev s__law_random : Stmt := top 19
def e__law_random : DefE := ⟨11, (Str.ofString "_law_random", none), Str.ofString "_law_random", Str.ofString "_law_random", s__law_random, n__law_random, [Str.ofString "_law_script", Str.ofString "_law_salt"], d__law_random⟩
theorem ok__law_random : DefOk tb_k01 e__law_random := ⟨rfl, ⟨rfl, rfl, rfl, by decide +kernel, rfl, by decide +kernel, by decide +kernel⟩, rfl, rfl, by decide +kernel, fun _ _ _ _ _ _ us hl => match us, hl with | [_, _], _ => rfl⟩
abbrev s__law_below : Stmt := top 20
def e__law_below : DefE := ⟨12, (Str.ofString "_law_below", none), Str.ofString "_law_below", Str.ofString "_law_below", s__law_below, n__law_below, [Str.ofString "_law_d", Str.ofString "_law_size"], d__law_below⟩
theorem ok__law_below : DefOk tb_k01 e__law_below := ⟨rfl, ⟨rfl, rfl, rfl, by decide +kernel, rfl, by decide +kernel, by decide +kernel⟩, rfl, rfl, by decide +kernel, fun _ _ _ _ _ _ us hl => match us, hl with | [_, _], _ => rfl⟩
abbrev s__law_pick : Stmt := top 21
def e__law_pick : DefE := ⟨13, (Str.ofString "_law_pick", none), Str.ofString "_law_pick", Str.ofString "_law_pick", s__law_pick, n__law_pick, [Str.ofString "_law_d", Str.ofString "_law_items"], d__law_pick⟩
theorem ok__law_pick : DefOk tb_k01 e__law_pick := ⟨rfl, ⟨rfl, rfl, rfl, by decide +kernel, rfl, by decide +kernel, by decide +kernel⟩, rfl, rfl, by decide +kernel, fun _ _ _ _ _ _ us hl => match us, hl with | [_, _], _ => rfl⟩
abbrev s__law_equal : Stmt := top 22
def e__law_equal : DefE := ⟨14, (Str.ofString "_law_equal", none), Str.ofString "_law_equal", Str.ofString "_law_equal", s__law_equal, n__law_equal, [Str.ofString "_law_actual", Str.ofString "_law_expected"], d__law_equal⟩
theorem ok__law_equal : DefOk tb_k01 e__law_equal := ⟨rfl, ⟨rfl, rfl, rfl, by decide +kernel, rfl, by decide +kernel, by decide +kernel⟩, rfl, rfl, by decide +kernel, fun _ _ _ _ _ _ us hl => match us, hl with | [_, _], _ => rfl⟩
abbrev s__law_shape : Stmt := top 23
def e__law_shape : DefE := ⟨15, (Str.ofString "_law_shape", none), Str.ofString "_law_shape", Str.ofString "_law_shape", s__law_shape, n__law_shape, [Str.ofString "_law_d", Str.ofString "_law_many", Str.ofString "_law_names_so"], d__law_shape⟩
theorem ok__law_shape : DefOk tb_k01 e__law_shape := ⟨rfl, ⟨rfl, rfl, rfl, by decide +kernel, rfl, by decide +kernel, by decide +kernel⟩, rfl, rfl, by decide +kernel, fun _ _ _ _ _ _ us hl => match us, hl with | [_, _, _], _ => rfl⟩
abbrev s__law_leaves : Stmt := top 24
def e__law_leaves : DefE := ⟨16, (Str.ofString "_law_leaves", none), Str.ofString "_law_leaves", Str.ofString "_law_leaves", s__law_leaves, n__law_leaves, [Str.ofString "_law_shape_here"], d__law_leaves⟩
theorem ok__law_leaves : DefOk tb_k01 e__law_leaves := ⟨rfl, ⟨rfl, rfl, rfl, by decide +kernel, rfl, by decide +kernel, by decide +kernel⟩, rfl, rfl, by decide +kernel, fun _ _ _ _ _ _ us hl => match us, hl with | [_], _ => rfl⟩
abbrev s__law_order : Stmt := top 25
def e__law_order : DefE := ⟨17, (Str.ofString "_law_order", none), Str.ofString "_law_order", Str.ofString "_law_order", s__law_order, n__law_order, [Str.ofString "_law_shape_here"], d__law_order⟩
theorem ok__law_order : DefOk tb_k01 e__law_order := ⟨rfl, ⟨rfl, rfl, rfl, by decide +kernel, rfl, by decide +kernel, by decide +kernel⟩, rfl, rfl, by decide +kernel, fun _ _ _ _ _ _ us hl => match us, hl with | [_], _ => rfl⟩
abbrev s__law_bad : Stmt := top 26
def e__law_bad : DefE := ⟨18, (Str.ofString "_law_bad", none), Str.ofString "_law_bad", Str.ofString "_law_bad", s__law_bad, n__law_bad, [Str.ofString "_law_d", Str.ofString "_law_shape_here"], d__law_bad⟩
theorem ok__law_bad : DefOk tb_k01 e__law_bad := ⟨rfl, ⟨rfl, rfl, rfl, by decide +kernel, rfl, by decide +kernel, by decide +kernel⟩, rfl, rfl, by decide +kernel, fun _ _ _ _ _ _ us hl => match us, hl with | [_, _], _ => rfl⟩
abbrev s__law_told : Stmt := top 27
def e__law_told : DefE := ⟨19, (Str.ofString "_law_told", none), Str.ofString "_law_told", Str.ofString "_law_told", s__law_told, n__law_told, [Str.ofString "_law_value"], d__law_told⟩
theorem ok__law_told : DefOk tb_k01 e__law_told := ⟨rfl, ⟨rfl, rfl, rfl, by decide +kernel, rfl, by decide +kernel, by decide +kernel⟩, rfl, rfl, by decide +kernel, fun _ _ _ _ _ _ us hl => match us, hl with | [_], _ => rfl⟩
abbrev s_law : Stmt := top 28
def e_law : DefE := ⟨20, (Str.ofString "law", none), Str.ofString "law", Str.ofString "law", s_law, n_law, [Str.ofString "_law_script"], d_law⟩
theorem ok_law : DefOk tb_k01 e_law := ⟨rfl, ⟨rfl, rfl, rfl, by decide +kernel, rfl, by decide +kernel, by decide +kernel⟩, rfl, rfl, by decide +kernel, fun _ _ _ _ _ _ us hl => match us, hl with | [_], _ => rfl⟩
def DL : List DefE := [e_is_name, e_is_form, e_leaf_count, e_is_shape, e_check_shape, e_leaves_of, e_names_of, e_order_of, e_leaves, e_names, e_order, e__law_random, e__law_below, e__law_pick, e__law_equal, e__law_shape, e__law_leaves, e__law_order, e__law_bad, e__law_told, e_law]
def XL : List XinE := []
theorem hD : ∀ e ∈ DL, DefOk tb_k01 e := List.forall_mem_cons.mpr ⟨ok_is_name, List.forall_mem_cons.mpr ⟨ok_is_form, List.forall_mem_cons.mpr ⟨ok_leaf_count, List.forall_mem_cons.mpr ⟨ok_is_shape, List.forall_mem_cons.mpr ⟨ok_check_shape, List.forall_mem_cons.mpr ⟨ok_leaves_of, List.forall_mem_cons.mpr ⟨ok_names_of, List.forall_mem_cons.mpr ⟨ok_order_of, List.forall_mem_cons.mpr ⟨ok_leaves, List.forall_mem_cons.mpr ⟨ok_names, List.forall_mem_cons.mpr ⟨ok_order, List.forall_mem_cons.mpr ⟨ok__law_random, List.forall_mem_cons.mpr ⟨ok__law_below, List.forall_mem_cons.mpr ⟨ok__law_pick, List.forall_mem_cons.mpr ⟨ok__law_equal, List.forall_mem_cons.mpr ⟨ok__law_shape, List.forall_mem_cons.mpr ⟨ok__law_leaves, List.forall_mem_cons.mpr ⟨ok__law_order, List.forall_mem_cons.mpr ⟨ok__law_bad, List.forall_mem_cons.mpr ⟨ok__law_told, List.forall_mem_cons.mpr ⟨ok_law, fun _ h => absurd h (by simp)⟩⟩⟩⟩⟩⟩⟩⟩⟩⟩⟩⟩⟩⟩⟩⟩⟩⟩⟩⟩⟩
theorem hX : ∀ e ∈ XL, XinOk tb_k01 e := fun _ h => absurd h (by simp [XL])
theorem hB : tb_k01.defB DL XL = true := by decide +kernel
abbrev R : OpenRow := OpenLaw.row PySem.Challenge.rw_likeshapes_k01_whole_shapes
def nms0 : List PySem.Str := ["LikeError", "BadShape", "LETTERS", "MOST_LEAVES", "ONE", "is_name", "is_form", "leaf_count", "is_shape", "check_shape", "leaves_of", "names_of", "order_of", "leaves", "names", "order", "_law_random", "_law_below", "_law_pick", "_law_equal", "_law_shape", "_law_leaves", "_law_order", "_law_bad", "_law_told"]
abbrev nms : List PySem.Str := nms0
theorem run (w : World) : HandSHeadRun.RunEq R (view R.prog [28]) (hkOf tb_k01 DL XL) (obOf tb_k01 DL XL) 4000 nms w := by
  intro os
  kernel_rfl
theorem last (hp : ∀ ns : List Int, ns.length ≤ 63 → ∃ st, evCall tb_k01.cfg 220 f_law [.scr ns] [] = .ok (false, .bl true) st) : PySem.Challenge.rw_likeshapes_k01_whole_shapes.Holds := by
  w_on; o_law
  refine HandSHeadRun.head_any (r := R) (q := view R.prog [28]) (H := hkOf tb_k01 DL XL) (ob := obOf tb_k01 DL XL) (M := 4000) (loose := nms) (d := HandSHeadRun.topDef R.prog 28) (kwd := []) obOf_eq
    (by kernel_rfl) (fun s => by kernel_rfl) run (by kernel_rfl) (by kernel_rfl) (by kernel_rfl) (by rfl) (by first | assumption | decide +kernel) (by decide +kernel) ⟨rfl, rfl, rfl, rfl, rfl, by decide +kernel⟩ ?hw ?hc
  case hw => w_witness2
  case hc =>
    exact law_walk (l := PySem.Challenge.rw_likeshapes_k01_whole_shapes) (T := tb_k01) (DL := DL) (XL := XL) (k := 220) (e := e_law) (x := Str.ofString "_law_script") attN_inj rfl (by kernel_rfl) ⟨rfl, by decide, by decide⟩ hD hX hB (by simp [DL]) rfl (by kernel_rfl) (by kernel_rfl) hp
end Lk.K01
set_option maxRecDepth 100000
namespace Lk
theorem has01 : Has01 tb_k01.cfg where
  R := ⟨rfl, rfl, rfl⟩
  L := ⟨by constructor <;> rfl, rfl, rfl, rfl, rfl, rfl, rfl, rfl, rfl⟩
  eq := rfl
  sh := rfl
  bd := rfl
  td := rfl
  law := rfl
  x0 := rfl
end Lk
theorem PySem.Challenge.cw_likeshapes_k01_whole_shapes_holds : PySem.Challenge.rw_likeshapes_k01_whole_shapes.Holds :=
  Lk.K01.last fun ns hn => Lk.law01 Lk.has01 ns hn

import PyProof.Rows.All
import Wide.All
import OpenK.AllK
import Wide.FinOn
import HandS.ForMost
import HandS.WordsExc
import HandS.Walk
import HandS.TupAny
import KE.SortData
import KE.DataMinMax
import HandS.Lambda
import HandS.Wide
import HandS.Steps
import HandS.Style
import HandS.SetFor
import HandS.Strs
import HandS.SortInts
import HandS.Conv
import PyProof.ReprReads
import PyProof.ReprRoads
import HandS.RaiseMore
import HandS.CallSlots
import HandS.ExcOwn
import HandS.Defaults
import HandS.Iter
import HandS.Zip
import KE.GoesMore
import HandS.Star
import HandS.ExcIs
import HandS.ExcField
import HandS.IsInst
import HandS.More
import HandS.TryMany
import HandS.TryOnly
import HandS.ForSpec
import KE.OsGo
import HandS.Ends
import HandS.EndTab
import KE.KNestM
import HandS.HeadHook1
import HandS.HeadHook2
import HandS.HeadHook3
import HandS.HeadHook4
import PyProof.ReprLen
import PySem.Challenge.RW_nearlots_k44_numbers_of_maps
section
set_option autoImplicit false
set_option linter.all false
set_option maxRecDepth 100000
/-! MpCore: data values, a small syntax without positions, its evaluator. -/
namespace Mp
abbrev Sx := List Nat
/-- values: texts by their codes; frozen lists and dicts by value; live objects by their place in the store -/
inductive D where
  | non | bl (b : Bool) | int (i : Int) | str (s : Sx)
  | tup (xs : List D) | lst (xs : List D) | dic (ks vs : List D)
  | obj (i : Nat) | lam (i : Nat) | exc (c : Nat) (d : Option D)
  deriving Inhabited
/-- what stands in the store -/
inductive Obj where
  | lst (xs : List D) | dic (ks vs : List D) | ins (c : Nat) (fs : List (Sx × D))
  deriving Inhabited
abbrev Store := List Obj
inductive R (α : Type) where
  | ok (a : α) (st : Store) | err (c : Nat) (d : Option D) (st : Store) | bad
abbrev M (α : Type) := Store → R α
def ret {α : Type} (a : α) : M α := fun st => .ok a st
def bad {α : Type} : M α := fun _ => .bad
def R.then {α β : Type} (r : R α) (f : α → M β) : R β := match r with
  | .ok a st => f a st
  | .err c d st => .err c d st
  | .bad => .bad
def bnd {α β : Type} (m : M α) (f : α → M β) : M β := fun st => (m st).then f
instance : Monad M where
  pure := ret
  bind := bnd
def opt {α : Type} (o : Option α) : M α := match o with
  | some a => ret a
  | none => bad
def push (o : Obj) : M D := fun st => .ok (.obj st.length) (st ++ [o])
def new (lv : Bool) (xs : List D) : M D := if lv then push (.lst xs) else ret (.lst xs)
def look (i : Nat) : M Obj := fun st => match st[i]? with
  | some o => .ok o st
  | none => .bad
def write (i : Nat) (o : Obj) : M Unit := fun st => if i < st.length then .ok () (st.set i o) else .bad

/-! ### values -/
def toPyL (f : D → PySem.PyData) : List D → List PySem.PyData
  | [] => []
  | x :: xs => f x :: toPyL f xs
abbrev S (l : Sx) : PySem.Str := ⟨l.toArray⟩
mutual
def D.py : D → PySem.PyData
  | .non => .none
  | .bl b => .bool b
  | .int i => .int i
  | .str s => .str (S s)
  | .tup xs => .tuple (pyAll xs)
  | .lst xs => .list (pyAll xs)
  | .dic ks vs => .dict ((pyAll ks).zip (pyAll vs))
  | .obj _ => .none
  | .lam _ => .none
  | .exc _ _ => .none
def pyAll : List D → List PySem.PyData
  | [] => []
  | x :: xs => x.py :: pyAll xs
end
/-- no function, no error: these stand at names alone -/
def D.plain : D → Bool
  | .lam _ => false
  | .exc _ _ => false
  | _ => true
-- nothing but data: no objects, functions, errors, dicts
mutual
def D.flat : D → Bool
  | .non => true
  | .bl _ => true
  | .int _ => true
  | .str s => s.all fun c => decide (c < 1114112)
  | .tup xs => flatAll xs
  | .lst xs => flatAll xs
  | .dic _ _ => false
  | .obj _ => false
  | .lam _ => false
  | .exc _ _ => false
def flatAll : List D → Bool
  | [] => true
  | x :: xs => x.flat && flatAll xs
end
mutual
def D.deep : D → Nat
  | .tup xs => deepAll xs + 1
  | .lst xs => deepAll xs + 1
  | .dic _ _ => 0
  | .non => 0
  | .bl _ => 0
  | .int _ => 0
  | .str _ => 0
  | .obj _ => 0
  | .lam _ => 0
  | .exc _ _ => 0
def deepAll : List D → Nat
  | [] => 0
  | x :: xs => max x.deep (deepAll xs)
end
/-- data that two rules of the machine take: not too deep -/
def D.good (d : D) : Bool := d.flat && decide (d.deep ≤ 60)
def goodAll (ds : List D) : Bool := flatAll ds && decide (deepAll ds ≤ 60)
def b2i (b : Bool) : Int := if b then 1 else 0
-- ==
mutual
def D.eqv : D → D → Bool
  | .non, y => match y with | .non => true | _ => false
  | .bl a, y => match y with | .bl b => a == b | .int j => decide (b2i a = j) | _ => false
  | .int i, y => match y with | .bl b => decide (i = b2i b) | .int j => decide (i = j) | _ => false
  | .str x, y => match y with | .str z => decide (x = z) | _ => false
  | .tup xs, y => match y with | .tup ys => eqvAll xs ys | _ => false
  | .lst xs, y => match y with | .lst ys => eqvAll xs ys | _ => false
  | .dic _ _, _ => false
  | .obj _, _ => false
  | .lam _, _ => false
  | .exc _ _, _ => false
def eqvAll : List D → List D → Bool
  | [], ys => ys.isEmpty
  | x :: xs, ys => match ys with | y :: ys => x.eqv y && eqvAll xs ys | [] => false
end
/-- the first difference of two code lists: x < y -/
def ltS : Sx → Sx → Bool
  | _, [] => false
  | [], _ :: _ => true
  | a :: x, b :: y => decide (a < b) || (decide (a = b) && ltS x y)
def num? : D → Option Int
  | .int i => some i
  | .bl b => some (b2i b)
  | _ => none
-- < ; none: not comparable
mutual
def D.lt? : D → D → Option Bool
  | .tup xs, y => match y with | .tup ys => ltAll xs ys | _ => none
  | .lst xs, y => match y with | .lst ys => ltAll xs ys | _ => none
  | .str x, y => match y with | .str z => some (ltS x z) | _ => none
  | .int i, y => (num? y).map fun j => decide (i < j)
  | .bl b, y => (num? y).map fun j => decide (b2i b < j)
  | .non, _ => none
  | .dic _ _, _ => none
  | .obj _, _ => none
  | .lam _, _ => none
  | .exc _ _, _ => none
def ltAll : List D → List D → Option Bool
  | _, [] => some false
  | [], _ :: _ => some true
  | x :: xs, y :: ys => if x.eqv y then ltAll xs ys else x.lt? y
end
def isTrue? : D → Option Bool
  | .bl b => some b
  | .tup xs => some (!xs.isEmpty)
  | .lst xs => some (!xs.isEmpty)
  | _ => none
def lim : Nat := 1000000
/-- the items of a tuple, a list (frozen or live), a text -/
def seqOf (d : D) : M (List D) := fun st => match d with
  | .tup xs => .ok xs st
  | .lst xs => .ok xs st
  | .obj i => match st[i]? with
    | some (.lst xs) => .ok xs st
    | _ => .bad
  | _ => .bad
/-- an object's content in the place of the object -/
def cont (d : D) : M D := fun st => match d with
  | .obj i => match st[i]? with
    | some (.lst xs) => .ok (.lst xs) st
    | _ => .bad
  | d => .ok d st
end Mp
namespace Mp
/-! ### the syntax -/
inductive Op where
  | add (lv : Bool) | sub | mul | fdiv | mod | pow
inductive Cm where
  | eq | ne | lt | le | gt | ge | inn | nin | is | isn
/-- built-in functions -/
inductive Bn where
  | len | abs | int | divmod | min2 | max2 | minl | maxl | sum | all | any | repr | str | tuple
  | list (lv : Bool) | sorted (lv : Bool) | sset (lv : Bool) | lenset | range1 (lv : Bool) | trange
/-- methods of built-in types -/
inductive Mn where
  | append | extend | pop | popAt | index | count | get | join | split | upper
inductive Ty where
  | int | bool | str | tuple | list | cls (c : Nat)
/-- what a name or a row of names takes -/
inductive Pt where
  | nm (i : Nat) | tup (is : List Nat)
mutual
inductive E where
  | c (d : D) | v (i : Nat) | g (x : Nat)
  | op (o : Op) (a b : E) | neg (a : E)
  | cmp (o : Cm) (a b : E) | chain (o p : Cm) (a b c : E)
  | and (a b : E) | or (a b : E) | not (a : E) | ite (c : Te) (a b : E)
  | tup (es : Es) | lst (lv : Bool) (es : Es)
  | sub (a i : E) | slc (lv : Bool) (a : E) (lo hi : Eo) | rev (a : E)
  | call (f : Nat) (es : Es) | callk (f : Nat) (pm : List Nat) (es : Es) | calll (f : Nat) (es : Es) (ps : List Nat) (body : E) | lamc (i : Nat) (es : Es)
  | din (x : Nat) (a : E) | dsub (x : Nat) (a : E)
  | b (f : Bn) (es : Es) | m (f : Mn) (o : E) (es : Es)
  | meth (c f : Nat) (n : Sx) (o : E) (es : Es) | mk (c f : Nat) (es : Es) | fld (o : E) (f : Sx)
  | xfld (i : Nat) (f : Sx) | xis (i k : Nat) | isi (o : E) (ts : List Ty)
  | oeq (ng : Bool) (c f : Nat) (a b : E)
  | lc (lv : Bool) (own : List Nat) (p : Pt) (it : It) (ifs : To) (e : E)
  | lc2 (lv : Bool) (own : List Nat) (p : Pt) (it : It) (ifs : To) (p1 : Pt) (it1 : It) (ifs1 : To) (e : E)
  | lcL (lv : Bool) (own : List Nat) (p : Pt) (a : E) (ifs : To) (e : E)
inductive Eo where
  | no | yes (e : E)
inductive Es where
  | nil | cons (e : E) (r : Es) | star (e : E) (r : Es)
/-- tests -/
inductive Te where
  | and (a b : Te) | or (a b : Te) | not (a : Te)
  | cmp (o : Cm) (a b : E) | chain (o p : Cm) (a b c : E) | din (x : Nat) (a : E) | oeq (ng : Bool) (c f : Nat) (a b : E) | val (e : E)
inductive To where
  | no | yes (t : Te)
inductive It where
  | seq (e : E) | rng1 (a : E) | rng2 (a b : E) | enum (e : E) | zip (a b : E)
end
mutual
inductive Tg where
  | nm (i : Nat) | sub (a i : E) | fld (a : E) (f : Sx) | tup (ts : Tgs)
inductive Tgs where
  | nil | cons (t : Tg) (r : Tgs)
end
def Tgs.len : Tgs → Nat
  | .nil => 0
  | .cons _ r => r.len + 1
mutual
inductive St where
  | set (t : Tg) (e : E) | expr (e : E) | ret (e : E) | pass
  | ite (c : Te) (a b : Ss) | whl (c : Te) (b : Ss) | loop (p : Pt) (it : It) (b : Ss) | loopL (p : Pt) (a : E) (b : Ss)
  | raise (c : Nat) (e : Eo) | tryx (b : Ss) (hs : Hs)
inductive Ss where
  | nil | cons (s : St) (r : Ss)
inductive Hs where
  | nil | cons (c : Nat) (i : Option Nat) (b : Ss) (r : Hs)
end

/-! ### the evaluator -/
abbrev Env := List (Option D)
inductive Flow where
  | next (ρ : Env) | ret (d : D) | exc (c : Nat) (d : Option D) (ρ : Env)
/-- a step of a statement: what it raises is told with the names as they are -/
def step {α : Type} (ρ : Env) (m : M α) (f : α → M Flow) : M Flow := fun st => match m st with
  | .ok a st => f a st
  | .err c d st => .ok (.exc c d ρ) st
  | .bad => .bad
def after (f : Flow) (g : Env → M Flow) : M Flow := match f with
  | .next ρ => g ρ
  | .ret d => ret (.ret d)
  | .exc c d ρ => ret (.exc c d ρ)
structure Cfg where
  fuel : Nat
  call : Nat → List D → Option (List D → M D) → M D
  glob : Nat → Option D
  /-- the entries of a dict of the top -/
  dic : Nat → Option (List (Sx × D))
  /-- the classes -/
  cls : Nat → Bool
  /-- a class's fields -/
  fld : Nat → Sx → Bool
  lam : Option (List D → M D)
  /-- the exception class's kept attribute; its bases (itself among them) -/
  xat : Nat → Option Sx
  sub : Nat → Nat → Bool
def okBits (i j : Int) : Bool := decide (-(2 ^ 64) < i) && decide (i < 2 ^ 64) || (decide (-(2 ^ 64) < j) && decide (j < 2 ^ 64) || decide (i.natAbs.log2 + j.natAbs.log2 < 1000000))
def op2 (o : Op) (x y : D) : M D := match o with
  | .add lv => match x, y with
    | .int i, .int j => ret (.int (i + j))
    | .str a, .str b => if a.length + b.length ≤ lim then ret (.str (a ++ b)) else bad
    | .tup a, .tup b => if a.length + b.length ≤ lim then ret (.tup (a ++ b)) else bad
    | x, y => do
      let x ← cont x
      let y ← cont y
      match x, y with
      | .lst a, .lst b => if a.length + b.length ≤ lim then new lv (a ++ b) else bad
      | _, _ => bad
  | .sub => match x, y with
    | .int i, .int j => ret (.int (i - j))
    | _, _ => bad
  | .mul => match x, y with
    | .int i, .int j => if okBits i j then ret (.int (i * j)) else bad
    | _, _ => bad
  | .fdiv => match x, y with
    | .int i, .int j => if 0 < j ∧ j < 1073741824 then ret (.int (i / j)) else bad
    | _, _ => bad
  | .mod => match x, y with
    | .int i, .int j => if 0 < j then ret (.int (i % j)) else bad
    | _, _ => bad
  | .pow => match x, y with
    | .int i, .int j => if 0 ≤ j ∧ j ≤ 1000 ∧ i.natAbs < 18446744073709551616 then ret (.int (i ^ j.toNat)) else bad
    | _, _ => bad
/-- == of what is not two texts -/
def eqG (x y : D) : M Bool := do
  let x ← cont x
  let y ← cont y
  if x.good && y.good then ret (x.eqv y) else bad
def eqD (x y : D) : M Bool := match x with
  | .str a => match y with
    | .str b => ret (decide (a = b))
    | y => eqG (.str a) y
  | x => eqG x y
def inD (x y : D) : M Bool := match x, y with
  | .str a, .str b => match a with
    | [c] => ret (decide (c ∈ b))
    | _ => bad
  | x, y => do
    let y ← cont y
    match y with
    | .tup ys => if x.good && goodAll ys then ret (ys.any fun z => z.eqv x) else bad
    | .lst ys => if x.good && goodAll ys then ret (ys.any fun z => z.eqv x) else bad
    | _ => bad
def ints? : List D → Option (List Int)
  | [] => some []
  | .int i :: r => (ints? r).map (i :: ·)
  | _ :: _ => none
def isD (x y : D) : M Bool := match y with
  | .non => match x with
    | .exc _ _ => bad
    | .lam _ => bad
    | .non => ret true
    | _ => ret false
  | .bl b => match x with
    | .bl a => ret (decide (a = b))
    | _ => bad
  | _ => bad
def cmp2 (o : Cm) (x y : D) : M Bool := match o with
  | .eq => eqD x y
  | .ne => do let t ← eqD x y; ret (!t)
  | .lt => match x, y with
    | .int i, .int j => ret (decide (i < j))
    | .tup a, .tup b => match ints? a, ints? b with
      | some is, some js => ret (HT.lexLt is js)
      | _, _ => bad
    | _, _ => bad
  | .le => match x, y with
    | .int i, .int j => ret (decide (i ≤ j))
    | _, _ => bad
  | .gt => match x, y with
    | .int i, .int j => ret (decide (j < i))
    | _, _ => bad
  | .ge => match x, y with
    | .int i, .int j => ret (decide (j ≤ i))
    | _, _ => bad
  | .inn => inD x y
  | .nin => do let t ← inD x y; ret (!t)
  | .is => isD x y
  | .isn => do let t ← isD x y; ret (!t)
def itemOf (xs : List D) (k : Int) : M D := match L2.ixN xs.length k with
  | some j => opt xs[j]?
  | none => bad
def subD (a i : D) : M D := match i with
  | .int k => match a with
    | .str s => if s.length ≤ lim then itemOf (s.map fun c => D.str [c]) k else bad
    | a => do let xs ← seqOf a; itemOf xs k
  | _ => bad
/-- a slice by ones -/
def cut {α : Type} (xs : List α) (lo hi : Option Int) : List α := (xs.drop (HT.sIx xs.length 0 lo)).take (HT.sIx xs.length xs.length hi - HT.sIx xs.length 0 lo)
def sliceD (lv : Bool) (a : D) (lo hi : Option Int) : M D := match a with
  | .str s => if s.length ≤ lim then ret (.str (cut s lo hi)) else bad
  | .tup xs => ret (.tup (cut xs lo hi))
  | a => do
    let xs ← seqOf a
    new lv (cut xs lo hi)
def bools? : List D → Option (List Bool)
  | [] => some []
  | .bl i :: r => (bools? r).map (i :: ·)
  | _ :: _ => none
def insI (x : Int) : List Int → List Int
  | [] => [x]
  | y :: r => if x ≤ y then x :: y :: r else y :: insI x r
def isortD : List Int → List Int
  | [] => []
  | x :: r => insI x (isortD r)
/-- each once -/
def onceI : List Int → List Int
  | [] => []
  | x :: r => if r.contains x then onceI r else x :: onceI r
def rangeL (a : Int) (n : Nat) : List D := (List.range n).map fun (k : Nat) => D.int (a + (k : Int))
/-- the items of a list -/
def lseq (d : D) : M (List D) := match d with
  | .tup _ => bad
  | d => seqOf d
def lenD (x : D) : M D := match x with
  | .str s => if s.length ≤ lim then ret (.int s.length) else bad
  | x => do let ys ← seqOf x; ret (.int ys.length)
def absD (x : D) : M D := match x with
  | .int i => ret (.int (if i < 0 then -i else i))
  | _ => bad
def intD (x : D) : M D := match x with
  | .int i => ret (.int i)
  | .bl b => ret (.int (b2i b))
  | _ => bad
def sumD (x : D) : M D := do
  let ys ← lseq x
  match ints? ys with
  | some is => ret (.int is.sum)
  | none => bad
def allD (x : D) : M D := do
  let ys ← lseq x
  match bools? ys with
  | some is => ret (.bl (is.all id))
  | none => bad
def anyD (x : D) : M D := do
  let ys ← lseq x
  match bools? ys with
  | some is => ret (.bl (is.any id))
  | none => bad
def reprD (x : D) : M D := do
  let x ← cont x
  if x.good && x.py.showable && decide (x.py.shown.length ≤ lim) then ret (.str x.py.shown.cps.toList) else bad
def strD (x : D) : M D := match x with
  | .int i => if i.natAbs.log2 < 1920 then ret (.str ((toString i : PySem.Str)).cps.toList) else bad
  | .str s => ret (.str s)
  | _ => bad
def tupleD (x : D) : M D := match x with
  | .tup ys => ret (.tup ys)
  | x => do let ys ← seqOf x; ret (.tup ys)
def listD (lv : Bool) (x : D) : M D := do let ys ← seqOf x; new lv ys
def range1D (lv : Bool) (x : D) : M D := match x with
  | .int n => if -1000000 ≤ n ∧ n ≤ lim then new lv (rangeL 0 n.toNat) else bad
  | _ => bad
def trangeD (x : D) : M D := match x with
  | .int n => if -1000000 ≤ n ∧ n ≤ lim then ret (.tup (rangeL 0 n.toNat)) else bad
  | _ => bad
/-- not above: data that are alike -/
def dle (x y : D) : Bool := !(PySem.W.dataLt y.py x.py)
def insA (x : D) : List D → List D
  | [] => [x]
  | y :: r => if dle x y then x :: y :: r else y :: insA x r
def isortA : List D → List D
  | [] => []
  | x :: r => insA x (isortA r)
def noNon (ys : List D) : Bool := ys.all fun d => match d with
  | .non => false
  | _ => true
def alikeD (ys : List D) : Bool := ys.all fun a => ys.all fun b => PySem.W.alike a.py b.py
/-- what can be put in order -/
def ordD (ys : List D) : Bool := goodAll ys && (alikeD ys && noNon ys)
def sortedD (lv : Bool) (x : D) : M D := do
  let ys ← lseq x
  match ints? ys with
  | some is => new lv ((isortD is).map D.int)
  | none => if ordD ys then new lv (isortA ys) else bad
def minA : D → List D → D
  | x, [] => x
  | x, y :: r => minA (if PySem.W.dataLt y.py x.py then y else x) r
def maxA : D → List D → D
  | x, [] => x
  | x, y :: r => maxA (if PySem.W.dataLt x.py y.py then y else x) r
def minD (x : D) : M D := do
  let ys ← seqOf x
  match ys with
  | y :: r => if ordD ys then ret (minA y r) else bad
  | [] => bad
def maxD (x : D) : M D := do
  let ys ← seqOf x
  match ys with
  | y :: r => if ordD ys then ret (maxA y r) else bad
  | [] => bad
def ssetD (lv : Bool) (x : D) : M D := match x with
  | .tup ys => match ints? ys with
    | some is => if is.length < 64 then new lv ((isortD (onceI is)).map D.int) else bad
    | none => bad
  | _ => bad
def un1 (f : Bn) : D → M D := match f with
  | .len => lenD
  | .abs => absD
  | .int => intD
  | .sum => sumD
  | .all => allD
  | .any => anyD
  | .repr => reprD
  | .str => strD
  | .tuple => tupleD
  | .list lv => listD lv
  | .range1 lv => range1D lv
  | .trange => trangeD
  | .sorted lv => sortedD lv
  | .sset lv => ssetD lv
  | .minl => minD
  | .maxl => maxD
  | _ => fun _ => bad
def bi1 (f : Bn) (x y : D) : M D := match x with
  | .int i => match y with
    | .int j => match f with
      | .divmod => if 0 < j ∧ j < 1073741824 then ret (.tup [.int (i / j), .int (i % j)]) else bad
      | .min2 => ret (.int (if j < i then j else i))
      | .max2 => ret (.int (if j > i then j else i))
      | _ => bad
    | _ => bad
  | _ => bad
def bn1 (f : Bn) (xs : List D) : M D := match xs with
  | [x] => un1 f x
  | [x, y] => bi1 f x y
  | _ => bad
/-- a list takes more items -/
def extD (i : Nat) (zs : List D) : M D := do
  let t ← look i
  match t with
  | .lst ys => if ys.length + zs.length ≤ lim then do write i (.lst (ys ++ zs)); ret .non else bad
  | _ => bad
def mn1 (f : Mn) (o : D) (xs : List D) : M D := match f, xs with
  | .extend, [x] => match o with
    | .obj i => do let zs ← lseq x; extD i zs
    | _ => bad
  | .append, [x] => match o with
    | .obj i => do
      let t ← look i
      match t with
      | .lst ys => if ys.length ≤ lim then do write i (.lst (ys ++ [x])); ret .non else bad
      | _ => bad
    | _ => bad
  | .pop, [] => match o with
    | .obj i => do
      let t ← look i
      match t with
      | .lst ys => match ys.getLast? with
        | some y => do write i (.lst ys.dropLast); ret y
        | none => bad
      | _ => bad
    | _ => bad
  | _, _ => bad
/-- a list that is alive -/
def chkL (x : D) : M Unit := match x with
  | .obj i => do
    let t ← look i
    match t with
    | .lst _ => ret ()
    | _ => bad
  | _ => bad
def truth (x : D) : M Bool := do
  let x ← cont x
  opt (isTrue? x)
/-- the names of a pattern take a value -/
def setAll : List Nat → List D → Env → Option Env
  | [], [], ρ => some ρ
  | i :: is, d :: ds, ρ => if i < ρ.length then setAll is ds (ρ.set i (some d)) else none
  | _, _, _ => none
def Pt.put (p : Pt) (d : D) (ρ : Env) : Option Env := match p with
  | .nm i => setAll [i] [d] ρ
  | .tup is => match d with
    | .tup ds => setAll is ds ρ
    | _ => none
def Pt.names : Pt → List Nat
  | .nm i => [i]
  | .tup is => is
def wipeD (ρ : Env) : List Nat → Env
  | [] => ρ
  | v :: vs => (wipeD ρ vs).set v none
/-- no error may leave it -/
def nox {α : Type} (m : M α) : M α := fun st => match m st with
  | .ok a st => .ok a st
  | .err _ _ _ => .bad
  | .bad => .bad
/-- what may stand on the right of an own == -/
def rightOk (c : Nat) (y : D) : M Bool := fun st => .ok (match y with
  | .non => true
  | .bl _ => true
  | .int _ => true
  | .str _ => true
  | .tup _ => true
  | .lst _ => true
  | .obj j => (match st[j]? with
    | some (.ins k _) => decide (k = c)
    | some (.lst _) => true
    | _ => false)
  | _ => false) st
/-- the turns of a comprehension: what each item gives, if something -/
def turns (f : D → M (Option D)) : List D → M (List D)
  | [] => ret []
  | x :: r => do
    let y ← f x
    let ys ← turns f r
    match y with
    | some d => ret (d :: ys)
    | none => ret ys
def turns1 (xs : List D) (f : D → M (Option D)) : M (List D) := if xs.length ≤ lim then turns f xs else bad
def turns2 (f : D → M (List D)) : List D → M (List D)
  | [] => ret []
  | x :: r => do
    let y ← f x
    let ys ← turns2 f r
    ret (y ++ ys)
/-- how many turns over a list that is alive -/
def limL : Nat := 100000
/-- the same over a list that is alive, as it stands at each turn -/
def turnsL (f : D → M (Option D)) (i : Nat) : Nat → Nat → M (List D)
  | 0, _ => bad
  | n + 1, k => fun st => match st[i]? with
    | some (.lst ys) => (match ys[k]? with
      | none => .ok [] st
      | some x => (f x >>= fun y => turnsL f i n (k + 1) >>= fun ys => match y with
        | some d => ret (d :: ys)
        | none => ret ys) st)
    | _ => .bad
def isInst (kn : Nat → Bool) (ts : List Ty) (d : D) : M Bool := fun st => match d with
  | .exc _ _ => .bad
  | .lam _ => .bad
  | .dic _ _ => .bad
  | .non => .ok false st
  | .bl _ => .ok (ts.any fun t => match t with | .int => true | .bool => true | _ => false) st
  | .int _ => .ok (ts.any fun t => match t with | .int => true | _ => false) st
  | .str _ => .ok (ts.any fun t => match t with | .str => true | _ => false) st
  | .tup _ => .ok (ts.any fun t => match t with | .tuple => true | _ => false) st
  | .lst _ => .ok (ts.any fun t => match t with | .list => true | _ => false) st
  | .obj i => match st[i]? with
    | some (.lst _) => .ok (ts.any fun t => match t with | .list => true | _ => false) st
    | some (.ins c _) => if kn c then .ok (ts.any fun t => match t with | .cls k => c == k | _ => false) st else .bad
    | _ => .bad
def putFld (f : Sx) (d : D) : List (Sx × D) → List (Sx × D)
  | [] => [(f, d)]
  | (g, e) :: r => if g == f then (f, d) :: r else (g, e) :: putFld f d r
/-- until the test fails, at most so many turns -/
def whileM (t : Env → M Bool) (b : Env → M Flow) : Nat → Env → M Flow
  | 0, _ => bad
  | n + 1, ρ => step ρ (t ρ) fun c => if c then do
      let f ← b ρ
      after f (whileM t b n)
    else ret (.next ρ)
def forM (p : Pt) (b : Env → M Flow) : List D → Env → M Flow
  | [], ρ => ret (.next ρ)
  | x :: r, ρ => match p.put x ρ with
    | some ρ => do
      let f ← b ρ
      after f (forM p b r)
    | none => bad
def forL (p : Pt) (b : Env → M Flow) (i : Nat) : Nat → Nat → Env → M Flow
  | 0, _, _ => bad
  | n + 1, k, ρ => fun st => match st[i]? with
    | some (.lst ys) => (match ys[k]? with
      | none => .ok (.next ρ) st
      | some x => (match p.put x ρ with
        | some ρ => (b ρ >>= fun f => after f (forL p b i n (k + 1))) st
        | none => .bad))
    | _ => .bad
/-- the items as they are told: no live list -/
def held (d : D) : M (List D) := match d with
  | .tup xs => ret xs
  | .lst xs => ret xs
  | .str s => ret (s.map fun c => D.str [c])
  | _ => bad
/-- the items of a told row -/
def items (d : D) : M (List D) := match d with
  | .tup xs => ret xs
  | .lst xs => ret xs
  | _ => bad
def zipD (x y : D) : M (List D) := match x with
  | .tup xs => match y with
    | .tup ys => ret ((xs.zip ys).map fun p => D.tup [p.1, p.2])
    | _ => bad
  | .lst xs => match y with
    | .lst ys => ret ((xs.zip ys).map fun p => D.tup [p.1, p.2])
    | _ => bad
  | _ => bad
/-- some of the values, by their places -/
def pick {α : Type} (xs : List α) : List Nat → Option (List α)
  | [] => some []
  | i :: is => match xs[i]?, pick xs is with
    | some x, some r => some (x :: r)
    | _, _ => none
section
variable (C : Cfg)
/-- x == y by the own __eq__ of class c -/
def oeqD (ng : Bool) (c f : Nat) (x y : D) : M Bool := match x with
  | .obj i => do
    let t ← look i
    match t with
    | .ins k _ => if k = c then (do
        let q ← rightOk c y
        if q then do
          let z ← C.call f [x, y] none
          match z with
          | .bl t => ret (t != ng)
          | _ => bad
        else bad) else bad
    | _ => bad
  | _ => bad
mutual
def ev : E → Env → M D
  | .c d, _ => ret d
  | .v i, ρ => match ρ[i]? with
    | some (some d) => if d.plain then ret d else bad
    | _ => bad
  | .g x, _ => opt (C.glob x)
  | .op o a b, ρ => do let x ← ev a ρ; let y ← ev b ρ; op2 o x y
  | .neg a, ρ => do
    let x ← ev a ρ
    match x with
    | .int i => ret (.int (-i))
    | _ => bad
  | .cmp o a b, ρ => do let x ← ev a ρ; let y ← ev b ρ; let t ← cmp2 o x y; ret (.bl t)
  | .chain o p a b c, ρ => do
    let x ← ev a ρ
    let y ← ev b ρ
    let t ← cmp2 o x y
    if t then do let z ← ev c ρ; let u ← cmp2 p y z; ret (.bl u) else ret (.bl false)
  | .and a b, ρ => do
    let x ← ev a ρ
    match x with
    | .bl t => if t then ev b ρ else ret (.bl false)
    | _ => bad
  | .or a b, ρ => do
    let x ← ev a ρ
    match x with
    | .bl t => if t then ret (.bl true) else ev b ρ
    | _ => bad
  | .not a, ρ => do
    let x ← ev a ρ
    match x with
    | .bl t => ret (.bl (!t))
    | _ => bad
  | .ite c a b, ρ => do let t ← tst c ρ; if t then ev a ρ else ev b ρ
  | .tup es, ρ => do let xs ← evs es ρ; if xs.length ≤ lim then ret (.tup xs) else bad
  | .lst lv es, ρ => do let xs ← evs es ρ; if xs.length ≤ lim then new lv xs else bad
  | .sub a i, ρ => do let x ← ev a ρ; let y ← ev i ρ; subD x y
  | .slc lv a lo hi, ρ => do
    let x ← ev a ρ
    let l ← evo lo ρ
    let h ← evo hi ρ
    sliceD lv x l h
  | .rev a, ρ => do
    let x ← ev a ρ
    match x with
    | .str s => ret (.str s.reverse)
    | _ => bad
  | .call f es, ρ => do let xs ← evs es ρ; C.call f xs none
  | .callk f pm es, ρ => do
    let xs ← evs es ρ
    match pick xs pm with
    | some ys => C.call f ys none
    | none => bad
  | .calll f es ps body, ρ => do
    let xs ← evs es ρ
    C.call f (xs ++ [.lam 0]) (some fun ys => match setAll ps ys (wipeD ρ ps) with
      | some ρ' => ev body ρ'
      | none => bad)
  | .lamc i es, ρ => match ρ[i]? with
    | some (some (.lam _)) => match C.lam with
      | some f => do let xs ← evs es ρ; f xs
      | none => bad
    | _ => bad
  | .din x a, ρ => do
    let y ← ev a ρ
    match y with
    | .str s => match C.dic x with
      | some kvs => ret (.bl (kvs.lookup s).isSome)
      | none => bad
    | _ => bad
  | .dsub x a, ρ => do
    let y ← ev a ρ
    match y with
    | .str s => match C.dic x with
      | some kvs => opt (kvs.lookup s)
      | none => bad
    | _ => bad
  | .b f es, ρ => do let xs ← evs es ρ; bn1 f xs
  | .m f o es, ρ => do let x ← ev o ρ; chkL x; let xs ← evs es ρ; mn1 f x xs
  | .meth c f n o es, ρ => do
    let x ← ev o ρ
    match x with
    | .obj i => do
      let t ← look i
      match t with
      | .ins k fs => if k = c ∧ (fs.lookup n).isNone = true then (do
          let xs ← evs es ρ
          C.call f (x :: xs) none) else bad
      | _ => bad
    | _ => bad
  | .mk c f es, ρ => do
    let xs ← evs es ρ
    let x ← push (.ins c [])
    let r ← C.call f (x :: xs) none
    match r with
    | .non => ret x
    | _ => bad
  | .fld o f, ρ => do
    let x ← ev o ρ
    match x with
    | .obj i => do
      let t ← look i
      match t with
      | .ins c fs => if C.fld c f then opt (fs.lookup f) else bad
      | _ => bad
    | _ => bad
  | .xfld i f, ρ => match ρ[i]? with
    | some (some (.exc c (some d))) => if C.xat c = some f then ret d else bad
    | _ => bad
  | .xis i k, ρ => match ρ[i]? with
    | some (some (.exc c _)) => ret (.bl (C.sub c k))
    | _ => bad
  | .isi o ts, ρ => do let x ← ev o ρ; let t ← isInst C.cls ts x; ret (.bl t)
  | .oeq ng c f a b, ρ => do let x ← ev a ρ; let y ← ev b ρ; let t ← oeqD C ng c f x y; ret (.bl t)
  | .lc lv own p it ifs e, ρ => do
    let xs ← evi it ρ
    let ys ← turns1 xs (fun x => match p.put x (wipeD ρ own) with
      | some ρ' => nox do
        let t ← tsto ifs ρ'
        if t then do let y ← ev e ρ'; ret (some y) else ret none
      | none => bad)
    new lv ys
  | .lc2 lv own p it ifs p1 it1 ifs1 e, ρ => do
    let xs ← evi it ρ
    let ys ← turns2 (fun x => match p.put x (wipeD ρ own) with
      | some ρ' => nox do
        let t ← tsto ifs ρ'
        if t then do
          let xs1 ← evi it1 ρ'
          turns (fun x1 => match p1.put x1 (wipeD ρ' p1.names) with
            | some ρ2 => do
              let t ← tsto ifs1 ρ2
              if t then do let y ← ev e ρ2; ret (some y) else ret none
            | none => bad) xs1
        else ret []
      | none => bad) xs
    if ys.length ≤ lim then new lv ys else bad
  | .lcL lv own p a ifs e, ρ => do
    let x ← ev a ρ
    match x with
    | .obj i => do
      let ys ← turnsL (fun x => match p.put x (wipeD ρ own) with
        | some ρ' => nox do
          let t ← tsto ifs ρ'
          if t then do let y ← ev e ρ'; ret (some y) else ret none
        | none => bad) i limL 0
      new lv ys
    | x => do
      let xs ← held x
      let ys ← turns1 xs (fun x => match p.put x (wipeD ρ own) with
        | some ρ' => nox do
          let t ← tsto ifs ρ'
          if t then do let y ← ev e ρ'; ret (some y) else ret none
        | none => bad)
      new lv ys
def tst : Te → Env → M Bool
  | .and a b, ρ => do let t ← tst a ρ; if t then tst b ρ else ret false
  | .or a b, ρ => do let t ← tst a ρ; if t then ret true else tst b ρ
  | .not a, ρ => do let t ← tst a ρ; ret (!t)
  | .cmp o a b, ρ => do let x ← ev a ρ; let y ← ev b ρ; cmp2 o x y
  | .chain o p a b c, ρ => do
    let x ← ev a ρ
    let y ← ev b ρ
    let t ← cmp2 o x y
    if t then do let z ← ev c ρ; cmp2 p y z else ret false
  | .din x a, ρ => do
    let y ← ev a ρ
    match y with
    | .str s => match C.dic x with
      | some kvs => ret (kvs.lookup s).isSome
      | none => bad
    | _ => bad
  | .oeq ng c f a b, ρ => do let x ← ev a ρ; let y ← ev b ρ; oeqD C ng c f x y
  | .val e, ρ => do let x ← ev e ρ; truth x
def tsto : To → Env → M Bool
  | .no, _ => ret true
  | .yes e, ρ => tst e ρ
def evo : Eo → Env → M (Option Int)
  | .no, _ => ret none
  | .yes e, ρ => do
    let x ← ev e ρ
    match x with
    | .int i => ret (some i)
    | _ => bad
def evs : Es → Env → M (List D)
  | .nil, _ => ret []
  | .cons e r, ρ => do let x ← ev e ρ; let xs ← evs r ρ; ret (x :: xs)
  | .star e r, ρ => do let x ← ev e ρ; let ys ← items x; let xs ← evs r ρ; ret (ys ++ xs)
def evi : It → Env → M (List D)
  | .seq e, ρ => do let x ← ev e ρ; held x
  | .rng1 a, ρ => do
    let x ← ev a ρ
    match x with
    | .int n => if -1000000 ≤ n ∧ n ≤ lim then ret (rangeL 0 n.toNat) else bad
    | _ => bad
  | .rng2 a b, ρ => do
    let x ← ev a ρ
    let y ← ev b ρ
    match x, y with
    | .int i, .int j => if (-1000000 ≤ i ∧ i ≤ lim) ∧ (-1000000 ≤ j ∧ j ≤ lim) then ret (rangeL i (j - i).toNat) else bad
    | _, _ => bad
  | .enum e, ρ => do
    let x ← ev e ρ
    let ys ← items x
    ret (((List.range ys.length).zip ys).map fun p => D.tup [.int (p.1 : Int), p.2])
  | .zip a b, ρ => do
    let x ← ev a ρ
    let y ← ev b ρ
    zipD x y
end
mutual
def setT : Tg → D → Env → M Env
  | .nm i, d, ρ => opt (setAll [i] [d] ρ)
  | .sub a i, d, ρ => do
    let x ← ev C a ρ
    let k ← ev C i ρ
    match x, k with
    | .obj j, .int n => do
      let t ← look j
      match t with
      | .lst ys => match L2.ixN ys.length n with
        | some m => do write j (.lst (ys.set m d)); ret ρ
        | none => bad
      | _ => bad
    | _, _ => bad
  | .fld a f, d, ρ => do
    let x ← ev C a ρ
    match x with
    | .obj j => do
      let t ← look j
      match t with
      | .ins c fs => if C.fld c f = true ∧ fs.length < 100 then do write j (.ins c (putFld f d fs)); ret ρ else bad
      | _ => bad
    | _ => bad
  | .tup ts, d, ρ => match d with
    | .tup ds => if ds.length = ts.len then nox (setTs ts ds ρ) else bad
    | _ => bad
def setTs : Tgs → List D → Env → M Env
  | .nil, ds, ρ => if ds.isEmpty then ret ρ else bad
  | .cons t r, ds, ρ => match ds with
    | d :: ds => do let ρ ← setT t d ρ; setTs r ds ρ
    | [] => bad
end
mutual
def ex : St → Env → M Flow
  | .set t e, ρ => step ρ (ev C e ρ) fun x => step ρ (setT C t x ρ) fun ρ' => ret (.next ρ')
  | .expr e, ρ => step ρ (ev C e ρ) fun _ => ret (.next ρ)
  | .ret e, ρ => step ρ (ev C e ρ) fun x => ret (.ret x)
  | .pass, ρ => ret (.next ρ)
  | .ite c a b, ρ => step ρ (tst C c ρ) fun t => if t then exs a ρ else exs b ρ
  | .whl c b, ρ => whileM (tst C c) (exs b) C.fuel ρ
  | .loop p it b, ρ => step ρ (evi C it ρ) fun xs => forM p (exs b) xs ρ
  | .loopL p a b, ρ => step ρ (ev C a ρ) fun x => match x with
    | .obj i => forL p (exs b) i limL 0 ρ
    | x => do
      let xs ← held x
      forM p (exs b) xs ρ
  | .raise c e, ρ => match e with
    | .no => if C.xat c = none then ret (.exc c none ρ) else bad
    | .yes e => if (C.xat c).isSome then step ρ (ev C e ρ) fun x => ret (.exc c (some x) ρ) else bad
  | .tryx b hs, ρ => do
    let f ← exs b ρ
    match f with
    | .next ρ => ret (.next ρ)
    | .ret d => ret (.ret d)
    | .exc c d ρ => exh hs c d ρ
def exs : Ss → Env → M Flow
  | .nil, ρ => ret (.next ρ)
  | .cons s r, ρ => do
    let f ← ex s ρ
    after f (exs r)
/-- the first clause that takes it -/
def exh : Hs → Nat → Option D → Env → M Flow
  | .nil, c, d, ρ => ret (.exc c d ρ)
  | .cons k i b r, c, d, ρ => if C.sub c k then do
      let f ← exs b (match i with
        | none => ρ
        | some i => ρ.set i (some (.exc c d)))
      match f with
      | .next ρ => ret (.next (match i with
        | none => ρ
        | some i => ρ.set i none))
      | .ret d => ret (.ret d)
      | .exc _ _ _ => bad
    else exh r c d ρ
end
end
/-- how many arguments are written, none of them starred -/
def Es.cnt : Es → Nat
  | .nil => 0
  | .cons _ r => r.cnt + 1
  | .star _ _ => 0
def Es.plain : Es → Bool
  | .nil => true
  | .cons _ r => r.plain
  | .star _ _ => false
/-- a def: how many parameters, how many names, its body -/
structure Def where
  ps : Nat
  ns : Nat
  body : Ss
structure Prog where
  defs : List Def
  glob : List D
  dics : List (List (Sx × D))
  flds : List (List Sx)
  xat : List (Option Sx)
  sub : List (List Nat)
  fuel : Nat
def runDef (C : Cfg) (d : Def) (args : List D) : M D :=
  if args.length = d.ps then do
    let f ← nox (exs C d.body (args.map some ++ List.replicate (d.ns - args.length) none))
    match f with
    | .next _ => ret .non
    | .ret x => ret x
    | .exc c d _ => fun st => .err c d st
  else bad
def Prog.cfg (P : Prog) (call : Nat → List D → Option (List D → M D) → M D) (lam : Option (List D → M D)) : Cfg where
  fuel := P.fuel
  call := call
  glob := fun x => P.glob[x]?
  dic := fun x => P.dics[x]?
  cls := fun c => decide (c < P.flds.length)
  fld := fun c f => (P.flds.getD c []).contains f
  lam := lam
  xat := fun c => P.xat.getD c none
  sub := fun c k => (P.sub.getD c []).contains k
def Prog.run (P : Prog) : Nat → Nat → List D → Option (List D → M D) → M D
  | 0, _, _, _ => bad
  | n + 1, f, args, lam => match P.defs[f]? with
    | some d => runDef (P.cfg (P.run n) lam) d args
    | none => bad
end Mp
end
section
set_option autoImplicit false
set_option Elab.async false
set_option linter.all false
set_option maxRecDepth 100000
set_option maxHeartbeats 1000000
/-! MpRel: how values and the store lie in the abstract heap. -/
namespace Mp
open PySem PySem.Spec PyProof.Rows L2
def ntbl : HO → Bool
  | .tbl _ => false
  | _ => true
/-- the live objects by their places in the store; what is under work besides -/
structure Lv where
  l : List Addr
  b : List Addr
instance : Membership Addr Lv := ⟨fun m p => p ∈ m.l ∨ p ∈ m.b⟩
def Lv.add (m : Lv) (l : List Addr) : Lv := ⟨m.l ++ l, m.b⟩
section
variable (K : PySem.W.Frag) (cA : Nat → Addr) (T : List (Addr × Str))
def FzT (m : Lv) (H : Hp) (p : Addr) (vs : List V) : Prop := (Rd H p (.tup vs) ∧ p ∉ m) ∨
  ∃ (o : PySem.Obj) (its : Array Value) (n : Nat), K.lookup p = some o ∧ o.cls = .type "tuple" ∧ o.data = .seq its n ∧ its.size ≤ sizeLine ∧ Vals vs its.toList
def FzL (m : Lv) (H : Hp) (p : Addr) (vs : List V) : Prop := (Rd H p (.lst vs) ∧ p ∉ m) ∨
  ∃ (o : PySem.Obj) (its : Array Value) (n : Nat), K.lookup p = some o ∧ o.cls = .type "list" ∧ o.dict = none ∧ o.data = .seq its n ∧ its.size ≤ sizeLine ∧ Vals vs its.toList
mutual
def Rp (m : Lv) (H : Hp) : D → V → Prop
  | .non, v => v = .non
  | .bl b, v => v = .bl b
  | .int i, v => v = .int i
  | .str s, v => v = .str (S s)
  | .tup xs, v => ∃ p vs, v = .ref p ∧ FzT K m H p vs ∧ RpL m H xs vs
  | .lst xs, v => ∃ p vs, v = .ref p ∧ FzL K m H p vs ∧ RpL m H xs vs
  | .obj i, v => ∃ p, v = .ref p ∧ m.l[i]? = some p
  | .dic _ _, _ => False
  | .lam _, _ => False
  | .exc _ _, _ => False
def RpL (m : Lv) (H : Hp) : List D → List V → Prop
  | [], vs => vs = []
  | x :: xs, vs => ∃ v r, vs = v :: r ∧ Rp m H x v ∧ RpL m H xs r
end
def RpF (m : Lv) (H : Hp) : List (Sx × D) → List (Str × V) → Prop
  | [], gs => gs = []
  | f :: fs, gs => ∃ v r, gs = (S f.1, v) :: r ∧ Rp K m H f.2 v ∧ RpF m H fs r
def RpO (m : Lv) (H : Hp) (p : Addr) : Obj → Prop
  | .lst xs => ∃ vs, H p = some (.lst vs) ∧ RpL K m H xs vs
  | .dic _ _ => False
  | .ins c fs => ∃ dx gs, H p = some (.ins (cA c) dx gs) ∧ RpF K m H fs gs
structure RSt (m : Lv) (st : Store) (H : Hp) : Prop where
  len : m.l.length = st.length
  nd : m.l.Nodup
  at_ : ∀ (i : Nat) (p : Addr) (o : Obj), m.l[i]? = some p → st[i]? = some o → RpO K cA m H p o
  bd : ∀ p ∈ m.b, ∃ vs, H p = some (.lst vs)
  dj : ∀ p ∈ m.b, p ∉ m.l
  tb : LamX.Tabs T H
end
/-- lists and instances -/
def objO : HO → Bool
  | .lst _ => true
  | .ins _ _ _ => true
  | _ => false
theorem tab_upd {H : Hp} {p P : Addr} {q : Str} {o : HO} (h : H p = none ∨ ∃ v, H p = some v ∧ objO v = true) (t : LamX.TabS H P q) : LamX.TabS (upd H p o) P q := by
  obtain ⟨ps, h1, h2, h3⟩ := t
  have ne : ∀ b v, H b = some v → objO v = false → upd H p o b = some v := fun b v e n => by
    rw [upd_ne]
    · exact e
    · rintro rfl
      rcases h with h | ⟨w, h, hw⟩
      · rw [h] at e
        cases e
      · rw [h] at e
        cases e
        rw [hw] at n
        cases n
  refine ⟨ps, ne _ _ h1 rfl, h2, fun pos cv hc => ?_⟩
  obtain ⟨c, e1, e2⟩ := h3 pos cv hc
  exact ⟨c, e1, ne _ _ e2 rfl⟩
theorem tabs_upd {T : List (Addr × Str)} {H : Hp} {p : Addr} {o : HO} (h : H p = none ∨ ∃ v, H p = some v ∧ objO v = true) (t : LamX.Tabs T H) : LamX.Tabs T (upd H p o) := fun x hx => tab_upd h (t x hx)
/-- more objects may live; what is not alive stays as it is -/
structure Tr (m : Lv) (H : Hp) (m' : Lv) (H' : Hp) : Prop where
  pre : ∃ l, m'.l = m.l ++ l
  keep : ∀ (p : Addr) (u : HO), H p = some u → p ∉ m → ntbl u = true → H' p = some u ∧ p ∉ m'
/-- later: what is under work stays too -/
structure Ext (m : Lv) (H : Hp) (m' : Lv) (H' : Hp) : Prop extends Tr m H m' H' where
  bs : m'.b = m.b
  bk : ∀ p ∈ m.b, H' p = H p
theorem Tr.refl (m : Lv) (H : Hp) : Tr m H m H := ⟨⟨[], (List.append_nil m.l).symm⟩, fun _ _ h n _ => ⟨h, n⟩⟩
theorem Ext.refl (m : Lv) (H : Hp) : Ext m H m H := ⟨Tr.refl m H, rfl, fun _ _ => rfl⟩
theorem Tr.trans {m m1 m2 : Lv} {H H1 H2 : Hp} (a : Tr m H m1 H1) (b : Tr m1 H1 m2 H2) : Tr m H m2 H2 := by
  obtain ⟨l, e1⟩ := a.pre
  obtain ⟨l2, e2⟩ := b.pre
  refine ⟨⟨l ++ l2, by rw [e2, e1, List.append_assoc]⟩, fun p u h n t => ?_⟩
  obtain ⟨h1, n1⟩ := a.keep p u h n t
  exact b.keep p u h1 n1 t
theorem Ext.trans {m m1 m2 : Lv} {H H1 H2 : Hp} (a : Ext m H m1 H1) (b : Ext m1 H1 m2 H2) : Ext m H m2 H2 :=
  ⟨a.toTr.trans b.toTr, b.bs.trans a.bs, fun p hp => (b.bk p (by rw [a.bs]; exact hp)).trans (a.bk p hp)⟩
theorem not_mem_lv {m : Lv} {p : Addr} : p ∉ m ↔ p ∉ m.l ∧ p ∉ m.b := not_or
/-- all that is tracked stays -/
theorem Ext.same {m : Lv} {H H' : Hp} (h : ∀ p u, H p = some u → ntbl u = true → H' p = some u) (hb : ∀ p ∈ m.b, H' p = H p) : Ext m H m H' :=
  ⟨⟨⟨[], (List.append_nil m.l).symm⟩, fun p u e n t => ⟨h p u e t, n⟩⟩, rfl, hb⟩
section
variable {K : PySem.W.Frag} {cA : Nat → Addr} {T : List (Addr × Str)} {m m' : Lv} {H H' : Hp}
theorem FzT.tr {p : Addr} {vs : List V} (x : Tr m H m' H') (h : FzT K m H p vs) : FzT K m' H' p vs := by
  rcases h with ⟨h | ⟨o, h⟩, n⟩ | h
  · obtain ⟨a, b⟩ := x.keep p _ h n rfl
    exact .inl ⟨.inl a, b⟩
  · obtain ⟨a, b⟩ := x.keep p _ h n rfl
    exact .inl ⟨.inr ⟨o, a⟩, b⟩
  · exact .inr h
theorem FzL.tr {p : Addr} {vs : List V} (x : Tr m H m' H') (h : FzL K m H p vs) : FzL K m' H' p vs := by
  rcases h with ⟨h | ⟨o, h⟩, n⟩ | h
  · obtain ⟨a, b⟩ := x.keep p _ h n rfl
    exact .inl ⟨.inl a, b⟩
  · obtain ⟨a, b⟩ := x.keep p _ h n rfl
    exact .inl ⟨.inr ⟨o, a⟩, b⟩
  · exact .inr h
theorem FzT.sq {p : Addr} {vs : List V} (h : FzT K m H p vs) : SqT K H p vs := h.elim (fun h => .inl h.1) .inr
theorem FzL.sq {p : Addr} {vs : List V} (h : FzL K m H p vs) : SqL K H p vs := h.elim (fun h => .inl h.1) .inr
mutual
theorem Rp.tr (x : Tr m H m' H') : ∀ (d : D) (v : V), Rp K m H d v → Rp K m' H' d v
  | .non, _, h => h
  | .bl _, _, h => h
  | .int _, _, h => h
  | .str _, _, h => h
  | .tup xs, _, h => by
    obtain ⟨p, vs, e, f, r⟩ := h
    exact ⟨p, vs, e, f.tr x, RpL.tr x xs vs r⟩
  | .lst xs, _, h => by
    obtain ⟨p, vs, e, f, r⟩ := h
    exact ⟨p, vs, e, f.tr x, RpL.tr x xs vs r⟩
  | .obj i, _, h => by
    obtain ⟨p, e, q⟩ := h
    obtain ⟨l, el⟩ := x.pre
    exact ⟨p, e, by rw [el, List.getElem?_append_left (List.getElem?_eq_some_iff.mp q).1]; exact q⟩
  | .dic _ _, _, h => h.elim
  | .lam _, _, h => h.elim
  | .exc _ _, _, h => h.elim
theorem RpL.tr (x : Tr m H m' H') : ∀ (ds : List D) (vs : List V), RpL K m H ds vs → RpL K m' H' ds vs
  | [], _, h => h
  | d :: ds, _, h => by
    obtain ⟨v, r, e, a, b⟩ := h
    exact ⟨v, r, e, Rp.tr x d v a, RpL.tr x ds r b⟩
end
theorem RpF.tr (x : Tr m H m' H') : ∀ (fs : List (Sx × D)) (gs : List (Str × V)), RpF K m H fs gs → RpF K m' H' fs gs
  | [], _, h => h
  | f :: fs, _, h => by
    obtain ⟨v, r, e, a, b⟩ := h
    exact ⟨v, r, e, Rp.tr x _ _ a, RpF.tr x fs r b⟩
theorem FzT.ext {p : Addr} {vs : List V} (x : Ext m H m' H') (h : FzT K m H p vs) : FzT K m' H' p vs := FzT.tr x.toTr h
theorem FzL.ext {p : Addr} {vs : List V} (x : Ext m H m' H') (h : FzL K m H p vs) : FzL K m' H' p vs := FzL.tr x.toTr h
theorem Rp.ext (x : Ext m H m' H') (d : D) (v : V) (h : Rp K m H d v) : Rp K m' H' d v := Rp.tr x.toTr d v h
theorem RpL.ext (x : Ext m H m' H') (d : List D) (v : List V) (h : RpL K m H d v) : RpL K m' H' d v := RpL.tr x.toTr d v h
theorem RpF.ext (x : Ext m H m' H') (d : List (Sx × D)) (v : List (Str × V)) (h : RpF K m H d v) : RpF K m' H' d v := RpF.tr x.toTr d v h
theorem RpL.length : ∀ {ds : List D} {vs : List V}, RpL K m H ds vs → vs.length = ds.length
  | [], _, h => by
    obtain rfl : _ = [] := h
    rfl
  | d :: ds, _, h => by
    obtain ⟨v, r, rfl, a, b⟩ := h
    rw [List.length_cons, List.length_cons, RpL.length b]
theorem RpL.get : ∀ {ds : List D} {vs : List V} {i : Nat} {d : D}, RpL K m H ds vs → ds[i]? = some d → ∃ v, vs[i]? = some v ∧ Rp K m H d v
  | [], _, _, _, _, e => by simp at e
  | x :: ds, _, 0, d, h, e => by
    obtain ⟨v, r, rfl, a, b⟩ := h
    simp at e
    subst e
    exact ⟨v, rfl, a⟩
  | x :: ds, _, i + 1, d, h, e => by
    obtain ⟨v, r, rfl, a, b⟩ := h
    obtain ⟨w, h1, h2⟩ := RpL.get (i := i) (d := d) b (by simpa using e)
    exact ⟨w, by simpa using h1, h2⟩
theorem RpL.getV {ds : List D} {vs : List V} {i : Nat} {v : V} (h : RpL K m H ds vs) (e : vs[i]? = some v) : ∃ d, ds[i]? = some d ∧ Rp K m H d v := by
  have hi : i < ds.length := by
    have := (List.getElem?_eq_some_iff.mp e).1
    rw [h.length] at this
    exact this
  obtain ⟨w, h1, h2⟩ := h.get (List.getElem?_eq_getElem hi)
  rw [e] at h1
  cases h1
  exact ⟨_, List.getElem?_eq_getElem hi, h2⟩
theorem RpL.append : ∀ {ds es : List D} {vs ws : List V}, RpL K m H ds vs → RpL K m H es ws → RpL K m H (ds ++ es) (vs ++ ws)
  | [], _, _, _, h, g => by
    obtain rfl : _ = [] := h
    exact g
  | d :: ds, es, _, ws, h, g => by
    obtain ⟨v, r, rfl, a, b⟩ := h
    exact ⟨v, r ++ ws, rfl, a, RpL.append b g⟩
theorem RpL.set : ∀ {ds : List D} {vs : List V} (i : Nat) {d : D} {v : V}, RpL K m H ds vs → Rp K m H d v → RpL K m H (ds.set i d) (vs.set i v)
  | [], _, _, _, _, h, _ => by
    obtain rfl : _ = [] := h
    exact rfl
  | x :: ds, _, 0, d, w, h, g => by
    obtain ⟨v, r, rfl, a, b⟩ := h
    exact ⟨w, r, rfl, g, b⟩
  | x :: ds, _, i + 1, d, w, h, g => by
    obtain ⟨v, r, rfl, a, b⟩ := h
    exact ⟨v, r.set i w, rfl, a, RpL.set i b g⟩
theorem RpL.take : ∀ {ds : List D} {vs : List V} (n : Nat), RpL K m H ds vs → RpL K m H (ds.take n) (vs.take n)
  | ds, vs, 0, _ => by
    rw [List.take_zero, List.take_zero]
    exact rfl
  | [], _, n + 1, h => by
    obtain rfl : _ = [] := h
    exact rfl
  | d :: ds, _, n + 1, h => by
    obtain ⟨v, r, rfl, a, b⟩ := h
    exact ⟨v, r.take n, rfl, a, RpL.take n b⟩
theorem RpL.drop : ∀ {ds : List D} {vs : List V} (n : Nat), RpL K m H ds vs → RpL K m H (ds.drop n) (vs.drop n)
  | ds, vs, 0, h => h
  | [], _, n + 1, h => by
    obtain rfl : _ = [] := h
    exact rfl
  | d :: ds, _, n + 1, h => by
    obtain ⟨v, r, rfl, a, b⟩ := h
    exact RpL.drop n b
/-- what is alive stands apart from what is only tracked -/
theorem RSt.ext {st : Store} (r : RSt K cA T m st H) (x : Tr m H m H') (h : ∀ p ∈ m, H' p = H p) (ht : LamX.Tabs T H') : RSt K cA T m st H' := by
  refine ⟨r.len, r.nd, fun i p o hp ho => ?_, fun p hp => ?_, r.dj, ht⟩
  · have q := r.at_ i p o hp ho
    have hm : H' p = H p := h p (.inl (List.mem_of_getElem? hp))
    cases o with
    | lst xs =>
      obtain ⟨vs, e, l⟩ := q
      exact ⟨vs, hm.trans e, RpL.tr x xs vs l⟩
    | dic _ _ => exact q.elim
    | ins c fs =>
      obtain ⟨dx, gs, e, l⟩ := q
      exact ⟨dx, gs, hm.trans e, RpF.tr x fs gs l⟩
  · obtain ⟨u, e⟩ := r.bd p hp
    exact ⟨u, (h p (.inr hp)).trans e⟩
theorem RpO.there {p : Addr} {o : Obj} (h : RpO K cA m H p o) : ∃ u, H p = some u ∧ objO u = true := by
  cases o with
  | lst xs =>
    obtain ⟨vs, e, l⟩ := h
    exact ⟨_, e, rfl⟩
  | dic _ _ => exact h.elim
  | ins c fs =>
    obtain ⟨dx, gs, e, l⟩ := h
    exact ⟨_, e, rfl⟩
theorem RSt.there {st : Store} (r : RSt K cA T m st H) {p : Addr} (h : p ∈ m) : ∃ u, H p = some u ∧ objO u = true := by
  rcases h with h | h
  · obtain ⟨i, hi, e⟩ := List.getElem_of_mem h
    have h1 : m.l[i]? = some p := by rw [List.getElem?_eq_getElem hi, e]
    have h2 : i < st.length := by rw [← r.len]; exact hi
    exact (r.at_ i p _ h1 (List.getElem?_eq_getElem h2)).there
  · obtain ⟨vs, e⟩ := r.bd p h
    exact ⟨_, e, rfl⟩
theorem RSt.off {st : Store} (r : RSt K cA T m st H) {p : Addr} (h : H p = none) : p ∉ m := fun q => by
  obtain ⟨u, e, _⟩ := r.there q
  rw [h] at e
  cases e
theorem Ext.new {st : Store} {p : Addr} {o : HO} (r : RSt K cA T m st H) (h : H p = none) : Ext m H m (upd H p o) :=
  .same (fun q u e _ => by rw [upd_ne (ne_of_none e h)]; exact e) fun q hq => upd_ne fun z => r.off h (z ▸ .inr hq)
theorem Ext.live {st : Store} {p : Addr} {o : HO} (r : RSt K cA T m st H) (h : H p = none) : Ext m H (m.add [p]) (upd H p o) := by
  refine ⟨⟨⟨[p], rfl⟩, fun q u e n _ => ?_⟩, rfl, fun q hq => upd_ne fun z => r.off h (z ▸ .inr hq)⟩
  have hq := ne_of_none e h
  refine ⟨by rw [upd_ne hq]; exact e, fun z => ?_⟩
  rcases z with z | z
  · rcases List.mem_append.mp z with z | z
    · exact n (.inl z)
    · exact hq (by simpa using z)
  · exact n (.inr z)
theorem Ext.wr {st : Store} {p : Addr} {o : HO} (r : RSt K cA T m st H) (h : p ∈ m.l) : Ext m H m (upd H p o) := by
  refine ⟨⟨⟨[], (List.append_nil m.l).symm⟩, fun q u e n _ => ?_⟩, rfl, fun q hq => upd_ne fun z => r.dj q hq (z ▸ h)⟩
  have hq : q ≠ p := fun z => n (.inl (z ▸ h))
  exact ⟨by rw [upd_ne hq]; exact e, n⟩
/-- a new frozen thing -/
theorem RSt.fz {st : Store} (r : RSt K cA T m st H) {p : Addr} {o : HO} (h : H p = none) : RSt K cA T m st (upd H p o) :=
  r.ext (Ext.new r h).toTr (fun q hq => upd_ne fun z => r.off h (z ▸ hq)) (tabs_upd (.inl h) r.tb)
/-- what lives at p lives on besides a new one -/
theorem RSt.push {st : Store} (r : RSt K cA T m st H) {p : Addr} {o : Obj} {u : HO} (h : H p = none) (new : RpO K cA (m.add [p]) (upd H p u) p o) : RSt K cA T (m.add [p]) (st ++ [o]) (upd H p u) := by
  have hp := r.off h
  have x : Ext m H (m.add [p]) (upd H p u) := Ext.live r h
  refine ⟨by simp [Lv.add, r.len], ?_, fun i q o' hq ho => ?_, fun q hq => ?_, fun q hq hl => ?_, tabs_upd (.inl h) r.tb⟩
  · show (m.l ++ [p]).Nodup
    rw [List.nodup_append]
    exact ⟨r.nd, by simp, fun a ha b hb => by
      have e : b = p := by simpa using hb
      rw [e]
      exact fun z => hp (.inl (z ▸ ha))⟩
  · have hq : (m.l ++ [p])[i]? = some q := hq
    by_cases hi : i < m.l.length
    · rw [List.getElem?_append_left hi] at hq
      rw [List.getElem?_append_left (by rw [← r.len]; exact hi)] at ho
      have q1 := r.at_ i q o' hq ho
      have hm : upd H p u q = H q := upd_ne fun z => hp (.inl (z ▸ List.mem_of_getElem? hq))
      cases o' with
      | lst xs =>
        obtain ⟨vs, e, l⟩ := q1
        exact ⟨vs, hm.trans e, RpL.ext x xs vs l⟩
      | dic _ _ => exact q1.elim
      | ins c fs =>
        obtain ⟨dx, gs, e, l⟩ := q1
        exact ⟨dx, gs, hm.trans e, RpF.ext x fs gs l⟩
    · have hi2 : i = m.l.length := by
        have := (List.getElem?_eq_some_iff.mp hq).1
        simp at this
        omega
      subst hi2
      rw [List.getElem?_append_right (Nat.le_refl _)] at hq
      rw [List.getElem?_append_right (by rw [r.len]; exact Nat.le_refl _)] at ho
      have e1 : q = p := by simpa using hq.symm
      have e2 : o' = o := by simpa [r.len] using ho.symm
      rw [e1, e2]
      exact new
  · obtain ⟨w, e⟩ := r.bd q hq
    exact ⟨w, by rw [upd_ne (ne_of_none e h)]; exact e⟩
  · rcases List.mem_append.mp hl with z | z
    · exact r.dj q hq z
    · have e : q = p := by simpa using z
      exact hp (.inr (e ▸ hq))
/-- a live thing is written -/
theorem RSt.wr {st : Store} (r : RSt K cA T m st H) {p : Addr} {i : Nat} {o : Obj} {u : HO} (hp : m.l[i]? = some p) (new : RpO K cA m (upd H p u) p o) : RSt K cA T m (st.set i o) (upd H p u) := by
  have hpm : p ∈ m.l := List.mem_of_getElem? hp
  have x : Ext m H m (upd H p u) := Ext.wr r hpm
  refine ⟨by simp [r.len], r.nd, fun j q o' hq ho => ?_, fun q hq => ?_, r.dj, tabs_upd (.inr (r.there (.inl hpm))) r.tb⟩
  · by_cases hj : i = j
    · subst hj
      have e1 : p = q := by rw [hp] at hq; exact Option.some.inj hq
      have hlt : i < st.length := by
        rw [← r.len]
        exact (List.getElem?_eq_some_iff.mp hp).1
      rw [List.getElem?_set_self hlt] at ho
      cases ho
      rw [← e1]
      exact new
    · rw [List.getElem?_set_ne hj] at ho
      have q1 := r.at_ j q o' hq ho
      have hne : q ≠ p := fun z => hj (by
        obtain ⟨h1, e1⟩ := List.getElem?_eq_some_iff.mp hp
        obtain ⟨h2, e2⟩ := List.getElem?_eq_some_iff.mp hq
        exact (List.getElem_inj r.nd).mp (by rw [e1, e2, z]))
      have hm : upd H p u q = H q := upd_ne hne
      cases o' with
      | lst xs =>
        obtain ⟨vs, e, l⟩ := q1
        exact ⟨vs, hm.trans e, RpL.ext x xs vs l⟩
      | dic _ _ => exact q1.elim
      | ins c fs =>
        obtain ⟨dx, gs, e, l⟩ := q1
        exact ⟨dx, gs, hm.trans e, RpF.ext x fs gs l⟩
  · obtain ⟨w, e⟩ := r.bd q hq
    exact ⟨w, (x.bk q hq).trans e⟩
end
end Mp
end
section
set_option autoImplicit false
set_option Elab.async false
set_option linter.all false
set_option maxRecDepth 100000
set_option maxHeartbeats 1000000
/-! MpPost: readings made of the evaluator's answers. -/
namespace Mp
open PySem PySem.Spec PyProof.Rows L2
/-- what a context knows: the written part, where classes stand, which field an error keeps; what stands at names alone -/
structure Kx where
  K : PySem.W.Frag
  cA : Nat → Addr
  /-- the code objects of the defs that make functions, their tables, the names of these functions -/
  tbs : List (Addr × Addr × Str)
  xat : Nat → Option Sx
  /-- the exceptions' classes -/
  xc : Nat → Bool
  /-- classes that are built in -/
  bt : Nat → Option String
/-- what stands at names alone, by the name -/
abbrev Sv := Nat → Lv → Hp → D → V → Prop
structure SvOk (L : Sv) : Prop where
  ext : ∀ {m m' : Lv} {H H' : Hp} {i : Nat} {d : D} {v : V}, Tr m H m' H' → L i m H d v → L i m' H' d v
  odd : ∀ {m : Lv} {H : Hp} {i : Nat} {d : D} {v : V}, L i m H d v → d.plain = false
abbrev L0 : Sv := fun _ _ _ _ _ => False
theorem L0.ok : SvOk L0 := ⟨fun _ h => h.elim, fun h => h.elim⟩
section
variable (Y : Kx) (L : Sv)
abbrev RS (m : Lv) (st : Store) (H : Hp) : Prop := RSt Y.K Y.cA (Y.tbs.map fun t => t.2) m st H
abbrev RD (m : Lv) (H : Hp) (d : D) (v : V) : Prop := Rp Y.K m H d v
abbrev RDs (m : Lv) (H : Hp) (d : List D) (v : List V) : Prop := RpL Y.K m H d v
structure REnv (m : Lv) (H : Hp) (ρ : Env) (σ : L2.St) : Prop where
  len : ρ.length = σ.length
  at_ : ∀ (i : Nat) (d : D), ρ[i]? = some (some d) → ∃ v, σ[i]? = some (some v) ∧ (RD Y m H d v ∨ L i m H d v)
/-- an error: its class, what it keeps -/
def XR (m : Lv) (H : Hp) (c : Nat) (d : Option D) (cls : Value) (dx : Option Addr) : Prop := cls = .ref (Y.cA c) ∧ Y.xc c = true ∧
  match d with
  | none => dx = none
  | some e => ∃ (a : Addr) (f : Sx) (v : V), dx = some a ∧ H a = some (.xd [(S f, v)]) ∧ a ∉ m ∧ Y.xat c = some f ∧ RD Y m H e v
/-- what is wished of an error that leaves an expression, at the names' values -/
abbrev Wx := Value → Option Addr → Hp → Prop
def Post {α : Type} (W : Wx) (m : Lv) (H : Hp) (r : R α) (k : α → Lv → Store → Hp → Prop) : Prop := match r with
  | .ok a st => ∀ m' H', Ext m H m' H' → RS Y m' st H' → k a m' st H'
  | .err c d st => ∀ m' H' cls dx, Ext m H m' H' → RS Y m' st H' → XR Y m' H' c d cls dx → W cls dx H'
  | .bad => False
end
section
variable {Y : Kx} {L : Sv} {α β : Type} {W : Wx} {m m' : Lv} {H H' : Hp} {σ : L2.St} {ρ : Env} {st : Store}
theorem REnv.tr (hL : SvOk L) (x : Tr m H m' H') (r : REnv Y L m H ρ σ) : REnv Y L m' H' ρ σ := ⟨r.len, fun i d e => by
  obtain ⟨v, h1, h2⟩ := r.at_ i d e
  exact ⟨v, h1, h2.elim (fun h => .inl (Rp.tr x _ _ h)) fun h => .inr (hL.ext x h)⟩⟩
theorem REnv.ext (hL : SvOk L) (x : Ext m H m' H') (r : REnv Y L m H ρ σ) : REnv Y L m' H' ρ σ := r.tr hL x.toTr
theorem Post.ext {r : R α} {k : α → Lv → Store → Hp → Prop} (x : Ext m H m' H') (h : Post Y W m H r k) : Post Y W m' H' r k := by
  cases r with
  | ok a st => exact fun m2 H2 y rs => h m2 H2 (x.trans y) rs
  | err c d st => exact fun m2 H2 cls dx y rs e => h m2 H2 cls dx (x.trans y) rs e
  | bad => exact h
theorem Post.imp {r : R α} {k k' : α → Lv → Store → Hp → Prop} (h : Post Y W m H r k) (f : ∀ a m' st' H', Ext m H m' H' → RS Y m' st' H' → k a m' st' H' → k' a m' st' H') : Post Y W m H r k' := by
  cases r with
  | ok a st => exact fun m2 H2 y rs => f a m2 st H2 y rs (h m2 H2 y rs)
  | err c d st => exact h
  | bad => exact h
theorem Post.bnd {a : M α} {f : α → M β} {k : β → Lv → Store → Hp → Prop} (h : Post Y W m H (bnd a f st) k) : Post Y W m H (a st) fun x m1 st1 H1 => Post Y W m1 H1 (f x st1) k := by
  unfold Mp.bnd at h
  cases e : a st with
  | ok x st1 =>
    rw [e] at h
    exact fun m2 H2 y rs => Post.ext (k := k) y h
  | err c d st1 =>
    rw [e] at h
    exact h
  | bad =>
    rw [e] at h
    exact h
theorem Post.bind {a : M α} {f : α → M β} {k : β → Lv → Store → Hp → Prop} (h : Post Y W m H ((a >>= f) st) k) : Post Y W m H (a st) fun x m1 st1 H1 => Post Y W m1 H1 (f x st1) k := Post.bnd h
theorem Post.here {a : α} {k : α → Lv → Store → Hp → Prop} (rs : RS Y m st H) (h : Post Y W m H (.ok a st) k) : k a m st H := h m H (.refl m H) rs
/-- the answer of an expression -/
abbrev kV (Y : Kx) (Q : VK) : D → Lv → Store → Hp → Prop := fun d m' _ H' => ∀ v, RD Y m' H' d v → Q v H'
abbrev kB (Q : Bool → Hp → Prop) : Bool → Lv → Store → Hp → Prop := fun b _ _ H' => Q b H'
end
section
variable (Y : Kx) (L : Sv) (W : WX)
/-- the readings: from some state of the evaluator that lies here, its answer is wanted -/
def tR {α : Type} (f : Env → M α) (k : α → Lv → Store → Hp → Prop) : L2.St → Hp → Prop := fun σ H => ∃ (m : Lv) (ρ : Env) (st : Store), RS Y m st H ∧ REnv Y L m H ρ σ ∧ Post Y (fun c d H' => W c d σ H') m H (f ρ st) k
def tE (C : Cfg) (e : E) : TE := fun σ H Q => tR Y L W (ev C e) (kV Y Q) σ H
def tT (C : Cfg) (e : Te) : TT := fun σ H Q => tR Y L W (tst C e) (kB Q) σ H
def tA (C : Cfg) (es : Es) : TA := fun σ H Q => tR Y L W (evs C es) (fun ds m' _ H' => ∀ vs, RDs Y m' H' ds vs → Q vs H') σ H
end
theorem PE.imp {X : Cx} {e : Expr} {t t' : TE} (h : PE X e t) (f : ∀ σ H Q, t' σ H Q → t σ H Q) : PE X e t' := ⟨fun pins s σ H Q I q => h.run pins s σ H Q I (f σ H Q q)⟩
theorem PT.imp {X : Cx} {e : Expr} {t t' : TT} (h : PT X e t) (f : ∀ σ H Q, t' σ H Q → t σ H Q) : PT X e t' := ⟨fun pins s σ H Q I q => h.run pins s σ H Q I (f σ H Q q)⟩
theorem PW.imp {X : Cx} {e : Expr} {t t' : TT} (h : PW X e t) (f : ∀ σ H Q, t' σ H Q → t σ H Q) : PW X e t' := ⟨fun whole pins s σ H Q I q => h.run whole pins s σ H Q I (f σ H Q q)⟩
theorem PA.imp {X : Cx} {e : List Expr} {t t' : TA} (h : PA X e t) (f : ∀ σ H Q, t' σ H Q → t σ H Q) : PA X e t' := ⟨fun pos pins s σ H Q I q => h.run pos pins s σ H Q I (f σ H Q q)⟩
theorem PS.imp {X : Cx} {e : Stmt} {t t' : TS} (h : PS X e t) (f : ∀ D σ H, t' D σ H → t D σ H) : PS X e t' := ⟨fun pins s σ H D I q => h.run pins s σ H D I (f D σ H q)⟩
theorem PSs.imp {X : Cx} {e : List Stmt} {t t' : TS} (h : PSs X e t) (f : ∀ D σ H, t' D σ H → t D σ H) : PSs X e t' := ⟨fun pins s σ H D I q => h.run pins s σ H D I (f D σ H q)⟩
theorem PC.imp {X : Cx} {op : CmpOp} {a b : Expr} {t t' : TE} (h : PC X op a b t) (f : ∀ σ H Q, t' σ H Q → t σ H Q) : PC X op a b t' := ⟨fun pins s σ H Q I q => h.run pins s σ H Q I (f σ H Q q)⟩
section
variable {Y : Kx} {L : Sv} {W : WX} {C : Cfg} {σ : L2.St} {H : Hp} {α : Type}
/-- one part ahead, then the rest -/
theorem tR.then {β : Type} {f : Env → M α} {g : Env → α → M β} {k : β → Lv → Store → Hp → Prop} (hL : SvOk L) (h : tR Y L W (fun ρ => f ρ >>= g ρ) k σ H) :
    tR Y L W f (fun x m1 st1 H1 => ∃ ρ, RS Y m1 st1 H1 ∧ REnv Y L m1 H1 ρ σ ∧ Post Y (fun c d H' => W c d σ H') m1 H1 (g ρ x st1) k) σ H := by
  obtain ⟨m, ρ, st, rs, re, p⟩ := h
  exact ⟨m, ρ, st, rs, re, p.bind.imp fun a m' st' H' x rs' q => ⟨ρ, rs', re.ext hL x, q⟩⟩
theorem tR.imp {f : Env → M α} {k k' : α → Lv → Store → Hp → Prop} (h : tR Y L W f k σ H) (g : ∀ a m' st' H', RS Y m' st' H' → k a m' st' H' → k' a m' st' H') : tR Y L W f k' σ H := by
  obtain ⟨m, ρ, st, rs, re, p⟩ := h
  exact ⟨m, ρ, st, rs, re, p.imp fun a m' st' H' _ rs' q => g a m' st' H' rs' q⟩
end
end Mp
end
section
set_option autoImplicit false
set_option Elab.async false
set_option linter.all false
set_option maxRecDepth 100000
set_option maxHeartbeats 1000000
/-! MpData: the evaluator's data and the library's. -/
namespace Mp
open PySem PySem.Spec PyProof.Rows L2
theorem S_inj {x y : Sx} (h : S x = S y) : x = y := by
  have e : x.toArray = y.toArray := congrArg Str.cps h
  simpa using e
theorem S_beq (x y : Sx) : (S x == S y) = decide (x = y) := by
  by_cases h : x = y
  · subst h
    simp
  · rw [decide_eq_false h]
    exact beq_eq_false_iff_ne.mpr fun e => h (S_inj e)
theorem S_app (x y : Sx) : S x ++ S y = S (x ++ y) := by
  show Str.mk _ = Str.mk _
  simp
theorem S_len (x : Sx) : (S x).length = x.length := by
  show (S x).cps.size = _
  simp
mutual
theorem py_lay : ∀ d : D, d.flat = true → d.py.canLay0 = true
  | .non, _ => by simp only [D.py, PyData.canLay0]
  | .bl _, _ => by simp only [D.py, PyData.canLay0]
  | .int _, _ => by simp only [D.py, PyData.canLay0]
  | .str s, h => by
    simp only [D.flat] at h
    simp only [D.py, PyData.canLay0, PyData.strOk]
    simpa using h
  | .tup xs, h => by
    simp only [D.flat] at h
    simp only [D.py, PyData.canLay0]
    exact py_layAll xs h
  | .lst xs, h => by
    simp only [D.flat] at h
    simp only [D.py, PyData.canLay0]
    exact py_layAll xs h
  | .dic _ _, h => by simp [D.flat] at h
  | .obj _, h => by simp [D.flat] at h
  | .lam _, h => by simp [D.flat] at h
  | .exc _ _, h => by simp [D.flat] at h
theorem py_layAll : ∀ ds : List D, flatAll ds = true → PyData.canLayAll0 (pyAll ds) = true
  | [], _ => by simp only [pyAll, PyData.canLayAll0]
  | d :: ds, h => by
    simp only [flatAll, Bool.and_eq_true] at h
    simp only [pyAll, PyData.canLayAll0, py_lay d h.1, py_layAll ds h.2, Bool.and_self]
end
mutual
theorem py_depth : ∀ d : D, d.flat = true → d.py.depth = d.deep
  | .non, _ => by simp only [D.py, PyData.depth, D.deep]
  | .bl _, _ => by simp only [D.py, PyData.depth, D.deep]
  | .int _, _ => by simp only [D.py, PyData.depth, D.deep]
  | .str s, h => by simp only [D.py, PyData.depth, D.deep]
  | .tup xs, h => by
    simp only [D.flat] at h
    simp only [D.py, PyData.depth, D.deep, py_depthAll xs h]
  | .lst xs, h => by
    simp only [D.flat] at h
    simp only [D.py, PyData.depth, D.deep, py_depthAll xs h]
  | .dic _ _, h => by simp [D.flat] at h
  | .obj _, h => by simp [D.flat] at h
  | .lam _, h => by simp [D.flat] at h
  | .exc _ _, h => by simp [D.flat] at h
theorem py_depthAll : ∀ ds : List D, flatAll ds = true → PyData.depthAll (pyAll ds) = deepAll ds
  | [], _ => by simp only [pyAll, PyData.depthAll, deepAll]
  | d :: ds, h => by
    simp only [flatAll, Bool.and_eq_true] at h
    simp only [pyAll, PyData.depthAll, deepAll, py_depth d h.1, py_depthAll ds h.2]
end
theorem py_shaped {d : D} (h : d.good = true) : SeqAt.shaped d.py = true := by
  simp only [D.good, Bool.and_eq_true, decide_eq_true_eq] at h
  show (d.py.canLay0 && decide (d.py.depth ≤ 64)) = true
  rw [py_lay d h.1, py_depth d h.1, Bool.true_and, decide_eq_true_eq]
  omega
theorem ibeq (a b : Int) : (a == b) = decide (a = b) := by
  rw [Bool.eq_iff_iff, beq_iff_eq, decide_eq_true_eq]
mutual
theorem py_eqv : ∀ a b : D, a.flat = true → b.flat = true → PyData.eqv a.py b.py = a.eqv b
  | .non, b, _, hb => by cases b <;> simp_all [D.py, PyData.eqv, D.eqv, D.flat]
  | .bl x, b, _, hb => by cases b <;> simp_all [D.py, PyData.eqv, D.eqv, D.flat, b2i] <;> exact ibeq _ _
  | .int x, b, _, hb => by cases b <;> simp_all [D.py, PyData.eqv, D.eqv, D.flat, b2i] <;> exact ibeq _ _
  | .str x, b, _, hb => by
    cases b with
    | str y => simp only [D.py, PyData.eqv, D.eqv]; exact S_beq x y
    | _ => simp_all [D.py, PyData.eqv, D.eqv, D.flat]
  | .tup xs, b, ha, hb => by
    simp only [D.flat] at ha
    cases b with
    | tup ys =>
      simp only [D.flat] at hb
      simp only [D.py, PyData.eqv, D.eqv]
      exact py_eqvAll xs ys ha hb
    | _ => simp_all [D.py, PyData.eqv, D.eqv, D.flat]
  | .lst xs, b, ha, hb => by
    simp only [D.flat] at ha
    cases b with
    | lst ys =>
      simp only [D.flat] at hb
      simp only [D.py, PyData.eqv, D.eqv]
      exact py_eqvAll xs ys ha hb
    | _ => simp_all [D.py, PyData.eqv, D.eqv, D.flat]
  | .dic _ _, _, h, _ => by simp [D.flat] at h
  | .obj _, _, h, _ => by simp [D.flat] at h
  | .lam _, _, h, _ => by simp [D.flat] at h
  | .exc _ _, _, h, _ => by simp [D.flat] at h
theorem py_eqvAll : ∀ xs ys : List D, flatAll xs = true → flatAll ys = true → PyData.eqvAll (pyAll xs) (pyAll ys) = eqvAll xs ys
  | [], [], _, _ => by simp [pyAll, PyData.eqvAll, eqvAll]
  | [], _ :: _, _, _ => by simp [pyAll, PyData.eqvAll, eqvAll]
  | _ :: _, [], _, _ => by simp [pyAll, PyData.eqvAll, eqvAll]
  | x :: xs, y :: ys, ha, hb => by
    simp only [flatAll, Bool.and_eq_true] at ha hb
    simp only [pyAll, PyData.eqvAll, eqvAll, py_eqv x y ha.1 hb.1, py_eqvAll xs ys ha.2 hb.2]
end
theorem pyAll_any {x : D} (hx : x.flat = true) : ∀ ys : List D, flatAll ys = true → ((pyAll ys).any fun z => PyData.eqv z x.py) = ys.any fun z => z.eqv x
  | [], _ => rfl
  | y :: ys, h => by
    simp only [flatAll, Bool.and_eq_true] at h
    simp only [pyAll, List.any_cons, py_eqv y x h.1 hx, pyAll_any hx ys h.2]
theorem pyAll_length : ∀ ys : List D, (pyAll ys).length = ys.length
  | [] => rfl
  | y :: ys => by simp only [pyAll, List.length_cons, pyAll_length ys]
section
variable {K : PySem.W.Frag} {X : Cx} {pins : List (Addr × PySem.Obj)} {σ : L2.St} {m : Lv} {H : Hp} {s : Shared}
mutual
theorem Rp.reads (I : Inv X pins σ H s) : ∀ (d : D) (v : V) (u : Value), d.flat = true → Rp X.K m H d v → RelV v u → ∃ as, Reads s.heap u d.py as
  | .non, v, u, _, h, r => by
    obtain rfl : v = _ := h
    cases r
    exact ⟨[], by simp only [D.py]; exact .none⟩
  | .bl b, v, u, _, h, r => by
    obtain rfl : v = _ := h
    cases r
    exact ⟨[], by simp only [D.py]; exact .bool b⟩
  | .int i, v, u, _, h, r => by
    obtain rfl : v = _ := h
    obtain ⟨t, rfl⟩ := r
    exact ⟨[], by simp only [D.py]; exact .int i t⟩
  | .str z, v, u, _, h, r => by
    obtain rfl : v = _ := h
    obtain ⟨t, rfl⟩ := r
    exact ⟨[], by simp only [D.py]; exact .str _ t⟩
  | .tup xs, v, u, hf, h, r => by
    obtain ⟨p, vs, rfl, f, l⟩ := h
    simp only [D.flat] at hf
    cases r
    obtain ⟨its, rv, ⟨o, ho, hc, n, hd⟩, _⟩ := I.tuple f.sq
    obtain ⟨as, ra⟩ := RpL.reads I xs vs its hf l rv
    exact ⟨_, by simp only [D.py]; exact .tuple ho hc hd (by simpa using ra)⟩
  | .lst xs, v, u, hf, h, r => by
    obtain ⟨p, vs, rfl, f, l⟩ := h
    simp only [D.flat] at hf
    cases r
    obtain ⟨its, rv, ⟨o, n, ho, hc, _, hd⟩, _⟩ := I.list f.sq
    obtain ⟨as, ra⟩ := RpL.reads I xs vs its hf l rv
    exact ⟨_, by simp only [D.py]; exact .list ho hc hd (by simpa using ra)⟩
  | .dic _ _, _, _, h, _, _ => by simp [D.flat] at h
  | .obj _, _, _, h, _, _ => by simp [D.flat] at h
  | .lam _, _, _, h, _, _ => by simp [D.flat] at h
  | .exc _ _, _, _, h, _, _ => by simp [D.flat] at h
theorem RpL.reads (I : Inv X pins σ H s) : ∀ (ds : List D) (vs : List V) (us : List Value), flatAll ds = true → RpL X.K m H ds vs → Vals vs us → ∃ as, ReadsAll s.heap us (pyAll ds) as
  | [], vs, us, _, h, r => by
    obtain rfl : vs = [] := h
    cases r
    exact ⟨[], by simp only [pyAll]; exact .nil⟩
  | d :: ds, vs, us, hf, h, r => by
    obtain ⟨v, w, rfl, a, b⟩ := h
    simp only [flatAll, Bool.and_eq_true] at hf
    cases r with
    | cons r1 r2 =>
      obtain ⟨as, h1⟩ := Rp.reads I d v _ hf.1 a r1
      obtain ⟨bs, h2⟩ := RpL.reads I ds w _ hf.2 b r2
      exact ⟨_, by simp only [pyAll]; exact .cons h1 h2⟩
end
end
end Mp
end
section
set_option autoImplicit false
set_option Elab.async false
set_option linter.all false
set_option maxRecDepth 100000
set_option maxHeartbeats 1000000
/-! MpOps: operators by values. -/
namespace Mp
open PySem PySem.Spec PyProof.Rows L2
/-- a two-place operation of the evaluator, on values that lie in the heap -/
def v2 (Y : Kx) (f : D → D → M D) : R2 := fun x y H Q => ∃ (W : Wx) (m : Lv) (st : Store) (dx dy : D), RS Y m st H ∧ RD Y m H dx x ∧ RD Y m H dy y ∧ Post Y W m H (f dx dy st) (kV Y Q)
section
variable {Y : Kx} {W : Wx} {m : Lv} {H : Hp} {st : Store} {Q : VK}
theorem Post.val {d : D} (rs : RS Y m st H) (h : Post Y W m H (.ok d st) (kV Y Q)) {v : V} (r : RD Y m H d v) : Q v H := h m H (.refl m H) rs v r
/-- a new list -/
theorem new_post {lv : Bool} {ds : List D} {vs : List V} (rs : RS Y m st H) (h : Post Y W m H (new lv ds st) (kV Y Q)) (r : RDs Y m H ds vs) {a : Addr} (ha : H a = none) : Q (.ref a) (upd H a (.lst vs)) := by
  cases lv with
  | false => exact h m _ (Ext.new rs ha) (RSt.fz rs ha) _ ⟨a, vs, rfl, .inl ⟨.inl upd_same, rs.off ha⟩, RpL.ext (Ext.new rs ha) _ _ r⟩
  | true =>
    refine h (m.add [a]) _ (Ext.live rs ha) (RSt.push rs ha ⟨vs, upd_same, RpL.ext (Ext.live rs ha) _ _ r⟩) _ ⟨a, rfl, ?_⟩
    have e : st.length = m.l.length := rs.len.symm
    rw [e]
    simp [Lv.add]
/-- a new tuple -/
theorem tup_post {ds : List D} {vs : List V} (rs : RS Y m st H) (h : Post Y W m H (.ok (.tup ds) st) (kV Y Q)) (r : RDs Y m H ds vs) {a : Addr} (ha : H a = none) : Q (.ref a) (upd H a (.tup vs)) :=
  h m _ (Ext.new rs ha) (RSt.fz rs ha) _ ⟨a, vs, rfl, .inl ⟨.inl upd_same, rs.off ha⟩, RpL.ext (Ext.new rs ha) _ _ r⟩
/-- what cont gives: the value itself, or the list that is alive -/
theorem cont_ok {d : D} {v : V} (rs : RS Y m st H) (r : RD Y m H d v) : cont d st = .bad ∨ (cont d st = .ok d st ∧ (∀ i, d ≠ .obj i)) ∨
    ∃ i xs p vs, d = .obj i ∧ cont d st = .ok (.lst xs) st ∧ v = .ref p ∧ H p = some (.lst vs) ∧ RDs Y m H xs vs ∧ m.l[i]? = some p := by
  cases d with
  | obj i =>
    obtain ⟨p, rfl, hp⟩ := r
    have hl : i < st.length := by
      rw [← rs.len]
      exact (List.getElem?_eq_some_iff.mp hp).1
    have e := List.getElem?_eq_getElem hl
    have q := rs.at_ i p _ hp e
    simp only [cont, e]
    cases ho : st[i] with
    | lst xs =>
      rw [ho] at q
      obtain ⟨vs, h1, h2⟩ := q
      exact .inr (.inr ⟨i, xs, p, vs, rfl, rfl, rfl, h1, h2, hp⟩)
    | dic _ _ => exact .inl rfl
    | ins _ _ => exact .inl rfl
  | _ => exact .inr (.inl ⟨rfl, fun i q => by cases q⟩)
/-- .. as a list or what it is -/
theorem cont_reads {X : Cx} {pins : List (Addr × PySem.Obj)} {σ : L2.St} {s : Shared} (hK : Y.K = X.K) (I : Inv X pins σ H s) {d d' : D} {v : V} {u : Value} (rs : RS Y m st H) (r : RD Y m H d v) (e : cont d st = .ok d' st) (hf : d'.flat = true) (ru : RelV v u) :
    ∃ as, Reads s.heap u d'.py as := by
  rcases cont_ok rs r with q | ⟨q, _⟩ | ⟨i, xs, p, vs, rfl, q, rfl, h1, h2, _⟩
  · rw [q] at e; cases e
  · rw [q] at e
    cases e
    exact Rp.reads (m := m) I d v u hf (by rw [← hK]; exact r) ru
  · rw [q] at e
    cases e
    simp only [D.flat] at hf
    cases ru
    obtain ⟨its, rv, ⟨o, n, ho, hc, _, hd⟩, _⟩ := I.list (SqL.of h1)
    obtain ⟨as, ra⟩ := RpL.reads (m := m) I xs vs its hf (by rw [← hK]; exact h2) rv
    exact ⟨_, by simp only [D.py]; exact .list ho hc hd (by simpa using ra)⟩
theorem cont_inv {d : D} {β : Type} {f : D → M β} {k : β → Lv → Store → Hp → Prop} {v : V} (rs : RS Y m st H) (r : RD Y m H d v) (h : Post Y W m H ((cont d >>= f) st) k) :
    ∃ d', cont d st = .ok d' st ∧ Post Y W m H (f d' st) k := by
  have q : Post Y W m H ((cont d st).then f) k := h
  rcases cont_ok rs r with e | ⟨e, _⟩ | ⟨i, xs, p, vs, rfl, e, _⟩
  · rw [e] at q; exact q.elim
  · rw [e] at q; exact ⟨_, e, q⟩
  · rw [e] at q; exact ⟨_, e, q⟩
end
section
variable {X : Cx} {Y : Kx}
theorem vo_add (hK : Y.K = X.K) {lv : Bool} : OpR X (binaryOp .Add) (v2 Y (op2 (.add lv))) := by
  intro pins s σ H x y v u Q I rx ry h
  obtain ⟨W, m, st, dx, dy, rs, hx, hy, p⟩ := h
  have lists : Post Y W m H ((do
      let x ← cont dx
      let y ← cont dy
      match x, y with
      | .lst a, .lst b => if a.length + b.length ≤ lim then new lv (a ++ b) else bad
      | _, _ => bad : M D) st) (kV Y Q) → wpAny (model X.prog X.w) X.A (binaryOp .Add v u) (EP X pins σ Q) X.xe s := by
    intro p
    obtain ⟨x', e1, p⟩ := cont_inv rs hx p
    obtain ⟨y', e2, p⟩ := cont_inv rs hy p
    have side : ∀ {d d' : D} {w : V} (r : RD Y m H d w) (e : cont d st = .ok d' st) (a : List D), d' = .lst a → ∃ q vs, w = .ref q ∧ SqL X.K H q vs ∧ RDs Y m H a vs := by
      intro d d' w r e a ea
      rcases cont_ok rs r with z | ⟨z, _⟩ | ⟨i, xs, q, vs, rfl, z, rfl, h1, h2, _⟩
      · rw [z] at e; cases e
      · rw [z] at e
        cases e
        subst ea
        obtain ⟨q, vs, e, f, l⟩ := r
        exact ⟨q, vs, e, by rw [← hK]; exact f.sq, l⟩
      · rw [z] at e
        cases e
        cases ea
        exact ⟨q, vs, rfl, SqL.of h1, h2⟩
    cases x' with
    | lst a =>
      cases y' with
      | lst b =>
        obtain ⟨q1, vs, rfl, l1, r1⟩ := side hx e1 a rfl
        obtain ⟨q2, ws, rfl, l2, r2⟩ := side hy e2 b rfl
        cases rx
        cases ry
        have p' : Post Y W m H ((if a.length + b.length ≤ lim then new lv (a ++ b) else bad : M D) st) (kV Y Q) := p
        by_cases hl : a.length + b.length ≤ lim
        · rw [if_pos hl] at p'
          obtain ⟨its, rv, ⟨o, n, ho, hc, hd0, hd⟩, _⟩ := I.list l1
          obtain ⟨its2, rw2, ⟨o2, n2, ho2, hc2, hd2, hd'⟩, _⟩ := I.list l2
          have z1 := rv.length
          have z2 := rw2.length
          have z3 := r1.length
          have z4 := r2.length
          have hsz : its.length + its2.length ≤ sizeLine := by
            have : lim ≤ sizeLine := by decide
            omega
          obtain ⟨c1, d1, a1, t1⟩ := o
          obtain ⟨c2, d2, a2, t2⟩ := o2
          simp only at hc hd hc2 hd'
          subst hc hd hc2 hd'
          refine concat_meets ⟨_, ho, rfl⟩ ⟨_, ho2, rfl⟩ noFill_list_add seq_list_add
            PySem.F.slot_list_add PySem.F.entry_list_add (PySem.F.args_list_add_2 _ _)
            (list_addW q1 q2 its.toArray its2.toArray n n2 d1 d2 t1 t2 (by simpa using hsz)) ⟨ho, ho2, ?_⟩
          have ea : its.toArray ++ its2.toArray = (its ++ its2).toArray := by simp
          rw [ea]
          exact ⟨.ref _, _, I.lnew (t' := s.toks) (rv.append rw2) (by rw [List.length_append]; omega), rfl, new_post rs p' (r1.append r2) I.fresh⟩
        · rw [if_neg hl] at p'
          exact p'.elim
      | _ => exact p.elim
    | _ => exact (by cases y' <;> exact p.elim)
  cases dx with
  | int i =>
    cases dy with
    | int j => exact op_add pins s σ H x y v u Q I rx ry ⟨i, j, hx, hy, Post.val rs p rfl⟩
    | _ => exact lists p
  | str a =>
    cases dy with
    | str b =>
      have p' : Post Y W m H ((if a.length + b.length ≤ lim then ret (.str (a ++ b)) else bad : M D) st) (kV Y Q) := p
      by_cases hl : a.length + b.length ≤ lim
      · rw [if_pos hl] at p'
        have : lim ≤ sizeLine := by decide
        exact op_add_str pins s σ H x y v u Q I rx ry ⟨S a, S b, hx, hy, by rw [S_len, S_len]; omega, by rw [S_app]; exact Post.val rs p' rfl⟩
      · rw [if_neg hl] at p'
        exact p'.elim
    | _ => exact lists p
  | tup a =>
    cases dy with
    | tup b =>
      have p' : Post Y W m H ((if a.length + b.length ≤ lim then ret (.tup (a ++ b)) else bad : M D) st) (kV Y Q) := p
      by_cases hl : a.length + b.length ≤ lim
      · rw [if_pos hl] at p'
        obtain ⟨q1, vs, rfl, f1, r1⟩ := hx
        obtain ⟨q2, ws, rfl, f2, r2⟩ := hy
        have : lim ≤ sizeLine := by decide
        have z1 := r1.length
        have z2 := r2.length
        rw [hK] at f1 f2
        refine op_catA pins s σ H _ _ v u Q I rx ry ⟨q1, q2, vs, ws, rfl, rfl, f1.sq, f2.sq, by omega, fun e => ?_, fun _ e => ?_, fun _ _ a ha => tup_post rs p' (r1.append r2) ha⟩
        · subst e
          have ea : a = [] := List.eq_nil_of_length_eq_zero (by rw [← z1]; rfl)
          subst ea
          exact Post.val rs p' ⟨q2, ws, rfl, by rw [hK]; exact f2, r2⟩
        · subst e
          have eb : b = [] := List.eq_nil_of_length_eq_zero (by rw [← z2]; rfl)
          subst eb
          exact Post.val rs p' ⟨q1, vs, rfl, by rw [hK]; exact f1, by rw [List.append_nil]; exact r1⟩
      · rw [if_neg hl] at p'
        exact p'.elim
    | _ => exact lists p
  | _ => exact lists p
theorem vo_sub : OpR X (binaryOp .Sub) (v2 Y (op2 .sub)) := by
  intro pins s σ H x y v u Q I rx ry h
  obtain ⟨W, m, st, dx, dy, rs, hx, hy, p⟩ := h
  cases dx with
  | int i =>
    cases dy with
    | int j => exact op_sub pins s σ H x y v u Q I rx ry ⟨i, j, hx, hy, Post.val rs p rfl⟩
    | _ => exact p.elim
  | _ => exact p.elim
theorem vo_mul : OpR X (binaryOp .Mult) (v2 Y (op2 .mul)) := by
  intro pins s σ H x y v u Q I rx ry h
  obtain ⟨W, m, st, dx, dy, rs, hx, hy, p⟩ := h
  cases dx with
  | int i =>
    cases dy with
    | int j =>
      have p' : Post Y W m H ((if okBits i j = true then ret (.int (i * j)) else bad : M D) st) (kV Y Q) := p
      by_cases hl : okBits i j = true
      · rw [if_pos hl] at p'
        have q : Q (.int (i * j)) H := Post.val rs p' rfl
        simp only [okBits, Bool.or_eq_true, Bool.and_eq_true, decide_eq_true_eq] at hl
        rcases hl with h1 | h1 | h1
        · exact op_mul pins s σ H x y v u Q I rx ry ⟨i, j, hx, hy, .inl h1, q⟩
        · exact op_mul pins s σ H x y v u Q I rx ry ⟨i, j, hx, hy, .inr h1, q⟩
        · exact op_mulW pins s σ H x y v u Q I rx ry ⟨i, j, hx, hy, h1, q⟩
      · rw [if_neg hl] at p'
        exact p'.elim
    | _ => exact p.elim
  | _ => exact p.elim
theorem vo_fdiv : OpR X (binaryOp .FloorDiv) (v2 Y (op2 .fdiv)) := by
  intro pins s σ H x y v u Q I rx ry h
  obtain ⟨W, m, st, dx, dy, rs, hx, hy, p⟩ := h
  cases dx with
  | int i =>
    cases dy with
    | int j =>
      have p' : Post Y W m H ((if 0 < j ∧ j < 1073741824 then ret (.int (i / j)) else bad : M D) st) (kV Y Q) := p
      by_cases hl : 0 < j ∧ j < 1073741824
      · rw [if_pos hl] at p'
        exact op_fdiv pins s σ H x y v u Q I rx ry ⟨i, j, hx, hy, hl, Post.val rs p' rfl⟩
      · rw [if_neg hl] at p'
        exact p'.elim
    | _ => exact p.elim
  | _ => exact p.elim
theorem vo_mod : OpR X (binaryOp .Mod) (v2 Y (op2 .mod)) := by
  intro pins s σ H x y v u Q I rx ry h
  obtain ⟨W, m, st, dx, dy, rs, hx, hy, p⟩ := h
  cases dx with
  | int i =>
    cases dy with
    | int j =>
      have p' : Post Y W m H ((if 0 < j then ret (.int (i % j)) else bad : M D) st) (kV Y Q) := p
      by_cases hl : 0 < j
      · rw [if_pos hl] at p'
        exact op_mod pins s σ H x y v u Q I rx ry ⟨i, j, hx, hy, hl, Post.val rs p' rfl⟩
      · rw [if_neg hl] at p'
        exact p'.elim
    | _ => exact p.elim
  | _ => exact p.elim
theorem vo_pow : OpR X (binaryOp .Pow) (v2 Y (op2 .pow)) := by
  intro pins s σ H x y v u Q I rx ry h
  obtain ⟨W, m, st, dx, dy, rs, hx, hy, p⟩ := h
  cases dx with
  | int i =>
    cases dy with
    | int j =>
      have p' : Post Y W m H ((if 0 ≤ j ∧ j ≤ 1000 ∧ i.natAbs < 18446744073709551616 then ret (.int (i ^ j.toNat)) else bad : M D) st) (kV Y Q) := p
      by_cases hl : 0 ≤ j ∧ j ≤ 1000 ∧ i.natAbs < 18446744073709551616
      · rw [if_pos hl] at p'
        exact op_pow pins s σ H x y v u Q I rx ry ⟨i, j, hx, hy, ⟨hl.1, by omega, hl.2.2⟩, Post.val rs p' rfl⟩
      · rw [if_neg hl] at p'
        exact p'.elim
    | _ => exact p.elim
  | _ => exact p.elim
def pyOp : Op → Operator
  | .add _ => .Add
  | .sub => .Sub
  | .mul => .Mult
  | .fdiv => .FloorDiv
  | .mod => .Mod
  | .pow => .Pow
theorem vo_op (hK : Y.K = X.K) (o : Op) : OpR X (binaryOp (pyOp o)) (v2 Y (op2 o)) := match o with
  | .add _ => vo_add hK
  | .sub => vo_sub
  | .mul => vo_mul
  | .fdiv => vo_fdiv
  | .mod => vo_mod
  | .pow => vo_pow
/-! ### comparisons -/
def cmpD (o : Cm) (x y : D) : M D := do let t ← cmp2 o x y; ret (.bl t)
def pyCm : Cm → CmpOp
  | .eq => .Eq | .ne => .NotEq | .lt => .Lt | .le => .LtE | .gt => .Gt | .ge => .GtE | .inn => .In | .nin => .NotIn | .is => .Is | .isn => .IsNot
theorem eqG_inv {W : Wx} {m : Lv} {H : Hp} {st : Store} {dx dy : D} {x y : V} {β : Type} {f : Bool → M β} {k : β → Lv → Store → Hp → Prop} (rs : RS Y m st H) (hx : RD Y m H dx x) (hy : RD Y m H dy y) (p : Post Y W m H ((eqG dx dy >>= f) st) k) :
    ∃ x' y', cont dx st = .ok x' st ∧ cont dy st = .ok y' st ∧ x'.good = true ∧ y'.good = true ∧ Post Y W m H (f (x'.eqv y') st) k := by
  have q : Post Y W m H ((((cont dx st).then fun x => bnd (cont dy) fun y => if (x.good && y.good) = true then ret (x.eqv y) else bad)).then f) k := p
  have two : ∀ d : D, cont d st = .bad ∨ ∃ d', cont d st = .ok d' st := fun d => by
    cases d with
    | obj i =>
      simp only [cont]
      split
      · exact .inr ⟨_, rfl⟩
      · exact .inl rfl
    | _ => exact .inr ⟨_, rfl⟩
  rcases two dx with e1 | ⟨x', e1⟩
  · rw [e1] at q
    exact q.elim
  · rcases two dy with e2 | ⟨y', e2⟩
    · rw [e1] at q
      have q2 : Post Y W m H (((cont dy st).then fun y => if (x'.good && y.good) = true then ret (x'.eqv y) else bad).then f) k := q
      rw [e2] at q2
      exact q2.elim
    · rw [e1] at q
      have q2 : Post Y W m H (((cont dy st).then fun y => if (x'.good && y.good) = true then ret (x'.eqv y) else bad).then f) k := q
      rw [e2] at q2
      have q3 : Post Y W m H (((if (x'.good && y'.good) = true then ret (x'.eqv y') else bad : M Bool) st).then f) k := q2
      by_cases hg : (x'.good && y'.good) = true
      · rw [if_pos hg] at q3
        rw [Bool.and_eq_true] at hg
        exact ⟨x', y', e1, e2, hg.1, hg.2, q3⟩
      · rw [if_neg hg] at q3
        exact q3.elim
theorem eqD_cases (dx dy : D) : (∃ a b, dx = .str a ∧ dy = .str b ∧ eqD dx dy = ret (decide (a = b))) ∨ eqD dx dy = eqG dx dy := by
  cases dx with
  | str a =>
    cases dy with
    | str b => exact .inl ⟨a, b, rfl, rfl, rfl⟩
    | _ => exact .inr rfl
  | _ => exact .inr rfl
theorem str_dec (a b : Sx) : decide (V.str (S a) = V.str (S b)) = decide (a = b) := by
  rw [Bool.eq_iff_iff, decide_eq_true_eq, decide_eq_true_eq]
  constructor
  · intro h
    have h1 := V.str.inj h
    have h2 := congrArg (fun z : PySem.Str => z.cps.toList) h1
    simpa using h2
  · intro h
    rw [h]
theorem good_flat {d : D} (h : d.good = true) : d.flat = true := by
  simp only [D.good, Bool.and_eq_true] at h
  exact h.1
theorem vo_eq (hK : Y.K = X.K) (hu : X.A.units + 64 < cLine) : OpR X (compareOp .Eq) (v2 Y (cmpD .eq)) := by
  intro pins s σ H x y v u Q I rx ry h
  obtain ⟨W, m, st, dx, dy, rs, hx, hy, p⟩ := h
  rcases eqD_cases dx dy with ⟨a, b, rfl, rfl, e⟩ | e
  · obtain rfl : x = _ := hx
    obtain rfl : y = _ := hy
    have p : Post Y W m H ((eqD (.str a) (.str b) >>= fun t => ret (.bl t) : M D) st) (kV Y Q) := p
    rw [e] at p
    have p : Post Y W m H (.ok (.bl (decide (a = b))) st) (kV Y Q) := p
    exact op_eq pins s σ H _ _ v u Q I rx ry ⟨rfl, by rw [str_dec]; exact Post.val rs p rfl⟩
  have p : Post Y W m H ((eqD dx dy >>= fun t => ret (.bl t) : M D) st) (kV Y Q) := p
  rw [e] at p
  obtain ⟨x', y', e1, e2, g1, g2, q⟩ := eqG_inv rs hx hy p
  obtain ⟨as, r1⟩ := cont_reads hK I rs hx e1 (good_flat g1) rx
  obtain ⟨bs, r2⟩ := cont_reads hK I rs hy e2 (good_flat g2) ry
  refine PyProof.Rows.eq_dataH r1 r2 (py_shaped g1) (py_shaped g2) hu ?_
  rw [py_eqv x' y' (good_flat g1) (good_flat g2)]
  exact ⟨.bl _, H, I, rfl, Post.val rs q rfl⟩
theorem vo_ne (hK : Y.K = X.K) (hu : X.A.units + 64 < cLine) : OpR X (compareOp .NotEq) (v2 Y (cmpD .ne)) := by
  intro pins s σ H x y v u Q I rx ry h
  obtain ⟨W, m, st, dx, dy, rs, hx, hy, p⟩ := h
  have p' : Post Y W m H ((eqD dx dy >>= fun t => ret (.bl (!t)) : M D) st) (kV Y Q) := by
    have e : (cmpD .ne dx dy : M D) = (eqD dx dy >>= fun t => ret (.bl (!t))) := by
      funext st
      show ((eqD dx dy st).then fun t => ret (!t)).then (fun t => ret (D.bl t)) = (eqD dx dy st).then fun t => ret (D.bl (!t))
      cases eqD dx dy st <;> rfl
    rw [← e]
    exact p
  rcases eqD_cases dx dy with ⟨a, b, rfl, rfl, e⟩ | e
  · obtain rfl : x = _ := hx
    obtain rfl : y = _ := hy
    rw [e] at p'
    have p : Post Y W m H (.ok (.bl (!decide (a = b))) st) (kV Y Q) := p'
    exact op_ne pins s σ H _ _ v u Q I rx ry ⟨rfl, by rw [str_dec]; exact Post.val rs p rfl⟩
  rw [e] at p'
  obtain ⟨x', y', e1, e2, g1, g2, q⟩ := eqG_inv rs hx hy p'
  obtain ⟨as, r1⟩ := cont_reads hK I rs hx e1 (good_flat g1) rx
  obtain ⟨bs, r2⟩ := cont_reads hK I rs hy e2 (good_flat g2) ry
  refine PyProof.Rows.ne_dataH r1 r2 (py_shaped g1) (py_shaped g2) hu ?_
  rw [py_eqv x' y' (good_flat g1) (good_flat g2)]
  exact ⟨.bl _, H, I, rfl, Post.val rs q rfl⟩
theorem ints_map : ∀ {ds : List D} {is : List Int}, ints? ds = some is → ds = is.map D.int
  | [], is, h => by
    have e : some ([] : List Int) = some is := h
    cases e
    rfl
  | d :: ds, is, h => by
    cases d with
    | int i =>
      have e : (ints? ds).map (i :: ·) = some is := h
      obtain ⟨js, e1, rfl⟩ := Option.map_eq_some_iff.mp e
      rw [List.map_cons, ints_map e1]
    | _ => cases h
theorem RpL.ints {K : PySem.W.Frag} {m : Lv} {H : Hp} : ∀ {is : List Int} {vs : List V}, RpL K m H (is.map D.int) vs → vs = is.map V.int
  | [], _, h => h
  | i :: is, _, h => by
    obtain ⟨v, r, rfl, a, b⟩ := h
    obtain rfl : v = _ := a
    rw [List.map_cons, RpL.ints b]
theorem vo_lt (hK : Y.K = X.K) (hu : X.A.units + 64 < cLine) : OpR X (compareOp .Lt) (v2 Y (cmpD .lt)) := by
  intro pins s σ H x y v u Q I rx ry h
  obtain ⟨W, m, st, dx, dy, rs, hx, hy, p⟩ := h
  cases dx with
  | int i =>
    cases dy with
    | int j => exact op_lt pins s σ H x y v u Q I rx ry ⟨i, j, hx, hy, Post.val rs p rfl⟩
    | _ => exact p.elim
  | tup a =>
    cases dy with
    | tup b =>
      have p' : Post Y W m H (((match ints? a, ints? b with
        | some is, some js => ret (HT.lexLt is js)
        | _, _ => bad : M Bool) st).then fun t => ret (D.bl t)) (kV Y Q) := p
      cases ea : ints? a with
      | none =>
        rw [ea] at p'
        exact p'.elim
      | some is =>
        cases eb : ints? b with
        | none =>
          rw [ea, eb] at p'
          exact p'.elim
        | some js =>
          rw [ea, eb] at p'
          rw [ints_map ea] at hx
          rw [ints_map eb] at hy
          obtain ⟨q1, vs, rfl, f1, r1⟩ := hx
          obtain ⟨q2, ws, rfl, f2, r2⟩ := hy
          rw [hK] at f1 f2
          have g1 := f1.sq
          have g2 := f2.sq
          rw [r1.ints] at g1
          rw [r2.ints] at g2
          exact op_ltT (by omega) pins s σ H _ _ v u Q I rx ry ⟨q1, q2, is, js, rfl, rfl, g1, g2, Post.val rs p' rfl⟩
    | _ => exact p.elim
  | _ => exact p.elim
theorem vo_le : OpR X (compareOp .LtE) (v2 Y (cmpD .le)) := by
  intro pins s σ H x y v u Q I rx ry h
  obtain ⟨W, m, st, dx, dy, rs, hx, hy, p⟩ := h
  cases dx with
  | int i =>
    cases dy with
    | int j => exact op_le pins s σ H x y v u Q I rx ry ⟨i, j, hx, hy, Post.val rs p rfl⟩
    | _ => exact p.elim
  | _ => exact p.elim
theorem vo_gt : OpR X (compareOp .Gt) (v2 Y (cmpD .gt)) := by
  intro pins s σ H x y v u Q I rx ry h
  obtain ⟨W, m, st, dx, dy, rs, hx, hy, p⟩ := h
  cases dx with
  | int i =>
    cases dy with
    | int j => exact op_gt pins s σ H x y v u Q I rx ry ⟨i, j, hx, hy, Post.val rs p rfl⟩
    | _ => exact p.elim
  | _ => exact p.elim
theorem vo_ge : OpR X (compareOp .GtE) (v2 Y (cmpD .ge)) := by
  intro pins s σ H x y v u Q I rx ry h
  obtain ⟨W, m, st, dx, dy, rs, hx, hy, p⟩ := h
  cases dx with
  | int i =>
    cases dy with
    | int j => exact op_ge pins s σ H x y v u Q I rx ry ⟨i, j, hx, hy, Post.val rs p rfl⟩
    | _ => exact p.elim
  | _ => exact p.elim
theorem goodAll_flat {ds : List D} (h : goodAll ds = true) : flatAll ds = true := by
  simp only [goodAll, Bool.and_eq_true] at h
  exact h.1
theorem goodAll_room {ds : List D} {d : D} {A : Around} (h : goodAll ds = true) (hu : A.units + 64 < cLine) : A.units + 1 + min (PyData.depthAll (pyAll ds)) d.py.depth < cLine := by
  have f := goodAll_flat h
  simp only [goodAll, Bool.and_eq_true, decide_eq_true_eq] at h
  rw [py_depthAll ds f]
  have := Nat.min_le_left (deepAll ds) d.py.depth
  omega
/-- in, not in, by the answer's last step -/
theorem vo_inG (hK : Y.K = X.K) (hu : X.A.units + 64 < cLine) {op : CmpOp} {f : Bool → Bool} {g : D → D → M D} (hg : ∀ x y, g x y = (inD x y >>= fun t => ret (.bl (f t))))
    (hs : ∀ (pins : List (Addr × PySem.Obj)) (s : Shared) (σ : L2.St) (H : Hp) (v u : Value) (Q : VK) (c : Nat) (z : Str), Inv X pins σ H s → RelV (.str ⟨#[c]⟩) v → RelV (.str z) u → Q (.bl (f (decide (c ∈ z.cps.toList)))) H → wpAny (model X.prog X.w) X.A (compareOp op v u) (EP X pins σ Q) X.xe s)
    (hl : ∀ {s : Shared} {c x : Value} {xs : List PyData} {d : PyData} {as bs : List Addr} {Q : Value → Shared → Prop}, Reads s.heap c (.list xs) as → Reads s.heap x d bs → PyData.canLayAll0 xs = true → d.canLay0 = true → X.A.units + 1 + min (PyData.depthAll xs) d.depth < cLine →
      Q (.bool (f (xs.any fun y => PyData.eqv y d))) s → wpAny (model X.prog X.w) X.A (compareOp op x c) Q X.xe s)
    (ht : ∀ {s : Shared} {c x : Value} {xs : List PyData} {d : PyData} {as bs : List Addr} {Q : Value → Shared → Prop}, Reads s.heap c (.tuple xs) as → Reads s.heap x d bs → PyData.canLayAll0 xs = true → d.canLay0 = true → X.A.units + 1 + min (PyData.depthAll xs) d.depth < cLine →
      Q (.bool (f (xs.any fun y => PyData.eqv y d))) s → wpAny (model X.prog X.w) X.A (compareOp op x c) Q X.xe s) : OpR X (compareOp op) (v2 Y g) := by
  intro pins s σ H x y v u Q I rx ry h
  obtain ⟨W, m, st, dx, dy, rs, hx, hy, p⟩ := h
  rw [hg] at p
  have gen : (Post Y W m H (((cont dy >>= fun y => match y with
      | .tup ys => if dx.good && goodAll ys then ret (ys.any fun z => z.eqv dx) else bad
      | .lst ys => if dx.good && goodAll ys then ret (ys.any fun z => z.eqv dx) else bad
      | _ => bad : M Bool) >>= fun t => ret (D.bl (f t))) st) (kV Y Q)) → wpAny (model X.prog X.w) X.A (compareOp op v u) (EP X pins σ Q) X.xe s := by
    intro p
    have p1 : Post Y W m H (((cont dy st).then fun y => match y with
      | .tup ys => if dx.good && goodAll ys then ret (ys.any fun z => z.eqv dx) else bad
      | .lst ys => if dx.good && goodAll ys then ret (ys.any fun z => z.eqv dx) else bad
      | _ => bad).then fun t => ret (D.bl (f t))) (kV Y Q) := p
    have fin : ∀ ys : List D, Post Y W m H (((if dx.good && goodAll ys then ret (ys.any fun z => z.eqv dx) else bad : M Bool) st).then fun t => ret (D.bl (f t))) (kV Y Q) → dx.good = true ∧ goodAll ys = true ∧ Q (.bl (f (ys.any fun z => z.eqv dx))) H := fun ys p2 => by
      by_cases hg : (dx.good && goodAll ys) = true
      · rw [if_pos hg] at p2
        rw [Bool.and_eq_true] at hg
        exact ⟨hg.1, hg.2, Post.val rs p2 rfl⟩
      · rw [if_neg hg] at p2
        exact p2.elim
    cases e : cont dy st with
    | ok y' st' =>
      have est : st' = st := by
        rcases cont_ok rs hy with q | ⟨q, _⟩ | ⟨_, _, _, _, rfl, q, _⟩ <;> rw [q] at e <;> cases e <;> rfl
      subst est
      rw [e] at p1
      cases y' with
      | tup ys =>
        obtain ⟨g1, g2, q⟩ := fin ys p1
        obtain ⟨as, r1⟩ := cont_reads hK I rs hy e (by simp only [D.flat]; exact goodAll_flat g2) ry
        obtain ⟨bs, r2⟩ := Rp.reads (m := m) I dx x v (good_flat g1) (by rw [← hK]; exact hx) rx
        simp only [D.py] at r1
        refine ht r1 r2 (py_layAll ys (goodAll_flat g2)) (py_lay dx (good_flat g1)) (goodAll_room g2 hu) ?_
        rw [pyAll_any (good_flat g1) ys (goodAll_flat g2)]
        exact ⟨.bl _, H, I, rfl, q⟩
      | lst ys =>
        obtain ⟨g1, g2, q⟩ := fin ys p1
        obtain ⟨as, r1⟩ := cont_reads hK I rs hy e (by simp only [D.flat]; exact goodAll_flat g2) ry
        obtain ⟨bs, r2⟩ := Rp.reads (m := m) I dx x v (good_flat g1) (by rw [← hK]; exact hx) rx
        simp only [D.py] at r1
        refine hl r1 r2 (py_layAll ys (goodAll_flat g2)) (py_lay dx (good_flat g1)) (goodAll_room g2 hu) ?_
        rw [pyAll_any (good_flat g1) ys (goodAll_flat g2)]
        exact ⟨.bl _, H, I, rfl, q⟩
      | _ => exact p1.elim
    | err c d st' =>
      rcases cont_ok rs hy with q | ⟨q, _⟩ | ⟨_, _, _, _, rfl, q, _⟩ <;> rw [q] at e <;> cases e
    | bad =>
      rw [e] at p1
      exact p1.elim
  cases dx with
  | str a =>
    cases dy with
    | str b =>
      cases a with
      | nil => exact p.elim
      | cons c r =>
        cases r with
        | nil =>
          obtain rfl : x = _ := hx
          obtain rfl : y = _ := hy
          have q : Q (.bl (f (decide (c ∈ b)))) H := Post.val rs p rfl
          exact hs pins s σ H v u Q c (S b) I rx ry (by simpa using q)
        | cons _ _ => exact p.elim
    | _ => exact gen p
  | _ => exact gen p
theorem vo_in (hK : Y.K = X.K) (hu : X.A.units + 64 < cLine) : OpR X (compareOp .In) (v2 Y (cmpD .inn)) :=
  vo_inG (f := fun b => b) hK hu (fun x y => rfl) (fun pins s σ H v u Q c z I rx ry q => op_inS pins s σ H _ _ v u Q I rx ry ⟨c, z, rfl, rfl, q⟩)
    (fun r1 r2 h1 h2 h3 q => SeqAt.in_list_reads r1 r2 h1 h2 h3 q) (fun r1 r2 h1 h2 h3 q => SeqAt.in_tuple_reads r1 r2 h1 h2 h3 q)
theorem vo_nin (hK : Y.K = X.K) (hu : X.A.units + 64 < cLine) : OpR X (compareOp .NotIn) (v2 Y (cmpD .nin)) :=
  vo_inG (f := fun b => !b) hK hu (fun x y => by
      funext st
      show ((inD x y st).then fun t => ret (!t)).then (fun t => ret (D.bl t)) = (inD x y st).then fun t => ret (D.bl (!t))
      cases inD x y st <;> rfl) (fun pins s σ H v u Q c z I rx ry q => op_notInS pins s σ H _ _ v u Q I rx ry ⟨c, z, rfl, rfl, q⟩)
    (fun r1 r2 h1 h2 h3 q => SeqAt.notIn_list_reads r1 r2 h1 h2 h3 q) (fun r1 r2 h1 h2 h3 q => SeqAt.notIn_tuple_reads r1 r2 h1 h2 h3 q)
theorem non_iff {m : Lv} {H : Hp} {d : D} {x : V} (hx : RD Y m H d x) : (x = .non ↔ d = .non) := by
  constructor
  · intro e
    subst e
    cases d with
    | non => rfl
    | bl _ => exact absurd (show V.non = _ from hx) (by simp)
    | int _ => exact absurd (show V.non = _ from hx) (by simp)
    | str _ => exact absurd (show V.non = _ from hx) (by simp)
    | tup _ => obtain ⟨_, _, q, _⟩ := hx; cases q
    | lst _ => obtain ⟨_, _, q, _⟩ := hx; cases q
    | obj _ => obtain ⟨_, q, _⟩ := hx; cases q
    | _ => exact hx.elim
  · intro e
    subst e
    exact hx
theorem is_non {m : Lv} {H : Hp} {d : D} {x : V} (hx : RD Y m H d x) : isD d .non = ret (decide (x = .non)) := by
  have e := non_iff hx
  cases d with
  | non =>
    rw [decide_eq_true (e.mpr rfl)]
    rfl
  | lam _ => exact hx.elim
  | exc _ _ => exact hx.elim
  | _ =>
    rw [decide_eq_false (fun q => by have := e.mp q; cases this)]
    rfl
theorem vo_is : OpR X (compareOp .Is) (v2 Y (cmpD .is)) := by
  intro pins s σ H x y v u Q I rx ry h
  obtain ⟨W, m, st, dx, dy, rs, hx, hy, p⟩ := h
  cases dy with
  | non =>
    have p' : Post Y W m H ((isD dx .non >>= fun t => ret (D.bl t)) st) (kV Y Q) := p
    rw [is_non hx] at p'
    exact op_isN pins s σ H x y v u Q I rx ry ⟨hy, Post.val rs p' rfl⟩
  | bl b =>
    cases dx with
    | bl a =>
      have q : Q (.bl (decide (a = b))) H := Post.val rs p rfl
      exact op_isBl pins s σ H x y v u Q I rx ry ⟨a, b, hx, hy, q⟩
    | _ => exact p.elim
  | _ => exact (by cases dx <;> exact p.elim)
theorem vo_isn : OpR X (compareOp .IsNot) (v2 Y (cmpD .isn)) := by
  intro pins s σ H x y v u Q I rx ry h
  obtain ⟨W, m, st, dx, dy, rs, hx, hy, p⟩ := h
  cases dy with
  | non =>
    have p' : Post Y W m H (((isD dx .non >>= fun t => ret (!t)) >>= fun t => ret (D.bl t)) st) (kV Y Q) := p
    rw [is_non hx] at p'
    exact op_notN pins s σ H x y v u Q I rx ry ⟨hy, Post.val rs p' rfl⟩
  | bl b =>
    cases dx with
    | bl a =>
      have q : Q (.bl (!decide (a = b))) H := Post.val rs p rfl
      exact op_notBl pins s σ H x y v u Q I rx ry ⟨a, b, hx, hy, q⟩
    | _ => exact p.elim
  | _ => exact (by cases dx <;> exact p.elim)
theorem vo_cmp (hK : Y.K = X.K) (hu : X.A.units + 64 < cLine) (o : Cm) : OpR X (compareOp (pyCm o)) (v2 Y (cmpD o)) := match o with
  | .eq => vo_eq hK hu
  | .ne => vo_ne hK hu
  | .lt => vo_lt hK hu
  | .le => vo_le
  | .gt => vo_gt
  | .ge => vo_ge
  | .inn => vo_in hK hu
  | .nin => vo_nin hK hu
  | .is => vo_is
  | .isn => vo_isn
end
end Mp
end
section
set_option autoImplicit false
set_option Elab.async false
set_option linter.all false
set_option maxRecDepth 100000
set_option maxHeartbeats 1000000
/-! MpSort: rows of data put in order, () among them. -/
namespace Mp
namespace So
open PySem PySem.W PySem.SeqAt PySem.Calls PyProof.Rows
section
variable {prog : Program} {w : World} {A : Around} {s : Shared} {E : Value → Shared → Prop}
theorem call_tuple_lt {Q : Value → Shared → Prop} {l b : Addr} {items items2 : Array Value} {e r : Nat → Bool} (hl : s.heap.IsTuple l items) (hb : s.heap.IsTuple b items2)
    (he : ∀ j (h1 : j < items.size) (h2 : j < items2.size), EqAt A.in1 s items[j] items2[j] (e j)) (hr : ∀ j (h1 : j < items.size) (h2 : j < items2.size), e j = false → RcLt A.in1 s items[j] items2[j] (r j))
    (h : Q (.bool (firstLt e r (decide (items.size < items2.size)) (List.range (min items.size items2.size)))) s) : wpAny (model prog w) A (call (.builtin "tuple.__lt__") [.ref l, .ref b]) Q E s := by
  obtain ⟨⟨cls, dd, data, sl⟩, ho, hc, n, hd⟩ := id hl
  obtain ⟨⟨cls2, dd2, data2, sl2⟩, ho2, hc2, n2, hd2⟩ := id hb
  simp only at hc hd hc2 hd2
  subst hc hd hc2 hd2
  exact call_meets F.slot_tuple_lt ⟨_, ho, rfl⟩ F.entry_tuple_lt (F.args_tuple_lt_2 _ _) (tuple_ltAt l b items items2 n n2 dd dd2 sl sl2 e r) ⟨ho, ho2, he, hr, h⟩
/-- tuples, as those of one type are compared -/
theorem oneLt_tup {xs ys : List PyData} {a b : Value} {as bs : List Addr} {Q : Bool → Shared → Prop} (ra : Reads s.heap a (.tuple xs) as) (rb : Reads s.heap b (.tuple ys) bs) (h : alike (.tuple xs) (.tuple ys) = true)
    (hu : A.units + min (PyData.tuple xs).depth (PyData.tuple ys).depth < cLine) (hq : Q (dataLt (.tuple xs) (.tuple ys)) s) : wpAny (model prog w) A (oneLt' true a b) Q E s := by
  have hal : alikeAll xs ys = true := by simpa [alike] using h
  cases ra with
  | @tuple l o vs n _ as₁ h1 h2 h3 h4 =>
    cases rb with
    | @tuple l' o' vs' n' _ bs₁ k1 k2 k3 k4 =>
      have n1 : vs.size = xs.length := by simpa using ReadsAll.length _ _ _ h4
      have n2 : vs'.size = ys.length := by simpa using ReadsAll.length _ _ _ k4
      rw [dataLt_tuple, ← firstLt_toks xs ys hal, ← n1, ← n2] at hq
      rw [oneLt'_eq]
      simp only [if_true]
      refine wpAny_bind (wpAny_cRoomFor (room_here hu) ?_)
      refine wpAny_bind (wpAny_callSpecialIfBound?_slot (T := "tuple") ⟨_, h1, h2⟩ F.slot_tuple_lt (call_tuple_lt (e := pairEq xs ys) (r := fun j => dataLt (xs.getD j .none) (ys.getD j .none)) ⟨_, h1, h2, _, h3⟩ ⟨_, k1, k2, _, k3⟩ (fun j j1 j2 => ?_) (fun j j1 j2 hj => ?_) ?_))
      · have := eqAt_alikeAll xs ys A.in1 s vs.toList vs'.toList _ _ h4 k4 hal (room_in hu) j (by simpa using j1) (by simpa using j2)
        simpa using this
      · have := rcLt_alikeAll xs ys A.in1 s vs.toList vs'.toList _ _ h4 k4 hal (room_in hu) j (by simpa using j1) (by simpa using j2) hj
        simpa using this
      · exact wpAny_truthy_bool hq
/-- the first item of each -/
def fst1 : PyData → Bool
  | .tuple (_ :: _) => true
  | _ => false
theorem first_of {M : Model} {v : Value} {xs : List PyData} {as : List Addr} {Q : Option Value → Shared → Prop} (r : Reads s.heap v (.tuple xs) as) (h : ∀ o : Option Value, o.isSome = fst1 (.tuple xs) → Q o s) : wpAny M A (firstOfTuple' v) Q E s := by
  have hv := looks_reads (M := M) r
  cases r with
  | @tuple l o vs n _ as₁ h1 h2 h3 h4 =>
    have n1 : vs.size = xs.length := by simpa using ReadsAll.length _ _ _ h4
    rw [kas_first_eq]
    refine wpAny_bind (hv.here ?_)
    rw [if_neg (by simp [dataType])]
    refine wpAny_bind (listItems_at h1 h3 (wpAny_pure (h _ ?_)))
    cases xs with
    | nil =>
      have : vs.size = 0 := by simpa using n1
      simp [fst1, this]
    | cons x xs =>
      have : 0 < vs.size := by rw [n1]; simp
      simp [fst1, this]
theorem firsts_of {M : Model} : ∀ {vs : List Value} {ds : List PyData} {Q : List (Option Value) → Shared → Prop}, EachIs (fun v d => ∃ as, Reads s.heap v d as) vs ds → (∀ d ∈ ds, ∃ xs, d = .tuple xs) → (∀ fs : List (Option Value), fs.map (·.isSome) = ds.map fst1 → Q fs s) → wpAny M A (vs.mapM firstOfTuple') Q E s
  | _, _, Q, .nil, _, h => by
    rw [List.mapM_nil]
    exact wpAny_pure (h [] rfl)
  | _, _, Q, .cons (b := d) ⟨as, r⟩ t, ht, h => by
    obtain ⟨xs, rfl⟩ := ht _ (.head _)
    rw [List.mapM_cons]
    refine wpAny_bind (first_of r fun o ho => wpAny_bind (firsts_of t (fun d hd => ht d (.tail _ hd)) fun fs hfs => wpAny_pure (h _ ?_)))
    simp only [List.map_cons, ho, hfs]
/-- alike data can be put in order -/
theorem sortsAt {vs : List Value} {ds : List PyData} (e : EachIs (fun v d => ∃ as, Reads s.heap v d as) vs ds) (hal : AllAlike ds) (hn : ∀ d ∈ ds, d ≠ .none) (hu : ∀ d, d ∈ ds → A.units + d.depth < cLine) : SortsAt prog w A s (dataKind s.heap ds) vs := by
  by_cases hk : Sortable ds
  · exact .data e hal hk hu
  have room : ∀ {d d' : PyData}, d ∈ ds → A.units + min d.depth d'.depth < cLine := fun {d d'} hd => Nat.lt_of_le_of_lt (Nat.add_le_add_left (Nat.min_le_left _ _) _) (hu d hd)
  have ht : ∀ d ∈ ds, ∃ xs, d = PyData.tuple xs := by
    have h1 : ∃ d ∈ ds, ∃ xs, d = PyData.tuple xs := by
      refine Classical.byContradiction fun q => hk (.inr fun d hd => ⟨hn d hd, fun xs ex => q ⟨d, hd, xs, ex⟩⟩)
    obtain ⟨d0, h0, xs0, rfl⟩ := h1
    intro d hd
    have q := hal _ h0 _ hd
    cases d with
    | tuple xs => exact ⟨xs, rfl⟩
    | _ => simp [alike] at q
  have hemp : ∃ d ∈ ds, fst1 d = false := by
    refine Classical.byContradiction fun q => hk (.inl fun d hd => ?_)
    obtain ⟨xs, rfl⟩ := ht d hd
    cases xs with
    | nil => exact absurd ⟨_, hd, rfl⟩ q
    | cons x r => exact ⟨x, r, rfl⟩
  obtain ⟨d1, hd1, hf1⟩ := hemp
  have hnall : ∀ fs : List (Option Value), fs.map (·.isSome) = ds.map fst1 → ¬ (fs.toArray.all fun x => x.isSome) = true := fun fs hfs q => by
    have h1 : fst1 d1 ∈ fs.map (·.isSome) := by
      rw [hfs]
      exact List.mem_map_of_mem hd1
    rw [hf1] at h1
    obtain ⟨o, ho, eo⟩ := List.mem_map.mp h1
    have h2 : ∀ x ∈ fs, x.isSome = true := by simpa using q
    rw [h2 o ho] at eo
    cases eo
  refine ⟨fun v hv => ?_, ?_⟩
  · obtain ⟨d, hd, as, r⟩ := e.left v hv
    exact ⟨_, dataKind_some hal hd r⟩
  · cases ds with
    | nil => cases hd1
    | cons d0 ds0 =>
      cases h0 : fst1 d0 with
      | true =>
        refine ⟨general', ?_, fun h2 E Q hq => ?_⟩
        · intro E x y a b Q ha hb hq
          obtain ⟨d, as, hd, ra, rfl⟩ := dataKind_inv ha
          obtain ⟨d', as', hd', rb, rfl⟩ := dataKind_inv hb
          show wpAny (model prog w) A (oneLt' false x y) Q E s
          exact oneLt_alike (fun q => by cases q) ra rb (hal d hd d' hd') (hn d hd) (room hd) hq
        · rw [keyKind'_eq, List.mapM_toArray, map_eq_pure_bind]
          refine wpAny_bind (wpAny_bind (firsts_of e ht fun fs hfs => wpAny_pure ?_))
          rw [if_neg (hnall fs hfs)]
          have h1 : (fs.toArray[0]?.bind id).isSome = true := by
            cases fs with
            | nil => cases hfs
            | cons o fs =>
              have := (List.cons.inj hfs).1
              rw [h0] at this
              simpa using this
          rw [if_pos h1]
          exact wpAny_pure hq
      | false =>
        refine ⟨oneType', ?_, fun h2 E Q hq => ?_⟩
        · intro E x y a b Q ha hb hq
          obtain ⟨d, as, hd, ra, rfl⟩ := dataKind_inv ha
          obtain ⟨d', as', hd', rb, rfl⟩ := dataKind_inv hb
          obtain ⟨xs, rfl⟩ := ht d hd
          obtain ⟨ys, rfl⟩ := ht d' hd'
          rw [keyLt'_oneType]
          exact oneLt_tup ra rb (hal _ hd _ hd') (room hd) hq
        · rw [keyKind'_eq, List.mapM_toArray, map_eq_pure_bind]
          refine wpAny_bind (wpAny_bind (firsts_of e ht fun fs hfs => wpAny_pure ?_))
          rw [if_neg (hnall fs hfs)]
          have h1 : ¬ (fs.toArray[0]?.bind id).isSome = true := by
            cases fs with
            | nil => cases hfs
            | cons o fs =>
              have := (List.cons.inj hfs).1
              rw [h0] at this
              simpa using this
          rw [if_neg h1, oneTypeOnly'_eq, List.mapM_toArray, map_eq_pure_bind]
          refine wpAny_bind (wpAny_bind (wpAny_bind (kas_mapM (r := Value.type "tuple") _ (fun v hv Q' hq => ?_) (wpAny_pure ?_))))
          · obtain ⟨d, hd, as, r⟩ := e.left v hv
            obtain ⟨xs, rfl⟩ := ht d hd
            exact (looks_reads r).here hq
          · obtain ⟨v₁, rest, rfl⟩ : ∃ v₁ rest, vs = v₁ :: rest := by
              cases e with
              | cons _ _ => exact ⟨_, _, rfl⟩
            have hall : ((List.map (fun _ => Value.type "tuple") (v₁ :: rest)).toArray.all fun x => x == Value.type "tuple") = true := by
              simp only [List.all_toArray, List.all_map, List.all_eq_true]
              intro _ _
              simp
            have hh : (List.map (fun _ => Value.type "tuple") (v₁ :: rest)).toArray[0]? = some (Value.type "tuple") := by simp
            rw [hh]
            simp only [hall, if_true]
            exact wpAny_pure (wpAny_pure hq)
theorem sorted_any {β : Type} {vs : List Value} {bs : List β} {enc : β → PyData} {R : Value → β → Prop} {l : Addr} {Q : Value → Shared → Prop} (hl : s.heap.IsList l vs.toArray) (e : EachIs R vs bs) (er : EachIs (fun v b => ∃ as, Reads s.heap v (enc b) as) vs bs) (hal : AllAlike (bs.map enc)) (hk : ∀ d ∈ bs.map enc, d ≠ .none) (hL : bs.length ≤ sizeLine)
    (hu : ∀ b, b ∈ bs → A.units + 2 + (enc b).depth < cLine) (h : ∀ out, out.length = bs.length → EachIs R out (bs.mergeSort (dataLe false enc)) → Q (.ref (s.heap.objs.size + 1)) { s with heap := sortedAll s.heap vs (List.toArray out) }) :
    wpAny (model prog w) A (call (.builtin "sorted") [.ref l]) Q E s := by
  have er' : EachIs (fun v b => ∃ as, Reads (sortingHeap (copyHeap s.heap vs) (s.heap.objs.size + 1) vs) v (enc b) as) vs bs := er.mono fun _ _ ⟨as, r⟩ => ⟨as, PyProof.Rows.Reads.keeps (fun _ _ => sorting_copy_old) r⟩
  exact sorted_vals hl (sortsAt (s := { s with heap := sortingHeap (copyHeap s.heap vs) (s.heap.objs.size + 1) vs }) (each_map (R := fun v d => ∃ as, Reads (sortingHeap (copyHeap s.heap vs) (s.heap.objs.size + 1) vs) v d as) enc er') hal hk (bound_map hu)) (by rw [e.length]; exact hL)
    (h _ (by rw [sortVals_length false rfl]; exact e.length) (sortVals_data false e er' hal))
end
/-! ### the order's own sort -/
theorem le_trans' (a b c : D) (h1 : dle a b = true) (h2 : dle b c = true) : dle a c = true := by
  simp only [dle, Bool.not_eq_true', dataLt] at *
  cases h : lexLt itemOrd (keyToks c.py) (keyToks a.py) with
  | false => rfl
  | true =>
    rcases lex_negTrans (O := itemOrd) _ (keyToks b.py) _ h with q | q
    · rw [q] at h2; cases h2
    · rw [q] at h1; cases h1
theorem le_total' (a b : D) : (dle a b || dle b a) = true := by
  simp only [dle, dataLt]
  cases h : lexLt itemOrd (keyToks b.py) (keyToks a.py) with
  | false => rfl
  | true =>
    cases h2 : lexLt itemOrd (keyToks a.py) (keyToks b.py) with
    | false => rfl
    | true =>
      have := lex_trans (O := itemOrd) _ _ _ h h2
      rw [lex_irrefl] at this
      cases this
theorem insA_split (a : D) : ∀ (l₁ l₂ : List D), (∀ b, b ∈ l₁ → (!dle a b) = true) → (∀ b, b ∈ l₂ → dle a b = true) → insA a (l₁ ++ l₂) = l₁ ++ a :: l₂
  | [], [], _, _ => rfl
  | [], b :: l₂, _, h => by
    simp only [List.nil_append, insA, h b (.head _), if_true]
  | x :: l₁, l₂, h1, h2 => by
    have q := h1 x (.head _)
    have q2 : dle a x = false := by simpa using q
    simp only [List.cons_append, insA, q2, Bool.false_eq_true, if_false, insA_split a l₁ l₂ (fun b hb => h1 b (.tail _ hb)) h2]
theorem sort_eq : ∀ l : List D, l.mergeSort dle = isortA l
  | [] => by simp [isortA]
  | a :: l => by
    obtain ⟨l₁, l₂, h1, h2, h3⟩ := List.mergeSort_cons le_trans' le_total' a l
    have hs := List.pairwise_mergeSort le_trans' le_total' (a :: l)
    rw [h1] at hs
    have h4 : ∀ b, b ∈ l₂ → dle a b = true := by
      have q := (List.pairwise_append.mp hs).2.1
      exact (List.pairwise_cons.mp q).1
    rw [h1, isortA, ← sort_eq l, h2, insA_split a l₁ l₂ h3 h4]
theorem map_sort {β : Type} (k : β → D) (l : List β) : (l.mergeSort (dataLe false fun b => (k b).py)).map k = isortA (l.map k) := by
  rw [← sort_eq]
  refine List.map_mergeSort fun a _ b _ => ?_
  rw [dataLe_eq]
  rfl
end So
end Mp
end
section
set_option autoImplicit false
set_option Elab.async false
set_option linter.all false
set_option maxRecDepth 100000
set_option maxHeartbeats 1000000
/-! MpFun: subscripts, slices, built-in functions by values. -/
namespace Mp
open PySem PySem.Spec PyProof.Rows L2
/-! ### sorting -/
theorem insI_perm (x : Int) : ∀ l : List Int, (insI x l).Perm (x :: l)
  | [] => .refl _
  | y :: r => by
    unfold insI
    split
    · exact .refl _
    · exact .trans (.cons y (insI_perm x r)) (.swap x y r)
theorem isortD_perm : ∀ l : List Int, (isortD l).Perm l
  | [] => .refl _
  | x :: r => .trans (insI_perm x _) (.cons x (isortD_perm r))
theorem insI_sorted (x : Int) : ∀ l : List Int, l.Pairwise (· ≤ ·) → (insI x l).Pairwise (· ≤ ·)
  | [], _ => by simp [insI]
  | y :: r, h => by
    unfold insI
    split
    · rename_i hxy
      refine List.pairwise_cons.mpr ⟨fun z hz => ?_, h⟩
      rcases List.mem_cons.mp hz with e | e
      · omega
      · have := (List.pairwise_cons.mp h).1 z e
        omega
    · rename_i hxy
      refine List.pairwise_cons.mpr ⟨fun z hz => ?_, insI_sorted x r (List.pairwise_cons.mp h).2⟩
      rcases List.mem_cons.mp ((insI_perm x r).mem_iff.mp hz) with e | e
      · omega
      · exact (List.pairwise_cons.mp h).1 z e
theorem isortD_sorted : ∀ l : List Int, (isortD l).Pairwise (· ≤ ·)
  | [] => by simp [isortD]
  | x :: r => insI_sorted x _ (isortD_sorted r)
theorem sorted_one {a b : List Int} (p : a.Perm b) (ha : a.Pairwise (· ≤ ·)) (hb : b.Pairwise (· ≤ ·)) : a = b :=
  List.Perm.eq_of_pairwise (le := fun x y : Int => decide (x ≤ y) = true) (fun x y _ _ h1 h2 => by simp at h1 h2; omega) (ha.imp fun h => by simpa using h) (hb.imp fun h => by simpa using h) p
theorem mem_onceI (k : Int) : ∀ l : List Int, k ∈ onceI l ↔ k ∈ l
  | [] => Iff.rfl
  | x :: r => by
    unfold onceI
    split
    · rename_i h
      rw [mem_onceI k r, List.mem_cons]
      exact ⟨.inr, fun q => q.elim (fun e => by rw [e]; simpa using h) id⟩
    · rw [List.mem_cons, List.mem_cons, mem_onceI k r]
theorem nodup_onceI : ∀ l : List Int, (onceI l).Nodup
  | [] => List.nodup_nil
  | x :: r => by
    unfold onceI
    split
    · exact nodup_onceI r
    · rename_i h
      exact List.nodup_cons.mpr ⟨fun q => h (by simpa using (mem_onceI x r).mp q), nodup_onceI r⟩
theorem set_one {ns l : List Int} (p : ns.Pairwise (· < ·)) (m : ∀ k : Int, k ∈ ns ↔ decide (k ∈ l) = true) : ns = isortD (onceI l) := by
  have nd : ns.Nodup := p.imp fun h => by omega
  refine sorted_one ?_ (p.imp fun h => by omega) (isortD_sorted _)
  refine .trans ?_ (isortD_perm _).symm
  exact (List.perm_ext_iff_of_nodup nd (nodup_onceI l)).mpr fun k => by rw [m k, mem_onceI, decide_eq_true_eq]
/-! ### a list of arguments -/
def vA (Y : Kx) (f : List D → M D) : List V → Hp → VK → Prop := fun xs H Q => ∃ (W : Wx) (m : Lv) (st : Store) (ds : List D), RS Y m st H ∧ RDs Y m H ds xs ∧ Post Y W m H (f ds st) (kV Y Q)
section
variable {Y : Kx} {W : Wx} {m : Lv} {H : Hp} {st : Store} {Q : VK} {β : Type}
/-- the items of a tuple, a list -/
theorem seq_ok {d : D} {v : V} {f : List D → M β} {k : β → Lv → Store → Hp → Prop} (rs : RS Y m st H) (r : RD Y m H d v) (h : Post Y W m H ((seqOf d >>= f) st) k) :
    ∃ xs p vs, v = .ref p ∧ (SqL Y.K H p vs ∨ (SqT Y.K H p vs ∧ d = .tup xs)) ∧ RDs Y m H xs vs ∧ Post Y W m H (f xs st) k := by
  have q : Post Y W m H ((seqOf d st).then f) k := h
  cases d with
  | tup xs =>
    obtain ⟨p, vs, e, g, l⟩ := r
    exact ⟨xs, p, vs, e, .inr ⟨g.sq, rfl⟩, l, q⟩
  | lst xs =>
    obtain ⟨p, vs, e, g, l⟩ := r
    exact ⟨xs, p, vs, e, .inl g.sq, l, q⟩
  | obj i =>
    rcases cont_ok rs (d := .obj i) r with e | ⟨_, e⟩ | ⟨j, xs, p, vs, ei, e, ev, h1, h2, h3⟩
    · have z : seqOf (.obj i) st = .bad := by
        simp only [cont] at e
        simp only [seqOf]
        split at e
        · cases e
        · rfl
      rw [z] at q
      exact q.elim
    · exact absurd rfl (e i)
    · cases ei
      have z : seqOf (.obj i) st = .ok xs st := by
        simp only [cont] at e
        simp only [seqOf]
        split at e
        · cases e
          rfl
        · cases e
      rw [z] at q
      exact ⟨xs, p, vs, ev, .inl (SqL.of h1), h2, q⟩
  | _ => exact q.elim
theorem one_arg {d : D} {vs : List V} (h : RDs Y m H [d] vs) : ∃ v, vs = [v] ∧ RD Y m H d v := by
  obtain ⟨v, r, rfl, a, b⟩ := h
  obtain rfl : r = [] := b
  exact ⟨v, rfl, a⟩
theorem two_arg {d e : D} {vs : List V} (h : RDs Y m H [d, e] vs) : ∃ v w, vs = [v, w] ∧ RD Y m H d v ∧ RD Y m H e w := by
  obtain ⟨v, r, rfl, a, b⟩ := h
  obtain ⟨w, r, rfl, a', b⟩ := b
  obtain rfl : r = [] := b
  exact ⟨v, w, rfl, a, a'⟩
theorem bools_map : ∀ {ds : List D} {is : List Bool}, bools? ds = some is → ds = is.map D.bl
  | [], is, h => by
    have e : some ([] : List Bool) = some is := h
    cases e
    rfl
  | d :: ds, is, h => by
    cases d with
    | bl i =>
      have e : (bools? ds).map (i :: ·) = some is := h
      obtain ⟨js, e1, rfl⟩ := Option.map_eq_some_iff.mp e
      rw [List.map_cons, bools_map e1]
    | _ => cases h
theorem RpL.bools {K : PySem.W.Frag} : ∀ {is : List Bool} {vs : List V}, RpL K m H (is.map D.bl) vs → vs = is.map V.bl
  | [], _, h => h
  | i :: is, _, h => by
    obtain ⟨v, r, rfl, a, b⟩ := h
    obtain rfl : v = _ := a
    rw [List.map_cons, RpL.bools b]
theorem rdl_ints (Y : Kx) (m : Lv) (H : Hp) : ∀ is : List Int, RDs Y m H (is.map D.int) (is.map V.int)
  | [] => rfl
  | i :: is => ⟨_, _, rfl, rfl, rdl_ints Y m H is⟩
end
section
variable {X : Cx} {Y : Kx}
/-- a subscript -/
theorem vx_sub (hK : Y.K = X.K) : IxR X (v2 Y subD) := by
  intro value slice pins s σ H x y v u Q I rx ry h hs
  obtain ⟨W, m, st, dx, dy, rs, hx, hy, p⟩ := h
  cases dy with
  | int k =>
    obtain rfl : y = _ := hy
    have fin : ∀ {xs : List D} {vs : List V}, RDs Y m H xs vs → Post Y W m H (itemOf xs k st) (kV Y Q) → ∃ w, atI vs k = some w ∧ Q w H := fun {xs vs} l p => by
      unfold itemOf at p
      cases e : L2.ixN xs.length k with
      | none =>
        rw [e] at p
        exact p.elim
      | some j =>
        rw [e] at p
        have p2 : Post Y W m H ((opt xs[j]? : M D) st) (kV Y Q) := p
        cases e2 : xs[j]? with
        | none =>
          rw [e2] at p2
          exact p2.elim
        | some d =>
          rw [e2] at p2
          obtain ⟨w, h1, h2⟩ := l.get e2
          refine ⟨w, ?_, Post.val rs p2 h2⟩
          unfold atI
          rw [l.length, e]
          exact h1
    cases dx with
    | str z =>
      obtain rfl : x = _ := hx
      have p1 : Post Y W m H ((if z.length ≤ lim then itemOf (z.map fun c => D.str [c]) k else bad : M D) st) (kV Y Q) := p
      by_cases hz : z.length ≤ lim
      · rw [if_pos hz] at p1
        unfold itemOf at p1
        rw [List.length_map] at p1
        cases e : L2.ixN z.length k with
        | none =>
          rw [e] at p1
          exact p1.elim
        | some j =>
          rw [e] at p1
          have p3 : Post Y W m H ((opt (z.map fun c => D.str [c])[j]? : M D) st) (kV Y Q) := p1
          rw [List.getElem?_map] at p3
          cases e2 : z[j]? with
          | none =>
            rw [e2] at p3
            exact p3.elim
          | some c =>
            rw [e2] at p3
            have hl : lim ≤ sizeLine := by decide
            refine ix_str value slice pins s σ H _ _ v u Q I rx ry ⟨S z, k, c, rfl, rfl, by rw [S_len]; omega, ?_, Post.val rs p3 rfl⟩ hs
            have : (S z).cps.toList = z := by simp
            rw [this]
            unfold atI
            rw [e]
            exact e2
      · rw [if_neg hz] at p1
        exact p1.elim
    | tup xs =>
      obtain ⟨q, vs, rfl, f, l⟩ := hx
      rw [hK] at f
      obtain ⟨w, h1, h2⟩ := fin l p
      exact ix_tup value slice pins s σ H _ _ v u Q I rx ry ⟨q, vs, k, w, rfl, rfl, f.sq, h1, h2⟩ hs
    | lst xs =>
      obtain ⟨q, vs, rfl, f, l⟩ := hx
      rw [hK] at f
      obtain ⟨w, h1, h2⟩ := fin l p
      exact ix_list value slice pins s σ H _ _ v u Q I rx ry ⟨q, vs, k, w, rfl, rfl, f.sq, h1, h2⟩ hs
    | obj i =>
      obtain ⟨xs, q, vs, rfl, f, l, p2⟩ := seq_ok (d := .obj i) (f := fun xs => itemOf xs k) rs hx p
      rw [hK] at f
      obtain ⟨w, h1, h2⟩ := fin l p2
      rcases f with f | f
      · exact ix_list value slice pins s σ H _ _ v u Q I rx ry ⟨q, vs, k, w, rfl, rfl, f, h1, h2⟩ hs
      · exact absurd f.2 (by simp)
    | _ => exact p.elim
  | _ => exact (by cases dx <;> exact p.elim)
theorem RpL.cut {K : PySem.W.Frag} {m : Lv} {H : Hp} {ds : List D} {vs : List V} (lo hi : Option Int) (h : RpL K m H ds vs) : RpL K m H (cut ds lo hi) (cutV vs lo hi) := by
  unfold Mp.cut cutV
  rw [h.length]
  exact (h.drop _).take _
/-- a slice -/
def vS (Y : Kx) (lv : Bool) : V → Option Int → Option Int → Hp → VK → Prop := fun x lo hi H Q => ∃ (W : Wx) (m : Lv) (st : Store) (dx : D), RS Y m st H ∧ RD Y m H dx x ∧ Post Y W m H (sliceD lv dx lo hi st) (kV Y Q)
theorem vx_slice (hK : Y.K = X.K) {lv : Bool} : SlR X (vS Y lv) := by
  intro pins s σ H x v vl vu lo hi sl Q I rx hs pl pu h
  obtain ⟨W, m, st, dx, rs, hx, p⟩ := h
  cases dx with
  | str z =>
    obtain rfl : x = _ := hx
    have p1 : Post Y W m H ((if z.length ≤ lim then ret (.str (cut z lo hi)) else bad : M D) st) (kV Y Q) := p
    by_cases hz : z.length ≤ lim
    · rw [if_pos hz] at p1
      have hl : lim ≤ sizeLine := by decide
      refine sl_str pins s σ H _ v vl vu lo hi sl Q I rx hs pl pu ⟨S z, rfl, by rw [S_len]; omega, ?_⟩
      have e : cutS (S z) lo hi = S (cut z lo hi) := by
        unfold cutS Mp.cut
        rw [S_len]
      rw [e]
      exact Post.val rs p1 rfl
    · rw [if_neg hz] at p1
      exact p1.elim
  | tup xs =>
    obtain ⟨q, vs, rfl, f, l⟩ := hx
    have f' := f
    rw [hK] at f'
    refine sl_tupA pins s σ H _ v vl vu lo hi sl Q I rx hs pl pu ⟨q, vs, rfl, f'.sq, fun hw => ?_, fun _ a ha => tup_post rs p (l.cut lo hi) ha⟩
    have e : cut xs lo hi = xs := by
      unfold Mp.cut
      rw [← l.length, hw.1, hw.2, List.drop_zero, Nat.sub_zero, l.length, List.take_length]
    have p2 : Post Y W m H (.ok (.tup xs) st) (kV Y Q) := by
      have p1 : Post Y W m H (.ok (.tup (cut xs lo hi)) st) (kV Y Q) := p
      rw [e] at p1
      exact p1
    exact Post.val rs p2 ⟨q, vs, rfl, f, l⟩
  | lst xs =>
    obtain ⟨q, vs, rfl, f, l⟩ := hx
    rw [hK] at f
    exact sl_list pins s σ H _ v vl vu lo hi sl Q I rx hs pl pu ⟨q, vs, rfl, f.sq, fun a ha => new_post rs p (l.cut lo hi) ha⟩
  | obj i =>
    obtain ⟨xs, q, vs, rfl, f, l, p2⟩ := seq_ok (d := .obj i) (f := fun xs => new lv (cut xs lo hi)) rs hx p
    rw [hK] at f
    rcases f with f | f
    · exact sl_list pins s σ H _ v vl vu lo hi sl Q I rx hs pl pu ⟨q, vs, rfl, f, fun a ha => new_post rs p2 (l.cut lo hi) ha⟩
    · exact absurd f.2 (by simp)
  | _ => exact p.elim
theorem un_arg {W : Wx} {f : Bn} (hb : ∀ x y, bi1 f x y = bad) {m : Lv} {H : Hp} {st : Store} {ds : List D} {vs : List V} {Q : VK} (l : RDs Y m H ds vs) (p : Post Y W m H (bn1 f ds st) (kV Y Q)) :
    ∃ d v, vs = [v] ∧ RD Y m H d v ∧ Post Y W m H (un1 f d st) (kV Y Q) := by
  match ds, l, p with
  | [], _, p => exact p.elim
  | [d], l, p =>
    obtain ⟨v, e, h⟩ := one_arg l
    exact ⟨d, v, e, h, p⟩
  | [x, y], _, p =>
    have q : Post Y W m H (bi1 f x y st) (kV Y Q) := p
    rw [hb] at q
    exact q.elim
  | _ :: _ :: _ :: _, _, p => exact p.elim
theorem bi_arg {W : Wx} {f : Bn} (hb : un1 f = fun _ => bad) {m : Lv} {H : Hp} {st : Store} {ds : List D} {vs : List V} {Q : VK} (l : RDs Y m H ds vs) (p : Post Y W m H (bn1 f ds st) (kV Y Q)) :
    ∃ i j, vs = [.int i, .int j] ∧ Post Y W m H (bi1 f (.int i) (.int j) st) (kV Y Q) := by
  match ds, l, p with
  | [], _, p => exact p.elim
  | [d], l, p =>
    have q : Post Y W m H (un1 f d st) (kV Y Q) := p
    rw [hb] at q
    exact q.elim
  | [x, y], l, p =>
    have q : Post Y W m H (bi1 f x y st) (kV Y Q) := p
    obtain ⟨v, w, rfl, h1, h2⟩ := two_arg l
    cases x with
    | int i =>
      cases y with
      | int j =>
        obtain rfl : v = _ := h1
        obtain rfl : w = _ := h2
        exact ⟨i, j, rfl, q⟩
      | _ => exact q.elim
    | _ => exact q.elim
  | _ :: _ :: _ :: _, _, p => exact p.elim
theorem bi_bad (f : Bn) (h1 : f ≠ .divmod) (h2 : f ≠ .min2) (h3 : f ≠ .max2) (x y : D) : bi1 f x y = bad := by
  cases x <;> try rfl
  cases y <;> try rfl
  cases f <;> first | rfl | exact absurd rfl h1 | exact absurd rfl h2 | exact absurd rfl h3
/-- len of a list, a tuple, a text -/
theorem vc_len (hK : Y.K = X.K) : CallR X (.builtin "len") (vA Y (bn1 .len)) := by
  intro pins s σ H xs us Q I r h
  obtain ⟨W, m, st, ds, rs, l, p⟩ := h
  obtain ⟨d, v, rfl, hv, p⟩ := un_arg (bi_bad _ (by simp) (by simp) (by simp)) l p
  have gen : Post Y W m H ((seqOf d >>= fun ys => ret (D.int ys.length)) st) (kV Y Q) → wpAny (model X.prog X.w) X.A (call (.builtin "len") us) (EP X pins σ Q) X.xe s := fun p => by
    obtain ⟨ys, q, vs, rfl, f, g, p2⟩ := seq_ok rs hv p
    rw [hK] at f
    refine call_len_seq pins s σ H _ us Q I r ⟨q, vs, rfl, f.imp id (fun z => z.1), ?_⟩
    rw [g.length]
    exact Post.val rs p2 rfl
  cases d with
  | str z =>
    obtain rfl : v = _ := hv
    have p1 : Post Y W m H ((if z.length ≤ lim then ret (.int z.length) else bad : M D) st) (kV Y Q) := p
    by_cases hz : z.length ≤ lim
    · rw [if_pos hz] at p1
      have hl : lim ≤ sizeLine := by decide
      exact call_len_str pins s σ H _ us Q I r ⟨S z, rfl, by rw [S_len]; omega, by rw [S_len]; exact Post.val rs p1 rfl⟩
    · rw [if_neg hz] at p1
      exact p1.elim
  | _ => exact gen p
theorem vc_abs : CallR X (.builtin "abs") (vA Y (bn1 .abs)) := by
  intro pins s σ H xs us Q I r h
  obtain ⟨W, m, st, ds, rs, l, p⟩ := h
  obtain ⟨d, v, rfl, hv, p⟩ := un_arg (bi_bad _ (by simp) (by simp) (by simp)) l p
  cases d with
  | int i =>
    obtain rfl : v = _ := hv
    exact call_abs pins s σ H _ us Q I r ⟨i, rfl, Post.val rs p rfl⟩
  | _ => exact p.elim
theorem vc_int : CallR X (.type "int") (vA Y (bn1 .int)) := by
  intro pins s σ H xs us Q I r h
  obtain ⟨W, m, st, ds, rs, l, p⟩ := h
  obtain ⟨d, v, rfl, hv, p⟩ := un_arg (bi_bad _ (by simp) (by simp) (by simp)) l p
  cases d with
  | int i =>
    obtain rfl : v = _ := hv
    exact call_int1 pins s σ H _ us Q I r (.inl ⟨i, rfl, Post.val rs p rfl⟩)
  | bl b =>
    obtain rfl : v = _ := hv
    exact call_int1 pins s σ H _ us Q I r (.inr ⟨b, rfl, Post.val rs p rfl⟩)
  | _ => exact p.elim
theorem vc_divmod : CallR X (.builtin "divmod") (vA Y (bn1 .divmod)) := by
  intro pins s σ H xs us Q I r h
  obtain ⟨W, m, st, ds, rs, l, p⟩ := h
  obtain ⟨i, j, rfl, p⟩ := bi_arg rfl l p
  have p1 : Post Y W m H ((if 0 < j ∧ j < 1073741824 then ret (.tup [.int (i / j), .int (i % j)]) else bad : M D) st) (kV Y Q) := p
  by_cases hj : 0 < j ∧ j < 1073741824
  · rw [if_pos hj] at p1
    exact call_divmod pins s σ H _ us Q I r ⟨i, j, rfl, hj, fun a ha => tup_post rs p1 ⟨_, _, rfl, rfl, _, _, rfl, rfl, rfl⟩ ha⟩
  · rw [if_neg hj] at p1
    exact p1.elim
theorem vc_min2 (hc : X.calm = true) : CallR X (.builtin "min") (vA Y (bn1 .min2)) := by
  intro pins s σ H xs us Q I r h
  obtain ⟨W, m, st, ds, rs, l, p⟩ := h
  obtain ⟨i, j, rfl, p⟩ := bi_arg rfl l p
  exact call_min2 hc pins s σ H _ us Q I r ⟨i, j, rfl, Post.val rs p rfl⟩
theorem vc_max2 (hc : X.calm = true) : CallR X (.builtin "max") (vA Y (bn1 .max2)) := by
  intro pins s σ H xs us Q I r h
  obtain ⟨W, m, st, ds, rs, l, p⟩ := h
  obtain ⟨i, j, rfl, p⟩ := bi_arg rfl l p
  exact call_max2 hc pins s σ H _ us Q I r ⟨i, j, rfl, Post.val rs p rfl⟩
/-- a list of ints, of truths -/
theorem ints_of {W : Wx} {β : Type} {m : Lv} {H : Hp} {st : Store} {ys : List D} {vs : List V} {f : List Int → M β} {k : β → Lv → Store → Hp → Prop} (g : RDs Y m H ys vs) (p : Post Y W m H ((match ints? ys with
    | some is => f is
    | none => bad : M β) st) k) : ∃ is, ys = is.map D.int ∧ vs = is.map V.int ∧ Post Y W m H (f is st) k := by
  cases e : ints? ys with
  | none =>
    rw [e] at p
    exact p.elim
  | some is =>
    rw [e] at p
    have e2 := ints_map e
    rw [e2] at g
    exact ⟨is, e2, g.ints, p⟩
theorem bools_of {W : Wx} {β : Type} {m : Lv} {H : Hp} {st : Store} {ys : List D} {vs : List V} {f : List Bool → M β} {k : β → Lv → Store → Hp → Prop} (g : RDs Y m H ys vs) (p : Post Y W m H ((match bools? ys with
    | some is => f is
    | none => bad : M β) st) k) : ∃ is, ys = is.map D.bl ∧ vs = is.map V.bl ∧ Post Y W m H (f is st) k := by
  cases e : bools? ys with
  | none =>
    rw [e] at p
    exact p.elim
  | some is =>
    rw [e] at p
    have e2 := bools_map e
    rw [e2] at g
    exact ⟨is, e2, g.bools, p⟩
theorem lseq_ok {W : Wx} {β : Type} {m : Lv} {H : Hp} {st : Store} {d : D} {v : V} {f : List D → M β} {k : β → Lv → Store → Hp → Prop} (rs : RS Y m st H) (r : RD Y m H d v) (h : Post Y W m H ((lseq d >>= f) st) k) :
    ∃ xs p vs, v = .ref p ∧ SqL Y.K H p vs ∧ RDs Y m H xs vs ∧ Post Y W m H (f xs st) k := by
  have gen : (∀ xs, d ≠ .tup xs) → lseq d = seqOf d → ∃ xs p vs, v = .ref p ∧ SqL Y.K H p vs ∧ RDs Y m H xs vs ∧ Post Y W m H (f xs st) k := fun hn e => by
    rw [e] at h
    obtain ⟨xs, p, vs, ev, g, l, q⟩ := seq_ok rs r h
    rcases g with g | g
    · exact ⟨xs, p, vs, ev, g, l, q⟩
    · exact absurd g.2 (hn xs)
  cases d with
  | tup xs => exact h.elim
  | _ => exact gen (fun xs q => by cases q) rfl
theorem vc_sum (hK : Y.K = X.K) (hc : X.calm = true) : CallR X (.builtin "sum") (vA Y (bn1 .sum)) := by
  intro pins s σ H xs us Q I r h
  obtain ⟨W, m, st, ds, rs, l, p⟩ := h
  obtain ⟨d, v, rfl, hv, p⟩ := un_arg (bi_bad _ (by simp) (by simp) (by simp)) l p
  obtain ⟨ys, q, vs, rfl, f, g, p⟩ := lseq_ok rs hv p
  obtain ⟨is, _, rfl, p⟩ := ints_of g p
  rw [hK] at f
  exact cr_sum hc pins s σ H _ us Q I r ⟨q, is, rfl, f, Post.val rs p rfl⟩
theorem vc_all (hK : Y.K = X.K) (hc : X.calm = true) : CallR X (.builtin "all") (vA Y (bn1 .all)) := by
  intro pins s σ H xs us Q I r h
  obtain ⟨W, m, st, ds, rs, l, p⟩ := h
  obtain ⟨d, v, rfl, hv, p⟩ := un_arg (bi_bad _ (by simp) (by simp) (by simp)) l p
  obtain ⟨ys, q, vs, rfl, f, g, p⟩ := lseq_ok rs hv p
  obtain ⟨is, _, rfl, p⟩ := bools_of g p
  rw [hK] at f
  exact cr_all hc pins s σ H _ us Q I r ⟨q, is, rfl, f, Post.val rs p rfl⟩
theorem vc_any (hK : Y.K = X.K) (hc : X.calm = true) : CallR X (.builtin "any") (vA Y (bn1 .any)) := by
  intro pins s σ H xs us Q I r h
  obtain ⟨W, m, st, ds, rs, l, p⟩ := h
  obtain ⟨d, v, rfl, hv, p⟩ := un_arg (bi_bad _ (by simp) (by simp) (by simp)) l p
  obtain ⟨ys, q, vs, rfl, f, g, p⟩ := lseq_ok rs hv p
  obtain ⟨is, _, rfl, p⟩ := bools_of g p
  rw [hK] at f
  exact cr_any hc pins s σ H _ us Q I r ⟨q, is, rfl, f, Post.val rs p rfl⟩
theorem each_val : ∀ {ys : List D} {vs : List V} {us : List Value}, ys.length = vs.length → Vals vs us → PySem.W.EachIs (fun (u : Value) (b : D × V) => RelV b.2 u) us (ys.zip vs)
  | [], [], _, _, r => by
    cases r
    exact .nil
  | [], _ :: _, _, h, _ => by simp at h
  | _ :: _, [], _, h, _ => by simp at h
  | y :: ys, v :: vs, _, h, r => by
    cases r with
    | cons r1 r2 => exact .cons r1 (each_val (by simpa using h) r2)
theorem each_read {K : PySem.W.Frag} {X : Cx} {pins : List (Addr × PySem.Obj)} {σ : L2.St} {m : Lv} {H : Hp} {s : Shared} (I : Inv X pins σ H s) : ∀ {ys : List D} {vs : List V} {us : List Value}, flatAll ys = true → RpL X.K m H ys vs → Vals vs us → PySem.W.EachIs (fun (u : Value) (b : D × V) => ∃ as, Reads s.heap u b.1.py as) us (ys.zip vs)
  | [], vs, us, _, g, r => by
    obtain rfl : vs = [] := g
    cases r
    exact .nil
  | y :: ys, vs, us, f, g, r => by
    obtain ⟨v, w, rfl, a, b⟩ := g
    simp only [flatAll, Bool.and_eq_true] at f
    cases r with
    | cons r1 r2 => exact .cons (Rp.reads I y v _ f.1 a r1) (each_read (K := K) I f.2 b r2)
theorem vals_each {l : List (D × V)} : ∀ {us : List Value}, PySem.W.EachIs (fun (u : Value) (b : D × V) => RelV b.2 u) us l → Vals (l.map (·.2)) us := by
  induction l with
  | nil =>
    intro us h
    cases h
    exact .nil
  | cons b l ih =>
    intro us h
    cases h with
    | cons h1 h2 => exact .cons h1 (ih h2)
theorem rdl_pairs {Y : Kx} {m : Lv} {H : Hp} : ∀ {l : List (D × V)}, (∀ b ∈ l, RD Y m H b.1 b.2) → RDs Y m H (l.map (·.1)) (l.map (·.2))
  | [], _ => rfl
  | b :: l, h => ⟨_, _, rfl, h b (.head _), rdl_pairs fun c hc => h c (.tail _ hc)⟩
theorem rdl_zip {Y : Kx} {m : Lv} {H : Hp} : ∀ {ys : List D} {vs : List V}, RDs Y m H ys vs → ∀ b ∈ ys.zip vs, RD Y m H b.1 b.2
  | [], _, _, b, hb => by simp at hb
  | y :: ys, vs, h, b, hb => by
    obtain ⟨v, r, rfl, h1, h2⟩ := h
    rcases List.mem_cons.mp (by simpa using hb) with e | e
    · subst e
      exact h1
    · exact rdl_zip h2 b e
theorem ordD_ok {ys : List D} (h : ordD ys = true) : flatAll ys = true ∧ deepAll ys ≤ 60 ∧ (∀ a ∈ ys, ∀ b ∈ ys, PySem.W.alike a.py b.py = true) ∧ ∀ a ∈ ys, a ≠ .non := by
  simp only [ordD, goodAll, alikeD, noNon, Bool.and_eq_true, decide_eq_true_eq, List.all_eq_true] at h
  obtain ⟨⟨h1, h2⟩, h3, h4⟩ := h
  refine ⟨h1, h2, h3, fun a ha e => ?_⟩
  subst e
  have := h4 _ ha
  simp at this
theorem py_non {d : D} (hf : d.flat = true) (h : d.py = .none) : d = .non := by
  cases d <;> simp_all [D.py, D.flat]
theorem flat_mem : ∀ {ys : List D}, flatAll ys = true → ∀ y ∈ ys, y.flat = true
  | [], _, y, h => by cases h
  | z :: ys, h, y, hy => by
    simp only [flatAll, Bool.and_eq_true] at h
    rcases List.mem_cons.mp hy with e | e
    · rw [e]
      exact h.1
    · exact flat_mem h.2 y e
theorem deep_mem {k : Nat} : ∀ {ys : List D}, deepAll ys ≤ k → ∀ y ∈ ys, y.deep ≤ k
  | [], _, y, h => by cases h
  | z :: ys, h, y, hy => by
    simp only [deepAll] at h
    rcases List.mem_cons.mp hy with e | e
    · rw [e]
      omega
    · exact deep_mem (ys := ys) (by omega) y e
theorem vc_sorted (hK : Y.K = X.K) (un : X.A.units + 64 < cLine) {lv : Bool} : CallR X (.builtin "sorted") (vA Y (bn1 (.sorted lv))) := by
  intro pins s σ H xs us Q I r h
  obtain ⟨W, m, st, ds, rs, l, p⟩ := h
  obtain ⟨d, v, rfl, hv, p⟩ := un_arg (bi_bad _ (by simp) (by simp) (by simp)) l p
  obtain ⟨ys, q, vs, rfl, f, g, p⟩ := lseq_ok rs hv p
  rw [hK] at f
  cases hi : ints? ys with
  | some is =>
    rw [hi] at p
    have e2 := ints_map hi
    rw [e2] at g
    obtain rfl := g.ints
    refine cr_sortedI pins s σ H _ us Q I r ⟨q, is, rfl, f, fun ns' a hp hs ha => ?_⟩
    rw [sorted_one (hp.trans (isortD_perm is).symm) hs (isortD_sorted is)]
    exact new_post rs p (rdl_ints Y m H _) ha
  | none =>
    rw [hi] at p
    have p1 : Post Y W m H ((if ordD ys = true then new lv (isortA ys) else bad : M D) st) (kV Y Q) := p
    by_cases ho : ordD ys = true
    · rw [if_pos ho] at p1
      obtain ⟨hf, hd, hal, hnn⟩ := ordD_ok ho
      obtain ⟨its, rv, hl, hz⟩ := I.list f
      rw [Vals.ref1 r]
      have hlen : ys.length = vs.length := g.length.symm
      have fstz : (ys.zip vs).map (·.1) = ys := List.map_fst_zip (by omega)
      have mem1 : ∀ b ∈ ys.zip vs, b.1 ∈ ys := fun b hb => (List.of_mem_zip hb).1
      refine So.sorted_any (β := D × V) (bs := ys.zip vs) (enc := fun b => b.1.py) hl.isList (each_val hlen rv) (each_read (K := Y.K) I hf (by rw [← hK]; exact g) rv) ?_ ?_ ?_ ?_ fun out h1 h2 => ?_
      · intro d1 hd1 d2 hd2
        obtain ⟨b1, hb1, rfl⟩ := List.mem_map.mp hd1
        obtain ⟨b2, hb2, rfl⟩ := List.mem_map.mp hd2
        exact hal _ (mem1 _ hb1) _ (mem1 _ hb2)
      · intro d1 hd1 e
        obtain ⟨b1, hb1, rfl⟩ := List.mem_map.mp hd1
        exact hnn _ (mem1 _ hb1) (py_non (flat_mem hf _ (mem1 _ hb1)) e)
      · rw [List.length_zip]
        omega
      · intro b hb
        have h3 := py_depth b.1 (flat_mem hf _ (mem1 _ hb))
        have h4 := deep_mem hd _ (mem1 _ hb)
        show X.A.units + 2 + b.1.py.depth < cLine
        omega
      · obtain ⟨ep, he'⟩ := PyProof.Rows.sortedAll_at s.heap its out.toArray
        have hv2 := vals_each h2
        have hl2 : (((ys.zip vs).mergeSort (PySem.W.dataLe false fun b => b.1.py)).map (·.2)).length ≤ sizeLine := by
          rw [List.length_map, List.length_mergeSort, List.length_zip]
          omega
        refine ⟨.ref _, upd H (s.heap.objs.size + 1) (.lst (((ys.zip vs).mergeSort (PySem.W.dataLe false fun b => b.1.py)).map (·.2))), I.laid (t' := s.toks) (fun _ _ => PyProof.Rows.sortedAll_old) (Nat.le_succ _) ⟨hl2, out, ep, hv2, he'⟩, rfl, ?_⟩
        have e3 := So.map_sort (k := fun b : D × V => b.1) (ys.zip vs)
        rw [fstz] at e3
        rw [← e3] at p1
        exact new_post rs p1 (rdl_pairs fun b hb => rdl_zip g b ((List.mergeSort_perm _ _).mem_iff.mp hb)) (I.hok.fresh (Nat.le_succ _))
    · rw [if_neg ho] at p1
      exact p1.elim
/-! ### the least, the greatest -/
mutual
theorem py_inj : ∀ a b : D, a.flat = true → b.flat = true → a.py = b.py → a = b
  | .non, b, _, hb, h => by cases b <;> simp_all [D.py, D.flat]
  | .bl x, b, _, hb, h => by cases b <;> simp_all [D.py, D.flat]
  | .int x, b, _, hb, h => by cases b <;> simp_all [D.py, D.flat]
  | .str x, b, _, hb, h => by
    cases b with
    | str y =>
      simp only [D.py, PyData.str.injEq] at h
      rw [S_inj h]
    | _ => simp_all [D.py, D.flat]
  | .tup xs, b, ha, hb, h => by
    simp only [D.flat] at ha
    cases b with
    | tup ys =>
      simp only [D.flat] at hb
      simp only [D.py, PyData.tuple.injEq] at h
      rw [py_injAll xs ys ha hb h]
    | _ => simp_all [D.py, D.flat]
  | .lst xs, b, ha, hb, h => by
    simp only [D.flat] at ha
    cases b with
    | lst ys =>
      simp only [D.flat] at hb
      simp only [D.py, PyData.list.injEq] at h
      rw [py_injAll xs ys ha hb h]
    | _ => simp_all [D.py, D.flat]
  | .dic _ _, _, h, _, _ => by simp [D.flat] at h
  | .obj _, _, h, _, _ => by simp [D.flat] at h
  | .lam _, _, h, _, _ => by simp [D.flat] at h
  | .exc _ _, _, h, _, _ => by simp [D.flat] at h
theorem py_injAll : ∀ xs ys : List D, flatAll xs = true → flatAll ys = true → pyAll xs = pyAll ys → xs = ys
  | [], [], _, _, _ => rfl
  | [], _ :: _, _, _, h => by simp [pyAll] at h
  | _ :: _, [], _, _, h => by simp [pyAll] at h
  | x :: xs, y :: ys, ha, hb, h => by
    simp only [flatAll, Bool.and_eq_true] at ha hb
    simp only [pyAll, List.cons.injEq] at h
    rw [py_inj x y ha.1 hb.1 h.1, py_injAll xs ys ha.2 hb.2 h.2]
end
theorem pyAll_map : ∀ xs : List D, pyAll xs = xs.map D.py
  | [] => rfl
  | x :: xs => by simp only [pyAll, List.map_cons, pyAll_map xs]
theorem minA_py : ∀ (xs : List D) (x : D), (minA x xs).py = PySem.W.minD x.py (xs.map D.py)
  | [], x => rfl
  | y :: xs, x => by
    simp only [minA, List.map_cons, PySem.W.minD, List.foldl_cons]
    rw [minA_py xs]
    unfold PySem.W.minD
    congr 1
    split <;> rfl
theorem maxA_py : ∀ (xs : List D) (x : D), (maxA x xs).py = PySem.W.maxD x.py (xs.map D.py)
  | [], x => rfl
  | y :: xs, x => by
    simp only [maxA, List.map_cons, PySem.W.maxD, List.foldl_cons]
    rw [maxA_py xs]
    unfold PySem.W.maxD
    congr 1
    split <;> rfl
theorem minA_mem : ∀ (xs : List D) (x : D), minA x xs ∈ x :: xs
  | [], x => by simp [minA]
  | y :: xs, x => by
    simp only [minA]
    have := minA_mem xs (if PySem.W.dataLt y.py x.py = true then y else x)
    rcases List.mem_cons.mp this with e | e
    · rw [e]
      split <;> simp
    · simp [e]
theorem maxA_mem : ∀ (xs : List D) (x : D), maxA x xs ∈ x :: xs
  | [], x => by simp [maxA]
  | y :: xs, x => by
    simp only [maxA]
    have := maxA_mem xs (if PySem.W.dataLt x.py y.py = true then y else x)
    rcases List.mem_cons.mp this with e | e
    · rw [e]
      split <;> simp
    · simp [e]
/-- the value that min or max gives -/
theorem best_val {K : PySem.W.Frag} {Y : Kx} {W : Wx} {m : Lv} {st : Store} {pins : List (Addr × PySem.Obj)} {σ : L2.St} {H : Hp} {s : Shared} {Q : VK} {ys : List D} {vs : List V} {us : List Value} {b : D} {i : Nat} {u : Value} {h' : Heap} {tk : Nat} {bs : List Addr} (hK : Y.K = X.K) (I : Inv X pins σ H s) (rs : RS Y m st H) (g : RDs Y m H ys vs) (rv : Vals vs us)
    (ho : ordD ys = true) (hm : b ∈ ys) (hi : us[i]? = some u) (hr : Reads h' u b.py bs) (hk : ∀ b o, s.heap.get? b = some o → h'.get? b = some o) (p : Post Y W m H (.ok b st) (kV Y Q)) : EP X pins σ Q u { s with heap := h', toks := tk } := by
  obtain ⟨hf, hd, hal, hnn⟩ := ordD_ok ho
  have hi2 : i < us.length := (List.getElem?_eq_some_iff.mp hi).1
  have hi3 : i < vs.length := by rw [rv.length]; exact hi2
  have hi4 : i < ys.length := by rw [← g.length]; exact hi3
  obtain ⟨w, hw, rw1⟩ := rv.get (List.getElem?_eq_getElem hi3)
  rw [hi] at hw
  cases hw
  obtain ⟨v, hv, rd⟩ := g.get (List.getElem?_eq_getElem hi4)
  rw [List.getElem?_eq_getElem hi3] at hv
  cases hv
  have fy := flat_mem hf _ (List.getElem_mem hi4)
  obtain ⟨as, r1⟩ := Rp.reads (m := m) I _ _ u fy (by rw [← hK]; exact rd) rw1
  have e := PySem.W.alike_unique _ _ _ _ _ (hal _ (List.getElem_mem hi4) _ hm) (PyProof.Rows.Reads.keeps hk r1) hr
  have e2 := py_inj _ _ fy (flat_mem hf _ hm) e
  rw [← e2] at p
  exact ⟨vs[i], H, I.kept (t' := tk) hk, rw1, Post.val rs p rd⟩
theorem alikeAll_of {ys : List D} (h : ordD ys = true) : PySem.W.AlikeAll (ys.map D.py) := by
  obtain ⟨hf, hd, hal, hnn⟩ := ordD_ok h
  refine ⟨fun x hx y hy => ?_, fun x hx e => ?_⟩
  · obtain ⟨a, ha, rfl⟩ := List.mem_map.mp hx
    obtain ⟨b, hb, rfl⟩ := List.mem_map.mp hy
    exact hal _ ha _ hb
  · obtain ⟨a, ha, rfl⟩ := List.mem_map.mp hx
    exact hnn _ ha (py_non (flat_mem hf _ ha) e)
theorem vc_minl (hK : Y.K = X.K) (hc : X.calm = true) (un : X.A.units + 64 < cLine) : CallR X (.builtin "min") (vA Y (bn1 .minl)) := by
  intro pins s σ H xs us Q I r h
  obtain ⟨W, m, st, ds, rs, l, p⟩ := h
  obtain ⟨d, v, rfl, hv, p⟩ := un_arg (bi_bad _ (by simp) (by simp) (by simp)) l p
  obtain ⟨ys, q, vs, rfl, f, g, p⟩ := seq_ok rs hv p
  rw [hK] at f
  rw [Vals.ref1 r]
  cases ys with
  | nil => exact p.elim
  | cons y yr =>
    have p1 : Post Y W m H ((if ordD (y :: yr) = true then ret (minA y yr) else bad : M D) st) (kV Y Q) := p
    by_cases ho : ordD (y :: yr) = true
    · rw [if_pos ho] at p1
      obtain ⟨hf, hd, _, _⟩ := ordD_ok ho
      have hdep : X.A.units + 1 + PyData.depthAll ((y :: yr).map D.py) < cLine := by
        rw [← pyAll_map, py_depthAll _ hf]
        omega
      rcases f with f | f
      · obtain ⟨its, rv, hl, hz⟩ := I.list f
        obtain ⟨as, ra⟩ := RpL.reads (m := m) I (y :: yr) vs its hf (by rw [← hK]; exact g) rv
        rw [pyAll_map] at ra
        exact PySem.W.min_list_data (I.ok.hd hc) hl.isList (by simpa using ra) (alikeAll_of ho) hdep fun i u h' tk bs hi hr hk => by
          rw [← minA_py] at hr
          exact best_val (K := Y.K) hK I rs g rv ho (minA_mem yr y) (by simpa using hi) hr hk p1
      · obtain ⟨its, rv, hl, hz⟩ := I.tuple f.1
        obtain ⟨as, ra⟩ := RpL.reads (m := m) I (y :: yr) vs its hf (by rw [← hK]; exact g) rv
        rw [pyAll_map] at ra
        exact PySem.W.min_tuple_data (I.ok.hd hc) (show s.heap.IsTuple q its.toArray from hl) (by simpa using ra) (alikeAll_of ho) hdep fun i u h' tk bs hi hr hk => by
          rw [← minA_py] at hr
          exact best_val (K := Y.K) hK I rs g rv ho (minA_mem yr y) (by simpa using hi) hr hk p1
    · rw [if_neg ho] at p1
      exact p1.elim
theorem vc_maxl (hK : Y.K = X.K) (hc : X.calm = true) (un : X.A.units + 64 < cLine) : CallR X (.builtin "max") (vA Y (bn1 .maxl)) := by
  intro pins s σ H xs us Q I r h
  obtain ⟨W, m, st, ds, rs, l, p⟩ := h
  obtain ⟨d, v, rfl, hv, p⟩ := un_arg (bi_bad _ (by simp) (by simp) (by simp)) l p
  obtain ⟨ys, q, vs, rfl, f, g, p⟩ := seq_ok rs hv p
  rw [hK] at f
  rw [Vals.ref1 r]
  cases ys with
  | nil => exact p.elim
  | cons y yr =>
    have p1 : Post Y W m H ((if ordD (y :: yr) = true then ret (maxA y yr) else bad : M D) st) (kV Y Q) := p
    by_cases ho : ordD (y :: yr) = true
    · rw [if_pos ho] at p1
      obtain ⟨hf, hd, _, _⟩ := ordD_ok ho
      have hdep : X.A.units + 1 + PyData.depthAll ((y :: yr).map D.py) < cLine := by
        rw [← pyAll_map, py_depthAll _ hf]
        omega
      rcases f with f | f
      · obtain ⟨its, rv, hl, hz⟩ := I.list f
        obtain ⟨as, ra⟩ := RpL.reads (m := m) I (y :: yr) vs its hf (by rw [← hK]; exact g) rv
        rw [pyAll_map] at ra
        exact PySem.W.max_list_data (I.ok.hd hc) hl.isList (by simpa using ra) (alikeAll_of ho) hdep fun i u h' tk bs hi hr hk => by
          rw [← maxA_py] at hr
          exact best_val (K := Y.K) hK I rs g rv ho (maxA_mem yr y) (by simpa using hi) hr hk p1
      · obtain ⟨its, rv, hl, hz⟩ := I.tuple f.1
        obtain ⟨as, ra⟩ := RpL.reads (m := m) I (y :: yr) vs its hf (by rw [← hK]; exact g) rv
        rw [pyAll_map] at ra
        exact PySem.W.max_tuple_data (I.ok.hd hc) (show s.heap.IsTuple q its.toArray from hl) (by simpa using ra) (alikeAll_of ho) hdep fun i u h' tk bs hi hr hk => by
          rw [← maxA_py] at hr
          exact best_val (K := Y.K) hK I rs g rv ho (maxA_mem yr y) (by simpa using hi) hr hk p1
    · rw [if_neg ho] at p1
      exact p1.elim
theorem vc_tuple (hK : Y.K = X.K) : CallR X (.type "tuple") (vA Y (bn1 .tuple)) := by
  intro pins s σ H xs us Q I r h
  obtain ⟨W, m, st, ds, rs, l, p⟩ := h
  obtain ⟨d, v, rfl, hv, p⟩ := un_arg (bi_bad _ (by simp) (by simp) (by simp)) l p
  have gen : (∀ xs, d ≠ .tup xs) → Post Y W m H ((seqOf d >>= fun ys => ret (D.tup ys)) st) (kV Y Q) → wpAny (model X.prog X.w) X.A (call (.type "tuple") us) (EP X pins σ Q) X.xe s := fun hn p => by
    obtain ⟨ys, q, vs, rfl, f, g, p2⟩ := seq_ok rs hv p
    rw [hK] at f
    rcases f with f | f
    · exact call_tuple_of pins s σ H _ us Q I r ⟨q, vs, rfl, .inl ⟨f, fun a ha => tup_post rs p2 g ha⟩⟩
    · exact absurd f.2 (hn ys)
  cases d with
  | tup ys =>
    obtain ⟨q, vs, rfl, f, g⟩ := hv
    have f' := f
    rw [hK] at f'
    exact call_tuple_of pins s σ H _ us Q I r ⟨q, vs, rfl, .inr ⟨f'.sq, Post.val rs p ⟨q, vs, rfl, f, g⟩⟩⟩
  | _ => exact gen (fun xs q => by cases q) p
theorem vc_list (hK : Y.K = X.K) {lv : Bool} : CallR X (.type "list") (vA Y (bn1 (.list lv))) := by
  intro pins s σ H xs us Q I r h
  obtain ⟨W, m, st, ds, rs, l, p⟩ := h
  obtain ⟨d, v, rfl, hv, p⟩ := un_arg (bi_bad _ (by simp) (by simp) (by simp)) l p
  obtain ⟨ys, q, vs, rfl, f, g, p⟩ := seq_ok rs hv p
  rw [hK] at f
  exact call_list_of pins s σ H _ us Q I r ⟨q, vs, rfl, f.imp id (fun z => z.1), fun a ha => new_post rs p g ha⟩
theorem showable_flat {d : D} (h : d.flat = true) : d.py.hasDict = false := PyData.hasDict_of_canLay _ (py_lay d h)
theorem S_back (x : Str) : S x.cps.toList = x := by
  show Str.mk _ = x
  simp
theorem vc_repr (hK : Y.K = X.K) (hg : X.A.guards = some []) (hu : X.A.units + 64 < cLine) : CallR X (.builtin "repr") (vA Y (bn1 .repr)) := by
  intro pins s σ H xs us Q I r h
  obtain ⟨W, m, st, ds, rs, l, p⟩ := h
  obtain ⟨d, v, rfl, hv, p⟩ := un_arg (bi_bad _ (by simp) (by simp) (by simp)) l p
  obtain ⟨d', e, p⟩ := cont_inv rs hv p
  have p1 : Post Y W m H ((if (d'.good && d'.py.showable && decide (d'.py.shown.length ≤ lim)) = true then ret (.str d'.py.shown.cps.toList) else bad : M D) st) (kV Y Q) := p
  by_cases hd : (d'.good && d'.py.showable && decide (d'.py.shown.length ≤ lim)) = true
  · rw [if_pos hd] at p1
    simp only [Bool.and_eq_true, decide_eq_true_eq] at hd
    obtain ⟨⟨g1, g2⟩, g3⟩ := hd
    have q : Q (.str d'.py.shown) H := by
      have z := Post.val rs p1 (v := .str (S d'.py.shown.cps.toList)) rfl
      rw [S_back] at z
      exact z
    obtain ⟨u, rfl, ru⟩ := vals1 r
    · obtain ⟨as, rd⟩ := cont_reads hK I rs hv e (good_flat g1) ru
      have g4 := g1
      simp only [D.good, Bool.and_eq_true, decide_eq_true_eq] at g4
      have hl : lim ≤ sizeLine := by decide
      have dep := py_depth d' g4.1
      have refs : ∀ a : Addr, v = .ref a → wpAny (model X.prog X.w) X.A (call (.builtin "repr") [u]) (EP X pins σ Q) X.xe s := fun a ea => by
        subst ea
        obtain rfl : u = _ := ru
        exact repr_of_reads' rd g2 (PyData.noDict_hsm (showable_flat (good_flat g1))) hg (by omega) (fun _ _ e => e) (fun h' u tk hk => ⟨.str d'.py.shown, H, I.kept (t' := tk) hk, ⟨_, rfl⟩, q⟩) (by omega)
      cases d with
      | non =>
        cases e
        obtain rfl : v = _ := hv
        cases ru
        refine PySem.P.repr_of_none ⟨.str _, H, I.tok _, ⟨_, rfl⟩, ?_⟩
        simpa only [D.py, PyData.shown] using q
      | bl b =>
        cases e
        obtain rfl : v = _ := hv
        cases ru
        refine PySem.P.repr_of_bool ⟨.str _, H, I.tok _, ⟨_, rfl⟩, ?_⟩
        have q2 := q
        simp only [D.py, PyData.shown] at q2
        cases b <;> exact q2
      | int i =>
        cases e
        obtain rfl : v = _ := hv
        obtain ⟨t, rfl⟩ := ru
        simp only [D.py, PyData.showable, decide_eq_true_eq] at g2
        refine PySem.P.repr_of_int g2 ⟨.str _, H, I.tok _, ⟨_, rfl⟩, ?_⟩
        simpa only [D.py, PyData.shown] using q
      | str z =>
        cases e
        obtain rfl : v = _ := hv
        obtain ⟨t, rfl⟩ := ru
        simp only [D.py, PyData.shown] at g3
        refine PySem.P.repr_of_str ⟨.str _, H, I.tok _, ⟨_, rfl⟩, ?_⟩ (by omega)
        simpa only [D.py, PyData.shown] using q
      | tup xs =>
        obtain ⟨a, _, ea, _⟩ := hv
        exact refs a ea
      | lst xs =>
        obtain ⟨a, _, ea, _⟩ := hv
        exact refs a ea
      | obj i =>
        obtain ⟨a, ea, _⟩ := hv
        exact refs a ea
      | _ => exact hv.elim
  · rw [if_neg hd] at p1
    exact p1.elim
theorem vc_str : CallR X (.type "str") (vA Y (bn1 .str)) := by
  intro pins s σ H xs us Q I r h
  obtain ⟨W, m, st, ds, rs, l, p⟩ := h
  obtain ⟨d, v, rfl, hv, p⟩ := un_arg (bi_bad _ (by simp) (by simp) (by simp)) l p
  cases d with
  | int i =>
    obtain rfl : v = _ := hv
    have p1 : Post Y W m H ((if i.natAbs.log2 < 1920 then ret (.str ((toString i : Str)).cps.toList) else bad : M D) st) (kV Y Q) := p
    by_cases hi : i.natAbs.log2 < 1920
    · rw [if_pos hi] at p1
      have z := Post.val rs p1 (v := .str (S (toString i : Str).cps.toList)) rfl
      rw [S_back] at z
      exact call_str_int pins s σ H _ us Q I r ⟨i, rfl, hi, z⟩
    · rw [if_neg hi] at p1
      exact p1.elim
  | str z =>
    obtain rfl : v = _ := hv
    exact SkE.call_str_str pins s σ H _ us Q I r ⟨S z, rfl, Post.val rs p rfl⟩
  | _ => exact p.elim
theorem vc_set (hc : X.calm = true) : CallR X (.type "set") (fun xs H Q => ∃ (q : Addr) (is : List Int), xs = [V.ref q] ∧ SqT X.K H q (is.map V.int) ∧ is.length < 64 ∧ ∀ (a : Addr) (c : Nat), c ≤ is.length → H a = none → Q (.ref a) (upd H a (SetO X.w a (fun j => decide (j ∈ is)) c))) := by
  intro pins s σ H xs us Q I r h
  obtain ⟨q, is, rfl, f, hl, hq⟩ := h
  cases r with
  | cons r rr =>
    cases rr
    cases r
    obtain ⟨its, rv, pt, hz⟩ := I.tuple f
    have hi : IntsAre its.toArray.toList is := ints_of_vals rv
    refine call_set_tupI is (I.ok.hd hc) (show s.heap.IsTuple q its.toArray from pt) hi (by unfold scanBound; omega) fun h' tk c R1 hcn k => ?_
    exact ⟨.ref _, _, I.laid (t' := tk) k (Nat.le_refl _) (setO_new R1), rfl, hq _ c hcn (I.hok.fresh (Nat.le_refl _))⟩
end
end Mp
/-! extend -/
namespace Mp
open PySem PySem.Spec PyProof.Rows L2 PySem.AutoSeq1
open PySem.SeqAt PySem.MeetsSeq PySem.MeetsSeq2 PySem.MeetsSeq3
theorem extend_meets (l : Addr) (items : Array Value) (n : Nat) (b : Addr) (items2 : Array Value) (n2 : Nat) (sl : Array (Option Value)) (hc0 : ¬(!items.isEmpty && Builtin.List.listTooLong (items.size + items2.size)) = true) (hc1 : items.size ≤ sizeLine) (hs2 : items.size + items2.size ≤ sizeLine + 1) :
    Meets (Builtin.«list.extend» ⟨[.ref l, .ref b], []⟩) (fun _ R s => s.heap.get? l = some { cls := .type "list", dict := none, data := .seq items n, slots := #[] } ∧ s.heap.get? b = some { cls := .type "list", dict := none, data := .seq items2 n2, slots := sl } ∧ R (.ok (.ret Value.none)) { s with heap := s.heap.update l (Obj.mapSeq fun x => x ++ items2), toks := s.toks }) :=
  .of_wp fun prog w A R s h => by
    obtain ⟨hp, g, d, tk, os⟩ := s; obtain ⟨hl, hb, h⟩ := h; have f1 := idx_int; have f2 := AutoSeq1.sub_tuple_tuple; have f3 := AutoSeq1.sub_list_list; have f4 := AutoSeq1.sub_tuple_list; have f5 := AutoSeq1.sub_list_tuple;
    have hz' : (items ++ items2).size ≤ sizeLine + 1 := by rw [Array.size_append]; exact hs2
    wp_walk using (wpAny_updateSeq hl rfl (hz := hc1) (_hz' := hz')), wpAny_loadPart' hl, wpAny_loadPart' hb; exact ⟨_, rfl, h⟩
def rExtQ (K : PySem.W.Frag) : V → List V → Hp → VK → Prop := fun x vs H Q => ∃ l b xs zs, x = .ref l ∧ vs = [.ref b] ∧ H l = some (.lst xs) ∧ SqL K H b zs ∧ xs.length + zs.length ≤ sizeLine ∧ Q .non (upd H l (.lst (xs ++ zs)))
theorem mt_extQ {X : Cx} : MtM X "list.extend" (rExtQ X.K) := by
  intro pins s σ H x vs v us Q I rx rv h
  obtain ⟨l, b, xs, zs, rfl, rfl, hH, hB, hz, q⟩ := h
  cases rx
  obtain ⟨u, rfl, ru⟩ := rv.one
  cases ru
  obtain ⟨z, its, n, r, hl, e⟩ := I.lstM hH
  obtain ⟨its2, r2, ⟨⟨c2, d2, a2, s2⟩, n2, e2, c3, d3, a3⟩, hl2⟩ := I.list hB
  subst c3 d3 a3
  have e5 := r.length
  have e6 := r2.length
  have hsz : its.toArray.size + its2.toArray.size ≤ sizeLine := by rw [List.size_toArray, List.size_toArray]; omega
  have hlong : ¬ (!its.toArray.isEmpty && Builtin.List.listTooLong (its.toArray.size + its2.toArray.size)) = true := by
    rw [notLongL hsz, Bool.and_false]
    exact Bool.false_ne_true
  refine call_meets F.slot_list_extend ⟨_, e, rfl⟩ F.entry_list_extend (F.args_list_extend_2 _ _)
    (extend_meets l its.toArray n b its2.toArray n2 s2 hlong (by rw [List.size_toArray]; omega) (by omega)) ⟨e, e2, ?_⟩
  refine ⟨.non, _, I.lset (its' := its ++ its2) hH e (by simp) (r.append r2) ?_, rfl, q⟩
  rw [List.length_append]
  omega
end Mp
end
section
set_option autoImplicit false
set_option Elab.async false
set_option linter.all false
set_option maxRecDepth 100000
set_option maxHeartbeats 1000000
/-! MpCall: defs whose promise is the evaluator's answer; their calls. -/
namespace Mp
open PySem PySem.Spec PyProof.Rows L2
/-- a def at f keeps sp by k levels, where nothing is being shown -/
structure FnG (P : Program) (w : World) (K : PySem.W.Frag) (mg : Str → Option Value) (base : Heap) (k : Nat) (f : Addr) (fd : FuncData) (ps : List Str) (sp : Sp) : Prop where
  len : ∀ vs H Q E, sp vs H Q E → vs.length = ps.length
  go : ∀ (A : Around) (out : List PySem.Env) (s : Shared) (H : Hp) (args : Args) (us : List Value) (vs : List V) (Q : VK) (E : XK), Room k A → A.guards = some [] → Env0 P w K mg base A out s H →
    BindsTo s fd args (ps.zip us) → Vals vs us → sp vs H Q E → codeAny (model P w) A (.call (.ref f) args) (CR (L2.CX P w) out P w H s Q E) s
theorem FnG.imp {P : Program} {w : World} {K : PySem.W.Frag} {mg : Str → Option Value} {base : Heap} {k : Nat} {f : Addr} {fd : FuncData} {ps : List Str} {sp sp' : Sp} (F : FnG P w K mg base k f fd ps sp) (h : ∀ vs H Q E, sp' vs H Q E → sp vs H Q E) :
    FnG P w K mg base k f fd ps sp' := ⟨fun vs H Q E z => F.len vs H Q E (h vs H Q E z), fun A out s H args us vs Q E hr hg e b r z => F.go A out s H args us vs Q E hr hg e b r (h vs H Q E z)⟩
theorem FnG.up {P : Program} {w : World} {K : PySem.W.Frag} {mg : Str → Option Value} {base : Heap} {j k : Nat} {f : Addr} {fd : FuncData} {ps : List Str} {sp : Sp} (F : FnG P w K mg base j f fd ps sp) (h : j ≤ k) :
    FnG P w K mg base k f fd ps sp := ⟨F.len, fun A out s H args us vs Q E hr => F.go A out s H args us vs Q E (hr.mono h)⟩
theorem guards_deeper {A : Around} (h : A.guards = some []) (env : PySem.Env) : (A.deeper env).guards = some [] := h
/-- a def of the text, by its body -/
theorem fng_of {P : Program} {w : World} {K : PySem.W.Frag} {mg : Str → Option Value} {base : Heap} {k : Nat} {f : Addr} {name qual : Str} {params : Arguments} {body : List Stmt} {scope : Scope} {dV kV doc pm cdv ct oc : Value} {an od : Option Addr}
    {osl : Array (Option Value)} {N ps : List Str} {sp : Sp} (lk : K.lookup f = some ⟨oc, od, .func (PySem.W.fnOf name qual params body scope dV kV doc pm an cdv ct), osl⟩) (hcd : PySem.W.codeIn K cdv qual = true) (sc : FnScope N ps scope)
    (len : ∀ vs H Q E, sp vs H Q E → vs.length = ps.length)
    (hbody : ∀ (A : Around) (out : List PySem.Env) (s : Shared) (H : Hp) (vs : List V) (Q : VK) (E : XK), Room k (A.deeper (envOfC qual scope s.heap.objs.size f cdv)) → A.guards = some [] → sp vs H Q E →
      ∃ t, PSs (cxOf (L2.CX P w) P w K mg base N qual scope f cdv A out s H E) body t ∧ t { nx := fun _ H' => Q .non H', rt := Q } (start N vs) H) :
    FnG P w K mg base (k + 1) f (PySem.W.fnOf name qual params body scope dV kV doc pm an cdv ct) ps sp := by
  refine ⟨len, fun A out s H args us vs Q E hr hg e0 hb r hsp => ?_⟩
  have keep0 : ∀ b o, base.get? b = some o → s.heap.get? b = some o := fun b o z => (e0.bs b o z).1
  have kinds : ∀ y ∈ ps.zip us, scope.names.lookup y.1 = some .local ∨ (scope.names.lookup y.1 = some .cell ∧ ((cellsFrom (s.heap.objs.size + 1) scope.names []).lookup y.1).isSome = true) := by
    rintro ⟨n, v⟩ hy
    have hn := (List.of_mem_zip hy).1
    exact (sc.par n hn).imp id fun z => ⟨z, PySem.W.cellsFrom_some _ _ _ (.inl z)⟩
  refine codeAny_call_function hr.depth ((e0.mod.kin.keeps keep0) _ _ lk) rfl sc.co sc.gen rfl
    (PySem.W.codeRec_of (e0.mod.kin.keeps keep0) hcd) (hb _ _ _ _ ?_)
  refine wpAny_newFunctionEnv_cells sc.kind kinds fun env henv s1 x => ?_
  subst henv
  refine ⟨(e0.mod.nolimit.keeps keep0).keeps x.toInCall.keep, codeAny_func ?_⟩
  obtain ⟨t, ht, hq⟩ := hbody A out s H vs Q E (hr.deeper _) hg hsp
  have J := inv_start (CX := L2.CX P w) (E := E) sc hr.hd e0 (len _ _ _ _ hsp) r x
  refine wpAny_mono (ht.run [] s1 (start N vs) H _ J hq) (fun fl s' z => ?_) fun e s' z => z
  cases fl with
  | ret u =>
    obtain ⟨v, σ', H', I, rv, q⟩ := z
    exact ⟨v, H', I.os, I.bare, I.base, I.hok, rv, q⟩
  | next =>
    obtain ⟨σ', H', I, q⟩ := z
    exact ⟨.non, H', I.os, I.bare, I.base, I.hok, rfl, q⟩
  | brk => exact False.elim z.choose_spec.choose_spec.2
  | cont => exact False.elim z.choose_spec.choose_spec.2
section
variable {X : Cx} {k : Nat} {f C : Addr} {fd : FuncData} {ps : List Str} {sp : Sp} {E : L2.St → XK} {W : WX}
theorem run_fng {pins : List (Addr × PySem.Obj)} {σ : L2.St} {H : Hp} {s : Shared} {Q : VK} {us : List Value} {vs : List V} (F : FnG X.prog X.w X.K X.mg X.base k f fd ps sp) (hr : Room k X.A) (hg : X.A.guards = some []) (hb : Binds X.K fd ps [])
    (tk : Takes X W) (I : Inv X pins σ H s) (r : Vals vs us) (h : sp vs H Q (WE W σ)) : wpAny (model X.prog X.w) X.A (call (.ref f) us) (EP X pins σ Q) X.xe s := by
  have hl : us.length = ps.length := r.length.symm.trans (F.len _ _ _ _ h)
  have b2 := hb s us I.kIn (by rw [List.append_nil]; exact hl)
  rw [List.append_nil] at b2
  refine wpAny_call (codeAny_mono (F.go X.A X.stack s H ⟨us, []⟩ us vs Q (WE W σ) hr hg I.env0 b2 r h) fun z s' hq => ?_)
  cases z with
  | error e => exact passAt tk σ pins H s e s' I hq
  | ok fl =>
    cases fl with
    | ret u => exact I.after hq
    | _ => exact False.elim hq
/-- f(e, ..) -/
theorem pe_gcall {x : Str} {p pos : Pos} {e : Expr} {es : List Expr} {t : TA} (F : FnG X.prog X.w X.K X.mg X.base k f fd ps sp) (hr : Room k X.A) (hg : X.A.guards = some []) (gl : Gl X x) (hm : X.mg x = some (.ref f)) (hk : PySem.W.keepIn X.K (.ref f) = true) (hb : Binds X.K fd ps []) (tk : Takes X W)
    (ha : PA X (e :: es) t) (hdb : (x == ("__debug__" : Str)) = false) (he : starEach (e :: es) X.env = (false, eval e X.env) :: starEach es X.env) (hpl : (backTo pos (starEach es X.env)).any (·.1) = false) :
    PE X (.Call (.Name x p) (e :: es) [] pos) (fun σ H Q => t σ H fun vs H1 => sp vs H1 Q (WE W σ)) := by
  refine ⟨fun pins s σ H Q I h => wpAny_Call_Name_kw (ld_glob I gl hm ?_ hdb)⟩
  exact PySem.W.callWith_K (h₀ := X.base) I.ok.mod.kin hk (thn (ha.run pos pins s σ H _ I h) fun us s1 ⟨vs, H1, I1, r, q⟩ => ⟨I1.kIn, run_fng F hr hg hb tk I1 r q⟩) he hpl
/-- f() -/
theorem pe_gcall0 {x : Str} {p pos : Pos} (F : FnG X.prog X.w X.K X.mg X.base k f fd ps sp) (hr : Room k X.A) (hg : X.A.guards = some []) (gl : Gl X x) (hm : X.mg x = some (.ref f)) (hk : PySem.W.keepIn X.K (.ref f) = true) (hb : Binds X.K fd ps []) (tk : Takes X W)
    (hdb : (x == ("__debug__" : Str)) = false) : PE X (.Call (.Name x p) [] [] pos) (fun σ H Q => sp [] H Q (WE W σ)) :=
  ⟨fun pins s σ H Q I h => wpAny_Call_Name_kw (ld_glob I gl hm (PySem.W.callWith_K0 I.kIn hk (run_fng (us := []) F hr hg hb tk I .nil h)) hdb)⟩
/-- o.m(e, ..) -/
theorem pe_gmeth {o e : Expr} {es : List Expr} {m : Str} {apos pos : Pos} {ta : TE} {t : TA} {pl : Sem Bool} (ho : PE X o ta) (c : Cls X.K C) (hm : Meth X.K C m f) (F : FnG X.prog X.w X.K X.mg X.base k f fd ps sp) (hr : Room k X.A) (hg : X.A.guards = some []) (hb : Binds X.K fd ps []) (tk : Takes X W) (ha : PA X (e :: es) t)
    (hst : starEach (e :: es) X.env = (false, eval e X.env) :: starEach es X.env) (hpl : (backTo pos (starEach es X.env)).any (·.1) = false)
    (ht : eval (.Call (.Attribute o m apos) (e :: es) [] pos) X.env = (do
      let ov ← eval o X.env
      standAt apos.atName
      let (f, first) ← holding [ov] (getMethod ov m pl)
      callWith pos f first (backTo pos (starEach (e :: es) X.env)) (backToKw pos (keywordEach [] X.env)))) :
    PE X (.Call (.Attribute o m apos) (e :: es) [] pos) (fun σ H Q => ta σ H fun x H1 => ∃ a dx fs, x = .ref a ∧ H1 a = some (.ins C dx fs) ∧ fs.lookup m = none ∧ t σ H1 fun vs H2 => sp (x :: vs) H2 Q (WE W σ)) := by
  refine ⟨fun pins s σ H Q I h => PySem.W.methodCall_KW (pl := pl) (thn (ho.run pins s σ H _ I h) fun u s1 ⟨x, H1, I1, rx, a, dx, fs, ex, ea, l, q⟩ => ?_) ht⟩
  subst ex
  obtain rfl : u = Value.ref a := rx
  refine getmeth_ok I1 ea c hm l (PySem.W.callWith_K (first := [.ref a]) (h₀ := X.base) I.ok.mod.kin hm.kp (thn (ha.run pos pins s1 σ H1 _ I1 q) fun us s2 ⟨vs, H2, I2, r, q2⟩ => ⟨I2.kIn, ?_⟩) hst hpl)
  exact run_fng (us := .ref a :: us) (vs := .ref a :: vs) F hr hg hb tk I2 (.cons rfl r) q2
/-- o.m() -/
theorem pe_gmeth0 {o : Expr} {m : Str} {apos pos : Pos} {ta : TE} {pl : Sem Bool} (ho : PE X o ta) (c : Cls X.K C) (hm : Meth X.K C m f) (F : FnG X.prog X.w X.K X.mg X.base k f fd ps sp) (hr : Room k X.A) (hg : X.A.guards = some []) (hb : Binds X.K fd ps []) (tk : Takes X W)
    (ht : eval (.Call (.Attribute o m apos) [] [] pos) X.env = (do
      let ov ← eval o X.env
      standAt apos.atName
      let (f, first) ← holding [ov] (getMethod ov m pl)
      callWith pos f first (backTo pos (starEach [] X.env)) (backToKw pos (keywordEach [] X.env)))) :
    PE X (.Call (.Attribute o m apos) [] [] pos) (fun σ H Q => ta σ H fun x H1 => ∃ a dx fs, x = .ref a ∧ H1 a = some (.ins C dx fs) ∧ fs.lookup m = none ∧ sp [x] H1 Q (WE W σ)) := by
  refine ⟨fun pins s σ H Q I h => PySem.W.methodCall_KW (pl := pl) (thn (ho.run pins s σ H _ I h) fun u s1 ⟨x, H1, I1, rx, a, dx, fs, ex, ea, l, q⟩ => ?_) ht⟩
  subst ex
  obtain rfl : u = Value.ref a := rx
  exact getmeth_ok I1 ea c hm l (PySem.W.callWith_K0 (first := [.ref a]) I1.kIn hm.kp (run_fng (us := [.ref a]) (vs := [.ref a]) F hr hg hb tk I1 (.cons rfl .nil) q))
/-- C(e, ..): a new instance, then __init__ -/
theorem run_gmake {pins : List (Addr × PySem.Obj)} {σ : L2.St} {H : Hp} {s : Shared} {Q : VK} {us : List Value} {vs : List V} (M : Mk X.K C f) (F : FnG X.prog X.w X.K X.mg X.base k f fd ps sp) (hr : Room (k + 1) X.A) (hg : X.A.guards = some []) (hb : Binds X.K fd ps [])
    (tk : Takes X W) (I : Inv X pins σ H s) (r : Vals vs us)
    (h : ∀ x dx, H x = none → H dx = none → dx ≠ x → sp (.ref x :: vs) (upd (upd H dx (.own x)) x (.ins C dx [])) (fun v H2 => v = .non ∧ Q (.ref x) H2) (WE W σ)) :
    wpAny (model X.prog X.w) X.A (call (.ref C) us) (EP X pins σ Q) X.xe s := by
  have q0 := h (s.heap.objs.size + 1) s.heap.objs.size (I.hok.fresh (Nat.le_succ _)) (I.hok.fresh (Nat.le_refl _)) (Nat.ne_of_lt (Nat.lt_succ_self _))
  have J := Inv.made (C := C) I
  have r2 : Vals (V.ref (s.heap.objs.size + 1) :: vs) (Value.ref (s.heap.objs.size + 1) :: us) := .cons rfl r
  have hl : (Value.ref (s.heap.objs.size + 1) :: us).length = ps.length := r2.length.symm.trans (F.len _ _ _ _ q0)
  have b2 := hb _ (Value.ref (s.heap.objs.size + 1) :: us) J.kIn (by rw [List.append_nil]; exact hl)
  rw [List.append_nil] at b2
  refine wpAny_call (make_map (f := f) I.kIn M.makes M.init (beq_iff_eq.mp M.fn) (codeAny_mono (F.go _ X.stack _ _ ⟨Value.ref (s.heap.objs.size + 1) :: us, []⟩ _ _ _ _ (hr.make C us []) ?_ (J.env0.make C us []) b2 r2 q0) fun z s' hq => ?_))
  · have e : (X.A.under (.builtin "type.__call__" ⟨.ref C :: us, []⟩)).guards = X.A.guards := by
      simp [Around.under, Code.guards, Code.isGuard, guardIds, pushGuards]
    rw [e]
    exact hg
  · cases z with
    | error e => exact passAt tk σ pins _ _ e s' J hq
    | ok fl =>
      cases fl with
      | ret u =>
        obtain ⟨v, H', J2, rv, ev, q3⟩ := J.after hq
        subst ev
        exact ⟨rv, ⟨V.ref (s.heap.objs.size + 1), H', J2, rfl, q3⟩⟩
      | _ => exact False.elim hq
theorem pe_gmake {x : Str} {p pos : Pos} {e : Expr} {es : List Expr} {t : TA} (M : Mk X.K C f) (F : FnG X.prog X.w X.K X.mg X.base k f fd ps sp) (hr : Room (k + 1) X.A) (hg : X.A.guards = some []) (gl : Gl X x) (hm : X.mg x = some (.ref C)) (hb : Binds X.K fd ps []) (tk : Takes X W)
    (ha : PA X (e :: es) t) (hdb : (x == ("__debug__" : Str)) = false) (he : starEach (e :: es) X.env = (false, eval e X.env) :: starEach es X.env) (hpl : (backTo pos (starEach es X.env)).any (·.1) = false) :
    PE X (.Call (.Name x p) (e :: es) [] pos) (fun σ H Q => t σ H fun vs H1 => ∀ y dx, H1 y = none → H1 dx = none → dx ≠ y → sp (.ref y :: vs) (upd (upd H1 dx (.own y)) y (.ins C dx [])) (fun v H2 => v = .non ∧ Q (.ref y) H2) (WE W σ)) := by
  refine ⟨fun pins s σ H Q I h => wpAny_Call_Name_kw (ld_glob I gl hm ?_ hdb)⟩
  exact PySem.W.callWith_K (h₀ := X.base) I.ok.mod.kin M.kp (thn (ha.run pos pins s σ H _ I h) fun us s1 ⟨vs, H1, I1, r, q⟩ => ⟨I1.kIn, run_gmake M F hr hg hb tk I1 r q⟩) he hpl
end
end Mp
end
section
set_option autoImplicit false
set_option Elab.async false
set_option linter.all false
set_option maxRecDepth 100000
set_option maxHeartbeats 2000000
/-! MpIter: enumerate of a tuple; walks of what the evaluator goes through. -/
namespace Mp
open PySem PySem.Spec PyProof.Rows L2
open AutoSeq1 (wpAny_loadPart')
abbrev enT (l : Addr) : PySem.Obj := { cls := .type "tuple_iterator", data := .fields #[.ref l, .int 0 0] }
abbrev enE (a : Addr) : PySem.Obj := { cls := .type "enumerate", data := .fields #[.none, .bool false, .ref a, rawInt 0, .none, .none] }
theorem enT_new {l : Addr} {its : Array Value} (B : Begins (.ref l) (enT l) fun g => g.IsTuple l its) :
    Meets (Builtin.«enumerate.__new__» ⟨[.type "enumerate", .ref l], []⟩) (fun _ R s => s.heap.IsTuple l its ∧ R (.ok (.ret (.ref (s.heap.push (enT l)).objs.size))) { s with heap := (s.heap.push (enT l)).push (enE s.heap.objs.size) }) :=
  .of_wp fun P w A R s q => by
    obtain ⟨g0, g1, g2, g3, g4⟩ := s
    obtain ⟨hl, q⟩ := q
    have hsub := sub_enumerate
    have goes : ∀ {A' : Around} {E : Value → Shared → Prop} {Q : Value → Shared → Prop}, Q (.ref g0.objs.size) ⟨g0.push (enT l), g1, g2, g3, g4⟩ → wpAny (model P w) A' (pyIter (.ref l)) Q E ⟨g0, g1, g2, g3, g4⟩ := fun z => B.iter P w _ _ ⟨g0, g1, g2, g3, g4⟩ _ hl z
    obtain ⟨oT, eT, _⟩ := id hl
    wp_walk using goes, wpAny_loadPart' eT
    refine wpAny_stack_any fun st => wpAny_pure ?_
    split
    · rename_i c _ _ _ _ _
      cases (c == Value.type "enumerate")
      all_goals
        wp_walk using goes, wpAny_loadPart' eT
        exact ⟨_, rfl, q⟩
    · wp_walk using goes, wpAny_loadPart' eT
      exact ⟨_, rfl, q⟩
theorem enT_call {P : Program} {w : World} {A : Around} {E : Value → Shared → Prop} {s : Shared} {l : Addr} {its : Array Value} {Q : Value → Shared → Prop} (hl : s.heap.IsTuple l its)
    (q : ∀ h', IsEnum h' (s.heap.objs.size + 1) s.heap.objs.size 0 .none → h'.IsTupleIter s.heap.objs.size l 0 → (∀ b o, s.heap.get? b = some o → h'.get? b = some o) → Q (.ref (s.heap.objs.size + 1)) { s with heap := h' }) :
    wpAny (model P w) A (call (.type "enumerate") [.ref l]) Q E s := by
  refine callType_new F.called_enumerate (by decide) (F.typeCall_enumerate_1 _) (F.newCall_enumerate_1 _) (fun obj => F.args_object_init_2 obj _) F.entry_enumerate_new (enT_new (begins_tuple l its)) ⟨hl, ?_⟩
  have sz : (s.heap.push (enT l)).objs.size = s.heap.objs.size + 1 := Heap.size_push ..
  show _ ∧ _
  rw [sz]
  have z : IsEnum ((s.heap.push (enT l)).push (enE s.heap.objs.size)) (s.heap.objs.size + 1) s.heap.objs.size 0 .none := by
    have z0 := Heap.get?_push_size (s.heap.push (enT l)) (o := enE s.heap.objs.size) rfl
    rw [sz] at z0
    exact z0
  exact ⟨⟨_, z, rfl⟩, q _ z ⟨_, Heap.get?_push_of_some _ (Heap.get?_push_size _ rfl), rfl, rfl⟩ fun b o e => Heap.get?_push_of_some _ (Heap.get?_push_of_some _ e)⟩
/-- the tuple at a, each item in a new pair with its place -/
def ItE (K : PySem.W.Frag) (a : Addr) : L2.It :=
  ⟨fun i H => ∃ (xs : List V) (x : V), SqT K H a xs ∧ xs[i]? = some x, fun i H v H' => ∃ T x, v = .ref T ∧ H T = none ∧ H' = upd H T (.tup [.int (i : Nat), x]) ∧ ∀ xs, SqT K H a xs → xs[i]? = some x, fun i H => ∃ xs : List V, SqT K H a xs ∧ xs.length ≤ i⟩
theorem turn_enT {P : Program} {w : World} {K : PySem.W.Frag} {ts : List Expr} {kk : Nat} {tp : Pos} (a e it : Addr) (na : a ≠ it) (nea : e ≠ a) (its : Array Value) :
    Turn P w K (.Tuple ts kk tp) (ItE K a) [e, it] e (fun i h => (∃ old, IsEnum h e it ((i : Nat) : Int) old) ∧ h.IsTupleIter it a i ∧ e ≠ it) where
  mem := by simp
  obj := fun i h st b hb => by
    obtain ⟨⟨old, he⟩, ⟨o, ho, hc, hd⟩, _⟩ := st
    rcases (show b = e ∨ b = it by simpa using hb) with z | z
    · rw [z]; exact ⟨_, he, fun v q => nomatch q⟩
    · rw [z]; exact ⟨o, ho, fun v q => by rw [hd] at q; cases q⟩
  keep := fun i h h' st k => let ⟨⟨old, he⟩, hi, hne⟩ := st; ⟨⟨old, k e (by simp) _ he⟩, hi.at fun o q => k it (by simp) o q, hne⟩
  item := by
    intro X hP hw hK hc i pins s σ H E I hf st hg
    subst hP hw hK
    obtain ⟨⟨old, he⟩, hit, hne⟩ := st
    obtain ⟨xs, x, hq, hx⟩ := hg
    obtain ⟨its, rv, p, hz⟩ := I.tuple hq
    obtain ⟨u, hu, ru⟩ := rv.get hx
    have hel : e < s.heap.objs.size := Heap.lt_size he
    have hil : it < s.heap.objs.size := by obtain ⟨_, q, _⟩ := hit; exact Heap.lt_size q
    have hilt : i < its.toArray.size := by
      have := (List.getElem?_eq_some_iff.mp hu).1
      simpa using this
    have DD := Draws.tuple (prog := X.prog) (w := X.w) (A := X.A.in1) (hh := I.ok.hd hc) it a na its.toArray
    refine wpAny_pyNext_enum_itemD DD he ⟨hit, p⟩ hilt hne (by simp [hne, nea]) fun y h' tk hy ho hst' hT hsz hk => ?_
    have ey : y = u := by
      have h2 : its.toArray[i]? = some u := by simpa using hu
      rw [h2] at hy
      exact (Option.some.inj hy).symm
    subst ey
    refine ⟨_, rfl, wpAny_letOwnedTupleGo_enum (s := { s with heap := h', toks := tk + 1 }) ho fun h'' he' sb => ?_⟩
    have hT2 : h''.get? s.heap.objs.size = some { cls := .type "tuple", data := .seq #[.int i tk, y] } := (sb.2 _ (Nat.ne_of_gt hel)).trans hT
    have new : ObjOk X.prog X.w (upd H s.heap.objs.size (.tup [.int (i : Nat), x])) h'' s.heap.objs.size (.tup [.int (i : Nat), x]) :=
      ⟨by show 2 ≤ sizeLine; decide, [.int i tk, y], .cons ⟨_, rfl⟩ (.cons ru .nil), ⟨_, hT2, rfl, _, rfl⟩⟩
    have I1 : Inv X pins σ (upd H s.heap.objs.size (.tup [.int (i : Nat), x])) { s with heap := h'', toks := tk + 1 } :=
      I.turnedNew (ch := [e, it]) (fun b ob hb q => (sb.2 b (fun z => hb (by simp [z]))).trans (hk b ob (fun z => hb (by simp [z])) (fun z => hb (by simp [z])) q)) hf (Nat.le_refl _) new
    refine ⟨.ref s.heap.objs.size, _, I1, rfl, ⟨_, x, rfl, I.hok.fresh (Nat.le_refl _), rfl, fun ys hy => by rw [I.tuple_inj hy hq]; exact hx⟩, ⟨⟨y, ?_⟩, hst'.1.at fun o q => (sb.2 it (Ne.symm hne)).trans q, hne⟩, fun b hb => ?_⟩
    · have e1 : ((i + 1 : Nat) : Int) = (i : Int) + 1 := by omega
      rw [e1]; exact he'
    · have hb' : b < s.heap.objs.size := by
        rcases (show b = e ∨ b = it by simpa using hb) with z | z
        · rw [z]; exact hel
        · rw [z]; exact hil
      rw [upd_ne (Nat.ne_of_lt hb')]
      exact (hf b hb).1
  done := by
    intro X hP hw hK hc i pins s σ H E I hf st hg
    subst hP hw hK
    obtain ⟨⟨old, he⟩, hit, hne⟩ := st
    obtain ⟨xs, hq, hx⟩ := hg
    obtain ⟨its, rv, p, hz⟩ := I.tuple hq
    obtain ⟨f0, f1, f2, f3, f4, f5⟩ := hf it (by simp)
    have hl := rv.length
    have p' : s.heap.IsTuple a its.toArray := p
    -- at the end the tuple's iterator stands at or behind its last place
    have DD : Draws X.prog X.w X.A.in1 it [it, a] i (fun _ _ => True) (fun j h => j = i ∧ h.IsTupleIter it a i ∧ h.IsTuple a its.toArray) := {
      live := fun _ _ st => let ⟨o, ho, _⟩ := st.2.1; ⟨o, ho⟩
      frame := fun _ _ _ st hk => ⟨st.1, st.2.1.at fun o e => hk it (by simp) o e, st.2.2.at fun o e => hk a (by simp) o e⟩
      item := fun j s Q E hj st hQ => absurd st.1 (Nat.ne_of_lt hj)
      done := fun s Q E st hE => wpAny_nextOf_tuple_end (A := X.A.in1) (I.ok.hd hc) st.2.1 st.2.2 (by simp; omega) hE }
    exact wpAny_pyNext_enum_endD DD he ⟨rfl, hit, p'⟩ fun h' eb => ⟨rfl, I.turned (t' := s.toks) (fun b o hb q => eb b o hb q) f0 f1 f3 f4 f5⟩
  self := fun A i s Q E st h => let ⟨⟨_, he⟩, _⟩ := st; wpAny_pyIter_enum he h
def iEnT (K : PySem.W.Frag) (ta : TA) : TI := fun σ H R => ta σ H fun vs H1 => ∃ a xs, vs = [.ref a] ∧ ((SqL K H1 a xs ∧ R (Ite K a) H1) ∨ (SqT K H1 a xs ∧ R (ItE K a) H1))
theorem pi_enT {X : Cx} {e : Expr} {ta : TA} {p pos tp : Pos} {ts : List Expr} {kk : Nat} (hg : Gl X "enumerate") (hm : X.mg "enumerate" = none) (ha : PA X [e] ta) (hs : starEach [e] X.env = [(false, eval e X.env)] := by rfl) :
    PI X (.Tuple ts kk tp) (.Call (.Name "enumerate" p) [e] [] pos) (iEnT X.K ta) := by
  refine ⟨fun pins s σ H R I h => ?_⟩
  refine Call_ (ld_blt I hg hm boot_enumerate (PyProof.Rows.callWith_type1 (thn (ha.run pos pins s σ H _ I h) fun us s1 ⟨vs, H1, I1, r1, q1⟩ => ?_) hs rfl))
  obtain ⟨a, xs, ex, hh⟩ := q1
  subst ex
  cases r1 with
  | cons r rr =>
    cases rr
    cases r
    have fin : ∀ b ∈ ([s1.heap.objs.size + 1, s1.heap.objs.size] : List Addr), FpOk X pins H1 b := fun b hb => by
      have hle : s1.heap.objs.size ≤ b := by
        rcases (show b = s1.heap.objs.size + 1 ∨ b = s1.heap.objs.size by simpa using hb) with z | z
        · rw [z]; exact Nat.le_add_right _ _
        · rw [z]; exact Nat.le_refl _
      exact I1.fpOk hle (I1.hok.fresh hle)
    rcases hh with ⟨hq, q⟩ | ⟨hq, q⟩
    · obtain ⟨its, rv, p', hz⟩ := I1.list hq
      refine call_enumerate_list p'.isList fun h' he hit hsz hk => wpAny_pyIter_enum he ?_
      have I2 : Inv X pins σ H1 { s1 with heap := h' } := I1.kept (t' := s1.toks) hk
      exact ⟨s1.heap.objs.size + 1, [s1.heap.objs.size + 1, s1.heap.objs.size], _, _, H1, rfl, I2, turn_enum a (s1.heap.objs.size + 1) s1.heap.objs.size, ⟨⟨.none, he⟩, hit, Nat.succ_ne_self _⟩, fin, q⟩
    · obtain ⟨its, rv, p', hz⟩ := I1.tuple hq
      have p2 : s1.heap.IsTuple a its.toArray := p'
      have ha : a < s1.heap.objs.size := by obtain ⟨_, z, _⟩ := id p2; exact Heap.lt_size z
      refine enT_call p2 fun h' he hit hk => wpAny_pyIter_enum he ?_
      have I2 : Inv X pins σ H1 { s1 with heap := h' } := I1.kept (t' := s1.toks) hk
      exact ⟨s1.heap.objs.size + 1, [s1.heap.objs.size + 1, s1.heap.objs.size], _, _, H1, rfl, I2, turn_enT a (s1.heap.objs.size + 1) s1.heap.objs.size (Nat.ne_of_lt ha) (Nat.ne_of_gt (Nat.lt_succ_of_lt ha)) its.toArray, ⟨⟨.none, he⟩, hit, Nat.succ_ne_self _⟩, fin, q⟩
section
variable {K : PySem.W.Frag} {a : Addr} {xs : List V}
theorem walk_enT : Walk (ItE K a) xs.length (fun H => SqT K H a xs) (YPair (fun i => some (.int (i : Nat))) (fun i => xs[i]?)) :=
  ⟨fun i H hi h => ⟨xs, xs[i], h, List.getElem?_eq_getElem hi⟩, fun H h => ⟨xs, h, Nat.le_refl _⟩, fun i H v H' hi h y => by
    obtain ⟨T, x, e1, e2, e3, e4⟩ := y
    exact ⟨T, _, x, e1, e2, e3, rfl, e4 xs h⟩⟩
end
end Mp
end
section
set_option autoImplicit false
set_option Elab.async false
set_option linter.all false
set_option maxRecDepth 100000
set_option maxHeartbeats 1000000
/-! MpRead: from the evaluator's answer of a whole to the readings of its parts. -/
namespace Mp
open PySem PySem.Spec PyProof.Rows L2
/-! ### what raises nothing -/
def NoErr {α : Type} (m : M α) : Prop := ∀ st c d st', m st ≠ .err c d st'
theorem ne_ret {α : Type} {a : α} : NoErr (ret a) := fun st c d st' h => by cases h
theorem ne_bad {α : Type} : NoErr (bad : M α) := fun st c d st' h => by cases h
theorem ne_bind {α β : Type} {m : M α} {f : α → M β} (h1 : NoErr m) (h2 : ∀ a, NoErr (f a)) : NoErr (m >>= f) := fun st c d st' h => by
  have h' : (m st).then f = .err c d st' := h
  cases e : m st with
  | ok a st1 =>
    rw [e] at h'
    exact h2 a st1 c d st' h'
  | err c1 d1 st1 => exact h1 st c1 d1 st1 e
  | bad =>
    rw [e] at h'
    cases h'
theorem ne_cont {d : D} : NoErr (cont d) := fun st c e st' h => by
  unfold cont at h
  split at h
  · split at h <;> cases h
  · cases h
theorem ne_eqG {x y : D} : NoErr (eqG x y) := ne_bind ne_cont fun x => ne_bind ne_cont fun y => by
  split
  · exact ne_ret
  · exact ne_bad
theorem ne_eqD {x y : D} : NoErr (eqD x y) := by
  rcases eqD_cases x y with ⟨a, b, rfl, rfl, e⟩ | e
  · rw [e]
    exact ne_ret
  · rw [e]
    exact ne_eqG
theorem ne_inD {x y : D} : NoErr (inD x y) := by
  unfold inD
  split
  · split
    · exact ne_ret
    · exact ne_bad
  · refine ne_bind ne_cont fun y => ?_
    split
    · split
      · exact ne_ret
      · exact ne_bad
    · split
      · exact ne_ret
      · exact ne_bad
    · exact ne_bad
theorem ne_isD {x y : D} : NoErr (isD x y) := by
  unfold isD
  repeat (first | exact ne_ret | exact ne_bad | split)
theorem ne_cmp2 {o : Cm} {x y : D} : NoErr (cmp2 o x y) := by
  cases o with
  | eq => exact ne_eqD
  | ne => exact ne_bind ne_eqD fun _ => ne_ret
  | inn => exact ne_inD
  | nin => exact ne_bind ne_inD fun _ => ne_ret
  | is => exact ne_isD
  | isn => exact ne_bind ne_isD fun _ => ne_ret
  | lt =>
    simp only [cmp2]
    repeat (first | exact ne_ret | exact ne_bad | split)
  | le =>
    simp only [cmp2]
    repeat (first | exact ne_ret | exact ne_bad | split)
  | gt =>
    simp only [cmp2]
    repeat (first | exact ne_ret | exact ne_bad | split)
  | ge =>
    simp only [cmp2]
    repeat (first | exact ne_ret | exact ne_bad | split)
section
variable {Y : Kx} {L : Sv} {W : WX} {C : Cfg} {σ : L2.St} {H : Hp} {Q : VK}
theorem tR.seq {α β : Type} {f0 : Env → M β} {f : Env → M α} {g : Env → α → M β} {k : β → Lv → Store → Hp → Prop} (hL : SvOk L) (e : ∀ ρ, f0 ρ = (f ρ >>= g ρ)) (h : tR Y L W f0 k σ H) :
    tR Y L W f (fun x m1 st1 H1 => ∃ ρ, REnv Y L m1 H1 ρ σ ∧ Post Y (fun c d H' => W c d σ H') m1 H1 (g ρ x st1) k) σ H := by
  obtain ⟨m, ρ, st, rs, re, p⟩ := h
  rw [e] at p
  exact ⟨m, ρ, st, rs, re, p.bind.imp fun a m' st' H' x rs' q => ⟨ρ, re.ext hL x, q⟩⟩
theorem s_const {d : D} {v : V} (hv : ∀ m H, RD Y m H d v) (h : tE Y L W C (.c d) σ H Q) : tC v σ H Q := by
  obtain ⟨m, ρ, st, rs, re, p⟩ := h
  have p' : Post Y (fun c d H' => W c d σ H') m H (.ok d st) (kV Y Q) := by
    simp only [ev] at p
    exact p
  exact Post.val rs p' (hv m H)
theorem s_var (hL : SvOk L) {i : Nat} (h : tE Y L W C (.v i) σ H Q) : tVar i σ H Q := by
  obtain ⟨m, ρ, st, rs, re, p⟩ := h
  simp only [ev] at p
  cases e : ρ[i]? with
  | none =>
    rw [e] at p
    exact p.elim
  | some o =>
    rw [e] at p
    cases o with
    | none => exact p.elim
    | some d =>
      have p2 : Post Y (fun c d H' => W c d σ H') m H ((if d.plain = true then ret d else bad : M D) st) (kV Y Q) := p
      by_cases hd : d.plain = true
      · rw [if_pos hd] at p2
        obtain ⟨v, h1, h2⟩ := re.at_ i d e
        rcases h2 with h2 | h2
        · exact ⟨v, h1, Post.val rs p2 h2⟩
        · rw [hL.odd h2] at hd
          cases hd
      · rw [if_neg hd] at p2
        exact p2.elim
theorem s_glob {x : Nat} {d : D} {v : V} (hx : C.glob x = some d) (hv : ∀ m H, RD Y m H d v) (h : tE Y L W C (.g x) σ H Q) : tC v σ H Q := by
  obtain ⟨m, ρ, st, rs, re, p⟩ := h
  have p' : Post Y (fun c d H' => W c d σ H') m H (.ok d st) (kV Y Q) := by
    simp only [ev, hx] at p
    exact p
  exact Post.val rs p' (hv m H)
theorem s_op (hL : SvOk L) {o : Op} {a b : E} (h : tE Y L W C (.op o a b) σ H Q) : tOp (v2 Y (op2 o)) (tE Y L W C a) (tE Y L W C b) σ H Q :=
  (tR.seq hL (g := fun ρ x => ev C b ρ >>= fun y => op2 o x y) (fun ρ => by simp only [ev]) h).imp fun x m1 st1 H1 rs ⟨ρ, re, p⟩ v hv =>
    ⟨m1, ρ, st1, rs, re, p.bind.imp fun y m2 st2 H2 x2 rs2 p2 w hw => ⟨_, m2, st2, x, y, rs2, Rp.ext x2 _ _ hv, hw, p2⟩⟩
theorem s_cmp (hL : SvOk L) {o : Cm} {a b : E} (h : tE Y L W C (.cmp o a b) σ H Q) : tOp (v2 Y (cmpD o)) (tE Y L W C a) (tE Y L W C b) σ H Q :=
  (tR.seq hL (g := fun ρ x => ev C b ρ >>= fun y => cmpD o x y) (fun ρ => by simp only [ev, cmpD]) h).imp fun x m1 st1 H1 rs ⟨ρ, re, p⟩ v hv =>
    ⟨m1, ρ, st1, rs, re, p.bind.imp fun y m2 st2 H2 x2 rs2 p2 w hw => ⟨_, m2, st2, x, y, rs2, Rp.ext x2 _ _ hv, hw, p2⟩⟩
theorem s_sub (hL : SvOk L) {a b : E} (h : tE Y L W C (.sub a b) σ H Q) : tOp (v2 Y subD) (tE Y L W C a) (tE Y L W C b) σ H Q :=
  (tR.seq hL (g := fun ρ x => ev C b ρ >>= fun y => subD x y) (fun ρ => by simp only [ev]) h).imp fun x m1 st1 H1 rs ⟨ρ, re, p⟩ v hv =>
    ⟨m1, ρ, st1, rs, re, p.bind.imp fun y m2 st2 H2 x2 rs2 p2 w hw => ⟨_, m2, st2, x, y, rs2, Rp.ext x2 _ _ hv, hw, p2⟩⟩
theorem s_neg (hL : SvOk L) {a : E} (h : tE Y L W C (.neg a) σ H Q) : tUn (rU fun i => .int (-i)) (tE Y L W C a) σ H Q :=
  (tR.seq hL (g := fun ρ x => match x with
    | .int i => ret (.int (-i))
    | _ => bad) (fun ρ => by first | (simp only [ev]; rfl) | simp only [ev]) h).imp fun x m1 st1 H1 rs ⟨ρ, re, p⟩ v hv => by
    cases x with
    | int i => exact ⟨i, hv, Post.val rs p rfl⟩
    | _ => exact p.elim
theorem s_chain (hL : SvOk L) {o o' : Cm} {a b c : E} (h : tE Y L W C (.chain o o' a b c) σ H Q) : tChain (v2 Y (cmpD o)) (v2 Y (cmpD o')) (tE Y L W C a) (tE Y L W C b) (tE Y L W C c) σ H Q := by
  refine (tR.seq hL (g := fun ρ x => ev C b ρ >>= fun y => cmp2 o x y >>= fun t => if t then (do let z ← ev C c ρ; let u ← cmp2 o' y z; ret (.bl u)) else ret (.bl false)) (fun ρ => by simp only [ev]) h).imp fun x m1 st1 H1 rs ⟨ρ, re, p⟩ v hv => ?_
  refine ⟨m1, ρ, st1, rs, re, p.bind.imp fun y m2 st2 H2 x2 rs2 p2 w hw => ?_⟩
  have hv2 := Rp.ext x2 _ _ hv
  have re2 := re.ext hL x2
  refine ⟨fun _ _ _ => False, m2, st2, x, y, rs2, hv2, hw, ?_⟩
  have p3 := p2.bind
  unfold cmpD
  have low : ∀ r : R Bool, (∀ c d st, r ≠ .err c d st) → Post Y (fun c d H' => W c d σ H') m2 H2 r (fun t m3 st3 H3 => Post Y (fun c d H' => W c d σ H') m3 H3 ((if t = true then (do let z ← ev C c ρ; let u ← cmp2 o' y z; ret (.bl u)) else ret (.bl false) : M D) st3) (kV Y Q)) →
      Post Y (fun _ _ _ => False) m2 H2 (r.then fun t => ret (D.bl t)) (kV Y fun z H3 => ∃ k, z = .bl k ∧ (if k = true then tE Y L W C c σ H3 fun w' H4 => v2 Y (cmpD o') w w' H4 Q else Q (.bl false) H3)) := fun r hr p => by
    cases r with
    | err c d st => exact absurd rfl (hr c d st)
    | bad => exact p.elim
    | ok t st3 =>
      intro m3 H3 x3 rs3 z hz
      have p4 := p m3 H3 x3 rs3
      refine ⟨t, hz, ?_⟩
      cases t with
      | false => exact Post.val rs3 p4 rfl
      | true =>
        have p5 : Post Y (fun c d H' => W c d σ H') m3 H3 ((ev C c ρ >>= fun z => cmp2 o' y z >>= fun u => ret (D.bl u)) st3) (kV Y Q) := p4
        exact ⟨m3, ρ, st3, rs3, re2.ext hL x3, p5.bind.imp fun z m4 st4 H4 x4 rs4 p6 w' hw' => ⟨_, m4, st4, y, z, rs4, Rp.ext x4 _ _ (Rp.ext x3 _ _ hw), hw', p6⟩⟩
  exact low _ (fun c d st e => ne_cmp2 _ _ _ _ e) p3
theorem s_and (hL : SvOk L) {a b : E} (h : tE Y L W C (.and a b) σ H Q) : tAndV (tE Y L W C a) (tE Y L W C b) σ H Q :=
  (tR.seq hL (g := fun ρ x => match x with
    | .bl t => if t then ev C b ρ else ret (.bl false)
    | _ => bad) (fun ρ => by first | (simp only [ev]; rfl) | simp only [ev]) h).imp fun x m1 st1 H1 rs ⟨ρ, re, p⟩ v hv => by
    cases x with
    | bl t =>
      refine ⟨t, hv, ?_⟩
      cases t with
      | false => exact Post.val rs p rfl
      | true => exact ⟨m1, ρ, st1, rs, re, p⟩
    | _ => exact p.elim
theorem s_or (hL : SvOk L) {a b : E} (h : tE Y L W C (.or a b) σ H Q) : tOrV (tE Y L W C a) (tE Y L W C b) σ H Q :=
  (tR.seq hL (g := fun ρ x => match x with
    | .bl t => if t then ret (.bl true) else ev C b ρ
    | _ => bad) (fun ρ => by first | (simp only [ev]; rfl) | simp only [ev]) h).imp fun x m1 st1 H1 rs ⟨ρ, re, p⟩ v hv => by
    cases x with
    | bl t =>
      refine ⟨t, hv, ?_⟩
      cases t with
      | true => exact Post.val rs p rfl
      | false => exact ⟨m1, ρ, st1, rs, re, p⟩
    | _ => exact p.elim
theorem s_not (hL : SvOk L) {a : E} (h : tE Y L W C (.not a) σ H Q) : tNotV (tE Y L W C a) σ H Q :=
  (tR.seq hL (g := fun ρ x => match x with
    | .bl t => ret (.bl (!t))
    | _ => bad) (fun ρ => by first | (simp only [ev]; rfl) | simp only [ev]) h).imp fun x m1 st1 H1 rs ⟨ρ, re, p⟩ v hv => by
    cases x with
    | bl t => exact ⟨t, hv, Post.val rs p rfl⟩
    | _ => exact p.elim
theorem s_ite (hL : SvOk L) {c : Te} {a b : E} (h : tE Y L W C (.ite c a b) σ H Q) : tIf (tT Y L W C c) (tE Y L W C a) (tE Y L W C b) σ H Q :=
  (tR.seq hL (g := fun ρ t => if t then ev C a ρ else ev C b ρ) (fun ρ => by simp only [ev]) h).imp fun t m1 st1 H1 rs ⟨ρ, re, p⟩ => by
    cases t with
    | true => exact ⟨m1, ρ, st1, rs, re, p⟩
    | false => exact ⟨m1, ρ, st1, rs, re, p⟩
/-! ### tests -/
theorem q_and (hL : SvOk L) {a b : Te} {Q : Bool → Hp → Prop} (h : tT Y L W C (.and a b) σ H Q) : tAnd (tT Y L W C a) (tT Y L W C b) σ H Q :=
  (tR.seq hL (g := fun ρ t => if t then tst C b ρ else ret false) (fun ρ => by simp only [tst]) h).imp fun t m1 st1 H1 rs ⟨ρ, re, p⟩ => by
    cases t with
    | true => exact ⟨m1, ρ, st1, rs, re, p⟩
    | false => exact Post.here (W := fun c d H' => W c d σ H') rs p
theorem q_or (hL : SvOk L) {a b : Te} {Q : Bool → Hp → Prop} (h : tT Y L W C (.or a b) σ H Q) : tOr (tT Y L W C a) (tT Y L W C b) σ H Q :=
  (tR.seq hL (g := fun ρ t => if t then ret true else tst C b ρ) (fun ρ => by simp only [tst]) h).imp fun t m1 st1 H1 rs ⟨ρ, re, p⟩ => by
    cases t with
    | false => exact ⟨m1, ρ, st1, rs, re, p⟩
    | true => exact Post.here (W := fun c d H' => W c d σ H') rs p
theorem q_not (hL : SvOk L) {a : Te} {Q : Bool → Hp → Prop} (h : tT Y L W C (.not a) σ H Q) : tNot (tT Y L W C a) σ H Q :=
  (tR.seq hL (g := fun ρ t => ret (!t)) (fun ρ => by simp only [tst]) h).imp fun t m1 st1 H1 rs ⟨ρ, re, p⟩ => Post.here (W := fun c d H' => W c d σ H') rs p
/-- a value in a test -/
theorem q_val {X : Cx} (hK : Y.K = X.K) (hL : SvOk L) {e : E} {Q : Bool → Hp → Prop} (h : tT Y L W C (.val e) σ H Q) : tE Y L W C e σ H fun x H' => ∃ k, TruV X.K x H' k ∧ Q k H' :=
  (tR.seq hL (g := fun ρ x => truth x) (fun ρ => by simp only [tst]) h).imp fun x m1 st1 H1 rs ⟨ρ, re, p⟩ v hv => by
    obtain ⟨x', e, p2⟩ := cont_inv rs hv p
    have p3 : Post Y (fun c d H' => W c d σ H') m1 H1 ((opt (isTrue? x') : M Bool) st1) (kB Q) := p2
    have seqs : ∀ xs p vs, v = .ref p → (SqL Y.K H1 p vs ∨ SqT Y.K H1 p vs) → RDs Y m1 H1 xs vs → Q (!xs.isEmpty) H1 → ∃ k, TruV X.K v H1 k ∧ Q k H1 := fun xs p vs ev f l q => by
      subst ev
      have el : vs.isEmpty = xs.isEmpty := by
        have := l.length
        cases xs <;> cases vs <;> simp_all
      rw [hK] at f
      refine ⟨!xs.isEmpty, ?_, q⟩
      rcases f with f | f
      · exact .inl ⟨vs, f, by rw [el]⟩
      · exact .inr (.inl ⟨vs, f, by rw [el]⟩)
    rcases cont_ok rs hv with q | ⟨q, _⟩ | ⟨i, xs, pa, vs, rfl, q, ev, h1, h2, _⟩
    · rw [q] at e; cases e
    · rw [q] at e
      cases e
      cases x with
      | bl b =>
        obtain rfl : v = _ := hv
        exact ⟨b, rfl, Post.here (W := fun c d H' => W c d σ H') rs p3⟩
      | tup xs =>
        obtain ⟨p, vs, ev, f, l⟩ := hv
        exact seqs xs p vs ev (.inr f.sq) l (Post.here (W := fun c d H' => W c d σ H') rs p3)
      | lst xs =>
        obtain ⟨p, vs, ev, f, l⟩ := hv
        exact seqs xs p vs ev (.inl f.sq) l (Post.here (W := fun c d H' => W c d σ H') rs p3)
      | _ => exact p3.elim
    · rw [q] at e
      cases e
      exact seqs xs pa vs ev (.inl (SqL.of h1)) h2 (Post.here (W := fun c d H' => W c d σ H') rs p3)
theorem q_cmp (hL : SvOk L) {o : Cm} {a b : E} {Q : Bool → Hp → Prop} (h : tT Y L W C (.cmp o a b) σ H Q) : tTest (tOp (v2 Y (cmpD o)) (tE Y L W C a) (tE Y L W C b)) σ H Q :=
  (tR.seq hL (g := fun ρ x => ev C b ρ >>= fun y => cmp2 o x y) (fun ρ => by simp only [tst]) h).imp fun x m1 st1 H1 rs ⟨ρ, re, p⟩ v hv =>
    ⟨m1, ρ, st1, rs, re, p.bind.imp fun y m2 st2 H2 x2 rs2 p2 w hw => by
      refine ⟨fun _ _ _ => False, m2, st2, x, y, rs2, Rp.ext x2 _ _ hv, hw, ?_⟩
      unfold cmpD
      show Post Y _ m2 H2 ((cmp2 o x y st2).then fun t => ret (D.bl t)) _
      have ne := @ne_cmp2 o x y st2
      revert p2
      cases e : cmp2 o x y st2 with
      | ok t st3 => exact fun p2 m3 H3 x3 rs3 z hz => ⟨t, hz, p2 m3 H3 x3 rs3⟩
      | err c d st3 => exact absurd e (ne c d st3)
      | bad => exact fun p2 => p2.elim⟩
theorem q_chain (hL : SvOk L) {o o' : Cm} {a b c : E} {Q : Bool → Hp → Prop} (h : tT Y L W C (.chain o o' a b c) σ H Q) : tTest (tChain (v2 Y (cmpD o)) (v2 Y (cmpD o')) (tE Y L W C a) (tE Y L W C b) (tE Y L W C c)) σ H Q := by
  refine (tR.seq hL (g := fun ρ x => ev C b ρ >>= fun y => cmp2 o x y >>= fun t => if t then (do let z ← ev C c ρ; cmp2 o' y z) else ret false) (fun ρ => by simp only [tst]) h).imp fun x m1 st1 H1 rs ⟨ρ, re, p⟩ v hv => ?_
  refine ⟨m1, ρ, st1, rs, re, p.bind.imp fun y m2 st2 H2 x2 rs2 p2 w hw => ?_⟩
  have hv2 := Rp.ext x2 _ _ hv
  have re2 := re.ext hL x2
  refine ⟨fun _ _ _ => False, m2, st2, x, y, rs2, hv2, hw, ?_⟩
  have p3 := p2.bind
  unfold cmpD
  show Post Y _ m2 H2 ((cmp2 o x y st2).then fun t => ret (D.bl t)) _
  have ne := @ne_cmp2 o x y st2
  revert p3
  cases e : cmp2 o x y st2 with
  | err c d st3 => exact absurd e (ne c d st3)
  | bad => exact fun p3 => p3.elim
  | ok t st3 =>
    intro p3 m3 H3 x3 rs3 z hz
    have p4 := p3 m3 H3 x3 rs3
    refine ⟨t, hz, ?_⟩
    cases t with
    | false => exact ⟨false, rfl, Post.here (W := fun c d H' => W c d σ H') (k := kB Q) rs3 p4⟩
    | true =>
      have p5 : Post Y (fun c d H' => W c d σ H') m3 H3 ((ev C c ρ >>= fun z => cmp2 o' y z) st3) (kB Q) := p4
      refine ⟨m3, ρ, st3, rs3, re2.ext hL x3, p5.bind.imp fun z m4 st4 H4 x4 rs4 p6 w' hw' => ?_⟩
      refine ⟨fun _ _ _ => False, m4, st4, y, z, rs4, Rp.ext x4 _ _ (Rp.ext x3 _ _ hw), hw', ?_⟩
      show Post Y _ m4 H4 ((cmp2 o' y z st4).then fun t => ret (D.bl t)) _
      have ne := @ne_cmp2 o' y z st4
      revert p6
      cases e : cmp2 o' y z st4 with
      | ok t st5 => exact fun p6 m5 H5 x5 rs5 u hu => ⟨t, hu, p6 m5 H5 x5 rs5⟩
      | err c d st5 => exact absurd e (ne c d st5)
      | bad => exact fun p6 => p6.elim
/-! ### rows of expressions -/
theorem a_nil {Q : List V → Hp → Prop} (h : tA Y L W C .nil σ H Q) : tNil σ H Q := by
  obtain ⟨m, ρ, st, rs, re, p⟩ := h
  have p' : Post Y (fun c d H' => W c d σ H') m H (.ok [] st) (fun ds m' _ H' => ∀ vs, RDs Y m' H' ds vs → Q vs H') := by
    simp only [evs] at p
    exact p
  exact p' m H (.refl m H) rs [] rfl
theorem a_cons (hL : SvOk L) {e : E} {r : Es} {Q : List V → Hp → Prop} (h : tA Y L W C (.cons e r) σ H Q) : tCons (tE Y L W C e) (tA Y L W C r) σ H Q :=
  (tR.seq hL (g := fun ρ x => evs C r ρ >>= fun xs => ret (x :: xs)) (fun ρ => by simp only [evs]) h).imp fun x m1 st1 H1 rs ⟨ρ, re, p⟩ v hv =>
    ⟨m1, ρ, st1, rs, re, p.bind.imp fun xs m2 st2 H2 x2 rs2 p2 vs hvs => p2 m2 H2 (.refl _ _) rs2 (v :: vs) ⟨v, vs, rfl, Rp.ext x2 _ _ hv, hvs⟩⟩
theorem items_ok {m : Lv} {st : Store} {d : D} {v : V} {β : Type} {f : List D → M β} {Z : Wx} {k : β → Lv → Store → Hp → Prop} (hv : RD Y m H d v) (p : Post Y Z m H ((items d >>= f) st) k) :
    ∃ (a : Addr) (ds : List D) (vs : List V), v = .ref a ∧ (FzT Y.K m H a vs ∨ FzL Y.K m H a vs) ∧ RDs Y m H ds vs ∧ Post Y Z m H (f ds st) k := by
  cases d with
  | tup xs =>
    obtain ⟨a, vs, e, z, r⟩ := hv
    exact ⟨a, xs, vs, e, .inl z, r, p⟩
  | lst xs =>
    obtain ⟨a, vs, e, z, r⟩ := hv
    exact ⟨a, xs, vs, e, .inr z, r, p⟩
  | _ => exact p.elim
theorem a_star (hL : SvOk L) {X : Cx} (hK : Y.K = X.K) {e : E} {r : Es} {Q : List V → Hp → Prop} (h : tA Y L W C (.star e r) σ H Q) : StX.tStar X.K (tE Y L W C e) (tA Y L W C r) σ H Q :=
  (tR.seq hL (g := fun ρ x => items x >>= fun ys => evs C r ρ >>= fun xs => ret (ys ++ xs)) (fun ρ => by simp only [evs]) h).imp fun x m1 st1 H1 rs ⟨ρ, re, p⟩ v hv => by
    obtain ⟨a, ds, vs, ev, z, rr, p2⟩ := items_ok hv p
    refine ⟨a, vs, ev, ?_, m1, ρ, st1, rs, re, p2.bind.imp fun xs m2 st2 H2 x2 rs2 p2 ws hws => p2 m2 H2 (.refl _ _) rs2 (vs ++ ws) ((RpL.ext x2 _ _ rr).append hws)⟩
    rw [← hK]
    exact z.imp FzT.sq FzL.sq
theorem lim_size {n : Nat} (h : n ≤ lim) : n ≤ sizeLine := Nat.le_trans h (by decide)
theorem s_tup (hL : SvOk L) {es : Es} (h : tE Y L W C (.tup es) σ H Q) : tTup (tA Y L W C es) σ H Q :=
  (tR.seq hL (g := fun ρ xs => if xs.length ≤ lim then ret (.tup xs) else bad) (fun ρ => by simp only [ev]) h).imp fun xs m1 st1 H1 rs ⟨ρ, re, p⟩ vs hv => by
    have p : Post Y (fun c d H' => W c d σ H') m1 H1 ((if xs.length ≤ lim then ret (D.tup xs) else bad : M D) st1) (kV Y Q) := p
    by_cases hl : xs.length ≤ lim
    · rw [if_pos hl] at p
      exact ⟨by rw [hv.length]; exact lim_size hl, fun a ha => tup_post rs p hv ha⟩
    · rw [if_neg hl] at p
      exact p.elim
theorem s_lst (hL : SvOk L) {lv : Bool} {es : Es} (h : tE Y L W C (.lst lv es) σ H Q) : tLst (tA Y L W C es) σ H Q :=
  (tR.seq hL (g := fun ρ xs => if xs.length ≤ lim then new lv xs else bad) (fun ρ => by simp only [ev]) h).imp fun xs m1 st1 H1 rs ⟨ρ, re, p⟩ vs hv => by
    have p : Post Y (fun c d H' => W c d σ H') m1 H1 ((if xs.length ≤ lim then new lv xs else bad : M D) st1) (kV Y Q) := p
    by_cases hl : xs.length ≤ lim
    · rw [if_pos hl] at p
      exact ⟨by rw [hv.length]; exact lim_size hl, fun a ha => new_post rs p hv ha⟩
    · rw [if_neg hl] at p
      exact p.elim
/-! ### parts of a slice -/
def tO (Y : Kx) (L : Sv) (W : WX) (C : Cfg) (e : Eo) : TO := fun σ H Q => tR Y L W (evo C e) (fun o _ _ H' => Q o H') σ H
theorem o_no {Q : Option Int → Hp → Prop} (h : tO Y L W C .no σ H Q) : tNoPart σ H Q := by
  obtain ⟨m, ρ, st, rs, re, p⟩ := h
  have p' : Post Y (fun c d H' => W c d σ H') m H (.ok none st) (fun o _ _ H' => Q o H') := by
    simp only [evo] at p
    exact p
  exact p' m H (.refl m H) rs
theorem o_yes (hL : SvOk L) {e : E} {Q : Option Int → Hp → Prop} (h : tO Y L W C (.yes e) σ H Q) : tPart (tE Y L W C e) σ H Q :=
  (tR.seq hL (g := fun ρ x => match x with
    | .int i => ret (some i)
    | _ => bad) (fun ρ => by first | (simp only [evo]; rfl) | simp only [evo]) h).imp fun x m1 st1 H1 rs ⟨ρ, re, p⟩ v hv => by
    cases x with
    | int i => exact ⟨i, hv, Post.here (W := fun c d H' => W c d σ H') (k := fun (o : Option Int) _ _ H' => Q o H') rs p⟩
    | _ => exact p.elim
theorem s_slc (hL : SvOk L) {lv : Bool} {a : E} {lo hi : Eo} (h : tE Y L W C (.slc lv a lo hi) σ H Q) : tSl (vS Y lv) (tE Y L W C a) (tO Y L W C lo) (tO Y L W C hi) σ H Q :=
  (tR.seq hL (g := fun ρ x => evo C lo ρ >>= fun l => evo C hi ρ >>= fun u => sliceD lv x l u) (fun ρ => by simp only [ev]) h).imp fun x m1 st1 H1 rs ⟨ρ, re, p⟩ v hv =>
    ⟨m1, ρ, st1, rs, re, p.bind.imp fun l m2 st2 H2 x2 rs2 p2 => ⟨m2, ρ, st2, rs2, re.ext hL x2, p2.bind.imp fun u m3 st3 H3 x3 rs3 p3 => ⟨_, m3, st3, x, rs3, Rp.ext (x2.trans x3) _ _ hv, p3⟩⟩⟩
/-! ### calls -/
theorem s_b (hL : SvOk L) {f : Bn} {es : Es} (h : tE Y L W C (.b f es) σ H Q) : tCB (vA Y (bn1 f)) (tA Y L W C es) σ H Q :=
  (tR.seq hL (g := fun ρ xs => bn1 f xs) (fun ρ => by simp only [ev]) h).imp fun xs m1 st1 H1 rs ⟨ρ, re, p⟩ vs hv => ⟨_, m1, st1, xs, rs, hv, p⟩
/-- what a def of the table promises -/
def spC (Y : Kx) (C : Cfg) (f : Nat) : Sp := fun vs H Q E => ∃ (m : Lv) (st : Store) (ds : List D), RS Y m st H ∧ RDs Y m H ds vs ∧ Post Y E m H (C.call f ds none st) (kV Y Q)
theorem s_call (hL : SvOk L) {f : Nat} {es : Es} (h : tE Y L W C (.call f es) σ H Q) : tA Y L W C es σ H fun vs H1 => spC Y C f vs H1 Q (WE W σ) :=
  (tR.seq hL (g := fun ρ xs => C.call f xs none) (fun ρ => by simp only [ev]) h).imp fun xs m1 st1 H1 rs ⟨ρ, re, p⟩ vs hv => ⟨m1, st1, xs, rs, hv, p⟩
theorem rpf_some {K : PySem.W.Frag} {m : Lv} {f : Sx} : ∀ {fs : List (Sx × D)} {gs : List (Str × V)} {d : D}, RpF K m H fs gs → fs.lookup f = some d → ∃ v, gs.lookup (S f) = some v ∧ Rp K m H d v
  | [], _, _, _, e => by cases e
  | g :: fs, _, d, h, e => by
    obtain ⟨v, r, rfl, a, b⟩ := h
    obtain ⟨gn, gd⟩ := g
    rw [List.lookup_cons] at e ⊢
    have q := S_beq f gn
    by_cases hfg : f = gn
    · subst hfg
      have e1 : (f == f) = true := beq_self_eq_true f
      rw [e1] at e
      cases e
      refine ⟨v, ?_, a⟩
      rw [q, decide_eq_true rfl]
    · have e1 : (f == gn) = false := beq_eq_false_iff_ne.mpr hfg
      rw [e1] at e
      obtain ⟨w, h1, h2⟩ := rpf_some b e
      refine ⟨w, ?_, h2⟩
      rw [q, decide_eq_false hfg]
      exact h1
theorem rpf_none {K : PySem.W.Frag} {m : Lv} {f : Sx} : ∀ {fs : List (Sx × D)} {gs : List (Str × V)}, RpF K m H fs gs → fs.lookup f = none → gs.lookup (S f) = none
  | [], _, h, _ => by
    obtain rfl : _ = [] := h
    rfl
  | g :: fs, _, h, e => by
    obtain ⟨v, r, rfl, a, b⟩ := h
    obtain ⟨gn, gd⟩ := g
    rw [List.lookup_cons] at e ⊢
    have q := S_beq f gn
    by_cases hfg : f = gn
    · subst hfg
      have e1 : (f == f) = true := beq_self_eq_true f
      rw [e1] at e
      cases e
    · have e1 : (f == gn) = false := beq_eq_false_iff_ne.mpr hfg
      rw [e1] at e
      rw [q, decide_eq_false hfg]
      exact rpf_none b e
theorem rpf_len {K : PySem.W.Frag} {m : Lv} : ∀ {fs : List (Sx × D)} {gs : List (Str × V)}, RpF K m H fs gs → gs.length = fs.length
  | [], _, h => by
    obtain rfl : _ = [] := h
    rfl
  | g :: fs, _, h => by
    obtain ⟨v, r, rfl, a, b⟩ := h
    rw [List.length_cons, List.length_cons, rpf_len b]
theorem rpf_put {K : PySem.W.Frag} {m : Lv} {f : Sx} {d : D} {v : V} (hv : Rp K m H d v) : ∀ {fs : List (Sx × D)} {gs : List (Str × V)}, RpF K m H fs gs → RpF K m H (putFld f d fs) (putF (S f) v gs)
  | [], _, h => by
    obtain rfl : _ = [] := h
    exact ⟨v, [], rfl, hv, rfl⟩
  | g :: fs, _, h => by
    obtain ⟨w, r, rfl, a, b⟩ := h
    obtain ⟨gn, gd⟩ := g
    unfold putFld putF
    by_cases hfg : gn = f
    · subst hfg
      have e1 : (gn == gn) = true := beq_self_eq_true gn
      rw [e1, if_pos rfl, if_pos rfl]
      exact ⟨v, r, rfl, hv, b⟩
    · have e1 : (gn == f) = false := beq_eq_false_iff_ne.mpr hfg
      rw [e1, if_neg (by simp), if_neg (fun z => hfg (S_inj z))]
      exact ⟨w, _, rfl, a, rpf_put hv b⟩
/-- an instance in the store -/
theorem ins_ok {m : Lv} {st : Store} {i c : Nat} {fs : List (Sx × D)} {v : V} (rs : RS Y m st H) (hv : RD Y m H (.obj i) v) (e : st[i]? = some (.ins c fs)) : ∃ p dx gs, v = .ref p ∧ m.l[i]? = some p ∧ H p = some (.ins (Y.cA c) dx gs) ∧ RpF Y.K m H fs gs := by
  obtain ⟨p, rfl, hp⟩ := hv
  obtain ⟨dx, gs, h1, h2⟩ := rs.at_ i p _ hp e
  exact ⟨p, dx, gs, rfl, hp, h1, h2⟩
theorem s_fld (hL : SvOk L) {X : Cx} (hK : Y.K = X.K) {o : E} {f : Sx} (ok : ∀ c, C.fld c f = true → Cls X.K (Y.cA c) ∧ NoAttr X.K (Y.cA c) (S f)) (h : tE Y L W C (.fld o f) σ H Q) : tFld X.K (tE Y L W C o) (S f) σ H Q :=
  (tR.seq hL (g := fun ρ x => match x with
    | .obj i => look i >>= fun t => match t with
      | .ins c fs => if C.fld c f = true then opt (fs.lookup f) else bad
      | _ => bad
    | _ => bad) (fun ρ => by first | (simp only [ev]; rfl) | simp only [ev]) h).imp fun x m1 st1 H1 rs ⟨ρ, re, p⟩ v hv => by
    cases x with
    | obj i =>
      have p := Post.bind p
      unfold look at p
      cases e : st1[i]? with
      | none =>
        rw [e] at p
        exact p.elim
      | some t =>
        rw [e] at p
        have p := p m1 H1 (.refl _ _) rs
        cases t with
        | ins c fs =>
          have p : Post Y (fun c d H' => W c d σ H') m1 H1 ((if C.fld c f = true then opt (fs.lookup f) else bad : M D) st1) (kV Y Q) := p
          by_cases hf : C.fld c f = true
          · rw [if_pos hf] at p
            obtain ⟨pa, dx, gs, ev, hp, h1, h2⟩ := ins_ok rs hv e
            cases el : fs.lookup f with
            | none =>
              rw [el] at p
              exact p.elim
            | some d =>
              rw [el] at p
              obtain ⟨w, l1, l2⟩ := rpf_some h2 el
              obtain ⟨c1, c2⟩ := ok c hf
              exact ⟨pa, _, dx, gs, w, ev, h1, c1, c2, l1, Post.val rs p l2⟩
          · rw [if_neg hf] at p
            exact p.elim
        | _ => exact p.elim
    | _ => exact p.elim
theorem s_meth (hL : SvOk L) {c f : Nat} {n : Sx} {o : E} {es : Es} (h : tE Y L W C (.meth c f n o es) σ H Q) :
    tE Y L W C o σ H fun x H1 => ∃ a dx fs, x = .ref a ∧ H1 a = some (.ins (Y.cA c) dx fs) ∧ fs.lookup (S n) = none ∧ tA Y L W C es σ H1 fun vs H2 => spC Y C f (x :: vs) H2 Q (WE W σ) :=
  (tR.seq hL (g := fun ρ x => match x with
    | .obj i => look i >>= fun t => match t with
      | .ins k fs => if k = c ∧ (fs.lookup n).isNone = true then (evs C es ρ >>= fun xs => C.call f (x :: xs) none) else bad
      | _ => bad
    | _ => bad) (fun ρ => by first | (simp only [ev]; rfl) | simp only [ev]) h).imp fun x m1 st1 H1 rs ⟨ρ, re, p⟩ v hv => by
    cases x with
    | obj i =>
      have p := Post.bind p
      unfold look at p
      cases e : st1[i]? with
      | none =>
        rw [e] at p
        exact p.elim
      | some t =>
        rw [e] at p
        have p := p m1 H1 (.refl _ _) rs
        cases t with
        | ins k fs =>
          have p3 : Post Y (fun c d H' => W c d σ H') m1 H1 ((if k = c ∧ (fs.lookup n).isNone = true then (evs C es ρ >>= fun xs => C.call f (.obj i :: xs) none) else bad : M D) st1) (kV Y Q) := p
          by_cases hf : k = c ∧ (fs.lookup n).isNone = true
          · rw [if_pos hf] at p3
            obtain ⟨rfl, hn⟩ := hf
            obtain ⟨pa, dx, gs, ev, hp, h1, h2⟩ := ins_ok rs hv e
            exact ⟨pa, dx, gs, ev, h1, rpf_none h2 (Option.isNone_iff_eq_none.mp hn), m1, ρ, st1, rs, re, p3.bind.imp fun xs m2 st2 H2 x2 rs2 p2 vs hvs => ⟨m2, st2, .obj i :: xs, rs2, ⟨v, vs, rfl, Rp.ext x2 _ _ hv, hvs⟩, p2⟩⟩
          · rw [if_neg hf] at p3
            exact p3.elim
        | _ => exact p.elim
    | _ => exact p.elim
theorem s_mk (hL : SvOk L) {c f : Nat} {es : Es} (h : tE Y L W C (.mk c f es) σ H Q) :
    tA Y L W C es σ H fun vs H1 => ∀ y dx, H1 y = none → H1 dx = none → dx ≠ y → spC Y C f (.ref y :: vs) (upd (upd H1 dx (.own y)) y (.ins (Y.cA c) dx [])) (fun v H2 => v = .non ∧ Q (.ref y) H2) (WE W σ) :=
  (tR.seq hL (g := fun ρ xs => push (.ins c []) >>= fun x => C.call f (x :: xs) none >>= fun r => match r with
    | .non => ret x
    | _ => bad) (fun ρ => by first | (simp only [ev]; rfl) | simp only [ev]) h).imp fun xs m1 st1 H1 rs ⟨ρ, re, p⟩ vs hv y dx hy hdx hne => by
    have p := Post.bind p
    have x1 : Ext m1 H1 m1 (upd H1 dx (.own y)) := Ext.new rs hdx
    have r1 : RS Y m1 st1 (upd H1 dx (.own y)) := RSt.fz rs hdx
    have hy1 : upd H1 dx (.own y) y = none := by rw [upd_ne hne.symm]; exact hy
    have x2 : Ext m1 (upd H1 dx (.own y)) (m1.add [y]) (upd (upd H1 dx (.own y)) y (.ins (Y.cA c) dx [])) := Ext.live r1 hy1
    have r2 : RS Y (m1.add [y]) (st1 ++ [.ins c []]) (upd (upd H1 dx (.own y)) y (.ins (Y.cA c) dx [])) := RSt.push r1 hy1 ⟨dx, [], upd_same, rfl⟩
    have p := (p (m1.add [y]) _ (x1.trans x2) r2).bind
    refine ⟨m1.add [y], st1 ++ [.ins c []], .obj st1.length :: xs, r2, ⟨.ref y, vs, rfl, ⟨y, rfl, ?_⟩, RpL.ext (x1.trans x2) _ _ hv⟩, p.imp fun r m' st' H' x rs' p v hv => ?_⟩
    · rw [← rs.len]
      simp [Lv.add]
    · cases r with
      | non =>
        refine ⟨hv, Post.val rs' p ⟨y, rfl, ?_⟩⟩
        obtain ⟨l, el⟩ := x.pre
        rw [el, List.getElem?_append_left (by simp [Lv.add, rs.len]), ← rs.len]
        simp [Lv.add]
      | _ => exact p.elim
end
end Mp
end
section
set_option autoImplicit false
set_option Elab.async false
set_option linter.all false
set_option maxRecDepth 100000
set_option maxHeartbeats 1000000
/-! MpStmt: readings of iterators, loops, statements. -/
namespace Mp
open PySem PySem.Spec PyProof.Rows L2
/-! ### iterators -/
/-- it goes through these items -/
def JW (Y : Kx) (m : Lv) (H : Hp) (J : L2.It) (ds : List D) : Prop := ∃ (G : Hp → Prop) (Z : Nat → Hp → V → Hp → Prop), Walk J ds.length G Z ∧ (∀ m' H', Tr m H m' H' → G H') ∧
  ∀ i m' H' st x H'', Tr m H m' H' → RS Y m' st H' → i < ds.length → Z i H' x H'' → (∀ b o, H' b = some o → H'' b = some o) ∧ RS Y m' st H'' ∧ ∃ d, ds[i]? = some d ∧ RD Y m' H'' d x
theorem walk_n {J : L2.It} {n k : Nat} {G : Hp → Prop} {Z : Nat → Hp → V → Hp → Prop} (w : Walk J n G Z) (h : n = k) : Walk J k G Z := h ▸ w
section
variable {Y : Kx} {m : Lv} {H : Hp} {a b : Addr} {ds es : List D} {vs ws : List V}
theorem same_keeps {m' : Lv} {H' H'' : Hp} {Y : Kx} {st : Store} (rs : RS Y m' st H') (k : ∀ b o, H' b = some o → H'' b = some o) : Ext m' H' m' H'' := .same (fun p u e _ => k p u e) fun p hp => by
  obtain ⟨u, e⟩ := rs.bd p hp
  rw [e, k p _ e]
theorem at_item (r : RDs Y m H ds vs) {m' : Lv} {H' : Hp} (x : Tr m H m' H') {i : Nat} {v : V} (e : vs[i]? = some v) : ∃ d, ds[i]? = some d ∧ RD Y m' H' d v := (RpL.tr x _ _ r).getV e
theorem jw_list (f : FzL Y.K m H a vs) (r : RDs Y m H ds vs) : JW Y m H (Itl Y.K a) ds :=
  ⟨_, _, r.length ▸ walk_list (xs := vs), fun m' H' x => (f.tr x).sq, fun i m' H' st v H'' x rs hi ⟨e, q⟩ => by
    subst e
    exact ⟨fun _ _ z => z, rs, at_item r x q⟩⟩
theorem jw_tup (f : FzT Y.K m H a vs) (r : RDs Y m H ds vs) : JW Y m H (Itt Y.K a) ds :=
  ⟨_, _, r.length ▸ walk_tup (xs := vs), fun m' H' x => (f.tr x).sq, fun i m' H' st v H'' x rs hi ⟨e, q⟩ => by
    subst e
    exact ⟨fun _ _ z => z, rs, at_item r x q⟩⟩
theorem rangeL_length (i : Int) (n : Nat) : (rangeL i n).length = n := by simp [rangeL]
theorem rangeL_get {i : Int} {n k : Nat} (h : k < n) : (rangeL i n)[k]? = some (.int (i + (k : Int))) := by simp [rangeL, h]
theorem jw_range {i : Int} {n : Nat} : JW Y m H (Itr i n) (rangeL i n) :=
  ⟨_, _, walk_n (walk_range (lo := i) (n := n)) (rangeL_length i n).symm, fun m' H' x => trivial, fun k m' H' st v H'' x rs hi ⟨e, q⟩ => by
    subst e
    rw [rangeL_length] at hi
    exact ⟨fun _ _ z => z, rs, _, rangeL_get hi, q⟩⟩
theorem jw_str {s : Sx} : JW Y m H (Its (S s)) (s.map fun c => D.str [c]) := by
  have hl : (s.map fun c => D.str [c]).length = (S s).cps.size := by simp
  refine ⟨_, _, hl ▸ walk_str (z := S s), fun m' H' x => trivial, fun k m' H' st v H'' x rs hi ⟨e, c, q, ev⟩ => ?_⟩
  subst e ev
  have q2 : s[k]? = some c := by simpa using q
  exact ⟨fun _ _ z => z, rs, .str [c], by simp [q2], rfl⟩
theorem pair_new {m' : Lv} {H' : Hp} {st : Store} (rs : RS Y m' st H') {T : Addr} (hT : H' T = none) {d e : D} {x y : V} (hd : RD Y m' H' d x) (he : RD Y m' H' e y) :
    (∀ b o, H' b = some o → (upd H' T (.tup [x, y])) b = some o) ∧ RS Y m' st (upd H' T (.tup [x, y])) ∧ RD Y m' (upd H' T (.tup [x, y])) (.tup [d, e]) (.ref T) := by
  have x1 : Ext m' H' m' (upd H' T (.tup [x, y])) := Ext.new rs hT
  exact ⟨fun b o z => by rw [upd_ne (ne_of_none z hT)]; exact z, RSt.fz rs hT, T, [x, y], rfl, .inl ⟨.inl upd_same, rs.off hT⟩, x, [y], rfl, Rp.ext x1 _ _ hd, y, [], rfl, Rp.ext x1 _ _ he, rfl⟩
theorem enum_get {ds : List D} {i : Nat} {d : D} (e : ds[i]? = some d) : (((List.range ds.length).zip ds).map fun p => D.tup [.int (p.1 : Int), p.2])[i]? = some (.tup [.int (i : Int), d]) := by
  have hi := (List.getElem?_eq_some_iff.mp e).1
  have e1 : ((List.range ds.length).zip ds)[i]? = some (i, d) := by
    rw [List.getElem?_zip_eq_some]
    exact ⟨by simp [hi], e⟩
  rw [List.getElem?_map, e1]
  rfl
theorem enum_len (ds : List D) : (((List.range ds.length).zip ds).map fun p => D.tup [.int (p.1 : Int), p.2]).length = ds.length := by simp
theorem jw_enumL (f : FzL Y.K m H a vs) (r : RDs Y m H ds vs) : JW Y m H (Ite Y.K a) (((List.range ds.length).zip ds).map fun p => D.tup [.int (p.1 : Int), p.2]) := by
  refine ⟨_, _, (enum_len ds).symm ▸ r.length ▸ walk_enum (xs := vs), fun m' H' x => (f.tr x).sq, fun i m' H' st v H'' x rs hi ⟨T, y, z, e1, e2, e3, e4, e5⟩ => ?_⟩
  subst e1 e3
  obtain ⟨d, h1, h2⟩ := at_item r x e5
  obtain rfl : y = .int (i : Int) := (Option.some.inj e4).symm
  obtain ⟨k1, k2, k3⟩ := pair_new rs e2 (d := .int (i : Int)) (x := .int (i : Int)) rfl h2
  exact ⟨k1, k2, _, enum_get h1, k3⟩
theorem jw_enumT (f : FzT Y.K m H a vs) (r : RDs Y m H ds vs) : JW Y m H (ItE Y.K a) (((List.range ds.length).zip ds).map fun p => D.tup [.int (p.1 : Int), p.2]) := by
  refine ⟨_, _, (enum_len ds).symm ▸ r.length ▸ walk_enT (xs := vs), fun m' H' x => (f.tr x).sq, fun i m' H' st v H'' x rs hi ⟨T, y, z, e1, e2, e3, e4, e5⟩ => ?_⟩
  subst e1 e3
  obtain ⟨d, h1, h2⟩ := at_item r x e5
  obtain rfl : y = .int (i : Int) := (Option.some.inj e4).symm
  obtain ⟨k1, k2, k3⟩ := pair_new rs e2 (d := .int (i : Int)) (x := .int (i : Int)) rfl h2
  exact ⟨k1, k2, _, enum_get h1, k3⟩
theorem zip_get {ds es : List D} {i : Nat} {d e : D} (h1 : ds[i]? = some d) (h2 : es[i]? = some e) : ((ds.zip es).map fun p => D.tup [p.1, p.2])[i]? = some (.tup [d, e]) := by
  have e1 : (ds.zip es)[i]? = some (d, e) := by
    rw [List.getElem?_zip_eq_some]
    exact ⟨h1, h2⟩
  rw [List.getElem?_map, e1]
  rfl
theorem zip_len (ds es : List D) : ((ds.zip es).map fun p => D.tup [p.1, p.2]).length = min ds.length es.length := by simp
theorem walk_zT {K : PySem.W.Frag} {a b : Addr} {xs ys : List V} {n : Nat} (hn : n = min xs.length ys.length) : Walk (RZ.ItzT K a b) n (fun H => SqT K H a xs ∧ SqT K H b ys) (YPair (fun i => xs[i]?) (fun i => ys[i]?)) := by
  subst hn
  refine ⟨fun i _ hi q => ?_, fun _ q => ⟨xs, ys, q.1, q.2, by omega⟩, fun i H v H' _ q y => ?_⟩
  · exact ⟨xs, ys, xs[i]'(by omega), ys[i]'(by omega), q.1, q.2, List.getElem?_eq_getElem _, List.getElem?_eq_getElem _⟩
  · obtain ⟨T, x, z, h1, h2, h3, h4, h5⟩ := y
    exact ⟨T, x, z, h1, h2, h3, h4 xs q.1, h5 ys q.2⟩
theorem jw_zipL (f : FzL Y.K m H a vs) (r : RDs Y m H ds vs) (g : FzL Y.K m H b ws) (t : RDs Y m H es ws) : JW Y m H (Itz Y.K a b) ((ds.zip es).map fun p => D.tup [p.1, p.2]) := by
  refine ⟨_, _, walk_zip (xs := vs) (ys := ws) (by rw [r.length, t.length, zip_len]), fun m' H' x => ⟨(f.tr x).sq, (g.tr x).sq⟩, fun i m' H' st v H'' x rs hi ⟨T, y, z, e1, e2, e3, e4, e5⟩ => ?_⟩
  subst e1 e3
  obtain ⟨d, h1, h2⟩ := at_item r x e4
  obtain ⟨e, h3, h4⟩ := at_item t x e5
  obtain ⟨k1, k2, k3⟩ := pair_new rs e2 h2 h4
  exact ⟨k1, k2, _, zip_get h1 h3, k3⟩
theorem jw_zipT (f : FzT Y.K m H a vs) (r : RDs Y m H ds vs) (g : FzT Y.K m H b ws) (t : RDs Y m H es ws) : JW Y m H (RZ.ItzT Y.K a b) ((ds.zip es).map fun p => D.tup [p.1, p.2]) := by
  refine ⟨_, _, walk_zT (xs := vs) (ys := ws) (by rw [r.length, t.length, zip_len]), fun m' H' x => ⟨(f.tr x).sq, (g.tr x).sq⟩, fun i m' H' st v H'' x rs hi ⟨T, y, z, e1, e2, e3, e4, e5⟩ => ?_⟩
  subst e1 e3
  obtain ⟨d, h1, h2⟩ := at_item r x e4
  obtain ⟨e, h3, h4⟩ := at_item t x e5
  obtain ⟨k1, k2, k3⟩ := pair_new rs e2 h2 h4
  exact ⟨k1, k2, _, zip_get h1 h3, k3⟩
end
/-- a row of any kind, or a text -/
def iAny (K : PySem.W.Frag) (te : TE) : TI := fun σ H R => te σ H fun x H1 => (∃ a xs, x = .ref a ∧ SqL K H1 a xs ∧ R (Itl K a) H1) ∨ (∃ a xs, x = .ref a ∧ SqT K H1 a xs ∧ R (Itt K a) H1) ∨ ∃ z, x = .str z ∧ R (Its z) H1
theorem pi_any {X : Cx} {tg e : Expr} {te : TE} (he : PE X e te) : PI X tg e (iAny X.K te) := by
  refine ⟨fun pins s σ H R I h => thn (he.run pins s σ H _ I h) fun v s1 ⟨x, H1, I1, r1, q1⟩ => ?_⟩
  have fp : ∀ b ∈ ([s1.heap.objs.size] : List Addr), FpOk X pins H1 b := fun b hb => by
    obtain rfl : b = s1.heap.objs.size := by simpa using hb
    exact I1.fpOk (Nat.le_refl _) (I1.hok.fresh (Nat.le_refl _))
  rcases q1 with ⟨a, xs, e, hq, q⟩ | ⟨a, xs, e, hq, q⟩ | ⟨z, e, q⟩
  · subst e
    cases r1
    obtain ⟨its, rv, p, hz⟩ := I1.list hq
    exact wpAny_pyIter_list p.isList ⟨s1.heap.objs.size, [s1.heap.objs.size], _, _, H1, rfl, I1.kept (t' := s1.toks) fun _ _ w => Heap.get?_push_of_some _ w, turn_list a _, ⟨_, Heap.get?_push_size _ rfl, rfl, rfl⟩, fp, q⟩
  · subst e
    cases r1
    obtain ⟨its, rv, p, hz⟩ := I1.tuple hq
    exact wpAny_pyIter_tuple (show s1.heap.IsTuple a its.toArray from p) ⟨s1.heap.objs.size, [s1.heap.objs.size], _, _, H1, rfl, I1.kept (t' := s1.toks) fun _ _ w => Heap.get?_push_of_some _ w, turn_tuple a _, ⟨_, Heap.get?_push_size _ rfl, rfl, rfl⟩, fp, q⟩
  · subst e
    obtain ⟨t, rfl⟩ := r1
    cases ha : z.cps.all (· < 128)
    · exact wpAny_pyIter_wide ha (pi_one (tk := s1.toks) I1 _ (turn_str _ z t "str_iterator" (.inr rfl)) ⟨_, Heap.get?_push_size _ rfl, rfl, rfl⟩ q)
    · exact wpAny_pyIter_ascii ha (pi_one (tk := s1.toks) I1 _ (turn_str _ z t "str_ascii_iterator" (.inl rfl)) ⟨_, Heap.get?_push_size _ rfl, rfl, rfl⟩ q)
theorem PI.imp {X : Cx} {tg e : Expr} {t t' : TI} (h : PI X tg e t) (f : ∀ σ H R, t' σ H R → t σ H R) : PI X tg e t' := ⟨fun pins s σ H R I q => h.run pins s σ H R I (f σ H R q)⟩
section
variable {Y : Kx} {L : Sv} {W : WX} {C : Cfg} {σ : L2.St} {H : Hp}
def tI (Y : Kx) (L : Sv) (W : WX) (C : Cfg) (it : It) : TI := fun σ H R => tR Y L W (evi C it) (fun ds m1 _ H1 => ∀ J, JW Y m1 H1 J ds → R J H1) σ H
variable {R : L2.It → Hp → Prop} {X : Cx}
theorem i_seq (hL : SvOk L) (hK : Y.K = X.K) {e : E} (h : tI Y L W C (.seq e) σ H R) : iAny X.K (tE Y L W C e) σ H R :=
  (tR.seq hL (g := fun ρ x => held x) (fun ρ => by simp only [evi]) h).imp fun x m1 st1 H1 rs ⟨ρ, re, p⟩ v hv => by
    rw [← hK]
    cases x with
    | lst xs =>
      obtain ⟨a, vs, ev, f, r⟩ := hv
      exact .inl ⟨a, vs, ev, f.sq, p m1 H1 (.refl _ _) rs _ (jw_list f r)⟩
    | tup xs =>
      obtain ⟨a, vs, ev, f, r⟩ := hv
      exact .inr (.inl ⟨a, vs, ev, f.sq, p m1 H1 (.refl _ _) rs _ (jw_tup f r)⟩)
    | str s => exact .inr (.inr ⟨S s, hv, p m1 H1 (.refl _ _) rs _ jw_str⟩)
    | _ => exact p.elim
theorem i_rng1 (hL : SvOk L) {a : E} (h : tI Y L W C (.rng1 a) σ H R) : iRng1 (tCons (tE Y L W C a) tNil) σ H R :=
  (tR.seq hL (g := fun ρ x => match x with
    | .int n => if -1000000 ≤ n ∧ n ≤ lim then ret (rangeL 0 n.toNat) else bad
    | _ => bad) (fun ρ => by first | (simp only [evi]; rfl) | simp only [evi]) h).imp fun x m1 st1 H1 rs ⟨ρ, re, p⟩ v hv => by
    cases x with
    | int n =>
      have p : Post Y (fun c d H' => W c d σ H') m1 H1 ((if -1000000 ≤ n ∧ n ≤ lim then ret (rangeL 0 n.toNat) else bad : M (List D)) st1) (fun ds m1 _ H1 => ∀ J, JW Y m1 H1 J ds → R J H1) := p
      by_cases hn : -1000000 ≤ n ∧ n ≤ lim
      · rw [if_pos hn] at p
        obtain rfl : v = _ := hv
        have hlim : (lim : Int) = 1000000 := rfl
        exact ⟨n, rfl, by omega, by omega, p m1 H1 (.refl _ _) rs _ jw_range⟩
      · rw [if_neg hn] at p
        exact p.elim
    | _ => exact p.elim
theorem i_rng2 (hL : SvOk L) {a b : E} (h : tI Y L W C (.rng2 a b) σ H R) : iRng2 (tCons (tE Y L W C a) (tCons (tE Y L W C b) tNil)) σ H R :=
  (tR.seq hL (g := fun ρ x => ev C b ρ >>= fun y => match x, y with
    | .int i, .int j => if (-1000000 ≤ i ∧ i ≤ lim) ∧ (-1000000 ≤ j ∧ j ≤ lim) then ret (rangeL i (j - i).toNat) else bad
    | _, _ => bad) (fun ρ => by first | (simp only [evi]; rfl) | simp only [evi]) h).imp fun x m1 st1 H1 rs ⟨ρ, re, p⟩ v hv =>
    ⟨m1, ρ, st1, rs, re, p.bind.imp fun y m2 st2 H2 x2 rs2 p w hw => by
      cases x with
      | int i =>
        cases y with
        | int j =>
          have p : Post Y (fun c d H' => W c d σ H') m2 H2 ((if (-1000000 ≤ i ∧ i ≤ lim) ∧ (-1000000 ≤ j ∧ j ≤ lim) then ret (rangeL i (j - i).toNat) else bad : M (List D)) st2) (fun ds m1 _ H1 => ∀ J, JW Y m1 H1 J ds → R J H1) := p
          by_cases hn : (-1000000 ≤ i ∧ i ≤ lim) ∧ (-1000000 ≤ j ∧ j ≤ lim)
          · rw [if_pos hn] at p
            obtain rfl : v = _ := hv
            obtain rfl : w = _ := hw
            have hlim : (lim : Int) = 1000000 := rfl
            exact ⟨i, j, rfl, ⟨by omega, by omega, by omega, by omega⟩, p m2 H2 (.refl _ _) rs2 _ jw_range⟩
          · rw [if_neg hn] at p
            exact p.elim
        | _ => exact p.elim
      | _ => exact p.elim⟩
theorem i_enum (hL : SvOk L) (hK : Y.K = X.K) {e : E} (h : tI Y L W C (.enum e) σ H R) : iEnT X.K (tCons (tE Y L W C e) tNil) σ H R :=
  (tR.seq hL (g := fun ρ x => items x >>= fun ys => ret (((List.range ys.length).zip ys).map fun p => D.tup [.int (p.1 : Int), p.2])) (fun ρ => by simp only [evi]) h).imp fun x m1 st1 H1 rs ⟨ρ, re, p⟩ v hv => by
    rw [← hK]
    cases x with
    | lst xs =>
      obtain ⟨a, vs, rfl, f, r⟩ := hv
      exact ⟨a, vs, rfl, .inl ⟨f.sq, p m1 H1 (.refl _ _) rs _ (jw_enumL f r)⟩⟩
    | tup xs =>
      obtain ⟨a, vs, rfl, f, r⟩ := hv
      exact ⟨a, vs, rfl, .inr ⟨f.sq, p m1 H1 (.refl _ _) rs _ (jw_enumT f r)⟩⟩
    | _ => exact p.elim
theorem i_zip (hL : SvOk L) (hK : Y.K = X.K) {a b : E} (h : tI Y L W C (.zip a b) σ H R) : RZ.iZipA X.K (tCons (tE Y L W C a) (tCons (tE Y L W C b) tNil)) σ H R :=
  (tR.seq hL (g := fun ρ x => ev C b ρ >>= fun y => zipD x y) (fun ρ => by simp only [evi]) h).imp fun x m1 st1 H1 rs ⟨ρ, re, p⟩ v hv =>
    ⟨m1, ρ, st1, rs, re, p.bind.imp fun y m2 st2 H2 x2 rs2 p w hw => by
      rw [← hK]
      have hv := Rp.ext x2 _ _ hv
      cases x with
      | lst xs =>
        cases y with
        | lst ys =>
          obtain ⟨a, vs, rfl, f, r⟩ := hv
          obtain ⟨b, ws, rfl, f2, r2⟩ := hw
          exact ⟨a, b, vs, ws, rfl, .inl ⟨f.sq, f2.sq, p m2 H2 (.refl _ _) rs2 _ (jw_zipL f r f2 r2)⟩⟩
        | _ => exact p.elim
      | tup xs =>
        cases y with
        | tup ys =>
          obtain ⟨a, vs, rfl, f, r⟩ := hv
          obtain ⟨b, ws, rfl, f2, r2⟩ := hw
          exact ⟨a, b, vs, ws, rfl, .inr ⟨f.sq, f2.sq, p m2 H2 (.refl _ _) rs2 _ (jw_zipT f r f2 r2)⟩⟩
        | _ => exact p.elim
      | _ => exact p.elim⟩
end
end Mp
end
section
set_option autoImplicit false
set_option Elab.async false
set_option linter.all false
set_option maxRecDepth 100000
set_option maxHeartbeats 1000000
/-! MpSt: readings of patterns, statements, comprehensions. -/
namespace Mp
open PySem PySem.Spec PyProof.Rows L2
section
variable (Y : Kx) (L : Sv) (W : WX) (C : Cfg)
def kF (U : Ends) (fl : Flow) (m : Lv) (H : Hp) : Prop := match fl with
  | .next ρ => ∀ σ, REnv Y L m H ρ σ → U.nx σ H
  | .ret d => ∀ v, RD Y m H d v → U.rt v H
  | .exc c d ρ => ∀ σ cls dx, REnv Y L m H ρ σ → XR Y m H c d cls dx → W cls dx σ H
def PostS (U : Ends) (m : Lv) (H : Hp) (r : R Flow) : Prop := match r with
  | .ok fl st => ∀ m' H', Ext m H m' H' → RS Y m' st H' → kF Y L W U fl m' H'
  | _ => False
def tF (f : Env → M Flow) : TS := fun U σ H => ∃ (m : Lv) (ρ : Env) (st : Store), RS Y m st H ∧ REnv Y L m H ρ σ ∧ PostS Y L W U m H (f ρ st)
abbrev tSt (s : St) : TS := tF Y L W (ex C s)
abbrev tSs (s : Ss) : TS := tF Y L W (exs C s)
end
section
variable {Y : Kx} {L : Sv} {W : WX} {C : Cfg} {U : Ends} {m m' : Lv} {H H' : Hp} {σ : L2.St} {ρ : Env} {st : Store} {α : Type}
theorem PostS.ext {r : R Flow} (x : Ext m H m' H') (h : PostS Y L W U m H r) : PostS Y L W U m' H' r := by
  cases r with
  | ok fl st => exact fun m2 H2 y rs => h m2 H2 (x.trans y) rs
  | err c d st => exact h
  | bad => exact h
theorem PostS.step {a : M α} {f : α → M Flow} (hL : SvOk L) (re : REnv Y L m H ρ σ) (p : PostS Y L W U m H (step ρ a f st)) : Post Y (fun c d H' => W c d σ H') m H (a st) (fun x m1 st1 H1 => PostS Y L W U m1 H1 (f x st1)) := by
  unfold Mp.step at p
  cases e : a st with
  | ok x st1 =>
    rw [e] at p
    exact fun m2 H2 y rs => PostS.ext y p
  | err c d st1 =>
    rw [e] at p
    exact fun m2 H2 cls dx x rs xr => p m2 H2 x rs σ cls dx (re.ext hL x) xr
  | bad =>
    rw [e] at p
    exact p
theorem PostS.here {fl : Flow} (rs : RS Y m st H) (p : PostS Y L W U m H (.ok fl st)) : kF Y L W U fl m H := p m H (.refl m H) rs
/-- what is wanted ahead of a rest -/
abbrev Dn (Y : Kx) (L : Sv) (W : WX) (U : Ends) (m : Lv) (H : Hp) (g : Env → M Flow) : Ends := { nx := fun σ H' => ∃ (m' : Lv) (ρ : Env) (st : Store), Ext m H m' H' ∧ RS Y m' st H' ∧ REnv Y L m' H' ρ σ ∧ PostS Y L W U m' H' (g ρ st), rt := U.rt, bk := U.bk, ct := U.ct }
theorem PostS.after {a : M Flow} {g : Env → M Flow} (p : PostS Y L W U m H ((a >>= fun f => Mp.after f g) st)) : PostS Y L W (Dn Y L W U m H g) m H (a st) := by
  have p : PostS Y L W U m H ((a st).then fun f => Mp.after f g) := p
  cases e : a st with
  | ok fl st1 =>
    rw [e] at p
    cases fl with
    | next ρ => exact fun m2 H2 x rs σ2 re => ⟨m2, ρ, st1, x, rs, re, PostS.ext x p⟩
    | ret d => exact fun m2 H2 x rs => p m2 H2 x rs
    | exc c d ρ => exact fun m2 H2 x rs => p m2 H2 x rs
  | err c d st1 =>
    rw [e] at p
    exact p
  | bad =>
    rw [e] at p
    exact p
/-- the nx of D does not touch rt -/
theorem PostS.ends {U' : Ends} {r : R Flow} (p : PostS Y L W U m H r) (h1 : ∀ σ H, U.nx σ H → U'.nx σ H) (h2 : ∀ v H, U.rt v H → U'.rt v H) : PostS Y L W U' m H r := by
  cases r with
  | ok fl st =>
    intro m2 H2 x rs
    have q := p m2 H2 x rs
    cases fl with
    | next ρ => exact fun σ re => h1 _ _ (q σ re)
    | ret d => exact fun v r => h2 _ _ (q v r)
    | exc c d ρ => exact q
  | err c d st => exact p
  | bad => exact p
/-! ### stores -/
theorem REnv.put (hL : SvOk L) (re : REnv Y L m H ρ σ) {i : Nat} (hi : i < ρ.length) {d : D} {v : V} (r : RD Y m H d v ∨ L i m H d v) : REnv Y L m H (ρ.set i (some d)) (σ.set i (some v)) := by
  refine ⟨by simp [re.len], fun j e he => ?_⟩
  by_cases hj : i = j
  · subst hj
    rw [List.getElem?_set_self hi] at he
    cases he
    exact ⟨v, by rw [List.getElem?_set_self (by rw [← re.len]; exact hi)], r⟩
  · rw [List.getElem?_set_ne hj] at he
    obtain ⟨w, h1, h2⟩ := re.at_ j e he
    exact ⟨w, by rw [List.getElem?_set_ne hj]; exact h1, h2⟩
theorem REnv.drop (re : REnv Y L m H ρ σ) (i : Nat) : REnv Y L m H (ρ.set i none) (σ.set i none) := by
  refine ⟨by simp [re.len], fun j e he => ?_⟩
  by_cases hj : i = j
  · subst hj
    by_cases hi : i < ρ.length
    · rw [List.getElem?_set_self hi] at he
      cases he
    · rw [List.getElem?_eq_none (by simpa using hi)] at he
      cases he
  · rw [List.getElem?_set_ne hj] at he
    obtain ⟨w, h1, h2⟩ := re.at_ j e he
    exact ⟨w, by rw [List.getElem?_set_ne hj]; exact h1, h2⟩
theorem REnv.wipe : ∀ (vs : List Nat), REnv Y L m H ρ σ → REnv Y L m H (wipeD ρ vs) (L2.wipe σ vs)
  | [], re => re
  | v :: vs, re => (REnv.wipe vs re).drop v
theorem wipeD_length (ρ : Env) : ∀ vs : List Nat, (wipeD ρ vs).length = ρ.length
  | [] => rfl
  | v :: vs => by unfold wipeD; rw [List.length_set, wipeD_length ρ vs]
def gT (Y : Kx) (L : Sv) (W : WX) (C : Cfg) (t : Tg) : TG := fun v σ H Q => ∃ (m : Lv) (ρ : Env) (st : Store) (d : D), RS Y m st H ∧ REnv Y L m H ρ σ ∧ RD Y m H d v ∧ Post Y (fun c d H' => W c d σ H') m H (setT C t d ρ st) (fun ρ' m' _ H' => ∀ σ', REnv Y L m' H' ρ' σ' → Q σ' H')
def gTs (Y : Kx) (L : Sv) (W : WX) (C : Cfg) (t : Tgs) : TGs := fun vs σ H Q => ∃ (m : Lv) (ρ : Env) (st : Store) (ds : List D), RS Y m st H ∧ REnv Y L m H ρ σ ∧ RDs Y m H ds vs ∧ Post Y (fun _ _ _ => False) m H (setTs C t ds ρ st) (fun ρ' m' _ H' => ∀ σ', REnv Y L m' H' ρ' σ' → Q σ' H')
theorem g_nm (hL : SvOk L) {i : Nat} {v : V} {Q : L2.St → Hp → Prop} (h : gT Y L W C (.nm i) v σ H Q) : gName i v σ H Q := by
  obtain ⟨m, ρ, st, d, rs, re, rd, p⟩ := h
  simp only [setT, setAll] at p
  by_cases hi : i < ρ.length
  · rw [if_pos hi] at p
    exact p m H (.refl _ _) rs _ (re.put hL hi (.inl rd))
  · rw [if_neg hi] at p
    exact p.elim
/-! ### statements -/
theorem t_nil (h : tSs Y L W C .nil U σ H) : tNext U σ H := by
  obtain ⟨m, ρ, st, rs, re, p⟩ := h
  simp only [exs] at p
  exact PostS.here rs p σ re
theorem t_cons {s : St} {r : Ss} (h : tSs Y L W C (.cons s r) U σ H) : tSeq (tSt Y L W C s) (tSs Y L W C r) U σ H := by
  obtain ⟨m, ρ, st, rs, re, p⟩ := h
  simp only [exs] at p
  exact ⟨m, ρ, st, rs, re, p.after.ends (fun σ' H' ⟨m', ρ', st', _, a, b, c⟩ => ⟨m', ρ', st', a, b, c⟩) fun _ _ w => w⟩
theorem t_set (hL : SvOk L) {t : Tg} {e : E} (h : tSt Y L W C (.set t e) U σ H) : tAsg (tE Y L W C e) (gT Y L W C t) U σ H := by
  obtain ⟨m, ρ, st, rs, re, p⟩ := h
  simp only [ex] at p
  exact ⟨m, ρ, st, rs, re, (p.step hL re).imp fun x m1 st1 H1 x1 rs1 q v hv => ⟨m1, ρ, st1, x, rs1, re.ext hL x1, hv, (q.step hL (re.ext hL x1)).imp fun ρ' m2 st2 H2 x2 rs2 q2 σ' re' => PostS.here rs2 q2 σ' re'⟩⟩
theorem t_expr (hL : SvOk L) {e : E} (h : tSt Y L W C (.expr e) U σ H) : tDrop (tE Y L W C e) U σ H := by
  obtain ⟨m, ρ, st, rs, re, p⟩ := h
  simp only [ex] at p
  exact ⟨m, ρ, st, rs, re, (p.step hL re).imp fun x m1 st1 H1 x1 rs1 q v hv => PostS.here rs1 q σ (re.ext hL x1)⟩
theorem t_ret (hL : SvOk L) {e : E} (h : tSt Y L W C (.ret e) U σ H) : tRet (tE Y L W C e) U σ H := by
  obtain ⟨m, ρ, st, rs, re, p⟩ := h
  simp only [ex] at p
  exact ⟨m, ρ, st, rs, re, (p.step hL re).imp fun x m1 st1 H1 x1 rs1 q v hv => PostS.here rs1 q v hv⟩
theorem t_retN (h : tSt Y L W C (.ret (.c .non)) U σ H) : tRetN U σ H := by
  obtain ⟨m, ρ, st, rs, re, p⟩ := h
  have p : PostS Y L W U m H (.ok (.ret .non) st) := by
    simp only [ex, ev] at p
    exact p
  exact PostS.here rs p .non rfl
theorem t_pass (h : tSt Y L W C .pass U σ H) : tNext U σ H := by
  obtain ⟨m, ρ, st, rs, re, p⟩ := h
  simp only [ex] at p
  exact PostS.here rs p σ re
theorem t_if (hL : SvOk L) {c : Te} {a b : Ss} (h : tSt Y L W C (.ite c a b) U σ H) : tIfS (tT Y L W C c) (tSs Y L W C a) (tSs Y L W C b) U σ H := by
  obtain ⟨m, ρ, st, rs, re, p⟩ := h
  simp only [ex] at p
  refine ⟨m, ρ, st, rs, re, (p.step hL re).imp fun t m1 st1 H1 x1 rs1 q => ?_⟩
  cases t with
  | true => exact ⟨m1, ρ, st1, rs1, re.ext hL x1, q⟩
  | false => exact ⟨m1, ρ, st1, rs1, re.ext hL x1, q⟩
theorem t_whl (hL : SvOk L) {c : Te} {b : Ss} (h : tSt Y L W C (.whl c b) U σ H) : tWhile (tT Y L W C c) (tSs Y L W C b) U σ H := by
  obtain ⟨m, ρ, st, rs, re, p⟩ := h
  simp only [ex] at p
  refine ⟨fun n σ H => tF Y L W (whileM (tst C c) (exs C b) n) U σ H, ⟨_, m, ρ, st, rs, re, p⟩, fun n σ H h => ?_⟩
  obtain ⟨m, ρ, st, rs, re, p⟩ := h
  cases n with
  | zero => exact p.elim
  | succ n =>
    simp only [whileM] at p
    refine ⟨m, ρ, st, rs, re, (p.step hL re).imp fun t m1 st1 H1 x1 rs1 q => ?_⟩
    cases t with
    | true => exact ⟨fun σ' H' => tF Y L W (whileM (tst C c) (exs C b) n) U σ' H', fun σ' H' w => ⟨n, Nat.lt_succ_self n, w⟩, m1, ρ, st1, rs1, re.ext hL x1, PostS.ends (PostS.after q) (fun σ' H' ⟨m', ρ', st', _, a, b, c⟩ => ⟨m', ρ', st', a, b, c⟩) fun _ _ w => w⟩
    | false => exact PostS.here rs1 q σ (re.ext hL x1)
/-! ### patterns -/
/-- apart from these names nothing changed -/
def SameBut (ns : List Nat) (σ σ' : L2.St) : Prop := σ'.length = σ.length ∧ ∀ j, j ∉ ns → σ'[j]? = σ[j]?
theorem sb_refl {ns : List Nat} : SameBut ns σ σ := ⟨rfl, fun _ _ => rfl⟩
theorem sb_set {ns : List Nat} {i : Nat} {v : Option V} (h : i ∈ ns) : SameBut ns σ (σ.set i v) := ⟨by simp, fun j hj => List.getElem?_set_ne fun z => hj (by rw [← z]; exact h)⟩
theorem SameBut.trans {ns : List Nat} {σ1 σ2 σ3 : L2.St} (a : SameBut ns σ1 σ2) (b : SameBut ns σ2 σ3) : SameBut ns σ1 σ3 := ⟨b.1.trans a.1, fun j hj => (b.2 j hj).trans (a.2 j hj)⟩
def gP (Y : Kx) (L : Sv) (p : Pt) : TG := fun v σ H Q => ∃ (m : Lv) (ρ ρ' : Env) (d : D), REnv Y L m H ρ σ ∧ RD Y m H d v ∧ p.put d ρ = some ρ' ∧ ∀ σ', REnv Y L m H ρ' σ' → SameBut p.names σ σ' → Q σ' H
def gPs (Y : Kx) (L : Sv) (ns is : List Nat) : TGs := fun vs σ H Q => ∃ (m : Lv) (ρ ρ' : Env) (ds : List D), REnv Y L m H ρ σ ∧ RDs Y m H ds vs ∧ setAll is ds ρ = some ρ' ∧ (∀ i ∈ is, i ∈ ns) ∧ ∀ σ', REnv Y L m H ρ' σ' → SameBut ns σ σ' → Q σ' H
theorem gp_nm (hL : SvOk L) {i : Nat} {v : V} {Q : L2.St → Hp → Prop} (h : gP Y L (.nm i) v σ H Q) : gName i v σ H Q := by
  obtain ⟨m, ρ, ρ', d, re, rd, e, q⟩ := h
  simp only [Pt.put, setAll] at e
  by_cases hi : i < ρ.length
  · rw [if_pos hi] at e
    cases e
    exact q _ (re.put hL hi (.inl rd)) (sb_set (by simp [Pt.names]))
  · rw [if_neg hi] at e
    cases e
theorem setAll_len : ∀ {is : List Nat} {ds : List D} {ρ ρ' : Env}, setAll is ds ρ = some ρ' → ds.length = is.length
  | [], [], _, _, _ => rfl
  | [], _ :: _, _, _, h => by simp [setAll] at h
  | _ :: _, [], _, _, h => by simp [setAll] at h
  | i :: is, d :: ds, ρ, ρ', h => by
    simp only [setAll] at h
    split at h
    · rw [List.length_cons, List.length_cons, setAll_len h]
    · cases h
theorem gp_tup {X : Cx} (hK : Y.K = X.K) {is : List Nat} {v : V} {Q : L2.St → Hp → Prop} (h : gP Y L (.tup is) v σ H Q) : gTup X.K is.length (gPs Y L is is) v σ H Q := by
  obtain ⟨m, ρ, ρ', d, re, rd, e, q⟩ := h
  cases d with
  | tup ds =>
    obtain ⟨a, vs, ev, f, r⟩ := rd
    have e : setAll is ds ρ = some ρ' := e
    exact ⟨a, vs, ev, hK ▸ f.sq, by rw [r.length, setAll_len e], m, ρ, ρ', ds, re, r, e, fun _ z => z, q⟩
  | _ => cases e
theorem gps_nil {ns : List Nat} {vs : List V} {Q : L2.St → Hp → Prop} (h : gPs Y L ns [] vs σ H Q) : gNil vs σ H Q := by
  obtain ⟨m, ρ, ρ', ds, re, rd, e, _, q⟩ := h
  cases ds with
  | nil =>
    cases e
    exact ⟨rd, q σ re sb_refl⟩
  | cons d ds => cases e
theorem gps_cons (hL : SvOk L) {i : Nat} {ns is : List Nat} {vs : List V} {Q : L2.St → Hp → Prop} (h : gPs Y L ns (i :: is) vs σ H Q) : gCons (gName i) (gPs Y L ns is) vs σ H Q := by
  obtain ⟨m, ρ, ρ', ds, re, rd, e, hn, q⟩ := h
  cases ds with
  | nil => cases e
  | cons d ds =>
    obtain ⟨v, r, ev, h1, h2⟩ := rd
    simp only [setAll] at e
    by_cases hi : i < ρ.length
    · rw [if_pos hi] at e
      exact ⟨v, r, ev, m, _, ρ', ds, re.put hL hi (.inl h1), h2, e, fun j hj => hn j (List.mem_cons_of_mem _ hj), fun σ' re' sb => q σ' re' ((sb_set (hn i (List.mem_cons_self ..))).trans sb)⟩
    · rw [if_neg hi] at e
      cases e
/-! ### for -/
theorem drop_item {ds : List D} {i : Nat} {d : D} (e : ds[i]? = some d) : ds.drop i = d :: ds.drop (i + 1) := by
  obtain ⟨h, e⟩ := List.getElem?_eq_some_iff.mp e
  rw [← e]
  exact List.drop_eq_getElem_cons h
theorem t_for (hL : SvOk L) {p : Pt} {it : It} {b : Ss} (h : tSt Y L W C (.loop p it b) U σ H) : tFor (tI Y L W C it) (gP Y L p) (tSs Y L W C b) U σ H := by
  obtain ⟨m, ρ, st, rs, re, q⟩ := h
  simp only [ex] at q
  refine ⟨m, ρ, st, rs, re, (q.step hL re).imp fun ds m1 st1 H1 x1 rs1 q J jw => ?_⟩
  obtain ⟨G, Z, wk, hG, hZ⟩ := jw
  refine for_it wk (fun i σ' H' => ∃ m' ρ' st', Ext m1 H1 m' H' ∧ RS Y m' st' H' ∧ REnv Y L m' H' ρ' σ' ∧ PostS Y L W U m' H' (forM p (exs C b) (ds.drop i) ρ' st')) ⟨m1, ρ, st1, .refl _ _, rs1, re.ext hL x1, q⟩ ?_ ?_ ?_
  · rintro i σ' H' hi ⟨m', ρ', st', x, _⟩
    exact hG m' H' x.toTr
  · rintro i v σ' H' H'' hi ⟨m', ρ', st', x, rs', re', q⟩ y
    obtain ⟨k, rs2, d, hd, rd⟩ := hZ i m' H' st' v H'' x.toTr rs' hi y
    have x2 : Ext m' H' m' H'' := same_keeps rs' k
    rw [drop_item hd] at q
    simp only [forM] at q
    cases e : p.put d ρ' with
    | none =>
      rw [e] at q
      exact q.elim
    | some ρ2 =>
      rw [e] at q
      exact ⟨m', ρ', ρ2, d, re'.ext hL x2, rd, e, fun σ2 re2 _ => ⟨m', ρ2, st', rs2, re2, (PostS.ext x2 q).after.ends (fun σ3 H3 ⟨m3, ρ3, st3, x3, r3, re3, q3⟩ => ⟨m3, ρ3, st3, (x.trans x2).trans x3, r3, re3, q3⟩) fun _ _ w => w⟩⟩
  · rintro σ' H' ⟨m', ρ', st', x, rs', re', q⟩
    rw [List.drop_length] at q
    exact PostS.here rs' q σ' re'
/-! ### stores into rows, fields -/
theorem Post.noerr {Z Z' : Wx} {a : M α} {k : α → Lv → Store → Hp → Prop} (p : Post Y Z m H (nox a st) k) : Post Y Z' m H (a st) k := by
  unfold nox at p
  cases e : a st with
  | ok x st1 =>
    rw [e] at p
    exact p
  | err c d st1 =>
    rw [e] at p
    exact p.elim
  | bad =>
    rw [e] at p
    exact p
theorem Post.weak {Z Z' : Wx} {r : R α} {k : α → Lv → Store → Hp → Prop} (p : Post Y Z m H r k) (h : ∀ c d H, Z c d H → Z' c d H) : Post Y Z' m H r k := by
  cases r with
  | ok x st1 => exact p
  | err c d st1 => exact fun m' H' cls dx x rs xr => h _ _ _ (p m' H' cls dx x rs xr)
  | bad => exact p
theorem bnd_st {α β : Type} {a : M α} {f : α → M β} : (a >>= f) st = (a st).then f := rfl
theorem g_sub (hL : SvOk L) {a i : E} {v : V} {Q : L2.St → Hp → Prop} (h : gT Y L W C (.sub a i) v σ H Q) : gSub (tE Y L W C a) (tE Y L W C i) rSetL v σ H Q := by
  obtain ⟨m, ρ, st, d, rs, re, rd, p⟩ := h
  simp only [setT] at p
  refine ⟨m, ρ, st, rs, re, p.bind.imp fun x m1 st1 H1 x1 rs1 p o ho => ⟨m1, ρ, st1, rs1, re.ext hL x1, p.bind.imp fun k m2 st2 H2 x2 rs2 p j hj => ?_⟩⟩
  have ho := Rp.ext x2 _ _ ho
  cases x with
  | obj n =>
    cases k with
    | int i =>
      have p := Post.bind p
      unfold look at p
      obtain ⟨pa, rfl, hpa⟩ := ho
      cases e : st2[n]? with
      | none =>
        rw [e] at p
        exact p.elim
      | some t =>
        rw [e] at p
        have p := p m2 H2 (.refl _ _) rs2
        cases t with
        | lst ys =>
          obtain ⟨vs, h1, h2⟩ := rs2.at_ n pa _ hpa e
          have p : Post Y (fun c d H' => W c d σ H') m2 H2 ((match L2.ixN ys.length i with
            | some k => (write n (.lst (ys.set k d)) >>= fun _ => ret ρ)
            | none => bad : M Env) st2) (fun ρ' m' _ H' => ∀ σ', REnv Y L m' H' ρ' σ' → Q σ' H') := p
          cases ei : L2.ixN ys.length i with
          | none =>
            rw [ei] at p
            exact p.elim
          | some k =>
            rw [ei] at p
            refine ⟨pa, vs, i, k, rfl, hj, h1, by rw [h2.length]; exact ei, ?_⟩
            have hn : n < st2.length := (List.getElem?_eq_some_iff.mp e).1
            have p : Post Y (fun c d H' => W c d σ H') m2 H2 (((if n < st2.length then R.ok () (st2.set n (.lst (ys.set k d))) else .bad : R Unit)).then fun _ => ret ρ) (fun ρ' m' _ H' => ∀ σ', REnv Y L m' H' ρ' σ' → Q σ' H') := p
            rw [if_pos hn] at p
            have xw : Ext m2 H2 m2 (upd H2 pa (.lst (vs.set k v))) := Ext.wr rs2 (List.mem_of_getElem? hpa)
            have rd2 : RD Y m2 (upd H2 pa (.lst (vs.set k v))) d v := Rp.ext xw _ _ (Rp.ext x2 _ _ (Rp.ext x1 _ _ rd))
            have rw2 : RS Y m2 (st2.set n (.lst (ys.set k d))) (upd H2 pa (.lst (vs.set k v))) := RSt.wr rs2 hpa ⟨_, upd_same, RpL.set k (RpL.ext xw _ _ h2) rd2⟩
            exact p m2 _ xw rw2 σ ((re.ext hL (x1.trans x2)).ext hL xw)
        | _ => exact p.elim
    | _ => exact p.elim
  | _ => exact p.elim
theorem g_tup {X : Cx} (hK : Y.K = X.K) {ts : Tgs} {v : V} {Q : L2.St → Hp → Prop} (h : gT Y L W C (.tup ts) v σ H Q) : gTup X.K ts.len (gTs Y L W C ts) v σ H Q := by
  obtain ⟨m, ρ, st, d, rs, re, rd, p⟩ := h
  cases d with
  | tup ds =>
    obtain ⟨a, vs, ev, f, r⟩ := rd
    have p : Post Y (fun c d H' => W c d σ H') m H ((if ds.length = ts.len then nox (setTs C ts ds ρ) else bad : M Env) st) (fun ρ' m' _ H' => ∀ σ', REnv Y L m' H' ρ' σ' → Q σ' H') := by
      simp only [setT] at p
      exact p
    by_cases hl : ds.length = ts.len
    · rw [if_pos hl] at p
      exact ⟨a, vs, ev, hK ▸ f.sq, by rw [r.length, hl], m, ρ, st, ds, rs, re, r, p.noerr⟩
    · rw [if_neg hl] at p
      exact p.elim
  | _ =>
    simp only [setT] at p
    exact p.elim
theorem gs_nil {vs : List V} {Q : L2.St → Hp → Prop} (h : gTs Y L W C .nil vs σ H Q) : gNil vs σ H Q := by
  obtain ⟨m, ρ, st, ds, rs, re, rd, p⟩ := h
  cases ds with
  | nil =>
    simp only [setTs] at p
    exact ⟨rd, p m H (.refl _ _) rs σ re⟩
  | cons d ds =>
    simp only [setTs] at p
    exact p.elim
theorem gs_cons (hL : SvOk L) {t : Tg} {r : Tgs} {vs : List V} {Q : L2.St → Hp → Prop} (h : gTs Y L W C (.cons t r) vs σ H Q) : gCons (gT Y L W C t) (gTs Y L W C r) vs σ H Q := by
  obtain ⟨m, ρ, st, ds, rs, re, rd, p⟩ := h
  cases ds with
  | nil =>
    simp only [setTs] at p
    exact p.elim
  | cons d ds =>
    obtain ⟨v, w, ev, h1, h2⟩ := rd
    simp only [setTs] at p
    exact ⟨v, w, ev, m, ρ, st, d, rs, re, h1, (p.bind.weak fun _ _ _ z => z.elim).imp fun ρ1 m1 st1 H1 x1 rs1 p σ1 re1 => ⟨m1, ρ1, st1, ds, rs1, re1, RpL.ext x1 _ _ h2, p⟩⟩
theorem t_fld (hL : SvOk L) {X : Cx} (hK : Y.K = X.K) {a e : E} {f : Sx} (ok : ∀ c, C.fld c f = true → Cls X.K (Y.cA c) ∧ NoAttr X.K (Y.cA c) (S f)) (h : tSt Y L W C (.set (.fld a f) e) U σ H) : sFld X.K (tE Y L W C a) (tE Y L W C e) (S f) U σ H := by
  obtain ⟨m, ρ, st, rs, re, p⟩ := h
  simp only [ex] at p
  refine ⟨m, ρ, st, rs, re, (p.step hL re).imp fun y m1 st1 H1 x1 rs1 q v hv => ⟨m1, ρ, st1, rs1, re.ext hL x1, ?_⟩⟩
  have q := PostS.step hL (re.ext hL x1) q
  simp only [setT] at q
  refine q.bind.imp fun x m2 st2 H2 x2 rs2 p o ho => ?_
  cases x with
  | obj n =>
    have p := Post.bind p
    unfold look at p
    cases e : st2[n]? with
    | none =>
      rw [e] at p
      exact p.elim
    | some t =>
      rw [e] at p
      have p := p m2 H2 (.refl _ _) rs2
      cases t with
      | ins c fs =>
        have p : Post Y (fun c d H' => W c d σ H') m2 H2 ((if C.fld c f = true ∧ fs.length < 100 then (write n (.ins c (putFld f y fs)) >>= fun _ => ret ρ) else bad : M Env) st2) _ := p
        by_cases hf : C.fld c f = true ∧ fs.length < 100
        · rw [if_pos hf] at p
          obtain ⟨pa, dx, gs, ev, hp, h1, h2⟩ := ins_ok rs2 ho e
          obtain ⟨c1, c2⟩ := ok c hf.1
          refine ⟨pa, _, dx, gs, ev, h1, c1, c2, by rw [rpf_len h2]; omega, ?_⟩
          have hn : n < st2.length := (List.getElem?_eq_some_iff.mp e).1
          have p : Post Y (fun c d H' => W c d σ H') m2 H2 (((if n < st2.length then R.ok () (st2.set n (.ins c (putFld f y fs))) else .bad : R Unit)).then fun _ => ret ρ) _ := p
          rw [if_pos hn] at p
          have xw : Ext m2 H2 m2 (upd H2 pa (.ins (Y.cA c) dx (putF (S f) v gs))) := Ext.wr rs2 (List.mem_of_getElem? hp)
          have rd2 : RD Y m2 (upd H2 pa (.ins (Y.cA c) dx (putF (S f) v gs))) y v := Rp.ext xw _ _ (Rp.ext x2 _ _ hv)
          have rw2 : RS Y m2 (st2.set n (.ins c (putFld f y fs))) (upd H2 pa (.ins (Y.cA c) dx (putF (S f) v gs))) := RSt.wr rs2 hp ⟨dx, _, upd_same, rpf_put rd2 (RpF.ext xw _ _ h2)⟩
          have q := p m2 _ xw rw2
          exact PostS.here rw2 q σ (((re.ext hL x1).ext hL x2).ext hL xw)
        · rw [if_neg hf] at p
          exact p.elim
      | _ => exact p.elim
  | _ => exact p.elim
/-! ### several names at once -/
theorem setTs_nm {C : Cfg} {i : Nat} {r : Tgs} {d : D} {ds : List D} : setTs C (.cons (.nm i) r) (d :: ds) ρ st = if i < ρ.length then setTs C r ds (ρ.set i (some d)) st else .bad := by
  simp only [setTs, setT, setAll]
  split <;> rfl
theorem set2 {C : Cfg} {i j : Nat} {xs : List D} : setT C (.tup (.cons (.nm i) (.cons (.nm j) .nil))) (.tup xs) ρ st = match xs with
    | [x, y] => if i < ρ.length ∧ j < ρ.length then .ok ((ρ.set i (some x)).set j (some y)) st else .bad
    | _ => .bad := by
  match xs with
  | [] => simp [setT, Tgs.len, bad]
  | [_] => simp [setT, Tgs.len, bad]
  | _ :: _ :: _ :: _ => simp [setT, Tgs.len, bad]
  | [x, y] =>
    have e : setT C (.tup (.cons (.nm i) (.cons (.nm j) .nil))) (.tup [x, y]) ρ st = nox (setTs C (.cons (.nm i) (.cons (.nm j) .nil)) [x, y] ρ) st := by
      simp only [setT]
      rfl
    rw [e]
    unfold nox
    rw [setTs_nm]
    by_cases hi : i < ρ.length
    · rw [if_pos hi, setTs_nm, List.length_set]
      by_cases hj : j < ρ.length
      · rw [if_pos hj]
        dsimp only
        rw [if_pos ⟨hi, hj⟩]
        simp only [setTs]
        rfl
      · rw [if_neg hj]
        dsimp only
        rw [if_neg fun z => hj z.2]
    · rw [if_neg hi]
      dsimp only
      rw [if_neg fun z => hi z.1]
theorem t_par (hL : SvOk L) {i j : Nat} {es : Es} (h : tSt Y L W C (.set (.tup (.cons (.nm i) (.cons (.nm j) .nil))) (.tup es)) U σ H) : tPar i j (tA Y L W C es) U σ H := by
  obtain ⟨m, ρ, st, rs, re, p⟩ := h
  simp only [ex] at p
  have p := p.step hL re
  simp only [ev] at p
  refine ⟨m, ρ, st, rs, re, p.bind.imp fun xs m1 st1 H1 x1 rs1 p vs hv => ?_⟩
  have p : Post Y (fun c d H' => W c d σ H') m1 H1 ((if xs.length ≤ lim then ret (D.tup xs) else bad : M D) st1) _ := p
  by_cases hl : xs.length ≤ lim
  · rw [if_pos hl] at p
    have p := p m1 H1 (.refl _ _) rs1
    have p := PostS.step hL (re.ext hL x1) p
    rw [set2] at p
    match xs, hv with
    | [x, y], hv =>
      obtain ⟨v, w, rfl, hx, hy⟩ := two_arg hv
      refine ⟨v, w, rfl, ?_⟩
      have re1 := re.ext hL x1
      by_cases hij : i < ρ.length ∧ j < ρ.length
      · dsimp only at p
        rw [if_pos hij] at p
        have q := p m1 H1 (.refl _ _) rs1
        exact PostS.here rs1 q _ ((re1.put hL hij.1 (.inl hx)).put hL (by simpa using hij.2) (.inl hy))
      · dsimp only at p
        rw [if_neg hij] at p
        exact p.elim
    | [], _ => exact p.elim
    | [_], _ => exact p.elim
    | _ :: _ :: _ :: r, _ => exact p.elim
  · rw [if_neg hl] at p
    exact p.elim
theorem set3 {C : Cfg} {i j l : Nat} {xs : List D} : setT C (.tup (.cons (.nm i) (.cons (.nm j) (.cons (.nm l) .nil)))) (.tup xs) ρ st = match xs with
    | [x, y, z] => if i < ρ.length ∧ j < ρ.length ∧ l < ρ.length then .ok (((ρ.set i (some x)).set j (some y)).set l (some z)) st else .bad
    | _ => .bad := by
  match xs with
  | [] => simp [setT, Tgs.len, bad]
  | [_] => simp [setT, Tgs.len, bad]
  | [_, _] => simp [setT, Tgs.len, bad]
  | _ :: _ :: _ :: _ :: _ => simp [setT, Tgs.len, bad]
  | [x, y, z] =>
    have e : setT C (.tup (.cons (.nm i) (.cons (.nm j) (.cons (.nm l) .nil)))) (.tup [x, y, z]) ρ st = nox (setTs C (.cons (.nm i) (.cons (.nm j) (.cons (.nm l) .nil))) [x, y, z] ρ) st := by
      simp only [setT]
      rfl
    rw [e]
    unfold nox
    rw [setTs_nm]
    by_cases hi : i < ρ.length
    · rw [if_pos hi, setTs_nm, List.length_set]
      by_cases hj : j < ρ.length
      · rw [if_pos hj, setTs_nm, List.length_set, List.length_set]
        by_cases hl : l < ρ.length
        · rw [if_pos hl]
          simp [hi, hj, hl, setTs, Mp.ret]
        · rw [if_neg hl]
          simp [hl]
      · rw [if_neg hj]
        simp [hj]
    · rw [if_neg hi]
      simp [hi]
theorem t_par3 (hL : SvOk L) {i j l : Nat} {es : Es} (h : tSt Y L W C (.set (.tup (.cons (.nm i) (.cons (.nm j) (.cons (.nm l) .nil)))) (.tup es)) U σ H) : tPar3 i j l (tA Y L W C es) U σ H := by
  obtain ⟨m, ρ, st, rs, re, p⟩ := h
  simp only [ex] at p
  have p := p.step hL re
  simp only [ev] at p
  refine ⟨m, ρ, st, rs, re, p.bind.imp fun xs m1 st1 H1 x1 rs1 p vs hv => ?_⟩
  have p : Post Y (fun c d H' => W c d σ H') m1 H1 ((if xs.length ≤ lim then ret (D.tup xs) else bad : M D) st1) _ := p
  by_cases hl : xs.length ≤ lim
  · rw [if_pos hl] at p
    have p := p m1 H1 (.refl _ _) rs1
    have p := PostS.step hL (re.ext hL x1) p
    rw [set3] at p
    match xs, hv with
    | [x, y, z], hv =>
      obtain ⟨v, r, rfl, hx, hv⟩ := hv
      obtain ⟨w, u, rfl, hy, hz⟩ := two_arg hv
      refine ⟨v, w, u, rfl, ?_⟩
      have re1 := re.ext hL x1
      by_cases hij : i < ρ.length ∧ j < ρ.length ∧ l < ρ.length
      · dsimp only at p
        rw [if_pos hij] at p
        have q := p m1 H1 (.refl _ _) rs1
        exact PostS.here rs1 q _ (((re1.put hL hij.1 (.inl hx)).put hL (by simpa using hij.2.1) (.inl hy)).put hL (by simpa using hij.2.2) (.inl hz))
      · dsimp only at p
        rw [if_neg hij] at p
        exact p.elim
    | [], _ => exact p.elim
    | [_], _ => exact p.elim
    | [_, _], _ => exact p.elim
    | _ :: _ :: _ :: _ :: r, _ => exact p.elim
  · rw [if_neg hl] at p
    exact p.elim
end
end Mp
end
section
set_option autoImplicit false
set_option Elab.async false
set_option linter.all false
set_option maxRecDepth 100000
set_option maxHeartbeats 1000000
/-! MpLc: readings of comprehensions. -/
namespace Mp
open PySem PySem.Spec PyProof.Rows L2
abbrev W0 : WX := fun _ _ _ _ => False
section
variable {Y : Kx} {L : Sv} {W : WX} {C : Cfg} {m m' : Lv} {H H' : Hp} {σ : L2.St} {ρ : Env} {st : Store} {Q : VK}
def tTo (Y : Kx) (L : Sv) (W : WX) (C : Cfg) (e : To) : TT := fun σ H Q => tR Y L W (tsto C e) (kB Q) σ H
theorem q_no {Q : Bool → Hp → Prop} (h : tTo Y L W C .no σ H Q) : tYes σ H Q := by
  obtain ⟨m, ρ, st, rs, re, p⟩ := h
  simp only [tsto] at p
  exact Post.here (W := fun c d H' => W c d σ H') (k := kB Q) rs p
theorem q_yes {e : Te} {Q : Bool → Hp → Prop} (h : tTo Y L W C (.yes e) σ H Q) : tT Y L W C e σ H Q := by
  obtain ⟨m, ρ, st, rs, re, p⟩ := h
  simp only [tsto] at p
  exact ⟨m, ρ, st, rs, re, p⟩
/-! ### names forgotten -/
theorem wipe_get : ∀ (vs : List Nat) (j : Nat), (L2.wipe σ vs)[j]? = if j ∈ vs then (if j < σ.length then some none else none) else σ[j]?
  | [], j => by simp [L2.wipe]
  | v :: vs, j => by
    unfold L2.wipe
    by_cases hj : v = j
    · subst hj
      rw [if_pos (List.mem_cons_self ..)]
      by_cases hl : v < σ.length
      · rw [if_pos hl, List.getElem?_set_self (by rw [wipe_length]; exact hl)]
      · rw [if_neg hl, List.getElem?_eq_none (by rw [List.length_set, wipe_length]; omega)]
    · rw [List.getElem?_set_ne hj, wipe_get vs j]
      by_cases hv : j ∈ vs
      · rw [if_pos hv, if_pos (List.mem_cons_of_mem _ hv)]
      · rw [if_neg hv, if_neg fun z => by
          rcases List.mem_cons.mp z with z | z
          · exact hj z.symm
          · exact hv z]
theorem wipe_same {ns own : List Nat} {σ' : L2.St} (sb : SameBut ns (L2.wipe σ own) σ') (h : ∀ i ∈ ns, i ∈ own) : L2.wipe σ' own = L2.wipe σ own := by
  apply List.ext_getElem?
  intro j
  have hl : σ'.length = σ.length := by rw [sb.1, wipe_length]
  rw [wipe_get, wipe_get, hl]
  by_cases hj : j ∈ own
  · rw [if_pos hj, if_pos hj]
  · rw [if_neg hj, if_neg hj, sb.2 j fun z => hj (h j z), wipe_get, if_neg hj]
theorem wipe_self {ns own : List Nat} {σ' : L2.St} (sb : SameBut ns σ σ') (h : ∀ i ∈ ns, i ∈ own) : L2.wipe σ' own = L2.wipe σ own := by
  apply List.ext_getElem?
  intro j
  rw [wipe_get, wipe_get, sb.1]
  by_cases hj : j ∈ own
  · rw [if_pos hj, if_pos hj]
  · rw [if_neg hj, if_neg hj, sb.2 j fun z => hj (h j z)]
/-! ### a row under work -/
theorem RSt.work {K : PySem.W.Frag} {cA : Nat → Addr} {T : List (Addr × Str)} (r : RSt K cA T m st H) {p : Addr} (hp : p ∈ m.b) {vs : List V} : RSt K cA T m st (upd H p (.lst vs)) := by
  obtain ⟨ws, hw⟩ := r.bd p hp
  generalize ho : HO.lst vs = o
  have t : Tr m H m (upd H p o) := ⟨⟨[], (List.append_nil m.l).symm⟩, fun q u e n _ => ⟨by rw [upd_ne fun z => n (by rw [z]; exact .inr hp)]; exact e, n⟩⟩
  refine ⟨r.len, r.nd, fun i q o' hq ho => ?_, fun q hq => ?_, r.dj, tabs_upd (.inr ⟨_, hw, rfl⟩) r.tb⟩
  · have q1 := r.at_ i q o' hq ho
    have hm : upd H p o q = H q := upd_ne fun z => r.dj p hp (z ▸ List.mem_of_getElem? hq)
    cases o' with
    | lst xs =>
      obtain ⟨vs, e, l⟩ := q1
      exact ⟨vs, hm.trans e, RpL.tr t xs vs l⟩
    | dic _ _ => exact q1.elim
    | ins c fs =>
      obtain ⟨dx, gs, e, l⟩ := q1
      exact ⟨dx, gs, hm.trans e, RpF.tr t fs gs l⟩
  · by_cases h : q = p
    · exact ⟨vs, by rw [h, upd_same, ho]⟩
    · obtain ⟨u, e⟩ := r.bd q hq
      exact ⟨u, by rw [upd_ne h]; exact e⟩
/-- it begins -/
theorem RSt.begin {K : PySem.W.Frag} {cA : Nat → Addr} {T : List (Addr × Str)} (r : RSt K cA T m st H) {p : Addr} (hp : H p = none) {vs : List V} : RSt K cA T ⟨m.l, p :: m.b⟩ st (upd H p (.lst vs)) ∧ Tr m H ⟨m.l, p :: m.b⟩ (upd H p (.lst vs)) := by
  generalize ho : HO.lst vs = o
  have hm := r.off hp
  have t : Tr m H ⟨m.l, p :: m.b⟩ (upd H p o) := ⟨⟨[], (List.append_nil m.l).symm⟩, fun q u e n _ => by
    have hq : q ≠ p := ne_of_none e hp
    refine ⟨by rw [upd_ne hq]; exact e, fun z => ?_⟩
    rcases z with z | z
    · exact n (.inl z)
    · rcases List.mem_cons.mp z with z | z
      · exact hq z
      · exact n (.inr z)⟩
  refine ⟨⟨r.len, r.nd, fun i q o' hq ho => ?_, fun q hq => ?_, fun q hq hl => ?_, tabs_upd (.inl hp) r.tb⟩, t⟩
  · have q1 := r.at_ i q o' hq ho
    have hm : upd H p o q = H q := upd_ne fun z => hm (.inl (z ▸ List.mem_of_getElem? hq))
    cases o' with
    | lst xs =>
      obtain ⟨vs, e, l⟩ := q1
      exact ⟨vs, hm.trans e, RpL.tr t xs vs l⟩
    | dic _ _ => exact q1.elim
    | ins c fs =>
      obtain ⟨dx, gs, e, l⟩ := q1
      exact ⟨dx, gs, hm.trans e, RpF.tr t fs gs l⟩
  · rcases List.mem_cons.mp hq with h | h
    · exact ⟨vs, by rw [h, upd_same, ho]⟩
    · obtain ⟨u, e⟩ := r.bd q h
      exact ⟨u, by rw [upd_ne (ne_of_none e hp)]; exact e⟩
  · rcases List.mem_cons.mp hq with h | h
    · exact hm (.inl (h ▸ hl))
    · exact r.dj q h hl
/-- it ends: told, not alive -/
theorem RSt.told {K : PySem.W.Frag} {cA : Nat → Addr} {T : List (Addr × Str)} (r : RSt K cA T m st H) {b : List Addr} (hb : ∀ p ∈ b, p ∈ m.b) : RSt K cA T ⟨m.l, b⟩ st H ∧ Tr m H ⟨m.l, b⟩ H := by
  have t : Tr m H ⟨m.l, b⟩ H := ⟨⟨[], (List.append_nil m.l).symm⟩, fun q u e n _ => ⟨e, fun z => n (z.imp id (hb q))⟩⟩
  refine ⟨⟨r.len, r.nd, fun i q o' hq ho => ?_, fun q hq => r.bd q (hb q hq), fun q hq => r.dj q (hb q hq), r.tb⟩, t⟩
  have q1 := r.at_ i q o' hq ho
  cases o' with
  | lst xs =>
    obtain ⟨vs, e, l⟩ := q1
    exact ⟨vs, e, RpL.tr t xs vs l⟩
  | dic _ _ => exact q1.elim
  | ins c fs =>
    obtain ⟨dx, gs, e, l⟩ := q1
    exact ⟨dx, gs, e, RpF.tr t fs gs l⟩
/-- it ends: alive -/
theorem RSt.adopt {K : PySem.W.Frag} {cA : Nat → Addr} {T : List (Addr × Str)} (r : RSt K cA T m st H) {p : Addr} {b : List Addr} (hp : p ∈ m.b) (hb : ∀ q ∈ b, q ∈ m.b) (hpb : p ∉ b) {ds : List D} {vs : List V} (e : H p = some (.lst vs)) (l : RpL K m H ds vs) :
    RSt K cA T ⟨m.l ++ [p], b⟩ (st ++ [.lst ds]) H ∧ Tr m H ⟨m.l ++ [p], b⟩ H := by
  have t : Tr m H ⟨m.l ++ [p], b⟩ H := ⟨⟨[p], rfl⟩, fun q u e n _ => ⟨e, fun z => by
    rcases z with z | z
    · rcases List.mem_append.mp z with z | z
      · exact n (.inl z)
      · exact n (.inr (by rw [show q = p by simpa using z]; exact hp))
    · exact n (.inr (hb q z))⟩⟩
  have hn : p ∉ m.l := r.dj p hp
  refine ⟨⟨by simp [r.len], ?_, fun i q o' hq ho => ?_, fun q hq => r.bd q (hb q hq), fun q hq hl => ?_, r.tb⟩, t⟩
  · show (m.l ++ [p]).Nodup
    rw [List.nodup_append]
    exact ⟨r.nd, by simp, fun a ha b hb => by
      rw [show b = p by simpa using hb]
      exact fun z => hn (z ▸ ha)⟩
  · have hq : (m.l ++ [p])[i]? = some q := hq
    by_cases hi : i < m.l.length
    · rw [List.getElem?_append_left hi] at hq
      rw [List.getElem?_append_left (by rw [← r.len]; exact hi)] at ho
      have q1 := r.at_ i q o' hq ho
      cases o' with
      | lst xs =>
        obtain ⟨vs, e, l⟩ := q1
        exact ⟨vs, e, RpL.tr t xs vs l⟩
      | dic _ _ => exact q1.elim
      | ins c fs =>
        obtain ⟨dx, gs, e, l⟩ := q1
        exact ⟨dx, gs, e, RpF.tr t fs gs l⟩
    · have hi2 : i = m.l.length := by
        have := (List.getElem?_eq_some_iff.mp hq).1
        simp at this
        omega
      subst hi2
      rw [List.getElem?_append_right (Nat.le_refl _)] at hq
      rw [List.getElem?_append_right (by rw [r.len]; exact Nat.le_refl _)] at ho
      have e1 : q = p := by simpa using hq.symm
      have e2 : o' = .lst ds := by simpa [r.len] using ho.symm
      rw [e1, e2]
      exact ⟨vs, e, RpL.tr t ds vs l⟩
  · rcases List.mem_append.mp hl with z | z
    · exact r.dj q (hb q hq) z
    · exact hpb ((show q = p by simpa using z) ▸ hq)
/-- the state of a row under work at D0, begun at m1, H1 -/
structure Work (Y : Kx) (m1 : Lv) (H1 : Hp) (D0 : Addr) (m : Lv) (st : Store) (H : Hp) (ds : List D) : Prop where
  b : m.b = D0 :: m1.b
  nb : D0 ∉ m1.b
  bk : ∀ p ∈ m1.b, H p = H1 p
  tr : Tr m1 H1 m H
  rs : RS Y m st H
  at_ : ∃ vs, H D0 = some (.lst vs) ∧ RDs Y m H ds vs
theorem Work.begin {m1 : Lv} {H1 : Hp} {D0 : Addr} (rs : RS Y m1 st H1) (h0 : H1 D0 = none) : Work Y m1 H1 D0 ⟨m1.l, D0 :: m1.b⟩ st (upd H1 D0 (.lst [])) [] := by
  obtain ⟨a, t⟩ := RSt.begin rs h0 (vs := [])
  exact ⟨rfl, fun z => rs.off h0 (.inr z), fun p hp => upd_ne fun z => rs.off h0 (z ▸ .inr hp), t, a, [], upd_same, rfl⟩
theorem Work.ext {m1 : Lv} {H1 : Hp} {D0 : Addr} {ds : List D} {st' : Store} (w : Work Y m1 H1 D0 m st H ds) (x : Ext m H m' H') (rs : RS Y m' st' H') : Work Y m1 H1 D0 m' st' H' ds := by
  obtain ⟨vs, e, l⟩ := w.at_
  exact ⟨x.bs.trans w.b, w.nb, fun p hp => (x.bk p (by rw [w.b]; exact List.mem_cons_of_mem _ hp)).trans (w.bk p hp), w.tr.trans x.toTr, rs, vs, (x.bk D0 (by rw [w.b]; exact List.mem_cons_self ..)).trans e, RpL.ext x _ _ l⟩
/-- one more -/
theorem Work.app {m1 : Lv} {H1 : Hp} {D0 : Addr} {ds : List D} {vs : List V} {d : D} {v : V} (w : Work Y m1 H1 D0 m st H ds) (h0 : H1 D0 = none) (e : H D0 = some (.lst vs)) (r : RD Y m H d v) : Work Y m1 H1 D0 m st (upd H D0 (.lst (vs ++ [v]))) (ds ++ [d]) := by
  obtain ⟨ws, e', l⟩ := w.at_
  have ew : vs = ws := by
    rw [e] at e'
    cases e'
    rfl
  subst ew
  have hb : D0 ∈ m.b := by rw [w.b]; exact List.mem_cons_self ..
  have t : Tr m H m (upd H D0 (.lst (vs ++ [v]))) := ⟨⟨[], (List.append_nil m.l).symm⟩, fun q u e n _ => ⟨by rw [upd_ne fun z => n (by rw [z]; exact .inr hb)]; exact e, n⟩⟩
  refine ⟨w.b, w.nb, fun p hp => ?_, ⟨w.tr.pre, fun q u e n t => ?_⟩, RSt.work w.rs hb, vs ++ [v], upd_same, RpL.append (RpL.tr t _ _ l) ⟨v, [], rfl, Rp.tr t _ _ r, rfl⟩⟩
  · by_cases hp0 : p = D0
    · exact absurd (hp0 ▸ hp) w.nb
    · rw [upd_ne hp0]
      exact w.bk p hp
  · obtain ⟨a, b⟩ := w.tr.keep q u e n t
    exact ⟨by rw [upd_ne (ne_of_none e h0)]; exact a, b⟩
/-- the end: the new row -/
theorem Work.fin {Z : Wx} {m1 : Lv} {H1 : Hp} {D0 : Addr} {ds : List D} {lv : Bool} (w : Work Y m1 H1 D0 m st H ds) (p : Post Y Z m1 H1 (new lv ds st) (kV Y Q)) : Q (.ref D0) H := by
  obtain ⟨vs, e, l⟩ := w.at_
  have hb : D0 ∈ m.b := by rw [w.b]; exact List.mem_cons_self ..
  have hs : ∀ q ∈ m1.b, q ∈ m.b := fun q hq => by rw [w.b]; exact List.mem_cons_of_mem _ hq
  cases lv with
  | false =>
    obtain ⟨r, t⟩ := RSt.told w.rs hs
    have x : Ext m1 H1 ⟨m.l, m1.b⟩ H := ⟨w.tr.trans t, rfl, w.bk⟩
    exact p _ _ x r _ ⟨D0, vs, rfl, .inl ⟨.inl e, fun z => z.elim (w.rs.dj D0 hb) w.nb⟩, RpL.tr t _ _ l⟩
  | true =>
    obtain ⟨r, t⟩ := RSt.adopt w.rs hb hs w.nb e l
    have x : Ext m1 H1 ⟨m.l ++ [D0], m1.b⟩ H := ⟨w.tr.trans t, rfl, w.bk⟩
    refine p _ _ x r _ ⟨D0, rfl, ?_⟩
    rw [← w.rs.len]
    simp
/-- what a turn gives -/
theorem bnd_inv {α β : Type} {a : M α} {f : α → M β} {k : β → Lv → Store → Hp → Prop} {Z : Wx} (h : ∀ c d s, a st ≠ .err c d s) (p : Post Y Z m H ((a >>= f) st) k) : ∃ x st', a st = .ok x st' ∧ Post Y Z m H (f x st') k := by
  have p : Post Y Z m H ((a st).then f) k := p
  cases e : a st with
  | ok x st' =>
    rw [e] at p
    exact ⟨x, st', rfl, p⟩
  | err c d s => exact absurd e (h c d s)
  | bad =>
    rw [e] at p
    exact p.elim
theorem nox_ne {α : Type} {a : M α} {c : Nat} {d : Option D} {s : Store} : nox a st ≠ .err c d s := fun h => by
  unfold nox at h
  split at h <;> cases h
theorem nox_ok {α : Type} {a : M α} {x : α} {s : Store} (h : nox a st = .ok x s) : a st = .ok x s := by
  unfold nox at h
  cases e : a st with
  | ok y s' =>
    rw [e] at h
    cases h
    rfl
  | err c d s' =>
    rw [e] at h
    cases h
  | bad =>
    rw [e] at h
    cases h
theorem then_ok {α β : Type} {a : M α} {f : α → M β} {y : β} {s : Store} (h : (a >>= f) st = .ok y s) : ∃ x s', a st = .ok x s' ∧ f x s' = .ok y s := by
  have h : (a st).then f = .ok y s := h
  cases e : a st with
  | ok x s' =>
    rw [e] at h
    exact ⟨x, s', rfl, h⟩
  | err c d s' =>
    rw [e] at h
    cases h
  | bad =>
    rw [e] at h
    cases h
theorem ok_post {α : Type} {Z : Wx} {x : α} {k : α → Lv → Store → Hp → Prop} (h : ∀ m' H', Ext m H m' H' → RS Y m' st H' → k x m' st H') {r : R α} (e : r = .ok x st) : Post Y Z m H r k := by
  rw [e]
  exact h
theorem bnd_assoc {α β γ : Type} {a : M α} {f : α → M β} {g : β → M γ} : ((a >>= f) >>= g) st = (a >>= fun x => f x >>= g) st := by
  show ((a st).then f).then g = (a st).then fun x => f x >>= g
  cases a st <;> rfl
theorem bnd_ret {α β : Type} {a : M α} {g : α → M β} : ((a >>= fun x => ret x) >>= g) st = (a >>= g) st := by
  rw [bnd_assoc]
  rfl
theorem bnd_ret1 {α β γ : Type} {a : M α} {f : α → β} {g : β → M γ} : ((a >>= fun x => ret (f x)) >>= g) st = (a >>= fun x => g (f x)) st := by
  rw [bnd_assoc]
  rfl
/-- a comprehension's turn -/
def lcF (C : Cfg) (p : Pt) (own : List Nat) (ifs : To) (e : E) (ρ : Env) (x : D) : M (Option D) := match p.put x (wipeD ρ own) with
  | some ρ' => nox (tsto C ifs ρ' >>= fun t => if t then (ev C e ρ' >>= fun y => ret (some y)) else ret none)
  | none => bad
theorem lcF_ne {p : Pt} {own : List Nat} {ifs : To} {e : E} {x : D} {c : Nat} {d : Option D} {s : Store} : lcF C p own ifs e ρ x st ≠ .err c d s := fun h => by
  unfold lcF at h
  cases ep : p.put x (wipeD ρ own) with
  | some ρ' =>
    rw [ep] at h
    exact nox_ne h
  | none =>
    rw [ep] at h
    cases h
theorem s_lc (hL : SvOk L) {lv : Bool} {own : List Nat} {p : Pt} {it : It} {ifs : To} {e : E} (hown : ∀ i ∈ p.names, i ∈ own) (h : tE Y L W C (.lc lv own p it ifs e) σ H Q) :
    tLc (tI Y L W C it) (gP Y L p) (tTo Y L W0 C ifs) (tE Y L W0 C e) own σ H Q :=
  (tR.seq hL (g := fun ρ xs => turns1 xs (lcF C p own ifs e ρ) >>= fun ys => new lv ys) (fun ρ => by simp only [ev, lcF]; rfl) h).imp fun ds m1 st1 H1 rs1 ⟨ρ, re, q⟩ J jw D0 hD0 => by
    obtain ⟨G, Z, wk, hG, hZ⟩ := jw
    have hlen : ds.length ≤ lim := by
      by_cases hl : ds.length ≤ lim
      · exact hl
      · unfold turns1 at q
        rw [if_neg hl] at q
        exact q.elim
    unfold turns1 at q
    rw [if_pos hlen] at q
    refine lc_it wk (fun i H' => ∃ m' st' done, Work Y m1 H1 D0 m' st' H' done ∧ (∀ vs, H' D0 = some (.lst vs) → vs.length ≤ i) ∧ Post Y (fun c d H' => W c d σ H') m1 H1 ((turns (lcF C p own ifs e ρ) (ds.drop i) >>= fun ys => new lv (done ++ ys)) st') (kV Y Q))
      ⟨_, st1, [], Work.begin rs1 hD0, fun vs hv => by rw [upd_same] at hv; cases hv; exact Nat.le_refl _, q⟩ ?_ ?_ ?_
    · rintro i H' hi ⟨m', st', done, w, _, _⟩
      exact hG m' H' w.tr
    · rintro i v H' H'' hi ⟨m', st', done, w, hvs, q⟩ y
      obtain ⟨k, rs2, d, hd, rd⟩ := hZ i m' H' st' v H'' w.tr w.rs hi y
      have w2 : Work Y m1 H1 D0 m' st' H'' done := w.ext (same_keeps w.rs k) rs2
      have hvs2 : ∀ vs, H'' D0 = some (.lst vs) → vs.length ≤ i := fun vs hv => by
        obtain ⟨us, e1, _⟩ := w.at_
        have := k _ _ e1
        rw [hv] at this
        cases this
        exact hvs vs e1
      rw [drop_item hd] at q
      simp only [turns] at q
      -- the turn
      have q : Post Y (fun c d H' => W c d σ H') m1 H1 ((lcF C p own ifs e ρ d >>= fun y => (turns (lcF C p own ifs e ρ) (ds.drop (i + 1)) >>= fun ys => (match y with | some d => ret (d :: ys) | none => ret ys)) >>= fun ys => new lv (done ++ ys)) st') (kV Y Q) := by
        have e : ((lcF C p own ifs e ρ d >>= fun y => turns (lcF C p own ifs e ρ) (ds.drop (i + 1)) >>= fun ys => (match y with | some d => ret (d :: ys) | none => ret ys)) >>= fun ys => new lv (done ++ ys)) st' = (lcF C p own ifs e ρ d >>= fun y => (turns (lcF C p own ifs e ρ) (ds.drop (i + 1)) >>= fun ys => (match y with | some d => ret (d :: ys) | none => ret ys)) >>= fun ys => new lv (done ++ ys)) st' := bnd_assoc
        rw [← e]
        exact q
      obtain ⟨y, st2, eF, q⟩ := bnd_inv (fun c d s => lcF_ne) q
      unfold lcF at eF
      cases ep : p.put d (wipeD ρ own) with
      | none =>
        rw [ep] at eF
        cases eF
      | some ρ' =>
        rw [ep] at eF
        obtain ⟨t, st3, eT, eE⟩ := then_ok (nox_ok eF)
        refine ⟨m', wipeD ρ own, ρ', d, (re.tr hL w2.tr).wipe own, rd, ep, fun σ2 re2 sb => ⟨wipe_same sb hown, m', ρ', st', w2.rs, re2, ok_post (fun m3 H3 x3 rs3 => ?_) eT⟩⟩
        have w3 := w2.ext x3 rs3
        cases t with
        | false =>
          cases eE
          refine ⟨m3, st2, done, w3, fun vs hv => ?_, ?_⟩
          · rw [x3.bk D0 (by rw [w2.b]; exact List.mem_cons_self ..)] at hv
            exact Nat.le_succ_of_le (hvs2 vs hv)
          · have q : Post Y (fun c d H' => W c d σ H') m1 H1 (((turns (lcF C p own ifs e ρ) (ds.drop (i + 1)) >>= fun ys => ret ys) >>= fun ys => new lv (done ++ ys)) st2) (kV Y Q) := q
            rw [bnd_ret] at q
            exact q
        | true =>
          obtain ⟨yd, st4, eY, eR⟩ := then_ok eE
          cases eR
          refine ⟨m3, ρ', st3, rs3, re2.ext hL x3, ok_post (fun m4 H4 x4 rs4 yv hy => ?_) eY⟩
          have w4 := w3.ext x4 rs4
          obtain ⟨vs, ev, _⟩ := w4.at_
          have hv2 : vs.length ≤ i := hvs2 vs (by
            rw [← ev, x4.bk D0 (by rw [w3.b]; exact List.mem_cons_self ..), x3.bk D0 (by rw [w2.b]; exact List.mem_cons_self ..)])
          refine ⟨vs, ev, Nat.lt_of_le_of_lt hv2 (Nat.lt_of_lt_of_le hi (lim_size hlen)), m4, st2, done ++ [yd], w4.app hD0 ev hy, fun us hu => ?_, ?_⟩
          · rw [upd_same] at hu
            cases hu
            simp
            omega
          · have q : Post Y (fun c d H' => W c d σ H') m1 H1 (((turns (lcF C p own ifs e ρ) (ds.drop (i + 1)) >>= fun ys => ret (yd :: ys)) >>= fun ys => new lv (done ++ ys)) st2) (kV Y Q) := q
            rw [bnd_ret1] at q
            have e : (fun ys => new lv (done ++ yd :: ys)) = fun ys => new lv ((done ++ [yd]) ++ ys) := by
              funext ys
              rw [List.append_assoc]
              rfl
            rw [e] at q
            exact q
    · rintro H' ⟨m', st', done, w, _, q⟩
      rw [List.drop_length] at q
      have q : Post Y (fun c d H' => W c d σ H') m1 H1 (new lv (done ++ []) st') (kV Y Q) := q
      rw [List.append_nil] at q
      exact w.fin q
/-! ### two sources -/
theorem tr_app {D0 : Addr} (hb : D0 ∈ m.b) {vs : List V} : Tr m H m (upd H D0 (.lst vs)) := ⟨⟨[], (List.append_nil m.l).symm⟩, fun q u e n _ => ⟨by rw [upd_ne fun z => n (by rw [z]; exact .inr hb)]; exact e, n⟩⟩
def lc1F (C : Cfg) (p1 : Pt) (ifs1 : To) (e : E) (ρ : Env) (x : D) : M (Option D) := match p1.put x (wipeD ρ p1.names) with
  | some ρ2 => tsto C ifs1 ρ2 >>= fun t => if t then (ev C e ρ2 >>= fun y => ret (some y)) else ret none
  | none => bad
def lc2F (C : Cfg) (p : Pt) (own : List Nat) (ifs : To) (p1 : Pt) (it1 : It) (ifs1 : To) (e : E) (ρ : Env) (x : D) : M (List D) := match p.put x (wipeD ρ own) with
  | some ρ' => nox (tsto C ifs ρ' >>= fun t => if t then (evi C it1 ρ' >>= fun xs => turns (lc1F C p1 ifs1 e ρ') xs) else ret [])
  | none => bad
theorem lc2F_ne {p : Pt} {own : List Nat} {ifs : To} {p1 : Pt} {it1 : It} {ifs1 : To} {e : E} {x : D} {c : Nat} {d : Option D} {s : Store} : lc2F C p own ifs p1 it1 ifs1 e ρ x st ≠ .err c d s := fun h => by
  unfold lc2F at h
  cases ep : p.put x (wipeD ρ own) with
  | some ρ' =>
    rw [ep] at h
    exact nox_ne h
  | none =>
    rw [ep] at h
    cases h
theorem turns2_ne {F : D → M (List D)} (h : ∀ x (st : Store) c d s, F x st ≠ .err c d s) : ∀ (xs : List D) (st : Store) (c : Nat) (d : Option D) (s : Store), turns2 F xs st ≠ .err c d s
  | [], st, c, d, s, z => by cases z
  | x :: r, st, c, d, s, z => by
    have z : ((F x st).then fun y => turns2 F r >>= fun ys => ret (y ++ ys)) = .err c d s := z
    cases e : F x st with
    | ok y s1 =>
      rw [e] at z
      have z : ((turns2 F r s1).then fun ys => ret (y ++ ys)) = .err c d s := z
      cases e2 : turns2 F r s1 with
      | ok ys s2 =>
        rw [e2] at z
        cases z
      | err _ _ _ => exact turns2_ne h r _ _ _ _ e2
      | bad =>
        rw [e2] at z
        cases z
    | err _ _ _ => exact h _ _ _ _ _ e
    | bad =>
      rw [e] at z
      cases z
theorem turns2_cons {F : D → M (List D)} {x : D} {r ys : List D} {s : Store} (h : turns2 F (x :: r) st = .ok ys s) : ∃ y s1 zs, F x st = .ok y s1 ∧ turns2 F r s1 = .ok zs s ∧ ys = y ++ zs := by
  obtain ⟨y, s1, e1, e2⟩ := then_ok (a := F x) (f := fun y => turns2 F r >>= fun ys => ret (y ++ ys)) h
  obtain ⟨zs, s2, e3, e4⟩ := then_ok e2
  cases e4
  exact ⟨y, s1, zs, e1, e3, rfl⟩
theorem turns_cons {F : D → M (Option D)} {x : D} {r ys : List D} {s : Store} (h : turns F (x :: r) st = .ok ys s) : ∃ y s1 zs, F x st = .ok y s1 ∧ turns F r s1 = .ok zs s ∧ ys = y.toList ++ zs := by
  obtain ⟨y, s1, e1, e2⟩ := then_ok (a := F x) (f := fun y => turns F r >>= fun ys => match y with | some d => ret (d :: ys) | none => ret ys) h
  obtain ⟨zs, s2, e3, e4⟩ := then_ok e2
  cases y <;> (cases e4; exact ⟨_, s1, _, e1, e3, rfl⟩)
/-- the second source's loop -/
theorem lc_in {J : L2.It} {n : Nat} {G : Hp → Prop} {Z : Nat → Hp → V → Hp → Prop} (w : Walk J n G Z) {P : Hp → Prop} {B : (Hp → Prop) → V → Hp → Prop} {H1 : Hp} (Pv : Nat → Hp → Prop) (h0 : Pv 0 H1) (hG : ∀ i H, i ≤ n → Pv i H → G H)
    (hs : ∀ i x H H', i < n → Pv i H → Z i H x H' → B (Pv (i + 1)) x H') (hd : ∀ H, Pv n H → P H) :
    ∃ W : Nat → Nat → Hp → Prop, (∃ m, W 0 m H1) ∧ ∀ i m H, W i m H → (J.stop i H ∧ P H) ∨ (J.go i H ∧ ∃ Nx : Hp → Prop, (∀ H', Nx H' → ∃ m', m' < m ∧ W (i + 1) m' H') ∧ ∀ x H', J.yld i H x H' → B Nx x H') := by
  refine ⟨fun i m H => m = n - i ∧ i ≤ n ∧ Pv i H, ⟨n, by simp, Nat.zero_le _, h0⟩, ?_⟩
  rintro i m H ⟨rfl, hi, p⟩
  have q := hG i H hi p
  by_cases hlt : i < n
  · exact .inr ⟨w.goes i H hlt q, Pv (i + 1), fun H' p' => ⟨n - (i + 1), by omega, rfl, hlt, p'⟩, fun x H' y => hs i x H H' hlt p (w.yields i H x H' hlt q y)⟩
  · have e : i = n := by omega
    subst e
    exact .inl ⟨w.stops H q, hd H p⟩
theorem s_lc2 (hL : SvOk L) {lv : Bool} {own : List Nat} {p : Pt} {it : It} {ifs : To} {p1 : Pt} {it1 : It} {ifs1 : To} {e : E} (hown : ∀ i ∈ p.names, i ∈ own) (h : tE Y L W C (.lc2 lv own p it ifs p1 it1 ifs1 e) σ H Q) :
    tLc2 (tI Y L W C it) (gP Y L p) (tTo Y L W0 C ifs) (tI Y L W0 C it1) (gP Y L p1) (tTo Y L W0 C ifs1) (tE Y L W0 C e) own p1.names σ H Q :=
  (tR.seq hL (g := fun ρ xs => turns2 (lc2F C p own ifs p1 it1 ifs1 e ρ) xs >>= fun ys => if ys.length ≤ lim then new lv ys else bad) (fun ρ => by simp only [ev, lc2F, lc1F]; rfl) h).imp fun ds m1 st1 H1 rs1 ⟨ρ, re, q⟩ J jw D0 hD0 => by
    obtain ⟨G, Z, wk, hG, hZ⟩ := jw
    obtain ⟨all, st2, eA, q⟩ := bnd_inv (fun c d s => turns2_ne (fun x st c d s => lc2F_ne) ds st1 c d s) q
    have hlen : all.length ≤ lim := by
      by_cases hl : all.length ≤ lim
      · exact hl
      · rw [if_neg hl] at q
        exact q.elim
    rw [if_pos hlen] at q
    refine lc_in wk (fun i H' => ∃ m' st' done ys, Work Y m1 H1 D0 m' st' H' done ∧ turns2 (lc2F C p own ifs p1 it1 ifs1 e ρ) (ds.drop i) st' = .ok ys st2 ∧ done ++ ys = all)
      ⟨_, st1, [], all, Work.begin rs1 hD0, eA, rfl⟩ ?_ ?_ ?_
    · rintro i H' hi ⟨m', st', done, ys, w, _, _⟩
      exact hG m' H' w.tr
    · rintro i v H' H'' hi ⟨m', st', done, ys, w, eY, eAll⟩ y
      obtain ⟨k, rs2, d, hd, rd⟩ := hZ i m' H' st' v H'' w.tr w.rs hi y
      have w2 : Work Y m1 H1 D0 m' st' H'' done := w.ext (same_keeps w.rs k) rs2
      rw [drop_item hd] at eY
      obtain ⟨y1, st3, zs, eF, eZ, rfl⟩ := turns2_cons eY
      unfold lc2F at eF
      cases ep : p.put d (wipeD ρ own) with
      | none =>
        rw [ep] at eF
        cases eF
      | some ρ' =>
        rw [ep] at eF
        obtain ⟨t, st4, eT, eE⟩ := then_ok (nox_ok eF)
        refine ⟨m', wipeD ρ own, ρ', d, (re.tr hL w2.tr).wipe own, rd, ep, fun σ2 re2 sb => ⟨wipe_same sb hown, m', ρ', st', w2.rs, re2, ok_post (fun m3 H3 x3 rs3 => ?_) eT⟩⟩
        have w3 := w2.ext x3 rs3
        have re3 := re2.ext hL x3
        cases t with
        | false =>
          cases eE
          exact ⟨m3, _, done, zs, w3, eZ, eAll⟩
        | true =>
          obtain ⟨xs1, st5, eI, eL⟩ := then_ok eE
          refine ⟨m3, ρ', st4, rs3, re3, ok_post (fun m4 H4 x4 rs4 J1 jw1 => ?_) eI⟩
          obtain ⟨G1, Z1, wk1, hG1, hZ1⟩ := jw1
          have w4 := w3.ext x4 rs4
          have re4 := re3.ext hL x4
          refine lc_in wk1 (fun j H5 => ∃ m5 st6 done5 ys5, Work Y m1 H1 D0 m5 st6 H5 done5 ∧ Tr m4 H4 m5 H5 ∧ turns (lc1F C p1 ifs1 e ρ') (xs1.drop j) st6 = .ok ys5 st3 ∧ done5 ++ ys5 = done ++ y1)
            (B := fun N x H' => gP Y L p1 x (L2.wipe σ2 p1.names) H' fun σ3 H5 => L2.wipe σ3 p1.names = L2.wipe σ2 p1.names ∧ tTo Y L W0 C ifs1 σ3 H5 fun b H6 => if b = true then tE Y L W0 C e σ3 H6 fun y H7 => ∃ acc, H7 D0 = some (.lst acc) ∧ acc.length < sizeLine ∧ N (upd H7 D0 (.lst (acc ++ [y]))) else N H6)
            ⟨m4, st5, done, y1, w4, .refl _ _, eL, rfl⟩ ?_ ?_ ?_
          · rintro j H5 hj ⟨m5, st6, done5, ys5, w5, t5, _, _⟩
            exact hG1 m5 H5 t5
          · rintro j v1 H5 H6 hj ⟨m5, st6, done5, ys5, w5, t5, e5, a5⟩ y5
            obtain ⟨k1, rs6, d1, hd1, rd1⟩ := hZ1 j m5 H5 st6 v1 H6 t5 w5.rs hj y5
            have x6 := same_keeps w5.rs k1
            have w6 : Work Y m1 H1 D0 m5 st6 H6 done5 := w5.ext x6 rs6
            have t6 := t5.trans x6.toTr
            rw [drop_item hd1] at e5
            obtain ⟨o, st7, ws, e7, e8, rfl⟩ := turns_cons e5
            unfold lc1F at e7
            cases ep1 : p1.put d1 (wipeD ρ' p1.names) with
            | none =>
              rw [ep1] at e7
              cases e7
            | some ρ2 =>
              rw [ep1] at e7
              obtain ⟨t7, st8, eT7, eE7⟩ := then_ok e7
              refine ⟨m5, wipeD ρ' p1.names, ρ2, d1, (re4.tr hL t6).wipe p1.names, rd1, ep1, fun σ3 re7 sb7 => ⟨wipe_same sb7 fun _ z => z, m5, ρ2, st6, w6.rs, re7, ok_post (fun m8 H8 x8 rs8 => ?_) eT7⟩⟩
              have w8 := w6.ext x8 rs8
              have t8 := t6.trans x8.toTr
              cases t7 with
              | false =>
                cases eE7
                exact ⟨m8, _, done5, ws, w8, t8, e8, a5⟩
              | true =>
                obtain ⟨yd, st9, eY9, eR⟩ := then_ok eE7
                cases eR
                refine ⟨m8, ρ2, st8, rs8, re7.ext hL x8, ok_post (fun m9 H9 x9 rs9 yv hy => ?_) eY9⟩
                have w9 := w8.ext x9 rs9
                obtain ⟨vs, ev, l9⟩ := w9.at_
                have hb9 : D0 ∈ m9.b := by rw [w9.b]; exact List.mem_cons_self ..
                have hv : vs.length < sizeLine := by
                  have e1 : vs.length = done5.length := l9.length
                  have e2 := congrArg List.length a5
                  have e3 := congrArg List.length eAll
                  have := lim_size hlen
                  simp at e2 e3
                  omega
                refine ⟨vs, ev, hv, m9, _, done5 ++ [yd], ws, w9.app hD0 ev hy, (t8.trans x9.toTr).trans (tr_app hb9), e8, ?_⟩
                rw [← a5, List.append_assoc]
                rfl
          · rintro H5 ⟨m5, st6, done5, ys5, w5, t5, e5, a5⟩
            rw [List.drop_length] at e5
            have e5 : R.ok [] st6 = R.ok ys5 st3 := e5
            cases e5
            rw [List.append_nil] at a5
            subst a5
            refine ⟨m5, _, _, zs, w5, eZ, ?_⟩
            rw [← eAll, List.append_assoc]
    · rintro H' ⟨m', st', done, ys, w, eY, eAll⟩
      rw [List.drop_length] at eY
      have eY : R.ok [] st' = R.ok ys st2 := eY
      cases eY
      rw [List.append_nil] at eAll
      subst eAll
      exact w.fin q
end
end Mp
end
section
set_option autoImplicit false
set_option Elab.async false
set_option linter.all false
set_option maxRecDepth 100000
set_option maxHeartbeats 4000000
/-! MpLive: walks of lists that are alive. -/
namespace Mp
open PySem PySem.Spec PyProof.Rows L2
section
variable {Y : Kx} {L : Sv} {W : WX} {C : Cfg} {U : Ends} {m m' : Lv} {H H' : Hp} {σ : L2.St} {ρ : Env} {st : Store} {Q : VK} {X : Cx}
/-- the list as it stands -/
theorem live_at {i : Nat} {p : Addr} (rs : RS Y m st H) (h : m.l[i]? = some p) {ys : List D} (e : st[i]? = some (.lst ys)) : ∃ vs, H p = some (.lst vs) ∧ RDs Y m H ys vs := rs.at_ i p _ h e
theorem ext_live {i : Nat} {p : Addr} (x : Ext m H m' H') (h : m.l[i]? = some p) : m'.l[i]? = some p := by
  obtain ⟨l, el⟩ := x.pre
  rw [el, List.getElem?_append_left (List.getElem?_eq_some_iff.mp h).1]
  exact h
theorem tr_live {i : Nat} {p : Addr} (x : Tr m H m' H') (h : m.l[i]? = some p) : m'.l[i]? = some p := by
  obtain ⟨l, el⟩ := x.pre
  rw [el, List.getElem?_append_left (List.getElem?_eq_some_iff.mp h).1]
  exact h
theorem for_jw (hL : SvOk L) {p : Pt} {b : Ss} {ds : List D} {m1 : Lv} {st1 : Store} {H1 : Hp} {J : L2.It} (rs1 : RS Y m1 st1 H1) (re1 : REnv Y L m1 H1 ρ σ) (jw : JW Y m1 H1 J ds) (q : PostS Y L W U m1 H1 (forM p (exs C b) ds ρ st1)) :
    ∃ W' : Nat → Nat → L2.St → Hp → Prop, (∃ m, W' 0 m σ H1) ∧ ∀ i m σ H, W' i m σ H → (J.stop i H ∧ U.nx σ H) ∨ (J.go i H ∧ ∃ N : L2.St → Hp → Prop, (∀ σ' H', N σ' H' → ∃ m', m' < m ∧ W' (i + 1) m' σ' H') ∧ ∀ x H', J.yld i H x H' → gP Y L p x σ H' fun σ2 H2 => tSs Y L W C b { U with nx := N, ct := N, bk := U.nx } σ2 H2) := by
  obtain ⟨G, Z, wk, hG, hZ⟩ := jw
  refine for_it wk (fun i σ' H' => ∃ m' ρ' st', Ext m1 H1 m' H' ∧ RS Y m' st' H' ∧ REnv Y L m' H' ρ' σ' ∧ PostS Y L W U m' H' (forM p (exs C b) (ds.drop i) ρ' st')) ⟨m1, ρ, st1, .refl _ _, rs1, re1, q⟩ ?_ ?_ ?_
  · rintro i σ' H' hi ⟨m', ρ', st', x, _⟩
    exact hG m' H' x.toTr
  · rintro i v σ' H' H'' hi ⟨m', ρ', st', x, rs', re', q⟩ y
    obtain ⟨k, rs2, d, hd, rd⟩ := hZ i m' H' st' v H'' x.toTr rs' hi y
    have x2 : Ext m' H' m' H'' := same_keeps rs' k
    rw [drop_item hd] at q
    simp only [forM] at q
    cases e : p.put d ρ' with
    | none =>
      rw [e] at q
      exact q.elim
    | some ρ2 =>
      rw [e] at q
      exact ⟨m', ρ', ρ2, d, re'.ext hL x2, rd, e, fun σ2 re2 _ => ⟨m', ρ2, st', rs2, re2, (PostS.ext x2 q).after.ends (fun σ3 H3 ⟨m3, ρ3, st3, x3, r3, re3, q3⟩ => ⟨m3, ρ3, st3, (x.trans x2).trans x3, r3, re3, q3⟩) fun _ _ w => w⟩⟩
  · rintro σ' H' ⟨m', ρ', st', x, rs', re', q⟩
    rw [List.drop_length] at q
    exact PostS.here rs' q σ' re'
theorem lc_jw (hL : SvOk L) {lv : Bool} {own : List Nat} {p : Pt} {ifs : To} {e : E} (hown : ∀ i ∈ p.names, i ∈ own) {ds : List D} {m1 : Lv} {st1 : Store} {H1 : Hp} {J : L2.It} {D0 : Addr} (rs1 : RS Y m1 st1 H1) (re : REnv Y L m1 H1 ρ σ) (jw : JW Y m1 H1 J ds) (hD0 : H1 D0 = none) (q : Post Y (fun c d H' => W c d σ H') m1 H1 ((turns1 ds (lcF C p own ifs e ρ) >>= fun ys => new lv ys) st1) (kV Y Q)) :
    ∃ W' : Nat → Nat → Hp → Prop, (∃ m, W' 0 m (upd H1 D0 (.lst []))) ∧ ∀ i m H, W' i m H → (J.stop i H ∧ Q (.ref D0) H) ∨ (J.go i H ∧ ∃ Nx : Hp → Prop, (∀ H', Nx H' → ∃ m', m' < m ∧ W' (i + 1) m' H') ∧ ∀ x H', J.yld i H x H' → gP Y L p x (wipe σ own) H' fun σ2 H2 => wipe σ2 own = wipe σ own ∧ tTo Y L W0 C ifs σ2 H2 fun b H3 =>
      if b = true then tE Y L W0 C e σ2 H3 fun y H4 => ∃ acc, H4 D0 = some (.lst acc) ∧ acc.length < sizeLine ∧ Nx (upd H4 D0 (.lst (acc ++ [y]))) else Nx H3) := by
  obtain ⟨G, Z, wk, hG, hZ⟩ := jw
  have hlen : ds.length ≤ lim := by
    by_cases hl : ds.length ≤ lim
    · exact hl
    · unfold turns1 at q
      rw [if_neg hl] at q
      exact q.elim
  unfold turns1 at q
  rw [if_pos hlen] at q
  refine lc_it wk (fun i H' => ∃ m' st' done, Work Y m1 H1 D0 m' st' H' done ∧ (∀ vs, H' D0 = some (.lst vs) → vs.length ≤ i) ∧ Post Y (fun c d H' => W c d σ H') m1 H1 ((turns (lcF C p own ifs e ρ) (ds.drop i) >>= fun ys => new lv (done ++ ys)) st') (kV Y Q))
    ⟨_, st1, [], Work.begin rs1 hD0, fun vs hv => by rw [upd_same] at hv; cases hv; exact Nat.le_refl _, q⟩ ?_ ?_ ?_
  · rintro i H' hi ⟨m', st', done, w, _, _⟩
    exact hG m' H' w.tr
  · rintro i v H' H'' hi ⟨m', st', done, w, hvs, q⟩ y
    obtain ⟨k, rs2, d, hd, rd⟩ := hZ i m' H' st' v H'' w.tr w.rs hi y
    have w2 : Work Y m1 H1 D0 m' st' H'' done := w.ext (same_keeps w.rs k) rs2
    have hvs2 : ∀ vs, H'' D0 = some (.lst vs) → vs.length ≤ i := fun vs hv => by
      obtain ⟨us, e1, _⟩ := w.at_
      have := k _ _ e1
      rw [hv] at this
      cases this
      exact hvs vs e1
    rw [drop_item hd] at q
    simp only [turns] at q
    -- the turn
    have q : Post Y (fun c d H' => W c d σ H') m1 H1 ((lcF C p own ifs e ρ d >>= fun y => (turns (lcF C p own ifs e ρ) (ds.drop (i + 1)) >>= fun ys => (match y with | some d => ret (d :: ys) | none => ret ys)) >>= fun ys => new lv (done ++ ys)) st') (kV Y Q) := by
      have e : ((lcF C p own ifs e ρ d >>= fun y => turns (lcF C p own ifs e ρ) (ds.drop (i + 1)) >>= fun ys => (match y with | some d => ret (d :: ys) | none => ret ys)) >>= fun ys => new lv (done ++ ys)) st' = (lcF C p own ifs e ρ d >>= fun y => (turns (lcF C p own ifs e ρ) (ds.drop (i + 1)) >>= fun ys => (match y with | some d => ret (d :: ys) | none => ret ys)) >>= fun ys => new lv (done ++ ys)) st' := bnd_assoc
      rw [← e]
      exact q
    obtain ⟨y, st2, eF, q⟩ := bnd_inv (fun c d s => lcF_ne) q
    unfold lcF at eF
    cases ep : p.put d (wipeD ρ own) with
    | none =>
      rw [ep] at eF
      cases eF
    | some ρ' =>
      rw [ep] at eF
      obtain ⟨t, st3, eT, eE⟩ := then_ok (nox_ok eF)
      refine ⟨m', wipeD ρ own, ρ', d, (re.tr hL w2.tr).wipe own, rd, ep, fun σ2 re2 sb => ⟨wipe_same sb hown, m', ρ', st', w2.rs, re2, ok_post (fun m3 H3 x3 rs3 => ?_) eT⟩⟩
      have w3 := w2.ext x3 rs3
      cases t with
      | false =>
        cases eE
        refine ⟨m3, st2, done, w3, fun vs hv => ?_, ?_⟩
        · rw [x3.bk D0 (by rw [w2.b]; exact List.mem_cons_self ..)] at hv
          exact Nat.le_succ_of_le (hvs2 vs hv)
        · have q : Post Y (fun c d H' => W c d σ H') m1 H1 (((turns (lcF C p own ifs e ρ) (ds.drop (i + 1)) >>= fun ys => ret ys) >>= fun ys => new lv (done ++ ys)) st2) (kV Y Q) := q
          rw [bnd_ret] at q
          exact q
      | true =>
        obtain ⟨yd, st4, eY, eR⟩ := then_ok eE
        cases eR
        refine ⟨m3, ρ', st3, rs3, re2.ext hL x3, ok_post (fun m4 H4 x4 rs4 yv hy => ?_) eY⟩
        have w4 := w3.ext x4 rs4
        obtain ⟨vs, ev, _⟩ := w4.at_
        have hv2 : vs.length ≤ i := hvs2 vs (by
          rw [← ev, x4.bk D0 (by rw [w3.b]; exact List.mem_cons_self ..), x3.bk D0 (by rw [w2.b]; exact List.mem_cons_self ..)])
        refine ⟨vs, ev, Nat.lt_of_le_of_lt hv2 (Nat.lt_of_lt_of_le hi (lim_size hlen)), m4, st2, done ++ [yd], w4.app hD0 ev hy, fun us hu => ?_, ?_⟩
        · rw [upd_same] at hu
          cases hu
          simp
          omega
        · have q : Post Y (fun c d H' => W c d σ H') m1 H1 (((turns (lcF C p own ifs e ρ) (ds.drop (i + 1)) >>= fun ys => ret (yd :: ys)) >>= fun ys => new lv (done ++ ys)) st2) (kV Y Q) := q
          rw [bnd_ret1] at q
          have e : (fun ys => new lv (done ++ yd :: ys)) = fun ys => new lv ((done ++ [yd]) ++ ys) := by
            funext ys
            rw [List.append_assoc]
            rfl
          rw [e] at q
          exact q
  · rintro H' ⟨m', st', done, w, _, q⟩
    rw [List.drop_length] at q
    have q : Post Y (fun c d H' => W c d σ H') m1 H1 (new lv (done ++ []) st') (kV Y Q) := q
    rw [List.append_nil] at q
    exact w.fin q
theorem t_forL (hL : SvOk L) (hK : Y.K = X.K) {p : Pt} {a : E} {b : Ss} (h : tSt Y L W C (.loopL p a b) U σ H) : tFor (iAny X.K (tE Y L W C a)) (gP Y L p) (tSs Y L W C b) U σ H := by
  obtain ⟨m, ρ, st, rs, re, q⟩ := h
  simp only [ex] at q
  refine ⟨m, ρ, st, rs, re, (q.step hL re).imp fun x m1 st1 H1 x1 rs1 q v hv => ?_⟩
  cases x with
  | obj i =>
    obtain ⟨pa, rfl, hp⟩ := hv
    have q : PostS Y L W U m1 H1 (forL p (exs C b) i limL 0 ρ st1) := q
    have hl : i < st1.length := by
      rw [← rs1.len]
      exact (List.getElem?_eq_some_iff.mp hp).1
    have e0 := List.getElem?_eq_getElem hl
    cases eo : st1[i] with
    | lst ys0 =>
      rw [eo] at e0
      obtain ⟨vs0, h0, r0⟩ := live_at rs1 hp e0
      refine .inl ⟨pa, vs0, rfl, SqL.of h0, fun k n σ' H' => ∃ m' ρ' st', Ext m1 H1 m' H' ∧ RS Y m' st' H' ∧ REnv Y L m' H' ρ' σ' ∧ PostS Y L W U m' H' (forL p (exs C b) i n k ρ' st'), ⟨limL, m1, ρ, st1, .refl _ _, rs1, re.ext hL x1, q⟩, ?_⟩
      rintro k n σ' H' ⟨m', ρ', st', x, rs', re', q⟩
      cases n with
      | zero => exact q.elim
      | succ n =>
        simp only [forL] at q
        have hp' := ext_live x hp
        cases e1 : st'[i]? with
        | none =>
          rw [e1] at q
          exact q.elim
        | some o =>
          rw [e1] at q
          cases o with
          | lst ys =>
            obtain ⟨vs, h1, r1⟩ := live_at rs' hp' e1
            have q : PostS Y L W U m' H' (match ys[k]? with
              | none => R.ok (.next ρ') st'
              | some x => (match p.put x ρ' with
                | some ρ => (exs C b ρ >>= fun f => Mp.after f (forL p (exs C b) i n (k + 1))) st'
                | none => .bad)) := q
            cases e2 : ys[k]? with
            | none =>
              rw [e2] at q
              have hk : ys.length ≤ k := List.getElem?_eq_none_iff.mp e2
              exact .inl ⟨⟨vs, SqL.of h1, by rw [r1.length]; exact hk⟩, PostS.here rs' q σ' re'⟩
            | some d =>
              rw [e2] at q
              obtain ⟨w, hw, rw1⟩ := r1.get e2
              refine .inr ⟨⟨vs, w, SqL.of h1, hw⟩, fun σ3 H3 => ∃ m' ρ' st', Ext m1 H1 m' H3 ∧ RS Y m' st' H3 ∧ REnv Y L m' H3 ρ' σ3 ∧ PostS Y L W U m' H3 (forL p (exs C b) i n (k + 1) ρ' st'), fun σ3 H3 z => ⟨n, Nat.lt_succ_self n, z⟩, fun y H'' yy => ?_⟩
              obtain ⟨rfl, yy⟩ := yy
              have ey := yy vs (SqL.of h1)
              rw [hw] at ey
              cases ey
              have q : PostS Y L W U m' H'' (match p.put d ρ' with
                | some ρ => (exs C b ρ >>= fun f => Mp.after f (forL p (exs C b) i n (k + 1))) st'
                | none => .bad) := q
              cases e3 : p.put d ρ' with
              | none =>
                rw [e3] at q
                exact q.elim
              | some ρ2 =>
                rw [e3] at q
                exact ⟨m', ρ', ρ2, d, re', rw1, e3, fun σ2 re2 _ => ⟨m', ρ2, st', rs', re2, q.after.ends (fun σ3 H3 ⟨m3, ρ3, st3, x3, r3, re3, q3⟩ => ⟨m3, ρ3, st3, x.trans x3, r3, re3, q3⟩) fun _ _ w => w⟩⟩
          | _ => exact q.elim
    | _ =>
      rw [eo] at e0
      have q : PostS Y L W U m1 H1 (forL p (exs C b) i (99999 + 1) 0 ρ st1) := q
      simp only [forL, e0] at q
      exact q.elim
  | lst xs =>
    rw [← hK]
    obtain ⟨a, vs, ev, f, r⟩ := hv
    exact .inl ⟨a, vs, ev, f.sq, for_jw hL rs1 (re.ext hL x1) (jw_list f r) q⟩
  | tup xs =>
    rw [← hK]
    obtain ⟨a, vs, ev, f, r⟩ := hv
    exact .inr (.inl ⟨a, vs, ev, f.sq, for_jw hL rs1 (re.ext hL x1) (jw_tup f r) q⟩)
  | str s =>
    exact .inr (.inr ⟨S s, hv, for_jw hL rs1 (re.ext hL x1) jw_str q⟩)
  | _ => exact q.elim
theorem s_lcL (hL : SvOk L) (hK : Y.K = X.K) {lv : Bool} {own : List Nat} {p : Pt} {a : E} {ifs : To} {e : E} (hown : ∀ i ∈ p.names, i ∈ own) (h : tE Y L W C (.lcL lv own p a ifs e) σ H Q) :
    tLc (iAny X.K (tE Y L W C a)) (gP Y L p) (tTo Y L W0 C ifs) (tE Y L W0 C e) own σ H Q :=
  (tR.seq hL (g := fun ρ x => match x with
    | .obj i => turnsL (lcF C p own ifs e ρ) i limL 0 >>= fun ys => new lv ys
    | x => held x >>= fun xs => turns1 xs (lcF C p own ifs e ρ) >>= fun ys => new lv ys) (fun ρ => by simp only [ev, lcF]; rfl) h).imp fun x m1 st1 H1 rs1 ⟨ρ, re, q⟩ v hv => by
    cases x with
    | obj i =>
      obtain ⟨pa, rfl, hp⟩ := hv
      have q : Post Y (fun c d H' => W c d σ H') m1 H1 ((turnsL (lcF C p own ifs e ρ) i limL 0 >>= fun ys => new lv ys) st1) (kV Y Q) := q
      have hl : i < st1.length := by
        rw [← rs1.len]
        exact (List.getElem?_eq_some_iff.mp hp).1
      have e0 := List.getElem?_eq_getElem hl
      cases eo : st1[i] with
      | lst ys0 =>
        rw [eo] at e0
        obtain ⟨vs0, h0, r0⟩ := live_at rs1 hp e0
        refine .inl ⟨pa, vs0, rfl, SqL.of h0, fun D0 hD0 => ?_⟩
        refine ⟨fun k n H' => k + n = limL ∧ ∃ m' st' done, Work Y m1 H1 D0 m' st' H' done ∧ (∀ vs, H' D0 = some (.lst vs) → vs.length ≤ k) ∧ Post Y (fun c d H' => W c d σ H') m1 H1 ((turnsL (lcF C p own ifs e ρ) i n k >>= fun ys => new lv (done ++ ys)) st') (kV Y Q), ⟨limL, Nat.zero_add _, _, st1, [], Work.begin rs1 hD0, fun vs hv => by rw [upd_same] at hv; cases hv; exact Nat.le_refl _, q⟩, ?_⟩
        rintro k n H' ⟨hkn, m', st', done, w, hvs, q⟩
        cases n with
        | zero => exact q.elim
        | succ n =>
          have hp' := tr_live w.tr hp
          have q : Post Y (fun c d H' => W c d σ H') m1 H1 ((match st'[i]? with
            | some (.lst ys) => (match ys[k]? with
              | none => R.ok [] st'
              | some x => (lcF C p own ifs e ρ x >>= fun y => turnsL (lcF C p own ifs e ρ) i n (k + 1) >>= fun ys => match y with
                | some d => ret (d :: ys)
                | none => ret ys) st')
            | _ => R.bad).then fun ys => new lv (done ++ ys)) (kV Y Q) := q
          cases e1 : st'[i]? with
          | none =>
            rw [e1] at q
            exact q.elim
          | some o =>
            rw [e1] at q
            cases o with
            | lst ys =>
              obtain ⟨vs, h1, r1⟩ := live_at w.rs hp' e1
              have q : Post Y (fun c d H' => W c d σ H') m1 H1 ((match ys[k]? with
                | none => R.ok [] st'
                | some x => (lcF C p own ifs e ρ x >>= fun y => turnsL (lcF C p own ifs e ρ) i n (k + 1) >>= fun ys => match y with
                  | some d => ret (d :: ys)
                  | none => ret ys) st').then fun ys => new lv (done ++ ys)) (kV Y Q) := q
              cases e2 : ys[k]? with
              | none =>
                rw [e2] at q
                have hk : ys.length ≤ k := List.getElem?_eq_none_iff.mp e2
                have q : Post Y (fun c d H' => W c d σ H') m1 H1 (new lv (done ++ []) st') (kV Y Q) := q
                rw [List.append_nil] at q
                exact .inl ⟨⟨vs, SqL.of h1, by rw [r1.length]; exact hk⟩, w.fin q⟩
              | some d =>
                rw [e2] at q
                obtain ⟨wv, hw, rw1⟩ := r1.get e2
                refine .inr ⟨⟨vs, wv, SqL.of h1, hw⟩, fun H3 => (k + 1) + n = limL ∧ ∃ m' st' done, Work Y m1 H1 D0 m' st' H3 done ∧ (∀ vs, H3 D0 = some (.lst vs) → vs.length ≤ k + 1) ∧ Post Y (fun c d H' => W c d σ H') m1 H1 ((turnsL (lcF C p own ifs e ρ) i n (k + 1) >>= fun ys => new lv (done ++ ys)) st') (kV Y Q), fun H3 z => ⟨n, Nat.lt_succ_self n, z⟩, fun y H'' yy => ?_⟩
                obtain ⟨rfl, yy⟩ := yy
                have ey := yy vs (SqL.of h1)
                rw [hw] at ey
                cases ey
                have q : Post Y (fun c d H' => W c d σ H') m1 H1 ((lcF C p own ifs e ρ d >>= fun y => (turnsL (lcF C p own ifs e ρ) i n (k + 1) >>= fun ys => (match y with | some d => ret (d :: ys) | none => ret ys)) >>= fun ys => new lv (done ++ ys)) st') (kV Y Q) := by
                  have e : ((lcF C p own ifs e ρ d >>= fun y => turnsL (lcF C p own ifs e ρ) i n (k + 1) >>= fun ys => (match y with | some d => ret (d :: ys) | none => ret ys)) >>= fun ys => new lv (done ++ ys)) st' = (lcF C p own ifs e ρ d >>= fun y => (turnsL (lcF C p own ifs e ρ) i n (k + 1) >>= fun ys => (match y with | some d => ret (d :: ys) | none => ret ys)) >>= fun ys => new lv (done ++ ys)) st' := bnd_assoc
                  rw [← e]
                  exact q
                obtain ⟨y, st2, eF, q⟩ := bnd_inv (fun c d s => lcF_ne) q
                unfold lcF at eF
                cases ep : p.put d (wipeD ρ own) with
                | none =>
                  rw [ep] at eF
                  cases eF
                | some ρ' =>
                  rw [ep] at eF
                  obtain ⟨t, st3, eT, eE⟩ := then_ok (nox_ok eF)
                  refine ⟨m', wipeD ρ own, ρ', d, (re.tr hL w.tr).wipe own, rw1, ep, fun σ2 re2 sb => ⟨wipe_same sb hown, m', ρ', st', w.rs, re2, ok_post (fun m3 H3 x3 rs3 => ?_) eT⟩⟩
                  have w3 := w.ext x3 rs3
                  cases t with
                  | false =>
                    cases eE
                    refine ⟨by omega, m3, st2, done, w3, fun vs hv => ?_, ?_⟩
                    · rw [x3.bk D0 (by rw [w.b]; exact List.mem_cons_self ..)] at hv
                      exact Nat.le_succ_of_le (hvs vs hv)
                    · have q : Post Y (fun c d H' => W c d σ H') m1 H1 (((turnsL (lcF C p own ifs e ρ) i n (k + 1) >>= fun ys => ret ys) >>= fun ys => new lv (done ++ ys)) st2) (kV Y Q) := q
                      rw [bnd_ret] at q
                      exact q
                  | true =>
                    obtain ⟨yd, st4, eY, eR⟩ := then_ok eE
                    cases eR
                    refine ⟨m3, ρ', st3, rs3, re2.ext hL x3, ok_post (fun m4 H4 x4 rs4 yv hy => ?_) eY⟩
                    have w4 := w3.ext x4 rs4
                    obtain ⟨us, ev, _⟩ := w4.at_
                    have hv2 : us.length ≤ k := hvs us (by
                      rw [← ev, x4.bk D0 (by rw [w3.b]; exact List.mem_cons_self ..), x3.bk D0 (by rw [w.b]; exact List.mem_cons_self ..)])
                    have hlim : limL ≤ sizeLine := by decide
                    refine ⟨us, ev, by omega, by omega, m4, st2, done ++ [yd], w4.app hD0 ev hy, fun us hu => ?_, ?_⟩
                    · rw [upd_same] at hu
                      cases hu
                      simp
                      omega
                    · have q : Post Y (fun c d H' => W c d σ H') m1 H1 (((turnsL (lcF C p own ifs e ρ) i n (k + 1) >>= fun ys => ret (yd :: ys)) >>= fun ys => new lv (done ++ ys)) st2) (kV Y Q) := q
                      rw [bnd_ret1] at q
                      have e : (fun ys => new lv (done ++ yd :: ys)) = fun ys => new lv ((done ++ [yd]) ++ ys) := by
                        funext ys
                        rw [List.append_assoc]
                        rfl
                      rw [e] at q
                      exact q
            | _ => exact q.elim
      | _ =>
        rw [eo] at e0
        have q : Post Y (fun c d H' => W c d σ H') m1 H1 ((turnsL (lcF C p own ifs e ρ) i (99999 + 1) 0 st1).then fun ys => new lv ys) (kV Y Q) := q
        simp only [turnsL, e0] at q
        exact q.elim
    | lst xs =>
      rw [← hK]
      obtain ⟨a, vs, ev, f, r⟩ := hv
      exact .inl ⟨a, vs, ev, f.sq, fun D0 hD0 => lc_jw hL hown rs1 re (jw_list f r) hD0 q⟩
    | tup xs =>
      rw [← hK]
      obtain ⟨a, vs, ev, f, r⟩ := hv
      exact .inr (.inl ⟨a, vs, ev, f.sq, fun D0 hD0 => lc_jw hL hown rs1 re (jw_tup f r) hD0 q⟩)
    | str s =>
      exact .inr (.inr ⟨S s, hv, fun D0 hD0 => lc_jw hL hown rs1 re jw_str hD0 q⟩)
    | _ => exact q.elim
end
end Mp
end
section
set_option autoImplicit false
set_option Elab.async false
set_option linter.all false
set_option maxRecDepth 100000
set_option maxHeartbeats 2000000
/-! MpX: isinstance of a caught error that keeps a value. -/
namespace Mp
open PySem PySem.Spec PySem.W PySem.Calls PyProof.Rows
section
variable {P : Program} {wo : World} {A : Around} {EX : Value → Shared → Prop} {s : Shared} {K : Frag} {ex C : Addr} {oe od : PySem.Obj}
/-- what an error's class must say -/
structure XcT (K : Frag) (C : Addr) : Prop where
  g1 : findIn K (.ref C) "__getattribute__" = some (some (.builtin "BaseException.__getattribute__"))
  g2 : findIn K (.ref C) "__getattr__" = some none
  b1 : subIn K (.ref C) (.type "BaseException") = some true
  d1 : hasDictIn K C = true
  c1 : findIn K (.ref C) "__class__" = some (some (.builtin "object.__class__"))
  c2 : specialIn K (.builtin "object.__class__") "__get__" = some (some (.builtin "getset_descriptor.__get__"))
  c3 : takesIn K (.builtin "object.__class__") = some true
  c4 : mroIn K C (.type "object") = some true
theorem cls_got {R : Option Value → Shared → Prop} (T : XcT K C) (X : K.In s.heap) (J : InstAt s.heap ex oe C (some od)) (q : R (some (.ref C)) { s with toks := s.toks + 1 }) : wpAny (model P wo) A (getAttr? (.ref ex) "__class__") R EX s := by
  have isS : (clsIn K C).isSome = true := by
    obtain ⟨cd, hc, _⟩ := any_some T.d1
    rw [hc]
    rfl
  have found : findObj K C (some od) "__class__" = some (.bind (.builtin "getset_descriptor.__get__") (.builtin "object.__class__")) := findObj_data isS T.c1 T.c2 T.c3
  obtain ⟨h0, g0, d0, t0, o0⟩ := s
  have Ty := J.type (M := model P wo)
  have G1 := looks_findIn (M := model P wo) X T.g1
  have G2 := looks_findIn (M := model P wo) X T.g2
  have G3 := looks_find (M := model P wo) X J found
  have isX : Looks (model P wo) h0 (isInstance (.ref ex) (.type "BaseException")) true := Ty.andThen (looks_subIn X T.b1)
  have z0 : (false && onTheHeap (Value.builtin "BaseException.__getattribute__")) = false := by rfl
  have z2 : (Value.builtin "BaseException.__getattribute__" == Value.builtin "object.__getattribute__") = false := by decide +kernel
  have z1 : (onTheHeap (Value.ref C) && Value.builtin "BaseException.__getattribute__" == Value.builtin "object.__getattribute__") = false := by
    rw [z2]
    rfl
  unfold getAttr? getAttrBy? getAttrBy
  refine wpAny_bind (wpAny_mkText (wpAny_bind (wpAny_attempt (wpAny_holding (wpAny_bind (Ty.at (wpAny_bind (G1.at ?_))))))))
  show wpAny _ _ (if (onTheHeap (Value.ref C) && Value.builtin "BaseException.__getattribute__" == Value.builtin "object.__getattribute__") = true then _ else _) _ _ _
  rw [z1, if_neg Bool.false_ne_true]
  unfold getAttrByItsOwn hookBefore
  refine wpAny_bind ?_
  rw [if_pos (show onTheHeap (Value.ref C) = true from rfl)]
  refine G2.at ?_
  refine wpAny_bind (wpAny_attempt (wpAny_holding ?_))
  unfold callGetattribute
  rw [z0, if_neg Bool.false_ne_true]
  unfold boundAndCalled
  rw [PySem.F.excAttr_ValueError.ga.bind (.ref ex)]
  refine wpAny_bind (wpAny_pure ?_)
  show wpAny _ _ (call (.builtin "BaseException.__getattribute__") [.ref ex, .str "__class__" t0]) _ _ _
  refine wpAny_call (codeAny_call_builtin PySem.F.excAttr_ValueError.ga.plain PySem.F.entry_bexc_ga ?_)
  refine @check_slot (model P wo) _ _ ⟨h0, g0, d0, t0 + 1, o0⟩ "BaseException.__getattribute__" "BaseException" "__getattribute__" (.ref ex) [.str "__class__" t0] [] _ (by decide +kernel) (by decide +kernel) isX (PySem.F.args_bexc_ga (.ref ex) (.str "__class__" t0)) ?_
  unfold Builtin.«object.__getattribute__»
  refine wpAny_bind (wpAny_of_eq (a := ((Value.ref ex : Value), [Value.str "__class__" t0])) (by first | rfl | (simp only [slotArgs]; rfl)) ?_)
  refine wpAny_bind (wpAny_pure (wpAny_bind (Ty.at (wpAny_bind (G3.at ?_)))))
  show wpAny _ _ (holding [Value.builtin "object.__class__"] (call (.builtin "getset_descriptor.__get__") [.builtin "object.__class__", .ref ex, .ref C]) >>= _) _ _ _
  refine wpAny_bind (wpAny_holding (wpAny_call (class_get (s := ⟨h0, g0, d0, t0 + 1, o0⟩) (ox := oe) (od := some od) X J T.c4 ?_)))
  refine wpAny_pure ?_
  show wpAny _ _ (handedOut (.ref C)) _ _ _
  rw [handedOut_of (v := .ref C) rfl]
  first
    | exact wpAny_pure (wpAny_pure q)
    | exact wpAny_pure q
    | exact wpAny_pure (wpAny_bind (wpAny_pure (wpAny_pure q)))
theorem kitx_kept (T : XcT K C) : KitX K (.ref ex) (.ref C) (fun h => ∃ od, InstAt h ex oe C (some od)) where
  ty := fun _ _ _ ⟨_, J⟩ => J.type
  it := fun _ _ X _ => by
    obtain ⟨c0, hc0, _⟩ := any_some T.d1
    unfold clsIn at hc0
    split at hc0
    · rename_i c' d' cd' sl' ho
      intro A1 Q1 E1 s1 k q
      unfold isType loadHead
      exact wpAny_bind (wpAny_loadPart (k _ _ (X _ _ ho)) (wpAny_pure q))
    · cases hc0
  ne := fun h tp dd its n sl X htp => by
    obtain ⟨c0, hc0, _⟩ := any_some T.d1
    refine Bool.eq_false_iff.mpr fun q => ?_
    have ee : C = tp := Value.ref.inj (beq_iff_eq.mp q)
    subst ee
    unfold clsIn at hc0
    split at hc0
    · rename_i c' d' cd' sl' ho
      have z := (X _ _ ho).symm.trans htp
      cases z
    · cases hc0
  ca := fun X ⟨_, J⟩ k => cls_got T X J k
end
end Mp
end
section
set_option autoImplicit false
set_option Elab.async false
set_option linter.all false
set_option maxRecDepth 100000
set_option maxHeartbeats 2000000
/-! MpExc: errors of own classes, with one value kept by __init__, or none. -/
namespace PySem
namespace MpE
open PySem.W PySem.Calls PyProof.Rows PySem.HandSPX
/-! ### the text of __init__ -/
def iA (f : Str) (p1 p2 : Pos) : Arguments := { posonlyargs := [], args := [{ arg := "self", annotation := none, pos := p1 }, { arg := f, annotation := none, pos := p2 }], vararg := none, kwonlyargs := [], kw_defaults := [], kwarg := none, defaults := [] }
def iB (f : Str) (q1 q2 q3 q4 : Pos) : List Stmt := [.Assign [.Attribute (.Name "self" q1) f q2] (.Name f q3) q4]
def iS (f : Str) : Scope := { kind := .function, names := [(PySem.Str.ofString "self", .local), (f, .local)], isGenerator := false, isCoroutine := false, more := [] }
def Fld3 (f : Str) : Prop := f = "given" ∨ f = "index" ∨ f = "reason"
/-- what the written part says of the class at C and of its __init__ at fI -/
structure XiT (K : Frag) (C fI : Addr) (f qn : Str) : Prop where
  cls : ∃ nm q N bs bm sn sub ab col dd k0 k1 k2 k3 k5, K.lookup C = some (excClassObj nm q C N bs bm true sn sub ab col dd k0 k1 k2 k3 k5 "ValueError.__new__") ∧ refsVE bm = true
  sa : findIn K (.ref C) "__setattr__" = some (some (.builtin "object.__setattr__"))
  noN : findIn K (.ref C) f = some none
  iC : findIn K (.ref C) "__init__" = some (some (.ref fI))
  tC : typeIn K (.ref fI) = some (.type "function")
  kC : keepIn K (.ref C) = true
  exC : subIn K (.ref C) (.type "BaseException") = some true
  tyC : typeIn K (.ref C) = some (.type "type")
  fn : ∃ (oc : Value) (od : Option Addr) (kd doc pm : Value) (an : Option Addr) (cdv ct : Value) (osl : Array (Option Value)) (p1 p2 q1 q2 q3 q4 : Pos),
    K.lookup fI = some ⟨oc, od, .func (fnOf "__init__" qn (iA f p1 p2) (iB f q1 q2 q3 q4) (iS f) .none kd doc pm an cdv ct), osl⟩ ∧ codeIn K cdv qn = true
theorem one_size (v : Value) : [v].length ≤ sizeLine := by
  rw [sizeLine_eq]
  exact (by decide : 1 ≤ 16777216)
theorem ldC {M : Model} {s : Shared} {name : Str} {scope : Scope} {L a : Addr} {cd : Value} {m : Str → Option Value} {x : Str} {pos : Pos} {v : Value} {Q : Value → Shared → Prop} {A : Around} {E : Value → Shared → Prop} (hn : s.heap.Ns L m) (hv : m x = some v) (h : Q v s)
    (hk : scope.kind = .function) (hl : (envOfC name scope L a cd).kindOf x = some .local) (hd : (x == ("__debug__" : Str)) = false) :
    wpAny M A (eval (.Name x pos) (envOfC name scope L a cd)) Q E s := wpAny_Name (wpAny_loadName_local hk hl hn hv h) hd
/-- what __init__ leaves of a fresh exception at x -/
structure InitEnd (h h' : Heap) (x C dx t1 : Addr) (f : Str) (v : Value) : Prop where
  keep : ∀ b o, b ≠ x → h.get? b = some o → h'.get? b = some o
  obj : h'.get? x = some { cls := .ref C, dict := some dx, data := .fields #[.ref t1, .none, .none, .none, .bool false, .none] }
  dbig : h.objs.size ≤ dx
  dne : dx ≠ x
  ns : h'.Ns1 dx (fun y => if y = f then some v else none)
/-- a made one -/
structure OwnMade (h h' : Heap) (e C d : Addr) (f : Str) (v : Value) : Prop where
  keep : ∀ b o, h.get? b = some o → h'.get? b = some o
  new : h.objs.size ≤ e
  obj : ∃ oe vs, h'.get? e = some oe ∧ oe.cls = .ref C ∧ oe.dict = some d ∧ oe.data = .fields vs ∧ vs[1]? = some .none
  dbig : h.objs.size ≤ d
  dne : d ≠ e
  ns : h'.Ns1 d (fun y => if y = f then some v else none)
section
variable {prog : Program} {w : World} {A : Around} {E : Value → Shared → Prop} {R : Result → Shared → Prop} {s : Shared} {K : Frag} {mg : Str → Option Value} {C fI : Addr} {f qn : Str}
theorem init_run (hf : Fld3 f) (T : XiT K C fI f qn) {x t0 : Addr} {v : Value} (X : K.In s.heap) (hlim : s.heap.NoLimit) (hx : s.heap.get? x = some (excO C t0)) (hnx : K.lookup x = none) (hroom : A.depth < recursionLimit)
    (hq : ∀ h' tk dx, InitEnd s.heap h' x C dx t0 f v → R (.ok (.ret .none)) { s with heap := h', toks := tk }) :
    codeAny (model prog w) A (.call (.ref fI) ⟨[.ref x, v], []⟩) R s := by
  obtain ⟨oc, od, kd, doc, pm, an, cdv, ct, osl, p1, p2, q1, q2, q3, q4, ho, hcd⟩ := T.fn
  obtain ⟨nm, q, N, bs, bm, sn, sub, ab, col, dd, k0, k1, k2, k3, k5, hC, hbm⟩ := T.cls
  have hcl : clsIn K C = some { name := nm, bases := bs, mro := .ref C :: bm, ns := N, qualname := q, hasDict := true, slotNames := sn, subclasses := sub, abstract := ab, collection := col, hasDel := false } := by unfold clsIn; rw [hC] <;> rfl
  have kf : (iS f).names.lookup f = some .local := by rcases hf with rfl | rfl | rfl <;> rfl
  have ks : (iS f).names.lookup ("self" : Str) = some .local := by rcases hf with rfl | rfl | rfl <;> rfl
  have db : (f == ("__debug__" : Str)) = false := by rcases hf with rfl | rfl | rfl <;> decide +kernel
  refine Att.call_fn (binds := [("self", .ref x), (f, v)]) X hlim ho hcd hroom (BindsTo.of_eq (by rcases hf with rfl | rfl | rfl <;> first | rfl | with_unfolding_all rfl)) (by rcases hf with rfl | rfl | rfl <;> first | rfl | decide | with_unfolding_all rfl) (fun s₁ IC => ?_) rfl rfl rfl
  obtain ⟨h₁, tk₁, rfl⟩ := IC.toInCall.same
  have k : ∀ b o, s.heap.get? b = some o → h₁.get? b = some o := IC.toInCall.keep
  have hn := IC.toInCall.ns
  have hxL : s.heap.objs.size ≠ x := Nat.ne_of_gt (Heap.lt_size hx)
  have X₁ : K.In h₁ := X.keeps k
  have hx₁ := k _ _ hx
  show wpAny _ _ (execs _ _) _ _ _
  refine wpAny_execs_cons (plainObj_wpAny_Assign_Attribute ?_)
  refine ldC (v := v) hn (by rcases hf with rfl | rfl | rfl <;> first | rfl | with_unfolding_all rfl | kernel_rfl) (ldC (v := .ref x) hn (by rcases hf with rfl | rfl | rfl <;> first | rfl | with_unfolding_all rfl | kernel_rfl) ?_ rfl ks (by decide +kernel)) rfl kf db
  refine set_plain X₁ (ox := excO C t0) (od := none) ⟨hx₁, rfl, rfl, trivial⟩ T.sa ?_
  refine exc_osa X₁ hx₁ hcl (show refsVE (.ref C :: bm) = true from hbm) rfl T.noN (fun h₃ tk₃ dx k₃ dn dne hx₃ hn₃ => ?_)
  show wpAny _ _ (execs _ _) _ _ _
  have z : s.heap.objs.size < h₁.objs.size := hn.lt
  exact wpAny_execs_nil (hq h₃ tk₃ dx ⟨fun b o hb e => k₃ b o hb (k b o e), hx₃, Nat.le_of_lt (Nat.lt_of_lt_of_le z dn), dne, hn₃⟩)
theorem made_run (hf : Fld3 f) (T : XiT K C fI f qn) {v : Value} (X : K.In s.heap) (hlim : s.heap.NoLimit) (hroom : A.depth + 1 < recursionLimit)
    (hq : ∀ h' tk e d, OwnMade s.heap h' e C d f v → R (.ok (.ret (.ref e))) { s with heap := h', toks := tk }) :
    codeAny (model prog w) A (.call (.ref C) ⟨[v], []⟩) R s := by
  obtain ⟨nm, q, N, bs, bm, sn, sub, ab, col, dd, k0, k1, k2, k3, k5, hC, hbm⟩ := T.cls
  obtain ⟨hp, g, dr, tk, os⟩ := s
  have k : ∀ b o, hp.get? b = some o → ((hp.push (kdv_tup [v])).push (excO C hp.objs.size)).get? b = some o := fun b o e => Heap.get?_push_of_some _ (Heap.get?_push_of_some _ e)
  have hget : ((hp.push (kdv_tup [v])).push (excO C hp.objs.size)).get? (hp.objs.size + 1) = some (excO C hp.objs.size) := by heap_get
  have hnx : K.lookup (hp.objs.size + 1) = none := by
    cases e : K.lookup (hp.objs.size + 1) with
    | none => rfl
    | some o =>
      have z : hp.get? (hp.objs.size + 1) = some o := X _ _ e
      exact absurd (Nat.lt_of_succ_lt (Heap.lt_size z)) (Nat.lt_irrefl _)
  refine call_own F.excBase_ValueError (fun X => refsVE_contains X bm hbm) (X _ _ hC) (looks_findIn X T.iC) (fun self => bind_fn X self T.tC) (one_size v) ?_
  refine init_run hf (s := ⟨(hp.push (kdv_tup [v])).push (excO C hp.objs.size), g, dr, tk, os⟩) T (X.keeps k) (hlim.keeps k) hget hnx ?_ fun h' tk' dx ⟨k', hx, dn, dne, hns⟩ => ?_
  · show A.depth + 1 < recursionLimit
    exact hroom
  · have old : ∀ b o, hp.get? b = some o → h'.get? b = some o := fun b o e => k' b o (Nat.ne_of_lt (Nat.lt_succ_of_lt (Heap.lt_size e))) (k b o e)
    have z : hp.objs.size + 1 + 1 ≤ dx := by
      first
        | (simpa only [Heap.size_push] using dn)
        | exact dn
        | (have q := dn; rw [Heap.size_push, Heap.size_push] at q; exact q)
    exact ⟨rfl, hq h' tk' (hp.objs.size + 1) dx ⟨old, Nat.le_succ _, ⟨_, _, hx, rfl, rfl, rfl, rfl⟩, Nat.le_trans (Nat.le_trans (Nat.le_succ _) (Nat.le_succ _)) z, dne, hns⟩⟩
end
end MpE
end PySem
namespace Mp
open PySem PySem.Spec PyProof.Rows L2
theorem relO_one {v : V} {v' : Value} (r : RelV v v') (g f : Str) : RelO (List.lookup f [(g, v)]) (if f = g then some v' else none) := by
  by_cases hw : f = g
  · subst hw
    rw [if_pos rfl]
    have q : List.lookup f [(f, v)] = some v := by simp [List.lookup]
    rw [q]
    exact r
  · rw [if_neg hw]
    have qw : (f == g) = false := by simpa using hw
    have q2 : List.lookup f [(g, v)] = none := by simp [List.lookup, qw]
    rw [q2]
    trivial
section
variable {X : Cx} {C fI : Addr} {x f qn : Str}
/-- x(e) -/
def tMkI (C : Addr) (f : Str) (ta : TA) : L2.St → Hp → XK → Prop := fun σ H Q => ta σ H fun vs H1 => ∃ v, vs = [v] ∧ ∀ d, H1 d = none → Q (.ref C) (some d) (upd H1 d (.xd [(f, v)]))
theorem pmk_i {a : Expr} {ta : TA} {p pos : Pos} {k : Nat} (hf : MpE.Fld3 f) (T : MpE.XiT X.K C fI f qn) (hm : X.mg x = some (.ref C)) (hr : Room k X.A) (ha : PA X [a] ta) (hg : Gl X x) (hdb : (x == ("__debug__" : Str)) = false)
    (he : starEach (a :: []) X.env = (false, eval a X.env) :: starEach [] X.env) (hpl : (backTo pos (starEach [] X.env)).any (·.1) = false) :
    PMk X (.Call (.Name x p) [a] [] pos) (tMkI C f ta) := by
  intro pins s σ H Q I h
  refine wpAny_Call_Name_kw (ld_glob I hg hm ?_ hdb)
  refine PySem.W.callWith_K (h₀ := X.base) I.ok.mod.kin T.kC (thn (ha.run pos pins s σ H _ I h) fun us s1 hh => ?_) he hpl
  obtain ⟨vs, H1, I1, r1, v, ev, q1⟩ := hh
  subst ev
  refine ⟨I1.kIn, ?_⟩
  cases r1 with
  | cons rv rn =>
    rename_i v' us'
    cases rn
    show wpAny _ _ (call (.ref C) [v']) _ _ _
    have hlim := I1.nolimit
    obtain ⟨hp, g, dr, tk, os⟩ := s1
    refine wpAny_call (MpE.made_run hf T I1.kIn hlim (by have := hr.dp; omega) fun h' tk' e d M => ?_)
    show MkP X pins σ Q (.ref e) ⟨h', g, dr, tk', os⟩
    obtain ⟨oe, fv, hoe, hc, hd, hdat, h1⟩ := M.obj
    have hns := M.ns
    obtain ⟨G', g1, g2⟩ := restrict h' fun b => decide (b ≠ e)
    have gk : ∀ b, b ≠ e → G'.get? b = h'.get? b := fun b hb => g1 b (decide_eq_true hb)
    have ge : G'.get? e = none := g2 e (by simp)
    have old : ∀ b o, hp.get? b = some o → G'.get? b = some o := fun b o q => (gk b (Nat.ne_of_lt (Nat.lt_of_lt_of_le (Heap.lt_size q) M.new))).trans (M.keep b o q)
    have ob : ObjOk X.prog X.w (upd H1 d (.xd [(f, v)])) G' d (.xd [(f, v)]) :=
      ⟨_, hns.at (fun o q => (gk d M.dne).trans q), fun y => relO_one rv f y⟩
    have J : Inv X pins σ (upd H1 d (.xd [(f, v)])) ⟨G', g, dr, tk', os⟩ := I1.laid (t' := tk') old M.dbig ob
    refine ⟨e, oe, fv, ⟨G', g, dr, tk', os⟩, _, .ref C, some d, rfl, J, fun b o q => ?_, ge, hoe, ⟨hc, hd⟩, hdat, h1, ?_, rfl, I1.bare, raises_own T.exC T.tyC, q1 d (I1.hok.fresh M.dbig)⟩
    · by_cases hb : b = e
      · have q' : G'.get? b = some o := q
        rw [hb, ge] at q'; cases q'
      · exact (gk b hb).symm.trans q
    · rw [upd_ne (Ne.symm M.dne)]
      exact I1.hok.fresh M.new
end
end Mp
end
section
set_option autoImplicit false
set_option Elab.async false
set_option linter.all false
set_option maxRecDepth 100000
set_option maxHeartbeats 2000000
/-! MpXr: readings: isinstance, errors, methods of lists, dicts of the top. -/
namespace Mp
open PySem PySem.Spec PyProof.Rows L2
def Kx.ckV (Y : Kx) (k : Nat) : V := match Y.bt k with
  | some n => .ty n
  | none => .ref (Y.cA k)
def Kx.ckU (Y : Kx) (k : Nat) : Value := match Y.bt k with
  | some n => .type n
  | none => .ref (Y.cA k)
theorem ck_cls {Y : Kx} {k : Nat} : ClsV (Y.ckV k) (Y.ckU k) := by
  unfold Kx.ckV Kx.ckU
  cases Y.bt k with
  | some n => exact .ty n
  | none => exact .own _
def tyNm : Ty → String
  | .int => "int"
  | .bool => "bool"
  | .str => "str"
  | .tuple => "tuple"
  | .list => "list"
  | .cls _ => ""
def tyC (Y : Kx) : Ty → V
  | .int => .ty "int"
  | .bool => .ty "bool"
  | .str => .ty "str"
  | .tuple => .ty "tuple"
  | .list => .ty "list"
  | .cls c => .ref (Y.cA c)
def tyU (Y : Kx) : Ty → Value
  | .int => .type "int"
  | .bool => .type "bool"
  | .str => .type "str"
  | .tuple => .type "tuple"
  | .list => .type "list"
  | .cls c => .ref (Y.cA c)
theorem ty_cls {Y : Kx} {t : Ty} : ClsV (tyC Y t) (tyU Y t) := by cases t <;> first | exact .ty _ | exact .own _
/-- what isinstance must know of the classes -/
structure ClsK (Y : Kx) (K : PySem.W.Frag) (kn : Nat → Bool) : Prop where
  cl : ∀ c, kn c = true → Cls K (Y.cA c)
  k1 : ∀ c, kn c = true → PySem.W.findIn K (.ref (Y.cA c)) "__class__" = some (some (.builtin "object.__class__"))
  k2 : PySem.W.specialIn K (.builtin "object.__class__") "__get__" = some (some (.builtin "getset_descriptor.__get__"))
  k3 : PySem.W.takesIn K (.builtin "object.__class__") = some true
  k4 : ∀ c, kn c = true → PySem.W.mroIn K (Y.cA c) (.type "object") = some true
  bi : ∀ c, kn c = true → ∀ n ∈ ["int", "bool", "str", "tuple", "list"], PySem.W.kitOne K (.ref (Y.cA c)) (.type n) = some false
  ow : ∀ c, kn c = true → ∀ n ∈ ["NoneType", "int", "bool", "str", "tuple", "list"], PySem.W.kitOne K (.type n) (.ref (Y.cA c)) = some false
  tw : ∀ c k, kn c = true → kn k = true → PySem.W.kitOne K (.ref (Y.cA c)) (.ref (Y.cA k)) = some (c == k)
theorem kit_any {Y : Kx} {K : PySem.W.Frag} {tv : Value} {g : Ty → Bool} : ∀ {ts : List Ty}, (∀ t ∈ ts, PySem.W.kitOne K tv (tyU Y t) = some (g t)) → PySem.W.kitAny K tv (ts.map (tyU Y)) = some (ts.any g)
  | [], _ => rfl
  | t :: ts, h => by
    have h1 := h t (List.mem_cons_self ..)
    have h2 := kit_any fun u hu => h u (List.mem_cons_of_mem _ hu)
    show (match PySem.W.kitOne K tv (tyU Y t) with | some true => some true | some false => PySem.W.kitAny K tv (ts.map (tyU Y)) | none => none) = _
    rw [h1, List.any_cons]
    cases g t with
    | true => rfl
    | false => exact h2
section
variable {Y : Kx} {L : Sv} {W : WX} {C : Cfg} {m m' : Lv} {H H' : Hp} {σ : L2.St} {ρ : Env} {st : Store} {Q : VK} {X : Cx} {K : PySem.W.Frag} {kn : Nat → Bool}
theorem inst_ok (F : ClsK Y K kn) (hK : Y.K = K) {ts : List Ty} (hts : ∀ k, Ty.cls k ∈ ts → kn k = true) {d : D} {v : V} (rs : RS Y m st H) (hv : RD Y m H d v) {b : Bool} {st' : Store} (e : isInst kn ts d st = .ok b st') :
    st' = st ∧ ∃ (tv : Value) (g : Ty → Bool), TyX K H v tv ∧ (∀ t ∈ ts, PySem.W.kitOne K tv (tyU Y t) = some (g t)) ∧ b = ts.any g := by
  cases d with
  | non =>
    obtain rfl : v = _ := hv
    cases e
    refine ⟨rfl, _, fun _ => false, .base .non, fun t ht => ?_, by simp⟩
    cases t <;> first | exact kit_ty (by decide +kernel) | exact F.ow _ (hts _ ht) _ (by simp)
  | bl x =>
    obtain rfl : v = _ := hv
    cases e
    refine ⟨rfl, _, _, .base (.bl x), fun t ht => ?_, rfl⟩
    cases t <;> first | exact kit_ty (by decide +kernel) | exact F.ow _ (hts _ ht) _ (by simp)
  | int i =>
    obtain rfl : v = _ := hv
    cases e
    refine ⟨rfl, _, _, .base (.int i), fun t ht => ?_, rfl⟩
    cases t <;> first | exact kit_ty (by decide +kernel) | exact F.ow _ (hts _ ht) _ (by simp)
  | str s =>
    obtain rfl : v = _ := hv
    cases e
    refine ⟨rfl, _, _, .base (.str _), fun t ht => ?_, rfl⟩
    cases t <;> first | exact kit_ty (by decide +kernel) | exact F.ow _ (hts _ ht) _ (by simp)
  | tup xs =>
    obtain ⟨p, vs, rfl, f, _⟩ := hv
    cases e
    refine ⟨rfl, .type "tuple", _, ?_, fun t ht => ?_, rfl⟩
    · rcases f with ⟨f | ⟨o, f⟩, _⟩ | ⟨o, its, n, f, c, _⟩
      · exact .base (.tup f)
      · exact .fTuple f
      · exact .kTuple (hK ▸ f) c
    · cases t <;> first | exact kit_ty (by decide +kernel) | exact F.ow _ (hts _ ht) _ (by simp)
  | lst xs =>
    obtain ⟨p, vs, rfl, f, _⟩ := hv
    cases e
    refine ⟨rfl, .type "list", _, ?_, fun t ht => ?_, rfl⟩
    · rcases f with ⟨f | ⟨o, f⟩, _⟩ | ⟨o, its, n, f, c, _⟩
      · exact .base (.lst f)
      · exact .base (.frz f)
      · exact .kList (hK ▸ f) c
    · cases t <;> first | exact kit_ty (by decide +kernel) | exact F.ow _ (hts _ ht) _ (by simp)
  | obj i =>
    unfold isInst at e
    dsimp only at e
    cases es : st[i]? with
    | none =>
      rw [es] at e
      cases e
    | some o =>
      rw [es] at e
      cases o with
      | lst ys =>
        obtain ⟨p, rfl, hp⟩ := hv
        obtain ⟨vs, h1, _⟩ := rs.at_ i p _ hp es
        cases e
        refine ⟨rfl, .type "list", _, .base (.lst h1), fun t ht => ?_, rfl⟩
        cases t <;> first | exact kit_ty (by decide +kernel) | exact F.ow _ (hts _ ht) _ (by simp)
      | dic _ _ => cases e
      | ins c fs =>
        dsimp only at e
        by_cases hk : kn c = true
        · rw [if_pos hk] at e
          cases e
          obtain ⟨p, dx, gs, rfl, hp, h1, _⟩ := ins_ok rs hv es
          refine ⟨rfl, .ref (Y.cA c), _, .base (.ins h1 (F.cl c hk) (F.k1 c hk) F.k2 F.k3 (F.k4 c hk)), fun t ht => ?_, rfl⟩
          cases t with
          | cls k => exact F.tw c k hk (hts _ ht)
          | _ => exact F.bi c hk _ (by simp [tyU])
        · rw [if_neg hk] at e
          cases e
  | dic _ _ => exact hv.elim
  | lam _ => exact hv.elim
  | exc _ _ => exact hv.elim
theorem inst_post {Z : Wx} {ts : List Ty} {d : D} {f : Bool → M D} {k : D → Lv → Store → Hp → Prop} (p : Post Y Z m H ((isInst kn ts d >>= f) st) k) : ∃ b st', isInst kn ts d st = .ok b st' ∧ Post Y Z m H (f b st') k := by
  have p : Post Y Z m H ((isInst kn ts d st).then f) k := p
  cases e : isInst kn ts d st with
  | ok b st' =>
    rw [e] at p
    exact ⟨b, st', rfl, p⟩
  | err c x st' =>
    exfalso
    unfold isInst at e
    cases d <;> first | (cases e; done) | skip
    dsimp only at e
    split at e
    · cases e
    · split at e <;> cases e
    · cases e
  | bad =>
    rw [e] at p
    exact p.elim
theorem s_isi1 (hL : SvOk L) (hK : Y.K = X.K) (F : ClsK Y X.K C.cls) {o : E} {t : Ty} (ht : ∀ k, t = .cls k → C.cls k = true) (h : tE Y L W C (.isi o [t]) σ H Q) : tCB (rIsi X.K) (tCons (tE Y L W C o) (tCons (tC (tyC Y t)) tNil)) σ H Q :=
  (tR.seq hL (g := fun ρ x => isInst C.cls [t] x >>= fun b => ret (.bl b)) (fun ρ => by simp only [ev]) h).imp fun x m1 st1 H1 rs ⟨ρ, re, p⟩ v hv => by
    obtain ⟨b, st', e, p⟩ := inst_post p
    obtain ⟨rfl, tv, g, ty, hg, eb⟩ := inst_ok F hK (ts := [t]) (fun k hk => ht k (by have := List.mem_singleton.mp hk; exact this.symm)) rs hv e
    have eb : b = g t := by simpa using eb
    subst eb
    exact ⟨v, tyC Y t, tv, tyU Y t, g t, rfl, ty_cls, ty, hg t (by simp), Post.val rs p rfl⟩
def tTys (Y : Kx) : List Ty → TA
  | [] => tNil
  | t :: ts => tCons (tC (tyC Y t)) (tTys Y ts)
theorem tTys_eq {Q : List V → Hp → Prop} : ∀ {ts : List Ty}, tTys Y ts σ H Q = Q (ts.map (tyC Y)) H
  | [] => rfl
  | t :: ts => by
    show tTys Y ts σ H (fun xs H2 => Q (tyC Y t :: xs) H2) = _
    rw [tTys_eq]
    rfl
theorem tys_pair : ∀ ts : List Ty, Paired ClsV (ts.map (tyC Y)) (ts.map (tyU Y))
  | [] => .nil
  | t :: ts => .cons ty_cls (tys_pair ts)
theorem s_isiT (hL : SvOk L) (hK : Y.K = X.K) (F : ClsK Y X.K C.cls) {o : E} {ts : List Ty} (hts : ∀ k, Ty.cls k ∈ ts → C.cls k = true) (hlen : ts.length ≤ 100) (h : tE Y L W C (.isi o ts) σ H Q) :
    tCB (rIsiT X.K) (tCons (tE Y L W C o) (tCons (tTup (tTys Y ts)) tNil)) σ H Q :=
  (tR.seq hL (g := fun ρ x => isInst C.cls ts x >>= fun b => ret (.bl b)) (fun ρ => by simp only [ev]) h).imp fun x m1 st1 H1 rs ⟨ρ, re, p⟩ v hv => by
    obtain ⟨b, st', e, p⟩ := inst_post p
    show tTys Y ts σ H1 _
    rw [tTys_eq]
    refine ⟨by rw [List.length_map]; exact Nat.le_trans hlen (by decide), fun pa hp => ?_⟩
    have x1 : Ext m1 H1 m1 (upd H1 pa (.tup (ts.map (tyC Y)))) := Ext.new rs hp
    have r1 : RS Y m1 st1 (upd H1 pa (.tup (ts.map (tyC Y)))) := RSt.fz rs hp
    obtain ⟨rfl, tv, g, ty, hg, eb⟩ := inst_ok F hK hts r1 (Rp.ext x1 _ _ hv) e
    subst eb
    exact ⟨v, pa, ts.map (tyC Y), tv, ts.map (tyU Y), ts.any g, rfl, upd_same, tys_pair ts, ty, kit_any hg, p m1 _ x1 r1 _ rfl⟩
/-! ### methods of lists -/
theorem chkL_ok {Z : Wx} {β : Type} {d : D} {v : V} {f : Unit → M β} {k : β → Lv → Store → Hp → Prop} (rs : RS Y m st H) (hv : RD Y m H d v) (p : Post Y Z m H ((chkL d >>= f) st) k) :
    ∃ i pa ys vs, d = .obj i ∧ v = .ref pa ∧ m.l[i]? = some pa ∧ st[i]? = some (.lst ys) ∧ H pa = some (.lst vs) ∧ RDs Y m H ys vs ∧ Post Y Z m H (f () st) k := by
  cases d with
  | obj i =>
    obtain ⟨pa, rfl, hp⟩ := hv
    have p : Post Y Z m H (((look i >>= fun t => match t with | .lst _ => ret () | _ => bad : M Unit) >>= f) st) k := p
    have p : Post Y Z m H (((match st[i]? with | some o => R.ok o st | none => .bad).then fun t => match t with | .lst _ => ret () | _ => bad).then f) k := p
    cases e : st[i]? with
    | none =>
      rw [e] at p
      exact p.elim
    | some o =>
      rw [e] at p
      cases o with
      | lst ys =>
        obtain ⟨vs, h1, h2⟩ := rs.at_ i pa _ hp e
        exact ⟨i, pa, ys, vs, rfl, rfl, hp, e, h1, h2, p⟩
      | _ => exact p.elim
  | _ => exact p.elim
theorem s_app (hL : SvOk L) {o e : E} (h : tE Y L W C (.m .append o (.cons e .nil)) σ H Q) : tBM X.K "list" rAppend (tE Y L W C o) (tCons (tE Y L W C e) tNil) σ H Q :=
  (tR.seq hL (g := fun ρ x => chkL x >>= fun _ => evs C (.cons e .nil) ρ >>= fun xs => mn1 .append x xs) (fun ρ => by simp only [ev]) h).imp fun x m1 st1 H1 rs ⟨ρ, re, p⟩ v hv => by
    obtain ⟨i, pa, ys, vs, rfl, rfl, hp, hs, h1, h2, p⟩ := chkL_ok rs hv p
    refine ⟨.inl ⟨rfl, vs, SqL.of h1⟩, ?_⟩
    have p : Post Y (fun c d H' => W c d σ H') m1 H1 ((evs C (.cons e .nil) ρ >>= fun xs => mn1 .append (.obj i) xs) st1) (kV Y Q) := p
    simp only [evs] at p
    have p : Post Y (fun c d H' => W c d σ H') m1 H1 (((ev C e ρ >>= fun x => ret [] >>= fun xs => ret (x :: xs)) >>= fun xs => mn1 .append (.obj i) xs) st1) (kV Y Q) := p
    rw [bnd_assoc] at p
    refine ⟨m1, ρ, st1, rs, re, p.bind.imp fun y m2 st2 H2 x2 rs2 p w hw => ?_⟩
    have p : Post Y (fun c d H' => W c d σ H') m2 H2 (mn1 .append (.obj i) [y] st2) (kV Y Q) := p
    have hp2 : m2.l[i]? = some pa := by
      obtain ⟨l, el⟩ := x2.pre
      rw [el, List.getElem?_append_left (List.getElem?_eq_some_iff.mp hp).1]
      exact hp
    simp only [mn1] at p
    have p : Post Y (fun c d H' => W c d σ H') m2 H2 ((match st2[i]? with | some o => R.ok o st2 | none => .bad).then fun t => match t with
      | .lst ys => if ys.length ≤ lim then (write i (.lst (ys ++ [y])) >>= fun _ => ret .non) else bad
      | _ => bad) (kV Y Q) := p
    cases e2 : st2[i]? with
    | none =>
      rw [e2] at p
      exact p.elim
    | some ob =>
      rw [e2] at p
      cases ob with
      | lst zs =>
        obtain ⟨ws, h3, h4⟩ := rs2.at_ i pa _ hp2 e2
        have p : Post Y (fun c d H' => W c d σ H') m2 H2 ((if zs.length ≤ lim then (write i (.lst (zs ++ [y])) >>= fun _ => ret .non) else bad : M D) st2) (kV Y Q) := p
        by_cases hz : zs.length ≤ lim
        · rw [if_pos hz] at p
          refine ⟨pa, ws, w, rfl, rfl, h3, by rw [h4.length]; exact Nat.lt_of_le_of_lt hz (by decide), ?_⟩
          have hn : i < st2.length := (List.getElem?_eq_some_iff.mp e2).1
          have p : Post Y (fun c d H' => W c d σ H') m2 H2 ((if i < st2.length then R.ok () (st2.set i (.lst (zs ++ [y]))) else .bad : R Unit).then fun _ => ret .non) (kV Y Q) := p
          rw [if_pos hn] at p
          have xw : Ext m2 H2 m2 (upd H2 pa (.lst (ws ++ [w]))) := Ext.wr rs2 (List.mem_of_getElem? hp2)
          exact p m2 _ xw (RSt.wr rs2 hp2 ⟨_, upd_same, (RpL.ext xw _ _ h4).append ⟨w, [], rfl, Rp.ext xw _ _ hw, rfl⟩⟩) _ rfl
        · rw [if_neg hz] at p
          exact p.elim
      | _ => exact p.elim
theorem s_ext (hL : SvOk L) (hK : Y.K = X.K) {o e : E} (h : tE Y L W C (.m .extend o (.cons e .nil)) σ H Q) : tBM X.K "list" (rExtQ X.K) (tE Y L W C o) (tCons (tE Y L W C e) tNil) σ H Q :=
  (tR.seq hL (g := fun ρ x => chkL x >>= fun _ => evs C (.cons e .nil) ρ >>= fun xs => mn1 .extend x xs) (fun ρ => by simp only [ev]) h).imp fun x m1 st1 H1 rs ⟨ρ, re, p⟩ v hv => by
    obtain ⟨i, pa, ys, vs, rfl, rfl, hp, hs, h1, h2, p⟩ := chkL_ok rs hv p
    refine ⟨.inl ⟨rfl, vs, SqL.of h1⟩, ?_⟩
    have p : Post Y (fun c d H' => W c d σ H') m1 H1 ((evs C (.cons e .nil) ρ >>= fun xs => mn1 .extend (.obj i) xs) st1) (kV Y Q) := p
    simp only [evs] at p
    have p : Post Y (fun c d H' => W c d σ H') m1 H1 (((ev C e ρ >>= fun x => ret [] >>= fun xs => ret (x :: xs)) >>= fun xs => mn1 .extend (.obj i) xs) st1) (kV Y Q) := p
    rw [bnd_assoc] at p
    refine ⟨m1, ρ, st1, rs, re, p.bind.imp fun y m2 st2 H2 x2 rs2 p w hw => ?_⟩
    have p : Post Y (fun c d H' => W c d σ H') m2 H2 ((lseq y >>= fun zs => extD i zs) st2) (kV Y Q) := p
    obtain ⟨zs, b, us, rfl, f, g, p⟩ := lseq_ok rs2 hw p
    rw [hK] at f
    have hp2 : m2.l[i]? = some pa := by
      obtain ⟨l, el⟩ := x2.pre
      rw [el, List.getElem?_append_left (List.getElem?_eq_some_iff.mp hp).1]
      exact hp
    simp only [extD] at p
    have p : Post Y (fun c d H' => W c d σ H') m2 H2 ((match st2[i]? with | some o => R.ok o st2 | none => .bad).then fun t => match t with
      | .lst ys => if ys.length + zs.length ≤ lim then (write i (.lst (ys ++ zs)) >>= fun _ => ret .non) else bad
      | _ => bad) (kV Y Q) := p
    cases e2 : st2[i]? with
    | none =>
      rw [e2] at p
      exact p.elim
    | some ob =>
      rw [e2] at p
      cases ob with
      | lst ks =>
        obtain ⟨ws, h3, h4⟩ := rs2.at_ i pa _ hp2 e2
        have p : Post Y (fun c d H' => W c d σ H') m2 H2 ((if ks.length + zs.length ≤ lim then (write i (.lst (ks ++ zs)) >>= fun _ => ret .non) else bad : M D) st2) (kV Y Q) := p
        by_cases hz : ks.length + zs.length ≤ lim
        · rw [if_pos hz] at p
          refine ⟨pa, b, ws, us, rfl, rfl, h3, f, by rw [h4.length, g.length]; exact Nat.le_trans hz (by decide), ?_⟩
          have hn : i < st2.length := (List.getElem?_eq_some_iff.mp e2).1
          have p : Post Y (fun c d H' => W c d σ H') m2 H2 ((if i < st2.length then R.ok () (st2.set i (.lst (ks ++ zs))) else .bad : R Unit).then fun _ => ret .non) (kV Y Q) := p
          rw [if_pos hn] at p
          have xw : Ext m2 H2 m2 (upd H2 pa (.lst (ws ++ us))) := Ext.wr rs2 (List.mem_of_getElem? hp2)
          exact p m2 _ xw (RSt.wr rs2 hp2 ⟨_, upd_same, (RpL.ext xw _ _ h4).append (RpL.ext xw _ _ g)⟩) _ rfl
        · rw [if_neg hz] at p
          exact p.elim
      | _ => exact p.elim
theorem s_pop (hL : SvOk L) {o : E} (h : tE Y L W C (.m .pop o .nil) σ H Q) : tBM0 X.K "list" rPop (tE Y L W C o) σ H Q :=
  (tR.seq hL (g := fun ρ x => chkL x >>= fun _ => evs C .nil ρ >>= fun xs => mn1 .pop x xs) (fun ρ => by simp only [ev]) h).imp fun x m1 st1 H1 rs ⟨ρ, re, p⟩ v hv => by
    obtain ⟨i, pa, ys, vs, rfl, rfl, hp, hs, h1, h2, p⟩ := chkL_ok rs hv p
    refine ⟨.inl ⟨rfl, vs, SqL.of h1⟩, ?_⟩
    have p : Post Y (fun c d H' => W c d σ H') m1 H1 (mn1 .pop (.obj i) [] st1) (kV Y Q) := by
      simp only [evs] at p
      exact p
    simp only [mn1] at p
    have p : Post Y (fun c d H' => W c d σ H') m1 H1 ((match st1[i]? with | some o => R.ok o st1 | none => .bad).then fun t => match t with
      | .lst ys => (match ys.getLast? with
        | some y => (write i (.lst ys.dropLast) >>= fun _ => ret y)
        | none => bad)
      | _ => bad) (kV Y Q) := p
    rw [hs] at p
    have p : Post Y (fun c d H' => W c d σ H') m1 H1 ((match ys.getLast? with
        | some y => (write i (.lst ys.dropLast) >>= fun _ => ret y)
        | none => bad : M D) st1) (kV Y Q) := p
    cases eg : ys.getLast? with
    | none =>
      rw [eg] at p
      exact p.elim
    | some y =>
      rw [eg] at p
      have ey : ys[ys.length - 1]? = some y := by rw [← List.getLast?_eq_getElem?]; exact eg
      obtain ⟨w, hw, rw'⟩ := h2.get ey
      refine ⟨pa, vs, w, rfl, rfl, h1, by rw [h2.length]; exact hw, ?_⟩
      have hn : i < st1.length := (List.getElem?_eq_some_iff.mp hs).1
      have p : Post Y (fun c d H' => W c d σ H') m1 H1 ((if i < st1.length then R.ok () (st1.set i (.lst ys.dropLast)) else .bad : R Unit).then fun _ => ret y) (kV Y Q) := p
      rw [if_pos hn] at p
      have xw : Ext m1 H1 m1 (upd H1 pa (.lst vs.dropLast)) := Ext.wr rs (List.mem_of_getElem? hp)
      have hd : RDs Y m1 H1 ys.dropLast vs.dropLast := by
        rw [List.dropLast_eq_take, List.dropLast_eq_take, h2.length]
        exact h2.take _
      exact p m1 _ xw (RSt.wr rs hp ⟨_, upd_same, RpL.ext xw _ _ hd⟩) _ (Rp.ext xw _ _ rw')
/-! ### dicts of the top -/
/-- the dict at dA has these entries -/
def DicOk (Y : Kx) (K : PySem.W.Frag) (dA : Addr) (kvs : List (Sx × D)) : Prop := ∀ s : Sx, ∃ r : Option Value, PySem.W.nsIn K dA (S s) = some r ∧ r.isSome = (kvs.lookup s).isSome ∧ ∀ d, kvs.lookup s = some d → ∃ u v, r = some u ∧ RelV v u ∧ ∀ m H, RD Y m H d v
theorem s_din (hL : SvOk L) {x : Nat} {a : E} {dA : Addr} {kvs : List (Sx × D)} (hx : C.dic x = some kvs) (ok : DicOk Y X.K dA kvs) (h : tE Y L W C (.din x a) σ H Q) :
    tOp (fun x y H Q => ∃ (z : Str) (r : Option Value), x = .str z ∧ y = .ref dA ∧ PySem.W.nsIn X.K dA z = some r ∧ Q (.bl r.isSome) H) (tE Y L W C a) (tC (.ref dA)) σ H Q :=
  (tR.seq hL (g := fun ρ y => match y with
    | .str s => match C.dic x with
      | some kvs => ret (.bl (kvs.lookup s).isSome)
      | none => bad
    | _ => bad) (fun ρ => by first | (simp only [ev]; rfl) | simp only [ev]) h).imp fun y m1 st1 H1 rs ⟨ρ, re, p⟩ v hv => by
    cases y with
    | str s =>
      rw [hx] at p
      obtain ⟨r, h1, h2, _⟩ := ok s
      exact ⟨S s, r, hv, rfl, h1, by rw [h2]; exact Post.val rs p rfl⟩
    | _ => exact p.elim
theorem q_din (hL : SvOk L) {x : Nat} {a : E} {dA : Addr} {kvs : List (Sx × D)} {Q : Bool → Hp → Prop} (hx : C.dic x = some kvs) (ok : DicOk Y X.K dA kvs) (h : tT Y L W C (.din x a) σ H Q) :
    tTest (tOp (fun x y H Q => ∃ (z : Str) (r : Option Value), x = .str z ∧ y = .ref dA ∧ PySem.W.nsIn X.K dA z = some r ∧ Q (.bl r.isSome) H) (tE Y L W C a) (tC (.ref dA))) σ H Q :=
  (tR.seq hL (g := fun ρ y => match y with
    | .str s => match C.dic x with
      | some kvs => ret (kvs.lookup s).isSome
      | none => bad
    | _ => bad) (fun ρ => by first | (simp only [tst]; rfl) | simp only [tst]) h).imp fun y m1 st1 H1 rs ⟨ρ, re, p⟩ v hv => by
    cases y with
    | str s =>
      rw [hx] at p
      obtain ⟨r, h1, h2, _⟩ := ok s
      exact ⟨S s, r, hv, rfl, h1, _, rfl, by rw [h2]; exact Post.here (W := fun c d H' => W c d σ H') (k := kB Q) rs p⟩
    | _ => exact p.elim
theorem s_dsub (hL : SvOk L) {x : Nat} {a : E} {dA : Addr} {kvs : List (Sx × D)} (hx : C.dic x = some kvs) (ok : DicOk Y X.K dA kvs) (h : tE Y L W C (.dsub x a) σ H Q) :
    tOp (fun x y H Q => ∃ (z : Str) (u0 : Value) (v0 : V), x = .ref dA ∧ y = .str z ∧ PySem.W.nsIn X.K dA z = some (some u0) ∧ RelV v0 u0 ∧ Q v0 H) (tC (.ref dA)) (tE Y L W C a) σ H Q :=
  (tR.seq hL (g := fun ρ y => match y with
    | .str s => match C.dic x with
      | some kvs => opt (kvs.lookup s)
      | none => bad
    | _ => bad) (fun ρ => by first | (simp only [ev]; rfl) | simp only [ev]) h).imp fun y m1 st1 H1 rs ⟨ρ, re, p⟩ v hv => by
    cases y with
    | str s =>
      rw [hx] at p
      have p : Post Y (fun c d H' => W c d σ H') m1 H1 ((opt (kvs.lookup s) : M D) st1) (kV Y Q) := p
      obtain ⟨r, h1, h2, h3⟩ := ok s
      cases el : kvs.lookup s with
      | none =>
        rw [el] at p
        exact p.elim
      | some d =>
        rw [el] at p
        obtain ⟨u, w, rfl, rv, rd⟩ := h3 d el
        exact ⟨S s, u, w, rfl, hv, h1, rv, Post.val rs p (rd m1 H1)⟩
    | _ => exact p.elim
end
end Mp
end
section
set_option autoImplicit false
set_option Elab.async false
set_option linter.all false
set_option maxRecDepth 100000
set_option maxHeartbeats 2000000
/-! MpTry: readings: raise, try, what a caught error keeps. -/
namespace Mp
open PySem PySem.Spec PyProof.Rows L2
/-- the name that holds the caught error -/
def LX (Y : Kx) (a : Addr) (cls : Value) (dx : Option Addr) (i0 : Nat) (L : Sv) : Sv := fun i m H d v => if i = i0 then (v = .ref a ∧ ∃ c e, d = .exc c e ∧ XR Y m H c e cls dx) else L i m H d v
section
variable {Y : Kx} {L : Sv} {W : WX} {C : Cfg} {m m' : Lv} {H H' : Hp} {σ : L2.St} {ρ : Env} {st : Store} {Q : VK} {X : Cx} {U : Ends} {a : Addr} {cls : Value} {dx : Option Addr} {i0 : Nat}
theorem XR.tr {c : Nat} {d : Option D} (x : Tr m H m' H') (h : XR Y m H c d cls dx) : XR Y m' H' c d cls dx := by
  obtain ⟨h1, h2, h3⟩ := h
  refine ⟨h1, h2, ?_⟩
  cases d with
  | none => exact h3
  | some e =>
    obtain ⟨b, f, v, e1, e2, e3, e4, e5⟩ := h3
    obtain ⟨k1, k2⟩ := x.keep b _ e2 e3 rfl
    exact ⟨b, f, v, e1, k1, k2, e4, Rp.tr x _ _ e5⟩
theorem LX.ok (hL : SvOk L) : SvOk (LX Y a cls dx i0 L) := by
  refine ⟨fun {m m' H H' i d v} x h => ?_, fun {m H i d v} h => ?_⟩
  · unfold LX at h ⊢
    by_cases hi : i = i0
    · rw [if_pos hi] at h ⊢
      obtain ⟨e, c, d', e2, r⟩ := h
      exact ⟨e, c, d', e2, r.tr x⟩
    · rw [if_neg hi] at h ⊢
      exact hL.ext x h
  · unfold LX at h
    by_cases hi : i = i0
    · rw [if_pos hi] at h
      obtain ⟨e, c, d', e2, r⟩ := h
      rw [e2]
      rfl
    · rw [if_neg hi] at h
      exact hL.odd h
theorem t_raise0 {c : Nat} (hc : Y.xc c = true) (h : tSt Y L W C (.raise c .no) U σ H) : W (.ref (Y.cA c)) none σ H := by
  obtain ⟨m, ρ, st, rs, re, p⟩ := h
  simp only [ex] at p
  have p : PostS Y L W U m H ((if C.xat c = none then ret (.exc c none ρ) else bad : M Flow) st) := p
  by_cases hx : C.xat c = none
  · rw [if_pos hx] at p
    exact PostS.here rs p σ _ _ re ⟨rfl, hc, rfl⟩
  · rw [if_neg hx] at p
    exact p.elim
theorem t_raise1 (hL : SvOk L) {c : Nat} {e : E} {f : Sx} (hc : Y.xc c = true) (hf : Y.xat c = some f) (h : tSt Y L W C (.raise c (.yes e)) U σ H) :
    tMkI (Y.cA c) (S f) (tCons (tE Y L W C e) tNil) σ H fun cls d H' => W cls d σ H' := by
  obtain ⟨m, ρ, st, rs, re, p⟩ := h
  simp only [ex] at p
  have p : PostS Y L W U m H ((if (C.xat c).isSome = true then step ρ (ev C e ρ) (fun x => ret (.exc c (some x) ρ)) else bad : M Flow) st) := p
  by_cases hx : (C.xat c).isSome = true
  · rw [if_pos hx] at p
    refine ⟨m, ρ, st, rs, re, (p.step hL re).imp fun x m1 st1 H1 x1 rs1 q v hv => ⟨v, rfl, fun d hd => ?_⟩⟩
    have xw : Ext m1 H1 m1 (upd H1 d (.xd [(S f, v)])) := Ext.new rs1 hd
    exact q m1 _ xw (RSt.fz rs1 hd) σ _ _ ((re.ext hL x1).ext hL xw) ⟨rfl, hc, d, f, v, rfl, upd_same, rs1.off hd, hf, Rp.ext xw _ _ hv⟩
  · rw [if_neg hx] at p
    exact p.elim
/-- what the clauses make of what the body gave -/
theorem try_inv {a : M Flow} {g : Nat → Option D → Env → M Flow} (p : PostS Y L W U m H ((a >>= fun f => match f with
    | .next ρ => ret (.next ρ)
    | .ret d => ret (.ret d)
    | .exc c d ρ => g c d ρ) st)) {W' : WX} (h : ∀ c d ρ st1 m' H', Ext m H m' H' → RS Y m' st1 H' → PostS Y L W U m' H' (g c d ρ st1) → ∀ σ cls dx, REnv Y L m' H' ρ σ → XR Y m' H' c d cls dx → W' cls dx σ H') : PostS Y L W' U m H (a st) := by
  have p : PostS Y L W U m H ((a st).then fun f => match f with
    | .next ρ => ret (.next ρ)
    | .ret d => ret (.ret d)
    | .exc c d ρ => g c d ρ) := p
  cases e : a st with
  | ok fl st1 =>
    rw [e] at p
    cases fl with
    | next ρ => exact fun m2 H2 x rs => p m2 H2 x rs
    | ret d => exact fun m2 H2 x rs => p m2 H2 x rs
    | exc c d ρ => exact fun m2 H2 x rs σ cls dx re xr => h c d ρ st1 m2 H2 x rs (PostS.ext x p) σ cls dx re xr
  | err c d st1 =>
    rw [e] at p
    exact p.elim
  | bad =>
    rw [e] at p
    exact p.elim
/-- the errors' classes: what the clauses ask of them -/
def ExmOk (Y : Kx) (C : Cfg) (K : PySem.W.Frag) (k : Nat) : Prop := ∀ c, Y.xc c = true → PySem.W.exmOne K (.ref (Y.cA c)) (Y.ckU k) = some (C.sub c k)
theorem t_try_as (hL : SvOk L) {k i : Nat} {b hb : Ss} (hx : ExmOk Y C X.K k) (h : tSt Y L W C (.tryx b (.cons k (some i) hb .nil)) U σ H) :
    tSs Y L (wAs X.K (Y.ckU k) i (fun a cls dx => tSs Y (LX Y a cls dx i L) W0 C hb) W U) C b U σ H := by
  obtain ⟨m, ρ, st, rs, re, p⟩ := h
  simp only [ex] at p
  refine ⟨m, ρ, st, rs, re, try_inv (g := fun c d ρ => exh C (.cons k (some i) hb .nil) c d ρ) p fun c d ρ1 st1 m2 H2 x rs2 q σ1 cls dx re1 xr => ?_⟩
  have hcls : cls = .ref (Y.cA c) := xr.1
  refine ⟨C.sub c k, hcls ▸ hx c xr.2.1, fun hs a ha => ?_, fun hs => ?_⟩
  · simp only [exh] at q
    rw [if_pos hs] at q
    have re2 : REnv Y (LX Y a cls dx i L) m2 H2 (ρ1.set i (some (.exc c d))) (σ1.set i (some (.ref a))) := by
      refine ⟨by simp [re1.len], fun j e he => ?_⟩
      by_cases hj : i = j
      · subst hj
        by_cases hi : i < ρ1.length
        · rw [List.getElem?_set_self hi] at he
          cases he
          refine ⟨.ref a, by rw [List.getElem?_set_self (by rw [← re1.len]; exact hi)], .inr ?_⟩
          unfold LX
          rw [if_pos rfl]
          exact ⟨rfl, c, d, rfl, xr⟩
        · rw [List.getElem?_eq_none (by simpa using hi)] at he
          cases he
      · rw [List.getElem?_set_ne hj] at he
        obtain ⟨w, h1, h2⟩ := re1.at_ j e he
        refine ⟨w, by rw [List.getElem?_set_ne hj]; exact h1, h2.imp id fun z => ?_⟩
        unfold LX
        rw [if_neg (Ne.symm hj)]
        exact z
    refine ⟨m2, _, st1, rs2, re2, ?_⟩
    have q : PostS Y L W U m2 H2 ((exs C hb (ρ1.set i (some (.exc c d))) st1).then fun f => match f with
      | .next ρ => ret (.next (ρ.set i none))
      | .ret d => ret (.ret d)
      | .exc _ _ _ => bad) := q
    cases e : exs C hb (ρ1.set i (some (.exc c d))) st1 with
    | ok fl st2 =>
      rw [e] at q
      cases fl with
      | next ρ3 =>
        intro m3 H3 x3 rs3 σ3 re3
        refine q m3 H3 x3 rs3 (σ3.set i none) ⟨by simp [re3.len], fun j e he => ?_⟩
        by_cases hj : i = j
        · subst hj
          by_cases hi : i < ρ3.length
          · rw [List.getElem?_set_self hi] at he
            cases he
          · rw [List.getElem?_eq_none (by simpa using hi)] at he
            cases he
        · rw [List.getElem?_set_ne hj] at he
          obtain ⟨w, h1, h2⟩ := re3.at_ j e he
          refine ⟨w, by rw [List.getElem?_set_ne hj]; exact h1, h2.imp id fun z => ?_⟩
          unfold LX at z
          rw [if_neg (Ne.symm hj)] at z
          exact z
      | ret d => exact fun m3 H3 x3 rs3 => q m3 H3 x3 rs3
      | exc c d ρ3 => exact q.elim
    | err c d st2 =>
      rw [e] at q
      exact q.elim
    | bad =>
      rw [e] at q
      exact q.elim
  · simp only [exh] at q
    rw [if_neg (by rw [hs]; exact Bool.false_ne_true)] at q
    exact q m2 H2 (.refl _ _) rs2 σ1 cls dx re1 xr
theorem t_try_only {k : Nat} {b hb : Ss} (hx : ExmOk Y C X.K k) (h : tSt Y L W C (.tryx b (.cons k none hb .nil)) U σ H) :
    tSs Y L (wOnly X.K (Y.ckU k) (fun a cls dx => tSs Y L W0 C hb) W U) C b U σ H := by
  obtain ⟨m, ρ, st, rs, re, p⟩ := h
  simp only [ex] at p
  refine ⟨m, ρ, st, rs, re, try_inv (g := fun c d ρ => exh C (.cons k none hb .nil) c d ρ) p fun c d ρ1 st1 m2 H2 x rs2 q σ1 cls dx re1 xr => ?_⟩
  have hcls : cls = .ref (Y.cA c) := xr.1
  refine ⟨C.sub c k, hcls ▸ hx c xr.2.1, fun hs a ha => ?_, fun hs => ?_⟩
  · simp only [exh] at q
    rw [if_pos hs] at q
    refine ⟨m2, _, st1, rs2, re1, ?_⟩
    have q : PostS Y L W U m2 H2 ((exs C hb ρ1 st1).then fun f => match f with
      | .next ρ => ret (.next ρ)
      | .ret d => ret (.ret d)
      | .exc _ _ _ => bad) := q
    cases e : exs C hb ρ1 st1 with
    | ok fl st2 =>
      rw [e] at q
      cases fl with
      | next ρ3 => exact fun m3 H3 x3 rs3 => q m3 H3 x3 rs3
      | ret d => exact fun m3 H3 x3 rs3 => q m3 H3 x3 rs3
      | exc c d ρ3 => exact q.elim
    | err c d st2 =>
      rw [e] at q
      exact q.elim
    | bad =>
      rw [e] at q
      exact q.elim
  · simp only [exh] at q
    rw [if_neg (by rw [hs]; exact Bool.false_ne_true)] at q
    exact q m2 H2 (.refl _ _) rs2 σ1 cls dx re1 xr
/-! ### in the clause -/
theorem s_xfld {f : Sx} {c0 : Nat} (hL : SvOk L) (h0 : cls = .ref (Y.cA c0)) (h1 : Y.xat c0 = some f) (hinj : ∀ c, Y.xc c = true → Y.cA c = Y.cA c0 → c = c0) (h : tE Y (LX Y a cls dx i0 L) W C (.xfld i0 f) σ H Q) : tXf a cls dx (Y.cA c0) (S f) (tVar i0) σ H Q := by
  obtain ⟨m, ρ, st, rs, re, p⟩ := h
  simp only [ev] at p
  cases e : ρ[i0]? with
  | none =>
    rw [e] at p
    exact p.elim
  | some o =>
    rw [e] at p
    cases o with
    | none => exact p.elim
    | some d =>
      cases d with
      | exc c o2 =>
        cases o2 with
        | none => exact p.elim
        | some y =>
          have p2 : Post Y (fun c d H' => W c d σ H') m H ((if C.xat c = some f then ret y else bad : M D) st) (kV Y Q) := p
          by_cases hx : C.xat c = some f
          · rw [if_pos hx] at p2
            obtain ⟨v, e1, e2⟩ := re.at_ i0 _ e
            rcases e2 with e2 | e2
            · exact e2.elim
            · unfold LX at e2
              rw [if_pos rfl] at e2
              obtain ⟨ev, c', y', e3, xr⟩ := e2
              injection e3 with e3 e4
              subst e3
              subst e4
              obtain ⟨x1, x2, b, g, w, x3, x4, x5, x6, x7⟩ := xr
              have hc : c = c0 := hinj c x2 (by rw [x1] at h0; exact Value.ref.inj h0)
              subst hc
              have hg : g = f := by rw [x6] at h1; exact Option.some.inj h1
              subst hg
              exact ⟨v, e1, ev, h0, b, _, w, x3, x4, by simp [List.lookup], Post.val rs p2 x7⟩
          · rw [if_neg hx] at p2
            exact p2.elim
      | _ => exact p.elim
/-- isinstance(e, c), e the caught error -/
def rIsX (Y : Kx) (K : PySem.W.Frag) (a : Addr) (cls : Value) (dx : Option Addr) : List V → Hp → VK → Prop := fun xs H Q => ∃ (c : V) (cv : Value) (b : Bool) (c0 : Nat), xs = [.ref a, c] ∧ cls = .ref (Y.cA c0) ∧ Y.xc c0 = true ∧ ClsV c cv ∧ PySem.W.kitOne K (.ref (Y.cA c0)) cv = some b ∧ (dx = none ∨ ∃ dd fs, dx = some dd ∧ H dd = some (.xd fs)) ∧ Q (.bl b) H
theorem call_isX {oe : PySem.Obj} {pn : List (Addr × PySem.Obj)} (T : ∀ c, Y.xc c = true → XcT X.K (Y.cA c)) (hz : Zc cls dx oe) (hf : ∃ vs, oe.data = .fields vs) : CallR (X.suite a ((a, oe) :: pn)) (.builtin "isinstance") (rIsX Y X.K a cls dx) := by
  intro pins s σ H xs us Q I r h
  obtain ⟨c, cv, b, c0, rfl, e0, hc0, kc, e, hd, q⟩ := h
  obtain ⟨u1, u2, rfl, r1, r2⟩ := Vals.two r
  have e2 := kc.eq r2
  subst e2
  obtain rfl : u1 = Value.ref a := r1
  obtain ⟨hget, _⟩ := I.pin (a, oe) (List.mem_append.mpr (.inl List.mem_cons_self))
  obtain ⟨vs, hv⟩ := hf
  have T0 := T c0 hc0
  rcases hd with hd | ⟨dd, fs, hd, hx⟩
  · have J : PySem.W.InstAt s.heap a oe (Y.cA c0) none := by
      obtain ⟨oc, od, oda, osl⟩ := oe
      obtain ⟨h1, h2⟩ := hz
      dsimp only at h1 h2 hv
      subst h1 h2 hv e0 hd
      exact ⟨hget, rfl, rfl, trivial⟩
    exact PySem.W.kia_one (PySem.W.handS_kitx_exc T0.g1 T0.g2 T0.b1 T0.d1 T0.c1 T0.c2 T0.c3 T0.c4) I.kIn J e (fun z => nomatch z) fun tk => ⟨.bl b, H, I.kept (t' := tk) fun _ _ z => z, rfl, q⟩
  · have hob : ObjOk X.prog X.w H s.heap dd (.xd fs) := I.hok dd _ hx
    obtain ⟨mA, hns, _⟩ := hob
    obtain ⟨od, ho, _⟩ := lookIn_ns hns
    have J : PySem.W.InstAt s.heap a oe (Y.cA c0) (some od) := ⟨hget, hz.1.trans e0, by unfold PySem.W.notCls; rw [hv] <;> rfl, by rw [hz.2, hd]; exact ho⟩
    exact PySem.W.kia_one (kitx_kept T0) I.kIn ⟨od, J⟩ e (fun z => nomatch z) fun tk => ⟨.bl b, H, I.kept (t' := tk) fun _ _ z => z, rfl, q⟩
theorem s_xis {k : Nat} (hs : ∀ c, Y.xc c = true → PySem.W.kitOne X.K (.ref (Y.cA c)) (Y.ckU k) = some (C.sub c k)) (h : tE Y (LX Y a cls dx i0 L) W C (.xis i0 k) σ H Q) : tCB (rIsX Y X.K a cls dx) (tCons (tVar i0) (tCons (tC (Y.ckV k)) tNil)) σ H Q := by
  obtain ⟨m, ρ, st, rs, re, p⟩ := h
  simp only [ev] at p
  cases e : ρ[i0]? with
  | none =>
    rw [e] at p
    exact p.elim
  | some o =>
    rw [e] at p
    cases o with
    | none => exact p.elim
    | some d =>
      cases d with
      | exc c o2 =>
        obtain ⟨v, e1, e2⟩ := re.at_ i0 _ e
        rcases e2 with e2 | e2
        · exact e2.elim
        · unfold LX at e2
          rw [if_pos rfl] at e2
          obtain ⟨ev, c', y', e3, xr⟩ := e2
          injection e3 with e3 e4
          subst e3
          subst e4
          obtain ⟨x1, x2, x3⟩ := xr
          refine ⟨v, e1, Y.ckV k, Y.ckU k, C.sub c k, c, by rw [ev], x1, x2, ck_cls, hs c x2, ?_, Post.val rs p rfl⟩
          cases o2 with
          | none => exact .inl x3
          | some y =>
            obtain ⟨b, g, w, x3, x4, _⟩ := x3
            exact .inr ⟨b, _, x3, x4⟩
      | _ => exact p.elim
end
end Mp
end
section
set_option autoImplicit false
set_option Elab.async false
set_option linter.all false
set_option maxRecDepth 100000
set_option maxHeartbeats 1000000
/-! MpRg: sorted(set(x)), list(range(n)), tuple(range(n)). -/
namespace Mp
open PySem PySem.Spec PyProof.Rows L2
section
variable {Y : Kx} {L : Sv} {W : WX} {C : Cfg} {m m' : Lv} {H H' : Hp} {σ : L2.St} {ρ : Env} {st : Store} {Q : VK} {X : Cx}
theorem s_b1 (hL : SvOk L) {f : Bn} {e : E} {g : D → M D} (hf : ∀ x, bn1 f [x] = g x) (h : tE Y L W C (.b f (.cons e .nil)) σ H Q) : tR Y L W (fun ρ => ev C e ρ >>= fun x => g x) (kV Y Q) σ H := by
  obtain ⟨m, ρ, st, rs, re, p⟩ := h
  refine ⟨m, ρ, st, rs, re, ?_⟩
  have e1 : ev C (.b f (.cons e .nil)) ρ st = (ev C e ρ >>= fun x => g x) st := by
    show ((ev C e ρ >>= fun x => ret [] >>= fun xs => ret (x :: xs)) >>= fun xs => bn1 f xs) st = _
    rw [bnd_assoc]
    show (ev C e ρ st).then _ = (ev C e ρ st).then _
    cases ev C e ρ st with
    | ok x s => exact congrFun (hf x) s
    | err _ _ _ => rfl
    | bad => rfl
  rw [e1] at p
  exact p
theorem rangeL_rg (n : Int) : RDs Y m H (rangeL 0 n.toNat) (rgV 0 n) := by
  unfold rangeL rgV
  rw [Int.sub_zero]
  generalize n.toNat = k
  induction (List.range k) with
  | nil => exact rfl
  | cons i r ih => exact ⟨_, _, rfl, rfl, ih⟩
theorem s_range1 (hL : SvOk L) {lv : Bool} {e : E} (h : tE Y L W C (.b (.range1 lv) (.cons e .nil)) σ H Q) : tLstRg (tRg1 (tE Y L W C e)) σ H Q :=
  (tR.seq hL (fun ρ => rfl) (s_b1 (g := range1D lv) hL (fun x => rfl) h)).imp fun x m1 st1 H1 rs ⟨ρ, re, p⟩ v hv => by
    cases x with
    | int n =>
      have p2 : Post Y (fun c d H' => W c d σ H') m1 H1 ((if -1000000 ≤ n ∧ n ≤ lim then new lv (rangeL 0 n.toNat) else bad : M D) st1) (kV Y Q) := p
      by_cases hn : -1000000 ≤ n ∧ n ≤ lim
      · rw [if_pos hn] at p2
        have hlim : (lim : Int) = 1000000 := rfl
        exact ⟨n, hv, ⟨by omega, by omega, by omega, by omega, by omega⟩, fun q hq => new_post rs p2 (rangeL_rg n) hq⟩
      · rw [if_neg hn] at p2
        exact p2.elim
    | _ => exact p.elim
theorem s_trange (hL : SvOk L) {e : E} (h : tE Y L W C (.b .trange (.cons e .nil)) σ H Q) : tTupRg (tRg1 (tE Y L W C e)) σ H Q :=
  (tR.seq hL (fun ρ => rfl) (s_b1 (g := trangeD) hL (fun x => rfl) h)).imp fun x m1 st1 H1 rs ⟨ρ, re, p⟩ v hv => by
    cases x with
    | int n =>
      have p2 : Post Y (fun c d H' => W c d σ H') m1 H1 ((if -1000000 ≤ n ∧ n ≤ lim then ret (.tup (rangeL 0 n.toNat)) else bad : M D) st1) (kV Y Q) := p
      by_cases hn : -1000000 ≤ n ∧ n ≤ lim
      · rw [if_pos hn] at p2
        have hlim : (lim : Int) = 1000000 := rfl
        exact ⟨n, hv, ⟨by omega, by omega, by omega, by omega, by omega⟩, fun q hq => tup_post rs p2 (rangeL_rg n) hq⟩
      · rw [if_neg hn] at p2
        exact p2.elim
    | _ => exact p.elim
def rSetT (K : PySem.W.Frag) (w : World) : List V → Hp → VK → Prop := fun xs H Q => ∃ (q : Addr) (is : List Int), xs = [V.ref q] ∧ SqT K H q (is.map V.int) ∧ is.length < 64 ∧ ∀ (a : Addr) (c : Nat), c ≤ is.length → H a = none → Q (.ref a) (upd H a (SetO w a (fun j => decide (j ∈ is)) c))
theorem s_sset (hL : SvOk L) (hK : Y.K = X.K) {lv : Bool} {e : E} (h : tE Y L W C (.b (.sset lv) (.cons e .nil)) σ H Q) : tCB (rSortedSet X.w) (tCons (tCB (rSetT X.K X.w) (tCons (tE Y L W C e) tNil)) tNil) σ H Q :=
  (tR.seq hL (fun ρ => rfl) (s_b1 (g := ssetD lv) hL (fun x => rfl) h)).imp fun x m1 st1 H1 rs ⟨ρ, re, p⟩ v hv => by
    cases x with
    | tup ys =>
      obtain ⟨a, vs, rfl, f, r⟩ := hv
      have p2 : Post Y (fun c d H' => W c d σ H') m1 H1 ((match ints? ys with
        | some is => if is.length < 64 then new lv ((isortD (onceI is)).map D.int) else bad
        | none => bad : M D) st1) (kV Y Q) := p
      cases ei : ints? ys with
      | none =>
        rw [ei] at p2
        exact p2.elim
      | some is =>
        rw [ei] at p2
        have p3 : Post Y (fun c d H' => W c d σ H') m1 H1 ((if is.length < 64 then new lv ((isortD (onceI is)).map D.int) else bad : M D) st1) (kV Y Q) := p2
        by_cases hl : is.length < 64
        · rw [if_pos hl] at p3
          have ev : vs = is.map V.int := by
            rw [ints_map ei] at r
            exact r.ints
          subst ev
          refine ⟨a, is, rfl, hK ▸ f.sq, hl, fun b c hc hb => ⟨b, _, c, rfl, upd_same, by omega, fun ns q hs hm hn hq => ?_⟩⟩
          have en := set_one hs hm
          have x1 : Ext m1 H1 m1 (upd H1 b (SetO X.w b (fun j => decide (j ∈ is)) c)) := Ext.new rs hb
          have r1 : RS Y m1 st1 (upd H1 b (SetO X.w b (fun j => decide (j ∈ is)) c)) := RSt.fz rs hb
          rw [en]
          exact new_post r1 (Post.ext x1 p3) (rdl_ints Y _ _ _) hq
        · rw [if_neg hl] at p3
          exact p3.elim
    | _ => exact p.elim
end
end Mp
end
section
set_option autoImplicit false
set_option Elab.async false
set_option linter.all false
set_option maxRecDepth 100000
set_option maxHeartbeats 2000000
/-! MpLam: a lambda with parameters, called in the def that got it. -/
namespace Mp
open PySem PySem.Spec PyProof.Rows L2
/-! ### names that are set -/
def setL : List Nat → List V → L2.St → L2.St
  | i :: is, v :: vs, σ => setL is vs (σ.set i (some v))
  | _, _, σ => σ
theorem setL_len : ∀ (is : List Nat) (vs : List V) (σ : L2.St), (setL is vs σ).length = σ.length
  | [], _, _ => rfl
  | _ :: _, [], _ => rfl
  | i :: is, v :: vs, σ => by
    rw [setL, setL_len is vs, List.length_set]
theorem setL_no : ∀ {is : List Nat} {vs : List V} {σ : L2.St} {j : Nat}, j ∉ is → (setL is vs σ)[j]? = σ[j]?
  | [], _, _, _, _ => rfl
  | _ :: _, [], _, _, _ => rfl
  | i :: is, v :: vs, σ, j, h => by
    rw [setL, setL_no fun z => h (.tail _ z), List.getElem?_set_ne fun z => h (by rw [z]; exact .head _)]
theorem setL_at : ∀ {is : List Nat} {vs : List V} {σ : L2.St} {j k : Nat} {v : V}, is.Nodup → is[k]? = some j → vs[k]? = some v → j < σ.length → (setL is vs σ)[j]? = some (some v)
  | [], _, _, _, k, _, _, h, _, _ => by simp at h
  | _ :: _, [], _, _, k, _, _, _, h, _ => by simp at h
  | i :: is, w :: vs, σ, j, 0, v, n, h1, h2, hl => by
    have e1 : i = j := by simpa using h1
    have e2 : w = v := by simpa using h2
    subst e1
    subst e2
    rw [setL, setL_no (List.nodup_cons.mp n).1, List.getElem?_set_self hl]
  | i :: is, w :: vs, σ, j, k + 1, v, n, h1, h2, hl => by
    rw [setL]
    exact setL_at (List.nodup_cons.mp n).2 (by simpa using h1) (by simpa using h2) (by rw [List.length_set]; exact hl)
theorem look_in {α : Type} : ∀ {l : List (Str × α)} {y : Str} {v : α}, (l.map (·.1)).Nodup → (y, v) ∈ l → l.lookup y = some v
  | [], _, _, _, h => by cases h
  | (x, u) :: l, y, v, n, h => by
    rw [List.map_cons, List.nodup_cons] at n
    rcases List.mem_cons.mp h with e | h
    · cases e
      simp [List.lookup]
    · have hne : (y == x) = false := beq_eq_false_iff_ne.mpr fun z => n.1 (by
        rw [← z]
        exact List.mem_map.mpr ⟨(y, v), h, rfl⟩)
      simp only [List.lookup, hne]
      exact look_in n.2 h
/-! ### the lambda's scope -/
/-- its parameters, captured names, globals -/
structure LamP (sc scope : Scope) (ps : List Str) : Prop where
  kind : scope.kind = .function
  co : scope.isCoroutine = false
  gen : scope.isGenerator = false
  nd : ps.Nodup
  own : ∀ y ∈ scope.names, y.2 ≠ .cell ∧ (y.2 = .local → y.1 ∈ ps)
  par : ∀ x ∈ ps, scope.names.lookup x = some .local
  free : ∀ y ∈ scope.names, y.2 = .free → sc.names.lookup y.1 = some .cell ∨ sc.names.lookup y.1 = some .free
def lamPB (sc scope : Scope) (ps : List Str) : Bool :=
  decide (scope.kind = .function) && (!scope.isCoroutine && (!scope.isGenerator && (decide ps.Nodup && (scope.names.all (fun y => !decide (y.2 = .cell) && (!decide (y.2 = .local) || ps.contains y.1)) && (ps.all (fun x => decide (scope.names.lookup x = some .local)) &&
    scope.names.all (fun y => !decide (y.2 = .free) || (decide (sc.names.lookup y.1 = some .cell) || decide (sc.names.lookup y.1 = some .free))))))))
theorem lamP_by {sc scope : Scope} {ps : List Str} (h : lamPB sc scope ps = true) : LamP sc scope ps := by
  unfold lamPB at h
  simp only [Bool.and_eq_true, Bool.or_eq_true, Bool.not_eq_true', decide_eq_true_eq, decide_eq_false_iff_not, List.all_eq_true] at h
  obtain ⟨h1, h2, h3, h4, h5, h6, h7⟩ := h
  refine ⟨h1, h2, h3, h4, fun y hy => ⟨(h5 y hy).1, fun e => ?_⟩, h6, fun y hy e => ?_⟩
  · rcases (h5 y hy).2 with z | z
    · exact absurd e z
    · simpa using z
  · rcases h7 y hy with z | z
    · exact absurd e z
    · exact z
theorem LamP.cells {X : Cx} {scope : Scope} {ps : List Str} (S : LamP X.env.scope scope ps) (ok : X.Ok) : ∀ y ∈ scope.names, y.2 = .free → ∃ c, X.env.cells.lookup y.1 = some c := fun y hy e =>
  (S.free y hy e).elim (fun k => ok.has _ (.inl k)) fun k => ok.has _ (.inr k)
section
variable {X : Cx} {pins : List (Addr × PySem.Obj)} {σ : L2.St} {H HZ : Hp} {s t : Shared}
/-- the lambda's frame is entered at t, with values for its parameters -/
theorem lam_in {A : Around} {outer : List PySem.Env} {E : XK} {scope : Scope} {f c' : Addr} {g : Heap} {tk : Nat} {ps : List Str} {pi : List Nat} {us : List Value} {vs : List V} (I : Inv X pins σ H s) (S : LamP X.env.scope scope ps) (hN : X.N.Nodup)
    (hpi : ∀ (k : Nat) (x : Str), ps[k]? = some x → ∃ i, pi[k]? = some i ∧ X.N[i]? = some x) (hnd : pi.Nodup) (hlen : pi.length = ps.length) (r : Vals vs us) (hus : us.length = ps.length)
    (e0 : Env0 X.prog X.w X.K X.mg X.base A outer t HZ) (hd : A.handled = none) (un : Un (frs X.stack) [] H HZ s.heap t.heap)
    (hns : g.Ns t.heap.objs.size fun y => (ps.zip us).reverse.lookup y) (kp : ∀ b o, t.heap.get? b = some o → g.get? b = some o) :
    Inv (LamX.lamCx X A outer t HZ E scope f c') [] (setL pi vs σ) HZ { t with heap := g, toks := tk } := by
  have cells := S.cells I.ok
  have inX : ∀ {y c}, (cloFrom X.env.cells scope.names []).lookup y = some c → X.env.cells.lookup y = some c := fun {y c} e => by
    rcases cloFrom_mem (PySem.mem_of_lookup e) with hm | ⟨h1, h2⟩
    · cases hm
    · obtain ⟨d, hd⟩ := cells _ h1 rfl
      have hd : X.env.cells.lookup y = some d := hd
      have ecd : c = d := by
        rw [h2, hd] <;> rfl
      rw [ecd]
      exact hd
  have has : ∀ {y}, scope.names.lookup y = some .free → ∃ c, (cloFrom X.env.cells scope.names []).lookup y = some c := fun {y} hl =>
    mem_lookup (cloFrom_has (cells := X.env.cells) (acc := []) (PySem.mem_of_lookup hl))
  have keepC : ∀ {c : Addr} {v : Option Value}, H c = none → s.heap.IsCell c v → g.IsCell c v := fun {c v} n ⟨o, ho, hv⟩ => by
    obtain ⟨sl, q⟩ := un.any ho n (by simp)
    exact ⟨_, kp _ _ q, hv⟩
  have noEx : ∀ b : Addr, b ∉ (LamX.lamCx X A outer t HZ E scope f c').ex := fun b z => absurd (show b ∈ ([] : List Addr) from z) (by simp)
  refine ⟨⟨e0.mod, S.kind, rfl, rfl, Nat.le_refl _, fun y z c e1 e2 => I.ok.inj y z c (inX e1) (inX e2), fun y hy => ?_, fun y c z _ => ?_, fun _ => hd, Around.frames_deeper e0.frames, .inr ⟨rfl, rfl⟩, fun b z => absurd z (noEx b), e0.bs, e0.bsz, fun b _ _ => noEx b,
      fun b z => absurd z (noEx b), e0.funs, e0.frf⟩,
    rfl, e0.bare, Un.kept kp, ⟨_, hns, fun i y v e1 e2 e3 => ?_⟩, fun y c e => ?_, e0.hok.fresh (Nat.le_refl _), fun y c e => ?_, fun q hq => absurd (show q ∈ ([] : List (Addr × PySem.Obj)) ++ [] from hq) (by simp), e0.hok.kept kp, (setL_len _ _ _).trans I.len⟩
  · have hy : scope.names.lookup y = some .cell ∨ scope.names.lookup y = some .free := hy
    rcases hy with hy | hy
    · exact absurd rfl (S.own _ (PySem.mem_of_lookup hy)).1
    · exact has hy
  · have z : false = true := z
    cases z
  · have e1 : X.N[i]? = some y := e1
    have e3 : Vis scope y := e3
    rcases e3 with k | k | k
    · have hy : y ∈ ps := (S.own _ (PySem.mem_of_lookup k)).2 rfl
      obtain ⟨n, hn⟩ := List.getElem?_of_mem hy
      obtain ⟨j, hj1, hj2⟩ := hpi n y hn
      have eij : i = j := (List.getElem?_inj (List.getElem?_eq_some_iff.mp e1).1 hN).mp (e1.trans hj2.symm)
      have hl : n < ps.length := (List.getElem?_eq_some_iff.mp hn).1
      have hv : n < vs.length := by rw [r.length, hus]; exact hl
      have q := setL_at (σ := σ) hnd hj1 (List.getElem?_eq_getElem hv) (by
        rw [I.len]
        exact (List.getElem?_eq_some_iff.mp hj2).1)
      rw [← eij, e2] at q
      have ev : v = vs[n] := Option.some.inj (Option.some.inj q)
      obtain ⟨u, hu, ru⟩ := r.get (List.getElem?_eq_getElem hv)
      refine ⟨u, by rw [ev]; exact ru, .inl ⟨k, look_in ?_ (List.mem_reverse.mpr (List.mem_of_getElem? (i := n) (List.getElem?_zip_eq_some.mpr ⟨hn, hu⟩)))⟩⟩
      rw [List.map_reverse]
      refine (List.reverse_perm _).symm.nodup ?_
      rw [List.map_fst_zip (by omega)]
      exact S.nd
    · exact absurd rfl (S.own _ (PySem.mem_of_lookup k)).1
    · have hni : i ∉ pi := fun z => by
        obtain ⟨n, hn⟩ := List.getElem?_of_mem z
        have hl : n < ps.length := by rw [← hlen]; exact (List.getElem?_eq_some_iff.mp hn).1
        obtain ⟨j, hj1, hj2⟩ := hpi n _ (List.getElem?_eq_getElem hl)
        rw [hn] at hj1
        cases hj1
        rw [e1] at hj2
        have e := S.par ps[n] (List.getElem_mem hl)
        rw [← Option.some.inj hj2, k] at e
        cases e
      rw [setL_no hni] at e2
      obtain ⟨m, hn, hl⟩ := I.loc
      have hf := S.free _ (PySem.mem_of_lookup k) rfl
      obtain ⟨u, ru, q⟩ := hl i y v e1 e2 (hf.elim (fun k => .inr (.inl k)) fun k => .inr (.inr k))
      obtain ⟨c2, h2⟩ := has k
      refine ⟨u, ru, .inr ⟨.inr k, c2, h2, ?_⟩⟩
      rcases q with ⟨k', _⟩ | ⟨_, c3, e', z⟩
      · have k' : X.env.scope.names.lookup y = some .local := k'
        rcases hf with k2 | k2 <;> rw [show X.env.scope.names.lookup y = _ from k2] at k' <;> cases k'
      · rw [inX h2] at e'
        cases e'
        exact keepC (I.freeC y _ (inX h2)) z
  · obtain ⟨u, z⟩ := I.cell y c (inX e)
    exact ⟨u, keepC (I.freeC y c (inX e)) z⟩
  · obtain ⟨u, o, ho, hv⟩ := I.cell y c (inX e)
    exact un.free c o ho (I.freeC y c (inX e)) (by simp)
end
/-! ### its call -/
/-- contexts that stand over these frames, from this state on -/
structure Over (P : Program) (w : World) (K : PySem.W.Frag) (mg : Str → Option Value) (base : Heap) (fs : List Addr) (s : Shared) (H : Hp) (Z : Cx) : Prop where
  p : Z.prog = P
  w : Z.w = w
  k : Z.K = K
  mg : Z.mg = mg
  b : Z.base = base
  fs : Z.fs = fs
  ex : Z.ex = []
  s : Z.s_0 = s
  h : Z.H_0 = H
/-- the function at f, made at H0, answers as F says -/
def LamRd (Y : Kx) (P : Program) (w : World) (K : PySem.W.Frag) (mg : Str → Option Value) (base : Heap) (fs : List Addr) (s : Shared) (H : Hp) (m0 : Lv) (H0 : Hp) (kl : Nat) (f : Addr) (F : List D → M D) : Prop :=
  ∀ (Z : Cx) (pins : List (Addr × PySem.Obj)) (σ : L2.St) (H1 : Hp) (t : Shared), Over P w K mg base fs s H Z → Inv Z pins σ H1 t →
    PySem.W.FnAt f t.heap ∧ ∀ (W : WX) (us : List Value) (vs : List V) (ds : List D) (m : Lv) (st : Store) (Q : VK), Z.A.guards = some [] → Room kl Z.A → Takes Z W → Tr m0 H0 m H1 → Vals vs us → RS Y m st H1 → RDs Y m H1 ds vs → Post Y (WE W σ) m H1 (F ds st) (kV Y Q) →
      wpAny (model Z.prog Z.w) Z.A (call (.ref f) us) (EP Z pins σ Q) Z.xe t
theorem setAll_env {Y : Kx} {L : Sv} {m : Lv} {H : Hp} (hL : SvOk L) : ∀ {is : List Nat} {ds : List D} {vs : List V} {ρ ρ' : Env} {σ : L2.St}, setAll is ds ρ = some ρ' → RDs Y m H ds vs → REnv Y L m H ρ σ → REnv Y L m H ρ' (setL is vs σ)
  | [], [], vs, ρ, ρ', σ, e, r, re => by
    obtain rfl : vs = [] := r
    cases e
    exact re
  | [], _ :: _, _, _, _, _, e, _, _ => by cases e
  | _ :: _, [], _, _, _, _, e, _, _ => by cases e
  | i :: is, d :: ds, vs, ρ, ρ', σ, e, r, re => by
    obtain ⟨v, r', rfl, h1, h2⟩ := r
    have e : (if i < ρ.length then setAll is ds (ρ.set i (some d)) else none) = some ρ' := e
    by_cases hi : i < ρ.length
    · rw [if_pos hi] at e
      show REnv Y L m H ρ' (setL is r' (σ.set i (some v)))
      exact setAll_env hL e h2 (re.put hL hi (.inl h1))
    · rw [if_neg hi] at e
      cases e
theorem wipe_env {Y : Kx} {L : Sv} {m : Lv} {H : Hp} {σ : L2.St} : ∀ {is : List Nat} {ρ : Env}, REnv Y L m H ρ σ → REnv Y L m H (wipeD ρ is) σ
  | [], _, re => re
  | i :: is, ρ, re => by
    have q := wipe_env (is := is) re
    refine ⟨by rw [← q.len]; simp [wipeD], fun j d e => q.at_ j d ?_⟩
    have e : ((wipeD ρ is).set i none)[j]? = some (some d) := e
    by_cases hij : i = j
    · subst hij
      by_cases hl : i < (wipeD ρ is).length
      · rw [List.getElem?_set_self hl] at e
        cases e
      · rw [List.getElem?_eq_none (by simpa using hl)] at e
        cases e
    · rw [List.getElem?_set_ne hij] at e
      exact e
/-- the evaluator's lambda -/
def lamF (C : Cfg) (ρ : Env) (pi : List Nat) (body : E) : List D → M D := fun ys => match setAll pi ys (wipeD ρ pi) with
  | some ρ' => ev C body ρ'
  | none => bad
theorem lam_rd {Y : Kx} {L : Sv} {C : Cfg} {X : Cx} {pins : List (Addr × PySem.Obj)} {σ : L2.St} {H : Hp} {s : Shared} {f c' : Addr} {pm ctv : Value} {params : Arguments} {body : Expr} {scope : Scope} {ps : List Str} {pi : List Nat} {e : E} {ρ : Env} {m0 : Lv} {st0 : Store} {kl : Nat}
    (hL : SvOk L) (I : Inv X pins σ H s) (S : LamP X.env.scope scope ps) (hN : X.N.Nodup) (hpi : ∀ (k : Nat) (x : Str), ps[k]? = some x → ∃ i, pi[k]? = some i ∧ X.N[i]? = some x) (hnd : pi.Nodup) (hlen : pi.length = ps.length)
    (hf : s.heap.get? f = some (PySem.W.kla_obj "<lambda>" (X.env.qual ++ "<lambda>") params body scope (cloFrom X.env.cells scope.names []) pm c' ctv)) (hfn : H f = none) (hfr : f ∉ frs X.stack) (hco : H c' = some (LamX.CodeO c' (X.env.qual ++ "<lambda>"))) (rs : RS Y m0 st0 H) (re : REnv Y L m0 H ρ σ)
    (hbind : ∀ us : List Value, us.length = ps.length → bindArgs (PySem.W.kla_fn "<lambda>" (X.env.qual ++ "<lambda>") params body scope (cloFrom X.env.cells scope.names []) pm (.ref c') ctv) ⟨us, []⟩ = pure (ps.zip us))
    (hbody : ∀ (A : Around) (outer : List PySem.Env) (t : Shared) (H1 : Hp) (E : XK), A.guards = some [] → Room (kl + 1) A → PE (LamX.lamCx X A outer t H1 E scope f c') body (tE Y L (fun cls dx _ H2 => E cls dx H2) C e)) :
    LamRd Y X.prog X.w X.K X.mg X.base (frs X.stack) s H m0 H (kl + 1) f (lamF C ρ pi e) := by
  intro Z pinsZ σZ H1 t ov J
  obtain ⟨zp, zw, zk, zm, zb, zf, zx, zs, zh⟩ := ov
  have un : Un (frs X.stack) [] H H1 s.heap t.heap := by
    have q := J.base
    rw [zf, zx, zs, zh] at q
    exact q
  have at_f : t.heap.get? f = some (PySem.W.kla_obj "<lambda>" (X.env.qual ++ "<lambda>") params body scope (cloFrom X.env.cells scope.names []) pm c' ctv) := un.keep f _ hf hfn hfr (fun z => nomatch (show f ∈ ([] : List Addr) from z))
  refine ⟨⟨_, _, _, _, at_f⟩, fun W us vs ds m st Q hg hr tk tr r rs1 rd p => ?_⟩
  unfold lamF at p
  cases es : setAll pi ds (wipeD ρ pi) with
  | none =>
    rw [es] at p
    exact p.elim
  | some ρ' =>
    rw [es] at p
    have hds : ds.length = pi.length := setAll_len es
    have hvs : vs.length = ps.length := by rw [rd.length, hds, hlen]
    have hus : us.length = ps.length := by rw [← hvs]; exact r.length.symm
    have cm : c' ∉ m0 := fun z => by
      obtain ⟨u, h1, h2⟩ := rs.there z
      rw [hco] at h1
      cases h1
      cases h2
    obtain ⟨hc1, _⟩ := tr.keep c' _ hco cm rfl
    obtain ⟨⟨oc, cvs, tk0, hoc, hdc, hvc⟩, _, _⟩ := J.hok c' _ hc1
    have env' := setAll_env hL es rd (wipe_env (is := pi) (re.tr hL tr))
    have rc : codeAny (model Z.prog Z.w) Z.A (.call (.ref f) ⟨us, []⟩) (CR (L2.CX Z.prog Z.w) Z.stack Z.prog Z.w H1 t Q (WE W σZ)) t := by
      refine PySem.W.kla_callFunE hr.depth at_f rfl S.co S.gen rfl ⟨c', oc, cvs, tk0, rfl, hoc, hdc, hvc⟩ ?_
      rw [hbind us hus]
      refine wpAny_pure (wpAny_newFunctionEnv (fun y hy => (S.own y hy).1) (fun y hy => S.par y.1 (List.of_mem_zip hy).1) (fun g hns hsb => ⟨J.nolimit.fresh _ hsb, ?_⟩) S.kind)
      show codeAny _ _ (.expr body (LamX.lamEnv X scope t.heap.objs.size f c')) _ _
      have kp : ∀ b o, t.heap.get? b = some o → g.get? b = some o := fun b o z => hsb.extBut b o (Nat.ne_of_lt (Heap.lt_size z)) (Heap.get?_push_of_some _ z)
      have e0 : Env0 X.prog X.w X.K X.mg X.base Z.A Z.stack t H1 := by
        have q := J.env0
        rw [zp, zw, zk, zm, zb] at q
        exact q
      have JJ := lam_in (E := WE W σZ) (c' := c') (f := f) (tk := t.toks + (ps.zip us).length) I S hN hpi hnd hlen r hus e0 hr.hd un hns kp
      have hb := (hbody Z.A Z.stack t H1 (WE W σZ) hg hr).run [] _ _ H1 Q JJ ⟨m, ρ', st, rs1, env', p⟩
      rw [zp, zw]
      refine PySem.W.kla_codeExpr (wpAny_mono hb (fun v s' hq => ?_) fun e s' hq => hq)
      obtain ⟨u, H', J', rv, q⟩ := hq
      exact ⟨u, H', J'.os, J'.bare, J'.base, J'.hok, rv, q⟩
    refine wpAny_call (codeAny_mono rc fun z s' hq => ?_)
    cases z with
    | error e => exact passAt tk σZ pinsZ H1 t e s' J hq
    | ok fl =>
      cases fl with
      | ret u => exact J.after hq
      | _ => exact False.elim hq
/-! ### its parameters -/
def lamAB (params : Arguments) (ps : List Str) : Bool := params.posonlyargs.isEmpty && (params.vararg.isNone && (params.kwonlyargs.isEmpty && (params.kw_defaults.isEmpty && (params.kwarg.isNone && (params.defaults.isEmpty && decide (params.args.map (·.arg) = ps))))))
theorem zip_all {α β : Type} [BEq α] [LawfulBEq α] : ∀ {ps : List α} {us : List β}, us.length = ps.length → ∀ x ∈ ps, ((ps.zip us).lookup x).isNone = false
  | [], _, _, x, hx => by cases hx
  | p :: ps, [], h, _, _ => by simp at h
  | p :: ps, u :: us, h, x, hx => by
    rw [List.zip_cons_cons, List.lookup_cons]
    by_cases e : x = p
    · subst e
      simp
    · have e2 : (x == p) = false := beq_eq_false_iff_ne.mpr e
      rw [e2]
      exact zip_all (by simpa using h) x ((List.mem_cons.mp hx).resolve_left e)
theorem zip_back {α : Type} {z : List (Str × α)} (n : (z.map (·.1)).Nodup) : (z.map (·.1)).filterMap (fun x => (z.lookup x).map fun v => (x, v)) = z := by
  have e : ∀ (f : Str × α → Option (Str × α)) (l : List (Str × α)), (∀ p ∈ l, f p = some p) → l.filterMap f = l := fun f l => by
    induction l with
    | nil => exact fun _ => rfl
    | cons a l ih => exact fun h => by rw [List.filterMap_cons, h a (.head _), ih fun p hp => h p (.tail _ hp)]
  rw [List.filterMap_map]
  refine e _ z fun p hp => ?_
  simp only [Function.comp]
  rw [look_in n (show (p.1, p.2) ∈ z from hp)]
  rfl
theorem lamAB_ok {params : Arguments} {ps : List Str} (h : lamAB params ps = true) (nd : ps.Nodup) : (∀ env : PySem.Env, defaultsOf params env = ([], [])) ∧
    ∀ (q : Str) (body : Expr) (scope : Scope) (cl : List (Str × Addr)) (pm cv ctv : Value) (us : List Value), us.length = ps.length → bindArgs (PySem.W.kla_fn "<lambda>" q params body scope cl pm cv ctv) ⟨us, []⟩ = pure (ps.zip us) := by
  obtain ⟨po, as, va, ko, kd, ka, df⟩ := params
  unfold lamAB at h
  simp only [Bool.and_eq_true, List.isEmpty_iff, Option.isNone_iff_eq_none, decide_eq_true_eq] at h
  obtain ⟨rfl, rfl, rfl, rfl, rfl, rfl, rfl⟩ := h
  refine ⟨fun env => rfl, fun q body scope cl pm cv ctv us hl => ?_⟩
  have hf : ((as.map (·.arg)).filter fun n => (((as.map (·.arg)).zip us).lookup n).isNone) = [] := by
    refine List.filter_eq_nil_iff.mpr fun n hn => ?_
    rw [zip_all hl n hn]
    exact Bool.noConfusion
  have hlt : ¬ us.length > (as.map (·.arg)).length := by omega
  have hlt2 : ¬ as.length < us.length := by
    rw [List.length_map] at hl
    omega
  have tk : ∀ k : Nat, List.take ((as.map (·.arg)).length - (List.drop k ([] : List Value)).length) (as.map (·.arg)) = as.map (·.arg) := fun k => by
    rw [List.drop_nil, List.length_nil, Nat.sub_zero, List.take_length]
  have zb := zip_back (z := (as.map (·.arg)).zip us) (by rw [List.map_fst_zip (by omega)]; exact nd)
  rw [List.map_fst_zip (by omega)] at zb
  unfold bindArgs
  simp only [PySem.W.kla_fn, List.map_nil, List.nil_append, List.forIn_nil, pure_bind, seqItems?, Option.getD_none, tk, hf, List.isEmpty_nil, Bool.not_true, List.zip_nil_right, notAStandIn]
  simp [hlt, hlt2, hf, notAStandIn, tk]
  rw [List.filterMap_map] at zb
  rw [zb]
/-! ### the name that holds it -/
def LmOk (Y : Kx) (C : Cfg) (lm : Option Nat) (X : Cx) (L : Sv) : Prop := match lm with
  | none => True
  | some i => C.lam = none ∨ ∃ (F : List D → M D) (f : Addr) (m0 : Lv) (H0 : Hp) (kl : Nat), C.lam = some F ∧ (∀ (m : Lv) (H : Hp) (j : Nat) (v : V), L i m H (.lam j) v → v = .ref f ∧ Tr m0 H0 m H) ∧ LamRd Y X.prog X.w X.K X.mg X.base X.fs X.s_0 X.H_0 m0 H0 kl f F ∧ X.ex = [] ∧ Room kl X.A
theorem LmOk.tr {Y : Kx} {C : Cfg} {lm : Option Nat} {X : Cx} {L : Sv} (h : LmOk Y C lm X L) {pn : List (Addr × PySem.Obj)} {xe : Value → Shared → Prop} : LmOk Y C lm (X.tr pn xe) L := by
  cases lm with
  | none => trivial
  | some i => exact h
/-- a(e, ..), where a is the parameter that holds the lambda -/
theorem pe_lamc {Y : Kx} {L : Sv} {W : WX} {C : Cfg} {X : Cx} {i : Nat} {a : Str} {p pos : Pos} {args : List Expr} {es : Es} (hL : SvOk L) (lm : LmOk Y C (some i) X L) (hN : X.N[i]? = some a) (hv : Vis X.env.scope a) (hd : (a == ("__debug__" : Str)) = false) (hcd : (a == ("__classdict__" : Str)) = false)
    (gd : X.A.guards = some []) (tk : Takes X W) (ha : PA X args (tA Y L W C es)) (hes : args = [] → es = .nil) (hst : ∀ e r, args = e :: r → starEach (e :: r) X.env = (false, eval e X.env) :: starEach r X.env ∧ (backTo pos (starEach r X.env)).any (·.1) = false) :
    PE X (.Call (.Name a p) args [] pos) (tE Y L W C (.lamc i es)) := by
  refine ⟨fun pins s σ H Q I h => ?_⟩
  obtain ⟨m, ρ, st, rs, re, q⟩ := h
  have hx : ∃ (j : Nat) (F : List D → M D), ρ[i]? = some (some (.lam j)) ∧ C.lam = some F ∧ Post Y (fun c d H' => W c d σ H') m H ((do let xs ← evs C es ρ; F xs : M D) st) (kV Y Q) := by
    have q : Post Y (fun c d H' => W c d σ H') m H ((match ρ[i]? with
      | some (some (.lam _)) => match C.lam with
        | some f => do let xs ← evs C es ρ; f xs
        | none => bad
      | _ => bad : M D) st) (kV Y Q) := q
    cases ej : ρ[i]? with
    | none =>
      rw [ej] at q
      exact q.elim
    | some o =>
      rw [ej] at q
      cases o with
      | none => exact q.elim
      | some d =>
        cases d with
        | lam j =>
          cases eF : C.lam with
          | none =>
            have q : Post Y (fun c d H' => W c d σ H') m H ((match C.lam with
              | some f => do let xs ← evs C es ρ; f xs
              | none => bad : M D) st) (kV Y Q) := q
            rw [eF] at q
            exact q.elim
          | some F =>
            have q : Post Y (fun c d H' => W c d σ H') m H ((match C.lam with
              | some f => do let xs ← evs C es ρ; f xs
              | none => bad : M D) st) (kV Y Q) := q
            rw [eF] at q
            exact ⟨j, F, rfl, rfl, q⟩
        | _ => exact q.elim
  obtain ⟨j, F, ej, eF, q⟩ := hx
  rcases lm with z | ⟨F', f, m0, H0, kl, e1, hl, rd, hex, hr⟩
  · rw [eF] at z
    cases z
  rw [eF] at e1
  cases e1
  obtain ⟨v, ev, hv2⟩ := re.at_ i _ ej
  have hv3 : L i m H (.lam j) v := hv2.resolve_left fun z => z
  obtain ⟨rfl, t0⟩ := hl m H j v hv3
  have ov : Over X.prog X.w X.K X.mg X.base X.fs X.s_0 X.H_0 X := ⟨rfl, rfl, rfl, rfl, rfl, rfl, hex, rfl, rfl⟩
  refine wpAny_Call_Name_kw (thn ((pe_var (pos := p) (i := i) hN hv hd hcd).run pins s σ H (fun v H1 => v = .ref f ∧ H1 = H) I ⟨.ref f, ev, rfl, rfl⟩) fun u s1 ⟨v, H1, I1, r1, q1⟩ => ?_)
  obtain ⟨e2, e3⟩ := q1
  subst e2
  rw [e3] at I1
  obtain rfl : u = Value.ref f := r1
  have qa : tA Y L W C es σ H fun vs H2 => ∃ (m2 : Lv) (st2 : Store) (ds : List D), Tr m0 H0 m2 H2 ∧ RS Y m2 st2 H2 ∧ RDs Y m2 H2 ds vs ∧ Post Y (WE W σ) m2 H2 (F ds st2) (kV Y Q) :=
    ⟨m, ρ, st, rs, re, q.bind.imp fun xs m1 st1 H2 x rs2 q2 vs hvs => ⟨m1, st1, xs, t0.trans x.toTr, rs2, hvs, q2⟩⟩
  have fin : ∀ {us : List Value} {s2 : Shared} {vs : List V} {H2 : Hp}, Inv X pins σ H2 s2 → Vals vs us → (∃ (m2 : Lv) (st2 : Store) (ds : List D), Tr m0 H0 m2 H2 ∧ RS Y m2 st2 H2 ∧ RDs Y m2 H2 ds vs ∧ Post Y (WE W σ) m2 H2 (F ds st2) (kV Y Q)) → PySem.W.FnAt f s2.heap ∧ wpAny (model X.prog X.w) X.A (call (.ref f) us) (EP X pins σ Q) X.xe s2 := fun {us s2 vs H2} I2 r ⟨m2, st2, ds, tr, rs2, rd2, q2⟩ => by
    obtain ⟨fa, go⟩ := rd X pins σ H2 s2 ov I2
    exact ⟨fa, go W us vs ds m2 st2 Q gd hr tk tr r rs2 rd2 q2⟩
  cases args with
  | nil =>
    obtain ⟨fa, _⟩ := rd X pins σ H s1 ov I1
    have e := hes rfl
    subst e
    have q : Post Y (WE W σ) m H (F [] st) (kV Y Q) := q
    exact PySem.W.callWith_F0 fa (fin I1 (us := []) (vs := []) .nil ⟨m, st, [], t0, rs, rfl, q⟩).2
  | cons y ys =>
    obtain ⟨s1', s2'⟩ := hst y ys rfl
    obtain ⟨fa, _⟩ := rd X pins σ H s1 ov I1
    exact PySem.W.callWith_F fa (thn (ha.run pos pins s1 σ H _ I1 qa) fun us s2 ⟨vs, H2, I2, r, q2⟩ => fin I2 r q2) s1' s2'
/-! ### a def that gets a lambda -/
structure FnL (Y : Kx) (P : Program) (w : World) (K : PySem.W.Frag) (mg : Str → Option Value) (base : Heap) (kA kl : Nat) (a : Addr) (fd : FuncData) (ps : List Str) (run : List D → (List D → M D) → M D) : Prop where
  len : ∀ (ds : List D) (F : List D → M D) (st : Store) (W : Wx) (m : Lv) (H : Hp) (k : D → Lv → Store → Hp → Prop), Post Y W m H (run ds F st) k → ds.length + 1 = ps.length
  go : ∀ (A : Around) (out : List PySem.Env) (s : Shared) (H : Hp) (args : Args) (us : List Value) (vs : List V) (ds : List D) (m : Lv) (st : Store) (f : Addr) (F : List D → M D) (Q : VK) (E : XK), Room kA A → A.guards = some [] → Env0 P w K mg base A out s H →
    BindsTo s fd args (ps.zip (us ++ [.ref f])) → Vals vs us → RS Y m st H → RDs Y m H ds vs → LamRd Y P w K mg base (frs out) s H m H kl f F → Post Y E m H (run ds F st) (kV Y Q) → codeAny (model P w) A (.call (.ref a) args) (CR (L2.CX P w) out P w H s Q E) s
section
variable {Y : Kx} {L : Sv} {W : WX} {C : Cfg} {X : Cx} {a : Addr} {fd : FuncData} {ps lps : List Str} {g kA kl : Nat} {t : Addr × Addr × Str} {params : Arguments} {body : Expr} {scope : Scope} {lpos pos : Pos} {pi : List Nat} {e : E}
/-- what a lambda's making asks -/
structure LamMk (Y : Kx) (L : Sv) (C : Cfg) (X : Cx) (t : Addr × Addr × Str) (params : Arguments) (body : Expr) (scope : Scope) (lps : List Str) (pi : List Nat) (e : E) (kl : Nat) : Prop where
  tb : LamX.TabB X.base X.mg t.1 t.2.1
  code : X.env.code = .ref t.1
  q : t.2.2 = X.env.qual ++ "<lambda>"
  mem : t ∈ Y.tbs
  un : ∀ u ∈ Y.tbs, u.2.1 = t.2.1 → u.2.2 = t.2.2
  sc : LamP X.env.scope scope lps
  ab : lamAB params lps = true
  nd : X.N.Nodup
  ix : ∀ (k : Nat) (x : Str), lps[k]? = some x → ∃ i, pi[k]? = some i ∧ X.N[i]? = some x
  pn : pi.Nodup
  pl : pi.length = lps.length
  body : ∀ (f c' : Addr) (A : Around) (outer : List PySem.Env) (s : Shared) (H1 : Hp) (E : XK), A.guards = some [] → Room (kl + 1) A → PE (LamX.lamCx X A outer s H1 E scope f c') body (tE Y L (fun cls dx _ H2 => E cls dx H2) C e)
theorem lam_core {pins : List (Addr × PySem.Obj)} {σ : L2.St} {H : Hp} {s : Shared} {m : Lv} {ρ : Env} {st : Store} {us : List Value} {vs : List V} {ds : List D} {Q : VK} (hL : SvOk L) (Z : LamMk Y L C X t params body scope lps pi e kl)
    (F : FnL Y X.prog X.w X.K X.mg X.base kA (kl + 1) a fd ps fun ds G => C.call g (ds ++ [.lam 0]) (some G)) (hrA : Room kA X.A) (gd : X.A.guards = some []) (hb : Binds X.K fd ps []) (tk : Takes X W)
    (I : Inv X pins σ H s) (rs : RS Y m st H) (re : REnv Y L m H ρ σ) (r : Vals vs us) (rd : RDs Y m H ds vs) (p : Post Y (WE W σ) m H (C.call g (ds ++ [.lam 0]) (some (lamF C ρ pi e)) st) (kV Y Q)) :
    wpAny (model X.prog X.w) X.A (eval (.Lambda params body scope lpos) X.env) (fun u s1 => X.K.In s1.heap ∧ wpAny (model X.prog X.w) X.A (call (.ref a) (us ++ [u])) (EP X pins σ Q) X.xe s1) X.xe s := by
  obtain ⟨hd0, hbd⟩ := lamAB_ok Z.ab Z.sc.nd
  have inT : (t.2.1, X.env.qual ++ "<lambda>") ∈ Y.tbs.map fun u => u.2 := List.mem_map.mpr ⟨t, Z.mem, by rw [← Z.q]⟩
  have unT : ∀ p ∈ Y.tbs.map (fun u => u.2), p.1 = t.2.1 → p.2 = X.env.qual ++ "<lambda>" := fun p hp e => by
    obtain ⟨u, hu, rfl⟩ := List.mem_map.mp hp
    rw [← Z.q]
    exact Z.un u hu e
  refine LamX.lam_make2 I Z.tb Z.code inT unT rs.tb (hd0 _) (Z.sc.cells I.ok) fun f c' pm ctv H1 s' I1 eN T1 hf hfn hfr hco => ?_
  have stay : ∀ q u, H q = some u → ntbl u = true → H1 q = some u := fun q u h n => eN q u h fun z e => by
    rw [e] at n
    cases n
  have same : ∀ q ∈ m, H1 q = H q := fun q hq => by
    obtain ⟨u, h1, h2⟩ := rs.there hq
    rw [h1]
    refine stay q u h1 ?_
    cases u <;> first
      | rfl
      | cases h2
  have x : Ext m H m H1 := .same stay fun q hq => same q (.inr hq)
  have rs1 : RS Y m st H1 := rs.ext x.toTr same T1
  have lrd := lam_rd (e := e) (ρ := ρ) (kl := kl) hL I1 Z.sc Z.nd Z.ix Z.pn Z.pl hf hfn hfr hco rs1 (re.ext hL x) (fun us hl => hbd _ _ _ _ _ _ _ us hl) (Z.body f c')
  have p1 := p.ext x
  have hl : (us ++ [Value.ref f]).length = ps.length := by
    rw [List.length_append, List.length_singleton, ← F.len _ _ _ _ _ _ _ p, ← rd.length, r.length]
  have b2 := hb s' (us ++ [.ref f]) I1.kIn (by rw [List.append_nil]; exact hl)
  rw [List.append_nil] at b2
  refine ⟨I1.kIn, wpAny_call (codeAny_mono (F.go X.A X.stack s' H1 ⟨us ++ [.ref f], []⟩ us vs ds m st f _ Q (WE W σ) hrA gd I1.env0 b2 r rs1 (rd.ext x) lrd p1) fun z s2 hq => ?_)⟩
  cases z with
  | error e => exact passAt tk σ pins H1 s' e s2 I1 hq
  | ok fl =>
    cases fl with
    | ret u => exact I1.after hq
    | _ => exact False.elim hq
/-- x(lambda ..) -/
theorem pe_calll0 {x : Str} {p : Pos} (hL : SvOk L) (Z : LamMk Y L C X t params body scope lps pi e kl) (F : FnL Y X.prog X.w X.K X.mg X.base kA (kl + 1) a fd ps fun ds G => C.call g (ds ++ [.lam 0]) (some G)) (hrA : Room kA X.A) (gd : X.A.guards = some []) (gl : Gl X x) (hm : X.mg x = some (.ref a))
    (hk : PySem.W.keepIn X.K (.ref a) = true) (hb : Binds X.K fd ps []) (tk : Takes X W) (hdb : (x == ("__debug__" : Str)) = false) : PE X (.Call (.Name x p) [.Lambda params body scope lpos] [] pos) (tE Y L W C (.calll g .nil pi e)) := by
  refine ⟨fun pins s σ H Q I h => wpAny_Call_Name_kw (ld_glob I gl hm ?_ hdb)⟩
  obtain ⟨m, ρ, st, rs, re, q⟩ := h
  have q : Post Y (WE W σ) m H (C.call g ([] ++ [.lam 0]) (some (lamF C ρ pi e)) st) (kV Y Q) := q
  refine PySem.W.callWith_K (h₀ := X.base) I.ok.mod.kin hk ?_ (by rfl) (by rfl)
  show wpAny _ _ (spliced ((false, eval (.Lambda params body scope lpos) X.env) :: backTo pos (starEach [] X.env))) _ _ s
  exact Calls.spliced_cons (wpAny_mono (lam_core (us := []) (vs := []) (ds := []) hL Z F hrA gd hb tk I rs re .nil rfl q) (fun u s1 hq => Calls.spliced_nil hq) fun _ _ z => z)
/-- x(e0, lambda ..) -/
theorem pe_calll1 {x : Str} {p : Pos} {y : Expr} {e0 : E} (hL : SvOk L) (Z : LamMk Y L C X t params body scope lps pi e kl) (F : FnL Y X.prog X.w X.K X.mg X.base kA (kl + 1) a fd ps fun ds G => C.call g (ds ++ [.lam 0]) (some G)) (hrA : Room kA X.A) (gd : X.A.guards = some []) (gl : Gl X x) (hm : X.mg x = some (.ref a))
    (hk : PySem.W.keepIn X.K (.ref a) = true) (hb : Binds X.K fd ps []) (tk : Takes X W) (hdb : (x == ("__debug__" : Str)) = false) (hy : PE X y (tE Y L W C e0)) (hs : ∀ r : List Expr, starEach (y :: r) X.env = (false, eval y X.env) :: starEach r X.env) : PE X (.Call (.Name x p) [y, .Lambda params body scope lpos] [] pos) (tE Y L W C (.calll g (.cons e0 .nil) pi e)) := by
  refine ⟨fun pins s σ H Q I h => wpAny_Call_Name_kw (ld_glob I gl hm ?_ hdb)⟩
  obtain ⟨m, ρ, st, rs, re, q⟩ := h
  have q : Post Y (WE W σ) m H ((do let z ← ev C e0 ρ; C.call g ([z] ++ [.lam 0]) (some (lamF C ρ pi e)) : M D) st) (kV Y Q) := by
    have e1 : (ev C (.calll g (.cons e0 .nil) pi e) ρ st) = ((do let z ← ev C e0 ρ; C.call g ([z] ++ [.lam 0]) (some (lamF C ρ pi e)) : M D) st) := by
      show ((((ev C e0 ρ st).then fun z => bnd (evs C .nil ρ) fun xs => ret (z :: xs))).then _) = (ev C e0 ρ st).then _
      cases ev C e0 ρ st <;> rfl
    rw [← e1]
    exact q
  refine PySem.W.callWith_K (h₀ := X.base) I.ok.mod.kin hk ?_ (hs _) (by rfl)
  rw [hs]
  show wpAny _ _ (spliced ((false, eval y X.env) :: backTo pos (starEach [.Lambda params body scope lpos] X.env))) _ _ s
  have qy : tE Y L W C e0 σ H fun v H1 => ∃ (m1 : Lv) (st1 : Store) (d : D), RS Y m1 st1 H1 ∧ REnv Y L m1 H1 ρ σ ∧ RD Y m1 H1 d v ∧ Post Y (WE W σ) m1 H1 (C.call g ([d] ++ [.lam 0]) (some (lamF C ρ pi e)) st1) (kV Y Q) :=
    ⟨m, ρ, st, rs, re, q.bind.imp fun z m1 st1 H1 x rs1 q1 v hv => ⟨m1, st1, z, rs1, re.ext hL x, hv, q1⟩⟩
  refine Calls.spliced_cons (thn (hy.run pins s σ H _ I qy) fun u s1 ⟨v, H1, I1, r1, m1, st1, d, rs1, re1, rd1, q1⟩ => ?_)
  show wpAny _ _ (spliced ((false, eval (.Lambda params body scope lpos) X.env) :: backTo pos (starEach [] X.env))) _ _ s1
  exact Calls.spliced_cons (wpAny_mono (lam_core (us := [u]) (vs := [v]) (ds := [d]) hL Z F hrA gd hb tk I1 rs1 re1 (.cons r1 .nil) ⟨v, [], rfl, rd1, rfl⟩ q1) (fun w s2 hq => Calls.spliced_nil hq) fun _ _ z => z)
end
end Mp
end
section
set_option autoImplicit false
set_option Elab.async false
set_option linter.all false
set_option maxRecDepth 100000
set_option maxHeartbeats 2000000
/-! MpKw: calls whose arguments are all given by names. -/
namespace Mp
open PySem PySem.Spec PyProof.Rows L2
/-- how a def takes values by the names ks: pm puts them in the parameters' order -/
def KwB (K : PySem.W.Frag) (fd : FuncData) (ps ks : List Str) (pm : List Nat) : Prop := ∀ (s : Shared) (ws us : List Value), K.In s.heap → ws.length = ks.length → pick ws pm = some us → BindsTo s fd ⟨[], ks.zip ws⟩ (ps.zip us)
theorem kwb_of {K : PySem.W.Frag} {x qual : Str} {params : Arguments} {body : List Stmt} {scope : Scope} {kws : List (Str × V)} {f : Addr} {fd : FuncData} {ps ks : List Str} {pm : List Nat} (F : FunD K x qual params body scope [] kws f fd)
    (h : ∀ (kV doc pm' : Value) (an : Option Addr) (cdv ct : Value) (ws us : List Value), ws.length = ks.length → pick ws pm = some us → bindArgs (PySem.W.fnOf x qual params body scope .none kV doc pm' an cdv ct) ⟨[], ks.zip ws⟩ = pure (ps.zip us)) : KwB K fd ps ks pm := by
  intro s ws us _ hl hp
  obtain ⟨oc, od, dV, kV, doc, pm', an, cdv, ct, osl, rfl, lk, hcd, hD, hK⟩ := F.ex
  rcases hD with ⟨_, rfl⟩ | ⟨e, _⟩
  · exact .of_eq (h kV doc pm' an cdv ct ws us hl hp)
  · exact absurd rfl e
theorem pick_vals {vs : List V} {us : List Value} (r : Vals vs us) : ∀ {pm : List Nat} {vs' : List V}, pick vs pm = some vs' → ∃ us', pick us pm = some us' ∧ Vals vs' us'
  | [], _, h => by
    cases h
    exact ⟨[], rfl, .nil⟩
  | i :: is, vs', h => by
    unfold pick at h
    split at h
    · rename_i x r' e1 e2
      cases h
      obtain ⟨u, hu, ru⟩ := r.get e1
      obtain ⟨us', h1, h2⟩ := pick_vals r e2
      refine ⟨u :: us', ?_, .cons ru h2⟩
      unfold pick
      rw [hu, h1]
    · cases h
theorem pick_rds {Y : Kx} {m : Lv} {H : Hp} {ds : List D} {vs : List V} (r : RDs Y m H ds vs) : ∀ {pm : List Nat} {ds' : List D}, pick ds pm = some ds' → ∃ vs', pick vs pm = some vs' ∧ RDs Y m H ds' vs'
  | [], _, h => by
    cases h
    exact ⟨[], rfl, rfl⟩
  | i :: is, ds', h => by
    unfold pick at h
    split at h
    · rename_i x r' e1 e2
      cases h
      obtain ⟨v, hv, rv⟩ := r.get e1
      obtain ⟨vs', h1, h2⟩ := pick_rds r e2
      refine ⟨v :: vs', ?_, ⟨v, vs', rfl, rv, h2⟩⟩
      unfold pick
      rw [hv, h1]
    · cases h
theorem evs_cnt {C : Cfg} {ρ : Env} : ∀ (es : Es) (st st1 : Store) (xs : List D), es.plain = true → evs C es ρ st = .ok xs st1 → xs.length = es.cnt
  | .nil, st, st1, xs, _, e => by
    have e : (R.ok ([] : List D) st : R (List D)) = .ok xs st1 := e
    cases e
    rfl
  | .cons a r, st, st1, xs, h, e => by
    have e : (ev C a ρ st).then (fun x => bnd (evs C r ρ) fun ys => ret (x :: ys)) = .ok xs st1 := e
    have h : r.plain = true := h
    cases e1 : ev C a ρ st with
    | ok x s2 =>
      rw [e1] at e
      have e : (evs C r ρ s2).then (fun ys => ret (x :: ys)) = .ok xs st1 := e
      cases e2 : evs C r ρ s2 with
      | ok ys s3 =>
        rw [e2] at e
        have e : (R.ok (x :: ys) s3 : R (List D)) = .ok xs st1 := e
        have q := evs_cnt r s2 s3 ys h e2
        cases e
        show ys.length + 1 = r.cnt + 1
        rw [q]
      | err c d s3 =>
        rw [e2] at e
        cases e
      | bad =>
        rw [e2] at e
        cases e
    | err c d s2 =>
      rw [e1] at e
      cases e
    | bad =>
      rw [e1] at e
      cases e
  | .star _ _, _, _, _, h, _ => by cases h
section
variable {Y : Kx} {L : Sv} {W : WX} {C : Cfg} {X : Cx} {a : Addr} {fd : FuncData} {ps ks : List Str} {g k : Nat} {pm : List Nat}
/-- x(k = e, ..) -/
theorem pe_callk {x : Str} {p pos : Pos} {kws : List Keyword} {es : Es} (hL : SvOk L) (F : FnG X.prog X.w X.K X.mg X.base k a fd ps (spC Y C g)) (hr : Room k X.A) (gd : X.A.guards = some []) (gl : Gl X x) (hm : X.mg x = some (.ref a)) (hk : PySem.W.keepIn X.K (.ref a) = true) (hb : KwB X.K fd ps ks pm) (tk : Takes X W)
    (hdb : (x == ("__debug__" : Str)) = false) (hkw : PK X kws (tA Y L W C es)) (hall : (backToKw pos (keywordEach kws X.env)).all (·.1.isSome) = true) (hks : (backToKw pos (keywordEach kws X.env)).filterMap (·.1) = ks) (hpn : es.plain = true) (hlen : es.cnt = ks.length)
    (hpl : ((backTo pos (starEach [] X.env)).any (·.1) || (backToKw pos (keywordEach kws X.env)).any (·.1.isNone)) = false) : PE X (.Call (.Name x p) [] kws pos) (tE Y L W C (.callk g pm es)) := by
  refine ⟨fun pins s σ H Q I h => wpAny_Call_Name_kw (ld_glob I gl hm ?_ hdb)⟩
  obtain ⟨m, ρ, st, rs, re, q⟩ := h
  have q : Post Y (WE W σ) m H ((do
      let xs ← evs C es ρ
      match pick xs pm with
      | some ys => C.call g ys none
      | none => bad : M D) st) (kV Y Q) := q
  have qa : tA Y L W C es σ H fun vs H2 => vs.length = ks.length ∧ ∃ (vs' : List V), pick vs pm = some vs' ∧ spC Y C g vs' H2 Q (WE W σ) := by
    refine ⟨m, ρ, st, rs, re, ?_⟩
    have cn := fun (xs : List D) (st1 : Store) => evs_cnt (C := C) (ρ := ρ) es st st1 xs hpn
    have q2 := q.bind
    revert cn q2
    cases evs C es ρ st with
    | ok xs st1 =>
      intro cn q2 m1 H1 x1 rs1 vs hv
      have q3 := q2 m1 H1 x1 rs1
      dsimp only at q3
      have hl : xs.length = ks.length := (cn xs st1 rfl).trans hlen
      refine ⟨hv.length.trans hl, ?_⟩
      cases e : pick xs pm with
      | none =>
        rw [e] at q3
        exact q3.elim
      | some ys =>
        rw [e] at q3
        obtain ⟨vs', h1, h2⟩ := pick_rds hv e
        exact ⟨vs', h1, m1, st1, ys, rs1, h2, q3⟩
    | err c d st1 => exact fun _ q2 => q2
    | bad => exact fun _ q2 => q2
  refine PySem.W.callWith_KW0 (h₀ := X.base) I.ok.mod.kin hk hall (thn (hkw.run pos pins s σ H _ I qa) fun ws s2 ⟨zs, H2, I2, rz, l2, vs', e, sp⟩ => ⟨I2.kIn, ?_⟩) hpl
  rw [hks]
  obtain ⟨us, e1, e2⟩ := pick_vals rz e
  refine wpAny_call (codeAny_mono (F.go X.A X.stack s2 H2 ⟨[], ks.zip ws⟩ us vs' Q (WE W σ) hr gd I2.env0 (hb s2 ws us I2.kIn (rz.length.symm.trans l2) e1) e2 sp) fun z s' hq => ?_)
  cases z with
  | error e => exact passAt tk σ pins H2 s2 e s' I2 hq
  | ok fl =>
    cases fl with
    | ret u => exact I2.after hq
    | _ => exact False.elim hq
end
end Mp
end
section
set_option autoImplicit false
set_option Elab.async false
set_option linter.all false
set_option maxRecDepth 100000
set_option maxHeartbeats 1000000
/-! MpOwn: == and != by a class's own __eq__. -/
namespace Mp
open PySem PySem.Spec PyProof.Rows L2
structure Own (K : PySem.W.Frag) (C : Addr) (f : Addr) : Prop where
  eq : PySem.W.findIn K (.ref C) "__eq__" = some (some (.ref f))
  fn : PySem.W.isFn K (.ref f) = true
  ne : PySem.W.findIn K (.ref C) "__ne__" = some (some (.builtin "object.__ne__"))
  top : PySem.W.mroIn K C (.type "object") = some true
section
variable {X : Cx} {k : Nat} {f C : Addr} {fd : FuncData} {ps : List Str} {sp : Sp} {W : WX} {ta tb : TE} {a b : Expr} {pos : Pos}
/-- what may stand on the right -/
def TyOk (K : PySem.W.Frag) (C : Addr) (y : V) (H : Hp) : Prop :=
  y = .non ∨ (∃ b, y = .bl b) ∨ (∃ i, y = .int i) ∨ (∃ s, y = .str s) ∨ ∃ p, y = .ref p ∧ ((∃ vs, SqT K H p vs) ∨ (∃ vs, SqL K H p vs) ∨ ∃ dx fs, H p = some (.ins C dx fs))
theorem nf_none {K : PySem.W.Frag} : PySem.W.notFirst K C (.type "NoneType") = true := by kernel_rfl
theorem nf_bool {K : PySem.W.Frag} : PySem.W.notFirst K C (.type "bool") = true := by kernel_rfl
theorem nf_int {K : PySem.W.Frag} : PySem.W.notFirst K C (.type "int") = true := by kernel_rfl
theorem nf_str {K : PySem.W.Frag} : PySem.W.notFirst K C (.type "str") = true := by kernel_rfl
theorem nf_tup {K : PySem.W.Frag} : PySem.W.notFirst K C (.type "tuple") = true := by kernel_rfl
theorem nf_list {K : PySem.W.Frag} : PySem.W.notFirst K C (.type "list") = true := by kernel_rfl
theorem looks_ref {M : Model} {h : Heap} {p : Addr} {o : PySem.Obj} (e : h.get? p = some o) : PySem.W.Looks M h (typeOf (.ref p)) o.cls := by
  intro A Q E s k q
  exact wpAny_typeOf_ref (k _ _ e) q
theorem ty_looks {pins : List (Addr × PySem.Obj)} {σ : L2.St} {H : Hp} {s : Shared} {y : V} {u : Value} (I : Inv X pins σ H s) (r : RelV y u) (h : TyOk X.K C y H) :
    ∃ tb, PySem.W.Looks (model X.prog X.w) s.heap (typeOf u) tb ∧ PySem.W.notFirst X.K C tb = true := by
  rcases h with rfl | ⟨b, rfl⟩ | ⟨i, rfl⟩ | ⟨z, rfl⟩ | ⟨p, rfl, h⟩
  · cases r
    exact ⟨_, PySem.W.Looks.of_pure rfl, nf_none⟩
  · cases r
    exact ⟨_, PySem.W.Looks.of_pure rfl, nf_bool⟩
  · obtain ⟨t, rfl⟩ := r
    exact ⟨_, PySem.W.Looks.of_pure rfl, nf_int⟩
  · obtain ⟨t, rfl⟩ := r
    exact ⟨_, PySem.W.Looks.of_pure rfl, nf_str⟩
  · cases r
    rcases h with ⟨vs, h⟩ | ⟨vs, h⟩ | ⟨dx, fs, h⟩
    · obtain ⟨its, rv, e, z⟩ := I.tuple h
      obtain ⟨o, ho, hc, _⟩ := e
      exact ⟨_, looks_ref ho, hc ▸ nf_tup⟩
    · obtain ⟨its, rv, e, z⟩ := I.list h
      obtain ⟨o, ho, hc, _⟩ := e.isList
      exact ⟨_, looks_ref ho, hc ▸ nf_list⟩
    · obtain ⟨mA, J, _⟩ := ins_get I.hok h
      obtain ⟨od, J, _⟩ := J.look
      exact ⟨_, J.type, by simp [PySem.W.notFirst]⟩
/-- somewhere below the running body, with room -/
structure Low (X : Cx) (n : Nat) (A : Around) : Prop where
  room : Room n A
  fr : A.frames = X.A.frames
abbrev FinOf (prog : Program) (w : World) (A : Around) (R : Result → Shared → Prop) : Fin → Shared → Prop := fun fin s' => match fin with
  | .done f => R (.ok f) s'
  | .again c' => c'.quiet = true ∧ codeAny (model prog w) A c' R s'
/-- a call from somewhere below -/
theorem run_fngA {A : Around} {pins : List (Addr × PySem.Obj)} {σ : L2.St} {H : Hp} {s : Shared} {Q : VK} {us : List Value} {vs : List V} (F : FnG X.prog X.w X.K X.mg X.base k f fd ps sp) (sb : Low X k A) (hg : A.guards = some []) (hb : Binds X.K fd ps [])
    (tk : Takes X W) (I : Inv X pins σ H s) (r : Vals vs us) (h : sp vs H Q (WE W σ)) : wpAny (model X.prog X.w) A (call (.ref f) us) (EP X pins σ Q) X.xe s := by
  have hl : us.length = ps.length := r.length.symm.trans (F.len _ _ _ _ h)
  have b2 := hb s us I.kIn (by rw [List.append_nil]; exact hl)
  rw [List.append_nil] at b2
  have e0 : Env0 X.prog X.w X.K X.mg X.base A X.stack s H := by
    have e := I.env0
    exact ⟨by rw [sb.fr]; exact e.frames, e.mod, e.bs, e.bsz, e.funs, e.frf, e.hok, e.bare⟩
  refine wpAny_call (codeAny_mono (F.go A X.stack s H ⟨us, []⟩ us vs Q (WE W σ) sb.room hg e0 b2 r h) fun z s' hq => ?_)
  cases z with
  | error e => exact passAt tk σ pins H s e s' I hq
  | ok fl =>
    cases fl with
    | ret u => exact I.after hq
    | _ => exact False.elim hq
/-- what the own == tells -/
def BlK (Q : VK) : VK := fun v H => ∃ t, v = .bl t ∧ Q (.bl t) H
theorem rc_own {pins : List (Addr × PySem.Obj)} {σ : L2.St} {H : Hp} {s : Shared} {Q : VK} {x : Addr} {dx : Addr} {fs : List (Str × V)} {y : V} {u : Value} (O : Own X.K C f) (F : FnG X.prog X.w X.K X.mg X.base k f fd ps sp) (hr : Room k X.A) (hg : X.A.guards = some []) (hb : Binds X.K fd ps [])
    (tk : Takes X W) (I : Inv X pins σ H s) (hx : H x = some (.ins C dx fs)) (ry : RelV y u) (ty : TyOk X.K C y H) (h : sp [.ref x, y] H (BlK Q) (WE W σ)) :
    wpAny (model X.prog X.w) X.A (richCompare .Eq (.ref x) u) (EP X pins σ Q) X.xe s := by
  obtain ⟨tb, lk, nf⟩ := ty_looks I ry ty
  obtain ⟨mA, J, _⟩ := ins_get I.hok hx
  obtain ⟨od, J, _⟩ := J.look
  obtain ⟨m, hF⟩ := I.fr
  refine PySem.W.cmp_K (op := .Eq) hr.units0 hF I.ok.mod.kin J lk nf O.eq O.fn ?_
  refine thn (run_fng F hr hg hb tk I (us := [.ref x, u]) (vs := [.ref x, y]) (.cons rfl (.cons ry .nil)) h) fun w s2 hq => ?_
  obtain ⟨v, H2, I2, rv, t, ev, q⟩ := hq
  subst ev
  cases rv
  exact show EP X pins σ Q (.bool t) s2 from ⟨.bl t, H2, I2, rfl, q⟩
theorem slot_ne : Slot "object" "__ne__" "object.__ne__" := PySem.F.cmp_object.ne
theorem rc_own_ne {pins : List (Addr × PySem.Obj)} {σ : L2.St} {H : Hp} {s : Shared} {Q : VK} {x : Addr} {dx : Addr} {fs : List (Str × V)} {y : V} {u : Value} (O : Own X.K C f) (F : FnG X.prog X.w X.K X.mg X.base k f fd ps sp) (hr : Room (k + 1) X.A) (hg : X.A.guards = some []) (hb : Binds X.K fd ps [])
    (tk : Takes X W) (I : Inv X pins σ H s) (hx : H x = some (.ins C dx fs)) (ry : RelV y u) (ty : TyOk X.K C y H) (h : sp [.ref x, y] H (BlK fun v H' => ∃ t, v = .bl t ∧ Q (.bl (!t)) H') (WE W σ)) :
    wpAny (model X.prog X.w) X.A (richCompare .NotEq (.ref x) u) (EP X pins σ Q) X.xe s := by
  obtain ⟨tb, lk, nf⟩ := ty_looks I ry ty
  obtain ⟨mA, J, _⟩ := ins_get I.hok hx
  obtain ⟨od, J, _⟩ := J.look
  have X0 : X.K.In s.heap := I.kIn
  have sb : Low X k X.A.in1 := ⟨hr.in1, rfl⟩
  have body : wpAny (model X.prog X.w) X.A.in1 (Builtin.«object.__ne__» ⟨[.ref x, u], []⟩)
      (FinOf X.prog X.w X.A (wants (fun v s' => EP X pins σ Q v s' ∧ ∃ t, v = .bool t) X.xe)) (fun e s' => wants (fun v s' => EP X pins σ Q v s' ∧ ∃ t, v = .bool t) X.xe (.error e) s') s := by
    have key : wpAny (model X.prog X.w) X.A.in1 (callSpecialIfBound? (.ref x) (Str.ofString "__eq__") [u]) (fun r s' => ∃ t, r = some (.bool t) ∧ EP X pins σ Q (.bool !t) s') X.xe s :=
      PySem.W.ifBound_K X0 J O.eq O.fn (thn (run_fngA F sb hg hb tk I (us := [.ref x, u]) (vs := [.ref x, y]) (.cons rfl (.cons ry .nil)) h) fun r s' hq => by
        obtain ⟨v, H2, I2, rv, t, ev, t2, e2, q⟩ := hq
        subst ev
        cases e2
        cases rv
        exact ⟨t, rfl, .bl !t, H2, I2, rfl, q⟩)
    unfold Builtin.«object.__ne__»
    repeat (first
      | with_reducible refine wpAny_cRoomFor hr.in1.units0 ?_
      | with_reducible refine wpAny_bind (m := callSpecialIfBound? (.ref x) (Str.ofString "__eq__") [u]) (wpAny_mono key (fun r s' hq => ?_) fun _ _ e => e)
      | wp_step)
    obtain ⟨t, rfl, q⟩ := hq
    repeat (first | exact ⟨q, _, rfl⟩ | exact wpAny_pure ⟨q, _, rfl⟩ | (refine wpAny_bind (m := truthy (.bool _)) (wpAny_truthy_bool ?_)) | wp_step)
  have one : wpAny (model X.prog X.w) X.A (tryCompare (.ref x) "__ne__" u) (fun r s' => ∃ v, r = some v ∧ EP X pins σ Q v s') X.xe s := by
    unfold tryCompare
    refine wpAny_bind ?_
    simp only [callSpecialIfBound?, bindSpecialIfBound?]
    refine wpAny_holding (wpAny_bind (wpAny_bind (wpAny_bind (J.type.here ((PySem.W.looks_findIn X0 O.ne).here ?_)))))
    simp only [slot_ne.bind]
    refine wpAny_bind (wpAny_askSetting (wpAny_ite ?_))
    have fin : wpAny (model X.prog X.w) X.A (call (.builtin "object.__ne__") ([.ref x] ++ [u]) >>= fun v => pure (some v)) (fun r s' => wpAny (model X.prog X.w) X.A (match r with | some .notImplemented | none => pure none | some v => pure (some v)) (fun r s' => ∃ v, r = some v ∧ EP X pins σ Q v s') X.xe s') X.xe s := by
      refine wpAny_bind (wpAny_mono (Q := fun v s' => EP X pins σ Q v s' ∧ ∃ t, v = .bool t) (wpAny_call (codeAny_call_builtin slot_ne.plain PySem.F.cmpEntry_ne (PySem.W.check_slot PySem.F.cmpKind_ne PySem.F.cmpSplit_ne (J.type.andThen (PySem.W.looks_mroIn X0 O.top)) (PySem.F.cmpArgs_ne _ _) body))) (fun v s' hv => ?_) fun _ _ e => e)
      obtain ⟨q, t, rfl⟩ := hv
      exact wpAny_pure (wpAny_pure ⟨_, rfl, q⟩)
    split
    · exact wpAny_bind (wpAny_pure (wpAny_pure fin))
    · exact wpAny_tryCatch (wpAny_bind (wpAny_pure (wpAny_pure fin)))
  unfold richCompare
  simp only [oneThing_ref]
  refine wpAny_holding (wpAny_bind (wpAny_cRoomFor hr.units0 ?_))
  refine wpAny_bind (J.type.here (wpAny_bind (lk.here ?_)))
  split
  · rename_i q
    have e : PySem.W.subIn X.K tb (.ref C) = some false := by
      rcases Bool.or_eq_true_iff.mp nf with e | e
      · rw [beq_iff_eq.mp e] at q; simp at q
      · exact beq_iff_eq.mp e
    refine wpAny_bind ((PySem.W.looks_subIn X0 e).here ?_)
    simp only [Bool.false_eq_true, if_false]
    refine wpAny_bind (wpAny_mono one (fun r s' z => ?_) fun _ _ e => e)
    obtain ⟨v, rfl, hq⟩ := z
    exact wpAny_pure hq
  · refine wpAny_bind (wpAny_pure ?_)
    simp only [Bool.false_eq_true, if_false]
    refine wpAny_bind (wpAny_mono one (fun r s' z => ?_) fun _ _ e => e)
    obtain ⟨v, rfl, hq⟩ := z
    exact wpAny_pure hq
def tOwn (K : PySem.W.Frag) (C : Addr) (sp : Sp) (W : WX) (ng : Bool) (ta tb : TE) : TE := fun σ H Q => ta σ H fun x H1 => tb σ H1 fun y H2 => ∃ a dx fs, x = .ref a ∧ H2 a = some (.ins C dx fs) ∧ TyOk K C y H2 ∧ sp [x, y] H2 (fun v H3 => ∃ t, v = .bl t ∧ Q (.bl (t != ng)) H3) (WE W σ)
theorem pe_own {ng : Bool} (O : Own X.K C f) (F : FnG X.prog X.w X.K X.mg X.base k f fd ps sp) (hr : Room (k + 1) X.A) (hg : X.A.guards = some []) (hb : Binds X.K fd ps []) (tk : Takes X W) (imp : ∀ vs H Q Q' E, (∀ v H, Q v H → Q' v H) → sp vs H Q E → sp vs H Q' E)
    (ha : PE X a ta) (hb2 : PE X b tb) (hm : behindInMarks (if ng then CmpOp.NotEq else CmpOp.Eq) b = false) : PE X (.Compare a [if ng then CmpOp.NotEq else CmpOp.Eq] [b] pos) (tOwn X.K C sp W ng ta tb) := by
  refine ⟨fun pins s σ H Q I h => wpAny_Compare1 (binT ha hb2 I h fun v u s2 x y H2 I2 rx ry q => ?_) hm⟩
  obtain ⟨p, dx, fs, rfl, hp, ty, q⟩ := q
  cases rx
  cases ng with
  | false =>
    show wpAny (model X.prog X.w) X.A (richCompare .Eq (.ref p) u) _ _ _
    exact rc_own O F (hr.mono (Nat.le_succ _)) hg hb tk I2 hp ry ty (imp _ _ _ _ _ (fun v H ⟨t, e, z⟩ => ⟨t, e, by simpa using z⟩) q)
  | true =>
    show wpAny (model X.prog X.w) X.A (richCompare .NotEq (.ref p) u) _ _ _
    exact rc_own_ne O F hr hg hb tk I2 hp ry ty (imp _ _ _ _ _ (fun v H ⟨t, e, z⟩ => ⟨t, e, t, rfl, by simpa using z⟩) q)
theorem pt_own {ng : Bool} (O : Own X.K C f) (F : FnG X.prog X.w X.K X.mg X.base k f fd ps sp) (hr : Room (k + 1) X.A) (hg : X.A.guards = some []) (hb : Binds X.K fd ps []) (tk : Takes X W) (imp : ∀ vs H Q Q' E, (∀ v H, Q v H → Q' v H) → sp vs H Q E → sp vs H Q' E)
    (ha : PE X a ta) (hb2 : PE X b tb) (hm : behindInMarks (if ng then CmpOp.NotEq else CmpOp.Eq) b = false) : PT X (.Compare a [if ng then CmpOp.NotEq else CmpOp.Eq] [b] pos) (tTest (tOwn X.K C sp W ng ta tb)) := by
  refine ⟨fun pins s σ H Q I h => ?_⟩
  refine wpAny_isTrue_Compare1 (thn (ha.run pins s σ H _ I h) fun v s1 ⟨x, H1, I1, rx, q1⟩ => thn (hb2.run pins s1 σ H1 _ I1 q1) fun u s2 ⟨y, H2, I2, ry, q2⟩ => ?_) hm
  obtain ⟨p, dx, fs, rfl, hp, ty, q⟩ := q2
  cases rx
  have fin : wpAny (model X.prog X.w) X.A (compareOp (if ng then CmpOp.NotEq else CmpOp.Eq) (.ref p) u) (EP X pins σ fun z H3 => ∃ k, z = .bl k ∧ Q k H3) X.xe s2 := by
    cases ng with
    | false =>
      show wpAny (model X.prog X.w) X.A (richCompare .Eq (.ref p) u) _ _ _
      exact rc_own O F (hr.mono (Nat.le_succ _)) hg hb tk I2 hp ry ty (imp _ _ _ _ _ (fun v H ⟨t, e, z⟩ => ⟨t, e, by simpa using z⟩) q)
    | true =>
      show wpAny (model X.prog X.w) X.A (richCompare .NotEq (.ref p) u) _ _ _
      exact rc_own_ne O F hr hg hb tk I2 hp ry ty (imp _ _ _ _ _ (fun v H ⟨t, e, z⟩ => ⟨t, e, t, rfl, by simpa using z⟩) q)
  refine thn fin fun c s3 ⟨z, H3, I3, r3, k, e, q3⟩ => ?_
  subst e
  cases r3
  exact wpAny_truthy_bool ⟨H3, I3, q3⟩
end
/-- __eq__ -/
def eqNm : Sx := [95, 95, 101, 113, 95, 95]
section
variable {Y : Kx} {L : Sv} {W : WX} {C : Cfg} {σ : L2.St} {H : Hp} {Q : VK} {K : PySem.W.Frag}
theorem spC_imp {f : Nat} {vs : List V} {Q Q' : VK} {E : XK} (h : ∀ v H, Q v H → Q' v H) (z : spC Y C f vs H Q E) : spC Y C f vs H Q' E := by
  obtain ⟨m, st, ds, rs, rd, p⟩ := z
  exact ⟨m, st, ds, rs, rd, p.imp fun d m' st' H' _ _ q v hv => h _ _ (q v hv)⟩
theorem ty_ok {K : PySem.W.Frag} (hK : Y.K = K) {m : Lv} {st : Store} {c : Nat} {y : D} {v : V} (rs : RS Y m st H) (rd : RD Y m H y v) (h : rightOk c y st = .ok true st) : TyOk K (Y.cA c) v H := by
  subst hK
  unfold rightOk at h
  cases y with
  | non => exact .inl rd
  | bl b => exact .inr (.inl ⟨b, rd⟩)
  | int i => exact .inr (.inr (.inl ⟨i, rd⟩))
  | str s => exact .inr (.inr (.inr (.inl ⟨_, rd⟩)))
  | tup xs =>
    obtain ⟨p, vs, e, f, _⟩ := rd
    exact .inr (.inr (.inr (.inr ⟨p, e, .inl ⟨vs, f.sq⟩⟩)))
  | lst xs =>
    obtain ⟨p, vs, e, f, _⟩ := rd
    exact .inr (.inr (.inr (.inr ⟨p, e, .inr (.inl ⟨vs, f.sq⟩)⟩)))
  | obj j =>
    obtain ⟨p, e, hp⟩ := rd
    cases ej : st[j]? with
    | none =>
      dsimp only at h
      rw [ej] at h
      cases h
    | some o =>
      have q := rs.at_ j p o hp ej
      dsimp only at h
      rw [ej] at h
      cases o with
      | lst xs =>
        obtain ⟨vs, h1, _⟩ := q
        exact .inr (.inr (.inr (.inr ⟨p, e, .inr (.inl ⟨vs, .inl (.inl h1)⟩)⟩)))
      | ins k fs =>
        obtain ⟨dx, gs, h1, _⟩ := q
        have hk : k = c := by
          by_cases hk : k = c
          · exact hk
          · simp [hk] at h
        exact .inr (.inr (.inr (.inr ⟨p, e, .inr (.inr ⟨dx, gs, hk ▸ h1⟩)⟩)))
      | _ => cases h
  | _ => cases h
theorem right_eq (c : Nat) (y : D) (st : Store) : ∃ b, rightOk c y st = .ok b st := ⟨_, rfl⟩
theorem oeq_post (hK : Y.K = K) {Z : Wx} {m : Lv} {st : Store} {ng : Bool} {c f : Nat} {x y : D} {v w : V} {Qb : Bool → Hp → Prop} (rs : RS Y m st H) (hv : RD Y m H x v) (hw : RD Y m H y w) (p : Post Y Z m H (oeqD C ng c f x y st) fun b _ _ H' => Qb b H') :
    ∃ a dx fs, v = .ref a ∧ H a = some (.ins (Y.cA c) dx fs) ∧ TyOk K (Y.cA c) w H ∧ spC Y C f [v, w] H (fun u H3 => ∃ t, u = .bl t ∧ Qb (t != ng) H3) Z := by
  unfold oeqD at p
  cases x with
  | obj i =>
    have p := Post.bind p
    unfold look at p
    cases e : st[i]? with
    | none =>
      rw [e] at p
      exact p.elim
    | some t =>
      rw [e] at p
      have p := p m H (.refl _ _) rs
      cases t with
      | ins k fs =>
        have p : Post Y Z m H ((if k = c then (rightOk c y >>= fun q => if q then (C.call f [.obj i, y] none >>= fun z => match z with | .bl t => ret (t != ng) | _ => bad) else bad) else bad : M Bool) st) (fun b _ _ H' => Qb b H') := p
        by_cases hk : k = c
        · subst hk
          rw [if_pos rfl] at p
          obtain ⟨q, eq⟩ := right_eq k y st
          have p := Post.bind p
          rw [eq] at p
          have p := p m H (.refl _ _) rs
          cases q with
          | false => exact p.elim
          | true =>
            rw [if_pos rfl] at p
            obtain ⟨pa, dx, gs, ev, hp, h1, h2⟩ := ins_ok rs hv e
            refine ⟨pa, dx, gs, ev, h1, ty_ok hK rs hw eq, m, st, [.obj i, y], rs, ⟨v, [w], rfl, hv, w, [], rfl, hw, rfl⟩, p.bind.imp fun z m3 st3 H3 x3 rs3 p u hu => ?_⟩
            cases z with
            | bl t =>
              have hu : u = .bl t := hu
              exact ⟨t, hu, Post.here (k := fun b _ _ H' => Qb b H') rs3 p⟩
            | _ => exact p.elim
        · rw [if_neg hk] at p
          exact p.elim
      | _ => exact p.elim
  | _ => exact p.elim
theorem s_oeq (hL : SvOk L) (hK : Y.K = K) {ng : Bool} {c f : Nat} {a b : E} (h : tE Y L W C (.oeq ng c f a b) σ H Q) : tOwn K (Y.cA c) (spC Y C f) W ng (tE Y L W C a) (tE Y L W C b) σ H Q :=
  (tR.seq hL (g := fun ρ x => ev C b ρ >>= fun y => oeqD C ng c f x y >>= fun t => ret (.bl t)) (fun ρ => by first | (simp only [ev]; rfl) | simp only [ev]) h).imp fun x m1 st1 H1 rs1 ⟨ρ, re, p⟩ v hv =>
    ⟨m1, ρ, st1, rs1, re, p.bind.imp fun y m2 st2 H2 x2 rs2 p w hw => oeq_post (Qb := fun t H' => Q (.bl t) H') hK rs2 (Rp.ext x2 _ _ hv) hw (p.bind.imp fun t m3 st3 H3 x3 rs3 p => Post.val (d := D.bl t) rs3 p (show RD Y m3 H3 (D.bl t) (V.bl t) from rfl))⟩
theorem q_oeq {Q : Bool → Hp → Prop} (hL : SvOk L) (hK : Y.K = K) {ng : Bool} {c f : Nat} {a b : E} (h : tT Y L W C (.oeq ng c f a b) σ H Q) : tTest (tOwn K (Y.cA c) (spC Y C f) W ng (tE Y L W C a) (tE Y L W C b)) σ H Q :=
  (tR.seq hL (g := fun ρ x => ev C b ρ >>= fun y => oeqD C ng c f x y) (fun ρ => by first | (simp only [tst]; rfl) | simp only [tst]) h).imp fun x m1 st1 H1 rs1 ⟨ρ, re, p⟩ v hv =>
    ⟨m1, ρ, st1, rs1, re, p.bind.imp fun y m2 st2 H2 x2 rs2 p w hw => by
      obtain ⟨a, dx, fs, e1, e2, e3, z⟩ := oeq_post (Qb := Q) hK rs2 (Rp.ext x2 _ _ hv) hw p
      exact ⟨a, dx, fs, e1, e2, e3, spC_imp (fun u H3 ⟨t, e, q⟩ => ⟨t, e, _, rfl, q⟩) z⟩⟩
end
end Mp
end
section
set_option autoImplicit false
set_option Elab.async false
set_option linter.all false
set_option maxRecDepth 100000
set_option maxHeartbeats 2000000
/-! MpChk: the small syntax against the text. -/
namespace Mp
open PySem PySem.Spec PyProof.Rows L2
/-! ### shapes -/
def isStar : Expr → Bool
  | .Starred .. => true
  | _ => false
theorem star_no {e : Expr} {es : List Expr} {env : PySem.Env} (h : isStar e = false) : starEach (e :: es) env = (false, eval e env) :: starEach es env := by
  cases e <;> first
    | rfl
    | cases h
def noStars (es : List Expr) : Bool := es.all fun e => !isStar e
theorem star_plain {pos : Pos} {env : PySem.Env} : ∀ {es : List Expr}, noStars es = true → (backTo pos (starEach es env)).any (·.1) = false
  | [], _ => rfl
  | e :: es, h => by
    have h1 : isStar e = false := by
      have := List.all_eq_true.mp h e (List.mem_cons_self ..)
      simpa using this
    have h2 : noStars es = true := List.all_eq_true.mpr fun x hx => List.all_eq_true.mp h x (List.mem_cons_of_mem _ hx)
    rw [star_no h1]
    show (false || (backTo pos (starEach es env)).any (·.1)) = false
    rw [star_plain h2]
    rfl
/-- no call of a name without arguments -/
def baseOk : Expr → Bool
  | .Call (.Name _ _) [] [] _ => false
  | _ => true
theorem base_ok {o : Expr} {n : Str} {env : PySem.Env} (h : baseOk o = true) : attributeBase o n env (eval o env) = eval o env := by
  unfold attributeBase
  split
  · cases h
  · rfl
def plainIx : Expr → Bool
  | .Slice .. => false
  | _ => true
theorem plain_ix {b : Expr} (h : plainIx b = true) : PlainIx b := by
  intro o i
  cases b <;> first
    | rfl
    | cases h
def plainTest : Expr → Bool
  | .BoolOp .. => false
  | .IfExp .. => false
  | .Compare .. => false
  | .UnaryOp op _ _ => op != .Not
  | _ => true
theorem plain_test {e : Expr} {env : PySem.Env} (h : plainTest e = true) : ∀ whole, isTrue e env whole = (do let v ← whole; standAt e.pos; holding [v] (truthy v)) := by
  intro whole
  cases e with
  | UnaryOp op x p =>
    cases op <;> first
      | rfl
      | cases h
  | BoolOp => cases h
  | IfExp => cases h
  | Compare => cases h
  | _ => rfl
def notSet : Expr → Bool
  | .Set .. => false
  | _ => true
theorem not_set {e : Expr} {env : PySem.Env} (h : notSet e = true) : ∀ x, foldedSetIterable e env x = pure x := by
  intro x
  cases e <;> first
    | rfl
    | cases h
def isComp : Expr → Bool
  | .ListComp .. => true
  | .SetComp .. => true
  | .DictComp .. => true
  | _ => false
theorem no_swap {e : Expr} {t : Option Expr} {n : Nat} {env : PySem.Env} (h : isComp e = false) : swapsWith e t n env = pure false := by
  cases e <;> first
    | rfl
    | cases h
theorem no_swap_attr {e o : Expr} {f : Str} {p : Pos} {n : Nat} {env : PySem.Env} : swapsWith e (some (.Attribute o f p)) n env = pure false := by
  cases e <;> rfl
def isTupE : Expr → Bool
  | .Tuple .. => true
  | _ => false
theorem no_swaps {tg e : Expr} {env : PySem.Env} (h : isTupE e = false) : swappedStores [tg] e env = pure none := by
  cases tg <;> cases e <;> first
    | rfl
    | cases h
/-- four names or more: no stores from the right -/
def longT : Expr → Bool
  | .Tuple ts _ _ => decide (4 ≤ ts.length)
  | _ => false
/-- a name that is not local, or what is no name: no stores from the right -/
def mixT (sc : Scope) : Expr → Bool
  | .Tuple ts _ _ => ts.any fun | .Name x _ => !(sc.names.lookup x == some .local) | _ => true
  | _ => false
/-- constants alone -/
def foldT : Expr → Bool
  | .Tuple vs _ _ => vs.all (foldedForSure 8)
  | _ => false
theorem filterMap_lt {α β : Type} {f : α → Option β} : ∀ {l : List α}, (l.any fun x => (f x).isNone) = true → (l.filterMap f).length < l.length
  | x :: l, h => by
    rw [List.any_cons, Bool.or_eq_true] at h
    cases e : f x with
    | none =>
      rw [List.filterMap_cons, e]
      exact Nat.lt_succ_of_le (List.length_filterMap_le ..)
    | some y =>
      rw [List.filterMap_cons, e]
      rw [e] at h
      exact Nat.succ_lt_succ (filterMap_lt (h.resolve_left (by simp)))
theorem no_swapl {tg e : Expr} {env : PySem.Env} (h : (!isTupE e || (longT tg || (mixT env.scope tg || foldT e))) = true) : swappedStores [tg] e env = pure none := by
  by_cases h1 : isTupE e = false
  · exact no_swaps h1
  · have h2 : (longT tg || (mixT env.scope tg || foldT e)) = true := by simpa [h1] using h
    cases tg with
    | Tuple ts k p =>
      cases e with
      | Tuple vs k2 p2 =>
        rcases Bool.or_eq_true_iff.mp h2 with h3 | h2
        · have h3 : 4 ≤ ts.length := of_decide_eq_true h3
          have c : (!(ts.length == 2 || ts.length == 3) || vs.length != ts.length || env.blockKind != .function) = true := by
            have a1 : (ts.length == 2) = false := beq_eq_false_iff_ne.mpr (by omega)
            have a2 : (ts.length == 3) = false := beq_eq_false_iff_ne.mpr (by omega)
            simp [a1, a2]
          unfold swappedStores
          dsimp only
          rw [if_pos c]
        · unfold swappedStores
          dsimp only
          split
          · rfl
          · split
            · rfl
            · split
              · rfl
              · rename_i hn
                rcases Bool.or_eq_true_iff.mp h2 with h3 | h3
                · exfalso
                  apply hn
                  rw [Bool.or_eq_true]
                  left
                  refine bne_iff_ne.mpr (Nat.ne_of_lt (filterMap_lt ?_))
                  obtain ⟨t, ht, h4⟩ := List.any_eq_true.mp h3
                  refine List.any_eq_true.mpr ⟨t, ht, ?_⟩
                  cases t with
                  | Name x px =>
                    have h4 : (!(env.scope.names.lookup x == some .local)) = true := h4
                    have h5 : (env.kindOf x == some .local) = false := by
                      rw [Bool.not_eq_true'] at h4
                      exact h4
                    dsimp only
                    rw [h5]
                    rfl
                  | _ => rfl
                · rw [if_pos (show vs.all (foldedForSure 8) = true from h3)]
      | _ => exact absurd rfl h1
    | _ =>
      cases e with
      | Tuple vs k2 p2 => first
        | rfl
        | (unfold swappedStores; dsimp only; split
           · rfl
           · split
             · rfl
             · split
               · rfl
               · rw [if_pos (show vs.all (foldedForSure 8) = true by simpa [longT, mixT, foldT] using h2)])
      | _ => exact absurd rfl h1
def nodbg (x : Str) : Bool := !(x == ("__debug__" : Str)) && !(x == ("__classdict__" : Str)) && !(x == ("__name__" : Str))
theorem nodbg1 {x : Str} (h : nodbg x = true) : (x == ("__debug__" : Str)) = false := by
  unfold nodbg at h
  simp only [Bool.and_eq_true, Bool.not_eq_true'] at h
  exact h.1.1
theorem nodbg2 {x : Str} (h : nodbg x = true) : (x == ("__classdict__" : Str)) = false := by
  unfold nodbg at h
  simp only [Bool.and_eq_true, Bool.not_eq_true'] at h
  exact h.1.2
theorem nodbg3 {x : Str} (h : nodbg x = true) : x ≠ "__name__" := by
  unfold nodbg at h
  simp only [Bool.and_eq_true, Bool.not_eq_true'] at h
  exact beq_eq_false_iff_ne.mp h.2
/-! ### names -/
def kindB (sc : Scope) (x : Str) (k : NameKind) : Bool := decide (sc.names.lookup x = some k)
def visB (sc : Scope) (x : Str) : Bool := kindB sc x .local || (kindB sc x .cell || kindB sc x .free)
theorem vis_ok {sc : Scope} {x : Str} (h : visB sc x = true) : Vis sc x := by
  unfold visB kindB at h
  simp only [Bool.or_eq_true, decide_eq_true_eq] at h
  exact h
/-- a name that may be stored -/
def locB (F : Str → Bool) (sc : Scope) (x : Str) : Bool := kindB sc x .local || (kindB sc x .cell && F x)
def nmB (N : List Str) (i : Nat) (x : Str) : Bool := decide (N[i]? = some x)
/-- the table: what the module's names are -/
structure Tb where
  free : List Str
  fns : List (Str × Nat)
  mks : List (Str × Nat × Nat)
  mts : List (Nat × Sx × Nat)
  globs : List (Str × Nat)
  dics : List (Str × Nat)
  cls : List (Str × Nat)
  xc0 : List (Str × Nat)
  xc1 : List (Str × Nat × Sx)
  xnm : List (Str × Nat)
  xfs : List (Nat × Sx)
  /-- defs whose last parameter takes a lambda -/
  lfns : List (Str × Nat)
  /-- calls by names: the def's name, its index, the names as written, their places in the parameters' order -/
  kws : List (Str × Nat × List Str × List Nat)
  /-- classes with an own == -/
  owns : List Nat
/-- what they are in the written part -/
structure Stat (T : Tb) (Y : Kx) (C : Cfg) (P : Program) (w : World) (K : PySem.W.Frag) (mg : Str → Option Value) (base : Heap) (k : Nat) : Prop where
  hK : Y.K = K
  xat : C.xat = Y.xat
  free : ∀ x ∈ T.free, mg x = none
  fns : ∀ p ∈ T.fns, ∃ (a : Addr) (fd : FuncData) (ps : List Str), mg p.1 = some (.ref a) ∧ PySem.W.keepIn K (.ref a) = true ∧ Binds K fd ps [] ∧ FnG P w K mg base k a fd ps (spC Y C p.2)
  mks : ∀ p ∈ T.mks, ∃ (a : Addr) (fd : FuncData) (ps : List Str), mg p.1 = some (.ref (Y.cA p.2.1)) ∧ Mk K (Y.cA p.2.1) a ∧ Binds K fd ps [] ∧ FnG P w K mg base k a fd ps (spC Y C p.2.2)
  mts : ∀ p ∈ T.mts, ∃ (a : Addr) (fd : FuncData) (ps : List Str), Cls K (Y.cA p.1) ∧ Meth K (Y.cA p.1) (S p.2.1) a ∧ Binds K fd ps [] ∧ FnG P w K mg base k a fd ps (spC Y C p.2.2)
  globs : ∀ p ∈ T.globs, ∃ (u : Value) (v : V) (d : D), mg p.1 = some u ∧ RelV v u ∧ C.glob p.2 = some d ∧ ∀ m H, RD Y m H d v
  dics : ∀ p ∈ T.dics, ∃ (a : Addr) (es : Array DictEntry) (n : Nat) (kvs : List (Sx × D)), mg p.1 = some (.ref a) ∧ KDict K w a es n ∧ C.dic p.2 = some kvs ∧ DicOk Y K a kvs
  fld : ∀ c f, C.fld c f = true → Cls K (Y.cA c) ∧ NoAttr K (Y.cA c) (S f)
  clk : ClsK Y K C.cls
  cls : ∀ p ∈ T.cls, mg p.1 = some (.ref (Y.cA p.2)) ∧ C.cls p.2 = true
  xc0 : ∀ p ∈ T.xc0, mg p.1 = some (.ref (Y.cA p.2)) ∧ Y.xc p.2 = true ∧ PySem.W.excIn K (Y.cA p.2) [.type "ValueError", .type "Exception", .type "BaseException", .type "object"] "ValueError.__new__" = true ∧ PySem.W.keepIn K (.ref (Y.cA p.2)) = true ∧ PySem.W.subIn K (.ref (Y.cA p.2)) (.type "BaseException") = some true ∧ PySem.W.typeIn K (.ref (Y.cA p.2)) = some (.type "type")
  xc1 : ∀ p ∈ T.xc1, mg p.1 = some (.ref (Y.cA p.2.1)) ∧ Y.xc p.2.1 = true ∧ Y.xat p.2.1 = some p.2.2 ∧ MpE.Fld3 (S p.2.2) ∧ ∃ fI qn, MpE.XiT K (Y.cA p.2.1) fI (S p.2.2) qn
  xnm : ∀ p ∈ T.xnm, (mg p.1 = some (Y.ckU p.2) ∨ (mg p.1 = none ∧ bootBuiltins p.1 = some (Y.ckU p.2))) ∧ ExmOk Y C K p.2 ∧ ∀ c, Y.xc c = true → PySem.W.kitOne K (.ref (Y.cA c)) (Y.ckU p.2) = some (C.sub c p.2)
  xT : ∀ c, Y.xc c = true → XcT K (Y.cA c)
  xinj : ∀ c d, Y.xc c = true → Y.xc d = true → Y.cA c = Y.cA d → c = d
  xfs : ∀ p ∈ T.xfs, Y.xc p.1 = true → Y.xat p.1 = some p.2 → PySem.W.findIn K (.ref (Y.cA p.1)) (S p.2) = some none
  xfa : ∀ c f, Y.xc c = true → Y.xat c = some f → (c, f) ∈ T.xfs
  lfn : ∀ p ∈ T.lfns, ∃ (a : Addr) (fd : FuncData) (ps : List Str), mg p.1 = some (.ref a) ∧ PySem.W.keepIn K (.ref a) = true ∧ Binds K fd ps [] ∧ FnL Y P w K mg base (k + 3) (k + 2) a fd ps fun ds G => C.call p.2 (ds ++ [.lam 0]) (some G)
  kws : ∀ p ∈ T.kws, ∃ (a : Addr) (fd : FuncData) (ps : List Str), mg p.1 = some (.ref a) ∧ PySem.W.keepIn K (.ref a) = true ∧ KwB K fd ps p.2.2.1 p.2.2.2 ∧ FnG P w K mg base k a fd ps (spC Y C p.2.1)
  own : ∀ c ∈ T.owns, PySem.W.findIn K (.ref (Y.cA c)) "__ne__" = some (some (.builtin "object.__ne__")) ∧ PySem.W.mroIn K (Y.cA c) (.type "object") = some true
  tbu : ∀ t ∈ Y.tbs, ∀ u ∈ Y.tbs, u.2.1 = t.2.1 → u.2.2 = t.2.2
  tbb : ∀ t ∈ Y.tbs, LamX.TabB base mg t.1 t.2.1
/-- what stands around an expression -/
structure GX (T : Tb) (N : List Str) (sc : Scope) (F : Str → Bool) (hot : Bool) (li : Option Nat) (Y : Kx) (C : Cfg) (k : Nat) (W : WX) (X : Cx) : Prop where
  st : Stat T Y C X.prog X.w X.K X.mg X.base k
  hN : X.N = N
  nd : N.Nodup
  sc : X.env.scope = sc
  fn : ∀ x, F x = true → X.fn x = true
  un : X.A.units + 64 < cLine
  gd : X.A.guards = some []
  calm : hot = false → X.calm = true ∧ Room (k + 1) X.A
  tk : hot = false → Takes X W
  lam : hot = false → ∀ j, li = some j → ∃ t : Addr × Addr × Str, Y.tbs[j]? = some t ∧ X.env.code = .ref t.1 ∧ t.2.2 = X.env.qual ++ "<lambda>" ∧ Room (k + 3) X.A
/-- the name that holds a caught error -/
def XiOk (Y : Kx) (xi : Option Nat) (X : Cx) (L : Sv) : Prop := match xi with
  | none => True
  | some i0 => ∃ (X0 : Cx) (a : Addr) (oe : PySem.Obj) (cls : Value) (dx : Option Addr) (pn : List (Addr × PySem.Obj)) (L' : Sv), X = X0.suite a ((a, oe) :: pn) ∧ Zc cls dx oe ∧ (∃ vs, oe.data = .fields vs) ∧ SvOk L' ∧ L = LX Y a cls dx i0 L'
/-! ### operators, constants -/
def opB : Op → Operator → Bool
  | .add _, .Add => true
  | .sub, .Sub => true
  | .mul, .Mult => true
  | .fdiv, .FloorDiv => true
  | .mod, .Mod => true
  | .pow, .Pow => true
  | _, _ => false
theorem opB_ok {o : Op} {p : Operator} (h : opB o p = true) : p = pyOp o := by cases o <;> cases p <;> first | rfl | cases h
def cmB (o : Cm) (p : CmpOp) : Bool := decide (p = pyCm o)
def constB : D → Const → Bool
  | .non, .none => true
  | .bl a, .bool b => a == b
  | .int i, .int j => decide (i = j)
  | .str s, .str z => decide (S s = z)
  | _, _ => false
theorem const_ok {X : Cx} {Y : Kx} {L : Sv} {W : WX} {C : Cfg} {d : D} {c : Const} {k : Nat} {pos : Pos} (h : constB d c = true) : PE X (.Constant c k pos) (tE Y L W C (.c d)) := by
  unfold constB at h
  split at h
  · exact PE.imp pe_non fun σ H Q q => s_const (d := .non) (v := .non) (fun _ _ => by rfl) q
  · have e := beq_iff_eq.mp h
    subst e
    exact PE.imp pe_bl fun σ H Q q => s_const (d := (.bl _)) (v := (.bl _)) (fun _ _ => by rfl) q
  · have e := of_decide_eq_true h
    subst e
    exact PE.imp pe_int fun σ H Q q => s_const (d := (.int _)) (v := (.int _)) (fun _ _ => by rfl) q
  · have e := of_decide_eq_true h
    subst e
    exact PE.imp pe_str fun σ H Q q => s_const (d := (.str _)) (v := (.str (S _))) (fun _ _ => by rfl) q
  · cases h
/-! ### built-in functions -/
def bnB : Bn → Option (Str × String × Bool)
  | .len => some ("len", "len", false)
  | .abs => some ("abs", "abs", false)
  | .divmod => some ("divmod", "divmod", false)
  | .min2 => some ("min", "min", true)
  | .max2 => some ("max", "max", true)
  | .sum => some ("sum", "sum", true)
  | .all => some ("all", "all", true)
  | .any => some ("any", "any", true)
  | .repr => some ("repr", "repr", false)
  | .sorted _ => some ("sorted", "sorted", false)
  | .minl => some ("min", "min", true)
  | .maxl => some ("max", "max", true)
  | _ => none
def bnT : Bn → Option (Str × String)
  | .int => some ("int", "int")
  | .str => some ("str", "str")
  | .tuple => some ("tuple", "tuple")
  | .list _ => some ("list", "list")
  | _ => none
theorem bnB_ok {X : Cx} {Y : Kx} (hK : Y.K = X.K) (un : X.A.units + 64 < cLine) (gd : X.A.guards = some []) {f : Bn} {n : Str} {id : String} {b : Bool} (h : bnB f = some (n, id, b)) (hc : b = true → X.calm = true) :
    CallR X (.builtin id) (vA Y (bn1 f)) ∧ bootBuiltins n = some (.builtin id) ∧ n ≠ "__name__" ∧ (n == ("__debug__" : Str)) = false := by
  cases f <;> simp only [bnB, Option.some.injEq, Prod.mk.injEq, reduceCtorEq] at h <;> obtain ⟨rfl, rfl, rfl⟩ := h
  · exact ⟨vc_len hK, by decide +kernel, by decide +kernel, by decide +kernel⟩
  · exact ⟨vc_abs, by decide +kernel, by decide +kernel, by decide +kernel⟩
  · exact ⟨vc_divmod, by decide +kernel, by decide +kernel, by decide +kernel⟩
  · exact ⟨vc_min2 (hc rfl), by decide +kernel, by decide +kernel, by decide +kernel⟩
  · exact ⟨vc_max2 (hc rfl), by decide +kernel, by decide +kernel, by decide +kernel⟩
  · exact ⟨vc_minl hK (hc rfl) un, by decide +kernel, by decide +kernel, by decide +kernel⟩
  · exact ⟨vc_maxl hK (hc rfl) un, by decide +kernel, by decide +kernel, by decide +kernel⟩
  · exact ⟨vc_sum hK (hc rfl), by decide +kernel, by decide +kernel, by decide +kernel⟩
  · exact ⟨vc_all hK (hc rfl), by decide +kernel, by decide +kernel, by decide +kernel⟩
  · exact ⟨vc_any hK (hc rfl), by decide +kernel, by decide +kernel, by decide +kernel⟩
  · exact ⟨vc_repr hK gd un, by decide +kernel, by decide +kernel, by decide +kernel⟩
  · exact ⟨vc_sorted hK un, by decide +kernel, by decide +kernel, by decide +kernel⟩
theorem bnT_ok {X : Cx} {Y : Kx} (hK : Y.K = X.K) {f : Bn} {n : Str} {id : String} (h : bnT f = some (n, id)) :
    CallR X (.type id) (vA Y (bn1 f)) ∧ bootBuiltins n = some (.type id) ∧ n ≠ "__name__" ∧ (n == ("__debug__" : Str)) = false := by
  cases f <;> simp only [bnT, Option.some.injEq, Prod.mk.injEq, reduceCtorEq] at h <;> obtain ⟨rfl, rfl⟩ := h
  · exact ⟨vc_int, by decide +kernel, by decide +kernel, by decide +kernel⟩
  · exact ⟨vc_str, by decide +kernel, by decide +kernel, by decide +kernel⟩
  · exact ⟨vc_tuple hK, by decide +kernel, by decide +kernel, by decide +kernel⟩
  · exact ⟨vc_list hK, by decide +kernel, by decide +kernel, by decide +kernel⟩
end Mp
end
section
set_option autoImplicit false
set_option Elab.async false
set_option linter.all false
set_option maxRecDepth 100000
set_option maxHeartbeats 4000000
/-! MpChk2: expressions against the text. -/
namespace Mp
open PySem PySem.Spec PyProof.Rows L2
/-- what is looked at besides -/
structure Ck where
  N : List Str
  sc : Scope
  F : Str → Bool
  hot : Bool
  xi : Option Nat
  /-- the parameter that holds a lambda -/
  lm : Option Nat
  /-- the table of the lambdas that are made here -/
  li : Option Nat
def Ck.gl (c : Ck) (x : Str) : Bool := kindB c.sc x .globalImplicit
def Ck.nm (c : Ck) (i : Nat) (x : Str) : Bool := nmB c.N i x && (visB c.sc x && nodbg x)
def Ck.blk (c : Ck) (scope : Scope) : Ck := { N := c.N, sc := relS scope c.sc, F := fun x => scope.names.lookup x == some .cell, hot := false, xi := none, lm := none, li := none }
/-- in a lambda's body -/
def Ck.lam (c : Ck) (scope : Scope) : Ck := { N := c.N, sc := scope, F := fun _ => false, hot := false, xi := none, lm := none, li := none }
def Ck.nms (c : Ck) (is : List Nat) : List Str := is.map fun i => (c.N[i]?).getD Str.empty
/-- a lambda's parameters and names -/
def lamOkB (c : Ck) (ps : List Nat) (params : Arguments) (scope : Scope) : Bool := c.li.isSome && (lamPB c.sc scope (c.nms ps) && (lamAB params (c.nms ps) && (decide ps.Nodup && ps.all fun i => decide (i < c.N.length))))
/-- names and their places -/
def ownOf (N : List Str) : List Nat → List (Str × Nat)
  | [] => []
  | i :: is => ((N[i]?).getD Str.empty, i) :: ownOf N is
theorem ownOf_snd (N : List Str) : ∀ is : List Nat, (ownOf N is).map (·.2) = is
  | [] => rfl
  | i :: is => by rw [ownOf, List.map_cons, ownOf_snd N is]
def blkB (N : List Str) (sc scope : Scope) (own : List Nat) : Bool :=
  decide (scope.kind = .function) && (scope.names.all (fun y => decide (scope.names.lookup y.1 = some y.2)) && (own.all (fun i => decide (i < N.length)) &&
    (scope.names.all (fun y => !decide (y.2 = .free) || (kindB sc y.1 .cell || kindB sc y.1 .free)) &&
    scope.names.all (fun y => !(decide (y.2 = .local) || decide (y.2 = .cell)) || (((ownOf N own).map (·.1)).contains y.1 || !N.contains y.1)))))
theorem own_ix {N : List Str} : ∀ {own : List Nat}, (∀ i ∈ own, i < N.length) → ∀ p ∈ ownOf N own, N[p.2]? = some p.1
  | [], _, p, hp => by cases hp
  | i :: is, h, p, hp => by
    rcases List.mem_cons.mp hp with e | hp
    · subst e
      have hi := h i (List.mem_cons_self ..)
      show N[i]? = some ((N[i]?).getD Str.empty)
      rw [List.getElem?_eq_getElem hi]
      rfl
    · exact own_ix (fun j hj => h j (List.mem_cons_of_mem _ hj)) p hp
theorem blk_ok {N : List Str} {sc scope : Scope} {own : List Nat} (h : blkB N sc scope own = true) : BlkOk N sc scope (ownOf N own) := by
  unfold blkB at h
  simp only [Bool.and_eq_true] at h
  obtain ⟨h1, h2, h3, h4, h5⟩ := h
  refine ⟨of_decide_eq_true h1, fun y hy => of_decide_eq_true (List.all_eq_true.mp h2 y hy), own_ix fun i hi => of_decide_eq_true (List.all_eq_true.mp h3 i hi), fun y hy e => ?_, fun y hy e => ?_⟩
  · have := List.all_eq_true.mp h4 y hy
    simp only [e, decide_true, Bool.not_true, Bool.false_or, Bool.or_eq_true] at this
    unfold kindB at this
    simpa using this
  · have := List.all_eq_true.mp h5 y hy
    have hb : (decide (y.2 = .local) || decide (y.2 = .cell)) = true := by
      rcases e with e | e <;> simp [e]
    rw [hb] at this
    simp only [Bool.not_true, Bool.false_or, Bool.or_eq_true, Bool.not_eq_true'] at this
    rcases this with h | h
    · left
      simpa using h
    · right
      simpa using h
/-- a pattern's target -/
def chkN (c : Ck) (i : Nat) : Expr → Bool
  | .Name x _ => nmB c.N i x && (locB c.F c.sc x && nodbg x)
  | _ => false
def chkNs (c : Ck) : List Nat → List Expr → Bool
  | [], [] => true
  | i :: is, e :: es => chkN c i e && chkNs c is es
  | _, _ => false
def chkP (c : Ck) : Pt → Expr → Bool
  | .nm i, e => chkN c i e
  | .tup is, .Tuple es _ _ => chkNs c is es
  | _, _ => false
def tyB (T : Tb) (c : Ck) : Ty → Expr → Bool
  | t, .Name x _ => c.gl x && (nodbg x && match t with
    | .int => decide (x = "int") && T.free.contains x
    | .bool => decide (x = "bool") && T.free.contains x
    | .str => decide (x = "str") && T.free.contains x
    | .tuple => decide (x = "tuple") && T.free.contains x
    | .list => decide (x = "list") && T.free.contains x
    | .cls k => T.cls.contains (x, k))
  | _, _ => false
def tysB (T : Tb) (c : Ck) : List Ty → List Expr → Bool
  | [], [] => true
  | t :: ts, e :: es => tyB T c t e && tysB T c ts es
  | _, _ => false
def bltB (T : Tb) (c : Ck) (x n : Str) : Bool := decide (x = n) && (c.gl x && T.free.contains x)
def nxt (op : BoolOp) (y : Expr) (pos : Pos) : List Expr → Expr
  | [] => y
  | r => .BoolOp op (y :: r) pos
section
variable (T : Tb)
mutual
def chkE : E → Ck → Expr → Bool
  | .c d, _, x => match x with
    | .Constant k _ _ => constB d k
    | _ => false
  | .v i, c, x => match x with
    | .Name n _ => c.nm i n
    | _ => false
  | .g k, c, x => match x with
    | .Name n _ => c.gl n && (T.globs.contains (n, k) && nodbg n)
    | _ => false
  | .op o a b, c, x => match x with
    | .BinOp l op r _ => opB o op && (chkE a c l && chkE b c r)
    | _ => false
  | .neg a, c, x => match x with
    | .UnaryOp .USub l _ => chkE a c l
    | _ => false
  | .cmp o a b, c, x => match x with
    | .Compare l [op] [r] _ => cmB o op && (chkE a c l && (chkE b c r && !behindInMarks op r))
    | _ => false
  | .chain o p a b d, c, x => match x with
    | .Compare l [op, op'] [r, s] _ => cmB o op && (cmB p op' && (chkE a c l && (chkE b c r && (chkE d c s && !lastMarks [op, op'] [r, s]))))
    | _ => false
  | .and a b, c, x => match x with
    | .BoolOp .And (l :: y :: r) pos => chkE a c l && chkE b c (nxt .And y pos r)
    | _ => false
  | .or a b, c, x => match x with
    | .BoolOp .Or (l :: y :: r) pos => chkE a c l && chkE b c (nxt .Or y pos r)
    | _ => false
  | .not a, c, x => match x with
    | .UnaryOp .Not l _ => chkE a c l
    | _ => false
  | .ite d a b, c, x => match x with
    | .IfExp t l r _ => chkT d c t && (chkE a c l && chkE b c r)
    | _ => false
  | .tup es, c, x => match x with
    | .Tuple l _ _ => chkA es c l
    | _ => false
  | .lst _ es, c, x => match x with
    | .List l _ => chkA es c l
    | _ => false
  | .sub a i, c, x => match x with
    | .Subscript l r _ => chkE a c l && (chkE i c r && plainIx r)
    | _ => false
  | .slc _ a lo hi, c, x => match x with
    | .Subscript l (.Slice u v none _) _ => chkE a c l && (chkO lo c u && chkO hi c v)
    | _ => false
  | .rev _, _, _ => false
  | .call f es, c, x => match x with
    | .Call (.Name n _) args [] _ => !c.hot && (c.gl n && (T.fns.contains (n, f) && (nodbg n && (noStars args && chkA es c args))))
    | _ => false
  | .callk f pm es, c, x => match x with
    | .Call (.Name n _) [] kws _ => !c.hot && (c.gl n && (nodbg n && (T.kws.contains (n, f, kws.filterMap (·.arg), pm) && (kws.all (fun q => q.arg.isSome) && (es.plain && (decide (es.cnt = kws.length) && chkA es c (kws.map (·.value))))))))
    | _ => false
  | .calll f es ps b, c, x => match x with
    | .Call (.Name n _) args [] _ => !c.hot && (c.gl n && (T.lfns.contains (n, f) && (nodbg n && (match es with
      | .nil => (match args with
        | [.Lambda params body scope _] => lamOkB c ps params scope && chkE b (c.lam scope) body
        | _ => false)
      | .cons e r => (match r with
        | .nil => (match args with
          | [y, .Lambda params body scope _] => !isStar y && (chkE e c y && (lamOkB c ps params scope && chkE b (c.lam scope) body))
          | _ => false)
        | _ => false)
      | _ => false))))
    | _ => false
  | .lamc i es, c, x => match x with
    | .Call (.Name n _) args [] _ => !c.hot && (decide (c.lm = some i) && (c.nm i n && (noStars args && chkA es c args)))
    | _ => false
  | .din k a, c, x => match x with
    | .Compare l [.In] [.Name n _] _ => c.gl n && (T.dics.contains (n, k) && (nodbg n && chkE a c l))
    | _ => false
  | .dsub k a, c, x => match x with
    | .Subscript (.Name n _) r _ => c.gl n && (T.dics.contains (n, k) && (nodbg n && (chkE a c r && plainIx r)))
    | _ => false
  | .b f es, c, x => match x with
    | .Call (.Name n _) (l :: args) [] _ => (match f with
      | .sset _ => (match l, args, es with
        | .Call (.Name m _) [y] [] _, [], .cons e .nil => !c.hot && (bltB T c n "sorted" && (bltB T c m "set" && (!isStar y && chkE e c y)))
        | _, _, _ => false)
      | .range1 _ => (match l, args, es with
        | .Call (.Name m _) [y] [] _, [], .cons e .nil => !c.hot && (bltB T c n "list" && (bltB T c m "range" && (!isStar y && chkE e c y)))
        | _, _, _ => false)
      | .trange => (match l, args, es with
        | .Call (.Name m _) [y] [] _, [], .cons e .nil => !c.hot && (bltB T c n "tuple" && (bltB T c m "range" && (!isStar y && chkE e c y)))
        | _, _, _ => false)
      | f => c.gl n && (T.free.contains n && (noStars (l :: args) && (chkA es c (l :: args) && (match bnB f with
        | some (m, _, b) => decide (n = m) && (!b || !c.hot)
        | none => match bnT f with
          | some (m, _) => decide (n = m)
          | none => false)))))
    | _ => false
  | .m f o es, c, x => match x with
    | .Call (.Attribute l n apos) args [] pos => (match f, es, args with
      | .append, .cons e .nil, [r] => decide (n = "append") && (chkE o c l && (chkE e c r && (!isStar r && (baseOk l && (apos.endLine == pos.line)))))
      | .extend, .cons e .nil, [r] => decide (n = "extend") && (chkE o c l && (chkE e c r && (!isStar r && (baseOk l && (apos.endLine == pos.line)))))
      | .pop, .nil, [] => decide (n = "pop") && (chkE o c l && (baseOk l && (apos.endLine == pos.line)))
      | _, _, _ => false)
    | _ => false
  | .meth k f n o es, c, x => match x with
    | .Call (.Attribute l m apos) args [] pos => !c.hot && (decide (m = S n) && (T.mts.contains (k, n, f) && (chkE o c l && (noStars args && (chkA es c args && (baseOk l && (decide (args.length < 30) && (apos.endLine == pos.line))))))))
    | _ => false
  | .mk k f es, c, x => match x with
    | .Call (.Name n _) (l :: args) [] _ => !c.hot && (c.gl n && (T.mks.contains (n, k, f) && (nodbg n && (noStars (l :: args) && chkA es c (l :: args)))))
    | _ => false
  | .fld o f, c, x => match x with
    | .Attribute l n _ => decide (n = S f) && (chkE o c l && baseOk l)
    | _ => false
  | .xfld i f, c, x => match x with
    | .Attribute (.Name v _) n _ => decide (c.xi = some i) && (decide (n = S f) && c.nm i v)
    | _ => false
  | .xis i k, c, x => match x with
    | .Call (.Name n _) [.Name v _, .Name m _] [] _ => decide (c.xi = some i) && (bltB T c n "isinstance" && (c.nm i v && (c.gl m && (nodbg m && T.xnm.contains (m, k)))))
    | _ => false
  | .isi o ts, c, x => match x with
    | .Call (.Name n _) [l, r] [] _ => bltB T c n "isinstance" && (chkE o c l && (!isStar l && (match r with
      | .Tuple es _ _ => tysB T c ts es && decide (ts.length ≤ 100)
      | r => (match ts with
        | [t] => tyB T c t r
        | _ => false))))
    | _ => false
  | .oeq ng k f a b, c, x => match x with
    | .Compare l [op] [r] _ => !c.hot && (decide (op = if ng then CmpOp.NotEq else CmpOp.Eq) && (T.mts.contains (k, eqNm, f) && (T.owns.contains k && (chkE a c l && (chkE b c r && !behindInMarks (if ng then CmpOp.NotEq else CmpOp.Eq) r)))))
    | _ => false
  | .lc _ own p it ifs e, c, x => match x with
    | .ListComp elt [⟨tg, iter, is, 0⟩] scope _ => !c.hot && (blkB c.N c.sc scope own && (p.names.all (own.contains ·) && (chkP (c.blk scope) p tg && (chkI it c tg iter && (chkQ ifs (c.blk scope) is && (chkE e (c.blk scope) elt && notSet iter))))))
    | _ => false
  | .lc2 _ own p it ifs p1 it1 ifs1 e, c, x => match x with
    | .ListComp elt [⟨tg, iter, is, 0⟩, ⟨tg1, iter1, is1, 0⟩] scope _ => !c.hot && (blkB c.N c.sc scope own && (p.names.all (own.contains ·) && (chkP (c.blk scope) p tg && (chkI it c tg iter && (chkQ ifs (c.blk scope) is && (chkE e (c.blk scope) elt && (notSet iter && (p1.names.all (own.contains ·) && (chkP (c.blk scope) p1 tg1 && (chkI it1 (c.blk scope) tg1 iter1 && (chkQ ifs1 (c.blk scope) is1 && notSet iter1)))))))))))
    | _ => false
  | .lcL _ own p a ifs e, c, x => match x with
    | .ListComp elt [⟨tg, iter, is, 0⟩] scope _ => !c.hot && (blkB c.N c.sc scope own && (p.names.all (own.contains ·) && (chkP (c.blk scope) p tg && (chkE a c iter && (chkQ ifs (c.blk scope) is && (chkE e (c.blk scope) elt && notSet iter))))))
    | _ => false
def chkT : Te → Ck → Expr → Bool
  | .and a b, c, x => match x with
    | .BoolOp .And (l :: y :: r) pos => chkT a c l && chkT b c (nxt .And y pos r)
    | _ => false
  | .or a b, c, x => match x with
    | .BoolOp .Or (l :: y :: r) pos => chkT a c l && chkT b c (nxt .Or y pos r)
    | _ => false
  | .not a, c, x => match x with
    | .UnaryOp .Not l _ => chkT a c l
    | _ => false
  | .cmp o a b, c, x => match x with
    | .Compare l [op] [r] _ => cmB o op && (chkE a c l && (chkE b c r && !behindInMarks op r))
    | _ => false
  | .chain o p a b d, c, x => match x with
    | .Compare l [op, op'] [r, s] _ => cmB o op && (cmB p op' && (chkE a c l && (chkE b c r && (chkE d c s && !lastMarks [op, op'] [r, s]))))
    | _ => false
  | .din k a, c, x => match x with
    | .Compare l [.In] [.Name n _] _ => c.gl n && (T.dics.contains (n, k) && (nodbg n && chkE a c l))
    | _ => false
  | .oeq ng k f a b, c, x => match x with
    | .Compare l [op] [r] _ => !c.hot && (decide (op = if ng then CmpOp.NotEq else CmpOp.Eq) && (T.mts.contains (k, eqNm, f) && (T.owns.contains k && (chkE a c l && (chkE b c r && !behindInMarks (if ng then CmpOp.NotEq else CmpOp.Eq) r)))))
    | _ => false
  | .val e, c, x => chkE e c x && plainTest x
def chkQ : To → Ck → List Expr → Bool
  | .no, _, xs => match xs with
    | [] => true
    | _ => false
  | .yes t, c, xs => match xs with
    | [x] => chkT t c x
    | _ => false
def chkO : Eo → Ck → Option Expr → Bool
  | .no, _, x => match x with
    | none => true
    | _ => false
  | .yes e, c, x => match x with
    | some x => chkE e c x
    | _ => false
def chkA : Es → Ck → List Expr → Bool
  | .nil, _, xs => match xs with
    | [] => true
    | _ => false
  | .cons e r, c, xs => match xs with
    | x :: xs => !isStar x && (chkE e c x && chkA r c xs)
    | _ => false
  | .star e r, c, xs => match xs with
    | .Starred x _ :: xs => chkE e c x && chkA r c xs
    | _ => false
def chkI : It → Ck → Expr → Expr → Bool
  | .seq e, c, _, x => chkE e c x
  | .rng1 a, c, _, x => match x with
    | .Call (.Name n _) [l] [] _ => bltB T c n "range" && (!isStar l && chkE a c l)
    | _ => false
  | .rng2 a b, c, _, x => match x with
    | .Call (.Name n _) [l, r] [] _ => bltB T c n "range" && (!isStar l && (!isStar r && (chkE a c l && chkE b c r)))
    | _ => false
  | .enum e, c, tg, x => match x with
    | .Call (.Name n _) [l] [] _ => isTupE tg && (bltB T c n "enumerate" && (!isStar l && chkE e c l))
    | _ => false
  | .zip a b, c, tg, x => match x with
    | .Call (.Name n _) [l, r] [] _ => isTupE tg && (bltB T c n "zip" && (!isStar l && (!isStar r && (chkE a c l && chkE b c r))))
    | _ => false
end
end
end Mp
end
section
set_option autoImplicit false
set_option Elab.async false
set_option linter.all false
set_option maxRecDepth 100000
set_option maxHeartbeats 8000000
/-! MpChk3: an expression that is looked through runs as the evaluator says. -/
namespace Mp
open PySem PySem.Spec PyProof.Rows L2
theorem PG.imp {X : Cx} {e : Expr} {t t' : TG} (h : PG X e t) (f : ∀ v σ H Q, t' v σ H Q → t v σ H Q) : PG X e t' := ⟨fun pins s σ H v u Q I r q => h.run pins s σ H v u Q I r (f v σ H Q q)⟩
theorem PGs.imp {X : Cx} {e : List Expr} {t t' : TGs} (h : PGs X e t) (f : ∀ v σ H Q, t' v σ H Q → t v σ H Q) : PGs X e t' := ⟨fun pins s σ H v u Q I r q => h.run pins s σ H v u Q I r (f v σ H Q q)⟩
theorem PTs.imp {X : Cx} {e : List Expr} {t t' : TT} (h : PTs X e t) (f : ∀ σ H Q, t' σ H Q → t σ H Q) : PTs X e t' := ⟨fun pins s σ H Q I q => h.run pins s σ H Q I (f σ H Q q)⟩
theorem PO.imp {X : Cx} {e : Option Expr} {t t' : TO} (h : PO X e t) (f : ∀ σ H Q, t' σ H Q → t σ H Q) : PO X e t' := ⟨fun pins s σ H Q I q => h.run pins s σ H Q I (f σ H Q q)⟩
theorem pw_bool {X : Cx} {op : BoolOp} {vs : List Expr} {pos : Pos} {t : TT} (h : PT X (.BoolOp op vs pos) t) : PW X (.BoolOp op vs pos) t := ⟨fun whole pins s σ H Q I q => h.run pins s σ H Q I q⟩
abbrev GC (T : Tb) (c : Ck) (Y : Kx) (C : Cfg) (k : Nat) (W : WX) (X : Cx) : Prop := GX T c.N c.sc c.F c.hot c.li Y C k W X
section
variable {T : Tb} {Y : Kx} {C : Cfg} {k : Nat} {c : Ck} {W : WX} {X : Cx} {L : Sv}
theorem gl_ok (g : GC T c Y C k W X) {n : Str} (h : c.gl n = true) : Gl X n := by
  have h : c.sc.names.lookup n = some .globalImplicit := of_decide_eq_true h
  show X.env.scope.names.lookup n = some .globalImplicit
  rw [g.sc]
  exact h
theorem nm_ok (g : GC T c Y C k W X) {i : Nat} {n : Str} (h : c.nm i n = true) : X.N[i]? = some n ∧ Vis X.env.scope n ∧ nodbg n = true := by
  unfold Ck.nm nmB at h
  simp only [Bool.and_eq_true, decide_eq_true_eq] at h
  exact ⟨by rw [g.hN]; exact h.1, by rw [g.sc]; exact vis_ok h.2.1, h.2.2⟩
theorem blt_ok (g : GC T c Y C k W X) {x n : Str} (h : bltB T c x n = true) : x = n ∧ Gl X x ∧ X.mg x = none := by
  unfold bltB at h
  simp only [Bool.and_eq_true, decide_eq_true_eq] at h
  exact ⟨h.1, gl_ok g h.2.1, g.st.free _ (by simpa using h.2.2)⟩
theorem hot_no (h : (!c.hot) = true) : c.hot = false := by simpa using h
theorem gc_blk (g : GC T c Y C k W X) (h : c.hot = false) {scope : Scope} {s : Shared} {H : Hp} {C0 : Addr} {cl : List (Str × Addr)} {fp : List Addr} : GC T (c.blk scope) Y C k W0 (X.blk s H scope (compEnvC scope cl C0 X.env) fp) :=
  ⟨g.st, g.hN, g.nd, by
    show relS scope X.env.scope = relS scope c.sc
    rw [g.sc], fun x h => h, g.un, g.gd, fun _ => g.calm h, fun _ => takes_none5, fun _ j e => nomatch (show (none : Option Nat) = some j from e)⟩
/-- what the names alone hold -/
abbrev XOk (Y : Kx) (C : Cfg) (c : Ck) (X : Cx) (L : Sv) : Prop := XiOk Y c.xi X L ∧ LmOk Y C c.lm X L
theorem gc_lam (g : GC T c Y C k W X) {scope : Scope} {A : Around} {outer : List PySem.Env} {s : Shared} {H : Hp} {E : XK} {f c' : Addr} (hg : A.guards = some []) (hr : Room (k + 2) A) : GC T (c.lam scope) Y C k (fun cls dx _ H2 => E cls dx H2) (LamX.lamCx X A outer s H E scope f c') :=
  { st := g.st, hN := g.hN, nd := g.nd, sc := rfl, fn := fun x h => absurd h (by simp [Ck.lam]), un := by
      have := (hr.deeper (LamX.lamEnv X scope s.heap.objs.size f c')).un
      show (A.deeper _).units + 64 < cLine
      omega
    gd := guards_deeper hg _, calm := fun _ => ⟨rfl, hr.deeper _⟩, tk := fun _ => takes_of rfl rfl rfl rfl, lam := fun _ j e => nomatch (show (none : Option Nat) = some j from e) }
theorem chkN_ok (hL : SvOk L) (g : GC T c Y C k W X) {i : Nat} {e : Expr} (h : chkN c i e = true) : PG X e (gName i) := by
  unfold chkN at h
  split at h
  · rename_i x p
    unfold nmB locB kindB at h
    simp only [Bool.and_eq_true, Bool.or_eq_true, decide_eq_true_eq] at h
    obtain ⟨h1, h2, h3⟩ := h
    refine pg_name (by rw [g.hN]; exact g.nd) (by rw [g.hN]; exact h1) ?_ ?_
    · rw [g.sc]
      exact h2.imp id fun z => z.1
    · rw [g.sc]
      exact h2.elim .inr fun z => .inl (g.fn _ z.2)
  · cases h
theorem chkNs_ok (hL : SvOk L) (g : GC T c Y C k W X) {ns : List Nat} : ∀ {is : List Nat} {es : List Expr}, chkNs c is es = true → PGs X es (gPs Y L ns is) ∧ (assignEach es X.env).length = is.length ∧ (assignEach es X.env).findIdx? (·.1) = none
  | [], [], _ => ⟨PGs.imp pgs_nil fun v σ H Q q => gps_nil q, rfl, rfl⟩
  | [], _ :: _, h => by cases h
  | _ :: _, [], h => by cases h
  | i :: is, e :: es, h => by
    have h : (chkN c i e && chkNs c is es) = true := h
    simp only [Bool.and_eq_true] at h
    obtain ⟨p, hl, hf⟩ := chkNs_ok hL g (ns := ns) h.2
    have q := chkN_ok hL g h.1
    have en : assignEach (e :: es) X.env = (false, assign e X.env) :: assignEach es X.env := by
      have h1 := h.1
      unfold chkN at h1
      split at h1
      · rfl
      · cases h1
    refine ⟨PGs.imp (pgs_cons q p (by rw [en]; rfl)) fun v σ H Q z => gps_cons hL z, by rw [en, List.length_cons, hl]; rfl, ?_⟩
    rw [en, List.findIdx?_cons]
    simp [hf]
theorem chkP_ok (hL : SvOk L) (g : GC T c Y C k W X) (hc : X.calm = true) {p : Pt} {e : Expr} (h : chkP c p e = true) : PG X e (gP Y L p) := by
  unfold chkP at h
  split at h
  · exact PG.imp (chkN_ok hL g h) fun v σ H Q q => gp_nm hL q
  · rename_i is es kk pos
    obtain ⟨q, hl, hf⟩ := chkNs_ok hL g (ns := is) h
    exact PG.imp (pg_tup (n := is.length) hc q hl hf) fun v σ H Q z => gp_tup g.st.hK z
  · cases h
theorem tyB_ok (g : GC T c Y C k W X) {t : Ty} {e : Expr} (h : tyB T c t e = true) : PE X e (tC (tyC Y t)) ∧ isStar e = false ∧ ∀ j, t = .cls j → C.cls j = true := by
  unfold tyB at h
  split at h
  · rename_i n p
    simp only [Bool.and_eq_true] at h
    obtain ⟨h1, h2, h3⟩ := h
    have hg := gl_ok g h1
    refine ⟨?_, rfl, ?_⟩
    · cases t with
      | cls j =>
        obtain ⟨e1, e2⟩ := g.st.cls (n, j) (by simpa using h3)
        exact pe_glob hg e1 rfl (nodbg1 h2)
      | _ =>
        simp only [Bool.and_eq_true, decide_eq_true_eq] at h3
        obtain ⟨rfl, h4⟩ := h3
        exact pe_bltn hg (g.st.free _ (by simpa using h4)) (by decide +kernel) rfl (by decide +kernel) (by decide +kernel)
    · rintro j rfl
      exact (g.st.cls (n, j) (by simpa using h3)).2
  · cases h
theorem tysB_ok (g : GC T c Y C k W X) : ∀ {ts : List Ty} {es : List Expr}, tysB T c ts es = true → PA X es (tTys Y ts) ∧ ∀ j, Ty.cls j ∈ ts → C.cls j = true
  | [], [], _ => ⟨pa_nil, fun _ h => by cases h⟩
  | [], _ :: _, h => by cases h
  | _ :: _, [], h => by cases h
  | t :: ts, e :: es, h => by
    have h : (tyB T c t e && tysB T c ts es) = true := h
    simp only [Bool.and_eq_true] at h
    obtain ⟨p1, p2, p3⟩ := tyB_ok g h.1
    obtain ⟨q1, q2⟩ := tysB_ok g h.2
    exact ⟨pa_cons p1 q1 (star_no p2), fun j hj => (List.mem_cons.mp hj).elim (fun z => p3 j z.symm) (q2 j)⟩
end
end Mp
end
section
set_option autoImplicit false
set_option Elab.async false
set_option linter.all false
set_option maxRecDepth 100000
set_option maxHeartbeats 16000000
/-! MpChk4: the expressions. -/
namespace Mp
open PySem PySem.Spec PyProof.Rows L2
theorem s_call0 {Y : Kx} {L : Sv} {W : WX} {C : Cfg} {σ : L2.St} {H : Hp} {Q : VK} (hL : SvOk L) {f : Nat} (h : tE Y L W C (.call f .nil) σ H Q) : spC Y C f [] H Q (WE W σ) := by
  obtain ⟨m, ρ, st, rs, re, p⟩ := h
  exact ⟨m, st, [], rs, rfl, p⟩
theorem s_meth0 {Y : Kx} {L : Sv} {W : WX} {C : Cfg} {σ : L2.St} {H : Hp} {Q : VK} (hL : SvOk L) {c f : Nat} {n : Sx} {o : E} (h : tE Y L W C (.meth c f n o .nil) σ H Q) :
    tE Y L W C o σ H fun x H1 => ∃ a dx fs, x = .ref a ∧ H1 a = some (.ins (Y.cA c) dx fs) ∧ fs.lookup (S n) = none ∧ spC Y C f [x] H1 Q (WE W σ) :=
  (s_meth hL h).imp fun x m1 st1 H1 rs q v hv => by
    obtain ⟨a, dx, fs, e1, e2, e3, q⟩ := q v hv
    have q := a_nil q
    exact ⟨a, dx, fs, e1, e2, e3, q⟩
theorem form_ok {n : Nat} {args : List Expr} {pos : Pos} {env : PySem.Env} (h : noStars args = true) (hn : n < 30) : methodCallForm n (backTo pos (starEach args env)) (backToKw pos (keywordEach [] env)) = true := by
  have h1 : ((backTo pos (starEach args env)).all fun x => !x.1) = true := by
    have := star_plain (pos := pos) (env := env) h
    rw [List.any_eq_false] at this
    exact List.all_eq_true.mpr fun x hx => by simpa using this x hx
  unfold methodCallForm
  rw [h1]
  simp [backToKw, keywordEach, hn]
theorem meth_eval {o : Expr} {m : Str} {apos pos : Pos} {args : List Expr} {env : PySem.Env} (hb : baseOk o = true) (h : noStars args = true) (hn : args.length < 30) (hl : (apos.endLine == pos.line) = true) :
    eval (.Call (.Attribute o m apos) args [] pos) env = (do
      let ov ← eval o env
      standAt apos.atName
      let (f, first) ← holding [ov] (getMethod ov m (do return (← importBound o env).getD true))
      callWith pos f first (backTo pos (starEach args env)) (backToKw pos (keywordEach [] env))) := by
  show (do
    let ov ← attributeBase o m env (eval o env)
    standAt apos.atName
    methodCall o m apos pos env ov (args.length + 0) (backTo pos (starEach args env)) (backToKw pos (keywordEach [] env))) = _
  rw [base_ok hb]
  unfold methodCall calleeOf methodCallPos
  rw [form_ok h (by simpa using hn)]
  simp only [Bool.not_true, Bool.false_or, hl, if_true, pure_bind]
theorem ix_kd {X : Cx} {d : Addr} {es : Array DictEntry} {n : Nat} (D : KDict X.K X.w d es n) : IxR X (fun x y H Q => ∃ (z : Str) (u0 : Value) (v0 : V), x = .ref d ∧ y = .str z ∧ PySem.W.nsIn X.K d z = some (some u0) ∧ RelV v0 u0 ∧ Q v0 H) := by
  intro value slice pins s σ H x y v u Q I rx ry h hs
  obtain ⟨z, u0, v0, rfl, rfl, e, r, q⟩ := h
  have hT := kd_type D I
  cases rx
  obtain ⟨t, rfl⟩ := ry
  exact PyProof.Rows.subscriptTail_builtinR (x := u0) hT PySem.slot_dict_getitem.lookup (wpAny_getItem_of (PySem.strKind_is X.prog X.w z t) (PySem.W.mapOf_K (prog := X.prog) I.kIn D.at_ D.lit) (PySem.W.find_K D.at_ e) ⟨rfl, v0, H, I.tok _, r, q⟩) hs
theorem pe_bad {X : Cx} {e : Expr} {t : TE} (h : ∀ σ H Q, ¬ t σ H Q) : PE X e t := ⟨fun _ _ σ H Q _ q => (h σ H Q q).elim⟩
theorem nms_get {N : List Str} : ∀ {ps : List Nat} {k : Nat} {x : Str}, (∀ i ∈ ps, i < N.length) → (ps.map fun i => (N[i]?).getD Str.empty)[k]? = some x → ∃ i, ps[k]? = some i ∧ N[i]? = some x
  | ps, k, x, h, e => by
    rw [List.getElem?_map] at e
    obtain ⟨i, e1, e2⟩ := Option.map_eq_some_iff.mp e
    have hi := h i (List.mem_of_getElem? e1)
    rw [List.getElem?_eq_getElem hi] at e2
    exact ⟨i, e1, by rw [List.getElem?_eq_getElem hi]; exact congrArg some e2⟩
theorem lamOk_mk {T : Tb} {Y : Kx} {C : Cfg} {k : Nat} {c : Ck} {L : Sv} {W : WX} {X : Cx} {ps : List Nat} {params : Arguments} {scope : Scope} {body : Expr} {e : E} (hL : SvOk L) (g : GC T c Y C k W X) (hot : c.hot = false) (h : lamOkB c ps params scope = true)
    (hb : ∀ (f c' : Addr) (A : Around) (outer : List PySem.Env) (s : Shared) (H1 : Hp) (E : XK), A.guards = some [] → Room (k + 2) A → PE (LamX.lamCx X A outer s H1 E scope f c') body (tE Y L (fun cls dx _ H2 => E cls dx H2) C e)) :
    (∃ t, LamMk Y L C X t params body scope (c.nms ps) ps e (k + 1)) ∧ Room (k + 3) X.A := by
  unfold lamOkB at h
  simp only [Bool.and_eq_true, decide_eq_true_eq, List.all_eq_true] at h
  obtain ⟨h1, h2, h3, h4, h5⟩ := h
  obtain ⟨j, hj⟩ := Option.isSome_iff_exists.mp h1
  obtain ⟨t, e1, e2, e3, hr⟩ := g.lam hot j hj
  have mem := List.mem_of_getElem? e1
  refine ⟨⟨t, g.st.tbb t mem, e2, e3, mem, g.st.tbu t mem, by rw [g.sc]; exact lamP_by h2, h3, by rw [g.hN]; exact g.nd, fun k x q => ?_, h4, by simp [Ck.nms], hb⟩, hr⟩
  rw [g.hN]
  exact nms_get h5 q
section
variable {T : Tb} {Y : Kx} {C : Cfg} {k : Nat}
abbrev OkE (T : Tb) (Y : Kx) (C : Cfg) (k : Nat) (e : E) : Prop := ∀ (c : Ck) (x : Expr), chkE T e c x = true → ∀ (L : Sv) (W : WX) (X : Cx), SvOk L → GC T c Y C k W X → XOk Y C c X L → PE X x (tE Y L W C e)
abbrev OkT (T : Tb) (Y : Kx) (C : Cfg) (k : Nat) (e : Te) : Prop := ∀ (c : Ck) (x : Expr), chkT T e c x = true → ∀ (L : Sv) (W : WX) (X : Cx), SvOk L → GC T c Y C k W X → XOk Y C c X L → PT X x (tT Y L W C e)
abbrev OkQ (T : Tb) (Y : Kx) (C : Cfg) (k : Nat) (e : To) : Prop := ∀ (c : Ck) (x : List Expr), chkQ T e c x = true → ∀ (L : Sv) (W : WX) (X : Cx), SvOk L → GC T c Y C k W X → XOk Y C c X L → PTs X x (tTo Y L W C e)
abbrev OkO (T : Tb) (Y : Kx) (C : Cfg) (k : Nat) (e : Eo) : Prop := ∀ (c : Ck) (x : Option Expr), chkO T e c x = true → ∀ (L : Sv) (W : WX) (X : Cx), SvOk L → GC T c Y C k W X → XOk Y C c X L → PO X x (tO Y L W C e)
abbrev OkA (T : Tb) (Y : Kx) (C : Cfg) (k : Nat) (e : Es) : Prop := ∀ (c : Ck) (x : List Expr), chkA T e c x = true → ∀ (L : Sv) (W : WX) (X : Cx), SvOk L → GC T c Y C k W X → XOk Y C c X L → PA X x (tA Y L W C e)
def Each (T : Tb) (Y : Kx) (C : Cfg) (k : Nat) : Es → Prop
  | .nil => True
  | .cons e r => OkE T Y C k e ∧ Each T Y C k r
  | .star e r => OkE T Y C k e ∧ Each T Y C k r
abbrev OkB (T : Tb) (Y : Kx) (C : Cfg) (k : Nat) (e : Es) : Prop := OkA T Y C k e ∧ Each T Y C k e
abbrev OkI (T : Tb) (Y : Kx) (C : Cfg) (k : Nat) (e : It) : Prop := ∀ (c : Ck) (tg x : Expr), chkI T e c tg x = true → ∀ (L : Sv) (W : WX) (X : Cx), SvOk L → GC T c Y C k W X → XOk Y C c X L → PI X tg x (tI Y L W C e)
theorem kws_ok {pos : Pos} {env : PySem.Env} : ∀ {kws : List Keyword}, kws.all (fun q => q.arg.isSome) = true → (backToKw pos (keywordEach kws env)).all (·.1.isSome) = true ∧ (backToKw pos (keywordEach kws env)).filterMap (·.1) = kws.filterMap (·.arg) ∧ (kws.filterMap (·.arg)).length = kws.length ∧
    ((backTo pos (starEach [] env)).any (·.1) || (backToKw pos (keywordEach kws env)).any (·.1.isNone)) = false
  | [], _ => ⟨rfl, rfl, rfl, rfl⟩
  | ⟨nm, e, kp⟩ :: kws, h => by
    rw [List.all_cons, Bool.and_eq_true] at h
    obtain ⟨x, hx⟩ := Option.isSome_iff_exists.mp h.1
    have hx : nm = some x := hx
    subst hx
    obtain ⟨a, b, c, d⟩ := kws_ok (pos := pos) (env := env) h.2
    have e1 : backToKw pos (keywordEach (⟨some x, e, kp⟩ :: kws) env) = (some x, (do let v ← eval e env; standAt pos; pure v)) :: backToKw pos (keywordEach kws env) := rfl
    rw [e1]
    refine ⟨?_, ?_, ?_, ?_⟩
    · rw [List.all_cons, a]
      rfl
    · rw [List.filterMap_cons, List.filterMap_cons]
      dsimp only
      rw [b]
    · rw [List.filterMap_cons]
      dsimp only
      rw [List.length_cons, List.length_cons, c]
    · rw [List.any_cons]
      exact d
theorem pk_each : ∀ (es : Es) (kws : List Keyword), Each T Y C k es → ∀ {c : Ck}, chkA T es c (kws.map (·.value)) = true → es.plain = true → ∀ {L : Sv} {W : WX} {X : Cx}, SvOk L → GC T c Y C k W X → XOk Y C c X L → PK X kws (tA Y L W C es)
  | .nil, [], _, c, h, _, L, W, X, hL, g, hx => ⟨fun pos pins s σ H Q I q => pk_nil.run pos pins s σ H Q I (a_nil q)⟩
  | .nil, _ :: _, _, c, h, _, L, W, X, hL, g, hx => by cases h
  | .cons e r, [], _, c, h, _, L, W, X, hL, g, hx => by cases h
  | .cons e r, ⟨nm, v, kp⟩ :: kws, ih, c, h, hp, L, W, X, hL, g, hx => by
    have h : (!isStar v && (chkE T e c v && chkA T r c (kws.map (·.value)))) = true := h
    simp only [Bool.and_eq_true] at h
    have p := ih.1 c v h.2.1 L W X hL g hx
    have q := pk_each r kws ih.2 h.2.2 hp hL g hx
    exact ⟨fun pos pins s σ H Q I z => (pk_cons p q).run pos pins s σ H Q I (a_cons hL z)⟩
  | .star _ _, _, _, _, _, h, _, _, _, _, _, _ => by cases h
theorem kE_c (d : D)  : OkE T Y C k (.c d) := by
  intro c x h L W X hL g hx
  unfold chkE at h
  split at h
  · exact const_ok h
  · cases h
theorem kE_v (i : Nat)  : OkE T Y C k (.v i) := by
  intro c x h L W X hL g hx
  unfold chkE at h
  split at h
  · obtain ⟨h1, h2, h3⟩ := nm_ok g h
    exact PE.imp (pe_var h1 h2 (nodbg1 h3) (nodbg2 h3)) fun σ H Q q => s_var hL q
  · cases h
theorem kE_g (j : Nat)  : OkE T Y C k (.g j) := by
  intro c x h L W X hL g hx
  unfold chkE at h
  split at h
  · rename_i n p
    simp only [Bool.and_eq_true] at h
    obtain ⟨h1, h2, h3⟩ := h
    obtain ⟨u, v, d, e1, e2, e3, e4⟩ := g.st.globs (n, j) (by simpa using h2)
    exact PE.imp (pe_glob (gl_ok g h1) e1 e2 (nodbg1 h3)) fun σ H Q q => s_glob e3 e4 q
  · cases h
theorem kE_op (o : Op) (a : E) (b : E) (ih_a : OkE T Y C k a) (ih_b : OkE T Y C k b) : OkE T Y C k (.op o a b) := by
  intro c x h L W X hL g hx
  unfold chkE at h
  split at h
  · simp only [Bool.and_eq_true] at h
    obtain ⟨h1, h2, h3⟩ := h
    rw [opB_ok h1]
    exact PE.imp (pe_op (vo_op g.st.hK o) (ih_a c _ h2 _ _ _ hL g hx) (ih_b c _ h3 _ _ _ hL g hx)) fun σ H Q q => s_op hL q
  · cases h
theorem kE_neg (a : E) (ih_a : OkE T Y C k a) : OkE T Y C k (.neg a) := by
  intro c x h L W X hL g hx
  unfold chkE at h
  split at h
  · exact PE.imp (pe_un un_neg (ih_a c _ h _ _ _ hL g hx)) fun σ H Q q => s_neg hL q
  · cases h
theorem kE_cmp (o : Cm) (a : E) (b : E) (ih_a : OkE T Y C k a) (ih_b : OkE T Y C k b) : OkE T Y C k (.cmp o a b) := by
  intro c x h L W X hL g hx
  unfold chkE at h
  split at h
  · simp only [Bool.and_eq_true, Bool.not_eq_true'] at h
    obtain ⟨h1, h2, h3, h4⟩ := h
    rw [of_decide_eq_true h1] at h4 ⊢
    exact PE.imp (pe_cmpR (vo_cmp g.st.hK g.un o) (ih_a c _ h2 _ _ _ hL g hx) (ih_b c _ h3 _ _ _ hL g hx) h4) fun σ H Q q => s_cmp hL q
  · cases h
theorem kE_chain (o : Cm) (p : Cm) (a : E) (b : E) (d : E) (ih_a : OkE T Y C k a) (ih_b : OkE T Y C k b) (ih_d : OkE T Y C k d) : OkE T Y C k (.chain o p a b d) := by
  intro c x h L W X hL g hx
  unfold chkE at h
  split at h
  · simp only [Bool.and_eq_true, Bool.not_eq_true'] at h
    obtain ⟨h1, h2, h3, h4, h5, h6⟩ := h
    rw [of_decide_eq_true h1, of_decide_eq_true h2] at h6 ⊢
    exact PE.imp (pe_chain (vo_cmp g.st.hK g.un o) (vo_cmp g.st.hK g.un p) (ih_a c _ h3 _ _ _ hL g hx) (ih_b c _ h4 _ _ _ hL g hx) (ih_d c _ h5 _ _ _ hL g hx) h6) fun σ H Q q => s_chain hL q
  · cases h
theorem kE_and (a : E) (b : E) (ih_a : OkE T Y C k a) (ih_b : OkE T Y C k b) : OkE T Y C k (.and a b) := by
  intro c x h L W X hL g hx
  unfold chkE at h
  split at h
  · rename_i l y r pos
    simp only [Bool.and_eq_true] at h
    have hb := ih_b c _ h.2 _ _ _ hL g hx
    have hb2 : PE X (.BoolOp .And (y :: r) pos) (tE Y L W C b) := by
      cases r with
      | nil => exact pe_one hb
      | cons z r => exact hb
    exact PE.imp (pe_and (ih_a c _ h.1 _ _ _ hL g hx) hb2) fun σ H Q q => s_and hL q
  · cases h
theorem kE_or (a : E) (b : E) (ih_a : OkE T Y C k a) (ih_b : OkE T Y C k b) : OkE T Y C k (.or a b) := by
  intro c x h L W X hL g hx
  unfold chkE at h
  split at h
  · rename_i l y r pos
    simp only [Bool.and_eq_true] at h
    have hb := ih_b c _ h.2 _ _ _ hL g hx
    have hb2 : PE X (.BoolOp .Or (y :: r) pos) (tE Y L W C b) := by
      cases r with
      | nil => exact pe_one hb
      | cons z r => exact hb
    exact PE.imp (pe_or (ih_a c _ h.1 _ _ _ hL g hx) hb2) fun σ H Q q => s_or hL q
  · cases h
theorem kE_not (a : E) (ih_a : OkE T Y C k a) : OkE T Y C k (.not a) := by
  intro c x h L W X hL g hx
  unfold chkE at h
  split at h
  · exact PE.imp (pe_not (ih_a c _ h _ _ _ hL g hx)) fun σ H Q q => s_not hL q
  · cases h
theorem kE_ite (d : Te) (a : E) (b : E) (ih_d : OkT T Y C k d) (ih_a : OkE T Y C k a) (ih_b : OkE T Y C k b) : OkE T Y C k (.ite d a b) := by
  intro c x h L W X hL g hx
  unfold chkE at h
  split at h
  · simp only [Bool.and_eq_true] at h
    exact PE.imp (pe_ifExp (ih_d c _ h.1 _ _ _ hL g hx) (ih_a c _ h.2.1 _ _ _ hL g hx) (ih_b c _ h.2.2 _ _ _ hL g hx)) fun σ H Q q => s_ite hL q
  · cases h
theorem kE_tup (es : Es) (ih_es : OkB T Y C k es) : OkE T Y C k (.tup es) := by
  intro c x h L W X hL g hx
  unfold chkE at h
  split at h
  · exact PE.imp (pe_tup (ih_es.1 c _ h _ _ _ hL g hx)) fun σ H Q q => s_tup hL q
  · cases h
theorem kE_lst (lv : Bool) (es : Es) (ih_es : OkB T Y C k es) : OkE T Y C k (.lst lv es) := by
  intro c x h L W X hL g hx
  unfold chkE at h
  split at h
  · exact PE.imp (pe_lst (ih_es.1 c _ h _ _ _ hL g hx)) fun σ H Q q => s_lst hL q
  · cases h
theorem kE_sub (a : E) (i : E) (ih_a : OkE T Y C k a) (ih_i : OkE T Y C k i) : OkE T Y C k (.sub a i) := by
  intro c x h L W X hL g hx
  unfold chkE at h
  split at h
  · simp only [Bool.and_eq_true] at h
    exact PE.imp (pe_ix (vx_sub g.st.hK) (ih_a c _ h.1 _ _ _ hL g hx) (ih_i c _ h.2.1 _ _ _ hL g hx) (plain_ix h.2.2)) fun σ H Q q => s_sub hL q
  · cases h
theorem kE_slc (lv : Bool) (a : E) (lo : Eo) (hi : Eo) (ih_a : OkE T Y C k a) (ih_lo : OkO T Y C k lo) (ih_hi : OkO T Y C k hi) : OkE T Y C k (.slc lv a lo hi) := by
  intro c x h L W X hL g hx
  unfold chkE at h
  split at h
  · simp only [Bool.and_eq_true] at h
    exact PE.imp (pe_slice (vx_slice g.st.hK) (ih_a c _ h.1 _ _ _ hL g hx) (ih_lo c _ h.2.1 _ _ _ hL g hx) (ih_hi c _ h.2.2 _ _ _ hL g hx)) fun σ H Q q => s_slc hL q
  · cases h
theorem kE_rev (a : E) (ih_a : OkE T Y C k a) : OkE T Y C k (.rev a) := by
  intro c x h L W X hL g hx
  unfold chkE at h
  cases h
theorem kE_call (f : Nat) (es : Es) (ih_es : OkB T Y C k es) : OkE T Y C k (.call f es) := by
  intro c x h L W X hL g hx
  unfold chkE at h
  split at h
  · rename_i n p args pos
    simp only [Bool.and_eq_true] at h
    obtain ⟨h0, h1, h2, h3, h4, h5⟩ := h
    obtain ⟨a, fd, ps, e1, e2, e3, e4⟩ := g.st.fns (n, f) (by simpa using h2)
    obtain ⟨hc, hr⟩ := g.calm (hot_no h0)
    have tk := g.tk (hot_no h0)
    have pa := ih_es.1 c _ h5 _ _ _ hL g hx
    cases args with
    | nil =>
      have hes : es = .nil := by
        cases es with
        | nil => rfl
        | cons => cases h5
        | star => cases h5
      subst hes
      exact PE.imp (pe_gcall0 e4 (hr.mono (Nat.le_succ _)) g.gd (gl_ok g h1) e1 e2 e3 tk (nodbg1 h3)) fun σ H Q q => s_call0 hL q
    | cons y ys =>
      have hs : isStar y = false ∧ noStars ys = true := by
        unfold noStars at h4 ⊢
        rw [List.all_cons, Bool.and_eq_true] at h4
        exact ⟨by simpa using h4.1, h4.2⟩
      exact PE.imp (pe_gcall e4 (hr.mono (Nat.le_succ _)) g.gd (gl_ok g h1) e1 e2 e3 tk pa (nodbg1 h3) (star_no hs.1) (star_plain hs.2)) fun σ H Q q => s_call hL q
  · cases h
theorem kE_callk (f : Nat) (pm : List Nat) (es : Es) (ih_es : OkB T Y C k es) : OkE T Y C k (.callk f pm es) := by
  intro c x h L W X hL g hx
  unfold chkE at h
  split at h
  · rename_i n p kws pos
    simp only [Bool.and_eq_true, decide_eq_true_eq] at h
    obtain ⟨h0, h1, h2, h3, h4, h5, h6, h7⟩ := h
    obtain ⟨a, fd, ps, e1, e2, e3, e4⟩ := g.st.kws (n, f, kws.filterMap (·.arg), pm) (by simpa using h3)
    obtain ⟨hc, hr⟩ := g.calm (hot_no h0)
    obtain ⟨k1, k2, k3, k4⟩ := kws_ok (pos := pos) (env := X.env) h4
    exact pe_callk hL e4 (hr.mono (Nat.le_succ _)) g.gd (gl_ok g h1) e1 e2 e3 (g.tk (hot_no h0)) (nodbg1 h2) (pk_each es kws ih_es.2 h7 h5 hL g hx) k1 k2 h5 (h6.trans k3.symm) k4
  · cases h
theorem kE_calll (f : Nat) (es : Es) (ps : List Nat) (body : E) (ih_es : OkB T Y C k es) (ih_body : OkE T Y C k body) : OkE T Y C k (.calll f es ps body) := by
  intro c x h L W X hL g hx
  unfold chkE at h
  split at h
  · rename_i n p args pos
    simp only [Bool.and_eq_true] at h
    obtain ⟨h0, h1, h2, h3, h4⟩ := h
    obtain ⟨a, fd, pn, e1, e2, e3, e4⟩ := g.st.lfn (n, f) (by simpa using h2)
    have tk := g.tk (hot_no h0)
    split at h4
    · split at h4
      · rename_i params b scope lpos
        rw [Bool.and_eq_true] at h4
        obtain ⟨⟨t, Z⟩, hr⟩ := lamOk_mk (e := body) (body := b) hL g (hot_no h0) h4.1 fun f c' A outer s H1 E hg hr => ih_body (c.lam scope) b h4.2 _ _ _ hL (gc_lam g hg hr) ⟨trivial, trivial⟩
        exact pe_calll0 hL Z e4 hr g.gd (gl_ok g h1) e1 e2 e3 tk (nodbg1 h3)
      · cases h4
    · split at h4
      · split at h4
        · rename_i e y params b scope lpos
          simp only [Bool.and_eq_true, Bool.not_eq_true'] at h4
          obtain ⟨h5, h6, h7, h8⟩ := h4
          obtain ⟨⟨t, Z⟩, hr⟩ := lamOk_mk (e := body) (body := b) hL g (hot_no h0) h7 fun f c' A outer s H1 E hg hr => ih_body (c.lam scope) b h8 _ _ _ hL (gc_lam g hg hr) ⟨trivial, trivial⟩
          exact pe_calll1 hL Z e4 hr g.gd (gl_ok g h1) e1 e2 e3 tk (nodbg1 h3) (ih_es.2.1 c y h6 L W X hL g hx) (fun r => star_no h5)
        · cases h4
      · cases h4
    · cases h4
  · cases h
theorem kE_lamc (i : Nat) (es : Es) (ih_es : OkB T Y C k es) : OkE T Y C k (.lamc i es) := by
  intro c x h L W X hL g hx
  unfold chkE at h
  split at h
  · rename_i n p args pos
    simp only [Bool.and_eq_true, decide_eq_true_eq] at h
    obtain ⟨h0, h1, h2, h3, h4⟩ := h
    obtain ⟨n1, n2, n3⟩ := nm_ok g h2
    have lm := hx.2
    rw [h1] at lm
    refine pe_lamc hL lm n1 n2 (nodbg1 n3) (nodbg2 n3) g.gd (g.tk (hot_no h0)) (ih_es.1 c _ h4 _ _ _ hL g hx) (fun e => ?_) fun y r e => ?_
    · subst e
      cases es with
      | nil => rfl
      | cons => cases h4
      | star => cases h4
    · subst e
      unfold noStars at h3
      rw [List.all_cons, Bool.and_eq_true] at h3
      exact ⟨star_no (by simpa using h3.1), star_plain h3.2⟩
  · cases h
theorem kE_din (j : Nat) (a : E) (ih_a : OkE T Y C k a) : OkE T Y C k (.din j a) := by
  intro c x h L W X hL g hx
  unfold chkE at h
  split at h
  · rename_i l n p pos
    simp only [Bool.and_eq_true] at h
    obtain ⟨h1, h2, h3, h4⟩ := h
    obtain ⟨d, es, en, kvs, e1, e2, e3, e4⟩ := g.st.dics (n, j) (by simpa using h2)
    exact PE.imp (pe_cmpR (op_in_kd e2) (ih_a c _ h4 _ _ _ hL g hx) (pe_glob (v := .ref d) (gl_ok g h1) e1 rfl (nodbg1 h3)) rfl) fun σ H Q q => s_din hL e3 e4 q
  · cases h
theorem kE_dsub (j : Nat) (a : E) (ih_a : OkE T Y C k a) : OkE T Y C k (.dsub j a) := by
  intro c x h L W X hL g hx
  unfold chkE at h
  split at h
  · rename_i n p r pos
    simp only [Bool.and_eq_true] at h
    obtain ⟨h1, h2, h3, h4, h5⟩ := h
    obtain ⟨d, es, en, kvs, e1, e2, e3, e4⟩ := g.st.dics (n, j) (by simpa using h2)
    exact PE.imp (pe_ix (ix_kd e2) (pe_glob (v := .ref d) (gl_ok g h1) e1 rfl (nodbg1 h3)) (ih_a c _ h4 _ _ _ hL g hx) (plain_ix h5)) fun σ H Q q => s_dsub hL e3 e4 q
  · cases h
theorem kE_b (f : Bn) (es : Es) (ih_es : OkB T Y C k es) : OkE T Y C k (.b f es) := by
  intro c x h L W X hL g hx
  unfold chkE at h
  split at h
  · rename_i n p l args pos
    split at h
    · split at h
      · rename_i m p2 y pos2 e
        simp only [Bool.and_eq_true, Bool.not_eq_true'] at h
        obtain ⟨h0, h1, h2, h3, h4⟩ := h
        obtain ⟨rfl, g1, f1⟩ := blt_ok g h1
        obtain ⟨rfl, g2, f2⟩ := blt_ok g h2
        obtain ⟨hc, _⟩ := g.calm h0
        have hy := ih_es.2.1 c _ h4 _ _ _ hL g hx
        have hset : PE X (.Call (.Name "set" p2) [y] [] pos2) (tCB (rSetT X.K X.w) (tCons (tE Y L W C e) tNil)) := pe_callTy (vc_set hc) g2 f2 (by decide +kernel) (pa_cons hy pa_nil (star_no h3)) (by decide +kernel) (by decide +kernel) (star_no h3) rfl
        exact PE.imp (pe_callB (cr_sortedSet hc) g1 f1 (by decide +kernel) (pa_cons hset pa_nil rfl) (by decide +kernel) (by decide +kernel) rfl rfl) fun σ H Q q => s_sset hL g.st.hK q
      · cases h
    · split at h
      · rename_i m p2 y pos2 e
        simp only [Bool.and_eq_true, Bool.not_eq_true'] at h
        obtain ⟨h0, h1, h2, h3, h4⟩ := h
        obtain ⟨rfl, g1, f1⟩ := blt_ok g h1
        obtain ⟨rfl, g2, f2⟩ := blt_ok g h2
        obtain ⟨hc, _⟩ := g.calm h0
        have hy := ih_es.2.1 c _ h4 _ _ _ hL g hx
        exact PE.imp (pe_listRg hc g1 f1 (prg_1 g2 f2 hy (star_no h3)) rfl) fun σ H Q q => s_range1 hL q
      · cases h
    · split at h
      · rename_i m p2 y pos2 e
        simp only [Bool.and_eq_true, Bool.not_eq_true'] at h
        obtain ⟨h0, h1, h2, h3, h4⟩ := h
        obtain ⟨rfl, g1, f1⟩ := blt_ok g h1
        obtain ⟨rfl, g2, f2⟩ := blt_ok g h2
        obtain ⟨hc, _⟩ := g.calm h0
        have hy := ih_es.2.1 c _ h4 _ _ _ hL g hx
        exact PE.imp (pe_tupRg hc g1 f1 (prg_1 g2 f2 hy (star_no h3)) rfl) fun σ H Q q => s_trange hL q
      · cases h
    · simp only [Bool.and_eq_true] at h
      obtain ⟨h1, h2, h3, h4, h5⟩ := h
      have pa := ih_es.1 c _ h4 _ _ _ hL g hx
      have hs : isStar l = false ∧ noStars args = true := by
        unfold noStars at h3 ⊢
        rw [List.all_cons, Bool.and_eq_true] at h3
        exact ⟨by simpa using h3.1, h3.2⟩
      have hfree := g.st.free n (by simpa using h2)
      split at h5
      · rename_i m id b hb
        simp only [Bool.and_eq_true, decide_eq_true_eq, Bool.or_eq_true, Bool.not_eq_true'] at h5
        obtain ⟨rfl, h6⟩ := h5
        obtain ⟨q1, q2, q3, q4⟩ := bnB_ok g.st.hK g.un g.gd hb fun hb => (g.calm (h6.resolve_left (by rw [hb]; exact Bool.noConfusion))).1
        exact PE.imp (pe_callB q1 (gl_ok g h1) hfree q2 pa q3 q4 (star_no hs.1) (star_plain hs.2)) fun σ H Q q => s_b hL q
      · split at h5
        · rename_i m id hb
          have e := of_decide_eq_true h5
          subst e
          obtain ⟨q1, q2, q3, q4⟩ := bnT_ok g.st.hK hb
          exact PE.imp (pe_callTy q1 (gl_ok g h1) hfree q2 pa q3 q4 (star_no hs.1) (star_plain hs.2)) fun σ H Q q => s_b hL q
        · cases h5
  · cases h
theorem kE_m (f : Mn) (o : E) (es : Es) (ih_o : OkE T Y C k o) (ih_es : OkB T Y C k es) : OkE T Y C k (.m f o es) := by
  intro c x h L W X hL g hx
  unfold chkE at h
  split at h
  · rename_i l n apos args pos
    split at h
    · rename_i e r
      simp only [Bool.and_eq_true, decide_eq_true_eq, Bool.not_eq_true'] at h
      obtain ⟨rfl, h1, h2, h3, h4, h5⟩ := h
      have ho := ih_o c _ h1 _ _ _ hL g hx
      have he := ih_es.2.1 c _ h2 _ _ _ hL g hx
      refine PE.imp (pe_bm PySem.F.plainAttrs_list PySem.F.slot_list_append PySem.F.type_list_append mt_append ho (pa_cons he pa_nil (star_no h3)) (base_ok h4) ?_ h5 (star_no h3) rfl) fun σ H Q q => s_app hL q
      rw [star_no h3]
      rfl
    · rename_i e r
      simp only [Bool.and_eq_true, decide_eq_true_eq, Bool.not_eq_true'] at h
      obtain ⟨rfl, h1, h2, h3, h4, h5⟩ := h
      have ho := ih_o c _ h1 _ _ _ hL g hx
      have he := ih_es.2.1 c _ h2 _ _ _ hL g hx
      refine PE.imp (pe_bm PySem.F.plainAttrs_list PySem.F.slot_list_extend PySem.F.type_list_extend mt_extQ ho (pa_cons he pa_nil (star_no h3)) (base_ok h4) ?_ h5 (star_no h3) rfl) fun σ H Q q => s_ext hL g.st.hK q
      rw [star_no h3]
      rfl
    · simp only [Bool.and_eq_true, decide_eq_true_eq, Bool.not_eq_true'] at h
      obtain ⟨rfl, h1, h4, h5⟩ := h
      have ho := ih_o c _ h1 _ _ _ hL g hx
      exact PE.imp (pe_bm0 PySem.F.plainAttrs_list PySem.F.slot_list_pop PySem.F.type_list_pop mt_pop ho (base_ok h4) h5) fun σ H Q q => s_pop hL q
    · cases h
  · cases h
theorem kE_meth (j : Nat) (f : Nat) (n : Sx) (o : E) (es : Es) (ih_o : OkE T Y C k o) (ih_es : OkB T Y C k es) : OkE T Y C k (.meth j f n o es) := by
  intro c x h L W X hL g hx
  unfold chkE at h
  split at h
  · rename_i l nm apos args pos
    simp only [Bool.and_eq_true, decide_eq_true_eq] at h
    obtain ⟨h0, rfl, h2, h3, h4, h5, h6, h7, h8⟩ := h
    obtain ⟨a, fd, ps, e1, e2, e3, e4⟩ := g.st.mts (j, n, f) (by simpa using h2)
    obtain ⟨hc, hr⟩ := g.calm (hot_no h0)
    have tk := g.tk (hot_no h0)
    have ho := ih_o c _ h3 _ _ _ hL g hx
    have pa := ih_es.1 c _ h5 _ _ _ hL g hx
    cases args with
    | nil =>
      have hes : es = .nil := by
        cases es with
        | nil => rfl
        | cons => cases h5
        | star => cases h5
      subst hes
      exact PE.imp (pe_gmeth0 ho e1 e2 e4 (hr.mono (Nat.le_succ _)) g.gd e3 tk (meth_eval h6 h4 h7 h8)) fun σ H Q q => s_meth0 hL q
    | cons y ys =>
      have hs : isStar y = false ∧ noStars ys = true := by
        unfold noStars at h4 ⊢
        rw [List.all_cons, Bool.and_eq_true] at h4
        exact ⟨by simpa using h4.1, h4.2⟩
      exact PE.imp (pe_gmeth ho e1 e2 e4 (hr.mono (Nat.le_succ _)) g.gd e3 tk pa (star_no hs.1) (star_plain hs.2) (meth_eval h6 h4 h7 h8)) fun σ H Q q => s_meth hL q
  · cases h
theorem kE_mk (j : Nat) (f : Nat) (es : Es) (ih_es : OkB T Y C k es) : OkE T Y C k (.mk j f es) := by
  intro c x h L W X hL g hx
  unfold chkE at h
  split at h
  · rename_i n p l args pos
    simp only [Bool.and_eq_true] at h
    obtain ⟨h0, h1, h2, h3, h4, h5⟩ := h
    obtain ⟨a, fd, ps, e1, e2, e3, e4⟩ := g.st.mks (n, j, f) (by simpa using h2)
    obtain ⟨hc, hr⟩ := g.calm (hot_no h0)
    have tk := g.tk (hot_no h0)
    have pa := ih_es.1 c _ h5 _ _ _ hL g hx
    have hs : isStar l = false ∧ noStars args = true := by
      unfold noStars at h4 ⊢
      rw [List.all_cons, Bool.and_eq_true] at h4
      exact ⟨by simpa using h4.1, h4.2⟩
    exact PE.imp (pe_gmake e2 e4 hr g.gd (gl_ok g h1) e1 e3 tk pa (nodbg1 h3) (star_no hs.1) (star_plain hs.2)) fun σ H Q q => s_mk hL q
  · cases h
theorem kE_fld (o : E) (f : Sx) (ih_o : OkE T Y C k o) : OkE T Y C k (.fld o f) := by
  intro c x h L W X hL g hx
  unfold chkE at h
  split at h
  · simp only [Bool.and_eq_true, decide_eq_true_eq] at h
    obtain ⟨rfl, h2, h3⟩ := h
    exact PE.imp (pe_fld (ih_o c _ h2 _ _ _ hL g hx) (base_ok h3)) fun σ H Q q => s_fld hL g.st.hK (fun c => g.st.fld c _) q
  · cases h
theorem kE_xfld (i : Nat) (f : Sx)  : OkE T Y C k (.xfld i f) := by
  intro c x h L W X hL g hx
  unfold chkE at h
  split at h
  · rename_i v p n pos
    simp only [Bool.and_eq_true, decide_eq_true_eq] at h
    obtain ⟨h1, rfl, h3⟩ := h
    replace hx := hx.1
    rw [h1] at hx
    obtain ⟨X0, a, oe, cls, dx, pn, L', rfl, hz, hf, hL', rfl⟩ := hx
    obtain ⟨k1, k2, k3⟩ := nm_ok g h3
    by_cases hcls : ∃ c0, Y.xc c0 = true ∧ cls = .ref (Y.cA c0) ∧ Y.xat c0 = some f
    · obtain ⟨c0, hc0, rfl, hf0⟩ := hcls
      have T0 := g.st.xT c0 hc0
      exact PE.imp (pe_xf ⟨T0.g1, T0.g2, T0.b1, T0.d1⟩ (g.st.xfs (c0, f) (g.st.xfa c0 f hc0 hf0) hc0 hf0) hz hf (pe_var k1 k2 (nodbg1 k3) (nodbg2 k3))) fun σ H Q q => s_xfld hL' rfl hf0 (fun c hc e => g.st.xinj c c0 hc hc0 e) q
    · refine pe_bad fun σ H Q q => ?_
      obtain ⟨m, ρ, st, rs, re, p⟩ := q
      simp only [ev] at p
      cases e : ρ[i]? with
      | none =>
        rw [e] at p
        exact p.elim
      | some o =>
        rw [e] at p
        cases o with
        | none => exact p.elim
        | some d =>
          cases d with
          | exc c' o2 =>
            cases o2 with
            | none => exact p.elim
            | some y =>
              obtain ⟨v, e1, e2⟩ := re.at_ i _ e
              rcases e2 with e2 | e2
              · exact e2.elim
              · unfold LX at e2
                rw [if_pos rfl] at e2
                obtain ⟨ev, c1, y1, e3, xr⟩ := e2
                injection e3 with e3 e4
                subst e3
                have p2 : Post Y (fun c d H' => W c d σ H') m H ((if C.xat c' = some f then ret y else bad : M D) st) (kV Y Q) := p
                by_cases hx : C.xat c' = some f
                · exact hcls ⟨c', xr.2.1, xr.1, by rw [← g.st.xat]; exact hx⟩
                · rw [if_neg hx] at p2
                  exact p2.elim
          | _ => exact p.elim
  · cases h
theorem kE_xis (i : Nat) (j : Nat)  : OkE T Y C k (.xis i j) := by
  intro c x h L W X hL g hx
  unfold chkE at h
  split at h
  · rename_i n p v p2 m p3 pos
    simp only [Bool.and_eq_true, decide_eq_true_eq] at h
    obtain ⟨h1, h2, h3, h4, h5, h6⟩ := h
    obtain ⟨rfl, g1, f1⟩ := blt_ok g h2
    replace hx := hx.1
    rw [h1] at hx
    obtain ⟨X0, a, oe, cls, dx, pn, L', rfl, hz, hf, hL', rfl⟩ := hx
    obtain ⟨k1, k2, k3⟩ := nm_ok g h3
    obtain ⟨e1, e2, e3⟩ := g.st.xnm (m, j) (by simpa using h6)
    have pm : PE (X0.suite a ((a, oe) :: pn)) (.Name m p3) (tC (Y.ckV j)) := by
      have rel : RelV (Y.ckV j) (Y.ckU j) := by
        unfold Kx.ckV Kx.ckU
        cases Y.bt j <;> rfl
      rcases e1 with e1 | ⟨e1, e4⟩
      · exact pe_glob (gl_ok g h4) e1 rel (nodbg1 h5)
      · exact pe_bltn (gl_ok g h4) e1 e4 rel (nodbg3 h5) (nodbg1 h5)
    exact PE.imp (pe_callB (call_isX g.st.xT hz hf) g1 f1 (by decide +kernel) (pa_cons (pe_var k1 k2 (nodbg1 k3) (nodbg2 k3)) (pa_cons pm pa_nil rfl) rfl) (by decide +kernel) (by decide +kernel) rfl rfl) fun σ H Q q => s_xis e3 q
  · cases h
theorem kE_isi (o : E) (ts : List Ty) (ih_o : OkE T Y C k o) : OkE T Y C k (.isi o ts) := by
  intro c x h L W X hL g hx
  unfold chkE at h
  split at h
  · rename_i n p l r pos
    simp only [Bool.and_eq_true, Bool.not_eq_true'] at h
    obtain ⟨h1, h2, h3, h4⟩ := h
    obtain ⟨rfl, g1, f1⟩ := blt_ok g h1
    have ho := ih_o c _ h2 _ _ _ hL g hx
    split at h4
    · rename_i es kk pos2
      simp only [Bool.and_eq_true, decide_eq_true_eq] at h4
      obtain ⟨q1, q2⟩ := tysB_ok g h4.1
      exact PE.imp (pe_callB call_isiT g1 f1 (by decide +kernel) (pa_cons ho (pa_cons (pe_tup q1) pa_nil rfl) (star_no h3)) (by decide +kernel) (by decide +kernel) (star_no h3) rfl) fun σ H Q q => s_isiT hL g.st.hK g.st.clk q2 h4.2 q
    · split at h4
      · rename_i t
        obtain ⟨q1, q2, q3⟩ := tyB_ok g h4
        exact PE.imp (pe_callB call_isi g1 f1 (by decide +kernel) (pa_cons ho (pa_cons q1 pa_nil (star_no q2)) (star_no h3)) (by decide +kernel) (by decide +kernel) (star_no h3) (by rw [star_no q2]; rfl)) fun σ H Q q => s_isi1 hL g.st.hK g.st.clk q3 q
      · cases h4
  · cases h
theorem kE_oeq (ng : Bool) (j : Nat) (f : Nat) (a : E) (b : E) (ih_a : OkE T Y C k a) (ih_b : OkE T Y C k b) : OkE T Y C k (.oeq ng j f a b) := by
  intro c x h L W X hL g hx
  unfold chkE at h
  split at h
  · rename_i l op r pos
    simp only [Bool.and_eq_true, decide_eq_true_eq] at h
    obtain ⟨h0, rfl, h2, h3, h4, h5, h6⟩ := h
    rw [Bool.not_eq_true'] at h6
    obtain ⟨a', fd, ps, e1, e2, e3, e4⟩ := g.st.mts (j, eqNm, f) (by simpa using h2)
    obtain ⟨o1, o2⟩ := g.st.own j (by simpa using h3)
    obtain ⟨hc, hr⟩ := g.calm (hot_no h0)
    exact PE.imp (pe_own (ng := ng) ⟨e2.at_, e2.fn, o1, o2⟩ e4 hr g.gd e3 (g.tk (hot_no h0)) (fun vs H Q Q' E f z => spC_imp f z) (ih_a c _ h4 _ _ _ hL g hx) (ih_b c _ h5 _ _ _ hL g hx) h6) fun σ H Q q => s_oeq hL g.st.hK q
  · cases h
theorem kE_lc (lv : Bool) (own : List Nat) (p : Pt) (it : It) (ifs : To) (e : E) (ih_it : OkI T Y C k it) (ih_ifs : OkQ T Y C k ifs) (ih_e : OkE T Y C k e) : OkE T Y C k (.lc lv own p it ifs e) := by
  intro c x h L W X hL g hx
  unfold chkE at h
  split at h
  · rename_i elt tg iter is scope pos
    simp only [Bool.and_eq_true] at h
    obtain ⟨h0, h1, h2, h3, h4, h5, h6, h7⟩ := h
    obtain ⟨hc, hr⟩ := g.calm (hot_no h0)
    have ok := blk_ok h1
    rw [← g.hN, ← g.sc] at ok
    have q := pe_lc (wi := tI Y L W C it) (g := gP Y L p) (tt := tTo Y L W0 C ifs) (te := tE Y L W0 C e) hc (by rw [g.hN]; exact g.nd) (ih_it c _ _ h4 _ _ _ hL g hx) (pos := pos) ok
      (fun s H C0 cl fp => chkP_ok hL (gc_blk g (hot_no h0)) hc h3) (fun s H C0 cl fp => ih_ifs _ _ h5 _ _ _ hL (gc_blk g (hot_no h0)) ⟨trivial, trivial⟩) (fun s H C0 cl fp => ih_e _ _ h6 _ _ _ hL (gc_blk g (hot_no h0)) ⟨trivial, trivial⟩) (not_set h7)
    rw [ownOf_snd] at q
    exact PE.imp q fun σ H Q z => s_lc hL (fun i hi => by
      have := List.all_eq_true.mp h2 i hi
      simpa using this) z
  · cases h
theorem kE_lc2 (lv : Bool) (own : List Nat) (p : Pt) (it : It) (ifs : To) (p1 : Pt) (it1 : It) (ifs1 : To) (e : E) (ih_it : OkI T Y C k it) (ih_ifs : OkQ T Y C k ifs) (ih_it1 : OkI T Y C k it1) (ih_ifs1 : OkQ T Y C k ifs1) (ih_e : OkE T Y C k e) : OkE T Y C k (.lc2 lv own p it ifs p1 it1 ifs1 e) := by
  intro c x h L W X hL g hx
  unfold chkE at h
  split at h
  · rename_i elt tg iter is tg1 iter1 is1 scope pos
    simp only [Bool.and_eq_true] at h
    obtain ⟨h0, h1, h2, h3, h4, h5, h6, h7, b1, b2, b3, b4, b5⟩ := h
    obtain ⟨hc, hr⟩ := g.calm (hot_no h0)
    have ok := blk_ok h1
    rw [← g.hN, ← g.sc] at ok
    have hv1 : ∀ i ∈ p1.names, i ∈ own := fun i hi => by simpa using List.all_eq_true.mp b1 i hi
    have q := pe_lc2 (wi := tI Y L W C it) (g := gP Y L p) (tt := tTo Y L W0 C ifs) (wi1 := tI Y L W0 C it1) (g1 := gP Y L p1) (tt1 := tTo Y L W0 C ifs1) (te := tE Y L W0 C e) (vs1 := p1.names) hc (by rw [g.hN]; exact g.nd) (ih_it c _ _ h4 _ _ _ hL g hx) (pos := pos) ok
      (by rw [ownOf_snd]; exact hv1)
      (fun s H C0 cl fp => chkP_ok hL (gc_blk g (hot_no h0)) hc h3) (fun s H C0 cl fp => ih_ifs _ _ h5 _ _ _ hL (gc_blk g (hot_no h0)) ⟨trivial, trivial⟩)
      (fun s H C0 cl fp => ih_it1 _ _ _ b3 _ _ _ hL (gc_blk g (hot_no h0)) ⟨trivial, trivial⟩) (fun s H C0 cl fp => chkP_ok hL (gc_blk g (hot_no h0)) hc b2) (fun s H C0 cl fp => ih_ifs1 _ _ b4 _ _ _ hL (gc_blk g (hot_no h0)) ⟨trivial, trivial⟩)
      (fun s H C0 cl fp => ih_e _ _ h6 _ _ _ hL (gc_blk g (hot_no h0)) ⟨trivial, trivial⟩) (not_set h7) (fun _ => not_set b5)
    rw [ownOf_snd] at q
    exact PE.imp q fun σ H Q z => s_lc2 hL (fun i hi => by
      have := List.all_eq_true.mp h2 i hi
      simpa using this) z
  · cases h
theorem kE_lcL (lv : Bool) (own : List Nat) (p : Pt) (a : E) (ifs : To) (e : E) (ih_a : OkE T Y C k a) (ih_ifs : OkQ T Y C k ifs) (ih_e : OkE T Y C k e) : OkE T Y C k (.lcL lv own p a ifs e) := by
  intro c x h L W X hL g hx
  unfold chkE at h
  split at h
  · rename_i elt tg iter is scope pos
    simp only [Bool.and_eq_true] at h
    obtain ⟨h0, h1, h2, h3, h4, h5, h6, h7⟩ := h
    obtain ⟨hc, hr⟩ := g.calm (hot_no h0)
    have ok := blk_ok h1
    rw [← g.hN, ← g.sc] at ok
    have q := pe_lc (wi := iAny X.K (tE Y L W C a)) (g := gP Y L p) (tt := tTo Y L W0 C ifs) (te := tE Y L W0 C e) hc (by rw [g.hN]; exact g.nd) (pi_any (ih_a c _ h4 _ _ _ hL g hx)) (pos := pos) ok
      (fun s H C0 cl fp => chkP_ok hL (gc_blk g (hot_no h0)) hc h3) (fun s H C0 cl fp => ih_ifs _ _ h5 _ _ _ hL (gc_blk g (hot_no h0)) ⟨trivial, trivial⟩) (fun s H C0 cl fp => ih_e _ _ h6 _ _ _ hL (gc_blk g (hot_no h0)) ⟨trivial, trivial⟩) (not_set h7)
    rw [ownOf_snd] at q
    exact PE.imp q fun σ H Q z => s_lcL hL g.st.hK (fun i hi => by
      have := List.all_eq_true.mp h2 i hi
      simpa using this) z
  · cases h
theorem kEo_no   : OkO T Y C k (.no ) := by
  intro c x h L W X hL g hx
  unfold chkO at h
  split at h
  · exact PO.imp po_none fun σ H Q q => o_no q
  · cases h
theorem kEo_yes (e : E) (ih_e : OkE T Y C k e) : OkO T Y C k (.yes e) := by
  intro c x h L W X hL g hx
  unfold chkO at h
  split at h
  · exact PO.imp (po_some (ih_e c _ h _ _ _ hL g hx)) fun σ H Q q => o_yes hL q
  · cases h
theorem kEs_nil   : OkA T Y C k (.nil ) := by
  intro c x h L W X hL g hx
  unfold chkA at h
  split at h
  · exact PA.imp pa_nil fun σ H Q q => a_nil q
  · cases h
theorem kEs_cons (e : E) (r : Es) (ih_e : OkE T Y C k e) (ih_r : OkB T Y C k r) : OkA T Y C k (.cons e r) := by
  intro c x h L W X hL g hx
  unfold chkA at h
  split at h
  · simp only [Bool.and_eq_true, Bool.not_eq_true'] at h
    exact PA.imp (pa_cons (ih_e c _ h.2.1 _ _ _ hL g hx) (ih_r.1 c _ h.2.2 _ _ _ hL g hx) (star_no h.1)) fun σ H Q q => a_cons hL q
  · cases h
theorem kEs_star (e : E) (r : Es) (ih_e : OkE T Y C k e) (ih_r : OkB T Y C k r) : OkA T Y C k (.star e r) := by
  intro c x h L W X hL g hx
  unfold chkA at h
  split at h
  · simp only [Bool.and_eq_true] at h
    exact PA.imp (StX.pa_star (ih_e c _ h.1 _ _ _ hL g hx) (ih_r.1 c _ h.2 _ _ _ hL g hx) rfl) fun σ H Q q => a_star hL g.st.hK q
  · cases h
theorem kTe_and (a : Te) (b : Te) (ih_a : OkT T Y C k a) (ih_b : OkT T Y C k b) : OkT T Y C k (.and a b) := by
  intro c x h L W X hL g hx
  unfold chkT at h
  split at h
  · rename_i l y r pos
    simp only [Bool.and_eq_true] at h
    have hb := ih_b c _ h.2 _ _ _ hL g hx
    have hb2 : PW X (.BoolOp .And (y :: r) pos) (tT Y L W C b) := by
      cases r with
      | nil => exact pw_and1 hb
      | cons z r => exact pw_bool hb
    exact PT.imp (pw_and (ih_a c _ h.1 _ _ _ hL g hx) hb2).pt fun σ H Q q => q_and hL q
  · cases h
theorem kTe_or (a : Te) (b : Te) (ih_a : OkT T Y C k a) (ih_b : OkT T Y C k b) : OkT T Y C k (.or a b) := by
  intro c x h L W X hL g hx
  unfold chkT at h
  split at h
  · rename_i l y r pos
    simp only [Bool.and_eq_true] at h
    have hb := ih_b c _ h.2 _ _ _ hL g hx
    have hb2 : PW X (.BoolOp .Or (y :: r) pos) (tT Y L W C b) := by
      cases r with
      | nil => exact pw_or1 hb
      | cons z r => exact pw_bool hb
    exact PT.imp (pw_or (ih_a c _ h.1 _ _ _ hL g hx) hb2).pt fun σ H Q q => q_or hL q
  · cases h
theorem kTe_not (a : Te) (ih_a : OkT T Y C k a) : OkT T Y C k (.not a) := by
  intro c x h L W X hL g hx
  unfold chkT at h
  split at h
  · exact PT.imp (pt_not (ih_a c _ h _ _ _ hL g hx)) fun σ H Q q => q_not hL q
  · cases h
theorem kTe_cmp (o : Cm) (a : E) (b : E) (ih_a : OkE T Y C k a) (ih_b : OkE T Y C k b) : OkT T Y C k (.cmp o a b) := by
  intro c x h L W X hL g hx
  unfold chkT at h
  split at h
  · simp only [Bool.and_eq_true, Bool.not_eq_true'] at h
    obtain ⟨h1, h2, h3, h4⟩ := h
    rw [of_decide_eq_true h1] at h4 ⊢
    exact PT.imp (pt_cmpR (vo_cmp g.st.hK g.un o) (ih_a c _ h2 _ _ _ hL g hx) (ih_b c _ h3 _ _ _ hL g hx) h4) fun σ H Q q => q_cmp hL q
  · cases h
theorem kTe_chain (o : Cm) (p : Cm) (a : E) (b : E) (d : E) (ih_a : OkE T Y C k a) (ih_b : OkE T Y C k b) (ih_d : OkE T Y C k d) : OkT T Y C k (.chain o p a b d) := by
  intro c x h L W X hL g hx
  unfold chkT at h
  split at h
  · simp only [Bool.and_eq_true, Bool.not_eq_true'] at h
    obtain ⟨h1, h2, h3, h4, h5, h6⟩ := h
    rw [of_decide_eq_true h1, of_decide_eq_true h2] at h6 ⊢
    exact PT.imp (pt_chain (vo_cmp g.st.hK g.un o) (vo_cmp g.st.hK g.un p) (ih_a c _ h3 _ _ _ hL g hx) (ih_b c _ h4 _ _ _ hL g hx) (ih_d c _ h5 _ _ _ hL g hx) h6) fun σ H Q q => q_chain hL q
  · cases h
theorem kTe_din (j : Nat) (a : E) (ih_a : OkE T Y C k a) : OkT T Y C k (.din j a) := by
  intro c x h L W X hL g hx
  unfold chkT at h
  split at h
  · rename_i l n p pos
    simp only [Bool.and_eq_true] at h
    obtain ⟨h1, h2, h3, h4⟩ := h
    obtain ⟨d, es, en, kvs, e1, e2, e3, e4⟩ := g.st.dics (n, j) (by simpa using h2)
    exact PT.imp (pt_cmpR (op_in_kd e2) (ih_a c _ h4 _ _ _ hL g hx) (pe_glob (v := .ref d) (gl_ok g h1) e1 rfl (nodbg1 h3)) rfl) fun σ H Q q => q_din hL e3 e4 q
  · cases h
theorem kTe_oeq (ng : Bool) (j : Nat) (f : Nat) (a : E) (b : E) (ih_a : OkE T Y C k a) (ih_b : OkE T Y C k b) : OkT T Y C k (.oeq ng j f a b) := by
  intro c x h L W X hL g hx
  unfold chkT at h
  split at h
  · rename_i l op r pos
    simp only [Bool.and_eq_true, decide_eq_true_eq] at h
    obtain ⟨h0, rfl, h2, h3, h4, h5, h6⟩ := h
    rw [Bool.not_eq_true'] at h6
    obtain ⟨a', fd, ps, e1, e2, e3, e4⟩ := g.st.mts (j, eqNm, f) (by simpa using h2)
    obtain ⟨o1, o2⟩ := g.st.own j (by simpa using h3)
    obtain ⟨hc, hr⟩ := g.calm (hot_no h0)
    exact PT.imp (pt_own (ng := ng) ⟨e2.at_, e2.fn, o1, o2⟩ e4 hr g.gd e3 (g.tk (hot_no h0)) (fun vs H Q Q' E f z => spC_imp f z) (ih_a c _ h4 _ _ _ hL g hx) (ih_b c _ h5 _ _ _ hL g hx) h6) fun σ H Q q => q_oeq hL g.st.hK q
  · cases h
theorem kTe_val (e : E) (ih_e : OkE T Y C k e) : OkT T Y C k (.val e) := by
  intro c x h L W X hL g hx
  unfold chkT at h
  simp only [Bool.and_eq_true] at h
  exact PT.imp (pt_truth (ih_e c _ h.1 _ _ _ hL g hx) (plain_test h.2)) fun σ H Q q => q_val g.st.hK hL q
theorem kTo_no   : OkQ T Y C k (.no ) := by
  intro c x h L W X hL g hx
  unfold chkQ at h
  split at h
  · exact PTs.imp pts_nil fun σ H Q q => q_no q
  · cases h
theorem kTo_yes (t : Te) (ih_t : OkT T Y C k t) : OkQ T Y C k (.yes t) := by
  intro c x h L W X hL g hx
  unfold chkQ at h
  split at h
  · exact PTs.imp (pts_one (ih_t c _ h _ _ _ hL g hx)) fun σ H Q q => q_yes q
  · cases h
theorem kIt_seq (e : E) (ih_e : OkE T Y C k e) : OkI T Y C k (.seq e) := by
  intro c tg x h L W X hL g hx
  unfold chkI at h
  exact PI.imp (pi_any (ih_e c _ h _ _ _ hL g hx)) fun σ H R q => i_seq hL g.st.hK q
theorem kIt_rng1 (a : E) (ih_a : OkE T Y C k a) : OkI T Y C k (.rng1 a) := by
  intro c tg x h L W X hL g hx
  unfold chkI at h
  split at h
  · rename_i n p l pos
    simp only [Bool.and_eq_true, Bool.not_eq_true'] at h
    obtain ⟨rfl, g1, f1⟩ := blt_ok g h.1
    exact PI.imp (pi_range1 g1 f1 (pa_cons (ih_a c _ h.2.2 _ _ _ hL g hx) pa_nil (star_no h.2.1)) (star_no h.2.1)) fun σ H R q => i_rng1 hL q
  · cases h
theorem kIt_rng2 (a : E) (b : E) (ih_a : OkE T Y C k a) (ih_b : OkE T Y C k b) : OkI T Y C k (.rng2 a b) := by
  intro c tg x h L W X hL g hx
  unfold chkI at h
  split at h
  · rename_i n p l r pos
    simp only [Bool.and_eq_true, Bool.not_eq_true'] at h
    obtain ⟨h1, h2, h3, h4, h5⟩ := h
    obtain ⟨rfl, g1, f1⟩ := blt_ok g h1
    exact PI.imp (pi_range2 g1 f1 (pa_cons (ih_a c _ h4 _ _ _ hL g hx) (pa_cons (ih_b c _ h5 _ _ _ hL g hx) pa_nil (star_no h3)) (star_no h2)) (by rw [star_no h2, star_no h3]; rfl) (by rw [star_no h3]; rfl)) fun σ H R q => i_rng2 hL q
  · cases h
theorem kIt_enum (e : E) (ih_e : OkE T Y C k e) : OkI T Y C k (.enum e) := by
  intro c tg x h L W X hL g hx
  unfold chkI at h
  split at h
  · rename_i n p l pos
    simp only [Bool.and_eq_true, Bool.not_eq_true'] at h
    obtain ⟨h1, h2, h3, h4⟩ := h
    obtain ⟨rfl, g1, f1⟩ := blt_ok g h2
    cases tg with
    | Tuple ts kk tp => exact PI.imp (pi_enT g1 f1 (pa_cons (ih_e c _ h4 _ _ _ hL g hx) pa_nil (star_no h3)) (star_no h3)) fun σ H R q => i_enum hL g.st.hK q
    | _ => cases h1
  · cases h
theorem kIt_zip (a : E) (b : E) (ih_a : OkE T Y C k a) (ih_b : OkE T Y C k b) : OkI T Y C k (.zip a b) := by
  intro c tg x h L W X hL g hx
  unfold chkI at h
  split at h
  · rename_i n p l r pos
    simp only [Bool.and_eq_true, Bool.not_eq_true'] at h
    obtain ⟨h1, h2, h3, h4, h5, h6⟩ := h
    obtain ⟨rfl, g1, f1⟩ := blt_ok g h2
    cases tg with
    | Tuple ts kk tp => exact PI.imp (RZ.pi_zipA g1 f1 (pa_cons (ih_a c _ h5 _ _ _ hL g hx) (pa_cons (ih_b c _ h6 _ _ _ hL g hx) pa_nil (star_no h4)) (star_no h3)) (star_no h3) (by rw [star_no h4]; rfl)) fun σ H R q => i_zip hL g.st.hK q
    | _ => cases h1
  · cases h
theorem chkE_ok (e : E) : OkE T Y C k e := E.rec (motive_1 := fun e => OkE T Y C k e) (motive_2 := fun e => OkO T Y C k e) (motive_3 := fun e => OkB T Y C k e) (motive_4 := fun e => OkT T Y C k e) (motive_5 := fun e => OkQ T Y C k e) (motive_6 := fun e => OkI T Y C k e) kE_c kE_v kE_g kE_op kE_neg kE_cmp kE_chain kE_and kE_or kE_not kE_ite kE_tup kE_lst kE_sub kE_slc kE_rev kE_call kE_callk kE_calll kE_lamc kE_din kE_dsub kE_b kE_m kE_meth kE_mk kE_fld kE_xfld kE_xis kE_isi kE_oeq kE_lc kE_lc2 kE_lcL kEo_no kEo_yes ⟨kEs_nil, trivial⟩ (fun e r he hr => ⟨kEs_cons e r he hr, he, hr.2⟩) (fun e r he hr => ⟨kEs_star e r he hr, he, hr.2⟩) kTe_and kTe_or kTe_not kTe_cmp kTe_chain kTe_din kTe_oeq kTe_val kTo_no kTo_yes kIt_seq kIt_rng1 kIt_rng2 kIt_enum kIt_zip e
theorem chkT_ok (e : Te) : OkT T Y C k e := Te.rec (motive_1 := fun e => OkE T Y C k e) (motive_2 := fun e => OkO T Y C k e) (motive_3 := fun e => OkB T Y C k e) (motive_4 := fun e => OkT T Y C k e) (motive_5 := fun e => OkQ T Y C k e) (motive_6 := fun e => OkI T Y C k e) kE_c kE_v kE_g kE_op kE_neg kE_cmp kE_chain kE_and kE_or kE_not kE_ite kE_tup kE_lst kE_sub kE_slc kE_rev kE_call kE_callk kE_calll kE_lamc kE_din kE_dsub kE_b kE_m kE_meth kE_mk kE_fld kE_xfld kE_xis kE_isi kE_oeq kE_lc kE_lc2 kE_lcL kEo_no kEo_yes ⟨kEs_nil, trivial⟩ (fun e r he hr => ⟨kEs_cons e r he hr, he, hr.2⟩) (fun e r he hr => ⟨kEs_star e r he hr, he, hr.2⟩) kTe_and kTe_or kTe_not kTe_cmp kTe_chain kTe_din kTe_oeq kTe_val kTo_no kTo_yes kIt_seq kIt_rng1 kIt_rng2 kIt_enum kIt_zip e
theorem chkO_ok (e : Eo) : OkO T Y C k e := Eo.rec (motive_1 := fun e => OkE T Y C k e) (motive_2 := fun e => OkO T Y C k e) (motive_3 := fun e => OkB T Y C k e) (motive_4 := fun e => OkT T Y C k e) (motive_5 := fun e => OkQ T Y C k e) (motive_6 := fun e => OkI T Y C k e) kE_c kE_v kE_g kE_op kE_neg kE_cmp kE_chain kE_and kE_or kE_not kE_ite kE_tup kE_lst kE_sub kE_slc kE_rev kE_call kE_callk kE_calll kE_lamc kE_din kE_dsub kE_b kE_m kE_meth kE_mk kE_fld kE_xfld kE_xis kE_isi kE_oeq kE_lc kE_lc2 kE_lcL kEo_no kEo_yes ⟨kEs_nil, trivial⟩ (fun e r he hr => ⟨kEs_cons e r he hr, he, hr.2⟩) (fun e r he hr => ⟨kEs_star e r he hr, he, hr.2⟩) kTe_and kTe_or kTe_not kTe_cmp kTe_chain kTe_din kTe_oeq kTe_val kTo_no kTo_yes kIt_seq kIt_rng1 kIt_rng2 kIt_enum kIt_zip e
theorem chkQ_ok (e : To) : OkQ T Y C k e := To.rec (motive_1 := fun e => OkE T Y C k e) (motive_2 := fun e => OkO T Y C k e) (motive_3 := fun e => OkB T Y C k e) (motive_4 := fun e => OkT T Y C k e) (motive_5 := fun e => OkQ T Y C k e) (motive_6 := fun e => OkI T Y C k e) kE_c kE_v kE_g kE_op kE_neg kE_cmp kE_chain kE_and kE_or kE_not kE_ite kE_tup kE_lst kE_sub kE_slc kE_rev kE_call kE_callk kE_calll kE_lamc kE_din kE_dsub kE_b kE_m kE_meth kE_mk kE_fld kE_xfld kE_xis kE_isi kE_oeq kE_lc kE_lc2 kE_lcL kEo_no kEo_yes ⟨kEs_nil, trivial⟩ (fun e r he hr => ⟨kEs_cons e r he hr, he, hr.2⟩) (fun e r he hr => ⟨kEs_star e r he hr, he, hr.2⟩) kTe_and kTe_or kTe_not kTe_cmp kTe_chain kTe_din kTe_oeq kTe_val kTo_no kTo_yes kIt_seq kIt_rng1 kIt_rng2 kIt_enum kIt_zip e
theorem chkI_ok (e : It) : OkI T Y C k e := It.rec (motive_1 := fun e => OkE T Y C k e) (motive_2 := fun e => OkO T Y C k e) (motive_3 := fun e => OkB T Y C k e) (motive_4 := fun e => OkT T Y C k e) (motive_5 := fun e => OkQ T Y C k e) (motive_6 := fun e => OkI T Y C k e) kE_c kE_v kE_g kE_op kE_neg kE_cmp kE_chain kE_and kE_or kE_not kE_ite kE_tup kE_lst kE_sub kE_slc kE_rev kE_call kE_callk kE_calll kE_lamc kE_din kE_dsub kE_b kE_m kE_meth kE_mk kE_fld kE_xfld kE_xis kE_isi kE_oeq kE_lc kE_lc2 kE_lcL kEo_no kEo_yes ⟨kEs_nil, trivial⟩ (fun e r he hr => ⟨kEs_cons e r he hr, he, hr.2⟩) (fun e r he hr => ⟨kEs_star e r he hr, he, hr.2⟩) kTe_and kTe_or kTe_not kTe_cmp kTe_chain kTe_din kTe_oeq kTe_val kTo_no kTo_yes kIt_seq kIt_rng1 kIt_rng2 kIt_enum kIt_zip e
theorem chkA_ok (e : Es) : OkA T Y C k e := (Es.rec (motive_1 := fun e => OkE T Y C k e) (motive_2 := fun e => OkO T Y C k e) (motive_3 := fun e => OkB T Y C k e) (motive_4 := fun e => OkT T Y C k e) (motive_5 := fun e => OkQ T Y C k e) (motive_6 := fun e => OkI T Y C k e) kE_c kE_v kE_g kE_op kE_neg kE_cmp kE_chain kE_and kE_or kE_not kE_ite kE_tup kE_lst kE_sub kE_slc kE_rev kE_call kE_callk kE_calll kE_lamc kE_din kE_dsub kE_b kE_m kE_meth kE_mk kE_fld kE_xfld kE_xis kE_isi kE_oeq kE_lc kE_lc2 kE_lcL kEo_no kEo_yes ⟨kEs_nil, trivial⟩ (fun e r he hr => ⟨kEs_cons e r he hr, he, hr.2⟩) (fun e r he hr => ⟨kEs_star e r he hr, he, hr.2⟩) kTe_and kTe_or kTe_not kTe_cmp kTe_chain kTe_din kTe_oeq kTe_val kTo_no kTo_yes kIt_seq kIt_rng1 kIt_rng2 kIt_enum kIt_zip e : OkB T Y C k e).1
end
end Mp
end
section
set_option autoImplicit false
set_option Elab.async false
set_option linter.all false
set_option maxRecDepth 100000
set_option maxHeartbeats 8000000
/-! MpChk5: statements against the text. -/
namespace Mp
open PySem PySem.Spec PyProof.Rows L2
/-- C(), an own error's class without __init__ -/
theorem pmk_own0 {X : Cx} {C : Addr} {bmB : List Value} {B newId initId : String} {x : Str} {p pos : Pos} (F : ExcBaseFacts B newId initId bmB) (q : PySem.W.excIn X.K C bmB newId = true) (gC : X.mg x = some (.ref C)) (kC : PySem.W.keepIn X.K (.ref C) = true) (r : Raises X (.ref C)) (hg : Gl X x)
    (hdb : (x == ("__debug__" : Str)) = false) : PMk X (.Call (.Name x p) [] [] pos) (fun _ H Q => Q (.ref C) none H) := by
  intro pins s σ H Q I h
  refine wpAny_Call_Name_kw (ld_glob I hg gC ?_ hdb)
  refine PySem.W.callWith_K0 I.kIn kC ?_
  obtain ⟨bm, N, nm, qn, bs, hd, sn, sub, ab, col, dd, k0, k1, k2, k3, k5, mN, o1, o2, o3, o4⟩ := exc_obj I.kIn q
  refine wpAny_call_exc_subT F o4 o1 o2 o3 (fun h' e hm => ?_) (Nat.zero_le _)
  exact mk_of I hm r h (I.hok.gone hm.new)
section
variable (T : Tb)
mutual
def chkTg : Tg → Ck → Expr → Bool
  | .nm i, c, x => chkN c i x
  | .sub a i, c, x => match x with
    | .Subscript l r _ => chkE T a c l && (chkE T i c r && plainIx r)
    | _ => false
  | .fld _ _, _, _ => false
  | .tup ts, c, x => match x with
    | .Tuple es _ _ => !c.hot && chkTgs ts c es
    | _ => false
def chkTgs : Tgs → Ck → List Expr → Bool
  | .nil, _, xs => match xs with
    | [] => true
    | _ => false
  | .cons t r, c, xs => match xs with
    | x :: xs => !isStar x && (chkTg t c x && chkTgs r c xs)
    | _ => false
end
/-- x, y = a, b with plain names -/
def parB (c : Ck) (ts vs : List Expr) : Bool := match ts, vs with
  | [.Name x px, .Name y py], [a, b] => kindB c.sc x .local && (kindB c.sc y .local && (decide (px.line = py.line) && (!decide (x = y) && (decide (c.sc.kind = .function) && (!isStar a && (!isStar b && (!([a, b].all (foldedForSure 8)) && !([a, b].all (constantsAlone 8)))))))))
  | _, _ => false
/-- x, y, z = a, b, c with plain names -/
def parB3 (c : Ck) (ts vs : List Expr) : Bool := match ts, vs with
  | [.Name x px, .Name y py, .Name z pz], [a, b, e] => kindB c.sc x .local && (kindB c.sc y .local && (kindB c.sc z .local && (decide (px.line = py.line) && (decide (px.line = pz.line) && (!decide (x = y) && (!decide (x = z) && (!decide (y = z) && (decide (c.sc.kind = .function) && (!isStar a && (!isStar b && (!isStar e && (!([a, b, e].all (foldedForSure 8)) && !([a, b, e].all (constantsAlone 8))))))))))))))
  | _, _ => false
def Ck.suite (c : Ck) (xi : Option Nat) : Ck := { c with hot := true, xi := xi, lm := none }
mutual
def chkS : St → Ck → Stmt → Bool
  | .set t e, c, x => match x with
    | .Assign [tg] v _ => (match t with
      | .fld a f => (match tg with
        | .Attribute l n _ => decide (n = S f) && (chkE T a c l && chkE T e c v)
        | _ => false)
      | .nm i => (match e with
        | .lc lv own p it ifs el => chkN c i tg && (decide (c.sc.kind = .function) && chkE T (.lc lv own p it ifs el) c v)
        | .lc2 lv own p it ifs p1 it1 ifs1 el => chkN c i tg && (decide (c.sc.kind = .function) && chkE T (.lc2 lv own p it ifs p1 it1 ifs1 el) c v)
        | .lcL lv own p a ifs el => chkN c i tg && (decide (c.sc.kind = .function) && chkE T (.lcL lv own p a ifs el) c v)
        | e => chkN c i tg && (chkE T e c v && !isComp v))
      | .tup (.cons (.nm i) (.cons (.nm j) .nil)) => (match tg, v, e with
        | .Tuple ts k1 p1, .Tuple vs k2 p2, .tup es => (!c.hot && (decide (i ≠ j) && (chkNs c [i, j] ts && (parB c ts vs && chkA T es c vs)))) || (chkTg T (.tup (.cons (.nm i) (.cons (.nm j) .nil))) c (.Tuple ts k1 p1) && (chkE T (.tup es) c (.Tuple vs k2 p2) && (!isComp (.Tuple vs k2 p2) && (!isTupE (.Tuple vs k2 p2) || (longT (.Tuple ts k1 p1) || (mixT c.sc (.Tuple ts k1 p1) || foldT (.Tuple vs k2 p2)))))))
        | _, _, _ => chkTg T t c tg && (chkE T e c v && (!isComp v && !isTupE v)))
      | .tup (.cons (.nm i) (.cons (.nm j) (.cons (.nm l) .nil))) => (match tg, v, e with
        | .Tuple ts k1 p1, .Tuple vs k2 p2, .tup es => (!c.hot && (decide (i ≠ j) && (decide (i ≠ l) && (decide (j ≠ l) && (chkNs c [i, j, l] ts && (parB3 c ts vs && chkA T es c vs)))))) || (chkTg T (.tup (.cons (.nm i) (.cons (.nm j) (.cons (.nm l) .nil)))) c (.Tuple ts k1 p1) && (chkE T (.tup es) c (.Tuple vs k2 p2) && (!isComp (.Tuple vs k2 p2) && (!isTupE (.Tuple vs k2 p2) || (longT (.Tuple ts k1 p1) || (mixT c.sc (.Tuple ts k1 p1) || foldT (.Tuple vs k2 p2)))))))
        | _, _, _ => chkTg T t c tg && (chkE T e c v && (!isComp v && !isTupE v)))
      | t => chkTg T t c tg && (chkE T e c v && (!isComp v && (!isTupE v || (longT tg || (mixT c.sc tg || foldT v))))))
    | _ => false
  | .expr e, c, x => match x with
    | .Expr v _ => chkE T e c v && !isComp v
    | _ => false
  | .ret e, c, x => match x with
    | .Return (some v) _ => chkE T e c v
    | .Return none _ => (match e with
      | .c .non => true
      | _ => false)
    | _ => false
  | .pass, _, x => match x with
    | .Pass _ => true
    | .Expr (.Constant (.str _) _ _) _ => true
    | _ => false
  | .ite d a b, c, x => match x with
    | .If t xs ys _ => chkT T d c t && (chkSs a c xs && chkSs b c ys)
    | _ => false
  | .whl d b, c, x => match x with
    | .While t xs [] _ => !c.hot && (chkT T d c t && chkSs b c xs)
    | _ => false
  | .loop p it b, c, x => match x with
    | .For tg iter xs [] _ => !c.hot && (chkP c p tg && (chkI T it c tg iter && (chkSs b c xs && notSet iter)))
    | _ => false
  | .loopL p a b, c, x => match x with
    | .For tg iter xs [] _ => !c.hot && (chkP c p tg && (chkE T a c iter && (chkSs b c xs && notSet iter)))
    | _ => false
  | .raise k e, c, x => match x with
    | .Raise (some (.Call (.Name n _) args [] _)) none _ => !c.hot && (c.gl n && (nodbg n && (match e with
      | .no => (match args with
        | [] => T.xc0.contains (n, k)
        | _ => false)
      | .yes e => (match args with
        | [y] => T.xc1.any (fun q => decide (q.1 = n) && decide (q.2.1 = k)) && (!isStar y && chkE T e c y)
        | _ => false))))
    | _ => false
  | .tryx b hs, c, x => match x with
    | .Try body [.ExceptHandler (some (.Name n _)) nm (b0 :: suite) _] [] [] _ => !c.hot && (c.gl n && (nodbg n && (chkSs b c body && (chkH hs c n nm (b0 :: suite) && c.xi.isNone))))
    | _ => false
def chkSs : Ss → Ck → List Stmt → Bool
  | .nil, _, xs => match xs with
    | [] => true
    | _ => false
  | .cons s r, c, xs => match xs with
    | x :: xs => chkS s c x && chkSs r c xs
    | _ => false
def chkH : Hs → Ck → Str → Option Str → List Stmt → Bool
  | .nil, _, _, _, _ => false
  | .cons k i hb r, c, n, nm, suite => T.xnm.contains (n, k) && ((match r with
    | .nil => true
    | _ => false) && (match i, nm with
    | some i, some m => nmB c.N i m && (kindB c.sc m .local && chkSs hb (c.suite (some i)) suite)
    | none, none => chkSs hb (c.suite none) suite
    | _, _ => false))
end
end
/-! ### stores -/
theorem tAsg_nm {Y : Kx} {L : Sv} {W : WX} {C : Cfg} {U : Ends} {σ : L2.St} {H : Hp} (hL : SvOk L) {i : Nat} {e : E} (h : tAsg (tE Y L W C e) (gT Y L W C (.nm i)) U σ H) : tAsg (tE Y L W C e) (gName i) U σ H := by
  obtain ⟨m, ρ, st, rs, re, p⟩ := h
  exact ⟨m, ρ, st, rs, re, p.imp fun d m' st' H' x rs' q v hv => g_nm hL (q v hv)⟩
theorem tLc_mono {wi : TI} {g : TG} {tt : TT} {te : TE} {vs : List Nat} {σ : L2.St} {H : Hp} {Q Q' : VK} (h : tLc wi g tt te vs σ H Q) (f : ∀ v H, Q v H → Q' v H) (hw : ∀ (R R' : L2.It → Hp → Prop), (∀ J H, R J H → R' J H) → wi σ H R → wi σ H R') : tLc wi g tt te vs σ H Q' := by
  refine hw _ _ (fun J H1 q D0 hD => ?_) h
  obtain ⟨Wh, w0, turn⟩ := q D0 hD
  exact ⟨Wh, w0, fun i m H w => (turn i m H w).imp (fun z => ⟨z.1, f _ _ z.2⟩) id⟩
theorem tLc2_mono {wi wi1 : TI} {g g1 : TG} {tt tt1 : TT} {te : TE} {vs vs1 : List Nat} {σ : L2.St} {H : Hp} {Q Q' : VK} (h : tLc2 wi g tt wi1 g1 tt1 te vs vs1 σ H Q) (f : ∀ v H, Q v H → Q' v H) (hw : ∀ (R R' : L2.It → Hp → Prop), (∀ J H, R J H → R' J H) → wi σ H R → wi σ H R') : tLc2 wi g tt wi1 g1 tt1 te vs vs1 σ H Q' := by
  refine hw _ _ (fun J H1 q D0 hD => ?_) h
  obtain ⟨Wh, w0, turn⟩ := q D0 hD
  exact ⟨Wh, w0, fun i m H w => (turn i m H w).imp (fun z => ⟨z.1, f _ _ z.2⟩) id⟩
theorem tI_mono {Y : Kx} {L : Sv} {W : WX} {C : Cfg} {it : It} {σ : L2.St} {H : Hp} : ∀ (R R' : L2.It → Hp → Prop), (∀ J H, R J H → R' J H) → tI Y L W C it σ H R → tI Y L W C it σ H R' := fun R R' f h =>
  tR.imp h fun ds m' st' H' rs q J jw => f _ _ (q J jw)
theorem iAny_mono {Y : Kx} {L : Sv} {W : WX} {C : Cfg} {K : PySem.W.Frag} {a : E} {σ : L2.St} {H : Hp} : ∀ (R R' : L2.It → Hp → Prop), (∀ J H, R J H → R' J H) → iAny K (tE Y L W C a) σ H R → iAny K (tE Y L W C a) σ H R' := fun R R' f h =>
  tR.imp h fun x m' st' H' rs q v hv => (q v hv).imp (fun ⟨a, xs, e, s, r⟩ => ⟨a, xs, e, s, f _ _ r⟩) fun z => z.imp (fun ⟨a, xs, e, s, r⟩ => ⟨a, xs, e, s, f _ _ r⟩) fun ⟨y, e, r⟩ => ⟨y, e, f _ _ r⟩
section
variable {T : Tb} {Y : Kx} {C : Cfg} {k : Nat}
theorem assign_sub {o i : Expr} {pos : Pos} {env : PySem.Env} (h : plainIx i = true) : ∀ v, assign (.Subscript o i pos) env v = (do
      let ov ← holding [v] (eval o env)
      let iv ← holding [v, ov] (eval i env)
      standAt pos
      holding [v, ov, iv] (setItem ov iv v)
      release [v, ov, iv] []) := by
  intro v
  cases i <;> first
    | rfl
    | cases h
theorem assign_no {e : Expr} {es : List Expr} {env : PySem.Env} (h : isStar e = false) : assignEach (e :: es) env = (false, assign e env) :: assignEach es env := by
  cases e <;> first
    | rfl
    | cases h
def OkTg (T : Tb) (Y : Kx) (C : Cfg) (k : Nat) (t : Tg) : Prop := ∀ (c : Ck) (x : Expr), chkTg T t c x = true → ∀ (L : Sv) (W : WX) (X : Cx), SvOk L → GC T c Y C k W X → XOk Y C c X L → PG X x (gT Y L W C t) ∧ isStar x = false
def OkTgs (T : Tb) (Y : Kx) (C : Cfg) (k : Nat) (t : Tgs) : Prop := ∀ (c : Ck) (x : List Expr), chkTgs T t c x = true → ∀ (L : Sv) (W : WX) (X : Cx), SvOk L → GC T c Y C k W X → XOk Y C c X L → PGs X x (gTs Y L W C t) ∧ (assignEach x X.env).length = t.len ∧ (assignEach x X.env).findIdx? (·.1) = none
theorem kTg_nm (i : Nat) : OkTg T Y C k (.nm i) := by
  intro c x h L W X hL g hx
  unfold chkTg at h
  refine ⟨PG.imp (chkN_ok hL g h) fun v σ H Q q => g_nm hL q, ?_⟩
  unfold chkN at h
  split at h
  · rfl
  · cases h
theorem kTg_sub (a i : E) : OkTg T Y C k (.sub a i) := by
  intro c x h L W X hL g hx
  unfold chkTg at h
  split at h
  · simp only [Bool.and_eq_true] at h
    exact ⟨PG.imp (pg_sub (chkE_ok a c _ h.1 _ _ _ hL g hx) (chkE_ok i c _ h.2.1 _ _ _ hL g hx) set_list (assign_sub h.2.2)) fun v σ H Q q => g_sub hL q, rfl⟩
  · cases h
theorem kTg_fld (a : E) (f : Sx) : OkTg T Y C k (.fld a f) := by
  intro c x h L W X hL g hx
  unfold chkTg at h
  cases h
theorem kTg_tup (ts : Tgs) (ih : OkTgs T Y C k ts) : OkTg T Y C k (.tup ts) := by
  intro c x h L W X hL g hx
  unfold chkTg at h
  split at h
  · simp only [Bool.and_eq_true] at h
    obtain ⟨hc, _⟩ := g.calm (hot_no h.1)
    obtain ⟨q, hl, hf⟩ := ih c _ h.2 L W X hL g hx
    exact ⟨PG.imp (pg_tup (n := ts.len) hc q hl hf) fun v σ H Q z => g_tup g.st.hK z, rfl⟩
  · cases h
theorem kTgs_nil : OkTgs T Y C k .nil := by
  intro c x h L W X hL g hx
  unfold chkTgs at h
  split at h
  · exact ⟨PGs.imp pgs_nil fun v σ H Q q => gs_nil q, rfl, rfl⟩
  · cases h
theorem kTgs_cons (t : Tg) (r : Tgs) (ih : OkTg T Y C k t) (ihr : OkTgs T Y C k r) : OkTgs T Y C k (.cons t r) := by
  intro c x h L W X hL g hx
  unfold chkTgs at h
  split at h
  · simp only [Bool.and_eq_true, Bool.not_eq_true'] at h
    obtain ⟨q1, _⟩ := ih c _ h.2.1 L W X hL g hx
    obtain ⟨q2, hl, hf⟩ := ihr c _ h.2.2 L W X hL g hx
    refine ⟨PGs.imp (pgs_cons q1 q2 (by rw [assign_no h.1]; rfl)) fun v σ H Q z => gs_cons hL z, by rw [assign_no h.1, List.length_cons, hl]; rfl, ?_⟩
    rw [assign_no h.1, List.findIdx?_cons]
    simp [hf]
  · cases h
theorem chkTg_ok (t : Tg) : OkTg T Y C k t := Tg.rec (motive_1 := fun t => OkTg T Y C k t) (motive_2 := fun t => OkTgs T Y C k t) kTg_nm kTg_sub kTg_fld kTg_tup kTgs_nil kTgs_cons t
/-! ### statements -/
structure GS (T : Tb) (c : Ck) (Y : Kx) (C : Cfg) (k : Nat) (W : WX) (X : Cx) : Prop extends GC T c Y C k W X where
  hs : X.stack = X.env :: X.outer
  hf : X.env.frame = some X.env.locals
  po : c.hot = false → PassesOwn (model X.prog X.w) X.A X.env X.xe
def OkS (T : Tb) (Y : Kx) (C : Cfg) (k : Nat) (s : St) : Prop := ∀ (c : Ck) (x : Stmt), chkS T s c x = true → ∀ (L : Sv) (W : WX) (X : Cx), SvOk L → GS T c Y C k W X → XOk Y C c X L → PS X x (tSt Y L W C s)
def OkSs (T : Tb) (Y : Kx) (C : Cfg) (k : Nat) (s : Ss) : Prop := ∀ (c : Ck) (x : List Stmt), chkSs T s c x = true → ∀ (L : Sv) (W : WX) (X : Cx), SvOk L → GS T c Y C k W X → XOk Y C c X L → PSs X x (tSs Y L W C s)
def EachH (T : Tb) (Y : Kx) (C : Cfg) (k : Nat) : Hs → Prop
  | .nil => True
  | .cons _ _ b r => OkSs T Y C k b ∧ EachH T Y C k r
theorem kS_nil : OkSs T Y C k .nil := by
  intro c x h L W X hL g hx
  unfold chkSs at h
  split at h
  · exact PSs.imp pss_nil fun U σ H q => t_nil q
  · cases h
theorem kS_cons (s : St) (r : Ss) (ih : OkS T Y C k s) (ihr : OkSs T Y C k r) : OkSs T Y C k (.cons s r) := by
  intro c x h L W X hL g hx
  unfold chkSs at h
  split at h
  · simp only [Bool.and_eq_true] at h
    exact PSs.imp (pss_cons (ih c _ h.1 L W X hL g hx) (ihr c _ h.2 L W X hL g hx)) fun U σ H q => t_cons q
  · cases h
theorem kS_expr (e : E) : OkS T Y C k (.expr e) := by
  intro c x h L W X hL g hx
  unfold chkS at h
  split at h
  · simp only [Bool.and_eq_true, Bool.not_eq_true'] at h
    exact PS.imp (ps_expr (chkE_ok e c _ h.1 _ _ _ hL g.toGX hx) (no_swap h.2)) fun U σ H q => t_expr hL q
  · cases h
theorem kS_ret (e : E) : OkS T Y C k (.ret e) := by
  intro c x h L W X hL g hx
  unfold chkS at h
  split at h
  · exact PS.imp (ps_ret (chkE_ok e c _ h _ _ _ hL g.toGX hx)) fun U σ H q => t_ret hL q
  · split at h
    · exact PS.imp ps_retN fun U σ H q => t_retN q
    · cases h
  · cases h
theorem kS_pass : OkS T Y C k .pass := by
  intro c x h L W X hL g hx
  unfold chkS at h
  split at h
  · exact PS.imp ps_pass fun U σ H q => t_pass q
  · exact PS.imp ps_doc fun U σ H q => t_pass q
  · cases h
theorem kS_ite (d : Te) (a b : Ss) (iha : OkSs T Y C k a) (ihb : OkSs T Y C k b) : OkS T Y C k (.ite d a b) := by
  intro c x h L W X hL g hx
  unfold chkS at h
  split at h
  · simp only [Bool.and_eq_true] at h
    exact PS.imp (ps_if (chkT_ok d c _ h.1 _ _ _ hL g.toGX hx) (iha c _ h.2.1 L W X hL g hx) (ihb c _ h.2.2 L W X hL g hx)) fun U σ H q => t_if hL q
  · cases h
theorem kS_whl (d : Te) (b : Ss) (ihb : OkSs T Y C k b) : OkS T Y C k (.whl d b) := by
  intro c x h L W X hL g hx
  unfold chkS at h
  split at h
  · simp only [Bool.and_eq_true] at h
    exact PS.imp (ps_while (g.po (hot_no h.1)) (chkT_ok d c _ h.2.1 _ _ _ hL g.toGX hx) (ihb c _ h.2.2 L W X hL g hx)) fun U σ H q => t_whl hL q
  · cases h
theorem kS_loop (p : Pt) (it : It) (b : Ss) (ihb : OkSs T Y C k b) : OkS T Y C k (.loop p it b) := by
  intro c x h L W X hL g hx
  unfold chkS at h
  split at h
  · simp only [Bool.and_eq_true] at h
    obtain ⟨hc, _⟩ := g.calm (hot_no h.1)
    exact PS.imp (ps_for (g.po (hot_no h.1)) hc (chkI_ok it c _ _ h.2.2.1 _ _ _ hL g.toGX hx) (chkP_ok hL g.toGX hc h.2.1) (ihb c _ h.2.2.2.1 L W X hL g hx) (not_set h.2.2.2.2)) fun U σ H q => t_for hL q
  · cases h
theorem kS_loopL (p : Pt) (a : E) (b : Ss) (ihb : OkSs T Y C k b) : OkS T Y C k (.loopL p a b) := by
  intro c x h L W X hL g hx
  unfold chkS at h
  split at h
  · simp only [Bool.and_eq_true] at h
    obtain ⟨hc, _⟩ := g.calm (hot_no h.1)
    exact PS.imp (ps_for (g.po (hot_no h.1)) hc (pi_any (chkE_ok a c _ h.2.2.1 _ _ _ hL g.toGX hx)) (chkP_ok hL g.toGX hc h.2.1) (ihb c _ h.2.2.2.1 L W X hL g hx) (not_set h.2.2.2.2)) fun U σ H q => t_forL hL g.st.hK q
  · cases h
theorem kS_raise (j : Nat) (e : Eo) : OkS T Y C k (.raise j e) := by
  intro c x h L W X hL g hx
  unfold chkS at h
  split at h
  · rename_i n p args pos pos2
    simp only [Bool.and_eq_true] at h
    obtain ⟨h0, h1, h2, h3⟩ := h
    obtain ⟨hc, hr⟩ := g.calm (hot_no h0)
    have tk := g.tk (hot_no h0)
    split at h3
    · split at h3
      · obtain ⟨e1, e2, e3, e4, e5, e6⟩ := g.st.xc0 (n, j) (by simpa using h3)
        exact PS.imp (ps_raise hc tk (pmk_own0 PySem.F.excBase_ValueError e3 e1 e4 (raises_own e5 e6) (gl_ok g.toGX h1) (nodbg1 h2))) fun U σ H q => t_raise0 e2 q
      · cases h3
    · rename_i e
      split at h3
      · rename_i y
        simp only [Bool.and_eq_true, Bool.not_eq_true', List.any_eq_true, decide_eq_true_eq] at h3
        obtain ⟨⟨q, hq, rfl, rfl⟩, h4, h5⟩ := h3
        obtain ⟨e1, e2, e3, e4, fI, qn, e5⟩ := g.st.xc1 q hq
        have he := chkE_ok e c _ h5 _ _ _ hL g.toGX hx
        exact PS.imp (ps_raise hc tk (pmk_i e4 e5 e1 hr (pa_cons he pa_nil (star_no h4)) (gl_ok g.toGX h1) (nodbg1 h2) (star_no h4) rfl)) fun U σ H z => t_raise1 hL e2 e3 z
      · cases h3
  · cases h
theorem gs_tr {c : Ck} {W : WX} {X : Cx} (g : GS T c Y C k W X) (h : c.hot = false) {W' : WX} {pn : List (Addr × PySem.Obj)} {xe : Value → Shared → Prop} (tk : Takes (X.tr pn xe) W') (po : PassesOwn (model X.prog X.w) X.A X.env xe) : GS T c Y C k W' (X.tr pn xe) :=
  { st := g.st, hN := g.hN, nd := g.nd, sc := g.sc, fn := g.fn, un := g.un, gd := g.gd, calm := g.calm, tk := fun _ => tk, lam := g.lam, hs := g.hs, hf := g.hf, po := fun _ => po }
theorem gs_suite {c : Ck} {W : WX} {X : Cx} (g : GS T c Y C k W X) {xi : Option Nat} {a : Addr} {pn : List (Addr × PySem.Obj)} : GS T (c.suite xi) Y C k W0 (X.suite a pn) :=
  { st := g.st, hN := g.hN, nd := g.nd, sc := g.sc, fn := g.fn, un := g.un, gd := g.gd, calm := fun h => absurd (show true = false from h) (by simp), tk := fun h => absurd (show true = false from h) (by simp), lam := fun h => absurd (show true = false from h) (by simp), hs := g.hs, hf := g.hf, po := fun h => absurd (show true = false from h) (by simp) }
theorem kS_try (b : Ss) (hs : Hs) (ihb : OkSs T Y C k b) (ihh : EachH T Y C k hs) : OkS T Y C k (.tryx b hs) := by
  intro c x h L W X hL g hx
  unfold chkS at h
  split at h
  · rename_i body n np nm b0 suite pos' pos
    simp only [Bool.and_eq_true] at h
    obtain ⟨h0, h1, h2, h3, h4, hxi⟩ := h
    have hot := hot_no h0
    have xin : c.xi = none := Option.isNone_iff_eq_none.mp hxi
    cases hs with
    | nil =>
      unfold chkH at h4
      cases h4
    | cons j i hb r =>
      unfold chkH at h4
      simp only [Bool.and_eq_true] at h4
      obtain ⟨h5, h6, h7⟩ := h4
      have hr : r = .nil := by
        split at h6
        · rfl
        · cases h6
      subst hr
      obtain ⟨e1, e2, e3⟩ := g.st.xnm (n, j) (by simpa using h5)
      have nms : Names X n (Y.ckU j) := ⟨gl_ok g.toGX h1, nodbg1 h2, e1.imp id fun z => ⟨z.1, z.2, nodbg3 h2⟩⟩
      have hbody : ∀ (W' : WX) (pn : List (Addr × PySem.Obj)) (xe : Value → Shared → Prop), Takes (X.tr pn xe) W' → PassesOwn (model X.prog X.w) X.A X.env xe → PSs (X.tr pn xe) body (tSs Y L W' C b) := fun W' pn xe tk po =>
        ihb c body h3 L W' _ hL (gs_tr g hot tk po) ⟨by rw [xin]; trivial, hx.2.tr⟩
      split at h7
      · rename_i i m
        unfold nmB kindB at h7
        simp only [Bool.and_eq_true, decide_eq_true_eq] at h7
        obtain ⟨h8, h9, h10⟩ := h7
        refine PS.imp (ps_try_as (tb := fun W' => tSs Y L W' C b) (ts := fun a cls dx => tSs Y (LX Y a cls dx i L) W0 C hb) g.hs g.hf (by rw [g.hN]; exact g.nd) (by rw [g.hN]; exact h8) (by show X.env.scope.names.lookup m = _; rw [g.sc]; exact h9) nms (g.tk hot) hbody fun a oe cls d pn hz hf => ?_) fun U σ H q => t_try_as hL e2 q
        exact ihh.1 _ _ h10 _ _ _ (LX.ok hL) (gs_suite g) ⟨⟨X, a, oe, cls, d, pn, L, rfl, hz, hf, hL, rfl⟩, trivial⟩
      · refine PS.imp (ps_try_only (tb := fun W' => tSs Y L W' C b) (ts := fun a cls dx => tSs Y L W0 C hb) g.hs g.hf nms (g.tk hot) hbody fun a oe cls d pn hz hf => ?_) fun U σ H q => t_try_only e2 q
        exact ihh.1 _ _ h7 _ _ _ hL (gs_suite g) ⟨trivial, trivial⟩
      · cases h7
  · cases h
theorem chkTg_set {c : Ck} {L : Sv} {W : WX} {X : Cx} (hL : SvOk L) (g : GC T c Y C k W X) (hx : XOk Y C c X L) {t : Tg} {e : E} {tg v : Expr} {pos : Pos} (h : (chkTg T t c tg && (chkE T e c v && (!isComp v && !isTupE v))) = true) : PS X (.Assign [tg] v pos) (tSt Y L W C (.set t e)) := by
  simp only [Bool.and_eq_true, Bool.not_eq_true'] at h
  obtain ⟨h1, h2, h3, h4⟩ := h
  obtain ⟨q1, q2⟩ := chkTg_ok t c _ h1 L W X hL g hx
  exact PS.imp (ps_asg (chkE_ok e c _ h2 _ _ _ hL g hx) q1 (no_swap h3) (no_swaps h4) (by rw [assign_no q2]; rfl)) fun U σ H q => t_set hL q
/-- whether the store goes ahead of the comprehension's end -/
def swB (sc scope : Scope) (y : Str) (py pos : Pos) : Bool := (if sc.kind.isAnnotationScope then ScopeKind.function else sc.kind) == .function && sc.names.lookup y == some .local && py.line == pos.line && !(scope.names.any fun (n, k) => n == y && (k == .local || k == .cell))
theorem sw_eq {elt : Expr} {gens : List Comprehension} {scope : Scope} {pos py : Pos} {y : Str} {n : Nat} {env : PySem.Env} : swapsWith (.ListComp elt gens scope pos) (some (.Name y py)) n env = pure (swB env.scope scope y py pos) := rfl
theorem sw_two {env : PySem.Env} {x y : Str} {px py tp vp : Pos} {kk k2 : Nat} {a b : Expr} (hk : env.scope.kind = .function) (l1 : env.scope.names.lookup x = some .local) (l2 : env.scope.names.lookup y = some .local) (l3 : px.line = py.line) (l4 : ¬ x = y)
    (l6 : isStar a = false) (l7 : isStar b = false) (l8 : [a, b].all (foldedForSure 8) = false) (l9 : [a, b].all (constantsAlone 8) = false) : swappedStores [.Tuple [.Name x px, .Name y py] kk tp] (.Tuple [a, b] k2 vp) env = pure (some [x, y]) := by
  have hb : env.blockKind = .function := by
    unfold Env.blockKind
    rw [hk]
    rfl
  have k1 : env.kindOf x = some .local := l1
  have k2 : env.kindOf y = some .local := l2
  have s1 : ([a, b].any fun | .Starred .. => true | _ => false) = false := by
    cases a <;> first
      | (cases l6; done)
      | (cases b <;> first
        | rfl
        | (cases l7; done))
  have hxy : (y == x) = false := beq_eq_false_iff_ne.mpr (Ne.symm l4)
  unfold swappedStores
  dsimp only
  split
  · rename_i h
    simp [hb] at h
  · split
    · rename_i h
      exact absurd (h.symm.trans s1) (by decide)
    · split
      · rename_i h
        simp [List.filterMap_cons, List.filterMap_nil, Expr.pos, k1, k2, l3, List.eraseDups, List.eraseDupsBy, List.eraseDupsBy.loop, hxy] at h
      · split
        · rename_i h
          exact absurd (h.symm.trans l8) (by decide)
        · split
          · rename_i h
            exact absurd (h.symm.trans l9) (by decide)
          · simp [List.filterMap_cons, List.filterMap_nil, Expr.pos, k1, k2, l3]
theorem chkTg_setl {c : Ck} {L : Sv} {W : WX} {X : Cx} (hL : SvOk L) (g : GC T c Y C k W X) (hx : XOk Y C c X L) {t : Tg} {e : E} {tg v : Expr} {pos : Pos} (h : (chkTg T t c tg && (chkE T e c v && (!isComp v && (!isTupE v || (longT tg || (mixT c.sc tg || foldT v)))))) = true) : PS X (.Assign [tg] v pos) (tSt Y L W C (.set t e)) := by
  rw [Bool.and_eq_true, Bool.and_eq_true, Bool.and_eq_true, Bool.not_eq_true'] at h
  obtain ⟨h1, h2, h3, h4⟩ := h
  obtain ⟨q1, q2⟩ := chkTg_ok t c _ h1 L W X hL g hx
  exact PS.imp (ps_asg (chkE_ok e c _ h2 _ _ _ hL g hx) q1 (no_swap h3) (no_swapl (by rw [g.sc]; exact h4)) (by rw [assign_no q2]; rfl)) fun U σ H q => t_set hL q
theorem sw_three {env : PySem.Env} {x y z : Str} {px py pz tp vp : Pos} {kk k2 : Nat} {a b e : Expr} (hk : env.scope.kind = .function) (l1 : env.scope.names.lookup x = some .local) (l2 : env.scope.names.lookup y = some .local) (l2' : env.scope.names.lookup z = some .local) (l3 : px.line = py.line) (l3' : px.line = pz.line) (l4 : ¬ x = y) (l4' : ¬ x = z) (l4'' : ¬ y = z)
    (l6 : isStar a = false) (l7 : isStar b = false) (l7' : isStar e = false) (l8 : [a, b, e].all (foldedForSure 8) = false) (l9 : [a, b, e].all (constantsAlone 8) = false) : swappedStores [.Tuple [.Name x px, .Name y py, .Name z pz] kk tp] (.Tuple [a, b, e] k2 vp) env = pure (some [x, y, z]) := by
  have hb : env.blockKind = .function := by
    unfold Env.blockKind
    rw [hk]
    rfl
  have k1 : env.kindOf x = some .local := l1
  have k2 : env.kindOf y = some .local := l2
  have k3 : env.kindOf z = some .local := l2'
  have s0 : ∀ f : Expr, isStar f = false → (match f with | .Starred .. => true | _ => false) = false := fun f h => by
    cases f <;> first
      | rfl
      | cases h
  have s1 : ([a, b, e].any fun | .Starred .. => true | _ => false) = false := by
    rw [List.any_cons, List.any_cons, List.any_cons, List.any_nil]
    rw [s0 a l6, s0 b l7, s0 e l7']
    rfl
  have hxy : (y == x) = false := beq_eq_false_iff_ne.mpr (Ne.symm l4)
  have hxz : (z == x) = false := beq_eq_false_iff_ne.mpr (Ne.symm l4')
  have hyz : (z == y) = false := beq_eq_false_iff_ne.mpr (Ne.symm l4'')
  unfold swappedStores
  dsimp only
  split
  · rename_i h
    simp [hb] at h
  · split
    · rename_i h
      exact absurd (h.symm.trans s1) (by decide)
    · split
      · rename_i h
        simp [List.filterMap_cons, List.filterMap_nil, Expr.pos, k1, k2, k3, ← l3, ← l3', List.eraseDups, List.eraseDupsBy, List.eraseDupsBy.loop, hxy, hxz, hyz] at h
      · split
        · rename_i h
          exact absurd (h.symm.trans l8) (by decide)
        · split
          · rename_i h
            exact absurd (h.symm.trans l9) (by decide)
          · simp [List.filterMap_cons, List.filterMap_nil, Expr.pos, k1, k2, k3, ← l3, ← l3']
theorem kS_set (t : Tg) (e : E) : OkS T Y C k (.set t e) := by
  intro c x h L W X hL g hx
  unfold chkS at h
  split at h
  · rename_i tg v pos
    split at h
    · rename_i a f
      split at h
      · rename_i l n p
        simp only [Bool.and_eq_true, decide_eq_true_eq] at h
        obtain ⟨rfl, h1, h2⟩ := h
        exact PS.imp (ps_fld (chkE_ok a c _ h1 _ _ _ hL g.toGX hx) (chkE_ok e c _ h2 _ _ _ hL g.toGX hx) no_swap_attr) fun U σ H q => t_fld hL g.st.hK (fun c => g.st.fld c _) q
      · cases h
    · rename_i i
      split at h
      · rename_i lv own p it ifs el
        simp only [Bool.and_eq_true, decide_eq_true_eq] at h
        obtain ⟨h1, hk, h2⟩ := h
        have pe := chkE_ok (.lc lv own p it ifs el) c _ h2 L W X hL g.toGX hx
        unfold chkE at h2
        split at h2
        · rename_i elt tg2 iter is scope pos2
          simp only [Bool.and_eq_true] at h2
          obtain ⟨h0, b1, b2, b3, b4, b5, b6, b7⟩ := h2
          obtain ⟨hc, hr⟩ := g.calm (hot_no h0)
          unfold chkN at h1
          split at h1
          · rename_i y py
            unfold nmB locB kindB at h1
            simp only [Bool.and_eq_true, Bool.or_eq_true, decide_eq_true_eq] at h1
            obtain ⟨k1, k2, k3⟩ := h1
            cases hsw : swB X.env.scope scope y py pos2 with
            | true =>
              have hyl : X.env.scope.names.lookup y = some .local := by
                unfold swB at hsw
                simp only [Bool.and_eq_true, beq_iff_eq] at hsw
                exact hsw.1.1.2
              have ok := blk_ok b1
              rw [← g.hN, ← g.sc] at ok
              have q := ps_setLc (spos := pos) (py := py) (wi := tI Y L W C it) (g := gP Y L p) (tt := tTo Y L W0 C ifs) (te := tE Y L W0 C el) hc (by rw [g.hN]; exact g.nd) (by rw [g.hN]; exact k1) hyl (by rw [sw_eq, hsw]) (chkI_ok it c _ _ b4 _ _ _ hL g.toGX hx) (pos := pos2) ok
                (fun s H C0 cl fp => chkP_ok hL (gc_blk g.toGX (hot_no h0)) hc b3) (fun s H C0 cl fp => chkQ_ok ifs _ _ b5 _ _ _ hL (gc_blk g.toGX (hot_no h0)) ⟨trivial, trivial⟩) (fun s H C0 cl fp => chkE_ok el _ _ b6 _ _ _ hL (gc_blk g.toGX (hot_no h0)) ⟨trivial, trivial⟩) (not_set b7)
              rw [ownOf_snd] at q
              exact PS.imp q fun U σ H z => by
                have z := t_set hL z
                have z := s_lc hL (fun i hi => by
                  have := List.all_eq_true.mp b2 i hi
                  simpa using this) z
                exact tLc_mono z (fun v H1 w => g_nm hL w) tI_mono
            | false =>
              refine PS.imp (ps_set (i := i) (by rw [g.hN]; exact g.nd) (by rw [g.hN]; exact k1) ?_ pe (by rw [sw_eq, hsw]) ?_) fun U σ H z => ?_
              · rw [g.sc]
                exact k2.imp id fun z => z.1
              · rw [g.sc]
                exact k2.elim .inr fun z => .inl (g.fn _ z.2)
              · exact tAsg_nm hL (t_set hL z)
          · cases h1
        · cases h2
      · rename_i lv own p it ifs p1 it1 ifs1 el
        simp only [Bool.and_eq_true, decide_eq_true_eq] at h
        obtain ⟨h1, hk, h2⟩ := h
        have pe := chkE_ok (.lc2 lv own p it ifs p1 it1 ifs1 el) c _ h2 L W X hL g.toGX hx
        unfold chkE at h2
        split at h2
        · rename_i elt tg2 iter is tg3 iter1 is1 scope pos2
          simp only [Bool.and_eq_true] at h2
          obtain ⟨h0, b1, b2, b3, b4, b5, b6, b7, d1, d2, d3, d4, d5⟩ := h2
          obtain ⟨hc, hr⟩ := g.calm (hot_no h0)
          unfold chkN at h1
          split at h1
          · rename_i y py
            unfold nmB locB kindB at h1
            simp only [Bool.and_eq_true, Bool.or_eq_true, decide_eq_true_eq] at h1
            obtain ⟨k1, k2, k3⟩ := h1
            cases hsw : swB X.env.scope scope y py pos2 with
            | true =>
              have hyl : X.env.scope.names.lookup y = some .local := by
                unfold swB at hsw
                simp only [Bool.and_eq_true, beq_iff_eq] at hsw
                exact hsw.1.1.2
              have ok := blk_ok b1
              rw [← g.hN, ← g.sc] at ok
              have hv1 : ∀ i ∈ p1.names, i ∈ own := fun i hi => by simpa using List.all_eq_true.mp d1 i hi
              have q := ps_setLc2 (spos := pos) (py := py) (wi := tI Y L W C it) (g := gP Y L p) (tt := tTo Y L W0 C ifs) (wi1 := tI Y L W0 C it1) (g1 := gP Y L p1) (tt1 := tTo Y L W0 C ifs1) (te := tE Y L W0 C el) (vs1 := p1.names) hc (by rw [g.hN]; exact g.nd) (by rw [g.hN]; exact k1) hyl (by rw [sw_eq, hsw]) (chkI_ok it c _ _ b4 _ _ _ hL g.toGX hx) (pos := pos2) ok (by rw [ownOf_snd]; exact hv1)
                (fun s H C0 cl fp => chkP_ok hL (gc_blk g.toGX (hot_no h0)) hc b3) (fun s H C0 cl fp => chkQ_ok ifs _ _ b5 _ _ _ hL (gc_blk g.toGX (hot_no h0)) ⟨trivial, trivial⟩)
                (fun s H C0 cl fp => chkI_ok it1 _ _ _ d3 _ _ _ hL (gc_blk g.toGX (hot_no h0)) ⟨trivial, trivial⟩) (fun s H C0 cl fp => chkP_ok hL (gc_blk g.toGX (hot_no h0)) hc d2) (fun s H C0 cl fp => chkQ_ok ifs1 _ _ d4 _ _ _ hL (gc_blk g.toGX (hot_no h0)) ⟨trivial, trivial⟩)
                (fun s H C0 cl fp => chkE_ok el _ _ b6 _ _ _ hL (gc_blk g.toGX (hot_no h0)) ⟨trivial, trivial⟩) (not_set b7) (fun _ => not_set d5)
              rw [ownOf_snd] at q
              exact PS.imp q fun U σ H z => by
                have z := t_set hL z
                have z := s_lc2 hL (fun i hi => by
                  have := List.all_eq_true.mp b2 i hi
                  simpa using this) z
                exact tLc2_mono z (fun v H1 w => g_nm hL w) tI_mono
            | false =>
              refine PS.imp (ps_set (i := i) (by rw [g.hN]; exact g.nd) (by rw [g.hN]; exact k1) ?_ pe (by rw [sw_eq, hsw]) ?_) fun U σ H z => ?_
              · rw [g.sc]
                exact k2.imp id fun z => z.1
              · rw [g.sc]
                exact k2.elim .inr fun z => .inl (g.fn _ z.2)
              · exact tAsg_nm hL (t_set hL z)
          · cases h1
        · cases h2
      · rename_i lv own p a ifs el
        simp only [Bool.and_eq_true, decide_eq_true_eq] at h
        obtain ⟨h1, hk, h2⟩ := h
        have pe := chkE_ok (.lcL lv own p a ifs el) c _ h2 L W X hL g.toGX hx
        unfold chkE at h2
        split at h2
        · rename_i elt tg2 iter is scope pos2
          simp only [Bool.and_eq_true] at h2
          obtain ⟨h0, b1, b2, b3, b4, b5, b6, b7⟩ := h2
          obtain ⟨hc, hr⟩ := g.calm (hot_no h0)
          unfold chkN at h1
          split at h1
          · rename_i y py
            unfold nmB locB kindB at h1
            simp only [Bool.and_eq_true, Bool.or_eq_true, decide_eq_true_eq] at h1
            obtain ⟨k1, k2, k3⟩ := h1
            cases hsw : swB X.env.scope scope y py pos2 with
            | true =>
              have hyl : X.env.scope.names.lookup y = some .local := by
                unfold swB at hsw
                simp only [Bool.and_eq_true, beq_iff_eq] at hsw
                exact hsw.1.1.2
              have ok := blk_ok b1
              rw [← g.hN, ← g.sc] at ok
              have q := ps_setLc (spos := pos) (py := py) (wi := iAny X.K (tE Y L W C a)) (g := gP Y L p) (tt := tTo Y L W0 C ifs) (te := tE Y L W0 C el) hc (by rw [g.hN]; exact g.nd) (by rw [g.hN]; exact k1) hyl (by rw [sw_eq, hsw]) (pi_any (chkE_ok a c _ b4 _ _ _ hL g.toGX hx)) (pos := pos2) ok
                (fun s H C0 cl fp => chkP_ok hL (gc_blk g.toGX (hot_no h0)) hc b3) (fun s H C0 cl fp => chkQ_ok ifs _ _ b5 _ _ _ hL (gc_blk g.toGX (hot_no h0)) ⟨trivial, trivial⟩) (fun s H C0 cl fp => chkE_ok el _ _ b6 _ _ _ hL (gc_blk g.toGX (hot_no h0)) ⟨trivial, trivial⟩) (not_set b7)
              rw [ownOf_snd] at q
              exact PS.imp q fun U σ H z => by
                have z := t_set hL z
                have z := s_lcL hL g.st.hK (fun i hi => by
                  have := List.all_eq_true.mp b2 i hi
                  simpa using this) z
                exact tLc_mono z (fun v H1 w => g_nm hL w) iAny_mono
            | false =>
              refine PS.imp (ps_set (i := i) (by rw [g.hN]; exact g.nd) (by rw [g.hN]; exact k1) ?_ pe (by rw [sw_eq, hsw]) ?_) fun U σ H z => ?_
              · rw [g.sc]
                exact k2.imp id fun z => z.1
              · rw [g.sc]
                exact k2.elim .inr fun z => .inl (g.fn _ z.2)
              · exact tAsg_nm hL (t_set hL z)
          · cases h1
        · cases h2
      · rename_i e he
        simp only [Bool.and_eq_true, Bool.not_eq_true'] at h
        obtain ⟨h1, h2, h3⟩ := h
        unfold chkN at h1
        split at h1
        · rename_i y py
          unfold nmB locB kindB at h1
          simp only [Bool.and_eq_true, Bool.or_eq_true, decide_eq_true_eq] at h1
          obtain ⟨k1, k2, k3⟩ := h1
          refine PS.imp (ps_set (i := i) (by rw [g.hN]; exact g.nd) (by rw [g.hN]; exact k1) ?_ (chkE_ok _ c _ h2 _ _ _ hL g.toGX hx) (no_swap h3) ?_) fun U σ H z => ?_
          · rw [g.sc]
            exact k2.imp id fun z => z.1
          · rw [g.sc]
            exact k2.elim .inr fun z => .inl (g.fn _ z.2)
          · exact tAsg_nm hL (t_set hL z)
        · cases h1
    · split at h
      · rename_i i j ts kk tp vs k2 vp es
        rcases Bool.or_eq_true_iff.mp h with h | h
        · simp only [Bool.and_eq_true, decide_eq_true_eq] at h
          obtain ⟨h0, hij, h1, h2, h3⟩ := h
          obtain ⟨hc, hr⟩ := g.calm (hot_no h0)
          have pa := chkA_ok es c _ h3 _ _ _ hL g.toGX hx
          unfold parB at h2
          split at h2
          · rename_i x px y py a b
            unfold kindB at h2
            simp only [Bool.and_eq_true, decide_eq_true_eq, Bool.not_eq_true', decide_eq_false_iff_not] at h2
            obtain ⟨l1, l2, l3, l4, l5, l6, l7, l8, l9⟩ := h2
            unfold chkNs chkNs chkN nmB at h1
            simp only [Bool.and_eq_true, decide_eq_true_eq] at h1
            obtain ⟨⟨n1, _⟩, ⟨n2, _⟩, _⟩ := h1
            refine PS.imp (ps_par hc (by rw [g.hN]; exact g.nd) (by rw [g.hN]; exact n1) (by rw [g.hN]; exact n2) hij (by rw [g.sc]; exact l1) (by rw [g.sc]; exact l2) pa (sw_two (by rw [g.sc]; exact l5) (by rw [g.sc]; exact l1) (by rw [g.sc]; exact l2) l3 l4 l6 l7 l8 l9) rfl) fun U σ H z => t_par hL z
          · cases h2
        · exact chkTg_setl hL g.toGX hx h
      · exact chkTg_set hL g.toGX hx h
    · split at h
      · rename_i i j l ts kk tp vs k2 vp es
        rcases Bool.or_eq_true_iff.mp h with h | h
        · simp only [Bool.and_eq_true, decide_eq_true_eq] at h
          obtain ⟨h0, hij, hil, hjl, h1, h2, h3⟩ := h
          obtain ⟨hc, hr⟩ := g.calm (hot_no h0)
          have pa := chkA_ok es c _ h3 _ _ _ hL g.toGX hx
          unfold parB3 at h2
          split at h2
          · rename_i x px y py z pz a b e
            unfold kindB at h2
            simp only [Bool.and_eq_true, decide_eq_true_eq, Bool.not_eq_true', decide_eq_false_iff_not] at h2
            obtain ⟨l1, l2, l2', l3, l3', l4, l4', l4'', l5, l6, l7, l7', l8, l9⟩ := h2
            unfold chkNs chkNs chkNs chkN nmB at h1
            simp only [Bool.and_eq_true, decide_eq_true_eq] at h1
            obtain ⟨⟨n1, _⟩, ⟨n2, _⟩, ⟨n3, _⟩, _⟩ := h1
            refine PS.imp (ps_par3 hc (by rw [g.hN]; exact g.nd) (by rw [g.hN]; exact n1) (by rw [g.hN]; exact n2) (by rw [g.hN]; exact n3) hij hil hjl (by rw [g.sc]; exact l1) (by rw [g.sc]; exact l2) (by rw [g.sc]; exact l2') pa (sw_three (by rw [g.sc]; exact l5) (by rw [g.sc]; exact l1) (by rw [g.sc]; exact l2) (by rw [g.sc]; exact l2') l3 l3' l4 l4' l4'' l6 l7 l7' l8 l9) rfl) fun U σ H z => t_par3 hL z
          · cases h2
        · exact chkTg_setl hL g.toGX hx h
      · exact chkTg_set hL g.toGX hx h
    · exact chkTg_setl hL g.toGX hx h
  · cases h
theorem chkSs_ok (s : Ss) : OkSs T Y C k s := Ss.rec (motive_1 := fun s => OkS T Y C k s) (motive_2 := fun s => OkSs T Y C k s) (motive_3 := fun s => EachH T Y C k s) kS_set kS_expr kS_ret kS_pass (fun d a b ia ib => kS_ite d a b ia ib) (fun d b ib => kS_whl d b ib) (fun p it b ib => kS_loop p it b ib) (fun p a b ib => kS_loopL p a b ib) kS_raise (fun b hs ib ih => kS_try b hs ib ih) kS_nil (fun s r is ir => kS_cons s r is ir) trivial (fun c i b r ib ir => ⟨ib, ir⟩) s
end
end Mp
end
section
set_option autoImplicit false
set_option Elab.async false
set_option linter.all false
set_option maxRecDepth 100000
set_option maxHeartbeats 4000000
/-! MpTab: every def of the table, level by level. -/
namespace Mp
open PySem PySem.Spec PyProof.Rows L2
/-- the def at a is the f-th of the table -/
def DefOk (T : Tb) (tbs : List (Addr × Addr × Str)) (K : PySem.W.Frag) (d : Def) (a : Addr) (fd : FuncData) (ps : List Str) (lm : Option Nat) : Prop := ∃ (x qual : Str) (params : Arguments) (body : List Stmt) (scope : Scope) (N : List Str) (dvs : List V) (kws : List (Str × V)) (li : Option Nat),
  FunD K x qual params body scope dvs kws a fd ∧ FnScope N ps scope ∧ ps.length = d.ps ∧ N.length = d.ns ∧ (∀ j, li = some j → ∃ t : Addr × Addr × Str, tbs[j]? = some t ∧ fd.code = .ref t.1 ∧ t.2.2 = (qual ++ ".<locals>.") ++ "<lambda>") ∧ chkSs T d.body ⟨N, scope, fun _ => true, false, none, lm, li⟩ body = true
/-- the table in the written part -/
structure Base (T : Tb) (Y : Kx) (P : Prog) (w : World) (K : PySem.W.Frag) (mg : Str → Option Value) : Prop where
  hK : Y.K = K
  xat : (fun c => P.xat.getD c none) = Y.xat
  free : ∀ x ∈ T.free, mg x = none
  fns : ∀ p ∈ T.fns, ∃ (a : Addr) (fd : FuncData) (ps : List Str) (d : Def), mg p.1 = some (.ref a) ∧ PySem.W.keepIn K (.ref a) = true ∧ Binds K fd ps [] ∧ P.defs[p.2]? = some d ∧ ∃ lm, DefOk T Y.tbs K d a fd ps lm
  mks : ∀ p ∈ T.mks, ∃ (a : Addr) (fd : FuncData) (ps : List Str) (d : Def), mg p.1 = some (.ref (Y.cA p.2.1)) ∧ Mk K (Y.cA p.2.1) a ∧ Binds K fd ps [] ∧ P.defs[p.2.2]? = some d ∧ ∃ lm, DefOk T Y.tbs K d a fd ps lm
  mts : ∀ p ∈ T.mts, ∃ (a : Addr) (fd : FuncData) (ps : List Str) (d : Def), Cls K (Y.cA p.1) ∧ Meth K (Y.cA p.1) (S p.2.1) a ∧ Binds K fd ps [] ∧ P.defs[p.2.2]? = some d ∧ ∃ lm, DefOk T Y.tbs K d a fd ps lm
  globs : ∀ p ∈ T.globs, ∃ (u : Value) (v : V) (d : D), mg p.1 = some u ∧ RelV v u ∧ P.glob[p.2]? = some d ∧ ∀ m H, RD Y m H d v
  dics : ∀ p ∈ T.dics, ∃ (a : Addr) (es : Array DictEntry) (n : Nat) (kvs : List (Sx × D)), mg p.1 = some (.ref a) ∧ KDict K w a es n ∧ P.dics[p.2]? = some kvs ∧ DicOk Y K a kvs
  fld : ∀ c f, (P.flds.getD c []).contains f = true → Cls K (Y.cA c) ∧ NoAttr K (Y.cA c) (S f)
  clk : ClsK Y K (fun c => decide (c < P.flds.length))
  cls : ∀ p ∈ T.cls, mg p.1 = some (.ref (Y.cA p.2)) ∧ decide (p.2 < P.flds.length) = true
  xc0 : ∀ p ∈ T.xc0, mg p.1 = some (.ref (Y.cA p.2)) ∧ Y.xc p.2 = true ∧ PySem.W.excIn K (Y.cA p.2) [.type "ValueError", .type "Exception", .type "BaseException", .type "object"] "ValueError.__new__" = true ∧ PySem.W.keepIn K (.ref (Y.cA p.2)) = true ∧ PySem.W.subIn K (.ref (Y.cA p.2)) (.type "BaseException") = some true ∧ PySem.W.typeIn K (.ref (Y.cA p.2)) = some (.type "type")
  xc1 : ∀ p ∈ T.xc1, mg p.1 = some (.ref (Y.cA p.2.1)) ∧ Y.xc p.2.1 = true ∧ Y.xat p.2.1 = some p.2.2 ∧ MpE.Fld3 (S p.2.2) ∧ ∃ fI qn, MpE.XiT K (Y.cA p.2.1) fI (S p.2.2) qn
  xnm : ∀ p ∈ T.xnm, (mg p.1 = some (Y.ckU p.2) ∨ (mg p.1 = none ∧ bootBuiltins p.1 = some (Y.ckU p.2))) ∧ (∀ c, Y.xc c = true → PySem.W.exmOne K (.ref (Y.cA c)) (Y.ckU p.2) = some ((P.sub.getD c []).contains p.2)) ∧ ∀ c, Y.xc c = true → PySem.W.kitOne K (.ref (Y.cA c)) (Y.ckU p.2) = some ((P.sub.getD c []).contains p.2)
  xT : ∀ c, Y.xc c = true → XcT K (Y.cA c)
  xinj : ∀ c d, Y.xc c = true → Y.xc d = true → Y.cA c = Y.cA d → c = d
  xfs : ∀ p ∈ T.xfs, Y.xc p.1 = true → Y.xat p.1 = some p.2 → PySem.W.findIn K (.ref (Y.cA p.1)) (S p.2) = some none
  xfa : ∀ c f, Y.xc c = true → Y.xat c = some f → (c, f) ∈ T.xfs
  lfn : ∀ p ∈ T.lfns, ∃ (a : Addr) (fd : FuncData) (ps : List Str) (d : Def) (i : Nat), mg p.1 = some (.ref a) ∧ PySem.W.keepIn K (.ref a) = true ∧ Binds K fd ps [] ∧ P.defs[p.2]? = some d ∧ DefOk T Y.tbs K d a fd ps (some i) ∧ i + 1 = d.ps
  kws : ∀ p ∈ T.kws, ∃ (a : Addr) (fd : FuncData) (ps : List Str) (d : Def) (lm : Option Nat), mg p.1 = some (.ref a) ∧ PySem.W.keepIn K (.ref a) = true ∧ KwB K fd ps p.2.2.1 p.2.2.2 ∧ P.defs[p.2.1]? = some d ∧ DefOk T Y.tbs K d a fd ps lm
  own : ∀ c ∈ T.owns, PySem.W.findIn K (.ref (Y.cA c)) "__ne__" = some (some (.builtin "object.__ne__")) ∧ PySem.W.mroIn K (Y.cA c) (.type "object") = some true
  tbu : ∀ t ∈ Y.tbs, ∀ u ∈ Y.tbs, u.2.1 = t.2.1 → u.2.2 = t.2.2
/-- a def's promise: what its run gives -/
def spR (Y : Kx) (P : Prog) (n f : Nat) : Sp := fun vs H Q E => ∃ (m : Lv) (st : Store) (ds : List D), RS Y m st H ∧ RDs Y m H ds vs ∧ Post Y E m H (P.run n f ds none st) (kV Y Q)
theorem start_each {Y : Kx} {L : Sv} {m : Lv} {H : Hp} {N : List Str} {n : Nat} (hn : N.length = n) {ds : List D} {vs : List V} (hl : vs.length = ds.length) (each : ∀ i d, ds[i]? = some d → ∃ v, vs[i]? = some v ∧ (RD Y m H d v ∨ L i m H d v)) :
    REnv Y L m H (ds.map some ++ List.replicate (n - ds.length) none) (L2.start N vs) := by
  refine ⟨by simp [L2.start, hl, hn], fun i d e => ?_⟩
  unfold L2.start
  by_cases hi : i < ds.length
  · rw [List.getElem?_append_left (by simpa using hi), List.getElem?_map] at e
    cases ed : ds[i]? with
    | none =>
      rw [ed] at e
      cases e
    | some d' =>
      rw [ed] at e
      cases e
      obtain ⟨v, h1, h2⟩ := each i d ed
      exact ⟨v, by rw [List.getElem?_append_left (by simpa [hl] using hi), List.getElem?_map, h1]; rfl, h2⟩
  · rw [List.getElem?_append_right (by simpa using hi)] at e
    obtain ⟨_, e⟩ := List.getElem?_eq_some_iff.mp e
    simp at e
theorem start_rel {Y : Kx} {m : Lv} {H : Hp} {N : List Str} {n : Nat} (hn : N.length = n) {ds : List D} {vs : List V} (r : RDs Y m H ds vs) : REnv Y L0 m H (ds.map some ++ List.replicate (n - ds.length) none) (L2.start N vs) :=
  start_each hn r.length fun i d e => by
    obtain ⟨v, h1, h2⟩ := r.get e
    exact ⟨v, h1, .inl h2⟩
theorem vals_snoc : ∀ {vs : List V} {us : List Value} {v : V} {u : Value}, Vals vs us → RelV v u → Vals (vs ++ [v]) (us ++ [u])
  | _, _, _, _, .nil, r => .cons r .nil
  | _, _, _, _, .cons a b, r => .cons a (vals_snoc b r)
/-- the slot that holds the lambda -/
def LLam (i : Nat) (f : Addr) (m : Lv) (H : Hp) : Sv := fun i' m' H' d v => i' = i ∧ (∃ j, d = .lam j) ∧ v = .ref f ∧ Tr m H m' H'
theorem LLam.ok {i : Nat} {f : Addr} {m : Lv} {H : Hp} : SvOk (LLam i f m H) := ⟨fun x h => ⟨h.1, h.2.1, h.2.2.1, h.2.2.2.trans x⟩, fun h => by
  obtain ⟨_, ⟨j, rfl⟩, _⟩ := h
  rfl⟩
section
variable {T : Tb} {Y : Kx} {P : Prog} {Pg : Program} {w : World} {K : PySem.W.Frag} {mg : Str → Option Value} {base : Heap}
theorem stat_of (B : Base T Y P w K mg) (TB : ∀ t ∈ Y.tbs, LamX.TabB base mg t.1 t.2.1) {n k : Nat} (lam : Option (List D → M D)) (ih : ∀ f a fd ps d lm, P.defs[f]? = some d → DefOk T Y.tbs K d a fd ps lm → FnG Pg w K mg base k a fd ps (spR Y P n f))
    (ihL : ∀ f a fd ps d i, P.defs[f]? = some d → DefOk T Y.tbs K d a fd ps (some i) → i + 1 = d.ps → FnL Y Pg w K mg base (k + 3) (k + 2) a fd ps fun ds G => P.run n f (ds ++ [.lam 0]) (some G)) : Stat T Y (P.cfg (P.run n) lam) Pg w K mg base k where
  hK := B.hK
  xat := B.xat
  free := B.free
  fns := fun p hp => by
    obtain ⟨a, fd, ps, d, e1, e2, e3, e4, lm, e5⟩ := B.fns p hp
    exact ⟨a, fd, ps, e1, e2, e3, ih _ a fd ps d lm e4 e5⟩
  mks := fun p hp => by
    obtain ⟨a, fd, ps, d, e1, e2, e3, e4, lm, e5⟩ := B.mks p hp
    exact ⟨a, fd, ps, e1, e2, e3, ih _ a fd ps d lm e4 e5⟩
  mts := fun p hp => by
    obtain ⟨a, fd, ps, d, e1, e2, e3, e4, lm, e5⟩ := B.mts p hp
    exact ⟨a, fd, ps, e1, e2, e3, ih _ a fd ps d lm e4 e5⟩
  globs := B.globs
  dics := B.dics
  fld := B.fld
  clk := B.clk
  cls := B.cls
  xc0 := B.xc0
  xc1 := B.xc1
  xnm := B.xnm
  xT := B.xT
  xinj := B.xinj
  xfs := B.xfs
  xfa := B.xfa
  own := B.own
  lfn := fun p hp => by
    obtain ⟨a, fd, ps, d, i, e1, e2, e3, e4, e5, e6⟩ := B.lfn p hp
    exact ⟨a, fd, ps, e1, e2, e3, ihL _ a fd ps d i e4 e5 e6⟩
  kws := fun p hp => by
    obtain ⟨a, fd, ps, d, lm, e1, e2, e3, e4, e5⟩ := B.kws p hp
    exact ⟨a, fd, ps, e1, e2, e3, ih _ a fd ps d lm e4 e5⟩
  tbu := B.tbu
  tbb := TB
/-- a def's body, where its frame stands -/
theorem body_ok {C : Cfg} {k : Nat} (S : Stat T Y C Pg w K mg base k) {d : Def} {ps N : List Str} {qual : Str} {scope : Scope} {body : List Stmt} {lm li : Option Nat} {cdv : Value} {a : Addr} (sc : FnScope N ps scope) (chk : chkSs T d.body ⟨N, scope, fun _ => true, false, none, lm, li⟩ body = true)
    (hli : ∀ j, li = some j → ∃ t : Addr × Addr × Str, Y.tbs[j]? = some t ∧ cdv = .ref t.1 ∧ t.2.2 = (qual ++ ".<locals>.") ++ "<lambda>") {A : Around} {out : List PySem.Env} {s : Shared} {H : Hp} {E : XK} (hg : A.guards = some []) (hr : Room (k + 3) (A.deeper (envOfC qual scope s.heap.objs.size a cdv)))
    {L : Sv} (hL : SvOk L) (hlm : LmOk Y C lm (cxOf (L2.CX Pg w) Pg w K mg base N qual scope a cdv A out s H E) L) : PSs (cxOf (L2.CX Pg w) Pg w K mg base N qual scope a cdv A out s H E) body (tSs Y L (fun cls dx _ H' => E cls dx H') C d.body) := by
  refine chkSs_ok (k := k) d.body _ _ chk L _ _ hL ?_ ⟨trivial, hlm⟩
  exact { st := S, hN := rfl, nd := sc.nd, sc := rfl, fn := fun _ _ => rfl, un := by
            have := hr.un
            show (A.deeper _).units + 64 < cLine
            omega
          gd := guards_deeper hg _, calm := fun _ => ⟨rfl, hr.mono (by omega)⟩, tk := fun _ => takes_of rfl rfl rfl rfl, lam := fun _ j e => by
            obtain ⟨t, e1, e2, e3⟩ := hli j e
            exact ⟨t, e1, e2, e3, hr⟩
          hs := rfl, hf := rfl, po := fun _ => passes_of rfl }
theorem run_eq {n f : Nat} {d : Def} (hd : P.defs[f]? = some d) (ds : List D) (lam : Option (List D → M D)) (st : Store) : P.run (n + 1) f ds lam st = runDef (P.cfg (P.run n) lam) d ds st := by
  show (match P.defs[f]? with | some d => runDef (P.cfg (P.run n) lam) d ds | none => bad) st = _
  rw [hd]
theorem arity {n f : Nat} {d : Def} (hd : P.defs[f]? = some d) {ds : List D} {lam : Option (List D → M D)} {st : Store} {W : Wx} {m : Lv} {H : Hp} {k : D → Lv → Store → Hp → Prop} (p : Post Y W m H (P.run (n + 1) f ds lam st) k) : ds.length = d.ps := by
  rw [run_eq hd] at p
  unfold runDef at p
  by_cases hl : ds.length = d.ps
  · exact hl
  · rw [if_neg hl] at p
    exact p.elim
/-- from the def's answer to its body's reading -/
theorem body_post {C : Cfg} {L : Sv} {d : Def} {ds : List D} {st : Store} {m : Lv} {H : Hp} {E : XK} {Q : VK} {σ : L2.St} (hl : ds.length = d.ps) (rs : RS Y m st H) (re : REnv Y L m H (ds.map some ++ List.replicate (d.ns - ds.length) none) σ) (p : Post Y E m H (runDef C d ds st) (kV Y Q)) :
    tSs Y L (fun cls dx _ H' => E cls dx H') C d.body { nx := fun _ H' => Q .non H', rt := Q } σ H := by
  refine ⟨m, _, st, rs, re, ?_⟩
  unfold runDef at p
  rw [if_pos hl] at p
  have p : Post Y E m H ((nox (exs C d.body (ds.map some ++ List.replicate (d.ns - ds.length) none)) st).then fun f => match f with
        | .next _ => ret .non
        | .ret x => ret x
        | .exc c d _ => fun st => .err c d st) (kV Y Q) := p
  unfold nox at p
  generalize exs C d.body (ds.map some ++ List.replicate (d.ns - ds.length) none) st = r at p ⊢
  cases r with
  | ok fl st2 =>
    cases fl with
    | next ρ => exact fun m2 H2 x rs2 σ re => p m2 H2 x rs2 .non rfl
    | ret y => exact fun m2 H2 x rs2 v hv => p m2 H2 x rs2 v hv
    | exc c y ρ => exact fun m2 H2 x rs2 σ cls dx re xr => p m2 H2 cls dx x rs2 xr
  | err c y st2 => exact p.elim
  | bad => exact p
theorem lev (B : Base T Y P w K mg) (TB : ∀ t ∈ Y.tbs, LamX.TabB base mg t.1 t.2.1) : ∀ n : Nat, (∀ (f : Nat) (a : Addr) (fd : FuncData) (ps : List Str) (d : Def) (lm : Option Nat), P.defs[f]? = some d → DefOk T Y.tbs K d a fd ps lm → FnG Pg w K mg base (4 * n) a fd ps (spR Y P n f)) ∧
    ∀ (f : Nat) (a : Addr) (fd : FuncData) (ps : List Str) (d : Def) (i : Nat), P.defs[f]? = some d → DefOk T Y.tbs K d a fd ps (some i) → i + 1 = d.ps → FnL Y Pg w K mg base (4 * n + 3) (4 * n + 2) a fd ps fun ds G => P.run n f (ds ++ [.lam 0]) (some G)
  | 0 => ⟨fun f a fd ps d lm _ _ => ⟨fun vs H Q E h => by
      obtain ⟨m, st, ds, rs, rd, p⟩ := h
      exact p.elim, fun A out s H args us vs Q E hr hg e b r h => by
      obtain ⟨m, st, ds, rs, rd, p⟩ := h
      exact p.elim⟩, fun f a fd ps d i _ _ _ => ⟨fun ds F st W m H k p => p.elim, fun A out s H args us vs ds m st g F Q E hr hg e b r rs rd l p => p.elim⟩⟩
  | n + 1 => by
    have S : ∀ lam, Stat T Y (P.cfg (P.run n) lam) Pg w K mg base (4 * n) := fun lam => stat_of B TB lam (lev B TB n).1 (lev B TB n).2
    refine ⟨fun f a fd ps d lm hd ok => ?_, fun f a fd ps d i hd ok hi => ?_⟩
    · obtain ⟨x, qual, params, body, scope, N, dvs, kws, li, F, sc, hps, hns, hli, chk⟩ := ok
      obtain ⟨oc, od, dV, kwV, doc, pm, an, cdv, ct, osl, rfl, lk, hcd, _, _⟩ := F.ex
      refine fng_of (k := 4 * n + 3) lk hcd sc (fun vs H Q E h => ?_) fun A out s H vs Q E hr hg h => ?_
      · obtain ⟨m, st, ds, rs, rd, p⟩ := h
        rw [rd.length, arity hd p, hps]
      · obtain ⟨m, st, ds, rs, rd, p⟩ := h
        have hl := arity hd p
        rw [run_eq hd] at p
        exact ⟨_, body_ok (S none) sc chk hli hg hr L0.ok (by cases lm with
          | none => trivial
          | some i => exact .inl rfl), body_post hl rs (start_rel hns rd) p⟩
    · obtain ⟨x, qual, params, body, scope, N, dvs, kws, li, F, sc, hps, hns, hli, chk⟩ := ok
      obtain ⟨oc, od, dV, kwV, doc, pm, an, cdv, ct, osl, rfl, lk, hcd, _, _⟩ := F.ex
      refine ⟨fun ds G st W m H k p => ?_, fun A out s H args us vs ds m st g G Q E hr hg e b r rs rd l p => ?_⟩
      · have hl := arity hd p
        rw [List.length_append, List.length_singleton] at hl
        rw [hl, hps]
      · have hl := arity hd p
        have hl2 := hl
        rw [List.length_append, List.length_singleton] at hl2
        rw [run_eq hd] at p
        have hv := rd.length
        refine LamX.run_ofS (k := 4 * n + 6) (vs := vs ++ [.ref g]) lk hcd sc hr e b (vals_snoc (v := .ref g) (u := .ref g) r rfl) (by rw [List.length_append, List.length_singleton, hv, hl2, hps]) fun hr' => ?_
        refine ⟨_, body_ok (S (some G)) sc chk hli hg (hr'.mono (by omega)) (LLam.ok (i := i) (f := g) (m := m) (H := H)) (.inr ⟨G, g, m, H, 4 * (n + 1) + 2, rfl, fun m' H' j v h => ⟨h.2.2.1, h.2.2.2⟩, l, rfl, hr'⟩), body_post hl rs (start_each hns (by simp [hv]) fun j y ey => ?_) p⟩
        by_cases hj : j < ds.length
        · rw [List.getElem?_append_left hj] at ey
          obtain ⟨v, h1, h2⟩ := rd.get ey
          exact ⟨v, by rw [List.getElem?_append_left (by rw [hv]; exact hj)]; exact h1, .inl h2⟩
        · rw [List.getElem?_append_right (by omega)] at ey
          have hj2 : j = ds.length := by
            have := (List.getElem?_eq_some_iff.mp ey).1
            simp at this
            omega
          subst hj2
          have ey : y = .lam 0 := by simpa using ey.symm
          subst ey
          exact ⟨.ref g, by rw [List.getElem?_append_right (by omega)]; simp [hv], .inr ⟨by omega, ⟨0, rfl⟩, rfl, .refl m H⟩⟩
end
end Mp
end
section
set_option autoImplicit false
set_option Elab.async false
set_option linter.all false
set_option maxRecDepth 100000
set_option maxHeartbeats 4000000
/-! MpEnd: the law itself, from its def's promise where nothing is being shown. -/
namespace Mp
open PySem PySem.Spec PyProof.Rows L2
section
variable {P : Program} {w : World} {K : PySem.W.Frag} {mg mb : Str → Option Value} {k : Nat} {fl a : Addr} {fd : FuncData} {x : Str} {sp : Sp} {t : Shared} {us : List Value} {ns : List Int}
abbrev lstO (us : List Value) : PySem.Obj := { cls := .type "list", data := .seq us.toArray }
/-- the script may be tracked, frozen; the tables of code objects, empty; nothing else -/
structure Scr (P : Program) (w : World) (K : PySem.W.Frag) (cs : List (Addr × Addr × Str)) (a : Addr) (us : List Value) (ns : List Int) (t : Shared) (G : Hp) : Prop where
  only : ∀ b, G b = none ∨ (∃ c ∈ cs, b = c.2.1) ∨ ∃ o xs, G b = some (.frz o (.lst xs))
  tab : ∀ c ∈ cs, G c.2.1 = some (.tbl #[])
  sq : SqL K G a (ns.map V.int)
  ok : HOk P w G t.heap
  at_ : ∀ b, G b ≠ none → b = a ∨ ∃ c ∈ cs, b = c.2.1
  off : G a ≠ none → K.lookup a = none
abbrev tabO : PySem.Obj := { cls := .none, data := .fields #[] }
/-- the tables as the head tells them -/
structure TabsAt (K : PySem.W.Frag) (mg : Str → Option Value) (cs : List (Addr × Addr × Str)) (h : Heap) : Prop where
  e : ∀ c ∈ cs, h.get? c.2.1 = some tabO
  n : ∀ c ∈ cs, K.lookup c.2.1 = none
  hd : ∀ c ∈ cs, PySem.W.CodeHd h c.1 c.2.1
  bm : ∃ (m : Addr) (ob : PySem.Obj), mg "__builtins__" = some (.ref m) ∧ m ≠ builtinsNs ∧ h.get? m = some ob ∧ ob.cls = .type "module" ∧ ob.dict = some builtinsNs ∧ ob.data = .plain
theorem end_core {cs : List (Addr × Addr × Str)} (KX : K.In t.heap) (hn : t.heap.Ns mainGlobals mg) (hb : t.heap.Ns builtinsNs mb) (hbb : ∀ y : Str, y ≠ "__name__" → mb y = bootBuiltins y) (hlim : t.heap.NoLimit) (hg : t.gens = #[]) (TA : TabsAt K mg cs t.heap)
    (ha : t.heap.get? a = some (lstO us)) (hr : Room k callerA) (F : ∀ base : Heap, K.In base → base.Ns mainGlobals mg → (∀ c ∈ cs, LamX.TabB base mg c.1 c.2.1) → FnG P w K mg base k fl fd [x] sp) (hbind : ∀ (s : Shared) (u : Value), BindsTo s fd ⟨[u], []⟩ [(x, u)])
    {G : Hp} (Z : Scr P w K cs a us ns t G) (hsp : sp [.ref a] G (fun v _ => v = .bl true) fun _ _ _ => False) :
    codeAny (model P w) callerA (.call (.ref fl) ⟨[.ref a], []⟩) (fun r s' => r = .ok (.ret (.bool true)) ∧ OldK t.heap s'.heap ∧ s'.os = t.os ∧ AllBare s'.gens) t := by
  have isA : ∀ {b : Addr} {o : PySem.Obj}, t.heap.get? b = some o → (b = a → False) → o ≠ tabO → G b = none := fun {b o} e h h2 => by
    cases q : G b with
    | none => rfl
    | some u =>
      rcases Z.at_ b (by rw [q]; simp) with z | ⟨c, hc, z⟩
      · exact (h z).elim
      · rw [z, TA.e c hc] at e
        exact (h2 (Option.some.inj e).symm).elim
  have noL : ∀ {b : Addr} {o : PySem.Obj}, t.heap.get? b = some o → (∀ vs n, o.data ≠ .seq vs n) → b = a → False := fun {b o} e h z => by
    rw [z, ha] at e
    cases e
    exact h _ _ rfl
  have dic : ∀ {b : Addr} {o : PySem.Obj} {es : Array DictEntry} {ep : Nat}, t.heap.get? b = some o → o.data = .dict es ep → G b = none := fun {b o es ep} e d => isA e (noL e fun vs n z => by rw [d] at z; cases z) fun z => by
    rw [z] at d
    cases d
  have nsH : ∀ {b : Addr} {m : Str → Option Value}, t.heap.Ns b m → (hidT t.heap G).Ns b m := fun {b m} ⟨o, es, ep, e, d, r⟩ => ⟨o, es, ep, hidT_get e (dic e d), d, r⟩
  have KH : K.In (hidT t.heap G) := fun b o e => hidT_get (KX b o e) (by
    cases q : G b with
    | none => rfl
    | some u =>
      rcases Z.at_ b (by rw [q]; simp) with qa | ⟨c, hc, z⟩
      · subst qa
        rw [Z.off (by rw [q]; simp)] at e
        cases e
      · rw [z, TA.n c hc] at e
        cases e)
  have md : Mod K mg (hidT t.heap G) := ⟨KH, nsH hn, ⟨mb, nsH hb, hbb⟩, let ⟨mc, h1, h2⟩ := hlim; ⟨mc, nsH h1, h2⟩⟩
  have gl : ∀ b : Addr, t.heap.get? b = some tabO → mainGlobals ≠ b := fun b e z => by
    obtain ⟨o, es, ep, e2, d, _⟩ := hn
    rw [z, e] at e2
    cases e2
    cases d
  have TB : ∀ c ∈ cs, LamX.TabB (hidT t.heap G) mg c.1 c.2.1 := fun c hc => by
    obtain ⟨m, ob, b1, b2, b3, b4, b5, b6⟩ := TA.bm
    refine ⟨?_, ⟨m, ob, b1, b2, ?_, ?_, hidT_get b3 (isA b3 (noL b3 fun vs n z => by rw [b6] at z; cases z) fun z => by rw [z] at b6; cases b6), b4, b5, b6⟩, gl _ (TA.e c hc)⟩
    · obtain ⟨o, vs, f1, f2, f3, f4, f5, f6, f7, e1, r1, r2, r⟩ := TA.hd c hc
      refine ⟨o, vs, f1, f2, f3, f4, f5, f6, f7, hidT_get e1 (isA e1 (noL e1 fun vs n z => by rw [r2] at z; cases z) fun z => ?_), r1, r2, r⟩
      rw [z] at r2
      have r3 := r.1
      cases r2
      simp at r3
    · intro q
      obtain ⟨o, es, ep, e, hd, _⟩ := hn
      rw [q, e] at b3
      cases b3
      rw [hd] at b6
      cases b6
    · intro q
      rw [q, TA.e c hc] at b3
      cases b3
      cases b6
  have ev : Env0 P w K mg (hidT t.heap G) callerA [] t G := ⟨rfl, md, fun b o e => of_hidT e, Nat.le_of_eq (hidT_size _ _), trivial, fun b z => absurd (show b ∈ ([] : List Addr) from z) (by simp), Z.ok, .of_eq hg⟩
  refine codeAny_mono ((F _ KH (nsH hn) TB).go callerA [] t G ⟨[.ref a], []⟩ [.ref a] [.ref a] _ _ hr rfl ev (hbind t (.ref a)) (.cons rfl .nil) hsp) fun r s' h => ?_
  cases r with
  | error e =>
    obtain ⟨_, _, _, _, _, _, _, _, _, _, _, _, z⟩ := h
    exact False.elim z
  | ok f =>
    cases f with
    | ret u =>
      obtain ⟨v, G', os, bare, un, ok', ru, q⟩ := h
      obtain rfl : v = .bl true := q
      obtain rfl : u = Value.bool true := ru
      have old : ∀ b o, (∀ c ∈ cs, b ≠ c.2.1) → t.heap.get? b = some o → s'.heap.get? b = some o := fun b o nb e => by
        rcases Z.only b with z | ⟨c, hc, z⟩ | ⟨ob, xs, z⟩
        · exact un.keep b o e z (fun q => absurd (show b ∈ ([] : List Addr) from q) (by simp)) (by simp)
        · exact (nb c hc z).elim
        · obtain ⟨e1, _⟩ := Z.ok b _ z
          obtain ⟨e2, _⟩ := ok' b _ (un.frzs b ob _ z)
          rw [e] at e1
          cases e1
          exact e2
      have more : ∀ c ∈ cs, ∃ vs : Array Value, s'.heap.get? c.2.1 = some { cls := .none, data := .fields vs } := fun c hc => by
        obtain ⟨vs, z⟩ := un.tbls c.2.1 #[] (Z.tab c hc)
        exact ⟨_, ok' _ _ z⟩
      refine ⟨rfl, ⟨fun b o e => ?_, fun b o e => ?_⟩, os, bare⟩ <;> by_cases hb : ∃ c ∈ cs, b = c.2.1
      · obtain ⟨c, hc, rfl⟩ := hb
        obtain ⟨vs, hv⟩ := more c hc
        rw [TA.e c hc] at e
        cases e
        exact .inr (.inl ⟨((TA.hd c hc).tab (TA.e c hc)).isCodeTable, rfl, #[], vs, rfl, by rw [Array.empty_append]; exact hv⟩)
      · exact .inl (old b o (fun c hc z => hb ⟨c, hc, z⟩) e)
      · obtain ⟨c, hc, rfl⟩ := hb
        obtain ⟨vs, hv⟩ := more c hc
        exact ⟨_, hv⟩
      · exact ⟨o, old b o (fun c hc z => hb ⟨c, hc, z⟩) e⟩
    | _ => exact False.elim h
/-- what may be tracked at first -/
def hp0 (cs : List (Addr × Addr × Str)) (a : Addr) (o : Option HO) : Hp := fun b => if b = a then o else if cs.any (fun c => b == c.2.1) then some (.tbl #[]) else none
theorem hp0_a {cs : List (Addr × Addr × Str)} {a : Addr} {o : Option HO} : hp0 cs a o a = o := if_pos rfl
theorem hp0_t {cs : List (Addr × Addr × Str)} {a b : Addr} {o : Option HO} (h : b ≠ a) (hb : ∃ c ∈ cs, b = c.2.1) : hp0 cs a o b = some (.tbl #[]) := by
  obtain ⟨c, hc, e⟩ := hb
  have : cs.any (fun c => b == c.2.1) = true := List.any_eq_true.mpr ⟨c, hc, by rw [e]; exact beq_self_eq_true _⟩
  unfold hp0
  rw [if_neg h, if_pos this]
theorem hp0_n {cs : List (Addr × Addr × Str)} {a b : Addr} {o : Option HO} (h : b ≠ a) (hb : ¬ ∃ c ∈ cs, b = c.2.1) : hp0 cs a o b = none := by
  have : cs.any (fun c => b == c.2.1) = false := by
    rw [List.any_eq_false]
    intro c hc z
    exact hb ⟨c, hc, by simpa using z⟩
  unfold hp0
  rw [if_neg h, this]
  rfl
theorem end_call {cs : List (Addr × Addr × Str)} (KX : K.In t.heap) (hn : t.heap.Ns mainGlobals mg) (hb : t.heap.Ns builtinsNs mb) (hbb : ∀ y : Str, y ≠ "__name__" → mb y = bootBuiltins y) (hlim : t.heap.NoLimit) (hg : t.gens = #[]) (TA : TabsAt K mg cs t.heap)
    (ha : t.heap.get? a = some (lstO us)) (hi : IntsAre us ns) (hl : ns.length ≤ sizeLine) (hr : Room k callerA) (F : ∀ base : Heap, K.In base → base.Ns mainGlobals mg → (∀ c ∈ cs, LamX.TabB base mg c.1 c.2.1) → FnG P w K mg base k fl fd [x] sp) (hbind : ∀ (s : Shared) (u : Value), BindsTo s fd ⟨[u], []⟩ [(x, u)])
    (hsp : ∀ G : Hp, (∀ c ∈ cs, G c.2.1 = some (.tbl #[])) → SqL K G a (ns.map V.int) → sp [.ref a] G (fun v _ => v = .bl true) fun _ _ _ => False) :
    codeAny (model P w) callerA (.call (.ref fl) ⟨[.ref a], []⟩) (fun r s' => r = .ok (.ret (.bool true)) ∧ OldK t.heap s'.heap ∧ s'.os = t.os ∧ AllBare s'.gens) t := by
  have rv := L2.vals_ints hi
  have ln := hi.length
  have go : ∀ {G : Hp}, Scr P w K cs a us ns t G → codeAny (model P w) callerA (.call (.ref fl) ⟨[.ref a], []⟩) (fun r s' => r = .ok (.ret (.bool true)) ∧ OldK t.heap s'.heap ∧ s'.os = t.os ∧ AllBare s'.gens) t := fun {G} Z =>
    end_core KX hn hb hbb hlim hg TA ha hr F hbind Z (hsp G Z.tab Z.sq)
  have nt : ∀ c ∈ cs, c.2.1 ≠ a := fun c hc z => by
    have e := TA.e c hc
    rw [z, ha] at e
    cases (show Data.seq us.toArray _ = Data.fields #[] from congrArg Obj.data (Option.some.inj e))
  have okT : ∀ {o : Option HO} {b : Addr} {u : HO}, b ≠ a → hp0 cs a o b = some u → (∃ c ∈ cs, b = c.2.1) ∧ u = .tbl #[] := fun {o b u} h z => by
    by_cases hb : ∃ c ∈ cs, b = c.2.1
    · rw [hp0_t h hb] at z
      cases z
      exact ⟨hb, rfl⟩
    · rw [hp0_n h hb] at z
      cases z
  cases hk : K.lookup a with
  | some o =>
    have e := KX a o hk
    rw [ha] at e
    cases e
    refine go (G := hp0 cs a none) ⟨fun b => ?_, fun c hc => hp0_t (nt c hc) ⟨c, hc, rfl⟩, .inr ⟨_, us.toArray, _, hk, rfl, rfl, rfl, by rw [List.size_toArray, ln]; exact hl, by simpa using rv⟩, fun b u z => ?_, fun b z => ?_, fun z => absurd hp0_a z⟩ <;> by_cases q : b = a
    · exact .inl (by rw [q]; exact hp0_a)
    · by_cases h : ∃ c ∈ cs, b = c.2.1
      · exact .inr (.inl h)
      · exact .inl (hp0_n q h)
    · rw [q, hp0_a] at z
      cases z
    · obtain ⟨⟨c, hc, rfl⟩, rfl⟩ := okT q z
      exact TA.e c hc
    · exact .inl q
    · by_cases h : ∃ c ∈ cs, b = c.2.1
      · exact .inr h
      · exact absurd (hp0_n q h) z
  | none =>
    refine go (G := hp0 cs a (some (.frz (lstO us) (.lst (ns.map V.int))))) ⟨fun b => ?_, fun c hc => hp0_t (nt c hc) ⟨c, hc, rfl⟩, .inl (.inr ⟨lstO us, hp0_a⟩), fun b u z => ?_, fun b z => ?_, fun _ => hk⟩ <;> by_cases q : b = a
    · exact .inr (.inr ⟨_, _, by rw [q]; exact hp0_a⟩)
    · by_cases h : ∃ c ∈ cs, b = c.2.1
      · exact .inr (.inl h)
      · exact .inl (hp0_n q h)
    · subst q
      rw [hp0_a] at z
      cases z
      exact ⟨ha, by rw [List.length_map]; exact hl, us, _, rv, ha⟩
    · obtain ⟨⟨c, hc, rfl⟩, rfl⟩ := okT q z
      exact TA.e c hc
    · exact .inl q
    · by_cases h : ∃ c ∈ cs, b = c.2.1
      · exact .inr h
      · exact absurd (hp0_n q h) z
end
/-- what K must say of a def at a, its code object and its table -/
def tabKB (K : PySem.W.Frag) (a : Addr) (t : Addr × Addr × Str) : Bool := match K.lookup a with
  | some o => (match o.data with
    | .func fd => (match fd.code with
      | .ref c => decide (c = t.1) && ((match K.lookup t.1 with
        | some oc => (match oc.data with
          | .fields vs => (match (vs[11]? : Option Value) with
            | some (.ref p) => decide (p = t.2.1)
            | _ => false)
          | _ => false)
        | none => false) && ((K.lookup t.2.1).isNone && PySem.W.codeHdIn K t.1 t.2.1))
      | _ => false)
    | _ => false)
  | none => false
theorem tabKB_code {K : PySem.W.Frag} {a : Addr} {t : Addr × Addr × Str} {o : PySem.Obj} {fd : FuncData} (h : tabKB K a t = true) (ho : K.lookup a = some o) (hd : o.data = .func fd) : fd.code = .ref t.1 := by
  unfold tabKB at h
  rw [ho] at h
  dsimp only at h
  rw [hd] at h
  dsimp only at h
  split at h
  · rename_i c hc
    rw [Bool.and_eq_true, decide_eq_true_eq] at h
    rw [hc, h.1]
  · cases h
theorem tabsAt_of {q : Program} {loose : List Str} {mean : ExcName → Option Value} {K : PySem.W.Frag} {mg mb : Str → Option Value} {h : Heap} {cs : List (Addr × Addr × Str)} (X : K.In h) (T : Top q loose mean mg mb h)
    (hc : ∀ t ∈ cs, ∃ (x : Str) (a : Addr), mg x = some (.ref a) ∧ ((recsOf q).any fun e => e.name == x) = true ∧ tabKB K a t = true) : TabsAt K mg cs h := by
  have each : ∀ t ∈ cs, h.get? t.2.1 = some tabO ∧ K.lookup t.2.1 = none ∧ PySem.W.CodeHd h t.1 t.2.1 := fun t ht => by
    obtain ⟨x, a, hx, hr, hk⟩ := hc t ht
    unfold tabKB at hk
    split at hk
    · rename_i o ho
      split at hk
      · rename_i fd hfd
        split at hk
        · rename_i c hcd
          simp only [Bool.and_eq_true, decide_eq_true_eq] at hk
          obtain ⟨h1, h2, h3, h4⟩ := hk
          subst h1
          split at h2
          · rename_i oc hoc
            split at h2
            · rename_i vs hvs
              split at h2
              · rename_i p hp
                have h2 := of_decide_eq_true h2
                subst h2
                obtain ⟨d, hd, en⟩ := List.any_eq_true.mp hr
                have en := beq_iff_eq.mp en
                obtain ⟨a2, o2, fd2, c2, p2, g1, g2, g3, g4, g5, g6⟩ := T.tab d hd
                rw [en, hx] at g1
                cases g1
                rw [X _ _ ho] at g2
                cases g2
                rw [hfd] at g3
                cases g3
                rw [hcd] at g4
                cases g4
                obtain ⟨⟨oc2, vs2, e1, _, e3, e4⟩, e5⟩ := g6
                rw [X _ _ hoc] at e1
                cases e1
                rw [hvs] at e3
                cases e3
                rw [hp] at e4
                cases e4
                exact ⟨e5, Option.isNone_iff_eq_none.mp h3, PySem.W.codeHd_of_K X h4⟩
              · cases h2
            · cases h2
          · cases h2
        · cases hk
      · cases hk
    · cases hk
  exact ⟨fun t ht => (each t ht).1, fun t ht => (each t ht).2.1, fun t ht => (each t ht).2.2, T.bmain⟩
/-- where K is told by the world -/
theorem walkG {l : PySem.W.OpenLaw} {n k : Nat} {q : Program} {loose : List Str} {XP : (Str → Option Value) → Heap → Prop} {YP : World → Heap → Prop} {d : DefRec} {K : Params → PySem.W.Frag} {cs : World → List (Addr × Addr × Str)} {sp : World → Sp} {x : Str}
    (hn : l.most = some n) (hn2 : n ≤ sizeLine) (hdf : d.params.defaults = []) (hr : Room k callerA) (hY : ∀ (w : World) (h : Heap), YP w h → (K w.params).In h)
    (F : ∀ (w : World) (mg : Str → Option Value) (fa : Addr) (h : Heap), (K w.params).In h → h.Ns mainGlobals mg → mg d.name = some (.ref fa) →
      (∀ t ∈ cs w, ∃ (x : Str) (a : Addr), mg x = some (.ref a) ∧ ((recsOf q).any fun e => e.name == x) = true ∧ tabKB (K w.params) a t = true) ∧
      ∃ fd : FuncData, (∀ (s : Shared) (u : Value), BindsTo s fd ⟨[u], []⟩ [(x, u)]) ∧ ∀ base : Heap, (K w.params).In base → base.Ns mainGlobals mg → (∀ t ∈ cs w, LamX.TabB base mg t.1 t.2.1) → FnG l.prog w (K w.params) mg base k fa fd [x] (sp w))
    (hsp : ∀ (w : World) (H : Hp) (a : Addr) (ns : List Int), ns.length ≤ n → (∀ t ∈ cs w, H t.2.1 = some (.tbl #[])) → SqL (K w.params) H a (ns.map V.int) → sp w [.ref a] H (fun v _ => v = .bl true) fun _ _ _ => False) :
    PySem.W.WalkO q loose XP YP l.row.toRowW d [] (fun f vs => PySem.call f vs) := by
  refine Att.attach_call hn hdf fun w s₀ s₁ mg mb fa o pm cd doc a vs ns G Y ho hd hcd hmg hobj hints hlen hg => ?_
  have KX := hY w _ Y
  obtain ⟨hc, fd, hb, hF⟩ := F w mg fa _ KX G.T.g hmg
  exact end_call KX G.T.g G.T.b G.T.builtins G.T.nolimit hg (tabsAt_of KX G.T hc) hobj hints (Nat.le_trans hlen hn2) hr hF hb fun H hT hS => hsp w H a ns hlen hT hS
/-- what the evaluator must say of the law: at every script of at most so many numbers, true -/
theorem sp_law {Y : Kx} {P : Prog} {n f : Nat} {H : Hp} {a : Addr} {ns : List Int} {K : PySem.W.Frag} (hK : Y.K = K) (hT : ∀ t ∈ Y.tbs, H t.2.1 = some (.tbl #[])) (hS : SqL K H a (ns.map V.int)) (h : ∃ st, P.run n f [.lst (ns.map D.int)] none [] = .ok (.bl true) st) : spR Y P n f [.ref a] H (fun v _ => v = .bl true) fun _ _ _ => False := by
  obtain ⟨st, e⟩ := h
  have rl : ∀ (m : Lv) (H : Hp), RDs Y m H (ns.map D.int) (ns.map V.int) := fun m H => rdl_ints Y m H ns
  have tb : LamX.Tabs (Y.tbs.map fun t => t.2) H := fun p hp => by
    obtain ⟨t, ht, rfl⟩ := List.mem_map.mp hp
    exact LamX.TabS.nil (hT t ht)
  refine ⟨⟨[], []⟩, [], [.lst (ns.map D.int)], ⟨rfl, List.nodup_nil, fun i p o h => (by simp at h), fun p h => (by cases h), fun p h => (by cases h), tb⟩, ⟨.ref a, [], rfl, ⟨a, ns.map V.int, rfl, ?_, rl _ _⟩, rfl⟩, ?_⟩
  · rcases hS with hS | hS
    · exact .inl ⟨hS, fun z => by rcases z with z | z <;> cases z⟩
    · exact .inr (hK ▸ hS)
  · rw [e]
    exact fun m' H' x rs v hv => hv
end Mp
end
section
set_option autoImplicit false
set_option Elab.async false
set_option linter.all false
set_option maxRecDepth 100000
set_option maxHeartbeats 4000000
/-! MpBase: the table's facts, from what is looked at in the written part. -/
namespace Mp
open PySem PySem.Spec PyProof.Rows L2
/-- an error's class that keeps a value: its name, its index, the field, __init__'s positions -/
structure Xi where
  x : Str
  c : Nat
  f : Sx
  qn : Str
  p1 : Pos
  p2 : Pos
  q1 : Pos
  q2 : Pos
  q3 : Pos
  q4 : Pos
def Xi.d (x : Xi) : He.DefD := { at_ := (x.x, some "__init__"), name := "__init__", qual := x.qn, params := MpE.iA (S x.f) x.p1 x.p2, body := MpE.iB (S x.f) x.q1 x.q2 x.q3 x.q4, scope := MpE.iS (S x.f) }
structure Info where
  T : Tb
  P : Prog
  dd : List He.DefD
  nn : List (List Str)
  cn : List Str
  btl : List (Option String)
  xs : List Nat
  xi : List Xi
  /-- the slot of each def that holds a lambda -/
  lms : List (Option Nat)
  /-- the defs that make lambdas -/
  lis : List Nat
namespace Info
variable (I : Info)
def ad (K : PySem.W.Frag) (c : Nat) : Addr := He.ga K (I.cn.getD c Str.empty)
/-- the code object of the def at a; its table -/
def codeA (K : PySem.W.Frag) (a : Addr) : Addr := match K.lookup a with
  | some o => (match o.data with
    | .func fd => (match fd.code with
      | .ref c => c
      | _ => 0)
    | _ => 0)
  | none => 0
def tabA (K : PySem.W.Frag) (c : Addr) : Addr := match K.lookup c with
  | some o => (match o.data with
    | .fields vs => (match (vs[11]? : Option Value) with
      | some (.ref p) => p
      | _ => 0)
    | _ => 0)
  | none => 0
def tbOf (K : PySem.W.Frag) (f : Nat) : Addr × Addr × Str := match I.dd[f]? with
  | some r => (codeA K (He.fAd K r.at_), tabA K (codeA K (He.fAd K r.at_)), (r.qual ++ ".<locals>.") ++ "<lambda>")
  | none => (0, 0, Str.empty)
def liOf (f : Nat) : Option Nat := I.lis.findIdx? fun g => g == f
/-- the defs that make lambdas, in the written part -/
def tabB (K : PySem.W.Frag) : Bool := I.lis.all (fun f => match I.dd[f]? with
    | some r => tabKB K (He.fAd K r.at_) (I.tbOf K f) && (decide (r.at_ = (r.at_.1, none)) && I.T.fns.contains (r.at_.1, f))
    | none => false) &&
  (I.lis.map (I.tbOf K)).all fun t => (I.lis.map (I.tbOf K)).all fun u => !decide (u.2.1 = t.2.1) || decide (u.2.2 = t.2.2)
def Y (K : PySem.W.Frag) : Kx := { K := K, tbs := I.lis.map (I.tbOf K), cA := fun c => I.ad K c, xat := fun c => I.P.xat.getD c none, xc := fun c => I.xs.contains c, bt := fun c => I.btl.getD c none }
def cnm (c : Nat) : Str := I.cn.getD c Str.empty
def gfa (d : D) (x : Str) : List He.Fa := match d with
  | .int i => [.int x i]
  | .str s => [.str x (S s)]
  | _ => []
def fa : List He.Fa := I.T.free.map .free ++ (I.T.fns.map (fun p => .glo p.1) ++ (I.T.mks.flatMap (fun p => [.glo p.1, .mkr p.1]) ++ (I.T.mts.flatMap (fun p => [.cls (I.cnm p.1), .meth (I.cnm p.1) (S p.2.1)]) ++
  ((List.range I.P.flds.length).flatMap (fun c => .cls (I.cnm c) :: (I.P.flds.getD c []).map fun f => .noat (I.cnm c) (S f)) ++ (I.T.globs.flatMap (fun p => gfa (I.P.glob.getD p.2 .non) p.1) ++
  (I.T.cls.map (fun p => .glo p.1) ++ (I.T.xc0.flatMap (fun p => [.glo p.1, .exc p.1]) ++ (I.xi.flatMap (fun x => [.glo x.x, .keep x.x, .noat x.x (S x.f), .meth x.x "__init__"]) ++ I.T.dics.map fun p => .glo p.1))))))))
/-- the defs of the row, then the errors' __init__ -/
def all : List He.DefD := I.dd ++ I.xi.map Xi.d
def psOf (a : Arguments) : List Str := a.args.map (·.arg)
def scopeB (N ps : List Str) (sc : Scope) : Bool := decide (sc.kind = .function) && (!sc.isCoroutine && (!sc.isGenerator && (decide N.Nodup && (decide (N.take ps.length = ps) && (ps.all (fun x => kindB sc x .local || kindB sc x .cell) && sc.names.all fun y => !decide (y.2 = .free))))))
def defB (f : Nat) : Bool := match I.P.defs[f]?, I.dd[f]?, I.nn[f]? with
  | some d, some r, some N => r.dfl.isEmpty && (r.kwd.isEmpty && (scopeB N (psOf r.params) r.scope && (decide ((psOf r.params).length = d.ps) && (decide (N.length = d.ns) && chkSs I.T d.body ⟨N, r.scope, fun _ => true, false, none, I.lms.getD f none, I.liOf f⟩ r.body))))
  | _, _, _ => false
def atB (f : Nat) (a : Str × Option Str) : Bool := match I.dd[f]? with
  | some r => decide (r.at_ = a)
  | none => false
/-- what hangs on no written part -/
def chk : Bool := (List.range I.P.defs.length).all I.defB && (I.T.fns.all (fun p => decide (p.2 < I.P.defs.length) && I.atB p.2 (p.1, none)) &&
  (I.T.mks.all (fun p => decide (p.2.2 < I.P.defs.length) && (I.atB p.2.2 (p.1, some "__init__") && decide (I.cnm p.2.1 = p.1))) &&
  (I.T.mts.all (fun p => decide (p.2.2 < I.P.defs.length) && I.atB p.2.2 (I.cnm p.1, some (S p.2.1))) &&
  (I.T.globs.all (fun p => match I.P.glob[p.2]? with | some (.int _) => true | some (.str _) => true | _ => false) &&
  (I.T.cls.all (fun p => decide (p.2 < I.P.flds.length) && decide (I.cnm p.2 = p.1)) &&
  (I.T.xc0.all (fun p => I.xs.contains p.2 && decide (I.cnm p.2 = p.1)) &&
  (I.T.xc1.all (fun p => I.xs.contains p.2.1 && (decide (I.P.xat.getD p.2.1 none = some p.2.2) && I.xi.any fun x => decide (x.x = p.1) && (decide (x.c = p.2.1) && decide (x.f = p.2.2)))) &&
  (I.xi.all (fun x => decide (I.cnm x.c = x.x) && (decide (S x.f = "given") || (decide (S x.f = "index") || decide (S x.f = "reason")))) &&
  I.xs.all fun c => match I.P.xat.getD c none with
    | none => true
    | some f => I.T.xfs.contains (c, f) && I.xi.any fun x => decide (x.c = c) && decide (x.f = f)))))))))
/-- the defs that take lambdas -/
def lfnB : Bool := I.T.kws.all (fun p => I.T.fns.contains (p.1, p.2.1)) && I.T.lfns.all fun p => I.T.fns.contains p && match I.P.defs[p.2]? with
  | some d => decide (I.lms.getD p.2 none = some (d.ps - 1)) && decide (0 < d.ps)
  | none => false
theorem scope_ok {N ps : List Str} {sc : Scope} (h : scopeB N ps sc = true) : FnScope N ps sc := by
  unfold scopeB kindB at h
  simp only [Bool.and_eq_true, decide_eq_true_eq, Bool.not_eq_true', List.all_eq_true, Bool.or_eq_true, decide_eq_false_iff_not] at h
  obtain ⟨h1, h2, h3, h4, h5, h6, h7⟩ := h
  exact ⟨h1, h2, h3, h4, h5, h6, h7⟩
variable {I}
theorem def_ok {K : PySem.W.Frag} {f : Nat} {d : Def} (ht : I.tabB K = true) (hc : (List.range I.P.defs.length).all I.defB = true) (says : He.SaysD I.fa I.all K) (hd : I.P.defs[f]? = some d) :
    ∃ (r : He.DefD) (fd : FuncData), I.dd[f]? = some r ∧ FunD K r.name r.qual r.params r.body r.scope [] [] (He.fAd K r.at_) fd ∧ DefOk I.T (I.Y K).tbs K d (He.fAd K r.at_) fd (psOf r.params) (I.lms.getD f none) := by
  have hlt := (List.getElem?_eq_some_iff.mp hd).1
  have h := List.all_eq_true.mp hc f (by simpa using hlt)
  unfold defB at h
  rw [hd] at h
  cases er : I.dd[f]? with
  | none =>
    rw [er] at h
    cases h
  | some r =>
    cases en : I.nn[f]? with
    | none =>
      rw [er, en] at h
      cases h
    | some N =>
      rw [er, en] at h
      have h : (r.dfl.isEmpty && (r.kwd.isEmpty && (scopeB N (psOf r.params) r.scope && (decide ((psOf r.params).length = d.ps) && (decide (N.length = d.ns) && chkSs I.T d.body ⟨N, r.scope, fun _ => true, false, none, I.lms.getD f none, I.liOf f⟩ r.body))))) = true := h
      simp only [Bool.and_eq_true, decide_eq_true_eq, List.isEmpty_iff] at h
      obtain ⟨h1, h2, h3, h4, h5, h6⟩ := h
      obtain ⟨fd, F⟩ := He.SaysD.defs says (d := r) (List.mem_append_left _ (List.mem_of_getElem? er))
      unfold He.DefD.dvs He.DefD.kws at F
      rw [h1, h2] at F
      refine ⟨r, fd, rfl, F, r.name, r.qual, r.params, r.body, r.scope, N, [], [], I.liOf f, F, scope_ok h3, h4, h5, fun j hj => ?_, h6⟩
      unfold liOf at hj
      obtain ⟨hlt2, hjf, _⟩ := List.findIdx?_eq_some_iff_getElem.mp hj
      have hjf : I.lis[j] = f := by simpa using hjf
      refine ⟨I.tbOf K f, by
        show (I.lis.map (I.tbOf K))[j]? = _
        rw [List.getElem?_map, List.getElem?_eq_getElem hlt2, hjf]
        rfl, ?_⟩
      unfold tabB at ht
      rw [Bool.and_eq_true] at ht
      have hf := List.all_eq_true.mp ht.1 f (by rw [← hjf]; exact List.getElem_mem hlt2)
      rw [er] at hf
      simp only [Bool.and_eq_true] at hf
      have hk := hf.1
      have et : I.tbOf K f = (codeA K (He.fAd K r.at_), tabA K (codeA K (He.fAd K r.at_)), (r.qual ++ ".<locals>.") ++ "<lambda>") := by
        unfold tbOf
        rw [er]
      rw [et] at hk ⊢
      refine ⟨?_, rfl⟩
      obtain ⟨oc, od, dV, kwV, doc, pm, an, cdv, ct, osl, rfl, lk, _⟩ := F.ex
      exact tabKB_code hk lk rfl
end Info
end Mp
end
section
set_option autoImplicit false
set_option Elab.async false
set_option linter.all false
set_option maxRecDepth 100000
set_option maxHeartbeats 4000000
/-! MpBase2: Base from the facts. -/
namespace Mp
open PySem PySem.Spec PyProof.Rows L2
def clsNm : List String := ["int", "bool", "str", "tuple", "list"]
def valNm : List String := ["NoneType", "int", "bool", "str", "tuple", "list"]
/-- the class at C, as the rules ask it of an error with a value -/
def excB (K : PySem.W.Frag) (C : Addr) : Bool := match K.lookup C with
  | some ⟨.type t, _, .cls cd, sl⟩ => decide (t = "type") && ((match cd.mro with
    | .ref C' :: bm => decide (C' = C) && PySem.HandSPX.refsVE bm
    | _ => false) && (cd.hasDict && (!cd.hasDel && match sl.toList with
    | [_, _, _, _, some (.builtin n), _] => decide (n = "ValueError.__new__")
    | _ => false)))
  | _ => false
theorem excB_ok {K : PySem.W.Frag} {C : Addr} (h : excB K C = true) : ∃ nm q N bs bm sn sub ab col dd k0 k1 k2 k3 k5, K.lookup C = some (excClassObj nm q C N bs bm true sn sub ab col dd k0 k1 k2 k3 k5 "ValueError.__new__") ∧ PySem.HandSPX.refsVE bm = true := by
  unfold excB at h
  split at h
  · rename_i t dd cd sl e
    simp only [Bool.and_eq_true, decide_eq_true_eq, Bool.not_eq_true'] at h
    obtain ⟨rfl, h1, h2, h3, h4⟩ := h
    obtain ⟨nm, bs, mro, ns, qn, hd, sn, sub, ab, col, del⟩ := cd
    dsimp only at h1 h2 h3
    subst h2 h3
    split at h1
    · rename_i C' bm
      simp only [Bool.and_eq_true, decide_eq_true_eq] at h1
      obtain ⟨rfl, h5⟩ := h1
      split at h4
      · rename_i k0 k1 k2 k3 n k5 es
        have en := of_decide_eq_true h4
        subst en
        obtain ⟨l⟩ := sl
        simp only at es
        subst es
        exact ⟨nm, qn, ns, bs, bm, sn, sub, ab, col, dd, k0, k1, k2, k3, k5, e, h5⟩
      · cases h4
    · cases h1
  · cases h
theorem inj_map {α β : Type} {f : α → β} : ∀ {l : List α}, (l.map f).Nodup → ∀ {a b : α}, a ∈ l → b ∈ l → f a = f b → a = b
  | [], _, _, _, h, _, _ => by cases h
  | x :: l, hn, a, b, ha, hb, e => by
    rw [List.map_cons, List.nodup_cons] at hn
    rcases List.mem_cons.mp ha with h1 | h1
    · rcases List.mem_cons.mp hb with h2 | h2
      · rw [h1, h2]
      · exact absurd (List.mem_map.mpr ⟨b, h2, by rw [← e, h1]⟩) hn.1
    · rcases List.mem_cons.mp hb with h2 | h2
      · exact absurd (List.mem_map.mpr ⟨a, h1, by rw [e, h2]⟩) hn.1
      · exact inj_map hn.2 h1 h2 e
namespace Info
variable (I : Info)
/-- what hangs on the written part beyond the facts -/
def ex0B (K : PySem.W.Frag) : Bool :=
  He.eqO (PySem.W.specialIn K (.builtin "object.__class__") "__get__") (some (some (.builtin "getset_descriptor.__get__"))) && (decide (PySem.W.takesIn K (.builtin "object.__class__") = some true) &&
  ((List.range I.P.flds.length).all (fun c => He.eqO (PySem.W.findIn K (.ref (I.ad K c)) "__class__") (some (some (.builtin "object.__class__"))) && (decide (PySem.W.mroIn K (I.ad K c) (.type "object") = some true) &&
    (clsNm.all (fun n => decide (PySem.W.kitOne K (.ref (I.ad K c)) (.type n) = some false)) && (valNm.all (fun n => decide (PySem.W.kitOne K (.type n) (.ref (I.ad K c)) = some false)) &&
    (List.range I.P.flds.length).all fun k => decide (PySem.W.kitOne K (.ref (I.ad K c)) (.ref (I.ad K k)) = some (c == k)))))) &&
  (I.xs.all (fun c => He.eqO (PySem.W.findIn K (.ref (I.ad K c)) "__getattribute__") (some (some (.builtin "BaseException.__getattribute__"))) && (He.eqO (PySem.W.findIn K (.ref (I.ad K c)) "__getattr__") (some none) &&
    (decide (PySem.W.subIn K (.ref (I.ad K c)) (.type "BaseException") = some true) && (PySem.W.hasDictIn K (I.ad K c) && (He.eqO (PySem.W.findIn K (.ref (I.ad K c)) "__class__") (some (some (.builtin "object.__class__"))) && (decide (PySem.W.mroIn K (I.ad K c) (.type "object") = some true) &&
    I.T.xnm.all fun p => decide (PySem.W.exmOne K (.ref (I.ad K c)) ((I.Y K).ckU p.2) = some ((I.P.sub.getD c []).contains p.2)) && decide (PySem.W.kitOne K (.ref (I.ad K c)) ((I.Y K).ckU p.2) = some ((I.P.sub.getD c []).contains p.2)))))))) &&
  (I.xi.all (fun x => excB K (I.ad K x.c) && (He.eqO (PySem.W.findIn K (.ref (I.ad K x.c)) "__setattr__") (some (some (.builtin "object.__setattr__"))) && (decide (PySem.W.typeIn K (.ref (He.ma K (I.ad K x.c) "__init__")) = some (.type "function")) && decide (PySem.W.typeIn K (.ref (I.ad K x.c)) = some (.type "type"))))) &&
  (decide (I.xs.map (fun c => I.ad K c)).Nodup && (decide I.xs.Nodup &&
  I.T.xnm.all fun p => match I.btl.getD p.2 none with
    | none => He.eqO (PySem.W.nsIn K mainGlobals p.1) (some (some (.ref (I.ad K p.2))))
    | some n => He.eqO (PySem.W.nsIn K mainGlobals p.1) (some none) && decide (bootBuiltins p.1 = some (.type n))))))))
/-- what is asked of the written part -/
def ownB (K : PySem.W.Frag) : Bool := I.T.owns.all fun c => He.eqO (PySem.W.findIn K (.ref (I.ad K c)) "__ne__") (some (some (.builtin "object.__ne__"))) && decide (PySem.W.mroIn K (I.ad K c) (.type "object") = some true)
def exB (K : PySem.W.Frag) : Bool := I.tabB K && (I.ex0B K && I.ownB K)
variable {I}
theorem base_ok {w : World} {K : PySem.W.Frag} {h : Heap} {mg : Str → Option Value} (X : K.In h) (G : h.Ns mainGlobals mg) (hc : I.chk = true) (hlf : I.lfnB = true) (says : He.SaysD I.fa I.all K) (hx : I.exB K = true)
    (binds : ∀ r ∈ I.dd, ∀ fd, FunD K r.name r.qual r.params r.body r.scope [] [] (He.fAd K r.at_) fd → Binds K fd (psOf r.params) [])
    (kwbs : ∀ p ∈ I.T.kws, ∀ r, I.dd[p.2.1]? = some r → ∀ fd, FunD K r.name r.qual r.params r.body r.scope [] [] (He.fAd K r.at_) fd → KwB K fd (psOf r.params) p.2.2.1 p.2.2.2)
    (dics : ∀ p ∈ I.T.dics, ∃ (a : Addr) (es : Array DictEntry) (n : Nat) (kvs : List (Sx × D)), mg p.1 = some (.ref a) ∧ KDict K w a es n ∧ I.P.dics[p.2]? = some kvs ∧ DicOk (I.Y K) K a kvs) : Base I.T (I.Y K) I.P w K mg := by
  have fact : ∀ f ∈ I.fa, f.ok K = true := fun f hf => He.SaysD.facts says hf
  unfold chk at hc
  simp only [Bool.and_eq_true] at hc
  obtain ⟨c1, c2, c3, c4, c5, c6, c7, c8, c9, c10⟩ := hc
  unfold exB at hx
  rw [Bool.and_eq_true, Bool.and_eq_true] at hx
  obtain ⟨ht, hx, ho⟩ := hx
  unfold ex0B at hx
  simp only [Bool.and_eq_true] at hx
  obtain ⟨x1, x2, x3, x4, x5, x6, x7, x8⟩ := hx
  have defAt : ∀ {f : Nat} {a : Str × Option Str}, decide (f < I.P.defs.length) = true → I.atB f a = true → ∃ (fd : FuncData) (ps : List Str) (d : Def), I.P.defs[f]? = some d ∧ PySem.W.keepIn K (.ref (He.fAd K a)) = true ∧ Binds K fd ps [] ∧ DefOk I.T (I.Y K).tbs K d (He.fAd K a) fd ps (I.lms.getD f none) := fun {f a} h1 h2 => by
    have h1 := of_decide_eq_true h1
    obtain ⟨r, fd, e1, e2, e3⟩ := def_ok ht c1 says (List.getElem?_eq_getElem h1)
    unfold atB at h2
    rw [e1] at h2
    have e4 : r.at_ = a := of_decide_eq_true h2
    rw [e4] at e2 e3
    exact ⟨fd, _, _, List.getElem?_eq_getElem h1, e2.kp, binds r (List.mem_of_getElem? e1) fd (by rw [e4]; exact e2), e3⟩
  have glo : ∀ {x : Str}, He.Fa.glo x ∈ I.fa → mg x = some (.ref (He.ga K x)) := fun hf => He.glo_ok X G (fact _ hf)
  have m1 : ∀ f, f ∈ I.T.free.map He.Fa.free → f ∈ I.fa := fun f h => List.mem_append_left _ h
  have m2 : ∀ f, f ∈ I.T.fns.map (fun p => He.Fa.glo p.1) → f ∈ I.fa := fun f h => List.mem_append_right _ (List.mem_append_left _ h)
  have m3 : ∀ f, f ∈ I.T.mks.flatMap (fun p => [He.Fa.glo p.1, .mkr p.1]) → f ∈ I.fa := fun f h => List.mem_append_right _ (List.mem_append_right _ (List.mem_append_left _ h))
  have m4 : ∀ f, f ∈ I.T.mts.flatMap (fun p => [He.Fa.cls (I.cnm p.1), .meth (I.cnm p.1) (S p.2.1)]) → f ∈ I.fa := fun f h => List.mem_append_right _ (List.mem_append_right _ (List.mem_append_right _ (List.mem_append_left _ h)))
  have m5 : ∀ f, f ∈ (List.range I.P.flds.length).flatMap (fun c => He.Fa.cls (I.cnm c) :: (I.P.flds.getD c []).map fun f => .noat (I.cnm c) (S f)) → f ∈ I.fa := fun f h => List.mem_append_right _ (List.mem_append_right _ (List.mem_append_right _ (List.mem_append_right _ (List.mem_append_left _ h))))
  have m6 : ∀ f, f ∈ I.T.globs.flatMap (fun p => gfa (I.P.glob.getD p.2 .non) p.1) → f ∈ I.fa := fun f h => List.mem_append_right _ (List.mem_append_right _ (List.mem_append_right _ (List.mem_append_right _ (List.mem_append_right _ (List.mem_append_left _ h)))))
  have m7 : ∀ f, f ∈ I.T.cls.map (fun p => He.Fa.glo p.1) → f ∈ I.fa := fun f h => List.mem_append_right _ (List.mem_append_right _ (List.mem_append_right _ (List.mem_append_right _ (List.mem_append_right _ (List.mem_append_right _ (List.mem_append_left _ h))))))
  have m8 : ∀ f, f ∈ I.T.xc0.flatMap (fun p => [He.Fa.glo p.1, .exc p.1]) → f ∈ I.fa := fun f h => List.mem_append_right _ (List.mem_append_right _ (List.mem_append_right _ (List.mem_append_right _ (List.mem_append_right _ (List.mem_append_right _ (List.mem_append_right _ (List.mem_append_left _ h)))))))
  have m9 : ∀ f, f ∈ I.xi.flatMap (fun x => [He.Fa.glo x.x, .keep x.x, .noat x.x (S x.f), .meth x.x "__init__"]) → f ∈ I.fa := fun f h => List.mem_append_right _ (List.mem_append_right _ (List.mem_append_right _ (List.mem_append_right _ (List.mem_append_right _ (List.mem_append_right _ (List.mem_append_right _ (List.mem_append_right _ (List.mem_append_left _ h))))))))
  have adx : ∀ {c : Nat} {x : Str}, I.cnm c = x → I.ad K c = He.ga K x := fun h => by rw [← h]; rfl
  have xsAt : ∀ c, (I.Y K).xc c = true → c ∈ I.xs := fun c h => by
    have h : I.xs.contains c = true := h
    simpa using h
  have xall := fun c hc => List.all_eq_true.mp x4 c (xsAt c hc)
  have xiAt : ∀ c f, (I.Y K).xc c = true → I.P.xat.getD c none = some f → I.T.xfs.contains (c, f) = true ∧ ∃ x ∈ I.xi, x.c = c ∧ x.f = f := fun c f h1 h2 => by
    have h := List.all_eq_true.mp c10 c (xsAt c h1)
    rw [h2] at h
    simp only [Bool.and_eq_true, List.any_eq_true, decide_eq_true_eq] at h
    exact h
  refine { hK := rfl, xat := rfl, free := ?_, fns := ?_, mks := ?_, mts := ?_, globs := ?_, dics := dics, fld := ?_, clk := ?_, cls := ?_, xc0 := ?_, xc1 := ?_, xnm := ?_, xT := ?_, xinj := ?_, xfs := ?_, xfa := ?_, lfn := ?_, kws := ?_, own := ?_, tbu := ?_ }
  · exact fun x hx => He.free_ok X G (fact _ (m1 _ (List.mem_map_of_mem hx)))
  · intro p hp
    have h := List.all_eq_true.mp c2 p hp
    simp only [Bool.and_eq_true] at h
    obtain ⟨fd, ps, d, e1, e2, e3, e4⟩ := defAt h.1 h.2
    exact ⟨_, fd, ps, d, glo (m2 _ (List.mem_map.mpr ⟨p, hp, rfl⟩)), e2, e3, e1, _, e4⟩
  · intro p hp
    have h := List.all_eq_true.mp c3 p hp
    simp only [Bool.and_eq_true, decide_eq_true_eq] at h
    obtain ⟨fd, ps, d, e1, e2, e3, e4⟩ := defAt (decide_eq_true h.1) h.2.1
    have ea : (I.Y K).cA p.2.1 = He.ga K p.1 := adx h.2.2
    refine ⟨_, fd, ps, d, ?_, ?_, e3, e1, _, e4⟩
    · rw [ea]
      exact glo (m3 _ (List.mem_flatMap.mpr ⟨p, hp, by simp⟩))
    · rw [ea]
      exact He.mkr_ok (fact _ (m3 _ (List.mem_flatMap.mpr ⟨p, hp, by simp⟩)))
  · intro p hp
    have h := List.all_eq_true.mp c4 p hp
    simp only [Bool.and_eq_true] at h
    obtain ⟨fd, ps, d, e1, e2, e3, e4⟩ := defAt h.1 h.2
    exact ⟨_, fd, ps, d, He.cls_ok (x := I.cnm p.1) (fact _ (m4 _ (List.mem_flatMap.mpr ⟨p, hp, by simp⟩))), He.meth_ok (x := I.cnm p.1) (fact _ (m4 _ (List.mem_flatMap.mpr ⟨p, hp, by simp⟩))), e3, e1, _, e4⟩
  · intro p hp
    have h := List.all_eq_true.mp c5 p hp
    have mem : ∀ f ∈ gfa (I.P.glob.getD p.2 .non) p.1, f.ok K = true := fun f hf => fact f (m6 _ (List.mem_flatMap.mpr ⟨p, hp, hf⟩))
    rw [List.getD_eq_getElem?_getD] at mem
    cases eg : I.P.glob[p.2]? with
    | none =>
      rw [eg] at h
      cases h
    | some d =>
      rw [eg] at h mem
      cases d with
      | int i =>
        obtain ⟨t, e⟩ := He.int_ok X G (mem _ (List.mem_singleton.mpr rfl))
        exact ⟨_, .int i, .int i, e, ⟨t, rfl⟩, rfl, fun _ _ => rfl⟩
      | str s =>
        obtain ⟨t, e⟩ := He.str_ok X G (mem _ (List.mem_singleton.mpr rfl))
        exact ⟨_, .str (S s), .str s, e, ⟨t, rfl⟩, rfl, fun _ _ => rfl⟩
      | _ => cases h
  · intro c f hf
    have hcl : c < I.P.flds.length := by
      by_cases hl : c < I.P.flds.length
      · exact hl
      · rw [List.getD_eq_getElem?_getD, List.getElem?_eq_none (by omega)] at hf
        cases hf
    have hf' : f ∈ I.P.flds.getD c [] := by simpa using hf
    exact ⟨He.cls_ok (x := I.cnm c) (fact _ (m5 _ (List.mem_flatMap.mpr ⟨c, by simpa using hcl, by simp⟩))), He.noat_ok (x := I.cnm c) (fact _ (m5 _ (List.mem_flatMap.mpr ⟨c, by simpa using hcl, List.mem_cons_of_mem _ (List.mem_map.mpr ⟨f, hf', rfl⟩)⟩)))⟩
  · have at3 : ∀ c, decide (c < I.P.flds.length) = true → _ := fun c hc => List.all_eq_true.mp x3 c (by simpa using hc)
    simp only [Bool.and_eq_true, decide_eq_true_eq] at at3
    refine ⟨fun c hc => He.cls_ok (x := I.cnm c) (fact _ (m5 _ (List.mem_flatMap.mpr ⟨c, by simpa using hc, by simp⟩))), fun c hc => He.eqO_ok (at3 c (of_decide_eq_true hc)).1, He.eqO_ok x1, of_decide_eq_true x2, fun c hc => (at3 c (of_decide_eq_true hc)).2.1, fun c hc n hn => ?_, fun c hc n hn => ?_, fun c k hc hk => ?_⟩
    · exact of_decide_eq_true (List.all_eq_true.mp (at3 c (of_decide_eq_true hc)).2.2.1 n hn)
    · exact of_decide_eq_true (List.all_eq_true.mp (at3 c (of_decide_eq_true hc)).2.2.2.1 n hn)
    · exact of_decide_eq_true (List.all_eq_true.mp (at3 c (of_decide_eq_true hc)).2.2.2.2 k (by simpa using hk))
  · intro p hp
    have h := List.all_eq_true.mp c6 p hp
    simp only [Bool.and_eq_true, decide_eq_true_eq] at h
    refine ⟨?_, decide_eq_true h.1⟩
    rw [show (I.Y K).cA p.2 = He.ga K p.1 from adx h.2]
    exact glo (m7 _ (List.mem_map.mpr ⟨p, hp, rfl⟩))
  · intro p hp
    have h := List.all_eq_true.mp c7 p hp
    simp only [Bool.and_eq_true, decide_eq_true_eq] at h
    rw [show (I.Y K).cA p.2 = He.ga K p.1 from adx h.2]
    obtain ⟨q1, q2, q3, q4⟩ := He.exc_ok (fact _ (m8 _ (List.mem_flatMap.mpr ⟨p, hp, by simp⟩)) : (He.Fa.exc p.1).ok K = true)
    exact ⟨glo (m8 _ (List.mem_flatMap.mpr ⟨p, hp, by simp⟩)), h.1, q1, q2, q3, q4⟩
  · intro p hp
    have h := List.all_eq_true.mp c8 p hp
    simp only [Bool.and_eq_true, decide_eq_true_eq, List.any_eq_true] at h
    obtain ⟨h1, h2, x, hx, h3, h4, h5⟩ := h
    have hxi := List.all_eq_true.mp c9 x hx
    simp only [Bool.and_eq_true, decide_eq_true_eq, Bool.or_eq_true] at hxi
    have hxx := List.all_eq_true.mp x5 x hx
    simp only [Bool.and_eq_true, decide_eq_true_eq] at hxx
    have ea : I.ad K x.c = He.ga K x.x := adx hxi.1
    obtain ⟨fd, F⟩ := He.SaysD.defs says (d := x.d) (List.mem_append_right _ (List.mem_map.mpr ⟨x, hx, rfl⟩))
    have fm : ∀ f ∈ ([He.Fa.glo x.x, .keep x.x, .noat x.x (S x.f), .meth x.x "__init__"] : List He.Fa), f.ok K = true := fun f hf => fact f (m9 _ (List.mem_flatMap.mpr ⟨x, hx, hf⟩))
    have hm := He.meth_ok (fm (.meth x.x "__init__") (by simp))
    have hb : x.c ∈ I.xs := by rw [h4]; exact xsAt _ h1
    have hxa := List.all_eq_true.mp x4 x.c hb
    simp only [Bool.and_eq_true, decide_eq_true_eq] at hxa
    rw [ea] at hxx hxa
    rw [← h3, ← h5, show (I.Y K).cA p.2.1 = He.ga K x.x by rw [← h4]; exact ea]
    refine ⟨glo (m9 _ (List.mem_flatMap.mpr ⟨x, hx, by simp⟩)), h1, by rw [h5]; exact h2, ?_, He.ma K (He.ga K x.x) "__init__", x.qn, ?_⟩
    · exact hxi.2
    · obtain ⟨oc, od, dV, kwV, doc, pm, an, cdv, ct, osl, rfl, lk, hcd, hD, hKw⟩ := F.ex
      have hdv : dV = .none := by
        rcases hD with ⟨_, e⟩ | ⟨e, _⟩
        · exact e
        · exact absurd rfl e
      subst hdv
      exact ⟨excB_ok hxx.1, He.eqO_ok hxx.2.1, He.noat_ok (fm (.noat x.x (S x.f)) (by simp)), hm.at_, hxx.2.2.1, He.keep_ok (fm (.keep x.x) (by simp)), hxa.2.2.1, hxx.2.2.2, oc, od, kwV, doc, pm, an, cdv, ct, osl, x.p1, x.p2, x.q1, x.q2, x.q3, x.q4, lk, hcd⟩
  · intro p hp
    have hn := List.all_eq_true.mp x8 p hp
    refine ⟨?_, fun c hc => ?_, fun c hc => ?_⟩
    · unfold Kx.ckU
      show mg p.1 = some (match I.btl.getD p.2 none with | some n => .type n | none => .ref (I.ad K p.2)) ∨ (mg p.1 = none ∧ bootBuiltins p.1 = some (match I.btl.getD p.2 none with | some n => .type n | none => .ref (I.ad K p.2)))
      cases eb : I.btl.getD p.2 none with
      | none =>
        rw [eb] at hn
        exact .inl (PySem.W.mg_of X G (He.eqO_ok hn))
      | some n =>
        rw [eb] at hn
        simp only [Bool.and_eq_true, decide_eq_true_eq] at hn
        exact .inr ⟨PySem.W.mg_none_of X G (He.eqO_ok hn.1), hn.2⟩
    · have h := xall c hc
      simp only [Bool.and_eq_true, decide_eq_true_eq, List.all_eq_true] at h
      exact (h.2.2.2.2.2.2 p hp).1
    · have h := xall c hc
      simp only [Bool.and_eq_true, decide_eq_true_eq, List.all_eq_true] at h
      exact (h.2.2.2.2.2.2 p hp).2
  · intro c hc
    have h := xall c hc
    simp only [Bool.and_eq_true, decide_eq_true_eq] at h
    exact ⟨He.eqO_ok h.1, He.eqO_ok h.2.1, h.2.2.1, h.2.2.2.1, He.eqO_ok h.2.2.2.2.1, He.eqO_ok x1, of_decide_eq_true x2, h.2.2.2.2.2.1⟩
  · intro c d hc hd e
    have hn := of_decide_eq_true x6
    exact inj_map hn (xsAt c hc) (xsAt d hd) e
  · intro p hp hc hf
    obtain ⟨_, x, hx, e1, e2⟩ := xiAt p.1 p.2 hc hf
    have hxi := List.all_eq_true.mp c9 x hx
    simp only [Bool.and_eq_true, decide_eq_true_eq] at hxi
    have ea : I.ad K x.c = He.ga K x.x := adx hxi.1
    have q : (He.Fa.noat x.x (S x.f)).ok K = true := fact _ (m9 _ (List.mem_flatMap.mpr ⟨x, hx, by simp⟩))
    rw [← e1, ← e2, show (I.Y K).cA x.c = He.ga K x.x from ea]
    exact He.noat_ok q
  · intro c f hc hf
    have := (xiAt c f hc hf).1
    simpa using this
  · intro p hp
    unfold lfnB at hlf
    rw [Bool.and_eq_true] at hlf
    have h := List.all_eq_true.mp hlf.2 p hp
    rw [Bool.and_eq_true] at h
    have hm : p ∈ I.T.fns := by simpa using h.1
    have h2 := List.all_eq_true.mp c2 p hm
    simp only [Bool.and_eq_true] at h2
    obtain ⟨fd, ps, d, e1, e2, e3, e4⟩ := defAt h2.1 h2.2
    have h3 := h.2
    rw [e1] at h3
    simp only [Bool.and_eq_true, decide_eq_true_eq] at h3
    rw [h3.1] at e4
    exact ⟨_, fd, ps, d, d.ps - 1, glo (m2 _ (List.mem_map.mpr ⟨p, hm, rfl⟩)), e2, e3, e1, e4, by omega⟩
  · intro p hp
    unfold lfnB at hlf
    rw [Bool.and_eq_true] at hlf
    have hm : (p.1, p.2.1) ∈ I.T.fns := by simpa using List.all_eq_true.mp hlf.1 p hp
    have h2 := List.all_eq_true.mp c2 _ hm
    simp only [Bool.and_eq_true] at h2
    have h1 := of_decide_eq_true h2.1
    obtain ⟨r, fd, e1, e2, e3⟩ := def_ok ht c1 says (List.getElem?_eq_getElem h1)
    have h3 := h2.2
    unfold atB at h3
    rw [e1] at h3
    have e4 : r.at_ = (p.1, none) := of_decide_eq_true h3
    refine ⟨He.fAd K r.at_, fd, psOf r.params, _, _, ?_, e2.kp, kwbs p hp r e1 fd e2, List.getElem?_eq_getElem h1, e3⟩
    rw [e4]
    exact glo (m2 _ (List.mem_map.mpr ⟨_, hm, rfl⟩))
  · intro c hc
    have h := List.all_eq_true.mp ho c hc
    rw [Bool.and_eq_true] at h
    exact ⟨He.eqO_ok h.1, of_decide_eq_true h.2⟩
  · unfold tabB at ht
    rw [Bool.and_eq_true] at ht
    intro t h1 u h2 e
    have h := List.all_eq_true.mp (List.all_eq_true.mp ht.2 t h1) u h2
    rw [Bool.or_eq_true, Bool.not_eq_true', decide_eq_false_iff_not, decide_eq_true_eq] at h
    exact h.resolve_left fun z => z e
end Info
end Mp
end
section
set_option autoImplicit false
set_option Elab.async false
set_option linter.all false
set_option maxRecDepth 100000
set_option maxHeartbeats 4000000
/-! MpBase3: dicts of the top; the law's def. -/
namespace Mp
open PySem PySem.Spec PyProof.Rows L2
def datB : D → Value → Bool
  | .int i, .int j _ => decide (i = j)
  | .str s, .str z _ => decide (S s = z)
  | _, _ => false
theorem datB_ok {Y : Kx} {d : D} {u : Value} (h : datB d u = true) : ∃ v, RelV v u ∧ ∀ m H, RD Y m H d v := by
  unfold datB at h
  split at h
  · rename_i i j t
    have e := of_decide_eq_true h
    subst e
    exact ⟨.int i, ⟨t, rfl⟩, fun _ _ => rfl⟩
  · rename_i s z t
    have e := of_decide_eq_true h
    subst e
    exact ⟨.str (S s), ⟨t, rfl⟩, fun _ _ => rfl⟩
  · cases h
def entB (e : DictEntry) (k : Sx) (d : D) : Bool := match e.key with
  | .str x _ => decide (x = S k) && datB d e.val
  | _ => false
def entsB : List DictEntry → List (Sx × D) → Bool
  | [], [] => true
  | e :: es, q :: qs => entB e q.1 q.2 && entsB es qs
  | _, _ => false
def dicB (K : PySem.W.Frag) (a : Addr) (kvs : List (Sx × D)) : Bool := match K.lookup a with
  | some ⟨_, _, .dict es _, _⟩ => entsB es.toList kvs
  | _ => false
theorem ents_ok {Y : Kx} {s : Sx} : ∀ {es : List DictEntry} {kvs : List (Sx × D)}, entsB es kvs = true → es.any (·.refKey) = false ∧ ((es.find? fun e => e.key.isStr (S s)).isSome = (kvs.lookup s).isSome) ∧ ∀ d, kvs.lookup s = some d → ∃ e v, (es.find? fun e => e.key.isStr (S s)) = some e ∧ RelV v e.val ∧ ∀ m H, RD Y m H d v
  | [], [], _ => ⟨rfl, rfl, fun d h => by cases h⟩
  | [], _ :: _, h => by cases h
  | _ :: _, [], h => by cases h
  | e :: es, q :: qs, h => by
    have h : (entB e q.1 q.2 && entsB es qs) = true := h
    simp only [Bool.and_eq_true] at h
    obtain ⟨i1, i2, i3⟩ := ents_ok (Y := Y) (s := s) h.2
    have h1 := h.1
    obtain ⟨kn, kd⟩ := q
    unfold entB at h1
    split at h1
    · rename_i x t ek
      simp only [Bool.and_eq_true, decide_eq_true_eq] at h1
      obtain ⟨rfl, hd⟩ := h1
      obtain ⟨v, r1, r2⟩ := datB_ok (Y := Y) hd
      have hk : e.key.isStr (S s) = decide (s = kn) := by
        rw [ek]
        show (S kn == S s) = _
        rw [S_beq]
        by_cases z : s = kn
        · rw [decide_eq_true z, decide_eq_true z.symm]
        · rw [decide_eq_false z, decide_eq_false (Ne.symm z)]
      have hr : e.refKey = false := by
        unfold DictEntry.refKey
        rw [ek]
      rw [List.any_cons, hr, i1, List.find?_cons, hk, List.lookup_cons]
      by_cases z : s = kn
      · subst z
        rw [decide_eq_true rfl, beq_self_eq_true]
        exact ⟨rfl, rfl, fun d hd => by
          cases hd
          exact ⟨e, v, rfl, r1, r2⟩⟩
      · rw [decide_eq_false z, beq_eq_false_iff_ne.mpr z]
        exact ⟨rfl, i2, i3⟩
    · cases h1
theorem dicB_ok {Y : Kx} {K : PySem.W.Frag} {a : Addr} {kvs : List (Sx × D)} (h : dicB K a kvs = true) : DicOk Y K a kvs := by
  intro s
  unfold dicB at h
  split at h
  · rename_i c dd es n sl e
    obtain ⟨i1, i2, i3⟩ := ents_ok (Y := Y) (s := s) h
    have en : PySem.W.nsIn K a (S s) = (match es.toList.find? fun e => e.key.isStr (S s) with
      | some e => some (some e.val)
      | none => if es.toList.any (·.refKey) then none else some none) := by
      unfold PySem.W.nsIn
      rw [e]
      rfl
    rw [en]
    cases ef : es.toList.find? fun e => e.key.isStr (S s) with
    | some en =>
      rw [ef] at i2 i3
      refine ⟨some en.val, rfl, i2, fun d hd => ?_⟩
      obtain ⟨e2, v, h1, h2, h3⟩ := i3 d hd
      cases h1
      exact ⟨_, v, rfl, h2, h3⟩
    | none =>
      rw [ef] at i2 i3
      refine ⟨none, by rw [i1]; rfl, i2, fun d hd => ?_⟩
      obtain ⟨e2, v, h1, _⟩ := i3 d hd
      cases h1
  · cases h
namespace Info
variable {I : Info}
/-- the law's def, from the facts -/
theorem law_F {P : Program} {w : World} {K : PySem.W.Frag} {h : Heap} {mg : Str → Option Value} {fa : Addr} {f : Nat} {r : He.DefD} (X : K.In h) (G : h.Ns mainGlobals mg) (hfa : mg "law" = some (.ref fa)) (hc : I.chk = true) (hlf : I.lfnB = true) (says : He.SaysD I.fa I.all K) (hx : I.exB K = true)
    (binds : ∀ r ∈ I.dd, ∀ fd, FunD K r.name r.qual r.params r.body r.scope [] [] (He.fAd K r.at_) fd → Binds K fd (psOf r.params) [])
    (kwbs : ∀ p ∈ I.T.kws, ∀ r, I.dd[p.2.1]? = some r → ∀ fd, FunD K r.name r.qual r.params r.body r.scope [] [] (He.fAd K r.at_) fd → KwB K fd (psOf r.params) p.2.2.1 p.2.2.2)
    (bindL : ∀ fd, FunD K r.name r.qual r.params r.body r.scope [] [] (He.fAd K r.at_) fd → ∀ (s : Shared) (v : Value), BindsTo s fd ⟨[v], []⟩ [("script", v)])
    (dics : ∀ p ∈ I.T.dics, (∃ es n, KDict K w (He.ga K p.1) es n) ∧ ∃ kvs, I.P.dics[p.2]? = some kvs ∧ dicB K (He.ga K p.1) kvs = true) (hr : I.dd[f]? = some r) (ha : r.at_ = (("law" : Str), none)) (hp : psOf r.params = [("script" : Str)]) (hf : f < I.P.defs.length) (hl : (("law" : Str), f) ∈ I.T.fns) (n : Nat) {q : Program} (hrec : (I.lis.all fun f => match I.dd[f]? with | some r => (recsOf q).any fun e => e.name == r.at_.1 | none => false) = true) :
    (∀ t ∈ (I.Y K).tbs, ∃ (x : Str) (a : Addr), mg x = some (.ref a) ∧ ((recsOf q).any fun e => e.name == x) = true ∧ tabKB K a t = true) ∧
    ∃ fd : FuncData, (∀ (s : Shared) (v : Value), BindsTo s fd ⟨[v], []⟩ [("script", v)]) ∧ ∀ base : Heap, K.In base → base.Ns mainGlobals mg → (∀ t ∈ (I.Y K).tbs, LamX.TabB base mg t.1 t.2.1) → FnG P w K mg base (4 * n) fa fd ["script"] (spR (I.Y K) I.P n f) := by
  have fact : ∀ f ∈ I.fa, f.ok K = true := fun f hf => He.SaysD.facts says hf
  have B : Base I.T (I.Y K) I.P w K mg := base_ok X G hc hlf says hx binds kwbs fun p hp => by
    obtain ⟨⟨es, n, kd⟩, kvs, e1, e2⟩ := dics p hp
    refine ⟨He.ga K p.1, es, n, kvs, He.glo_ok X G (fact _ ?_), kd, e1, dicB_ok e2⟩
    exact List.mem_append_right _ (List.mem_append_right _ (List.mem_append_right _ (List.mem_append_right _ (List.mem_append_right _ (List.mem_append_right _ (List.mem_append_right _ (List.mem_append_right _ (List.mem_append_right _ (List.mem_map.mpr ⟨p, hp, rfl⟩)))))))))
  have ht : I.tabB K = true := by
    unfold exB at hx
    rw [Bool.and_eq_true] at hx
    exact hx.1
  refine ⟨fun t hm => ?_, ?_⟩
  · obtain ⟨g, hg, rfl⟩ := List.mem_map.mp hm
    unfold tabB at ht
    rw [Bool.and_eq_true] at ht
    have h1 := List.all_eq_true.mp ht.1 g hg
    have h2 := List.all_eq_true.mp hrec g hg
    cases er : I.dd[g]? with
    | none =>
      rw [er] at h1
      cases h1
    | some r' =>
      rw [er] at h1 h2
      simp only [Bool.and_eq_true, decide_eq_true_eq] at h1
      obtain ⟨k1, k2, k3⟩ := h1
      refine ⟨r'.at_.1, He.fAd K r'.at_, ?_, h2, k1⟩
      rw [k2]
      exact He.glo_ok X G (fact _ (List.mem_append_right _ (List.mem_append_left _ (List.mem_map.mpr ⟨(r'.at_.1, g), by simpa using k3, rfl⟩))))
  have hc1 : (List.range I.P.defs.length).all I.defB = true := by
    unfold chk at hc
    simp only [Bool.and_eq_true] at hc
    exact hc.1
  obtain ⟨r', fd, e1, e2, e3⟩ := def_ok ht hc1 says (List.getElem?_eq_getElem hf)
  rw [hr] at e1
  cases e1
  have eg : mg "law" = some (.ref (He.ga K "law")) := He.glo_ok X G (fact _ (List.mem_append_right _ (List.mem_append_left _ (List.mem_map.mpr ⟨("law", f), hl, rfl⟩))))
  have ea : He.fAd K r.at_ = fa := by
    rw [ha]
    rw [hfa] at eg
    exact (Value.ref.inj (Option.some.inj eg)).symm
  refine ⟨fd, bindL fd e2, fun base _ _ TB => ?_⟩
  have L := (lev (Pg := P) (base := base) B TB n).1 f _ fd _ _ _ (List.getElem?_eq_getElem hf) e3
  rw [ea, hp] at L
  exact L
theorem walkI {l : PySem.W.OpenLaw} {n f : Nat} {q : Program} {loose : List Str} {XP : (Str → Option Value) → Heap → Prop} {YP : World → Heap → Prop} {d : DefRec} {K : Params → PySem.W.Frag} (I : Info)
    (hn : l.most = some 63) (hdf : d.params.defaults = []) (hr : Room (4 * n) callerA) (hY : ∀ (w : World) (h : Heap), YP w h → (K w.params).In h)
    (F : ∀ (w : World) (mg : Str → Option Value) (fa : Addr) (h : Heap), (K w.params).In h → h.Ns mainGlobals mg → mg d.name = some (.ref fa) →
      (∀ t ∈ (I.Y (K w.params)).tbs, ∃ (x : Str) (a : Addr), mg x = some (.ref a) ∧ ((recsOf q).any fun e => e.name == x) = true ∧ tabKB (K w.params) a t = true) ∧
      ∃ fd : FuncData, (∀ (s : Shared) (v : Value), BindsTo s fd ⟨[v], []⟩ [("script", v)]) ∧ ∀ base : Heap, (K w.params).In base → base.Ns mainGlobals mg → (∀ t ∈ (I.Y (K w.params)).tbs, LamX.TabB base mg t.1 t.2.1) → FnG l.prog w (K w.params) mg base (4 * n) fa fd ["script"] (spR (I.Y (K w.params)) I.P n f))
    (plain : ∀ ns : List Int, ns.length ≤ 63 → ∃ st, I.P.run n f [.lst (ns.map D.int)] none [] = .ok (.bl true) st) :
    PySem.W.WalkO q loose XP YP l.row.toRowW d [] (fun f vs => PySem.call f vs) :=
  walkG (n := 63) (k := 4 * n) (x := "script") (cs := fun w => (I.Y (K w.params)).tbs) (sp := fun w => spR (I.Y (K w.params)) I.P n f) hn (by decide) hdf hr hY F fun w H a ns hl hT hS => sp_law rfl hT hS (plain ns hl)
end Info
end Mp
end
section
set_option autoImplicit false
set_option Elab.async false
set_option linter.all false
set_option maxRecDepth 100000
set_option maxHeartbeats 4000000
/-! PlBase: plain facts about the evaluator. -/
namespace Mp
@[simp] theorem b_st {α β : Type} (m : M α) (f : α → M β) (st : Store) : (m >>= f) st = (m st).then f := rfl
@[simp] theorem r_st {α : Type} (a : α) (st : Store) : (ret a) st = .ok a st := rfl
@[simp] theorem p_st {α : Type} (a : α) (st : Store) : (pure a : M α) st = .ok a st := rfl
@[simp] theorem t_ok {α β : Type} (a : α) (st : Store) (f : α → M β) : (R.ok a st).then f = f a st := rfl
@[simp] theorem t_err {α β : Type} (c : Nat) (d : Option D) (st : Store) (f : α → M β) : (R.err c d st).then f = .err c d st := rfl
@[simp] theorem t_bad {α β : Type} (f : α → M β) : (R.bad).then f = .bad := rfl
@[simp] theorem opt_some {α : Type} (a : α) : Mp.opt (some a) = ret a := rfl
@[simp] theorem nox_st {α : Type} (m : M α) (st : Store) : nox m st = match m st with
  | .ok a st => .ok a st
  | .err _ _ _ => .bad
  | .bad => .bad := rfl
@[simp] theorem step_st {α : Type} (ρ : Env) (m : M α) (f : α → M Flow) (st : Store) : Mp.step ρ m f st = match m st with
  | .ok a st => f a st
  | .err c d st => .ok (.exc c d ρ) st
  | .bad => .bad := rfl
@[simp] theorem after_next (ρ : Env) (g : Env → M Flow) : Mp.after (.next ρ) g = g ρ := rfl
@[simp] theorem after_ret (d : D) (g : Env → M Flow) : Mp.after (.ret d) g = ret (.ret d) := rfl
@[simp] theorem after_exc (c : Nat) (d : Option D) (ρ : Env) (g : Env → M Flow) : Mp.after (.exc c d ρ) g = ret (.exc c d ρ) := rfl
@[simp] theorem setAll_nil (ρ : Env) : setAll [] [] ρ = some ρ := rfl
@[simp] theorem setAll_cons (i : Nat) (is : List Nat) (d : D) (ds : List D) (ρ : Env) : setAll (i :: is) (d :: ds) ρ = if i < ρ.length then setAll is ds (ρ.set i (some d)) else none := rfl
@[simp] theorem put_nm (i : Nat) (d : D) (ρ : Env) : (Pt.nm i).put d ρ = setAll [i] [d] ρ := rfl
@[simp] theorem put_tup (is : List Nat) (ds : List D) (ρ : Env) : (Pt.tup is).put (.tup ds) ρ = setAll is ds ρ := rfl
@[simp] theorem wipe_nil (ρ : Env) : wipeD ρ [] = ρ := rfl
@[simp] theorem wipe_cons (ρ : Env) (v : Nat) (vs : List Nat) : wipeD ρ (v :: vs) = (wipeD ρ vs).set v none := rfl
@[simp] theorem tlen0 : Tgs.nil.len = 0 := rfl
@[simp] theorem tlen1 (t : Tg) (r : Tgs) : (Tgs.cons t r).len = r.len + 1 := rfl
@[simp] theorem pl_non : D.plain .non = true := rfl
@[simp] theorem pl_bl (b : Bool) : D.plain (.bl b) = true := rfl
@[simp] theorem pl_int (b : Int) : D.plain (.int b) = true := rfl
@[simp] theorem pl_str (b : Sx) : D.plain (.str b) = true := rfl
@[simp] theorem pl_tup (b : List D) : D.plain (.tup b) = true := rfl
@[simp] theorem pl_lst (b : List D) : D.plain (.lst b) = true := rfl
@[simp] theorem pl_obj (b : Nat) : D.plain (.obj b) = true := rfl
@[simp] theorem cfg_call (P : Prog) (c : Nat → List D → Option (List D → M D) → M D) (l : Option (List D → M D)) : (P.cfg c l).call = c := rfl
@[simp] theorem cfg_glob (P : Prog) (c : Nat → List D → Option (List D → M D) → M D) (l : Option (List D → M D)) (x : Nat) : (P.cfg c l).glob x = P.glob[x]? := rfl
@[simp] theorem cfg_dic (P : Prog) (c : Nat → List D → Option (List D → M D) → M D) (l : Option (List D → M D)) (x : Nat) : (P.cfg c l).dic x = P.dics[x]? := rfl
@[simp] theorem cfg_fld (P : Prog) (k : Nat → List D → Option (List D → M D) → M D) (l : Option (List D → M D)) (c : Nat) (f : Sx) : (P.cfg k l).fld c f = (P.flds.getD c []).contains f := rfl
@[simp] theorem cfg_cls (P : Prog) (k : Nat → List D → Option (List D → M D) → M D) (l : Option (List D → M D)) (c : Nat) : (P.cfg k l).cls c = decide (c < P.flds.length) := rfl
@[simp] theorem cfg_xat (P : Prog) (k : Nat → List D → Option (List D → M D) → M D) (l : Option (List D → M D)) (c : Nat) : (P.cfg k l).xat c = P.xat.getD c none := rfl
@[simp] theorem cfg_sub (P : Prog) (n : Nat → List D → Option (List D → M D) → M D) (l : Option (List D → M D)) (c k : Nat) : (P.cfg n l).sub c k = (P.sub.getD c []).contains k := rfl
@[simp] theorem cfg_fuel (P : Prog) (k : Nat → List D → Option (List D → M D) → M D) (l : Option (List D → M D)) : (P.cfg k l).fuel = P.fuel := rfl
@[simp] theorem held_tup (xs : List D) : held (.tup xs) = ret xs := rfl
@[simp] theorem held_lst (xs : List D) : held (.lst xs) = ret xs := rfl
@[simp] theorem items_tup (xs : List D) : items (.tup xs) = ret xs := rfl
@[simp] theorem items_lst (xs : List D) : items (.lst xs) = ret xs := rfl
@[simp] theorem truth_bl (b : Bool) (st : Store) : truth (.bl b) st = .ok b st := rfl
@[simp] theorem new_fz (xs : List D) : Mp.new false xs = ret (.lst xs) := rfl
@[simp] theorem new_lv (xs : List D) : Mp.new true xs = push (.lst xs) := rfl
@[simp] theorem push_st (o : Obj) (st : Store) : push o st = .ok (.obj st.length) (st ++ [o]) := rfl
@[simp] theorem look_st {i : Nat} {o : Obj} {st : Store} (h : st[i]? = some o) : look i st = .ok o st := by
  unfold look
  rw [h]
@[simp] theorem write_st {i : Nat} {o : Obj} {st : Store} (h : i < st.length) : write i o st = .ok () (st.set i o) := by
  unfold write
  rw [if_pos h]
@[simp] theorem cmp_eq (x y : D) : cmp2 .eq x y = eqD x y := rfl
@[simp] theorem cmp_ne (x y : D) : cmp2 .ne x y = (do let t ← eqD x y; ret (!t)) := rfl
@[simp] theorem cmp_in (x y : D) : cmp2 .inn x y = inD x y := rfl
@[simp] theorem cmp_nin (x y : D) : cmp2 .nin x y = (do let t ← inD x y; ret (!t)) := rfl
@[simp] theorem cmp_is (x y : D) : cmp2 .is x y = isD x y := rfl
@[simp] theorem cmp_isn (x y : D) : cmp2 .isn x y = (do let t ← isD x y; ret (!t)) := rfl
@[simp] theorem cmp_lt (i j : Int) : cmp2 .lt (.int i) (.int j) = ret (decide (i < j)) := rfl
@[simp] theorem cmp_le (i j : Int) : cmp2 .le (.int i) (.int j) = ret (decide (i ≤ j)) := rfl
@[simp] theorem cmp_gt (i j : Int) : cmp2 .gt (.int i) (.int j) = ret (decide (j < i)) := rfl
@[simp] theorem cmp_ge (i j : Int) : cmp2 .ge (.int i) (.int j) = ret (decide (j ≤ i)) := rfl
@[simp] theorem op_addi (lv : Bool) (i j : Int) : op2 (.add lv) (.int i) (.int j) = ret (.int (i + j)) := rfl
@[simp] theorem op_subi (i j : Int) : op2 .sub (.int i) (.int j) = ret (.int (i - j)) := rfl
theorem op_mod {i j : Int} (h : 0 < j) : op2 .mod (.int i) (.int j) = ret (.int (i % j)) := by
  simp only [op2, h, if_true]
theorem op_addt {a b : List D} (lv : Bool) (h : a.length + b.length ≤ 1000000) : op2 (.add lv) (.tup a) (.tup b) = ret (.tup (a ++ b)) := by
  simp only [op2, lim, h, if_true]
theorem op_addl {a b : List D} (h : a.length + b.length ≤ 1000000) (st : Store) : op2 (.add false) (.lst a) (.lst b) st = .ok (.lst (a ++ b)) st := by
  simp [op2, lim, h, cont]
@[simp] theorem b_len (x : D) : bn1 .len [x] = lenD x := rfl
@[simp] theorem b_int (x : D) : bn1 .int [x] = Mp.intD x := rfl
@[simp] theorem b_sum (x : D) : bn1 .sum [x] = sumD x := rfl
@[simp] theorem b_all (x : D) : bn1 .all [x] = allD x := rfl
@[simp] theorem b_any (x : D) : bn1 .any [x] = anyD x := rfl
@[simp] theorem b_repr (x : D) : bn1 .repr [x] = reprD x := rfl
@[simp] theorem b_str (x : D) : bn1 .str [x] = strD x := rfl
@[simp] theorem b_tuple (x : D) : bn1 .tuple [x] = tupleD x := rfl
@[simp] theorem b_list (lv : Bool) (x : D) : bn1 (.list lv) [x] = listD lv x := rfl
@[simp] theorem b_range1 (lv : Bool) (x : D) : bn1 (.range1 lv) [x] = range1D lv x := rfl
@[simp] theorem b_trange (x : D) : bn1 .trange [x] = trangeD x := rfl
@[simp] theorem b_sorted (lv : Bool) (x : D) : bn1 (.sorted lv) [x] = sortedD lv x := rfl
@[simp] theorem b_sset (lv : Bool) (x : D) : bn1 (.sset lv) [x] = ssetD lv x := rfl
@[simp] theorem intD_int (i : Int) : Mp.intD (.int i) = ret (.int i) := rfl
@[simp] theorem isD_non (st : Store) : isD .non .non st = .ok true st := rfl
@[simp] theorem isD_str (s : Sx) (st : Store) : isD (.str s) .non st = .ok false st := rfl
@[simp] theorem isD_int (s : Int) (st : Store) : isD (.int s) .non st = .ok false st := rfl
@[simp] theorem isD_tup (s : List D) (st : Store) : isD (.tup s) .non st = .ok false st := rfl
section
variable (C : Cfg)

@[simp] theorem ev_c (d : D) (ρ : Env) : ev C (.c d) ρ = ret d := rfl
@[simp] theorem ev_v (i : Nat) (ρ : Env) : ev C (.v i) ρ = match ρ[i]? with
    | some (some d) => if d.plain then ret d else bad
    | _ => bad := rfl
@[simp] theorem ev_g (x : Nat) (ρ : Env) : ev C (.g x) ρ = Mp.opt (C.glob x) := rfl
@[simp] theorem ev_op (o : Op) (a b : E) (ρ : Env) : ev C (.op o a b) ρ = (do let x ← ev C a ρ; let y ← ev C b ρ; op2 o x y) := rfl
@[simp] theorem ev_neg (a : E) (ρ : Env) : ev C (.neg a) ρ = (do
    let x ← ev C a ρ
    match x with
    | .int i => ret (.int (-i))
    | _ => bad) := rfl
@[simp] theorem ev_cmp (o : Cm) (a b : E) (ρ : Env) : ev C (.cmp o a b) ρ = (do let x ← ev C a ρ; let y ← ev C b ρ; let t ← cmp2 o x y; ret (.bl t)) := rfl
@[simp] theorem ev_chain (o p : Cm) (a b c : E) (ρ : Env) : ev C (.chain o p a b c) ρ = (do
    let x ← ev C a ρ
    let y ← ev C b ρ
    let t ← cmp2 o x y
    if t then do let z ← ev C c ρ; let u ← cmp2 p y z; ret (.bl u) else ret (.bl false)) := rfl
@[simp] theorem ev_and (a b : E) (ρ : Env) : ev C (.and a b) ρ = (do
    let x ← ev C a ρ
    match x with
    | .bl t => if t then ev C b ρ else ret (.bl false)
    | _ => bad) := rfl
@[simp] theorem ev_or (a b : E) (ρ : Env) : ev C (.or a b) ρ = (do
    let x ← ev C a ρ
    match x with
    | .bl t => if t then ret (.bl true) else ev C b ρ
    | _ => bad) := rfl
@[simp] theorem ev_not (a : E) (ρ : Env) : ev C (.not a) ρ = (do
    let x ← ev C a ρ
    match x with
    | .bl t => ret (.bl (!t))
    | _ => bad) := rfl
@[simp] theorem ev_ite (c : Te) (a b : E) (ρ : Env) : ev C (.ite c a b) ρ = (do let t ← tst C c ρ; if t then ev C a ρ else ev C b ρ) := rfl
@[simp] theorem ev_tup (es : Es) (ρ : Env) : ev C (.tup es) ρ = (do let xs ← evs C es ρ; if xs.length ≤ lim then ret (.tup xs) else bad) := rfl
@[simp] theorem ev_lst (lv : Bool) (es : Es) (ρ : Env) : ev C (.lst lv es) ρ = (do let xs ← evs C es ρ; if xs.length ≤ lim then new lv xs else bad) := rfl
@[simp] theorem ev_sub (a i : E) (ρ : Env) : ev C (.sub a i) ρ = (do let x ← ev C a ρ; let y ← ev C i ρ; subD x y) := rfl
@[simp] theorem ev_slc (lv : Bool) (a : E) (lo hi : Eo) (ρ : Env) : ev C (.slc lv a lo hi) ρ = (do
    let x ← ev C a ρ
    let l ← evo C lo ρ
    let h ← evo C hi ρ
    sliceD lv x l h) := rfl
@[simp] theorem ev_call (f : Nat) (es : Es) (ρ : Env) : ev C (.call f es) ρ = (do let xs ← evs C es ρ; C.call f xs none) := rfl
@[simp] theorem ev_din (x : Nat) (a : E) (ρ : Env) : ev C (.din x a) ρ = (do
    let y ← ev C a ρ
    match y with
    | .str s => match C.dic x with
      | some kvs => ret (.bl (kvs.lookup s).isSome)
      | none => bad
    | _ => bad) := rfl
@[simp] theorem ev_dsub (x : Nat) (a : E) (ρ : Env) : ev C (.dsub x a) ρ = (do
    let y ← ev C a ρ
    match y with
    | .str s => match C.dic x with
      | some kvs => Mp.opt (kvs.lookup s)
      | none => bad
    | _ => bad) := rfl
@[simp] theorem ev_b (f : Bn) (es : Es) (ρ : Env) : ev C (.b f es) ρ = (do let xs ← evs C es ρ; bn1 f xs) := rfl
@[simp] theorem ev_m (f : Mn) (o : E) (es : Es) (ρ : Env) : ev C (.m f o es) ρ = (do let x ← ev C o ρ; chkL x; let xs ← evs C es ρ; mn1 f x xs) := rfl
@[simp] theorem ev_meth (c f : Nat) (n : Sx) (o : E) (es : Es) (ρ : Env) : ev C (.meth c f n o es) ρ = (do
    let x ← ev C o ρ
    match x with
    | .obj i => do
      let t ← look i
      match t with
      | .ins k fs => if k = c ∧ (fs.lookup n).isNone = true then (do
          let xs ← evs C es ρ
          C.call f (x :: xs) none) else bad
      | _ => bad
    | _ => bad) := rfl
@[simp] theorem ev_mk (c f : Nat) (es : Es) (ρ : Env) : ev C (.mk c f es) ρ = (do
    let xs ← evs C es ρ
    let x ← push (.ins c [])
    let r ← C.call f (x :: xs) none
    match r with
    | .non => ret x
    | _ => bad) := rfl
@[simp] theorem ev_fld (o : E) (f : Sx) (ρ : Env) : ev C (.fld o f) ρ = (do
    let x ← ev C o ρ
    match x with
    | .obj i => do
      let t ← look i
      match t with
      | .ins c fs => if C.fld c f then Mp.opt (fs.lookup f) else bad
      | _ => bad
    | _ => bad) := rfl
@[simp] theorem ev_xfld (i : Nat) (f : Sx) (ρ : Env) : ev C (.xfld i f) ρ = match ρ[i]? with
    | some (some (.exc c (some d))) => if C.xat c = some f then ret d else bad
    | _ => bad := rfl
@[simp] theorem ev_xis (i k : Nat) (ρ : Env) : ev C (.xis i k) ρ = match ρ[i]? with
    | some (some (.exc c _)) => ret (.bl (C.sub c k))
    | _ => bad := rfl
@[simp] theorem ev_isi (o : E) (ts : List Ty) (ρ : Env) : ev C (.isi o ts) ρ = (do let x ← ev C o ρ; let t ← isInst C.cls ts x; ret (.bl t)) := rfl
@[simp] theorem tst_and (a b : Te) (ρ : Env) : tst C (.and a b) ρ = (do let t ← tst C a ρ; if t then tst C b ρ else ret false) := rfl
@[simp] theorem tst_or (a b : Te) (ρ : Env) : tst C (.or a b) ρ = (do let t ← tst C a ρ; if t then ret true else tst C b ρ) := rfl
@[simp] theorem tst_not (a : Te) (ρ : Env) : tst C (.not a) ρ = (do let t ← tst C a ρ; ret (!t)) := rfl
@[simp] theorem tst_cmp (o : Cm) (a b : E) (ρ : Env) : tst C (.cmp o a b) ρ = (do let x ← ev C a ρ; let y ← ev C b ρ; cmp2 o x y) := rfl
@[simp] theorem tst_chain (o p : Cm) (a b c : E) (ρ : Env) : tst C (.chain o p a b c) ρ = (do
    let x ← ev C a ρ
    let y ← ev C b ρ
    let t ← cmp2 o x y
    if t then do let z ← ev C c ρ; cmp2 p y z else ret false) := rfl
@[simp] theorem tst_din (x : Nat) (a : E) (ρ : Env) : tst C (.din x a) ρ = (do
    let y ← ev C a ρ
    match y with
    | .str s => match C.dic x with
      | some kvs => ret (kvs.lookup s).isSome
      | none => bad
    | _ => bad) := rfl
@[simp] theorem tst_val (e : E) (ρ : Env) : tst C (.val e) ρ = (do let x ← ev C e ρ; truth x) := rfl
@[simp] theorem tsto_no (ρ : Env) : tsto C .no ρ = ret true := rfl
@[simp] theorem tsto_yes (t : Te) (ρ : Env) : tsto C (.yes t) ρ = tst C t ρ := rfl
@[simp] theorem evo_no (ρ : Env) : evo C .no ρ = ret none := rfl
@[simp] theorem evo_yes (e : E) (ρ : Env) : evo C (.yes e) ρ = (do
    let x ← ev C e ρ
    match x with
    | .int i => ret (some i)
    | _ => bad) := rfl
@[simp] theorem evs_nil (ρ : Env) : evs C .nil ρ = ret [] := rfl
@[simp] theorem evs_cons (e : E) (r : Es) (ρ : Env) : evs C (.cons e r) ρ = (do let x ← ev C e ρ; let xs ← evs C r ρ; ret (x :: xs)) := rfl
@[simp] theorem evs_star (e : E) (r : Es) (ρ : Env) : evs C (.star e r) ρ = (do let x ← ev C e ρ; let ys ← items x; let xs ← evs C r ρ; ret (ys ++ xs)) := rfl
@[simp] theorem evi_seq (e : E) (ρ : Env) : evi C (.seq e) ρ = (do let x ← ev C e ρ; held x) := rfl
@[simp] theorem evi_rng1 (a : E) (ρ : Env) : evi C (.rng1 a) ρ = (do
    let x ← ev C a ρ
    match x with
    | .int n => if -1000000 ≤ n ∧ n ≤ lim then ret (rangeL 0 n.toNat) else bad
    | _ => bad) := rfl
@[simp] theorem evi_enum (e : E) (ρ : Env) : evi C (.enum e) ρ = (do
    let x ← ev C e ρ
    let ys ← items x
    ret (((List.range ys.length).zip ys).map fun p => D.tup [.int (p.1 : Int), p.2])) := rfl
@[simp] theorem evi_zip (a b : E) (ρ : Env) : evi C (.zip a b) ρ = (do
    let x ← ev C a ρ
    let y ← ev C b ρ
    zipD x y) := rfl
@[simp] theorem setT_nm (i : Nat) (d : D) (ρ : Env) : setT C (.nm i) d ρ = Mp.opt (setAll [i] [d] ρ) := rfl
@[simp] theorem setT_sub (a i : E) (d : D) (ρ : Env) : setT C (.sub a i) d ρ = (do
    let x ← ev C a ρ
    let k ← ev C i ρ
    match x, k with
    | .obj j, .int n => do
      let t ← look j
      match t with
      | .lst ys => match L2.ixN ys.length n with
        | some m => do write j (.lst (ys.set m d)); ret ρ
        | none => bad
      | _ => bad
    | _, _ => bad) := rfl
@[simp] theorem setT_fld (a : E) (f : Sx) (d : D) (ρ : Env) : setT C (.fld a f) d ρ = (do
    let x ← ev C a ρ
    match x with
    | .obj j => do
      let t ← look j
      match t with
      | .ins c fs => if C.fld c f = true ∧ fs.length < 100 then do write j (.ins c (putFld f d fs)); ret ρ else bad
      | _ => bad
    | _ => bad) := rfl
@[simp] theorem setT_tup (ts : Tgs) (d : D) (ρ : Env) : setT C (.tup ts) d ρ = match d with
    | .tup ds => if ds.length = ts.len then nox (setTs C ts ds ρ) else bad
    | _ => bad := rfl
@[simp] theorem setTs_nil (ds : List D) (ρ : Env) : setTs C .nil ds ρ = if ds.isEmpty then ret ρ else bad := rfl
@[simp] theorem setTs_cons (t : Tg) (r : Tgs) (d : D) (ds : List D) (ρ : Env) : setTs C (.cons t r) (d :: ds) ρ = (do let ρ ← setT C t d ρ; setTs C r ds ρ) := rfl
@[simp] theorem ex_set (t : Tg) (e : E) (ρ : Env) : ex C (.set t e) ρ = Mp.step ρ (ev C e ρ) fun x => Mp.step ρ (setT C t x ρ) fun ρ' => ret (.next ρ') := rfl
@[simp] theorem ex_expr (e : E) (ρ : Env) : ex C (.expr e) ρ = Mp.step ρ (ev C e ρ) fun _ => ret (.next ρ) := rfl
@[simp] theorem ex_ret (e : E) (ρ : Env) : ex C (.ret e) ρ = Mp.step ρ (ev C e ρ) fun x => ret (.ret x) := rfl
@[simp] theorem ev_oeq (ng : Bool) (c f : Nat) (a b : E) (ρ : Env) : ev C (.oeq ng c f a b) ρ = (do let x ← ev C a ρ; let y ← ev C b ρ; let t ← oeqD C ng c f x y; ret (.bl t)) := by simp only [ev]
@[simp] theorem tst_oeq (ng : Bool) (c f : Nat) (a b : E) (ρ : Env) : tst C (.oeq ng c f a b) ρ = (do let x ← ev C a ρ; let y ← ev C b ρ; oeqD C ng c f x y) := by simp only [tst]
@[simp] theorem ex_whl (c : Te) (b : Ss) (ρ : Env) : ex C (.whl c b) ρ = whileM (tst C c) (exs C b) C.fuel ρ := rfl
@[simp] theorem ex_pass (ρ : Env) : ex C .pass ρ = ret (.next ρ) := rfl
@[simp] theorem ex_ite (c : Te) (a b : Ss) (ρ : Env) : ex C (.ite c a b) ρ = Mp.step ρ (tst C c ρ) fun t => if t then exs C a ρ else exs C b ρ := rfl
@[simp] theorem ex_raise0 (c : Nat) (ρ : Env) : ex C (.raise c .no) ρ = if C.xat c = none then ret (.exc c none ρ) else bad := rfl
@[simp] theorem ex_raise1 (c : Nat) (e : E) (ρ : Env) : ex C (.raise c (.yes e)) ρ = if (C.xat c).isSome then Mp.step ρ (ev C e ρ) fun x => ret (.exc c (some x) ρ) else bad := rfl
@[simp] theorem ex_tryx (b : Ss) (hs : Hs) (ρ : Env) : ex C (.tryx b hs) ρ = (do
    let f ← exs C b ρ
    match f with
    | .next ρ => ret (.next ρ)
    | .ret d => ret (.ret d)
    | .exc c d ρ => exh C hs c d ρ) := rfl
@[simp] theorem exs_nil (ρ : Env) : exs C .nil ρ = ret (.next ρ) := rfl
@[simp] theorem exs_cons (s : Mp.St) (r : Ss) (ρ : Env) : exs C (.cons s r) ρ = (do
    let f ← ex C s ρ
    Mp.after f (exs C r)) := rfl
@[simp] theorem exh_nil (c : Nat) (d : Option D) (ρ : Env) : exh C .nil c d ρ = ret (.exc c d ρ) := rfl
@[simp] theorem exh_cons (k : Nat) (i : Option Nat) (b : Ss) (r : Hs) (c : Nat) (d : Option D) (ρ : Env) : exh C (.cons k i b r) c d ρ = if C.sub c k then do
      let f ← exs C b (match i with
        | none => ρ
        | some i => ρ.set i (some (.exc c d)))
      match f with
      | .next ρ => ret (.next (match i with
        | none => ρ
        | some i => ρ.set i none))
      | .ret d => ret (.ret d)
      | .exc _ _ _ => bad
    else exh C r c d ρ := rfl
end
theorem oeq_ok {C : Cfg} {ng : Bool} {c f i : Nat} {y : D} {fs : List (Sx × D)} {t : Bool} {st st' : Store} (h : st[i]? = some (.ins c fs)) (hr : rightOk c y st = .ok true st) (hc : C.call f [.obj i, y] none st = .ok (.bl t) st') : oeqD C ng c f (.obj i) y st = .ok (t != ng) st' := by
  have e1 : look i st = .ok (.ins c fs) st := by
    unfold look
    rw [h]
  simp [oeqD, e1, hr, hc]
theorem lim_eq : lim = 1000000 := rfl
theorem pthen_ok {α β : Type} {r : R α} {a : α} {st : Store} {f : α → M β} (h : r = .ok a st) : r.then f = f a st := by
  rw [h]
  rfl
abbrev nd (n : Nat) : D := .int (n : Int)
abbrev lt (l : List Nat) : D := .tup (l.map nd)
abbrev sp (s : List (List Nat)) : D := .tup (s.map lt)
/-! ### good data -/
structure Gd (k : Nat) (x : D) : Prop where
  f : x.flat = true
  d : x.deep ≤ k
theorem flatAll_iff : ∀ {xs : List D}, flatAll xs = true ↔ ∀ x ∈ xs, x.flat = true
  | [] => by simp [flatAll]
  | x :: xs => by simp [flatAll, flatAll_iff (xs := xs)]
theorem deepAll_iff {k : Nat} : ∀ {xs : List D}, deepAll xs ≤ k ↔ ∀ x ∈ xs, x.deep ≤ k
  | [] => by simp [deepAll]
  | x :: xs => by simp [deepAll, deepAll_iff (xs := xs), Nat.max_le]
theorem Gd.good {k : Nat} {x : D} (g : Gd k x) (h : k ≤ 60 := by decide) : x.good = true := by
  have := g.d
  simp [D.good, g.f]
  omega
theorem Gd.up {k j : Nat} {x : D} (g : Gd k x) (h : k ≤ j := by decide) : Gd j x := ⟨g.f, Nat.le_trans g.d h⟩
theorem Gd.int (i : Int) : Gd 0 (.int i) := ⟨rfl, by simp [D.deep]⟩
theorem Gd.bl (i : Bool) : Gd 0 (.bl i) := ⟨rfl, by simp [D.deep]⟩
theorem Gd.non : Gd 0 .non := ⟨rfl, by simp [D.deep]⟩
theorem Gd.tup {k : Nat} {xs : List D} (h : ∀ x ∈ xs, Gd k x) : Gd (k + 1) (.tup xs) := ⟨by simp only [D.flat]; exact flatAll_iff.mpr fun x hx => (h x hx).f, by
  have : deepAll xs ≤ k := deepAll_iff.mpr fun x hx => (h x hx).d
  simp only [D.deep]; omega⟩
theorem Gd.lst {k : Nat} {xs : List D} (h : ∀ x ∈ xs, Gd k x) : Gd (k + 1) (.lst xs) := ⟨by simp only [D.flat]; exact flatAll_iff.mpr fun x hx => (h x hx).f, by
  have : deepAll xs ≤ k := deepAll_iff.mpr fun x hx => (h x hx).d
  simp only [D.deep]; omega⟩
theorem Gd.map {α : Type} {k : Nat} {f : α → D} (h : ∀ a, Gd k (f a)) (l : List α) : ∀ x ∈ l.map f, Gd k x := fun x hx => by
  obtain ⟨a, _, rfl⟩ := List.mem_map.mp hx
  exact h a
theorem gd_lt (l : List Nat) : Gd 1 (lt l) := .tup (.map (fun _ => .int _) l)
theorem gd_sp (l : List (List Nat)) : Gd 2 (sp l) := .tup (.map gd_lt l)
theorem goodAll_of {k : Nat} {xs : List D} (h : ∀ x ∈ xs, Gd k x) (hk : k ≤ 60 := by decide) : goodAll xs = true := by
  have h1 : flatAll xs = true := flatAll_iff.mpr fun x hx => (h x hx).f
  have h2 : deepAll xs ≤ k := deepAll_iff.mpr fun x hx => (h x hx).d
  simp [goodAll, h1]
  omega
abbrev goodL (xs : List D) : Bool := (D.lst xs).good
/-! ### equality -/
def Eqs {α : Type} [DecidableEq α] (f : α → D) : Prop := ∀ a b, (f a).eqv (f b) = decide (a = b)
theorem Eqs.nd : Eqs nd := fun a b => by simp [Mp.nd, D.eqv, Int.natCast_inj]
theorem Eqs.int : Eqs D.int := fun a b => by simp [D.eqv]
@[simp] theorem eqvAll_nil (xs : List D) : eqvAll xs [] = xs.isEmpty := by cases xs <;> rfl
theorem Eqs.all {α : Type} [DecidableEq α] {f : α → D} (h : Eqs f) : ∀ a b : List α, eqvAll (a.map f) (b.map f) = decide (a = b)
  | [], [] => by simp [eqvAll]
  | [], b :: bs => by simp [eqvAll]
  | a :: as, [] => by simp [eqvAll]
  | a :: as, b :: bs => by simp [eqvAll, h a b, Eqs.all h as bs]
theorem Eqs.tup {α : Type} [DecidableEq α] {f : α → D} (h : Eqs f) : Eqs fun l : List α => D.tup (l.map f) := fun a b => by
  simp only [D.eqv]
  exact h.all a b
theorem Eqs.lst {α : Type} [DecidableEq α] {f : α → D} (h : Eqs f) : Eqs fun l : List α => D.lst (l.map f) := fun a b => by
  simp only [D.eqv]
  exact h.all a b
theorem Eqs.lt : Eqs lt := Eqs.nd.tup
theorem Eqs.sp : Eqs sp := Eqs.lt.tup
theorem eqD_good {x y : D} {st : Store} (hx : ∀ i, x ≠ .obj i) (hy : ∀ i, y ≠ .obj i) (gx : x.good = true) (gy : y.good = true) : eqD x y st = .ok (x.eqv y) st := by
  have c1 : cont x st = .ok x st := by
    cases x with
    | obj i => exact absurd rfl (hx i)
    | _ => rfl
  have c2 : cont y st = .ok y st := by
    cases y with
    | obj i => exact absurd rfl (hy i)
    | _ => rfl
  have key : (do
    let x ← cont x
    let y ← cont y
    if x.good && y.good then ret (x.eqv y) else bad : M Bool) st = .ok (x.eqv y) st := by
    rw [b_st, c1, t_ok, b_st, c2, t_ok]
    simp [gx, gy]
  cases x with
  | str a =>
    cases y with
    | str b => simp [eqD, D.eqv]
    | _ => exact key
  | _ => exact key
@[simp] theorem eqD_int (i j : Int) (st : Store) : eqD (.int i) (.int j) st = .ok (decide (i = j)) st := eqD_good (by simp) (by simp) (Gd.int i).good (Gd.int j).good
@[simp] theorem eqD_str (a b : Sx) (st : Store) : eqD (.str a) (.str b) st = .ok (decide (a = b)) st := rfl
@[simp] theorem eqD_lt (a b : List Nat) (st : Store) : eqD (.tup (a.map nd)) (.tup (b.map nd)) st = .ok (decide (a = b)) st := by
  rw [eqD_good (by simp) (by simp) (gd_lt a).good (gd_lt b).good]
  exact congrArg (R.ok · st) (Eqs.lt a b)
@[simp] theorem eqD_sp (a b : List (List Nat)) (st : Store) : eqD (.tup (a.map lt)) (.tup (b.map lt)) st = .ok (decide (a = b)) st := by
  rw [eqD_good (by simp) (by simp) (gd_sp a).good (gd_sp b).good]
  exact congrArg (R.ok · st) (Eqs.sp a b)
@[simp] theorem eqD_lnd (a b : List Nat) (st : Store) : eqD (.lst (a.map nd)) (.lst (b.map nd)) st = .ok (decide (a = b)) st := by
  rw [eqD_good (by simp) (by simp) (Gd.lst (.map (fun _ => .int _) a)).good (Gd.lst (.map (fun _ => .int _) b)).good]
  exact congrArg (R.ok · st) (Eqs.nd.lst a b)
@[simp] theorem eqD_llt (a b : List (List Nat)) (st : Store) : eqD (.lst (a.map lt)) (.lst (b.map lt)) st = .ok (decide (a = b)) st := by
  rw [eqD_good (by simp) (by simp) (Gd.lst (.map gd_lt a)).good (Gd.lst (.map gd_lt b)).good]
  exact congrArg (R.ok · st) (Eqs.lt.lst a b)
@[simp] theorem eqD_lnd0 (a : List Nat) (st : Store) : eqD (.lst (a.map nd)) (.lst []) st = .ok (decide (a = [])) st := eqD_lnd a [] st
@[simp] theorem eqD_llt0 (a : List (List Nat)) (st : Store) : eqD (.lst (a.map lt)) (.lst []) st = .ok (decide (a = [])) st := eqD_llt a [] st
@[simp] theorem eqD_lt0 (a : List Nat) (st : Store) : eqD (.tup (a.map nd)) (.tup []) st = .ok (decide (a = [])) st := eqD_lt a [] st
@[simp] theorem eqD_00 (st : Store) : eqD (.lst []) (.lst []) st = .ok true st := rfl
@[simp] theorem eqD_t00 (st : Store) : eqD (.tup []) (.tup []) st = .ok true st := rfl
/-- a live list against a told one -/
theorem eqD_live {i : Nat} {xs : List D} {y : D} {st : Store} (h : st[i]? = some (.lst xs)) (hy : ∀ j, y ≠ .obj j) (g : goodL xs = true) (gy : y.good = true) : eqD (.obj i) y st = .ok ((D.lst xs).eqv y) st := by
  have c2 : cont y st = .ok y st := by
    cases y with
    | obj i => exact absurd rfl (hy i)
    | _ => rfl
  show (do
    let x ← cont (.obj i)
    let y ← cont y
    if x.good && y.good then ret (x.eqv y) else bad : M Bool) st = _
  have c1 : cont (.obj i) st = .ok (.lst xs) st := by
    simp [cont, h]
  have g1 : (D.lst xs).good = true := g
  rw [b_st, c1, t_ok, b_st, c2, t_ok]
  simp [g1, gy]
/-! ### in -/
theorem any_eqv {α : Type} [DecidableEq α] {f : α → D} (h : Eqs f) (x : α) : ∀ l : List α, ((l.map f).any fun z => z.eqv (f x)) = decide (x ∈ l)
  | [] => by simp
  | a :: l => by
    simp only [List.map_cons, List.any_cons, h a x, any_eqv h x l, List.mem_cons]
    by_cases e : a = x
    · simp [e]
    · simp [e, Ne.symm e]
theorem inD_tup {α : Type} [DecidableEq α] {f : α → D} (h : Eqs f) {k : Nat} (g : ∀ a, Gd k (f a)) (hs : ∀ a s, f a ≠ .str s) (x : α) (l : List α) (st : Store) (hk : k ≤ 60 := by decide) : inD (f x) (.tup (l.map f)) st = .ok (decide (x ∈ l)) st := by
  have g1 : (f x).good = true := (g x).good hk
  have g2 : goodAll (l.map f) = true := goodAll_of (Gd.map g l) hk
  have hz : ∀ s, f x ≠ .str s := hs x
  rw [← any_eqv h x l]
  generalize f x = z at g1 hz ⊢
  have key : (do
    let y ← cont (.tup (l.map f))
    match y with
    | .tup ys => if z.good && goodAll ys then ret (ys.any fun w => w.eqv z) else bad
    | .lst ys => if z.good && goodAll ys then ret (ys.any fun w => w.eqv z) else bad
    | _ => bad : M Bool) st = .ok ((l.map f).any fun w => w.eqv z) st := by
    simp only [b_st, cont, t_ok, g1, g2, Bool.and_self, if_true, r_st]
  cases z with
  | str s => exact absurd rfl (hz s)
  | _ => exact key
theorem inD_lst {α : Type} [DecidableEq α] {f : α → D} (h : Eqs f) {k : Nat} (g : ∀ a, Gd k (f a)) (hs : ∀ a s, f a ≠ .str s) (x : α) (l : List α) (st : Store) (hk : k ≤ 60 := by decide) : inD (f x) (.lst (l.map f)) st = .ok (decide (x ∈ l)) st := by
  have g1 : (f x).good = true := (g x).good hk
  have g2 : goodAll (l.map f) = true := goodAll_of (Gd.map g l) hk
  have hz : ∀ s, f x ≠ .str s := hs x
  rw [← any_eqv h x l]
  generalize f x = z at g1 hz ⊢
  have key : (do
    let y ← cont (.lst (l.map f))
    match y with
    | .tup ys => if z.good && goodAll ys then ret (ys.any fun w => w.eqv z) else bad
    | .lst ys => if z.good && goodAll ys then ret (ys.any fun w => w.eqv z) else bad
    | _ => bad : M Bool) st = .ok ((l.map f).any fun w => w.eqv z) st := by
    simp only [b_st, cont, t_ok, g1, g2, Bool.and_self, if_true, r_st]
  cases z with
  | str s => exact absurd rfl (hz s)
  | _ => exact key
@[simp] theorem inD_nd (x : Nat) (l : List Nat) (st : Store) : inD (.int (x : Int)) (.tup (l.map nd)) st = .ok (decide (x ∈ l)) st := inD_tup Eqs.nd (fun _ => .int _) (by simp) x l st
@[simp] theorem inD_ndl (x : Nat) (l : List Nat) (st : Store) : inD (.int (x : Int)) (.lst (l.map nd)) st = .ok (decide (x ∈ l)) st := inD_lst Eqs.nd (fun _ => .int _) (by simp) x l st
@[simp] theorem inD_ltl (x : List Nat) (l : List (List Nat)) (st : Store) : inD (.tup (x.map nd)) (.lst (l.map lt)) st = .ok (decide (x ∈ l)) st := by
  rw [show D.tup (x.map nd) = lt x from rfl, inD_lst Eqs.lt gd_lt (by simp) x l st]
  congr
@[simp] theorem inD_ltt (x : List Nat) (l : List (List Nat)) (st : Store) : inD (.tup (x.map nd)) (.tup (l.map lt)) st = .ok (decide (x ∈ l)) st := by
  rw [show D.tup (x.map nd) = lt x from rfl, inD_tup Eqs.lt gd_lt (by simp) x l st]
  congr
@[simp] theorem inD_2 (x a b : Nat) (st : Store) : inD (.int (x : Int)) (.tup [.int (a : Int), .int (b : Int)]) st = .ok (decide (x = a ∨ x = b)) st := by
  have := inD_nd x [a, b] st
  simpa using this
/-! ### subscripts -/
theorem ixN_nat {n i : Nat} (h : i < n) : L2.ixN n (i : Int) = some i := by
  simp [L2.ixN, h]
theorem itemOf_nat {xs : List D} {i : Nat} (h : i < xs.length) (st : Store) : itemOf xs (i : Int) st = .ok xs[i] st := by
  simp [itemOf, ixN_nat h, h]
theorem subD_tup {xs : List D} {i : Nat} (h : i < xs.length) (st : Store) : subD (.tup xs) (.int (i : Int)) st = .ok xs[i] st := by
  simp [subD, seqOf, itemOf_nat h]
theorem subD_lst {xs : List D} {i : Nat} (h : i < xs.length) (st : Store) : subD (.lst xs) (.int (i : Int)) st = .ok xs[i] st := by
  simp [subD, seqOf, itemOf_nat h]
theorem subD_map {α : Type} (f : α → D) {l : List α} {i : Nat} (h : i < l.length) (st : Store) : subD (.tup (l.map f)) (.int (i : Int)) st = .ok (f l[i]) st := by
  rw [subD_tup (by simpa using h)]
  simp
theorem subD_mapl {α : Type} (f : α → D) {l : List α} {i : Nat} (h : i < l.length) (st : Store) : subD (.lst (l.map f)) (.int (i : Int)) st = .ok (f l[i]) st := by
  rw [subD_lst (by simpa using h)]
  simp
/-! ### slices -/
theorem sIx_nat (n d b : Nat) (h : b ≤ n) : HT.sIx n d (some (b : Int)) = b := by
  rw [HT.sIx_nat]
  omega
theorem sIx_none (n d : Nat) : HT.sIx n d none = d := rfl
theorem slice_to (lv : Bool) (xs : List D) (b : Nat) (h : b ≤ xs.length) : sliceD lv (.tup xs) none (some (b : Int)) = ret (.tup (xs.take b)) := by
  simp [sliceD, cut, sIx_nat _ _ _ h, sIx_none]
theorem slice_from (lv : Bool) (xs : List D) (b : Nat) (h : b ≤ xs.length) : sliceD lv (.tup xs) (some (b : Int)) none = ret (.tup (xs.drop b)) := by
  have h2 : xs.length - b = (xs.drop b).length := by simp
  simp only [sliceD, cut, sIx_nat _ _ _ h, sIx_none, h2, List.take_length]
theorem slice_from1 (lv : Bool) (xs : List D) (b : Nat) (h : b + 1 ≤ xs.length) : sliceD lv (.tup xs) (some ((b : Int) + 1)) none = ret (.tup (xs.drop (b + 1))) := slice_from lv xs (b + 1) h
theorem slice_last (lv : Bool) (xs : List D) : sliceD lv (.tup xs) none (some (-1)) = ret (.tup xs.dropLast) := by
  have e : HT.sIx xs.length xs.length (some (-1)) = xs.length - 1 := by
    simp only [HT.sIx]
    split <;> omega
  simp only [sliceD, cut, sIx_none, e, List.drop_zero, Nat.sub_zero]
  rw [List.dropLast_eq_take]
/-! ### length -/
@[simp] theorem lenD_tup (xs : List D) (st : Store) : lenD (.tup xs) st = .ok (.int xs.length) st := by
  simp [lenD, seqOf]
@[simp] theorem lenD_lst (xs : List D) (st : Store) : lenD (.lst xs) st = .ok (.int xs.length) st := by
  simp [lenD, seqOf]
@[simp] theorem lookup_yes {β : Type} (a : Sx) (b : β) (l : List (Sx × β)) : List.lookup a ((a, b) :: l) = some b := by
  simp [List.lookup]
@[simp] theorem lookup_no {β : Type} (a c : Sx) (b : β) (l : List (Sx × β)) (h : (a == c) = false) : List.lookup a ((c, b) :: l) = List.lookup a l := by
  simp [List.lookup, h]
/-! ### the store's end -/
@[simp] theorem set_end {α : Type} (l : List α) (a b : α) (r : List α) : (l ++ a :: r).set l.length b = l ++ b :: r := by
  simp [List.set_append]
@[simp] theorem get_end {α : Type} (l : List α) (a : α) (r : List α) : (l ++ a :: r)[l.length]? = some a := by
  simp
/-- what draws come from -/
def WL (o : Obj) : Prop := ∃ a b c : Int, o = .lst [.int a, .int b, .int c] ∧ 0 ≤ a ∧ 0 ≤ b ∧ 0 ≤ c
/-! ### comprehensions -/
theorem turns_ok {α : Type} {enc : α → D} {c : α → Bool} {g : α → D} {f : D → M (Option D)} {I : Store → Prop} : ∀ {l : List α} {st : Store}, I st → (∀ x ∈ l, ∀ st, I st → ∃ st', I st' ∧ f (enc x) st = .ok (if c x then some (g x) else none) st') →
    ∃ st', I st' ∧ turns f (l.map enc) st = .ok ((l.filter c).map g) st'
  | [], st, hi, _ => ⟨st, hi, rfl⟩
  | x :: l, st, hi, h => by
    obtain ⟨s1, i1, e1⟩ := h x (.head _) st hi
    obtain ⟨s2, i2, e2⟩ := turns_ok (l := l) i1 fun y hy => h y (.tail _ hy)
    refine ⟨s2, i2, ?_⟩
    simp only [List.map_cons, turns, b_st, e1, t_ok, e2]
    cases hc : c x <;> simp [hc]
theorem lc_inv {α : Type} {C : Cfg} {ρ : Env} {st st1 : Store} {own : List Nat} {p : Pt} {it : It} {ifs : To} {e : E} (enc : α → D) (c : α → Bool) (g : α → D) (l : List α) (I : Store → Prop)
    (hi : evi C it ρ st = .ok (l.map enc) st1) (hl : l.length ≤ 1000000) (h0 : I st1)
    (hb : ∀ x ∈ l, ∀ st, I st → ∃ ρ' st', p.put (enc x) (wipeD ρ own) = some ρ' ∧ tsto C ifs ρ' st = .ok (c x) st' ∧ (c x = false → I st') ∧ (c x = true → ∃ st2, I st2 ∧ ev C e ρ' st' = .ok (g x) st2)) :
    ∃ st', I st' ∧ ev C (.lc false own p it ifs e) ρ st = .ok (.lst ((l.filter c).map g)) st' := by
  obtain ⟨st', i', e'⟩ := turns_ok (enc := enc) (c := c) (g := g) (I := I) (l := l) (st := st1) (f := fun x => match p.put x (wipeD ρ own) with
      | some ρ' => nox do
        let t ← tsto C ifs ρ'
        if t then do let y ← ev C e ρ'; ret (some y) else ret none
      | none => bad) h0 (fun x hx s hs => by
    obtain ⟨ρ', s1, h1, h2, h3, h4⟩ := hb x hx s hs
    cases hc : c x with
    | true =>
      obtain ⟨s2, i2, h5⟩ := h4 hc
      refine ⟨s2, i2, ?_⟩
      simp only [h1, nox, b_st, h2, t_ok, hc, if_true, h5, r_st]
    | false =>
      refine ⟨s1, h3 hc, ?_⟩
      simp [h1, nox, b_st, h2, t_ok, hc, r_st])
  refine ⟨st', i', ?_⟩
  have hl2 : (l.map enc).length ≤ lim := by simpa [lim] using hl
  show ((evi C it ρ st).then fun xs => bnd (turns1 xs (fun x => match p.put x (wipeD ρ own) with
      | some ρ' => nox do
        let t ← tsto C ifs ρ'
        if t then do let y ← ev C e ρ'; ret (some y) else ret none
      | none => bad)) (Mp.new false)) = _
  rw [hi, t_ok]
  unfold turns1
  rw [if_pos hl2]
  show (turns _ _ st1).then _ = _
  rw [e', t_ok]
  rfl
/-- a comprehension that leaves the store alone -/
theorem lc_ok {α : Type} {C : Cfg} {ρ : Env} {st : Store} {own : List Nat} {p : Pt} {it : It} {ifs : To} {e : E} (enc : α → D) (c : α → Bool) (g : α → D) (l : List α)
    (hi : evi C it ρ st = .ok (l.map enc) st) (hl : l.length ≤ 1000000)
    (hb : ∀ x ∈ l, ∃ ρ', p.put (enc x) (wipeD ρ own) = some ρ' ∧ tsto C ifs ρ' st = .ok (c x) st ∧ (c x = true → ev C e ρ' st = .ok (g x) st)) :
    ev C (.lc false own p it ifs e) ρ st = .ok (.lst ((l.filter c).map g)) st := by
  obtain ⟨st', rfl, h⟩ := lc_inv (I := (· = st)) enc c g l hi hl rfl fun x hx s hs => by
    subst hs
    obtain ⟨ρ', h1, h2, h3⟩ := hb x hx
    exact ⟨ρ', s, h1, h2, fun _ => rfl, fun hc => ⟨s, rfl, h3 hc⟩⟩
  exact h
/-- without a test -/
theorem lc_ok1 {α : Type} {C : Cfg} {ρ : Env} {st : Store} {own : List Nat} {p : Pt} {it : It} {e : E} (enc : α → D) (g : α → D) (l : List α)
    (hi : evi C it ρ st = .ok (l.map enc) st) (hl : l.length ≤ 1000000)
    (hb : ∀ x ∈ l, ∃ ρ', p.put (enc x) (wipeD ρ own) = some ρ' ∧ ev C e ρ' st = .ok (g x) st) :
    ev C (.lc false own p it .no e) ρ st = .ok (.lst (l.map g)) st := by
  rw [lc_ok enc (fun _ => true) g l hi hl fun x hx => by
    obtain ⟨ρ', h1, h2⟩ := hb x hx
    exact ⟨ρ', h1, rfl, fun _ => h2⟩]
  rw [List.filter_eq_self.mpr (fun _ _ => rfl)]
/-! ### loops -/
theorem forM_inv {p : Pt} {b : Env → M Flow} {xs : List D} (I : Nat → Env → Store → Prop) : ∀ {l : List D} {k : Nat} {ρ : Env} {st : Store}, I k ρ st → (∀ i, xs[k + i]? = l[i]?) →
    (∀ i x ρ st, xs[i]? = some x → I i ρ st → ∃ ρ1 ρ2 st2, p.put x ρ = some ρ1 ∧ b ρ1 st = .ok (.next ρ2) st2 ∧ I (i + 1) ρ2 st2) →
    ∃ ρ' st', Mp.forM p b l ρ st = .ok (.next ρ') st' ∧ I (k + l.length) ρ' st'
  | [], k, ρ, st, h0, _, _ => ⟨ρ, st, rfl, h0⟩
  | x :: l, k, ρ, st, h0, hx, hs => by
    obtain ⟨ρ1, ρ2, st2, e1, e2, i2⟩ := hs k x ρ st (by simpa using hx 0) h0
    obtain ⟨ρ', st', e3, i3⟩ := forM_inv (l := l) I i2 (fun i => by have := hx (i + 1); simpa [Nat.add_assoc, Nat.add_comm 1] using this) hs
    refine ⟨ρ', st', ?_, by simpa [Nat.add_assoc, Nat.add_comm 1] using i3⟩
    simp only [Mp.forM, e1, b_st, e2, t_ok]
    exact e3
theorem ex_loop {C : Cfg} {p : Pt} {it : It} {b : Ss} {xs : List D} {ρ : Env} {st st1 : Store} (hi : evi C it ρ st = .ok xs st1) : ex C (.loop p it b) ρ st = Mp.forM p (exs C b) xs ρ st1 := by
  simp only [ex, Mp.step, hi]
theorem loop_inv {C : Cfg} {p : Pt} {it : It} {b : Ss} {xs : List D} {ρ : Env} {st st1 : Store} (I : Nat → Env → Store → Prop) (hi : evi C it ρ st = .ok xs st1) (h0 : I 0 ρ st1)
    (hs : ∀ i x ρ st, xs[i]? = some x → I i ρ st → ∃ ρ1 ρ2 st2, p.put x ρ = some ρ1 ∧ exs C b ρ1 st = .ok (.next ρ2) st2 ∧ I (i + 1) ρ2 st2) :
    ∃ ρ' st', ex C (.loop p it b) ρ st = .ok (.next ρ') st' ∧ I xs.length ρ' st' := by
  obtain ⟨ρ', st', e, i⟩ := forM_inv (p := p) (b := exs C b) (xs := xs) (l := xs) (k := 0) I h0 (fun i => by simp) hs
  refine ⟨ρ', st', ?_, by simpa using i⟩
  simp only [ex, Mp.step, hi]
  exact e
/-! ### defs -/
theorem runDef_ret {C : Cfg} {d : Def} {as : List D} {st st' : Store} {x : D} (h : as.length = d.ps) (e : exs C d.body (as.map some ++ List.replicate (d.ns - as.length) none) st = .ok (.ret x) st') : runDef C d as st = .ok x st' := by
  unfold runDef
  rw [if_pos h, b_st]
  unfold nox
  rw [e]
  rfl
theorem runDef_next {C : Cfg} {d : Def} {as : List D} {st st' : Store} {ρ : Env} (h : as.length = d.ps) (e : exs C d.body (as.map some ++ List.replicate (d.ns - as.length) none) st = .ok (.next ρ) st') : runDef C d as st = .ok .non st' := by
  unfold runDef
  rw [if_pos h, b_st]
  unfold nox
  rw [e]
  rfl
theorem runDef_exc {C : Cfg} {d : Def} {as : List D} {st st' : Store} {ρ : Env} {c : Nat} {x : Option D} (h : as.length = d.ps) (e : exs C d.body (as.map some ++ List.replicate (d.ns - as.length) none) st = .ok (.exc c x ρ) st') : runDef C d as st = .err c x st' := by
  unfold runDef
  rw [if_pos h, b_st]
  unfold nox
  rw [e]
  rfl
theorem seq_next {C : Cfg} {s : Mp.St} {r : Ss} {ρ ρ1 : Env} {st st1 : Store} (h : ex C s ρ st = .ok (.next ρ1) st1) : exs C (.cons s r) ρ st = exs C r ρ1 st1 := by
  rw [exs, b_st, h]
  rfl
theorem seq_ret {C : Cfg} {s : Mp.St} {r : Ss} {ρ : Env} {st st1 : Store} {d : D} (h : ex C s ρ st = .ok (.ret d) st1) : exs C (.cons s r) ρ st = .ok (.ret d) st1 := by
  rw [exs, b_st, h]
  rfl
/-! ### sorted(set()) -/
def insN (x : Nat) : List Nat → List Nat
  | [] => [x]
  | y :: r => if x ≤ y then x :: y :: r else y :: insN x r
def sortN : List Nat → List Nat
  | [] => []
  | x :: r => insN x (sortN r)
def onceN : List Nat → List Nat
  | [] => []
  | x :: r => if r.contains x then onceN r else x :: onceN r
def usort (l : List Nat) : List Nat := sortN (onceN l)
theorem insI_map (x : Nat) : ∀ l : List Nat, insI (x : Int) (l.map fun (n : Nat) => (n : Int)) = (insN x l).map fun (n : Nat) => (n : Int)
  | [] => rfl
  | y :: r => by
    simp only [List.map_cons, insI, insN, Int.ofNat_le]
    split
    · rfl
    · rw [insI_map x r, List.map_cons]
theorem isortD_map : ∀ l : List Nat, isortD (l.map fun (n : Nat) => (n : Int)) = (sortN l).map fun (n : Nat) => (n : Int)
  | [] => rfl
  | y :: r => by simp only [List.map_cons, isortD, sortN, isortD_map r, insI_map]
theorem onceI_map : ∀ l : List Nat, onceI (l.map fun (n : Nat) => (n : Int)) = (onceN l).map fun (n : Nat) => (n : Int)
  | [] => rfl
  | y :: r => by
    have e : (r.map fun (n : Nat) => (n : Int)).contains (y : Int) = r.contains y := by
      rw [Bool.eq_iff_iff]
      simp [Int.natCast_inj]
    simp only [List.map_cons, onceI, onceN, e, onceI_map r]
    split <;> rfl
theorem mem_insN {x y : Nat} : ∀ {l : List Nat}, y ∈ insN x l ↔ y = x ∨ y ∈ l
  | [] => by simp [insN]
  | z :: r => by
    simp only [insN]
    split
    · simp
    · simp only [List.mem_cons, mem_insN (l := r)]
      constructor
      · rintro (h | h | h) <;> simp [h]
      · rintro (h | h | h) <;> simp [h]
theorem mem_sortN {y : Nat} : ∀ {l : List Nat}, y ∈ sortN l ↔ y ∈ l
  | [] => by simp [sortN]
  | z :: r => by simp only [sortN, mem_insN, mem_sortN (l := r), List.mem_cons]
theorem mem_onceN {y : Nat} : ∀ {l : List Nat}, y ∈ onceN l ↔ y ∈ l
  | [] => by simp [onceN]
  | z :: r => by
    simp only [onceN]
    split
    · rename_i h
      rw [mem_onceN (l := r), List.mem_cons]
      constructor
      · exact .inr
      · rintro (rfl | h2)
        · simpa using h
        · exact h2
    · simp only [List.mem_cons, mem_onceN (l := r)]
theorem mem_usort {y : Nat} {l : List Nat} : y ∈ usort l ↔ y ∈ l := by
  rw [usort, mem_sortN, mem_onceN]
theorem nodup_onceN : ∀ {l : List Nat}, (onceN l).Nodup
  | [] => by simp [onceN]
  | z :: r => by
    simp only [onceN]
    split
    · exact nodup_onceN
    · rename_i h
      exact List.nodup_cons.mpr ⟨fun q => h (by simpa using mem_onceN.mp q), nodup_onceN⟩
/-- strictly ascending -/
abbrev Asc (l : List Nat) : Prop := l.Pairwise (· < ·)
theorem asc_insN {x : Nat} : ∀ {l : List Nat}, Asc l → x ∉ l → Asc (insN x l)
  | [], _, _ => by simp [insN, Asc]
  | z :: r, h, hx => by
    have h2 := List.pairwise_cons.mp h
    have hne : x ≠ z := fun e => hx (by simp [e])
    have hxr : x ∉ r := fun e => hx (by simp [e])
    simp only [insN]
    split
    · rename_i q
      refine List.pairwise_cons.mpr ⟨fun y hy => ?_, h⟩
      rcases List.mem_cons.mp hy with rfl | hy
      · omega
      · have := h2.1 y hy
        omega
    · rename_i q
      refine List.pairwise_cons.mpr ⟨fun y hy => ?_, asc_insN h2.2 hxr⟩
      rcases mem_insN.mp hy with rfl | hy
      · omega
      · exact h2.1 y hy
theorem asc_sortN : ∀ {l : List Nat}, l.Nodup → Asc (sortN l)
  | [], _ => List.Pairwise.nil
  | z :: r, h => by
    have h2 := List.nodup_cons.mp h
    exact asc_insN (asc_sortN h2.2) fun q => h2.1 (mem_sortN.mp q)
theorem asc_usort (l : List Nat) : Asc (usort l) := asc_sortN nodup_onceN
theorem asc_ext : ∀ {a b : List Nat}, Asc a → Asc b → (∀ x, x ∈ a ↔ x ∈ b) → a = b
  | [], [], _, _, _ => rfl
  | [], b :: bs, _, _, h => absurd ((h b).mpr (.head _)) (by simp)
  | a :: as, [], _, _, h => absurd ((h a).mp (.head _)) (by simp)
  | a :: as, b :: bs, ha, hb, h => by
    have ha2 := List.pairwise_cons.mp ha
    have hb2 := List.pairwise_cons.mp hb
    have e : a = b := by
      rcases List.mem_cons.mp ((h a).mp (.head _)) with e | e
      · exact e
      · rcases List.mem_cons.mp ((h b).mpr (.head _)) with e2 | e2
        · exact e2.symm
        · have q1 := hb2.1 a e
          have q2 := ha2.1 b e2
          omega
    subst e
    congr 1
    refine asc_ext ha2.2 hb2.2 fun x => ⟨fun q => ?_, fun q => ?_⟩
    · rcases List.mem_cons.mp ((h x).mp (.tail _ q)) with e | e
      · have := ha2.1 x q
        omega
      · exact e
    · rcases List.mem_cons.mp ((h x).mpr (.tail _ q)) with e | e
      · have := hb2.1 x q
        omega
      · exact e
theorem usort_id {l : List Nat} (h : Asc l) : usort l = l := asc_ext (asc_usort l) h fun _ => mem_usort
theorem asc_le : ∀ {l : List Nat} {a n : Nat}, Asc l → (∀ x ∈ l, a ≤ x ∧ x < n) → l.length ≤ n - a
  | [], _, _, _, _ => by simp
  | x :: l, a, n, h, hb => by
    have h2 := List.pairwise_cons.mp h
    have hx := hb x (.head _)
    have := asc_le (l := l) (a := x + 1) (n := n) h2.2 fun y hy => ⟨h2.1 y hy, (hb y (.tail _ hy)).2⟩
    simp only [List.length_cons]
    omega
theorem asc_len {l : List Nat} {n : Nat} (h : Asc l) (hb : ∀ x ∈ l, x < n) : l.length ≤ n := by
  have := asc_le (a := 0) h fun x hx => ⟨Nat.zero_le _, hb x hx⟩
  simpa using this
theorem ints_nd : ∀ l : List Nat, ints? (l.map nd) = some (l.map fun (n : Nat) => (n : Int))
  | [] => rfl
  | x :: l => by simp [ints?, ints_nd l]
theorem ssetD_nd (l : List Nat) (h : l.length < 64) (st : Store) : ssetD false (.tup (l.map nd)) st = .ok (.lst ((usort l).map nd)) st := by
  simp only [ssetD, ints_nd, List.length_map, h, if_true, onceI_map, isortD_map, List.map_map, Mp.new, usort]
  rfl
@[simp] theorem tupleD_lst (xs : List D) (st : Store) : tupleD (.lst xs) st = .ok (.tup xs) st := by
  simp [tupleD, seqOf]
@[simp] theorem tupleD_tup (xs : List D) (st : Store) : tupleD (.tup xs) st = .ok (.tup xs) st := rfl
@[simp] theorem listD_tup (xs : List D) (st : Store) : listD false (.tup xs) st = .ok (.lst xs) st := by
  simp [listD, seqOf, Mp.new]
@[simp] theorem listD_lst (xs : List D) (st : Store) : listD false (.lst xs) st = .ok (.lst xs) st := by
  simp [listD, seqOf, Mp.new]
theorem pbools_map {α : Type} (p : α → Bool) : ∀ l : List α, bools? (l.map fun x => D.bl (p x)) = some (l.map p)
  | [] => rfl
  | x :: l => by simp [bools?, pbools_map p l]
@[simp] theorem anyD_map {α : Type} (p : α → Bool) (l : List α) (st : Store) : anyD (.lst (l.map fun x => D.bl (p x))) st = .ok (.bl (l.any p)) st := by
  simp [anyD, lseq, seqOf, pbools_map, List.any_map]
@[simp] theorem allD_map {α : Type} (p : α → Bool) (l : List α) (st : Store) : allD (.lst (l.map fun x => D.bl (p x))) st = .ok (.bl (l.all p)) st := by
  simp [allD, lseq, seqOf, pbools_map, List.all_map]
theorem rangeL_nd (n : Nat) : rangeL 0 n = (List.range n).map nd := by
  simp [rangeL, nd]
end Mp
end
section
set_option autoImplicit false
set_option Elab.async false
set_option linter.all false
set_option maxRecDepth 100000
set_option maxHeartbeats 4000000
/-! PlYard: what yards do, by lists. -/
namespace Mp
abbrev Spc := List (List Nat)
/-- a space: each reach ascending, with its own place, with the reaches of its places -/
structure Valid (n : Nat) (s : Spc) : Prop where
  len : s.length = n
  asc : ∀ (i : Nat) (r : List Nat), s[i]? = some r → Asc r
  lt : ∀ (i : Nat) (r : List Nat), s[i]? = some r → ∀ x ∈ r, x < n
  refl : ∀ (i : Nat) (r : List Nat), s[i]? = some r → i ∈ r
  tr : ∀ (i : Nat) (r : List Nat), s[i]? = some r → ∀ j ∈ r, ∀ (q : List Nat), s[j]? = some q → ∀ k ∈ q, k ∈ r
def alone (n : Nat) : Spc := (List.range n).map fun i => [i]
theorem alone_get {n i : Nat} {r : List Nat} (h : (alone n)[i]? = some r) : i < n ∧ r = [i] := by
  unfold alone at h
  rw [List.getElem?_map] at h
  by_cases hi : i < n
  · rw [List.getElem?_range hi] at h
    exact ⟨hi, by simpa using h.symm⟩
  · rw [List.getElem?_eq_none (by simpa using hi)] at h
    cases h
theorem alone_valid (n : Nat) : Valid n (alone n) where
  len := by simp [alone]
  asc := fun i r h => by
    obtain ⟨_, rfl⟩ := alone_get h
    simp [Asc]
  lt := fun i r h x hx => by
    obtain ⟨hi, rfl⟩ := alone_get h
    have : x = i := by simpa using hx
    omega
  refl := fun i r h => by
    obtain ⟨hi, rfl⟩ := alone_get h
    simp
  tr := fun i r h j hj q hq k hk => by
    obtain ⟨hi, rfl⟩ := alone_get h
    obtain ⟨hj2, rfl⟩ := alone_get hq
    have : j = i := by simpa using hj
    subst this
    exact hk
section
variable {n : Nat} {s : Spc} (v : Valid n s)
include v
theorem Valid.get {i : Nat} (h : i < n) : s[i]? = some (s[i]?.getD []) := by
  have h2 : i < s.length := by rw [v.len]; exact h
  rw [List.getElem?_eq_getElem h2]
  rfl
theorem Valid.short {i : Nat} {r : List Nat} (h : s[i]? = some r) : r.length ≤ n := asc_len (v.asc i r h) (v.lt i r h)
theorem Valid.inn {i : Nat} {r : List Nat} (h : s[i]? = some r) : i < n := by
  rw [← v.len]
  exact (List.getElem?_eq_some_iff.mp h).1
end
/-- near a b: what has b takes what a has -/
def didN (s : Spc) (a b : Nat) : Spc := s.map fun r => if b ∈ r then usort (r ++ s[a]?.getD []) else r
def didF (s : Spc) (a b : Nat) : Spc := s.set b ((s[b]?.getD []).filter fun x => decide (x ≠ a))
def thru (s : Spc) (a b : Nat) : Bool := (s[b]?.getD []).any fun c => !decide (c = a ∨ c = b) && decide (a ∈ s[c]?.getD [])
def thirds (s : Spc) (a b : Nat) : List Nat := (List.range s.length).filter fun x => !decide (x = a ∨ x = b)
def isBtw (s : Spc) (a b x : Nat) : Bool := decide (x ∈ s[b]?.getD []) && decide (a ∈ s[x]?.getD [])
theorem thirds_any {s : Spc} {a b : Nat} (v : Valid s.length s) (hb : b < s.length) : (thirds s a b).any (isBtw s a b) = thru s a b := by
  rw [Bool.eq_iff_iff]
  unfold thru thirds isBtw
  simp only [List.any_eq_true, List.mem_filter, List.mem_range, Bool.and_eq_true, decide_eq_true_eq, Bool.not_eq_true', decide_eq_false_iff_not]
  constructor
  · rintro ⟨x, ⟨h1, h2⟩, h3, h4⟩
    exact ⟨x, h3, h2, h4⟩
  · rintro ⟨x, h3, h2, h4⟩
    exact ⟨x, ⟨v.lt b _ (v.get hb) x h3, h2⟩, h3, h4⟩
theorem didN_get {s : Spc} {a b i : Nat} {r : List Nat} (h : (didN s a b)[i]? = some r) : ∃ q, s[i]? = some q ∧ r = if b ∈ q then usort (q ++ s[a]?.getD []) else q := by
  unfold didN at h
  rw [List.getElem?_map] at h
  cases e : s[i]? with
  | none =>
    rw [e] at h
    cases h
  | some q =>
    rw [e] at h
    exact ⟨q, rfl, by simpa using h.symm⟩
theorem didN_valid {n : Nat} {s : Spc} (v : Valid n s) {a b : Nat} (ha : a < n) (hb : b < n) : Valid n (didN s a b) := by
  have ga := v.get ha
  refine ⟨by simp [didN, v.len], fun i r h => ?_, fun i r h x hx => ?_, fun i r h => ?_, fun i r h j hj q hq k hk => ?_⟩
  · obtain ⟨q, e, rfl⟩ := didN_get h
    split
    · exact asc_usort _
    · exact v.asc i q e
  · obtain ⟨q, e, rfl⟩ := didN_get h
    split at hx
    · rcases List.mem_append.mp (mem_usort.mp hx) with z | z
      · exact v.lt i q e x z
      · exact v.lt a _ ga x z
    · exact v.lt i q e x hx
  · obtain ⟨q, e, rfl⟩ := didN_get h
    split
    · exact mem_usort.mpr (List.mem_append.mpr (.inl (v.refl i q e)))
    · exact v.refl i q e
  · obtain ⟨qi, ei, rfl⟩ := didN_get h
    obtain ⟨qj, ej, rfl⟩ := didN_get hq
    by_cases hbi : b ∈ qi
    · rw [if_pos hbi] at hj ⊢
      refine mem_usort.mpr (List.mem_append.mpr ?_)
      have key : ∀ k, k ∈ qj → k ∈ qi ∨ k ∈ s[a]?.getD [] := fun k hk => by
        rcases List.mem_append.mp (mem_usort.mp hj) with z | z
        · exact .inl (v.tr i qi ei j z qj ej k hk)
        · exact .inr (v.tr a _ ga j z qj ej k hk)
      split at hk
      · rcases List.mem_append.mp (mem_usort.mp hk) with z | z
        · exact key k z
        · exact .inr z
      · exact key k hk
    · rw [if_neg hbi] at hj ⊢
      have hbj : b ∉ qj := fun z => hbi (v.tr i qi ei j hj qj ej b z)
      rw [if_neg hbj] at hk
      exact v.tr i qi ei j hj qj ej k hk
theorem didF_get {s : Spc} {a b i : Nat} {r : List Nat} (h : (didF s a b)[i]? = some r) : ∃ q, s[i]? = some q ∧ r = if i = b then q.filter (fun x => decide (x ≠ a)) else q := by
  unfold didF at h
  have hi : i < s.length := by
    have := (List.getElem?_eq_some_iff.mp h).1
    simpa using this
  refine ⟨s[i], List.getElem?_eq_getElem hi, ?_⟩
  by_cases e : i = b
  · subst e
    rw [List.getElem?_set_self hi] at h
    rw [if_pos rfl, ← Option.some.inj h, List.getElem?_eq_getElem hi]
    rfl
  · rw [List.getElem?_set_ne (Ne.symm e), List.getElem?_eq_getElem hi] at h
    rw [if_neg e]
    exact (Option.some.inj h).symm
theorem didF_valid {n : Nat} {s : Spc} (v : Valid n s) {a b : Nat} (hb : b < n) (hab : a ≠ b) (ht : thru s a b = false) : Valid n (didF s a b) := by
  have gb := v.get hb
  refine ⟨by simp [didF, v.len], fun i r h => ?_, fun i r h x hx => ?_, fun i r h => ?_, fun i r h j hj q hq k hk => ?_⟩
  · obtain ⟨q, e, rfl⟩ := didF_get h
    split
    · exact (v.asc i q e).filter _
    · exact v.asc i q e
  · obtain ⟨q, e, rfl⟩ := didF_get h
    split at hx
    · exact v.lt i q e x (List.mem_filter.mp hx).1
    · exact v.lt i q e x hx
  · obtain ⟨q, e, rfl⟩ := didF_get h
    split
    · rename_i z
      exact List.mem_filter.mpr ⟨v.refl i q e, by simpa [z] using Ne.symm hab⟩
    · exact v.refl i q e
  · obtain ⟨qi, ei, rfl⟩ := didF_get h
    obtain ⟨qj, ej, rfl⟩ := didF_get hq
    have hj2 : j ∈ qi := by
      split at hj
      · exact (List.mem_filter.mp hj).1
      · exact hj
    have hk2 : k ∈ qj := by
      split at hk
      · exact (List.mem_filter.mp hk).1
      · exact hk
    have z := v.tr i qi ei j hj2 qj ej k hk2
    by_cases e : i = b
    · rw [if_pos e] at hj ⊢
      refine List.mem_filter.mpr ⟨z, ?_⟩
      by_cases e2 : j = b
      · rw [if_pos e2] at hk
        exact (List.mem_filter.mp hk).2
      · by_cases ka : k = a
        · subst ka
          have hja : j ≠ k := by simpa using (List.mem_filter.mp hj).2
          have ebi : s[b]?.getD [] = qi := by
            rw [e] at ei
            rw [gb] at ei
            exact Option.some.inj ei
          have ejd : s[j]?.getD [] = qj := by
            rw [ej]
            rfl
          have bad : thru s k b = true := by
            unfold thru
            rw [ebi, List.any_eq_true]
            exact ⟨j, hj2, by simp [hja, e2, ejd, hk2]⟩
          rw [ht] at bad
          cases bad
        · simpa using ka
    · rw [if_neg e]
      exact z
/-! ### deeds -/
abbrev Dd := Bool × Nat × Nat
abbrev wNear : Sx := [110, 101, 97, 114]
abbrev wFar : Sx := [102, 97, 114]
abbrev wSame : Sx := [115, 97, 109, 101]
abbrev wNone : Sx := [110, 111, 110, 101]
abbrev wThru : Sx := [116, 104, 114, 111, 117, 103, 104]
abbrev wDone : Sx := [100, 111, 110, 101]
def de (d : Dd) : D := .tup [.str (if d.1 then wNear else wFar), nd d.2.1, nd d.2.2]
@[simp] theorem pl_de (d : Dd) : (de d).plain = true := rfl
theorem Eqs.de : Eqs de := fun a b => by
  obtain ⟨w, x, y⟩ := a
  obtain ⟨w', x', y'⟩ := b
  rw [Bool.eq_iff_iff]
  cases w <;> cases w' <;> simp [Mp.de, D.eqv, eqvAll, Int.natCast_inj]
theorem gd_de (d : Dd) : Gd 1 (de d) := .tup fun x hx => by
  simp only [List.mem_cons, List.not_mem_nil, or_false] at hx
  rcases hx with rfl | rfl | rfl
  · refine ⟨?_, by simp [D.deep]⟩
    cases d.1 <;> rfl
  · exact .int _
  · exact .int _
theorem gd_deeds (ds : List Dd) : Gd 2 (.tup (ds.map de)) := .tup (.map gd_de ds)
@[simp] theorem eqD_de (a b : Dd) (st : Store) : eqD (de a) (de b) st = .ok (decide (a = b)) st := by
  rw [eqD_good (by simp [de]) (by simp [de]) (gd_de a).good (gd_de b).good]
  exact congrArg (R.ok · st) (Eqs.de a b)
@[simp] theorem eqD_deeds (a b : List Dd) (st : Store) : eqD (.tup (a.map de)) (.tup (b.map de)) st = .ok (decide (a = b)) st := by
  rw [eqD_good (by simp) (by simp) (gd_deeds a).good (gd_deeds b).good]
  exact congrArg (R.ok · st) (Eqs.de.tup a b)
def due (s : Spc) (d : Dd) : Sx :=
  if d.1 then (if d.2.1 ∈ s[d.2.2]?.getD [] then wSame else wDone)
  else if d.2.1 ∈ s[d.2.2]?.getD [] then (if thru s d.2.1 d.2.2 then wThru else wDone) else wNone
def aft (s : Spc) (d : Dd) : Spc := if due s d = wDone then (if d.1 then didN s d.2.1 d.2.2 else didF s d.2.1 d.2.2) else s
structure DdOk (n : Nat) (d : Dd) : Prop where
  a : d.2.1 < n
  b : d.2.2 < n
  ne : d.2.1 ≠ d.2.2
theorem aft_valid {n : Nat} {s : Spc} (v : Valid n s) {d : Dd} (h : DdOk n d) : Valid n (aft s d) := by
  obtain ⟨w, a, b⟩ := d
  obtain ⟨ha, hb, hab⟩ := h
  unfold aft
  split
  · rename_i e
    cases w with
    | true => exact didN_valid v ha hb
    | false =>
      refine didF_valid v hb hab ?_
      unfold due at e
      by_cases h1 : a ∈ s[b]?.getD []
      · cases h2 : thru s a b with
        | false => rfl
        | true => simp [h1, h2] at e
      · simp [h1] at e
  · exact v
theorem didF_ix {s : Spc} {a b : Nat} (f : Nat → List Nat → List Nat) (hf : ∀ i r, f i r = if i = b then r.filter (fun x => decide (x ≠ a)) else r) : ((List.range s.length).zip s).map (fun p => f p.1 p.2) = didF s a b := by
  apply List.ext_getElem?
  intro i
  unfold didF
  by_cases hi : i < s.length
  · rw [List.getElem?_map, (List.getElem?_zip_eq_some (z := (i, s[i]))).mpr ⟨List.getElem?_range hi, List.getElem?_eq_getElem hi⟩]
    simp only [Option.map_some, hf]
    by_cases e : i = b
    · subst e
      rw [if_pos rfl, List.getElem?_set_self hi, List.getElem?_eq_getElem hi]
      rfl
    · rw [if_neg e, List.getElem?_set_ne (Ne.symm e), List.getElem?_eq_getElem hi]
  · rw [List.getElem?_eq_none (by simp; omega), List.getElem?_eq_none (by simp; omega)]
end Mp
end
section
set_option autoImplicit false
set_option Elab.async false
set_option linter.all false
set_option maxRecDepth 100000
set_option maxHeartbeats 4000000
/-! PlRepr: repr of small data. -/
namespace Mp
mutual
def D.wt : D → Nat
  | .non => 4
  | .bl _ => 5
  | .int _ => 4
  | .str s => (PySem.PyData.shown (.str (S s))).length
  | .tup xs => wtAll xs + 3
  | .lst xs => wtAll xs + 3
  | .dic _ _ => 0
  | .obj _ => 0
  | .lam _ => 0
  | .exc _ _ => 0
def wtAll : List D → Nat
  | [] => 0
  | x :: xs => x.wt + 2 + wtAll xs
end
mutual
/-- small whole numbers, texts, rows of such -/
def D.sml : D → Bool
  | .non => true
  | .bl _ => true
  | .int i => decide (-1000 < i ∧ i < 1000)
  | .str _ => true
  | .tup xs => smlAll xs
  | .lst xs => smlAll xs
  | .dic _ _ => false
  | .obj _ => false
  | .lam _ => false
  | .exc _ _ => false
def smlAll : List D → Bool
  | [] => true
  | x :: xs => x.sml && smlAll xs
end
theorem shown_int : ∀ i : Int, -1000 < i → i < 1000 → (PySem.PyData.shown (.int i)).length ≤ 4 := by
  have h : ∀ n : Fin 1999, (PySem.PyData.shown (.int ((n.val : Int) - 999))).length ≤ 4 := by decide +kernel
  intro i h1 h2
  have := h ⟨(i + 999).toNat, by omega⟩
  rw [show (((⟨(i + 999).toNat, by omega⟩ : Fin 1999).val : Int) - 999) = i by simp; omega] at this
  exact this
mutual
theorem shown_wt : ∀ d : D, d.sml = true → d.py.shown.length ≤ d.wt
  | .non, _ => by
    simp only [D.py, D.wt]
    decide +kernel
  | .bl b, _ => by
    simp only [D.py, D.wt]
    cases b <;> decide +kernel
  | .int i, h => by
    simp only [D.sml, decide_eq_true_eq] at h
    simp only [D.py, D.wt]
    exact shown_int i h.1 h.2
  | .str s, _ => by
    simp only [D.py, D.wt]
    exact Nat.le_refl _
  | .tup xs, h => by
    simp only [D.sml] at h
    have h1 := shown_wtAll xs h
    have h2 := PySem.tupleText_len_le (PySem.PyData.shownAll (pyAll xs))
    have h3 := PySem.PyData.shownAll_length (pyAll xs)
    simp only [D.py, D.wt, PySem.PyData.shown]
    omega
  | .lst xs, h => by
    simp only [D.sml] at h
    have h1 := shown_wtAll xs h
    have h2 := PySem.listText_len_le (PySem.PyData.shownAll (pyAll xs))
    have h3 := PySem.PyData.shownAll_length (pyAll xs)
    simp only [D.py, D.wt, PySem.PyData.shown]
    omega
  | .dic _ _, h => by simp [D.sml] at h
  | .obj _, h => by simp [D.sml] at h
  | .lam _, h => by simp [D.sml] at h
  | .exc _ _, h => by simp [D.sml] at h
theorem shown_wtAll : ∀ xs : List D, smlAll xs = true → ((PySem.PyData.shownAll (pyAll xs)).map (·.length)).sum + 2 * (pyAll xs).length ≤ wtAll xs
  | [], _ => by simp [pyAll, wtAll, PySem.PyData.shownAll]
  | x :: xs, h => by
    simp only [smlAll, Bool.and_eq_true] at h
    have h1 := shown_wt x h.1
    have h2 := shown_wtAll xs h.2
    simp only [pyAll, wtAll, PySem.PyData.shownAll, List.map_cons, List.sum_cons, List.length_cons]
    omega
end
mutual
theorem shw_sml : ∀ d : D, d.sml = true → d.py.showable = true
  | .non, _ => by simp [D.py, PySem.PyData.showable]
  | .bl b, _ => by simp [D.py, PySem.PyData.showable]
  | .int i, h => by
    simp only [D.sml, decide_eq_true_eq] at h
    simp only [D.py, PySem.PyData.showable, decide_eq_true_eq]
    have : i.natAbs < 1000 := by omega
    have h2 : i.natAbs.log2 ≤ i.natAbs := Nat.log2_le_self _
    omega
  | .str s, _ => by simp [D.py, PySem.PyData.showable]
  | .tup xs, h => by
    simp only [D.sml] at h
    simp only [D.py, PySem.PyData.showable]
    exact shw_smlAll xs h
  | .lst xs, h => by
    simp only [D.sml] at h
    simp only [D.py, PySem.PyData.showable]
    exact shw_smlAll xs h
  | .dic _ _, h => by simp [D.sml] at h
  | .obj _, h => by simp [D.sml] at h
  | .lam _, h => by simp [D.sml] at h
  | .exc _ _, h => by simp [D.sml] at h
theorem shw_smlAll : ∀ xs : List D, smlAll xs = true → PySem.PyData.showableAll (pyAll xs) = true
  | [], _ => by simp [pyAll, PySem.PyData.showableAll]
  | x :: xs, h => by
    simp only [smlAll, Bool.and_eq_true] at h
    simp only [pyAll, PySem.PyData.showableAll, shw_sml x h.1, shw_smlAll xs h.2, Bool.and_self]
end
def reprS (x : D) : Sx := x.py.shown.cps.toList
/-- small, at most so long -/
structure Sm (w : Nat) (x : D) : Prop where
  s : x.sml = true
  w : x.wt ≤ w
theorem smlAll_iff : ∀ {xs : List D}, smlAll xs = true ↔ ∀ x ∈ xs, x.sml = true
  | [] => by simp [smlAll]
  | x :: xs => by simp [smlAll, smlAll_iff (xs := xs)]
theorem wtAll_le {w : Nat} : ∀ {xs : List D}, (∀ x ∈ xs, x.wt ≤ w) → wtAll xs ≤ xs.length * (w + 2)
  | [], _ => by simp [wtAll]
  | x :: xs, h => by
    have h1 := h x (.head _)
    have h2 := wtAll_le (xs := xs) fun y hy => h y (.tail _ hy)
    have h3 : (xs.length + 1) * (w + 2) = xs.length * (w + 2) + (w + 2) := Nat.succ_mul _ _
    simp only [wtAll, List.length_cons]
    omega
theorem Sm.tup {w n : Nat} {xs : List D} (h : ∀ x ∈ xs, Sm w x) (hn : xs.length ≤ n) : Sm (n * (w + 2) + 3) (.tup xs) := ⟨by
  simp only [D.sml]
  exact smlAll_iff.mpr fun x hx => (h x hx).s, by
  have h1 := wtAll_le fun x hx => (h x hx).w
  have h2 : xs.length * (w + 2) ≤ n * (w + 2) := Nat.mul_le_mul_right _ hn
  simp only [D.wt]
  omega⟩
theorem Sm.lst {w n : Nat} {xs : List D} (h : ∀ x ∈ xs, Sm w x) (hn : xs.length ≤ n) : Sm (n * (w + 2) + 3) (.lst xs) := ⟨by
  simp only [D.sml]
  exact smlAll_iff.mpr fun x hx => (h x hx).s, by
  have h1 := wtAll_le fun x hx => (h x hx).w
  have h2 : xs.length * (w + 2) ≤ n * (w + 2) := Nat.mul_le_mul_right _ hn
  simp only [D.wt]
  omega⟩
theorem Sm.up {w v : Nat} {x : D} (h : Sm w x) (hv : w ≤ v) : Sm v x := ⟨h.s, Nat.le_trans h.w hv⟩
theorem Sm.nat {n : Nat} (h : n < 1000) : Sm 4 (nd n) := ⟨by
  simp only [nd, D.sml, decide_eq_true_eq]
  omega, by simp [D.wt]⟩
theorem Sm.map {α : Type} {w : Nat} {f : α → D} {l : List α} (h : ∀ a ∈ l, Sm w (f a)) : ∀ x ∈ l.map f, Sm w x := fun x hx => by
  obtain ⟨a, ha, rfl⟩ := List.mem_map.mp hx
  exact h a ha
theorem Sm.lt {n k : Nat} {l : List Nat} (h : ∀ x ∈ l, x < n) (hn : n ≤ 100 := by decide) (hl : l.length ≤ k) : Sm (k * 6 + 3) (lt l) := .tup (.map fun x hx => .nat (Nat.lt_of_lt_of_le (h x hx) (by omega))) (by simpa using hl)
theorem Valid.sm {n : Nat} {s : Spc} (v : Valid n s) (hn : n ≤ 7) : Sm 332 (sp s) := by
  refine (Sm.tup (w := 45) (n := 7) (.map fun r hr => ?_) (by simp [v.len]; omega)).up (by decide)
  obtain ⟨i, hi⟩ := List.getElem?_of_mem hr
  exact (Sm.lt (n := 7) (k := 7) (fun x hx => Nat.lt_of_lt_of_le (v.lt i r hi x hx) hn) (by decide) (Nat.le_trans (v.short hi) hn)).up (by decide)
theorem sm_near : Sm 6 (.str wNear) := ⟨rfl, by simp only [D.wt]; decide +kernel⟩
theorem sm_far : Sm 6 (.str wFar) := ⟨rfl, by simp only [D.wt]; decide +kernel⟩
theorem DdOk.sm {n : Nat} {d : Dd} (h : DdOk n d) (hn : n ≤ 100) : Sm 27 (de d) := by
  refine (Sm.tup (w := 6) (n := 3) (fun x hx => ?_) (by simp)).up (by decide)
  have ha := h.a
  have hb := h.b
  simp only [List.mem_cons, List.not_mem_nil, or_false] at hx
  rcases hx with rfl | rfl | rfl
  · cases d.1
    · exact sm_far
    · exact sm_near
  · exact (Sm.nat (by omega)).up (by decide)
  · exact (Sm.nat (by omega)).up (by decide)
theorem sm_deeds {n k : Nat} {ds : List Dd} (h : ∀ d ∈ ds, DdOk n d) (hn : n ≤ 100) (hk : ds.length ≤ k) : Sm (k * 29 + 3) (.tup (ds.map de)) := .tup (.map fun d hd => (h d hd).sm hn) (by simpa using hk)
theorem reprD_ok {x : D} {w k : Nat} (h : Sm w x) (g : Gd k x) (hk : k ≤ 60 := by decide) (hw : w ≤ 1000000 := by decide) (st : Store) : reprD x st = .ok (.str (reprS x)) st := by
  have c : cont x st = .ok x st := by
    cases x with
    | obj i => exact absurd h.s (by simp [D.sml])
    | _ => rfl
  have h1 := g.good hk
  have h2 := shw_sml x h.s
  have h3 : x.py.shown.length ≤ lim := Nat.le_trans (shown_wt x h.s) (Nat.le_trans h.w (by rw [lim_eq]; exact hw))
  unfold reprD
  rw [b_st, c, t_ok]
  simp [h1, h2, h3, reprS]
end Mp
end
section
set_option autoImplicit false
set_option Elab.async false
set_option linter.all false
set_option maxRecDepth 100000
set_option maxHeartbeats 4000000
/-! PlWalk: rules by which a printed script walks a def that leaves the store alone. -/
namespace Mp
/-- the reach of a place -/
abbrev rc (s : List (List Nat)) (i : Nat) : List Nat := s[i]?.getD []
namespace W
theorem rb {α β : Type} (a : α) (f : α → M β) : (ret a >>= f) = f a := rfl
section
variable {C : Cfg} {ρ ρ1 : Env}
/-! ### expressions -/
theorem v {i : Nat} {d : D} (h : ρ[i]? = some (some d)) (p : d.plain = true) : ev C (.v i) ρ = ret d := by
  simp [h, p]
theorem c (d : D) : ev C (.c d) ρ = ret d := rfl
theorem cn (n : Nat) : ev C (.c (.int (n : Int))) ρ = ret (nd n) := rfl
theorem g {x : Nat} {d : D} (h : C.glob x = some d) : ev C (.g x) ρ = ret d := by simp [h]
theorem gn {x n : Nat} (h : C.glob x = some (nd n)) : ev C (.g x) ρ = ret (nd n) := by simp [h]
theorem op {o : Op} {a b : E} {x y z : D} (h1 : ev C a ρ = ret x) (h2 : ev C b ρ = ret y) (h3 : op2 o x y = ret z) : ev C (.op o a b) ρ = ret z := by
  simp only [ev_op, h1, h2, rb, h3]
theorem neg {a : E} {i : Int} (h1 : ev C a ρ = ret (.int i)) : ev C (.neg a) ρ = ret (.int (-i)) := by
  simp only [ev_neg, h1, rb]
theorem cmp {o : Cm} {a b : E} {x y : D} {t : Bool} (h1 : ev C a ρ = ret x) (h2 : ev C b ρ = ret y) (h3 : cmp2 o x y = ret t) : ev C (.cmp o a b) ρ = ret (.bl t) := by
  simp only [ev_cmp, h1, h2, rb, h3]
theorem chain {o p : Cm} {a b e : E} {x y z : D} {t u : Bool} (h1 : ev C a ρ = ret x) (h2 : ev C b ρ = ret y) (h3 : cmp2 o x y = ret t) (h4 : ev C e ρ = ret z) (h5 : cmp2 p y z = ret u) : ev C (.chain o p a b e) ρ = ret (.bl (t && u)) := by
  simp only [ev_chain, h1, h2, rb, h3, h4, h5]
  cases t <;> rfl
theorem and {a b : E} {t u : Bool} (h1 : ev C a ρ = ret (.bl t)) (h2 : t = true → ev C b ρ = ret (.bl u)) : ev C (.and a b) ρ = ret (.bl (t && u)) := by
  simp only [ev_and, h1, rb]
  cases t
  · rfl
  · simp [h2 rfl]
theorem or {a b : E} {t u : Bool} (h1 : ev C a ρ = ret (.bl t)) (h2 : t = false → ev C b ρ = ret (.bl u)) : ev C (.or a b) ρ = ret (.bl (t || u)) := by
  simp only [ev_or, h1, rb]
  cases t
  · simp [h2 rfl]
  · rfl
theorem not {a : E} {t : Bool} (h1 : ev C a ρ = ret (.bl t)) : ev C (.not a) ρ = ret (.bl (!t)) := by
  simp only [ev_not, h1, rb]
theorem ite {t : Bool} {k : Te} {a b : E} {x y : D} (h1 : tst C k ρ = ret t) (h2 : t = true → ev C a ρ = ret x) (h3 : t = false → ev C b ρ = ret y) : ev C (.ite k a b) ρ = ret (if t = true then x else y) := by
  simp only [ev_ite, h1, rb]
  cases t
  · simp [h3 rfl]
  · simp [h2 rfl]
theorem tup {es : Es} {xs : List D} (h1 : evs C es ρ = ret xs) (h2 : xs.length ≤ 1000000) : ev C (.tup es) ρ = ret (.tup xs) := by
  simp only [ev_tup, h1, rb, lim_eq, h2, if_true]
theorem lst {es : Es} {xs : List D} (h1 : evs C es ρ = ret xs) (h2 : xs.length ≤ 1000000) : ev C (.lst false es) ρ = ret (.lst xs) := by
  simp only [ev_lst, h1, rb, lim_eq, h2, if_true, new_fz]
theorem sub {a i : E} {x y z : D} (h1 : ev C a ρ = ret x) (h2 : ev C i ρ = ret y) (h3 : subD x y = ret z) : ev C (.sub a i) ρ = ret z := by
  simp only [ev_sub, h1, h2, rb, h3]
theorem slc {a : E} {lo hi : Eo} {x z : D} {l h : Option Int} (h1 : ev C a ρ = ret x) (h2 : evo C lo ρ = ret l) (h3 : evo C hi ρ = ret h) (h4 : sliceD false x l h = ret z) : ev C (.slc false a lo hi) ρ = ret z := by
  simp only [ev_slc, h1, h2, h3, rb, h4]
theorem call {f : Nat} {es : Es} {xs : List D} {d : D} (h1 : evs C es ρ = ret xs) (h2 : C.call f xs none = ret d) : ev C (.call f es) ρ = ret d := by
  simp only [ev_call, h1, rb, h2]
theorem callk {f : Nat} {pm : List Nat} {es : Es} {xs ys : List D} {d : D} (h1 : evs C es ρ = ret xs) (hp : pick xs pm = some ys) (h2 : C.call f ys none = ret d) : ev C (.callk f pm es) ρ = ret d := by
  have : ev C (.callk f pm es) ρ = (do
    let xs ← evs C es ρ
    match pick xs pm with
    | some ys => C.call f ys none
    | none => bad) := rfl
  rw [this, h1, rb, hp]
  exact h2
theorem calll {f : Nat} {es : Es} {ps : List Nat} {body : E} {xs : List D} {d : D} (h1 : evs C es ρ = ret xs) (h2 : C.call f (xs ++ [.lam 0]) (some fun ys => match setAll ps ys (wipeD ρ ps) with
    | some ρ' => ev C body ρ'
    | none => bad) = ret d) : ev C (.calll f es ps body) ρ = ret d := by
  have : ev C (.calll f es ps body) ρ = (do
    let xs ← evs C es ρ
    C.call f (xs ++ [.lam 0]) (some fun ys => match setAll ps ys (wipeD ρ ps) with
      | some ρ' => ev C body ρ'
      | none => bad)) := rfl
  rw [this, h1, rb]
  exact h2
theorem lamc {i : Nat} {es : Es} {xs : List D} {f : List D → M D} {d : D} (h0 : ρ[i]? = some (some (.lam 0))) (hf : C.lam = some f) (h1 : evs C es ρ = ret xs) (h2 : f xs = ret d) : ev C (.lamc i es) ρ = ret d := by
  have : ev C (.lamc i es) ρ = match ρ[i]? with
    | some (some (.lam _)) => match C.lam with
      | some f => do let xs ← evs C es ρ; f xs
      | none => bad
    | _ => bad := rfl
  rw [this, h0, hf]
  simp only [h1, rb, h2]
theorem b {f : Bn} {es : Es} {xs : List D} {d : D} (h1 : evs C es ρ = ret xs) (h2 : bn1 f xs = ret d) : ev C (.b f es) ρ = ret d := by
  simp only [ev_b, h1, rb, h2]
theorem isi {o : E} {ts : List Ty} {x : D} {t : Bool} (h1 : ev C o ρ = ret x) (h2 : isInst C.cls ts x = ret t) : ev C (.isi o ts) ρ = ret (.bl t) := by
  simp only [ev_isi, h1, rb, h2]
theorem turns_ret {α : Type} {f : D → M (Option D)} {enc : α → D} {h : α → Option D} : ∀ {l : List α}, (∀ x ∈ l, f (enc x) = ret (h x)) → turns f (l.map enc) = ret (l.filterMap h)
  | [], _ => rfl
  | x :: l, q => by
    have h1 := q x (.head _)
    have h2 := turns_ret (l := l) fun y hy => q y (.tail _ hy)
    simp only [List.map_cons, turns, h1, h2, rb]
    cases e : h x <;> simp [List.filterMap_cons, e]
theorem nox_ret {α : Type} (a : α) : nox (ret a) = ret a := rfl
theorem fmap {α β : Type} (k : α → Bool) (g : α → β) : ∀ l : List α, (l.filterMap fun x => if k x = true then some (g x) else none) = (l.filter k).map g
  | [] => rfl
  | x :: l => by
    cases hk : k x <;> simp [List.filterMap_cons, List.filter_cons, hk, fmap k g l]
theorem lc {own : List Nat} {p : Pt} {it : It} {ifs : To} {e : E} {α : Type} {enc : α → D} {l : List α} {k : α → Bool} {g : α → D} {ρ' : α → Env}
    (hi : evi C it ρ = ret (l.map enc)) (hp : ∀ x, p.put (enc x) (wipeD ρ own) = some (ρ' x)) (ht : ∀ x, x ∈ l → tsto C ifs (ρ' x) = ret (k x)) (he : ∀ x, x ∈ l → k x = true → ev C e (ρ' x) = ret (g x)) (hl : l.length ≤ 1000000) :
    ev C (.lc false own p it ifs e) ρ = ret (.lst ((l.filter k).map g)) := by
  have key : turns (fun x => match p.put x (wipeD ρ own) with
      | some ρ' => nox do
        let t ← tsto C ifs ρ'
        if t then do let y ← ev C e ρ'; ret (some y) else ret none
      | none => bad) (l.map enc) = ret (l.filterMap fun x => if k x then some (g x) else none) := turns_ret fun x hx => by
    simp only [hp x, ht x hx, rb]
    cases hk : k x
    · simp [nox_ret]
    · simp [he x hx hk, rb, nox_ret]
  have e2 : ev C (.lc false own p it ifs e) ρ = (evi C it ρ >>= fun xs => turns1 xs (fun x => match p.put x (wipeD ρ own) with
      | some ρ' => nox do
        let t ← tsto C ifs ρ'
        if t then do let y ← ev C e ρ'; ret (some y) else ret none
      | none => bad) >>= fun ys => Mp.new false ys) := rfl
  rw [e2, hi, rb]
  unfold turns1
  rw [if_pos (by rw [List.length_map]; exact hl), key, rb, new_fz, fmap]
theorem lc1 {own : List Nat} {p : Pt} {it : It} {e : E} {α : Type} {enc : α → D} {l : List α} {g : α → D} {ρ' : α → Env}
    (hi : evi C it ρ = ret (l.map enc)) (hp : ∀ x, p.put (enc x) (wipeD ρ own) = some (ρ' x)) (he : ∀ x, x ∈ l → ev C e (ρ' x) = ret (g x)) (hl : l.length ≤ 1000000) :
    ev C (.lc false own p it .no e) ρ = ret (.lst (l.map g)) := by
  have := lc (k := fun _ => true) (ifs := .no) hi hp (fun _ _ => rfl) (fun x hx _ => he x hx) hl
  rw [this, List.filter_eq_self.mpr (fun _ _ => rfl)]
theorem turns2_ret {α : Type} {f : D → M (List D)} {enc : α → D} {h : α → List D} : ∀ {l : List α}, (∀ x ∈ l, f (enc x) = ret (h x)) → turns2 f (l.map enc) = ret (l.flatMap h)
  | [], _ => rfl
  | x :: l, q => by
    have h1 := q x (.head _)
    have h2 := turns2_ret (l := l) fun y hy => q y (.tail _ hy)
    simp only [List.map_cons, turns2, h1, h2, rb, List.flatMap_cons]
theorem lc2 {own : List Nat} {p p1 : Pt} {it it1 : It} {ifs ifs1 : To} {e : E} {α β : Type} {enc : α → D} {enc1 : β → D} {l : List α} {l1 : α → List β} {k : α → Bool} {k1 : α → β → Bool} {g : α → β → D} {ρ' : α → Env} {ρ2 : α → β → Env}
    (hi : evi C it ρ = ret (l.map enc)) (hp : ∀ x, p.put (enc x) (wipeD ρ own) = some (ρ' x)) (ht : ∀ x, x ∈ l → tsto C ifs (ρ' x) = ret (k x))
    (hi1 : ∀ x, x ∈ l → k x = true → evi C it1 (ρ' x) = ret ((l1 x).map enc1)) (hp1 : ∀ x y, p1.put (enc1 y) (wipeD (ρ' x) p1.names) = some (ρ2 x y)) (ht1 : ∀ x y, x ∈ l → y ∈ l1 x → k x = true → tsto C ifs1 (ρ2 x y) = ret (k1 x y))
    (he : ∀ x y, x ∈ l → y ∈ l1 x → k x = true → k1 x y = true → ev C e (ρ2 x y) = ret (g x y)) (hl : (l.flatMap fun x => if k x = true then ((l1 x).filter (k1 x)).map (g x) else []).length ≤ 1000000) :
    ev C (.lc2 false own p it ifs p1 it1 ifs1 e) ρ = ret (.lst (l.flatMap fun x => if k x = true then ((l1 x).filter (k1 x)).map (g x) else [])) := by
  have key : turns2 (fun x => match p.put x (wipeD ρ own) with
      | some ρ' => nox do
        let t ← tsto C ifs ρ'
        if t then
          let xs1 ← evi C it1 ρ'
          turns (fun x1 => match p1.put x1 (wipeD ρ' p1.names) with
            | some ρ2 => do
              let t ← tsto C ifs1 ρ2
              if t then do let y ← ev C e ρ2; ret (some y) else ret none
            | none => bad) xs1
        else ret []
      | none => bad) (l.map enc) = ret (l.flatMap fun x => if k x = true then ((l1 x).filter (k1 x)).map (g x) else []) := turns2_ret fun x hx => by
    simp only [hp x, ht x hx, rb]
    cases hk : k x
    · simp [nox_ret]
    · simp only [if_true, hi1 x hx hk, rb]
      rw [turns_ret (h := fun y => if k1 x y = true then some (g x y) else none) fun y hy => ?_]
      · rw [fmap, nox_ret]
      · simp only [hp1 x y, ht1 x y hx hy hk, rb]
        cases hk1 : k1 x y
        · simp
        · simp [he x y hx hy hk hk1, rb]
  have e2 : ev C (.lc2 false own p it ifs p1 it1 ifs1 e) ρ = (evi C it ρ >>= fun xs => turns2 (fun x => match p.put x (wipeD ρ own) with
      | some ρ' => nox do
        let t ← tsto C ifs ρ'
        if t then
          let xs1 ← evi C it1 ρ'
          turns (fun x1 => match p1.put x1 (wipeD ρ' p1.names) with
            | some ρ2 => do
              let t ← tsto C ifs1 ρ2
              if t then do let y ← ev C e ρ2; ret (some y) else ret none
            | none => bad) xs1
        else ret []
      | none => bad) xs >>= fun ys => if ys.length ≤ lim then Mp.new false ys else bad) := rfl
  rw [e2, hi, rb, key, rb, if_pos (show _ ≤ lim from hl), new_fz]
/-! ### rows of expressions -/
theorem nil : evs C .nil ρ = ret [] := rfl
theorem cons {e : E} {r : Es} {x : D} {xs : List D} (h1 : ev C e ρ = ret x) (h2 : evs C r ρ = ret xs) : evs C (.cons e r) ρ = ret (x :: xs) := by
  simp only [evs_cons, h1, h2, rb]
theorem star {e : E} {r : Es} {x : D} {ys xs : List D} (h1 : ev C e ρ = ret x) (h2 : items x = ret ys) (h3 : evs C r ρ = ret xs) : evs C (.star e r) ρ = ret (ys ++ xs) := by
  simp only [evs_star, h1, h2, h3, rb]
theorem on : evo C .no ρ = ret none := rfl
theorem oy {e : E} {i : Int} (h1 : ev C e ρ = ret (.int i)) : evo C (.yes e) ρ = ret (some i) := by
  simp only [evo_yes, h1, rb]
/-! ### what is gone through -/
theorem seq {e : E} {x : D} {xs : List D} (h1 : ev C e ρ = ret x) (h2 : held x = ret xs) : evi C (.seq e) ρ = ret xs := by
  simp only [evi_seq, h1, h2, rb]
theorem rng1 {a : E} {n : Nat} (h1 : ev C a ρ = ret (nd n)) (h2 : n ≤ 1000000) : evi C (.rng1 a) ρ = ret ((List.range n).map nd) := by
  have h3 : -1000000 ≤ (n : Int) ∧ (n : Int) ≤ (lim : Nat) := by
    rw [lim_eq]
    omega
  simp only [evi_rng1, h1, rb, h3, and_self, if_true, Int.toNat_natCast, rangeL_nd]
def enm {α : Type} (l : List α) : List (Nat × α) := (List.range l.length).zip l
theorem mem_enm {α : Type} {l : List α} {p : Nat × α} : p ∈ enm l ↔ l[p.1]? = some p.2 := by
  unfold enm
  rw [List.mem_iff_getElem?]
  constructor
  · rintro ⟨i, h⟩
    rw [List.getElem?_zip_eq_some] at h
    obtain ⟨h1, h2⟩ := h
    obtain ⟨hi, h1⟩ := List.getElem?_eq_some_iff.mp h1
    rw [List.getElem_range] at h1
    rw [← h1]
    exact h2
  · intro h
    have hi := (List.getElem?_eq_some_iff.mp h).1
    exact ⟨p.1, by rw [List.getElem?_zip_eq_some, List.getElem?_range hi]; exact ⟨rfl, h⟩⟩
theorem enm_len {α : Type} (l : List α) : (enm l).length = l.length := by simp [enm]
theorem enum {e : E} {x : D} {α : Type} {enc : α → D} {l : List α} (h1 : ev C e ρ = ret x) (h2 : items x = ret (l.map enc)) : evi C (.enum e) ρ = ret ((enm l).map fun p => D.tup [nd p.1, enc p.2]) := by
  simp only [evi_enum, h1, h2, rb]
  congr 1
  simp [enm, List.zip_map_right, Function.comp_def]
theorem zip {a b : E} {x y : D} {xs : List D} (h1 : ev C a ρ = ret x) (h2 : ev C b ρ = ret y) (h3 : zipD x y = ret xs) : evi C (.zip a b) ρ = ret xs := by
  simp only [evi_zip, h1, h2, rb, h3]
theorem zip_tt {α β : Type} (e : α → D) (e' : β → D) (l : List α) (l' : List β) : zipD (.tup (l.map e)) (.tup (l'.map e')) = ret ((l.zip l').map fun p => D.tup [e p.1, e' p.2]) := by
  simp [zipD, List.zip_map, Function.comp_def]
theorem zip_ll {α β : Type} (e : α → D) (e' : β → D) (l : List α) (l' : List β) : zipD (.lst (l.map e)) (.lst (l'.map e')) = ret ((l.zip l').map fun p => D.tup [e p.1, e' p.2]) := by
  simp [zipD, List.zip_map, Function.comp_def]
/-! ### tests -/
theorem tand {a b : Te} {t u : Bool} (h1 : tst C a ρ = ret t) (h2 : t = true → tst C b ρ = ret u) : tst C (.and a b) ρ = ret (t && u) := by
  simp only [tst_and, h1, rb]
  cases t
  · rfl
  · simp [h2 rfl]
theorem tor {a b : Te} {t u : Bool} (h1 : tst C a ρ = ret t) (h2 : t = false → tst C b ρ = ret u) : tst C (.or a b) ρ = ret (t || u) := by
  simp only [tst_or, h1, rb]
  cases t
  · simp [h2 rfl]
  · rfl
theorem tnot {a : Te} {t : Bool} (h1 : tst C a ρ = ret t) : tst C (.not a) ρ = ret (!t) := by
  simp only [tst_not, h1, rb]
theorem tcmp {o : Cm} {a b : E} {x y : D} {t : Bool} (h1 : ev C a ρ = ret x) (h2 : ev C b ρ = ret y) (h3 : cmp2 o x y = ret t) : tst C (.cmp o a b) ρ = ret t := by
  simp only [tst_cmp, h1, h2, rb, h3]
theorem tchain {o p : Cm} {a b e : E} {x y z : D} {t u : Bool} (h1 : ev C a ρ = ret x) (h2 : ev C b ρ = ret y) (h3 : cmp2 o x y = ret t) (h4 : ev C e ρ = ret z) (h5 : cmp2 p y z = ret u) : tst C (.chain o p a b e) ρ = ret (t && u) := by
  simp only [tst_chain, h1, h2, rb, h3, h4, h5]
  cases t <;> rfl
theorem tval {e : E} {x : D} {t : Bool} (h1 : ev C e ρ = ret x) (h2 : truth x = ret t) : tst C (.val e) ρ = ret t := by
  simp only [tst_val, h1, rb, h2]
theorem tno : tsto C .no ρ = ret true := rfl
theorem tyes {k : Te} {t : Bool} (h : tst C k ρ = ret t) : tsto C (.yes k) ρ = ret t := h
/-! ### statements -/
theorem sret {e : E} {r : Ss} {d : D} (h : ev C e ρ = ret d) : exs C (.cons (.ret e) r) ρ = ret (.ret d) := by
  funext st
  simp [h]
theorem sset {i : Nat} {e : E} {r : Ss} {d : D} {F : M Flow} (h : ev C e ρ = ret d) (h1 : setAll [i] [d] ρ = some ρ1) (h2 : exs C r ρ1 = F) : exs C (.cons (.set (.nm i) e) r) ρ = F := by
  subst h2
  have h1' : setAll [i] [d] ρ = some ρ1 := h1
  funext st
  simp only [exs_cons, ex_set, b_st, step_st, h, r_st, setT_nm, h1', opt_some, t_ok, after_next]
theorem stup {t : Tg} {e : E} {r : Ss} {d : D} {F : M Flow} (h : ev C e ρ = ret d) (h1 : setT C t d ρ = ret ρ1) (h2 : exs C r ρ1 = F) : exs C (.cons (.set t e) r) ρ = F := by
  subst h2
  funext st
  simp only [exs_cons, ex_set, b_st, step_st, h, r_st, h1, t_ok, after_next]
theorem sexpr {e : E} {r : Ss} {d : D} {F : M Flow} (h : ev C e ρ = ret d) (h2 : exs C r ρ = F) : exs C (.cons (.expr e) r) ρ = F := by
  subst h2
  funext st
  simp only [exs_cons, ex_expr, b_st, step_st, h, r_st, t_ok, after_next]
theorem spass {r : Ss} {F : M Flow} (h2 : exs C r ρ = F) : exs C (.cons .pass r) ρ = F := by
  subst h2
  rfl
/-- a test, an answer; else the rest -/
theorem sif {t : Bool} {k : Te} {a r : Ss} {x y : D} (h1 : tst C k ρ = ret t) (h2 : t = true → exs C a ρ = ret (.ret x)) (h3 : t = false → exs C r ρ = ret (.ret y)) : exs C (.cons (.ite k a .nil) r) ρ = ret (.ret (if t = true then x else y)) := by
  funext st
  simp only [exs_cons, ex_ite, b_st, step_st, h1, r_st]
  cases t
  · simp [h3 rfl]
  · simp [h2 rfl]
/-- a test, an answer on both ways -/
theorem sif2 {t : Bool} {k : Te} {a b r : Ss} {x y : D} (h1 : tst C k ρ = ret t) (h2 : t = true → exs C a ρ = ret (.ret x)) (h3 : t = false → exs C b ρ = ret (.ret y)) : exs C (.cons (.ite k a b) r) ρ = ret (.ret (if t = true then x else y)) := by
  funext st
  simp only [exs_cons, ex_ite, b_st, step_st, h1, r_st]
  cases t
  · simp [h3 rfl]
  · simp [h2 rfl]
/-- a test that is not so -/
theorem sskip {k : Te} {a r : Ss} {F : M Flow} (h1 : tst C k ρ = ret false) (h2 : exs C r ρ = F) : exs C (.cons (.ite k a .nil) r) ρ = F := by
  subst h2
  funext st
  simp [h1]
/-- one way of two, then the rest -/
theorem sboth {t : Bool} {k : Te} {a b r : Ss} {F : M Flow} (h1 : tst C k ρ = ret t) (h2 : ∃ ρ1, (if t = true then exs C a ρ else exs C b ρ) = ret (.next ρ1) ∧ exs C r ρ1 = F) : exs C (.cons (.ite k a b) r) ρ = F := by
  obtain ⟨ρ1, h2, rfl⟩ := h2
  funext st
  simp only [exs_cons, ex_ite, b_st, step_st, h1, r_st]
  have : (if t = true then exs C a ρ else exs C b ρ) st = .ok (.next ρ1) st := by rw [h2]; rfl
  cases t <;> simp_all
theorem snil : exs C .nil ρ = ret (.next ρ) := rfl
def fl (o : Option D) (ρ : Env) : Flow := match o with
  | some d => .ret d
  | none => .next ρ
theorem bnil : exs C .nil ρ = ret (fl none ρ) := rfl
theorem bite0 {k : Te} {a r : Ss} {o : Option D} (h1 : tst C k ρ = ret false) (h3 : exs C r ρ = ret (fl o ρ)) : exs C (.cons (.ite k a .nil) r) ρ = ret (fl o ρ) := sskip h1 h3
theorem bite {t : Bool} {k : Te} {a r : Ss} {x : D} {o : Option D} (h1 : tst C k ρ = ret t) (h2 : t = true → exs C a ρ = ret (.ret x)) (h3 : t = false → exs C r ρ = ret (fl o ρ)) : exs C (.cons (.ite k a .nil) r) ρ = ret (fl (if t = true then some x else o) ρ) := by
  funext st
  simp only [exs_cons, ex_ite, b_st, step_st, h1, r_st]
  cases t
  · simp [h3 rfl]
  · simp [h2 rfl, fl]
theorem forM_find {p : Pt} {b : Env → M Flow} {α : Type} {enc : α → D} {ρ1 : α → Env} {o : α → Option D} (hq : ∀ y x, p.put (enc x) (ρ1 y) = some (ρ1 x)) : ∀ {l : List α} {ρ : Env}, (∀ x, p.put (enc x) ρ = some (ρ1 x)) → (∀ x, x ∈ l → b (ρ1 x) = ret (fl (o x) (ρ1 x))) →
    ∃ ρ2, (ρ2 = ρ ∨ ∃ x ∈ l, ρ2 = ρ1 x) ∧ Mp.forM p b (l.map enc) ρ = ret (fl (l.findSome? o) ρ2)
  | [], ρ, _, _ => ⟨ρ, .inl rfl, rfl⟩
  | x :: l, ρ, hp, hb => by
    obtain ⟨ρ2, h2, e2⟩ := forM_find (l := l) (ρ := ρ1 x) hq (fun y => hq x y) fun y hy => hb y (.tail _ hy)
    refine ⟨ρ2, .inr ?_, ?_⟩
    · rcases h2 with h2 | ⟨y, hy, h2⟩
      · exact ⟨x, .head _, h2⟩
      · exact ⟨y, .tail _ hy, h2⟩
    · have h1 := hb x (.head _)
      simp only [List.map_cons, Mp.forM, hp x, h1, rb]
      cases e : o x with
      | none => simp only [fl, after_next, e2, List.findSome?_cons, e]
      | some d => simp only [fl, after_ret, List.findSome?_cons, e]
/-- a loop that answers, or goes on -/
theorem sloop {p : Pt} {it : It} {b r : Ss} {α : Type} {enc : α → D} {l : List α} {ρ1 : α → Env} {o : α → Option D} {y : D} (hi : evi C it ρ = ret (l.map enc)) (hp : ∀ x, p.put (enc x) ρ = some (ρ1 x)) (hq : ∀ y x, p.put (enc x) (ρ1 y) = some (ρ1 x)) (hb : ∀ x, x ∈ l → exs C b (ρ1 x) = ret (fl (o x) (ρ1 x)))
    (h0 : exs C r ρ = ret (.ret y)) (h1 : ∀ x, x ∈ l → exs C r (ρ1 x) = ret (.ret y)) : exs C (.cons (.loop p it b) r) ρ = ret (.ret ((l.findSome? o).getD y)) := by
  obtain ⟨ρ2, h2, e2⟩ := forM_find (b := exs C b) (l := l) (ρ := ρ) hq hp hb
  funext st
  have e3 : ex C (.loop p it b) ρ st = .ok (fl (l.findSome? o) ρ2) st := by
    rw [ex_loop (xs := l.map enc) (st1 := st) (by rw [hi]; rfl), e2]
    rfl
  simp only [exs_cons, b_st, e3, t_ok]
  cases e : l.findSome? o with
  | some d => rfl
  | none =>
    simp only [fl, after_next]
    rcases h2 with rfl | ⟨x, hx, rfl⟩
    · rw [h0]
      rfl
    · rw [h1 x hx]
      rfl
/-- a loop by its turns -/
theorem sfold {p : Pt} {it : It} {b r : Ss} {α : Type} {enc : α → D} {l : List α} {F : M Flow} (J : Nat → Env → Prop) (hi : evi C it ρ = ret (l.map enc)) (h0 : J 0 ρ)
    (hb : ∀ i x, l[i]? = some x → ∀ ρ, J i ρ → ∃ ρ1 ρ2, p.put (enc x) ρ = some ρ1 ∧ exs C b ρ1 = ret (.next ρ2) ∧ J (i + 1) ρ2) (hr : ∀ ρ, J l.length ρ → exs C r ρ = F) : exs C (.cons (.loop p it b) r) ρ = F := by
  have key : ∀ (l' : List α) (k : Nat) (ρ : Env), (∀ i, l[k + i]? = l'[i]?) → J k ρ → ∃ ρ2, Mp.forM p (exs C b) (l'.map enc) ρ = ret (.next ρ2) ∧ J (k + l'.length) ρ2 := by
    intro l'
    induction l' with
    | nil => exact fun k ρ _ j => ⟨ρ, rfl, j⟩
    | cons x l' ih =>
      intro k ρ hx j
      obtain ⟨ρ1, ρ2, e1, e2, j2⟩ := hb k x (by simpa using hx 0) ρ j
      obtain ⟨ρ3, e3, j3⟩ := ih (k + 1) ρ2 (fun i => by have := hx (i + 1); simpa [Nat.add_assoc, Nat.add_comm 1] using this) j2
      refine ⟨ρ3, ?_, by simpa [Nat.add_assoc, Nat.add_comm 1] using j3⟩
      simp only [List.map_cons, Mp.forM, e1, e2, rb, after_next, e3]
  obtain ⟨ρ2, e, j⟩ := key l 0 ρ (fun i => by simp) h0
  rw [Nat.zero_add] at j
  funext st
  have e3 : Mp.ex C (.loop p it b) ρ st = R.ok (.next ρ2) st := by
    rw [ex_loop (xs := l.map enc) (st1 := st) (by rw [hi]; rfl), e]
    rfl
  simp only [exs_cons, b_st, e3, t_ok, after_next]
  rw [hr ρ2 j]
theorem sfold0 {p : Pt} {it : It} {b : Ss} {α : Type} {enc : α → D} {l : List α} (J : Nat → Env → Prop) (hi : evi C it ρ = ret (l.map enc)) (h0 : J 0 ρ)
    (hb : ∀ i x, l[i]? = some x → ∀ ρ, J i ρ → ∃ ρ1 ρ2, p.put (enc x) ρ = some ρ1 ∧ exs C b ρ1 = ret (.next ρ2) ∧ J (i + 1) ρ2) : ∃ ρ2, exs C (.cons (.loop p it b) .nil) ρ = ret (.next ρ2) := by
  obtain ⟨ρ2, h⟩ : ∃ ρ2, ∀ ρ', J l.length ρ' → True := ⟨ρ, fun _ _ => trivial⟩
  have key : ∀ (l' : List α) (k : Nat) (ρ : Env), (∀ i, l[k + i]? = l'[i]?) → J k ρ → ∃ ρ2, Mp.forM p (exs C b) (l'.map enc) ρ = ret (.next ρ2) ∧ J (k + l'.length) ρ2 := by
    intro l'
    induction l' with
    | nil => exact fun k ρ _ j => ⟨ρ, rfl, j⟩
    | cons x l' ih =>
      intro k ρ hx j
      obtain ⟨ρ1, ρ2, e1, e2, j2⟩ := hb k x (by simpa using hx 0) ρ j
      obtain ⟨ρ3, e3, j3⟩ := ih (k + 1) ρ2 (fun i => by have := hx (i + 1); simpa [Nat.add_assoc, Nat.add_comm 1] using this) j2
      refine ⟨ρ3, ?_, by simpa [Nat.add_assoc, Nat.add_comm 1] using j3⟩
      simp only [List.map_cons, Mp.forM, e1, e2, rb, after_next, e3]
  obtain ⟨ρ2, e, j⟩ := key l 0 ρ (fun i => by simp) h0
  refine ⟨ρ2, ?_⟩
  funext st
  have e3 : Mp.ex C (.loop p it b) ρ st = R.ok (.next ρ2) st := by
    rw [ex_loop (xs := l.map enc) (st1 := st) (by rw [hi]; rfl), e]
    rfl
  simp only [exs_cons, b_st, e3, t_ok, after_next]
  rfl
theorem run0e {d : Def} {as : List D} (h : as.length = d.ps) (e : ∃ ρ, exs C d.body (as.map some ++ List.replicate (d.ns - as.length) none) = ret (.next ρ)) : runDef C d as = ret .non := by
  obtain ⟨ρ, e⟩ := e
  exact funext fun st => runDef_next h (by rw [e]; rfl)
theorem fin {m : M D} {d x : D} (h1 : m = ret d) (h2 : d = x) : m = ret x := by
  rw [h1, h2]
theorem feq {m : M Bool} {t : Bool} (h1 : m = ret t) (h2 : t = false) : m = ret false := by
  rw [h1, h2]
/-- a call of a def -/
theorem cl {P : Prog} {n f : Nat} {as : List D} {d : D} (h : P.run n f as none = ret d) : (P.cfg (P.run n) none).call f as none = ret d := h
theorem clL {P : Prog} {n f : Nat} {lam : Option (List D → M D)} {as : List D} {d : D} (h : P.run n f as none = ret d) : (P.cfg (P.run n) lam).call f as none = ret d := h
/-- isinstance -/
theorem it_ii {kn : Nat → Bool} (i : Int) : isInst kn [.int] (.int i) = ret true := rfl
theorem it_ib {kn : Nat → Bool} (i : Int) : isInst kn [.bool] (.int i) = ret false := rfl
theorem it_is {kn : Nat → Bool} (i : Int) : isInst kn [.str] (.int i) = ret false := rfl
theorem it_it {kn : Nat → Bool} (i : Int) : isInst kn [.tuple] (.int i) = ret false := rfl
theorem it_bi {kn : Nat → Bool} (i : Bool) : isInst kn [.int] (.bl i) = ret true := rfl
theorem it_bb {kn : Nat → Bool} (i : Bool) : isInst kn [.bool] (.bl i) = ret true := rfl
theorem it_si {kn : Nat → Bool} (i : Sx) : isInst kn [.int] (.str i) = ret false := rfl
theorem it_sb {kn : Nat → Bool} (i : Sx) : isInst kn [.bool] (.str i) = ret false := rfl
theorem it_ss {kn : Nat → Bool} (i : Sx) : isInst kn [.str] (.str i) = ret true := rfl
theorem it_st {kn : Nat → Bool} (i : Sx) : isInst kn [.tuple] (.str i) = ret false := rfl
theorem it_ti {kn : Nat → Bool} (i : List D) : isInst kn [.int] (.tup i) = ret false := rfl
theorem it_tb {kn : Nat → Bool} (i : List D) : isInst kn [.bool] (.tup i) = ret false := rfl
theorem it_ts {kn : Nat → Bool} (i : List D) : isInst kn [.str] (.tup i) = ret false := rfl
theorem it_tt {kn : Nat → Bool} (i : List D) : isInst kn [.tuple] (.tup i) = ret true := rfl
end
theorem run {C : Cfg} {d : Def} {as : List D} {x : D} (h : as.length = d.ps) (e : exs C d.body (as.map some ++ List.replicate (d.ns - as.length) none) = ret (.ret x)) : runDef C d as = ret x :=
  funext fun st => runDef_ret h (by rw [e]; rfl)
theorem run0 {C : Cfg} {d : Def} {as : List D} {ρ : Env} (h : as.length = d.ps) (e : exs C d.body (as.map some ++ List.replicate (d.ns - as.length) none) = ret (.next ρ)) : runDef C d as = ret .non :=
  funext fun st => runDef_next h (by rw [e]; rfl)
/-! ### operators at data -/
class Enc {α : Type} [DecidableEq α] (e : α → D) : Prop where
  eqs : Eqs e
  gd : ∀ a, Gd 30 (e a)
  ob : ∀ a i, e a ≠ .obj i
instance : Enc nd := ⟨Eqs.nd, fun a => (Gd.int _).up, by simp⟩
instance : Enc D.int := ⟨Eqs.int, fun a => (Gd.int _).up, by simp⟩
instance : Enc D.bl := ⟨fun a b => by cases a <;> cases b <;> rfl, fun a => (Gd.bl _).up, by simp⟩
instance : Enc lt := ⟨Eqs.lt, fun a => (gd_lt a).up, by simp⟩
instance : Enc sp := ⟨Eqs.sp, fun a => (gd_sp a).up, by simp⟩
abbrev spl (s : List (List (List Nat))) : D := .tup (s.map sp)
theorem gd_spl (l : List (List (List Nat))) : Gd 3 (spl l) := .tup (.map gd_sp l)
instance : Enc spl := ⟨Eqs.sp.tup, fun a => (gd_spl a).up, by simp⟩
abbrev pr (p : Nat × Nat) : D := .tup [nd p.1, nd p.2]
instance : Enc pr := ⟨fun a b => by
    obtain ⟨a, a'⟩ := a
    obtain ⟨b, b'⟩ := b
    simp [D.eqv, eqvAll, Int.natCast_inj], fun a => (Gd.tup (k := 0) (fun x hx => by
      simp only [List.mem_cons, List.not_mem_nil, or_false] at hx
      rcases hx with rfl | rfl <;> exact .int _)).up, by simp⟩
theorem eqD_e {α : Type} [DecidableEq α] (e : α → D) [h : Enc e] (a b : α) : eqD (e a) (e b) = ret (decide (a = b)) := funext fun st => by
  rw [eqD_good (h.ob a) (h.ob b) ((h.gd a).good) ((h.gd b).good), h.eqs]
  rfl
section
variable {α β γ : Type} [DecidableEq γ]
theorem mapmap (e : γ → D) (G : α → γ) (l : List α) : l.map (fun x => e (G x)) = (l.map G).map e := by
  rw [List.map_map]
  rfl
theorem enc_tup (e : γ → D) [h : Enc e] (hd : ∀ a, Gd 29 (e a)) : Enc fun l : List γ => D.tup (l.map e) := ⟨h.eqs.tup, fun a => .tup (.map hd a), by simp⟩
theorem enc_lst (e : γ → D) [h : Enc e] (hd : ∀ a, Gd 29 (e a)) : Enc fun l : List γ => D.lst (l.map e) := ⟨h.eqs.lst, fun a => .lst (.map hd a), by simp⟩
/-- how deep at most, for lists of it -/
class Low (e : γ → D) : Prop where
  gd : ∀ a, Gd 20 (e a)
instance : Low nd := ⟨fun a => (Gd.int _).up⟩
instance : Low D.int := ⟨fun a => (Gd.int _).up⟩
instance : Low D.bl := ⟨fun a => (Gd.bl _).up⟩
instance : Low lt := ⟨fun a => (gd_lt a).up⟩
instance : Low sp := ⟨fun a => (gd_sp a).up⟩
instance : Low spl := ⟨fun a => (gd_spl a).up⟩
instance : Low pr := ⟨fun a => (Gd.tup (k := 0) (fun x hx => by
      simp only [List.mem_cons, List.not_mem_nil, or_false] at hx
      rcases hx with rfl | rfl <;> exact .int _)).up⟩
theorem eqt (e : γ → D) [h : Enc e] [Low e] (G : α → γ) (G' : β → γ) (l : List α) (l' : List β) : cmp2 .eq (.tup (l.map fun x => e (G x))) (.tup (l'.map fun x => e (G' x))) = ret (decide (l.map G = l'.map G')) := by
  rw [mapmap e G, mapmap e G']
  have := enc_tup e fun a => (Low.gd a).up
  exact eqD_e (fun l : List γ => D.tup (l.map e)) _ _
theorem eql (e : γ → D) [h : Enc e] [Low e] (G : α → γ) (G' : β → γ) (l : List α) (l' : List β) : cmp2 .eq (.lst (l.map fun x => e (G x))) (.lst (l'.map fun x => e (G' x))) = ret (decide (l.map G = l'.map G')) := by
  rw [mapmap e G, mapmap e G']
  have := enc_lst e fun a => (Low.gd a).up
  exact eqD_e (fun l : List γ => D.lst (l.map e)) _ _
theorem eqt0 (e : γ → D) [h : Enc e] [Low e] (G : α → γ) (l : List α) : cmp2 .eq (.tup (l.map fun x => e (G x))) (.tup []) = ret (decide (l = [])) := by
  have := eqt e G G l []
  simpa using this
theorem eql0 (e : γ → D) [h : Enc e] [Low e] (G : α → γ) (l : List α) : cmp2 .eq (.lst (l.map fun x => e (G x))) (.lst []) = ret (decide (l = [])) := by
  have := eql e G G l []
  simpa using this
theorem eqt1 (e : γ → D) [h : Enc e] [Low e] (G : α → γ) (l : List α) (a : γ) : cmp2 .eq (.tup (l.map fun x => e (G x))) (.tup [e a]) = ret (decide (l.map G = [a])) := by
  exact eqt e G id l [a]
theorem ne_of {x y : D} {t : Bool} (h : cmp2 .eq x y = ret t) : cmp2 .ne x y = ret (!t) := by
  have h2 : eqD x y = ret t := h
  simp only [cmp_ne, h2, rb]
/-- in -/
class EncI (e : γ → D) : Prop extends Enc e where
  ns : ∀ a s, e a ≠ .str s
instance : EncI nd := ⟨by simp⟩
instance : EncI D.int := ⟨by simp⟩
instance : EncI lt := ⟨by simp⟩
instance : EncI sp := ⟨by simp⟩
instance : EncI spl := ⟨by simp⟩
instance : EncI pr := ⟨by simp⟩
theorem int (e : γ → D) [h : EncI e] (G : α → γ) (x : γ) (l : List α) : cmp2 .inn (e x) (.tup (l.map fun y => e (G y))) = ret (decide (x ∈ l.map G)) := funext fun st => by
  rw [mapmap e G]
  exact inD_tup h.eqs h.gd h.ns x _ st
theorem inl (e : γ → D) [h : EncI e] (G : α → γ) (x : γ) (l : List α) : cmp2 .inn (e x) (.lst (l.map fun y => e (G y))) = ret (decide (x ∈ l.map G)) := funext fun st => by
  rw [mapmap e G]
  exact inD_lst h.eqs h.gd h.ns x _ st
theorem int_id (e : γ → D) [h : EncI e] (x : γ) (l : List γ) : cmp2 .inn (e x) (.tup (l.map e)) = ret (decide (x ∈ l)) := funext fun st => inD_tup h.eqs h.gd h.ns x _ st
theorem inl_id (e : γ → D) [h : EncI e] (x : γ) (l : List γ) : cmp2 .inn (e x) (.lst (l.map e)) = ret (decide (x ∈ l)) := funext fun st => inD_lst h.eqs h.gd h.ns x _ st
theorem nin_of {x y : D} {t : Bool} (h : cmp2 .inn x y = ret t) : cmp2 .nin x y = ret (!t) := by
  have h2 : inD x y = ret t := h
  simp only [cmp_nin, h2, rb]
end
theorem in2 (x a b : Nat) : cmp2 .inn (nd x) (.tup [nd a, nd b]) = ret (decide (x = a ∨ x = b)) := funext fun st => inD_2 x a b st
theorem in1 (x a : Nat) : cmp2 .inn (nd x) (.tup [nd a]) = ret (decide (x = a)) := funext fun st => by
  have := inD_nd x [a] st
  simpa using this
theorem eqn (a b : Nat) : cmp2 .eq (nd a) (nd b) = ret (decide (a = b)) := eqD_e nd a b
theorem eqi (a b : Int) : cmp2 .eq (.int a) (.int b) = ret (decide (a = b)) := eqD_e D.int a b
theorem eqb (a b : Bool) : cmp2 .eq (.bl a) (.bl b) = ret (decide (a = b)) := eqD_e D.bl a b
theorem eqs (a b : Sx) : cmp2 .eq (.str a) (.str b) = ret (decide (a = b)) := rfl
theorem eqrfl {x : D} (h : x.good = true) (ho : ∀ i, x ≠ .obj i) (he : x.eqv x = true) : cmp2 .eq x x = ret true := funext fun st => by
  have := eqD_good (st := st) ho ho h h
  rw [he] at this
  exact this
theorem ltn (a b : Nat) : cmp2 .lt (nd a) (nd b) = ret (decide (a < b)) := by simp [Int.ofNat_lt]
theorem len_ (a b : Nat) : cmp2 .le (nd a) (nd b) = ret (decide (a ≤ b)) := by simp [Int.ofNat_le]
theorem gtn (a b : Nat) : cmp2 .gt (nd a) (nd b) = ret (decide (b < a)) := by simp [Int.ofNat_lt]
theorem gen (a b : Nat) : cmp2 .ge (nd a) (nd b) = ret (decide (b ≤ a)) := by simp [Int.ofNat_le]
theorem lti (a b : Int) : cmp2 .lt (.int a) (.int b) = ret (decide (a < b)) := rfl
theorem lei (a b : Int) : cmp2 .le (.int a) (.int b) = ret (decide (a ≤ b)) := rfl
theorem gti (a b : Int) : cmp2 .gt (.int a) (.int b) = ret (decide (b < a)) := rfl
theorem gei (a b : Int) : cmp2 .ge (.int a) (.int b) = ret (decide (b ≤ a)) := rfl
theorem ltS' (a b : Nat) : True := trivial
theorem addn (lv : Bool) (a b : Nat) : op2 (.add lv) (nd a) (nd b) = ret (nd (a + b)) := rfl
theorem addi (lv : Bool) (a b : Int) : op2 (.add lv) (.int a) (.int b) = ret (.int (a + b)) := rfl
theorem subn {a b : Nat} (h : b ≤ a) : op2 .sub (nd a) (nd b) = ret (nd (a - b)) := by
  simp only [op_subi]
  congr 2
  omega
theorem subi (a b : Int) : op2 .sub (.int a) (.int b) = ret (.int (a - b)) := rfl
theorem addt {lv : Bool} {a b : List D} (h : a.length + b.length ≤ 1000000) : op2 (.add lv) (.tup a) (.tup b) = ret (.tup (a ++ b)) := op_addt lv h
theorem addl {a b : List D} (h : a.length + b.length ≤ 1000000) : op2 (.add false) (.lst a) (.lst b) = ret (.lst (a ++ b)) := funext fun st => op_addl h st
theorem muln {a b : Nat} (h : a < 1000000) (h' : b < 1000000) : op2 .mul (nd a) (nd b) = ret (nd (a * b)) := by
  have : okBits (a : Int) (b : Int) = true := by
    unfold okBits
    have h1 : -(2 ^ 64) < (a : Int) := by omega
    have h2 : (a : Int) < 2 ^ 64 := by omega
    rw [decide_eq_true h1, decide_eq_true h2]
    rfl
  simp only [op2, this, if_true, nd]
  rfl
theorem modn {a b : Nat} (h : 0 < b) : op2 .mod (nd a) (nd b) = ret (nd (a % b)) := by
  have : (0 : Int) < (b : Int) := by omega
  rw [op_mod this]
  rfl
theorem fdivn {a b : Nat} (h : 0 < b) (h' : b < 1073741824) : op2 .fdiv (nd a) (nd b) = ret (nd (a / b)) := by
  have h1 : (0 : Int) < (b : Int) := by omega
  have h2 : (b : Int) < 1073741824 := by omega
  simp only [op2, h1, h2, and_self, if_true]
  rfl
/-! ### subscripts, slices, builtins -/
theorem subt {α : Type} [Inhabited α] (e : α → D) {l : List α} {i : Nat} (h : i < l.length) : subD (.tup (l.map e)) (nd i) = ret (e (l[i]?.getD default)) := funext fun st => by
  rw [subD_map e h]
  simp [h]
theorem subl {α : Type} [Inhabited α] (e : α → D) {l : List α} {i : Nat} (h : i < l.length) : subD (.lst (l.map e)) (nd i) = ret (e (l[i]?.getD default)) := funext fun st => by
  rw [subD_mapl e h]
  simp [h]
theorem sub_sp {s : List (List Nat)} {i : Nat} (h : i < s.length) : subD (sp s) (nd i) = ret (lt (rc s i)) := subt lt h
theorem sub_lt {s : List Nat} {i : Nat} (h : i < s.length) : subD (lt s) (nd i) = ret (nd (s[i]?.getD 0)) := subt nd h
theorem sub_ll {s : List (List Nat)} {i : Nat} (h : i < s.length) : subD (.lst (s.map lt)) (nd i) = ret (lt (rc s i)) := subl lt h
theorem sub_ln {s : List Nat} {i : Nat} (h : i < s.length) : subD (.lst (s.map nd)) (nd i) = ret (nd (s[i]?.getD 0)) := subl nd h
theorem lent (xs : List D) : bn1 .len [.tup xs] = ret (nd xs.length) := funext fun st => lenD_tup xs st
theorem lenl (xs : List D) : bn1 .len [.lst xs] = ret (nd xs.length) := funext fun st => lenD_lst xs st
theorem lentm {α : Type} (e : α → D) (l : List α) : bn1 .len [.tup (l.map e)] = ret (nd l.length) := by
  rw [lent, List.length_map]
theorem lenlm {α : Type} (e : α → D) (l : List α) : bn1 .len [.lst (l.map e)] = ret (nd l.length) := by
  rw [lenl, List.length_map]
theorem tuplel (xs : List D) : bn1 .tuple [.lst xs] = ret (.tup xs) := funext fun st => tupleD_lst xs st
theorem tuplet (xs : List D) : bn1 .tuple [.tup xs] = ret (.tup xs) := rfl
theorem listt (xs : List D) : bn1 (.list false) [.tup xs] = ret (.lst xs) := funext fun st => listD_tup xs st
theorem listl (xs : List D) : bn1 (.list false) [.lst xs] = ret (.lst xs) := funext fun st => listD_lst xs st
theorem anyl {α : Type} (p : α → Bool) (l : List α) : bn1 .any [.lst (l.map fun x => .bl (p x))] = ret (.bl (l.any p)) := funext fun st => anyD_map p l st
theorem alll {α : Type} (p : α → Bool) (l : List α) : bn1 .all [.lst (l.map fun x => .bl (p x))] = ret (.bl (l.all p)) := funext fun st => allD_map p l st
theorem range1 {n : Nat} (h : n ≤ 1000000) : bn1 (.range1 false) [nd n] = ret (.lst ((List.range n).map nd)) := by
  have h3 : -1000000 ≤ (n : Int) ∧ (n : Int) ≤ (lim : Nat) := by
    rw [lim_eq]
    omega
  simp only [b_range1, range1D, h3, and_self, if_true, Int.toNat_natCast, rangeL_nd, new_fz]
theorem trange {n : Nat} (h : n ≤ 1000000) : bn1 .trange [nd n] = ret (.tup ((List.range n).map nd)) := by
  have h3 : -1000000 ≤ (n : Int) ∧ (n : Int) ≤ (lim : Nat) := by
    rw [lim_eq]
    omega
  simp only [b_trange, trangeD, h3, and_self, if_true, Int.toNat_natCast, rangeL_nd]
theorem ssett {l : List Nat} (h : l.length < 64) : bn1 (.sset false) [lt l] = ret (.lst ((usort l).map nd)) := funext fun st => ssetD_nd l h st
theorem sortl (l : List Nat) : bn1 (.sorted false) [.lst (l.map nd)] = ret (.lst ((sortN l).map nd)) := funext fun st => by
  simp only [b_sorted, sortedD, lseq, seqOf, b_st, t_ok, ints_nd, isortD_map, new_fz, r_st, List.map_map]
  rfl
theorem suml (l : List Nat) : bn1 .sum [.lst (l.map nd)] = ret (nd l.sum) := funext fun st => by
  simp only [b_sum, sumD, lseq, seqOf, b_st, t_ok, ints_nd, r_st]
  congr 2
  induction l with
  | nil => rfl
  | cons x l ih => simp [ih]
/-- can be written -/
structure Wr (x : D) : Prop where
  sm : ∃ w, w ≤ 1000000 ∧ Sm w x
  gd : x.good = true
theorem repr {x : D} (h : Wr x) : bn1 .repr [x] = ret (.str (reprS x)) := funext fun st => by
  obtain ⟨⟨w, hw, hs⟩, hg⟩ := h
  have c : cont x st = .ok x st := by
    cases x with
    | obj i => exact absurd hs.s (by simp [D.sml])
    | _ => rfl
  have h2 := shw_sml x hs.s
  have h3 : x.py.shown.length ≤ lim := Nat.le_trans (shown_wt x hs.s) (Nat.le_trans hs.w (by rw [lim_eq]; exact hw))
  rw [b_repr]
  unfold reprD
  rw [b_st, c, t_ok]
  simp [hg, h2, h3, reprS]
theorem wr_nd2 {a b : Nat} (ha : a < 1000) (hb : b < 1000) : Wr (.lst [nd a, nd b]) := ⟨⟨15, by decide, Sm.lst (n := 2) (w := 4) (fun x hx => by
    simp only [List.mem_cons, List.not_mem_nil, or_false] at hx
    rcases hx with rfl | rfl
    · exact .nat ha
    · exact .nat hb) (by simp)⟩, (Gd.lst (k := 0) (fun x hx => by
    simp only [List.mem_cons, List.not_mem_nil, or_false] at hx
    rcases hx with rfl | rfl <;> exact .int _)).good⟩
theorem intn (n : Nat) : bn1 .int [nd n] = ret (nd n) := rfl
theorem intb (b : Bool) : bn1 .int [.bl b] = ret (nd (if b = true then 1 else 0)) := by cases b <;> rfl
theorem cut_from {α : Type} (xs : List α) (a : Nat) : cut xs (some (a : Int)) none = xs.drop a := by
  simp only [cut, HT.sIx_nat, sIx_none]
  rcases Nat.le_total a xs.length with h | h
  · rw [show min a xs.length = a by omega]
    rw [List.take_of_length_le (by simp)]
  · rw [show min a xs.length = xs.length by omega, List.drop_length, List.drop_eq_nil_of_le h]
    simp
theorem cut_to {α : Type} (xs : List α) (b : Nat) : cut xs none (some (b : Int)) = xs.take b := by
  simp only [cut, HT.sIx_nat, sIx_none, List.drop_zero, Nat.sub_zero]
  rcases Nat.le_total b xs.length with h | h
  · rw [show min b xs.length = b by omega]
  · rw [show min b xs.length = xs.length by omega, List.take_length, List.take_of_length_le h]
theorem sl_tf {α : Type} (e : α → D) (xs : List α) (a : Nat) : sliceD false (.tup (xs.map e)) (some (a : Int)) none = ret (.tup ((xs.drop a).map e)) := by
  simp only [sliceD, cut_from, List.map_drop]
theorem sl_tt {α : Type} (e : α → D) (xs : List α) (a : Nat) : sliceD false (.tup (xs.map e)) none (some (a : Int)) = ret (.tup ((xs.take a).map e)) := by
  simp only [sliceD, cut_to, List.map_take]
theorem sl_lf {α : Type} (e : α → D) (xs : List α) (a : Nat) : sliceD false (.lst (xs.map e)) (some (a : Int)) none = ret (.lst ((xs.drop a).map e)) := by
  funext st
  simp [sliceD, seqOf, cut_from]
theorem sl_lt {α : Type} (e : α → D) (xs : List α) (a : Nat) : sliceD false (.lst (xs.map e)) none (some (a : Int)) = ret (.lst ((xs.take a).map e)) := by
  funext st
  simp [sliceD, seqOf, cut_to]
theorem truthb (b : Bool) : truth (.bl b) = ret b := rfl
theorem heldt (xs : List D) : held (.tup xs) = ret xs := rfl
theorem heldl (xs : List D) : held (.lst xs) = ret xs := rfl
theorem itemst (xs : List D) : items (.tup xs) = ret xs := rfl
theorem itemsl (xs : List D) : items (.lst xs) = ret xs := rfl
theorem is_nn : cmp2 .is .non .non = ret true := rfl
theorem is_in (i : Int) : cmp2 .is (.int i) .non = ret false := rfl
theorem is_tn (i : List D) : cmp2 .is (.tup i) .non = ret false := rfl
theorem is_ln (i : List D) : cmp2 .is (.lst i) .non = ret false := rfl
theorem is_sn (i : Sx) : cmp2 .is (.str i) .non = ret false := rfl
theorem is_bn (i : Bool) : cmp2 .is (.bl i) .non = ret false := rfl
theorem isn_of {x y : D} {t : Bool} (h : cmp2 .is x y = ret t) : cmp2 .isn x y = ret (!t) := by
  have h2 : isD x y = ret t := h
  simp only [cmp_isn, h2, rb]
end W
end Mp
end
section
set_option autoImplicit false
set_option Elab.async false
set_option linter.all false
set_option maxRecDepth 100000
set_option maxHeartbeats 4000000
/-! PlTri: defs that draw: what holds of the store before and behind. -/
namespace Mp
/-- from a store as told it comes to an answer as told, and a store as told -/
def Tri {α : Type} (P : Store → Prop) (m : M α) (Q : α → Prop) (P' : α → Store → Prop) : Prop := ∀ st, P st → ∃ a st', m st = .ok a st' ∧ Q a ∧ P' a st'
namespace T
section
variable {α β : Type} {P : Store → Prop} {Q : α → Prop} {P' : α → Store → Prop}
theorem ret {a : α} (hq : Q a) (hp : ∀ st, P st → P' a st) : Tri P (Mp.ret a) Q P' := fun st h => ⟨a, st, rfl, hq, hp st h⟩
theorem of {m : M α} {a : α} (h : m = Mp.ret a) (hq : Q a) (hp : ∀ st, P st → P' a st) : Tri P m Q P' := by
  rw [h]
  exact ret hq hp
theorem eq {m m' : M α} (h : m = m') (t : Tri P m' Q P') : Tri P m Q P' := by
  rw [h]
  exact t
theorem bind {m : M α} {k : α → M β} {R : β → Prop} {P2 : β → Store → Prop} (h : Tri P m Q P') (hk : ∀ a, Q a → Tri (P' a) (k a) R P2) : Tri P (m >>= k) R P2 := fun st hp => by
  obtain ⟨a, st1, e1, q1, p1⟩ := h st hp
  obtain ⟨b, st2, e2, q2, p2⟩ := hk a q1 st1 p1
  refine ⟨b, st2, ?_, q2, p2⟩
  rw [b_st, e1, t_ok, e2]
theorem imp {m : M α} {Q2 : α → Prop} {P2 : α → Store → Prop} {P0 : Store → Prop} (h : Tri P m Q P') (h0 : ∀ st, P0 st → P st) (hq : ∀ a, Q a → Q2 a) (hp : ∀ a st, Q a → P' a st → P2 a st) : Tri P0 m Q2 P2 := fun st p => by
  obtain ⟨a, st1, e1, q1, p1⟩ := h st (h0 st p)
  exact ⟨a, st1, e1, hq a q1, hp a st1 q1 p1⟩
theorem exi {ι : Sort _} {A : ι → Store → Prop} {m : M α} (h : ∀ i, Tri (A i) m Q P') : Tri (fun st => ∃ i, A i st) m Q P' := fun st ⟨i, p⟩ => h i st p
theorem exF {ι : Sort _} {A : ι → Store → Prop} {F : ι → Prop} {m : M α} (h : ∀ i, F i → Tri (A i) m Q P') : Tri (fun st => ∃ i, A i st ∧ F i) m Q P' := fun st ⟨i, p, f⟩ => h i f st p
theorem assocR {m : M α} (h : Tri P m Q P') : Tri P m Q P' := h
/-- a part that is plain -/
theorem kp {m : M β} {d : β} {k : β → M α} (h : m = Mp.ret d) (hk : Tri P (k d) Q P') : Tri P (m >>= k) Q P' := by
  rw [h]
  exact hk
theorem assoc {γ : Type} {m : M γ} {f : γ → M β} {k : β → M α} (h : Tri P (m >>= fun x => f x >>= k) Q P') : Tri P ((m >>= f) >>= k) Q P' := by
  refine eq (funext fun st => ?_) h
  simp only [b_st]
  cases m st <;> rfl
end
section
variable {C : Cfg} {ρ ρ1 : Env} {β : Type} {P : Store → Prop} {Q : β → Prop} {P' : β → Store → Prop}
/-! ### expressions, with what comes of them -/
theorem call {f : Nat} {es : Es} {k : D → M β} (h : Tri P (evs C es ρ >>= fun xs => C.call f xs none >>= k) Q P') : Tri P (ev C (.call f es) ρ >>= k) Q P' := assoc h
/-- a call of what draws -/
theorem kc {f : Nat} {xs : List D} {k : D → M β} {Q1 : D → Prop} {P1 : D → Store → Prop} (h : Tri P (C.call f xs none) Q1 P1) (hk : ∀ d, Q1 d → Tri (P1 d) (k d) Q P') : Tri P (C.call f xs none >>= k) Q P' := bind h hk
theorem nil {k : List D → M β} (h : Tri P (k []) Q P') : Tri P (evs C .nil ρ >>= k) Q P' := h
theorem cons {e : E} {r : Es} {k : List D → M β} (h : Tri P (ev C e ρ >>= fun x => evs C r ρ >>= fun xs => k (x :: xs)) Q P') : Tri P (evs C (.cons e r) ρ >>= k) Q P' := by
  refine eq ?_ h
  funext st
  simp only [evs_cons, b_st]
  cases ev C e ρ st with
  | ok x st1 =>
    simp only [t_ok, b_st]
    cases evs C r ρ st1 <;> rfl
  | _ => rfl
theorem op {o : Op} {a b : E} {k : D → M β} (h : Tri P (ev C a ρ >>= fun x => ev C b ρ >>= fun y => op2 o x y >>= k) Q P') : Tri P (ev C (.op o a b) ρ >>= k) Q P' := by
  refine eq ?_ h
  funext st
  simp only [ev_op, b_st]
  cases ev C a ρ st with
  | ok x st1 =>
    simp only [t_ok, b_st]
    cases ev C b ρ st1 <;> rfl
  | _ => rfl
theorem cmp {o : Cm} {a b : E} {k : D → M β} (h : Tri P (ev C a ρ >>= fun x => ev C b ρ >>= fun y => cmp2 o x y >>= fun t => k (.bl t)) Q P') : Tri P (ev C (.cmp o a b) ρ >>= k) Q P' := by
  refine eq ?_ h
  funext st
  simp only [ev_cmp, b_st]
  cases ev C a ρ st with
  | ok x st1 =>
    simp only [t_ok, b_st]
    cases ev C b ρ st1 with
    | ok y st2 =>
      simp only [t_ok, b_st]
      cases cmp2 o x y st2 <;> rfl
    | _ => rfl
  | _ => rfl
theorem sub {a b : E} {k : D → M β} (h : Tri P (ev C a ρ >>= fun x => ev C b ρ >>= fun y => subD x y >>= k) Q P') : Tri P (ev C (.sub a b) ρ >>= k) Q P' := by
  refine eq ?_ h
  funext st
  simp only [ev_sub, b_st]
  cases ev C a ρ st with
  | ok x st1 =>
    simp only [t_ok, b_st]
    cases ev C b ρ st1 <;> rfl
  | _ => rfl
theorem b {f : Bn} {es : Es} {k : D → M β} (h : Tri P (evs C es ρ >>= fun xs => bn1 f xs >>= k) Q P') : Tri P (ev C (.b f es) ρ >>= k) Q P' := assoc h
theorem not {a : E} {k : D → M β} {t : Bool} (h : Tri P (ev C a ρ >>= fun x => match x with
    | .bl t => k (.bl (!t))
    | _ => bad) Q P') : Tri P (ev C (.not a) ρ >>= k) Q P' := by
  refine eq ?_ h
  funext st
  simp only [ev_not, b_st]
  cases ev C a ρ st with
  | ok x st1 => cases x <;> rfl
  | _ => rfl
theorem tup {es : Es} {k : D → M β} (h : Tri P (evs C es ρ >>= fun xs => if xs.length ≤ 1000000 then k (.tup xs) else bad) Q P') : Tri P (ev C (.tup es) ρ >>= k) Q P' := by
  refine eq ?_ h
  funext st
  simp only [ev_tup, b_st]
  cases evs C es ρ st with
  | ok x st1 =>
    simp only [t_ok]
    by_cases hx : x.length ≤ lim
    · rw [if_pos hx, if_pos (show x.length ≤ 1000000 from hx)]
      rfl
    · rw [if_neg hx, if_neg (show ¬ x.length ≤ 1000000 from hx)]
      rfl
  | _ => rfl
theorem lst {es : Es} {k : D → M β} (h : Tri P (evs C es ρ >>= fun xs => if xs.length ≤ 1000000 then k (.lst xs) else bad) Q P') : Tri P (ev C (.lst false es) ρ >>= k) Q P' := by
  refine eq ?_ h
  funext st
  simp only [ev_lst, b_st]
  cases evs C es ρ st with
  | ok x st1 =>
    simp only [t_ok]
    by_cases hx : x.length ≤ lim
    · rw [if_pos hx, if_pos (show x.length ≤ 1000000 from hx)]
      rfl
    · rw [if_neg hx, if_neg (show ¬ x.length ≤ 1000000 from hx)]
      rfl
  | _ => rfl
theorem m {f : Mn} {o : E} {es : Es} {k : D → M β} (h : Tri P (ev C o ρ >>= fun x => chkL x >>= fun _ => evs C es ρ >>= fun xs => mn1 f x xs >>= k) Q P') : Tri P (ev C (.m f o es) ρ >>= k) Q P' := by
  refine eq ?_ h
  funext st
  simp only [ev_m, b_st]
  cases ev C o ρ st with
  | ok x st1 =>
    simp only [t_ok, b_st]
    cases chkL x st1 with
    | ok y st2 =>
      simp only [t_ok, b_st]
      cases evs C es ρ st2 <;> rfl
    | _ => rfl
  | _ => rfl
theorem slc {lv : Bool} {a : E} {lo hi : Eo} {k : D → M β} (h : Tri P (ev C a ρ >>= fun x => evo C lo ρ >>= fun l => evo C hi ρ >>= fun h => sliceD lv x l h >>= k) Q P') : Tri P (ev C (.slc lv a lo hi) ρ >>= k) Q P' := by
  refine eq ?_ h
  funext st
  simp only [ev_slc, b_st]
  cases ev C a ρ st with
  | ok x st1 =>
    simp only [t_ok, b_st]
    cases evo C lo ρ st1 with
    | ok y st2 =>
      simp only [t_ok, b_st]
      cases evo C hi ρ st2 <;> rfl
    | _ => rfl
  | _ => rfl
/-- what looks at the store and leaves it -/
theorem kl {γ : Type} {m : M γ} {d : γ} {k : γ → M β} (h : ∀ st, P st → m st = .ok d st) (hk : Tri P (k d) Q P') : Tri P (m >>= k) Q P' := fun st p => by
  obtain ⟨b, st2, e2, q⟩ := hk st p
  exact ⟨b, st2, by rw [b_st, h st p, t_ok, e2], q⟩
/-- what writes -/
theorem kw {γ : Type} {m : M γ} {d : γ} {k : γ → M β} {P2 : Store → Prop} (h : ∀ st, P st → ∃ st', m st = .ok d st' ∧ P2 st') (hk : Tri P2 (k d) Q P') : Tri P (m >>= k) Q P' := fun st p => by
  obtain ⟨st1, e1, p1⟩ := h st p
  obtain ⟨b, st2, e2, q⟩ := hk st1 p1
  exact ⟨b, st2, by rw [b_st, e1, t_ok, e2], q⟩
theorem pos {c : Prop} [Decidable c] {m : M β} (hc : c) (h : Tri P m Q P') : Tri P (if c then m else bad) Q P' := by
  rw [if_pos hc]
  exact h
/-! ### tests -/
theorem tnot {a : Te} {k : Bool → M β} (h : Tri P (tst C a ρ >>= fun t => k (!t)) Q P') : Tri P (tst C (.not a) ρ >>= k) Q P' := by
  refine eq ?_ h
  funext st
  simp only [tst_not, b_st]
  cases tst C a ρ st <;> rfl
theorem tval {e : E} {k : Bool → M β} (h : Tri P (ev C e ρ >>= fun x => truth x >>= k) Q P') : Tri P (tst C (.val e) ρ >>= k) Q P' := assoc h
theorem tcmp {o : Cm} {a b : E} {k : Bool → M β} (h : Tri P (ev C a ρ >>= fun x => ev C b ρ >>= fun y => cmp2 o x y >>= k) Q P') : Tri P (tst C (.cmp o a b) ρ >>= k) Q P' := by
  refine eq ?_ h
  funext st
  simp only [tst_cmp, b_st]
  cases ev C a ρ st with
  | ok x st1 =>
    simp only [t_ok, b_st]
    cases ev C b ρ st1 <;> rfl
  | _ => rfl
theorem tor {a b : Te} {k : Bool → M β} (h : Tri P (tst C a ρ >>= fun t => if t = true then k true else tst C b ρ >>= k) Q P') : Tri P (tst C (.or a b) ρ >>= k) Q P' := by
  refine eq ?_ h
  funext st
  simp only [tst_or, b_st]
  cases tst C a ρ st with
  | ok t st1 => cases t <;> rfl
  | _ => rfl
theorem tand {a b : Te} {k : Bool → M β} (h : Tri P (tst C a ρ >>= fun t => if t = true then tst C b ρ >>= k else k false) Q P') : Tri P (tst C (.and a b) ρ >>= k) Q P' := by
  refine eq ?_ h
  funext st
  simp only [tst_and, b_st]
  cases tst C a ρ st with
  | ok t st1 => cases t <;> rfl
  | _ => rfl
theorem split {t : Bool} {m m' : M β} (h1 : t = true → Tri P m Q P') (h2 : t = false → Tri P m' Q P') : Tri P (if t = true then m else m') Q P' := by
  cases t
  · exact h2 rfl
  · exact h1 rfl
end
section
variable {C : Cfg} {ρ ρ1 : Env} {P : Store → Prop} {Q : Flow → Prop} {P' : Flow → Store → Prop}
/-! ### statements -/
theorem set {i : Nat} {e : E} {r : Ss} (h : Tri P (ev C e ρ >>= fun d => exs C r (ρ.set i (some d))) Q P') (hi : i < ρ.length) : Tri P (exs C (.cons (.set (.nm i) e) r) ρ) Q P' := fun st p => by
  obtain ⟨f, st', e1, q, p1⟩ := h st p
  refine ⟨f, st', ?_, q, p1⟩
  rw [b_st] at e1
  simp only [exs_cons, ex_set, b_st, step_st]
  cases e2 : ev C e ρ st with
  | ok d st1 =>
    rw [e2, t_ok] at e1
    simp only [setT_nm, setAll_cons, setAll_nil, hi, if_true, opt_some, r_st, t_ok, after_next]
    exact e1
  | err c d st1 =>
    rw [e2] at e1
    cases e1
  | bad =>
    rw [e2] at e1
    cases e1
theorem stup {t : Tg} {e : E} {r : Ss} (h : Tri P (ev C e ρ >>= fun d => setT C t d ρ >>= fun ρ1 => exs C r ρ1) Q P') : Tri P (exs C (.cons (.set t e) r) ρ) Q P' := fun st p => by
  obtain ⟨f, st', e1, q, p1⟩ := h st p
  refine ⟨f, st', ?_, q, p1⟩
  rw [b_st] at e1
  simp only [exs_cons, ex_set, b_st, step_st]
  cases e2 : ev C e ρ st with
  | ok d st1 =>
    rw [e2, t_ok, b_st] at e1
    cases e3 : setT C t d ρ st1 with
    | ok ρ1 st2 =>
      rw [e3, t_ok] at e1
      simp only [e3, r_st, t_ok, after_next]
      exact e1
    | err c d st1 =>
      rw [e3] at e1
      cases e1
    | bad =>
      rw [e3] at e1
      cases e1
  | err c d st1 =>
    rw [e2] at e1
    cases e1
  | bad =>
    rw [e2] at e1
    cases e1
theorem expr {e : E} {r : Ss} (h : Tri P (ev C e ρ >>= fun _ => exs C r ρ) Q P') : Tri P (exs C (.cons (.expr e) r) ρ) Q P' := fun st p => by
  obtain ⟨f, st', e1, q, p1⟩ := h st p
  refine ⟨f, st', ?_, q, p1⟩
  rw [b_st] at e1
  simp only [exs_cons, ex_expr, b_st, step_st]
  cases e2 : ev C e ρ st with
  | ok d st1 =>
    rw [e2, t_ok] at e1
    simp only [r_st, t_ok, after_next]
    exact e1
  | err c d st1 =>
    rw [e2] at e1
    cases e1
  | bad =>
    rw [e2] at e1
    cases e1
theorem sret {e : E} {r : Ss} (h : Tri P (ev C e ρ >>= fun d => Mp.ret (.ret d)) Q P') : Tri P (exs C (.cons (.ret e) r) ρ) Q P' := fun st p => by
  obtain ⟨f, st', e1, q, p1⟩ := h st p
  refine ⟨f, st', ?_, q, p1⟩
  rw [b_st] at e1
  simp only [exs_cons, ex_ret, b_st, step_st]
  cases e2 : ev C e ρ st with
  | ok d st1 =>
    rw [e2, t_ok] at e1
    simp only [r_st, t_ok, after_ret]
    exact e1
  | err c d st1 =>
    rw [e2] at e1
    cases e1
  | bad =>
    rw [e2] at e1
    cases e1
/-- a test, then an answer or the rest -/
theorem sif {k : Te} {a b r : Ss} (h : Tri P (tst C k ρ >>= fun t => (if t = true then exs C a ρ else exs C b ρ) >>= fun f => after f (exs C r)) Q P') : Tri P (exs C (.cons (.ite k a b) r) ρ) Q P' := fun st p => by
  obtain ⟨f, st', e1, q, p1⟩ := h st p
  refine ⟨f, st', ?_, q, p1⟩
  rw [b_st] at e1
  simp only [exs_cons, ex_ite, b_st, step_st]
  cases e2 : tst C k ρ st with
  | ok t st1 =>
    rw [e2, t_ok] at e1
    rw [← e1, b_st]
  | err c d st1 =>
    rw [e2] at e1
    cases e1
  | bad =>
    rw [e2] at e1
    cases e1
theorem skip {a b r : Ss} {m : M Flow} {t : Bool} (ht : t = false) (h : Tri P (exs C b ρ >>= fun f => after f (exs C r)) Q P') : Tri P ((if t = true then m else exs C b ρ) >>= fun f => after f (exs C r)) Q P' := by
  subst ht
  exact h
theorem skip0 {r : Ss} {m : M Flow} {t : Bool} (ht : t = false) (h : Tri P (exs C r ρ) Q P') : Tri P ((if t = true then m else exs C .nil ρ) >>= fun f => after f (exs C r)) Q P' := by
  subst ht
  exact h
/-- the names that a loop takes: anything -/
def over (ρ : Env) : List Nat → (Nat → Option D) → Env
  | [], _ => ρ
  | i :: is, f => (over ρ is f).set i (f i)
theorem forM_tri {α : Type} {enc : α → D} {p : Pt} {b : Env → M Flow} {J : Env → Prop} {I : Store → Prop} {Q : Flow → Prop} : ∀ {l : List α} {ρ : Env}, J ρ → (∀ x, x ∈ l → ∀ ρ, J ρ → ∃ ρ1, p.put (enc x) ρ = some ρ1 ∧ Tri I (b ρ1) (fun f => (∃ ρ2, f = .next ρ2 ∧ J ρ2) ∨ (∃ d, f = .ret d ∧ Q f)) (fun _ => I)) →
    Tri I (Mp.forM p b (l.map enc) ρ) (fun f => (∃ ρ2, f = .next ρ2 ∧ J ρ2) ∨ (∃ d, f = .ret d ∧ Q f)) (fun _ => I)
  | [], ρ, h, _ => fun st hi => ⟨_, st, rfl, .inl ⟨ρ, rfl, h⟩, hi⟩
  | x :: l, ρ, h, hb => fun st hi => by
    obtain ⟨ρ1, e1, t1⟩ := hb x (.head _) ρ h
    obtain ⟨f, st1, e2, q, i1⟩ := t1 st hi
    rcases q with ⟨ρ2, rfl, j2⟩ | ⟨d, rfl, q⟩
    · obtain ⟨f, st2, e3, q2, i2⟩ := forM_tri (l := l) (ρ := ρ2) j2 (fun y hy => hb y (.tail _ hy)) st1 i1
      refine ⟨f, st2, ?_, q2, i2⟩
      simp only [List.map_cons, Mp.forM, e1, b_st, e2, t_ok, after_next, e3]
    · refine ⟨_, st1, ?_, .inr ⟨d, rfl, q⟩, i1⟩
      simp only [List.map_cons, Mp.forM, e1, b_st, e2, t_ok, after_ret]
      rfl
/-- a loop: its names take anything; the store's fact stays; it may answer -/
theorem loopJ {α : Type} {enc : α → D} {l : List α} {p : Pt} {it : It} {b r : Ss} (J : Env → Prop) (I : Store → Prop) (hi : evi C it ρ = Mp.ret (l.map enc)) (h0 : J ρ) (hP : ∀ st, P st → I st)
    (hb : ∀ x, x ∈ l → ∀ ρ, J ρ → ∃ ρ1, p.put (enc x) ρ = some ρ1 ∧ Tri I (exs C b ρ1) (fun f => (∃ ρ2, f = .next ρ2 ∧ J ρ2) ∨ (∃ d, f = .ret d ∧ (Q f ∧ ∀ st, I st → P' f st))) (fun _ => I))
    (hr : ∀ ρ, J ρ → Tri I (exs C r ρ) Q P') : Tri P (exs C (.cons (.loop p it b) r) ρ) Q P' := fun st hp => by
  obtain ⟨f, st1, e, q, i1⟩ := forM_tri (Q := fun f => Q f ∧ ∀ st, I st → P' f st) h0 hb st (hP st hp)
  have e3 : Mp.ex C (.loop p it b) ρ st = R.ok f st1 := by
    rw [ex_loop (xs := l.map enc) (st1 := st) (by rw [hi]; rfl), e]
  simp only [exs_cons, b_st, e3, t_ok]
  rcases q with ⟨ρ2, rfl, j2⟩ | ⟨d, rfl, q, p⟩
  · exact hr ρ2 j2 st1 i1
  · exact ⟨_, st1, rfl, q, p st1 i1⟩
theorem loop (is : List Nat) {α : Type} {enc : α → D} {l : List α} {p : Pt} {it : It} {b r : Ss} (I : Store → Prop) {ρ1 : α → (Nat → Option D) → Env} (hi : evi C it ρ = Mp.ret (l.map enc)) (h0 : ρ = over ρ is fun i => (ρ[i]?).getD none) (hP : ∀ st, P st → I st)
    (hp : ∀ x f, p.put (enc x) (over ρ is f) = some (ρ1 x f))
    (hb : ∀ x, x ∈ l → ∀ f, Tri I (exs C b (ρ1 x f)) (fun fl => (∃ ρ2, fl = .next ρ2 ∧ ∃ f, ρ2 = over ρ is f) ∨ (∃ d, fl = .ret d ∧ (Q fl ∧ ∀ st, I st → P' fl st))) (fun _ => I))
    (hr : ∀ f, Tri I (exs C r (over ρ is f)) Q P') : Tri P (exs C (.cons (.loop p it b) r) ρ) Q P' :=
  loopJ (fun ρ2 => ∃ f, ρ2 = over ρ is f) I hi ⟨_, h0⟩ hP (fun x hx ρ2 ⟨f, e⟩ => ⟨ρ1 x f, by rw [e]; exact hp x f, hb x hx f⟩) fun ρ2 ⟨f, e⟩ => by
    rw [e]
    exact hr f
/-- a loop by its turns; it never answers -/
theorem loopNS {α : Type} {enc : α → D} {l : List α} {p : Pt} {it : It} {b r : Ss} (J : Nat → Env → Prop) (I : Nat → Store → Prop) (hi : ∀ st, P st → evi C it ρ st = .ok (l.map enc) st) (h0 : J 0 ρ) (hP : ∀ st, P st → I 0 st)
    (hb : ∀ i x, l[i]? = some x → ∀ ρ, J i ρ → ∃ ρ1, p.put (enc x) ρ = some ρ1 ∧ Tri (I i) (exs C b ρ1) (fun f => ∃ ρ2, f = .next ρ2 ∧ J (i + 1) ρ2) (fun _ => I (i + 1)))
    (hr : ∀ ρ, J l.length ρ → Tri (I l.length) (exs C r ρ) Q P') : Tri P (exs C (.cons (.loop p it b) r) ρ) Q P' := fun st hp => by
  have key : ∀ (l' : List α) (k : Nat) (ρ : Env) (st : Store), (∀ i, l[k + i]? = l'[i]?) → J k ρ → I k st → ∃ ρ2 st2, Mp.forM p (exs C b) (l'.map enc) ρ st = R.ok (.next ρ2) st2 ∧ J (k + l'.length) ρ2 ∧ I (k + l'.length) st2 := by
    intro l'
    induction l' with
    | nil => exact fun k ρ st _ j i => ⟨ρ, st, rfl, j, i⟩
    | cons x l' ih =>
      intro k ρ st hx j i
      obtain ⟨ρ1, e1, t⟩ := hb k x (by simpa using hx 0) ρ j
      obtain ⟨f, st1, e2, ⟨ρ2, rfl, j2⟩, i2⟩ := t st i
      obtain ⟨ρ3, st3, e3, j3, i3⟩ := ih (k + 1) ρ2 st1 (fun i => by have := hx (i + 1); simpa [Nat.add_assoc, Nat.add_comm 1] using this) j2 i2
      refine ⟨ρ3, st3, ?_, by simpa [Nat.add_assoc, Nat.add_comm 1] using j3, by simpa [Nat.add_assoc, Nat.add_comm 1] using i3⟩
      simp only [List.map_cons, Mp.forM, e1, b_st, e2, t_ok, after_next, e3]
  obtain ⟨ρ2, st2, e, j, i⟩ := key l 0 ρ st (fun i => by simp) h0 (hP st hp)
  rw [Nat.zero_add] at j i
  have e3 : Mp.ex C (.loop p it b) ρ st = R.ok (.next ρ2) st2 := by
    rw [ex_loop (xs := l.map enc) (st1 := st) (hi st hp), e]
  simp only [exs_cons, b_st, e3, t_ok, after_next]
  exact hr ρ2 j st2 i
theorem loopN {α : Type} {enc : α → D} {l : List α} {p : Pt} {it : It} {b r : Ss} (J : Nat → Env → Prop) (I : Nat → Store → Prop) (hi : evi C it ρ = Mp.ret (l.map enc)) (h0 : J 0 ρ) (hP : ∀ st, P st → I 0 st)
    (hb : ∀ i x, l[i]? = some x → ∀ ρ, J i ρ → ∃ ρ1, p.put (enc x) ρ = some ρ1 ∧ Tri (I i) (exs C b ρ1) (fun f => ∃ ρ2, f = .next ρ2 ∧ J (i + 1) ρ2) (fun _ => I (i + 1)))
    (hr : ∀ ρ, J l.length ρ → Tri (I l.length) (exs C r ρ) Q P') : Tri P (exs C (.cons (.loop p it b) r) ρ) Q P' :=
  loopNS J I (fun st _ => by rw [hi]; rfl) h0 hP hb hr
/-- a loop by its turns, its names and the store told together -/
theorem loopK {α : Type} {enc : α → D} {l : List α} {p : Pt} {it : It} {b r : Ss} (K : Nat → Env → Store → Prop) (hi : ∀ st, P st → evi C it ρ st = .ok (l.map enc) st) (hP : ∀ st, P st → K 0 ρ st)
    (hb : ∀ i x, l[i]? = some x → ∀ ρ, (∃ st, K i ρ st) → ∃ ρ1, p.put (enc x) ρ = some ρ1 ∧ Tri (K i ρ) (exs C b ρ1) (fun f => ∃ ρ2, f = .next ρ2) (fun f st => ∀ ρ2, f = .next ρ2 → K (i + 1) ρ2 st))
    (hr : ∀ ρ, (∃ st, K l.length ρ st) → Tri (K l.length ρ) (exs C r ρ) Q P') : Tri P (exs C (.cons (.loop p it b) r) ρ) Q P' := fun st hp => by
  have key : ∀ (l' : List α) (k : Nat) (ρ : Env) (st : Store), (∀ i, l[k + i]? = l'[i]?) → K k ρ st → ∃ ρ2 st2, Mp.forM p (exs C b) (l'.map enc) ρ st = R.ok (.next ρ2) st2 ∧ K (k + l'.length) ρ2 st2 := by
    intro l'
    induction l' with
    | nil => exact fun k ρ st _ j => ⟨ρ, st, rfl, j⟩
    | cons x l' ih =>
      intro k ρ st hx j
      obtain ⟨ρ1, e1, t⟩ := hb k x (by simpa using hx 0) ρ ⟨st, j⟩
      obtain ⟨f, st1, e2, ⟨ρ2, rfl⟩, i2⟩ := t st j
      obtain ⟨ρ3, st3, e3, j3⟩ := ih (k + 1) ρ2 st1 (fun i => by have := hx (i + 1); simpa [Nat.add_assoc, Nat.add_comm 1] using this) (i2 ρ2 rfl)
      refine ⟨ρ3, st3, ?_, by simpa [Nat.add_assoc, Nat.add_comm 1] using j3⟩
      simp only [List.map_cons, Mp.forM, e1, b_st, e2, t_ok, after_next, e3]
  obtain ⟨ρ2, st2, e, j⟩ := key l 0 ρ st (fun i => by simp) (hP st hp)
  rw [Nat.zero_add] at j
  have e3 : Mp.ex C (.loop p it b) ρ st = R.ok (.next ρ2) st2 := by
    rw [ex_loop (xs := l.map enc) (st1 := st) (hi st hp), e]
  simp only [exs_cons, b_st, e3, t_ok, after_next]
  exact hr ρ2 ⟨st2, j⟩ st2 j
/-- a row that is told, or one that is alive -/
def LV (d : D) (xs : List D) (st : Store) : Prop := d = .lst xs ∨ ∃ i, d = .obj i ∧ st[i]? = some (.lst xs)
theorem lv_len {d : D} {xs : List D} {st : Store} (h : LV d xs st) : lenD d st = .ok (nd xs.length) st := by
  rcases h with rfl | ⟨i, rfl, e⟩
  · exact lenD_lst xs st
  · simp [lenD, seqOf, e]
theorem lv_held {d : D} {xs : List D} {st : Store} (h : LV d xs st) (i : Nat) (e : st[i]? = some (.lst xs)) : LV (.obj i) xs st := .inr ⟨i, rfl, e⟩
/-- a loop over a row that may be alive -/
theorem loopL {α : Type} {enc : α → D} {l : List α} {p : Pt} {a : E} {b r : Ss} {d : D} (J : Nat → Env → Prop) (I : Nat → Store → Prop) (hi : ev C a ρ = Mp.ret d) (hs : ∀ j st, I j st → LV d (l.map enc) st) (hl : l.length < 100000) (h0 : J 0 ρ) (hP : ∀ st, P st → I 0 st)
    (hb : ∀ i x, l[i]? = some x → ∀ ρ, J i ρ → ∃ ρ1, p.put (enc x) ρ = some ρ1 ∧ Tri (I i) (exs C b ρ1) (fun f => ∃ ρ2, f = .next ρ2 ∧ J (i + 1) ρ2) (fun _ => I (i + 1)))
    (hr : ∀ ρ, J l.length ρ → Tri (I l.length) (exs C r ρ) Q P') : Tri P (exs C (.cons (.loopL p a b) r) ρ) Q P' := fun st hp => by
  have i0 := hP st hp
  have e1 : Mp.ex C (.loopL p a b) ρ = Mp.step ρ (ev C a ρ) fun x => match x with
    | .obj i => forL p (exs C b) i limL 0 ρ
    | x => held x >>= fun xs => Mp.forM p (exs C b) xs ρ := rfl
  have fin : (∃ ρ2 st2, Mp.ex C (.loopL p a b) ρ st = R.ok (.next ρ2) st2 ∧ J l.length ρ2 ∧ I l.length st2) → ∃ f st', exs C (.cons (.loopL p a b) r) ρ st = R.ok f st' ∧ Q f ∧ P' f st' := fun ⟨ρ2, st2, e, j, i⟩ => by
    simp only [exs_cons, b_st, e, t_ok, after_next]
    exact hr ρ2 j st2 i
  rcases hs 0 st i0 with rfl | ⟨ix, rfl, _⟩
  · have key : ∀ (l' : List α) (k : Nat) (ρ : Env) (st : Store), (∀ i, l[k + i]? = l'[i]?) → J k ρ → I k st → ∃ ρ2 st2, Mp.forM p (exs C b) (l'.map enc) ρ st = R.ok (.next ρ2) st2 ∧ J (k + l'.length) ρ2 ∧ I (k + l'.length) st2 := by
      intro l'
      induction l' with
      | nil => exact fun k ρ st _ j i => ⟨ρ, st, rfl, j, i⟩
      | cons x l' ih =>
        intro k ρ st hx j i
        obtain ⟨ρ1, e1, t⟩ := hb k x (by simpa using hx 0) ρ j
        obtain ⟨f, st1, e2, ⟨ρ2, rfl, j2⟩, i2⟩ := t st i
        obtain ⟨ρ3, st3, e3, j3, i3⟩ := ih (k + 1) ρ2 st1 (fun i => by have := hx (i + 1); simpa [Nat.add_assoc, Nat.add_comm 1] using this) j2 i2
        refine ⟨ρ3, st3, ?_, by simpa [Nat.add_assoc, Nat.add_comm 1] using j3, by simpa [Nat.add_assoc, Nat.add_comm 1] using i3⟩
        simp only [List.map_cons, Mp.forM, e1, b_st, e2, t_ok, after_next, e3]
    obtain ⟨ρ2, st2, e, j, i⟩ := key l 0 ρ st (fun i => by simp) h0 i0
    rw [Nat.zero_add] at j i
    refine fin ⟨ρ2, st2, ?_, j, i⟩
    rw [e1, step_st, hi]
    exact e
  · have key : ∀ (n k : Nat) (ρ : Env) (st : Store), l.length < n + k → k ≤ l.length → J k ρ → I k st → ∃ ρ2 st2, forL p (exs C b) ix n k ρ st = R.ok (.next ρ2) st2 ∧ J l.length ρ2 ∧ I l.length st2 := by
      intro n
      induction n with
      | zero => exact fun k ρ st h1 h2 => absurd h1 (by omega)
      | succ n ih =>
        intro k ρ st h1 h2 j i
        have e0 : st[ix]? = some (.lst (l.map enc)) := by
          rcases hs k st i with e | ⟨iy, e, e2⟩
          · cases e
          · cases e
            exact e2
        rcases Nat.lt_or_ge k l.length with hk | hk
        · have e3 : (l.map enc)[k]? = some (enc l[k]) := by simp [hk]
          obtain ⟨ρ1, e4, t⟩ := hb k l[k] (List.getElem?_eq_getElem hk) ρ j
          obtain ⟨f, st1, e5, ⟨ρ2, rfl, j2⟩, i2⟩ := t st i
          obtain ⟨ρ3, st3, e6, j3, i3⟩ := ih (k + 1) ρ2 st1 (by omega) (by omega) j2 i2
          refine ⟨ρ3, st3, ?_, j3, i3⟩
          simp only [forL, e0, e3, e4, b_st, e5, t_ok, after_next, e6]
        · obtain rfl : k = l.length := by omega
          have e3 : (l.map enc)[l.length]? = none := by simp
          refine ⟨ρ, st, ?_, j, i⟩
          simp only [forL, e0, e3]
    obtain ⟨ρ2, st2, e, j, i⟩ := key limL 0 ρ st (by show l.length < 100000 + 0; omega) (Nat.zero_le _) h0 i0
    refine fin ⟨ρ2, st2, ?_, j, i⟩
    rw [e1, step_st, hi]
    exact e
/-- a body's end -/
theorem bend {is : List Nat} {ρ0 : Env} {I : Store → Prop} {S : Flow → Prop} (hP : ∀ st, P st → I st) (h : ρ = over ρ0 is fun i => (ρ[i]?).getD none) : Tri P (exs C .nil ρ) (fun fl => (∃ ρ2, fl = .next ρ2 ∧ ∃ f, ρ2 = over ρ0 is f) ∨ (∃ d, fl = .ret d ∧ S fl)) (fun _ => I) :=
  ret (.inl ⟨ρ, rfl, _, h⟩) hP
end
/-- a def that draws -/
theorem run {C : Cfg} {d : Def} {as : List D} {P : Store → Prop} {Q : D → Prop} {P' : D → Store → Prop} (h : as.length = d.ps) (e : Tri P (exs C d.body (as.map some ++ List.replicate (d.ns - as.length) none)) (fun f => ∃ x, f = .ret x ∧ Q x) (fun f st => ∀ x, f = .ret x → P' x st)) : Tri P (runDef C d as) Q P' := fun st p => by
  obtain ⟨f, st1, e1, ⟨x, rfl, q⟩, p1⟩ := e st p
  exact ⟨x, st1, runDef_ret h e1, q, p1 x rfl⟩
theorem fret {P : Store → Prop} {Q : D → Prop} {P' : D → Store → Prop} {x : D} (q : Q x) (p : ∀ st, P st → P' x st) : Tri P (Mp.ret (Flow.ret x)) (fun f => ∃ x, f = .ret x ∧ Q x) (fun f st => ∀ x, f = .ret x → P' x st) :=
  ret ⟨x, rfl, q⟩ fun st h y e => by
    cases e
    exact p st h
section
variable {C : Cfg} {ρ : Env} {β : Type} {P : Store → Prop} {Q : β → Prop} {P' : β → Store → Prop}
theorem noxT {α : Type} {m : M α} {P : Store → Prop} {Q : α → Prop} {P' : α → Store → Prop} (h : Tri P m Q P') : Tri P (nox m) Q P' := fun st p => by
  obtain ⟨a, st1, e1, q1, p1⟩ := h st p
  refine ⟨a, st1, ?_, q1, p1⟩
  rw [nox_st, e1]
theorem turns_tri {α γ : Type} {I : Store → Prop} {f : D → M (Option D)} {enc : α → D} {enc' : γ → D} {G : α → Option γ → Prop} : ∀ {l : List α}, (∀ x ∈ l, Tri I (f (enc x)) (fun o => ∃ z, o = z.map enc' ∧ G x z) (fun _ => I)) →
    Tri I (turns f (l.map enc)) (fun ds => ∃ zs : List (Option γ), zs.length = l.length ∧ (∀ p ∈ l.zip zs, G p.1 p.2) ∧ ds = (zs.filterMap id).map enc') (fun _ => I)
  | [], _ => fun st h => ⟨[], st, rfl, ⟨[], rfl, by simp, rfl⟩, h⟩
  | x :: l, h => fun st hi => by
    obtain ⟨o, st1, e1, ⟨z, rfl, g⟩, i1⟩ := h x (.head _) st hi
    obtain ⟨ds, st2, e2, ⟨zs, hl, hg, rfl⟩, i2⟩ := turns_tri (l := l) (fun y hy => h y (.tail _ hy)) st1 i1
    refine ⟨((z :: zs).filterMap id).map enc', st2, ?_, ⟨z :: zs, by simp [hl], fun p hp => ?_, rfl⟩, i2⟩
    · simp only [List.map_cons, turns, b_st, e1, t_ok, e2]
      cases z <;> rfl
    · rcases List.mem_cons.mp (by simpa using hp) with e | e
      · rw [e]
        exact g
      · exact hg p e
/-- a comprehension that draws -/
theorem lc {own : List Nat} {p : Pt} {it : It} {ifs : To} {e : E} {α γ : Type} {enc : α → D} {l : List α} {ρ' : α → Env} {k : D → M β} (enc' : γ → D) (G : α → Option γ → Prop)
    (hi : evi C it ρ = Mp.ret (l.map enc)) (hp : ∀ x, p.put (enc x) (wipeD ρ own) = some (ρ' x))
    (hb : ∀ x, x ∈ l → Tri P (tsto C ifs (ρ' x) >>= fun t => if t = true then (ev C e (ρ' x) >>= fun y => Mp.ret (some y)) else Mp.ret none) (fun o => ∃ z, o = z.map enc' ∧ G x z) (fun _ => P))
    (hl : l.length ≤ 1000000) (hk : ∀ zs : List (Option γ), zs.length = l.length → (∀ p ∈ l.zip zs, G p.1 p.2) → Tri P (k (.lst ((zs.filterMap id).map enc'))) Q P') : Tri P (ev C (.lc false own p it ifs e) ρ >>= k) Q P' := by
  have key : Tri P (turns (fun x => match p.put x (wipeD ρ own) with
      | some ρ' => nox do
        let t ← tsto C ifs ρ'
        if t then do let y ← ev C e ρ'; Mp.ret (some y) else Mp.ret none
      | none => bad) (l.map enc)) (fun ds => ∃ zs : List (Option γ), zs.length = l.length ∧ (∀ p ∈ l.zip zs, G p.1 p.2) ∧ ds = (zs.filterMap id).map enc') (fun _ => P) := turns_tri fun x hx => by
    simp only [hp x]
    exact noxT (hb x hx)
  refine eq (m' := (evi C it ρ >>= fun xs => turns1 xs (fun x => match p.put x (wipeD ρ own) with
      | some ρ' => nox do
        let t ← tsto C ifs ρ'
        if t then do let y ← ev C e ρ'; Mp.ret (some y) else Mp.ret none
      | none => bad) >>= fun ys => Mp.new false ys >>= k)) (funext fun st => ?_) ?_
  · have e2 : ev C (.lc false own p it ifs e) ρ = (evi C it ρ >>= fun xs => turns1 xs (fun x => match p.put x (wipeD ρ own) with
      | some ρ' => nox do
        let t ← tsto C ifs ρ'
        if t then do let y ← ev C e ρ'; Mp.ret (some y) else Mp.ret none
      | none => bad) >>= fun ys => Mp.new false ys) := rfl
    rw [e2]
    simp only [b_st]
    cases evi C it ρ st with
    | ok xs st1 =>
      simp only [t_ok]
      generalize (turns1 xs fun x => match p.put x (wipeD ρ own) with
      | some ρ' => nox do
        let t ← tsto C ifs ρ'
        if t then do let y ← ev C e ρ'; Mp.ret (some y) else Mp.ret none
      | none => bad) = T1
      simp only [b_st]
      cases T1 st1 <;> rfl
    | _ => rfl
  · refine kp hi ?_
    have hl2 : (l.map enc).length ≤ lim := by simpa [lim] using hl
    unfold turns1
    rw [if_pos hl2]
    refine bind key fun ds ⟨zs, h1, h2, h3⟩ => ?_
    rw [h3]
    exact hk zs h1 h2
theorem turnsL_ok {α : Type} {f : D → M (Option D)} {enc : α → D} {h : α → Option D} {l : List α} {i : Nat} {st : Store} (hs : st[i]? = some (.lst (l.map enc))) (hf : ∀ x ∈ l, f (enc x) = Mp.ret (h x)) : ∀ (n k : Nat), l.length < n + k → k ≤ l.length → turnsL f i n k st = R.ok ((l.drop k).filterMap h) st
  | n, k, hn, hk0 => by
    rcases Nat.lt_or_ge k l.length with hk | hk
    · cases n with
      | zero => omega
      | succ n =>
        have e1 : (l.map enc)[k]? = some (enc l[k]) := by simp [hk]
        have e2 := hf l[k] (List.getElem_mem hk)
        have e3 := turnsL_ok hs hf n (k + 1) (by omega) (by omega)
        simp only [turnsL, hs, e1, b_st, e2, r_st, t_ok, e3]
        rw [show l.drop k = l[k] :: l.drop (k + 1) from List.drop_eq_getElem_cons hk, List.filterMap_cons]
        cases e4 : h l[k] <;> rfl
    · cases n with
      | zero => omega
      | succ n =>
        have e1 : (l.map enc)[k]? = none := by simp [hk]
        simp only [turnsL, hs, e1]
        rw [List.drop_eq_nil_of_le hk]
        rfl
/-- a comprehension over a list that is alive -/
theorem lcL {own : List Nat} {p : Pt} {a : E} {ifs : To} {e : E} {α : Type} {enc : α → D} {l : List α} {c : α → Bool} {g : α → D} {ρ' : α → Env} {i : Nat} {k : D → M β}
    (hi : ev C a ρ = Mp.ret (.obj i)) (hs : ∀ st, P st → st[i]? = some (.lst (l.map enc))) (hp : ∀ x, p.put (enc x) (wipeD ρ own) = some (ρ' x)) (ht : ∀ x, x ∈ l → tsto C ifs (ρ' x) = Mp.ret (c x)) (he : ∀ x, x ∈ l → c x = true → ev C e (ρ' x) = Mp.ret (g x)) (hl : l.length < 100000)
    (hk : Tri P (k (.lst ((l.filter c).map g))) Q P') : Tri P (ev C (.lcL false own p a ifs e) ρ >>= k) Q P' := fun st h => by
  obtain ⟨b, st2, e2, q⟩ := hk st h
  refine ⟨b, st2, ?_, q⟩
  have key := turnsL_ok (f := fun x => match p.put x (wipeD ρ own) with
      | some ρ' => nox do
        let t ← tsto C ifs ρ'
        if t then do let y ← ev C e ρ'; Mp.ret (some y) else Mp.ret none
      | none => bad) (h := fun x => if c x = true then some (g x) else none) (hs st h) (fun x hx => by
    simp only [hp x, ht x hx, W.rb]
    cases hk : c x
    · simp [W.nox_ret]
    · simp [he x hx hk, W.rb, W.nox_ret]) limL 0 (by show l.length < 100000 + 0; omega) (Nat.zero_le _)
  have e1 : ev C (.lcL false own p a ifs e) ρ = (ev C a ρ >>= fun x => match x with
    | .obj i => turnsL (fun x => match p.put x (wipeD ρ own) with
        | some ρ' => nox do
          let t ← tsto C ifs ρ'
          if t then do let y ← ev C e ρ'; Mp.ret (some y) else Mp.ret none
        | none => bad) i limL 0 >>= fun ys => Mp.new false ys
    | x => held x >>= fun xs => turns1 xs (fun x => match p.put x (wipeD ρ own) with
        | some ρ' => nox do
          let t ← tsto C ifs ρ'
          if t then do let y ← ev C e ρ'; Mp.ret (some y) else Mp.ret none
        | none => bad) >>= fun ys => Mp.new false ys) := rfl
  rw [b_st, e1, hi, W.rb]
  dsimp only
  rw [b_st, key, t_ok, List.drop_zero, W.fmap]
  exact e2
/-- one that is true at each turn -/
theorem lcT {own : List Nat} {p : Pt} {it : It} {e : E} {α : Type} {enc : α → D} {l : List α} {ρ' : α → Env} {k : D → M β}
    (hi : evi C it ρ = Mp.ret (l.map enc)) (hp : ∀ x, p.put (enc x) (wipeD ρ own) = some (ρ' x))
    (hb : ∀ x, x ∈ l → Tri P (ev C e (ρ' x)) (fun d => d = .bl true) (fun _ => P))
    (hl : l.length ≤ 1000000) (hk : Tri P (k (.lst (l.map fun _ => .bl true))) Q P') : Tri P (ev C (.lc false own p it .no e) ρ >>= k) Q P' := by
  refine lc (enc' := D.bl) (G := fun _ z => z = some true) hi hp (fun x hx => ?_) hl fun zs h1 h2 => ?_
  · refine kp (W.tno) ?_
    rw [if_pos rfl]
    refine bind (hb x hx) fun d hd => ?_
    subst hd
    exact ret ⟨some true, rfl, rfl⟩ fun _ h => h
  · have e1 : zs = l.map fun _ => some true := by
      clear hk hi hb hl
      induction l generalizing zs with
      | nil =>
        cases zs with
        | nil => rfl
        | cons _ _ => simp at h1
      | cons x l ih =>
        cases zs with
        | nil => simp at h1
        | cons z zs =>
          rw [List.map_cons, ih zs (by simpa using h1) fun p hp => h2 p (by simp [hp])]
          have e3 : z = some true := h2 (x, z) (by simp)
          rw [e3]
    have e2 : (zs.filterMap id).map D.bl = l.map fun _ => D.bl true := by
      rw [e1]
      clear hk hi hb hl h1 h2 e1
      induction l with
      | nil => rfl
      | cons x l ih => simp_all
    rw [e2]
    exact hk
theorem endk {m : M D} {Q : D → Prop} {P' : D → Store → Prop} (h : Tri P (m >>= Mp.ret) Q P') : Tri P m Q P' := by
  refine eq (funext fun st => ?_) h
  rw [b_st]
  cases m st <;> rfl
end
end T
end Mp
end
section
set_option autoImplicit false
set_option Elab.async false
set_option linter.all false
set_option maxRecDepth 100000
set_option maxHeartbeats 4000000
/-! PlSpace: spaces and lots, plainly. -/
namespace Mp
/-- a lot of so many places -/
structure Lot (n : Nat) (l : List Nat) : Prop where
  asc : Asc l
  lt : ∀ x ∈ l, x < n
theorem Lot.len {n : Nat} {l : List Nat} (h : Lot n l) : l.length ≤ n := asc_len h.asc h.lt
theorem Lot.filter {n : Nat} {l : List Nat} (h : Lot n l) (p : Nat → Bool) : Lot n (l.filter p) := ⟨h.asc.filter p, fun x hx => h.lt x (List.mem_filter.mp hx).1⟩
theorem asc_range (n : Nat) : Asc (List.range n) := List.pairwise_lt_range
theorem Lot.range (n : Nat) : Lot n (List.range n) := ⟨asc_range n, fun x hx => List.mem_range.mp hx⟩
theorem Lot.nil (n : Nat) : Lot n [] := ⟨List.Pairwise.nil, by simp⟩
theorem Lot.ext {n m : Nat} {a b : List Nat} (ha : Lot n a) (hb : Lot m b) (h : ∀ x, x ∈ a ↔ x ∈ b) : a = b := asc_ext ha.asc hb.asc h
theorem asc_zip : ∀ {l : List Nat}, Asc l → ((l.zip (l.drop 1)).all fun p => decide (p.1 < p.2)) = true
  | [], _ => rfl
  | [x], _ => rfl
  | x :: y :: r, h => by
    have h2 := List.pairwise_cons.mp h
    have ih := asc_zip h2.2
    simp only [List.drop_succ_cons, List.drop_zero, List.zip_cons_cons, List.all_cons, Bool.and_eq_true, decide_eq_true_eq]
    exact ⟨h2.1 y (.head _), ih⟩
section
variable {n : Nat} {s : Spc}
theorem Valid.rget (v : Valid n s) {i : Nat} (h : i < n) : s[i]? = some (rc s i) := v.get h
theorem Valid.lot (v : Valid n s) (i : Nat) : Lot n (rc s i) := by
  rcases Nat.lt_or_ge i n with h | h
  · exact ⟨v.asc i _ (v.get h), v.lt i _ (v.get h)⟩
  · have : rc s i = [] := by
      unfold rc
      rw [List.getElem?_eq_none (by rw [v.len]; exact h)]
      rfl
    rw [this]
    exact Lot.nil n
theorem Valid.rlen (v : Valid n s) (i : Nat) : (rc s i).length ≤ n := (v.lot i).len
theorem Valid.self (v : Valid n s) {i : Nat} (h : i < n) : i ∈ rc s i := v.refl i _ (v.get h)
theorem Valid.trans (v : Valid n s) {i j k : Nat} (h : i < n) (h1 : j ∈ rc s i) (h2 : k ∈ rc s j) : k ∈ rc s i := v.tr i _ (v.get h) j h1 _ (v.get ((v.lot i).lt j h1)) k h2
end
end Mp
end
section
set_option autoImplicit false
set_option Elab.async false
set_option linter.all false
set_option maxRecDepth 100000
set_option maxHeartbeats 4000000
/-! PlBall: what is come to by steps, and that so many steps as places are enough. -/
namespace Mp
def Bl (R : Nat → List Nat) : Nat → Nat → Nat → Prop
  | 0, p, x => x = p
  | k + 1, p, x => ∃ m, Bl R k p m ∧ x ∈ R m
section
variable {R : Nat → List Nat} {n : Nat}
theorem bl_add {p m x : Nat} {k : Nat} (h : Bl R k p m) : ∀ {j : Nat} {x : Nat}, Bl R j m x → Bl R (k + j) p x
  | 0, x, h2 => by
    obtain rfl : x = m := h2
    exact h
  | j + 1, x, ⟨y, h2, h3⟩ => ⟨y, bl_add (x := x) h h2, h3⟩
theorem bl_lt (hR : ∀ m < n, ∀ x ∈ R m, x < n) {p : Nat} (hp : p < n) : ∀ {k x : Nat}, Bl R k p x → x < n
  | 0, x, h => by
    obtain rfl : x = p := h
    exact hp
  | k + 1, x, ⟨m, h, h2⟩ => hR m (bl_lt hR hp h) x h2
theorem bl_up (hR : ∀ m < n, ∀ x ∈ R m, x < n) (hr : ∀ m < n, m ∈ R m) {p : Nat} (hp : p < n) {k x : Nat} (h : Bl R k p x) : Bl R (k + 1) p x := ⟨x, h, hr x (bl_lt hR hp h)⟩
theorem bl_le (hR : ∀ m < n, ∀ x ∈ R m, x < n) (hr : ∀ m < n, m ∈ R m) {p : Nat} (hp : p < n) {k x : Nat} (h : Bl R k p x) : ∀ {j : Nat}, k ≤ j → Bl R j p x
  | 0, hj => by
    obtain rfl : k = 0 := by omega
    exact h
  | j + 1, hj => by
    rcases Nat.lt_or_ge j k with q | q
    · obtain rfl : k = j + 1 := by omega
      exact h
    · exact bl_up hR hr hp (bl_le hR hr hp h q)
theorem bl_two {p : Nat} {k : Nat} (h : ∀ x, Bl R (k + 1) p x → Bl R k p x) : ∀ {j : Nat} {x : Nat}, Bl R (k + j) p x → Bl R k p x
  | 0, x, h2 => h2
  | j + 1, x, ⟨m, h2, h3⟩ => h x ⟨m, bl_two h h2, h3⟩
open Classical in
/-- so many steps as there are places, less one, are enough -/
theorem bl_stop (hR : ∀ m < n, ∀ x ∈ R m, x < n) (hr : ∀ m < n, m ∈ R m) {p : Nat} (hp : p < n) {k x : Nat} (h : Bl R k p x) : Bl R (n - 1) p x := by
  have cnt : ∀ k, (∃ j < k, ∀ x, Bl R (j + 1) p x → Bl R j p x) ∨ k + 1 ≤ ((List.range n).filter fun x => decide (Bl R k p x)).length := by
    intro k
    induction k with
    | zero =>
      right
      have : p ∈ (List.range n).filter fun x => decide (Bl R 0 p x) := by simp [hp, Bl]
      exact List.length_pos_of_mem this
    | succ k ih =>
      rcases ih with ⟨j, hj, h⟩ | ih
      · exact .inl ⟨j, by omega, h⟩
      · by_cases q : ∀ x, Bl R (k + 1) p x → Bl R k p x
        · exact .inl ⟨k, by omega, q⟩
        · right
          have q2 : ∃ y, Bl R (k + 1) p y ∧ ¬ Bl R k p y := by
            refine Classical.byContradiction fun z => q fun x hx => Classical.byContradiction fun w => z ⟨x, hx, w⟩
          obtain ⟨y, h1, h2⟩ := q2
          have hy := bl_lt hR hp h1
          have sub : ∀ l : List Nat, (l.filter fun x => decide (Bl R k p x)).length ≤ (l.filter fun x => decide (Bl R (k + 1) p x)).length := fun l => by
            rw [← List.countP_eq_length_filter, ← List.countP_eq_length_filter]
            refine List.countP_mono_left fun x _ hx => ?_
            have := of_decide_eq_true hx
            exact decide_eq_true (bl_up hR hr hp this)
          have lt : ∀ l : List Nat, y ∈ l → (l.filter fun x => decide (Bl R k p x)).length < (l.filter fun x => decide (Bl R (k + 1) p x)).length := by
            intro l
            induction l with
            | nil => intro h; cases h
            | cons a l ihl =>
              intro hy
              have s := sub l
              by_cases e : a = y
              · subst e
                simp only [List.filter_cons, h1, h2, decide_true, decide_false, if_true]
                simp
                omega
              · have hy2 : y ∈ l := by
                  rcases List.mem_cons.mp hy with z | z
                  · exact absurd z.symm e
                  · exact z
                have := ihl hy2
                by_cases ha : Bl R k p a
                · have ha2 := bl_up hR hr hp ha
                  simp only [List.filter_cons, ha, ha2, decide_true, if_true, List.length_cons]
                  omega
                · by_cases ha2 : Bl R (k + 1) p a
                  · simp only [List.filter_cons, ha, ha2, decide_true, decide_false, if_true, List.length_cons]
                    simp
                    omega
                  · simp only [List.filter_cons, ha, ha2, decide_false]
                    simpa using this
          have := lt (List.range n) (List.mem_range.mpr hy)
          omega
  have fin : ∃ j < n, ∀ x, Bl R (j + 1) p x → Bl R j p x := by
    rcases cnt n with h | h
    · exact h
    · have := List.length_filter_le (fun x => decide (Bl R n p x)) (List.range n)
      rw [List.length_range] at this
      omega
  obtain ⟨j, hj, hs⟩ := fin
  have h1 : Bl R j p x := by
    rcases Nat.lt_or_ge k j with q | q
    · exact bl_le hR hr hp h (by omega)
    · exact bl_two hs (j := k - j) (by rw [show j + (k - j) = k by omega]; exact h)
  exact bl_le hR hr hp h1 (by omega)
end
/-- a place's row: its own place, each place once -/
structure RowOk (n p : Nat) (r : List Nat) : Prop where
  lt : ∀ x ∈ r, x < n
  nd : r.Nodup
  self : p ∈ r
theorem RowOk.len {n p : Nat} {r : List Nat} (h : RowOk n p r) : r.length ≤ n := by
  have := asc_len (asc_sortN h.nd) fun x hx => h.lt x (mem_sortN.mp hx)
  have e : (sortN r).length = r.length := by
    clear this h
    have ins : ∀ (x : Nat) (l : List Nat), (insN x l).length = l.length + 1 := fun x l => by
      induction l with
      | nil => rfl
      | cons y l ih =>
        simp only [insN]
        split <;> simp [ih]
    induction r with
    | nil => rfl
    | cons x r ih => simp [sortN, ins, ih]
  omega
theorem rc_set {rows : List (List Nat)} {i j : Nat} {r : List Nat} (h : i < rows.length) : rc (rows.set i r) j = if j = i then r else rc rows j := by
  unfold rc
  by_cases e : j = i
  · subst e
    simp [h]
  · rw [List.getElem?_set_ne (Ne.symm e), if_neg e]
/-- rows that are closed up make a space -/
theorem rows_valid {n : Nat} {rows : List (List Nat)} (hl : rows.length = n) (ok : ∀ p < n, RowOk n p (rc rows p)) (tr : ∀ p < n, ∀ x ∈ rc rows p, ∀ y ∈ rc rows x, y ∈ rc rows p) : Valid n (rows.map sortN) where
  len := by simp [hl]
  asc := fun i r h => by
    rw [List.getElem?_map] at h
    obtain ⟨q, hq, rfl⟩ := Option.map_eq_some_iff.mp h
    have hi : i < n := by rw [← hl]; exact (List.getElem?_eq_some_iff.mp hq).1
    have := (ok i hi).nd
    rw [show rc rows i = q by simp [rc, hq]] at this
    exact asc_sortN this
  lt := fun i r h x hx => by
    rw [List.getElem?_map] at h
    obtain ⟨q, hq, rfl⟩ := Option.map_eq_some_iff.mp h
    have hi : i < n := by rw [← hl]; exact (List.getElem?_eq_some_iff.mp hq).1
    have := (ok i hi).lt x
    rw [show rc rows i = q by simp [rc, hq]] at this
    exact this (mem_sortN.mp hx)
  refl := fun i r h => by
    rw [List.getElem?_map] at h
    obtain ⟨q, hq, rfl⟩ := Option.map_eq_some_iff.mp h
    have hi : i < n := by rw [← hl]; exact (List.getElem?_eq_some_iff.mp hq).1
    have := (ok i hi).self
    rw [show rc rows i = q by simp [rc, hq]] at this
    exact mem_sortN.mpr this
  tr := fun i r h j hj q hq k hk => by
    rw [List.getElem?_map] at h hq
    obtain ⟨r0, h0, rfl⟩ := Option.map_eq_some_iff.mp h
    obtain ⟨q0, h1, rfl⟩ := Option.map_eq_some_iff.mp hq
    have hi : i < n := by rw [← hl]; exact (List.getElem?_eq_some_iff.mp h0).1
    have e0 : rc rows i = r0 := by simp [rc, h0]
    have e1 : rc rows j = q0 := by simp [rc, h1]
    have := tr i hi j (by rw [e0]; exact mem_sortN.mp hj) k (by rw [e1]; exact mem_sortN.mp hk)
    rw [e0] at this
    exact mem_sortN.mpr this
/-- what is left after so many turns -/
structure Grown (n : Nat) (R : Nat → List Nat) (t : Nat) (rows : List (List Nat)) : Prop where
  len : rows.length = n
  ok : ∀ p < n, RowOk n p (rc rows p)
  lo : ∀ p < n, ∀ x, Bl R t p x → x ∈ rc rows p
  hi : ∀ p < n, ∀ x ∈ rc rows p, ∃ k, Bl R k p x
theorem Grown.valid {n : Nat} {R : Nat → List Nat} {t : Nat} {rows : List (List Nat)} (g : Grown n R t rows) (hR : ∀ m < n, ∀ x ∈ R m, x < n) (hr : ∀ m < n, m ∈ R m) (ht : n ≤ t + 1) : Valid n (rows.map sortN) := by
  refine rows_valid g.len g.ok fun p hp x hx y hy => ?_
  have hxn := (g.ok p hp).lt x hx
  obtain ⟨k, h1⟩ := g.hi p hp x hx
  obtain ⟨j, h2⟩ := g.hi x hxn y hy
  exact g.lo p hp y (bl_le hR hr hp (bl_stop hR hr hp (bl_add (x := y) h1 h2)) (by omega))
/-- within a turn: the places ahead of i are through -/
structure G2 (n : Nat) (R : Nat → List Nat) (t i : Nat) (rows : List (List Nat)) : Prop where
  len : rows.length = n
  ok : ∀ p < n, RowOk n p (rc rows p)
  lo : ∀ p < n, ∀ x, Bl R t p x → x ∈ rc rows p
  lo2 : ∀ p < n, p < i → ∀ x, Bl R (t + 1) p x → x ∈ rc rows p
  hi : ∀ p < n, ∀ x ∈ rc rows p, ∃ k, Bl R k p x
def grow (rows : List (List Nat)) (p m : Nat) : List (List Nat) := rows.set p (rc rows p ++ (rc rows m).filter fun x => !decide (x ∈ rc rows p))
theorem grow_mem {rows : List (List Nat)} {p m : Nat} (hp : p < rows.length) {x : Nat} : x ∈ rc (grow rows p m) p ↔ x ∈ rc rows p ∨ x ∈ rc rows m := by
  unfold grow
  rw [rc_set hp, if_pos rfl, List.mem_append, List.mem_filter]
  by_cases h : x ∈ rc rows p <;> simp [h]
theorem grow_ne {rows : List (List Nat)} {p m q : Nat} (hp : p < rows.length) (h : q ≠ p) : rc (grow rows p m) q = rc rows q := by
  unfold grow
  rw [rc_set hp, if_neg h]
theorem G2.grow {n : Nat} {R : Nat → List Nat} {t i : Nat} {rows : List (List Nat)} (g : G2 n R t i rows) {p m : Nat} (hp : p < n) (hm : m ∈ rc rows p) : G2 n R t i (Mp.grow rows p m) := by
  have hpl : p < rows.length := by rw [g.len]; exact hp
  have hmn := (g.ok p hp).lt m hm
  refine ⟨by simp [Mp.grow, g.len], fun q hq => ?_, fun q hq x hx => ?_, fun q hq hi x hx => ?_, fun q hq x hx => ?_⟩
  · by_cases e : q = p
    · subst e
      have a := g.ok q hq
      have b := g.ok m hmn
      refine ⟨fun x hx => ?_, ?_, (grow_mem hpl).mpr (.inl a.self)⟩
      · rcases (grow_mem hpl).mp hx with h | h
        · exact a.lt x h
        · exact b.lt x h
      · unfold Mp.grow
        rw [rc_set hpl, if_pos rfl, List.nodup_append]
        refine ⟨a.nd, b.nd.filter _, fun x hx y hy => ?_⟩
        rintro rfl
        have := (List.mem_filter.mp hy).2
        simp [hx] at this
    · rw [grow_ne hpl e]
      exact g.ok q hq
  · by_cases e : q = p
    · subst e
      exact (grow_mem hpl).mpr (.inl (g.lo q hq x hx))
    · rw [grow_ne hpl e]
      exact g.lo q hq x hx
  · by_cases e : q = p
    · subst e
      exact (grow_mem hpl).mpr (.inl (g.lo2 q hq hi x hx))
    · rw [grow_ne hpl e]
      exact g.lo2 q hq hi x hx
  · by_cases e : q = p
    · subst e
      rcases (grow_mem hpl).mp hx with h | h
      · exact g.hi q hq x h
      · obtain ⟨k1, h1⟩ := g.hi q hq m hm
        obtain ⟨k2, h2⟩ := g.hi m hmn x h
        exact ⟨k1 + k2, bl_add (x := x) h1 h2⟩
    · rw [grow_ne hpl e] at hx
      exact g.hi q hq x hx
theorem Grown.g2 {n : Nat} {R : Nat → List Nat} {t : Nat} {rows : List (List Nat)} (g : Grown n R t rows) : G2 n R t 0 rows := ⟨g.len, g.ok, g.lo, fun p hp h => absurd h (Nat.not_lt_zero _), g.hi⟩
theorem G2.grown {n : Nat} {R : Nat → List Nat} {t : Nat} {rows : List (List Nat)} (g : G2 n R t n rows) : Grown n R (t + 1) rows := ⟨g.len, g.ok, fun p hp => g.lo2 p hp hp, g.hi⟩
/-- a place is through -/
theorem G2.next {n : Nat} {R : Nat → List Nat} {t i : Nat} {rows : List (List Nat)} (hR : ∀ m < n, ∀ x ∈ R m, x < n) (hr : ∀ m < n, m ∈ R m) (ht : 1 ≤ t) (hi : i < n) {S : List Nat} (hS : ∀ x, Bl R t i x → x ∈ S) (hSn : ∀ x ∈ S, x < n) (g : G2 n R t i rows) (h : ∀ m ∈ S, ∀ x, Bl R t m x → x ∈ rc rows i) : G2 n R t (i + 1) rows := by
  refine ⟨g.len, g.ok, g.lo, fun p hp h2 x hx => ?_, g.hi⟩
  rcases Nat.lt_or_ge p i with q | q
  · exact g.lo2 p hp q x hx
  · obtain rfl : p = i := by omega
    obtain ⟨m, h3, h4⟩ := hx
    have hm := hS m h3
    exact h m hm x (bl_le hR hr (hSn m hm) (k := 1) ⟨m, rfl, h4⟩ ht)
end Mp
end
section
set_option autoImplicit false
set_option Elab.async false
set_option linter.all false
set_option maxRecDepth 100000
set_option maxHeartbeats 4000000
/-! PlMaps: maps that keep near, place by place. -/
namespace Mp
/-- whether a row of places goes on with one more -/
def okm (s t : Spc) (row : List Nat) (x : Nat) : Bool :=
  (((rc s row.length).filter fun a => decide (a < row.length)).all fun a => decide (row[a]?.getD 0 ∈ rc t x)) && (((List.range row.length).filter fun a => decide (row.length ∈ rc s a)).all fun a => decide (x ∈ rc t (row[a]?.getD 0)))
def mapsN (s t : Spc) : Nat → List (List Nat)
  | 0 => [[]]
  | k + 1 => (mapsN s t k).flatMap fun row => ((List.range t.length).filter (okm s t row)).map fun x => row ++ [x]
theorem mapsN_len {s t : Spc} : ∀ {k : Nat} {row : List Nat}, row ∈ mapsN s t k → row.length = k ∧ ∀ x ∈ row, x < t.length
  | 0, row, h => by
    have : row = [] := by simpa [mapsN] using h
    subst this
    simp
  | k + 1, row, h => by
    simp only [mapsN, List.mem_flatMap, List.mem_map, List.mem_filter, List.mem_range] at h
    obtain ⟨r, hr, x, ⟨hx, _⟩, rfl⟩ := h
    obtain ⟨h1, h2⟩ := mapsN_len hr
    refine ⟨by simp [h1], fun y hy => ?_⟩
    rcases List.mem_append.mp hy with e | e
    · exact h2 y e
    · have : y = x := by simpa using e
      omega
theorem mapsN_cnt {s t : Spc} : ∀ k : Nat, (mapsN s t k).length ≤ t.length ^ k
  | 0 => by simp [mapsN]
  | k + 1 => by
    have ih := mapsN_cnt (s := s) (t := t) k
    have : ∀ l : List (List Nat), (l.flatMap fun row => ((List.range t.length).filter (okm s t row)).map fun x => row ++ [x]).length ≤ l.length * t.length := fun l => by
      induction l with
      | nil => simp
      | cons r l ih =>
        have h1 := List.length_filter_le (okm s t r) (List.range t.length)
        rw [List.length_range] at h1
        simp only [List.flatMap_cons, List.length_append, List.length_map, List.length_cons, Nat.succ_mul]
        omega
    have h2 := this (mapsN s t k)
    have h3 : (mapsN s t k).length * t.length ≤ t.length ^ k * t.length := Nat.mul_le_mul_right _ ih
    simp only [mapsN, Nat.pow_succ]
    omega
theorem flat_len {α β : Type} {f : α → List β} {K : Nat} : ∀ {l : List α}, (∀ r ∈ l, (f r).length ≤ K) → (l.flatMap f).length ≤ l.length * K
  | [], _ => by simp
  | r :: l, h => by
    have h1 := h r (.head _)
    have h2 := flat_len (l := l) fun q hq => h q (.tail _ hq)
    simp only [List.flatMap_cons, List.length_append, List.length_cons, Nat.succ_mul]
    omega
theorem pow_top {a k m K : Nat} (ha : a ≤ m) (hk : k ≤ K) (hm : 0 < m) : a ^ k ≤ m ^ K := Nat.le_trans (Nat.pow_le_pow_left ha k) (Nat.pow_le_pow_right hm hk)
theorem mapsN_5 {s t : Spc} {k : Nat} (h : t.length ≤ 5) (hk : k ≤ 5) : (mapsN s t k).length ≤ 3125 := Nat.le_trans (mapsN_cnt k) (pow_top (m := 5) (K := 5) h hk (by omega))
theorem mapsN_4 {s t : Spc} {k : Nat} (h : t.length ≤ 4) (hk : k ≤ 4) : (mapsN s t k).length ≤ 256 := Nat.le_trans (mapsN_cnt k) (pow_top (m := 4) (K := 4) h hk (by omega))
theorem mul_top {a b c d e : Nat} (h : a ≤ c) (h2 : b ≤ d) (e1 : c * d = e) : a * b ≤ e := e1 ▸ Nat.mul_le_mul h h2
/-- the last place of a row against all of it -/
def fitB (s t : Spc) (row : List Nat) : Bool := (W.enm row).all fun p => !(decide (p.1 ∈ rc s (row.length - 1)) && !decide (p.2 ∈ rc t (row[row.length - 1]?.getD 0))) && !(decide (row.length - 1 ∈ rc s p.1) && !decide (row[row.length - 1]?.getD 0 ∈ rc t p.2))
theorem fitB_okm {s t : Spc} {n m : Nat} (vs : Valid n s) (vt : Valid m t) {row : List Nat} {x : Nat} (hr : row.length < n) (hx : x < m) : fitB s t (row ++ [x]) = okm s t row x := by
  rw [Bool.eq_iff_iff]
  unfold fitB okm
  have e1 : (row ++ [x]).length - 1 = row.length := by simp
  have e2 : (row ++ [x])[row.length]?.getD 0 = x := by simp
  rw [e1, e2]
  simp only [List.all_eq_true, Bool.and_eq_true, Bool.not_eq_true', Bool.and_eq_false_iff, decide_eq_false_iff_not, Bool.not_eq_false', decide_eq_true_eq, List.mem_filter, List.mem_range]
  have mem : ∀ p : Nat × Nat, p ∈ W.enm (row ++ [x]) ↔ (row[p.1]? = some p.2 ∨ (p.1 = row.length ∧ p.2 = x)) := fun p => by
    rw [W.mem_enm]
    rcases Nat.lt_trichotomy p.1 row.length with h | h | h
    · rw [List.getElem?_append_left h]
      constructor
      · exact .inl
      · rintro (q | q)
        · exact q
        · omega
    · rw [h]
      simp only [List.getElem?_append_right (Nat.le_refl _), Nat.sub_self, List.getElem?_cons_zero, Option.some.injEq]
      constructor
      · exact fun e => .inr ⟨by trivial, e.symm⟩
      · rintro (q | q)
        · simp at q
        · exact q.2.symm
    · rw [List.getElem?_eq_none (by simp; omega)]
      constructor
      · intro q; cases q
      · rintro (q | q)
        · rw [List.getElem?_eq_none (by omega)] at q
          cases q
        · omega
  constructor
  · intro h
    refine ⟨fun a ⟨h1, h2⟩ => ?_, fun a ⟨h1, h2⟩ => ?_⟩
    · have h3 : row[a]? = some row[a] := List.getElem?_eq_getElem h2
      have := (h (a, row[a]) ((mem _).mpr (.inl h3))).1
      rw [h3]
      rcases this with q | q
      · exact absurd h1 q
      · exact q
    · have h3 : row[a]? = some row[a] := List.getElem?_eq_getElem h1
      have := (h (a, row[a]) ((mem _).mpr (.inl h3))).2
      rw [h3]
      rcases this with q | q
      · exact absurd h2 q
      · exact q
  · rintro ⟨h1, h2⟩ p hp
    rcases (mem p).mp hp with q | ⟨q1, q2⟩
    · have h3 : p.1 < row.length := (List.getElem?_eq_some_iff.mp q).1
      refine ⟨?_, ?_⟩
      · by_cases e : p.1 ∈ rc s row.length
        · have := h1 p.1 ⟨e, h3⟩
          rw [q] at this
          exact .inr this
        · exact .inl e
      · by_cases e : row.length ∈ rc s p.1
        · have := h2 p.1 ⟨h3, e⟩
          rw [q] at this
          exact .inr this
        · exact .inl e
    · rw [q2]
      exact ⟨.inr (vt.self hx), .inr (vt.self hx)⟩
theorem flat_congr {α β : Type} {f g : α → List β} {l : List α} (h : ∀ x ∈ l, f x = g x) : l.flatMap f = l.flatMap g := by
  induction l with
  | nil => rfl
  | cons x l ih => rw [List.flatMap_cons, List.flatMap_cons, h x (.head _), ih fun y hy => h y (.tail _ hy)]
theorem all_congr {α : Type} {f g : α → Bool} {l : List α} (h : ∀ x ∈ l, f x = g x) : l.all f = l.all g := by
  induction l with
  | nil => rfl
  | cons x l ih => rw [List.all_cons, List.all_cons, h x (.head _), ih fun y hy => h y (.tail _ hy)]
/-- a search that answers False -/
theorem find_all {α : Type} {o : α → Option D} {c : α → Bool} {l : List α} (h : ∀ x ∈ l, o x = if c x = true then none else some (.bl false)) : (l.findSome? o).getD (.bl true) = .bl (l.all c) := by
  induction l with
  | nil => rfl
  | cons x l ih =>
    rw [List.findSome?_cons, h x (.head _), List.all_cons]
    cases hc : c x
    · simp
    · simp [ih fun y hy => h y (.tail _ hy)]
end Mp
end
section
set_option autoImplicit false
set_option Elab.async false
set_option linter.all false
set_option maxRecDepth 100000
set_option maxHeartbeats 0
namespace NK44
open PySem PySem.Spec PyProof.Rows L2 Mp
/-- is_whole -/
def d0 : Def := ⟨1, 1, (.cons (.ret (.and (.isi (.v 0) [.int]) (.not (.isi (.v 0) [.bool]))))
  .nil)⟩
/-- is_between -/
def d1 : Def := ⟨3, 3, (.cons (.ret (.and (.call 0 (.cons (.v 0) .nil)) (.chain .le .le (.v 1) (.v 0) (.v 2))))
  .nil)⟩
/-- is_row -/
def d2 : Def := ⟨3, 3, (.cons (.ret (.and (.isi (.v 0) [.tuple]) (.chain .le .le (.v 1) (.b .len (.cons (.v 0) .nil)) (.v 2))))
  .nil)⟩
/-- first_wrong -/
def d3 : Def := ⟨2, 4, (.cons (.loop (.tup [2, 3]) (.enum (.v 0)) (.cons (.ite (.not (.val (.lamc 1 (.cons (.v 3) (.cons (.slc false (.v 0) .no (.yes (.v 2))) .nil))))) (.cons (.ret (.v 2))
  .nil) .nil)
  .nil))
  (.cons (.ret (.c .non))
  .nil))⟩
/-- is_lot_of -/
def d4 : Def := ⟨2, 5, (.cons (.ite (.or (.not (.val (.isi (.v 1) [.tuple]))) (.not (.val (.b .all (.cons (.lc false [4] (.nm 4) (.seq (.v 1)) .no (.call 1 (.cons (.v 4) (.cons (.c (.int 0)) (.cons (.op .sub (.v 0) (.c (.int 1))) .nil))))) .nil))))) (.cons (.ret (.c (.bl false)))
  .nil) .nil)
  (.cons (.ret (.b .all (.cons (.lc false [2, 3] (.tup [2, 3]) (.zip (.v 1) (.slc false (.v 1) (.yes (.c (.int 1))) .no)) .no (.cmp .lt (.v 2) (.v 3))) .nil)))
  .nil))⟩
/-- is_within -/
def d5 : Def := ⟨2, 3, (.cons (.ret (.b .all (.cons (.lc false [2] (.nm 2) (.seq (.v 0)) .no (.cmp .inn (.v 2) (.v 1))) .nil)))
  .nil)⟩
/-- is_reach_of -/
def d6 : Def := ⟨3, 3, (.cons (.ret (.and (.call 4 (.cons (.v 0) (.cons (.v 2) .nil))) (.cmp .inn (.v 1) (.v 2))))
  .nil)⟩
/-- is_closed_up -/
def d7 : Def := ⟨2, 3, (.cons (.ret (.b .all (.cons (.lc false [2] (.nm 2) (.seq (.v 1)) .no (.call 5 (.cons (.sub (.v 0) (.v 2)) (.cons (.v 1) .nil)))) .nil)))
  .nil)⟩
/-- wrong_reach -/
def d8 : Def := ⟨1, 4, (.cons (.set (.nm 1) (.calll 3 (.cons (.v 0) .nil) [2, 3] (.call 6 (.cons (.b .len (.cons (.v 0) .nil)) (.cons (.b .len (.cons (.v 3) .nil)) (.cons (.v 2) .nil))))))
  (.cons (.ite (.cmp .isn (.v 1) (.c .non)) (.cons (.ret (.v 1))
  .nil) .nil)
  (.cons (.ret (.calll 3 (.cons (.v 0) .nil) [2, 3] (.call 7 (.cons (.v 0) (.cons (.v 2) .nil)))))
  .nil)))⟩
/-- check_space -/
def d9 : Def := ⟨1, 2, (.cons (.ite (.not (.val (.call 2 (.cons (.v 0) (.cons (.c (.int 1)) (.cons (.g 0) .nil)))))) (.cons (.raise 1 (.yes (.c .non)))
  .nil) .nil)
  (.cons (.set (.nm 1) (.call 8 (.cons (.v 0) .nil)))
  (.cons (.ite (.cmp .isn (.v 1) (.c .non)) (.cons (.raise 1 (.yes (.v 1)))
  .nil) .nil)
  .nil)))⟩
/-- places_of -/
def d10 : Def := ⟨1, 1, (.cons (.ret (.b (.range1 false) (.cons (.b .len (.cons (.v 0) .nil)) .nil)))
  .nil)⟩
/-- is_near_by -/
def d11 : Def := ⟨3, 3, (.cons (.ret (.cmp .inn (.v 1) (.sub (.v 0) (.v 2))))
  .nil)⟩
/-- fits_so_far -/
def d12 : Def := ⟨3, 6, (.cons (.set (.nm 3) (.op .sub (.b .len (.cons (.v 2) .nil)) (.c (.int 1))))
  (.cons (.loop (.tup [4, 5]) (.enum (.v 2)) (.cons (.ite (.and (.val (.call 11 (.cons (.v 0) (.cons (.v 4) (.cons (.v 3) .nil))))) (.not (.val (.call 11 (.cons (.v 1) (.cons (.v 5) (.cons (.sub (.v 2) (.v 3)) .nil))))))) (.cons (.ret (.c (.bl false)))
  .nil) .nil)
  (.cons (.ite (.and (.val (.call 11 (.cons (.v 0) (.cons (.v 3) (.cons (.v 4) .nil))))) (.not (.val (.call 11 (.cons (.v 1) (.cons (.sub (.v 2) (.v 3)) (.cons (.v 5) .nil))))))) (.cons (.ret (.c (.bl false)))
  .nil) .nil)
  .nil)))
  (.cons (.ret (.c (.bl true)))
  .nil)))⟩
/-- maps_by -/
def d13 : Def := ⟨2, 7, (.cons (.set (.nm 2) (.lst false (.cons (.tup .nil) .nil)))
  (.cons (.loop (.nm 3) (.seq (.call 10 (.cons (.v 0) .nil))) (.cons (.set (.nm 4) (.lc2 false [5, 6] (.nm 5) (.seq (.v 2)) .no (.nm 6) (.seq (.call 10 (.cons (.v 1) .nil))) .no (.tup (.star (.v 5) (.cons (.v 6) .nil)))))
  (.cons (.set (.nm 2) (.lc false [5] (.nm 5) (.seq (.v 4)) (.yes (.val (.call 12 (.cons (.v 0) (.cons (.v 1) (.cons (.v 5) .nil)))))) (.v 5)))
  .nil)))
  (.cons (.ret (.v 2))
  .nil)))⟩
/-- check_few -/
def d14 : Def := ⟨3, 4, (.cons (.loop (.nm 3) (.seq (.tup (.cons (.v 0) (.cons (.v 1) .nil)))) (.cons (.expr (.call 9 (.cons (.v 3) .nil)))
  (.cons (.ite (.cmp .gt (.b .len (.cons (.v 3) .nil)) (.v 2)) (.cons (.raise 1 (.yes (.c .non)))
  .nil) .nil)
  .nil)))
  .nil)⟩
/-- count_maps -/
def d15 : Def := ⟨2, 2, (.cons (.expr (.call 14 (.cons (.v 0) (.cons (.v 1) (.cons (.g 1) .nil)))))
  (.cons (.ret (.b .len (.cons (.call 13 (.cons (.v 0) (.cons (.v 1) .nil))) .nil)))
  .nil))⟩
/-- _law_pool -/
def d16 : Def := ⟨2, 6, (.cons (.set (.tup (.cons (.nm 4) (.cons (.nm 5) .nil))) (.tup (.cons (.b .sum (.cons (.slc false (.v 0) (.yes (.v 1)) (.yes (.op (.add false) (.v 1) (.c (.int 1))))) .nil)) (.cons (.op (.add false) (.c (.int 50021)) (.op .mul (.c (.int 977)) (.v 1))) .nil))))
  (.cons (.set (.nm 2) (.op .mul (.op .mul (.op .mul (.op .mul (.op .mul (.op .pow (.c (.int 10)) (.c (.int 64))) (.op .pow (.c (.int 10)) (.c (.int 64)))) (.op .pow (.c (.int 10)) (.c (.int 64)))) (.op .pow (.c (.int 10)) (.c (.int 64)))) (.op .pow (.c (.int 10)) (.c (.int 64)))) (.op .pow (.c (.int 10)) (.c (.int 64)))))
  (.cons (.loop (.nm 3) (.seq (.slc false (.v 0) .no (.yes (.c (.int 12))))) (.cons (.set (.nm 5) (.op .mod (.op (.add false) (.op (.add false) (.op .mul (.v 5) (.c (.int 48271))) (.op .mul (.op .mod (.v 3) (.c (.int 2147483399))) (.c (.int 19)))) (.c (.int 7))) (.c (.int 2147483399))))
  .nil))
  (.cons (.ret (.lst true (.cons (.ite (.or (.cmp .lt (.v 4) (.c (.int 0))) (.cmp .ge (.v 4) (.op .pow (.c (.int 10)) (.c (.int 18))))) (.op .mod (.b .abs (.cons (.v 4) .nil)) (.v 2)) (.c (.int 0))) (.cons (.v 5) (.cons (.c (.int 0)) .nil)))))
  .nil))))⟩
/-- _law_take -/
def d17 : Def := ⟨2, 4, (.cons (.ite (.cmp .gt (.sub (.v 0) (.c (.int 0))) (.c (.int 0))) (.cons (.set (.tup (.cons (.sub (.v 0) (.c (.int 0))) (.cons (.nm 3) .nil))) (.b .divmod (.cons (.sub (.v 0) (.c (.int 0))) (.cons (.v 1) .nil))))
  (.cons (.ret (.v 3))
  .nil)) .nil)
  (.cons (.set (.sub (.v 0) (.c (.int 2))) (.op (.add false) (.sub (.v 0) (.c (.int 2))) (.c (.int 1))))
  (.cons (.set (.nm 2) (.op .mod (.op (.add false) (.sub (.v 0) (.c (.int 1))) (.op .mul (.c (.int 28657)) (.sub (.v 0) (.c (.int 2))))) (.c (.int 2147483399))))
  (.cons (.set (.sub (.v 0) (.c (.int 1))) (.op .mod (.op (.add false) (.op .mul (.v 2) (.op (.add false) (.op .mod (.v 2) (.c (.int 5003))) (.c (.int 48271)))) (.op .mul (.c (.int 17)) (.sub (.v 0) (.c (.int 2))))) (.c (.int 2147483399))))
  (.cons (.ret (.op .mod (.op .fdiv (.sub (.v 0) (.c (.int 1))) (.c (.int 613))) (.v 1)))
  .nil)))))⟩
/-- _law_space -/
def d18 : Def := ⟨3, 11, (.cons (.set (.nm 3) (.op (.add false) (.c (.int 1)) (.call 17 (.cons (.v 0) (.cons (.v 1) .nil)))))
  (.cons (.set (.nm 4) (.lst true .nil))
  (.cons (.loop (.nm 5) (.rng1 (.v 3)) (.cons (.expr (.m .append (.v 4) (.cons (.lc false [9] (.nm 9) (.rng1 (.v 3)) (.yes (.or (.cmp .eq (.v 9) (.v 5)) (.cmp .lt (.call 17 (.cons (.v 0) (.cons (.c (.int 12)) .nil))) (.v 2)))) (.v 9)) .nil)))
  .nil))
  (.cons (.loop (.nm 6) (.rng1 (.v 3)) (.cons (.loop (.nm 5) (.rng1 (.v 3)) (.cons (.loop (.nm 7) (.seq (.b (.list false) (.cons (.sub (.v 4) (.v 5)) .nil))) (.cons (.set (.sub (.v 4) (.v 5)) (.op (.add false) (.sub (.v 4) (.v 5)) (.lc false [10] (.nm 10) (.seq (.sub (.v 4) (.v 7))) (.yes (.cmp .nin (.v 10) (.sub (.v 4) (.v 5)))) (.v 10))))
  .nil))
  .nil))
  .nil))
  (.cons (.ret (.b .tuple (.cons (.lcL false [8] (.nm 8) (.v 4) .no (.b .tuple (.cons (.b (.sorted false) (.cons (.v 8) .nil)) .nil))) .nil)))
  .nil)))))⟩
/-- _law_right -/
def d19 : Def := ⟨2, 13, (.cons (.set (.tup (.cons (.nm 5) (.cons (.nm 6) .nil))) (.tup (.cons (.call 18 (.cons (.v 0) (.cons (.sub (.v 1) (.c (.int 0))) (.cons (.sub (.v 1) (.c (.int 1))) .nil)))) (.cons (.call 18 (.cons (.v 0) (.cons (.sub (.v 1) (.c (.int 0))) (.cons (.sub (.v 1) (.c (.int 1))) .nil)))) .nil))))
  (.cons (.set (.nm 2) (.lst false (.cons (.tup .nil) .nil)))
  (.cons (.loop (.nm 3) (.rng1 (.b .len (.cons (.v 5) .nil))) (.cons (.set (.nm 7) (.lst true .nil))
  (.cons (.loopL (.nm 8) (.v 2) (.cons (.loop (.nm 9) (.rng1 (.b .len (.cons (.v 6) .nil))) (.cons (.set (.nm 10) (.lc false [12] (.nm 12) (.seq (.sub (.v 5) (.v 3))) (.yes (.cmp .lt (.v 12) (.v 3))) (.cmp .inn (.sub (.v 8) (.v 12)) (.sub (.v 6) (.v 9)))))
  (.cons (.set (.nm 11) (.lc false [12] (.nm 12) (.rng1 (.v 3)) (.yes (.cmp .inn (.v 3) (.sub (.v 5) (.v 12)))) (.cmp .inn (.v 9) (.sub (.v 6) (.sub (.v 8) (.v 12))))))
  (.cons (.ite (.and (.val (.b .all (.cons (.v 10) .nil))) (.val (.b .all (.cons (.v 11) .nil)))) (.cons (.expr (.m .append (.v 7) (.cons (.op (.add false) (.v 8) (.tup (.cons (.v 9) .nil))) .nil)))
  .nil) .nil)
  .nil))))
  .nil))
  (.cons (.set (.nm 2) (.v 7))
  .nil))))
  (.cons (.set (.nm 4) (.b .len (.cons (.v 2) .nil)))
  (.cons (.ret (.cmp .eq (.b .repr (.cons (.lst false (.cons (.call 15 (.cons (.v 5) (.cons (.v 6) .nil))) (.cons (.callk 15 [1, 0] (.cons (.v 6) (.cons (.v 5) .nil))) .nil))) .nil)) (.b .repr (.cons (.lst false (.cons (.v 4) (.cons (.v 4) .nil))) .nil))))
  .nil)))))⟩
/-- law -/
def d20 : Def := ⟨1, 4, (.cons (.loop (.nm 1) (.rng1 (.b .max2 (.cons (.c (.int 2)) (.cons (.b .min2 (.cons (.b .len (.cons (.v 0) .nil)) (.cons (.c (.int 3)) .nil))) .nil)))) (.cons (.set (.nm 2) (.call 16 (.cons (.v 0) (.cons (.v 1) .nil))))
  (.cons (.loop (.nm 3) (.seq (.lst false (.cons (.tup (.cons (.c (.int 4)) (.cons (.c (.int 2)) .nil))) (.cons (.tup (.cons (.c (.int 4)) (.cons (.c (.int 1)) .nil))) (.cons (.tup (.cons (.c (.int 3)) (.cons (.c (.int 3)) .nil))) (.cons (.tup (.cons (.c (.int 4)) (.cons (.c (.int 4)) .nil))) (.cons (.tup (.cons (.c (.int 2)) (.cons (.c (.int 3)) .nil))) .nil))))))) (.cons (.ite (.not (.val (.call 19 (.cons (.v 2) (.cons (.v 3) .nil))))) (.cons (.ret (.c (.bl false)))
  .nil) .nil)
  .nil))
  .nil)))
  (.cons (.ret (.c (.bl true)))
  .nil))⟩
def P : Prog := { defs := [d0, d1, d2, d3, d4, d5, d6, d7, d8, d9, d10, d11, d12, d13, d14, d15, d16, d17, d18, d19, d20], glob := [(.int 7), (.int 5)], dics := [], flds := [], xat := [none, some [105, 110, 100, 101, 120], none], sub := [[0, 2], [0, 1, 2], []], fuel := 1000 }
def Tb9 : Tb := { free := ["abs", "all", "bool", "divmod", "enumerate", "int", "isinstance", "len", "list", "max", "min", "range", "repr", "sorted", "sum", "tuple", "zip"], fns := [("is_whole", 0), ("is_between", 1), ("is_row", 2), ("first_wrong", 3), ("is_lot_of", 4), ("is_within", 5), ("is_reach_of", 6), ("is_closed_up", 7), ("wrong_reach", 8), ("check_space", 9), ("places_of", 10), ("is_near_by", 11), ("fits_so_far", 12), ("maps_by", 13), ("check_few", 14), ("count_maps", 15), ("_law_pool", 16), ("_law_take", 17), ("_law_space", 18), ("_law_right", 19), ("law", 20)], mks := [], mts := [], globs := [("MOST_PLACES", 0), ("MOST_MAPPED", 1)], dics := [], cls := [], xc0 := [], xc1 := [("InvalidSpace", 1, [105, 110, 100, 101, 120])], xnm := [], xfs := [(1, [105, 110, 100, 101, 120])], lfns := [("first_wrong", 3)], kws := [("count_maps", 15, ["second", "space"], [1, 0])], owns := [] }
def top (i : Nat) : Stmt := PySem.Challenge.pw_nearlots_k44_numbers_of_maps.main.body.getD i (.Pass ⟨0, 0, 0, 0⟩)
def r0 : He.DefD := ⟨("is_whole", none), "is_whole", "is_whole", defArgs (top 4), defBody (top 4), defScope (top 4), [], []⟩
def r1 : He.DefD := ⟨("is_between", none), "is_between", "is_between", defArgs (top 5), defBody (top 5), defScope (top 5), [], []⟩
def r2 : He.DefD := ⟨("is_row", none), "is_row", "is_row", defArgs (top 6), defBody (top 6), defScope (top 6), [], []⟩
def r3 : He.DefD := ⟨("first_wrong", none), "first_wrong", "first_wrong", defArgs (top 7), defBody (top 7), defScope (top 7), [], []⟩
def r4 : He.DefD := ⟨("is_lot_of", none), "is_lot_of", "is_lot_of", defArgs (top 10), defBody (top 10), defScope (top 10), [], []⟩
def r5 : He.DefD := ⟨("is_within", none), "is_within", "is_within", defArgs (top 11), defBody (top 11), defScope (top 11), [], []⟩
def r6 : He.DefD := ⟨("is_reach_of", none), "is_reach_of", "is_reach_of", defArgs (top 12), defBody (top 12), defScope (top 12), [], []⟩
def r7 : He.DefD := ⟨("is_closed_up", none), "is_closed_up", "is_closed_up", defArgs (top 13), defBody (top 13), defScope (top 13), [], []⟩
def r8 : He.DefD := ⟨("wrong_reach", none), "wrong_reach", "wrong_reach", defArgs (top 14), defBody (top 14), defScope (top 14), [], []⟩
def r9 : He.DefD := ⟨("check_space", none), "check_space", "check_space", defArgs (top 15), defBody (top 15), defScope (top 15), [], []⟩
def r10 : He.DefD := ⟨("places_of", none), "places_of", "places_of", defArgs (top 16), defBody (top 16), defScope (top 16), [], []⟩
def r11 : He.DefD := ⟨("is_near_by", none), "is_near_by", "is_near_by", defArgs (top 17), defBody (top 17), defScope (top 17), [], []⟩
def r12 : He.DefD := ⟨("fits_so_far", none), "fits_so_far", "fits_so_far", defArgs (top 20), defBody (top 20), defScope (top 20), [], []⟩
def r13 : He.DefD := ⟨("maps_by", none), "maps_by", "maps_by", defArgs (top 21), defBody (top 21), defScope (top 21), [], []⟩
def r14 : He.DefD := ⟨("check_few", none), "check_few", "check_few", defArgs (top 22), defBody (top 22), defScope (top 22), [], []⟩
def r15 : He.DefD := ⟨("count_maps", none), "count_maps", "count_maps", defArgs (top 23), defBody (top 23), defScope (top 23), [], []⟩
def r16 : He.DefD := ⟨("_law_pool", none), "_law_pool", "_law_pool", defArgs (top 25), defBody (top 25), defScope (top 25), [], []⟩
def r17 : He.DefD := ⟨("_law_take", none), "_law_take", "_law_take", defArgs (top 26), defBody (top 26), defScope (top 26), [], []⟩
def r18 : He.DefD := ⟨("_law_space", none), "_law_space", "_law_space", defArgs (top 28), defBody (top 28), defScope (top 28), [], []⟩
def r19 : He.DefD := ⟨("_law_right", none), "_law_right", "_law_right", defArgs (top 29), defBody (top 29), defScope (top 29), [], []⟩
def r20 : He.DefD := ⟨("law", none), "law", "law", defArgs (top 30), defBody (top 30), defScope (top 30), [], []⟩
def I : Info := { T := Tb9, P := P, dd := [r0, r1, r2, r3, r4, r5, r6, r7, r8, r9, r10, r11, r12, r13, r14, r15, r16, r17, r18, r19, r20], nn := [["value"], ["value", "least", "most"], ["value", "least", "most"], ["value", "is_right", "index", "each"], ["places", "value", "one", "other", "place"], ["lot", "other", "place"], ["places", "place", "value"], ["reaches", "reach", "place"], ["value", "wrong", "reach", "ahead"], ["value", "wrong"], ["space"], ["space", "place", "near_to"], ["space", "second", "row", "last", "at", "there"], ["space", "second", "rows", "place", "longer", "row", "there"], ["space", "second", "most", "own"], ["space", "second"], ["script", "k", "wide", "each", "cell", "mixed"], ["pool", "many", "stirred", "digit"], ["pool", "most", "many", "places", "reach", "place", "turn", "near", "lot", "each", "far"], ["pool", "most", "found", "place", "due", "space", "second", "longer", "some", "far", "ahead", "behind", "near"], ["script", "k", "pool", "most"]], cn := ["NearError", "InvalidSpace", "ValueError"], btl := [none, none, some "ValueError"], xs := [0, 1], xi := [{ x := "InvalidSpace", c := 1, f := [105, 110, 100, 101, 120], qn := "InvalidSpace.__init__", p1 := ⟨6, 17, 6, 21⟩, p2 := ⟨6, 23, 6, 28⟩, q1 := ⟨7, 8, 7, 12⟩, q2 := ⟨7, 8, 7, 18⟩, q3 := ⟨7, 21, 7, 26⟩, q4 := ⟨7, 8, 7, 26⟩ }], lms := [none, none, none, some 1, none, none, none, none, none, none, none, none, none, none, none, none, none, none, none, none, none], lis := [8] }
/- law: 20 -/
theorem b0 : ∀ (K : PySem.W.Frag) (fd : FuncData), FunD K r0.name r0.qual r0.params r0.body r0.scope [] [] (He.fAd K r0.at_) fd → Binds K fd (Info.psOf r0.params) [] := fun K fd F => F.bindsN fun _ _ _ _ _ _ us hl => match us, hl with | [_], _ => rfl
theorem b1 : ∀ (K : PySem.W.Frag) (fd : FuncData), FunD K r1.name r1.qual r1.params r1.body r1.scope [] [] (He.fAd K r1.at_) fd → Binds K fd (Info.psOf r1.params) [] := fun K fd F => F.bindsN fun _ _ _ _ _ _ us hl => match us, hl with | [_, _, _], _ => rfl
theorem b2 : ∀ (K : PySem.W.Frag) (fd : FuncData), FunD K r2.name r2.qual r2.params r2.body r2.scope [] [] (He.fAd K r2.at_) fd → Binds K fd (Info.psOf r2.params) [] := fun K fd F => F.bindsN fun _ _ _ _ _ _ us hl => match us, hl with | [_, _, _], _ => rfl
theorem b3 : ∀ (K : PySem.W.Frag) (fd : FuncData), FunD K r3.name r3.qual r3.params r3.body r3.scope [] [] (He.fAd K r3.at_) fd → Binds K fd (Info.psOf r3.params) [] := fun K fd F => F.bindsN fun _ _ _ _ _ _ us hl => match us, hl with | [_, _], _ => rfl
theorem b4 : ∀ (K : PySem.W.Frag) (fd : FuncData), FunD K r4.name r4.qual r4.params r4.body r4.scope [] [] (He.fAd K r4.at_) fd → Binds K fd (Info.psOf r4.params) [] := fun K fd F => F.bindsN fun _ _ _ _ _ _ us hl => match us, hl with | [_, _], _ => rfl
theorem b5 : ∀ (K : PySem.W.Frag) (fd : FuncData), FunD K r5.name r5.qual r5.params r5.body r5.scope [] [] (He.fAd K r5.at_) fd → Binds K fd (Info.psOf r5.params) [] := fun K fd F => F.bindsN fun _ _ _ _ _ _ us hl => match us, hl with | [_, _], _ => rfl
theorem b6 : ∀ (K : PySem.W.Frag) (fd : FuncData), FunD K r6.name r6.qual r6.params r6.body r6.scope [] [] (He.fAd K r6.at_) fd → Binds K fd (Info.psOf r6.params) [] := fun K fd F => F.bindsN fun _ _ _ _ _ _ us hl => match us, hl with | [_, _, _], _ => rfl
theorem b7 : ∀ (K : PySem.W.Frag) (fd : FuncData), FunD K r7.name r7.qual r7.params r7.body r7.scope [] [] (He.fAd K r7.at_) fd → Binds K fd (Info.psOf r7.params) [] := fun K fd F => F.bindsN fun _ _ _ _ _ _ us hl => match us, hl with | [_, _], _ => rfl
theorem b8 : ∀ (K : PySem.W.Frag) (fd : FuncData), FunD K r8.name r8.qual r8.params r8.body r8.scope [] [] (He.fAd K r8.at_) fd → Binds K fd (Info.psOf r8.params) [] := fun K fd F => F.bindsN fun _ _ _ _ _ _ us hl => match us, hl with | [_], _ => rfl
theorem b9 : ∀ (K : PySem.W.Frag) (fd : FuncData), FunD K r9.name r9.qual r9.params r9.body r9.scope [] [] (He.fAd K r9.at_) fd → Binds K fd (Info.psOf r9.params) [] := fun K fd F => F.bindsN fun _ _ _ _ _ _ us hl => match us, hl with | [_], _ => rfl
theorem b10 : ∀ (K : PySem.W.Frag) (fd : FuncData), FunD K r10.name r10.qual r10.params r10.body r10.scope [] [] (He.fAd K r10.at_) fd → Binds K fd (Info.psOf r10.params) [] := fun K fd F => F.bindsN fun _ _ _ _ _ _ us hl => match us, hl with | [_], _ => rfl
theorem b11 : ∀ (K : PySem.W.Frag) (fd : FuncData), FunD K r11.name r11.qual r11.params r11.body r11.scope [] [] (He.fAd K r11.at_) fd → Binds K fd (Info.psOf r11.params) [] := fun K fd F => F.bindsN fun _ _ _ _ _ _ us hl => match us, hl with | [_, _, _], _ => rfl
theorem b12 : ∀ (K : PySem.W.Frag) (fd : FuncData), FunD K r12.name r12.qual r12.params r12.body r12.scope [] [] (He.fAd K r12.at_) fd → Binds K fd (Info.psOf r12.params) [] := fun K fd F => F.bindsN fun _ _ _ _ _ _ us hl => match us, hl with | [_, _, _], _ => rfl
theorem b13 : ∀ (K : PySem.W.Frag) (fd : FuncData), FunD K r13.name r13.qual r13.params r13.body r13.scope [] [] (He.fAd K r13.at_) fd → Binds K fd (Info.psOf r13.params) [] := fun K fd F => F.bindsN fun _ _ _ _ _ _ us hl => match us, hl with | [_, _], _ => rfl
theorem b14 : ∀ (K : PySem.W.Frag) (fd : FuncData), FunD K r14.name r14.qual r14.params r14.body r14.scope [] [] (He.fAd K r14.at_) fd → Binds K fd (Info.psOf r14.params) [] := fun K fd F => F.bindsN fun _ _ _ _ _ _ us hl => match us, hl with | [_, _, _], _ => rfl
theorem b15 : ∀ (K : PySem.W.Frag) (fd : FuncData), FunD K r15.name r15.qual r15.params r15.body r15.scope [] [] (He.fAd K r15.at_) fd → Binds K fd (Info.psOf r15.params) [] := fun K fd F => F.bindsN fun _ _ _ _ _ _ us hl => match us, hl with | [_, _], _ => rfl
theorem b16 : ∀ (K : PySem.W.Frag) (fd : FuncData), FunD K r16.name r16.qual r16.params r16.body r16.scope [] [] (He.fAd K r16.at_) fd → Binds K fd (Info.psOf r16.params) [] := fun K fd F => F.bindsN fun _ _ _ _ _ _ us hl => match us, hl with | [_, _], _ => rfl
theorem b17 : ∀ (K : PySem.W.Frag) (fd : FuncData), FunD K r17.name r17.qual r17.params r17.body r17.scope [] [] (He.fAd K r17.at_) fd → Binds K fd (Info.psOf r17.params) [] := fun K fd F => F.bindsN fun _ _ _ _ _ _ us hl => match us, hl with | [_, _], _ => rfl
theorem b18 : ∀ (K : PySem.W.Frag) (fd : FuncData), FunD K r18.name r18.qual r18.params r18.body r18.scope [] [] (He.fAd K r18.at_) fd → Binds K fd (Info.psOf r18.params) [] := fun K fd F => F.bindsN fun _ _ _ _ _ _ us hl => match us, hl with | [_, _, _], _ => rfl
theorem b19 : ∀ (K : PySem.W.Frag) (fd : FuncData), FunD K r19.name r19.qual r19.params r19.body r19.scope [] [] (He.fAd K r19.at_) fd → Binds K fd (Info.psOf r19.params) [] := fun K fd F => F.bindsN fun _ _ _ _ _ _ us hl => match us, hl with | [_, _], _ => rfl
theorem b20 : ∀ (K : PySem.W.Frag) (fd : FuncData), FunD K r20.name r20.qual r20.params r20.body r20.scope [] [] (He.fAd K r20.at_) fd → Binds K fd (Info.psOf r20.params) [] := fun K fd F => F.bindsN fun _ _ _ _ _ _ us hl => match us, hl with | [_], _ => rfl
theorem binds : ∀ r ∈ I.dd, ∀ (K : PySem.W.Frag) (fd : FuncData), FunD K r.name r.qual r.params r.body r.scope [] [] (He.fAd K r.at_) fd → Binds K fd (Info.psOf r.params) [] := (List.forall_mem_cons.mpr ⟨b0, (List.forall_mem_cons.mpr ⟨b1, (List.forall_mem_cons.mpr ⟨b2, (List.forall_mem_cons.mpr ⟨b3, (List.forall_mem_cons.mpr ⟨b4, (List.forall_mem_cons.mpr ⟨b5, (List.forall_mem_cons.mpr ⟨b6, (List.forall_mem_cons.mpr ⟨b7, (List.forall_mem_cons.mpr ⟨b8, (List.forall_mem_cons.mpr ⟨b9, (List.forall_mem_cons.mpr ⟨b10, (List.forall_mem_cons.mpr ⟨b11, (List.forall_mem_cons.mpr ⟨b12, (List.forall_mem_cons.mpr ⟨b13, (List.forall_mem_cons.mpr ⟨b14, (List.forall_mem_cons.mpr ⟨b15, (List.forall_mem_cons.mpr ⟨b16, (List.forall_mem_cons.mpr ⟨b17, (List.forall_mem_cons.mpr ⟨b18, (List.forall_mem_cons.mpr ⟨b19, (List.forall_mem_cons.mpr ⟨b20, (fun r hr => by cases hr)⟩)⟩)⟩)⟩)⟩)⟩)⟩)⟩)⟩)⟩)⟩)⟩)⟩)⟩)⟩)⟩)⟩)⟩)⟩)⟩)⟩)
theorem bindL (K : PySem.W.Frag) (fd : FuncData) (F : FunD K r20.name r20.qual r20.params r20.body r20.scope [] [] (He.fAd K r20.at_) fd) (s : Shared) (v : Value) : BindsTo s fd ⟨[v], []⟩ [("script", v)] := F.bindsA (ps := ["script"]) (fun _ _ _ _ _ _ us hl => match us, hl with | [_], _ => rfl) s [v] rfl
theorem kwbs : ∀ p ∈ I.T.kws, ∀ r, I.dd[p.2.1]? = some r → ∀ (K : PySem.W.Frag) (fd : FuncData), FunD K r.name r.qual r.params r.body r.scope [] [] (He.fAd K r.at_) fd → KwB K fd (Info.psOf r.params) p.2.2.1 p.2.2.2 := (List.forall_mem_cons.mpr ⟨fun r hr => by cases hr; exact fun K fd F => kwb_of F fun _ _ _ _ _ _ ws us hl hp => (match ws, hl, hp with | [w0, w1], _, hp => by cases hp; rfl), (fun p hp => by cases hp)⟩)
theorem lfn_ok : I.lfnB = true := by kernel_rfl
theorem chk_ok : I.chk = true := by kernel_rfl
theorem P_defs : P.defs = [d0, d1, d2, d3, d4, d5, d6, d7, d8, d9, d10, d11, d12, d13, d14, d15, d16, d17, d18, d19, d20] := rfl
@[simp] theorem P_glob : P.glob = [(.int 7), (.int 5)] := rfl
@[simp] theorem P_dics : P.dics = [] := rfl
@[simp] theorem P_flds : P.flds = [] := rfl
@[simp] theorem P_xat : P.xat = [none, some [105, 110, 100, 101, 120], none] := rfl
@[simp] theorem P_sub : P.sub = [[0, 2], [0, 1, 2], []] := rfl
theorem u0 (n : Nat) (as : List D) : P.run (n + 1) 0 as none = runDef (P.cfg (P.run n) none) d0 as := rfl
theorem u1 (n : Nat) (as : List D) : P.run (n + 1) 1 as none = runDef (P.cfg (P.run n) none) d1 as := rfl
theorem u2 (n : Nat) (as : List D) : P.run (n + 1) 2 as none = runDef (P.cfg (P.run n) none) d2 as := rfl
theorem u3 (n : Nat) (as : List D) : P.run (n + 1) 3 as none = runDef (P.cfg (P.run n) none) d3 as := rfl
theorem u4 (n : Nat) (as : List D) : P.run (n + 1) 4 as none = runDef (P.cfg (P.run n) none) d4 as := rfl
theorem u5 (n : Nat) (as : List D) : P.run (n + 1) 5 as none = runDef (P.cfg (P.run n) none) d5 as := rfl
theorem u6 (n : Nat) (as : List D) : P.run (n + 1) 6 as none = runDef (P.cfg (P.run n) none) d6 as := rfl
theorem u7 (n : Nat) (as : List D) : P.run (n + 1) 7 as none = runDef (P.cfg (P.run n) none) d7 as := rfl
theorem u8 (n : Nat) (as : List D) : P.run (n + 1) 8 as none = runDef (P.cfg (P.run n) none) d8 as := rfl
theorem u9 (n : Nat) (as : List D) : P.run (n + 1) 9 as none = runDef (P.cfg (P.run n) none) d9 as := rfl
theorem u10 (n : Nat) (as : List D) : P.run (n + 1) 10 as none = runDef (P.cfg (P.run n) none) d10 as := rfl
theorem u11 (n : Nat) (as : List D) : P.run (n + 1) 11 as none = runDef (P.cfg (P.run n) none) d11 as := rfl
theorem u12 (n : Nat) (as : List D) : P.run (n + 1) 12 as none = runDef (P.cfg (P.run n) none) d12 as := rfl
theorem u13 (n : Nat) (as : List D) : P.run (n + 1) 13 as none = runDef (P.cfg (P.run n) none) d13 as := rfl
theorem u14 (n : Nat) (as : List D) : P.run (n + 1) 14 as none = runDef (P.cfg (P.run n) none) d14 as := rfl
theorem u15 (n : Nat) (as : List D) : P.run (n + 1) 15 as none = runDef (P.cfg (P.run n) none) d15 as := rfl
theorem u16 (n : Nat) (as : List D) : P.run (n + 1) 16 as none = runDef (P.cfg (P.run n) none) d16 as := rfl
theorem u17 (n : Nat) (as : List D) : P.run (n + 1) 17 as none = runDef (P.cfg (P.run n) none) d17 as := rfl
theorem u18 (n : Nat) (as : List D) : P.run (n + 1) 18 as none = runDef (P.cfg (P.run n) none) d18 as := rfl
theorem u19 (n : Nat) (as : List D) : P.run (n + 1) 19 as none = runDef (P.cfg (P.run n) none) d19 as := rfl
theorem u20 (n : Nat) (as : List D) : P.run (n + 1) 20 as none = runDef (P.cfg (P.run n) none) d20 as := rfl
--import PlBall

theorem k_whole (n : Nat) {i : Int} : P.run (n + 1) 0 [.int i] none = ret (.bl true) := by
  apply W.fin
  rw [u0]
  apply W.run rfl
  apply W.sret
  apply W.and
  apply W.isi
  exact W.v rfl rfl
  first | exact W.it_ii _ | exact W.it_ib _ | exact W.it_is _ | exact W.it_it _ | exact W.it_tt _ | exact W.it_ti _ | exact W.it_tb _ | exact W.it_ts _ | exact W.it_si _ | exact W.it_ss _ | exact W.it_st _ | exact W.it_sb _ | exact W.it_bi _ | exact W.it_bb _ | rfl
  intro hc1
  apply W.not
  apply W.isi
  exact W.v rfl rfl
  first | exact W.it_ii _ | exact W.it_ib _ | exact W.it_is _ | exact W.it_it _ | exact W.it_tt _ | exact W.it_ti _ | exact W.it_tb _ | exact W.it_ts _ | exact W.it_si _ | exact W.it_ss _ | exact W.it_st _ | exact W.it_sb _ | exact W.it_bi _ | exact W.it_bb _ | rfl
  rfl

theorem k_is_whole (n : Nat) {i : Nat} : P.run (n + 1) 0 [nd i] none = ret (.bl true) := k_whole n

theorem k_is_between (n : Nat) {i a b : Nat} : P.run (n + 2) 1 [nd i, nd a, nd b] none = ret (.bl (decide (a ≤ i ∧ i ≤ b))) := by
  apply W.fin
  rw [u1]
  apply W.run rfl
  apply W.sret
  apply W.and
  apply W.call
  apply W.cons
  exact W.v rfl rfl
  exact W.nil
  apply W.cl
  first | exact k_is_whole _ | exact k_is_whole _ (by first | assumption | omega | grind) | exact k_is_whole _ (by first | assumption | omega | grind) (by first | assumption | omega | grind) | exact k_is_whole _ (by first | assumption | omega | grind) (by first | assumption | omega | grind) (by first | assumption | omega | grind)
  intro hc1
  apply W.chain
  exact W.v rfl rfl
  exact W.v rfl rfl
  first | exact W.len_ _ _ | exact W.lei _ _
  exact W.v rfl rfl
  first | exact W.len_ _ _ | exact W.lei _ _
  simp

theorem k_is_row (n : Nat) {xs : List D} {a b : Nat} : P.run (n + 1) 2 [.tup xs, nd a, nd b] none = ret (.bl (decide (a ≤ xs.length ∧ xs.length ≤ b))) := by
  apply W.fin
  rw [u2]
  apply W.run rfl
  apply W.sret
  apply W.and
  apply W.isi
  exact W.v rfl rfl
  first | exact W.it_ii _ | exact W.it_ib _ | exact W.it_is _ | exact W.it_it _ | exact W.it_tt _ | exact W.it_ti _ | exact W.it_tb _ | exact W.it_ts _ | exact W.it_si _ | exact W.it_ss _ | exact W.it_st _ | exact W.it_sb _ | exact W.it_bi _ | exact W.it_bb _ | rfl
  intro hc1
  apply W.chain
  exact W.v rfl rfl
  apply W.b
  apply W.cons
  exact W.v rfl rfl
  exact W.nil
  first | exact W.lentm _ _ | exact W.lenlm _ _ | exact W.lent _ | exact W.lenl _
  first | exact W.len_ _ _ | exact W.lei _ _
  exact W.v rfl rfl
  first | exact W.len_ _ _ | exact W.lei _ _
  simp

theorem k_is_within (n : Nat) {l r : List Nat} (hl : l.length ≤ 1000) : P.run (n + 1) 5 [lt l, lt r] none = ret (.bl (l.all fun x => decide (x ∈ r))) := by
  apply W.fin
  rw [u5]
  apply W.run rfl
  apply W.sret
  apply W.b
  apply W.cons
  apply W.lc1
  apply W.seq
  exact W.v rfl rfl
  first | exact W.heldt _ | exact W.heldl _
  exact fun _ => rfl
  intro x1 hx1
  apply W.cmp
  exact W.v rfl rfl
  exact W.v rfl rfl
  first | exact W.int_id nd _ _ | exact W.int_id lt _ _ | exact W.int_id sp _ _ | exact W.int_id D.int _ _ | exact W.int_id pr _ _ | exact W.inl_id nd _ _ | exact W.inl_id lt _ _ | exact W.inl_id sp _ _ | exact W.inl_id D.int _ _ | exact W.inl_id pr _ _ | exact W.int nd _ _ _ | exact W.int lt _ _ _ | exact W.int sp _ _ _ | exact W.int D.int _ _ _ | exact W.int pr _ _ _ | exact W.inl nd _ _ _ | exact W.inl lt _ _ _ | exact W.inl sp _ _ _ | exact W.inl D.int _ _ _ | exact W.inl pr _ _ _ | exact W.in1 _ _ | exact W.in2 _ _ _
  first | (focus (simp; done)) | (focus (simp; omega)) | grind
  exact W.nil
  first | exact W.alll _ _
  rfl

theorem k_places_of (n : Nat) {s : Spc} (hl : s.length ≤ 7) : P.run (n + 1) 10 [sp s] none = ret (.lst ((List.range s.length).map nd)) := by
  apply W.fin
  rw [u10]
  apply W.run rfl
  apply W.sret
  apply W.b
  apply W.cons
  apply W.b
  apply W.cons
  exact W.v rfl rfl
  exact W.nil
  first | exact W.lentm _ _ | exact W.lenlm _ _ | exact W.lent _ | exact W.lenl _
  exact W.nil
  exact W.range1 (by first | (focus (simp; done)) | (focus (simp; omega)) | grind)
  rfl

theorem k_is_near_by (n : Nat) {s : Spc} {a b : Nat} (h : b < s.length) : P.run (n + 1) 11 [sp s, nd a, nd b] none = ret (.bl (decide (a ∈ rc s b))) := by
  apply W.fin
  rw [u11]
  apply W.run rfl
  apply W.sret
  apply W.cmp
  exact W.v rfl rfl
  apply Mp.W.sub
  exact W.v rfl rfl
  exact W.v rfl rfl
  first | apply W.sub_sp | apply W.sub_lt | apply W.sub_ll | apply W.sub_ln | apply W.subt | apply W.subl
  first | assumption | omega | grind
  first | exact W.int_id nd _ _ | exact W.int_id lt _ _ | exact W.int_id sp _ _ | exact W.int_id D.int _ _ | exact W.int_id pr _ _ | exact W.inl_id nd _ _ | exact W.inl_id lt _ _ | exact W.inl_id sp _ _ | exact W.inl_id D.int _ _ | exact W.inl_id pr _ _ | exact W.int nd _ _ _ | exact W.int lt _ _ _ | exact W.int sp _ _ _ | exact W.int D.int _ _ _ | exact W.int pr _ _ _ | exact W.inl nd _ _ _ | exact W.inl lt _ _ _ | exact W.inl sp _ _ _ | exact W.inl D.int _ _ _ | exact W.inl pr _ _ _ | exact W.in1 _ _ | exact W.in2 _ _ _
  rfl

theorem k_is_lot_of (n : Nat) {k : Nat} {l : List Nat} (hk : 0 < k) (h : Lot k l) (hk7 : k ≤ 7) : P.run (n + 3) 4 [nd k, lt l] none = ret (.bl true) := by
  have hlen := h.len
  apply W.fin
  rw [u4]
  apply W.run rfl
  apply W.sif
  apply W.tor
  apply W.tnot
  apply W.tval
  apply W.isi
  exact W.v rfl rfl
  first | exact W.it_ii _ | exact W.it_ib _ | exact W.it_is _ | exact W.it_it _ | exact W.it_tt _ | exact W.it_ti _ | exact W.it_tb _ | exact W.it_ts _ | exact W.it_si _ | exact W.it_ss _ | exact W.it_st _ | exact W.it_sb _ | exact W.it_bi _ | exact W.it_bb _ | rfl
  exact W.truthb _
  intro hc1
  apply W.tnot
  apply W.tval
  apply W.b
  apply W.cons
  apply W.lc1
  apply W.seq
  exact W.v rfl rfl
  first | exact W.heldt _ | exact W.heldl _
  exact fun _ => rfl
  intro x2 hx2
  apply W.call
  apply W.cons
  exact W.v rfl rfl
  apply W.cons
  exact W.cn 0
  apply W.cons
  apply W.op
  exact W.v rfl rfl
  exact W.cn 1
  first | exact W.subn (by first | assumption | omega | grind) | exact W.subi _ _
  exact W.nil
  apply W.cl
  first | exact k_is_between _ | exact k_is_between _ (by first | assumption | omega | grind) | exact k_is_between _ (by first | assumption | omega | grind) (by first | assumption | omega | grind) | exact k_is_between _ (by first | assumption | omega | grind) (by first | assumption | omega | grind) (by first | assumption | omega | grind)
  first | (focus (simp; done)) | (focus (simp; omega)) | grind
  exact W.nil
  first | exact W.alll _ _
  exact W.truthb _
  intro hc3
  apply W.sret
  exact W.c _
  intro hc3
  apply W.sret
  apply W.b
  apply W.cons
  apply W.lc1
  apply W.zip
  exact W.v rfl rfl
  apply W.slc
  exact W.v rfl rfl
  apply W.oy
  exact W.cn 1
  exact W.on
  first | exact W.sl_tf _ _ _ | exact W.sl_tt _ _ _ | exact W.sl_lf _ _ _ | exact W.sl_lt _ _ _
  first | exact W.zip_tt _ _ _ _ | exact W.zip_ll _ _ _ _
  exact fun _ => rfl
  intro x4 hx4
  apply W.cmp
  exact W.v rfl rfl
  exact W.v rfl rfl
  first | exact W.ltn _ _ | exact W.lti _ _
  first | (focus (simp; done)) | (focus (simp; omega)) | grind
  exact W.nil
  first | exact W.alll _ _
  rw [if_neg, asc_zip h.asc]
  simp only [Bool.not_true, Bool.false_or, Bool.not_eq_true', Bool.not_eq_false, List.all_eq_true, decide_eq_true_eq]
  intro x hx
  have := h.lt x hx
  omega

theorem k_is_reach_of (n : Nat) {k p : Nat} {l : List Nat} (hk : 0 < k) (h : Lot k l ∧ k ≤ 7) (hp : p ∈ l) : P.run (n + 4) 6 [nd k, nd p, lt l] none = ret (.bl true) := by
  obtain ⟨h, hk7⟩ := h
  apply W.fin
  rw [u6]
  apply W.run rfl
  apply W.sret
  apply W.and
  apply W.call
  apply W.cons
  exact W.v rfl rfl
  apply W.cons
  exact W.v rfl rfl
  exact W.nil
  apply W.cl
  first | exact k_is_lot_of _ | exact k_is_lot_of _ (by first | assumption | omega | grind) | exact k_is_lot_of _ (by first | assumption | omega | grind) (by first | assumption | omega | grind) | exact k_is_lot_of _ (by first | assumption | omega | grind) (by first | assumption | omega | grind) (by first | assumption | omega | grind)
  intro hc1
  apply W.cmp
  exact W.v rfl rfl
  exact W.v rfl rfl
  first | exact W.int_id nd _ _ | exact W.int_id lt _ _ | exact W.int_id sp _ _ | exact W.int_id D.int _ _ | exact W.int_id pr _ _ | exact W.inl_id nd _ _ | exact W.inl_id lt _ _ | exact W.inl_id sp _ _ | exact W.inl_id D.int _ _ | exact W.inl_id pr _ _ | exact W.int nd _ _ _ | exact W.int lt _ _ _ | exact W.int sp _ _ _ | exact W.int D.int _ _ _ | exact W.int pr _ _ _ | exact W.inl nd _ _ _ | exact W.inl lt _ _ _ | exact W.inl sp _ _ _ | exact W.inl D.int _ _ _ | exact W.inl pr _ _ _ | exact W.in1 _ _ | exact W.in2 _ _ _
  simp [hp]

theorem k_is_closed_up (n : Nat) {s : Spc} {l : List Nat} (v : Valid s.length s) (hs : s.length ≤ 7) (h : ∃ i : Nat, s[i]? = some l) : P.run (n + 2) 7 [sp s, lt l] none = ret (.bl true) := by
  obtain ⟨i, h⟩ := h
  have hx := v.lt i l h
  have hl := v.short h
  have hr : ∀ x, (rc s x).length ≤ 1000 := fun x => by
    have := v.rlen x
    omega
  apply W.fin
  rw [u7]
  apply W.run rfl
  apply W.sret
  apply W.b
  apply W.cons
  apply W.lc1
  apply W.seq
  exact W.v rfl rfl
  first | exact W.heldt _ | exact W.heldl _
  exact fun _ => rfl
  intro x1 hx1
  apply W.call
  apply W.cons
  apply Mp.W.sub
  exact W.v rfl rfl
  exact W.v rfl rfl
  first | apply W.sub_sp | apply W.sub_lt | apply W.sub_ll | apply W.sub_ln | apply W.subt | apply W.subl
  first | assumption | omega | grind
  apply W.cons
  exact W.v rfl rfl
  exact W.nil
  apply W.cl
  first | exact k_is_within _ | exact k_is_within _ (by first | assumption | omega | grind) | exact k_is_within _ (by first | assumption | omega | grind) (by first | assumption | omega | grind) | exact k_is_within _ (by first | assumption | omega | grind) (by first | assumption | omega | grind) (by first | assumption | omega | grind)
  first | (focus (simp; done)) | (focus (simp; omega)) | grind
  exact W.nil
  first | exact W.alll _ _
  simp only [D.bl.injEq, List.all_eq_true, decide_eq_true_eq]
  intro x hxl y hy
  exact v.tr i l h x hxl _ (v.get (hx x hxl)) y hy

theorem k_first_wrong (n : Nat) {xs : List D} {g : List D → M D} (hl : xs.length ≤ 1000000) (h : ∀ i (hi : i < xs.length), g [xs[i], .tup (xs.take i)] = ret (.bl true)) (hp : ∀ x ∈ xs, x.plain = true) : P.run (n + 1) 3 [.tup xs, .lam 0] (some g) = ret .non := by
  refine W.fin (d := ((W.enm xs).findSome? fun _ => (none : Option D)).getD .non) ?_ (by rw [show ((W.enm xs).findSome? fun _ => (none : Option D)) = none from List.findSome?_eq_none_iff.mpr (fun _ _ => rfl)]; rfl)
  show runDef (P.cfg (P.run n) (some g)) d3 _ = _
  apply W.run rfl
  apply W.sloop (enc := fun p => .tup [nd p.1, p.2]) (l := W.enm xs) (o := fun _ => none)
  · apply W.enum (enc := fun x => x)
    · exact W.v rfl rfl
    · rw [List.map_id']
      exact W.itemst _
  · exact fun _ => rfl
  · exact fun _ _ => rfl
  · intro x hx
    have hi := W.mem_enm.mp hx
    obtain ⟨h1, h2⟩ := List.getElem?_eq_some_iff.mp hi
    have h3 := h x.1 h1
    rw [h2] at h3
    have h4 := hp x.2 (List.mem_of_getElem? hi)
    refine W.bite0 ?_ W.bnil
    apply W.feq (t := !true)
    apply W.tnot
    apply W.tval
    apply W.lamc rfl rfl
    · apply W.cons
      · exact W.v rfl h4
      · apply W.cons
        · apply W.slc
          · exact W.v rfl rfl
          · exact W.on
          · apply W.oy
            exact W.v rfl rfl
          · have := W.sl_tt (fun x : D => x) xs x.1
            rw [List.map_id', List.map_id'] at this
            exact this
        · exact W.nil
    · exact h3
    · exact W.truthb _
    · rfl
  · apply W.sret
    exact W.c _
  · intro x hx
    apply W.sret
    exact W.c _

theorem k_wrong_reach (n : Nat) {s : Spc} (v : Valid s.length s) (hs : s.length ≤ 7) : P.run (n + 5) 8 [sp s] none = ret .non := by
  have pl : ∀ x ∈ s.map lt, x.plain = true := fun x hx => by
    obtain ⟨_, _, rfl⟩ := List.mem_map.mp hx
    rfl
  apply W.fin
  rw [u8]
  apply W.run rfl
  apply W.sset
  · apply W.calll
    · apply W.cons
      · exact W.v rfl rfl
      · exact W.nil
    · refine k_first_wrong _ (by simp; omega) (fun i hi => ?_) pl
      have hi : i < s.length := by simpa using hi
      have hg := v.get hi
      have e : (s.map lt)[i] = lt (rc s i) := by simp [rc, hi]
      rw [e]
      apply W.call
      · apply W.cons
        · apply W.b
          · apply W.cons
            · exact W.v rfl rfl
            · exact W.nil
          · exact W.lentm _ _
        · apply W.cons
          · apply W.b
            · apply W.cons
              · exact W.v rfl rfl
              · exact W.nil
            · exact W.lent _
          · apply W.cons
            · exact W.v rfl rfl
            · exact W.nil
      · refine k_is_reach_of _ (by omega) ⟨⟨v.asc i _ hg, v.lt i _ hg⟩, hs⟩ ?_
        rw [List.length_take, List.length_map, Nat.min_eq_left (Nat.le_of_lt hi)]
        exact v.refl i _ hg
  · exact rfl
  · apply W.sskip
    · apply W.feq
      · apply W.tcmp
        · exact W.v rfl rfl
        · exact W.c _
        · exact W.isn_of W.is_nn
      · rfl
    · apply W.sret
      apply W.calll
      · apply W.cons
        · exact W.v rfl rfl
        · exact W.nil
      · refine k_first_wrong _ (by simp; omega) (fun i hi => ?_) pl
        have hi : i < s.length := by simpa using hi
        have e : (s.map lt)[i] = lt (rc s i) := by simp [rc, hi]
        rw [e]
        apply W.call
        · apply W.cons
          · exact W.v rfl rfl
          · apply W.cons
            · exact W.v rfl rfl
            · exact W.nil
        · exact k_is_closed_up _ v hs ⟨i, v.get hi⟩
  rfl

theorem k_check_space (n : Nat) {s : Spc} (v : Valid s.length s) (hs : 0 < s.length ∧ s.length ≤ 7) : P.run (n + 6) 9 [sp s] none = ret .non := by
  obtain ⟨h0, hs⟩ := hs
  have h1 : 1 ≤ s.length := h0
  apply W.fin
  rw [u9]
  apply W.run0 rfl
  apply W.sskip
  apply W.feq
  apply W.tnot
  apply W.tval
  apply W.call
  apply W.cons
  exact W.v rfl rfl
  apply W.cons
  exact W.cn 1
  apply W.cons
  exact W.gn (n := 7) rfl
  exact W.nil
  apply W.cl
  first | exact k_is_row _ | exact k_is_row _ (by first | assumption | omega | grind) | exact k_is_row _ (by first | assumption | omega | grind) (by first | assumption | omega | grind) | exact k_is_row _ (by first | assumption | omega | grind) (by first | assumption | omega | grind) (by first | assumption | omega | grind)
  exact W.truthb _
  first | rfl | (focus (simp [*]; done))
  apply W.sset
  apply W.call
  apply W.cons
  exact W.v rfl rfl
  exact W.nil
  apply W.cl
  first | exact k_wrong_reach _ | exact k_wrong_reach _ (by first | assumption | omega | grind) | exact k_wrong_reach _ (by first | assumption | omega | grind) (by first | assumption | omega | grind) | exact k_wrong_reach _ (by first | assumption | omega | grind) (by first | assumption | omega | grind) (by first | assumption | omega | grind)
  exact rfl
  apply W.sskip
  apply W.feq
  apply W.tcmp
  exact W.v rfl rfl
  exact W.c _
  apply W.isn_of
  first | exact W.is_nn | exact W.is_in _ | exact W.is_tn _ | exact W.is_ln _ | exact W.is_sn _ | exact W.is_bn _
  first | rfl | (focus (simp [*]; done))
  exact W.snil
  rfl


--draw _law_take: _ ⟨r#, rfl, hr#⟩
--draw _law_pool: _ ⟨W, rfl⟩
--draw _law_space: _ ⟨s#, rfl, v#, hs#⟩
--draw _law_of: _ ⟨y#, rfl, hy#⟩
def WI (W : Nat) (st : Store) : Prop := ∃ w, st[W]? = some w ∧ WL w
def WI' : D → Store → Prop
  | .obj W => WI W
  | _ => fun _ => False

theorem take_st (n : Nat) {W k : Nat} (hk : 0 < k ∧ k < 1000000) {st : Store} (hw : WI W st) : ∃ (r : Nat) (w : Mp.Obj), P.run (n + 1) 17 [.obj W, nd k] none st = .ok (nd r) (st.set W w) ∧ r < k ∧ WL w := by
  obtain ⟨_, h, a, b, c, rfl, ha, hb, hc⟩ := hw
  obtain ⟨hk, hk2⟩ := hk
  have hi : W < st.length := (List.getElem?_eq_some_iff.mp h).1
  have hk0 : (0 : Int) < (k : Int) := by omega
  have hk20 : (k : Int) < 1073741824 := by omega
  have nat : ∀ x : Int, ∃ r : Nat, x % (k : Int) = (r : Int) ∧ r < k := fun x => by
    have h1 := Int.emod_nonneg x (show (k : Int) ≠ 0 by omega)
    have h2 := Int.emod_lt_of_pos x hk0
    exact ⟨(x % (k : Int)).toNat, by omega, by omega⟩
  have wr : ∀ o, write W o st = .ok () (st.set W o) := fun o => write_st hi
  have wr2 : ∀ o o', write W o' (st.set W o) = .ok () (st.set W o') := fun o o' => by rw [write_st (by simpa using hi), List.set_set]
  have gs : ∀ o, (st.set W o)[W]? = some o := fun o => List.getElem?_set_self hi
  rw [u17]
  clear hi
  by_cases h0 : 0 < a
  · obtain ⟨r, e, hr⟩ := nat a
    refine ⟨r, .lst [.int (a / k), .int b, .int c], ?_, hr, _, _, _, rfl, Int.ediv_nonneg ha (by omega), hb, hc⟩
    refine runDef_ret rfl ?_
    simp [d17, subD, seqOf, itemOf, L2.ixN, h, h0, wr, bn1, bi1, hk0, hk, hk20, e]
  · have ok1 : ∀ x, okBits 28657 x = true := fun x => by simp [okBits]
    have ok2 : ∀ x, okBits 17 x = true := fun x => by simp [okBits]
    have ok3 : ∀ x y : Int, okBits (x % 2147483399) y = true := fun x y => by
      have h1 := Int.emod_nonneg x (show (2147483399 : Int) ≠ 0 by omega)
      have h2 := Int.emod_lt_of_pos x (show (0 : Int) < 2147483399 by omega)
      have h3 : -(2 ^ 64) < x % 2147483399 := by omega
      have h4 : x % 2147483399 < 2 ^ 64 := by omega
      unfold okBits
      rw [decide_eq_true h3, decide_eq_true h4]
      rfl
    obtain ⟨q, eq⟩ : ∃ q : Int, (b + 28657 * (c + 1)) % 2147483399 = q := ⟨_, rfl⟩
    have ok4 : ∀ y : Int, okBits q y = true := fun y => by
      rw [← eq]
      exact ok3 _ y
    obtain ⟨r, e, hr⟩ := nat ((q * (q % 5003 + 48271) + 17 * (c + 1)) % 2147483399 / 613)
    refine ⟨r, .lst [.int a, .int ((q * (q % 5003 + 48271) + 17 * (c + 1)) % 2147483399), .int (c + 1)], ?_, hr, _, _, _, rfl, ha, Int.emod_nonneg _ (by omega), by omega⟩
    refine runDef_ret rfl ?_
    simp [d17, subD, seqOf, itemOf, L2.ixN, h, h0, wr, wr2, gs, op2, ok1, ok2, ok4, hk0, hk, e, eq]

theorem wi_set {W : Nat} {st : Store} (h : WI W st) {w : Mp.Obj} (hw : WL w) : WI W (st.set W w) := by
  obtain ⟨o, h, _⟩ := h
  exact ⟨w, List.getElem?_set_self (List.getElem?_eq_some_iff.mp h).1, hw⟩
theorem d_law_take (n : Nat) {W k : Nat} (hk : 0 < k ∧ k < 1000000) : Tri (WI W) (P.run (n + 1) 17 [.obj W, nd k] none) (fun d => ∃ r, d = nd r ∧ r < k) (fun _ => WI W) := fun st h => by
  obtain ⟨r, w, e, hr, hw⟩ := take_st n hk h
  exact ⟨_, _, e, ⟨r, rfl, hr⟩, wi_set h hw⟩
/-- the draws, and another object -/
def WF (W R : Nat) (o : Mp.Obj) (st : Store) : Prop := WI W st ∧ st[R]? = some o
theorem f_law_take (n : Nat) {W k R : Nat} {o : Mp.Obj} (hR : W ≠ R) (hk : 0 < k ∧ k < 1000000) : Tri (WF W R o) (P.run (n + 1) 17 [.obj W, nd k] none) (fun d => ∃ r, d = nd r ∧ r < k) (fun _ => WF W R o) := fun st h => by
  obtain ⟨r, w, e, hr, hw⟩ := take_st n hk h.1
  exact ⟨_, _, e, ⟨r, rfl, hr⟩, wi_set h.1 hw, by rw [List.getElem?_set_ne hR]; exact h.2⟩

def poolB : Ss := match d16.body with
  | .cons _ (.cons _ (.cons (.loop _ _ b) _)) => b
  | _ => .nil
theorem pool_loop (C : Cfg) (st : Store) (x y z u : Option D) : ∀ (l : List Int) (s : Int) (w : Option D), 0 ≤ s → ∃ s' w', Mp.forM (.nm 3) (exs C poolB) (l.map D.int) [x, y, z, w, u, some (.int s)] st = .ok (.next [x, y, z, w', u, some (.int s')]) st ∧ 0 ≤ s'
  | [], s, w, h => ⟨s, w, rfl, h⟩
  | i :: l, s, w, h => by
    obtain ⟨s', w', e, h'⟩ := pool_loop C st x y z u l ((s * 48271 + i % 2147483399 * 19 + 7) % 2147483399) (some (.int i)) (Int.emod_nonneg _ (by omega))
    refine ⟨s', w', ?_, h'⟩
    rw [← e]
    have ok1 : ∀ x, okBits x 48271 = true := fun x => by simp [okBits]
    have ok2 : ∀ x, okBits x 19 = true := fun x => by simp [okBits]
    simp [poolB, d16, Mp.forM, op2, ok1, ok2]

theorem d_law_pool (n : Nat) {ns : List Int} {k : Nat} (hk : k < 3) (hl : ns.length ≤ 63) : Tri (fun _ => True) (P.run (n + 1) 16 [.lst (ns.map D.int), nd k] none) (fun d => ∃ W, d = .obj W) WI' := by
  rintro st -
  obtain ⟨f, hf⟩ : ∃ f : Int, ∀ C : Cfg, ∀ r, ev C (.b .sum (.cons (.slc false (.v 0) (.yes (.v 1)) (.yes (.op (.add false) (.v 1) (.c (.int 1))))) .nil)) (some (.lst (ns.map D.int)) :: some (nd k) :: r) st = .ok (.int f) st := by
    refine ⟨(cut ns (some (k : Int)) (some ((k : Int) + 1))).sum, fun C r => ?_⟩
    have e : ∀ l : List Int, ints? (l.map D.int) = some l := fun l => by
      induction l with
      | nil => rfl
      | cons x l ih => simp [ints?, ih]
    have e2 : cut (ns.map D.int) (some (k : Int)) (some ((k : Int) + 1)) = (cut ns (some (k : Int)) (some ((k : Int) + 1))).map D.int := by simp [cut]
    simp [sliceD, seqOf, e2, sumD, lseq, e]
  obtain ⟨s', w', e, hs⟩ := pool_loop (P.cfg (P.run n) none) st (some (.lst (ns.map D.int))) (some (nd k)) (some (.int (10 ^ 384))) (some (.int f)) (cut ns none (some 12)) (50021 + 977 * k) none (by omega)
  refine ⟨.obj st.length, st ++ [.lst [.int (if f < 0 ∨ 10 ^ 18 ≤ f then (if f < 0 then -f else f) % 10 ^ 384 else 0), .int s', .int 0]], ?_, ⟨_, rfl⟩, _, get_end _ _ _, _, _, _, rfl, ?_, hs, by omega⟩
  · rw [u16]
    refine runDef_ret rfl ?_
    have ok2 : okBits 977 (k : Int) = true := by simp [okBits]
    have s1 : ex (P.cfg (P.run n) none) (.set (.tup (.cons (.nm 4) (.cons (.nm 5) .nil))) (.tup (.cons (.b .sum (.cons (.slc false (.v 0) (.yes (.v 1)) (.yes (.op (.add false) (.v 1) (.c (.int 1))))) .nil)) (.cons (.op (.add false) (.c (.int 50021)) (.op .mul (.c (.int 977)) (.v 1))) .nil)))) [some (.lst (ns.map D.int)), some (nd k), none, none, none, none] st = .ok (.next [some (.lst (ns.map D.int)), some (nd k), none, none, some (.int f), some (.int (50021 + 977 * k))]) st := by
      rw [ex_set, step_st, ev_tup, b_st, evs_cons, b_st, hf, t_ok]
      simp [op2, ok2, lim]
    have s2 : ∀ a b d : Option D, ex (P.cfg (P.run n) none) (.set (.nm 2) (.op .mul (.op .mul (.op .mul (.op .mul (.op .mul (.op .pow (.c (.int 10)) (.c (.int 64))) (.op .pow (.c (.int 10)) (.c (.int 64)))) (.op .pow (.c (.int 10)) (.c (.int 64)))) (.op .pow (.c (.int 10)) (.c (.int 64)))) (.op .pow (.c (.int 10)) (.c (.int 64)))) (.op .pow (.c (.int 10)) (.c (.int 64))))) [some (.lst (ns.map D.int)), some (nd k), none, a, b, d] st = .ok (.next [some (.lst (ns.map D.int)), some (nd k), some (.int (10 ^ 384)), a, b, d]) st := fun a b d => by
      have : (ev (P.cfg (P.run n) none) (.op .mul (.op .mul (.op .mul (.op .mul (.op .mul (.op .pow (.c (.int 10)) (.c (.int 64))) (.op .pow (.c (.int 10)) (.c (.int 64)))) (.op .pow (.c (.int 10)) (.c (.int 64)))) (.op .pow (.c (.int 10)) (.c (.int 64)))) (.op .pow (.c (.int 10)) (.c (.int 64)))) (.op .pow (.c (.int 10)) (.c (.int 64)))) [some (.lst (ns.map D.int)), some (nd k), none, a, b, d] : M D) = ret (.int (10 ^ 384)) := by
        with_unfolding_all rfl
      rw [ex_set, step_st, this]
      rfl
    have ev1 : evi (P.cfg (P.run n) none) (.seq (.slc false (.v 0) .no (.yes (.c (.int 12))))) [some (.lst (ns.map D.int)), some (nd k), some (.int (10 ^ 384)), none, some (.int f), some (.int (50021 + 977 * k))] st = .ok ((cut ns none (some 12)).map D.int) st := by
      have cm : cut (ns.map D.int) none (some 12) = (cut ns none (some 12)).map D.int := by simp [cut]
      simp [sliceD, seqOf, cm]
    show exs _ (.cons _ (.cons _ (.cons (.loop _ _ poolB) (.cons _ .nil)))) [some (.lst (ns.map D.int)), some (nd k), none, none, none, none] st = _
    rw [seq_next s1, seq_next (s2 _ _ _), seq_next (st1 := st) (ρ1 := [some (.lst (ns.map D.int)), some (nd k), some (.int (10 ^ 384)), w', some (.int f), some (.int s')]) ((ex_loop ev1).trans e)]
    have p10 : (op2 .pow (.int 10) (.int 18) : M D) = ret (.int (10 ^ 18)) := rfl
    have pm : ∀ x : Int, op2 .mod (.int x) (.int (10 ^ 384)) = ret (.int (x % 10 ^ 384)) := fun x => op_mod (by decide +kernel)
    generalize (10 : Int) ^ 384 = B at pm ⊢
    by_cases hf0 : f < 0
    · simp [absD, bn1, un1, hf0, lim, pm]
    · by_cases hf1 : 1000000000000000000 ≤ f
      · simp [absD, bn1, un1, hf0, hf1, p10, lim, pm]
      · simp [absD, bn1, un1, hf0, hf1, p10, lim]
  · split
    · exact Int.emod_nonneg _ (by decide +kernel)
    · omega

abbrev rl (r : List Nat) : D := .lst (r.map nd)
theorem row_ok {n i : Nat} {zs : List (Option Nat)} (hi : i < n) (hl : zs.length = (List.range n).length) (h : ∀ p ∈ (List.range n).zip zs, (p.2 = some p.1 ∨ p.2 = none) ∧ (p.1 = i → p.2 = some p.1)) : RowOk n i (zs.filterMap id) := by
  have sub : ∀ (l : List Nat) (zs : List (Option Nat)), zs.length = l.length → (∀ p ∈ l.zip zs, (p.2 = some p.1 ∨ p.2 = none) ∧ (p.1 = i → p.2 = some p.1)) → (zs.filterMap id).Sublist l ∧ (i ∈ l → i ∈ zs.filterMap id) := by
    intro l
    induction l with
    | nil =>
      intro zs hl _
      cases zs with
      | nil => exact ⟨.slnil, by simp⟩
      | cons _ _ => simp at hl
    | cons x l ih =>
      intro zs hl h
      cases zs with
      | nil => simp at hl
      | cons z zs =>
        obtain ⟨h1, h2⟩ := ih zs (by simpa using hl) fun p hp => h p (by simp [hp])
        obtain ⟨h3, h4⟩ := h (x, z) (by simp)
        have h3 : z = some x ∨ z = none := h3
        have h4 : x = i → z = some x := h4
        rcases h3 with e | e
        · subst e
          exact ⟨h1.cons_cons x, fun q => by
            rcases List.mem_cons.mp q with q | q
            · simp [q]
            · simp [h2 q]⟩
        · subst e
          exact ⟨h1.cons x, fun q => by
            rcases List.mem_cons.mp q with q | q
            · have := h4 q.symm
              cases this
            · simpa using h2 q⟩
  obtain ⟨h1, h2⟩ := sub _ zs hl h
  exact ⟨fun x hx => List.mem_range.mp (h1.subset hx), h1.nodup List.nodup_range, h2 (List.mem_range.mpr hi)⟩

def WR (W R : Nat) (rows : List (List Nat)) (st : Store) : Prop := WF W R (.lst (rows.map rl)) st
theorem wr_sub {W R : Nat} {rows : List (List Nat)} {st : Store} (h : WR W R rows st) {i : Nat} (hi : i < rows.length) : subD (.obj R) (nd i) st = .ok (rl (rc rows i)) st := by
  have h2 := h.2
  have e : ((rows.map rl)[i]?) = some (rl (rc rows i)) := by simp [rc, hi]
  have e2 : L2.ixN (rows.map rl).length (i : Int) = some i := ixN_nat (by simpa using hi)
  simp only [subD, nd, seqOf, h2, b_st, t_ok, itemOf, e2, e, opt_some, r_st]
theorem wr_set {W R : Nat} (hR : W ≠ R) {rows : List (List Nat)} {st : Store} (h : WR W R rows st) {i : Nat} (r : List Nat) : WR W R (rows.set i r) (st.set R (.lst ((rows.set i r).map rl))) := by
  have hl : R < st.length := (List.getElem?_eq_some_iff.mp h.2).1
  obtain ⟨⟨w, h1, hw⟩, h2⟩ := h
  exact ⟨⟨w, by rw [List.getElem?_set_ne (Ne.symm hR), h1], hw⟩, List.getElem?_set_self hl⟩
theorem d_law_space (n : Nat) {A most many : Nat} (hm : 0 < most ∧ most ≤ 7) : Tri (WI A) (P.run (n + 2) 18 [.obj A, nd most, nd many] none) (fun d => ∃ s, d = sp s ∧ Valid s.length s ∧ (0 < s.length ∧ s.length ≤ most)) (fun _ => WI A) := by
  rw [u18]
  apply T.run rfl
  refine T.set ?_ (Nat.le_of_ble_eq_true rfl)
  apply T.op
  apply T.kp (W.cn 1)
  apply T.call
  apply T.kp (W.cons (W.v rfl rfl) (W.cons (W.v rfl rfl) W.nil))
  apply T.kc (d_law_take _ ⟨hm.1, by omega⟩)
  rintro _ ⟨r, rfl, hr⟩
  apply T.kp (W.addn _ _ _)
  obtain ⟨k, hk⟩ : ∃ k, 1 + r = k := ⟨_, rfl⟩
  rw [hk]
  have hk0 : 0 < k := by omega
  have hk7 : k ≤ most := by omega
  refine T.set ?_ (Nat.le_of_ble_eq_true rfl)
  refine T.bind (Q := fun d => ∃ R, d = .obj R ∧ A < R) (P' := fun d st => ∀ R, d = .obj R → WR A R [] st) (fun st h => ?_) ?_
  · obtain ⟨w, h1, hw⟩ := h
    have hl : A < st.length := (List.getElem?_eq_some_iff.mp h1).1
    refine ⟨.obj st.length, st ++ [.lst []], rfl, ⟨_, rfl, hl⟩, fun R e => ?_⟩
    cases e
    exact ⟨⟨w, by rw [List.getElem?_append_left hl, h1], hw⟩, by simp⟩
  rintro _ ⟨R, rfl, hWR⟩
  have hne : A ≠ R := by omega
  refine T.imp (P := WR A R []) (Q := fun f => ∃ x, f = .ret x ∧ ∃ s, x = sp s ∧ Valid s.length s ∧ (0 < s.length ∧ s.length ≤ most)) (P' := fun f st => ∀ x, f = .ret x → WI A st) ?_ (fun st h => h R rfl) (fun _ h => h) (fun _ _ _ h => h)
  -- the rows drawn
  refine T.loopN (l := List.range k) (enc := nd) (fun i ρ => ∃ a, ρ = [some (.obj A), some (nd most), some (nd many), some (nd k), some (.obj R), a, none, none, none, none, none]) (fun i st => ∃ rows : List (List Nat), WR A R rows st ∧ rows.length = i ∧ ∀ j < i, RowOk k j (rc rows j)) ?_ ⟨_, rfl⟩ (fun st h => ⟨[], h, rfl, fun j hj => absurd hj (Nat.not_lt_zero _)⟩) ?_ ?_
  · exact W.rng1 (W.v rfl rfl) (by omega)
  · rintro i x hx ρ ⟨a, rfl⟩
    obtain ⟨hi, hx⟩ := List.getElem?_eq_some_iff.mp hx
    rw [List.getElem_range] at hx
    subst hx
    have hi : i < k := by simpa using hi
    refine ⟨_, rfl, T.exF fun rows ⟨h2, h3⟩ => ?_⟩
    apply T.expr
    apply T.m
    apply T.kp (W.v rfl rfl)
    refine T.kl (d := ()) (fun st h => ?_) ?_
    · simp [chkL, h.2]
    apply T.cons
    refine T.lc (l := List.range k) (enc := nd) (enc' := nd) (G := fun x z => (z = some x ∨ z = none) ∧ (x = i → z = some x)) (W.rng1 (W.v rfl rfl) (by omega)) (fun _ => rfl) (fun x hx => ?_) (by simp; omega) fun zs h1 h4 => ?_
    · show Tri _ (tst _ _ _ >>= _) _ _
      apply T.tor
      apply T.kp (W.tcmp (W.v rfl rfl) (W.v rfl rfl) (W.eqn _ _))
      refine T.split (fun e => ?_) fun e => ?_
      · rw [if_pos rfl]
        apply T.kp (W.v rfl rfl)
        exact T.ret ⟨some x, rfl, .inl rfl, fun _ => rfl⟩ fun _ h => h
      · apply T.tcmp
        apply T.call
        apply T.kp (W.cons (W.v rfl rfl) (W.cons (W.cn 12) W.nil))
        apply T.kc (f_law_take _ hne ⟨by omega, by omega⟩)
        rintro _ ⟨q, rfl, hq⟩
        apply T.kp (W.v rfl rfl)
        apply T.kp (W.ltn _ _)
        have hne : x ≠ i := of_decide_eq_false e
        refine T.split (fun _ => ?_) fun _ => ?_
        · apply T.kp (W.v rfl rfl)
          exact T.ret ⟨some x, rfl, .inl rfl, fun _ => rfl⟩ fun _ h => h
        · exact T.ret ⟨none, rfl, .inr rfl, fun e => absurd e hne⟩ fun _ h => h
    · apply T.nil
      have ro := row_ok hi h1 h4
      refine T.kw (d := .non) (P2 := WR A R (rows ++ [zs.filterMap id])) (fun st h => ?_) ?_
      · have hl : R < st.length := (List.getElem?_eq_some_iff.mp h.2).1
        refine ⟨st.set R (.lst ((rows ++ [zs.filterMap id]).map rl)), ?_, ?_⟩
        · have hlen : rows.length ≤ lim := by
            rw [lim_eq]
            omega
          have h5 := h.2
          simp only [mn1, b_st, look_st h5, t_ok, List.length_map, hlen, if_true, write_st hl, r_st, List.map_append, List.map_cons, List.map_nil]
        · obtain ⟨⟨w, h6, hw⟩, h7⟩ := h
          exact ⟨⟨w, by rw [List.getElem?_set_ne (Ne.symm hne), h6], hw⟩, List.getElem?_set_self hl⟩
      · refine T.ret ⟨_, rfl, _, rfl⟩ fun st h => ⟨_, h, by simp [h2], fun j hj => ?_⟩
        unfold rc
        rcases Nat.lt_or_ge j i with q | q
        · rw [List.getElem?_append_left (by omega)]
          exact h3 j q
        · obtain rfl : j = i := by omega
          rw [List.getElem?_append_right (by omega), h2, Nat.sub_self]
          exact ro
  rintro ρ ⟨a, rfl⟩
  rw [List.length_range]
  refine T.exF fun rows0 ⟨hl0, ok0⟩ => ?_
  have hR : ∀ m < k, ∀ x ∈ rc rows0 m, x < k := fun m hm => (ok0 m hm).lt
  have hr0 : ∀ m < k, m ∈ rc rows0 m := fun m hm => (ok0 m hm).self
  have g0 : Grown k (rc rows0) 1 rows0 := ⟨hl0, ok0, fun p hp x ⟨m, e, hx⟩ => by
    have e : m = p := e
    rw [← e]
    exact hx, fun p hp x hx => ⟨1, p, rfl, hx⟩⟩
  -- the turns
  refine T.loopN (l := List.range k) (enc := nd) (fun t ρ => ∃ a b c, ρ = [some (.obj A), some (nd most), some (nd many), some (nd k), some (.obj R), a, b, c, none, none, none]) (fun t st => ∃ rows : List (List Nat), WR A R rows st ∧ Grown k (rc rows0) (t + 1) rows) (W.rng1 (W.v rfl rfl) (by omega)) ⟨_, _, _, rfl⟩ (fun st h => ⟨rows0, h, g0⟩) ?_ ?_
  · rintro t x hx ρ ⟨a, b, c, rfl⟩
    refine ⟨_, rfl, T.exF fun rows1 g1 => ?_⟩
    refine T.loopN (l := List.range k) (enc := nd) (fun i ρ => ∃ a c, ρ = [some (.obj A), some (nd most), some (nd many), some (nd k), some (.obj R), a, some (nd x), c, none, none, none]) (fun i st => ∃ rows : List (List Nat), WR A R rows st ∧ G2 k (rc rows0) (t + 1) i rows) (W.rng1 (W.v rfl rfl) (by omega)) ⟨_, _, rfl⟩ (fun st h => ⟨rows1, h, g1.g2⟩) ?_ ?_
    · rintro i y hy ρ ⟨a, c, rfl⟩
      obtain ⟨hi, hy⟩ := List.getElem?_eq_some_iff.mp hy
      rw [List.getElem_range] at hy
      subst hy
      have hi : i < k := by simpa using hi
      refine ⟨_, rfl, T.exF fun rows2 g2 => ?_⟩
      have hi2 : i < rows2.length := by
        rw [g2.len]
        exact hi
      have S7 := (g2.ok i hi).len
      -- the places near it
      obtain ⟨S, hS⟩ : ∃ S, S = rc rows2 i := ⟨_, rfl⟩
      have hSl : S.length ≤ k := by
        rw [hS]
        exact S7
      refine T.loopNS (l := S) (enc := nd) (fun j ρ => ∃ c, ρ = [some (.obj A), some (nd most), some (nd many), some (nd k), some (.obj R), some (nd i), some (nd x), c, none, none, none]) (fun j st => ∃ rows : List (List Nat), WR A R rows st ∧ (G2 k (rc rows0) (t + 1) i rows ∧ (∀ m ∈ S, m ∈ rc rows i) ∧ ∀ m ∈ S.take j, ∀ z, Bl (rc rows0) (t + 1) m z → z ∈ rc rows i)) (fun st h => ?_) ⟨_, rfl⟩ (fun st h => ⟨rows2, h, g2, fun m hm => by rw [← hS]; exact hm, fun m hm => by simp at hm⟩) ?_ ?_
      · have e := wr_sub h hi2
        rw [← hS] at e
        simp [e]
      · rintro j m hm ρ ⟨c, rfl⟩
        refine ⟨_, rfl, T.exF fun rows3 ⟨g3, hin, hdone⟩ => ?_⟩
        have hmS := List.mem_of_getElem? hm
        have hmr := hin m hmS
        have hmk := (g3.ok i hi).lt m hmr
        have hi3 : i < rows3.length := by
          rw [g3.len]
          exact hi
        have hm3 : m < rows3.length := by
          rw [g3.len]
          exact hmk
        have l1 := (g3.ok i hi).len
        have l2 := (g3.ok m hmk).len
        apply T.stup
        refine T.kl (d := rl (rc (grow rows3 i m) i)) (fun st h => ?_) ?_
        · have e1 := wr_sub h hi3
          have e2 := wr_sub h hm3
          have e3 : ev (P.cfg (P.run (n + 1)) none) (.lc false [10] (.nm 10) (.seq (.sub (.v 4) (.v 7))) (.yes (.cmp .nin (.v 10) (.sub (.v 4) (.v 5)))) (.v 10)) [some (.obj A), some (nd most), some (nd many), some (nd k), some (.obj R), some (nd i), some (nd x), some (nd m), none, none, none] st = .ok (.lst (((rc rows3 m).filter fun z => !decide (z ∈ rc rows3 i)).map nd)) st := by
            refine lc_ok nd _ nd (rc rows3 m) (by simp [e2]) (by omega) fun z _ => ⟨_, rfl, ?_, fun _ => ?_⟩
            · simp [e1]
            · simp
          have e4 : rc (grow rows3 i m) i = rc rows3 i ++ (rc rows3 m).filter fun z => !decide (z ∈ rc rows3 i) := by
            unfold grow
            rw [rc_set hi3, if_pos rfl]
          have e5 : ((rc rows3 i).map nd).length + (((rc rows3 m).filter fun z => !decide (z ∈ rc rows3 i)).map nd).length ≤ 1000000 := by
            have := List.length_filter_le (fun z => !decide (z ∈ rc rows3 i)) (rc rows3 m)
            simp only [List.length_map]
            omega
          show ev (P.cfg (P.run (n + 1)) none) (.op (.add false) (.sub (.v 4) (.v 5)) _) [some (.obj A), some (nd most), some (nd many), some (nd k), some (.obj R), some (nd i), some (nd x), some (nd m), none, none, none] st = _
          rw [ev_op, b_st]
          simp only [ev_sub, ev_v, b_st, List.getElem?_cons_succ, List.getElem?_cons_zero, pl_obj, pl_int, if_true, r_st, t_ok, e1]
          rw [e3, t_ok, op_addl e5, e4]
          show _ = Mp.R.ok (D.lst (List.map nd (_ ++ _))) st
          rw [List.map_append]
        refine T.kw (d := [some (.obj A), some (nd most), some (nd many), some (nd k), some (.obj R), some (nd i), some (nd x), some (nd m), none, none, none]) (P2 := WR A R (grow rows3 i m)) (fun st h => ?_) ?_
        · have hw := wr_set hne h (i := i) (rc rows3 i ++ (rc rows3 m).filter fun z => !decide (z ∈ rc rows3 i))
          have e4 : rc (grow rows3 i m) i = rc rows3 i ++ (rc rows3 m).filter fun z => !decide (z ∈ rc rows3 i) := by
            unfold grow
            rw [rc_set hi3, if_pos rfl]
          refine ⟨_, ?_, hw⟩
          have hl : R < st.length := (List.getElem?_eq_some_iff.mp h.2).1
          have e2 : L2.ixN (rows3.map rl).length (i : Int) = some i := ixN_nat (by simpa using hi3)
          have h2 := h.2
          show setT _ (.sub (.v 4) (.v 5)) _ [some (.obj A), some (nd most), some (nd many), some (nd k), some (.obj R), some (nd i), some (nd x), some (nd m), none, none, none] st = _
          simp only [setT_sub, ev_v, b_st, List.getElem?_cons_succ, List.getElem?_cons_zero, pl_obj, pl_int, if_true, r_st, t_ok, look_st h2, e2, write_st hl, e4, List.map_set]
        · refine T.ret ⟨_, rfl, _, rfl⟩ fun st h => ⟨_, h, g3.grow hi hmr, fun q hq => (grow_mem hi3).mpr (.inl (hin q hq)), fun q hq z hz => ?_⟩
          rw [grow_mem hi3]
          rw [List.take_add_one, hm, List.mem_append] at hq
          rcases hq with hq | hq
          · exact .inl (hdone q hq z hz)
          · obtain rfl : q = m := by simpa using hq
            exact .inr (g3.lo q hmk z hz)
      · rintro ρ ⟨c, rfl⟩
        refine T.exF fun rows3 ⟨g3, hin, hdone⟩ => ?_
        rw [List.take_length] at hdone
        refine T.ret ⟨_, rfl, _, _, rfl⟩ fun st h => ⟨_, h, g3.next hR hr0 (by omega) hi (S := S) (fun z hz => ?_) (fun z hz => ?_) hdone⟩
        · rw [hS]
          exact g2.lo i hi z hz
        · rw [hS] at hz
          exact (g2.ok i hi).lt z hz
    · rintro ρ ⟨a, c, rfl⟩
      rw [List.length_range]
      refine T.exF fun rows g => ?_
      exact T.ret ⟨_, rfl, _, _, _, rfl⟩ fun st h => ⟨rows, h, g.grown⟩
  · rintro ρ ⟨a, b, c, rfl⟩
    rw [List.length_range]
    refine T.exF fun rows g => ?_
    have v := g.valid hR hr0 (by omega)
    apply T.sret
    apply T.b
    apply T.cons
    refine T.lcL (P := WR A R rows) (l := rows) (enc := rl) (c := fun _ => true) (g := fun r => lt (sortN r)) (i := R) (W.v rfl rfl) (fun st h => h.2) (fun _ => rfl) (fun _ _ => W.tno) (fun r hr _ => ?_) (by rw [g.len]; omega) ?_
    · apply W.b
      · apply W.cons
        · apply W.b
          · exact W.cons (W.v rfl rfl) W.nil
          · exact W.sortl _
        · exact W.nil
      · exact W.tuplel _
    · apply T.nil
      apply T.kp (W.tuplel _)
      rw [List.filter_eq_self.mpr (fun _ _ => rfl)]
      have e : (rows.map fun r => lt (sortN r)) = (rows.map sortN).map lt := by
        rw [List.map_map]
        rfl
      rw [e]
      have hlen : (rows.map sortN).length = k := by simp [g.len]
      exact T.fret ⟨_, rfl, by rw [hlen]; exact v, by omega, by omega⟩ fun st h => h.1

--import PlMaps

theorem k_fits_so_far (n : Nat) {s t : Spc} {row : List Nat} (vs : Valid s.length s) (vt : Valid t.length t) (h : (0 < row.length ∧ row.length ≤ s.length) ∧ (∀ x ∈ row, x < t.length) ∧ s.length ≤ 7) : P.run (n + 2) 12 [sp s, sp t, lt row] none = ret (.bl (fitB s t row)) := by
  obtain ⟨⟨h0, h1⟩, h2, h3⟩ := h
  have h4 : 1 ≤ row.length := h0
  have h5 : ∀ a (x : Nat), row[a]? = some x → a < s.length ∧ x < t.length := fun a x e => by
    have := (List.getElem?_eq_some_iff.mp e).1
    exact ⟨by omega, h2 x (List.mem_of_getElem? e)⟩
  have h6 : row[row.length - 1]?.getD 0 < t.length := by
    rw [List.getElem?_eq_getElem (by omega)]
    exact h2 _ (List.getElem_mem _)
  have h7 : row.length - 1 < s.length := by omega
  have h8 : ∀ p ∈ W.enm row, p.1 < s.length ∧ p.2 < t.length := fun p hp => h5 p.1 p.2 (W.mem_enm.mp hp)
  apply W.fin
  rw [u12]
  apply W.run rfl
  apply W.sset
  apply W.op
  apply W.b
  apply W.cons
  exact W.v rfl rfl
  exact W.nil
  first | exact W.lentm _ _ | exact W.lenlm _ _ | exact W.lent _ | exact W.lenl _
  exact W.cn 1
  first | exact W.subn (by first | assumption | omega | grind) | exact W.subi _ _
  exact rfl
  apply W.sloop
  apply W.enum
  exact W.v rfl rfl
  first | exact W.itemst _ | exact W.itemsl _
  exact fun _ => rfl
  exact fun _ _ => rfl
  intro x1 hx1
  apply W.bite
  apply W.tand
  apply W.tval
  apply W.call
  apply W.cons
  exact W.v rfl rfl
  apply W.cons
  exact W.v rfl rfl
  apply W.cons
  exact W.v rfl rfl
  exact W.nil
  apply W.cl
  first | exact k_is_near_by _ | exact k_is_near_by _ (by first | assumption | omega | grind) | exact k_is_near_by _ (by first | assumption | omega | grind) (by first | assumption | omega | grind) | exact k_is_near_by _ (by first | assumption | omega | grind) (by first | assumption | omega | grind) (by first | assumption | omega | grind)
  exact W.truthb _
  intro hc2
  apply W.tnot
  apply W.tval
  apply W.call
  apply W.cons
  exact W.v rfl rfl
  apply W.cons
  exact W.v rfl rfl
  apply W.cons
  apply Mp.W.sub
  exact W.v rfl rfl
  exact W.v rfl rfl
  first | apply W.sub_sp | apply W.sub_lt | apply W.sub_ll | apply W.sub_ln | apply W.subt | apply W.subl
  first | assumption | omega | grind
  exact W.nil
  apply W.cl
  first | exact k_is_near_by _ | exact k_is_near_by _ (by first | assumption | omega | grind) | exact k_is_near_by _ (by first | assumption | omega | grind) (by first | assumption | omega | grind) | exact k_is_near_by _ (by first | assumption | omega | grind) (by first | assumption | omega | grind) (by first | assumption | omega | grind)
  exact W.truthb _
  intro hc3
  apply W.sret
  exact W.c _
  intro hc3
  apply W.bite
  apply W.tand
  apply W.tval
  apply W.call
  apply W.cons
  exact W.v rfl rfl
  apply W.cons
  exact W.v rfl rfl
  apply W.cons
  exact W.v rfl rfl
  exact W.nil
  apply W.cl
  first | exact k_is_near_by _ | exact k_is_near_by _ (by first | assumption | omega | grind) | exact k_is_near_by _ (by first | assumption | omega | grind) (by first | assumption | omega | grind) | exact k_is_near_by _ (by first | assumption | omega | grind) (by first | assumption | omega | grind) (by first | assumption | omega | grind)
  exact W.truthb _
  intro hc4
  apply W.tnot
  apply W.tval
  apply W.call
  apply W.cons
  exact W.v rfl rfl
  apply W.cons
  apply Mp.W.sub
  exact W.v rfl rfl
  exact W.v rfl rfl
  first | apply W.sub_sp | apply W.sub_lt | apply W.sub_ll | apply W.sub_ln | apply W.subt | apply W.subl
  first | assumption | omega | grind
  apply W.cons
  exact W.v rfl rfl
  exact W.nil
  apply W.cl
  first | exact k_is_near_by _ | exact k_is_near_by _ (by first | assumption | omega | grind) | exact k_is_near_by _ (by first | assumption | omega | grind) (by first | assumption | omega | grind) | exact k_is_near_by _ (by first | assumption | omega | grind) (by first | assumption | omega | grind) (by first | assumption | omega | grind)
  exact W.truthb _
  intro hc5
  apply W.sret
  exact W.c _
  intro hc5
  exact W.bnil
  apply W.sret
  exact W.c _
  intro x1 hx1
  apply W.sret
  exact W.c _
  unfold fitB
  refine find_all fun p hp => ?_
  generalize decide (p.1 ∈ rc s (row.length - 1)) = a
  generalize decide (p.2 ∈ rc t (row[row.length - 1]?.getD 0)) = b
  generalize decide (row.length - 1 ∈ rc s p.1) = c
  generalize decide (row[row.length - 1]?.getD 0 ∈ rc t p.2) = d
  cases a <;> cases b <;> cases c <;> cases d <;> rfl

theorem k_maps_by (n : Nat) {s t : Spc} (vs : Valid s.length s) (vt : Valid t.length t) (h : s.length ≤ 5 ∧ t.length ≤ 5) : P.run (n + 3) 13 [sp s, sp t] none = ret (.lst ((mapsN s t s.length).map lt)) := by
  obtain ⟨h1, h2⟩ := h
  apply W.fin
  rw [u13]
  apply W.run rfl
  apply W.sset
  · apply W.lst
    · apply W.cons
      · apply W.tup
        · exact W.nil
        · simp
      · exact W.nil
    · simp
  · exact rfl
  · apply W.sfold (l := List.range s.length) (enc := nd) (fun k ρ => ∃ a b, ρ = [some (sp s), some (sp t), some (.lst ((mapsN s t k).map lt)), a, b, none, none])
    · apply W.seq
      · apply W.call
        · exact W.cons (W.v rfl rfl) W.nil
        · exact k_places_of _ (by omega)
      · exact W.heldl _
    · exact ⟨_, _, rfl⟩
    · rintro k x hx ρ ⟨a, b, rfl⟩
      obtain ⟨hk, hx⟩ := List.getElem?_eq_some_iff.mp hx
      rw [List.getElem_range] at hx
      subst hx
      have hk : k < s.length := by simpa using hk
      have cnt := mapsN_5 (s := s) h2 (show k ≤ 5 by omega)
      have cF : (mapsN s t k).length * t.length ≤ lim := by
        rw [lim_eq]
        exact Nat.le_trans (mul_top cnt h2 rfl) (by omega)
      have cntF := flat_len (K := t.length) (l := mapsN s t k) (f := fun row => (List.range t.length).map fun x => row ++ [x]) (by simp)
      have ft : ∀ l : List Nat, (l.filter fun _ => true) = l := fun l => List.filter_eq_self.mpr fun _ _ => rfl
      have e1 : ev (P.cfg (P.run (n + 2)) none) (.lc2 false [5, 6] (.nm 5) (.seq (.v 2)) .no (.nm 6) (.seq (.call 10 (.cons (.v 1) .nil))) .no (.tup (.star (.v 5) (.cons (.v 6) .nil)))) [some (sp s), some (sp t), some (.lst ((mapsN s t k).map lt)), some (nd k), b, none, none] = ret (.lst (((mapsN s t k).flatMap fun row => (List.range t.length).map fun x => row ++ [x]).map lt)) := by
        refine W.fin (m := ev _ _ _) (W.lc2 (l := mapsN s t k) (enc := lt) (l1 := fun _ => List.range t.length) (enc1 := nd) (k := fun _ => true) (k1 := fun _ _ => true) (g := fun row x => .tup (row.map nd ++ [nd x])) ?_ (fun _ => rfl) (fun _ _ => W.tno) (fun x hx _ => ?_) (fun _ _ => rfl) (fun _ _ _ _ _ => W.tno) (fun x y hx hy _ _ => ?_) ?_) ?_
        · exact W.seq (W.v rfl rfl) (W.heldl _)
        · apply W.seq
          · apply W.call
            · exact W.cons (W.v rfl rfl) W.nil
            · exact k_places_of _ (by omega)
          · exact W.heldl _
        · apply W.tup
          · apply W.star
            · exact W.v rfl rfl
            · exact W.itemst _
            · exact W.cons (W.v rfl rfl) W.nil
          · have := (mapsN_len hx).1
            simp
            omega
        · refine Nat.le_trans (flat_len (K := t.length) fun r hr => ?_) cF
          simp [ft]
        · simp only [ft, if_true, List.map_flatMap, List.map_map, Function.comp_def, lt, List.map_append, List.map_cons, List.map_nil]
      have e2 : ((mapsN s t k).flatMap fun row => (List.range t.length).map fun x => row ++ [x]).filter (fitB s t) = mapsN s t (k + 1) := by
        rw [mapsN, List.filter_flatMap]
        refine flat_congr fun row hr => ?_
        rw [List.filter_map]
        congr 1
        refine List.filter_congr fun x hx => ?_
        exact fitB_okm vs vt (by rw [(mapsN_len hr).1]; exact hk) (List.mem_range.mp hx)
      refine ⟨_, _, rfl, W.sset e1 rfl (W.sset (W.lc (l := (mapsN s t k).flatMap fun row => (List.range t.length).map fun x => row ++ [x]) (enc := lt) (k := fitB s t) (g := lt) (W.seq (W.v rfl rfl) (W.heldl _)) (fun _ => rfl) (fun x hx => W.tyes (W.tval (W.call (W.cons (W.v rfl rfl) (W.cons (W.v rfl rfl) (W.cons (W.v rfl rfl) W.nil))) (k_fits_so_far _ vs vt ?_)) (W.truthb _))) (fun x hx _ => W.v rfl rfl) (Nat.le_trans cntF cF)) rfl W.snil), some (nd k), some (.lst (((mapsN s t k).flatMap fun row => (List.range t.length).map fun x => row ++ [x]).map lt)), ?_⟩
      · obtain ⟨row, hr, hx⟩ := List.mem_flatMap.mp hx
        obtain ⟨y, hy, rfl⟩ := List.mem_map.mp hx
        obtain ⟨q1, q2⟩ := mapsN_len hr
        refine ⟨⟨by simp, by simp; omega⟩, fun z hz => ?_, by omega⟩
        rcases List.mem_append.mp hz with e | e
        · exact q2 z e
        · have : z = y := by simpa using e
          have := List.mem_range.mp hy
          omega
      · rw [e2]
        rfl
    · rintro ρ ⟨a, b, rfl⟩
      rw [List.length_range]
      exact W.sret (W.v rfl rfl)
  · rfl

theorem k_check_few (n : Nat) {s t : Spc} {m : Nat} (vs : Valid s.length s) (vt : Valid t.length t) (h : (0 < s.length ∧ s.length ≤ m) ∧ (0 < t.length ∧ t.length ≤ m) ∧ m ≤ 7) : P.run (n + 7) 14 [sp s, sp t, nd m] none = ret .non := by
  obtain ⟨⟨h1, h2⟩, ⟨h3, h4⟩, h5⟩ := h
  rw [u14]
  apply W.run0e rfl
  · apply W.sfold0 (l := [s, t]) (enc := sp) (fun k ρ => ∃ a, ρ = [some (sp s), some (sp t), some (nd m), a])
    · apply W.seq
      · apply W.tup
        · exact W.cons (W.v rfl rfl) (W.cons (W.v rfl rfl) W.nil)
        · simp
      · exact W.heldt _
    · exact ⟨_, rfl⟩
    · rintro k x hx ρ ⟨a, rfl⟩
      have hx := List.mem_of_getElem? hx
      have hv : Valid x.length x ∧ 0 < x.length ∧ x.length ≤ m := by
        simp only [List.mem_cons, List.not_mem_nil, or_false] at hx
        rcases hx with rfl | rfl
        · exact ⟨vs, h1, h2⟩
        · exact ⟨vt, h3, h4⟩
      refine ⟨_, _, rfl, W.sexpr (W.call (W.cons (W.v rfl rfl) W.nil) (k_check_space _ hv.1 ⟨hv.2.1, by omega⟩)) (W.sskip (W.feq (W.tcmp (W.b (W.cons (W.v rfl rfl) W.nil) (W.lentm _ _)) (W.v rfl rfl) (W.gtn _ _)) ?_) W.snil), _, rfl⟩
      simp
      exact hv.2.2

theorem k_count_maps (n : Nat) {s t : Spc} (vs : Valid s.length s) (vt : Valid t.length t) (h : (0 < s.length ∧ s.length ≤ 5) ∧ (0 < t.length ∧ t.length ≤ 5)) : P.run (n + 8) 15 [sp s, sp t] none = ret (nd (mapsN s t s.length).length) := by
  apply W.fin
  rw [u15]
  apply W.run rfl
  apply W.sexpr
  apply W.call
  apply W.cons
  exact W.v rfl rfl
  apply W.cons
  exact W.v rfl rfl
  apply W.cons
  exact W.gn (n := 5) rfl
  exact W.nil
  apply W.cl
  first | exact k_check_few _ | exact k_check_few _ (by first | assumption | omega | grind) | exact k_check_few _ (by first | assumption | omega | grind) (by first | assumption | omega | grind) | exact k_check_few _ (by first | assumption | omega | grind) (by first | assumption | omega | grind) (by first | assumption | omega | grind)
  apply W.sret
  apply W.b
  apply W.cons
  apply W.call
  apply W.cons
  exact W.v rfl rfl
  apply W.cons
  exact W.v rfl rfl
  exact W.nil
  apply W.cl
  first | exact k_maps_by _ | exact k_maps_by _ (by first | assumption | omega | grind) | exact k_maps_by _ (by first | assumption | omega | grind) (by first | assumption | omega | grind) | exact k_maps_by _ (by first | assumption | omega | grind) (by first | assumption | omega | grind) (by first | assumption | omega | grind)
  exact W.nil
  first | exact W.lentm _ _ | exact W.lenlm _ _ | exact W.lent _ | exact W.lenl _
  rfl

def LW (A : Nat) (d : D) (xs : List (List Nat)) (st : Store) : Prop := WI A st ∧ T.LV d (xs.map lt) st ∧ d ≠ .obj A ∧ d.plain = true
/-- two rows: one told or alive, one that grows -/
def L2 (A G : Nat) (d : D) (xs ys : List (List Nat)) (st : Store) : Prop := LW A d xs st ∧ st[G]? = some (.lst (ys.map lt)) ∧ A ≠ G ∧ d ≠ .obj G
theorem l2_app {A G : Nat} {d : D} {xs ys : List (List Nat)} {st : Store} (h : L2 A G d xs ys st) (y : List Nat) : L2 A G d xs (ys ++ [y]) (st.set G (.lst ((ys ++ [y]).map lt))) := by
  obtain ⟨⟨⟨w, h1, hw⟩, h2, h3, h4⟩, h5, h6, h7⟩ := h
  have hl : G < st.length := (List.getElem?_eq_some_iff.mp h5).1
  refine ⟨⟨⟨w, by rw [List.getElem?_set_ne (Ne.symm h6), h1], hw⟩, ?_, h3, h4⟩, List.getElem?_set_self hl, h6, h7⟩
  rcases h2 with h2 | ⟨i, rfl, e⟩
  · exact .inl h2
  · have : G ≠ i := fun z => h7 (by rw [z])
    exact .inr ⟨i, rfl, by rw [List.getElem?_set_ne this, e]⟩
theorem d_law_right (n : Nat) {A a b : Nat} (ha : 0 < a ∧ a ≤ 4) : Tri (WI A) (P.run (n + 9) 19 [.obj A, .tup [nd a, nd b]] none) (fun d => d = .bl true) (fun _ => WI A) := by
  rw [u19]
  apply T.run rfl
  have c0 : ∀ x y : D, subD (.tup [x, y]) (nd 0) = ret x := fun x y => rfl
  have c1 : ∀ x y : D, subD (.tup [x, y]) (nd 1) = ret y := fun x y => rfl
  apply T.stup
  apply T.tup
  apply T.cons
  apply T.call
  apply T.kp (W.cons (W.v rfl rfl) (W.cons (Mp.W.sub (W.v rfl rfl) (W.cn 0) (c0 _ _)) (W.cons (Mp.W.sub (W.v rfl rfl) (W.cn 1) (c1 _ _)) W.nil)))
  apply T.kc (d_law_space _ ⟨ha.1, by omega⟩)
  rintro _ ⟨s, rfl, vs, hs⟩
  apply T.cons
  apply T.call
  apply T.kp (W.cons (W.v rfl rfl) (W.cons (Mp.W.sub (W.v rfl rfl) (W.cn 0) (c0 _ _)) (W.cons (Mp.W.sub (W.v rfl rfl) (W.cn 1) (c1 _ _)) W.nil)))
  apply T.kc (d_law_space _ ⟨ha.1, by omega⟩)
  rintro _ ⟨t, rfl, vt, ht⟩
  apply T.nil
  apply T.pos (by simp)
  refine T.kp (show setT _ _ _ _ = Mp.ret _ from rfl) ?_
  refine T.set ?_ (Nat.le_of_ble_eq_true rfl)
  apply T.kp (W.lst (W.cons (W.tup W.nil (by simp)) W.nil) (by simp))
  have cnt : ∀ k ≤ s.length, (mapsN s t k).length ≤ 256 := fun k hk => mapsN_4 (by omega) (by omega)
  refine T.loopK (l := List.range s.length) (enc := nd) (fun k ρ st => ∃ d x3 x7 x8 x9 x10 x11, ρ = [some (.obj A), some (.tup [nd a, nd b]), some d, x3, none, some (sp s), some (sp t), x7, x8, x9, x10, x11, none] ∧ LW A d (mapsN s t k) st) (fun st h => ?_) (fun st h => ⟨_, _, _, _, _, _, _, rfl, h, .inl rfl, by simp, rfl⟩) ?_ ?_
  · have := W.rng1 (C := P.cfg (P.run (n + 8)) none) (W.b (W.cons (W.v (ρ := [some (.obj A), some (.tup [nd a, nd b]), some (.lst [.tup []]), none, none, some (sp s), some (sp t), none, none, none, none, none, none]) (i := 5) rfl rfl) W.nil) (W.lentm lt s)) (by omega)
    exact congrFun this st
  · rintro k x hx ρ ⟨st0, d, x3, x7, x8, x9, x10, x11, rfl, hst0⟩
    obtain ⟨hk, hx⟩ := List.getElem?_eq_some_iff.mp hx
    rw [List.getElem_range] at hx
    subst hx
    have hk : k < s.length := by simpa using hk
    have hdA := hst0.2.2.1
    have hdp := hst0.2.2.2
    refine ⟨_, rfl, ?_⟩
    refine T.imp (P := LW A d (mapsN s t k)) ?_ (fun st ⟨d', _, _, _, _, _, _, e, h⟩ => by
      have e9 : (some (some d) : Option (Option D)) = some (some d') := congrArg (fun l : List (Option D) => l[2]?) e
      cases e9
      exact h) (fun _ h => h) (fun _ _ _ h => h)
    refine T.set ?_ (Nat.le_of_ble_eq_true rfl)
    -- the new row
    refine T.bind (Q := fun g => ∃ G, g = .obj G) (P' := fun g st => ∀ G, g = .obj G → L2 A G d (mapsN s t k) [] st) (fun st h => ?_) ?_
    · obtain ⟨⟨w, h1, hw⟩, h2, h3, h4⟩ := h
      have hl : A < st.length := (List.getElem?_eq_some_iff.mp h1).1
      refine ⟨.obj st.length, st ++ [.lst []], rfl, ⟨_, rfl⟩, fun G e => ?_⟩
      cases e
      refine ⟨⟨⟨w, by rw [List.getElem?_append_left hl, h1], hw⟩, ?_, h3, h4⟩, by simp, by omega, ?_⟩
      · rcases h2 with h2 | ⟨i, rfl, e⟩
        · exact .inl h2
        · have hi : i < st.length := (List.getElem?_eq_some_iff.mp e).1
          exact .inr ⟨i, rfl, by rw [List.getElem?_append_left hi, e]⟩
      · rcases h2 with h2 | ⟨i, rfl, e⟩
        · rw [h2]
          simp
        · have hi : i < st.length := (List.getElem?_eq_some_iff.mp e).1
          intro z
          cases z
          omega
    rintro _ ⟨G, rfl⟩
    refine T.imp (P := L2 A G d (mapsN s t k) []) (P' := fun f st => ∀ ρ2, f = .next ρ2 → ∃ d x3 x7 x8 x9 x10 x11, ρ2 = [some (.obj A), some (.tup [nd a, nd b]), some d, x3, none, some (sp s), some (sp t), x7, x8, x9, x10, x11, none] ∧ LW A d (mapsN s t (k + 1)) st) ?_ (fun st h => h G rfl) (fun _ h => h) (fun _ _ _ h => h)
    -- over the rows so far
    refine T.loopL (l := mapsN s t k) (enc := lt) (d := d) (fun j ρ => ∃ x8 x9 x10 x11, ρ = [some (.obj A), some (.tup [nd a, nd b]), some d, some (nd k), none, some (sp s), some (sp t), some (.obj G), x8, x9, x10, x11, none]) (fun j st => L2 A G d (mapsN s t k) (((mapsN s t k).take j).flatMap fun row => ((List.range t.length).filter (okm s t row)).map fun x => row ++ [x]) st) (W.v rfl hdp) (fun j st h => h.1.2.1) (by have := cnt k (by omega); omega) ⟨_, _, _, _, rfl⟩ (fun st h => h) ?_ ?_
    · rintro j row hrow ρ ⟨y8, y9, y10, y11, rfl⟩
      refine ⟨_, rfl, ?_⟩
      have hrm := List.mem_of_getElem? hrow
      obtain ⟨hr1, hr2⟩ := mapsN_len hrm
      obtain ⟨B, hB⟩ : ∃ B, B = ((mapsN s t k).take j).flatMap fun row => ((List.range t.length).filter (okm s t row)).map fun x => row ++ [x] := ⟨_, rfl⟩
      rw [List.take_add_one, hrow, List.flatMap_append, ← hB]
      have hBl : B.length ≤ 1024 := by
        rw [hB]
        have h1 := flat_len (K := t.length) (l := (mapsN s t k).take j) (f := fun row => ((List.range t.length).filter (okm s t row)).map fun x => row ++ [x]) fun r _ => by
          have := List.length_filter_le (okm s t r) (List.range t.length)
          simpa using this
        have h2 := cnt k (by omega)
        have h3 : ((mapsN s t k).take j).length ≤ 256 := by
          rw [List.length_take]
          omega
        exact Nat.le_trans h1 (mul_top h3 (show t.length ≤ 4 by omega) rfl)
      refine T.loopN (l := List.range t.length) (enc := nd) (fun x ρ => ∃ x9 x10 x11, ρ = [some (.obj A), some (.tup [nd a, nd b]), some d, some (nd k), none, some (sp s), some (sp t), some (.obj G), some (lt row), x9, x10, x11, none]) (fun x st => L2 A G d (mapsN s t k) (B ++ ((List.range x).filter (okm s t row)).map fun x => row ++ [x]) st) (W.rng1 (W.b (W.cons (W.v rfl rfl) W.nil) (W.lentm lt t)) (by omega)) ⟨_, _, _, rfl⟩ (fun st h => by simpa using h) ?_ ?_
      · rintro i x hx ρ ⟨z9, z10, z11, rfl⟩
        obtain ⟨hi, hx⟩ := List.getElem?_eq_some_iff.mp hx
        rw [List.getElem_range] at hx
        subst hx
        have hi : i < t.length := by simpa using hi
        refine ⟨_, rfl, ?_⟩
        have rl1 := vs.rlen k
        -- ahead
        refine T.set ?_ (Nat.le_of_ble_eq_true rfl)
        refine T.kp (d := .lst (((rc s k).filter fun a => decide (a < k)).map fun a => .bl (decide (row[a]?.getD 0 ∈ rc t i)))) ?_ ?_
        · refine W.lc (l := rc s k) (enc := nd) (k := fun a => decide (a < k)) (g := fun a => .bl (decide (row[a]?.getD 0 ∈ rc t i))) (W.seq (Mp.W.sub (W.v rfl rfl) (W.v rfl rfl) (W.sub_sp hk)) (W.heldt _)) (fun _ => rfl) (fun x _ => W.tyes (W.tcmp (W.v rfl rfl) (W.v rfl rfl) (W.ltn _ _))) (fun x _ hc => W.cmp (Mp.W.sub (W.v rfl rfl) (W.v rfl rfl) (W.sub_lt ?_)) (Mp.W.sub (W.v rfl rfl) (W.v rfl rfl) (W.sub_sp hi)) (W.int_id nd _ _)) (by omega)
          have := of_decide_eq_true hc
          omega
        refine T.set ?_ (Nat.le_of_ble_eq_true rfl)
        refine T.kp (d := .lst (((List.range k).filter fun a => decide (k ∈ rc s a)).map fun a => .bl (decide (i ∈ rc t (row[a]?.getD 0))))) ?_ ?_
        · refine W.lc (l := List.range k) (enc := nd) (k := fun a => decide (k ∈ rc s a)) (g := fun a => .bl (decide (i ∈ rc t (row[a]?.getD 0)))) (W.rng1 (W.v rfl rfl) (by omega)) (fun _ => rfl) (fun x hx => W.tyes (W.tcmp (W.v rfl rfl) (Mp.W.sub (W.v rfl rfl) (W.v rfl rfl) (W.sub_sp ?_)) (W.int_id nd _ _))) (fun x hx hc => W.cmp (W.v rfl rfl) (Mp.W.sub (W.v rfl rfl) (Mp.W.sub (W.v rfl rfl) (W.v rfl rfl) (W.sub_lt ?_)) (W.sub_sp ?_)) (W.int_id nd _ _)) (by simp; omega)
          · have := List.mem_range.mp hx
            omega
          · have := List.mem_range.mp hx
            omega
          · have := List.mem_range.mp hx
            have h1 : x < row.length := by omega
            rw [List.getElem?_eq_getElem h1]
            exact hr2 _ (List.getElem_mem h1)
        apply T.sif
        apply T.kp (W.tand (W.tval (W.b (W.cons (W.v rfl rfl) W.nil) (W.alll _ _)) (W.truthb _)) fun _ => W.tval (W.b (W.cons (W.v rfl rfl) W.nil) (W.alll _ _)) (W.truthb _))
        have eo : (((rc s k).filter fun a => decide (a < k)).all (fun a => decide (row[a]?.getD 0 ∈ rc t i)) && ((List.range k).filter fun a => decide (k ∈ rc s a)).all (fun a => decide (i ∈ rc t (row[a]?.getD 0)))) = okm s t row i := by
          unfold okm
          rw [hr1]
        rw [eo]
        have er : (List.range (i + 1)).filter (okm s t row) = (List.range i).filter (okm s t row) ++ (if okm s t row i = true then [i] else []) := by
          rw [List.range_succ, List.filter_append]
          congr 1
          cases e8 : okm s t row i <;> simp [List.filter_cons, e8]
        have hfl := List.length_filter_le (okm s t row) (List.range i)
        rw [List.length_range] at hfl
        cases ho : okm s t row i
        · rw [if_neg (by simp)]
          refine T.kp (show exs _ .nil _ = Mp.ret _ from rfl) (T.ret ⟨_, rfl, _, _, _, rfl⟩ fun st h => ?_)
          rw [er, ho]
          simpa using h
        · rw [if_pos rfl]
          refine T.assocR ?_
          refine T.bind (Q := fun f => f = .next [some (.obj A), some (.tup [nd a, nd b]), some d, some (nd k), none, some (sp s), some (sp t), some (.obj G), some (lt row), some (nd i), some (.lst (((rc s k).filter fun a => decide (a < k)).map fun a => .bl (decide (row[a]?.getD 0 ∈ rc t i)))), some (.lst (((List.range k).filter fun a => decide (k ∈ rc s a)).map fun a => .bl (decide (i ∈ rc t (row[a]?.getD 0))))), none]) (P' := fun _ st => L2 A G d (mapsN s t k) (B ++ ((List.range (i + 1)).filter (okm s t row)).map fun x => row ++ [x]) st) ?_ ?_
          · apply T.expr
            apply T.m
            apply T.kp (W.v rfl rfl)
            refine T.kl (d := ()) (fun st h => ?_) ?_
            · simp [chkL, h.2.1]
            refine T.kp (d := [lt (row ++ [i])]) ?_ ?_
            · refine W.cons (W.fin (W.op (W.v rfl rfl) (W.tup (W.cons (W.v rfl rfl) W.nil) (by simp)) (W.addt (by simp; omega))) ?_) W.nil
              simp [lt]
            refine T.kw (d := .non) (P2 := L2 A G d (mapsN s t k) (B ++ ((List.range (i + 1)).filter (okm s t row)).map fun x => row ++ [x])) (fun st h => ?_) (T.ret rfl fun st h => h)
            have h5 := h.2.1
            have hl : G < st.length := (List.getElem?_eq_some_iff.mp h5).1
            have e9 : (B ++ ((List.range (i + 1)).filter (okm s t row)).map fun x => row ++ [x]) = (B ++ ((List.range i).filter (okm s t row)).map fun x => row ++ [x]) ++ [row ++ [i]] := by
              rw [er, ho]
              simp
            rw [e9]
            refine ⟨_, ?_, l2_app h _⟩
            have hlen : ((B ++ ((List.range i).filter (okm s t row)).map fun x => row ++ [x]).map lt).length ≤ lim := by
              rw [lim_eq]
              simp
              omega
            simp only [mn1, b_st, look_st h5, t_ok, hlen, if_true, write_st hl, r_st]
            rw [List.map_append (l₁ := B ++ _)]
            rfl
          · rintro _ rfl
            exact T.ret ⟨_, rfl, _, _, _, rfl⟩ fun st h => h
      · rintro ρ ⟨z9, z10, z11, rfl⟩
        rw [List.length_range]
        exact T.ret ⟨_, rfl, _, _, _, _, rfl⟩ fun st h => by simpa using h
    · rintro ρ ⟨y8, y9, y10, y11, rfl⟩
      refine T.set ?_ (Nat.le_of_ble_eq_true rfl)
      apply T.kp (W.v rfl rfl)
      refine T.ret ⟨_, rfl⟩ fun st h ρ2 e => ?_
      cases e
      rw [List.take_length] at h
      exact ⟨.obj G, _, _, _, _, _, _, rfl, h.1.1, .inr ⟨G, rfl, h.2.1⟩, fun z => h.2.2.1 (by cases z; rfl), rfl⟩
  · rintro ρ ⟨st0, d, x3, x7, x8, x9, x10, x11, rfl, hst0⟩
    have hdp := hst0.2.2.2
    have c9 := cnt s.length (Nat.le_refl _)
    rw [List.length_range]
    refine T.imp (P := LW A d (mapsN s t s.length)) ?_ (fun st ⟨d', _, _, _, _, _, _, e, h⟩ => by
      have e9 : (some (some d) : Option (Option D)) = some (some d') := congrArg (fun l : List (Option D) => l[2]?) e
      cases e9
      exact h) (fun _ h => h) (fun _ _ _ h => h)
    refine T.set ?_ (Nat.le_of_ble_eq_true rfl)
    apply T.b
    apply T.kp (W.cons (W.v rfl hdp) W.nil)
    refine T.kl (d := nd (mapsN s t s.length).length) (fun st h => ?_) ?_
    · have := T.lv_len h.2.1
      simpa using this
    apply T.sret
    refine T.kp (d := .bl true) ?_ (T.fret rfl fun st h => h.1)
    refine W.fin (W.cmp (W.b (W.cons (W.lst (W.cons (W.call (W.cons (W.v rfl rfl) (W.cons (W.v rfl rfl) W.nil)) (k_count_maps _ vs vt ⟨⟨hs.1, by omega⟩, ht.1, by omega⟩)) (W.cons (W.callk (W.cons (W.v rfl rfl) (W.cons (W.v rfl rfl) W.nil)) rfl (k_count_maps _ vs vt ⟨⟨hs.1, by omega⟩, ht.1, by omega⟩)) W.nil)) (by simp)) W.nil) (W.repr (W.wr_nd2 (by omega) (by omega)))) (W.b (W.cons (W.lst (W.cons (W.v rfl rfl) (W.cons (W.v rfl rfl) W.nil)) (by simp)) W.nil) (W.repr (W.wr_nd2 (by omega) (by omega)))) (W.eqs _ _)) ?_
    simp


theorem laps (ns : List Int) : ∃ m : Nat, m ≤ 3 ∧ ∀ C (r : List (Option D)), ev C (.b .max2 (.cons (.c (.int 2)) (.cons (.b .min2 (.cons (.b .len (.cons (.v 0) .nil)) (.cons (.c (.int 3)) .nil))) .nil))) (some (.lst (ns.map D.int)) :: r) = ret (nd m) := by
  refine ⟨max 2 (min ns.length 3), by omega, fun C r => ?_⟩
  have h1 : ∀ i j : Nat, bn1 .min2 [nd i, nd j] = ret (nd (min i j)) := fun i j => by
    show (ret (D.int (if (j : Int) < i then (j : Int) else i)) : M D) = ret (.int ((min i j : Nat) : Int))
    congr 2
    omega
  have h2 : ∀ i j : Nat, bn1 .max2 [nd i, nd j] = ret (nd (max i j)) := fun i j => by
    show (ret (D.int (if (j : Int) > i then (j : Int) else i)) : M D) = ret (.int ((max i j : Nat) : Int))
    congr 2
    omega
  exact W.b (W.cons (W.cn 2) (W.cons (W.b (W.cons (W.b (W.cons (W.v rfl rfl) W.nil) (W.lenlm _ _)) (W.cons (W.cn 3) W.nil)) (h1 _ 3)) W.nil)) (h2 2 _)

theorem t_law (n : Nat) {ns : List Int} (hl : ns.length ≤ 63) : Tri (fun _ => True) (P.run (n + 10) 20 [.lst (ns.map D.int)] none) (fun d => d = .bl true) (fun _ _ => True) := by
  rw [u20]
  apply T.run rfl
  obtain ⟨m, hm, em⟩ := laps ns
  refine T.loopJ (l := List.range m) (enc := nd) (fun ρ => ∃ a b c, ρ = [some (.lst (ns.map D.int)), a, b, c]) (fun _ => True) (W.rng1 (em _ _) (by omega)) ⟨_, _, _, rfl⟩ (fun _ h => h) ?_ ?_
  · rintro k hk ρ ⟨a, b, c, rfl⟩
    have hk : k < 3 := by
      have := List.mem_range.mp hk
      omega
    refine ⟨_, rfl, ?_⟩
    refine T.set ?_ (Nat.le_of_ble_eq_true rfl)
    apply T.call
    apply T.kp (W.cons (W.v rfl rfl) (W.cons (W.v rfl rfl) W.nil))
    refine T.bind (d_law_pool _ hk hl) ?_
    rintro _ ⟨A, rfl⟩
    refine T.imp (P := WI A) (Q := fun f => ∃ ρ2, f = .next ρ2 ∧ ∃ a b c, ρ2 = [some (.lst (ns.map D.int)), a, b, c]) (P' := fun _ _ => True) ?_ (fun _ h => h) (fun _ h => .inl h) (fun _ _ _ _ => trivial)
    refine T.loopJ (l := [(4, 2), (4, 1), (3, 3), (4, 4), (2, 3)]) (enc := fun p : Nat × Nat => .tup [nd p.1, nd p.2]) (fun ρ => ∃ c, ρ = [some (.lst (ns.map D.int)), some (nd k), some (.obj A), c]) (WI A) rfl ⟨_, rfl⟩ (fun _ h => h) ?_ ?_
    · rintro ⟨p, q⟩ hp ρ ⟨c, rfl⟩
      have hp : 0 < p ∧ p ≤ 4 := by
        simp at hp
        omega
      refine ⟨_, rfl, ?_⟩
      apply T.sif
      apply T.tnot
      apply T.tval
      apply T.call
      apply T.kp (W.cons (W.v rfl rfl) (W.cons (W.v rfl rfl) W.nil))
      apply T.kc (d_law_right _ hp)
      rintro _ rfl
      apply T.kp (W.truthb _)
      refine T.skip0 rfl ?_
      exact T.ret (.inl ⟨_, rfl, _, rfl⟩) fun _ h => h
    · rintro ρ ⟨c, rfl⟩
      exact T.ret ⟨_, rfl, _, _, _, rfl⟩ fun _ _ => trivial
  · rintro ρ ⟨a, b, c, rfl⟩
    apply T.sret
    apply T.kp (W.c _)
    exact T.fret rfl fun _ _ => trivial

theorem plain (ns : List Int) (hl : ns.length ≤ 63) : ∃ st, P.run 30 20 [.lst (ns.map D.int)] none [] = .ok (.bl true) st := by
  obtain ⟨_, st, e, rfl, _⟩ := t_law (30 - 10) hl [] trivial
  exact ⟨st, e⟩

end NK44
open PySem PySem.W PyProof.Rows in
set_option maxRecDepth 100000 in
set_option maxHeartbeats 0 in
theorem PySem.Challenge.cw_nearlots_k44_numbers_of_maps_holds : PySem.Challenge.rw_nearlots_k44_numbers_of_maps.Holds := by
  w_on; o_law; k_head; (case hw => w_witness2)
  k_fill
  refine NK44.I.walkI (l := PySem.Challenge.rw_nearlots_k44_numbers_of_maps) (n := 30) (f := 20) rfl rfl ⟨rfl, by decide, by decide⟩ (fun w h Y => PySem.W.km_in_of Y) ?F NK44.plain
  case F =>
    intro w mg fa h KX G hmg
    refine NK44.I.law_F (r := NK44.r20) (f := 20) KX G hmg NK44.chk_ok NK44.lfn_ok ?says ?ex (fun r hr fd F => NK44.binds r hr _ fd F) (fun p hp r hr fd F => NK44.kwbs p hp r hr _ fd F) (fun fd F => NK44.bindL _ fd F) ?dics rfl rfl rfl (by decide) (by decide) 30 ?rec
    case rec => kernel_rfl
    case says => (show He.obsD _ _ _ = He.valD _); kernel_rfl
    case ex => kernel_rfl
    case dics =>
      exact fun p hp => by cases hp
end

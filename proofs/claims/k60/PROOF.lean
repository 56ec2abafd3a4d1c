import PyProof.Rows.All
import HandS.ForMost
import HandS.Exc
import HandS.TryOnly
import HandS.ExcOwn
import HandS.WordsExc
import HandS.AnyAll
import KE.KNest
import HandS.TupAny
import HandS.TupMul
import HandS.TupLe
import HandS.Deep
import KE.DataCmp
import KE.KxIndex
import HandS.List
import HandS.ExcIs
import HandS.ExcField
import KE.SortData
import HandS.Style
import HandS.Rev
import HandS.IsInst
import HandS.Text
import HandS.Flow
import HandS.Codes
import HandS.Comp
import HandS.Iter
import HandS.GenList
import HandS.ExcInit
import HandS.ExcSuper
import KE.KExcSuper
import KE.KSuper
import HandS.Dict
import KE.KDictPairs
import KE.KDictCopyH
import HandS.Conv
import KE.KDictDisplayH
import HandS.Replace
import KE.KDictItemsList
import HandS.ListItems
import HandS.TupSets
import HandS.HeadHook4
import HandS.HeadWalk
import HandS.EndTab
import HandS.Head2
import KE.KStateDown
import HandS.Head0
import HandS.Head1
import PySem.Challenge.RW_shorewarn_k60_new_watches
-- SwA
set_option Elab.async false
set_option linter.all false
set_option maxRecDepth 100000
/-! SwA: the small language: data, store, terms, evaluator (plain Lean) -/
namespace SW
open PySem

abbrev Cell := Int × Int

/-- plain data: nothing in it is ever changed -/
inductive D where
  | non
  | bl (b : Bool)
  | int (i : Int)
  | str (s : Str)
  | tup (xs : List D)
  | lst (xs : List D)
  | dct (kvs : List (Cell × D))
  | obj (c : Nat) (fs : List (Nat × D))
  | scr (ns : List Int)
  | fn (f : Nat)
  deriving Inhabited

/-- what a name may hold: plain data, or an object of the store -/
inductive Vl where
  | d (x : D)
  | r (n : Nat)
  | x (c : Nat) (p : List D)
  deriving Inhabited

/-- an object of the store -/
inductive Ob where
  | lst (xs : List D)
  | dct (kvs : List (Cell × D))
  | ins (c : Nat) (fs : List (Nat × D))
  | frz (x : D)
  deriving Inhabited

abbrev Store := List Ob
abbrev Env := List (Option Vl)

inductive R (α : Type) where
  | ok (a : α) (S : Store)
  | exc (c : Nat) (p : List D) (S : Store)
  | bad

@[simp] def R.bind {α β : Type} : R α → (α → Store → R β) → R β
  | .ok a S, f => f a S
  | .exc c p S, _ => .exc c p S
  | .bad, _ => .bad

/-! ### dicts with cells as keys -/
def look (kvs : List (Cell × D)) (k : Cell) : Option D := (kvs.find? fun kv => decide (kv.1 = k)).map (·.2)
def put (kvs : List (Cell × D)) (k : Cell) (v : D) : List (Cell × D) :=
  if (kvs.any fun kv => decide (kv.1 = k)) = true then kvs.map (fun kv => if kv.1 = k then (kv.1, v) else kv) else kvs ++ [(k, v)]
def merge (kvs more : List (Cell × D)) : List (Cell × D) := more.foldl (fun acc kv => put acc kv.1 kv.2) kvs

/-! ### objects' fields -/
def fget (fs : List (Nat × D)) (f : Nat) : Option D := (fs.find? fun kv => kv.1 == f).map (·.2)
def fput : List (Nat × D) → Nat → D → List (Nat × D)
  | [], f, v => [(f, v)]
  | (g, x) :: r, f, v => if g = f then (g, v) :: r else (g, x) :: fput r f v

/-! ### the store -/
def Ob.data : Ob → D
  | .lst xs => .lst xs
  | .dct kvs => .dct kvs
  | .ins c fs => .obj c fs
  | .frz x => x
/-- what is read -/
def rd (S : Store) : Vl → Option D
  | .d x => some x
  | .r n => (S[n]?).map Ob.data
  | .x _ _ => none
def rds (S : Store) : List Vl → Option (List D)
  | [] => some []
  | x :: r => match rd S x, rds S r with
    | some y, some ys => some (y :: ys)
    | _, _ => none
/-- .. and is never changed again -/
def toD (S : Store) : Vl → Option (D × Store)
  | .d x => some (x, S)
  | .r n => match S[n]? with
    | some ob => some (ob.data, S.set n (.frz ob.data))
    | none => none
  | .x _ _ => none
/-- what was laid behind n is forgotten, but for the value -/
def gc (n : Nat) (v : Vl) (S : Store) : R Vl :=
  match v with
  | .d x => .ok (.d x) (S.take n)
  | .r m => if m < n then .ok (.r m) (S.take n) else match S[m]? with
    | some ob => .ok (.r n) (S.take n ++ [ob])
    | none => .bad
  | .x _ _ => .bad
def asData (n : Nat) (v : Vl) (S : Store) : R D :=
  match toD S v with
  | some (x, S') => .ok x (S'.take n)
  | none => .bad
def alloc (ob : Ob) (S : Store) : R Vl := .ok (.r S.length) (S ++ [ob])

/-! ### operators on data -/
mutual
def toPy : D → Option PyData
  | .non => some .none
  | .bl b => some (.bool b)
  | .int i => some (.int i)
  | .str s => some (.str s)
  | .tup xs => (toPys xs).map .tuple
  | .lst xs => (toPys xs).map .list
  | .dct _ => none
  | .obj _ _ => none
  | .scr _ => none
  | .fn _ => none
def toPys : List D → Option (List PyData)
  | [] => some []
  | x :: r => match toPy x, toPys r with
    | some y, some ys => some (y :: ys)
    | _, _ => none
end
/-- x == y of data -/
def eqD (x y : D) : Option Bool :=
  match toPy x, toPy y with
  | some a, some b => if SeqAt.shaped a && SeqAt.shaped b then some (PyData.eqv a b) else none
  | _, _ => none
def inD (x : D) (ys : List D) : Option Bool :=
  match toPy x, toPys ys with
  | some a, some bs => if SeqAt.shaped a && SeqAt.shaped (.list bs) && SeqAt.shaped (.tuple bs) then some (bs.any fun z => PyData.eqv z a) else none
  | _, _ => none

def BIG : Nat := 1000000
/-- a cell's hash -/
def hashC (c : Cell) : Int := reduceHash (Builtin.Tuple.tupleHashOf [hashInt c.1, hashInt c.2])

def intsOf : List D → Option (List Int)
  | [] => some []
  | .int i :: r => (intsOf r).map (i :: ·)
  | _ :: _ => none
def strsOf : List D → Option (List Str)
  | [] => some []
  | .str i :: r => (strsOf r).map (i :: ·)
  | _ :: _ => none
def blsOf : List D → Option (List Bool)
  | [] => some []
  | .bl i :: r => (blsOf r).map (i :: ·)
  | _ :: _ => none
def cellOf : D → Option Cell
  | .tup [.int a, .int b] => some (a, b)
  | _ => none
def cellsOf : List D → Option (List Cell)
  | [] => some []
  | x :: r => match cellOf x, cellsOf r with
    | some c, some cs => some (c :: cs)
    | _, _ => none
def pairsOf : List D → Option (List (Cell × D))
  | [] => some []
  | .tup [k, v] :: r => match cellOf k, pairsOf r with
    | some c, some cs => some ((c, v) :: cs)
    | _, _ => none
  | _ :: _ => none
/-- a dict's pairs, the values whole numbers -/
def cintsOf : List (Cell × D) → Option (List (Cell × Int))
  | [] => some []
  | (k, .int i) :: r => (cintsOf r).map ((k, i) :: ·)
  | _ :: _ => none
/-- a pair whose first is a cell; a tuple of such pairs (dict() may be asked of it) -/
def isPair : D → Bool
  | .tup [k, _] => (cellOf k).isSome
  | _ => false
def isP (xs : List D) : Bool := xs.all isPair
def cellD (c : Cell) : D := .tup [.int c.1, .int c.2]

inductive Bop | add | sub | mul | fdiv | mod | pow
  deriving DecidableEq
inductive Cop | eq | ne | lt | le | gt | ge | inn | nin
  deriving DecidableEq

/-- an operator's answer: data, or a new object -/
inductive An where
  | d (x : D)
  | o (ob : Ob)
def An.give (S : Store) : An → R Vl
  | .d x => .ok (.d x) S
  | .o ob => alloc ob S
def give (S : Store) : Option An → R Vl
  | some a => a.give S
  | none => .bad

def small (i : Int) : Bool := decide (-(2 ^ 64) < i ∧ i < 2 ^ 64)
def binD : Bop → D → D → Option An
  | .add, .int i, .int j => some (.d (.int (i + j)))
  | .add, .str a, .str b => if a.length + b.length ≤ BIG then some (.d (.str (a ++ b))) else none
  | .add, .tup a, .tup b => if a.length + b.length ≤ BIG then some (.d (.tup (a ++ b))) else none
  | .add, .lst a, .lst b => if a.length + b.length ≤ BIG then some (.o (.lst (a ++ b))) else none
  | .sub, .int i, .int j => some (.d (.int (i - j)))
  | .mul, .int i, .int j => if small i || small j then some (.d (.int (i * j))) else none
  | .mul, .tup a, .int k => if a ≠ [] ∧ 2 ≤ k ∧ k ≤ 1000 ∧ a.length ≤ 1000 ∧ isP (List.replicate k.toNat a).flatten = false then some (.d (.tup (List.replicate k.toNat a).flatten)) else none
  | .mul, .str a, .int k => if 0 ≤ k ∧ k ≤ 1000 ∧ a.length ≤ 16 then some (.d (.str (Txt.mul a k))) else none
  | .fdiv, .int i, .int j => if 0 < j ∧ j < 1073741824 then some (.d (.int (i / j))) else none
  | .mod, .int i, .int j => if 0 < j then some (.d (.int (i % j))) else none
  | .pow, .int i, .int j => if 0 ≤ j ∧ j ≤ 1000 ∧ i.natAbs < 2 ^ 64 then some (.d (.int (i ^ j.toNat))) else none
  | _, _, _ => none

/-- one sign within a text -/
def hasSign (a b : Str) : Option Bool :=
  match a.cps.toList with
  | [c] => some (decide (c ∈ b.cps.toList))
  | _ => none
def cellLt (a b : Cell) : Bool := decide (a.1 < b.1 ∨ (a.1 = b.1 ∧ a.2 < b.2))
def isInD (x y : D) : Option Bool :=
  match y with
  | .str b => match x with
    | .str a => hasSign a b
    | _ => none
  | .tup ys => inD x ys
  | .lst ys => inD x ys
  | .dct kvs => match cellOf x with
    | some k => some (look kvs k).isSome
    | none => none
  | _ => none
def ltD : D → D → Option Bool
  | .int i, .int j => some (decide (i < j))
  | x, y => match cellOf x, cellOf y with
    | some a, some b => some (cellLt a b)
    | _, _ => none
def geD : D → D → Option Bool
  | .int i, .int j => some (decide (j ≤ i))
  | x, y => match cellOf x, cellOf y with
    | some a, some b => some (!cellLt a b)
    | _, _ => none
def leD : D → D → Option Bool
  | .int i, .int j => some (decide (i ≤ j))
  | _, _ => none
def gtD : D → D → Option Bool
  | .int i, .int j => some (decide (j < i))
  | _, _ => none
def cmpD : Cop → D → D → Option Bool
  | .eq, x, y => eqD x y
  | .ne, x, y => (eqD x y).map (!·)
  | .lt, x, y => ltD x y
  | .le, x, y => leD x y
  | .gt, x, y => gtD x y
  | .ge, x, y => geD x y
  | .inn, x, y => isInD x y
  | .nin, x, y => (isInD x y).map (!·)

/-- truth -/
def truth : D → Option Bool
  | .bl b => some b
  | .non => some false
  | _ => none

/-! ### indexing, slices -/
def idxD (o i : D) : Option D :=
  match o, i with
  | .lst xs, .int k => L2.atI xs k
  | .tup xs, .int k => L2.atI xs k
  | .str s, .int k => if s.length ≤ BIG then (L2.atI s.cps.toList k).map fun c => .str ⟨#[c]⟩ else none
  | .scr ns, .int k => (L2.atI ns k).map .int
  | .dct kvs, k => match cellOf k with
    | some c => look kvs c
    | none => none
  | _, _ => none
def cutL (xs : List D) (lo hi : Option Int) : List D := (xs.drop (HT.sIx xs.length 0 lo)).take (HT.sIx xs.length xs.length hi - HT.sIx xs.length 0 lo)
def slcD (o : D) (lo hi : Option Int) : Option An :=
  match o with
  | .lst xs => some (.o (.lst (cutL xs lo hi)))
  | .tup xs => some (.d (.tup (cutL xs lo hi)))
  | .str s => if s.length ≤ BIG then some (.d (.str (L2.cutS s lo hi))) else none
  | _ => none
def revD : D → Option An
  | .lst xs => some (.o (.lst xs.reverse))
  | .tup xs => some (.d (.tup xs.reverse))
  | _ => none

/-! ### builtins -/
inductive Blt | len | int | str | tuple | list | dict | sorted | min | max | all | any | lenSet | tupleRev | sortedList | sortedItems | maxValues | listValues
  deriving DecidableEq
def cellLe (a b : Cell) : Bool := decide (a.1 < b.1) || (decide (a.1 = b.1) && decide (a.2 ≤ b.2))
def pairLe (a b : Cell × Int) : Bool := decide (a.1.1 < b.1.1 ∨ (a.1.1 = b.1.1 ∧ (a.1.2 < b.1.2 ∨ (a.1.2 = b.1.2 ∧ a.2 ≤ b.2))))
def insertBy {α : Type} (le : α → α → Bool) (x : α) : List α → List α
  | [] => [x]
  | y :: r => if le x y then x :: y :: r else y :: insertBy le x r
def sortBy {α : Type} (le : α → α → Bool) : List α → List α
  | [] => []
  | x :: r => insertBy le x (sortBy le r)
def maxL : List Int → Option Int
  | [] => none
  | x :: r => some (r.foldl (fun a b => if a < b then b else a) x)
def minL : List Int → Option Int
  | [] => none
  | x :: r => some (r.foldl (fun a b => if b < a then b else a) x)
def lenD : D → Option Int
  | .str s => if s.length ≤ BIG then some s.length else none
  | .tup xs => some xs.length
  | .lst xs => some xs.length
  | .scr ns => some ns.length
  | _ => none
def bltD : Blt → List D → Option An
  | .len, [x] => (lenD x).map fun n => .d (.int n)
  | .int, [.int i] => some (.d (.int i))
  | .int, [.bl b] => some (.d (.int (if b then 1 else 0)))
  | .int, [.str s] => if s.length ≤ 640 then (intText? s).map fun n => .d (.int n) else none
  | .str, [.int i] => if i.natAbs < 2 ^ 64 then some (.d (.str (toString i))) else none
  | .tuple, [.lst xs] => some (.d (.tup xs))
  | .tuple, [.tup xs] => some (.d (.tup xs))
  | .list, [.lst xs] => some (.o (.lst xs))
  | .list, [.tup xs] => some (.o (.lst xs))
  | .list, [.dct kvs] => some (.o (.lst (kvs.map fun kv => cellD kv.1)))
  | .dict, [.dct kvs] => if (kvs.map fun kv => hashC kv.1).Nodup then some (.o (.dct kvs)) else none
  | .dict, [.tup xs] => (match pairsOf xs with
    | some kvs => if (kvs.map fun kv => kv.1).Nodup then some (.o (.dct kvs)) else none
    | none => none)
  | .dict, [.lst xs] => (match pairsOf xs with
    | some kvs => if (kvs.map fun kv => kv.1).Nodup then some (.o (.dct kvs)) else none
    | none => none)
  | .sorted, [.lst xs] => (cellsOf xs).map fun cs => .o (.lst ((sortBy cellLe cs).map cellD))
  | .min, [.int i, .int j] => some (.d (.int (if j < i then j else i)))
  | .max, [.int i, .int j] => some (.d (.int (if j > i then j else i)))
  | .min, [.lst xs] => (intsOf xs).bind fun ns => (minL ns).map fun n => .d (.int n)
  | .max, [.lst xs] => (intsOf xs).bind fun ns => (maxL ns).map fun n => .d (.int n)
  | .all, [.lst xs] => (blsOf xs).map fun bs => .d (.bl (bs.all id))
  | .any, [.lst xs] => (blsOf xs).map fun bs => .d (.bl (bs.any id))
  | .lenSet, [.lst xs] => (cellsOf xs).bind fun cs => if cs.length < 64 then some (.d (.int cs.eraseDups.length)) else none
  | .tupleRev, [.lst xs] => some (.d (.tup xs.reverse))
  | .sortedList, [.dct kvs] => some (.o (.lst ((sortBy cellLe (kvs.map (·.1))).map cellD)))
  | .sortedItems, [.dct kvs] => (cintsOf kvs).map fun ps => .o (.lst ((sortBy pairLe ps).map fun p => .tup [cellD p.1, .int p.2]))
  | .maxValues, [.dct kvs] => (intsOf (kvs.map (·.2))).bind fun ns => (maxL ns).map fun n => .d (.int n)
  | .listValues, [.dct kvs] => some (.o (.lst (kvs.map (·.2))))
  | _, _ => none
/-- methods that change nothing -/
inductive Mth | get | index | join | split
  deriving DecidableEq
def idxSign (a : Nat) : List Nat → Option Nat
  | [] => none
  | c :: r => if c = a then some 0 else (idxSign a r).map (· + 1)
def mthD : Mth → D → List D → Option An
  | .get, .dct kvs, [k] => (cellOf k).map fun c => .d ((look kvs c).getD .non)
  | .get, .dct kvs, [k, x] => (cellOf k).map fun c => .d ((look kvs c).getD x)
  | .index, .str s, [.str a] => match Builtin.Str.occurrences s a 0 s.length 1 with
    | i :: _ => some (.d (.int i))
    | [] => none
  | .join, .str s, [.lst xs] => (strsOf xs).bind fun ys => if (ys.map (·.length)).sum + s.length * ys.length ≤ BIG then some (.d (.str (Txt.join s ys))) else none
  | .split, .str s, [.str a] => match a.cps.toList with
    | [_] => if s.length ≤ BIG then some (.o (.lst ((Txt.split s a).map .str))) else none
    | _ => none
  | _, _, _ => none

/-- kinds for isinstance -/
inductive Ty | int | bool | str | tuple | cls (c : Nat)
  deriving DecidableEq
/-- an error class's classes above: 10 is ShoreError, 9 is ValueError -/
def excSub (c k : Nat) : Bool := c == k || k == 10 || k == 9
def isiD : D → Ty → Option Bool
  | .int _, .int => some true
  | .int _, .bool => some false
  | .int _, .str => some false
  | .int _, .tuple => some false
  | .bl _, .int => some true
  | .bl _, .bool => some true
  | .bl _, .str => some false
  | .bl _, .tuple => some false
  | .str _, .int => some false
  | .str _, .bool => some false
  | .str _, .str => some true
  | .str _, .tuple => some false
  | .tup _, .int => some false
  | .tup _, .bool => some false
  | .tup _, .str => some false
  | .tup _, .tuple => some true
  | .non, .int => some false
  | .non, .bool => some false
  | .non, .str => some false
  | .non, .tuple => some false
  | _, _ => none
def fldD : D → Nat → Option D
  | .obj _ fs, f => fget fs f
  | _, _ => none

/-! ### terms -/
inductive Tg where
  | one (i : Nat)
  | tup (is : List Nat)
mutual
inductive E where
  | con (x : D)
  | var (i : Nat)
  | bin (o : Bop) (a b : E)
  | neg (a : E)
  | cmp (o : Cop) (a b : E)
  | isN (n : Bool) (a : E)
  | le2 (a b c : E)
  | and (a b : E)
  | or (a b : E)
  | not (a : E)
  | ite (c a b : E)
  | call (f : Nat) (as : Es)
  | callv (i : Nat) (as : Es)
  | mk (c f : Nat) (as : Es)
  | umeth (f : Nat) (o : E) (as : Es)
  | blt (b : Blt) (as : Es)
  | sortk (f : Nat) (a : E)
  | isi (a : E) (t : Ty)
  | meth (m : Mth) (o : E) (as : Es)
  | fld (o : E) (f : Nat)
  | idx (o i : E)
  | slc (o : E) (lo hi : Op)
  | rev (o : E)
  | tup (as : Es)
  | lst (as : Es)
  | dct0
  | dct1 (k v : E)
  | lc (t : Tg) (it : It) (c : Op) (e : E) (own : List Nat)
  | lc2 (t : Tg) (it : It) (t2 : Tg) (it2 : It) (e : E) (own own2 : List Nat)
  | gen (al : Bool) (t : Tg) (it : It) (e : E) (own : List Nat)
inductive Es where
  | nil
  | cons (a : E) (r : Es)
inductive Op where
  | none
  | some (a : E)
inductive It where
  | rng1 (a : E)
  | rng2 (a b : E)
  | rng3 (a b d : E)
  | ov (a : E)
end

/-! ### evaluation -/
abbrev CF := Nat → List Vl → Store → R Vl
def wipeE (ρ : Env) : List Nat → Env
  | [] => ρ
  | v :: vs => (wipeE ρ vs).set v none
def setAll : List Nat → List D → Env → Option Env
  | [], [], ρ => some ρ
  | i :: is, x :: xs, ρ => setAll is xs (ρ.set i (some (.d x)))
  | _, _, _ => none
def asg : Tg → D → Env → Option Env
  | .one i, x, ρ => some (ρ.set i (some (.d x)))
  | .tup is, .tup xs, ρ => setAll is xs ρ
  | _, _, _ => none
def rngL (lo : Int) (n : Nat) : List D := (List.range n).map fun (i : Nat) => .int (lo + (i : Int))
def okI (i : Int) : Bool := decide (-(2 ^ 62) ≤ i ∧ i < 2 ^ 62)
/-- the items of what is walked -/
def itemsD : D → Option (List D)
  | .tup xs => some xs
  | .lst xs => some xs
  | .str s => some (s.cps.toList.map fun c => .str ⟨#[c]⟩)
  | .dct kvs => some (kvs.map fun kv => cellD kv.1)
  | _ => none
/-- a comprehension's loop -/
def loopC (body : Env → Store → R Unit) (t : Tg) : List D → Env → Store → R Unit
  | [], _, S => .ok () S
  | x :: r, ρ, S => match asg t x ρ with
    | none => .bad
    | some ρ1 => (body ρ1 S).bind fun _ S1 => loopC body t r ρ S1
/-- the list in the store at n grows -/
def push (n : Nat) (y : D) (S : Store) : R Unit :=
  match S[n]? with
  | some (.lst ys) => if ys.length < BIG then .ok () (S.set n (.lst (ys ++ [y]))) else .bad
  | _ => .bad
/-- all, any of a generator -/
def genGo (al : Bool) (e : Env → Store → R Bool) (t : Tg) : List D → Env → Store → R Bool
  | [], _, S => .ok al S
  | x :: r, ρ, S => match asg t x ρ with
    | none => .bad
    | some ρ1 => (e ρ1 S).bind fun b S1 => if b = al then genGo al e t r ρ S1 else .ok (!al) S1
theorem R.bind_assoc {α β γ : Type} (m : R α) (f : α → Store → R β) (g : β → Store → R γ) : (m.bind f).bind g = m.bind fun x S => (f x S).bind g := by
  cases m <;> rfl
def asTruth (n : Nat) (v : Vl) (S : Store) : R Bool :=
  match (rd S v).bind truth with
  | some b => .ok b (S.take n)
  | none => .bad
def asBl (n : Nat) (v : Vl) (S : Store) : R Bool := match v with
  | .d (.bl b) => .ok b (S.take n)
  | _ => .bad
/-- no error leaves a comprehension -/
def R.calm {α : Type} : R α → R α
  | .exc _ _ _ => .bad
  | r => r

/-! what is done with the parts' values -/
def kBin (o : Bop) (x y : Vl) (S : Store) : R Vl := match rd S x, rd S y with
  | some u, some w => give S (binD o u w)
  | _, _ => .bad
def kCmp (o : Cop) (x y : Vl) (S : Store) : R Vl := match rd S x, rd S y with
  | some u, some w => (match cmpD o u w with
    | some k => .ok (.d (.bl k)) S
    | none => .bad)
  | _, _ => .bad
def kNeg (x : Vl) (S : Store) : R Vl := match x with
  | .d (.int i) => .ok (.d (.int (-i))) S
  | _ => .bad
def kIsN (n : Bool) (x : Vl) (S : Store) : R Vl := match x with
  | .d .non => .ok (.d (.bl (!n))) S
  | _ => .ok (.d (.bl n)) S
def kNot (x : Vl) (S : Store) : R Vl := match (rd S x).bind truth with
  | some b => .ok (.d (.bl (!b))) S
  | none => .bad
/-- a value's truth -/
def kTru (x : Vl) (S : Store) : R Bool := match (rd S x).bind truth with
  | some b => .ok b S
  | none => .bad
def kBl (x : Vl) (S : Store) : R Bool := match x with
  | .d (.bl b) => .ok b S
  | _ => .bad
def kLe2 (j : Int) (z : Vl) (S : Store) : R Vl := match z with
  | .d (.int k) => .ok (.d (.bl (decide (j ≤ k)))) S
  | _ => .bad
def kLe (c : Store → R Vl) (x y : Vl) (S : Store) : R Vl := match x, y with
  | .d (.int i), .d (.int j) => if i ≤ j then (c S).bind (kLe2 j)
    else .ok (.d (.bl false)) S
  | _, _ => .bad
def kMk (c n : Nat) (u : Vl) (S : Store) : R Vl := match u, S[n]? with
  | .d .non, some (.ins c' fs) => if c < 1 then .ok (.d (.obj c' fs)) (S.set n (.frz (.obj c' fs))) else .ok (.r n) S
  | _, _ => .bad
def kMeth (cf : CF) (f : Nat) (x : Vl) (vs : List Vl) (S : Store) : R Vl := match x with
  | .r n => cf f (.r n :: vs) S
  | _ => .bad
def kBlt (b : Blt) (vs : List Vl) (S : Store) : R Vl := match rds S vs with
  | some xs => give S (bltD b xs)
  | none => .bad
def kIsi (t : Ty) (x : Vl) (S : Store) : R Vl := match x, t with
  | .d u, t => (match isiD u t with
    | some b => .ok (.d (.bl b)) S
    | none => .bad)
  | .x c _, .cls k => .ok (.d (.bl (excSub c k))) S
  | _, _ => .bad
def kPre (m : Mth) (x : Vl) (S : Store) : R Vl := match m, rd S x with
  | .get, some (.dct _) => .ok x S
  | .index, some (.str _) => .ok x S
  | .join, some (.str _) => .ok x S
  | .split, some (.str _) => .ok x S
  | _, _ => .bad
/-- an object that may be changed, of the class 1 -/
def kObj (x : Vl) (S : Store) : R Vl := match x with
  | .r n => (match S[n]? with
    | some (.ins 1 _) => .ok (.r n) S
    | _ => .bad)
  | _ => .bad
def rdd : List Vl → Option (List D)
  | [] => some []
  | .d x :: r => (rdd r).map (x :: ·)
  | _ :: _ => none
def kMth (m : Mth) (x : Vl) (vs : List Vl) (S : Store) : R Vl := match rd S x, (if m = .get then rdd vs else rds S vs) with
  | some u, some xs => give S (mthD m u xs)
  | _, _ => .bad
def xfld (c : Nat) : Nat := if c = 15 then 5 else 6
def kFld (f : Nat) (x : Vl) (S : Store) : R Vl := match x with
  | .x c [y] => if f = xfld c then .ok (.d y) S else .bad
  | _ => if f < 5 then (match (rd S x).bind (fldD · f) with
    | some y => .ok (.d y) S
    | none => .bad) else .bad
def kIdx (x y : Vl) (S : Store) : R Vl := match rd S x, y with
  | some u, .d w => (match idxD u w with
    | some z => .ok (.d z) S
    | none => .bad)
  | _, _ => .bad
def kSlc (x : Vl) (l h : Option Int) (S : Store) : R Vl := match rd S x with
  | some u => give S (slcD u l h)
  | none => .bad
def kRev (x : Vl) (S : Store) : R Vl := match rd S x with
  | some u => give S (revD u)
  | none => .bad
def kDct (x y : Vl) (S : Store) : R Vl := match x, y with
  | .d u, .d w => (match cellOf u with
    | some c => alloc (.dct [(c, w)]) S
    | none => .bad)
  | _, _ => .bad
def kOp (x : Vl) (S : Store) : R (Option Int) := match x with
  | .d (.int i) => .ok (some i) S
  | _ => .bad
def kD (x : Vl) (S : Store) : R D := match toD S x with
  | some (y, S2) => .ok y S2
  | none => .bad
def kRng1 (x : Vl) (S : Store) : R (List D) := match x with
  | .d (.int n) => if okI n then .ok (rngL 0 n.toNat) S else .bad
  | _ => .bad
def kRng2 (x y : Vl) (S : Store) : R (List D) := match x, y with
  | .d (.int i), .d (.int j) => if okI i && okI j then .ok (rngL i (j - i).toNat) S else .bad
  | _, _ => .bad
def rngS (i k : Int) (n : Nat) : List D := (List.range n).map fun (j : Nat) => D.int (i + (j : Int) * k)
def kRng3 (x y z : Vl) (S : Store) : R (List D) := match x, y, z with
  | .d (.int i), .d (.int j), .d (.int k) => if k ≠ 0 ∧ k.natAbs < 1073741824 ∧ Builtin.Range.small i j k = true ∧ 0 ≤ Builtin.Range.rangeSize i j k then .ok (rngS i k (Builtin.Range.rangeSize i j k).toNat) S else .bad
  | _, _, _ => .bad
def kItems (u : D) (S : Store) : R (List D) := match itemsD u with
  | some xs => .ok xs S
  | none => .bad
def kTup (xs : List D) (S : Store) : R Vl := if xs.length ≤ BIG then .ok (.d (.tup xs)) S else .bad
def kLst (xs : List D) (S : Store) : R Vl := if xs.length ≤ BIG then alloc (.lst xs) S else .bad
mutual
def evE (cf : CF) : E → Env → Store → R Vl
  | .con x, _, S => .ok (.d x) S
  | .var i, ρ, S => match ρ[i]? with
    | some (some v) => .ok v S
    | _ => .bad
  | .bin o a b, ρ, S => (evE cf a ρ S).bind fun x S1 => (evE cf b ρ S1).bind (kBin o x)
  | .neg a, ρ, S => (evE cf a ρ S).bind kNeg
  | .cmp o a b, ρ, S => (evE cf a ρ S).bind fun x S1 => (evE cf b ρ S1).bind (kCmp o x)
  | .isN n a, ρ, S => (evE cf a ρ S).bind (kIsN n)
  | .le2 a b c, ρ, S => (evE cf a ρ S).bind fun x S1 => (evE cf b ρ S1).bind (kLe (evE cf c ρ) x)
  | .and a b, ρ, S => ((evE cf a ρ S).bind kBl).bind fun k S1 => if k then evE cf b ρ S1 else .ok (.d (.bl false)) S1
  | .or a b, ρ, S => ((evE cf a ρ S).bind kBl).bind fun k S1 => if k then .ok (.d (.bl true)) S1 else evE cf b ρ S1
  | .not a, ρ, S => (evE cf a ρ S).bind kNot
  | .ite c a b, ρ, S => ((evE cf c ρ S).bind kTru).bind fun k S1 => if k then evE cf a ρ S1 else evE cf b ρ S1
  | .call f as, ρ, S => (evEs cf as ρ S).bind (cf f)
  | .callv i as, ρ, S => match ρ[i]? with
    | some (some (.d (.fn f))) => (evEs cf as ρ S).bind (cf f)
    | _ => .bad
  | .mk c f as, ρ, S => (evEs cf as ρ S).bind fun vs S1 => (cf f (.r S1.length :: vs) (S1 ++ [.ins c []])).bind (kMk c S1.length)
  | .umeth f o as, ρ, S => ((evE cf o ρ S).bind kObj).bind fun x S1 => (evEs cf as ρ S1).bind (kMeth cf f x)
  | .blt b as, ρ, S => (evEs cf as ρ S).bind (kBlt b)
  | .sortk _ _, _, _ => .bad
  | .isi a t, ρ, S => (evE cf a ρ S).bind (kIsi t)
  | .meth m o as, ρ, S => ((evE cf o ρ S).bind (kPre m)).bind fun x S1 => (evEs cf as ρ S1).bind (kMth m x)
  | .fld o f, ρ, S => (evE cf o ρ S).bind (kFld f)
  | .idx o i, ρ, S => (evE cf o ρ S).bind fun x S1 => (evE cf i ρ S1).bind (kIdx x)
  | .slc o lo hi, ρ, S => (evE cf o ρ S).bind fun x S1 => (evOp cf lo ρ S1).bind fun l S2 => (evOp cf hi ρ S2).bind (kSlc x l)
  | .rev o, ρ, S => (evE cf o ρ S).bind kRev
  | .tup as, ρ, S => (evDs cf as ρ S).bind kTup
  | .lst as, ρ, S => (evDs cf as ρ S).bind kLst
  | .dct0, _, S => alloc (.dct []) S
  | .dct1 k v, ρ, S => (evE cf k ρ S).bind fun x S1 => (evE cf v ρ S1).bind (kDct x)
  | .lc t it c e own, ρ, S => (evIt cf it ρ S).bind fun xs S1 =>
      (loopC (fun ρ1 S2 => ((evC cf c ρ1 S2).bind fun b S3 => if b then (evE cf e ρ1 S3).bind fun v S4 => (asData S3.length v S4).bind fun y S5 => push S1.length y S5 else .ok () S3).calm) t xs (wipeE ρ own) (S1 ++ [.lst []])).bind fun _ S2 => .ok (.r S1.length) S2
  | .lc2 t it t2 it2 e own own2, ρ, S => (evIt cf it ρ S).bind fun xs S1 =>
      (loopC (fun ρ1 S2 => ((evIt cf it2 ρ1 S2).bind fun ys S3 =>
        loopC (fun ρ2 S4 => ((evE cf e ρ2 S4).bind fun v S5 => (asData S4.length v S5).bind fun y S6 => push S1.length y S6).calm) t2 ys (wipeE ρ1 own2) (S3.take S2.length)).calm) t xs (wipeE ρ own) (S1 ++ [.lst []])).bind fun _ S2 => .ok (.r S1.length) S2
  | .gen al t it e own, ρ, S => (evIt cf it ρ S).bind fun xs S1 =>
      (genGo al (fun ρ1 S1 => ((evE cf e ρ1 S1).bind fun v S2 => asBl S1.length v S2).calm) t xs (wipeE ρ own) S1).bind fun b S2 => .ok (.d (.bl b)) S2
def evEs (cf : CF) : Es → Env → Store → R (List Vl)
  | .nil, _, S => .ok [] S
  | .cons a r, ρ, S => (evE cf a ρ S).bind fun x S1 => (evEs cf r ρ S1).bind fun xs S2 => .ok (x :: xs) S2
def evDs (cf : CF) : Es → Env → Store → R (List D)
  | .nil, _, S => .ok [] S
  | .cons a r, ρ, S => ((evE cf a ρ S).bind kD).bind fun y S2 => (evDs cf r ρ S2).bind fun ys S3 => .ok (y :: ys) S3
def evOp (cf : CF) : Op → Env → Store → R (Option Int)
  | .none, _, S => .ok none S
  | .some a, ρ, S => (evE cf a ρ S).bind kOp
def evC (cf : CF) : Op → Env → Store → R Bool
  | .none, _, S => .ok true S
  | .some a, ρ, S => (evE cf a ρ S).bind fun x S1 => asTruth S.length x S1
def evIt (cf : CF) : It → Env → Store → R (List D)
  | .rng1 a, ρ, S => (evE cf a ρ S).bind kRng1
  | .rng2 a b, ρ, S => (evE cf a ρ S).bind fun x S1 => (evE cf b ρ S1).bind (kRng2 x)
  | .rng3 a b d, ρ, S => (evE cf a ρ S).bind fun x S1 => (evE cf b ρ S1).bind fun y S2 => (evE cf d ρ S2).bind (kRng3 x y)
  | .ov a, ρ, S => ((evE cf a ρ S).bind kD).bind kItems
end

/-! ### statements -/
mutual
inductive T where
  | set (keep : Bool) (i : Nat) (e : E)
  | unp (is : List Nat) (e : E)
  | seti (o i e : E)
  | seti2 (o i o2 i2 e : E)
  | setf (o : E) (f : Nat) (e : E)
  | app (o e : E)
  | ex (e : E)
  | ife (c : E) (a b : Ts)
  | forr (t : Tg) (it : It) (b : Ts)
  | whl (c : E) (b : Ts)
  | ret (e : E)
  | rse (c : Nat) (as : Es)
  | tryy (b : Ts) (c : Nat) (v : Option Nat) (h : Ts)
  | brk
  | pas
inductive Ts where
  | nil
  | cons (s : T) (r : Ts)
end
/-- a statement's end -/
inductive RS where
  | nx (ρ : Env) (S : Store)
  | rt (v : Vl) (S : Store)
  | bk (ρ : Env) (S : Store)
  | xc (c : Nat) (p : List D) (ρ : Env) (S : Store)
  | bad
@[simp] def RS.andThen : RS → (Env → Store → RS) → RS
  | .nx ρ S, f => f ρ S
  | r, _ => r
/-- from an expression's end, at the slots ρ -/
@[simp] def R.to {α : Type} (ρ : Env) : R α → (α → Store → RS) → RS
  | .ok a S, f => f a S
  | .exc c p S, _ => .xc c p ρ S
  | .bad, _ => .bad
/-- o[i] = x -/
def setItem (o : Vl) (i : D) (x : D) (S : Store) : Option Store :=
  match o with
  | .r n => match S[n]?, i with
    | some (.lst xs), .int k => (L2.ixN xs.length k).map fun j => S.set n (.lst (xs.set j x))
    | some (.dct kvs), k => match cellOf k with
      | some c => if kvs.length < BIG then some (S.set n (.dct (put kvs c x))) else none
      | none => none
    | _, _ => none
  | _ => none
def forGo (body : Env → Store → RS) (t : Tg) : List D → Env → Store → RS
  | [], ρ, S => .nx ρ S
  | x :: r, ρ, S => match asg t x ρ with
    | none => .bad
    | some ρ1 => match body ρ1 S with
      | .nx ρ2 S2 => forGo body t r ρ2 S2
      | .bk ρ2 S2 => .nx ρ2 S2
      | q => q
def whlGo (c : Env → Store → R Bool) (body : Env → Store → RS) : Nat → Env → Store → RS
  | 0, _, _ => .bad
  | k + 1, ρ, S => (c ρ S).to ρ fun b S1 => if b then match body ρ S1 with
      | .nx ρ2 S2 => whlGo c body k ρ2 S2
      | .bk ρ2 S2 => .nx ρ2 S2
      | q => q
    else .nx ρ S1
def FUEL : Nat := 1000000
def evCond (cf : CF) (c : E) (ρ : Env) (S : Store) : R Bool := (evE cf c ρ S).bind fun v S1 => asTruth S.length v S1
/-- an expression whose value becomes data; what it laid is forgotten -/
def evData (cf : CF) (e : E) (ρ : Env) (S : Store) : R D := (evE cf e ρ S).bind fun v S1 => asData S.length v S1
/-- a list of the store -/
def kIsL (u : Vl) (S : Store) : R Nat := match u with
  | .r n => (match S[n]? with
    | some (.lst _) => .ok n S
    | _ => .bad)
  | _ => .bad
def kSet (u j : Vl) (x : D) (S : Store) : R Unit := match j with
  | .d k => (match setItem u k x S with
    | some S' => .ok () S'
    | none => .bad)
  | _ => .bad
def kSetf (f : Nat) (u : Vl) (x : D) (S : Store) : R Unit := match u with
  | .r n => (match S[n]? with
    | some (.ins c fs) => if fs.length < 900 then .ok () (S.set n (.ins c (fput fs f x))) else .bad
    | _ => .bad)
  | _ => .bad
/-- the caught error is forgotten -/
def wipeX (ρ : Env) : Env := ρ.map fun
  | some (.x _ _) => none
  | x => x
/-- the end of an except suite -/
def suiteEnd (f : Env → Env) : RS → RS
  | .nx ρ S => .nx (wipeX (f ρ)) S
  | .bk ρ S => .bk (wipeX (f ρ)) S
  | .rt (.x _ _) _ => .bad
  | .rt (.d x) S => .rt (.d x) S
  | .rt (.r n) S => .rt (.r n) S
  | .xc _ _ _ _ => .bad
  | .bad => .bad
mutual
def evT (cf : CF) : T → Env → Store → RS
  | .set true i e, ρ, S => (evE cf e ρ S).to ρ fun v S1 => (gc S.length v S1).to ρ fun u S2 => .nx (ρ.set i (some u)) S2
  | .set false i e, ρ, S => (evData cf e ρ S).to ρ fun x S1 => .nx (ρ.set i (some (.d x))) S1
  | .unp is e, ρ, S => (evData cf e ρ S).to ρ fun x S1 => match asg (.tup is) x ρ with
    | some ρ1 => .nx ρ1 S1
    | none => .bad
  | .seti o i e, ρ, S => ((evE cf e ρ S).bind kD).to ρ fun x S2 => (evE cf o ρ S2).to ρ fun u S3 => (evE cf i ρ S3).to ρ fun j S4 => (kSet u j x S4).to ρ fun _ S5 => .nx ρ (S5.take S.length)
  | .seti2 o i o2 i2 e, ρ, S => (evData cf e ρ S).to ρ fun v S1 => match v with
    | .tup [x, x2] => (evE cf o ρ S1).to ρ fun u S3 => (evE cf i ρ S3).to ρ fun j S4 => (kSet u j x S4).to ρ fun _ S5 => (evE cf o2 ρ S5).to ρ fun u S6 => (evE cf i2 ρ S6).to ρ fun j S7 => (kSet u j x2 S7).to ρ fun _ S8 => .nx ρ (S8.take S.length)
    | _ => .bad
  | .setf o f e, ρ, S => ((evE cf e ρ S).bind kD).to ρ fun x S2 => (evE cf o ρ S2).to ρ fun u S3 => (kSetf f u x S3).to ρ fun _ S4 => .nx ρ (S4.take S.length)
  | .app o e, ρ, S => ((evE cf o ρ S).bind kIsL).to ρ fun n S1 => ((evE cf e ρ S1).bind kD).to ρ fun x S3 => (push n x S3).to ρ fun _ S4 => .nx ρ (S4.take S.length)
  | .ex e, ρ, S => (evE cf e ρ S).to ρ fun _ S1 => .nx ρ (S1.take S.length)
  | .ife c a b, ρ, S => (evCond cf c ρ S).to ρ fun k S1 => if k then evTs cf a ρ S1 else evTs cf b ρ S1
  | .forr t it b, ρ, S => (evIt cf it ρ S).to ρ fun xs S1 => forGo (fun ρ1 S2 => evTs cf b ρ1 S2) t xs ρ (S1.take S.length)
  | .whl c b, ρ, S => whlGo (evCond cf c) (fun ρ1 S1 => evTs cf b ρ1 S1) FUEL ρ S
  | .ret e, ρ, S => (evE cf e ρ S).to ρ fun v S1 => .rt v S1
  | .rse c as, ρ, S => (evDs cf as ρ S).to ρ fun xs S1 => .xc c xs ρ (S1.take S.length)
  | .tryy b c v h, ρ, S => match evTs cf b ρ S with
    | .xc c' p ρ1 S1 => if excSub c' c then match v with
        | none => suiteEnd id (evTs cf h ρ1 S1)
        | some i => suiteEnd (fun ρ => ρ.set i none) (evTs cf h (ρ1.set i (some (.x c' p))) S1)
      else .xc c' p ρ1 S1
    | q => q
  | .brk, ρ, S => .bk ρ S
  | .pas, ρ, S => .nx ρ S
def evTs (cf : CF) : Ts → Env → Store → RS
  | .nil, ρ, S => .nx ρ S
  | .cons s r, ρ, S => (evT cf s ρ S).andThen fun ρ1 S1 => evTs cf r ρ1 S1
end
/-- a def: its parameters, its names, its body -/
structure Fn where
  np : Nat
  nl : Nat
  body : Ts
def entry (d : Fn) (vs : List Vl) : Env := vs.map some ++ List.replicate (d.nl - vs.length) none
def leave (n : Nat) : RS → R Vl
  | .nx _ S => gc n (.d .non) S
  | .rt v S => gc n v S
  | .xc c p _ S => .exc c p (S.take n)
  | _ => .bad
/-- calls, one in another, at most k deep -/
def callF (tbl : Nat → Option Fn) : Nat → CF
  | 0, _, _, _ => .bad
  | k + 1, f, vs, S => match tbl f with
    | some d => if vs.length = d.np then leave S.length (evTs (callF tbl k) d.body (entry d vs) S) else .bad
    | none => .bad
end SW

-- SwB
set_option Elab.async false
set_option linter.all false
set_option maxRecDepth 100000
set_option maxHeartbeats 4000000
set_option autoImplicit false
/-! SwB: what stands for what: data and heap -/
namespace SW
open PySem PySem.Spec PyProof.Rows L2

/-- the names of the text -/
structure Nm where
  fn : Str → Option Nat
  cls : Str → Option Nat
  con : Str → Option D
  exn : Str → Option Nat
  ini : Nat → Option Nat
  blt : Str → Bool
  fld : Nat → Bool
  gen : Bool
  mth : Str → Option Nat
/-- the module that runs -/
structure Gd where
  fnA : Nat → Addr
  ok : Nat → Prop
  okC : Nat → Prop
  okX : Nat → Prop
  okM : Nat → Nat → Prop
  clsA : Nat → Addr
  tab : Addr → Prop
  okU : Str → Nat → Prop

def fldN : Nat → Str
  | 0 => "rows"
  | 1 => "sources"
  | 2 => "chart"
  | 3 => "now"
  | 4 => "past"
  | 5 => "line"
  | 6 => "refutation"
  | n + 7 => ⟨Array.replicate (n + 20) 97⟩
/-- error classes without an __init__ of their own -/
def plainK (k : Nat) : Bool := decide (k ≠ 15) && decide (k ≠ 16)
def excF (c : Nat) : Str := if c = 15 then "line" else "refutation"
/-- what is never changed, and the caught errors that are known -/
structure Gh where
  F : Addr → Prop
  cd : Addr → Addr → Prop
  xa : Addr → Nat → Option Addr → Prop
def keyC (c : Cell) : List Key := [Sum.inl c.1, Sum.inl c.2]

def SqK (K : PySem.W.Frag) (a : Addr) (xs : List V) : Prop :=
  ∃ (o : Obj) (its : Array Value) (n : Nat), K.lookup a = some o ∧ o.cls = .type "list" ∧ o.dict = none ∧ o.data = .seq its n ∧ its.size ≤ sizeLine ∧ Vals xs its.toList
/-- a tuple: of pairs: known, with no dict of its own; else plain -/
def TupO (g : Gh) (H : Hp) (a : Addr) (vs : List V) : Bool → Prop
  | true => g.F a ∧ ∃ o, H a = some (.frz o (.tup vs)) ∧ o.dict = none
  | false => H a = some (.tup vs)
theorem TupO.rd {g : Gh} {H : Hp} {a : Addr} {vs : List V} {b : Bool} (h : TupO g H a vs b) : Rd H a (.tup vs) := by
  cases b with
  | false => exact .inl h
  | true => obtain ⟨_, o, h, _⟩ := h; exact .inr ⟨o, h⟩
section
variable (G : Gd) (K : PySem.W.Frag) (g : Gh) (H : Hp)
mutual
def Rep : D → V → Prop
  | .non, v => v = .non
  | .bl b, v => v = .bl b
  | .int i, v => v = .int i
  | .str s, v => v = .str s
  | .tup xs, v => ∃ a vs, v = .ref a ∧ TupO g H a vs (isP xs) ∧ Reps xs vs
  | .lst xs, v => ∃ a vs, v = .ref a ∧ g.F a ∧ H a = some (.lst vs) ∧ Reps xs vs
  | .dct kvs, v => ∃ a vs, v = .ref a ∧ g.F a ∧ Rd H a (.dT vs) ∧ RepK kvs vs
  | .obj c fs, v => G.okC c ∧ ∃ a dx vs, v = .ref a ∧ g.F a ∧ H a = some (.ins (G.clsA c) dx vs) ∧ RepF fs vs
  | .scr ns, v => ∃ a, v = .ref a ∧ ((g.F a ∧ Rd H a (.lst (ns.map V.int))) ∨ SqK K a (ns.map V.int))
  | .fn f, v => v = .ref (G.fnA f) ∧ G.ok f
def Reps : List D → List V → Prop
  | [], vs => vs = []
  | x :: xs, vs => ∃ v r, vs = v :: r ∧ Rep x v ∧ Reps xs r
def RepK : List (Cell × D) → List (List Key × V) → Prop
  | [], vs => vs = []
  | (c, x) :: xs, vs => ∃ v r, vs = (keyC c, v) :: r ∧ Rep x v ∧ RepK xs r
def RepF : List (Nat × D) → List (Str × V) → Prop
  | [], vs => vs = []
  | (f, x) :: xs, vs => ∃ v r, vs = (fldN f, v) :: r ∧ Rep x v ∧ RepF xs r
def RepX (c : Nat) : List D → Option Addr → Prop
  | [], d => G.okX c ∧ d = none
  | x :: xs, d => G.okX c ∧ xs = [] ∧ ∃ dd v, d = some dd ∧ g.F dd ∧ H dd = some (.xd [(excF c, v)]) ∧ Rep x v
end
end
/-- as it stood, or a dict that is locked now -/
def Alk (x y : Option HO) : Prop := y = x ∨ ∃ o kvs, x = some (.dT kvs) ∧ y = some (.frz o (.dT kvs))
theorem Alk.trans {x y z : Option HO} (h : Alk x y) (q : Alk y z) : Alk x z := by
  rcases h with h | ⟨o, kvs, h1, h2⟩
  · rw [h] at q
    exact q
  · rcases q with q | ⟨o2, kvs2, q1, q2⟩
    · exact .inr ⟨o, kvs, h1, q.trans h2⟩
    · rw [h2] at q1
      cases q1
theorem Alk.keep {x y : Option HO} (h : Alk x y) {u : HO} (e : x = some u) (n : ∀ kvs, u ≠ .dT kvs) : y = some u := by
  rcases h with h | ⟨o, kvs, h1, h2⟩
  · rw [h, e]
  · rw [e] at h1
    exact absurd (Option.some.inj h1) (n kvs)
theorem Alk.ex {x y : Option HO} (h : Alk x y) {u : HO} (e : x = some u) : ∃ o, y = some o := by
  rcases h with h | ⟨o, kvs, h1, h2⟩
  · exact ⟨u, h.trans e⟩
  · exact ⟨_, h2⟩
theorem Alk.rd {H H' : Hp} {a : Addr} (h : Alk (H a) (H' a)) {u : HO} (e : Rd H a u) : Rd H' a u := by
  rcases h with h | ⟨o, kvs, h1, h2⟩
  · unfold Rd at *
    rw [h]
    exact e
  · rcases e with e | ⟨o2, e⟩
    · rw [h1] at e
      cases e
      exact .inr ⟨o, h2⟩
    · rw [h1] at e
      cases e
structure Ext0 (g : Gh) (H : Hp) (g' : Gh) (H' : Hp) : Prop where
  tup : ∀ a xs, H a = some (.tup xs) → H' a = some (.tup xs)
  frz : ∀ a, g.F a → Alk (H a) (H' a)
  sub : ∀ a, g.F a → g'.F a
  subC : ∀ a b, g.cd a b → g'.cd a b
/-- one heap goes on to the next -/
structure Ext (g : Gh) (H : Hp) (g' : Gh) (H' : Hp) : Prop where
  tup : ∀ a xs, H a = some (.tup xs) → H' a = some (.tup xs)
  frz : ∀ a, g.F a → Alk (H a) (H' a)
  sub : ∀ a, g.F a → g'.F a
  subC : ∀ a b, g.cd a b → g'.cd a b
  xa : g'.xa = g.xa
theorem Ext.z {g g' : Gh} {H H' : Hp} (e : Ext g H g' H') : Ext0 g H g' H' := ⟨e.tup, e.frz, e.sub, e.subC⟩
theorem Ext.refl (g : Gh) (H : Hp) : Ext g H g H := ⟨fun _ _ h => h, fun _ _ => .inl rfl, fun _ h => h, fun _ _ h => h, rfl⟩
theorem Ext.trans {g g1 g2 : Gh} {H H1 H2 : Hp} (a : Ext g H g1 H1) (b : Ext g1 H1 g2 H2) : Ext g H g2 H2 :=
  ⟨fun c xs h => b.tup c xs (a.tup c xs h), fun c h => (a.frz c h).trans (b.frz c (a.sub c h)), fun c h => b.sub c (a.sub c h), fun c d h => b.subC c d (a.subC c d h), b.xa.trans a.xa⟩

theorem TupO.mono {g g' : Gh} {H H' : Hp} (e : Ext0 g H g' H') {a : Addr} {vs : List V} {b : Bool} (h : TupO g H a vs b) : TupO g' H' a vs b := by
  cases b with
  | false => exact e.tup _ _ h
  | true => obtain ⟨h1, o, h2, h3⟩ := h; exact ⟨e.sub _ h1, o, (e.frz _ h1).keep h2 (fun _ z => nomatch z), h3⟩
section
variable {G : Gd} {K : PySem.W.Frag} {g g' : Gh} {H H' : Hp}
mutual
theorem Rep.mono0 (e : Ext0 g H g' H') : ∀ (x : D) (v : V), Rep G K g H x v → Rep G K g' H' x v
  | .non, _, h => by unfold Rep at *; exact h
  | .bl _, _, h => by unfold Rep at *; exact h
  | .int _, _, h => by unfold Rep at *; exact h
  | .str _, _, h => by unfold Rep at *; exact h
  | .tup xs, _, h => by
    unfold Rep at *
    obtain ⟨a, vs, h1, h2, h3⟩ := h
    exact ⟨a, vs, h1, h2.mono e, Reps.mono0 e xs vs h3⟩
  | .lst xs, _, h => by
    unfold Rep at *
    obtain ⟨a, vs, h1, h2, h3, h4⟩ := h
    exact ⟨a, vs, h1, e.sub _ h2, (e.frz _ h2).keep h3 (fun _ z => nomatch z), Reps.mono0 e xs vs h4⟩
  | .dct kvs, _, h => by
    unfold Rep at *
    obtain ⟨a, vs, h1, h2, h3, h4⟩ := h
    exact ⟨a, vs, h1, e.sub _ h2, (e.frz _ h2).rd h3, RepK.mono0 e kvs vs h4⟩
  | .obj c fs, _, h => by
    unfold Rep at *
    obtain ⟨ho, a, dx, vs, h1, h2, h3, h4⟩ := h
    exact ⟨ho, a, dx, vs, h1, e.sub _ h2, (e.frz _ h2).keep h3 (fun _ z => nomatch z), RepF.mono0 e fs vs h4⟩
  | .scr ns, _, h => by
    unfold Rep at *
    obtain ⟨a, h1, h2⟩ := h
    rcases h2 with ⟨h2, h3⟩ | h2
    · refine ⟨a, h1, .inl ⟨e.sub _ h2, ?_⟩⟩
      exact (e.frz _ h2).rd h3
    · exact ⟨a, h1, .inr h2⟩
  | .fn _, _, h => by unfold Rep at *; exact h
theorem Reps.mono0 (e : Ext0 g H g' H') : ∀ (xs : List D) (vs : List V), Reps G K g H xs vs → Reps G K g' H' xs vs
  | [], _, h => by unfold Reps at *; exact h
  | x :: xs, _, h => by
    unfold Reps at *
    obtain ⟨v, r, h1, h2, h3⟩ := h
    exact ⟨v, r, h1, Rep.mono0 e x v h2, Reps.mono0 e xs r h3⟩
theorem RepK.mono0 (e : Ext0 g H g' H') : ∀ (xs : List (Cell × D)) (vs : List (List Key × V)), RepK G K g H xs vs → RepK G K g' H' xs vs
  | [], _, h => by unfold RepK at *; exact h
  | (c, x) :: xs, _, h => by
    unfold RepK at *
    obtain ⟨v, r, h1, h2, h3⟩ := h
    exact ⟨v, r, h1, Rep.mono0 e x v h2, RepK.mono0 e xs r h3⟩
theorem RepF.mono0 (e : Ext0 g H g' H') : ∀ (xs : List (Nat × D)) (vs : List (Str × V)), RepF G K g H xs vs → RepF G K g' H' xs vs
  | [], _, h => by unfold RepF at *; exact h
  | (c, x) :: xs, _, h => by
    unfold RepF at *
    obtain ⟨v, r, h1, h2, h3⟩ := h
    exact ⟨v, r, h1, Rep.mono0 e x v h2, RepF.mono0 e xs r h3⟩
theorem RepX.mono0 (e : Ext0 g H g' H') (c : Nat) : ∀ (p : List D) (d : Option Addr), RepX G K g H c p d → RepX G K g' H' c p d
  | [], _, h => by unfold RepX at *; exact h
  | x :: xs, _, h => by
    unfold RepX at *
    obtain ⟨hx, h0, dd, v, h1, h2, h3, h4⟩ := h
    exact ⟨hx, h0, dd, v, h1, e.sub _ h2, (e.frz _ h2).keep h3 (fun _ z => nomatch z), Rep.mono0 e x v h4⟩
end
theorem Rep.mono (e : Ext g H g' H') (x : D) (v : V) (h : Rep G K g H x v) : Rep G K g' H' x v := Rep.mono0 e.z x v h
theorem Reps.mono (e : Ext g H g' H') (x : List D) (v : List V) (h : Reps G K g H x v) : Reps G K g' H' x v := Reps.mono0 e.z x v h
theorem RepK.mono (e : Ext g H g' H') (x : List (Cell × D)) (v : List (List Key × V)) (h : RepK G K g H x v) : RepK G K g' H' x v := RepK.mono0 e.z x v h
theorem RepF.mono (e : Ext g H g' H') (x : List (Nat × D)) (v : List (Str × V)) (h : RepF G K g H x v) : RepF G K g' H' x v := RepF.mono0 e.z x v h
theorem RepX.mono (e : Ext g H g' H') (c : Nat) (x : List D) (v : Option Addr) (h : RepX G K g H c x v) : RepX G K g' H' c x v := RepX.mono0 e.z c x v h
end

/-! ### the store -/
section
variable (G : Gd) (K : PySem.W.Frag) (g : Gh) (H : Hp)
def CellOk (a : Addr) : Ob → Prop
  | .lst xs => ¬ g.F a ∧ ∃ vs, H a = some (.lst vs) ∧ Reps G K g H xs vs
  | .dct kvs => ¬ g.F a ∧ ∃ vs, H a = some (.dT vs) ∧ RepK G K g H kvs vs
  | .ins c fs => (¬ g.F a ∧ G.okC c) ∧ ∃ dx vs, H a = some (.ins (G.clsA c) dx vs) ∧ RepF G K g H fs vs
  | .frz x => Rep G K g H x (.ref a) ∧ ∀ ps, H a ≠ some (.tbl ps)
/-- the codes that a table names are known -/
def CodesOk : List Value → Prop
  | _ :: _ :: v :: rest => (∃ c P, v = .ref c ∧ g.cd c P) ∧ CodesOk rest
  | _ => True
def TabN (P : Addr) : Prop := (∃ ps : Array Value, H P = some (.tbl ps) ∧ TriplesOk ps.toList ∧ CodesOk g ps.toList) ∧ ¬ g.F P
structure Rl (al : List Addr) (S : Store) : Prop where
  len : al.length = S.length
  nd : al.Nodup
  cell : ∀ (n : Nat) (ob : Ob) (a : Addr), S[n]? = some ob → al[n]? = some a → CellOk G K g H a ob ∧ (∃ o, H a = some o)
  fr : ∀ a, g.F a → ∃ o, H a = some o
  tab : ∀ P, (G.tab P ∨ ∃ cc, g.cd cc P) → TabN g H P
  cod : ∀ cc P, g.cd cc P → g.F cc ∧ H cc = some (.ext fun h => PySem.W.CodeHd h cc P)
def RepL (al : List Addr) : Vl → V → Prop
  | .d x, v => Rep G K g H x v
  | .r n, v => ∃ a, al[n]? = some a ∧ v = .ref a
  | .x c p, v => ∃ a d, v = .ref a ∧ g.xa a c d ∧ RepX G K g H c p d
structure Er (al : List Addr) (ρ : Env) (σ : L2.St) : Prop where
  len : ρ.length = σ.length
  at_ : ∀ (i : Nat) (x : Vl), ρ[i]? = some (some x) → ∃ v, σ[i]? = some (some v) ∧ RepL G K g H al x v
end
section
variable {G : Gd} {K : PySem.W.Frag} {g g' : Gh} {H H' : Hp} {al al' : List Addr} {S S' : Store} {ρ : Env} {σ : L2.St}
theorem Rl.nF (r : Rl G K g H al S) {p : Addr} (h : H p = none) : ¬ g.F p := fun z => by
  obtain ⟨o, e⟩ := r.fr p z
  rw [h] at e
  cases e
theorem CellOk.mono (e : Ext g H g' H') {a : Addr} {ob : Ob} (ha : H' a = H a) (hf : ¬ g.F a → ¬ g'.F a) (h : CellOk G K g H a ob) : CellOk G K g' H' a ob := by
  cases ob with
  | lst xs =>
    obtain ⟨h0, vs, h1, h2⟩ := h
    exact ⟨hf h0, vs, ha.trans h1, h2.mono e⟩
  | dct kvs =>
    obtain ⟨h0, vs, h1, h2⟩ := h
    exact ⟨hf h0, vs, ha.trans h1, h2.mono e⟩
  | ins c fs =>
    obtain ⟨h0, dx, vs, h1, h2⟩ := h
    exact ⟨⟨hf h0.1, h0.2⟩, dx, vs, ha.trans h1, h2.mono e⟩
  | frz x => exact ⟨Rep.mono e _ _ h.1, fun ps => by rw [ha]; exact h.2 ps⟩
theorem RepL.mono (e : Ext g H g' H') (hp : al <+: al') {x : Vl} {v : V} (h : RepL G K g H al x v) : RepL G K g' H' al' x v := by
  cases x with
  | d x => exact Rep.mono e _ _ h
  | r n =>
    obtain ⟨a, h1, h2⟩ := h
    refine ⟨a, ?_, h2⟩
    obtain ⟨t, rfl⟩ := hp
    rw [List.getElem?_append_left (List.getElem?_eq_some_iff.mp h1).1]
    exact h1
  | x c p =>
    obtain ⟨a, d, h1, h2, h3⟩ := h
    exact ⟨a, d, h1, by rw [e.xa]; exact h2, RepX.mono e c p d h3⟩
theorem CodesOk.mono0 (e : Ext0 g H g' H') : ∀ (l : List Value), CodesOk g l → CodesOk g' l
  | _ :: _ :: v :: rest, h => ⟨let ⟨c, P, h1, h2⟩ := h.1; ⟨c, P, h1, e.subC c P h2⟩, CodesOk.mono0 e rest h.2⟩
  | [], _ => trivial
  | [_], _ => trivial
  | [_, _], _ => trivial
/-- a table that stands as it stood -/
theorem TabN.stay {P : Addr} (e : Ext0 g H g' H') (h : TabN g H P) (hH : ∀ ps, H P = some (.tbl ps) → H' P = some (.tbl ps)) (hF : ¬ g.F P → ¬ g'.F P) : TabN g' H' P :=
  let ⟨⟨ps, h1, h2, h3⟩, h4⟩ := h
  ⟨⟨ps, hH ps h1, h2, h3.mono0 e⟩, hF h4⟩
/-- other errors are caught -/
theorem xa0 {H : Hp} {F : Addr → Prop} {T : Addr → Addr → Prop} (x y : Addr → Nat → Option Addr → Prop) : Ext0 ⟨F, T, x⟩ H ⟨F, T, y⟩ H := ⟨fun _ _ h => h, fun _ _ => .inl rfl, fun _ h => h, fun _ _ h => h⟩
theorem CellOk.rexa {F : Addr → Prop} {T : Addr → Addr → Prop} {x : Addr → Nat → Option Addr → Prop} {a : Addr} {ob : Ob} (h : CellOk G K ⟨F, T, x⟩ H a ob) (y : Addr → Nat → Option Addr → Prop) : CellOk G K ⟨F, T, y⟩ H a ob := by
  cases ob with
  | lst xs =>
    obtain ⟨h0, vs, h1, h2⟩ := h
    exact ⟨h0, vs, h1, h2.mono0 (xa0 x y)⟩
  | dct kvs =>
    obtain ⟨h0, vs, h1, h2⟩ := h
    exact ⟨h0, vs, h1, h2.mono0 (xa0 x y)⟩
  | ins c fs =>
    obtain ⟨h0, dx, vs, h1, h2⟩ := h
    exact ⟨h0, dx, vs, h1, h2.mono0 (xa0 x y)⟩
  | frz z => exact ⟨Rep.mono0 (xa0 x y) _ _ h.1, h.2⟩
theorem Rl.rexa {F : Addr → Prop} {T : Addr → Addr → Prop} {x : Addr → Nat → Option Addr → Prop} (r : Rl G K ⟨F, T, x⟩ H al S) (y : Addr → Nat → Option Addr → Prop) : Rl G K ⟨F, T, y⟩ H al S :=
  ⟨r.len, r.nd, fun n ob a h1 h2 => let ⟨q, u⟩ := r.cell n ob a h1 h2; ⟨q.rexa y, u⟩, r.fr, fun P hP => (r.tab P hP).stay (xa0 x y) (fun _ h => h) fun h => h, r.cod⟩
theorem Er.mono (e : Ext g H g' H') (hp : al <+: al') (h : Er G K g H al ρ σ) : Er G K g' H' al' ρ σ :=
  ⟨h.len, fun i x q => let ⟨v, h1, h2⟩ := h.at_ i x q; ⟨v, h1, h2.mono e hp⟩⟩
theorem Er.set (h : Er G K g H al ρ σ) {i : Nat} {x : Vl} {v : V} (r : RepL G K g H al x v) : Er G K g H al (ρ.set i (some x)) (σ.set i (some v)) := by
  refine ⟨by simpa using h.len, fun j y q => ?_⟩
  by_cases hj : i = j
  · subst hj
    by_cases hi : i < ρ.length
    · rw [List.getElem?_set_self hi] at q
      cases q
      refine ⟨v, ?_, r⟩
      rw [List.getElem?_set_self (by rw [← h.len]; exact hi)]
    · rw [List.getElem?_eq_none (by simpa using hi)] at q
      cases q
  · rw [List.getElem?_set_ne hj] at q
    obtain ⟨w, h1, h2⟩ := h.at_ j y q
    exact ⟨w, by rw [List.getElem?_set_ne hj]; exact h1, h2⟩
theorem Er.wiped (h : Er G K g H al ρ σ) : ∀ own : List Nat, Er G K g H al (wipeE ρ own) (L2.wipe σ own)
  | [] => h
  | i :: own => by
    have q := Er.wiped h own
    refine ⟨by show ((wipeE ρ own).set i none).length = ((L2.wipe σ own).set i none).length; simpa using q.len, fun j y z => ?_⟩
    have z : ((wipeE ρ own).set i none)[j]? = some (some y) := z
    by_cases hj : i = j
    · subst hj
      by_cases hi : i < (wipeE ρ own).length
      · rw [List.getElem?_set_self hi] at z
        cases z
      · rw [List.getElem?_eq_none (by simpa using hi)] at z
        cases z
    · rw [List.getElem?_set_ne hj] at z
      obtain ⟨w, h1, h2⟩ := q.at_ j y z
      refine ⟨w, ?_, h2⟩
      show ((L2.wipe σ own).set i none)[j]? = _
      rw [List.getElem?_set_ne hj]
      exact h1

/-- heaps that differ where nothing of ours stands -/
theorem Rl.keep (r : Rl G K g H al S) (e : Ext g H g H') (hc : ∀ a ∈ al, H' a = H a) (ht : ∀ P ps, H P = some (.tbl ps) → H' P = some (.tbl ps)) : Rl G K g H' al S :=
  ⟨r.len, r.nd, fun n ob a h1 h2 => by
    obtain ⟨q, o, ho⟩ := r.cell n ob a h1 h2
    have z := hc a (List.mem_of_getElem? h2)
    exact ⟨q.mono e z (fun x => x), o, z.trans ho⟩, fun a h => by
    obtain ⟨o, ho⟩ := r.fr a h
    exact (e.frz a h).ex ho, fun P h => (r.tab P h).stay e.z (ht P) fun h => h, fun cc P h => ⟨(r.cod cc P h).1, (e.frz cc (r.cod cc P h).1).keep (r.cod cc P h).2 (fun _ z => nomatch z)⟩⟩
theorem Rl.there (r : Rl G K g H al S) {a : Addr} (h : a ∈ al) : ∃ o, H a = some o := by
  obtain ⟨n, hn, e⟩ := List.getElem_of_mem h
  have h2 : al[n]? = some a := by rw [List.getElem?_eq_getElem hn, e]
  have hn' : n < S.length := by rw [← r.len]; exact hn
  exact (r.cell n S[n] a (List.getElem?_eq_getElem hn') h2).2
/-- a new object that we do not look at -/
theorem Ext.new {p : Addr} {o : HO} (h : H p = none) (hf : ¬ g.F p) : Ext g H g (upd H p o) :=
  ⟨fun a xs e => by rw [upd_ne (ne_of_none e h)]; exact e, fun a z => .inl (upd_ne (fun q => hf (q ▸ z))), fun _ z => z, fun _ _ z => z, rfl⟩
theorem Rl.new (r : Rl G K g H al S) {p : Addr} {o : HO} (h : H p = none) : Rl G K g (upd H p o) al S := by
  refine r.keep (Ext.new h (r.nF h)) (fun a ha => ?_) fun P ps hP => ?_
  · obtain ⟨u, hu⟩ := r.there ha
    exact upd_ne (ne_of_none hu h)
  · rw [upd_ne (ne_of_none hP h)]; exact hP
/-- .. and that is taken into the store -/
theorem Rl.alloc (r : Rl G K g H al S) {p : Addr} {o : HO} {ob : Ob} (h : H p = none) (c : CellOk G K g (upd H p o) p ob) : Rl G K g (upd H p o) (al ++ [p]) (S ++ [ob]) := by
  have q := r.new (o := o) h
  have np : p ∉ al := fun z => by
    obtain ⟨u, hu⟩ := r.there z
    rw [h] at hu
    cases hu
  refine ⟨by simp [r.len], List.nodup_append.mpr ⟨r.nd, by simp, fun a ha b hb e => by
    have hb : b = p := by simpa using hb
    exact np (hb ▸ e ▸ ha)⟩, fun n ob' a h1 h2 => ?_, q.fr, q.tab, q.cod⟩
  by_cases hn : n < S.length
  · rw [List.getElem?_append_left hn] at h1
    rw [List.getElem?_append_left (by rw [r.len]; exact hn)] at h2
    exact q.cell n ob' a h1 h2
  · have hle := (List.getElem?_eq_some_iff.mp h1).1
    have e : n = S.length := by
      rw [List.length_append, List.length_singleton] at hle
      omega
    subst e
    rw [List.getElem?_append_right (Nat.le_refl _), Nat.sub_self] at h1
    rw [← r.len, List.getElem?_append_right (Nat.le_refl _), Nat.sub_self] at h2
    have e1 : ob = ob' := by simpa using h1
    have e2 : p = a := by simpa using h2
    subst e1 e2
    exact ⟨c, o, upd_same⟩
/-- one object of the store is changed -/
theorem Ext.write {a : Addr} {o : HO} (ht : ∀ xs, H a ≠ some (.tup xs)) (hf : ¬ g.F a) : Ext g H g (upd H a o) :=
  ⟨fun b xs e => by rw [upd_ne (fun (z : b = a) => ht xs (by rw [← z]; exact e))]; exact e, fun b z => .inl (upd_ne (fun q => hf (q ▸ z))), fun _ z => z, fun _ _ z => z, rfl⟩
theorem Rl.write (r : Rl G K g H al S) {n : Nat} {a : Addr} {o : HO} {ob : Ob} (ha : al[n]? = some a) (ht : ∀ xs, H a ≠ some (.tup xs)) (hb : ∀ ps, H a ≠ some (.tbl ps)) (hf : ¬ g.F a) (c : CellOk G K g (upd H a o) a ob) :
    Rl G K g (upd H a o) al (S.set n ob) := by
  have e : Ext g H g (upd H a o) := .write ht hf
  refine ⟨by simp [r.len], r.nd, fun m ob' b h1 h2 => ?_, fun b h => ?_, fun P hP => ?_, fun cc P h => ⟨(r.cod cc P h).1, (e.frz cc (r.cod cc P h).1).keep (r.cod cc P h).2 (fun _ z => nomatch z)⟩⟩
  · by_cases hm : n = m
    · subst hm
      have hn : n < S.length := by rw [← r.len]; exact (List.getElem?_eq_some_iff.mp ha).1
      rw [List.getElem?_set_self hn] at h1
      cases h1
      rw [ha] at h2
      cases h2
      exact ⟨c, o, upd_same⟩
    · rw [List.getElem?_set_ne hm] at h1
      have ne : b ≠ a := fun z => by
        subst z
        obtain ⟨i1, e1⟩ := List.getElem?_eq_some_iff.mp ha
        obtain ⟨i2, e2⟩ := List.getElem?_eq_some_iff.mp h2
        exact hm ((List.getElem_inj r.nd).mp (e1.trans e2.symm))
      obtain ⟨q, u, hu⟩ := r.cell m ob' b h1 h2
      have z : upd H a o b = H b := upd_ne ne
      exact ⟨q.mono e z (fun x => x), u, z.trans hu⟩
  · obtain ⟨u, hu⟩ := r.fr b h
    exact (e.frz b h).ex hu
  · exact (r.tab P hP).stay e.z (fun ps h1 => by rw [upd_ne (fun (z : P = a) => hb ps (by rw [← z]; exact h1))]; exact h1) fun h => h
/-- an object of the store is locked for good -/
def Gh.lock (g : Gh) (a : Addr) : Gh := ⟨fun b => g.F b ∨ b = a, g.cd, g.xa⟩
theorem Ext.lock (a : Addr) : Ext g H (g.lock a) H := ⟨fun _ _ h => h, fun _ _ => .inl rfl, fun _ h => .inl h, fun _ _ h => h, rfl⟩
theorem CellOk.lock {a : Addr} {ob : Ob} (h : CellOk G K g H a ob) : Rep G K (g.lock a) H ob.data (.ref a) := by
  have e : Ext g H (g.lock a) H := .lock a
  cases ob with
  | lst xs =>
    obtain ⟨_, vs, h1, h2⟩ := h
    show Rep _ _ _ _ (.lst xs) _
    unfold Rep
    exact ⟨a, vs, rfl, .inr rfl, h1, h2.mono e⟩
  | dct kvs =>
    obtain ⟨_, vs, h1, h2⟩ := h
    show Rep _ _ _ _ (.dct kvs) _
    unfold Rep
    exact ⟨a, vs, rfl, .inr rfl, .inl h1, h2.mono e⟩
  | ins c fs =>
    obtain ⟨h0, dx, vs, h1, h2⟩ := h
    show Rep _ _ _ _ (.obj c fs) _
    unfold Rep
    exact ⟨h0.2, a, dx, vs, rfl, .inr rfl, h1, h2.mono e⟩
  | frz x => exact Rep.mono e _ _ h.1
theorem CellOk.notTbl {a : Addr} {ob : Ob} (h : CellOk G K g H a ob) : ∀ ps, H a ≠ some (.tbl ps) := fun ps z => by
  cases ob with
  | lst xs => obtain ⟨_, vs, h1, _⟩ := h; rw [z] at h1; cases h1
  | dct kvs => obtain ⟨_, vs, h1, _⟩ := h; rw [z] at h1; cases h1
  | ins c fs => obtain ⟨_, dx, vs, h1, _⟩ := h; rw [z] at h1; cases h1
  | frz x => exact h.2 ps z
theorem Rl.lock (r : Rl G K g H al S) {n : Nat} {a : Addr} {ob : Ob} (hS : S[n]? = some ob) (ha : al[n]? = some a) : Rl G K (g.lock a) H al (S.set n (.frz ob.data)) := by
  have e : Ext g H (g.lock a) H := .lock a
  have hb := (r.cell n ob a hS ha).1.notTbl
  refine ⟨by simp [r.len], r.nd, fun m ob' b h1 h2 => ?_, fun b h => ?_, fun P hP => ?_, fun cc P h => ⟨.inl (r.cod cc P h).1, (r.cod cc P h).2⟩⟩
  · by_cases hm : n = m
    · subst hm
      rw [List.getElem?_set_self (List.getElem?_eq_some_iff.mp hS).1] at h1
      cases h1
      rw [ha] at h2
      cases h2
      obtain ⟨q, u⟩ := r.cell n ob a hS ha
      exact ⟨⟨q.lock, q.notTbl⟩, u⟩
    · rw [List.getElem?_set_ne hm] at h1
      obtain ⟨q, u⟩ := r.cell m ob' b h1 h2
      refine ⟨q.mono e rfl (fun x z => ?_), u⟩
      rcases z with z | z
      · exact x z
      · subst z
        obtain ⟨i1, e1⟩ := List.getElem?_eq_some_iff.mp ha
        obtain ⟨i2, e2⟩ := List.getElem?_eq_some_iff.mp h2
        exact hm ((List.getElem_inj r.nd).mp (e1.trans e2.symm))
  · rcases h with h | h
    · exact r.fr b h
    · subst h
      exact (r.cell n ob b hS ha).2
  · have q := r.tab P hP
    obtain ⟨⟨ps, h1, _⟩, _⟩ := id q
    refine q.stay e.z (fun _ h => h) fun h3 z => ?_
    rcases z with z | z
    · exact h3 z
    · subst z
      exact hb ps h1
/-- a dict that is data is locked: nothing of ours changes -/
theorem Ext.lockD {d : Addr} {o : Obj} {kvs : List (List Key × V)} (hd : H d = some (.dT kvs)) : Ext g H g (upd H d (.frz o (.dT kvs))) :=
  ⟨fun a xs e => by rw [upd_ne (fun z => by rw [z, hd] at e; cases e)]; exact e, fun a _ => by
    by_cases h : a = d
    · rw [h]
      exact .inr ⟨o, kvs, hd, upd_same⟩
    · exact .inl (upd_ne h), fun _ z => z, fun _ _ z => z, rfl⟩
theorem Rl.lockD (r : Rl G K g H al S) {d : Addr} {o : Obj} {kvs : List (List Key × V)} (hF : g.F d) (hd : H d = some (.dT kvs)) : Rl G K g (upd H d (.frz o (.dT kvs))) al S := by
  have e : Ext g H g (upd H d (.frz o (.dT kvs))) := .lockD hd
  refine ⟨r.len, r.nd, fun n ob a h1 h2 => ?_, fun a h => ?_, fun P h => (r.tab P h).stay e.z (fun ps hP => by rw [upd_ne (fun z => by rw [z, hd] at hP; cases hP)]; exact hP) fun h => h, fun cc P h => ⟨(r.cod cc P h).1, (e.frz cc (r.cod cc P h).1).keep (r.cod cc P h).2 (fun _ z => nomatch z)⟩⟩
  · obtain ⟨q, u, hu⟩ := r.cell n ob a h1 h2
    by_cases ha : a = d
    · subst ha
      refine ⟨?_, _, upd_same⟩
      cases ob with
      | lst xs => exact absurd hF q.1
      | dct xs => exact absurd hF q.1
      | ins c fs => exact absurd hF q.1.1
      | frz x => exact ⟨q.1.mono e, fun ps z => by rw [upd_same] at z; cases z⟩
    · have z : upd H d (.frz o (.dT kvs)) a = H a := upd_ne ha
      exact ⟨q.mono e z (fun x => x), u, z.trans hu⟩
  · obtain ⟨u, hu⟩ := r.fr a h
    exact (e.frz a h).ex hu
/-- a new tuple that is known -/
theorem Rl.known (r : Rl G K g H al S) {p : Addr} {ob : Obj} {vs : List V} (h : H p = none) : Rl G K (g.lock p) (upd H p (.frz ob (.tup vs))) al S := by
  have r1 := r.new (o := .frz ob (.tup vs)) h
  have e : Ext g (upd H p (.frz ob (.tup vs))) (g.lock p) (upd H p (.frz ob (.tup vs))) := .lock p
  have np : p ∉ al := fun z => by
    obtain ⟨u, hu⟩ := r.there z
    rw [h] at hu
    cases hu
  refine ⟨r1.len, r1.nd, fun m ob' b h1 h2 => ?_, fun b h => ?_, fun P hP => ?_, fun cc P h => ⟨.inl (r1.cod cc P h).1, (r1.cod cc P h).2⟩⟩
  · obtain ⟨q, u⟩ := r1.cell m ob' b h1 h2
    refine ⟨q.mono e rfl (fun x z => ?_), u⟩
    rcases z with z | z
    · exact x z
    · subst z
      exact np (List.mem_of_getElem? h2)
  · rcases h with h | h
    · exact r1.fr b h
    · subst h
      exact ⟨_, upd_same⟩
  · have q := r1.tab P hP
    obtain ⟨⟨ps, h1, _⟩, _⟩ := id q
    refine q.stay e.z (fun _ h => h) fun h3 z => ?_
    rcases z with z | z
    · exact h3 z
    · subst z
      rw [upd_same] at h1
      cases h1
theorem Rl.take (r : Rl G K g H al S) (n : Nat) : Rl G K g H (al.take n) (S.take n) :=
  ⟨by simp [r.len], r.nd.sublist (List.take_sublist _ _), fun m ob a h1 h2 => by
    have hm : m < n := by
      have := (List.getElem?_eq_some_iff.mp h1).1
      rw [List.length_take] at this
      omega
    rw [List.getElem?_take_of_lt hm] at h1 h2
    exact r.cell m ob a h1 h2, r.fr, r.tab, r.cod⟩
end
end SW

-- SwC
set_option Elab.async false
set_option linter.all false
set_option maxRecDepth 100000
set_option maxHeartbeats 4000000
set_option autoImplicit false
/-! SwC: expressions: what the evaluator says is so -/
namespace SW
open PySem PySem.Spec PyProof.Rows L2

structure Ct where
  G : Gd
  K : PySem.W.Frag
  W : WX
  xo : Addr → Nat → Option Addr → Prop
  cd : Addr → Addr → Prop
/-- what is known here of errors and codes -/
structure Fit (c : Ct) (g : Gh) : Prop where
  xa : g.xa = c.xo
  cd : ∀ cc P, c.cd cc P → g.cd cc P
theorem Fit.ext {c : Ct} {g g' : Gh} {H H' : Hp} (f : Fit c g) (e : Ext g H g' H') : Fit c g' := ⟨e.xa.trans f.xa, fun cc P h => e.subC cc P (f.cd cc P h)⟩
abbrev Rn (α β : Type) := Gh → Hp → List Addr → α → β → Prop
section
variable {α β : Type}
/-- what is wanted of an evaluation's end -/
def Out (c : Ct) (rel : Rn α β) (σ : L2.St) (g : Gh) (H : Hp) (al : List Addr) (r : R α) (Q : β → Hp → Prop) : Prop :=
  match r with
  | .ok v S' => ∀ g' H' al' x, Ext g H g' H' → Rl c.G c.K g' H' al' S' → al <+: al' → rel g' H' al' v x → Q x H'
  | .exc k p S' => ∀ g' H' al' d, Ext g H g' H' → Rl c.G c.K g' H' al' S' → al <+: al' → RepX c.G c.K g' H' k p d → c.W (.ref (c.G.clsA k)) d σ H'
  | .bad => False
/-- an evaluation's reading -/
def TQ (c : Ct) (rel : Rn α β) (f : Env → Store → R α) : L2.St → Hp → (β → Hp → Prop) → Prop := fun σ H Q =>
  ∃ g al ρ S, Fit c g ∧ Rl c.G c.K g H al S ∧ Er c.G c.K g H al ρ σ ∧ Out c rel σ g H al (f ρ S) Q
theorem Out.rebase {c : Ct} {rel : Rn α β} {σ : L2.St} {g g1 : Gh} {H H1 : Hp} {al al1 : List Addr} {r : R α} {Q : β → Hp → Prop} (e : Ext g H g1 H1) (hp : al <+: al1) (h : Out c rel σ g H al r Q) : Out c rel σ g1 H1 al1 r Q := by
  cases r with
  | ok v S' => exact fun g' H' al' x e1 r1 p1 q1 => h g' H' al' x (e.trans e1) r1 (hp.trans p1) q1
  | exc k p S' => exact fun g' H' al' d e1 r1 p1 q1 => h g' H' al' d (e.trans e1) r1 (hp.trans p1) q1
  | bad => exact h
theorem Out.mono {c : Ct} {rel : Rn α β} {σ : L2.St} {g : Gh} {H : Hp} {al : List Addr} {r : R α} {Q Q' : β → Hp → Prop} (i : ∀ x H, Q x H → Q' x H) (h : Out c rel σ g H al r Q) : Out c rel σ g H al r Q' := by
  cases r with
  | ok v S' => exact fun g' H' al' x e1 r1 p1 q1 => i _ _ (h g' H' al' x e1 r1 p1 q1)
  | exc k p S' => exact h
  | bad => exact h
theorem TQ.step {γ δ : Type} {c : Ct} {rel : Rn α β} {rel' : Rn γ δ} {f : Env → Store → R α} {k : α → Store → R γ} {σ : L2.St} {H : Hp} {Q : δ → Hp → Prop} {Q1 : β → Hp → Prop} {g : Gh} {al : List Addr} {ρ : Env} {S : Store}
    (xa : Fit c g) (rl : Rl c.G c.K g H al S) (er : Er c.G c.K g H al ρ σ) (o : Out c rel' σ g H al ((f ρ S).bind k) Q)
    (i : ∀ x H1 g1 al1 v S1, Ext g H g1 H1 → al <+: al1 → Fit c g1 → Rl c.G c.K g1 H1 al1 S1 → Er c.G c.K g1 H1 al1 ρ σ → rel g1 H1 al1 v x → Out c rel' σ g1 H1 al1 (k v S1) Q → Q1 x H1) : TQ c rel f σ H Q1 := by
  refine ⟨g, al, ρ, S, xa, rl, er, ?_⟩
  cases e : f ρ S with
  | ok v S1 =>
    simp only [e, R.bind] at o
    exact fun g1 H1 al1 x e1 r1 p1 q1 => i x H1 g1 al1 v S1 e1 p1 (xa.ext e1) r1 (er.mono e1 p1) q1 (o.rebase e1 p1)
  | exc k' p S1 =>
    simp only [e, R.bind] at o
    exact o
  | bad =>
    simp only [e, R.bind] at o
    exact o
end
section
variable {X : Cx}
theorem _root_.L2.PE.imp {e : Expr} {t t' : TE} (h : PE X e t) (i : ∀ σ H Q, t' σ H Q → t σ H Q) : PE X e t' := ⟨fun pins s σ H Q I q => h.run pins s σ H Q I (i σ H Q q)⟩
theorem _root_.L2.PT.imp {e : Expr} {t t' : L2.TT} (h : PT X e t) (i : ∀ σ H Q, t' σ H Q → t σ H Q) : PT X e t' := ⟨fun pins s σ H Q I q => h.run pins s σ H Q I (i σ H Q q)⟩
theorem _root_.L2.PA.imp {es : List Expr} {t t' : TA} (h : PA X es t) (i : ∀ σ H Q, t' σ H Q → t σ H Q) : PA X es t' := ⟨fun pos pins s σ H Q I q => h.run pos pins s σ H Q I (i σ H Q q)⟩
end
abbrev relL (c : Ct) : Rn Vl V := fun g H al v x => RepL c.G c.K g H al v x
/-- an expression evaluates as f -/
abbrev SE (X : Cx) (c : Ct) (e : Expr) (f : Env → Store → R Vl) : Prop := PE X e (TQ c (relL c) f)
def relB : Rn Bool Bool := fun _ _ _ a b => a = b
abbrev ST (X : Cx) (c : Ct) (e : Expr) (f : Env → Store → R Bool) : Prop := PT X e (TQ c relB f)
/-- what follows an evaluation that still goes on at this heap -/
abbrev On (c : Ct) {γ δ : Type} (rel' : Rn γ δ) (σ : L2.St) (g : Gh) (H : Hp) (al : List Addr) (r : R γ) (Q : δ → Hp → Prop) : Prop := Out c rel' σ g H al r Q

/-! ### ends -/
section
variable {c : Ct} {σ : L2.St} {g : Gh} {H : Hp} {al : List Addr} {S : Store} {Q : VK}
theorem Out.here {α β : Type} {rel : Rn α β} {v : α} {x : β} {Q : β → Hp → Prop} (h : Out c rel σ g H al (.ok v S) Q) (r : Rl c.G c.K g H al S) (q : rel g H al v x) : Q x H :=
  h g H al x (.refl g H) r (List.prefix_refl al) q
theorem Out.data {x : D} {v : V} (h : Out c (relL c) σ g H al (.ok (.d x) S) Q) (r : Rl c.G c.K g H al S) (q : Rep c.G c.K g H x v) : Q v H := h.here r q
theorem Out.int {i : Int} (h : Out c (relL c) σ g H al (.ok (.d (.int i)) S) Q) (r : Rl c.G c.K g H al S) : Q (.int i) H := h.data r (by unfold Rep; rfl)
theorem Out.str {i : Str} (h : Out c (relL c) σ g H al (.ok (.d (.str i)) S) Q) (r : Rl c.G c.K g H al S) : Q (.str i) H := h.data r (by unfold Rep; rfl)
theorem Out.bl {b : Bool} (h : Out c (relL c) σ g H al (.ok (.d (.bl b)) S) Q) (r : Rl c.G c.K g H al S) : Q (.bl b) H := h.data r (by unfold Rep; rfl)
theorem Out.non (h : Out c (relL c) σ g H al (.ok (.d .non) S) Q) (r : Rl c.G c.K g H al S) : Q .non H := h.data r (by unfold Rep; rfl)
/-- a new tuple -/
theorem Out.tup {xs : List D} {vs : List V} (h : Out c (relL c) σ g H al (.ok (.d (.tup xs)) S) Q) (r : Rl c.G c.K g H al S) (q : Reps c.G c.K g H xs vs) : (∀ p, H p = none → Q (.ref p) (upd H p (.tup vs))) ∨ (∀ p o, H p = none → o.dict = none → Q (.ref p) (upd H p (.frz o (.tup vs)))) := by
  cases hb : isP xs with
  | false =>
    refine .inl fun p hp => ?_
    have e : Ext g H g (upd H p (.tup vs)) := .new hp (r.nF hp)
    refine h g _ al (.ref p) e (r.new hp) (List.prefix_refl al) ?_
    show Rep _ _ _ _ (.tup xs) _
    unfold Rep
    rw [hb]
    exact ⟨p, vs, rfl, upd_same, q.mono e⟩
  | true =>
    refine .inr fun p o hp ho => ?_
    have e : Ext g H (g.lock p) (upd H p (.frz o (.tup vs))) := Ext.trans (.new hp (r.nF hp)) (.lock p)
    refine h (g.lock p) _ al (.ref p) e (r.known hp) (List.prefix_refl al) ?_
    show Rep _ _ _ _ (.tup xs) _
    unfold Rep
    rw [hb]
    exact ⟨p, vs, rfl, ⟨.inr rfl, o, upd_same, ho⟩, q.mono e⟩
theorem Out.tupP {xs : List D} {vs : List V} (h : Out c (relL c) σ g H al (.ok (.d (.tup xs)) S) Q) (hb : isP xs = false) (r : Rl c.G c.K g H al S) (q : Reps c.G c.K g H xs vs) : ∀ p, H p = none → Q (.ref p) (upd H p (.tup vs)) := fun p hp => by
  have e : Ext g H g (upd H p (.tup vs)) := .new hp (r.nF hp)
  refine h g _ al (.ref p) e (r.new hp) (List.prefix_refl al) ?_
  show Rep _ _ _ _ (.tup xs) _
  unfold Rep
  rw [hb]
  exact ⟨p, vs, rfl, upd_same, q.mono e⟩
/-- a new object of the store -/
theorem Out.alloc {ob : Ob} {o : HO} (h : Out c (relL c) σ g H al (alloc ob S) Q) (r : Rl c.G c.K g H al S) (q : ∀ p, H p = none → CellOk c.G c.K g (upd H p o) p ob) : ∀ p, H p = none → Q (.ref p) (upd H p o) := fun p hp => by
  have e : Ext g H g (upd H p o) := .new hp (r.nF hp)
  refine h g _ (al ++ [p]) (.ref p) e (r.alloc hp (q p hp)) (List.prefix_append al [p]) ⟨p, ?_, rfl⟩
  rw [← r.len, List.getElem?_append_right (Nat.le_refl _), Nat.sub_self]
  rfl
theorem CellOk.newLst {G : Gd} {K : PySem.W.Frag} {p : Addr} {xs : List D} {vs : List V} (r : Rl G K g H al S) (q : Reps G K g H xs vs) (hp : H p = none) : CellOk G K g (upd H p (.lst vs)) p (.lst xs) :=
  ⟨r.nF hp, vs, upd_same, q.mono (.new hp (r.nF hp))⟩
theorem CellOk.newDct {G : Gd} {K : PySem.W.Frag} {p : Addr} {xs : List (Cell × D)} {vs : List (List Key × V)} (r : Rl G K g H al S) (q : RepK G K g H xs vs) (hp : H p = none) : CellOk G K g (upd H p (.dT vs)) p (.dct xs) :=
  ⟨r.nF hp, vs, upd_same, q.mono (.new hp (r.nF hp))⟩
theorem Out.lst {xs : List D} {vs : List V} (h : Out c (relL c) σ g H al (SW.alloc (.lst xs) S) Q) (r : Rl c.G c.K g H al S) (q : Reps c.G c.K g H xs vs) : ∀ p, H p = none → Q (.ref p) (upd H p (.lst vs)) :=
  Out.alloc h r fun _ hp => .newLst r q hp
theorem Out.dct {xs : List (Cell × D)} {vs : List (List Key × V)} (h : Out c (relL c) σ g H al (SW.alloc (.dct xs) S) Q) (r : Rl c.G c.K g H al S) (q : RepK c.G c.K g H xs vs) : ∀ p, H p = none → Q (.ref p) (upd H p (.dT vs)) :=
  Out.alloc h r fun _ hp => .newDct r q hp
end

/-! ### what is read -/
section
variable (G : Gd) (K : PySem.W.Frag) (g : Gh) (H : Hp)
/-- as Rep, but an object of the store may be it -/
def View : D → V → Prop
  | .lst xs, v => ∃ a vs, v = .ref a ∧ H a = some (.lst vs) ∧ Reps G K g H xs vs
  | .dct kvs, v => ∃ a vs, v = .ref a ∧ Rd H a (.dT vs) ∧ RepK G K g H kvs vs
  | .obj c fs, v => G.okC c ∧ ∃ a dx vs, v = .ref a ∧ H a = some (.ins (G.clsA c) dx vs) ∧ RepF G K g H fs vs
  | x, v => Rep G K g H x v
end
section
variable {G : Gd} {K : PySem.W.Frag} {g g' : Gh} {H H' : Hp} {al : List Addr} {S : Store}
theorem Rep.view {x : D} {v : V} (h : Rep G K g H x v) : View G K g H x v := by
  cases x with
  | lst xs => unfold Rep at h; obtain ⟨a, vs, h1, _, h2, h3⟩ := h; exact ⟨a, vs, h1, h2, h3⟩
  | dct xs => unfold Rep at h; obtain ⟨a, vs, h1, _, h2, h3⟩ := h; exact ⟨a, vs, h1, h2, h3⟩
  | obj c fs => unfold Rep at h; obtain ⟨ho, a, dx, vs, h1, _, h2, h3⟩ := h; exact ⟨ho, a, dx, vs, h1, h2, h3⟩
  | _ => exact h
theorem view_of (r : Rl G K g H al S) {v : Vl} {x : V} {u : D} (h : RepL G K g H al v x) (e : rd S v = some u) : View G K g H u x := by
  cases v with
  | d y =>
    cases e
    exact Rep.view h
  | r n =>
    obtain ⟨a, h1, rfl⟩ := h
    have e' : (S[n]?).map Ob.data = some u := e
    cases hs : S[n]? with
    | none => rw [hs] at e'; cases e'
    | some ob =>
      rw [hs] at e'
      cases e'
      obtain ⟨q, _⟩ := r.cell n ob a hs h1
      cases ob with
      | lst xs => obtain ⟨_, vs, q1, q2⟩ := q; exact ⟨a, vs, rfl, q1, q2⟩
      | dct xs => obtain ⟨_, vs, q1, q2⟩ := q; exact ⟨a, vs, rfl, .inl q1, q2⟩
      | ins c fs => obtain ⟨h0, dx, vs, q1, q2⟩ := q; exact ⟨h0.2, a, dx, vs, rfl, q1, q2⟩
      | frz y => exact Rep.view q.1
  | x c p => cases e
theorem dget_rd {H : Hp} {a b : Addr} {kvs : List (List Key × V)} {k : List Key} (e : Rd H a (.dT kvs)) (eb : H b = some (.tup (k.map kV))) : DGet H a (.ref b) (valV kvs k) := .inr ⟨kvs, k, b, e, rfl, eb, rfl⟩
theorem reps_length : ∀ {xs : List D} {vs : List V}, Reps G K g H xs vs → xs.length = vs.length
  | [], _, h => by unfold Reps at h; subst h; rfl
  | x :: xs, _, h => by
    unfold Reps at h
    obtain ⟨v, r, rfl, _, h⟩ := h
    rw [List.length_cons, List.length_cons, reps_length h]
theorem reps_append : ∀ {xs ys : List D} {vs ws : List V}, Reps G K g H xs vs → Reps G K g H ys ws → Reps G K g H (xs ++ ys) (vs ++ ws)
  | [], _, _, _, h, q => by unfold Reps at h; subst h; exact q
  | x :: xs, _, _, _, h, q => by
    unfold Reps at h
    obtain ⟨v, r, rfl, h1, h⟩ := h
    show Reps _ _ _ _ (x :: (xs ++ _)) _
    unfold Reps
    exact ⟨v, _, rfl, h1, reps_append h q⟩
theorem reps_get : ∀ {xs : List D} {vs : List V} {i : Nat} {x : D}, Reps G K g H xs vs → xs[i]? = some x → ∃ v, vs[i]? = some v ∧ Rep G K g H x v
  | [], _, _, _, _, e => by simp at e
  | y :: xs, _, 0, x, h, e => by
    unfold Reps at h
    obtain ⟨v, r, rfl, h1, h⟩ := h
    have e : y = x := by simpa using e
    subst e
    exact ⟨v, rfl, h1⟩
  | y :: xs, _, i + 1, x, h, e => by
    unfold Reps at h
    obtain ⟨v, r, rfl, h1, h⟩ := h
    obtain ⟨w, q1, q2⟩ := reps_get (i := i) (x := x) h (by simpa using e)
    exact ⟨w, by simpa using q1, q2⟩
theorem reps_take : ∀ {xs : List D} {vs : List V} (n : Nat), Reps G K g H xs vs → Reps G K g H (xs.take n) (vs.take n)
  | _, _, 0, _ => by simp [Reps]
  | [], _, n + 1, h => by unfold Reps at h; subst h; simp [Reps]
  | y :: xs, _, n + 1, h => by
    unfold Reps at h
    obtain ⟨v, r, rfl, h1, h⟩ := h
    show Reps _ _ _ _ (y :: xs.take n) (v :: r.take n)
    unfold Reps
    exact ⟨v, _, rfl, h1, reps_take n h⟩
theorem reps_drop : ∀ {xs : List D} {vs : List V} (n : Nat), Reps G K g H xs vs → Reps G K g H (xs.drop n) (vs.drop n)
  | _, _, 0, h => h
  | [], _, n + 1, h => by unfold Reps at h; subst h; simp [Reps]
  | y :: xs, _, n + 1, h => by
    unfold Reps at h
    obtain ⟨v, r, rfl, h1, h⟩ := h
    exact reps_drop n h
theorem reps_reverse {xs : List D} {vs : List V} (h : Reps G K g H xs vs) : Reps G K g H xs.reverse vs.reverse := by
  induction xs generalizing vs with
  | nil => unfold Reps at h; subst h; simp [Reps]
  | cons x xs ih =>
    unfold Reps at h
    obtain ⟨v, r, rfl, h1, h⟩ := h
    rw [List.reverse_cons, List.reverse_cons]
    exact reps_append (ih h) (by unfold Reps; exact ⟨v, [], rfl, h1, by unfold Reps; rfl⟩)
theorem reps_set : ∀ {xs : List D} {vs : List V} (i : Nat) {x : D} {v : V}, Reps G K g H xs vs → Rep G K g H x v → Reps G K g H (xs.set i x) (vs.set i v)
  | [], _, _, _, _, h, _ => by unfold Reps at h; subst h; simp [Reps]
  | y :: xs, _, 0, x, v, h, q => by
    unfold Reps at h
    obtain ⟨w, r, rfl, h1, h⟩ := h
    show Reps _ _ _ _ (x :: xs) (v :: r)
    unfold Reps
    exact ⟨v, r, rfl, q, h⟩
  | y :: xs, _, i + 1, x, v, h, q => by
    unfold Reps at h
    obtain ⟨w, r, rfl, h1, h⟩ := h
    show Reps _ _ _ _ (y :: xs.set i x) (w :: r.set i v)
    unfold Reps
    exact ⟨w, _, rfl, h1, reps_set i h q⟩
theorem reps_rep {xs : List D} {vs : List V} (h : Reps G K g H xs vs) : ∀ k : Nat, Reps G K g H (List.replicate k xs).flatten (List.replicate k vs).flatten
  | 0 => by simp [Reps]
  | k + 1 => by
    rw [List.replicate_succ, List.replicate_succ, List.flatten_cons, List.flatten_cons]
    exact reps_append h (reps_rep h k)
/-- of plain data -/
theorem rep_tup {xs : List D} {v : V} (h : View G K g H (.tup xs) v) : ∃ a vs, v = .ref a ∧ SqT K H a vs ∧ Reps G K g H xs vs := by
  have h : Rep G K g H (.tup xs) v := h
  unfold Rep at h
  obtain ⟨a, vs, h1, h2, h3⟩ := h
  exact ⟨a, vs, h1, .inl h2.rd, h3⟩
theorem rep_int {i : Int} {v : V} (h : View G K g H (.int i) v) : v = .int i := by
  have h : Rep G K g H (.int i) v := h
  unfold Rep at h
  exact h
theorem rep_str {i : Str} {v : V} (h : View G K g H (.str i) v) : v = .str i := by
  have h : Rep G K g H (.str i) v := h
  unfold Rep at h
  exact h
theorem rep_bl {i : Bool} {v : V} (h : View G K g H (.bl i) v) : v = .bl i := by
  have h : Rep G K g H (.bl i) v := h
  unfold Rep at h
  exact h
theorem rep_non {v : V} (h : View G K g H .non v) : v = .non := by
  have h : Rep G K g H .non v := h
  unfold Rep at h
  exact h
/-- as data of the library -/
theorem Reps.cons_iff {x : D} {xs : List D} {v : V} {vs : List V} : Reps G K g H (x :: xs) (v :: vs) ↔ Rep G K g H x v ∧ Reps G K g H xs vs := by
  constructor
  · intro h
    unfold Reps at h
    obtain ⟨w, r, e, h1, h2⟩ := h
    cases e
    exact ⟨h1, h2⟩
  · intro h
    unfold Reps
    exact ⟨v, vs, rfl, h.1, h.2⟩
mutual
theorem dp_of : ∀ (x : D) (v : V) (p : PyData), View G K g H x v → toPy x = some p → Dp K H v p
  | .non, _, _, h, e => by cases e; cases rep_non h; exact .non
  | .bl b, _, _, h, e => by cases e; cases rep_bl h; exact .bl b
  | .int i, _, _, h, e => by cases e; cases rep_int h; exact .int i
  | .str i, _, _, h, e => by cases e; cases rep_str h; exact .str i
  | .tup xs, _, _, h, e => by
    obtain ⟨a, vs, rfl, h1, h2⟩ := rep_tup h
    unfold toPy at e
    cases q : toPys xs with
    | none => rw [q] at e; cases e
    | some ps => rw [q] at e; cases e; exact .tup h1 (dps_of xs vs ps h2 q)
  | .lst xs, _, _, h, e => by
    obtain ⟨a, vs, rfl, h1, h2⟩ := h
    unfold toPy at e
    cases q : toPys xs with
    | none => rw [q] at e; cases e
    | some ps => rw [q] at e; cases e; exact .lst (.of h1) (dps_of xs vs ps h2 q)
  | .dct _, _, _, _, e => by cases e
  | .obj _ _, _, _, _, e => by cases e
  | .scr _, _, _, _, e => by cases e
  | .fn _, _, _, _, e => by cases e
theorem dps_of : ∀ (xs : List D) (vs : List V) (ps : List PyData), Reps G K g H xs vs → toPys xs = some ps → DpAll K H vs ps
  | [], _, _, h, e => by unfold Reps at h; subst h; cases e; exact .nil
  | x :: xs, _, _, h, e => by
    unfold Reps at h
    obtain ⟨v, r, rfl, h1, h2⟩ := h
    unfold toPys at e
    cases q1 : toPy x with
    | none => rw [q1] at e; cases e
    | some p =>
      cases q2 : toPys xs with
      | none => rw [q1, q2] at e; cases e
      | some ps =>
        rw [q1, q2] at e
        cases e
        exact .cons (dp_of x v p h1.view q1) (dps_of xs r ps h2 q2)
end
end

/-! ### names and constants -/
section
variable {X : Cx} {c : Ct} {pos : Pos}
theorem TQ.end_ {f : Env → Store → R Vl} {σ : L2.St} {H : Hp} {Q : VK} (h : TQ c (relL c) f σ H Q) : ∃ g al ρ S, Fit c g ∧ Rl c.G c.K g H al S ∧ Er c.G c.K g H al ρ σ ∧ Out c (relL c) σ g H al (f ρ S) Q := h
theorem se_int {i : Int} {j : Nat} : SE X c (.Constant (.int i) j pos) (fun _ S => .ok (.d (.int i)) S) := pe_int.imp fun σ H Q h => by
  obtain ⟨g, al, ρ, S, xa, rl, er, o⟩ := h
  exact o.int rl
theorem se_str {i : Str} {j : Nat} : SE X c (.Constant (.str i) j pos) (fun _ S => .ok (.d (.str i)) S) := pe_str.imp fun σ H Q h => by
  obtain ⟨g, al, ρ, S, xa, rl, er, o⟩ := h
  exact o.str rl
theorem se_bl {i : Bool} {j : Nat} : SE X c (.Constant (.bool i) j pos) (fun _ S => .ok (.d (.bl i)) S) := pe_bl.imp fun σ H Q h => by
  obtain ⟨g, al, ρ, S, xa, rl, er, o⟩ := h
  exact o.bl rl
theorem se_non {j : Nat} : SE X c (.Constant .none j pos) (fun _ S => .ok (.d .non) S) := pe_non.imp fun σ H Q h => by
  obtain ⟨g, al, ρ, S, xa, rl, er, o⟩ := h
  exact o.non rl
theorem se_var {i : Nat} {x : Str} {cf : CF} (hN : X.N[i]? = some x) (hv : Vis X.env.scope x) (hd : (x == ("__debug__" : Str)) = false) (hcd : (x == ("__classdict__" : Str)) = false) : SE X c (.Name x pos) (evE cf (.var i)) := (pe_var hN hv hd hcd).imp fun σ H Q h => by
  obtain ⟨g, al, ρ, S, xa, rl, er, o⟩ := h
  cases e : ρ[i]? with
  | none => simp only [evE, e] at o; exact o.elim
  | some z =>
    cases z with
    | none => simp only [evE, e] at o; exact o.elim
    | some v =>
      simp only [evE, e] at o
      obtain ⟨w, h1, h2⟩ := er.at_ i v e
      exact ⟨w, h1, o.here rl h2⟩
/-- a module's constant, a def as a value -/
theorem se_glob {x : Str} {v : V} {u : Value} {y : D} (hg : Gl X x) (hm : X.mg x = some u) (r : RelV v u) (hr : ∀ g H, Rep c.G c.K g H y v) (hd : (x == ("__debug__" : Str)) = false) : SE X c (.Name x pos) (fun _ S => .ok (.d y) S) := (pe_glob hg hm r hd).imp fun σ H Q h => by
  obtain ⟨g, al, ρ, S, xa, rl, er, o⟩ := h
  exact o.data rl (hr g H)
end
end SW

-- SwCa
set_option Elab.async false
set_option linter.all false
set_option maxRecDepth 100000
set_option maxHeartbeats 4000000
set_option autoImplicit false
/-! SwCa: new tuples, laid plain or known (frz) -/
namespace SW
open PySem PySem.Spec PyProof.Rows L2
/-- what is wanted of a new tuple: laid plain, or known with no dict of its own -/
def TupQ (ys : List V) (Q : VK) (H : Hp) : Prop := (∀ l, H l = none → Q (.ref l) (upd H l (.tup ys))) ∨ (∀ l o, H l = none → o.dict = none → Q (.ref l) (upd H l (.frz o (.tup ys))))
section
variable {X : Cx}
theorem tq_laid {pins : List (Addr × Obj)} {s1 : Shared} {σ : L2.St} {H : Hp} {ys : List V} {its : List Value} {Q : VK} {t' : Nat} (I1 : Inv X pins σ H s1) (q : TupQ ys Q H) (hz : ys.length ≤ sizeLine) (r : Vals ys its) :
    EP X pins σ Q (.ref s1.heap.objs.size) { s1 with heap := s1.heap.push { cls := .type "tuple", data := .seq its.toArray }, toks := t' } := by
  rcases q with q | q
  · exact ⟨.ref _, _, I1.laid (t' := t') (fun b o e => Heap.get?_push_of_some _ e) (Nat.le_refl _) (show ObjOk X.prog X.w _ _ _ (.tup ys) from ⟨hz, its, r, IsTup.new _ _⟩), rfl, q _ (I1.hok.fresh (Nat.le_refl _))⟩
  · exact ⟨.ref _, _, I1.laid (t' := t') (fun b o e => Heap.get?_push_of_some _ e) (Nat.le_refl _) (show ObjOk X.prog X.w _ _ _ (.frz { cls := .type "tuple", data := .seq its.toArray } (.tup ys)) from ⟨Heap.get?_push_size _ rfl, hz, its, r, IsTup.new _ _⟩), rfl, q _ _ (I1.hok.fresh (Nat.le_refl _)) rfl⟩
theorem call_tuple_ofQ : CallR X (.type "tuple") (fun xs H Q => ∃ p ys, xs = [.ref p] ∧ ((SqL X.K H p ys ∧ TupQ ys Q H) ∨ (SqT X.K H p ys ∧ Q (.ref p) H))) := by
  intro pins s σ H xs us Q I r h
  obtain ⟨p, ys, rfl, h⟩ := h
  obtain ⟨u, rfl, rx⟩ := vals1 r
  cases rx
  rcases h with ⟨hq, q⟩ | ⟨hq, q⟩
  · obtain ⟨its, r', pl, hz⟩ := I.list hq
    have hlen := r'.length
    refine call_tuple_list pl.isList (fun h' kp => ?_) (by simp only [List.size_toArray] <;> omega)
    exact tq_laid (t' := s.toks) (I.kept (t' := s.toks) kp) q hz r'
  · obtain ⟨its, r', pl, hz⟩ := I.tuple hq
    exact call_tuple_same pl ⟨.ref p, H, I, rfl, q⟩
theorem pe_tupQ {es : List Expr} {t : TA} {x1 : Nat} {pos : Pos} (h : PA X es t) : PE X (.Tuple es x1 pos) (fun σ H Q => t σ H fun xs H1 => xs.length ≤ sizeLine ∧ TupQ xs Q H1) := by
  refine ⟨fun pins s σ H Q I hq => ?_⟩
  refine wpAny_Tuple_spliced (thn (h.run pos pins s σ H _ I hq) fun us s1 ⟨xs, H1, I1, r, z, q⟩ => ⟨by rw [← r.length]; exact z, ?_⟩)
  exact tq_laid (t' := s1.toks) I1 q z r
def rCatQ (K : PySem.W.Frag) : R2 := fun x y H Q => ∃ a b xs ys, x = .ref a ∧ y = .ref b ∧ SqT K H a xs ∧ SqT K H b ys ∧ xs.length + ys.length ≤ sizeLine ∧
  (xs = [] → Q (.ref b) H) ∧ (xs ≠ [] → ys = [] → Q (.ref a) H) ∧ (xs ≠ [] → ys ≠ [] → TupQ (xs ++ ys) Q H)
theorem op_catQ : OpR X (binaryOp .Add) (rCatQ X.K) := by
  intro pins s σ H x y v u Q I rx ry h
  obtain ⟨a, b, xs, ys, rfl, rfl, ha, hb, hz, q0, q1, q2⟩ := h
  cases rx
  cases ry
  obtain ⟨its, r1, p1, _⟩ := I.tuple ha
  obtain ⟨its2, r2, p2, _⟩ := I.tuple hb
  by_cases hx : xs = []
  · subst hx
    cases r1
    exact cat_tup0 p1 p2 ⟨.ref b, H, I, rfl, q0 rfl⟩
  · refine HT.cat_tup p1 p2 (fun z => hx (r1.nil_iff.mp z)) (fun z => ⟨.ref a, H, I, rfl, q1 hx (r2.nil_iff.mp z)⟩) (fun z => ?_) (by rw [← r1.length, ← r2.length]; exact hz)
    exact tq_laid (t' := s.toks) I (q2 hx fun w => z (r2.nil_iff.mpr w)) (by rw [List.length_append]; exact hz) (r1.append r2)
def rSlQ (K : PySem.W.Frag) : V → Option Int → Option Int → Hp → VK → Prop := fun x lo hi H Q => ∃ a xs, x = .ref a ∧ SqT K H a xs ∧
  (HT.sIx xs.length 0 lo = 0 ∧ HT.sIx xs.length xs.length hi = xs.length → Q (.ref a) H) ∧ (¬ (HT.sIx xs.length 0 lo = 0 ∧ HT.sIx xs.length xs.length hi = xs.length) → TupQ (cutV xs lo hi) Q H)
theorem sl_tupQ : SlR X (rSlQ X.K) := by
  intro pins s σ H x v vl vu lo hi sl Q I rx hs pl pu h
  obtain ⟨a, xs, rfl, hx, q1, q2⟩ := h
  cases rx
  obtain ⟨its, r, ht, hz⟩ := I.tuple hx
  have hlen : its.toArray.size = xs.length := by rw [List.size_toArray]; exact r.length.symm
  refine ⟨"tuple", _, PyProof.Rows.slot_tuple_getitem.lookup, ht.typeIs, ?_⟩
  by_cases hw : HT.sIx xs.length 0 lo = 0 ∧ HT.sIx xs.length xs.length hi = xs.length
  · exact getItem_tuple_whole ht hs pl pu (by rw [hlen]; exact hw) ⟨.ref a, H, I, rfl, q1 hw⟩
  · refine HT.getItem_tuple_cut ht hs pl pu (by rw [hlen]; exact hw) ?_ (by rw [hlen]; exact hz)
    rw [hlen]
    exact tq_laid (t' := s.toks) I (q2 hw) (Nat.le_trans (cutV_length xs lo hi) hz) ((r.drop (HT.sIx xs.length 0 lo)).take (HT.sIx xs.length xs.length hi - HT.sIx xs.length 0 lo))
end
end SW

-- SwCx
set_option Elab.async false
set_option linter.all false
set_option maxRecDepth 100000
set_option maxHeartbeats 8000000
set_option autoImplicit false
/-! SwCx: isinstance of a caught error that has a dict of its own -/
namespace SW
open PySem PySem.Spec PySem.Calls PyProof.Rows PySem.W
section
variable {prog : Program} {w : World} {A : Around} {E : Value → Shared → Prop} {s : Shared} {K : Frag} {x D : Addr} {ox : Obj} {od : Option Obj}
theorem find_data {C : Addr} {name : Str} {a g : Value} (hc : (clsIn K C).isSome = true) (ha : findIn K (.ref C) name = some (some a)) (hg : specialIn K a "__get__" = some (some g)) (ht : takesIn K a = some true) : findObj K C od name = some (.bind g a) := by
  obtain ⟨cd, hc⟩ := Option.isSome_iff_exists.mp hc
  unfold findObj
  rw [hc, Option.bind_some, ha, Option.bind_some]
  simp [hg, ht]
theorem kin_class2 {Q : Option Value → Shared → Prop} (hga : findIn K (.ref D) "__getattribute__" = some (some (.builtin "BaseException.__getattribute__"))) (hgt : findIn K (.ref D) "__getattr__" = some none) (hsub : subIn K (.ref D) (.type "BaseException") = some true)
    (hdct : hasDictIn K D = true) (ha : findIn K (.ref D) "__class__" = some (some (.builtin "object.__class__")))
    (hn : specialIn K (.builtin "object.__class__") "__get__" = some (some (.builtin "getset_descriptor.__get__"))) (htk : takesIn K (.builtin "object.__class__") = some true) (hm : mroIn K D (.type "object") = some true)
    (X : K.In s.heap) (I : InstAt s.heap x ox D od) (h : Q (some (.ref D)) { s with toks := s.toks + 1 }) : wpAny (model prog w) A (getAttr? (.ref x) "__class__") Q E s := by
  have hf : findObj K D od "__class__" = some (.bind (.builtin "getset_descriptor.__get__") (.builtin "object.__class__")) := find_data (by obtain ⟨cd, hc, _⟩ := any_some hdct; rw [hc]; rfl) ha hn htk
  obtain ⟨hp, g, d, t, os⟩ := s
  have L0 := I.type (M := model prog w)
  have L1 := looks_findIn (M := model prog w) X hga
  have L2 := looks_findIn (M := model prog w) X hgt
  have L3 := looks_find (M := model prog w) X I hf
  have sub : Looks (model prog w) hp (isInstance (.ref x) (.type "BaseException")) true := L0.andThen (looks_subIn X hsub)
  have hx0 : (false && onTheHeap (Value.builtin "BaseException.__getattribute__")) = false := rfl
  have hx2 : (Value.builtin "BaseException.__getattribute__" == Value.builtin "object.__getattribute__") = false := by decide +kernel
  have hx1 : (onTheHeap (Value.ref D) && Value.builtin "BaseException.__getattribute__" == Value.builtin "object.__getattribute__") = false := by rw [hx2]; rfl
  unfold getAttr? getAttrBy? getAttrBy
  refine wpAny_bind (wpAny_mkText (wpAny_bind (wpAny_attempt (wpAny_holding (wpAny_bind (L0.at (wpAny_bind (L1.at ?_))))))))
  show wpAny _ _ (if (onTheHeap (Value.ref D) && Value.builtin "BaseException.__getattribute__" == Value.builtin "object.__getattribute__") = true then _ else _) _ _ _
  rw [hx1, if_neg Bool.false_ne_true]
  unfold getAttrByItsOwn hookBefore
  refine wpAny_bind ?_
  rw [if_pos (show onTheHeap (Value.ref D) = true from rfl)]
  refine L2.at ?_
  refine wpAny_bind (wpAny_attempt (wpAny_holding ?_))
  unfold callGetattribute
  rw [hx0, if_neg Bool.false_ne_true]
  unfold boundAndCalled
  rw [PySem.F.excAttr_ValueError.ga.bind (.ref x)]
  refine wpAny_bind (wpAny_pure ?_)
  show wpAny _ _ (call (.builtin "BaseException.__getattribute__") [.ref x, .str "__class__" t]) _ _ _
  refine wpAny_call (codeAny_call_builtin PySem.F.excAttr_ValueError.ga.plain PySem.F.entry_bexc_ga ?_)
  refine @check_slot (model prog w) _ _ ⟨hp, g, d, t + 1, os⟩ "BaseException.__getattribute__" "BaseException" "__getattribute__" (.ref x) [.str "__class__" t] [] _ (by decide +kernel) (by decide +kernel) sub (PySem.F.args_bexc_ga (.ref x) (.str "__class__" t)) ?_
  unfold Builtin.«object.__getattribute__»
  refine wpAny_bind (wpAny_of_eq (a := ((Value.ref x : Value), [Value.str "__class__" t])) (by first | rfl | (simp only [slotArgs]; rfl)) ?_)
  refine wpAny_bind (wpAny_pure (wpAny_bind (L0.at (wpAny_bind (L3.at ?_)))))
  show wpAny _ _ (holding [Value.builtin "object.__class__"] (call (.builtin "getset_descriptor.__get__") [.builtin "object.__class__", .ref x, .ref D]) >>= ret) _ _ _
  refine wpAny_bind (wpAny_holding (wpAny_call (class_get (s := ⟨hp, g, d, t + 1, os⟩) (ox := ox) (od := od) X I hm ?_)))
  refine wpAny_pure ?_
  show wpAny _ _ (handedOut (.ref D)) _ _ _
  rw [handedOut_of (v := .ref D) rfl]
  first
    | exact wpAny_pure (wpAny_pure h)
    | exact wpAny_pure h
    | exact wpAny_pure (wpAny_bind (wpAny_pure (wpAny_pure h)))
theorem kitx_exc2 (hga : findIn K (.ref D) "__getattribute__" = some (some (.builtin "BaseException.__getattribute__"))) (hgt : findIn K (.ref D) "__getattr__" = some none) (hsub : subIn K (.ref D) (.type "BaseException") = some true) (hdct : hasDictIn K D = true) (ha : findIn K (.ref D) "__class__" = some (some (.builtin "object.__class__")))
    (hn : specialIn K (.builtin "object.__class__") "__get__" = some (some (.builtin "getset_descriptor.__get__"))) (htk : takesIn K (.builtin "object.__class__") = some true) (hm : mroIn K D (.type "object") = some true) :
    KitX K (.ref x) (.ref D) (fun h => InstAt h x ox D od) where
  ty := fun _ _ _ I => I.type
  it := fun _ _ X _ => by
    obtain ⟨cdD, hcD, _⟩ := any_some hdct
    unfold clsIn at hcD
    split at hcD
    · rename_i c' d' cd' sl' ho
      intro A' Q' E' s' k q
      unfold isType loadHead
      exact wpAny_bind (wpAny_loadPart (k _ _ (X _ _ ho)) (wpAny_pure q))
    · cases hcD
  ne := fun h tp dd its n sl X htp => by
    obtain ⟨cdD, hcD, _⟩ := any_some hdct
    refine Bool.eq_false_iff.mpr fun q => ?_
    have e : D = tp := Value.ref.inj (beq_iff_eq.mp q)
    subst e
    unfold clsIn at hcD
    split at hcD
    · rename_i c' d' cd' sl' ho
      have z := (X _ _ ho).symm.trans htp
      cases z
    · cases hcD
  ca := fun X I k => kin_class2 hga hgt hsub hdct ha hn htk hm X I k
end
open L2
/-- isinstance(e, c), e the caught exception, d its dict -/
def rIsE2 (K : PySem.W.Frag) (D a : Addr) (d : Option Addr) : List V → Hp → VK → Prop := fun xs H Q => ∃ (c : V) (cv : Value) (b : Bool), xs = [.ref a, c] ∧ (∀ u, RelV c u → u = cv) ∧ PySem.W.kitOne K (.ref D) cv = some b ∧ (∀ dd, d = some dd → ∃ fs, H dd = some (.xd fs)) ∧ Q (.bl b) H
theorem call_isE2 {X : Cx} {a D : Addr} {oe : Obj} {d : Option Addr} {pn : List (Addr × Obj)} (C : ExcC X.K D) (hz : Zc (.ref D) d oe) (hf : ∃ vs, oe.data = .fields vs) : CallR (X.suite a ((a, oe) :: pn)) (.builtin "isinstance") (rIsE2 X.K D a d) := by
  intro pins s σ H xs us Q I r h
  obtain ⟨c, cv, b, rfl, hcv, e, hd, q⟩ := h
  cases r with
  | cons rx rr =>
    cases rr with
    | cons rt rr =>
      cases rr
      cases rx
      have ec := hcv _ rt
      subst ec
      obtain ⟨hget, _⟩ := I.pin (a, oe) (List.mem_append.mpr (.inl List.mem_cons_self))
      obtain ⟨vs, hv⟩ := hf
      obtain ⟨od, J⟩ : ∃ od, PySem.W.InstAt s.heap a oe D od := by
        cases d with
        | none =>
          refine ⟨none, ?_⟩
          obtain ⟨oc, odd, oda, osl⟩ := oe
          obtain ⟨h1, h2⟩ := hz
          dsimp only at h1 h2 hv
          subst h1 h2 hv
          exact ⟨hget, rfl, rfl, trivial⟩
        | some dd =>
          obtain ⟨fs, hx⟩ := hd dd rfl
          have hx : ObjOk X.prog X.w H s.heap dd (.xd fs) := I.hok dd _ hx
          obtain ⟨mA, hns, hr⟩ := hx
          obtain ⟨od, ho, hl⟩ := lookIn_ns hns
          refine ⟨some od, hget, hz.1, by unfold PySem.W.notCls; rw [hv] <;> rfl, ?_⟩
          rw [hz.2]
          exact ho
      exact PySem.W.kia_one (kitx_exc2 C.hg C.hk C.hs C.hd C.ha C.hn C.ht C.hm) I.kIn J e (fun z => nomatch z) fun tk => ⟨.bl b, H, I.kept (t' := tk) fun _ _ z => z, rfl, q⟩
/-- e.f of the caught exception -/
theorem get_xf {X : Cx} {a C : Addr} {oe : Obj} {dd : Addr} {pn : List (Addr × Obj)} {n : Str} (T : ExcC X.K C) (hno : PySem.W.findIn X.K (.ref C) n = some none) (hz : Zc (.ref C) (some dd) oe) (hf : ∃ vs, oe.data = .fields vs)
    {pins : List (Addr × Obj)} {s1 : Shared} {σ : L2.St} {H1 : Hp} {fs : List (Str × V)} {v : V} {Q : VK} {E : Value → Shared → Prop} (I1 : Inv (X.suite a ((a, oe) :: pn)) pins σ H1 s1) (ea : H1 dd = some (.xd fs)) (l : fs.lookup n = some v) (q : Q v H1) :
    wpAny (model X.prog X.w) (X.suite a ((a, oe) :: pn)).A (getAttr (.ref a) n true) (EP (X.suite a ((a, oe) :: pn)) pins σ Q) E s1 := by
  obtain ⟨ha, _⟩ := I1.pin (a, oe) (List.mem_append_left _ List.mem_cons_self)
  obtain ⟨vs, hd⟩ := hf
  have hx : ObjOk X.prog X.w H1 s1.heap dd (.xd fs) := I1.hok dd _ ea
  obtain ⟨mA, hns, hr⟩ := hx
  obtain ⟨od, ho, hl⟩ := lookIn_ns hns
  obtain ⟨u, hu, ru⟩ := RelO.some_of (v := v) (o := mA n) (by rw [← l]; exact hr n)
  have J : PySem.W.InstAt s1.heap a oe C (some od) := ⟨ha, hz.1, by unfold PySem.W.notCls; rw [hd] <;> rfl, by rw [hz.2]; exact ho⟩
  exact HandSPX.exc_get I1.kIn J T.hg T.hk T.hs (PySem.W.findObj_own T.hd hno rfl (by rw [hl, hu])) (handed_of ru) ⟨v, H1, I1.tok _, ru, q⟩
end SW

-- SwD
set_option Elab.async false
set_option linter.all false
set_option maxRecDepth 100000
set_option maxHeartbeats 4000000
set_option autoImplicit false
/-! SwD: operators -/
namespace SW
open PySem PySem.Spec PyProof.Rows L2

def opP : Bop → Operator
  | .add => .Add
  | .sub => .Sub
  | .mul => .Mult
  | .fdiv => .FloorDiv
  | .mod => .Mod
  | .pow => .Pow
def copP : Cop → CmpOp
  | .eq => .Eq
  | .ne => .NotEq
  | .lt => .Lt
  | .le => .LtE
  | .gt => .Gt
  | .ge => .GtE
  | .inn => .In
  | .nin => .NotIn
theorem big_line : BIG ≤ sizeLine := by rw [sizeLine_eq]; decide
/-- what an operator of two places asks -/
def rBin (c : Ct) (a : D → D → Option An) : R2 := fun x y H Q => ∃ σ g al S u w, Fit c g ∧ Rl c.G c.K g H al S ∧ View c.G c.K g H u x ∧ View c.G c.K g H w y ∧ Out c (relL c) σ g H al (give S (a u w)) Q
theorem replicate_flat_len {α : Type} (xs : List α) : ∀ k : Nat, (List.replicate k xs).flatten.length = k * xs.length
  | 0 => by simp
  | k + 1 => by rw [List.replicate_succ, List.flatten_cons, List.length_append, replicate_flat_len xs k, Nat.succ_mul, Nat.add_comm]
section
variable {X : Cx} {c : Ct}
theorem op_bin (hK : X.K = c.K) (o : Bop) : OpR X (binaryOp (opP o)) (rBin c (binD o)) := by
  intro pins s σ H x y v u Q I rx ry h
  obtain ⟨σ', g, al, S, p, q, xa, rl, vx, vy, out⟩ := h
  cases o with
  | add =>
    cases p <;> cases q <;> try exact out.elim
    case int.int i j =>
      cases rep_int vx
      cases rep_int vy
      exact op_add pins s σ H _ _ v u Q I rx ry ⟨i, j, rfl, rfl, out.int rl⟩
    case str.str i j =>
      cases rep_str vx
      cases rep_str vy
      by_cases hl : i.length + j.length ≤ BIG
      · simp only [binD, if_pos hl] at out
        exact op_add_str pins s σ H _ _ v u Q I rx ry ⟨i, j, rfl, rfl, Nat.le_trans hl big_line, out.str rl⟩
      · simp only [binD, if_neg hl] at out
        exact out.elim
    case tup.tup xs ys =>
      have kx := vx
      have ky := vy
      obtain ⟨a, vs, rfl, h1, h2⟩ := rep_tup vx
      obtain ⟨b, ws, rfl, h3, h4⟩ := rep_tup vy
      by_cases hl : xs.length + ys.length ≤ BIG
      · simp only [binD, if_pos hl] at out
        refine op_catQ pins s σ H _ _ v u Q I rx ry ⟨a, b, vs, ws, rfl, rfl, hK ▸ h1, hK ▸ h3, by rw [← reps_length h2, ← reps_length h4]; exact Nat.le_trans hl big_line, fun e => ?_, fun e1 e2 => ?_, fun e1 e2 => ?_⟩
        · subst e
          have e : xs = [] := List.eq_nil_of_length_eq_zero (by rw [reps_length h2]; rfl)
          subst e
          exact out.data rl ky
        · subst e2
          have e : ys = [] := List.eq_nil_of_length_eq_zero (by rw [reps_length h4]; rfl)
          subst e
          rw [List.append_nil] at out
          exact out.data rl kx
        · exact out.tup rl (reps_append h2 h4)
      · simp only [binD, if_neg hl] at out
        exact out.elim
    case lst.lst xs ys =>
      obtain ⟨a, vs, rfl, h1, h2⟩ := vx
      obtain ⟨b, ws, rfl, h3, h4⟩ := vy
      by_cases hl : xs.length + ys.length ≤ BIG
      · simp only [binD, if_pos hl] at out
        exact op_cat pins s σ H _ _ v u Q I rx ry ⟨a, b, vs, ws, rfl, rfl, h1, h3, by rw [← reps_length h2, ← reps_length h4]; exact Nat.le_trans hl big_line, Out.lst out rl (reps_append h2 h4)⟩
      · simp only [binD, if_neg hl] at out
        exact out.elim
  | sub =>
    cases p <;> cases q <;> try exact out.elim
    case int.int i j =>
      cases rep_int vx
      cases rep_int vy
      exact op_sub pins s σ H _ _ v u Q I rx ry ⟨i, j, rfl, rfl, out.int rl⟩
  | mul =>
    cases p <;> cases q <;> try exact out.elim
    case int.int i j =>
      cases rep_int vx
      cases rep_int vy
      by_cases hl : (small i || small j) = true
      · simp only [binD, if_pos hl] at out
        refine op_mul pins s σ H _ _ v u Q I rx ry ⟨i, j, rfl, rfl, ?_, out.int rl⟩
        rcases (Bool.or_eq_true _ _).mp hl with q | q
        · exact .inl (of_decide_eq_true q)
        · exact .inr (of_decide_eq_true q)
      · simp only [binD, if_neg hl] at out
        exact out.elim
    case tup.int xs k =>
      obtain ⟨a, vs, rfl, h1, h2⟩ := rep_tup vx
      cases rep_int vy
      by_cases hl : xs ≠ [] ∧ 2 ≤ k ∧ k ≤ 1000 ∧ xs.length ≤ 1000 ∧ isP (List.replicate k.toNat xs).flatten = false
      · simp only [binD, if_pos hl] at out
        refine op_repT pins s σ H _ _ v u Q I rx ry ⟨a, k, vs, rfl, rfl, hK ▸ h1, fun e => hl.1 ?_, hl.2.1, hl.2.2.1, by rw [← reps_length h2]; exact hl.2.2.2.1, out.tupP hl.2.2.2.2 rl (reps_rep h2 _)⟩
        subst e
        exact List.eq_nil_of_length_eq_zero (by rw [reps_length h2]; rfl)
      · simp only [binD, if_neg hl] at out
        exact out.elim
    case str.int i k =>
      cases rep_str vx
      cases rep_int vy
      by_cases hl : 0 ≤ k ∧ k ≤ 1000 ∧ i.length ≤ 16
      · simp only [binD, if_pos hl] at out
        obtain ⟨t, rfl⟩ := rx
        obtain ⟨t', rfl⟩ := ry
        refine PySem.W.KXi.mul rfl hl.2.2 (by omega) (by omega) fun t' k' _ _ => ⟨.str _, H, I.tok k', ⟨t', rfl⟩, out.str rl⟩
      · simp only [binD, if_neg hl] at out
        exact out.elim
  | fdiv =>
    cases p <;> cases q <;> try exact out.elim
    case int.int i j =>
      cases rep_int vx
      cases rep_int vy
      by_cases hl : 0 < j ∧ j < 1073741824
      · simp only [binD, if_pos hl] at out
        exact op_fdiv pins s σ H _ _ v u Q I rx ry ⟨i, j, rfl, rfl, hl, out.int rl⟩
      · simp only [binD, if_neg hl] at out
        exact out.elim
  | mod =>
    cases p <;> cases q <;> try exact out.elim
    case int.int i j =>
      cases rep_int vx
      cases rep_int vy
      by_cases hl : 0 < j
      · simp only [binD, if_pos hl] at out
        exact op_mod pins s σ H _ _ v u Q I rx ry ⟨i, j, rfl, rfl, hl, out.int rl⟩
      · simp only [binD, if_neg hl] at out
        exact out.elim
  | pow =>
    cases p <;> cases q <;> try exact out.elim
    case int.int i j =>
      cases rep_int vx
      cases rep_int vy
      by_cases hl : 0 ≤ j ∧ j ≤ 1000 ∧ i.natAbs < 2 ^ 64
      · simp only [binD, if_pos hl] at out
        exact op_pow pins s σ H _ _ v u Q I rx ry ⟨i, j, rfl, rfl, ⟨hl.1, by omega, hl.2.2⟩, out.int rl⟩
      · simp only [binD, if_neg hl] at out
        exact out.elim

end
/-! ### dicts -/
theorem keyC_inj {a b : Cell} (h : keyC a = keyC b) : a = b := by
  unfold keyC at h
  injection h with h1 h2
  injection h2 with h3 _
  injection h1 with h1
  injection h3 with h3
  exact Prod.ext h1 h3
theorem keyC_iff (a b : Cell) : decide (keyC a = keyC b) = decide (a = b) := by
  by_cases h : a = b
  · subst h; simp
  · rw [decide_eq_false h, decide_eq_false (fun e => h (keyC_inj e))]
section
variable {G : Gd} {K : PySem.W.Frag} {g : Gh} {H : Hp}
theorem repK_length : ∀ {kvs : List (Cell × D)} {vs : List (List Key × V)}, RepK G K g H kvs vs → kvs.length = vs.length
  | [], _, h => by unfold RepK at h; subst h; rfl
  | (c, x) :: r, _, h => by
    unfold RepK at h
    obtain ⟨v, w, rfl, _, h⟩ := h
    rw [List.length_cons, List.length_cons, repK_length h]
theorem look_nil (c : Cell) : look [] c = none := rfl
theorem look_cons (c d : Cell) (x : D) (r : List (Cell × D)) : look ((d, x) :: r) c = if d = c then some x else look r c := by
  unfold look
  rw [List.find?_cons]
  by_cases h : d = c
  · simp [h]
  · simp [h]
theorem valV_cons (c d : Cell) (x : V) (r : List (List Key × V)) : valV ((keyC d, x) :: r) (keyC c) = if d = c then some x else valV r (keyC c) := by
  by_cases h : d = c
  · subst h
    rw [if_pos rfl]
    exact valV_pos rfl
  · rw [if_neg h]
    exact valV_neg fun e => h (keyC_inj e)
theorem repK_none : ∀ {kvs : List (Cell × D)} {vs : List (List Key × V)} {c : Cell}, RepK G K g H kvs vs → look kvs c = none → valV vs (keyC c) = none
  | [], _, _, h, _ => by unfold RepK at h; subst h; rfl
  | (d, x) :: r, _, c, h, e => by
    unfold RepK at h
    obtain ⟨v, w, rfl, _, h⟩ := h
    rw [look_cons] at e
    rw [valV_cons]
    by_cases q : d = c
    · rw [if_pos q] at e; cases e
    · rw [if_neg q] at e ⊢
      exact repK_none h e
theorem repK_some : ∀ {kvs : List (Cell × D)} {vs : List (List Key × V)} {c : Cell} {x : D}, RepK G K g H kvs vs → look kvs c = some x → ∃ v, valV vs (keyC c) = some v ∧ Rep G K g H x v
  | [], _, _, _, h, e => by cases e
  | (d, y) :: r, _, c, x, h, e => by
    unfold RepK at h
    obtain ⟨v, w, rfl, h1, h⟩ := h
    rw [look_cons] at e
    rw [valV_cons]
    by_cases q : d = c
    · rw [if_pos q] at e ⊢
      cases e
      exact ⟨v, rfl, h1⟩
    · rw [if_neg q] at e ⊢
      exact repK_some h e
theorem repK_isSome {kvs : List (Cell × D)} {vs : List (List Key × V)} {c : Cell} (h : RepK G K g H kvs vs) : (valV vs (keyC c)).isSome = (look kvs c).isSome := by
  cases e : look kvs c with
  | none => rw [repK_none h e]; rfl
  | some x =>
    obtain ⟨v, q, _⟩ := repK_some h e
    rw [q] <;> rfl
theorem any_look (kvs : List (Cell × D)) (c : Cell) : (kvs.any fun kv => decide (kv.1 = c)) = (look kvs c).isSome := by
  induction kvs with
  | nil => rfl
  | cons p r ih =>
    obtain ⟨d, x⟩ := p
    rw [List.any_cons, look_cons, ih]
    by_cases q : d = c
    · simp [q]
    · simp [q]
theorem repK_map : ∀ {kvs : List (Cell × D)} {vs : List (List Key × V)} {c : Cell} {x : D} {v : V}, RepK G K g H kvs vs → Rep G K g H x v →
    RepK G K g H (kvs.map fun kv => if kv.1 = c then (kv.1, x) else kv) (vs.map fun kv => if kv.1 = keyC c then (kv.1, v) else kv)
  | [], _, _, _, _, h, _ => by unfold RepK at h; subst h; simp [RepK]
  | (d, y) :: r, _, c, x, v, h, q => by
    unfold RepK at h
    obtain ⟨u, w, rfl, h1, h⟩ := h
    rw [List.map_cons, List.map_cons]
    have ih := repK_map (c := c) h q
    by_cases e : d = c
    · subst e
      simp only [if_true]
      unfold RepK
      exact ⟨v, _, rfl, q, ih⟩
    · have e2 : ¬ keyC d = keyC c := fun z => e (keyC_inj z)
      simp only [if_neg e, if_neg e2]
      unfold RepK
      exact ⟨u, _, rfl, h1, ih⟩
theorem repK_append : ∀ {kvs ks : List (Cell × D)} {vs ws : List (List Key × V)}, RepK G K g H kvs vs → RepK G K g H ks ws → RepK G K g H (kvs ++ ks) (vs ++ ws)
  | [], _, _, _, h, q => by unfold RepK at h; subst h; exact q
  | (d, y) :: r, _, _, _, h, q => by
    unfold RepK at h
    obtain ⟨u, w, rfl, h1, h⟩ := h
    show RepK _ _ _ _ ((d, y) :: (r ++ _)) _
    unfold RepK
    exact ⟨u, _, rfl, h1, repK_append h q⟩
theorem repK_put {kvs : List (Cell × D)} {vs : List (List Key × V)} {c : Cell} {x : D} {v : V} (h : RepK G K g H kvs vs) (q : Rep G K g H x v) : RepK G K g H (put kvs c x) (putK vs (keyC c) v) := by
  unfold put putK
  rw [any_look, valV_any, repK_isSome h]
  cases e : (look kvs c).isSome with
  | true =>
    rw [if_pos rfl, if_pos rfl]
    exact repK_map h q
  | false =>
    rw [if_neg Bool.false_ne_true, if_neg Bool.false_ne_true]
    refine repK_append h ?_
    unfold RepK
    exact ⟨v, [], rfl, q, by unfold RepK; rfl⟩
/-- a cell as a key -/
theorem cell_key {x : D} {v : V} {k : Cell} (h : Rep G K g H x v) (e : cellOf x = some k) : ∃ b, v = .ref b ∧ H b = some (.tup ((keyC k).map kV)) := by
  unfold cellOf at e
  split at e
  · cases e
    rename_i i j
    unfold Rep at h
    obtain ⟨b, vs, rfl, h1, h2⟩ := h
    unfold Reps at h2
    obtain ⟨v1, r1, rfl, q1, h2⟩ := h2
    unfold Reps at h2
    obtain ⟨v2, r2, rfl, q2, h2⟩ := h2
    unfold Reps at h2
    subst h2
    unfold Rep at q1 q2
    subst q1 q2
    exact ⟨b, rfl, h1⟩
  · cases e
theorem cell_eq {x : D} {k : Cell} (e : cellOf x = some k) : x = cellD k := by
  unfold cellOf at e
  split at e
  · cases e; rfl
  · cases e
theorem view_cell {x : D} {v : V} {k : Cell} (h : View G K g H x v) (e : cellOf x = some k) : Rep G K g H x v := by
  have z := cell_eq e
  subst z
  exact h
end

/-! ### comparisons -/
/-- what a comparison asks -/
def giveB (S : Store) : Option Bool → R Vl
  | some k => .ok (.d (.bl k)) S
  | none => .bad
def rCmp (c : Ct) (a : D → D → Option Bool) : R2 := fun x y H Q => ∃ σ g al S u w, Fit c g ∧ Rl c.G c.K g H al S ∧ View c.G c.K g H u x ∧ View c.G c.K g H w y ∧ Out c (relL c) σ g H al (giveB S (a u w)) Q
section
variable {X : Cx} {c : Ct}
theorem alike_cells (a b : Cell) : PySem.W.alike (.tuple [.int a.1, .int a.2]) (.tuple [.int b.1, .int b.2]) = true := by
  simp [PySem.W.alike, PySem.W.alikeAll]
theorem dp_cell {G : Gd} {K : PySem.W.Frag} {g : Gh} {H : Hp} {x : D} {v : V} {k : Cell} (h : View G K g H x v) (e : cellOf x = some k) : Dp K H v (.tuple [.int k.1, .int k.2]) := by
  have z := cell_eq e
  subst z
  exact dp_of _ _ _ h rfl
theorem depth_cell (k : Cell) : (PyData.tuple [.int k.1, .int k.2]).depth ≤ 2 := by
  simp [PyData.depth, PyData.depthAll]
theorem giveB_some {S : Store} {o : Option Bool} {σ : L2.St} {g : Gh} {H : Hp} {al : List Addr} {Q : VK} (h : Out c (relL c) σ g H al (giveB S o) Q) : ∃ k, o = some k ∧ Out c (relL c) σ g H al (.ok (.d (.bl k)) S) Q := by
  cases o with
  | none => exact h.elim
  | some k => exact ⟨k, rfl, h⟩
theorem eqD_ok {x y : D} {k : Bool} (e : eqD x y = some k) : ∃ a b, toPy x = some a ∧ toPy y = some b ∧ SeqAt.shaped a = true ∧ SeqAt.shaped b = true ∧ PyData.eqv a b = k := by
  unfold eqD at e
  split at e
  · rename_i a b h1 h2
    split at e
    · rename_i h3
      cases e
      rw [Bool.and_eq_true] at h3
      exact ⟨a, b, h1, h2, h3.1, h3.2, rfl⟩
    · cases e
  · cases e
theorem inD_ok {x : D} {ys : List D} {k : Bool} (e : inD x ys = some k) : ∃ a bs, toPy x = some a ∧ toPys ys = some bs ∧ SeqAt.shaped a = true ∧ SeqAt.shaped (.list bs) = true ∧ SeqAt.shaped (.tuple bs) = true ∧ (bs.any fun z => PyData.eqv z a) = k := by
  unfold inD at e
  split at e
  · rename_i a b h1 h2
    split at e
    · rename_i h3
      cases e
      rw [Bool.and_eq_true, Bool.and_eq_true] at h3
      exact ⟨a, b, h1, h2, h3.1.1, h3.1.2, h3.2, rfl⟩
    · cases e
  · cases e
theorem op_lt_cell (hK : X.K = c.K) (hu : X.A.units + 64 < cLine) {u w : D} {a b : Cell} {pins : List (Addr × Obj)} {s : Shared} {σ σ' : L2.St} {H : Hp} {x y : V} {v v' : Value} {Q : VK} {g : Gh} (I : Inv X pins σ H s) (rx : RelV x v) (ry : RelV y v')
    (vx : View c.G c.K g H u x) (vy : View c.G c.K g H w y) (e1 : cellOf u = some a) (e2 : cellOf w = some b) (q : Q (.bl (cellLt a b)) H) : wpAny (model X.prog X.w) X.A (compareOp .Lt v v') (EP X pins σ Q) X.xe s := by
  have d1 := dp_cell vx e1
  have d2 := dp_cell vy e2
  rw [← hK] at d1 d2
  obtain ⟨as, r1⟩ := Dp.reads I _ x v d1 rx
  obtain ⟨bs, r2⟩ := Dp.reads I _ y v' d2 ry
  refine PySem.W.lt_data r1 r2 (alike_cells a b) (by intro z; cases z) (by have := depth_cell a; omega) ⟨.bl _, H, I, rfl, ?_⟩
  rw [PySem.W.dataLt_ii]
  exact q
theorem op_ge_cell (hK : X.K = c.K) (hu : X.A.units + 64 < cLine) {u w : D} {a b : Cell} {pins : List (Addr × Obj)} {s : Shared} {σ σ' : L2.St} {H : Hp} {x y : V} {v v' : Value} {Q : VK} {g : Gh} (I : Inv X pins σ H s) (rx : RelV x v) (ry : RelV y v')
    (vx : View c.G c.K g H u x) (vy : View c.G c.K g H w y) (e1 : cellOf u = some a) (e2 : cellOf w = some b) (q : Q (.bl (!cellLt a b)) H) : wpAny (model X.prog X.w) X.A (compareOp .GtE v v') (EP X pins σ Q) X.xe s := by
  have d1 := dp_cell vx e1
  have d2 := dp_cell vy e2
  rw [← hK] at d1 d2
  obtain ⟨as, r1⟩ := Dp.reads I _ x v d1 rx
  obtain ⟨bs, r2⟩ := Dp.reads I _ y v' d2 ry
  refine PySem.W.ge_data r1 r2 (alike_cells a b) (by intro z; cases z) (by have := depth_cell a; omega) ⟨.bl _, H, I, rfl, ?_⟩
  rw [PySem.W.dataLt_ii]
  exact q
theorem op_inn (hK : X.K = c.K) (hu : X.A.units + 65 < cLine) : OpR X (compareOp .In) (rCmp c isInD) := by
  intro pins s σ H x y v v' Q I rx ry h
  obtain ⟨σ', g, al, S, u, w, xa, rl, vx, vy, out⟩ := h
  obtain ⟨k, e, out⟩ := giveB_some out
  cases w <;> simp only [isInD] at e <;> try (cases e)
  case str b =>
    cases rep_str vy
    cases u <;> simp only at e <;> try (cases e)
    case str a =>
      cases rep_str vx
      unfold hasSign at e
      split at e
      · rename_i cc hc
        cases e
        have ea : a = ⟨#[cc]⟩ := by
          obtain ⟨⟨l⟩⟩ := a
          simp only at hc
          rw [hc]
        subst ea
        exact op_in_sign pins s σ H _ _ v v' Q I rx ry ⟨cc, b, rfl, rfl, out.bl rl⟩
      · cases e
  case tup ys =>
    obtain ⟨a, bs, q1, q2, q3, q4, q5, q6⟩ := inD_ok e
    subst q6
    have d1 := dp_of _ _ _ vx q1
    have d2 : Dp c.K H y (.tuple bs) := dp_of (.tup ys) y (.tuple bs) vy (by unfold toPy; rw [q2]; rfl)
    rw [← hK] at d1 d2
    obtain ⟨as, r1⟩ := Dp.reads I _ x v d1 rx
    obtain ⟨cs, r2⟩ := Dp.reads I _ y v' d2 ry
    exact SeqAt.in_tuple_reads r2 r1 (SeqAt.canLay_of_shaped q4) (SeqAt.canLay_of_shaped q3) (room_in_shaped q3 hu) ⟨.bl _, H, I, rfl, out.bl rl⟩
  case lst ys =>
    obtain ⟨a, bs, q1, q2, q3, q4, q5, q6⟩ := inD_ok e
    subst q6
    have d1 := dp_of _ _ _ vx q1
    have d2 : Dp c.K H y (.list bs) := dp_of (.lst ys) y (.list bs) vy (by unfold toPy; rw [q2]; rfl)
    rw [← hK] at d1 d2
    exact op_inD hu pins s σ H x y v v' Q I rx ry ⟨a, bs, d1, d2, q3, q4, out.bl rl⟩
  case dct kvs =>
    split at e
    · rename_i kk hk
      cases e
      obtain ⟨a, vs, rfl, h1, h2⟩ := vy
      obtain ⟨b, rfl, h3⟩ := cell_key (view_cell vx hk) hk
      refine (show wpAny _ _ (compareOp .In v v') _ _ _ from ?_)
      cases (show v' = Value.ref a from ry)
      refine d_in (by omega) I (dget_rd h1 h3) rx fun s' I' => ⟨.bl _, H, I', rfl, ?_⟩
      rw [repK_isSome h2]
      exact out.bl rl
    · cases e
theorem op_nin (hK : X.K = c.K) (hu : X.A.units + 65 < cLine) : OpR X (compareOp .NotIn) (rCmp c fun x y => (isInD x y).map (!·)) := by
  intro pins s σ H x y v v' Q I rx ry h
  obtain ⟨σ', g, al, S, u, w, xa, rl, vx, vy, out⟩ := h
  obtain ⟨k', e', out⟩ := giveB_some out
  obtain ⟨k, e, rfl⟩ := Option.map_eq_some_iff.mp e'
  cases w <;> simp only [isInD] at e <;> try (cases e)
  case str b =>
    cases rep_str vy
    cases u <;> simp only at e <;> try (cases e)
    case str a =>
      cases rep_str vx
      unfold hasSign at e
      split at e
      · rename_i cc hc
        cases e
        have ea : a = ⟨#[cc]⟩ := by
          obtain ⟨⟨l⟩⟩ := a
          simp only at hc
          rw [hc]
        subst ea
        exact op_notIn_sign pins s σ H _ _ v v' Q I rx ry ⟨cc, b, rfl, rfl, out.bl rl⟩
      · cases e
  case tup ys =>
    obtain ⟨a, bs, q1, q2, q3, q4, q5, q6⟩ := inD_ok e
    subst q6
    have d1 := dp_of _ _ _ vx q1
    have d2 : Dp c.K H y (.tuple bs) := dp_of (.tup ys) y (.tuple bs) vy (by unfold toPy; rw [q2]; rfl)
    rw [← hK] at d1 d2
    obtain ⟨as, r1⟩ := Dp.reads I _ x v d1 rx
    obtain ⟨cs, r2⟩ := Dp.reads I _ y v' d2 ry
    exact SeqAt.notIn_tuple_reads r2 r1 (SeqAt.canLay_of_shaped q4) (SeqAt.canLay_of_shaped q3) (room_in_shaped q3 hu) ⟨.bl _, H, I, rfl, out.bl rl⟩
  case lst ys =>
    obtain ⟨a, bs, q1, q2, q3, q4, q5, q6⟩ := inD_ok e
    subst q6
    have d1 := dp_of _ _ _ vx q1
    have d2 : Dp c.K H y (.list bs) := dp_of (.lst ys) y (.list bs) vy (by unfold toPy; rw [q2]; rfl)
    rw [← hK] at d1 d2
    exact op_notInD hu pins s σ H x y v v' Q I rx ry ⟨a, bs, d1, d2, q3, q4, out.bl rl⟩
  case dct kvs =>
    split at e
    · rename_i kk hk
      cases e
      obtain ⟨a, vs, rfl, h1, h2⟩ := vy
      obtain ⟨b, rfl, h3⟩ := cell_key (view_cell vx hk) hk
      cases (show v' = Value.ref a from ry)
      refine d_notIn (by omega) I (dget_rd h1 h3) rx fun s' I' => ⟨.bl _, H, I', rfl, ?_⟩
      rw [repK_isSome h2]
      exact out.bl rl
    · cases e
theorem op_cmp (hK : X.K = c.K) (hu : X.A.units + 65 < cLine) (o : Cop) : OpR X (compareOp (copP o)) (rCmp c (cmpD o)) := by
  intro pins s σ H x y v v' Q I rx ry h
  cases o with
  | eq =>
    obtain ⟨σ', g, al, S, u, w, xa, rl, vx, vy, out⟩ := h
    obtain ⟨k, e, out⟩ := giveB_some out
    obtain ⟨a, b, q1, q2, q3, q4, rfl⟩ := eqD_ok e
    exact op_eqD (by omega) pins s σ H x y v v' Q I rx ry ⟨a, b, hK ▸ dp_of _ _ _ vx q1, hK ▸ dp_of _ _ _ vy q2, q3, q4, out.bl rl⟩
  | ne =>
    obtain ⟨σ', g, al, S, u, w, xa, rl, vx, vy, out⟩ := h
    obtain ⟨k', e', out⟩ := giveB_some out
    obtain ⟨k, e, rfl⟩ := Option.map_eq_some_iff.mp e'
    obtain ⟨a, b, q1, q2, q3, q4, rfl⟩ := eqD_ok e
    exact op_neD (by omega) pins s σ H x y v v' Q I rx ry ⟨a, b, hK ▸ dp_of _ _ _ vx q1, hK ▸ dp_of _ _ _ vy q2, q3, q4, out.bl rl⟩
  | inn => exact op_inn hK hu pins s σ H x y v v' Q I rx ry h
  | nin => exact op_nin hK hu pins s σ H x y v v' Q I rx ry h
  | lt =>
    obtain ⟨σ', g, al, S, u, w, xa, rl, vx, vy, out⟩ := h
    obtain ⟨k, e, out⟩ := giveB_some out
    have e : ltD u w = some k := e
    unfold ltD at e
    split at e
    · rename_i i j _
      cases e
      cases rep_int vx
      cases rep_int vy
      exact op_lt pins s σ H _ _ v v' Q I rx ry ⟨i, j, rfl, rfl, out.bl rl⟩
    · split at e
      · rename_i a b e1 e2
        cases e
        exact op_lt_cell (σ' := σ) (g := g) hK (by omega) I rx ry vx vy e1 e2 (out.bl rl)
      · cases e
  | ge =>
    obtain ⟨σ', g, al, S, u, w, xa, rl, vx, vy, out⟩ := h
    obtain ⟨k, e, out⟩ := giveB_some out
    have e : geD u w = some k := e
    unfold geD at e
    split at e
    · rename_i i j _
      cases e
      cases rep_int vx
      cases rep_int vy
      exact op_ge pins s σ H _ _ v v' Q I rx ry ⟨i, j, rfl, rfl, out.bl rl⟩
    · split at e
      · rename_i a b e1 e2
        cases e
        exact op_ge_cell (σ' := σ) (g := g) hK (by omega) I rx ry vx vy e1 e2 (out.bl rl)
      · cases e
  | le =>
    obtain ⟨σ', g, al, S, u, w, xa, rl, vx, vy, out⟩ := h
    obtain ⟨k, e, out⟩ := giveB_some out
    have e : leD u w = some k := e
    unfold leD at e
    split at e
    · rename_i i j _
      cases e
      cases rep_int vx
      cases rep_int vy
      exact op_le pins s σ H _ _ v v' Q I rx ry ⟨i, j, rfl, rfl, out.bl rl⟩
    · cases e
  | gt =>
    obtain ⟨σ', g, al, S, u, w, xa, rl, vx, vy, out⟩ := h
    obtain ⟨k, e, out⟩ := giveB_some out
    have e : gtD u w = some k := e
    unfold gtD at e
    split at e
    · rename_i i j _
      cases e
      cases rep_int vx
      cases rep_int vy
      exact op_gt pins s σ H _ _ v v' Q I rx ry ⟨i, j, rfl, rfl, out.bl rl⟩
    · cases e
end
end SW

-- SwE
set_option Elab.async false
set_option linter.all false
set_option maxRecDepth 100000
set_option maxHeartbeats 4000000
set_option autoImplicit false
/-! SwE: operators as expressions; tests -/
namespace SW
open PySem PySem.Spec PyProof.Rows L2
section
variable {G : Gd} {K : PySem.W.Frag} {g : Gh} {H : Hp} {al : List Addr}
theorem rl_int {i : Int} {x : V} (q : RepL G K g H al (.d (.int i)) x) : x = .int i := by
  have q : Rep G K g H (.int i) x := q
  unfold Rep at q
  exact q
theorem rl_bl {i : Bool} {x : V} (q : RepL G K g H al (.d (.bl i)) x) : x = .bl i := by
  have q : Rep G K g H (.bl i) x := q
  unfold Rep at q
  exact q
theorem rl_non {x : V} (q : RepL G K g H al (.d .non) x) : x = .non := by
  have q : Rep G K g H .non x := q
  unfold Rep at q
  exact q
end
section
variable {X : Cx} {c : Ct} {a b d : Expr} {fa fb fd : Env → Store → R Vl} {pos : Pos}
/-- one part, then k -/
theorem SE.step1 {e : Expr} {r : V → Hp → VK → Prop} {t : TE} {k : Vl → Store → R Vl} (hp : PE X e t) (i : ∀ σ H Q, TQ c (relL c) fa σ H (fun x H1 => r x H1 Q) → t σ H Q)
    (hr : ∀ σ g H al v S x Q, Fit c g → Rl c.G c.K g H al S → RepL c.G c.K g H al v x → Out c (relL c) σ g H al (k v S) Q → r x H Q) : SE X c e (fun ρ S => (fa ρ S).bind k) := hp.imp fun σ H Q h => i σ H Q (by
  obtain ⟨g, al, ρ, S, xa, rl, er, out⟩ := h
  exact TQ.step (k := k) xa rl er out fun x H1 g1 al1 v S1 e1 p1 xa1 rl1 er1 q1 out1 => hr σ g1 H1 al1 v S1 x Q xa1 rl1 q1 out1)
/-- two parts, then k -/
theorem SE.step2 {e : Expr} {r : R2} {t : TE} {k : Vl → Vl → Store → R Vl} (hp : PE X e t) (i : ∀ σ H Q, TQ c (relL c) fa σ H (fun x H1 => TQ c (relL c) fb σ H1 fun y H2 => r x y H2 Q) → t σ H Q)
    (hr : ∀ σ g H al v w S x y Q, Fit c g → Rl c.G c.K g H al S → RepL c.G c.K g H al v x → RepL c.G c.K g H al w y → Out c (relL c) σ g H al (k v w S) Q → r x y H Q) :
    SE X c e (fun ρ S => (fa ρ S).bind fun x S1 => (fb ρ S1).bind (k x)) := hp.imp fun σ H Q h => i σ H Q (by
  obtain ⟨g, al, ρ, S, xa, rl, er, out⟩ := h
  refine TQ.step (k := fun x S1 => (fb ρ S1).bind (k x)) xa rl er out fun x H1 g1 al1 v S1 e1 p1 xa1 rl1 er1 q1 out1 => ?_
  exact TQ.step (k := k v) xa1 rl1 er1 out1 fun y H2 g2 al2 w S2 e2 p2 xa2 rl2 er2 q2 out2 => hr σ g2 H2 al2 v w S2 x y Q xa2 rl2 (q1.mono e2 p2) q2 out2)
theorem kBin_ok {o : Bop} {σ : L2.St} {g : Gh} {H : Hp} {al : List Addr} {v w : Vl} {S : Store} {x y : V} {Q : VK} (xa : Fit c g) (rl : Rl c.G c.K g H al S) (q1 : RepL c.G c.K g H al v x) (q2 : RepL c.G c.K g H al w y) (out : Out c (relL c) σ g H al (kBin o v w S) Q) :
    rBin c (binD o) x y H Q := by
  unfold kBin at out
  cases h1 : rd S v with
  | none => simp only [h1] at out; exact out.elim
  | some u =>
    cases h2 : rd S w with
    | none => simp only [h1, h2] at out; exact out.elim
    | some u2 =>
      simp only [h1, h2] at out
      exact ⟨σ, g, al, S, u, u2, xa, rl, view_of rl q1 h1, view_of rl q2 h2, out⟩
theorem se_bin (hK : X.K = c.K) (o : Bop) (ha : SE X c a fa) (hb : SE X c b fb) : SE X c (.BinOp a (opP o) b pos) (fun ρ S => (fa ρ S).bind fun x S1 => (fb ρ S1).bind (kBin o x)) :=
  SE.step2 (r := rBin c (binD o)) (pe_op (op_bin hK o) ha hb) (fun _ _ _ h => h) fun _ _ _ _ _ _ _ _ _ _ xa rl q1 q2 out => kBin_ok xa rl q1 q2 out
theorem kCmp_ok {o : Cop} {σ : L2.St} {g : Gh} {H : Hp} {al : List Addr} {v w : Vl} {S : Store} {x y : V} {Q : VK} (xa : Fit c g) (rl : Rl c.G c.K g H al S) (q1 : RepL c.G c.K g H al v x) (q2 : RepL c.G c.K g H al w y) (out : Out c (relL c) σ g H al (kCmp o v w S) Q) :
    rCmp c (cmpD o) x y H Q := by
  unfold kCmp at out
  cases h1 : rd S v with
  | none => simp only [h1] at out; exact out.elim
  | some u =>
    cases h2 : rd S w with
    | none => simp only [h1, h2] at out; exact out.elim
    | some u2 =>
      simp only [h1, h2] at out
      refine ⟨σ, g, al, S, u, u2, xa, rl, view_of rl q1 h1, view_of rl q2 h2, ?_⟩
      cases h3 : cmpD o u u2 with
      | none => rw [h3] at out; exact out.elim
      | some k => rw [h3] at out; exact out
theorem se_cmp (hK : X.K = c.K) (hu : X.A.units + 65 < cLine) (o : Cop) (ha : SE X c a fa) (hb : SE X c b fb) (hm : behindInMarks (copP o) b = false) : SE X c (.Compare a [copP o] [b] pos) (fun ρ S => (fa ρ S).bind fun x S1 => (fb ρ S1).bind (kCmp o x)) :=
  SE.step2 (r := rCmp c (cmpD o)) (pe_cmpR (op_cmp hK hu o) ha hb hm) (fun _ _ _ h => h) fun _ _ _ _ _ _ _ _ _ _ xa rl q1 q2 out => kCmp_ok xa rl q1 q2 out
theorem se_neg (ha : SE X c a fa) : SE X c (.UnaryOp .USub a pos) (fun ρ S => (fa ρ S).bind kNeg) :=
  SE.step1 (r := rU fun i => .int (-i)) (pe_un un_neg ha) (fun _ _ _ h => h) fun σ g H al v S x Q xa rl q out => by
    unfold kNeg at out
    split at out
    · rename_i i
      cases rl_int q
      exact ⟨i, rfl, out.int rl⟩
    · exact out.elim
def isNon (v : Vl) : Bool := match v with
  | .d .non => true
  | _ => false
theorem isNon_of {G : Gd} {K : PySem.W.Frag} {g : Gh} {H : Hp} {al : List Addr} {v : Vl} {x : V} (q : RepL G K g H al v x) : decide (x = .non) = isNon v := by
  cases v with
  | r n => obtain ⟨a, _, rfl⟩ := q; rfl
  | x c p => obtain ⟨a, d, rfl, _⟩ := q; rfl
  | d y =>
    have q : Rep G K g H y x := q
    cases y <;> unfold Rep at q
    case non => subst q; rfl
    case bl => subst q; rfl
    case int => subst q; rfl
    case str => subst q; rfl
    case fn => obtain ⟨rfl, _⟩ := q; rfl
    all_goals (obtain ⟨a, q⟩ := q)
    case tup => obtain ⟨_, rfl, _⟩ := q; rfl
    case lst => obtain ⟨_, rfl, _⟩ := q; rfl
    case dct => obtain ⟨_, rfl, _⟩ := q; rfl
    case obj => obtain ⟨_, _, _, rfl, _⟩ := q; rfl
    case scr => obtain ⟨rfl, _⟩ := q; rfl
theorem kIsN_eq (n : Bool) (v : Vl) (S : Store) : kIsN n v S = .ok (.d (.bl (if n then !isNon v else isNon v))) S := by
  unfold kIsN isNon
  split <;> cases n <;> first | rfl | (split <;> first | rfl | (rename_i h _ _; exact absurd rfl h) | simp_all)
def isOp (n : Bool) : CmpOp := if n then .IsNot else .Is
theorem se_isN {j : Nat} {pos' : Pos} (n : Bool) (ha : SE X c a fa) : SE X c (.Compare a [isOp n] [.Constant .none j pos'] pos) (fun ρ S => (fa ρ S).bind (kIsN n)) := by
  have hr : ∀ (σ : L2.St) g H al v S x (Q : VK), Fit c g → Rl c.G c.K g H al S → RepL c.G c.K g H al v x → Out c (relL c) σ g H al (kIsN n v S) Q → Q (.bl (if n then !decide (x = .non) else decide (x = .non))) H := fun σ g H al v S x Q xa rl q out => by
    rw [kIsN_eq] at out
    rw [isNon_of q]
    exact out.bl rl
  cases n with
  | true => exact SE.step1 (r := fun x H Q => Q (.bl (!decide (x = .non))) H) (pe_cmp (pc_notN ha) rfl) (fun _ _ _ h => h) fun σ g H al v S x Q xa rl q out => hr σ g H al v S x Q xa rl q out
  | false => exact SE.step1 (r := fun x H Q => Q (.bl (decide (x = .non))) H) (pe_cmp (pc_isN ha) rfl) (fun _ _ _ h => h) fun σ g H al v S x Q xa rl q out => hr σ g H al v S x Q xa rl q out

/-! ### tests -/
theorem truth_of {G : Gd} {K : PySem.W.Frag} {g : Gh} {H : Hp} {u : D} {x : V} {k : Bool} (h : View G K g H u x) (e : truth u = some k) : TruV K x H k := by
  cases u <;> simp only [truth] at e <;> cases e
  · cases rep_non h; rfl
  · cases rep_bl h; rfl
theorem kTru_ok {σ : L2.St} {g : Gh} {H : Hp} {al : List Addr} {v : Vl} {S : Store} {x : V} {Q : Bool → Hp → Prop} (rl : Rl c.G c.K g H al S) (q : RepL c.G c.K g H al v x) (out : Out c relB σ g H al (kTru v S) Q) : ∃ k, TruV c.K x H k ∧ Q k H := by
  unfold kTru at out
  cases h1 : (rd S v).bind truth with
  | none => simp only [h1] at out; exact out.elim
  | some k =>
    simp only [h1] at out
    obtain ⟨u, h2, h3⟩ := Option.bind_eq_some_iff.mp h1
    exact ⟨k, truth_of (view_of rl q h2) h3, out.here rl rfl⟩
theorem st_val (hK : X.K = c.K) (ha : SE X c a fa) (he : ∀ whole, isTrue a X.env whole = (do let v ← whole; standAt a.pos; holding [v] (truthy v))) : ST X c a (fun ρ S => (fa ρ S).bind kTru) := (pt_truth ha he).imp fun σ H Q h => by
  obtain ⟨g, al, ρ, S, xa, rl, er, out⟩ := h
  refine TQ.step (k := kTru) xa rl er out fun x H1 g1 al1 v S1 e1 p1 xa1 rl1 er1 q1 out1 => ?_
  rw [hK]
  exact kTru_ok rl1 q1 out1
/-- a value that is True or False -/
theorem kCmp_tru (o : Cop) (v w : Vl) (S : Store) : (kCmp o v w S).bind kTru = (kCmp o v w S).bind kBl := by
  unfold kCmp
  split
  · split <;> rfl
  · rfl
theorem kBl_ok {σ : L2.St} {g : Gh} {H : Hp} {al : List Addr} {v : Vl} {S : Store} {x : V} {Q : Bool → Hp → Prop} (rl : Rl c.G c.K g H al S) (q : RepL c.G c.K g H al v x) (out : Out c relB σ g H al (kBl v S) Q) : ∃ k, x = .bl k ∧ Q k H := by
  unfold kBl at out
  split at out
  · rename_i k
    cases rl_bl q
    exact ⟨k, rfl, out.here rl rfl⟩
  · exact out.elim
/-- from «a bool comes» -/
theorem TQ.toBl {f : Env → Store → R Vl} {σ : L2.St} {H : Hp} {Q : Bool → Hp → Prop} (h : TQ c relB (fun ρ S => (f ρ S).bind kBl) σ H Q) : TQ c (relL c) f σ H fun x H1 => ∃ k, x = .bl k ∧ Q k H1 := by
  obtain ⟨g, al, ρ, S, xa, rl, er, out⟩ := h
  exact TQ.step (k := kBl) xa rl er out fun x H1 g1 al1 v S1 e1 p1 xa1 rl1 er1 q1 out1 => kBl_ok rl1 q1 out1
/-- a comparison as a test -/
theorem st_cmp (hK : X.K = c.K) (hu : X.A.units + 65 < cLine) (o : Cop) (ha : SE X c a fa) (hb : SE X c b fb) (hm : behindInMarks (copP o) b = false) : ST X c (.Compare a [copP o] [b] pos) (fun ρ S => ((fa ρ S).bind fun x S1 => (fb ρ S1).bind (kCmp o x)).bind kTru) := (pt_cmpR (op_cmp hK hu o) ha hb hm).imp fun σ H Q h => by
  have h2 : TQ c relB (fun ρ S => ((fa ρ S).bind fun x S1 => (fb ρ S1).bind (kCmp o x)).bind kBl) σ H Q := by
    have e : (fun ρ S => ((fa ρ S).bind fun x S1 => (fb ρ S1).bind (kCmp o x)).bind kTru) = fun ρ S => ((fa ρ S).bind fun x S1 => (fb ρ S1).bind (kCmp o x)).bind kBl := by
      funext ρ S
      simp only [R.bind_assoc, kCmp_tru]
    rw [e] at h
    exact h
  have h3 := TQ.toBl h2
  obtain ⟨g, al, ρ, S, xa, rl, er, out⟩ := h3
  refine TQ.step (k := fun x S1 => (fb ρ S1).bind (kCmp o x)) xa rl er out fun x H1 g1 al1 v S1 e1 p1 xa1 rl1 er1 q1 out1 => ?_
  exact TQ.step (k := kCmp o v) xa1 rl1 er1 out1 fun y H2 g2 al2 w S2 e2 p2 xa2 rl2 er2 q2 out2 => kCmp_ok xa2 rl2 (q1.mono e2 p2) q2 out2
theorem kIsN_tru (n : Bool) (v : Vl) (S : Store) : (kIsN n v S).bind kTru = (kIsN n v S).bind kBl := by
  rw [kIsN_eq]; rfl
theorem st_isN {j : Nat} {pos' : Pos} (n : Bool) (ha : SE X c a fa) : ST X c (.Compare a [isOp n] [.Constant .none j pos'] pos) (fun ρ S => ((fa ρ S).bind (kIsN n)).bind kTru) := by
  have key : ∀ σ H Q, TQ c relB (fun ρ S => ((fa ρ S).bind (kIsN n)).bind kTru) σ H Q → TQ c (relL c) fa σ H fun x H1 => ∃ k, V.bl (if n then !decide (x = .non) else decide (x = .non)) = .bl k ∧ Q k H1 := fun σ H Q h => by
    obtain ⟨g, al, ρ, S, xa, rl, er, out⟩ := h
    simp only [R.bind_assoc] at out
    refine TQ.step (k := fun v S => (kIsN n v S).bind kTru) xa rl er out fun x H1 g1 al1 v S1 e1 p1 xa1 rl1 er1 q1 out1 => ?_
    rw [kIsN_eq] at out1
    rw [isNon_of q1]
    exact ⟨_, rfl, out1.here rl1 rfl⟩
  cases n with
  | true => exact (pt_cmp (pc_notN ha) rfl).imp fun σ H Q h => key σ H Q h
  | false => exact (pt_cmp (pc_isN ha) rfl).imp fun σ H Q h => key σ H Q h
/-- not, as a test -/
theorem st_not {f : Env → Store → R Bool} (ha : ST X c a f) : ST X c (.UnaryOp .Not a pos) (fun ρ S => (f ρ S).bind fun k S1 => .ok (!k) S1) := (pt_not ha).imp fun σ H Q h => by
  obtain ⟨g, al, ρ, S, xa, rl, er, out⟩ := h
  refine TQ.step (k := fun k S1 => .ok (!k) S1) xa rl er out fun x H1 g1 al1 v S1 e1 p1 xa1 rl1 er1 q1 out1 => ?_
  have q1 : v = x := q1
  subst q1
  exact out1.here rl1 rfl
/-- a test and another -/
theorem st_and {f h' : Env → Store → R Bool} {e2 : Expr} {rest : List Expr} {t2 : L2.TT} (ha : ST X c a f) (hb : PW X (.BoolOp .And (e2 :: rest) pos) (TQ c relB h')) : PW X (.BoolOp .And (a :: e2 :: rest) pos) (TQ c relB fun ρ S => (f ρ S).bind fun k S1 => if k then h' ρ S1 else .ok false S1) := by
  refine ⟨fun wh pins s σ H Q I h => (pw_and ha hb).run wh pins s σ H Q I ?_⟩
  obtain ⟨g, al, ρ, S, xa, rl, er, out⟩ := h
  refine TQ.step (k := fun k S1 => if k then h' ρ S1 else .ok false S1) xa rl er out fun x H1 g1 al1 v S1 e1 p1 xa1 rl1 er1 q1 out1 => ?_
  have q1 : v = x := q1
  subst q1
  cases v with
  | true =>
    rw [if_pos rfl]
    exact ⟨g1, al1, ρ, S1, xa1, rl1, er1, out1⟩
  | false =>
    rw [if_neg Bool.false_ne_true]
    exact out1.here rl1 rfl
theorem st_or {f h' : Env → Store → R Bool} {e2 : Expr} {rest : List Expr} (ha : ST X c a f) (hb : PW X (.BoolOp .Or (e2 :: rest) pos) (TQ c relB h')) : PW X (.BoolOp .Or (a :: e2 :: rest) pos) (TQ c relB fun ρ S => (f ρ S).bind fun k S1 => if k then .ok true S1 else h' ρ S1) := by
  refine ⟨fun wh pins s σ H Q I h => (pw_or ha hb).run wh pins s σ H Q I ?_⟩
  obtain ⟨g, al, ρ, S, xa, rl, er, out⟩ := h
  refine TQ.step (k := fun k S1 => if k then .ok true S1 else h' ρ S1) xa rl er out fun x H1 g1 al1 v S1 e1 p1 xa1 rl1 er1 q1 out1 => ?_
  have q1 : v = x := q1
  subst q1
  cases v with
  | true =>
    rw [if_pos rfl]
    exact out1.here rl1 rfl
  | false =>
    rw [if_neg Bool.false_ne_true]
    exact ⟨g1, al1, ρ, S1, xa1, rl1, er1, out1⟩
/-- and, or as values -/
theorem se_and {e2 : Expr} {rest : List Expr} {h' : Env → Store → R Vl} (ha : SE X c a fa) (hb : SE X c (.BoolOp .And (e2 :: rest) pos) h') : SE X c (.BoolOp .And (a :: e2 :: rest) pos) (fun ρ S => ((fa ρ S).bind kBl).bind fun k S1 => if k then h' ρ S1 else .ok (.d (.bl false)) S1) := (pe_and ha hb).imp fun σ H Q h => by
  obtain ⟨g, al, ρ, S, xa, rl, er, out⟩ := h
  simp only [R.bind_assoc] at out
  refine TQ.step (k := fun x S => (kBl x S).bind fun k S1 => if k then h' ρ S1 else .ok (.d (.bl false)) S1) xa rl er out fun x H1 g1 al1 v S1 e1 p1 xa1 rl1 er1 q1 out1 => ?_
  unfold kBl at out1
  split at out1
  · rename_i k
    cases rl_bl q1
    refine ⟨k, rfl, ?_⟩
    cases k with
    | true =>
      rw [if_pos rfl]
      exact ⟨g1, al1, ρ, S1, xa1, rl1, er1, out1⟩
    | false =>
      rw [if_neg Bool.false_ne_true]
      exact out1.bl rl1
  · exact out1.elim
theorem se_or {e2 : Expr} {rest : List Expr} {h' : Env → Store → R Vl} (ha : SE X c a fa) (hb : SE X c (.BoolOp .Or (e2 :: rest) pos) h') : SE X c (.BoolOp .Or (a :: e2 :: rest) pos) (fun ρ S => ((fa ρ S).bind kBl).bind fun k S1 => if k then .ok (.d (.bl true)) S1 else h' ρ S1) := (pe_or ha hb).imp fun σ H Q h => by
  obtain ⟨g, al, ρ, S, xa, rl, er, out⟩ := h
  simp only [R.bind_assoc] at out
  refine TQ.step (k := fun x S => (kBl x S).bind fun k S1 => if k then .ok (.d (.bl true)) S1 else h' ρ S1) xa rl er out fun x H1 g1 al1 v S1 e1 p1 xa1 rl1 er1 q1 out1 => ?_
  unfold kBl at out1
  split at out1
  · rename_i k
    cases rl_bl q1
    refine ⟨k, rfl, ?_⟩
    cases k with
    | true =>
      rw [if_pos rfl]
      exact out1.bl rl1
    | false =>
      rw [if_neg Bool.false_ne_true]
      exact ⟨g1, al1, ρ, S1, xa1, rl1, er1, out1⟩
  · exact out1.elim
/-- one if, as an expression -/
theorem se_ite {t : Expr} {f : Env → Store → R Bool} (ht : ST X c t f) (ha : SE X c a fa) (hb : SE X c b fb) : SE X c (.IfExp t a b pos) (fun ρ S => (f ρ S).bind fun k S1 => if k then fa ρ S1 else fb ρ S1) := (pe_ifExp ht ha hb).imp fun σ H Q h => by
  obtain ⟨g, al, ρ, S, xa, rl, er, out⟩ := h
  refine TQ.step (k := fun k S1 => if k then fa ρ S1 else fb ρ S1) xa rl er out fun x H1 g1 al1 v S1 e1 p1 xa1 rl1 er1 q1 out1 => ?_
  have q1 : v = x := q1
  subst q1
  cases v with
  | true =>
    rw [if_pos rfl]
    exact ⟨g1, al1, ρ, S1, xa1, rl1, er1, out1⟩
  | false =>
    rw [if_neg Bool.false_ne_true]
    exact ⟨g1, al1, ρ, S1, xa1, rl1, er1, out1⟩
end
end SW

-- SwF
set_option Elab.async false
set_option linter.all false
set_option maxRecDepth 100000
set_option maxHeartbeats 4000000
set_option autoImplicit false
/-! SwF: argument lists, displays, calls -/
namespace SW
open PySem PySem.Spec PyProof.Rows L2

section
variable (G : Gd) (K : PySem.W.Frag) (g : Gh) (H : Hp) (al : List Addr)
def RepVs : List Vl → List V → Prop
  | [], vs => vs = []
  | x :: xs, vs => ∃ v r, vs = v :: r ∧ RepL G K g H al x v ∧ RepVs xs r
end
section
variable {G : Gd} {K : PySem.W.Frag} {g g' : Gh} {H H' : Hp} {al al' : List Addr} {S S2 : Store}
theorem RepVs.mono (e : Ext g H g' H') (hp : al <+: al') : ∀ {xs : List Vl} {vs : List V}, RepVs G K g H al xs vs → RepVs G K g' H' al' xs vs
  | [], _, h => h
  | x :: xs, _, h => by
    obtain ⟨v, r, h1, h2, h3⟩ := h
    exact ⟨v, r, h1, h2.mono e hp, RepVs.mono e hp h3⟩
theorem RepVs.length : ∀ {xs : List Vl} {vs : List V}, RepVs G K g H al xs vs → xs.length = vs.length
  | [], _, h => by cases (show _ = [] from h); rfl
  | x :: xs, _, h => by
    obtain ⟨v, r, rfl, h2, h3⟩ := h
    rw [List.length_cons, List.length_cons, RepVs.length h3]
theorem RepVs.one {v : Vl} {x : V} (h : RepL G K g H al v x) : RepVs G K g H al [v] [x] := ⟨x, [], rfl, h, rfl⟩
/-- what is taken as data for good -/
theorem toD_ok (rl : Rl G K g H al S) {v : Vl} {x : V} {y : D} (q : RepL G K g H al v x) (e : toD S v = some (y, S2)) : ∃ g2, Ext g H g2 H ∧ Rl G K g2 H al S2 ∧ Rep G K g2 H y x := by
  cases v with
  | d z =>
    cases e
    exact ⟨g, .refl g H, rl, q⟩
  | r n =>
    obtain ⟨a, h1, rfl⟩ := q
    have e' : (match S[n]? with
      | some ob => some (ob.data, S.set n (.frz ob.data))
      | none => none) = some (y, S2) := e
    cases hs : S[n]? with
    | none => rw [hs] at e'; cases e'
    | some ob =>
      rw [hs] at e'
      cases e'
      exact ⟨g.lock a, .lock a, rl.lock hs h1, (rl.cell n ob a hs h1).1.lock⟩
  | x c p => cases e
end
abbrev relLs (c : Ct) : Rn (List Vl) (List V) := fun g H al v x => RepVs c.G c.K g H al v x
abbrev relDs (c : Ct) : Rn (List D) (List V) := fun g H al v x => Reps c.G c.K g H v x
abbrev relD (c : Ct) : Rn D V := fun g H al v x => Rep c.G c.K g H v x
abbrev SA (X : Cx) (c : Ct) (es : List Expr) (f : Env → Store → R (List Vl)) : Prop := PA X es (TQ c (relLs c) f)
abbrev SD (X : Cx) (c : Ct) (es : List Expr) (f : Env → Store → R (List D)) : Prop := PA X es (TQ c (relDs c) f)
def notStar : Expr → Bool
  | .Starred _ _ => false
  | _ => true
theorem star_each {e : Expr} {es : List Expr} {env : PySem.Env} (h : notStar e = true) : starEach (e :: es) env = (false, eval e env) :: starEach es env := by
  cases e <;> first | rfl | cases h
theorem star_none {pos : Pos} {env : PySem.Env} : ∀ {es : List Expr}, es.all notStar = true → (backTo pos (starEach es env)).any (·.1) = false
  | [], _ => rfl
  | e :: es, h => by
    rw [List.all_cons, Bool.and_eq_true] at h
    rw [star_each h.1]
    have ih := star_none (pos := pos) (env := env) h.2
    simpa [backTo] using ih
section
variable {X : Cx} {c : Ct} {a : Expr} {es : List Expr} {fa : Env → Store → R Vl} {pos p : Pos}
theorem sa_nil : SA X c [] (fun _ S => .ok [] S) := pa_nil.imp fun σ H Q h => by
  obtain ⟨g, al, ρ, S, xa, rl, er, out⟩ := h
  exact out.here rl rfl
theorem sa_cons {fr : Env → Store → R (List Vl)} (ha : SE X c a fa) (hr : SA X c es fr) (hs : notStar a = true) : SA X c (a :: es) (fun ρ S => (fa ρ S).bind fun x S1 => (fr ρ S1).bind fun xs S2 => .ok (x :: xs) S2) := (pa_cons ha hr (star_each hs)).imp fun σ H Q h => by
  obtain ⟨g, al, ρ, S, xa, rl, er, out⟩ := h
  refine TQ.step (k := fun x S1 => (fr ρ S1).bind fun xs S2 => .ok (x :: xs) S2) xa rl er out fun x H1 g1 al1 v S1 e1 p1 xa1 rl1 er1 q1 out1 => ?_
  exact TQ.step (k := fun xs S2 => .ok (v :: xs) S2) xa1 rl1 er1 out1 fun xs H2 g2 al2 vs S2 e2 p2 xa2 rl2 er2 q2 out2 => out2.here rl2 ⟨x, xs, rfl, q1.mono e2 p2, q2⟩
theorem kD_ok {β : Type} {rel' : Rn β (List V)} {σ : L2.St} {Q : List V → Hp → Prop} {g : Gh} {H : Hp} {al : List Addr} {v : Vl} {x : V} {S : Store} {k : D → Store → R β} (xa : Fit c g) (rl : Rl c.G c.K g H al S) (q : RepL c.G c.K g H al v x) (out : Out c rel' σ g H al ((kD v S).bind k) Q) :
    ∃ g2 y S2, Ext g H g2 H ∧ Fit c g2 ∧ Rl c.G c.K g2 H al S2 ∧ Rep c.G c.K g2 H y x ∧ Out c rel' σ g2 H al (k y S2) Q := by
  unfold kD at out
  cases e : toD S v with
  | none => rw [e] at out; exact out.elim
  | some w =>
    obtain ⟨y, S2⟩ := w
    rw [e] at out
    obtain ⟨g2, e2, rl2, q2⟩ := toD_ok rl q e
    exact ⟨g2, y, S2, e2, xa.ext e2, rl2, q2, out.rebase e2 (List.prefix_refl al)⟩
theorem kD_okV {α β : Type} {rel' : Rn α β} {σ : L2.St} {Q : β → Hp → Prop} {g : Gh} {H : Hp} {al : List Addr} {v : Vl} {x : V} {S : Store} {k : D → Store → R α} (xa : Fit c g) (rl : Rl c.G c.K g H al S) (q : RepL c.G c.K g H al v x) (out : Out c rel' σ g H al ((kD v S).bind k) Q) :
    ∃ g2 y S2, Ext g H g2 H ∧ Fit c g2 ∧ Rl c.G c.K g2 H al S2 ∧ Rep c.G c.K g2 H y x ∧ Out c rel' σ g2 H al (k y S2) Q := by
  unfold kD at out
  cases e : toD S v with
  | none => rw [e] at out; exact out.elim
  | some w =>
    obtain ⟨y, S2⟩ := w
    rw [e] at out
    obtain ⟨g2, e2, rl2, q2⟩ := toD_ok rl q e
    exact ⟨g2, y, S2, e2, xa.ext e2, rl2, q2, out.rebase e2 (List.prefix_refl al)⟩
theorem sd_nil : SD X c [] (fun _ S => .ok [] S) := pa_nil.imp fun σ H Q h => by
  obtain ⟨g, al, ρ, S, xa, rl, er, out⟩ := h
  exact out.here rl (by unfold Reps; rfl)
theorem sd_cons {fr : Env → Store → R (List D)} (ha : SE X c a fa) (hr : SD X c es fr) (hs : notStar a = true) : SD X c (a :: es) (fun ρ S => ((fa ρ S).bind kD).bind fun y S2 => (fr ρ S2).bind fun ys S3 => .ok (y :: ys) S3) := (pa_cons ha hr (star_each hs)).imp fun σ H Q h => by
  obtain ⟨g, al, ρ, S, xa, rl, er, out⟩ := h
  simp only [R.bind_assoc] at out
  refine TQ.step (k := fun x S1 => (kD x S1).bind fun y S2 => (fr ρ S2).bind fun ys S3 => .ok (y :: ys) S3) xa rl er out fun x H1 g1 al1 v S1 e1 p1 xa1 rl1 er1 q1 out1 => ?_
  obtain ⟨g2, y, S2, e2, xa2, rl2, q2, out2⟩ := kD_ok xa1 rl1 q1 out1
  exact TQ.step (k := fun xs S2 => .ok (y :: xs) S2) xa2 rl2 (er1.mono e2 (List.prefix_refl _)) out2 fun xs H3 g3 al3 ys S3 e3 p3 xa3 rl3 er3 q3 out3 => out3.here rl3 (by unfold Reps; exact ⟨x, xs, rfl, q2.mono e3, q3⟩)
/-- displays -/
theorem se_tup {x1 : Nat} {f : Env → Store → R (List D)} (h : SD X c es f) : SE X c (.Tuple es x1 pos) (fun ρ S => (f ρ S).bind kTup) := (pe_tupQ h).imp fun σ H Q h => by
  obtain ⟨g, al, ρ, S, xa, rl, er, out⟩ := h
  refine TQ.step (k := kTup) xa rl er out fun x H1 g1 al1 v S1 e1 p1 xa1 rl1 er1 q1 out1 => ?_
  unfold kTup at out1
  by_cases hl : v.length ≤ BIG
  · rw [if_pos hl] at out1
    exact ⟨by rw [← reps_length q1]; exact Nat.le_trans hl big_line, out1.tup rl1 q1⟩
  · rw [if_neg hl] at out1
    exact out1.elim
theorem se_lst {f : Env → Store → R (List D)} (h : SD X c es f) : SE X c (.List es pos) (fun ρ S => (f ρ S).bind kLst) := (pe_lst h).imp fun σ H Q h => by
  obtain ⟨g, al, ρ, S, xa, rl, er, out⟩ := h
  refine TQ.step (k := kLst) xa rl er out fun x H1 g1 al1 v S1 e1 p1 xa1 rl1 er1 q1 out1 => ?_
  unfold kLst at out1
  by_cases hl : v.length ≤ BIG
  · rw [if_pos hl] at out1
    exact ⟨by rw [← reps_length q1]; exact Nat.le_trans hl big_line, Out.lst out1 rl1 q1⟩
  · rw [if_neg hl] at out1
    exact out1.elim

/-! ### calls -/
/-- what a def promises -/
def spF (G : Gd) (K : PySem.W.Frag) (xo : Addr → Nat → Option Addr → Prop) (cf : CF) (f : Nat) : Sp := fun vs H Q E =>
  ∃ g al S xs, g.xa = xo ∧ Rl G K g H al S ∧ RepVs G K g H al xs vs ∧ Out ⟨G, K, fun cls d _ H => E cls d H, xo, fun _ _ => False⟩ (relL ⟨G, K, fun cls d _ H => E cls d H, xo, fun _ _ => False⟩) [] g H al (cf f xs S) Q
theorem Out.up {G : Gd} {K : PySem.W.Frag} {W : WX} {xo : Addr → Nat → Option Addr → Prop} {cd : Addr → Addr → Prop} {σ : L2.St} {g : Gh} {H : Hp} {al : List Addr} {r : R Vl} {Q : VK} (h : Out ⟨G, K, W, xo, cd⟩ (relL ⟨G, K, W, xo, cd⟩) σ g H al r Q) :
    Out ⟨G, K, fun cls d _ H => WE W σ cls d H, xo, fun _ _ => False⟩ (relL ⟨G, K, fun cls d _ H => WE W σ cls d H, xo, fun _ _ => False⟩) [] g H al r Q := by
  cases r with
  | ok v S' => exact h
  | exc k p S' => exact h
  | bad => exact h
structure Cal (X : Cx) (c : Ct) (cf : CF) (a : Addr) (f : Nat) : Prop where
  kp : PySem.W.keepIn X.K (.ref a) = true
  ex : ∃ k fd ps, FnOk X.prog X.w X.K X.mg X.base (L2.CX X.prog X.w) k a fd ps (spF c.G c.K c.xo cf f) ∧ Room k X.A ∧ Binds X.K fd ps []
theorem se_call {x : Str} {f : Nat} {ad : Addr} {e : Expr} {cf : CF} {fs : Env → Store → R (List Vl)} (F : Cal X c cf ad f) (tk : Takes X c.W) (hg : Gl X x) (hm : X.mg x = some (.ref ad)) (hdb : (x == ("__debug__" : Str)) = false)
    (ha : SA X c (e :: es) fs) (hs : (e :: es).all notStar = true) : SE X c (.Call (.Name x p) (e :: es) [] pos) (fun ρ S => (fs ρ S).bind (cf f)) := by
  obtain ⟨k, fd, ps, F', hr, hb⟩ := F.ex
  rw [List.all_cons, Bool.and_eq_true] at hs
  refine (pe_callS F' hr hg hm F.kp hb (fun σ => passAt tk σ) ha hdb (star_each hs.1) (star_none hs.2)).imp fun σ H Q h => ?_
  obtain ⟨g, al, ρ, S, xa, rl, er, out⟩ := h
  exact TQ.step (k := cf f) xa rl er out fun x H1 g1 al1 v S1 e1 p1 xa1 rl1 er1 q1 out1 => ⟨g1, al1, S1, v, xa1.xa, rl1, q1, Out.up out1⟩
theorem se_call0 {x : Str} {f : Nat} {ad : Addr} {cf : CF} (F : Cal X c cf ad f) (tk : Takes X c.W) (hg : Gl X x) (hm : X.mg x = some (.ref ad)) (hdb : (x == ("__debug__" : Str)) = false) : SE X c (.Call (.Name x p) [] [] pos) (fun _ S => cf f [] S) := by
  obtain ⟨k, fd, ps, F', hr, hb⟩ := F.ex
  refine ⟨fun pins s σ H Q I h => ?_⟩
  refine wpAny_Call_Name_kw (ld_glob I hg hm ?_ hdb)
  refine PySem.W.callWith_K0 I.kIn F.kp ?_
  obtain ⟨g, al, ρ, S, xa, rl, er, out⟩ := h
  exact run_fnS (us := []) F' hr hb (passAt tk σ) I .nil ⟨g, al, S, [], xa.xa, rl, rfl, Out.up out⟩
/-- a name that holds a def -/
def fnOf? : Option (Option Vl) → Option Nat
  | some (some (.d (.fn f))) => some f
  | _ => none
theorem se_callv {x : Str} {i : Nat} {e : Expr} {cf : CF} {fs : Env → Store → R (List Vl)} (F : ∀ f, c.G.ok f → Cal X c cf (c.G.fnA f) f) (tk : Takes X c.W) (hN : X.N[i]? = some x) (hv : Vis X.env.scope x) (hdb : (x == ("__debug__" : Str)) = false) (hcd : (x == ("__classdict__" : Str)) = false)
    (ha : SA X c (e :: es) fs) (hs : (e :: es).all notStar = true) : SE X c (.Call (.Name x p) (e :: es) [] pos) (fun ρ S => match ρ[i]? with
      | some (some (.d (.fn f))) => (fs ρ S).bind (cf f)
      | _ => .bad) := by
  rw [List.all_cons, Bool.and_eq_true] at hs
  refine ⟨fun pins s σ H Q I h => ?_⟩
  obtain ⟨g, al, ρ, S, xa, rl, er, out⟩ := h
  -- what the name holds
  have hz : ∃ f, ρ[i]? = some (some (.d (.fn f))) ∧ Out c (relL c) σ g H al ((fs ρ S).bind (cf f)) Q := by
    simp only at out
    split at out
    · exact ⟨_, by assumption, out⟩
    · exact out.elim
  clear out
  obtain ⟨f, hz, out⟩ := hz
  obtain ⟨v, hv1, hv2⟩ := er.at_ i _ hz
  have hv2 : Rep c.G c.K g H (.fn f) v := hv2
  unfold Rep at hv2
  obtain ⟨hv2, hok⟩ := hv2
  subst hv2
  have F := F f hok
  obtain ⟨k, fd, ps, F', hr, hb⟩ := F.ex
  refine wpAny_Call_Name_kw (thn ((pe_var (pos := p) hN hv hdb hcd).run pins s σ H (fun v H1 => v = .ref (c.G.fnA f) ∧ H1 = H) I ⟨.ref (c.G.fnA f), hv1, rfl, rfl⟩) fun u s1 ⟨v, H1, I1, r1, q1⟩ => ?_)
  obtain ⟨rfl, rfl⟩ := q1
  cases r1
  have t2 : TQ c (relLs c) fs σ H1 (fun vs H2 => spF c.G c.K c.xo cf f vs H2 Q (WE c.W σ)) := TQ.step (k := cf f) xa rl er out fun x H1 g1 al1 v S1 e1 p1 xa1 rl1 er1 q1 out1 => ⟨g1, al1, S1, v, xa1.xa, rl1, q1, Out.up out1⟩
  refine PySem.W.callWith_K (h₀ := X.base) I.ok.mod.kin F.kp (thn (ha.run pos pins s1 σ _ _ I1 t2) fun us s2 ⟨vs, H2, I2, r, q⟩ => ⟨I2.kIn, ?_⟩) (star_each hs.1) (star_none hs.2)
  exact run_fnS F' hr hb (passAt tk σ) I2 r q

/-! ### a new object -/
theorem run_makeS {pins : List (Addr × Obj)} {σ : L2.St} {H : Hp} {s : Shared} {Q : VK} {us : List Value} {vs : List V} {C f : Addr} {fd : FuncData} {ps : List Str} {sp : Sp} {k : Nat} {E : L2.St → XK} (M : Mk X.K C f) (F : FnOk X.prog X.w X.K X.mg X.base (L2.CX X.prog X.w) k f fd ps sp) (hr : Room (k + 1) X.A) (hb : Binds X.K fd ps [])
    (hx : PassesAt (L2.CX X.prog X.w) X σ (E σ)) (I : L2.Inv X pins σ H s) (r : Vals vs us)
    (h : ∀ x dx, H x = none → H dx = none → dx ≠ x → sp (.ref x :: vs) (upd (upd H dx (.own x)) x (.ins C dx [])) (fun v H2 => v = .non ∧ Q (.ref x) H2) (E σ)) :
    wpAny (model X.prog X.w) X.A (call (.ref C) us) (EP X pins σ Q) X.xe s := by
  have hq := h (s.heap.objs.size + 1) s.heap.objs.size (I.hok.fresh (Nat.le_succ _)) (I.hok.fresh (Nat.le_refl _)) (Nat.ne_of_lt (Nat.lt_succ_self _))
  have I2 := L2.Inv.made (C := C) I
  have r2 : Vals (V.ref (s.heap.objs.size + 1) :: vs) (Value.ref (s.heap.objs.size + 1) :: us) := .cons rfl r
  have hl : (Value.ref (s.heap.objs.size + 1) :: us).length = ps.length := by
    have e := r2.length
    rw [F.len _ _ _ _ hq] at e
    exact e.symm
  have hbb := hb _ (Value.ref (s.heap.objs.size + 1) :: us) I2.kIn (by rw [List.append_nil]; exact hl)
  rw [List.append_nil] at hbb
  refine wpAny_call (make_map (f := f) I.kIn M.makes M.init (beq_iff_eq.mp M.fn) (codeAny_mono (F.run _ X.stack _ _ ⟨Value.ref (s.heap.objs.size + 1) :: us, []⟩ (Value.ref (s.heap.objs.size + 1) :: us) _ _ (E σ) (hr.make C us [])
    (I2.env0.make C us []) hbb r2 hq) fun r s' hq' => ?_))
  cases r with
  | error e => exact hx pins _ _ e s' I2 hq'
  | ok fl =>
    cases fl with
    | ret u =>
      obtain ⟨v, H', I3, rv, ev, q3⟩ := I2.after hq'
      subst ev
      exact ⟨rv, ⟨V.ref (s.heap.objs.size + 1), H', I3, rfl, q3⟩⟩
    | next => exact False.elim hq'
    | brk => exact False.elim hq'
    | cont => exact False.elim hq'
structure CalM (X : Cx) (c : Ct) (cf : CF) (C a : Addr) (f : Nat) : Prop where
  made : Mk X.K C a
  ex : ∃ k fd ps, FnOk X.prog X.w X.K X.mg X.base (L2.CX X.prog X.w) k a fd ps (spF c.G c.K c.xo cf f) ∧ Room (k + 1) X.A ∧ Binds X.K fd ps []
theorem se_mk {x : Str} {f k : Nat} {ad : Addr} {e : Expr} {cf : CF} {fs : Env → Store → R (List Vl)} (F : CalM X c cf (c.G.clsA k) ad f) (hok : c.G.okC k) (tk : Takes X c.W) (hg : Gl X x) (hm : X.mg x = some (.ref (c.G.clsA k))) (hdb : (x == ("__debug__" : Str)) = false)
    (ha : SA X c (e :: es) fs) (hs : (e :: es).all notStar = true) : SE X c (.Call (.Name x p) (e :: es) [] pos) (fun ρ S => (fs ρ S).bind fun vs S1 => (cf f (.r S1.length :: vs) (S1 ++ [.ins k []])).bind (kMk k S1.length)) := by
  obtain ⟨kk, fd, ps, F', hr, hb⟩ := F.ex
  rw [List.all_cons, Bool.and_eq_true] at hs
  refine ⟨fun pins s σ H Q I h => ?_⟩
  obtain ⟨g, al, ρ, S, xa, rl, er, out⟩ := h
  have t2 : TQ c (relLs c) fs σ H (fun vs H1 => ∀ x dx, H1 x = none → H1 dx = none → dx ≠ x → spF c.G c.K c.xo cf f (.ref x :: vs) (upd (upd H1 dx (.own x)) x (.ins (c.G.clsA k) dx [])) (fun v H2 => v = .non ∧ Q (.ref x) H2) (WE c.W σ)) :=
    TQ.step (k := fun vs S1 => (cf f (.r S1.length :: vs) (S1 ++ [.ins k []])).bind (kMk k S1.length)) xa rl er out fun vs H1 g1 al1 v S1 e1 p1 xa1 rl1 er1 q1 out1 x dx hx hdx ne => by
      have e2 : Ext g1 H1 g1 (upd H1 dx (.own x)) := .new hdx (rl1.nF hdx)
      have rl2 := rl1.new (o := .own x) hdx
      have hx2 : upd H1 dx (.own x) x = none := (upd_ne (Ne.symm ne)).trans hx
      have e3 : Ext g1 (upd H1 dx (.own x)) g1 (upd (upd H1 dx (.own x)) x (.ins (c.G.clsA k) dx [])) := .new hx2 (rl2.nF hx2)
      have rl3 : Rl c.G c.K g1 (upd (upd H1 dx (.own x)) x (.ins (c.G.clsA k) dx [])) (al1 ++ [x]) (S1 ++ [.ins k []]) := rl2.alloc (ob := .ins k []) hx2 ⟨⟨rl2.nF hx2, hok⟩, dx, [], upd_same, by unfold RepF; rfl⟩
      have lx : (al1 ++ [x])[S1.length]? = some x := by
        rw [← rl1.len, List.getElem?_append_right (Nat.le_refl _), Nat.sub_self]
        rfl
      refine ⟨g1, al1 ++ [x], S1 ++ [.ins k []], .r S1.length :: v, xa1.xa, rl3, ⟨_, _, rfl, ⟨x, lx, rfl⟩, q1.mono (e2.trans e3) (List.prefix_append _ _)⟩, ?_⟩
      have out2 := out1.rebase (e2.trans e3) (List.prefix_append al1 [x])
      cases hc : cf f (.r S1.length :: v) (S1 ++ [.ins k []]) with
      | bad => simp only [hc, R.bind] at out2; exact out2.elim
      | exc k' pp S' => simp only [hc, R.bind] at out2; exact out2
      | ok u S' =>
        simp only [hc, R.bind] at out2
        intro g' H' al' z e4 rl4 p4 q4
        have out3 := out2.rebase e4 p4
        have lx' : al'[S1.length]? = some x := by
          obtain ⟨t, rfl⟩ := p4
          rw [List.getElem?_append_left (List.getElem?_eq_some_iff.mp lx).1]
          exact lx
        unfold kMk at out3
        split at out3
        · rename_i c' fs' hS
          have q4 : RepL c.G c.K g' H' al' (.d .non) z := q4
          refine ⟨rl_non q4, ?_⟩
          split at out3
          · refine (out3.rebase (.lock x) (List.prefix_refl _)).here (rl4.lock hS lx') ?_
            exact (rl4.cell _ _ _ hS lx').1.lock
          · exact out3.here rl4 ⟨x, lx', rfl⟩
        · exact out3.elim
  refine wpAny_Call_Name_kw (ld_glob I hg hm ?_ hdb)
  refine PySem.W.callWith_K (h₀ := X.base) I.ok.mod.kin F.made.kp (thn (ha.run pos pins s σ H _ I t2) fun us s1 ⟨vs, H1, I1, r, q⟩ => ⟨I1.kIn, ?_⟩) (star_each hs.1) (star_none hs.2)
  exact run_makeS F.made F' hr hb (passAt tk σ) I1 r q
end
end SW

-- SwG
set_option Elab.async false
set_option linter.all false
set_option maxRecDepth 100000
set_option maxHeartbeats 4000000
set_option autoImplicit false
/-! SwG: built-in functions, items, slices, fields -/
namespace SW
open PySem PySem.Spec PyProof.Rows L2

section
variable (G : Gd) (K : PySem.W.Frag) (g : Gh) (H : Hp)
def Views : List D → List V → Prop
  | [], vs => vs = []
  | x :: xs, vs => ∃ v r, vs = v :: r ∧ View G K g H x v ∧ Views xs r
end
section
variable {G : Gd} {K : PySem.W.Frag} {g : Gh} {H : Hp} {al : List Addr} {S : Store}
theorem views_of (rl : Rl G K g H al S) : ∀ {vs : List Vl} {xs : List V} {us : List D}, RepVs G K g H al vs xs → rds S vs = some us → Views G K g H us xs
  | [], _, _, h, e => by cases (show _ = [] from h); cases e; exact rfl
  | v :: vs, _, _, h, e => by
    obtain ⟨x, r, rfl, h1, h2⟩ := h
    unfold rds at e
    cases e1 : rd S v with
    | none => rw [e1] at e; cases e
    | some y =>
      cases e2 : rds S vs with
      | none => rw [e1, e2] at e; cases e
      | some ys =>
        rw [e1, e2] at e
        cases e
        exact ⟨x, r, rfl, view_of rl h1 e1, views_of rl h2 e2⟩
theorem Views.one {u : D} {xs : List V} (h : Views G K g H [u] xs) : ∃ x, xs = [x] ∧ View G K g H u x := by
  obtain ⟨v, r, rfl, h1, h2⟩ := h
  cases (show r = [] from h2)
  exact ⟨v, rfl, h1⟩
theorem Views.two {u w : D} {xs : List V} (h : Views G K g H [u, w] xs) : ∃ x y, xs = [x, y] ∧ View G K g H u x ∧ View G K g H w y := by
  obtain ⟨v, r, rfl, h1, h2⟩ := h
  obtain ⟨y, rfl, h3⟩ := Views.one h2
  exact ⟨v, y, rfl, h1, h3⟩
/-- read as the library does -/
theorem lst_sq {xs : List D} {x : V} (h : View G K g H (.lst xs) x) : ∃ a vs, x = .ref a ∧ SqL K H a vs ∧ Reps G K g H xs vs := by
  obtain ⟨a, vs, rfl, h1, h2⟩ := h
  exact ⟨a, vs, rfl, .inl (.inl h1), h2⟩
theorem tup_sq {xs : List D} {x : V} (h : View G K g H (.tup xs) x) : ∃ a vs, x = .ref a ∧ SqT K H a vs ∧ Reps G K g H xs vs := rep_tup h
theorem scr_sq {ns : List Int} {x : V} (h : View G K g H (.scr ns) x) : ∃ a, x = .ref a ∧ SqL K H a (ns.map V.int) := by
  have h2 : Rep G K g H (.scr ns) x := h
  unfold Rep at h2
  obtain ⟨a, e, h3⟩ := h2
  exact ⟨a, e, h3.elim (fun z => .inl z.2) (fun z => .inr z)⟩
theorem reps_ints : ∀ {xs : List D} {vs : List V} {ns : List Int}, Reps G K g H xs vs → intsOf xs = some ns → vs = ns.map V.int
  | [], _, _, h, e => by unfold Reps at h; subst h; cases e; rfl
  | x :: xs, _, _, h, e => by
    unfold Reps at h
    obtain ⟨v, r, rfl, h1, h2⟩ := h
    cases x <;> simp only [intsOf] at e <;> try (cases e)
    obtain ⟨ms, e1, rfl⟩ := Option.map_eq_some_iff.mp e
    unfold Rep at h1
    subst h1
    rw [reps_ints h2 e1, List.map_cons]
theorem reps_strs : ∀ {xs : List D} {vs : List V} {ns : List Str}, Reps G K g H xs vs → strsOf xs = some ns → vs = ns.map V.str
  | [], _, _, h, e => by unfold Reps at h; subst h; cases e; rfl
  | x :: xs, _, _, h, e => by
    unfold Reps at h
    obtain ⟨v, r, rfl, h1, h2⟩ := h
    cases x <;> simp only [strsOf] at e <;> try (cases e)
    obtain ⟨ms, e1, rfl⟩ := Option.map_eq_some_iff.mp e
    unfold Rep at h1
    subst h1
    rw [reps_strs h2 e1, List.map_cons]
theorem reps_bls : ∀ {xs : List D} {vs : List V} {ns : List Bool}, Reps G K g H xs vs → blsOf xs = some ns → vs = ns.map V.bl
  | [], _, _, h, e => by unfold Reps at h; subst h; cases e; rfl
  | x :: xs, _, _, h, e => by
    unfold Reps at h
    obtain ⟨v, r, rfl, h1, h2⟩ := h
    cases x <;> simp only [blsOf] at e <;> try (cases e)
    obtain ⟨ms, e1, rfl⟩ := Option.map_eq_some_iff.mp e
    unfold Rep at h1
    subst h1
    rw [reps_bls h2 e1, List.map_cons]
end
/-- what a built-in function asks -/
def rBlt (c : Ct) (f : List D → Option An) : List V → Hp → VK → Prop := fun xs H Q => ∃ σ g al S us, Fit c g ∧ Rl c.G c.K g H al S ∧ Views c.G c.K g H us xs ∧ Out c (relL c) σ g H al (give S (f us)) Q
theorem Out.none {c : Ct} {σ : L2.St} {g : Gh} {H : Hp} {al : List Addr} {S : Store} {Q : VK} (h : Out c (relL c) σ g H al (give S none) Q) : False := h
section
variable {X : Cx} {c : Ct}
theorem give_some {S : Store} {o : Option An} {σ : L2.St} {g : Gh} {H : Hp} {al : List Addr} {Q : VK} (h : Out c (relL c) σ g H al (give S o) Q) : ∃ k, o = some k ∧ Out c (relL c) σ g H al (k.give S) Q := by
  cases o with
  | none => exact h.elim
  | some k => exact ⟨k, rfl, h⟩
theorem cr_blt_len (hK : X.K = c.K) : CallR X (.builtin "len") (rBlt c (bltD .len)) := by
  intro pins s σ H xs us Q I r h
  obtain ⟨σ', g, al, S, ds, xa, rl, vs, out⟩ := h
  obtain ⟨k, e, out⟩ := give_some out
  match ds, e with
  | [u], e =>
    obtain ⟨x, rfl, vx⟩ := vs.one
    obtain ⟨n, e1, rfl⟩ := Option.map_eq_some_iff.mp e
    have q : Q (.int n) H := out.int rl
    cases u <;> simp only [lenD] at e1 <;> try (cases e1)
    case str z =>
      by_cases hl : z.length ≤ BIG
      · rw [if_pos hl] at e1
        cases e1
        cases rep_str vx
        exact call_len_str pins s σ H _ us Q I r ⟨z, rfl, Nat.le_trans hl big_line, q⟩
      · rw [if_neg hl] at e1; cases e1
    case tup ys =>
      obtain ⟨a, ws, rfl, h1, h2⟩ := tup_sq vx
      exact call_len_seq pins s σ H _ us Q I r ⟨a, ws, rfl, .inr (hK ▸ h1), by rw [← reps_length h2]; exact q⟩
    case lst ys =>
      obtain ⟨a, ws, rfl, h1, h2⟩ := lst_sq vx
      exact call_len_seq pins s σ H _ us Q I r ⟨a, ws, rfl, .inl (hK ▸ h1), by rw [← reps_length h2]; exact q⟩
    case scr ns =>
      obtain ⟨a, rfl, h1⟩ := scr_sq vx
      exact call_len_seq pins s σ H _ us Q I r ⟨a, _, rfl, .inl (hK ▸ h1), by rw [List.length_map]; exact q⟩
theorem cr_blt_int : CallR X (.type "int") (rBlt c (bltD .int)) := by
  intro pins s σ H xs us Q I r h
  obtain ⟨σ', g, al, S, ds, xa, rl, vs, out⟩ := h
  obtain ⟨k, e, out⟩ := give_some out
  match ds, e with
  | [.int i], e =>
    cases e
    obtain ⟨x, rfl, vx⟩ := vs.one
    cases rep_int vx
    exact call_int1 pins s σ H _ us Q I r (.inl ⟨i, rfl, out.int rl⟩)
  | [.bl b], e =>
    cases e
    obtain ⟨x, rfl, vx⟩ := vs.one
    cases rep_bl vx
    exact call_int1 pins s σ H _ us Q I r (.inr ⟨b, rfl, out.int rl⟩)
  | [.str z], e =>
    obtain ⟨x, rfl, vx⟩ := vs.one
    cases rep_str vx
    simp only [bltD] at e
    by_cases hl : z.length ≤ 640
    · rw [if_pos hl] at e
      obtain ⟨n, e1, rfl⟩ := Option.map_eq_some_iff.mp e
      exact call_int_str pins s σ H _ us Q I r ⟨z, n, rfl, e1, hl, out.int rl⟩
    · rw [if_neg hl] at e; cases e
theorem cr_blt_str : CallR X (.type "str") (rBlt c (bltD .str)) := by
  intro pins s σ H xs us Q I r h
  obtain ⟨σ', g, al, S, ds, xa, rl, vs, out⟩ := h
  obtain ⟨k, e, out⟩ := give_some out
  match ds, e with
  | [.int i], e =>
    obtain ⟨x, rfl, vx⟩ := vs.one
    cases rep_int vx
    simp only [bltD] at e
    by_cases hl : i.natAbs < 2 ^ 64
    · rw [if_pos hl] at e
      cases e
      refine call_str_int pins s σ H _ us Q I r ⟨i, rfl, ?_, out.str rl⟩
      by_cases h0 : i.natAbs = 0
      · rw [h0]; decide
      · exact Nat.lt_of_lt_of_le ((Nat.log2_lt h0).mpr hl) (by decide)
    · rw [if_neg hl] at e; cases e
theorem cr_blt_tuple (hK : X.K = c.K) : CallR X (.type "tuple") (rBlt c (bltD .tuple)) := by
  intro pins s σ H xs us Q I r h
  obtain ⟨σ', g, al, S, ds, xa, rl, vs, out⟩ := h
  obtain ⟨k, e, out⟩ := give_some out
  match ds, e with
  | [.lst ys], e =>
    cases e
    obtain ⟨x, rfl, vx⟩ := vs.one
    obtain ⟨a, ws, rfl, h1, h2⟩ := lst_sq vx
    exact call_tuple_ofQ pins s σ H _ us Q I r ⟨a, ws, rfl, .inl ⟨hK ▸ h1, out.tup rl h2⟩⟩
  | [.tup ys], e =>
    cases e
    obtain ⟨x, rfl, vx⟩ := vs.one
    obtain ⟨a, ws, rfl, h1, h2⟩ := tup_sq vx
    exact call_tuple_ofQ pins s σ H _ us Q I r ⟨a, ws, rfl, .inr ⟨hK ▸ h1, out.data rl vx⟩⟩
theorem foldl_max (ns : List Int) : ∀ x : Int, (x ≤ ns.foldl (fun a b => if a < b then b else a) x) ∧ (∀ y ∈ ns, y ≤ ns.foldl (fun a b => if a < b then b else a) x) ∧ (ns.foldl (fun a b => if a < b then b else a) x = x ∨ ns.foldl (fun a b => if a < b then b else a) x ∈ ns) := by
  induction ns with
  | nil => intro x; exact ⟨Int.le_refl x, fun y hy => (List.not_mem_nil hy).elim, .inl rfl⟩
  | cons n ns ih =>
    intro x
    rw [List.foldl_cons]
    obtain ⟨h1, h2, h3⟩ := ih (if x < n then n else x)
    by_cases q : x < n
    · rw [if_pos q] at h1 h2 h3 ⊢
      refine ⟨by omega, fun y hy => ?_, ?_⟩
      · rcases List.mem_cons.mp hy with rfl | hy
        · exact h1
        · exact h2 y hy
      · rcases h3 with h3 | h3
        · exact .inr (by rw [h3]; exact List.mem_cons_self)
        · exact .inr (List.mem_cons_of_mem _ h3)
    · rw [if_neg q] at h1 h2 h3 ⊢
      refine ⟨h1, fun y hy => ?_, ?_⟩
      · rcases List.mem_cons.mp hy with rfl | hy
        · omega
        · exact h2 y hy
      · rcases h3 with h3 | h3
        · exact .inl h3
        · exact .inr (List.mem_cons_of_mem _ h3)
theorem foldl_min (ns : List Int) : ∀ x : Int, (ns.foldl (fun a b => if b < a then b else a) x ≤ x) ∧ (∀ y ∈ ns, ns.foldl (fun a b => if b < a then b else a) x ≤ y) ∧ (ns.foldl (fun a b => if b < a then b else a) x = x ∨ ns.foldl (fun a b => if b < a then b else a) x ∈ ns) := by
  induction ns with
  | nil => intro x; exact ⟨Int.le_refl x, fun y hy => (List.not_mem_nil hy).elim, .inl rfl⟩
  | cons n ns ih =>
    intro x
    rw [List.foldl_cons]
    obtain ⟨h1, h2, h3⟩ := ih (if n < x then n else x)
    by_cases q : n < x
    · rw [if_pos q] at h1 h2 h3 ⊢
      refine ⟨by omega, fun y hy => ?_, ?_⟩
      · rcases List.mem_cons.mp hy with rfl | hy
        · exact h1
        · exact h2 y hy
      · rcases h3 with h3 | h3
        · exact .inr (by rw [h3]; exact List.mem_cons_self)
        · exact .inr (List.mem_cons_of_mem _ h3)
    · rw [if_neg q] at h1 h2 h3 ⊢
      refine ⟨h1, fun y hy => ?_, ?_⟩
      · rcases List.mem_cons.mp hy with rfl | hy
        · omega
        · exact h2 y hy
      · rcases h3 with h3 | h3
        · exact .inl h3
        · exact .inr (List.mem_cons_of_mem _ h3)
theorem max_is {ns : List Int} {m n : Int} (e : maxL ns = some n) (h1 : m ∈ ns) (h2 : ∀ y, y ∈ ns → y ≤ m) : m = n := by
  cases ns with
  | nil => cases e
  | cons x r =>
    cases e
    obtain ⟨q1, q2, q3⟩ := foldl_max r x
    have a : m ≤ r.foldl (fun a b => if a < b then b else a) x := by
      rcases List.mem_cons.mp h1 with rfl | h1
      · exact q1
      · exact q2 m h1
    have b : r.foldl (fun a b => if a < b then b else a) x ≤ m := by
      rcases q3 with q3 | q3
      · rw [q3]; exact h2 x List.mem_cons_self
      · exact h2 _ (List.mem_cons_of_mem _ q3)
    exact Int.le_antisymm a b
theorem min_is {ns : List Int} {m n : Int} (e : minL ns = some n) (h1 : m ∈ ns) (h2 : ∀ y, y ∈ ns → m ≤ y) : m = n := by
  cases ns with
  | nil => cases e
  | cons x r =>
    cases e
    obtain ⟨q1, q2, q3⟩ := foldl_min r x
    have a : r.foldl (fun a b => if b < a then b else a) x ≤ m := by
      rcases List.mem_cons.mp h1 with rfl | h1
      · exact q1
      · exact q2 m h1
    have b : m ≤ r.foldl (fun a b => if b < a then b else a) x := by
      rcases q3 with q3 | q3
      · rw [q3]; exact h2 x List.mem_cons_self
      · exact h2 _ (List.mem_cons_of_mem _ q3)
    exact Int.le_antisymm b a
theorem cr_blt_max (hK : X.K = c.K) (hc : X.calm = true) : CallR X (.builtin "max") (rBlt c (bltD .max)) := by
  intro pins s σ H xs us Q I r h
  obtain ⟨σ', g, al, S, ds, xa, rl, vs, out⟩ := h
  obtain ⟨k, e, out⟩ := give_some out
  match ds, e with
  | [.int i, .int j], e =>
    cases e
    obtain ⟨x, y, rfl, vx, vy⟩ := vs.two
    cases rep_int vx
    cases rep_int vy
    exact call_max2 hc pins s σ H _ us Q I r ⟨i, j, rfl, out.int rl⟩
  | [.lst ys], e =>
    obtain ⟨x, rfl, vx⟩ := vs.one
    obtain ⟨a, ws, rfl, h1, h2⟩ := lst_sq vx
    obtain ⟨ns, e1, e2⟩ := Option.bind_eq_some_iff.mp e
    obtain ⟨n, e3, rfl⟩ := Option.map_eq_some_iff.mp e2
    have hw := reps_ints h2 e1
    subst hw
    exact cr_max hc pins s σ H _ us Q I r ⟨a, ns, rfl, hK ▸ h1, (by cases ns with | nil => cases e3 | cons _ _ => exact Nat.succ_pos _), fun m m1 m2 => by rw [max_is e3 m1 m2]; exact out.int rl⟩
theorem cr_blt_min (hK : X.K = c.K) (hc : X.calm = true) : CallR X (.builtin "min") (rBlt c (bltD .min)) := by
  intro pins s σ H xs us Q I r h
  obtain ⟨σ', g, al, S, ds, xa, rl, vs, out⟩ := h
  obtain ⟨k, e, out⟩ := give_some out
  match ds, e with
  | [.int i, .int j], e =>
    cases e
    obtain ⟨x, y, rfl, vx, vy⟩ := vs.two
    cases rep_int vx
    cases rep_int vy
    exact call_min2 hc pins s σ H _ us Q I r ⟨i, j, rfl, out.int rl⟩
  | [.lst ys], e =>
    obtain ⟨x, rfl, vx⟩ := vs.one
    obtain ⟨a, ws, rfl, h1, h2⟩ := lst_sq vx
    obtain ⟨ns, e1, e2⟩ := Option.bind_eq_some_iff.mp e
    obtain ⟨n, e3, rfl⟩ := Option.map_eq_some_iff.mp e2
    have hw := reps_ints h2 e1
    subst hw
    exact cr_min hc pins s σ H _ us Q I r ⟨a, ns, rfl, hK ▸ h1, (by cases ns with | nil => cases e3 | cons _ _ => exact Nat.succ_pos _), fun m m1 m2 => by rw [min_is e3 m1 m2]; exact out.int rl⟩
theorem cr_blt_all (hK : X.K = c.K) (hc : X.calm = true) : CallR X (.builtin "all") (rBlt c (bltD .all)) := by
  intro pins s σ H xs us Q I r h
  obtain ⟨σ', g, al, S, ds, xa, rl, vs, out⟩ := h
  obtain ⟨k, e, out⟩ := give_some out
  match ds, e with
  | [.lst ys], e =>
    obtain ⟨x, rfl, vx⟩ := vs.one
    obtain ⟨a, ws, rfl, h1, h2⟩ := lst_sq vx
    obtain ⟨ns, e1, rfl⟩ := Option.map_eq_some_iff.mp e
    have hw := reps_bls h2 e1
    subst hw
    exact cr_all hc pins s σ H _ us Q I r ⟨a, ns, rfl, hK ▸ h1, out.bl rl⟩
theorem cr_blt_any (hK : X.K = c.K) (hc : X.calm = true) : CallR X (.builtin "any") (rBlt c (bltD .any)) := by
  intro pins s σ H xs us Q I r h
  obtain ⟨σ', g, al, S, ds, xa, rl, vs, out⟩ := h
  obtain ⟨k, e, out⟩ := give_some out
  match ds, e with
  | [.lst ys], e =>
    obtain ⟨x, rfl, vx⟩ := vs.one
    obtain ⟨a, ws, rfl, h1, h2⟩ := lst_sq vx
    obtain ⟨ns, e1, rfl⟩ := Option.map_eq_some_iff.mp e
    have hw := reps_bls h2 e1
    subst hw
    exact cr_any hc pins s σ H _ us Q I r ⟨a, ns, rfl, hK ▸ h1, out.bl rl⟩
end
end SW

-- SwGa
set_option Elab.async false
set_option linter.all false
set_option maxRecDepth 100000
set_option maxHeartbeats 4000000
set_option autoImplicit false
/-! SwGa: a list or a tuple, reversed -/
namespace SW
open PySem PySem.Spec PyProof.Rows L2 HT
section
variable {prog : Program} {w : World} {A : Around} {E : Value → Shared → Prop} {s : Shared}
theorem adjust_rev (n : Nat) : Builtin.Slice.sliceAdjust none none (-1) (n : Int) = ((n : Int) - 1, -1) := rfl
theorem places_rev (n : Nat) : Builtin.Slice.slicePlaces ((n : Int) - 1) (-1) (-1) = n := by
  unfold Builtin.Slice.slicePlaces
  rw [if_neg (by decide)]
  by_cases h : (n : Int) - 1 > -1
  · rw [if_pos h]
    have : -(-1 : Int) = 1 := rfl
    rw [this, Int.ediv_one]
    omega
  · rw [if_neg h]
    omega
theorem sliceApplied_rev {sl : Addr} {vs : Value} {n : Nat} {Q : Int × Int × Nat → Shared → Prop} (hs : s.heap.IsSliceOf sl .none .none vs) (ps : IsPart vs (some (-1)))
    (h : Q ((n : Int) - 1, -1, n) s) : wpAny (model prog w) A (Builtin.Slice.sliceApplied (.ref sl) (pure (n : Int))) Q E s := by
  obtain ⟨os, hos, hcs, hds⟩ := id hs
  unfold Builtin.Slice.sliceApplied Builtin.Slice.sliceFields
  refine wpAny_bind (wpAny_bind (wpAny_field hos hds (x := .none) rfl (wpAny_bind (wpAny_field hos hds (x := .none) rfl (wpAny_bind (wpAny_field hos hds (x := vs) rfl (wpAny_pure ?_)))))))
  refine wpAny_bind (slicePart_ ps ?_)
  show wpAny _ _ (if ((-1 : Int) == 0) = true then _ else _) _ _ s
  rw [if_neg (by decide)]
  refine wpAny_bind (slicePart_none (wpAny_bind (slicePart_none (wpAny_bind (wpAny_pure ?_)))))
  show wpAny _ _ (match Builtin.Slice.sliceAdjust none none (-1) (n : Int) with | (lo, hi) => pure (lo, (-1 : Int), Builtin.Slice.slicePlaces lo hi (-1))) _ _ s
  rw [adjust_rev]
  show wpAny _ _ (pure ((n : Int) - 1, (-1 : Int), Builtin.Slice.slicePlaces ((n : Int) - 1) (-1) (-1))) _ _ s
  rw [places_rev]
  exact wpAny_pure h
theorem pick_rev (xs : List Value) : ((List.range xs.length).filterMap fun (m : Nat) => xs[(((xs.length : Int) - 1) + (m : Int) * (-1)).toNat]?) = xs.reverse := by
  have e : ∀ m ∈ List.range xs.length, xs[(((xs.length : Int) - 1) + (m : Int) * (-1)).toNat]? = some (xs.reverse.getD m .none) := fun m hm => by
    rw [List.mem_range] at hm
    have : (((xs.length : Int) - 1) + (m : Int) * (-1)).toNat = xs.length - 1 - m := by omega
    rw [this, List.getD_eq_getElem?_getD, List.getElem?_reverse hm, List.getElem?_eq_getElem (by omega)]
    rfl
  have e2 : ((List.range xs.length).filterMap fun (m : Nat) => xs[(((xs.length : Int) - 1) + (m : Int) * (-1)).toNat]?) = (List.range xs.length).map fun m => xs.reverse.getD m .none := by
    have : ∀ l : List Nat, (∀ m ∈ l, m ∈ List.range xs.length) → (l.filterMap fun (m : Nat) => xs[(((xs.length : Int) - 1) + (m : Int) * (-1)).toNat]?) = l.map fun m => xs.reverse.getD m .none := fun l => by
      induction l with
      | nil => intro _; rfl
      | cons a r ih =>
        intro h
        rw [List.filterMap_cons, e a (h a List.mem_cons_self), List.map_cons]
        simp only
        rw [ih fun m hm => h m (List.mem_cons_of_mem _ hm)]
    exact this _ fun m h => h
  rw [e2]
  apply List.ext_getElem?
  intro i
  by_cases h : i < xs.length
  · have : i < xs.reverse.length := by rw [List.length_reverse]; exact h
    rw [List.getElem?_map, List.getElem?_range h, List.getElem?_eq_getElem this]
    show some (xs.reverse.getD i .none) = _
    rw [List.getD_eq_getElem?_getD, List.getElem?_eq_getElem this]
    rfl
  · rw [List.getElem?_eq_none (by rw [List.length_map, List.length_range]; omega), List.getElem?_eq_none (by rw [List.length_reverse]; omega)]
theorem getItem_tuple_rev {t sl : Addr} {items : List Value} {vs : Value} {Q : Value → Shared → Prop} (ht : IsTup s.heap t items.toArray) (hs : s.heap.IsSliceOf sl .none .none vs) (ps : IsPart vs (some (-1)))
    (h : Q (.ref s.heap.objs.size) { s with heap := s.heap.push { cls := .type "tuple", data := .seq items.reverse.toArray } })
    (hsz : items.length ≤ sizeLine) : wpAny (model prog w) A (getItem (.ref t) (.ref sl)) Q E s := by
  have htake : sizeOk (.seq items.reverse.toArray) := by
    show items.reverse.toArray.size ≤ sizeLine
    rw [List.size_toArray, List.length_reverse]
    exact hsz
  obtain ⟨os, hos, hcs, hds⟩ := id hs
  have hTs : s.TypeIs (.ref sl) "slice" := ⟨os, hos, hcs⟩
  unfold getItem
  try with_reducible refine wpAny_holding ?_
  first | refine wpAny_bind (wpAny_pure ?_) | skip
  refine wpAny_bind (wpAny_sequenceKey ht.typeIs (by decide) ?_)
  refine wpAny_bind (wpAny_callSpecial?_slot (name := Str.ofString "__getitem__") ht.typeIs PyProof.Rows.slot_tuple_getitem
    (wpAny_call_entry PyProof.Rows.slot_tuple_getitem ht.typeIs entry_tuple_getitem ?_ (args_tuple_getitem _ _)))
  show wpAny _ _ (Builtin.Tuple.tupleItemsOf (.ref t) >>= _) _ _ s
  refine wpAny_bind (tupleItemsOf_ ht ?_)
  refine wpAny_bind (wpAny_typeOf hTs ?_)
  rw [if_pos (by decide)]
  refine wpAny_bind (sliceApplied_rev hs ps ?_)
  have hno : ¬ ((((items.toArray.size : Int) - 1) == 0 && (-1 : Int) == 1 && items.toArray.size == items.toArray.size) = true) := by
    intro q
    rw [Bool.and_eq_true, Bool.and_eq_true] at q
    exact absurd q.1.2 (by decide)
  show wpAny _ _ (if (((items.toArray.size : Int) - 1) == 0 && (-1 : Int) == 1 && items.toArray.size == items.toArray.size) = true then _ else _) _ _ s
  have hpk : ((List.range items.toArray.size).filterMap fun (k : Nat) => items.toArray[((items.toArray.size : Int) - 1 + (k : Int) * (-1)).toNat]?).toArray = items.reverse.toArray := by
    congr 1
    have := pick_rev items
    simpa using this
  rw [if_neg hno, hpk]
  first
    | exact wpAny_bind (m := Builtin.Tuple.tupleExact _) (wpAny_newObj_type (wpAny_pure ⟨_, rfl, wpAny_pure h⟩) htake)
    | exact wpAny_bind (m := Builtin.Tuple.tupleExact _) (wpAny_newObj_type (wpAny_bind (wpAny_pure (wpAny_pure ⟨_, rfl, wpAny_pure h⟩))) htake)
    | exact wpAny_bind (wpAny_bind (m := Builtin.Tuple.tupleExact _) (wpAny_newObj_type (wpAny_pure (wpAny_pure ⟨_, rfl, wpAny_pure h⟩)) htake))
    | exact wpAny_bind (wpAny_bind (m := Builtin.Tuple.tupleExact _) (wpAny_newObj_type (wpAny_pure ⟨_, rfl, wpAny_pure h⟩) htake))
end
section
variable {X : Cx} {c : Ct} {fa : Env → Store → R Vl} {a : Expr} {pos : Pos}
theorem pe_revA {e : Expr} {te : TE} {k : Nat} {p1 p2 p3 pos : Pos} (he : PE X e te) : PE X (.Subscript e (.Slice none none (some (.UnaryOp .USub (.Constant (.int 1) k p1) p2)) p3) pos) (fun σ H Q => te σ H fun v H1 => (∃ a xs, v = .ref a ∧ SqL X.K H1 a xs ∧ ∀ p, H1 p = none → Q (.ref p) (upd H1 p (.lst xs.reverse))) ∨ ∃ a xs, v = .ref a ∧ SqT X.K H1 a xs ∧ TupQ xs.reverse Q H1) := by
  refine ⟨fun pins s σ H Q I h => ?_⟩
  refine Subscript_ (thn (he.run pins s σ H _ I h) fun v s1 ⟨x, H1, I1, r1, q1⟩ => ?_)
  have hst : PO X (some (.UnaryOp .USub (.Constant (.int 1) k p1) p2)) (tPart (tUn (rU fun i => .int (-i)) (tC (.int 1)))) := po_some (pe_un un_neg pe_int)
  refine wpAny_Slice (thn (po_none.run pins s1 σ H1 (fun o H2 => o = none ∧ H2 = H1) I1 ⟨rfl, rfl⟩) fun vl s2 ⟨l, H2, I2, pl, el, e2⟩ => ?_)
  subst el e2
  refine thn (po_none.run pins s2 σ H2 (fun o H3 => o = none ∧ H3 = H2) I2 ⟨rfl, rfl⟩) fun vu s3 ⟨u, H3, I3, pu, eu, e3⟩ => ?_
  subst eu e3
  refine thn (hst.run pins s3 σ H3 (fun o H4 => o = some (-1) ∧ H4 = H3) I3 ⟨1, rfl, -1, rfl, rfl, rfl⟩) fun vs s4 ⟨o, H4, I4, ps, eo, e4⟩ => ?_
  subst eo e4
  have I5 : Inv X pins σ H4 { s4 with heap := s4.heap.push { cls := .type "slice", data := .fields #[vl, vu, vs] } } := I4.kept (t' := s4.toks) fun b ob q => Heap.get?_push_of_some _ q
  rcases q1 with ⟨a, xs, ex, hx, q⟩ | ⟨a, xs, ex, hx, q⟩
  · subst ex
    cases r1
    obtain ⟨its, r, ht, hz⟩ := I5.list hx
    have hlen := r.length
    show wpAny (model X.prog X.w) X.A (subscriptTail e (.Slice none none (some (.UnaryOp .USub (.Constant (.int 1) k p1) p2)) p3) (.ref a) (.ref s4.heap.objs.size)) (EP X pins σ Q) X.xe { s4 with heap := s4.heap.push { cls := .type "slice", data := .fields #[vl, vu, vs] } }
    refine tail_any (ops := [.ref a, .ref s4.heap.objs.size]) ht.isList.typeIs (PySem.slot_list_getitem.lookup) ?_ (by with_unfolding_all rfl)
    refine wpAny_getItem_list_slice ht.isList (Heap.IsSliceOf.new _ vl vu vs) pl pu ps (by decide) ?_ (by rw [List.size_toArray]; omega)
    rw [PySem.W.krv_pick]
    refine ⟨.ref _, _, I5.laid (t' := s4.toks) (o := .lst xs.reverse) (fun b ob q => Heap.get?_push_of_some _ q) (Nat.le_refl _) ?_, rfl, q _ (I5.hok.fresh (Nat.le_refl _))⟩
    exact ⟨by rw [List.length_reverse]; exact hz, _, 0, r.reverse, Heap.get?_push_size _ rfl⟩
  · subst ex
    cases r1
    obtain ⟨its, r, ht, hz⟩ := I5.tuple hx
    have hlen := r.length
    cases pl
    cases pu
    show wpAny (model X.prog X.w) X.A (subscriptTail e (.Slice none none (some (.UnaryOp .USub (.Constant (.int 1) k p1) p2)) p3) (.ref a) (.ref s4.heap.objs.size)) (EP X pins σ Q) X.xe { s4 with heap := s4.heap.push { cls := .type "slice", data := .fields #[.none, .none, vs] } }
    refine tail_any (ops := [.ref a, .ref s4.heap.objs.size]) ht.typeIs (PyProof.Rows.slot_tuple_getitem.lookup) ?_ (by with_unfolding_all rfl)
    refine getItem_tuple_rev ht (Heap.IsSliceOf.new _ .none .none vs) ps ?_ (by omega)
    exact tq_laid (t' := s4.toks) I5 q (by rw [List.length_reverse]; exact hz) r.reverse
end
end SW

-- SwH
set_option Elab.async false
set_option linter.all false
set_option maxRecDepth 100000
set_option maxHeartbeats 4000000
set_option autoImplicit false
/-! SwH: items, slices, fields, methods, the built-in functions as expressions -/
namespace SW
open PySem PySem.Spec PyProof.Rows L2

def plainBase : Expr → Bool
  | .Call _ (_ :: _) _ _ => true
  | .Call _ [] _ _ => false
  | _ => true
theorem base_ok {o : Expr} {n : Str} {env : PySem.Env} {whole : Sem Value} (h : plainBase o = true) : attributeBase o n env whole = whole := by
  cases o <;> try rfl
  case Call f as kw pos =>
    cases as with
    | nil => cases h
    | cons a as => cases f <;> rfl
def notSlice : Expr → Bool
  | .Slice _ _ _ _ => false
  | _ => true
theorem plainIx_ok {b : Expr} (h : notSlice b = true) : PlainIx b := fun o i => by
  cases b <;> first | rfl | cases h

section
variable {X : Cx} {c : Ct} {a b d : Expr} {es : List Expr} {fa fb fd : Env → Store → R Vl} {pos p : Pos}
theorem se_not (hK : X.K = c.K) (ha : SE X c a fa) : SE X c (.UnaryOp .Not a pos) (fun ρ S => (fa ρ S).bind kNot) := (pe_notT ha).imp fun σ H Q h => by
  obtain ⟨g, al, ρ, S, xa, rl, er, out⟩ := h
  refine TQ.step (k := kNot) xa rl er out fun x H1 g1 al1 v S1 e1 p1 xa1 rl1 er1 q1 out1 => ?_
  unfold kNot at out1
  cases h1 : (rd S1 v).bind truth with
  | none => simp only [h1] at out1; exact out1.elim
  | some k =>
    simp only [h1] at out1
    obtain ⟨u, h2, h3⟩ := Option.bind_eq_some_iff.mp h1
    exact ⟨k, hK ▸ truth_of (view_of rl1 q1 h2) h3, out1.bl rl1⟩
theorem se_le2 (ha : SE X c a fa) (hb : SE X c b fb) (hd : SE X c d fd) (hm : lastMarks [.LtE, .LtE] [b, d] = false) : SE X c (.Compare a [.LtE, .LtE] [b, d] pos) (fun ρ S => (fa ρ S).bind fun x S1 => (fb ρ S1).bind (kLe (fd ρ) x)) := (pe_chain op_le op_le ha hb hd hm).imp fun σ H Q h => by
  obtain ⟨g, al, ρ, S, xa, rl, er, out⟩ := h
  refine TQ.step (k := fun x S1 => (fb ρ S1).bind (kLe (fd ρ) x)) xa rl er out fun x H1 g1 al1 v S1 e1 p1 xa1 rl1 er1 q1 out1 => ?_
  refine TQ.step (k := kLe (fd ρ) v) xa1 rl1 er1 out1 fun y H2 g2 al2 w S2 e2 p2 xa2 rl2 er2 q2 out2 => ?_
  unfold kLe at out2
  split at out2
  · rename_i i j
    cases rl_int q1
    cases rl_int q2
    refine ⟨i, j, rfl, rfl, decide (i ≤ j), rfl, ?_⟩
    by_cases hij : i ≤ j
    · rw [if_pos hij] at out2
      rw [decide_eq_true hij, if_pos rfl]
      refine TQ.step (k := kLe2 j) xa2 rl2 er2 out2 fun z H3 g3 al3 t S3 e3 p3 xa3 rl3 er3 q3 out3 => ?_
      unfold kLe2 at out3
      split at out3
      · rename_i k
        cases rl_int q3
        exact ⟨j, k, rfl, rfl, out3.bl rl3⟩
      · exact out3.elim
    · rw [if_neg hij] at out2
      rw [decide_eq_false hij, if_neg Bool.false_ne_true]
      exact out2.bl rl2
  · exact out2.elim

/-! ### built-in functions -/
theorem kBlt_ok {f : List D → Option An} {σ : L2.St} {g : Gh} {H : Hp} {al : List Addr} {vs : List Vl} {xs : List V} {S : Store} {Q : VK} (xa : Fit c g) (rl : Rl c.G c.K g H al S) (q : RepVs c.G c.K g H al vs xs)
    (out : Out c (relL c) σ g H al (match rds S vs with
      | some xs => give S (f xs)
      | none => .bad) Q) : rBlt c f xs H Q := by
  cases e : rds S vs with
  | none => rw [e] at out; exact out.elim
  | some us =>
    rw [e] at out
    exact ⟨σ, g, al, S, us, xa, rl, views_of rl q e, out⟩
theorem se_bltB {k : Blt} {x : Str} {id : String} {e : Expr} {fs : Env → Store → R (List Vl)} (hc : CallR X (.builtin id) (rBlt c (bltD k))) (hg : Gl X x) (hm : X.mg x = none) (hv : bootBuiltins x = some (.builtin id)) (hn : x ≠ "__name__") (hdb : (x == ("__debug__" : Str)) = false)
    (ha : SA X c (e :: es) fs) (hs : (e :: es).all notStar = true) : SE X c (.Call (.Name x p) (e :: es) [] pos) (fun ρ S => (fs ρ S).bind (kBlt k)) := by
  rw [List.all_cons, Bool.and_eq_true] at hs
  refine (pe_callB hc hg hm hv ha hn hdb (star_each hs.1) (star_none hs.2)).imp fun σ H Q h => ?_
  obtain ⟨g, al, ρ, S, xa, rl, er, out⟩ := h
  exact TQ.step (k := kBlt k) xa rl er out fun x H1 g1 al1 v S1 e1 p1 xa1 rl1 er1 q1 out1 => kBlt_ok xa1 rl1 q1 out1
theorem se_bltT {k : Blt} {x : Str} {id : String} {e : Expr} {fs : Env → Store → R (List Vl)} (hc : CallR X (.type id) (rBlt c (bltD k))) (hg : Gl X x) (hm : X.mg x = none) (hv : bootBuiltins x = some (.type id)) (hn : x ≠ "__name__") (hdb : (x == ("__debug__" : Str)) = false)
    (ha : SA X c (e :: es) fs) (hs : (e :: es).all notStar = true) : SE X c (.Call (.Name x p) (e :: es) [] pos) (fun ρ S => (fs ρ S).bind (kBlt k)) := by
  rw [List.all_cons, Bool.and_eq_true] at hs
  refine (pe_callTy hc hg hm hv ha hn hdb (star_each hs.1) (star_none hs.2)).imp fun σ H Q h => ?_
  obtain ⟨g, al, ρ, S, xa, rl, er, out⟩ := h
  exact TQ.step (k := kBlt k) xa rl er out fun x H1 g1 al1 v S1 e1 p1 xa1 rl1 er1 q1 out1 => kBlt_ok xa1 rl1 q1 out1

/-! ### items -/
theorem atI_reps {G : Gd} {K : PySem.W.Frag} {g : Gh} {H : Hp} {xs : List D} {vs : List V} {k : Int} {z : D} (h : Reps G K g H xs vs) (e : L2.atI xs k = some z) : ∃ v, L2.atI vs k = some v ∧ Rep G K g H z v := by
  unfold L2.atI at *
  rw [← reps_length h]
  cases q : L2.ixN xs.length k with
  | none => rw [q] at e; cases e
  | some j =>
    rw [q] at e
    exact reps_get h e
def rIdx (c : Ct) : R2 := fun x y H Q => ∃ σ g al S u w z, Fit c g ∧ Rl c.G c.K g H al S ∧ View c.G c.K g H u x ∧ Rep c.G c.K g H w y ∧ idxD u w = some z ∧ Out c (relL c) σ g H al (.ok (.d z) S) Q
theorem ix_all (hK : X.K = c.K) (hu : X.A.units + 1 < cLine) : IxR X (rIdx c) := by
  intro value slice pins s σ H x y v u Q I rx ry h hs
  obtain ⟨σ', g, al, S, m, w, z, xa, rl, vx, ry', e, out⟩ := h
  cases m <;> simp only [idxD] at e <;> try (cases e)
  case str t =>
    cases w <;> simp only at e <;> try (cases e)
    case int k =>
      cases rep_str vx
      cases rep_int (Rep.view ry')
      by_cases hl : t.length ≤ BIG
      · rw [if_pos hl] at e
        obtain ⟨cc, e1, rfl⟩ := Option.map_eq_some_iff.mp e
        exact ix_str value slice pins s σ H _ _ v u Q I rx ry ⟨t, k, cc, rfl, rfl, Nat.le_trans hl big_line, e1, out.str rl⟩ hs
      · rw [if_neg hl] at e; cases e
  case tup ys =>
    cases w <;> simp only at e <;> try (cases e)
    case int k =>
      obtain ⟨a, ws, rfl, h1, h2⟩ := tup_sq vx
      cases rep_int (Rep.view ry')
      obtain ⟨t, e1, e2⟩ := atI_reps h2 e
      exact ix_tup value slice pins s σ H _ _ v u Q I rx ry ⟨a, ws, k, t, rfl, rfl, hK ▸ h1, e1, out.data rl e2⟩ hs
  case lst ys =>
    cases w <;> simp only at e <;> try (cases e)
    case int k =>
      obtain ⟨a, ws, rfl, h1, h2⟩ := lst_sq vx
      cases rep_int (Rep.view ry')
      obtain ⟨t, e1, e2⟩ := atI_reps h2 e
      exact ix_list value slice pins s σ H _ _ v u Q I rx ry ⟨a, ws, k, t, rfl, rfl, hK ▸ h1, e1, out.data rl e2⟩ hs
  case scr ns =>
    cases w <;> simp only at e <;> try (cases e)
    case int k =>
      obtain ⟨a, rfl, h1⟩ := scr_sq vx
      cases rep_int (Rep.view ry')
      obtain ⟨i, e1, rfl⟩ := Option.map_eq_some_iff.mp e
      refine ix_list value slice pins s σ H _ _ v u Q I rx ry ⟨a, ns.map V.int, k, .int i, rfl, rfl, hK ▸ h1, ?_, out.int rl⟩ hs
      unfold L2.atI at *
      rw [List.length_map]
      cases q : L2.ixN ns.length k with
      | none => rw [q] at e1; cases e1
      | some j =>
        rw [q] at e1
        show (ns.map V.int)[j]? = _
        have e1 : ns[j]? = some i := e1
        rw [List.getElem?_map, e1]
        rfl
  case dct kvs =>
    cases q : cellOf w with
    | none => rw [q] at e; cases e
    | some cc =>
      rw [q] at e
      obtain ⟨a, ws, rfl, h1, h2⟩ := vx
      obtain ⟨bb, rfl, h3⟩ := cell_key ry' q
      obtain ⟨t, e1, e2⟩ := repK_some h2 e
      cases (show v = Value.ref a from rx)
      have dg : DGet H a (.ref bb) (some t) := by rw [← e1]; exact dget_rd h1 h3
      refine tail_any (ops := [.ref a, u]) (dict_typeIs I dg) PySem.F.slot_dict_getitem.lookup (d_getItem hu I dg ry fun w' s' I' rw' => ⟨t, H, I', rw', out.data rl e2⟩) hs
theorem se_idx (hK : X.K = c.K) (hu : X.A.units + 1 < cLine) (ha : SE X c a fa) (hb : SE X c b fb) (hs : notSlice b = true) : SE X c (.Subscript a b pos) (fun ρ S => (fa ρ S).bind fun x S1 => (fb ρ S1).bind (kIdx x)) :=
  SE.step2 (r := rIdx c) (pe_ix (ix_all hK hu) ha hb (plainIx_ok hs)) (fun _ _ _ h => h) fun σ g H al v w S x y Q xa rl q1 q2 out => by
    unfold kIdx at out
    split at out
    · rename_i u w' e
      split at out
      · rename_i z e2
        exact ⟨σ, g, al, S, u, w', z, xa, rl, view_of rl q1 e, q2, e2, out⟩
      · exact out.elim
    · exact out.elim
/-- slices -/
def relO (c : Ct) : Rn (Option Int) (Option Int) := fun _ _ _ a b => a = b
abbrev SO (X : Cx) (c : Ct) (e : Option Expr) (f : Env → Store → R (Option Int)) : Prop := PO X e (TQ c (relO c) f)
theorem _root_.L2.PO.imp {e : Option Expr} {t t' : TO} (h : PO X e t) (i : ∀ σ H Q, t' σ H Q → t σ H Q) : PO X e t' := ⟨fun pins s σ H Q I q => h.run pins s σ H Q I (i σ H Q q)⟩
theorem so_none : SO X c none (fun _ S => .ok none S) := po_none.imp fun σ H Q h => by
  obtain ⟨g, al, ρ, S, xa, rl, er, out⟩ := h
  exact out.here rl rfl
theorem so_some (ha : SE X c a fa) : SO X c (some a) (fun ρ S => (fa ρ S).bind kOp) := (po_some ha).imp fun σ H Q h => by
  obtain ⟨g, al, ρ, S, xa, rl, er, out⟩ := h
  refine TQ.step (k := kOp) xa rl er out fun x H1 g1 al1 v S1 e1 p1 xa1 rl1 er1 q1 out1 => ?_
  unfold kOp at out1
  split at out1
  · rename_i i
    cases rl_int q1
    exact ⟨i, rfl, out1.here rl1 rfl⟩
  · exact out1.elim
theorem cut_reps {G : Gd} {K : PySem.W.Frag} {g : Gh} {H : Hp} {xs : List D} {vs : List V} {lo hi : Option Int} (h : Reps G K g H xs vs) : Reps G K g H (cutL xs lo hi) (cutV vs lo hi) := by
  unfold cutL cutV
  rw [← reps_length h]
  exact reps_take _ (reps_drop _ h)
theorem cut_whole {xs : List D} {lo hi : Option Int} (h : HT.sIx xs.length 0 lo = 0 ∧ HT.sIx xs.length xs.length hi = xs.length) : cutL xs lo hi = xs := by
  unfold cutL
  rw [h.1, h.2, List.drop_zero, Nat.sub_zero, List.take_length]
theorem se_slc {lo hi : Option Expr} {fl fh : Env → Store → R (Option Int)} {p2 : Pos} (hK : X.K = c.K) (ha : SE X c a fa) (hl : SO X c lo fl) (hh : SO X c hi fh) : SE X c (.Subscript a (.Slice lo hi none p2) pos) (fun ρ S => (fa ρ S).bind fun x S1 => (fl ρ S1).bind fun l S2 => (fh ρ S2).bind (kSlc x l)) :=
  (pe_slice (sl_list.or (sl_tupQ.or C8.sl_txt)) ha hl hh).imp fun σ H Q h => by
    obtain ⟨g, al, ρ, S, xa, rl, er, out⟩ := h
    refine TQ.step (k := fun x S1 => (fl ρ S1).bind fun l S2 => (fh ρ S2).bind (kSlc x l)) xa rl er out fun x H1 g1 al1 v S1 e1 p1 xa1 rl1 er1 q1 out1 => ?_
    refine TQ.step (k := fun l S2 => (fh ρ S2).bind (kSlc v l)) xa1 rl1 er1 out1 fun l H2 g2 al2 l' S2 e2 p2 xa2 rl2 er2 q2 out2 => ?_
    refine TQ.step (k := kSlc v l') xa2 rl2 er2 out2 fun u H3 g3 al3 u' S3 e3 p3 xa3 rl3 er3 q3 out3 => ?_
    have q2 : l' = l := q2
    have q3 : u' = u := q3
    subst q2 q3
    have qv := (q1.mono e2 p2).mono e3 p3
    unfold kSlc at out3
    cases er' : rd S3 v with
    | none => rw [er'] at out3; exact out3.elim
    | some w =>
      rw [er'] at out3
      have vw := view_of rl3 qv er'
      cases w <;> simp only [slcD] at out3 <;> try exact out3.elim
      case lst ys =>
        obtain ⟨a, ws, rfl, h1, h2⟩ := lst_sq vw
        exact .inl ⟨a, ws, rfl, hK ▸ h1, Out.lst out3 rl3 (cut_reps h2)⟩
      case tup ys =>
        obtain ⟨a, ws, rfl, h1, h2⟩ := tup_sq vw
        refine .inr (.inl ⟨a, ws, rfl, hK ▸ h1, fun q => ?_, fun _ => out3.tup rl3 (cut_reps h2)⟩)
        rw [← reps_length h2] at q
        have out4 : Out c (relL c) σ g3 H3 al3 (.ok (.d (.tup (cutL ys l' u'))) S3) Q := out3
        rw [cut_whole q] at out4
        exact out4.data rl3 vw
      case str z =>
        by_cases hz : z.length ≤ BIG
        · rw [if_pos hz] at out3
          cases rep_str vw
          refine .inr (.inr ⟨z, rfl, Nat.le_trans hz big_line, ?_⟩)
          rw [← C8.cutS_slice]
          exact out3.str rl3
        · rw [if_neg hz] at out3; exact out3.elim
theorem se_revL {k : Nat} {p1 p2 p3 : Pos} (hK : X.K = c.K) (ha : SE X c a fa) : SE X c (.Subscript a (.Slice none none (some (.UnaryOp .USub (.Constant (.int 1) k p1) p2)) p3) pos) (fun ρ S => (fa ρ S).bind kRev) := (pe_revA ha).imp fun σ H Q h => by
  obtain ⟨g, al, ρ, S, xa, rl, er, out⟩ := h
  refine TQ.step (k := kRev) xa rl er out fun x H1 g1 al1 v S1 e1 p1 xa1 rl1 er1 q1 out1 => ?_
  unfold kRev at out1
  cases e : rd S1 v with
  | none => rw [e] at out1; exact out1.elim
  | some u =>
    rw [e] at out1
    cases u <;> simp only [revD] at out1 <;> try exact out1.elim
    case lst ys =>
      obtain ⟨a, ws, rfl, h1, h2⟩ := lst_sq (view_of rl1 q1 e)
      exact .inl ⟨a, ws, rfl, hK ▸ h1, Out.lst out1 rl1 (reps_reverse h2)⟩
    case tup ys =>
      obtain ⟨a, ws, rfl, h1, h2⟩ := tup_sq (view_of rl1 q1 e)
      exact .inr ⟨a, ws, rfl, hK ▸ h1, out1.tup rl1 (reps_reverse h2)⟩
theorem se_dct0 : SE X c (.Dict [] [] pos) (fun _ S => alloc (.dct []) S) := pe_dnewT.imp fun σ H Q h => by
  obtain ⟨g, al, ρ, S, xa, rl, er, out⟩ := h
  exact Out.dct out rl (by unfold RepK; rfl)

/-! ### fields -/
theorem fldN_big (n : Nat) : (fldN (n + 7)).length = n + 20 := by
  show (Array.replicate (n + 20) 97).size = _
  simp
theorem fldN_small : ∀ k, k < 7 → (fldN k).length < 20 := by decide
theorem fldN_both : ∀ k, k < 7 → ∀ m, m < 7 → fldN k = fldN m → k = m := by decide
theorem fldN_inj {m n : Nat} (h : fldN m = fldN n) : m = n := by
  by_cases hm : m < 7
  · by_cases hn : n < 7
    · exact fldN_both m hm n hn h
    · have q := congrArg Str.length h
      have e : n = (n - 7) + 7 := by omega
      have := fldN_small m hm
      rw [e, fldN_big] at q
      omega
  · have em : m = (m - 7) + 7 := by omega
    have q := congrArg Str.length h
    rw [em, fldN_big] at q
    by_cases hn : n < 7
    · have := fldN_small n hn
      omega
    · have en : n = (n - 7) + 7 := by omega
      rw [en, fldN_big] at q
      omega
theorem fget_rep {G : Gd} {K : PySem.W.Frag} {g : Gh} {H : Hp} : ∀ {fs : List (Nat × D)} {vs : List (Str × V)} {f : Nat} {y : D}, RepF G K g H fs vs → fget fs f = some y → ∃ v, vs.lookup (fldN f) = some v ∧ Rep G K g H y v
  | [], _, _, _, h, e => by cases e
  | (m, x) :: fs, _, f, y, h, e => by
    unfold RepF at h
    obtain ⟨v, r, rfl, h1, h2⟩ := h
    have e : (List.find? (fun kv : Nat × D => kv.1 == f) ((m, x) :: fs)).map (·.2) = some y := e
    rw [List.find?_cons] at e
    rw [List.lookup_cons]
    by_cases q : m = f
    · subst q
      have z : (m == m) = true := by simp
      simp only [z] at e
      cases e
      have z2 : (fldN m == fldN m) = true := by simp
      rw [z2]
      exact ⟨v, rfl, h1⟩
    · have z : (m == f) = false := by simp [q]
      simp only [z] at e
      have z2 : (fldN f == fldN m) = false := by
        simp
        exact fun z => q (fldN_inj z).symm
      rw [z2]
      exact fget_rep h2 e
/-- the classes' fields are plain -/
structure FldOk (c : Ct) (f : Nat) : Prop where
  cls : ∀ k, c.G.okC k → Cls c.K (c.G.clsA k) ∧ NoAttr c.K (c.G.clsA k) (fldN f)
/-- the error that is caught -/
structure ExnOk (X : Cx) (c : Ct) (f : Nat) : Prop where
  fld : ∀ (e : Expr) (te : TE) (pos : Pos) (a : Addr) (k : Nat) (d : Option Addr), c.xo a k d → PE X e te → plainBase e = true → f = xfld k → PE X (.Attribute e (fldN f) pos) (tXf a (.ref (c.G.clsA k)) d (c.G.clsA k) (fldN f) te)
theorem se_fld {f : Nat} {cf : CF} (hK : X.K = c.K) (F : FldOk c f) (ha : SE X c a fa) (hb : plainBase a = true) (hf : f < 5) : SE X c (.Attribute a (fldN f) pos) (fun ρ S => (fa ρ S).bind (kFld f)) := (pe_fld ha (base_ok hb)).imp fun σ H Q h => by
  obtain ⟨g, al, ρ, S, xa, rl, er, out⟩ := h
  refine TQ.step (k := kFld f) xa rl er out fun x H1 g1 al1 v S1 e1 p1 xa1 rl1 er1 q1 out1 => ?_
  have key : ∀ (o : Option D), Out c (relL c) σ g1 H1 al1 (match o with
      | some y => .ok (.d y) S1
      | none => .bad) Q → ∃ y, o = some y ∧ Out c (relL c) σ g1 H1 al1 (.ok (.d y) S1) Q := fun o out => by
    cases o with
    | none => exact out.elim
    | some y => exact ⟨y, rfl, out⟩
  have main : ∀ u, rd S1 v = some u → ∀ y, fldD u f = some y → Out c (relL c) σ g1 H1 al1 (.ok (.d y) S1) Q → ∃ a C dx fs v', x = .ref a ∧ H1 a = some (.ins C dx fs) ∧ Cls X.K C ∧ NoAttr X.K C (fldN f) ∧ fs.lookup (fldN f) = some v' ∧ Q v' H1 := fun u hu y hy out => by
    cases u <;> simp only [fldD] at hy <;> try (cases hy)
    case obj k fs =>
      obtain ⟨hok, a, dx, vs, rfl, h1, h2⟩ := view_of rl1 q1 hu
      obtain ⟨w, h3, h4⟩ := fget_rep h2 hy
      obtain ⟨c1, c2⟩ := F.cls k hok
      exact ⟨a, _, dx, vs, w, rfl, h1, hK ▸ c1, hK ▸ c2, h3, out.data rl1 h4⟩
  cases v with
  | x k ps =>
    have out1 : Out c (relL c) σ g1 H1 al1 (match Vl.x k ps with
      | .x c [y] => if f = xfld c then .ok (.d y) S1 else .bad
      | _ => if f < 5 then (match (rd S1 (Vl.x k ps)).bind (fldD · f) with
        | some y => .ok (.d y) S1
        | none => .bad) else .bad) Q := out1
    have hx : f ≠ xfld k := fun z => by unfold xfld at z; split at z <;> omega
    match ps, out1 with
    | [], out1 => simp only [if_pos hf] at out1; exact out1.elim
    | [y], out1 => simp only [if_neg hx] at out1; exact out1.elim
    | _ :: _ :: _, out1 => simp only [if_pos hf] at out1; exact out1.elim
  | d y =>
    have out1 : Out c (relL c) σ g1 H1 al1 (if f < 5 then (match (rd S1 (Vl.d y)).bind (fldD · f) with
        | some y => .ok (.d y) S1
        | none => .bad) else .bad) Q := out1
    rw [if_pos hf] at out1
    obtain ⟨z, e, out2⟩ := key _ out1
    obtain ⟨u, e1, e2⟩ := Option.bind_eq_some_iff.mp e
    exact main u e1 z e2 out2
  | r n =>
    have out1 : Out c (relL c) σ g1 H1 al1 (if f < 5 then (match (rd S1 (Vl.r n)).bind (fldD · f) with
        | some y => .ok (.d y) S1
        | none => .bad) else .bad) Q := out1
    rw [if_pos hf] at out1
    obtain ⟨z, e, out2⟩ := key _ out1
    obtain ⟨u, e1, e2⟩ := Option.bind_eq_some_iff.mp e
    exact main u e1 z e2 out2
/-! ### isinstance -/
def tyN : Ty → Str
  | .int => "int"
  | .bool => "bool"
  | .str => "str"
  | .tuple => "tuple"
  | .cls _ => "?"
def tyS : Ty → String
  | .int => "int"
  | .bool => "bool"
  | .str => "str"
  | .tuple => "tuple"
  | .cls _ => "?"
def tyD : D → Option String
  | .non => some "NoneType"
  | .bl _ => some "bool"
  | .int _ => some "int"
  | .str _ => some "str"
  | .tup _ => some "tuple"
  | _ => none
theorem isiD_ty {u : D} {t : Ty} {b : Bool} (h : isiD u t = some b) : ∃ n, tyD u = some n ∧ kitB n (tyS t) = some b := by
  cases u <;> cases t <;> simp only [isiD] at h <;> first
    | (cases h; done)
    | (cases h; exact ⟨_, rfl, by decide +kernel⟩)
theorem tyD_ok {G : Gd} {K : PySem.W.Frag} {g : Gh} {H : Hp} {u : D} {x : V} {n : String} (h : Rep G K g H u x) (e : tyD u = some n) : TyX K H x (.type n) := by
  cases u <;> simp only [tyD] at e <;> cases e
  case non => cases rep_non (Rep.view h); exact .base .non
  case bl => cases rep_bl (Rep.view h); exact .base (.bl _)
  case int => cases rep_int (Rep.view h); exact .base (.int _)
  case str => cases rep_str (Rep.view h); exact .base (.str _)
  case tup =>
    obtain ⟨a, vs, rfl, h1, h2⟩ := rep_tup (Rep.view h)
    rcases h1 with (h1 | ⟨o, h1⟩) | ⟨o, _, _, h1, h3, _⟩
    · exact .base (.tup h1)
    · exact .fTuple h1
    · exact .kTuple h1 h3
theorem se_isi {t : Ty} {p2 : Pos} (hK : X.K = c.K) (ht : ∀ k, t ≠ .cls k) (hg : Gl X "isinstance") (hm : X.mg "isinstance" = none) (hg2 : Gl X (tyN t)) (hm2 : X.mg (tyN t) = none)
    (ha : SE X c a fa) (hs : notStar a = true) : SE X c (.Call (.Name "isinstance" p) [a, .Name (tyN t) p2] [] pos) (fun ρ S => (fa ρ S).bind (kIsi t)) := by
  have ht2 : PE X (.Name (tyN t) p2) (tC (.ty (tyS t))) := by
    cases t with
    | cls k => exact absurd rfl (ht k)
    | int => exact pe_bltn (x := "int") hg2 hm2 (u := .type "int") (by decide +kernel) rfl (by decide) (by decide)
    | bool => exact pe_bltn (x := "bool") hg2 hm2 (u := .type "bool") (by decide +kernel) rfl (by decide) (by decide)
    | str => exact pe_bltn (x := "str") hg2 hm2 (u := .type "str") (by decide +kernel) rfl (by decide) (by decide)
    | tuple => exact pe_bltn (x := "tuple") hg2 hm2 (u := .type "tuple") (by decide +kernel) rfl (by decide) (by decide)
  refine (pe_callB call_isi hg hm (by decide +kernel) (pa_cons ha (pa_cons ht2 pa_nil) (star_each hs)) (by decide) (by decide) (star_each hs) rfl).imp fun σ H Q h => ?_
  obtain ⟨g, al, ρ, S, xa, rl, er, out⟩ := h
  refine TQ.step (k := kIsi t) xa rl er out fun x H1 g1 al1 v S1 e1 p1 xa1 rl1 er1 q1 out1 => ?_
  unfold kIsi at out1
  split at out1
  · rename_i u
    split at out1
    · rename_i b hb
      obtain ⟨n, h1, h2⟩ := isiD_ty hb
      exact ⟨x, _, _, _, b, rfl, .ty _, hK ▸ (tyD_ok (G := c.G) (K := c.K) (g := g1) (H := H1) (show Rep c.G c.K g1 H1 u x from q1) h1), kit_ty h2, out1.bl rl1⟩
    · exact out1.elim
  · exact absurd rfl (ht _)
  · exact out1.elim
/-- .. of the error that is caught -/
structure ExnIs (X : Cx) (c : Ct) : Prop where
  call : ∀ a k d, c.xo a k d → CallR X (.builtin "isinstance") (rIsE2 X.K (c.G.clsA k) a d)
def rIsX (X : Cx) (c : Ct) : List V → Hp → VK → Prop := fun xs H Q => ∃ a k d, c.xo a k d ∧ rIsE2 X.K (c.G.clsA k) a d xs H Q
theorem cr_isX (E : ExnIs X c) : CallR X (.builtin "isinstance") (rIsX X c) := by
  intro pins s σ H xs us Q I r h
  obtain ⟨a, k, d, h1, h2⟩ := h
  exact E.call a k d h1 pins s σ H xs us Q I r h2
theorem repX_xd {G : Gd} {K : PySem.W.Frag} {g : Gh} {H : Hp} {k : Nat} {p : List D} {d : Option Addr} (h : RepX G K g H k p d) : ∀ dd, d = some dd → ∃ fs, H dd = some (.xd fs) := fun dd e => by
  cases p with
  | nil =>
    unfold RepX at h
    rw [h.2] at e
    cases e
  | cons x xs =>
    unfold RepX at h
    obtain ⟨_, _, d2, v, h1, _, h2, _⟩ := h
    rw [h1] at e
    cases e
    exact ⟨_, h2⟩
theorem se_isx {k2 : Nat} {p2 : Pos} {x2 : Str} {t2 : TE} {cv : V} {cu : Value} (E : ExnIs X c) (hg : Gl X "isinstance") (hm : X.mg "isinstance" = none) (ht2 : PE X (.Name x2 p2) (tC cv)) (hcv : ∀ u, RelV cv u → u = cu) (hk : ∀ a k d, c.xo a k d → PySem.W.kitOne X.K (.ref (c.G.clsA k)) cu = some (excSub k k2))
    (ha : SE X c a fa) (hs : notStar a = true) : SE X c (.Call (.Name "isinstance" p) [a, .Name x2 p2] [] pos) (fun ρ S => (fa ρ S).bind (kIsi (.cls k2))) := by
  refine (pe_callB (cr_isX E) hg hm (by decide +kernel) (pa_cons ha (pa_cons ht2 pa_nil) (star_each hs)) (by decide) (by decide) (star_each hs) rfl).imp fun σ H Q h => ?_
  obtain ⟨g, al, ρ, S, xa, rl, er, out⟩ := h
  refine TQ.step (k := kIsi (.cls k2)) xa rl er out fun x H1 g1 al1 v S1 e1 p1 xa1 rl1 er1 q1 out1 => ?_
  unfold kIsi at out1
  split at out1
  · rename_i u
    cases u <;> exact out1.elim
  · rename_i k p k3 hk3
    cases hk3
    obtain ⟨ad, d, rfl, h1, h2⟩ := q1
    rw [xa1.xa] at h1
    exact ⟨ad, k, d, h1, cv, cu, _, rfl, hcv, hk ad k d h1, repX_xd h2, out1.bl rl1⟩
  · exact out1.elim
/-- what the caught error carries -/
structure ExnFld (X : Cx) (c : Ct) : Prop where
  get : ∀ a k dd, c.xo a k (some dd) → ∀ (pins : List (Addr × Obj)) (σ : L2.St) (H1 : Hp) (s1 : Shared) (fs : List (Str × V)) (v : V) (Q : VK), Inv X pins σ H1 s1 → H1 dd = some (.xd fs) → fs.lookup (excF k) = some v → Q v H1 → wpAny (model X.prog X.w) X.A (getAttr (.ref a) (excF k) true) (EP X pins σ Q) X.xe s1
theorem fld_exc (k : Nat) : fldN (xfld k) = excF k := by
  unfold xfld excF
  split <;> rfl
theorem se_xfld {f : Nat} (h5 : ¬ f < 5) (G : ExnFld X c) (ha : SE X c a fa) (hb : plainBase a = true) : SE X c (.Attribute a (fldN f) pos) (fun ρ S => (fa ρ S).bind (kFld f)) := by
  refine ⟨fun pins s σ H Q I h => ?_⟩
  obtain ⟨g, al, ρ, S, xa, rl, er, out⟩ := h
  have key : TQ c (relL c) fa σ H (fun x H1 => ∃ ad k dd v, c.xo ad k (some dd) ∧ f = xfld k ∧ x = .ref ad ∧ H1 dd = some (.xd [(excF k, v)]) ∧ Q v H1) :=
    TQ.step (k := kFld f) xa rl er out fun x H1 g1 al1 v S1 e1 p1 xa1 rl1 er1 q1 out1 => by
      cases v with
      | d y =>
        have out1 : Out c (relL c) σ g1 H1 al1 (if f < 5 then (match (rd S1 (Vl.d y)).bind (fldD · f) with
          | some y => .ok (.d y) S1
          | none => .bad) else .bad) Q := out1
        rw [if_neg h5] at out1
        exact out1.elim
      | r n =>
        have out1 : Out c (relL c) σ g1 H1 al1 (if f < 5 then (match (rd S1 (Vl.r n)).bind (fldD · f) with
          | some y => .ok (.d y) S1
          | none => .bad) else .bad) Q := out1
        rw [if_neg h5] at out1
        exact out1.elim
      | x k ps =>
        have out1 : Out c (relL c) σ g1 H1 al1 (match Vl.x k ps with
          | .x c [y] => if f = xfld c then .ok (.d y) S1 else .bad
          | _ => if f < 5 then (match (rd S1 (Vl.x k ps)).bind (fldD · f) with
            | some y => .ok (.d y) S1
            | none => .bad) else .bad) Q := out1
        match ps, q1, out1 with
        | [], q1, out1 => simp only [if_neg h5] at out1; exact out1.elim
        | _ :: _ :: _, q1, out1 => simp only [if_neg h5] at out1; exact out1.elim
        | [y], q1, out1 =>
          by_cases hx : f = xfld k
          · simp only [if_pos hx] at out1
            obtain ⟨ad, d, rfl, h1, h2⟩ := q1
            unfold RepX at h2
            obtain ⟨_, _, dd, v, rfl, _, h4, h6⟩ := h2
            rw [xa1.xa] at h1
            exact ⟨ad, k, dd, v, h1, hx, rfl, h4, out1.data rl1 h6⟩
          · simp only [if_neg hx] at out1
            exact out1.elim
  refine attr_of (base_ok hb) (thn (ha.run pins s σ H _ I key) fun u s1 hh => ?_)
  obtain ⟨x, H1, I1, rx, ad, k, dd, v, h1, hx, ex, ea, q⟩ := hh
  subst ex
  obtain rfl : u = Value.ref ad := rx
  subst hx
  rw [fld_exc]
  exact G.get ad k dd h1 pins σ H1 s1 _ v Q I1 ea (by simp [List.lookup]) q
end
end SW

-- SwI
set_option Elab.async false
set_option linter.all false
set_option maxRecDepth 100000
set_option maxHeartbeats 4000000
set_option autoImplicit false
/-! SwI: targets, what is walked, comprehensions -/
namespace SW
open PySem PySem.Spec PyProof.Rows L2

/-! ### targets -/
def Tg.ix : Tg → List Nat
  | .one i => [i]
  | .tup is => is
theorem wipe_get (σ : L2.St) : ∀ (own : List Nat) (j : Nat), (L2.wipe σ own)[j]? = if j ∈ own then σ[j]?.map (fun _ => none) else σ[j]?
  | [], j => by simp [L2.wipe]
  | v :: vs, j => by
    unfold L2.wipe
    by_cases h : v = j
    · subst h
      rw [if_pos List.mem_cons_self, List.getElem?_set]
      simp only [if_true, L2.wipe_length]
      by_cases hl : v < σ.length
      · rw [if_pos hl, List.getElem?_eq_getElem hl]; rfl
      · rw [if_neg hl, List.getElem?_eq_none (by omega)]; rfl
    · rw [List.getElem?_set_ne h, wipe_get σ vs j]
      have e : (j ∈ v :: vs) = (j ∈ vs) := by simp [Ne.symm h]
      simp only [e]
theorem wipe_set (σ : L2.St) (own : List Nat) (i : Nat) (v : V) (h : i ∈ own) : L2.wipe (σ.set i (some v)) own = L2.wipe σ own := by
  apply List.ext_getElem?
  intro j
  rw [wipe_get, wipe_get]
  by_cases hj : j ∈ own
  · rw [if_pos hj, if_pos hj]
    by_cases e : i = j
    · subst e
      rw [List.getElem?_set]
      simp only [if_true]
      by_cases hl : i < σ.length
      · rw [if_pos hl, List.getElem?_eq_getElem hl]; rfl
      · rw [if_neg hl, List.getElem?_eq_none (by omega)]
    · rw [List.getElem?_set_ne e]
  · rw [if_neg hj, if_neg hj, List.getElem?_set_ne (fun e => hj (by rw [← e]; exact h))]
def gQ (c : Ct) (t : Tg) : TG := fun v σ H Q => ∃ g al ρ ρ1 x, Er c.G c.K g H al ρ σ ∧ Rep c.G c.K g H x v ∧ asg t x ρ = some ρ1 ∧
  ∀ σ1, Er c.G c.K g H al ρ1 σ1 → (∀ own : List Nat, (∀ i ∈ t.ix, i ∈ own) → L2.wipe σ1 own = L2.wipe σ own) → Q σ1 H
def gQs (c : Ct) (is : List Nat) : TGs := fun vs σ H Q => ∃ g al ρ ρ1 xs, Er c.G c.K g H al ρ σ ∧ Reps c.G c.K g H xs vs ∧ setAll is xs ρ = some ρ1 ∧
  ∀ σ1, Er c.G c.K g H al ρ1 σ1 → (∀ own : List Nat, (∀ i ∈ is, i ∈ own) → L2.wipe σ1 own = L2.wipe σ own) → Q σ1 H
section
variable {X : Cx} {c : Ct} {pos : Pos}
theorem _root_.L2.PG.imp {e : Expr} {t t' : TG} (h : PG X e t) (i : ∀ v σ H Q, t' v σ H Q → t v σ H Q) : PG X e t' := ⟨fun pins s σ H v u Q I r q => h.run pins s σ H v u Q I r (i v σ H Q q)⟩
theorem _root_.L2.PGs.imp {e : List Expr} {t t' : TGs} (h : PGs X e t) (i : ∀ v σ H Q, t' v σ H Q → t v σ H Q) : PGs X e t' := ⟨fun pins s σ H v u Q I r q => h.run pins s σ H v u Q I r (i v σ H Q q)⟩
/-- the name's slot, and that it is the def's own -/
structure NmOk (X : Cx) (i : Nat) (x : Str) : Prop where
  at_ : X.N[i]? = some x
  loc : Loc X.env.scope x
  fn : X.fn x = true ∨ X.env.scope.names.lookup x = some .local
theorem sg_one {i : Nat} {x : Str} (hN : X.N.Nodup) (h : NmOk X i x) : PG X (.Name x pos) (gQ c (.one i)) := (pg_name hN h.at_ h.loc h.fn).imp fun v σ H Q q => by
  obtain ⟨g, al, ρ, ρ1, x, er, rp, e, q⟩ := q
  cases e
  exact q _ (er.set rp) fun own ho => wipe_set σ own i v (ho i (by simp [Tg.ix]))
inductive NmsOk (X : Cx) : List Nat → List Expr → Prop where
  | nil : NmsOk X [] []
  | cons {i : Nat} {is : List Nat} {x : Str} {p : Pos} {es : List Expr} (h : NmOk X i x) (t : NmsOk X is es) : NmsOk X (i :: is) (.Name x p :: es)
theorem sgs {is : List Nat} {es : List Expr} (hN : X.N.Nodup) (h : NmsOk X is es) : PGs X es (gQs c is) := by
  induction h with
  | nil =>
      refine pgs_nil.imp fun v σ H Q q => ?_
      obtain ⟨g, al, ρ, ρ1, xs, er, rp, e, q⟩ := q
      cases xs with
      | nil =>
        cases e
        unfold Reps at rp
        exact ⟨rp, q σ er fun _ _ => rfl⟩
      | cons x xs => cases e
  | @cons i is x p es h t ih =>
      refine (pgs_cons (pg_name hN h.at_ h.loc h.fn) ih).imp fun v σ H Q q => ?_
      obtain ⟨g, al, ρ, ρ1, xs, er, rp, e, q⟩ := q
      cases xs with
      | nil => cases e
      | cons y ys =>
        have e : setAll is ys (ρ.set i (some (.d y))) = some ρ1 := e
        unfold Reps at rp
        obtain ⟨w, r, rfl, h1, h2⟩ := rp
        refine ⟨w, r, rfl, g, al, _, ρ1, ys, er.set (x := .d y) h1, h2, e, fun σ1 er1 hw => q σ1 er1 fun own ho => ?_⟩
        rw [hw own (fun j hj => ho j (List.mem_cons_of_mem _ hj))]
        exact wipe_set σ own i w (ho i List.mem_cons_self)
theorem nms_len {is : List Nat} {es : List Expr} (h : NmsOk X is es) : (assignEach es X.env).length = is.length := by
  induction h with
  | nil => rfl
  | cons h t ih => show (_ :: assignEach _ X.env).length = _; rw [List.length_cons, List.length_cons, ih]
theorem nms_star {is : List Nat} {es : List Expr} (h : NmsOk X is es) : (assignEach es X.env).findIdx? (·.1) = none := by
  induction h with
  | nil => rfl
  | cons h t ih =>
    show ((false, _) :: assignEach _ X.env).findIdx? (·.1) = none
    rw [List.findIdx?_cons, ih]
    rfl
theorem setAll_len : ∀ {is : List Nat} {xs : List D} {ρ ρ1 : Env}, setAll is xs ρ = some ρ1 → xs.length = is.length
  | [], [], _, _, _ => rfl
  | [], _ :: _, _, _, e => by cases e
  | _ :: _, [], _, _, e => by cases e
  | i :: is, x :: xs, ρ, _, e => by
    have e : setAll is xs (ρ.set i (some (.d x))) = _ := e
    rw [List.length_cons, List.length_cons, setAll_len e]
theorem sg_tup {is : List Nat} {es : List Expr} {k : Nat} (hK : X.K = c.K) (hc : X.calm = true) (hN : X.N.Nodup) (h : NmsOk X is es) : PG X (.Tuple es k pos) (gQ c (.tup is)) := (pg_tup hc (sgs hN h) (nms_len h) (nms_star h)).imp fun v σ H Q q => by
  obtain ⟨g, al, ρ, ρ1, x, er, rp, e, q⟩ := q
  cases x <;> try (cases e; done)
  rename_i xs
  have e : setAll is xs ρ = some ρ1 := e
  obtain ⟨a, vs, rfl, h1, h2⟩ := rep_tup (Rep.view rp)
  exact ⟨a, vs, rfl, hK ▸ h1, by rw [← reps_length h2]; exact setAll_len e, g, al, ρ, ρ1, xs, er, h2, e, q⟩

/-! ### a dict's keys, one by one -/
section
variable {G : Gd} {K : PySem.W.Frag} {g : Gh} {H : Hp}
theorem repK_at : ∀ {kvs : List (Cell × D)} {vs : List (List Key × V)} {i : Nat} {kv : Cell × D}, RepK G K g H kvs vs → kvs[i]? = some kv → ∃ v, vs[i]? = some (keyC kv.1, v)
  | [], _, _, _, _, e => by simp at e
  | (c, x) :: kvs, _, 0, kv, h, e => by
    unfold RepK at h
    obtain ⟨v, r, rfl, h1, h2⟩ := h
    have e : (c, x) = kv := by simpa using e
    subst e
    exact ⟨v, rfl⟩
  | (c, x) :: kvs, _, i + 1, kv, h, e => by
    unfold RepK at h
    obtain ⟨v, r, rfl, h1, h2⟩ := h
    obtain ⟨w, q⟩ := repK_at (i := i) (kv := kv) h2 (by simpa using e)
    exact ⟨w, by simpa using q⟩
theorem rep_key {b : Addr} {cc : Cell} (h : H b = some (.tup ((keyC cc).map kV))) : Rep G K g H (cellD cc) (.ref b) := by
  show Rep G K g H (.tup [.int cc.1, .int cc.2]) (.ref b)
  unfold Rep
  refine ⟨b, _, rfl, h, ?_⟩
  show Reps G K g H [.int cc.1, .int cc.2] [kV (Sum.inl cc.1), kV (Sum.inl cc.2)]
  unfold Reps
  refine ⟨_, _, rfl, by unfold Rep; rfl, ?_⟩
  unfold Reps
  refine ⟨_, _, rfl, by unfold Rep; rfl, ?_⟩
  unfold Reps
  rfl
end
/-! ### what is walked -/
def Wk (c : Ct) : Rn (List D) L2.It := fun g H al xs J => ∀ g' H', Ext g H g' H' → ∀ i, (∀ z, xs[i]? = some z → J.go i H' ∧ ∀ x H2, J.yld i H' x H2 → H2 = H' ∧ Rep c.G c.K g' H' z x) ∧ (xs.length ≤ i → J.stop i H')
theorem _root_.L2.PI.imp {tg e : Expr} {t t' : TI} (h : PI X tg e t) (i : ∀ σ H Q, t' σ H Q → t σ H Q) : PI X tg e t' := ⟨fun pins s σ H Q I q => h.run pins s σ H Q I (i σ H Q q)⟩
abbrev SI (X : Cx) (c : Ct) (tg e : Expr) (f : Env → Store → R (List D)) : Prop := PI X tg e (TQ c (Wk c) f)
theorem wk_rng {G : Gd} {g : Gh} {H : Hp} {al : List Addr} {lo : Int} {n : Nat} : Wk c g H al (rngL lo n) (Itr lo n) := fun g' H' e i => by
  refine ⟨fun z hz => ?_, fun hl => ?_⟩
  · unfold rngL at hz
    rw [List.getElem?_map] at hz
    obtain ⟨j, h1, h2⟩ := Option.map_eq_some_iff.mp hz
    obtain ⟨hlt, h3⟩ := List.getElem?_eq_some_iff.mp h1
    rw [List.length_range] at hlt
    have h3 : i = j := by simpa using h3
    subst h3 h2
    exact ⟨hlt, fun x H2 y => ⟨y.1, by rw [y.2]; unfold Rep; rfl⟩⟩
  · unfold rngL at hl
    rw [List.length_map, List.length_range] at hl
    exact hl
variable {a b tg : Expr} {fa fb : Env → Store → R Vl} {p : Pos}
theorem okI_ok {n : Int} (h : okI n = true) : -(2 ^ 62) ≤ n ∧ n < 2 ^ 62 := of_decide_eq_true h
theorem si_rng1 (hg : Gl X "range") (hm : X.mg "range" = none) (ha : SE X c a fa) (hs : notStar a = true) : SI X c tg (.Call (.Name "range" p) [a] [] pos) (fun ρ S => (fa ρ S).bind kRng1) :=
  (pi_range1 hg hm (pa_cons ha pa_nil (star_each hs)) (star_each hs)).imp fun σ H Q h => by
    obtain ⟨g, al, ρ, S, xa, rl, er, out⟩ := h
    refine TQ.step (k := kRng1) xa rl er out fun x H1 g1 al1 v S1 e1 p1 xa1 rl1 er1 q1 out1 => ?_
    unfold kRng1 at out1
    split at out1
    · rename_i n
      cases rl_int q1
      by_cases hn : okI n = true
      · rw [if_pos hn] at out1
        obtain ⟨h1, h2⟩ := okI_ok hn
        exact ⟨n, rfl, h1, h2, out1.here rl1 (wk_rng (G := c.G))⟩
      · rw [if_neg hn] at out1; exact out1.elim
    · exact out1.elim
theorem si_rng2 (hg : Gl X "range") (hm : X.mg "range" = none) (ha : SE X c a fa) (hb : SE X c b fb) (hs : notStar a = true) (hs2 : notStar b = true) : SI X c tg (.Call (.Name "range" p) [a, b] [] pos) (fun ρ S => (fa ρ S).bind fun x S1 => (fb ρ S1).bind (kRng2 x)) :=
  (pi_range2 hg hm (pa_cons ha (pa_cons hb pa_nil (star_each hs2)) (star_each hs)) (by rw [star_each hs, star_each hs2]; rfl) (star_each hs2)).imp fun σ H Q h => by
    obtain ⟨g, al, ρ, S, xa, rl, er, out⟩ := h
    refine TQ.step (k := fun x S1 => (fb ρ S1).bind (kRng2 x)) xa rl er out fun x H1 g1 al1 v S1 e1 p1 xa1 rl1 er1 q1 out1 => ?_
    refine TQ.step (k := kRng2 v) xa1 rl1 er1 out1 fun y H2 g2 al2 w S2 e2 p2 xa2 rl2 er2 q2 out2 => ?_
    unfold kRng2 at out2
    split at out2
    · rename_i i j
      cases rl_int q1
      cases rl_int q2
      by_cases hn : (okI i && okI j) = true
      · rw [if_pos hn] at out2
        rw [Bool.and_eq_true] at hn
        obtain ⟨h1, h2⟩ := okI_ok hn.1
        obtain ⟨h3, h4⟩ := okI_ok hn.2
        exact ⟨i, j, rfl, ⟨h1, h2, h3, h4⟩, out2.here rl2 (wk_rng (G := c.G))⟩
      · rw [if_neg hn] at out2; exact out2.elim
    · exact out2.elim
theorem wk_rngS {G : Gd} {g : Gh} {H : Hp} {al : List Addr} {lo k : Int} {n : Nat} : Wk c g H al (rngS lo k n) (Itc lo k n) := fun g' H' e i => by
  refine ⟨fun z hz => ?_, fun hl => ?_⟩
  · unfold rngS at hz
    rw [List.getElem?_map] at hz
    obtain ⟨j, h1, h2⟩ := Option.map_eq_some_iff.mp hz
    obtain ⟨hlt, h3⟩ := List.getElem?_eq_some_iff.mp h1
    rw [List.length_range] at hlt
    have h3 : i = j := by simpa using h3
    subst h3 h2
    exact ⟨hlt, fun x H2 y => ⟨y.1, by rw [y.2]; unfold Rep; rfl⟩⟩
  · unfold rngS at hl
    rw [List.length_map, List.length_range] at hl
    exact hl
theorem si_rng3 {d : Expr} {fd : Env → Store → R Vl} (hg : Gl X "range") (hm : X.mg "range" = none) (ha : SE X c a fa) (hb : SE X c b fb) (hd : SE X c d fd) (hs : notStar a = true) (hs2 : notStar b = true) (hs3 : notStar d = true) :
    SI X c tg (.Call (.Name "range" p) [a, b, d] [] pos) (fun ρ S => (fa ρ S).bind fun x S1 => (fb ρ S1).bind fun y S2 => (fd ρ S2).bind (kRng3 x y)) :=
  (pi_range3 hg hm (pa_cons ha (pa_cons hb (pa_cons hd pa_nil (star_each hs3)) (star_each hs2)) (star_each hs)) (star_each hs) (by rw [star_each hs2, star_each hs3]; rfl)).imp fun σ H Q h => by
    obtain ⟨g, al, ρ, S, xa, rl, er, out⟩ := h
    refine TQ.step (k := fun x S1 => (fb ρ S1).bind fun y S2 => (fd ρ S2).bind (kRng3 x y)) xa rl er out fun x H1 g1 al1 v S1 e1 p1 xa1 rl1 er1 q1 out1 => ?_
    refine TQ.step (k := fun y S2 => (fd ρ S2).bind (kRng3 v y)) xa1 rl1 er1 out1 fun y H2 g2 al2 w S2 e2 p2 xa2 rl2 er2 q2 out2 => ?_
    refine TQ.step (k := kRng3 v w) xa2 rl2 er2 out2 fun z H3 g3 al3 u S3 e3 p3 xa3 rl3 er3 q3 out3 => ?_
    unfold kRng3 at out3
    split at out3
    · rename_i i j k
      cases rl_int q1
      cases rl_int q2
      cases rl_int q3
      by_cases hn : k ≠ 0 ∧ k.natAbs < 1073741824 ∧ Builtin.Range.small i j k = true ∧ 0 ≤ Builtin.Range.rangeSize i j k
      · rw [if_pos hn] at out3
        obtain ⟨n0, n1, n2, n3⟩ := hn
        exact ⟨i, j, k, _, rfl, ⟨n0, n1, n2, (Int.toNat_of_nonneg n3).symm⟩, out3.here rl3 (wk_rngS (G := c.G))⟩
      · rw [if_neg hn] at out3; exact out3.elim
    · exact out3.elim
/-- a list, a tuple, a text -/
def iAny (K : PySem.W.Frag) (tl : TE) : TI := fun σ H R => tl σ H fun x H1 =>
  (∃ a, x = .ref a ∧ (∃ xs, SqL K H1 a xs) ∧ R (Itl K a) H1) ∨ (∃ a, x = .ref a ∧ (∃ xs, SqT K H1 a xs) ∧ R (Itt K a) H1) ∨ (∃ y, x = .str y ∧ R (Its y) H1) ∨
  ∃ a kvs, x = .ref a ∧ Rd H1 a (.dT kvs) ∧ (∀ o, H1 a = some (.frz o (.dT kvs)) → R (Itkt a o kvs) H1) ∧ (H1 a = some (.dT kvs) → ∀ o, R (Itkt a o kvs) (upd H1 a (.frz o (.dT kvs))))
theorem pi_any {l : Expr} {tl : TE} (hl : PE X l tl) : PI X tg l (iAny X.K tl) := by
  refine ⟨fun pins s σ H R I h => ?_⟩
  refine thn (hl.run pins s σ H _ I h) fun v s1 ⟨x, H1, I1, r1, q1⟩ => ?_
  rcases q1 with ⟨a, e, ⟨xs, hq⟩, q⟩ | ⟨a, e, ⟨xs, hq⟩, q⟩ | ⟨y, e, q⟩ | ⟨a, kvs, e, hr, q1, q2⟩
  · subst e
    cases r1
    obtain ⟨its, rv, p, hz⟩ := I1.list hq
    refine wpAny_pyIter_list p.isList ?_
    refine ⟨s1.heap.objs.size, [s1.heap.objs.size], _, _, H1, rfl, I1.kept (t' := s1.toks) fun b o e => Heap.get?_push_of_some _ e, turn_list a _, ⟨_, Heap.get?_push_size _ rfl, rfl, rfl⟩, fun b hb => ?_, q⟩
    have e : b = s1.heap.objs.size := by simpa using hb
    subst e
    exact I1.fpOk (Nat.le_refl _) (I1.hok.fresh (Nat.le_refl _))
  · subst e
    cases r1
    obtain ⟨its, rv, p, hz⟩ := I1.tuple hq
    refine wpAny_pyIter_tuple (show s1.heap.IsTuple a its.toArray from p) ?_
    refine ⟨s1.heap.objs.size, [s1.heap.objs.size], _, _, H1, rfl, I1.kept (t' := s1.toks) fun b o e => Heap.get?_push_of_some _ e, turn_tuple a _, ⟨_, Heap.get?_push_size _ rfl, rfl, rfl⟩, fun b hb => ?_, q⟩
    have e : b = s1.heap.objs.size := by simpa using hb
    subst e
    exact I1.fpOk (Nat.le_refl _) (I1.hok.fresh (Nat.le_refl _))
  · subst e
    obtain ⟨t, rfl⟩ := r1
    cases ha : y.cps.all (· < 128)
    · exact wpAny_pyIter_wide ha (pi_one (tk := s1.toks) I1 _ (turn_str _ y t "str_iterator" (.inr rfl)) ⟨_, Heap.get?_push_size _ rfl, rfl, rfl⟩ q)
    · exact wpAny_pyIter_ascii ha (pi_one (tk := s1.toks) I1 _ (turn_str _ y t "str_ascii_iterator" (.inl rfl)) ⟨_, Heap.get?_push_size _ rfl, rfl, rfl⟩ q)
  · subst e
    cases r1
    have fin : ∀ (o : Obj) (H2 : Hp), Inv X pins σ H2 s1 → H2 a = some (.frz o (.dT kvs)) → R (Itkt a o kvs) H2 → wpAny (model X.prog X.w) X.A (pyIter (.ref a)) (PIE X pins σ tg R) X.xe s1 := fun o H2 I2 hd q => by
      obtain ⟨hs, hgd, hx, es, ep, hdt, hsz, ent⟩ := I2.frzT hd
      refine iter_keys hs hgd hx hdt (pi_one (tk := s1.toks) I2 _ (turn_keysT _ hdt) ⟨_, Heap.get?_push_size _ rfl, rfl, ?_⟩ q)
      rw [hsz] <;> rfl
    rcases hr with h | ⟨o, h⟩
    · obtain ⟨o, I2⟩ := I1.lock h True.intro
      exact fin o _ I2 upd_same (q2 h o)
    · exact fin o H1 I1 h (q1 o h)
theorem SqL.the {K : PySem.W.Frag} {H : Hp} {a : Addr} {xs : List V} (h : H a = some (.lst xs)) : SqL K H a xs := .inl (.inl h)
theorem si_ov (hK : X.K = c.K) (ha : SE X c a fa) : SI X c tg a (fun ρ S => ((fa ρ S).bind kD).bind kItems) := (pi_any ha).imp fun σ H Q h => by
  obtain ⟨g, al, ρ, S, xa, rl, er, out⟩ := h
  simp only [R.bind_assoc] at out
  refine TQ.step (k := fun x S1 => (kD x S1).bind kItems) xa rl er out fun x H1 g1 al1 v S1 e1 p1 xa1 rl1 er1 q1 out1 => ?_
  obtain ⟨g2, y, S2, e2, xa2, rl2, q2, out2⟩ := kD_okV xa1 rl1 q1 out1
  unfold kItems at out2
  cases y <;> simp only [itemsD] at out2 <;> try exact out2.elim
  case lst xs =>
    unfold Rep at q2
    obtain ⟨a, vs, rfl, hF, h1, h2⟩ := q2
    refine .inl ⟨a, rfl, ⟨vs, hK ▸ SqL.the h1⟩, out2.here rl2 fun g' H' e i => ?_⟩
    have h1' : H' a = some (.lst vs) := (e.frz a hF).keep h1 (fun _ z => nomatch z)
    refine ⟨fun z hz => ?_, fun hl => ⟨vs, SqL.the h1', by rw [← reps_length h2]; exact hl⟩⟩
    obtain ⟨w, hw, rw'⟩ := reps_get (h2.mono e) hz
    exact ⟨⟨vs, w, SqL.the h1', hw⟩, fun x H2 y => ⟨y.1, by have q := y.2 vs (SqL.the h1'); rw [hw] at q; cases q; exact rw'⟩⟩
  case tup xs =>
    unfold Rep at q2
    obtain ⟨a, vs, rfl, h1, h2⟩ := q2
    refine .inr (.inl ⟨a, rfl, ⟨vs, .inl h1.rd⟩, out2.here rl2 fun g' H' e i => ?_⟩)
    have h1' : Rd H' a (.tup vs) := (h1.mono e.z).rd
    refine ⟨fun z hz => ?_, fun hl => ⟨vs, .inl h1', by rw [← reps_length h2]; exact hl⟩⟩
    obtain ⟨w, hw, rw'⟩ := reps_get (h2.mono e) hz
    exact ⟨⟨vs, w, .inl h1', hw⟩, fun x H2 y => ⟨y.1, by have q := y.2 vs (.inl h1'); rw [hw] at q; cases q; exact rw'⟩⟩
  case str t =>
    unfold Rep at q2
    subst q2
    refine .inr (.inr (.inl ⟨t, rfl, out2.here rl2 fun g' H' e i => ?_⟩))
    refine ⟨fun z hz => ?_, fun hl => by rw [List.length_map, Array.length_toList] at hl; exact hl⟩
    rw [List.getElem?_map] at hz
    obtain ⟨cc, h1, rfl⟩ := Option.map_eq_some_iff.mp hz
    have h1 : t.cps[i]? = some cc := by simpa using h1
    refine ⟨(Array.getElem?_eq_some_iff.mp h1).1, fun x H2 y => ⟨y.1, ?_⟩⟩
    obtain ⟨c', h3, rfl⟩ := y.2
    rw [h1] at h3
    cases h3
    unfold Rep
    rfl
  case dct kvs =>
    unfold Rep at q2
    obtain ⟨a, vs, rfl, hF, h1, h2⟩ := q2
    have wk : ∀ (o : Obj) (H3 : Hp), g2.F a → H3 a = some (.frz o (.dT vs)) → RepK c.G c.K g2 H3 kvs vs → Wk c g2 H3 al1 (kvs.map fun kv => cellD kv.1) (Itkt a o vs) := fun o H3 hF h3 h4 g' H' e i => by
      have h1' : H' a = some (.frz o (.dT vs)) := (e.frz a hF).keep h3 (fun _ z => nomatch z)
      refine ⟨fun z hz => ⟨⟨h1', ?_⟩, fun x H2 y => ⟨y.1, ?_⟩⟩, fun hl => ⟨h1', by rw [← repK_length h4]; rw [List.length_map] at hl; exact hl⟩⟩
      · have := (List.getElem?_eq_some_iff.mp hz).1
        rw [List.length_map] at this
        rw [← repK_length h4]
        exact this
      · obtain ⟨_, k, v, q, e1, e2, e3⟩ := y
        rw [List.getElem?_map] at hz
        obtain ⟨kv, e4, e5⟩ := Option.map_eq_some_iff.mp hz
        obtain ⟨v', e6⟩ := repK_at h4 e4
        rw [e1] at e6
        cases e6
        subst e2 e5
        exact rep_key e3
    refine .inr (.inr (.inr ⟨a, vs, rfl, h1, fun o h3 => out2.here rl2 (wk o H1 hF h3 h2), fun h3 o => ?_⟩))
    have e5 : Ext g2 H1 g2 (upd H1 a (.frz o (.dT vs))) := .lockD h3
    exact out2 g2 _ al1 _ e5 (rl2.lockD hF h3) (List.prefix_refl _) (wk o _ hF upd_same (h2.mono e5))
end
end SW

-- SwJ
set_option Elab.async false
set_option linter.all false
set_option maxRecDepth 100000
set_option maxHeartbeats 4000000
set_option autoImplicit false
/-! SwJ: comprehensions -/
namespace SW
open PySem PySem.Spec PyProof.Rows L2

/-- no error is wished for -/
def Ct.noX (c : Ct) : Ct := ⟨c.G, c.K, fun _ _ _ _ => False, c.xo, c.cd⟩
section
variable {α β γ δ η : Type}
theorem TQ.stepC {c : Ct} {rel : Rn α β} {rel' : Rn γ δ} {f : Env → Store → R α} {k : α → Store → R η} {K2 : η → Store → R γ} {σ σ' : L2.St} {H : Hp} {Q : δ → Hp → Prop} {Q1 : β → Hp → Prop} {g : Gh} {al : List Addr} {ρ : Env} {S : Store}
    (xa : Fit c g) (rl : Rl c.G c.K g H al S) (er : Er c.G c.K g H al ρ σ) (o : Out c rel' σ' g H al ((((f ρ S).bind k).calm).bind K2) Q)
    (i : ∀ x H1 g1 al1 v S1, Ext g H g1 H1 → al <+: al1 → Fit c g1 → Rl c.G c.K g1 H1 al1 S1 → Er c.G c.K g1 H1 al1 ρ σ → rel g1 H1 al1 v x → Out c rel' σ' g H al (((k v S1).calm).bind K2) Q → Q1 x H1) : TQ c.noX rel f σ H Q1 := by
  refine ⟨g, al, ρ, S, ⟨xa.xa, xa.cd⟩, rl, er, ?_⟩
  cases e : f ρ S with
  | ok v S1 =>
    simp only [e, R.bind] at o
    exact fun g1 H1 al1 x e1 r1 p1 q1 => i x H1 g1 al1 v S1 e1 p1 (xa.ext e1) r1 (er.mono e1 p1) q1 o
  | exc k' p S1 =>
    simp only [e, R.bind, R.calm] at o
    exact o.elim
  | bad =>
    simp only [e, R.bind, R.calm] at o
    exact o.elim
theorem TQ.step0 {c : Ct} {rel : Rn α β} {rel' : Rn γ δ} {f : Env → Store → R α} {k : α → Store → R γ} {σ : L2.St} {H : Hp} {Q : δ → Hp → Prop} {Q1 : β → Hp → Prop} {g : Gh} {al : List Addr} {ρ : Env} {S : Store}
    (xa : Fit c g) (rl : Rl c.G c.K g H al S) (er : Er c.G c.K g H al ρ σ) (o : Out c rel' σ g H al ((f ρ S).bind k) Q)
    (i : ∀ x H1 g1 al1 v S1, Ext g H g1 H1 → al <+: al1 → Fit c g1 → Rl c.G c.K g1 H1 al1 S1 → Er c.G c.K g1 H1 al1 ρ σ → rel g1 H1 al1 v x → Out c rel' σ g H al (k v S1) Q → Q1 x H1) : TQ c rel f σ H Q1 := by
  refine ⟨g, al, ρ, S, xa, rl, er, ?_⟩
  cases e : f ρ S with
  | ok v S1 =>
    simp only [e, R.bind] at o
    exact fun g1 H1 al1 x e1 r1 p1 q1 => i x H1 g1 al1 v S1 e1 p1 (xa.ext e1) r1 (er.mono e1 p1) q1 o
  | exc k' p S1 =>
    simp only [e, R.bind] at o
    exact o
  | bad =>
    simp only [e, R.bind] at o
    exact o
end
theorem prefix_take {al al1 : List Addr} {n : Nat} (h : al <+: al1) (hl : al.length = n) : al1.take n = al := by
  obtain ⟨t, rfl⟩ := h
  rw [← hl, List.take_left]
theorem Rl.back {G : Gd} {K : PySem.W.Frag} {g : Gh} {H : Hp} {al al1 : List Addr} {S : Store} {n : Nat} (r : Rl G K g H al1 S) (h : al <+: al1) (hl : al.length = n) : Rl G K g H al (S.take n) := by
  have q := r.take n
  rw [prefix_take h hl] at q
  exact q

theorem wipe_wipe (σ : L2.St) (vs : List Nat) : L2.wipe (L2.wipe σ vs) vs = L2.wipe σ vs := by
  apply List.ext_getElem?
  intro j
  rw [wipe_get, wipe_get]
  by_cases hj : j ∈ vs
  · rw [if_pos hj, if_pos hj, Option.map_map]
    rfl
  · rw [if_neg hj, if_neg hj]
/-- what a turn does, behind its test -/
def kTurn (fe : Env → Store → R Vl) (n : Nat) (ρ1 : Env) (b : Bool) (S3 : Store) : R Unit :=
  if b then (fe ρ1 S3).bind fun v S4 => (asData S3.length v S4).bind fun y S5 => push n y S5 else .ok () S3
def bodyL (fc : Env → Store → R Bool) (fe : Env → Store → R Vl) (n : Nat) (ρ1 : Env) (S2 : Store) : R Unit :=
  ((fc ρ1 S2).bind fun b S3 => kTurn fe n ρ1 b (S3.take S2.length)).calm
def lcF (fi : Env → Store → R (List D)) (fc : Env → Store → R Bool) (fe : Env → Store → R Vl) (t : Tg) (vs : List Nat) (ρ : Env) (S : Store) : R Vl :=
  (fi ρ S).bind fun xs S1 => (loopC (bodyL fc fe S1.length) t xs (wipeE ρ vs) (S1 ++ [.lst []])).bind fun _ S2 => R.ok (Vl.r S1.length) S2
section
variable {c : Ct} {fi : Env → Store → R (List D)} {fc : Env → Store → R Bool} {fe : Env → Store → R Vl} {t : Tg} {vs : List Nat} {σ : L2.St} {H : Hp} {Q : VK}
/-- the end of a turn: the list grows -/
theorem turn_end {γ δ : Type} {rel' : Rn γ δ} {g3 g4 : Gh} {H3 H4 : Hp} {al3 al4 : List Addr} {S3 S4 : Store} {n : Nat} {v : Vl} {y : V} {K2 : Unit → Store → R γ} {Qz : δ → Hp → Prop} {Dd : Addr} {σ' : L2.St}
    (e4 : Ext g3 H3 g4 H4) (p4 : al3 <+: al4) (xa4 : Fit c g4) (rl4 : Rl c.G c.K g4 H4 al4 S4) (q4 : RepL c.G c.K g4 H4 al4 v y) (hl : al3.length = S3.length) (hn : al3[n]? = some Dd)
    (out : Out c rel' σ' g3 H3 al3 (((asData S3.length v S4).bind fun y S5 => push n y S5).calm.bind K2) Qz) :
    ∃ acc, H4 Dd = some (.lst acc) ∧ acc.length < sizeLine ∧ ∃ g5 S5, Fit c g5 ∧ Ext g3 H3 g5 (upd H4 Dd (.lst (acc ++ [y]))) ∧ Rl c.G c.K g5 (upd H4 Dd (.lst (acc ++ [y]))) al3 S5 ∧ Out c rel' σ' g5 (upd H4 Dd (.lst (acc ++ [y]))) al3 (K2 () S5) Qz := by
  unfold asData at out
  cases e : toD S4 v with
  | none => rw [e] at out; exact out.elim
  | some w =>
    obtain ⟨x, S5⟩ := w
    rw [e] at out
    obtain ⟨g5, e5, rl5, q5⟩ := toD_ok rl4 q4 e
    have rl6 := rl5.back p4 hl
    simp only [R.bind] at out
    unfold push at out
    cases hS : (S5.take S3.length)[n]? with
    | none => rw [hS] at out; exact out.elim
    | some ob =>
      rw [hS] at out
      cases ob <;> try exact out.elim
      rename_i ys
      simp only at out
      by_cases hb : ys.length < BIG
      · rw [if_pos hb] at out
        obtain ⟨c6, _⟩ := rl6.cell n _ Dd hS hn
        obtain ⟨hF, acc, h1, h2⟩ := c6
        have ew : Ext g5 H4 g5 (upd H4 Dd (.lst (acc ++ [y]))) := .write (fun xs z => by rw [h1] at z; cases z) hF
        have rl7 : Rl c.G c.K g5 (upd H4 Dd (.lst (acc ++ [y]))) al3 ((S5.take S3.length).set n (.lst (ys ++ [x]))) := rl6.write hn (fun xs z => by rw [h1] at z; cases z) (fun ps z => by rw [h1] at z; cases z) hF
          ⟨hF, acc ++ [y], upd_same, reps_append (h2.mono ew) (by unfold Reps; exact ⟨y, [], rfl, q5.mono ew, by unfold Reps; rfl⟩)⟩
        refine ⟨acc, h1, by rw [← reps_length h2]; exact Nat.lt_of_lt_of_le hb big_line, g5, _, xa4.ext e5, (e4.trans e5).trans ew, rl7, ?_⟩
        exact Out.rebase ((e4.trans e5).trans ew) (List.prefix_refl _) out
      · rw [if_neg hb] at out; exact out.elim
theorem lc_read (hix : ∀ i ∈ t.ix, i ∈ vs) (h : TQ c (relL c) (lcF fi fc fe t vs) σ H Q) : tLc (TQ c (Wk c) fi) (gQ c.noX t) (TQ c.noX relB fc) (TQ c.noX (relL c.noX) fe) vs σ H Q := by
  obtain ⟨g, al, ρ, S, xa, rl, er, out⟩ := h
  refine TQ.step (k := fun xs S1 => (loopC (bodyL fc fe S1.length) t xs (wipeE ρ vs) (S1 ++ [.lst []])).bind fun _ S2 => R.ok (Vl.r S1.length) S2) xa rl er out fun J H1 g1 al1 xs S1 e1 p1 xa1 rl1 er1 wk out1 => ?_
  intro Dd hD
  have eD : Ext g1 H1 g1 (upd H1 Dd (.lst [])) := .new hD (rl1.nF hD)
  have rl2 : Rl c.G c.K g1 (upd H1 Dd (.lst [])) (al1 ++ [Dd]) (S1 ++ [.lst []]) := rl1.alloc hD (CellOk.newLst rl1 (by unfold Reps; rfl) hD)
  have lD : (al1 ++ [Dd])[S1.length]? = some Dd := by
    rw [← rl1.len, List.getElem?_append_right (Nat.le_refl _), Nat.sub_self]
    rfl
  have key : ∀ W : Nat → Nat → Hp → Prop, W = (fun i m H' => m = xs.length - i ∧ i ≤ xs.length ∧ ∃ g' al' S', Fit c g' ∧ Ext g1 H1 g' H' ∧ Rl c.G c.K g' H' al' S' ∧ Er c.G c.K g' H' al' (wipeE ρ vs) (L2.wipe σ vs) ∧ al'[S1.length]? = some Dd ∧
      Out c (relL c) σ g' H' al' ((loopC (bodyL fc fe S1.length) t (xs.drop i) (wipeE ρ vs) S').bind fun _ S2 => R.ok (Vl.r S1.length) S2) Q) →
      (∃ m, W 0 m (upd H1 Dd (.lst []))) ∧ ∀ i m H, W i m H →
  (J.stop i H ∧ Q (.ref Dd) H) ∨ (J.go i H ∧ ∃ Nx : Hp → Prop, (∀ H', Nx H' → ∃ m', m' < m ∧ W (i + 1) m' H') ∧ ∀ x H', J.yld i H x H' → gQ c.noX t x (L2.wipe σ vs) H' fun σ2 H2 => L2.wipe σ2 vs = L2.wipe σ vs ∧ TQ c.noX relB fc σ2 H2 fun b H3 =>
    if b = true then TQ c.noX (relL c.noX) fe σ2 H3 fun y H4 => ∃ acc, H4 Dd = some (.lst acc) ∧ acc.length < sizeLine ∧ Nx (upd H4 Dd (.lst (acc ++ [y]))) else Nx H3) := by
    intro W hW
    refine ⟨⟨xs.length, by rw [hW]; exact ⟨by simp, Nat.zero_le _, g1, al1 ++ [Dd], _, xa1, eD, rl2, (er1.mono eD (List.prefix_append _ _)).wiped vs, lD, by rw [List.drop_zero]; exact out1.rebase eD (List.prefix_append _ _)⟩⟩, ?_⟩
    intro i m H' hWi
    rw [hW] at hWi
    obtain ⟨hm, hi, g', al', S', xa', e', rl', er', hn, out'⟩ := hWi
    subst hm
    obtain ⟨w1, w2⟩ := wk g' H' e' i
    by_cases hlt : i < xs.length
    · have hz : xs[i]? = some xs[i] := List.getElem?_eq_getElem hlt
      obtain ⟨go, yl⟩ := w1 _ hz
      refine .inr ⟨go, fun H2 => W (i + 1) (xs.length - (i + 1)) H2, fun H2 h2 => ⟨_, by omega, h2⟩, fun x H2 y => ?_⟩
      obtain ⟨e2, rp⟩ := yl x H2 y
      subst e2
      rw [List.drop_eq_getElem_cons hlt] at out'
      unfold loopC at out'
      cases ha : asg t xs[i] (wipeE ρ vs) with
      | none => rw [ha] at out'; exact out'.elim
      | some ρ1 =>
        rw [ha] at out'
        simp only [R.bind_assoc] at out'
        refine ⟨g', al', wipeE ρ vs, ρ1, xs[i], er', rp, ha, fun σ1 er1' hw => ⟨(hw vs hix).trans (wipe_wipe σ vs), ?_⟩⟩
        have er1' : Er c.G c.K g' H2 al' ρ1 σ1 := er1'
        unfold bodyL at out'
        refine TQ.stepC (k := fun b S3 => kTurn fe S1.length ρ1 b (S3.take S'.length)) xa' rl' er1' out' fun b H3 g3 al3 b' S3 e3 p3 xa3 rl3 er3 q3 out3 => ?_
        have q3 : b' = b := q3
        subst q3
        have rl3' : Rl c.G c.K g3 H3 al' (S3.take S'.length) := rl3.back p3 rl'.len
        have out3 := out3.rebase e3 (List.prefix_refl al')
        unfold kTurn at out3
        cases b' with
        | false =>
          rw [if_neg Bool.false_ne_true] at out3 ⊢
          rw [hW]
          exact ⟨rfl, hlt, g3, al', _, xa3, e'.trans e3, rl3', er'.mono e3 (List.prefix_refl _), hn, out3⟩
        | true =>
          rw [if_pos rfl] at out3 ⊢
          refine TQ.stepC (k := fun v S4 => (asData (S3.take S'.length).length v S4).bind fun y S5 => push S1.length y S5) xa3 rl3' (er1'.mono e3 (List.prefix_refl _)) out3 fun y H4 g4 al4 v S4 e4 p4 xa4 rl4 er4 q4 out4 => ?_
          obtain ⟨acc, h1, h2, g5, S5, xa5, e5, rl5, out5⟩ := turn_end e4 p4 xa4 rl4 q4 rl3'.len hn out4
          refine ⟨acc, h1, h2, ?_⟩
          rw [hW]
          exact ⟨rfl, hlt, g5, al', S5, xa5, (e'.trans e3).trans e5, rl5, (er'.mono e3 (List.prefix_refl _)).mono e5 (List.prefix_refl _), hn, out5⟩
    · have e0 : i = xs.length := by omega
      subst e0
      rw [List.drop_length] at out'
      unfold loopC at out'
      exact .inl ⟨w2 (Nat.le_refl _), out'.here rl' ⟨Dd, hn, rfl⟩⟩
  exact ⟨_, key _ rfl⟩
end
section
variable {X : Cx} {c : Ct} {elt tg iter : Expr} {ifs : List Expr} {scope : Scope} {own : List (Str × Nat)} {pos spos py : Pos} {fi : Env → Store → R (List D)} {fc : Env → Store → R Bool} {fe : Env → Store → R Vl} {t : Tg}
/-- the block's context -/
abbrev Blk (X : Cx) (scope : Scope) (P : Cx → Prop) : Prop := ∀ (s : Shared) (H : Hp) (C : Addr) (cl : List (Str × Addr)) (fp : List Addr), P (X.blk s H scope (compEnvC scope cl C X.env) fp)
theorem se_lc (hc : X.calm = true) (hN : X.N.Nodup) (hi : SI X c tg iter fi) (ok : BlkOk X.N X.env.scope scope own) (hg : Blk X scope fun Y => PG Y tg (gQ c.noX t)) (ht : Blk X scope fun Y => PTs Y ifs (TQ c.noX relB fc)) (he : Blk X scope fun Y => SE Y c.noX elt fe)
    (hs : ∀ x, foldedSetIterable iter X.env x = pure x) (hix : ∀ i ∈ t.ix, i ∈ own.map (·.2)) : SE X c (.ListComp elt [⟨tg, iter, ifs, 0⟩] scope pos) (lcF fi fc fe t (own.map (·.2))) :=
  (pe_lc hc hN hi ok hg ht he hs).imp fun σ H Q h => lc_read hix h
end
end SW

-- SwJa
set_option Elab.async false
set_option linter.all false
set_option maxRecDepth 100000
set_option maxHeartbeats 4000000
set_option autoImplicit false
/-! SwJa: comprehensions of two clauses -/
namespace SW
open PySem PySem.Spec PyProof.Rows L2
def turn2 (fe : Env → Store → R Vl) (n : Nat) (ρ2 : Env) (S4 : Store) : R Unit := ((fe ρ2 S4).bind fun v S5 => (asData S4.length v S5).bind fun y S6 => push n y S6).calm
def body2 (fi2 : Env → Store → R (List D)) (fe : Env → Store → R Vl) (t2 : Tg) (vs2 : List Nat) (n : Nat) (ρ1 : Env) (S2 : Store) : R Unit :=
  ((fi2 ρ1 S2).bind fun ys S3 => loopC (turn2 fe n) t2 ys (wipeE ρ1 vs2) (S3.take S2.length)).calm
def lc2F (fi fi2 : Env → Store → R (List D)) (fe : Env → Store → R Vl) (t t2 : Tg) (vs vs2 : List Nat) (ρ : Env) (S : Store) : R Vl :=
  (fi ρ S).bind fun xs S1 => (loopC (body2 fi2 fe t2 vs2 S1.length) t xs (wipeE ρ vs) (S1 ++ [.lst []])).bind fun _ S2 => R.ok (Vl.r S1.length) S2
theorem calm_in {α β γ : Type} (m : R α) (r : α → Store → R β) (K2 : β → Store → R γ) : ((m.calm).bind r).calm.bind K2 = (m.calm).bind fun x S => ((r x S).calm).bind K2 := by
  cases m <;> rfl
theorem loopC_nil (b : Env → Store → R Unit) (t : Tg) (ρ : Env) (S : Store) : loopC b t [] ρ S = .ok () S := rfl
theorem loopC_cons (b : Env → Store → R Unit) (t : Tg) (x : D) (r : List D) (ρ : Env) (S : Store) : loopC b t (x :: r) ρ S = (match asg t x ρ with
    | none => .bad
    | some ρ1 => (b ρ1 S).bind fun _ S1 => loopC b t r ρ S1) := rfl
theorem turn2_is (fe : Env → Store → R Vl) (n : Nat) (ρ2 : Env) (S4 : Store) : turn2 fe n ρ2 S4 = ((fe ρ2 S4).bind fun v S5 => (asData S4.length v S5).bind fun y S6 => push n y S6).calm := rfl
abbrev yes : Env → Store → R Bool := fun _ S => .ok true S
section
variable {c : Ct} {fi fi2 : Env → Store → R (List D)} {fe : Env → Store → R Vl} {t t2 : Tg} {vs vs2 : List Nat} {σ : L2.St} {H : Hp} {Q : VK}
theorem yes_read {g : Gh} {H : Hp} {al : List Addr} {ρ : Env} {S : Store} {σ : L2.St} {Qb : Bool → Hp → Prop} (xa : Fit c g) (rl : Rl c.G c.K g H al S) (er : Er c.G c.K g H al ρ σ) (h : ∀ g' H', Ext g H g' H' → Fit c g' → Rl c.G c.K g' H' al S → Er c.G c.K g' H' al ρ σ → Qb true H') : TQ c relB yes σ H Qb := by
  refine ⟨g, al, ρ, S, xa, rl, er, fun g' H' al' b e1 rl1 p1 hb => ?_⟩
  have hb : true = b := hb
  subst hb
  have q := rl1.back p1 rl.len
  rw [List.take_length] at q
  exact h g' H' e1 (xa.ext e1) q (er.mono e1 (List.prefix_refl _))
theorem lc2_read (hix : ∀ i ∈ t.ix, i ∈ vs) (hix2 : ∀ i ∈ t2.ix, i ∈ vs2) (h : TQ c (relL c) (lc2F fi fi2 fe t t2 vs vs2) σ H Q) : tLc2 (TQ c (Wk c) fi) (gQ c.noX t) (TQ c.noX relB yes) (TQ c.noX (Wk c.noX) fi2) (gQ c.noX t2) (TQ c.noX relB yes) (TQ c.noX (relL c.noX) fe) vs vs2 σ H Q := by
  obtain ⟨g, al, ρ, S, xa, rl, er, out⟩ := h
  refine TQ.step (k := fun xs S1 => (loopC (body2 fi2 fe t2 vs2 S1.length) t xs (wipeE ρ vs) (S1 ++ [.lst []])).bind fun _ S2 => R.ok (Vl.r S1.length) S2) xa rl er out fun J H1 g1 al1 xs S1 e1 p1 xa1 rl1 er1 wk out1 => ?_
  intro Dd hD
  have eD : Ext g1 H1 g1 (upd H1 Dd (.lst [])) := .new hD (rl1.nF hD)
  have rl2 : Rl c.G c.K g1 (upd H1 Dd (.lst [])) (al1 ++ [Dd]) (S1 ++ [.lst []]) := rl1.alloc hD (CellOk.newLst rl1 (by unfold Reps; rfl) hD)
  have lD : (al1 ++ [Dd])[S1.length]? = some Dd := by
    rw [← rl1.len, List.getElem?_append_right (Nat.le_refl _), Nat.sub_self]
    rfl
  have key : ∀ W : Nat → Nat → Hp → Prop, W = (fun i m H' => m = xs.length - i ∧ i ≤ xs.length ∧ ∃ g' al' S', Fit c g' ∧ Ext g1 H1 g' H' ∧ Rl c.G c.K g' H' al' S' ∧ Er c.G c.K g' H' al' (wipeE ρ vs) (L2.wipe σ vs) ∧ al'[S1.length]? = some Dd ∧
      Out c (relL c) σ g' H' al' ((loopC (body2 fi2 fe t2 vs2 S1.length) t (xs.drop i) (wipeE ρ vs) S').bind fun _ S2 => R.ok (Vl.r S1.length) S2) Q) →
      (∃ m, W 0 m (upd H1 Dd (.lst []))) ∧ ∀ i m H, W i m H →
  (J.stop i H ∧ Q (.ref Dd) H) ∨ (J.go i H ∧ ∃ Nx : Hp → Prop, (∀ H', Nx H' → ∃ m', m' < m ∧ W (i + 1) m' H') ∧ ∀ x H', J.yld i H x H' → gQ c.noX t x (L2.wipe σ vs) H' fun σ2 H2 => L2.wipe σ2 vs = L2.wipe σ vs ∧ TQ c.noX relB yes σ2 H2 fun b H3 =>
    if b = true then TQ c.noX (Wk c.noX) fi2 σ2 H3 fun J1 H4 => ∃ W1 : Nat → Nat → Hp → Prop, (∃ m, W1 0 m H4) ∧ ∀ j k H, W1 j k H →
      (J1.stop j H ∧ Nx H) ∨ (J1.go j H ∧ ∃ Nx1 : Hp → Prop, (∀ H', Nx1 H' → ∃ k', k' < k ∧ W1 (j + 1) k' H') ∧ ∀ x H', J1.yld j H x H' → gQ c.noX t2 x (L2.wipe σ2 vs2) H' fun σ3 H5 => L2.wipe σ3 vs2 = L2.wipe σ2 vs2 ∧ TQ c.noX relB yes σ3 H5 fun b H6 =>
        if b = true then TQ c.noX (relL c.noX) fe σ3 H6 fun y H7 => ∃ acc, H7 Dd = some (.lst acc) ∧ acc.length < sizeLine ∧ Nx1 (upd H7 Dd (.lst (acc ++ [y]))) else Nx1 H6)
    else Nx H3) := by
    intro W hW
    refine ⟨⟨xs.length, by rw [hW]; exact ⟨by simp, Nat.zero_le _, g1, al1 ++ [Dd], _, xa1, eD, rl2, (er1.mono eD (List.prefix_append _ _)).wiped vs, lD, by rw [List.drop_zero]; exact out1.rebase eD (List.prefix_append _ _)⟩⟩, ?_⟩
    intro i m H' hWi
    rw [hW] at hWi
    obtain ⟨hm, hi, g', al', S', xa', e', rl', er', hn, out'⟩ := hWi
    subst hm
    obtain ⟨w1, w2⟩ := wk g' H' e' i
    by_cases hlt : i < xs.length
    · have hz : xs[i]? = some xs[i] := List.getElem?_eq_getElem hlt
      obtain ⟨go, yl⟩ := w1 _ hz
      refine .inr ⟨go, fun H2 => W (i + 1) (xs.length - (i + 1)) H2, fun H2 h2 => ⟨_, by omega, h2⟩, fun x H2 y => ?_⟩
      obtain ⟨e2, rp⟩ := yl x H2 y
      subst e2
      rw [List.drop_eq_getElem_cons hlt] at out'
      unfold loopC at out'
      cases ha : asg t xs[i] (wipeE ρ vs) with
      | none => rw [ha] at out'; exact out'.elim
      | some ρ1 =>
        rw [ha] at out'
        simp only [R.bind_assoc] at out'
        refine ⟨g', al', wipeE ρ vs, ρ1, xs[i], er', rp, ha, fun σ1 er1' hw => ⟨(hw vs hix).trans (wipe_wipe σ vs), ?_⟩⟩
        have er1' : Er c.G c.K g' H2 al' ρ1 σ1 := er1'
        refine yes_read (c := c.noX) ⟨xa'.xa, xa'.cd⟩ rl' er1' fun g3 H3 e3 xa3 rl3 er3 => ?_
        have e3 : Ext g' H2 g3 H3 := e3
        have xa3 : Fit c g3 := ⟨xa3.xa, xa3.cd⟩
        have rl3 : Rl c.G c.K g3 H3 al' S' := rl3
        have er3 : Er c.G c.K g3 H3 al' ρ1 σ1 := er3
        rw [if_pos rfl]
        have out3 := out'.rebase e3 (List.prefix_refl al')
        unfold body2 at out3
        refine TQ.stepC (k := fun ys S3 => loopC (turn2 fe S1.length) t2 ys (wipeE ρ1 vs2) (S3.take S'.length)) xa3 rl3 er3 out3 fun J1 H4 g4 al4 ys S4 e4 p4 xa4 rl4 er4 wk1 out4 => ?_
        have wk1 : Wk c.noX g4 H4 al4 ys J1 := wk1
        have rl4' : Rl c.G c.K g4 H4 al' (S4.take S'.length) := rl4.back p4 rl3.len
        have out4 := out4.rebase e4 (List.prefix_refl al')
        have er4' : Er c.G c.K g4 H4 al' ρ1 σ1 := er3.mono e4 (List.prefix_refl _)
        have key2 : ∀ W1 : Nat → Nat → Hp → Prop, W1 = (fun j k Hj => k = ys.length - j ∧ j ≤ ys.length ∧ ∃ g5 S5, Fit c g5 ∧ Ext g4 H4 g5 Hj ∧ Rl c.G c.K g5 Hj al' S5 ∧
            Out c (relL c) σ g5 Hj al' (((loopC (turn2 fe S1.length) t2 (ys.drop j) (wipeE ρ1 vs2) S5).calm).bind fun _ S6 => (loopC (body2 fi2 fe t2 vs2 S1.length) t (xs.drop (i + 1)) (wipeE ρ vs) S6).bind fun _ S2 => R.ok (Vl.r S1.length) S2) Q) →
            (∃ m, W1 0 m H4) ∧ ∀ j k H, W1 j k H →
            (J1.stop j H ∧ W (i + 1) (xs.length - (i + 1)) H) ∨ (J1.go j H ∧ ∃ Nx1 : Hp → Prop, (∀ H', Nx1 H' → ∃ k', k' < k ∧ W1 (j + 1) k' H') ∧ ∀ x H', J1.yld j H x H' → gQ c.noX t2 x (L2.wipe σ1 vs2) H' fun σ3 H5 => L2.wipe σ3 vs2 = L2.wipe σ1 vs2 ∧ TQ c.noX relB yes σ3 H5 fun b H6 =>
              if b = true then TQ c.noX (relL c.noX) fe σ3 H6 fun y H7 => ∃ acc, H7 Dd = some (.lst acc) ∧ acc.length < sizeLine ∧ Nx1 (upd H7 Dd (.lst (acc ++ [y]))) else Nx1 H6) := by
          intro W1 hW1
          refine ⟨⟨ys.length, by rw [hW1]; exact ⟨by simp, Nat.zero_le _, g4, _, xa4, .refl _ _, rl4', by rw [List.drop_zero]; exact out4⟩⟩, ?_⟩
          intro j k Hj hWj
          rw [hW1] at hWj
          obtain ⟨hk, hj, g5, S5, xa5, e5, rl5, out5⟩ := hWj
          subst hk
          obtain ⟨v1, v2⟩ := wk1 g5 Hj e5 j
          by_cases hlt2 : j < ys.length
          · have hz2 : ys[j]? = some ys[j] := List.getElem?_eq_getElem hlt2
            obtain ⟨go2, yl2⟩ := v1 _ hz2
            refine .inr ⟨go2, fun H7 => W1 (j + 1) (ys.length - (j + 1)) H7, fun H7 h7 => ⟨_, by omega, h7⟩, fun z H7 hy => ?_⟩
            obtain ⟨e6, rp2⟩ := yl2 z H7 hy
            subst e6
            rw [List.drop_eq_getElem_cons hlt2, loopC_cons] at out5
            cases hb : asg t2 ys[j] (wipeE ρ1 vs2) with
            | none => rw [hb] at out5; exact out5.elim
            | some ρ2 =>
              rw [hb] at out5
              simp only at out5
              refine ⟨g5, al', wipeE ρ1 vs2, ρ2, ys[j], (er4'.mono e5 (List.prefix_refl _)).wiped vs2, rp2, hb, fun σ3 er5 hw2 => ⟨(hw2 vs2 hix2).trans (wipe_wipe σ1 vs2), ?_⟩⟩
              have er5 : Er c.G c.K g5 H7 al' ρ2 σ3 := er5
              refine yes_read (c := c.noX) ⟨xa5.xa, xa5.cd⟩ rl5 er5 fun g8 H8 e8 xa8 rl8 er8 => ?_
              have e8 : Ext g5 H7 g8 H8 := e8
              have xa8 : Fit c g8 := ⟨xa8.xa, xa8.cd⟩
              have rl8 : Rl c.G c.K g8 H8 al' S5 := rl8
              have er8 : Er c.G c.K g8 H8 al' ρ2 σ3 := er8
              rw [if_pos rfl]
              have out8 := out5.rebase e8 (List.prefix_refl al')
              rw [turn2_is, calm_in] at out8
              refine TQ.stepC (k := fun v S6 => (asData S5.length v S6).bind fun y S7 => push S1.length y S7) xa8 rl8 er8 out8 fun y H9 g9 al9 v S9 e9 p9 xa9 rl9 er9 q9 out9 => ?_
              obtain ⟨acc, h1, h2, g10, S10, xa10, e10, rl10, out10⟩ := turn_end e9 p9 xa9 rl9 q9 rl8.len hn out9
              refine ⟨acc, h1, h2, ?_⟩
              rw [hW1]
              exact ⟨rfl, hlt2, g10, S10, xa10, (e5.trans e8).trans e10, rl10, out10⟩
          · have e0 : j = ys.length := by omega
            subst e0
            rw [List.drop_length, loopC_nil] at out5
            refine .inl ⟨v2 (Nat.le_refl _), ?_⟩
            rw [hW]
            exact ⟨rfl, hlt, g5, al', S5, xa5, ((e'.trans e3).trans e4).trans e5, rl5, ((er'.mono e3 (List.prefix_refl _)).mono e4 (List.prefix_refl _)).mono e5 (List.prefix_refl _), hn, out5⟩
        exact ⟨_, key2 _ rfl⟩
    · have e0 : i = xs.length := by omega
      subst e0
      rw [List.drop_length] at out'
      unfold loopC at out'
      exact .inl ⟨w2 (Nat.le_refl _), out'.here rl' ⟨Dd, hn, rfl⟩⟩
  exact ⟨_, key _ rfl⟩
end
section
variable {X : Cx} {c : Ct} {elt tg iter tg1 iter1 : Expr} {scope : Scope} {own : List (Str × Nat)} {pos : Pos} {fi fi2 : Env → Store → R (List D)} {fe : Env → Store → R Vl} {t t2 : Tg} {vs2 : List Nat}
theorem se_lc2 (hc : X.calm = true) (hN : X.N.Nodup) (hi : SI X c tg iter fi) (ok : BlkOk X.N X.env.scope scope own) (hv : ∀ i ∈ vs2, i ∈ own.map (·.2)) (hg : Blk X scope fun Y => PG Y tg (gQ c.noX t)) (hi1 : Blk X scope fun Y => SI Y c.noX tg1 iter1 fi2) (hg1 : Blk X scope fun Y => PG Y tg1 (gQ c.noX t2)) (hy : Blk X scope fun Y => PTs Y [] (TQ c.noX relB yes)) (he : Blk X scope fun Y => SE Y c.noX elt fe)
    (hs : ∀ x, foldedSetIterable iter X.env x = pure x) (hs1 : ∀ env x, foldedSetIterable iter1 env x = pure x) (hix : ∀ i ∈ t.ix, i ∈ own.map (·.2)) (hix2 : ∀ i ∈ t2.ix, i ∈ vs2) : SE X c (.ListComp elt [⟨tg, iter, [], 0⟩, ⟨tg1, iter1, [], 0⟩] scope pos) (lc2F fi fi2 fe t t2 (own.map (·.2)) vs2) :=
  (pe_lc2 hc hN hi ok hv hg hy hi1 hg1 hy he hs hs1).imp fun σ H Q h => lc2_read hix hix2 h
end
end SW

-- SwK
set_option Elab.async false
set_option linter.all false
set_option maxRecDepth 100000
set_option maxHeartbeats 4000000
set_option autoImplicit false
/-! SwK: generator expressions in all(..), any(..) -/
namespace SW
open PySem PySem.Spec PyProof.Rows L2 GenW

/-- the context of a generator expression's frame -/
abbrev gX (X : Cx) (s : Shared) (H : Hp) (A : Around) (cenv : PySem.Env) (fp : List Addr) (pn : List (Addr × Obj)) : Cx :=
  { X with s_0 := s, H_0 := H, A := A, env := cenv, outer := X.stack, stack := cenv :: X.stack, ex := fp, fn := fun _ => false, calm := true, pn := pn, xe := fun _ _ => False }
abbrev gEnv (X : Cx) (scope : Scope) (C : Addr) (code : Value) : PySem.Env := genEnv scope (cloFrom X.env.cells scope.names []) C code builtinsNs X.env
theorem clo_look {cells : List (Str × Addr)} {names : List (Str × NameKind)} {y : Str} (h : (y, NameKind.free) ∈ names) : ∃ c, (cloFrom cells names []).lookup y = some c := mem_lookup (cloFrom_has (cells := cells) (acc := []) h)
section
variable {X : Cx} {pins : List (Addr × Obj)} {σ : L2.St} {H : Hp} {s s5 : Shared}
theorem gen_start {scope : Scope} {own : List (Str × Nat)} {fp : List Addr} {A : Around} {code : Value} {m0 : Str → Option Value} {pn : List (Addr × Obj)} (I : L2.Inv X pins σ H s) (ok : BlkOk X.N X.env.scope scope own) (nc : ∀ y ∈ scope.names, y.2 ≠ .cell) (hN : X.N.Nodup)
    (hfp : ∀ b ∈ fp, FpOk X pins H b ∧ b < s.heap.objs.size) (hA : A.handled = none) (hAf : A.frames = some (gEnv X scope s.heap.objs.size code :: X.stack))
    (os : s5.os = s.os) (bare : AllBare s5.gens) (kp : ∀ b o, s.heap.get? b = some o → s5.heap.get? b = some o) (hns : s5.heap.Ns s.heap.objs.size m0)
    (hpn : ∀ p ∈ pn, s5.heap.get? p.1 = some p.2 ∧ s.heap.objs.size < p.1 ∧ ∀ v, p.2.data ≠ .cell v) :
    L2.Inv (gX X s H A (gEnv X scope s.heap.objs.size code) fp pn) [] (L2.wipe σ (own.map (·.2))) H s5 := by
  have hfree : ∀ y ∈ scope.names, y.2 = .free → ∃ c, X.env.cells.lookup y.1 = some c := fun y hy e => by
    rcases ok.free y hy e with k | k
    · exact I.ok.has _ (.inl k)
    · exact I.ok.has _ (.inr k)
  generalize hcenv : gEnv X scope s.heap.objs.size code = cenv at hAf ⊢
  have hL : cenv.locals = s.heap.objs.size := by rw [← hcenv]; rfl
  have hcl : cenv.cells = cloFrom X.env.cells scope.names [] := by rw [← hcenv]; rfl
  have hsc : cenv.scope = scope := by rw [← hcenv]; rfl
  have cm : ∀ {y c}, (y, c) ∈ cloFrom X.env.cells scope.names [] → X.env.cells.lookup y = some c ∧ c < s.heap.objs.size := fun {y c} hm => by
    rcases cloFrom_mem hm with hm | ⟨h1, rfl⟩
    · cases hm
    · obtain ⟨c, hc⟩ := hfree _ h1 rfl
      rw [hc]
      obtain ⟨w, z⟩ := I.cell _ _ hc
      exact ⟨rfl, z.lt⟩
  have mem : ∀ {y c}, cenv.cells.lookup y = some c → X.env.cells.lookup y = some c ∧ c < s.heap.objs.size := fun {y c} e => by
    rw [hcl] at e
    exact cm (PySem.mem_of_lookup e)
  have look : ∀ {y}, scope.names.lookup y = some .free → ∃ c, cenv.cells.lookup y = some c ∧ X.env.cells.lookup y = some c := fun {y} hl => by
    have hy : (y, NameKind.free) ∈ scope.names := PySem.mem_of_lookup hl
    obtain ⟨c', e'⟩ := clo_look (cells := X.env.cells) hy
    rw [← hcl] at e'
    exact ⟨c', e', (mem e').1⟩
  have okB : (gX X s H A cenv fp pn).Ok := by
    refine ⟨I.ok.mod, by show cenv.scope.kind = _; rw [hsc]; exact ok.kind, by show cenv.globals = _; rw [← hcenv]; exact I.ok.glob, by show cenv.builtins = _; rw [← hcenv]; rfl, by show s.heap.objs.size ≤ cenv.locals; rw [hL]; exact Nat.le_refl _,
      fun y z c e1 e2 => I.ok.inj y z c (mem e1).1 (mem e2).1, fun y hy => ?_, fun y c z e => Bool.noConfusion z, fun _ => hA, hAf, .inr ⟨rfl, by show cenv.frame = some cenv.locals; rw [← hcenv]; rfl⟩, fun b hb => ⟨?_, fun y c e z => (hfp b hb).1.2.2.2.2.1 y c (mem e).1 z⟩, I.bs, Nat.le_trans I.ok.bsz I.sz, fun b o e hb => ?_, fun b hb z => ?_, I.stack, I.stkFree⟩
    · show ∃ c, cenv.cells.lookup y = some c
      have key : ∀ k, cenv.kindOf y = some k → (k = .cell ∨ k = .free) → ∃ c, cenv.cells.lookup y = some c := fun k hk hk' => by
        unfold Env.kindOf at hk
        rw [hsc] at hk
        rcases hk' with rfl | rfl
        · exact absurd rfl (nc _ (PySem.mem_of_lookup hk))
        · obtain ⟨c, h1, _⟩ := look hk
          exact ⟨c, h1⟩
      rcases hy with hy | hy
      · exact key _ hy (.inl rfl)
      · exact key _ hy (.inr rfl)
    · show b ≠ cenv.locals
      rw [hL]; exact Nat.ne_of_lt (hfp b hb).2
    · rcases (hfp b hb).1.2.2.2.1 with z | z
      · exact I.ok.noex b o e z
      · exact absurd (Nat.lt_of_lt_of_le (Heap.lt_size e) (Nat.le_trans I.ok.bsz z)) (Nat.lt_irrefl _)
    · rcases List.mem_cons.mp (I.stkSub b z) with z | z
      · exact (hfp b hb).1.2.1 z
      · exact (hfp b hb).1.2.2.1 z
  refine ⟨okB, os, bare, Un.kept kp, ⟨m0, ?_, fun i y av e1 e2 e3 => ?_⟩, fun y c e => ?_, ?_, fun y c e => ?_, fun p hp => ?_, I.hok.kept kp, by rw [wipe_length]; exact I.len⟩
  · show Heap.Ns _ cenv.locals _
    rw [hL]
    exact hns
  · obtain ⟨e2, hne⟩ := wipe_some e2
    have e3 : Vis cenv.scope y := e3
    rw [hsc] at e3
    have no : ∀ k, scope.names.lookup y = some k → ¬ (k = .local ∨ k = .cell) := fun k e hh => by
      rcases ok.own _ (PySem.mem_of_lookup e) hh with e' | e'
      · obtain ⟨p, hp, hpy⟩ := List.mem_map.mp e'
        have e3 := ok.ix p hp
        have : p.1 = y := hpy
        rw [this] at e3
        exact hne (List.mem_map.mpr ⟨p, hp, nodup_ix hN e3 e1⟩)
      · exact e' (List.mem_of_getElem? e1)
    have hfr : scope.names.lookup y = some .free := by
      rcases e3 with e3 | e3 | e3
      · exact absurd (.inl rfl) (no _ e3)
      · exact absurd (.inr rfl) (no _ e3)
      · exact e3
    obtain ⟨m, hn, hl⟩ := I.loc
    have hvis : Vis X.env.scope y := (ok.free _ (PySem.mem_of_lookup hfr) rfl).elim (fun k => .inr (.inl k)) (fun k => .inr (.inr k))
    obtain ⟨w, r, q⟩ := hl i y av e1 e2 hvis
    refine ⟨w, r, .inr ⟨.inr (by show cenv.scope.names.lookup y = _; rw [hsc]; exact hfr), ?_⟩⟩
    obtain ⟨c, h1, h2⟩ := look hfr
    rcases q with ⟨k, _⟩ | ⟨_, c', e', z⟩
    · have k : X.env.scope.names.lookup y = some .local := k
      rcases ok.free _ (PySem.mem_of_lookup hfr) rfl with k' | k' <;> rw [show X.env.scope.names.lookup y = _ from k'] at k <;> cases k
    · rw [h2] at e'; cases e'
      exact ⟨c, h1, z.keeps kp⟩
  · obtain ⟨h1, _⟩ := mem e
    obtain ⟨w, z⟩ := I.cell y c h1
    exact ⟨w, z.keeps kp⟩
  · show H cenv.locals = none
    rw [hL]; exact I.hok.fresh (Nat.le_refl _)
  · exact I.freeC y c (mem e).1
  · have hp : p ∈ pn := by simpa using hp
    obtain ⟨h1, h2, h3⟩ := hpn p hp
    refine ⟨h1, I.hok.fresh (Nat.le_of_lt h2), by show p.1 ≠ cenv.locals; rw [hL]; exact Nat.ne_of_gt h2, fun z => ?_, h3⟩
    rcases List.mem_cons.mp (I.stkSub _ z) with z | z
    · have := I.lt
      rw [← z] at this
      exact absurd (Nat.lt_trans this h2) (Nat.lt_irrefl _)
    · exact I.nofs (Nat.le_of_lt h2) z
end
/-- the code of a generator expression: the around -/
theorem over_loop {A : Around} {elt : Expr} {gens : List Comprehension} {scope : Scope} {pos : Pos} {it acc : Value} {env : PySem.Env} : A.over (.compLoop (.GeneratorExp elt gens scope pos) 0 it acc env) [] = A.deeper env := by
  first
    | rfl
    | (obtain ⟨hd, d, fr, gs, u⟩ := A; simp [Around.over, Around.deeper, marksOver, frameCount, unitsOf, envsOf, guardsOf, pushEnvs, pushGuards, Code.envs, Code.env?, Code.isFrame, Code.guards, Code.isGuard, Code.weight, Code.frames, Code.isCreation, Code.isCaller, Code.cUnits])
theorem over_start {A : Around} {elt : Expr} {gens : List Comprehension} {scope : Scope} {pos : Pos} {it acc : Value} {env : PySem.Env} : A.over (.compStart (.GeneratorExp elt gens scope pos) 0 it acc env) [] = A.deeper env := by
  first
    | rfl
    | (obtain ⟨hd, d, fr, gs, u⟩ := A; simp [Around.over, Around.deeper, marksOver, frameCount, unitsOf, envsOf, guardsOf, pushEnvs, pushGuards, Code.envs, Code.env?, Code.isFrame, Code.guards, Code.isGuard, Code.weight, Code.frames, Code.isCreation, Code.isCaller, Code.cUnits])
/-! ### the generator runs -/
/-- what its frame leaves -/
def GBk (Y : Cx) (fp : List Addr) (H' : Hp) (s' : Shared) : Prop := (∃ σ', L2.Inv Y [] σ' H' s') ∧ ∀ b ∈ fp, H' b = none
def gRes (Y : Cx) (fp : List Addr) (al : Bool) (QB : Bool → Hp → Prop) : GenEnd := fun _ _ r s1 => r = .ok .next ∧ ∃ H', GBk Y fp H' s1 ∧ QB al H'
def gPro (Y : Cx) (fp : List Addr) (al : Bool) (QB : Bool → Hp → Prop) : Protocol := fun _ _ v s1 kap => ∃ b H', v = .bool b ∧ GBk Y fp H' s1 ∧ (b ≠ al → QB b H') ∧
  (b = al → ∀ s'' : Shared, s''.os = s1.os → AllBare s''.gens → (∀ b o, s1.heap.get? b = some o → s''.heap.get? b = some o) → kap (.send .none) s'')
def bodyG (fe : Env → Store → R Vl) (ρ1 : Env) (S1 : Store) : R Bool := ((fe ρ1 S1).bind fun v S2 => asBl S1.length v S2).calm
theorem seg_gen {Y : Cx} {c : Ct} {A : Around} {elt tg iter : Expr} {scope : Scope} {pos : Pos} {J : L2.It} {fp : List Addr} {it : Addr} {tn : Nat → Heap → Prop} {t : Tg} {fe : Env → Store → R Vl} {vs : List Nat} {σ σ' : L2.St} {xs : List D} {al : Bool} {QB : Bool → Hp → Prop} {g1 : Gh} {H1 : Hp} {al1 al_ : List Addr} {ρw : Env}
    (hYA : A.deeper Y.env = Y.A) (hcalm : Y.calm = true) (hex : Y.ex = fp) (hxe : Y.xe = fun _ _ => False) (hpf : ∀ p ∈ Y.pn, ∀ b ∈ fp, p.1 ≠ b) (T : Turn Y.prog Y.w Y.K tg J fp it tn) (pg : PG Y tg (gQ c.noX t)) (pe : SE Y c.noX elt fe) (hix : ∀ i ∈ t.ix, i ∈ vs)
    (hco : Y.env.scope.isCoroutine = false) (wk : Wk c g1 H1 al1 xs J) :
    ∀ (k i : Nat) (s₀ s : Shared) (g : Gh) (S : Store) (H : Hp), xs.length - i = k → i ≤ xs.length → L2.Inv Y [] (L2.wipe σ vs) H s → tn i s.heap → (∀ b ∈ fp, H b = none) → Fit c g → Ext g1 H1 g H → Rl c.G c.K g H al_ S → Er c.G c.K g H al_ ρw (L2.wipe σ vs) →
      Out c relB σ' g H al_ (genGo al (bodyG fe) t (xs.drop i) ρw S) QB →
      Seg (model Y.prog Y.w) A (gRes Y fp al QB) (gPro Y fp al QB) k s₀ (.compLoop (.GeneratorExp elt [⟨tg, iter, [], 0⟩] scope pos) 0 (.ref it) .none Y.env) ((model Y.prog Y.w).den (.compLoop (.GeneratorExp elt [⟨tg, iter, [], 0⟩] scope pos) 0 (.ref it) .none Y.env)) [] s := by
  have over : A.over (.compLoop (.GeneratorExp elt [⟨tg, iter, [], 0⟩] scope pos) 0 (.ref it) .none Y.env) [] = Y.A := over_loop.trans hYA
  have stat : ∀ {σ' : L2.St} {H' : Hp} {s' : Shared}, L2.Inv Y [] σ' H' s' → (∀ b ∈ fp, H' b = none) → ∀ b ∈ fp, FpOk Y [] H' b := fun {σ' H' s'} I' hn b hb =>
    ⟨hn b hb, (I'.ok.exf b (hex ▸ hb)).1, I'.ok.exfs b (hex ▸ hb), .inl (hex ▸ hb), fun x c e => (I'.ok.exf b (hex ▸ hb)).2 x c e, fun p hp => hpf p (by simpa using hp) b hb⟩
  intro k
  induction k with
  | zero =>
    intro i s₀ s g S H hk hi I st hn xa e rl er out
    have e0 : i = xs.length := by omega
    subst e0
    rw [List.drop_length] at out
    unfold genGo at out
    show Seg _ A _ _ _ s₀ _ ((compTurn (.GeneratorExp elt [⟨tg, iter, [], 0⟩] scope pos) 0 (.ref it) .none Y.env).onRaise (leaving Y.env)) [] s
    rw [compTurn_gen, Sem.onRaise_eq_wrap]
    refine seg_bind_wrap (wpAny_standAt ?_)
    refine seg_bind_wrap ?_
    rw [over]
    refine wpAny_mono (T.done Y rfl rfl rfl hcalm xs.length [] s _ H (fun _ _ => False) I (stat I hn) st ((wk g H e xs.length).2 (Nat.le_refl _))) (fun r s1 hr => ?_) fun _ _ z => z.elim
    obtain ⟨rfl, I1⟩ := hr
    exact seg_end (.ok .next) ⟨rfl, H, ⟨⟨_, I1⟩, hn⟩, out.here rl rfl⟩
  | succ k ih =>
    intro i s₀ s g S H hk hi I st hn xa e rl er out
    have hlt : i < xs.length := by omega
    have hz : xs[i]? = some xs[i] := List.getElem?_eq_getElem hlt
    obtain ⟨go, yl⟩ := (wk g H e i).1 _ hz
    rw [List.drop_eq_getElem_cons hlt] at out
    unfold genGo at out
    show Seg _ A _ _ _ s₀ _ ((compTurn (.GeneratorExp elt [⟨tg, iter, [], 0⟩] scope pos) 0 (.ref it) .none Y.env).onRaise (leaving Y.env)) [] s
    rw [compTurn_gen, Sem.onRaise_eq_wrap]
    refine seg_bind_wrap (wpAny_standAt ?_)
    refine seg_bind_wrap ?_
    rw [over]
    refine wpAny_mono (T.item Y rfl rfl rfl hcalm i [] s _ H (fun _ _ => False) I (stat I hn) st go) (fun r s1 hr => ?_) fun _ _ z => z.elim
    obtain ⟨u, rfl, h1⟩ := hr
    refine seg_bind_wrap ?_
    rw [over]
    refine wpAny_mono h1 (fun _ s2 h2 => ?_) fun _ _ z => z.elim
    obtain ⟨x, H2, I2, ru, y2, st2, n2⟩ := h2
    obtain ⟨eH, rp⟩ := yl x H2 y2
    subst eH
    have I2' := I2.pinned (stat I2 n2) (T.obj _ _ st2)
    cases ha : asg t xs[i] ρw with
    | none => rw [ha] at out; exact out.elim
    | some ρ1 =>
      rw [ha] at out
      refine seg_bind_wrap ?_
      rw [over]
      refine wpAny_mono (pg.run _ s2 _ H2 x u (fun σ1 H3 => H3 = H2 ∧ Er c.G c.K g H2 al_ ρ1 σ1 ∧ L2.wipe σ1 vs = L2.wipe σ vs) I2' ru ⟨g, al_, ρw, ρ1, xs[i], er, rp, ha, fun σ1 er1 hw => ⟨rfl, er1, (hw vs hix).trans (wipe_wipe σ vs)⟩⟩) (fun _ s3 h3 => ?_) fun x s' z => by rw [hxe] at z; exact z.elim
      obtain ⟨σ1, H3, I3, eH3, er1, hw⟩ := h3
      subst eH3
      refine seg_bind_wrap ?_
      show wpAny _ _ (forIn ([] : List Expr) true _) _ _ _
      simp only [List.forIn_nil]
      refine wpAny_pure ?_
      simp only [if_true]
      have hy : ∀ v, yieldOut Y.env v = yieldValue v := fun v => by simp only [yieldOut, hco, Bool.false_eq_true, if_false]
      simp only [hy]
      rw [Sem.bind_eq_wrap', Sem.bind_eq_wrap', Sem.wrap_wrap, Sem.wrap_wrap]
      refine seg_wrap ?_
      rw [over]
      -- the element
      have rd : TQ c.noX (relL c.noX) fe σ1 H3 (fun x H4 => ∃ b, x = .bl b ∧ (b ≠ al → QB b H4) ∧ (b = al → ∃ g4 S4, Fit c g4 ∧ Ext g1 H1 g4 H4 ∧ Rl c.G c.K g4 H4 al_ S4 ∧ Er c.G c.K g4 H4 al_ ρw (L2.wipe σ vs) ∧ Out c relB σ' g4 H4 al_ (genGo al (bodyG fe) t (xs.drop (i + 1)) ρw S4) QB)) := by
        unfold bodyG at out
        refine TQ.stepC (k := fun v S2 => asBl S.length v S2) xa rl er1 out fun x H4 g4 al4 v S4 e4 p4 xa4 rl4 er4 q4 out4 => ?_
        unfold asBl at out4
        split at out4
        · rename_i b
          simp only [R.calm, R.bind] at out4
          cases rl_bl q4
          have rl5 := rl4.back p4 rl.len
          have out5 := out4.rebase e4 (List.prefix_refl al_)
          refine ⟨b, rfl, fun hb => ?_, fun hb => ?_⟩
          · rw [if_neg hb] at out5
            have hb2 : (!al) = b := by cases b <;> cases al <;> first | rfl | exact absurd rfl hb
            rw [hb2] at out5
            exact out5.here rl5 rfl
          · rw [if_pos hb] at out5
            exact ⟨g4, _, xa4, e.trans e4, rl5, er.mono e4 (List.prefix_refl _), out5⟩
        · exact out4.elim
      refine wpAny_mono (pe.run _ s3 σ1 H3 _ I3 rd) (fun yv s4 h4 => ?_) fun x s' z => by rw [hxe] at z; exact z.elim
      obtain ⟨xv, H4, I4, r4, b, hxv, hq, hgo⟩ := h4
      subst hxv
      cases r4
      have pin4 : ∀ b ∈ fp, ∀ o, s2.heap.get? b = some o → s4.heap.get? b = some o ∧ H4 b = none := fun b hb o e =>
        let z := I4.pin (b, o) (List.mem_append_right _ (List.mem_append_right _ (mem_pinsAt hb e)))
        ⟨z.1, z.2.1⟩
      have n4 : ∀ b ∈ fp, H4 b = none := fun b hb => by
        obtain ⟨o, e, _⟩ := T.obj _ _ st2 b hb
        exact (pin4 b hb o e).2
      have st4 : tn (i + 1) s4.heap := T.keep _ _ _ st2 fun b hb o e => (pin4 b hb o e).1
      have hl : (L2.wipe σ vs).length = σ1.length := by rw [← hw, wipe_length]
      have I5 : L2.Inv Y [] (L2.wipe σ vs) H4 s4 := (I4.unpinned (pins := [])).weak hl fun j v e => by
        rw [← hw] at e
        exact (wipe_some e).1
      refine seg_at (seg_yield rfl rfl rfl ⟨b, H4, rfl, ⟨⟨_, I5⟩, n4⟩, hq, fun hb s'' os bare keep => ?_⟩)
      obtain ⟨g4, S4, xa4, e4, rl4, er4, out4⟩ := hgo hb
      have I6 : L2.Inv Y [] (L2.wipe σ vs) H4 s'' := I5.call' (ch := []) os (Un.kept keep) (I5.hok.kept keep) bare fun b z => by simp at z
      exact seg_again rfl (ih (i + 1) s'' s'' g4 S4 H4 (by omega) hlt I6 (T.keep _ _ _ st4 fun b _ o e => keep b o e) n4 xa4 e4 rl4 er4 out4)
end SW

-- SwL
set_option Elab.async false
set_option linter.all false
set_option maxRecDepth 100000
set_option maxHeartbeats 4000000
set_option autoImplicit false
/-! SwL: generator expressions made and walked -/
namespace SW
open PySem PySem.Spec PyProof.Rows L2 GenW

section
variable {X : Cx} {pins : List (Addr × Obj)} {σ : L2.St} {H : Hp} {s : Shared}
/-- the table has grown by a new code object, whose own table is empty -/
def H3 (H : Hp) (P : Addr) (ps : Array Value) (cc P2 : Addr) : Hp := upd (upd (upd H P (.tbl ps)) cc (.ext fun h => PySem.W.CodeHd h cc P2)) P2 (.tbl #[])
theorem H3_ne {P cc P2 b : Addr} {ps : Array Value} (h1 : b ≠ P) (h2 : b ≠ cc) (h3 : b ≠ P2) : H3 H P ps cc P2 b = H b := by
  unfold H3
  rw [upd_ne h3, upd_ne h2, upd_ne h1]
theorem inv_tab3 {P cc P2 : Addr} {ps more : Array Value} {h' : Heap} {t' : Nat} (I : L2.Inv X pins σ H s) (hP : H P = some (.tbl ps)) (k : ∀ b o, b ≠ P → s.heap.get? b = some o → h'.get? b = some o)
    (hm : h'.get? P = some { cls := .none, data := .fields (ps ++ more) }) (hc : s.heap.objs.size ≤ cc) (hP2 : s.heap.objs.size ≤ P2) (hne : cc ≠ P2) (hcd : PySem.W.CodeHd h' cc P2) (hm2 : h'.get? P2 = some { cls := .none, data := .fields #[] }) :
    L2.Inv X pins σ (H3 H P (ps ++ more) cc P2) { s with heap := h', toks := t' } := by
  have nc : H cc = none := I.hok.fresh hc
  have nP2 : H P2 = none := I.hok.fresh hP2
  have cP : cc ≠ P := ne_of_none hP nc |>.symm
  have P2P : P2 ≠ P := ne_of_none hP nP2 |>.symm
  have at_ : ∀ b u, H b = some u → b ≠ P → H3 H P (ps ++ more) cc P2 b = H b := fun b u e h1 => H3_ne h1 (ne_of_none e nc) (ne_of_none e nP2)
  have nP : ∀ b u, H b = some u → (∀ q, u ≠ .tbl q) → b ≠ P := fun b u e q z => by
    rw [z, hP] at e
    exact q ps (Option.some.inj e).symm
  have nN : ∀ b, H b = none → b ≠ P := fun b e z => by
    rw [z, hP] at e
    cases e
  have old : ∀ b o, s.heap.get? b = some o → b ≠ cc ∧ b ≠ P2 := fun b o e => ⟨Nat.ne_of_lt (Nat.lt_of_lt_of_le (Heap.lt_size e) hc), Nat.ne_of_lt (Nat.lt_of_lt_of_le (Heap.lt_size e) hP2)⟩
  refine I.step (g' := s.gens) (d' := s.drawn) (ch := []) (fun b hb => absurd hb (by simp)) (fun b o _ _ _ e n => k b o (nN b n) e) (fun b o _ _ _ e n => ⟨o.slots, k b o (nN b n) e⟩)
    (fun b o _ e n => by rw [H3_ne (nN b n) (old b o e).1 (old b o e).2]; exact n) (fun b o _ e => ?_) (fun b xs e => by rw [at_ b _ e (nP b _ e (fun q z => by cases z))]; exact e) (fun b o u e => by rw [at_ b _ e (nP b _ e (fun q z => by cases z))]; exact e) (fun b qs e => ?_) (fun m hn => ?_) (fun b u e => ?_) I.bare
  · by_cases hb : b = P
    · rw [hb]
      exact ⟨_, hm⟩
    · exact ⟨o, k b o hb e⟩
  · by_cases hb : b = P
    · rw [hb, hP] at e
      cases e
      refine ⟨more, ?_⟩
      rw [hb]
      unfold H3
      rw [upd_ne (Ne.symm P2P), upd_ne (Ne.symm cP), upd_same]
    · rw [at_ b _ e hb, e]
      exact ⟨#[], by simp⟩
  · obtain ⟨ob, es, ep, ho, r⟩ := hn
    exact ⟨ob, es, ep, k _ ob (nN _ I.free) ho, r⟩
  · by_cases h2 : b = P2
    · unfold H3 at e
      rw [h2, upd_same] at e
      cases e
      rw [h2]
      exact hm2
    · by_cases h1 : b = cc
      · unfold H3 at e
        rw [upd_ne h2, h1, upd_same] at e
        cases e
        rw [h1]
        refine ⟨hcd, ?_, fun ha hb z q => ?_⟩
        · obtain ⟨o, _, _, _, _, _, _, _, _, e1, _⟩ := hcd
          exact ⟨o, e1⟩
        · obtain ⟨o, vs, file, tf, flags, tg, inF, text, tt, e1, r⟩ := z
          exact ⟨o, vs, file, tf, flags, tg, inF, text, tt, q o e1, r⟩
      · by_cases hb2 : b = P
        · unfold H3 at e
          rw [upd_ne h2, upd_ne h1, hb2, upd_same] at e
          cases e
          rw [hb2]
          exact hm
        · rw [H3_ne hb2 h1 h2] at e
          refine (I.hok b u e).stay (fun d v hd q => k d v ?_ q) (fun d q => by rw [at_ d _ q (nP d _ q (fun q z => by cases z))]; exact q) fun d xs q => by rw [at_ d _ q (nP d _ q (fun q z => by cases z))]; exact q
          rcases hd with z | z
          · rw [z]
            exact hb2
          · exact nP d _ z (fun q z => by cases z)
end
section
variable {G : Gd} {K : PySem.W.Frag} {g : Gh} {H : Hp} {al : List Addr} {S : Store}
/-- the codes that are known, one more -/
def Gh.code (g : Gh) (cc P2 : Addr) : Gh := ⟨fun b => g.F b ∨ b = cc, fun a b => g.cd a b ∨ (a = cc ∧ b = P2), g.xa⟩
theorem codes_append : ∀ {l : List Value} {v1 v2 : Value} {cc P2 : Addr}, TriplesOk l → CodesOk g l → g.cd cc P2 → CodesOk g (l ++ [v1, v2, .ref cc])
  | [], _, _, cc, P2, _, _, h => ⟨⟨cc, P2, rfl, h⟩, trivial⟩
  | [a], _, _, _, _, t, _, _ => by cases a <;> exact t.elim
  | [a, b], _, _, _, _, t, _, _ => by cases a <;> cases b <;> exact t.elim
  | a :: b :: v :: rest, v1, v2, cc, P2, t, q, h => by
    refine ⟨q.1, codes_append (l := rest) ?_ q.2 h⟩
    cases a <;> cases b <;> first | exact t | exact t.elim
theorem rl_tab3 {P cc P2 : Addr} {ps : Array Value} {v1 v2 : Value} (r : Rl G K g H al S) (hT : G.tab P ∨ ∃ c0, g.cd c0 P) (hP : H P = some (.tbl ps)) (hc : H cc = none) (hP2 : H P2 = none) (hne : cc ≠ P2) (ht : TriplesOk (ps ++ #[v1, v2, .ref cc]).toList) :
    Ext g H (g.code cc P2) (H3 H P (ps ++ #[v1, v2, .ref cc]) cc P2) ∧ Rl G K (g.code cc P2) (H3 H P (ps ++ #[v1, v2, .ref cc]) cc P2) al S := by
  have cP : cc ≠ P := (ne_of_none hP hc).symm
  have P2P : P2 ≠ P := (ne_of_none hP hP2).symm
  have nP : ∀ b, g.F b → b ≠ P := fun b hb z => (r.tab P hT).2 (z ▸ hb)
  have nFc : ¬ g.F cc := r.nF hc
  have nFP : ¬ g.F P2 := r.nF hP2
  have keepF : ∀ b, g.F b → H3 H P (ps ++ #[v1, v2, .ref cc]) cc P2 b = H b := fun b hb => H3_ne (nP b hb) (fun z => nFc (z ▸ hb)) (fun z => nFP (z ▸ hb))
  have atc : H3 H P (ps ++ #[v1, v2, .ref cc]) cc P2 cc = some (.ext fun h => PySem.W.CodeHd h cc P2) := by unfold H3; rw [upd_ne hne, upd_same]
  have atP : H3 H P (ps ++ #[v1, v2, .ref cc]) cc P2 P = some (.tbl (ps ++ #[v1, v2, .ref cc])) := by unfold H3; rw [upd_ne (Ne.symm P2P), upd_ne (Ne.symm cP), upd_same]
  have atP2 : H3 H P (ps ++ #[v1, v2, .ref cc]) cc P2 P2 = some (.tbl #[]) := by unfold H3; rw [upd_same]
  have e : Ext g H (g.code cc P2) (H3 H P (ps ++ #[v1, v2, .ref cc]) cc P2) := ⟨fun a xs q => by
    have h1 : a ≠ P := fun z => by rw [z, hP] at q; cases q
    rw [H3_ne h1 (ne_of_none q hc) (ne_of_none q hP2)]; exact q, fun b hb => .inl (keepF b hb), fun b h => .inl h, fun a b h => .inl h, rfl⟩
  refine ⟨e, ⟨r.len, r.nd, fun n ob a h1 h2 => ?_, fun a h => ?_, fun Q hQ => ?_, fun c0 P0 h => ?_⟩⟩
  · obtain ⟨q, u, hu⟩ := r.cell n ob a h1 h2
    have h3 : a ≠ P := fun z => q.notTbl ps (z ▸ hP)
    have h4 := H3_ne (H := H) (ps := ps ++ #[v1, v2, .ref cc]) h3 (ne_of_none hu hc) (ne_of_none hu hP2)
    refine ⟨q.mono e h4 (fun x z => ?_), u, h4.trans hu⟩
    rcases z with z | z
    · exact x z
    · rw [z, hc] at hu; cases hu
  · rcases h with h | h
    · obtain ⟨u, hu⟩ := r.fr a h
      exact ⟨u, (keepF a h).trans hu⟩
    · rw [h]; exact ⟨_, atc⟩
  · have old : (G.tab Q ∨ ∃ c0, g.cd c0 Q) → TabN (g.code cc P2) (H3 H P (ps ++ #[v1, v2, .ref cc]) cc P2) Q := fun hQ => by
      have q := r.tab Q hQ
      have hF : ¬ g.F Q → ¬ (g.code cc P2).F Q := fun x z => by
        rcases z with z | z
        · exact x z
        · obtain ⟨⟨ps', h1, _⟩, _⟩ := q
          rw [z, hc] at h1
          cases h1
      by_cases hPQ : Q = P
      · subst hPQ
        obtain ⟨⟨ps', h1, h2, h3⟩, h4⟩ := q
        rw [hP] at h1
        cases h1
        refine ⟨⟨_, atP, ht, ?_⟩, hF h4⟩
        rw [Array.toList_append]
        exact codes_append h2 (h3.mono0 e.z) (.inr ⟨rfl, rfl⟩)
      · exact q.stay e.z (fun ps' h1 => by rw [H3_ne hPQ (ne_of_none h1 hc) (ne_of_none h1 hP2)]; exact h1) hF
    have new : TabN (g.code cc P2) (H3 H P (ps ++ #[v1, v2, .ref cc]) cc P2) P2 := by
      refine ⟨⟨#[], atP2, trivial, trivial⟩, fun z => ?_⟩
      rcases z with z | z
      · exact nFP z
      · exact hne z.symm
    rcases hQ with hQ | ⟨c0, hQ | ⟨rfl, rfl⟩⟩
    · exact old (.inl hQ)
    · exact old (.inr ⟨c0, hQ⟩)
    · exact new
  · rcases h with h | ⟨rfl, rfl⟩
    · obtain ⟨h1, h2⟩ := r.cod c0 P0 h
      exact ⟨.inl h1, (keepF c0 h1).trans h2⟩
    · exact ⟨.inr rfl, atc⟩
/-- a code that is among those that a table names -/
theorem code_known {pos : Pos} {v : Value} : ∀ {l : List Value}, CodesOk g l → codeAmong pos l = some v → ∃ cc P2, v = .ref cc ∧ g.cd cc P2
  | [], _, e => by cases e
  | [a], _, e => by cases a <;> cases e
  | [a, b], _, e => by cases a <;> cases b <;> cases e
  | a :: b :: u :: rest, h, e => by
    cases a <;> cases b <;> try (cases e; done)
    rename_i i t j t'
    have e : (if (i == pos.line && j == pos.col) = true then some u else codeAmong pos rest) = some v := e
    split at e
    · cases e
      exact h.1
    · exact code_known h.2 e
end

/-! ### the end of a generator expression -/
section
variable {prog : Program} {w : World} {A : Around}
theorem GBk.kept {Y : Cx} {fp : List Addr} {H' : Hp} {s s' : Shared} (b : GBk Y fp H' s) (os : s'.os = s.os) (bare : AllBare s'.gens) (keep : ∀ b o, s.heap.get? b = some o → s'.heap.get? b = some o) : GBk Y fp H' s' := by
  obtain ⟨⟨σ', I⟩, n⟩ := b
  exact ⟨⟨σ', I.call' (ch := []) os (Un.kept keep) (I.hok.kept keep) bare fun b z => by simp at z⟩, n⟩
theorem GBk.bare {Y : Cx} {fp : List Addr} {H' : Hp} {s : Shared} (b : GBk Y fp H' s) : AllBare s.gens := by
  obtain ⟨⟨σ', I⟩, n⟩ := b
  exact I.bare
theorem GBk.lim {Y : Cx} {fp : List Addr} {H' : Hp} {s : Shared} (b : GBk Y fp H' s) : s.heap.NoLimit := by
  obtain ⟨⟨σ', I⟩, n⟩ := b
  exact I.nolimit
theorem seg_genS {elt tg iter : Expr} {scope : Scope} {pos : Pos} {it : Addr} {cenv : PySem.Env} {R : GenEnd} {Yp : Protocol} {n : Nat} {s₀ s : Shared}
    (loop : Seg (model prog w) A R Yp n s₀ (.compLoop (.GeneratorExp elt [⟨tg, iter, [], 0⟩] scope pos) 0 (.ref it) .none cenv) ((model prog w).den (.compLoop (.GeneratorExp elt [⟨tg, iter, [], 0⟩] scope pos) 0 (.ref it) .none cenv)) [] s)
    (self : ∀ (A : Around) (Q : Value → Shared → Prop) (E : Value → Shared → Prop), Q (.ref it) s → wpAny (model prog w) A (pyIter (.ref it)) Q E s) :
    Seg (model prog w) A R Yp n s₀ (.compStart (.GeneratorExp elt [⟨tg, iter, [], 0⟩] scope pos) 0 (.ref it) .none cenv) ((model prog w).den (.compStart (.GeneratorExp elt [⟨tg, iter, [], 0⟩] scope pos) 0 (.ref it) .none cenv)) [] s := by
  show Seg _ A _ _ _ s₀ _ ((compStart (.GeneratorExp elt [⟨tg, iter, [], 0⟩] scope pos) 0 (.ref it) .none cenv).onRaise (leaving cenv)) [] s
  unfold compStart
  rw [Sem.onRaise_eq_wrap]
  show Seg _ A _ _ _ s₀ _ ((ask >>= _).wrap _ _ _ _) [] s
  refine seg_bind_wrap (wpAny_askSetting ?_)
  split
  · exact seg_again rfl loop
  · first
      | exact seg_bind_wrap (wpAny_rule (seg_bind_wrap (wpAny_standAt (seg_bind_wrap (self _ _ _ (seg_again rfl loop))))))
      | (refine seg_bind_wrap (wpAny_rule ?_); show Seg _ A _ _ _ s₀ _ ((standAt iter.pos >>= _).wrap _ _ _ _) [] s; exact seg_bind_wrap (wpAny_standAt (seg_bind_wrap (self _ _ _ (seg_again rfl loop)))))
/-- all(g), its loop -/
theorem all_loop {Y : Cx} {fp : List Addr} {QB : Bool → Hp → Prop} {a : Addr} {g : Nat} {R : Result → Shared → Prop} (hh : A.handled = none) (hd : A.depth < recursionLimit) (hgen : ∀ H' s', GBk Y fp H' s' → s'.heap.IsGen a g)
    (hR : ∀ b H' s', GBk Y fp H' s' → QB b H' → R (.ok (.ret (.bool b))) s') :
    ∀ (m : Nat) (s : Shared), s.heap.IsGen a g → s.heap.NoLimit → (∃ gs, s.gens[g]? = some gs ∧ gs.Goes (model prog w) A.in1.in1 (gRes Y fp true QB) (gPro Y fp true QB) m (.send .none) (s.setGen g .running)) →
      codeAny (model prog w) A (.builtin "all.loop" ⟨[.ref a], []⟩) R s := by
  intro m
  induction m with
  | zero =>
    intro s hg hl ⟨gs, hgs, hgo⟩
    refine codeAny_builtin F.entry_all_loop ?_
    rw [Around.under_plainId F.plain_all_loop _]
    show wpAny _ A.in1 (pyNext (.ref a) >>= _) _ _ s
    refine wpAny_bind (wpAny_pyNext_genexpQ (A := A.in1) (P := fun _ _ s1 => ∃ H', GBk Y fp H' s1 ∧ QB true H') hh hl hd hg hgs hgo (fun v s₁ gs' hbare hv => ?_) (fun s₁ hp h' hk => ?_))
    · obtain ⟨b, H', rfl, bk, hq, hkap⟩ := hv
      refine wpAny_bind (wpAny_holding (wpAny_truthy_bool ?_))
      refine wpAny_bind (wpAny_letGo ?_)
      cases b with
      | true => exact False.elim (hkap rfl s₁ rfl bk.bare fun _ _ e => e)
      | false =>
        simp only [Bool.false_eq_true, if_false]
        refine wpAny_bind (wpAny_rule (wpAny_pure ?_))
        exact hR false H' _ (bk.kept rfl (allBare_setGen bk.bare hbare) fun _ _ e => e) (hq Bool.false_ne_true)
    · obtain ⟨H', bk, hq⟩ := hp
      refine wpAny_bind (wpAny_rule (wpAny_pure ?_))
      exact hR true H' _ (bk.kept rfl (allBare_setGen bk.bare rfl) hk) hq
  | succ m ih =>
    intro s hg hl ⟨gs, hgs, hgo⟩
    have hgl : g < s.gens.size := (Array.getElem?_eq_some_iff.mp hgs).1
    refine codeAny_builtin F.entry_all_loop ?_
    rw [Around.under_plainId F.plain_all_loop _]
    show wpAny _ A.in1 (pyNext (.ref a) >>= _) _ _ s
    refine wpAny_bind (wpAny_gsz (n := g + 1) hgl (wpAny_pyNext_genexpQ (A := A.in1) (P := fun _ _ s1 => ∃ H', GBk Y fp H' s1 ∧ QB true H') hh hl hd hg hgs hgo (fun v s₁ gs' hbare hv => ?_) (fun s₁ hp h' hk => ?_)))
    · intro hsz
      obtain ⟨b, H', rfl, bk, hq, hkap⟩ := hv
      refine wpAny_bind (wpAny_holding (wpAny_truthy_bool ?_))
      refine wpAny_bind (wpAny_letGo ?_)
      have bk2 : GBk Y fp H' (s₁.setGen g gs') := bk.kept rfl (allBare_setGen bk.bare hbare) fun _ _ e => e
      cases b with
      | true =>
        simp only [if_true]
        have hsz1 : g < s₁.gens.size := by
          have q : (s₁.setGen g gs').gens.size = s₁.gens.size := setGen_size _ _ _
          have hsz' : g + 1 ≤ (s₁.setGen g gs').gens.size := hsz
          omega
        refine wpAny_pure ⟨plainId_quiet F.plain_all_loop _, ih (s₁.setGen g gs') (hgen _ _ bk2) bk2.lim ⟨gs', setGen_at hsz1, ?_⟩⟩
        exact hkap rfl _ rfl (allBare_setGen (s := s₁.setGen g gs') bk2.bare rfl) fun _ _ e => e
      | false =>
        simp only [Bool.false_eq_true, if_false]
        refine wpAny_bind (wpAny_rule (wpAny_pure ?_))
        exact hR false H' _ bk2 (hq Bool.false_ne_true)
    · intro hsz
      obtain ⟨H', bk, hq⟩ := hp
      refine wpAny_bind (wpAny_rule (wpAny_pure ?_))
      exact hR true H' _ (bk.kept rfl (allBare_setGen bk.bare rfl) hk) hq
end
end SW

-- SwM
set_option Elab.async false
set_option linter.all false
set_option maxRecDepth 100000
set_option maxHeartbeats 4000000
set_option autoImplicit false
/-! SwM: all(..), any(..) of a generator expression -/
namespace SW
open PySem PySem.Spec PyProof.Rows L2 GenW
section
variable {prog : Program} {w : World} {A : Around}
/-- any(g), its loop -/
theorem any_loop {Y : Cx} {fp : List Addr} {QB : Bool → Hp → Prop} {a : Addr} {g : Nat} {R : Result → Shared → Prop} (hh : A.handled = none) (hd : A.depth < recursionLimit) (hgen : ∀ H' s', GBk Y fp H' s' → s'.heap.IsGen a g)
    (hR : ∀ b H' s', GBk Y fp H' s' → QB b H' → R (.ok (.ret (.bool b))) s') :
    ∀ (m : Nat) (s : Shared), s.heap.IsGen a g → s.heap.NoLimit → (∃ gs, s.gens[g]? = some gs ∧ gs.Goes (model prog w) A.in1.in1 (gRes Y fp false QB) (gPro Y fp false QB) m (.send .none) (s.setGen g .running)) →
      codeAny (model prog w) A (.builtin "any.loop" ⟨[.ref a], []⟩) R s := by
  intro m
  induction m with
  | zero =>
    intro s hg hl ⟨gs, hgs, hgo⟩
    refine codeAny_builtin F.entry_any_loop ?_
    rw [Around.under_plainId F.plain_any_loop _]
    show wpAny _ A.in1 (pyNext (.ref a) >>= _) _ _ s
    refine wpAny_bind (wpAny_pyNext_genexpQ (A := A.in1) (P := fun _ _ s1 => ∃ H', GBk Y fp H' s1 ∧ QB false H') hh hl hd hg hgs hgo (fun v s₁ gs' hbare hv => ?_) (fun s₁ hp h' hk => ?_))
    · obtain ⟨b, H', rfl, bk, hq, hkap⟩ := hv
      refine wpAny_bind (wpAny_holding (wpAny_truthy_bool ?_))
      refine wpAny_bind (wpAny_letGo ?_)
      cases b with
      | false => exact False.elim (hkap rfl s₁ rfl bk.bare fun _ _ e => e)
      | true =>
        simp only [if_true]
        refine wpAny_bind (wpAny_rule (wpAny_pure ?_))
        exact hR true H' _ (bk.kept rfl (allBare_setGen bk.bare hbare) fun _ _ e => e) (hq (fun z => Bool.noConfusion z))
    · obtain ⟨H', bk, hq⟩ := hp
      refine wpAny_bind (wpAny_rule (wpAny_pure ?_))
      exact hR false H' _ (bk.kept rfl (allBare_setGen bk.bare rfl) hk) hq
  | succ m ih =>
    intro s hg hl ⟨gs, hgs, hgo⟩
    have hgl : g < s.gens.size := (Array.getElem?_eq_some_iff.mp hgs).1
    refine codeAny_builtin F.entry_any_loop ?_
    rw [Around.under_plainId F.plain_any_loop _]
    show wpAny _ A.in1 (pyNext (.ref a) >>= _) _ _ s
    refine wpAny_bind (wpAny_gsz (n := g + 1) hgl (wpAny_pyNext_genexpQ (A := A.in1) (P := fun _ _ s1 => ∃ H', GBk Y fp H' s1 ∧ QB false H') hh hl hd hg hgs hgo (fun v s₁ gs' hbare hv => ?_) (fun s₁ hp h' hk => ?_)))
    · intro hsz
      obtain ⟨b, H', rfl, bk, hq, hkap⟩ := hv
      refine wpAny_bind (wpAny_holding (wpAny_truthy_bool ?_))
      refine wpAny_bind (wpAny_letGo ?_)
      have bk2 : GBk Y fp H' (s₁.setGen g gs') := bk.kept rfl (allBare_setGen bk.bare hbare) fun _ _ e => e
      cases b with
      | false =>
        simp only [Bool.false_eq_true, if_false]
        have hsz1 : g < s₁.gens.size := by
          have q : (s₁.setGen g gs').gens.size = s₁.gens.size := setGen_size _ _ _
          have hsz' : g + 1 ≤ (s₁.setGen g gs').gens.size := hsz
          omega
        refine wpAny_pure ⟨plainId_quiet F.plain_any_loop _, ih (s₁.setGen g gs') (hgen _ _ bk2) bk2.lim ⟨gs', setGen_at hsz1, ?_⟩⟩
        exact hkap rfl _ rfl (allBare_setGen (s := s₁.setGen g gs') bk2.bare rfl) fun _ _ e => e
      | true =>
        simp only [if_true]
        refine wpAny_bind (wpAny_rule (wpAny_pure ?_))
        exact hR true H' _ bk2 (hq (fun z => Bool.noConfusion z))
    · intro hsz
      obtain ⟨H', bk, hq⟩ := hp
      refine wpAny_bind (wpAny_rule (wpAny_pure ?_))
      exact hR false H' _ (bk.kept rfl (allBare_setGen bk.bare rfl) hk) hq
end
/-- the code that runs, and its table -/
structure Coded (X : Cx) (c : Ct) : Prop where
  ex : ∃ cc P, X.env.code = .ref cc ∧ ((c.G.tab P ∧ PySem.W.CodeHd X.base cc P) ∨ c.cd cc P)
  bm : ∃ (bm : Addr) (ob : Obj), X.mg "__builtins__" = some (.ref bm) ∧ bm ≠ builtinsNs ∧ X.base.get? bm = some ob ∧ ob.cls = .type "module" ∧ ob.dict = some builtinsNs ∧ ob.data = .plain
def genF (fi : Env → Store → R (List D)) (fe : Env → Store → R Vl) (al : Bool) (t : Tg) (vs : List Nat) (ρ : Env) (S : Store) : R Vl :=
  (fi ρ S).bind fun xs S1 => (genGo al (bodyG fe) t xs (wipeE ρ vs) S1).bind fun b S2 => R.ok (Vl.d (D.bl b)) S2
/-- one known code more -/
def Ct.code (c : Ct) (cc P : Addr) : Ct := ⟨c.G, c.K, c.W, c.xo, fun a b => c.cd a b ∨ (a = cc ∧ b = P)⟩
/-- the frame's context -/
abbrev GBlk (X : Cx) (scope : Scope) (P : Cx → Addr → Addr → Prop) : Prop := ∀ (s : Shared) (H : Hp) (C : Addr) (cc P2 : Addr) (fp : List Addr) (pn : List (Addr × Obj)),
  P (gX X s H (X.A.in1.in1.deeper (gEnv X scope C (.ref cc))) (gEnv X scope C (.ref cc)) fp pn) cc P2
section
variable {X : Cx} {c : Ct} {elt tg iter : Expr} {scope : Scope} {own : List (Str × Nat)} {pos gpos p : Pos} {fi : Env → Store → R (List D)} {fe : Env → Store → R Vl} {t : Tg} {pins : List (Addr × Obj)} {σ : L2.St} {H : Hp} {s : Shared} {Q : VK}
/-- the generator expression is made; it is walked by k -/
theorem gen_made {al : Bool} {Q' : Value → Shared → Prop} (hr : ∃ k, Room (k + 3) X.A) (hN : X.N.Nodup) (C : Coded X c) (hi : SI X c tg iter fi) (ok : BlkOk X.N X.env.scope scope own) (nc : ∀ y ∈ scope.names, y.2 ≠ .cell) (h0 : scope.names.lookup (".0" : Str) = some NameKind.local) (hco : scope.isCoroutine = false)
    (hg : GBlk X scope fun Y cc P2 => PG Y tg (gQ (c.noX.code cc P2) t)) (he : GBlk X scope fun Y cc P2 => SE Y (c.noX.code cc P2) elt fe) (hix : ∀ i ∈ t.ix, i ∈ own.map (·.2)) (hs : ∀ v, genFold iter X.env v = pure v)
    (I : L2.Inv X pins σ H s) (rd : TQ c (relL c) (genF fi fe al t (own.map (·.2))) σ H Q)
    (hQ : ∀ (Y : Cx) (fp : List Addr) (QB : Bool → Hp → Prop) (a : Addr) (g m : Nat) (s5 : Shared), Y.prog = X.prog → Y.w = X.w → (∀ b H', QB b H' → Q (.bl b) H') → (∀ H' s', GBk Y fp H' s' → s'.heap.IsGen a g ∧ L2.Inv X pins σ H' s') → s5.heap.IsGen a g → s5.heap.NoLimit →
      (∃ gs, s5.gens[g]? = some gs ∧ ∀ s6 : Shared, s6.os = s5.os → AllBare s6.gens → (∀ b o, s5.heap.get? b = some o → s6.heap.get? b = some o) → gs.Goes (model X.prog X.w) X.A.in1.in1 (gRes Y fp al QB) (gPro Y fp al QB) m (.send .none) s6) → AllBare s5.gens → Q' (.ref a) s5) :
    wpAny (model X.prog X.w) X.A (eval (.GeneratorExp elt [⟨tg, iter, [], 0⟩] scope gpos) X.env) Q' X.xe s := by
  obtain ⟨kr, hr⟩ := hr
  obtain ⟨g0, al0, ρ, S0, xa, rl, er, out⟩ := rd
  have hfree : ∀ y ∈ scope.names, y.2 = .free → ∃ c, X.env.cells.lookup y.1 = some c := fun y hy e => by
    rcases ok.free y hy e with k | k
    · exact I.ok.has _ (.inl k)
    · exact I.ok.has _ (.inr k)
  refine wpAny_GeneratorExp_make hco (closure_ok hfree) nc h0 ok.kind hr.depth ?_ hs
  have t2 : TQ c (Wk c) fi σ H (fun J H1 => ∃ g1 al1 xs S1, Fit c g1 ∧ Rl c.G c.K g1 H1 al1 S1 ∧ Er c.G c.K g1 H1 al1 ρ σ ∧ Wk c g1 H1 al1 xs J ∧ Out c (relL c) σ g1 H1 al1 ((genGo al (bodyG fe) t xs (wipeE ρ (own.map (·.2))) S1).bind fun b S2 => R.ok (Vl.d (D.bl b)) S2) Q) :=
    TQ.step (k := fun xs S1 => (genGo al (bodyG fe) t xs (wipeE ρ (own.map (·.2))) S1).bind fun b S2 => R.ok (Vl.d (D.bl b)) S2) xa rl er out fun J H1 g1 al1 xs S1 e1 p1 xa1 rl1 er1 wk out1 => ⟨g1, al1, xs, S1, xa1, rl1, er1, wk, out1⟩
  refine thn (hi.run pins s σ H _ I t2) fun xv s1 hx => thn hx fun itv s2 h2 => ?_
  obtain ⟨it, fp, tn, J, H2, rfl, I2, T, st2, f2, g2, al2, xs, S2, xa2, rl2, er2, wk2, out2⟩ := h2
  obtain ⟨cc0, P, hcode, hcd⟩ := C.ex
  have hT : c.G.tab P ∨ ∃ c0, g2.cd c0 P := hcd.elim (fun z => .inl z.1) fun z => .inr ⟨cc0, xa2.cd _ _ z⟩
  have cd : PySem.W.CodeHd s2.heap cc0 P := by
    rcases hcd with z | z
    · exact z.2.keeps I2.bk
    · obtain ⟨h1, h2⟩ := rl2.cod _ _ (xa2.cd _ _ z)
      exact (I2.hok cc0 _ h2).1
  obtain ⟨⟨ps, hP, ht, hcs⟩, nF⟩ := rl2.tab P hT
  have hPs : s2.heap.get? P = some { cls := .none, data := .fields ps } := I2.hok P _ hP
  refine ⟨I2.nolimit, ?_⟩
  obtain ⟨bm, ob, e1, e2, e3, e6, e7, e8⟩ := C.bm
  -- from the state in which the code is known
  have cont : ∀ (cc P2 : Addr) (h3 : Heap) (tk : Nat) (H3' : Hp) (g3 : Gh), L2.Inv X pins σ H3' { s2 with heap := h3, toks := tk } → Ext g2 H2 g3 H3' → Rl c.G c.K g3 H3' al2 S2 → g3.cd cc P2 → (∀ b o, b ≠ P → s2.heap.get? b = some o → h3.get? b = some o) → s2.heap.objs.size ≤ h3.objs.size → (∀ b, H2 b = none → b < s2.heap.objs.size → H3' b = none) →
      wpAny (model X.prog X.w) X.A (builtinsFor X.env.globals X.env.builtins) (fun bi s₄ => ∀ h', h'.Ns s₄.heap.objs.size (fun y => if y = ".0" then some (.ref it) else none) → Heap.SameBut s₄.heap.objs.size (s₄.heap.push { cls := .type "frame", data := .dict #[] }) h' →
          Q' (.ref h'.objs.size) { s₄ with
            gens := s₄.gens.push (.fresh (.compStart (.GeneratorExp elt [⟨tg, iter, [], 0⟩] scope gpos) 0 (.ref it) .none (genEnv scope (cloFrom X.env.cells scope.names []) s₄.heap.objs.size (.ref cc) bi X.env))),
            toks := s₄.toks + 1 + 1 + 1,
            heap := h'.push { cls := .type "generator", data := .fields #[.int s₄.gens.size 0, .str "<genexpr>" (s₄.toks + 1), .str (X.env.qual ++ "<genexpr>") (s₄.toks + 1 + 1)] } }) X.xe { s2 with heap := h3, toks := tk } := by
    intro cc P2 h3 tk H3' g3 I3 ex3 rl3 kn keep3 sz3 none3
    refine wpAny_builtinsFor (m := X.mg) (by rw [I3.ok.glob]; exact I3.mod.glob.keeps I3.bk) e1 e2 (I3.bk _ _ e3) e6 e7 e8 ?_
    generalize hs3 : ({ s2 with heap := h3, toks := tk } : Shared) = s3 at I3 ⊢
    have hh3 : s3.heap = h3 := by rw [← hs3]
    intro h' hn' hs'
    have hsz : h'.objs.size = s3.heap.objs.size + 1 := by rw [hs'.1, Heap.size_push]
    have keep' : ∀ b o, s3.heap.get? b = some o → h'.get? b = some o := fun b o e => hs'.extBut b o (Nat.ne_of_lt (Heap.lt_size e)) (Heap.get?_push_of_some _ e)
    generalize hgo : ({ cls := .type "generator", data := .fields #[.int s3.gens.size 0, .str "<genexpr>" (s3.toks + 1), .str (X.env.qual ++ "<genexpr>") (s3.toks + 1 + 1)] } : Obj) = go
    have hgc : ∃ nm qn, go.cls = .type "generator" ∧ go.data = .fields #[.int s3.gens.size 0, nm, qn] ∧ go.slots = #[] := ⟨_, _, by rw [← hgo], by rw [← hgo], by rw [← hgo]⟩
    have hgp : (h'.push go).get? h'.objs.size = some go := Heap.get?_push_size _ (by rw [← hgo]; rfl)
    have isg : ∀ h : Heap, h.get? h'.objs.size = some go → h.IsGen h'.objs.size s3.gens.size := fun h e => by
      obtain ⟨nm, qn, z1, z2, z3⟩ := hgc
      exact ⟨go, nm, qn, e, z1, z2, z3⟩
    have keep5 : ∀ b o, s3.heap.get? b = some o → (h'.push go).get? b = some o := fun b o e => Heap.get?_push_of_some _ (keep' b o e)
    generalize hcenv : gEnv X scope s3.heap.objs.size (.ref cc) = cenv
    have hcenv' : genEnv scope (cloFrom X.env.cells scope.names []) s3.heap.objs.size (.ref cc) builtinsNs X.env = cenv := hcenv
    rw [hcenv']
    -- the frame's context
    have fp3 : ∀ b ∈ fp, FpOk X pins H3' b ∧ b < s3.heap.objs.size := fun b hb => by
      obtain ⟨o, e, _⟩ := T.obj _ _ st2 b hb
      have hlt := Heap.lt_size e
      exact ⟨⟨none3 b (f2 b hb).1 hlt, (f2 b hb).2⟩, by rw [hh3]; exact Nat.lt_of_lt_of_le hlt sz3⟩
    have st3 : tn 0 h3 := T.keep _ _ _ st2 fun b hb o e => keep3 b o (fun z => by
      have := (f2 b hb).1
      rw [z, hP] at this
      cases this) e
    have hYA : X.A.in1.in1.deeper cenv = X.A.in1.in1.deeper cenv := rfl
    have frm : (X.A.in1.in1.deeper cenv).frames = some (cenv :: X.stack) := Around.frames_deeper (A := X.A.in1.in1) I3.ok.frames
    have pnOk : ∀ p ∈ [(h'.objs.size, go)], (h'.push go).get? p.1 = some p.2 ∧ s3.heap.objs.size < p.1 ∧ ∀ v, p.2.data ≠ .cell v := fun p hp => by
      rw [List.mem_singleton.mp hp]
      refine ⟨hgp, by rw [hsz]; exact Nat.lt_succ_self _, fun v z => ?_⟩
      obtain ⟨nm, qn, _, z2, _⟩ := hgc
      have z : go.data = .cell v := z
      rw [z2] at z
      cases z
    have bare5 : AllBare (s3.gens.push (.fresh (.compStart (.GeneratorExp elt [⟨tg, iter, [], 0⟩] scope gpos) 0 (.ref it) .none cenv))) := AllBare.push I3.bare rfl
    have start : ∀ s6 : Shared, s6.os = s3.os → AllBare s6.gens → (∀ b o, (h'.push go).get? b = some o → s6.heap.get? b = some o) →
        L2.Inv (gX X s3 H3' (X.A.in1.in1.deeper cenv) cenv fp [(h'.objs.size, go)]) [] (L2.wipe σ (own.map (·.2))) H3' s6 := fun s6 os6 bare6 keep6 => by
      have q := gen_start (s := s3) (s5 := s6) (code := .ref cc) (A := X.A.in1.in1.deeper cenv) (pn := [(h'.objs.size, go)]) I3 ok nc hN fp3 (show X.A.in1.in1.handled = none from hr.hd) (by rw [hcenv]; exact frm) os6 bare6 (fun b o e => keep6 b o (keep5 b o e)) ((hn'.push go).keeps keep6) (fun p hp => ⟨keep6 _ _ (pnOk p hp).1, (pnOk p hp).2⟩)
      rw [hcenv] at q
      exact q
    have pg := hg s3 H3' s3.heap.objs.size cc P2 fp [(h'.objs.size, go)]
    have pe := he s3 H3' s3.heap.objs.size cc P2 fp [(h'.objs.size, go)]
    rw [hcenv] at pg pe
    have back : ∀ H' s', GBk (gX X s3 H3' (X.A.in1.in1.deeper cenv) cenv fp [(h'.objs.size, go)]) fp H' s' → s'.heap.IsGen h'.objs.size s3.gens.size ∧ L2.Inv X pins σ H' s' := fun H' s' ⟨⟨σ', J'⟩, hn⟩ => by
      refine ⟨isg _ (J'.pin (h'.objs.size, go) (by simp)).1, ?_⟩
      exact I3.call' (ch := fp) J'.os J'.base J'.hok J'.bare fun b hb => ⟨(fp3 b hb).1.2.2.2.1, (fp3 b hb).1.2.1, (fp3 b hb).1.2.2.2.2.1, (fp3 b hb).1.2.2.2.2.2⟩
    -- what is wanted, by the answer
    have out3 := out2.rebase ex3 (List.prefix_refl al2)
    refine hQ (gX X s3 H3' (X.A.in1.in1.deeper cenv) cenv fp [(h'.objs.size, go)]) fp (fun b H' => Q (.bl b) H') h'.objs.size s3.gens.size (xs.length - 0) _ rfl rfl (fun b H' z => z) back (isg _ hgp) ((I3.nolimit.keeps keep5)) ⟨_, Array.getElem?_push_size .., fun s6 os6 bare6 keep6 => ⟨rfl, ?_⟩⟩ bare5
    have J6 := start s6 os6 bare6 keep6
    have wk3 : Wk (c.noX.code cc P2) g3 H3' al2 xs J := fun g' H' e' i => wk2 g' H' (ex3.trans e') i
    have fit3 : Fit (c.noX.code cc P2) g3 := ⟨(xa2.ext ex3).xa, fun a b z => by
      rcases z with z | ⟨rfl, rfl⟩
      · exact (xa2.ext ex3).cd a b z
      · exact kn⟩
    have out4 : Out (c.noX.code cc P2) relB σ g3 H3' al2 (genGo al (bodyG fe) t xs (wipeE ρ (own.map (·.2))) S2) (fun b H' => Q (.bl b) H') := by
      have noexc : ∀ (xs : List D) (ρ : Env) (S : Store), ∀ k p S', genGo al (bodyG fe) t xs ρ S ≠ .exc k p S' := by
        intro xs
        induction xs with
        | nil => intro ρ S k p S' z; unfold genGo at z; cases z
        | cons x r ih =>
          intro ρ S k p S' z
          unfold genGo at z
          cases ha : asg t x ρ with
          | none => rw [ha] at z; cases z
          | some ρ1 =>
            rw [ha] at z
            simp only at z
            unfold bodyG at z
            cases hb : ((fe ρ1 S).bind fun v S2 => asBl S.length v S2) with
            | ok b S1 =>
              rw [hb] at z
              simp only [R.calm, R.bind] at z
              split at z
              · exact ih ρ S1 k p S' z
              · cases z
            | exc k' p' S1 => rw [hb] at z; cases z
            | bad => rw [hb] at z; cases z
      cases hgg : genGo al (bodyG fe) t xs (wipeE ρ (own.map (·.2))) S2 with
      | ok b S' =>
        rw [hgg] at out3
        intro g' H' al' x e' r' p' q'
        have q' : b = x := q'
        subst q'
        exact out3 g' H' al' (.bl b) e' r' p' (show Rep c.G c.K g' H' (.bl b) (.bl b) by unfold Rep; rfl)
      | exc k p S' => exact absurd hgg (noexc _ _ _ _ _ _)
      | bad => rw [hgg] at out3; exact out3.elim
    have loop := seg_gen (Y := gX X s3 H3' (X.A.in1.in1.deeper cenv) cenv fp [(h'.objs.size, go)]) (c := c.noX.code cc P2) (A := X.A.in1.in1) (elt := elt) (tg := tg) (iter := iter) (scope := scope) (pos := gpos) (t := t) (fe := fe) (vs := own.map (·.2)) (σ := σ) (σ' := σ) (al := al) (QB := fun b H' => Q (.bl b) H') (al_ := al2) (ρw := wipeE ρ (own.map (·.2)))
      rfl rfl rfl rfl (fun p hp b hb z => by
        rw [List.mem_singleton.mp hp] at z
        have h1 := (fp3 b hb).2
        have z : h'.objs.size = b := z
        exact Nat.lt_irrefl _ (Nat.lt_of_lt_of_le h1 (by rw [← z, hsz]; exact Nat.le_succ _))) T pg pe hix (by show cenv.scope.isCoroutine = false; rw [← hcenv]; exact hco) wk3 (xs.length - 0) 0 s6 s6 g3 S2 H3' rfl (Nat.zero_le _) J6 (T.keep _ _ _ st3 fun b hb o e => keep6 b o (keep5 b o (by rw [hh3]; exact e))) (fun b hb => (fp3 b hb).1.1) fit3 (.refl _ _) rl3 ((er2.mono ex3 (List.prefix_refl _)).wiped _) (by rw [List.drop_zero]; exact out4)
    exact seg_genS loop fun A' Q'' E' q => T.self A' 0 s6 Q'' E' (T.keep _ _ _ st3 fun b hb o e => keep6 b o (keep5 b o (by rw [hh3]; exact e))) q
  cases hf : codeAmong gpos ps.toList with
  | none =>
    refine wpAny_genexprCodeX hcode (cd.code hPs ht) (cd.tab hPs) hf fun c' h' tk hx hge hlt hco' _ htab' hnew => ?_
    obtain ⟨P2, hP2, hI, hTa⟩ := hnew
    have hcd2 := PySem.W.CodeHd.of hI hTa
    have hne : c' ≠ P2 := by
      obtain ⟨_, _, _, _, _, _, _, _, _, _, _, _, _, _, _, _, _, _, hne⟩ := hcd2
      exact hne
    have htr : TriplesOk (ps ++ #[rawInt gpos.line, rawInt gpos.col, Value.ref c']).toList := by
      obtain ⟨o1, vs, f1, tf, fl, tg, inF, tx, tt, op, _, _, _, _, _, _, _, _, _, htr, _⟩ := hco'
      exact htr
    have I3 := inv_tab3 (t' := tk) I2 hP (fun b o hb e => hx b o hb e) htab'.2 hge hP2 hne hcd2 hTa.2
    obtain ⟨ex3, rl3⟩ := rl_tab3 (v1 := rawInt gpos.line) (v2 := rawInt gpos.col) rl2 hT hP (I2.hok.fresh hge) (I2.hok.fresh hP2) hne htr
    refine cont c' P2 h' tk _ _ I3 ex3 rl3 (.inr ⟨rfl, rfl⟩) (fun b o hb e => hx b o hb e) (Nat.le_trans hge (Nat.le_of_lt hlt)) fun b hb hlt2 => ?_
    rw [H3_ne (fun z => by rw [z, hP] at hb; cases hb) (Nat.ne_of_lt (Nat.lt_of_lt_of_le hlt2 hge)) (Nat.ne_of_lt (Nat.lt_of_lt_of_le hlt2 hP2))]
    exact hb
  | some cv =>
    obtain ⟨cc, P2, rfl, hk⟩ := code_known hcs hf
    refine wpAny_genexprCode_hit hcode (cd.code hPs ht) hf ?_
    exact cont cc P2 s2.heap s2.toks H2 g2 I2 (.refl _ _) rl2 hk (fun b o _ e => e) (Nat.le_refl _) fun b hb _ => hb
end
end SW

-- SwN
set_option Elab.async false
set_option linter.all false
set_option maxRecDepth 100000
set_option maxHeartbeats 4000000
set_option autoImplicit false
/-! SwN: all(..), any(..) of generator expressions, as expressions -/
namespace SW
open PySem PySem.Spec PyProof.Rows L2 GenW
section
variable {X : Cx} {c : Ct} {elt tg iter : Expr} {scope : Scope} {own : List (Str × Nat)} {pos gpos p : Pos} {fi : Env → Store → R (List D)} {fe : Env → Store → R Vl} {t : Tg}
theorem se_all (hr : ∃ k, Room (k + 3) X.A) (hN : X.N.Nodup) (C : Coded X c) (hi : SI X c tg iter fi) (ok : BlkOk X.N X.env.scope scope own) (nc : ∀ y ∈ scope.names, y.2 ≠ .cell) (h0 : scope.names.lookup (".0" : Str) = some NameKind.local) (hco : scope.isCoroutine = false)
    (hg : GBlk X scope fun Y cc P2 => PG Y tg (gQ (c.noX.code cc P2) t)) (he : GBlk X scope fun Y cc P2 => SE Y (c.noX.code cc P2) elt fe) (hix : ∀ i ∈ t.ix, i ∈ own.map (·.2)) (hs : ∀ v, genFold iter X.env v = pure v) (hgl : Gl X "all") (hm : X.mg "all" = none) :
    SE X c (.Call (.Name "all" p) [.GeneratorExp elt [⟨tg, iter, [], 0⟩] scope gpos] [] pos) (genF fi fe true t (own.map (·.2))) := by
  have hse : starEach [.GeneratorExp elt [⟨tg, iter, [], 0⟩] scope gpos] X.env = (false, eval (.GeneratorExp elt [⟨tg, iter, [], 0⟩] scope gpos) X.env) :: starEach [] X.env := rfl
  refine ⟨fun pins s σ H Q I rd => ?_⟩
  refine wpAny_Call_Name_kw (ld_blt I hgl hm (show bootBuiltins "all" = some (.builtin "all") by decide +kernel) ?_)
  refine PyProof.Rows.callWith_builtin1 ?_ hse (by rfl)
  rw [hse]
  show wpAny _ _ (spliced ((false, eval (.GeneratorExp elt [⟨tg, iter, [], 0⟩] scope gpos) X.env) :: backTo pos (starEach [] X.env))) _ _ s
  refine Calls.spliced_cons (gen_made hr hN C hi ok nc h0 hco hg he hix hs I rd fun Y fp QB a g m s5 hP hW hq hb hgen hlim hgs bare => ?_)
  refine Calls.spliced_nil ?_
  obtain ⟨gs, hgs, hgo⟩ := hgs
  obtain ⟨kr, hr⟩ := hr
  refine call_function_tree F.kind_all F.plain_all F.entry_all (F.args_all1 _) ?_
  unfold Builtin.«all»
  refine wpAny_bind (m := oneArg "all" _) (wpAny_pure ?_)
  refine wpAny_bind (wpAny_pyIter_gen hgen ?_)
  refine wpAny_pure ⟨plainId_quiet F.plain_all_loop _, all_loop (A := X.A) (Y := Y) (fp := fp) (QB := QB) hr.hd hr.depth (fun H' s' b => (hb H' s' b).1) (fun b H' s' bk q => ⟨.bl b, H', (hb H' s' bk).2, rfl, hq b H' q⟩) m s5 hgen hlim ⟨gs, hgs, hgo _ rfl (allBare_setGen bare rfl) fun _ _ e => e⟩⟩
theorem se_any (hr : ∃ k, Room (k + 3) X.A) (hN : X.N.Nodup) (C : Coded X c) (hi : SI X c tg iter fi) (ok : BlkOk X.N X.env.scope scope own) (nc : ∀ y ∈ scope.names, y.2 ≠ .cell) (h0 : scope.names.lookup (".0" : Str) = some NameKind.local) (hco : scope.isCoroutine = false)
    (hg : GBlk X scope fun Y cc P2 => PG Y tg (gQ (c.noX.code cc P2) t)) (he : GBlk X scope fun Y cc P2 => SE Y (c.noX.code cc P2) elt fe) (hix : ∀ i ∈ t.ix, i ∈ own.map (·.2)) (hs : ∀ v, genFold iter X.env v = pure v) (hgl : Gl X "any") (hm : X.mg "any" = none) :
    SE X c (.Call (.Name "any" p) [.GeneratorExp elt [⟨tg, iter, [], 0⟩] scope gpos] [] pos) (genF fi fe false t (own.map (·.2))) := by
  have hse : starEach [.GeneratorExp elt [⟨tg, iter, [], 0⟩] scope gpos] X.env = (false, eval (.GeneratorExp elt [⟨tg, iter, [], 0⟩] scope gpos) X.env) :: starEach [] X.env := rfl
  refine ⟨fun pins s σ H Q I rd => ?_⟩
  refine wpAny_Call_Name_kw (ld_blt I hgl hm (show bootBuiltins "any" = some (.builtin "any") by decide +kernel) ?_)
  refine PyProof.Rows.callWith_builtin1 ?_ hse (by rfl)
  rw [hse]
  show wpAny _ _ (spliced ((false, eval (.GeneratorExp elt [⟨tg, iter, [], 0⟩] scope gpos) X.env) :: backTo pos (starEach [] X.env))) _ _ s
  refine Calls.spliced_cons (gen_made hr hN C hi ok nc h0 hco hg he hix hs I rd fun Y fp QB a g m s5 hP hW hq hb hgen hlim hgs bare => ?_)
  refine Calls.spliced_nil ?_
  obtain ⟨gs, hgs, hgo⟩ := hgs
  obtain ⟨kr, hr⟩ := hr
  refine call_function_tree F.kind_any F.plain_any F.entry_any (F.args_any1 _) ?_
  unfold Builtin.«any»
  refine wpAny_bind (m := oneArg "any" _) (wpAny_pure ?_)
  refine wpAny_bind (wpAny_pyIter_gen hgen ?_)
  refine wpAny_pure ⟨plainId_quiet F.plain_any_loop _, any_loop (A := X.A) (Y := Y) (fp := fp) (QB := QB) hr.hd hr.depth (fun H' s' b => (hb H' s' b).1) (fun b H' s' bk q => ⟨.bl b, H', (hb H' s' bk).2, rfl, hq b H' q⟩) m s5 hgen hlim ⟨gs, hgs, hgo _ rfl (allBare_setGen bare rfl) fun _ _ e => e⟩⟩
end
end SW

-- SwO
set_option Elab.async false
set_option linter.all false
set_option maxRecDepth 100000
set_option maxHeartbeats 4000000
set_option autoImplicit false
/-! SwO: statements -/
namespace SW
open PySem PySem.Spec PyProof.Rows L2

/-- what is wanted of a statement's end -/
def OutS (c : Ct) (D : Ends) (g : Gh) (H : Hp) (al : List Addr) (r : RS) : Prop :=
  match r with
  | .nx ρ' S' => ∀ g' H' al' σ', Ext g H g' H' → Rl c.G c.K g' H' al' S' → al <+: al' → Er c.G c.K g' H' al' ρ' σ' → D.nx σ' H'
  | .bk ρ' S' => ∀ g' H' al' σ', Ext g H g' H' → Rl c.G c.K g' H' al' S' → al <+: al' → Er c.G c.K g' H' al' ρ' σ' → D.bk σ' H'
  | .rt v S' => ∀ g' H' al' x, Ext g H g' H' → Rl c.G c.K g' H' al' S' → al <+: al' → RepL c.G c.K g' H' al' v x → D.rt x H'
  | .xc k p ρ' S' => ∀ g' H' al' σ' d, Ext g H g' H' → Rl c.G c.K g' H' al' S' → al <+: al' → Er c.G c.K g' H' al' ρ' σ' → RepX c.G c.K g' H' k p d → c.W (.ref (c.G.clsA k)) d σ' H'
  | .bad => False
def TSQ (c : Ct) (f : Env → Store → RS) : L2.TS := fun D σ H => ∃ g al ρ S, Fit c g ∧ Rl c.G c.K g H al S ∧ Er c.G c.K g H al ρ σ ∧ OutS c D g H al (f ρ S)
abbrev SS (X : Cx) (c : Ct) (st : Stmt) (f : Env → Store → RS) : Prop := PS X st (TSQ c f)
abbrev SSs (X : Cx) (c : Ct) (st : List Stmt) (f : Env → Store → RS) : Prop := PSs X st (TSQ c f)
theorem _root_.L2.PS.imp {X : Cx} {e : Stmt} {t t' : L2.TS} (h : PS X e t) (i : ∀ D σ H, t' D σ H → t D σ H) : PS X e t' := ⟨fun pins s σ H D I q => h.run pins s σ H D I (i D σ H q)⟩
theorem _root_.L2.PSs.imp {X : Cx} {e : List Stmt} {t t' : L2.TS} (h : PSs X e t) (i : ∀ D σ H, t' D σ H → t D σ H) : PSs X e t' := ⟨fun pins s σ H D I q => h.run pins s σ H D I (i D σ H q)⟩
section
variable {c : Ct} {D : Ends} {g g1 : Gh} {H H1 : Hp} {al al1 : List Addr} {r : RS} {S : Store} {σ : L2.St} {ρ : Env}
theorem OutS.rebase (e : Ext g H g1 H1) (hp : al <+: al1) (h : OutS c D g H al r) : OutS c D g1 H1 al1 r := by
  cases r with
  | nx ρ' S' => exact fun g' H' al' x e1 r1 p1 q1 => h g' H' al' x (e.trans e1) r1 (hp.trans p1) q1
  | bk ρ' S' => exact fun g' H' al' x e1 r1 p1 q1 => h g' H' al' x (e.trans e1) r1 (hp.trans p1) q1
  | rt v S' => exact fun g' H' al' x e1 r1 p1 q1 => h g' H' al' x (e.trans e1) r1 (hp.trans p1) q1
  | xc k p ρ' S' => exact fun g' H' al' σ' d e1 r1 p1 q1 q2 => h g' H' al' σ' d (e.trans e1) r1 (hp.trans p1) q1 q2
  | bad => exact h
theorem OutS.next (h : OutS c D g H al (.nx ρ S)) (rl : Rl c.G c.K g H al S) (er : Er c.G c.K g H al ρ σ) : D.nx σ H := h g H al σ (.refl _ _) rl (List.prefix_refl _) er
theorem R.bind_to {α β : Type} (ρ : Env) (m : R α) (f : α → Store → R β) (k : β → Store → RS) : (m.bind f).to ρ k = m.to ρ fun v S => (f v S).to ρ k := by
  cases m <;> rfl
theorem TSQ.step {α β : Type} {rel : Rn α β} {f : Env → Store → R α} {k : α → Store → RS} {Q1 : β → Hp → Prop} (xa : Fit c g) (rl : Rl c.G c.K g H al S) (er : Er c.G c.K g H al ρ σ) (o : OutS c D g H al ((f ρ S).to ρ k))
    (i : ∀ x H1 g1 al1 v S1, Ext g H g1 H1 → al <+: al1 → Fit c g1 → Rl c.G c.K g1 H1 al1 S1 → Er c.G c.K g1 H1 al1 ρ σ → rel g1 H1 al1 v x → OutS c D g H al (k v S1) → Q1 x H1) : TQ c rel f σ H Q1 := by
  refine ⟨g, al, ρ, S, xa, rl, er, ?_⟩
  cases e : f ρ S with
  | ok v S1 =>
    simp only [e, R.to] at o
    exact fun g1 H1 al1 x e1 r1 p1 q1 => i x H1 g1 al1 v S1 e1 p1 (xa.ext e1) r1 (er.mono e1 p1) q1 o
  | exc k' p S1 =>
    simp only [e, R.to] at o
    exact fun g1 H1 al1 d e1 r1 p1 q1 => o g1 H1 al1 σ d e1 r1 p1 (er.mono e1 p1) q1
  | bad =>
    simp only [e, R.to] at o
    exact o
/-- what is kept of a value behind a statement -/
theorem gc_ok {v u : Vl} {x : V} {n : Nat} {S2 : Store} (rl : Rl c.G c.K g H al1 S) (hp : al <+: al1) (hl : al.length = n) (q : RepL c.G c.K g H al1 v x) (e : gc n v S = .ok u S2) : ∃ al2, Rl c.G c.K g H al2 S2 ∧ al <+: al2 ∧ RepL c.G c.K g H al2 u x := by
  cases v with
  | x k p => cases e
  | d y =>
    cases e
    exact ⟨al, rl.back hp hl, List.prefix_refl _, q⟩
  | r m =>
    obtain ⟨a, ha, rfl⟩ := q
    unfold gc at e
    by_cases hm : m < n
    · simp only [if_pos hm] at e
      cases e
      refine ⟨al, rl.back hp hl, List.prefix_refl _, a, ?_, rfl⟩
      obtain ⟨t, rfl⟩ := hp
      rw [List.getElem?_append_left (by omega)] at ha
      exact ha
    · simp only [if_neg hm] at e
      cases hs : S[m]? with
      | none => rw [hs] at e; cases e
      | some ob =>
        rw [hs] at e
        cases e
        have r0 := rl.back hp hl
        have na : a ∉ al := fun z => by
          obtain ⟨t, rfl⟩ := hp
          obtain ⟨j, hj, ej⟩ := List.getElem_of_mem z
          have h1 : (al ++ t)[j]? = some a := by rw [List.getElem?_append_left hj, List.getElem?_eq_getElem hj, ej]
          obtain ⟨i1, e1⟩ := List.getElem?_eq_some_iff.mp ha
          obtain ⟨i2, e2⟩ := List.getElem?_eq_some_iff.mp h1
          have := (List.getElem_inj rl.nd).mp (e1.trans e2.symm)
          omega
        refine ⟨al ++ [a], ⟨by rw [List.length_append, List.length_append, r0.len]; rfl, List.nodup_append.mpr ⟨r0.nd, by simp, fun x hx y hy e => by
          have hy : y = a := by simpa using hy
          exact na (hy ▸ e ▸ hx)⟩, fun i ob' b h1 h2 => ?_, r0.fr, r0.tab, r0.cod⟩, List.prefix_append _ _, a, ?_, rfl⟩
        · by_cases hi : i < (S.take n).length
          · rw [List.getElem?_append_left hi] at h1
            rw [List.getElem?_append_left (by rw [r0.len]; exact hi)] at h2
            exact r0.cell i ob' b h1 h2
          · have h3 := (List.getElem?_eq_some_iff.mp h1).1
            have e3 : i = (S.take n).length := by
              rw [List.length_append, List.length_singleton] at h3
              omega
            subst e3
            rw [List.getElem?_append_right (Nat.le_refl _), Nat.sub_self] at h1
            rw [← r0.len, List.getElem?_append_right (Nat.le_refl _), Nat.sub_self] at h2
            have e4 : ob = ob' := by simpa using h1
            have e5 : a = b := by simpa using h2
            subst e4 e5
            exact rl.cell m ob a hs ha
        · rw [← hl, List.getElem?_append_right (Nat.le_refl _), Nat.sub_self]
          rfl
theorem asData_ok {v : Vl} {x : V} {n : Nat} {y : SW.D} {S2 : Store} (rl : Rl c.G c.K g H al1 S) (hp : al <+: al1) (hl : al.length = n) (q : RepL c.G c.K g H al1 v x) (e : asData n v S = .ok y S2) : ∃ g2, Ext g H g2 H ∧ Rl c.G c.K g2 H al S2 ∧ Rep c.G c.K g2 H y x := by
  unfold asData at e
  cases h : toD S v with
  | none => rw [h] at e; cases e
  | some w =>
    obtain ⟨y', S'⟩ := w
    rw [h] at e
    cases e
    obtain ⟨g2, e2, rl2, q2⟩ := toD_ok rl q h
    exact ⟨g2, e2, rl2.back hp hl, q2⟩
end
section
variable {X : Cx} {c : Ct} {e a b d : Expr} {fe fa fb : Env → Store → R Vl} {pos pos' : Pos}
theorem to_ok {α : Type} {D : Ends} {g : Gh} {H : Hp} {al : List Addr} {ρ : Env} {m : R α} {k : α → Store → RS} (hx : ∀ k p S, m ≠ .exc k p S) (o : OutS c D g H al (m.to ρ k)) : ∃ v S, m = .ok v S ∧ OutS c D g H al (k v S) := by
  cases m with
  | ok v S => exact ⟨v, S, rfl, o⟩
  | exc k p S => exact absurd rfl (hx k p S)
  | bad => exact o.elim
theorem gc_noexc {n : Nat} {v : Vl} {S : Store} : ∀ k p S', gc n v S ≠ .exc k p S' := fun k p S' z => by
  unfold gc at z
  split at z
  · cases z
  · split at z
    · cases z
    · split at z <;> cases z
  · cases z
theorem asData_noexc {n : Nat} {v : Vl} {S : Store} : ∀ k p S', asData n v S ≠ .exc k p S' := fun k p S' z => by
  unfold asData at z
  split at z <;> cases z
/-- name = value; the value may be an object -/
theorem rd_set {i : Nat} (D : Ends) (σ : L2.St) (H : Hp) (h : TSQ c (fun ρ S => (fe ρ S).to ρ fun v S1 => (gc S.length v S1).to ρ fun u S2 => .nx (ρ.set i (some u)) S2) D σ H) : TQ c (relL c) fe σ H (fun x H1 => D.nx (σ.set i (some x)) H1) := by
  obtain ⟨g, al, ρ, S, xa, rl, er, out⟩ := h
  refine TSQ.step xa rl er out fun x H1 g1 al1 v S1 e1 p1 xa1 rl1 er1 q1 out1 => ?_
  obtain ⟨u, S2, e2, out2⟩ := to_ok gc_noexc out1
  obtain ⟨al2, rl2, p2, q2⟩ := gc_ok rl1 p1 rl.len q1 e2
  exact out2 g1 H1 al2 _ e1 rl2 p2 (Er.set (er.mono e1 p2) q2)
/-- .. is data -/
theorem rd_setd {i : Nat} (D : Ends) (σ : L2.St) (H : Hp) (h : TSQ c (fun ρ S => ((fe ρ S).bind fun v S1 => asData S.length v S1).to ρ fun x S1 => .nx (ρ.set i (some (.d x))) S1) D σ H) : TQ c (relL c) fe σ H (fun x H1 => D.nx (σ.set i (some x)) H1) := by
  obtain ⟨g, al, ρ, S, xa, rl, er, out⟩ := h
  simp only [R.bind_to] at out
  refine TSQ.step xa rl er out fun x H1 g1 al1 v S1 e1 p1 xa1 rl1 er1 q1 out1 => ?_
  obtain ⟨y, S2, e2, out2⟩ := to_ok asData_noexc out1
  obtain ⟨g2, ex2, rl2, q2⟩ := asData_ok rl1 p1 rl.len q1 e2
  exact out2 g2 H1 al _ (e1.trans ex2) rl2 (List.prefix_refl _) (Er.set (x := .d y) (er.mono (e1.trans ex2) (List.prefix_refl _)) q2)
theorem ss_set {i : Nat} {x : Str} (hN : X.N.Nodup) (h : NmOk X i x) (he : SE X c e fe) (hs : swapsWith e (some (.Name x pos')) pos.line X.env = pure false) : SS X c (.Assign [.Name x pos'] e pos) (fun ρ S => (fe ρ S).to ρ fun v S1 => (gc S.length v S1).to ρ fun u S2 => .nx (ρ.set i (some u)) S2) :=
  (ps_set hN h.at_ h.loc he hs h.fn).imp fun D σ H h => rd_set D σ H h
theorem ss_setd {i : Nat} {x : Str} (hN : X.N.Nodup) (h : NmOk X i x) (he : SE X c e fe) (hs : swapsWith e (some (.Name x pos')) pos.line X.env = pure false) : SS X c (.Assign [.Name x pos'] e pos) (fun ρ S => ((fe ρ S).bind fun v S1 => asData S.length v S1).to ρ fun x S1 => .nx (ρ.set i (some (.d x))) S1) :=
  (ps_set hN h.at_ h.loc he hs h.fn).imp fun D σ H h => rd_setd D σ H h
/-- name = [..] -/
theorem ss_setLc {i : Nat} {y : Str} {py spos : Pos} {elt tg iter : Expr} {ifs : List Expr} {scope : Scope} {own : List (Str × Nat)} {fi : Env → Store → R (List D)} {fc : Env → Store → R Bool} {t : Tg} {keep : Bool} {F : Env → Store → RS}
    (hF : F = if keep then (fun ρ S => (lcF fi fc fe t (own.map (·.2)) ρ S).to ρ fun v S1 => (gc S.length v S1).to ρ fun u S2 => .nx (ρ.set i (some u)) S2) else (fun ρ S => ((lcF fi fc fe t (own.map (·.2)) ρ S).bind fun v S1 => asData S.length v S1).to ρ fun x S1 => .nx (ρ.set i (some (.d x))) S1))
    (hc : X.calm = true) (hN : X.N.Nodup) (hy : X.N[i]? = some y) (hyl : X.env.scope.names.lookup y = some .local) (hsw : swapsWith (.ListComp elt [⟨tg, iter, ifs, 0⟩] scope pos) (some (.Name y py)) spos.line X.env = pure true)
    (hi : SI X c tg iter fi) (ok : BlkOk X.N X.env.scope scope own) (hg : Blk X scope fun Y => PG Y tg (gQ c.noX t)) (ht : Blk X scope fun Y => PTs Y ifs (TQ c.noX relB fc)) (he : Blk X scope fun Y => SE Y c.noX elt fe)
    (hs : ∀ x, foldedSetIterable iter X.env x = pure x) (hix : ∀ i ∈ t.ix, i ∈ own.map (·.2)) : SS X c (.Assign [.Name y py] (.ListComp elt [⟨tg, iter, ifs, 0⟩] scope pos) spos) F :=
  (ps_setLc hc hN hy hyl hsw hi ok hg ht he hs).imp fun D σ H h => by
    show tLc _ _ _ _ _ σ H (fun x H1 => D.nx (σ.set i (some x)) H1)
    refine lc_read hix ?_
    subst hF
    cases keep with
    | true => rw [if_pos rfl] at h; exact rd_set D σ H h
    | false => rw [if_neg Bool.false_ne_true] at h; exact rd_setd D σ H h
theorem ss_ret (he : SE X c e fe) : SS X c (.Return (some e) pos) (fun ρ S => (fe ρ S).to ρ fun v S1 => .rt v S1) := (ps_ret he).imp fun D σ H h => by
  obtain ⟨g, al, ρ, S, xa, rl, er, out⟩ := h
  exact TSQ.step xa rl er out fun x H1 g1 al1 v S1 e1 p1 xa1 rl1 er1 q1 out1 => out1 g1 H1 al1 x e1 rl1 p1 q1
theorem ss_ex (he : SE X c e fe) (hs : swapsWith e none pos.line X.env = pure false) : SS X c (.Expr e pos) (fun ρ S => (fe ρ S).to ρ fun _ S1 => .nx ρ (S1.take S.length)) := (ps_expr he hs).imp fun D σ H h => by
  obtain ⟨g, al, ρ, S, xa, rl, er, out⟩ := h
  exact TSQ.step xa rl er out fun x H1 g1 al1 v S1 e1 p1 xa1 rl1 er1 q1 out1 => out1 g1 H1 al σ e1 (rl1.back p1 rl.len) (List.prefix_refl _) (er.mono e1 (List.prefix_refl _))
theorem ss_pas : SS X c (.Pass pos) (fun ρ S => .nx ρ S) := ps_pass.imp fun D σ H h => by
  obtain ⟨g, al, ρ, S, xa, rl, er, out⟩ := h
  exact out.next rl er
theorem ss_brk : SS X c (.Break pos) (fun ρ S => .bk ρ S) := ps_break.imp fun D σ H h => by
  obtain ⟨g, al, ρ, S, xa, rl, er, out⟩ := h
  exact out g H al σ (.refl _ _) rl (List.prefix_refl _) er
theorem sss_nil : SSs X c [] (fun ρ S => .nx ρ S) := pss_nil.imp fun D σ H h => by
  obtain ⟨g, al, ρ, S, xa, rl, er, out⟩ := h
  exact out.next rl er
theorem sss_cons {st : Stmt} {rest : List Stmt} {f1 f2 : Env → Store → RS} (h1 : SS X c st f1) (h2 : SSs X c rest f2) : SSs X c (st :: rest) (fun ρ S => (f1 ρ S).andThen f2) := (pss_cons h1 h2).imp fun D σ H h => by
  obtain ⟨g, al, ρ, S, xa, rl, er, out⟩ := h
  refine ⟨g, al, ρ, S, xa, rl, er, ?_⟩
  simp only at out
  cases e : f1 ρ S with
  | nx ρ' S' =>
    rw [e] at out
    exact fun g' H' al' σ' e' r' p' er' => ⟨g', al', ρ', S', xa.ext e', r', er', OutS.rebase e' p' out⟩
  | bk ρ' S' => rw [e] at out; exact out
  | rt v S' => rw [e] at out; exact out
  | xc k p ρ' S' => rw [e] at out; exact out
  | bad => rw [e] at out; exact out
theorem ss_ife {t : Expr} {ss1 ss2 : List Stmt} {ft : Env → Store → R Bool} {f1 f2 : Env → Store → RS} (ht : ST X c t ft) (h1 : SSs X c ss1 f1) (h2 : SSs X c ss2 f2) : SS X c (.If t ss1 ss2 pos) (fun ρ S => (ft ρ S).to ρ fun k S1 => if k then f1 ρ (S1.take S.length) else f2 ρ (S1.take S.length)) := (ps_if ht h1 h2).imp fun D σ H h => by
  obtain ⟨g, al, ρ, S, xa, rl, er, out⟩ := h
  refine TSQ.step xa rl er out fun x H1 g1 al1 v S1 e1 p1 xa1 rl1 er1 q1 out1 => ?_
  have q1 : v = x := q1
  subst q1
  have out2 := OutS.rebase e1 (List.prefix_refl al) out1
  have er2 := er.mono e1 (List.prefix_refl al)
  have rl2 := rl1.back p1 rl.len
  cases v with
  | true =>
    rw [if_pos rfl] at out2 ⊢
    exact ⟨g1, al, ρ, _, xa1, rl2, er2, out2⟩
  | false =>
    rw [if_neg Bool.false_ne_true] at out2 ⊢
    exact ⟨g1, al, ρ, _, xa1, rl2, er2, out2⟩
/-- target = value, the target a tuple of names -/
theorem ss_unp {is : List Nat} {es : List Expr} {k : Nat} {tp : Pos} (hK : X.K = c.K) (hc : X.calm = true) (hN : X.N.Nodup) (hn : NmsOk X is es) (he : SE X c e fe) (hs : swapsWithSole [.Tuple es k tp] e pos.line X.env = pure false) (hw : swappedStores [.Tuple es k tp] e X.env = pure none) :
    SS X c (.Assign [.Tuple es k tp] e pos) (fun ρ S => ((fe ρ S).bind fun v S1 => asData S.length v S1).to ρ fun x S1 => match asg (.tup is) x ρ with
    | some ρ1 => .nx ρ1 S1
    | none => .bad) := (ps_asg he (sg_tup hK hc hN hn) hs hw).imp fun D σ H h => by
  obtain ⟨g, al, ρ, S, xa, rl, er, out⟩ := h
  simp only [R.bind_to] at out
  refine TSQ.step xa rl er out fun x H1 g1 al1 v S1 e1 p1 xa1 rl1 er1 q1 out1 => ?_
  obtain ⟨y, S2, e2, out2⟩ := to_ok asData_noexc out1
  obtain ⟨g2, ex2, rl2, q2⟩ := asData_ok rl1 p1 rl.len q1 e2
  cases ha : asg (.tup is) y ρ with
  | none => rw [ha] at out2; exact out2.elim
  | some ρ1 =>
    rw [ha] at out2
    exact ⟨g2, al, ρ, ρ1, y, er.mono (e1.trans ex2) (List.prefix_refl _), q2, ha, fun σ1 er1 _ => out2 g2 H1 al σ1 (e1.trans ex2) rl2 (List.prefix_refl _) er1⟩
end
end SW

-- SwP
set_option Elab.async false
set_option linter.all false
set_option maxRecDepth 100000
set_option maxHeartbeats 4000000
set_option autoImplicit false
/-! SwP: statements that write; loops -/
namespace SW
open PySem PySem.Spec PyProof.Rows L2

section
variable {c : Ct} {De : Ends} {g g0 g1 : Gh} {H H0 H1 : Hp} {al al0 al1 : List Addr} {r : RS} {S S2 : Store} {σ : L2.St} {ρ : Env}
theorem TSQ.stepB {α β : Type} {rel : Rn α β} {f : Env → Store → R α} {k : α → Store → RS} {Q1 : β → Hp → Prop} (xa : Fit c g) (rl : Rl c.G c.K g H al S) (er : Er c.G c.K g H al ρ σ) (e0 : Ext g0 H0 g H) (p0 : al0 <+: al) (o : OutS c De g0 H0 al0 ((f ρ S).to ρ k))
    (i : ∀ x H1 g1 al1 v S1, Ext g H g1 H1 → al <+: al1 → Fit c g1 → Rl c.G c.K g1 H1 al1 S1 → Er c.G c.K g1 H1 al1 ρ σ → rel g1 H1 al1 v x → OutS c De g0 H0 al0 (k v S1) → Q1 x H1) : TQ c rel f σ H Q1 := by
  refine ⟨g, al, ρ, S, xa, rl, er, ?_⟩
  cases e : f ρ S with
  | ok v S1 =>
    simp only [e, R.to] at o
    exact fun g1 H1 al1 x e1 r1 p1 q1 => i x H1 g1 al1 v S1 e1 p1 (xa.ext e1) r1 (er.mono e1 p1) q1 o
  | exc k' p S1 =>
    simp only [e, R.to] at o
    exact fun g1 H1 al1 d e1 r1 p1 q1 => o g1 H1 al1 σ d (e0.trans e1) r1 (p0.trans p1) (er.mono e1 p1) q1
  | bad =>
    simp only [e, R.to] at o
    exact o
theorem kD_noexc {v : Vl} {S : Store} : ∀ k p S', kD v S ≠ .exc k p S' := fun k p S' z => by
  unfold kD at z
  split at z <;> cases z
theorem push_noexc {n : Nat} {x : D} {S : Store} : ∀ k p S', push n x S ≠ .exc k p S' := fun k p S' z => by
  unfold push at z
  split at z
  · split at z <;> cases z
  · cases z
theorem kIsL_noexc {u : Vl} {S : Store} : ∀ k p S', kIsL u S ≠ .exc k p S' := fun k p S' z => by
  unfold kIsL at z
  split at z
  · split at z <;> cases z
  · cases z
theorem kSet_noexc {u j : Vl} {x : D} {S : Store} : ∀ k p S', kSet u j x S ≠ .exc k p S' := fun k p S' z => by
  unfold kSet at z
  split at z
  · split at z <;> cases z
  · cases z
theorem kSetf_noexc {f : Nat} {u : Vl} {x : D} {S : Store} : ∀ k p S', kSetf f u x S ≠ .exc k p S' := fun k p S' z => by
  unfold kSetf at z
  split at z
  · split at z
    · split at z <;> cases z
    · cases z
  · cases z
theorem kD_is {v : Vl} {x : V} {y : SW.D} (rl : Rl c.G c.K g H al S) (q : RepL c.G c.K g H al v x) (e : kD v S = .ok y S2) : ∃ g2, Ext g H g2 H ∧ Rl c.G c.K g2 H al S2 ∧ Rep c.G c.K g2 H y x := by
  unfold kD at e
  cases h : toD S v with
  | none => rw [h] at e; cases e
  | some w =>
    obtain ⟨y', S'⟩ := w
    rw [h] at e
    cases e
    exact toD_ok rl q h
theorem push_is {n : Nat} {x : SW.D} {v : V} {a : Addr} (rl : Rl c.G c.K g H al S) (hn : al[n]? = some a) (q : Rep c.G c.K g H x v) (e : push n x S = .ok () S2) :
    ∃ acc, H a = some (.lst acc) ∧ acc.length < sizeLine ∧ Ext g H g (upd H a (.lst (acc ++ [v]))) ∧ Rl c.G c.K g (upd H a (.lst (acc ++ [v]))) al S2 := by
  unfold push at e
  cases hS : S[n]? with
  | none => rw [hS] at e; cases e
  | some ob =>
    rw [hS] at e
    cases ob <;> try (cases e; done)
    rename_i ys
    simp only at e
    by_cases hb : ys.length < BIG
    · rw [if_pos hb] at e
      cases e
      obtain ⟨c6, _⟩ := rl.cell n _ a hS hn
      obtain ⟨hF, acc, h1, h2⟩ := c6
      have ew : Ext g H g (upd H a (.lst (acc ++ [v]))) := .write (fun xs z => by rw [h1] at z; cases z) hF
      exact ⟨acc, h1, by rw [← reps_length h2]; exact Nat.lt_of_lt_of_le hb big_line, ew, rl.write hn (fun xs z => by rw [h1] at z; cases z) (fun ps z => by rw [h1] at z; cases z) hF
        ⟨hF, acc ++ [v], upd_same, reps_append (h2.mono ew) (by unfold Reps; exact ⟨v, [], rfl, q.mono ew, by unfold Reps; rfl⟩)⟩⟩
    · rw [if_neg hb] at e; cases e
end
section
variable {X : Cx} {c : Ct} {o i e : Expr} {fo fi fe : Env → Store → R Vl} {pos apos cpos tp : Pos}
theorem ss_app (hK : X.K = c.K) (ho : SE X c o fo) (he : SE X c e fe) (hs : notStar e = true) (hb : plainBase o = true) (hline : (apos.endLine == cpos.line) = true) : SS X c (.Expr (.Call (.Attribute o "append" apos) [e] [] cpos) pos)
    (fun ρ S => ((fo ρ S).bind kIsL).to ρ fun n S1 => ((fe ρ S1).bind kD).to ρ fun x S3 => (push n x S3).to ρ fun _ S4 => .nx ρ (S4.take S.length)) := by
  have hse : starEach [e] X.env = (false, eval e X.env) :: starEach [] X.env := star_each hs
  refine (ps_expr (pe_bm PySem.F.plainAttrs_list PySem.F.slot_list_append PySem.F.type_list_append mt_append ho (pa_cons he pa_nil hse) (base_ok hb) (by rw [hse]; rfl) hline hse rfl) rfl).imp fun D σ H h => ?_
  obtain ⟨g, al, ρ, S, xa, rl, er, out⟩ := h
  simp only [R.bind_to] at out
  refine TSQ.stepB xa rl er (.refl _ _) (List.prefix_refl _) out fun x H1 g1 al1 u S1 e1 p1 xa1 rl1 er1 q1 out1 => ?_
  obtain ⟨n, S1', en, out1⟩ := to_ok kIsL_noexc out1
  unfold kIsL at en
  split at en
  · rename_i n'
    split at en
    · rename_i ys hS
      cases en
      obtain ⟨a, ha, rfl⟩ := q1
      obtain ⟨c6, _⟩ := rl1.cell n _ a hS ha
      obtain ⟨hF, vs, h1, h2⟩ := c6
      refine ⟨.inl ⟨rfl, vs, hK ▸ SqL.the h1⟩, ?_⟩
      refine TSQ.stepB xa1 rl1 er1 e1 p1 out1 fun y H2 g2 al2 v S2 e2 p2 xa2 rl2 er2 q2 out2 => ?_
      obtain ⟨w, S3, ew, out2⟩ := to_ok kD_noexc out2
      obtain ⟨g3, e3, rl3, q3⟩ := kD_is rl2 q2 ew
      obtain ⟨_, S4, ep, out3⟩ := to_ok push_noexc out2
      have ha2 : al2[n]? = some a := by
        obtain ⟨t, rfl⟩ := p2
        rw [List.getElem?_append_left (List.getElem?_eq_some_iff.mp ha).1]
        exact ha
      obtain ⟨acc, k1, k2, e4, rl4⟩ := push_is rl3 ha2 q3 ep
      have ee := ((e1.trans e2).trans e3).trans e4
      exact ⟨a, acc, y, rfl, rfl, k1, k2, out3 g3 _ al σ ee (rl4.back (p1.trans p2) rl.len) (List.prefix_refl _) (er.mono ee (List.prefix_refl _))⟩
    · cases en
  · cases en
/-- o[i] = x -/
def rSet (hK : True) : V → V → V → Hp → (Hp → Prop) → Prop := fun o i v H Q => rSetL o i v H Q ∨ ∃ a H4, o = .ref a ∧ DPut H a i v H4 ∧ Q H4
theorem set_all (hu : X.A.units + 1 < cLine) : PSet X (rSet trivial) := by
  intro pins s σ H o i v ov iv u Q I ro ri rv h
  rcases h with h | ⟨a, H4, rfl, h1, q⟩
  · exact set_list pins s σ H o i v ov iv u Q I ro ri rv h
  · cases (show ov = Value.ref a from ro)
    exact d_setItem hu I h1 ri rv fun s' I' => ⟨H4, I', q⟩
theorem kSet_is {g : Gh} {H : Hp} {al : List Addr} {S S2 : Store} {u j : Vl} {o i v : V} {x : SW.D} {Q : Hp → Prop} (rl : Rl c.G c.K g H al S) (q1 : RepL c.G c.K g H al u o) (q2 : RepL c.G c.K g H al j i) (q3 : Rep c.G c.K g H x v) (e : kSet u j x S = .ok () S2)
    (hQ : ∀ H', Ext g H g H' → Rl c.G c.K g H' al S2 → Q H') : rSet trivial o i v H Q := by
  unfold kSet at e
  cases j <;> try (cases e; done)
  rename_i k
  simp only at e
  cases hs : setItem u k x S with
  | none => rw [hs] at e; cases e
  | some S' =>
    rw [hs] at e
    cases e
    unfold setItem at hs
    cases u <;> try (cases hs; done)
    rename_i n
    obtain ⟨a, ha, rfl⟩ := q1
    simp only at hs
    cases hS : S[n]? with
    | none => rw [hS] at hs; cases hs
    | some ob =>
      rw [hS] at hs
      obtain ⟨c6, _⟩ := rl.cell n _ a hS ha
      cases ob <;> try (cases hs; done)
      · rename_i xs
        cases k <;> try (cases hs; done)
        rename_i kk
        simp only at hs
        obtain ⟨jj, hj, rfl⟩ := Option.map_eq_some_iff.mp hs
        obtain ⟨hF, vs, h1, h2⟩ := c6
        have q2 : Rep c.G c.K g H (.int kk) i := q2
        cases rep_int (Rep.view q2)
        have ew : Ext g H g (upd H a (.lst (vs.set jj v))) := .write (fun xs z => by rw [h1] at z; cases z) hF
        refine .inl ⟨a, vs, kk, jj, rfl, rfl, h1, by rw [← reps_length h2]; exact hj, hQ _ ew (rl.write ha (fun xs z => by rw [h1] at z; cases z) (fun ps z => by rw [h1] at z; cases z) hF ⟨hF, _, upd_same, reps_set jj (h2.mono ew) (q3.mono ew)⟩)⟩
      · rename_i kvs
        obtain ⟨hF, vs, h1, h2⟩ := c6
        have main : ∀ cc, cellOf k = some cc → (if kvs.length < BIG then some (S.set n (.dct (put kvs cc x))) else none) = some S2 → rSet trivial (.ref a) i v H Q := fun cc hc hs => by
          by_cases hb : kvs.length < BIG
          · rw [if_pos hb] at hs
            cases hs
            obtain ⟨b, rfl, hb2⟩ := cell_key (show Rep c.G c.K g H k i from q2) hc
            have ew : Ext g H g (upd H a (.dT (putK vs (keyC cc) v))) := .write (fun xs z => by rw [h1] at z; cases z) hF
            refine .inr ⟨a, _, rfl, DPut.t h1 hb2 (by rw [← repK_length h2]; exact Nat.lt_of_lt_of_le hb big_line), hQ _ ew (rl.write ha (fun xs z => by rw [h1] at z; cases z) (fun ps z => by rw [h1] at z; cases z) hF ⟨hF, _, upd_same, repK_put (h2.mono ew) (q3.mono ew)⟩)⟩
          · rw [if_neg hb] at hs; cases hs
        cases hc : cellOf k with
        | none => cases k <;> simp only [hc] at hs <;> cases hs
        | some cc => exact main cc hc (by cases k <;> simp only [hc] at hs <;> exact hs)
theorem ss_seti (hu : X.A.units + 1 < cLine) (ho : SE X c o fo) (hi : SE X c i fi) (he : SE X c e fe) (hs : swapsWithSole [.Subscript o i tp] e pos.line X.env = pure false) (hw : swappedStores [.Subscript o i tp] e X.env = pure none)
    (ha : ∀ v, assign (.Subscript o i tp) X.env v = (do
      let ov ← holding [v] (eval o X.env)
      let iv ← holding [v, ov] (eval i X.env)
      standAt tp
      holding [v, ov, iv] (PySem.setItem ov iv v)
      release [v, ov, iv] [])) : SS X c (.Assign [.Subscript o i tp] e pos)
    (fun ρ S => ((fe ρ S).bind kD).to ρ fun x S2 => (fo ρ S2).to ρ fun u S3 => (fi ρ S3).to ρ fun j S4 => (kSet u j x S4).to ρ fun _ S5 => .nx ρ (S5.take S.length)) := (ps_asg he (pg_sub ho hi (set_all hu) ha) hs hw).imp fun D σ H h => by
  obtain ⟨g, al, ρ, S, xa, rl, er, out⟩ := h
  simp only [R.bind_to] at out
  refine TSQ.stepB xa rl er (.refl _ _) (List.prefix_refl _) out fun x H1 g1 al1 v S1 e1 p1 xa1 rl1 er1 q1 out1 => ?_
  obtain ⟨w, S2, ew, out1⟩ := to_ok kD_noexc out1
  obtain ⟨g2, e2, rl2, q2⟩ := kD_is rl1 q1 ew
  refine TSQ.stepB (xa1.ext e2) rl2 (er1.mono e2 (List.prefix_refl _)) (e1.trans e2) p1 out1 fun ov H3 g3 al3 u S3 e3 p3 xa3 rl3 er3 q3 out3 => ?_
  refine TSQ.stepB xa3 rl3 er3 ((e1.trans e2).trans e3) (p1.trans p3) out3 fun iv H4 g4 al4 j S4 e4 p4 xa4 rl4 er4 q4 out4 => ?_
  obtain ⟨_, S5, es, out5⟩ := to_ok kSet_noexc out4
  refine kSet_is rl4 (q3.mono e4 p4) q4 ((q2.mono e3).mono e4) es fun H' e5 rl5 => ?_
  have ee := (((e1.trans e2).trans e3).trans e4).trans e5
  exact out5 g4 H' al σ ee (rl5.back ((p1.trans p3).trans p4) rl.len) (List.prefix_refl _) (er.mono ee (List.prefix_refl _))
end
/-! ### fields are set -/
theorem putF_rep {G : Gd} {K : PySem.W.Frag} {g : Gh} {H : Hp} {f : Nat} {x : D} {v : V} : ∀ {fs : List (Nat × D)} {vs : List (Str × V)}, RepF G K g H fs vs → Rep G K g H x v → RepF G K g H (fput fs f x) (putF (fldN f) v vs)
  | [], _, h, q => by
    unfold RepF at h
    subst h
    show RepF _ _ _ _ [(f, x)] [(fldN f, v)]
    unfold RepF
    exact ⟨v, [], rfl, q, by unfold RepF; rfl⟩
  | (m, y) :: fs, _, h, q => by
    unfold RepF at h
    obtain ⟨w, r, rfl, h1, h2⟩ := h
    show RepF _ _ _ _ (if m = f then (m, x) :: fs else (m, y) :: fput fs f x) (if fldN m = fldN f then (fldN m, v) :: r else (fldN m, w) :: putF (fldN f) v r)
    by_cases e : m = f
    · subst e
      rw [if_pos rfl, if_pos rfl]
      unfold RepF
      exact ⟨v, r, rfl, q, h2⟩
    · rw [if_neg e, if_neg fun z => e (fldN_inj z)]
      unfold RepF
      exact ⟨w, _, rfl, h1, putF_rep h2 q⟩
theorem repF_length {G : Gd} {K : PySem.W.Frag} {g : Gh} {H : Hp} : ∀ {fs : List (Nat × D)} {vs : List (Str × V)}, RepF G K g H fs vs → fs.length = vs.length
  | [], _, h => by unfold RepF at h; subst h; rfl
  | (m, y) :: fs, _, h => by
    unfold RepF at h
    obtain ⟨w, r, rfl, h1, h2⟩ := h
    rw [List.length_cons, List.length_cons, repF_length h2]
section
variable {X : Cx} {c : Ct} {o e : Expr} {fo fe : Env → Store → R Vl} {pos tp : Pos}
theorem ss_setf {f : Nat} (hK : X.K = c.K) (F : FldOk c f) (ho : SE X c o fo) (he : SE X c e fe) (hs : swapsWith e (some (.Attribute o (fldN f) tp)) pos.line X.env = pure false) : SS X c (.Assign [.Attribute o (fldN f) tp] e pos)
    (fun ρ S => ((fe ρ S).bind kD).to ρ fun x S2 => (fo ρ S2).to ρ fun u S3 => (kSetf f u x S3).to ρ fun _ S4 => .nx ρ (S4.take S.length)) := (ps_fld ho he hs).imp fun D σ H h => by
  obtain ⟨g, al, ρ, S, xa, rl, er, out⟩ := h
  simp only [R.bind_to] at out
  refine TSQ.stepB xa rl er (.refl _ _) (List.prefix_refl _) out fun x H1 g1 al1 v S1 e1 p1 xa1 rl1 er1 q1 out1 => ?_
  obtain ⟨w, S2, ew, out1⟩ := to_ok kD_noexc out1
  obtain ⟨g2, e2, rl2, q2⟩ := kD_is rl1 q1 ew
  refine TSQ.stepB (xa1.ext e2) rl2 (er1.mono e2 (List.prefix_refl _)) (e1.trans e2) p1 out1 fun ov H3 g3 al3 u S3 e3 p3 xa3 rl3 er3 q3 out3 => ?_
  obtain ⟨_, S4, es, out4⟩ := to_ok kSetf_noexc out3
  unfold kSetf at es
  cases u <;> try (cases es; done)
  rename_i n
  simp only at es
  cases hS : S3[n]? with
  | none => rw [hS] at es; cases es
  | some ob =>
    rw [hS] at es
    cases ob <;> try (cases es; done)
    rename_i k fs
    simp only at es
    by_cases hl : fs.length < 900
    · rw [if_pos hl] at es
      cases es
      obtain ⟨a, ha, rfl⟩ := q3
      obtain ⟨c6, _⟩ := rl3.cell n _ a hS ha
      obtain ⟨⟨hF, hok⟩, dx, vs, h1, h2⟩ := c6
      obtain ⟨c1, c2⟩ := F.cls k hok
      have ew : Ext g3 H3 g3 (upd H3 a (.ins (c.G.clsA k) dx (putF (fldN f) x vs))) := .write (fun xs z => by rw [h1] at z; cases z) hF
      have ee := ((e1.trans e2).trans e3).trans ew
      refine ⟨a, _, dx, vs, rfl, h1, hK ▸ c1, hK ▸ c2, by rw [← repF_length h2]; omega, ?_⟩
      have rl4 := rl3.write (ob := .ins k (fput fs f w)) ha (fun xs z => by rw [h1] at z; cases z) (fun ps z => by rw [h1] at z; cases z) hF ⟨⟨hF, hok⟩, dx, _, upd_same, putF_rep (h2.mono ew) ((q2.mono e3).mono ew)⟩
      exact out4 g3 _ al σ ee (rl4.back (p1.trans p3) rl.len) (List.prefix_refl _) (er.mono ee (List.prefix_refl _))
    · rw [if_neg hl] at es; cases es

/-! ### loops -/
theorem ss_for {tg iter : Expr} {body : List Stmt} {t : Tg} {fi : Env → Store → R (List D)} {fb : Env → Store → RS} (hp : PassesOwn (model X.prog X.w) X.A X.env X.xe) (hc : X.calm = true) (hi : SI X c tg iter fi) (hg : PG X tg (gQ c t)) (hb : SSs X c body fb) (hs : ∀ x, foldedSetIterable iter X.env x = pure x) :
    SS X c (.For tg iter body [] pos) (fun ρ S => (fi ρ S).to ρ fun xs S1 => forGo fb t xs ρ (S1.take S.length)) := (ps_for hp hc hi hg hb hs).imp fun D σ H h => by
  obtain ⟨g, al, ρ, S, xa, rl, er, out⟩ := h
  refine TSQ.step xa rl er out fun J H1 g1 al1 xs S1 e1 p1 xa1 rl1 er1 wk out1 => ?_
  have rl2 := rl1.back p1 rl.len
  have out2 := OutS.rebase e1 (List.prefix_refl al) out1
  have key : ∀ W : Nat → Nat → L2.St → Hp → Prop, W = (fun i m σ H' => m = xs.length - i ∧ i ≤ xs.length ∧ ∃ g' al' ρ' S', Fit c g' ∧ Ext g1 H1 g' H' ∧ Rl c.G c.K g' H' al' S' ∧ Er c.G c.K g' H' al' ρ' σ ∧ OutS c D g' H' al' (forGo fb t (xs.drop i) ρ' S')) →
      (∃ m, W 0 m σ H1) ∧ ∀ i m σ H, W i m σ H → (J.stop i H ∧ D.nx σ H) ∨ (J.go i H ∧ ∃ N : L2.St → Hp → Prop, (∀ σ' H', N σ' H' → ∃ m', m' < m ∧ W (i + 1) m' σ' H') ∧ ∀ x H', J.yld i H x H' → gQ c t x σ H' fun σ2 H2 => TSQ c fb { D with nx := N, ct := N, bk := D.nx } σ2 H2) := by
    intro W hW
    refine ⟨⟨xs.length, by rw [hW]; exact ⟨by simp, Nat.zero_le _, g1, al, ρ, _, xa1, .refl _ _, rl2, er.mono e1 (List.prefix_refl _), by rw [List.drop_zero]; exact out2⟩⟩, ?_⟩
    intro i m σ1 H' hWi
    rw [hW] at hWi
    obtain ⟨hm, hi, g', al', ρ', S', xa', e', rl', er', out'⟩ := hWi
    subst hm
    obtain ⟨w1, w2⟩ := wk g' H' e' i
    by_cases hlt : i < xs.length
    · have hz : xs[i]? = some xs[i] := List.getElem?_eq_getElem hlt
      obtain ⟨go, yl⟩ := w1 _ hz
      refine .inr ⟨go, fun σ2 H2 => W (i + 1) (xs.length - (i + 1)) σ2 H2, fun σ2 H2 h2 => ⟨_, by omega, h2⟩, fun x H2 y => ?_⟩
      obtain ⟨e2, rp⟩ := yl x H2 y
      subst e2
      rw [List.drop_eq_getElem_cons hlt] at out'
      unfold forGo at out'
      cases ha : asg t xs[i] ρ' with
      | none => rw [ha] at out'; exact out'.elim
      | some ρ1 =>
        rw [ha] at out'
        refine ⟨g', al', ρ', ρ1, xs[i], er', rp, ha, fun σ2 er2 _ => ⟨g', al', ρ1, S', xa', rl', er2, ?_⟩⟩
        simp only at out'
        cases hf : fb ρ1 S' with
        | nx ρ2 S2 =>
          rw [hf] at out'
          intro g3 H3 al3 σ3 e3 rl3 p3 er3
          show W _ _ σ3 H3
          rw [hW]
          exact ⟨rfl, hlt, g3, al3, ρ2, S2, xa'.ext e3, e'.trans e3, rl3, er3, OutS.rebase e3 p3 out'⟩
        | bk ρ2 S2 => rw [hf] at out'; exact out'
        | rt v S2 => rw [hf] at out'; exact out'
        | xc k p ρ2 S2 => rw [hf] at out'; exact out'
        | bad => rw [hf] at out'; exact out'
    · have e0 : i = xs.length := by omega
      subst e0
      rw [List.drop_length] at out'
      unfold forGo at out'
      exact .inl ⟨w2 (Nat.le_refl _), out'.next rl' er'⟩
  exact ⟨_, key _ rfl⟩
theorem ss_whl {t : Expr} {body : List Stmt} {ft : Env → Store → R Bool} {fb : Env → Store → RS} {k : Nat} (hp : PassesOwn (model X.prog X.w) X.A X.env X.xe) (ht : ST X c t ft) (hb : SSs X c body fb) :
    SS X c (.While t body [] pos) (fun ρ S => whlGo (fun ρ S => (ft ρ S).bind fun b S1 => .ok b (S1.take S.length)) fb k ρ S) := (ps_while hp ht hb).imp fun D σ H h => by
  obtain ⟨g, al, ρ, S, xa, rl, er, out⟩ := h
  have key : ∀ W : Nat → L2.St → Hp → Prop, W = (fun m σ H' => ∃ g' al' ρ' S', Fit c g' ∧ Rl c.G c.K g' H' al' S' ∧ Er c.G c.K g' H' al' ρ' σ ∧ OutS c D g' H' al' (whlGo (fun ρ S => (ft ρ S).bind fun b S1 => .ok b (S1.take S.length)) fb m ρ' S')) →
      (∃ m, W m σ H) ∧ ∀ m σ H, W m σ H → TQ c relB ft σ H fun b H1 => if b = true then ∃ N : L2.St → Hp → Prop, (∀ σ' H', N σ' H' → ∃ m', m' < m ∧ W m' σ' H') ∧ TSQ c fb { D with nx := N, ct := N, bk := D.nx } σ H1 else D.nx σ H1 := by
    intro W hW
    refine ⟨⟨k, by rw [hW]; exact ⟨g, al, ρ, S, xa, rl, er, out⟩⟩, ?_⟩
    intro m σ1 H' hWi
    rw [hW] at hWi
    obtain ⟨g', al', ρ', S', xa', rl', er', out'⟩ := hWi
    cases m with
    | zero => exact out'.elim
    | succ m =>
      unfold whlGo at out'
      rw [R.bind_to] at out'
      refine TSQ.step xa' rl' er' out' fun b H1 g1 al1 v S1 e1 p1 xa1 rl1 er1 q1 out1 => ?_
      have q1 : v = b := q1
      subst q1
      have rl2 := rl1.back p1 rl'.len
      have out2 := OutS.rebase e1 (List.prefix_refl al') out1
      have er2 := er'.mono e1 (List.prefix_refl al')
      simp only [R.to] at out2
      cases v with
      | false =>
        rw [if_neg Bool.false_ne_true] at out2 ⊢
        exact out2.next rl2 er2
      | true =>
        rw [if_pos rfl] at out2 ⊢
        refine ⟨fun σ2 H2 => W m σ2 H2, fun σ2 H2 h2 => ⟨m, by omega, h2⟩, g1, al', ρ', _, xa1, rl2, er2, ?_⟩
        cases hf : fb ρ' (S1.take S'.length) with
        | nx ρ2 S2 =>
          rw [hf] at out2
          intro g3 H3 al3 σ3 e3 rl3 p3 er3
          show W _ σ3 H3
          rw [hW]
          exact ⟨g3, al3, ρ2, S2, xa1.ext e3, rl3, er3, OutS.rebase e3 p3 out2⟩
        | bk ρ2 S2 => rw [hf] at out2; exact out2
        | rt v S2 => rw [hf] at out2; exact out2
        | xc k p ρ2 S2 => rw [hf] at out2; exact out2
        | bad => rw [hf] at out2; exact out2
  exact ⟨_, key _ rfl⟩

/-! ### raise, try -/
/-- X() of an own class -/
theorem pmk_own0 {C : Addr} {bmB : List Value} {B newId initId : String} {x : Str} {p : Pos} (F : ExcBaseFacts B newId initId bmB) (q : PySem.W.excIn X.K C bmB newId = true) (gC : X.mg x = some (.ref C)) (kC : PySem.W.keepIn X.K (.ref C) = true) (r : Raises X (.ref C)) (hg : Gl X x)
    (hdb : (x == ("__debug__" : Str)) = false) : PMk X (.Call (.Name x p) [] [] pos) (fun _ H Q => Q (.ref C) none H) := by
  intro pins s σ H Q I h
  refine wpAny_Call_Name_kw (ld_glob I hg gC ?_ hdb)
  refine PySem.W.callWith_K0 I.kIn kC ?_
  obtain ⟨bm, N, nm, qn, bs, hdct, sn, sub, ab, col, dd, k0, k1, k2, k3, k5, mN, hC, hN, hni, T⟩ := exc_obj I.kIn q
  refine wpAny_call_exc_subT F T hC hN hni (fun h' e hm => ?_) (by show 0 ≤ sizeLine; rw [sizeLine_eq]; omega)
  exact mk_of I hm r h (I.hok.gone hm.new)
theorem ss_rse0 {k : Nat} (hok : c.G.okX k) (hc : X.calm = true) (tk : Takes X c.W) (he : PMk X e (fun _ H Q => Q (.ref (c.G.clsA k)) none H)) : SS X c (.Raise (some e) none pos) (fun ρ S => .xc k [] ρ (S.take S.length)) := (ps_raise hc tk he).imp fun D σ H h => by
  obtain ⟨g, al, ρ, S, xa, rl, er, out⟩ := h
  exact out g H al σ none (.refl _ _) (by rw [List.take_length]; exact rl) (List.prefix_refl _) er (by unfold RepX; exact ⟨hok, rfl⟩)
end
end SW

-- SwPx
set_option Elab.async false
set_option linter.all false
set_option maxRecDepth 100000
set_option maxHeartbeats 8000000
set_option autoImplicit false
/-! SwPx: an own error whose __init__ says super().__init__(text); self.f = x -/
namespace SW
open PySem PySem.Spec PyProof.Rows L2
section
variable {prog : Program} {w : World} {A : Around} {E : Value → Shared → Prop} {h : Heap} {g : Array GenState} {d : Drawn} {t : Nat} {os : OsState}
variable {nm q : Str} {C N : Addr} {bs bm : List Value} {hdct : Bool} {sn : List Str} {sub : List Value} {ab : Bool} {col : Option Bool} {dd : Option Addr} {k0 k1 k2 k3 k5 : Option Value}
theorem px_call {u e t0 : Addr} {rest : List Value} {Q : Value → Shared → Prop}
    (hC : h.get? C = some (excClassObj nm q C N bs bm hdct sn sub ab col dd k0 k1 k2 k3 k5 "ValueError.__new__")) (he : h.get? e = some (PySem.HandSPX.excO C t0)) (hu : h.get? u = some (PySem.W.kxs_mw "ValueError.__init__" e)) (hrest : rest.length ≤ sizeLine)
    (hq : ∀ h' t1, (∀ b o, b ≠ e → h.get? b = some o → h'.get? b = some o) → h'.get? e = some (PySem.HandSPX.excO C t1) → Q .none ⟨h', g, d, t, os⟩) :
    wpAny (model prog w) A (call (.ref u) rest) Q E ⟨h, g, d, t, os⟩ := by
  refine wpAny_call (codeAny_of_tree ?_)
  show wpAny _ A.in1 (callAny (.ref u) ⟨rest, []⟩) _ _ _
  simp only [callAny]
  refine wpAny_bind (wpAny_load hu ?_)
  simp only [PySem.W.kxs_mw, show (Value.type "method-wrapper" == Value.type "method" || Value.type "method-wrapper" == Value.type "builtin_function_or_method" || Value.type "method-wrapper" == Value.type "method-wrapper") = true by decide, if_true]
  refine PySem.W.KFB.if_so (by decide) ?_
  refine wpAny_bind (PySem.ESX.check_bound F.excBase_ValueError hC he rfl ?_)
  refine wpAny_bind (wpAny_pure (wpAny_pure ?_))
  refine ⟨Code.quiet_builtin _ (by decide +kernel), codeAny_builtin F.excBase_ValueError.initEntry ?_⟩
  rw [Around.under_plainId F.excBase_ValueError.init.plain _]
  wp_walk
  refine hq _ h.objs.size (fun b o hb ho => ?_) ?_
  · rw [Heap.get?_update_other _ _ (Ne.symm hb)]
    exact Heap.get?_push_of_some _ ho
  · rw [Heap.get?_update_self _ (Heap.get?_push_of_some _ he) rfl]
    rfl
end
theorem px_he {env : PySem.Env} {o e : Expr} {name : Str} {apos pos : Pos} (hl : (apos.endLine == pos.line) = true) (he : starEach [e] env = [(false, eval e env)]) : eval (.Call (.Attribute o name apos) [e] [] pos) env = (do
      let ov ← attributeBase o name env (eval o env)
      standAt apos.atName
      let (f, first) ← holding [ov] (getMethod ov name (do return (← importBound o env).getD true))
      callWith pos f first (backTo pos (starEach [e] env)) []) := by
  show (do
    let ov ← attributeBase o name env (eval o env)
    standAt apos.atName
    methodCall o name apos pos env ov 1 (backTo pos (starEach [e] env)) []) = _
  have hf : methodCallForm 1 (backTo pos (starEach [e] env)) [] = true := by rw [he]; rfl
  unfold methodCall calleeOf methodCallPos
  simp only [hf, hl, Bool.not_true, Bool.false_or, if_true, pure_bind]
theorem px_inter {env : PySem.Env} (hk : env.scope.kind = .function) : interactive env = false := by
  unfold interactive
  rw [hk]
  rfl
/-- the body of such an __init__ -/
def pxBody (ms fn x : Str) (j : Nat) (p0 p1 p2 p3 p4 p5 p6 p7 p8 p9 : Pos) : List Stmt :=
  [.Expr (.Call (.Attribute (.Call (.Name "super" p0) [] [] p1) "__init__" p2) [.Constant (.str ms) j p3] [] p4) p5,
   .Assign [.Attribute (.Name "self" p6) fn p7] (.Name x p8) p9]
/-- what is known of the class and its __init__ -/
structure PxC (P : Program) (K : PySem.W.Frag) (C fI : Addr) (fd : FuncData) (x fn : Str) : Prop where
  T : OexC K C
  no : PySem.W.findIn K (.ref C) fn = some none
  iC : PySem.W.findIn K (.ref C) "__init__" = some (some (.ref fI))
  tI : PySem.W.typeIn K (.ref fI) = some (.type "function")
  sI : PySem.W.ks_superIn K C C "__init__" = some (some (.builtin "ValueError.__init__"))
  sC : PySem.W.mroIn K C (.ref C) = some true
  sV : PySem.W.subIn K (.ref C) (.type "ValueError") = some true
  op : PySem.W.nsIn K cStatics "thirdparty.any" = some none
  file : ∃ f : Str, (P.main.file == f) = true ∧ (P.main.scope.names.lookup ("super" : Str)).isSome = false ∧
    ∃ (name qual : Str) (as : List Arg) (ms : Str) (j : Nat) (p0 p1 p2 p3 p4 p5 p6 p7 p8 p9 : Pos) (scope : Scope) (dV kV doc pm ct oc : Value) (an od : Option Addr) (osl : Array (Option Value)) (cc cda : Addr) (ccl cl : Value) (cdd cld : Option Addr) (ccs csl : Array (Option Value)) (vs : Array Value) (tf : Tok),
      fd = PySem.W.ksFn name qual ⟨[], as, none, [], [], none, []⟩ (pxBody ms fn x j p0 p1 p2 p3 p4 p5 p6 p7 p8 p9) scope dV kV doc pm an (.ref cda) ct cc ∧ K.lookup fI = some ⟨oc, od, .func fd, osl⟩ ∧ PySem.W.codeIn K (.ref cda) qual = true ∧
      as.map (·.arg) = ([("self" : Str), x] : List Str) ∧ scope.kind = .function ∧ scope.isCoroutine = false ∧ scope.isGenerator = false ∧ (∀ y ∈ scope.names, y.2 ≠ .cell) ∧ scope.names.lookup ("super" : Str) = some .globalImplicit ∧ scope.names.lookup ("__class__" : Str) = some .free ∧ scope.names.lookup ("self" : Str) = some .local ∧ scope.names.lookup x = some .local ∧
      K.lookup cda = some ⟨ccl, cdd, .fields vs, ccs⟩ ∧ vs[2]? = some (.str f tf) ∧ K.lookup cc = some ⟨cl, cld, .cell (some (.ref C)), csl⟩ ∧ x ≠ "self" ∧ x ≠ "__debug__" ∧ (p2.endLine == p4.line) = true
  bind : ∀ us : List Value, us.length = 2 → bindArgs fd ⟨us, []⟩ = pure (([("self" : Str), x] : List Str).zip us)
section
variable {prog : Program} {w : World} {A : Around} {h : Heap} {g : Array GenState} {d : Drawn} {t : Nat} {os : OsState} {R : Result → Shared → Prop}
/-- the def runs -/
theorem px_run {K : PySem.W.Frag} {mg : Str → Option Value} {base : Heap} {C fI a t0 : Addr} {u : Value} {fd : FuncData} {x fn : Str} (M : Mod K mg base) (T : PxC prog K C fI fd x fn) (hs : mg "super" = none) (kb : ∀ b o, base.get? b = some o → h.get? b = some o)
    (hroom : A.depth < recursionLimit) (ha : h.get? a = some (PySem.HandSPX.excO C t0)) (hab : base.get? a = none)
    (hR : ∀ h' t' dx t1, (∀ b o, b ≠ a → h.get? b = some o → h'.get? b = some o) → a < dx → h'.get? a = some { cls := .ref C, dict := some dx, data := .fields #[.ref t1, .none, .none, .none, .bool false, .none] } →
      h'.Ns1 dx (fun y => if y = fn then some u else none) → R (.ok (.ret .none)) ⟨h', g, d, t', os⟩) :
    codeAny (model prog w) A (.call (.ref fI) ⟨[.ref a, u], []⟩) R ⟨h, g, d, t, os⟩ := by
  obtain ⟨⟨hcls, Tsa, TexC, TtyC, TkC⟩, no, iC, tI, sI, sC, sV, op, ⟨file, hfile, htop, name, qual, as, ms, j, p0, p1, p2, p3, p4, p5, p6, p7, p8, p9, scope, dV, kV, doc, pm, ct, oc, an, od, osl, cc, cda, ccl, cl, cdd, cld, ccs, csl, vs, tf, rfl, lk, hcd, hargs, hk, hco, hgen, hcell, n1, n2, n3, n4, lcda, hvs, lcc, xs, xd, hln⟩, bnd⟩ := T
  obtain ⟨nm, q, N, bs, bm, sn, sub, ab, col, dd, k0, k1, k2, k3, k5, hC, hbm⟩ := hcls
  have hcl : PySem.W.clsIn K C = some { name := nm, bases := bs, mro := .ref C :: bm, ns := N, qualname := q, hasDict := true, slotNames := sn, subclasses := sub, abstract := ab, collection := col, hasDel := false } := by unfold PySem.W.clsIn; rw [hC] <;> rfl
  have KX : K.In h := M.kin.keeps kb
  have hb : BindsTo ⟨h, g, d, t, os⟩ (PySem.W.ksFn name qual ⟨[], as, none, [], [], none, []⟩ (pxBody ms fn x j p0 p1 p2 p3 p4 p5 p6 p7 p8 p9) scope dV kV doc pm an (.ref cda) ct cc) ⟨[.ref a, u], []⟩ [("self", .ref a), (x, u)] := BindsTo.of_eq (bnd [.ref a, u] rfl)
  refine PySem.ks_codeAny_call_defAt hroom (KX _ _ lk) rfl (M.nolimit.keeps kb) (PySem.W.codeRec_of KX hcd) rfl hb hcell (fun y hy => ?_) (fun h1 hns k1' => ?_) hco hgen hk
  · simp only [List.mem_cons, List.not_mem_nil, or_false] at hy
    rcases hy with hy | hy
    · rw [hy]; exact n3
    · rw [hy]; exact n4
  obtain ⟨ar, ar2, rfl, har, har2⟩ : ∃ ar ar2 : Arg, as = [ar, ar2] ∧ ar.arg = "self" ∧ ar2.arg = x := by
    match as, hargs with
    | [], e => exact absurd (congrArg List.length e) (by simp)
    | [_], e => exact absurd (congrArg List.length e) (by simp)
    | [p, q], e =>
      have e : [p.arg, q.arg] = [("self" : Str), x] := e
      have e1 := List.cons.inj e
      exact ⟨p, q, rfl, e1.1, (List.cons.inj e1.2).1⟩
    | _ :: _ :: _ :: _, e => exact absurd (congrArg List.length e) (by simp)
  have aL : a < h.objs.size := Heap.lt_size ha
  have kb1 : ∀ b o, base.get? b = some o → h1.get? b = some o := fun b o e => k1' b o (kb b o e)
  have KX1 : K.In h1 := KX.keeps k1'
  have ha1 := k1' _ _ ha
  obtain ⟨mb, hb1, hb2⟩ := M.blt
  have sup : bootBuiltins "super" = some (.type "super") := by kernel_rfl
  have self_ne : (x == ("self" : Str)) = false := by simpa using xs
  have lk_self : List.lookup ("self" : Str) ([(("self" : Str), Value.ref a), (x, u)] : List (Str × Value)).reverse = some (Value.ref a) := by
    have e2 : (("self" : Str) == x) = false := by simpa using (fun z => xs z.symm : ¬ ("self" : Str) = x)
    show List.lookup ("self" : Str) [(x, u), (("self" : Str), Value.ref a)] = _
    simp [List.lookup, e2]
  have lk_x : List.lookup x ([(("self" : Str), Value.ref a), (x, u)] : List (Str × Value)).reverse = some u := by
    show List.lookup x [(x, u), (("self" : Str), Value.ref a)] = _
    simp [List.lookup]
  show _root_.PySem.wpAt (model prog w) (A.deeper (PySem.W.ksEnv qual scope h.objs.size fI (.ref cda) cc)) (.func (pxBody ms fn x j p0 p1 p2 p3 p4 p5 p6 p7 p8 p9) (PySem.W.ksEnv qual scope h.objs.size fI (.ref cda) cc)) (execs (pxBody ms fn x j p0 p1 p2 p3 p4 p5 p6 p7 p8 p9) (PySem.W.ksEnv qual scope h.objs.size fI (.ref cda) cc)) _ _ _
  unfold pxBody
  refine ks_wpAt_execs_cons (ks_wpAt_Expr_any (ks_wpAt_MethodCall ?_ (px_he hln rfl)) (px_inter hk))
  refine ks_wpAt_super_base (env := PySem.W.ksEnv qual scope h.objs.size fI (.ref cda) cc) n1 n2 (by decide) rfl (KX1 _ _ lk) rfl (ar := ar) rfl rfl (KX1 _ _ lcda) rfl hvs hfile htop ?_
  refine PySem.W.ks_loadName_global hk n1 (Calls.loadGlobal_builtin (env := PySem.W.ksEnv qual scope h.objs.size fI (.ref cda) cc) (M.glob.keeps kb1) hs (hb1.keeps kb1) ((hb2 "super" (by decide)).trans sup) ⟨rfl, ?_⟩)
  refine wpAny_loadName_free hk n2 rfl ⟨_, KX1 _ _ lcc, rfl⟩ ?_
  rw [har]
  refine wpAny_loadName_local hk n3 hns lk_self ?_
  refine ks_wpAny_isType_cls (KX1 _ _ hC) rfl ⟨rfl, ?_⟩
  refine ks_wpAny_call_super (KX1 _ _ hC) rfl ha1 rfl (fun c e => by cases e) (PySem.W.looks_mroIn KX1 sC) (fun h2 e2 k2 => ?_)
  have KX2 : K.In h2 := KX1.keeps k2
  have ha2 := k2 _ _ ha1
  have I2 : PySem.W.InstAt h2 a (PySem.HandSPX.excO C t0) C none := ⟨ha2, rfl, rfl, trivial⟩
  have hI : PySem.W.Looks (model prog w) h2 (isInstance (.ref a) (.type "ValueError")) true := I2.type.andThen (PySem.W.looks_subIn KX2 sV)
  have hf : PySem.W.alongIn K "__init__" ((((Value.ref C :: bm).dropWhile (· != .ref C)).drop 1)) = some (some (.builtin "ValueError.__init__")) := by
    unfold PySem.W.ks_superIn at sI
    rw [hcl] at sI
    exact sI
  refine PySem.W.kxs_getMethod PySem.W.kxs_ValueError e2 (PySem.W.looks_opaque KX2 op) (l₀ := .ref C :: bm) (fun A Q E s k q => wpAny_bind ((PySem.W.looks_clsIn KX2 hcl) A _ E s k (wpAny_pure q))) rfl KX2 hf hI (PySem.W.ks_ne KX2 I2 hcl) (by decide) ?_
  have k3 : ∀ b o, h2.get? b = some o → (h2.push (PySem.W.kxs_mw "ValueError.__init__" a)).get? b = some o := fun b o e => Heap.get?_push_of_some _ e
  refine PySem.W.kxs_callWith (i := "ValueError.__init__") (x := a) rfl ?_
  refine PySem.Calls.evalArgs_plain ?_
  refine Calls.spliced_cons (Calls.Constant_str (k := j) (pos := p3) (Calls.spliced_nil ⟨?_, ?_⟩))
  · exact Heap.get?_push_at rfl rfl
  have ha3 := k3 _ _ ha2
  refine px_call ((KX2.keeps k3) _ _ hC) ha3 (Heap.get?_push_at rfl rfl) (by show 1 ≤ sizeLine; rw [sizeLine_eq]; omega) (fun h4 t4 k4 ha4 => ?_)
  have k14 : ∀ b o, b ≠ a → h1.get? b = some o → h4.get? b = some o := fun b o n e => k4 b o n (k3 _ _ (k2 _ _ e))
  have nC : ∀ b o, K.lookup b = some o → b ≠ a := fun b o e z => by
    have e1 := M.kin _ _ e
    rw [z, hab] at e1
    cases e1
  have KX4 : K.In h4 := fun b o e => k14 b o (nC b o e) (KX1 _ _ e)
  have hns4 : h4.Ns h.objs.size (fun x_1 => List.lookup x_1 ([(("self" : Str), Value.ref a), (x, u)] : List (Str × Value)).reverse) := hns.at fun o e => k14 _ _ (Nat.ne_of_gt aL) e
  refine ks_wpAt_execs_cons (ks_wpAt_Assign_Attr ?_ ?_)
  · refine wpAt_of_wpAny ?_
    refine wpAny_Name (wpAny_loadName_local hk n4 hns4 lk_x ?_) (by simpa using xd)
    refine wpAny_Name (wpAny_loadName_local hk n3 hns4 lk_self ?_) (by decide)
    have I4 : PySem.W.InstAt h4 a (PySem.HandSPX.excO C t4) C none := ⟨ha4, rfl, rfl, trivial⟩
    refine PySem.W.set_plain KX4 I4 Tsa ?_
    refine PySem.HandSPX.exc_osa KX4 ha4 hcl (show PySem.HandSPX.refsVE (.ref C :: bm) = true from hbm) rfl no (fun h5 tk5 dx k5 dn dne hx hn => ?_)
    refine wpAt_of_wpAny (wpAny_pure ?_)
    exact hR h5 _ dx t4 (fun b o n e => k5 b o n (k14 b o n (k1' b o e))) (Nat.lt_of_lt_of_le (Heap.lt_size ha4) dn) hx hn
  · rfl
end
section
variable {X : Cx} {e : Expr} {ta : TA}
/-- C(e), the error made -/
theorem pmk_px {nmC x fn : Str} {C fI : Addr} {fd : FuncData} {p pos : Pos} (T : PxC X.prog X.K C fI fd x fn) (hs : X.mg "super" = none) (hr : Room 1 X.A) (hg : Gl X nmC) (hm : X.mg nmC = some (.ref C)) (hdb : (nmC == ("__debug__" : Str)) = false) (ha : PA X [e] ta)
    (he : starEach [e] X.env = (false, eval e X.env) :: starEach [] X.env) :
    PMk X (.Call (.Name nmC p) [e] [] pos) (fun σ H Q => ta σ H fun vs H1 => ∃ v, vs = [v] ∧ ∀ dx, H1 dx = none → Q (.ref C) (some dx) (upd H1 dx (.xd [(fn, v)]))) := by
  intro pins s σ H Q I h
  obtain ⟨nm, q, N, bs, bm, sn, sub, ab, col, dd, k0, k1, k2, k3, k5, hC, hbm⟩ := T.T.cls
  refine wpAny_Call_Name_kw (ld_glob I hg hm ?_ hdb)
  refine PySem.W.callWith_K (h₀ := X.base) I.ok.mod.kin T.T.kC (thn (ha.run pos pins s σ H _ I h) fun us s1 ⟨vs, H1, I1, r1, v, ev, q1⟩ => ⟨I1.kIn, ?_⟩) he rfl
  show wpAny _ _ (call (.ref C) us) _ _ _
  subst ev
  cases r1 with
  | @cons _ u _ us' ru rn =>
    cases rn
    obtain ⟨hp, g, dr, tk, os⟩ := s1
    have hget : ((hp.push (PySem.W.kdv_tup [u])).push (PySem.HandSPX.excO C hp.objs.size)).get? (hp.objs.size + 1) = some (PySem.HandSPX.excO C hp.objs.size) := by heap_get
    have kk : ∀ b o, hp.get? b = some o → ((hp.push (PySem.W.kdv_tup [u])).push (PySem.HandSPX.excO C hp.objs.size)).get? b = some o := fun b o e => Heap.get?_push_of_some _ (Heap.get?_push_of_some _ e)
    have lt : ∀ b o, hp.get? b = some o → b < hp.objs.size := fun b o e => Heap.lt_size e
    have hab : X.base.get? (hp.objs.size + 1) = none := by
      cases z : X.base.get? (hp.objs.size + 1) with
      | none => rfl
      | some o =>
        exact absurd (lt (hp.objs.size + 1) o (I1.bk _ _ z)) (Nat.not_lt.mpr (Nat.le_succ _))
    refine wpAny_call (PySem.HandSPX.call_own F.excBase_ValueError (fun Y => PySem.HandSPX.refsVE_contains Y bm hbm) (I1.kIn _ _ hC) (PySem.W.looks_findIn I1.kIn T.iC) (fun self => PySem.W.bind_fn I1.kIn self T.tI) (by show 1 ≤ sizeLine; rw [sizeLine_eq]; omega) ?_)
    refine px_run I.ok.mod T hs (fun b o e => kk b o (I1.bk b o e)) (hr.make C [u] []).depth hget hab (fun h' t' dx t1 k adx hx hn => ?_)
    refine ⟨rfl, ?_⟩
    obtain ⟨G, g1, g2⟩ := restrict h' (fun b => decide (b = dx) || (hp.get? b).isSome)
    have na : hp.get? (hp.objs.size + 1) = none := by
      cases z : hp.get? (hp.objs.size + 1) with
      | none => rfl
      | some o => exact absurd (lt _ _ z) (Nat.not_lt.mpr (Nat.le_succ _))
    have gk : ∀ b o, hp.get? b = some o → G.get? b = some o := fun b o z => by
      rw [g1 b (by rw [z]; simp)]
      exact k b o (Nat.ne_of_lt (Nat.lt_succ_of_lt (lt b o z))) (kk b o z)
    have gd : G.get? dx = h'.get? dx := g1 dx (by simp)
    have ge : G.get? (hp.objs.size + 1) = none := g2 _ (by rw [na]; simp; exact Nat.ne_of_lt adx)
    have kG : ∀ b o, G.get? b = some o → h'.get? b = some o := fun b o z => by
      cases q2 : (decide (b = dx) || (hp.get? b).isSome) with
      | true => rw [g1 b q2] at z; exact z
      | false => rw [g2 b q2] at z; cases z
    have hsz : hp.objs.size ≤ dx := Nat.le_of_lt (Nat.lt_of_succ_lt adx)
    have J : Inv X pins σ (upd H1 dx (.xd [(fn, v)])) ⟨G, g, dr, t', os⟩ := I1.laid (t' := t') (a := dx) (o := .xd [(fn, v)]) (h' := G) gk hsz ⟨_, hn.at fun o y => gd.trans y, relO_put (fs := []) ru fun g => True.intro⟩
    have hn1 : H1 (hp.objs.size + 1) = none := I1.hok.fresh (Nat.le_succ _)
    exact ⟨hp.objs.size + 1, _, _, ⟨G, g, dr, t', os⟩, _, .ref C, some dx, rfl, J, kG, ge, hx, ⟨rfl, rfl⟩, rfl, rfl, by rw [upd_ne (Nat.ne_of_lt adx)]; exact hn1, rfl, I1.bare, raises_own T.T.exC T.T.tyC, q1 dx (I1.hok.fresh hsz)⟩
end
section
variable {G : Gd} {K : PySem.W.Frag} {g : Gh} {H : Hp} {al : List Addr} {S : Store}
/-- a new object that is locked at once -/
theorem Rl.knownO (r : Rl G K g H al S) {p : Addr} {o : HO} (h : H p = none) (hb : ∀ ps, o ≠ .tbl ps) : Rl G K (g.lock p) (upd H p o) al S := by
  have r1 := r.new (o := o) h
  have e : Ext g (upd H p o) (g.lock p) (upd H p o) := .lock p
  have np : p ∉ al := fun z => by
    obtain ⟨u, hu⟩ := r.there z
    rw [h] at hu
    cases hu
  refine ⟨r1.len, r1.nd, fun m ob' b h1 h2 => ?_, fun b h => ?_, fun P hP => ?_, fun cc P h => ⟨.inl (r1.cod cc P h).1, (r1.cod cc P h).2⟩⟩
  · obtain ⟨q, u⟩ := r1.cell m ob' b h1 h2
    refine ⟨q.mono e rfl (fun x z => ?_), u⟩
    rcases z with z | z
    · exact x z
    · subst z
      exact np (List.mem_of_getElem? h2)
  · rcases h with h | h
    · exact r1.fr b h
    · subst h
      exact ⟨_, upd_same⟩
  · have q := r1.tab P hP
    obtain ⟨⟨ps, h1, _⟩, _⟩ := id q
    refine q.stay e.z (fun _ h => h) fun h3 z => ?_
    rcases z with z | z
    · exact h3 z
    · subst z
      rw [upd_same] at h1
      exact hb ps (Option.some.inj h1)
end
section
variable {X : Cx} {c : Ct} {e : Expr} {es : Expr} {fe : Env → Store → R Vl} {pos : Pos}
/-- raise C(e) -/
theorem ss_rse1 {k : Nat} (hok : c.G.okX k) (hc : X.calm = true) (tk : Takes X c.W) (hes : SE X c es fe) (hst : notStar es = true)
    (he : ∀ ta, PA X [es] ta → PMk X e (fun σ H Q => ta σ H fun vs H1 => ∃ v, vs = [v] ∧ ∀ dx, H1 dx = none → Q (.ref (c.G.clsA k)) (some dx) (upd H1 dx (.xd [(excF k, v)])))) :
    SS X c (.Raise (some e) none pos) (fun ρ S => ((fe ρ S).bind kD).to ρ fun x S1 => .xc k [x] ρ (S1.take S.length)) :=
  (ps_raise hc tk (he _ (pa_cons hes pa_nil (star_each hst)))).imp fun D σ H h => by
    obtain ⟨g, al, ρ, S, xa, rl, er, out⟩ := h
    simp only [R.bind_to] at out
    refine TSQ.step xa rl er out fun x H1 g1 al1 v S1 e1 p1 xa1 rl1 er1 q1 out1 => ?_
    obtain ⟨w, S2, ew, out2⟩ := to_ok kD_noexc out1
    obtain ⟨g2, e2, rl2, q2⟩ := kD_is rl1 q1 ew
    refine ⟨x, rfl, fun dx hd => ?_⟩
    have e3 : Ext g2 H1 (g2.lock dx) (upd H1 dx (.xd [(excF k, x)])) := Ext.trans (.new hd (rl2.nF hd)) (.lock dx)
    have rl3 := rl2.knownO (o := .xd [(excF k, x)]) hd (fun ps z => nomatch z)
    have ee := (e1.trans e2).trans e3
    refine out2 (g2.lock dx) _ al σ (some dx) ee (rl3.back p1 rl.len) (List.prefix_refl _) (er.mono ee (List.prefix_refl _)) ?_
    unfold RepX
    exact ⟨hok, rfl, dx, x, rfl, .inr rfl, upd_same, q2.mono e3⟩
end
end SW

-- SwUm
set_option Elab.async false
set_option linter.all false
set_option maxRecDepth 100000
set_option maxHeartbeats 8000000
set_option autoImplicit false
/-! SwUm: methods of an object of the store; texts that are split -/
namespace SW
open PySem PySem.Spec PyProof.Rows L2
def noFldB (m : Str) : Bool := ((List.range 7).all fun f => decide (fldN f ≠ m)) && decide (m.length < 20)
theorem noFld_ok {m : Str} (h : noFldB m = true) (f : Nat) : fldN f ≠ m := by
  unfold noFldB at h
  rw [Bool.and_eq_true] at h
  by_cases hf : f < 7
  · exact of_decide_eq_true (List.all_eq_true.mp h.1 f (List.mem_range.mpr hf))
  · obtain ⟨n, rfl⟩ : ∃ n, f = n + 7 := ⟨f - 7, by omega⟩
    intro e
    have hl := of_decide_eq_true h.2
    rw [← e] at hl
    have : (fldN (n + 7)).length = n + 20 := by
      show (Array.replicate (n + 20) 97).size = n + 20
      simp
    omega
theorem repF_no {G : Gd} {K : PySem.W.Frag} {g : Gh} {H : Hp} {m : Str} (hm : noFldB m = true) : ∀ {fs : List (Nat × D)} {vs : List (Str × V)}, RepF G K g H fs vs → vs.lookup m = none
  | [], _, h => by unfold RepF at h; subst h; rfl
  | (f, y) :: fs, _, h => by
    unfold RepF at h
    obtain ⟨w, r, rfl, h1, h2⟩ := h
    have e : (m == fldN f) = false := by
      rw [beq_eq_false_iff_ne]
      exact fun z => noFld_ok hm f z.symm
    rw [List.lookup_cons, e]
    exact repF_no hm h2
theorem um_he {env : PySem.Env} {o : Expr} {es : List Expr} {name : Str} {apos pos : Pos} (hl : (apos.endLine == pos.line) = true) (hb : attributeBase o name env (eval o env) = eval o env) (hf : methodCallForm es.length (backTo pos (starEach es env)) [] = true) : eval (.Call (.Attribute o name apos) es [] pos) env = (do
      let ov ← eval o env
      standAt apos.atName
      let (f, first) ← holding [ov] (getMethod ov name (do return (← importBound o env).getD true))
      callWith pos f first (backTo pos (starEach es env)) (backToKw pos (keywordEach [] env))) := by
  show (do
    let ov ← attributeBase o name env (eval o env)
    standAt apos.atName
    methodCall o name apos pos env ov es.length (backTo pos (starEach es env)) []) = _
  unfold methodCall calleeOf methodCallPos
  simp only [hf, hl, Bool.not_true, Bool.false_or, if_true, pure_bind, hb]
  rfl
theorem form_ok {es : List Expr} {env : PySem.Env} {pos : Pos} (hs : es.all notStar = true) (hn : es.length < 30) : methodCallForm es.length (backTo pos (starEach es env)) [] = true := by
  unfold methodCallForm
  have h1 : (backTo pos (starEach es env)).any (·.1) = false := star_none hs
  have h2 : (backTo pos (starEach es env)).all (!·.1) = true := by
    rw [List.any_eq_false] at h1
    rw [List.all_eq_true]
    intro x hx
    have := h1 x hx
    simpa using this
  rw [h2]
  simp
  omega
structure MethM (X : Cx) (c : Ct) (cf : CF) (C a : Addr) (f : Nat) (m : Str) : Prop where
  cls : Cls X.K C
  meth : Meth X.K C m a
  ex : ∃ k fd ps, FnOk X.prog X.w X.K X.mg X.base (L2.CX X.prog X.w) k a fd ps (spF c.G c.K c.xo cf f) ∧ Room k X.A ∧ Binds X.K fd ps []
section
variable {X : Cx} {c : Ct} {o e : Expr} {es : List Expr} {fo : Env → Store → R Vl} {fs : Env → Store → R (List Vl)} {apos pos : Pos} {cf : CF} {f : Nat} {m : Str} {ad : Addr}
theorem um_obj {σ : L2.St} {H1 : Hp} {Q : VK} {g1 : Gh} {al1 : List Addr} {v : Vl} {x : V} {S1 : Store} {ρ : Env} {k : Vl → Store → R Vl} (hm : noFldB m = true) (rl1 : Rl c.G c.K g1 H1 al1 S1) (q1 : RepL c.G c.K g1 H1 al1 v x) (out1 : Out c (relL c) σ g1 H1 al1 ((kObj v S1).bind k) Q) :
    ∃ n a dx fs0, v = .r n ∧ al1[n]? = some a ∧ x = .ref a ∧ H1 a = some (.ins (c.G.clsA 1) dx fs0) ∧ fs0.lookup m = none ∧ Out c (relL c) σ g1 H1 al1 (k (.r n) S1) Q := by
  cases v with
  | d y => exact out1.elim
  | x k2 p => exact out1.elim
  | r n =>
    unfold kObj at out1
    simp only at out1
    split at out1
    · rename_i fs1 hS
      obtain ⟨a, ha, rfl⟩ := q1
      obtain ⟨c6, _⟩ := rl1.cell n _ a hS ha
      obtain ⟨⟨hF, hok⟩, dx, vs, h1, h2⟩ := c6
      exact ⟨n, a, dx, vs, rfl, ha, rfl, h1, repF_no hm h2, out1⟩
    · exact out1.elim
/-- o.m(e, ..) -/
theorem se_umeth (F : MethM X c cf (c.G.clsA 1) ad f m) (tk : Takes X c.W) (hm : noFldB m = true) (ho : SE X c o fo) (hob : plainBase o = true) (hl : (apos.endLine == pos.line) = true) (ha : SA X c (e :: es) fs) (hs : (e :: es).all notStar = true) (hn : (e :: es).length < 30) :
    SE X c (.Call (.Attribute o m apos) (e :: es) [] pos) (fun ρ S => ((fo ρ S).bind kObj).bind fun x S1 => (fs ρ S1).bind (kMeth cf f x)) := by
  obtain ⟨k, fd, ps, F', hr, hb⟩ := F.ex
  have hs0 := hs
  rw [List.all_cons, Bool.and_eq_true] at hs
  refine ⟨fun pins s σ H Q I h => ?_⟩
  obtain ⟨g, al, ρ, S, xa, rl, er, out⟩ := h
  simp only [R.bind_assoc] at out
  have key : TQ c (relL c) fo σ H (fun x H1 => ∃ a dx fs0, x = .ref a ∧ H1 a = some (.ins (c.G.clsA 1) dx fs0) ∧ fs0.lookup m = none ∧ TQ c (relLs c) fs σ H1 (fun vs H2 => spF c.G c.K c.xo cf f (.ref a :: vs) H2 Q (WE c.W σ))) :=
    TQ.step (k := fun x S1 => (kObj x S1).bind fun x S2 => (fs ρ S2).bind (kMeth cf f x)) xa rl er out fun x H1 g1 al1 v S1 e1 p1 xa1 rl1 er1 q1 out1 => by
      obtain ⟨n, a, dx, fs0, rfl, ha2, rfl, h1, h2, out2⟩ := um_obj (ρ := ρ) hm rl1 q1 out1
      refine ⟨a, dx, fs0, rfl, h1, h2, ?_⟩
      refine TQ.step (k := kMeth cf f (.r n)) xa1 rl1 er1 out2 fun ys H2 g2 al2 w S2 e2 p2 xa2 rl2 er2 q2 out3 => ?_
      have lx : al2[n]? = some a := by
        obtain ⟨t, rfl⟩ := p2
        rw [List.getElem?_append_left (List.getElem?_eq_some_iff.mp ha2).1]
        exact ha2
      exact ⟨g2, al2, S2, .r n :: w, xa2.xa, rl2, ⟨_, _, rfl, ⟨a, lx, rfl⟩, q2⟩, Out.up out3⟩
  refine PySem.W.methodCall_KW (thn (ho.run pins s σ H _ I key) fun u s1 ⟨x, H1, I1, rx, a, dx, fs0, ex, ea, l, q⟩ => ?_) (um_he hl (base_ok hob) (form_ok hs0 hn))
  subst ex
  obtain rfl : u = Value.ref a := rx
  refine getmeth_ok I1 ea F.cls F.meth l ?_
  refine PySem.W.callWith_K (first := [.ref a]) (h₀ := X.base) I.ok.mod.kin F.meth.kp (thn (ha.run pos pins s1 σ H1 _ I1 q) fun us s2 ⟨vs, H2, I2, r, q2⟩ => ⟨I2.kIn, ?_⟩) (star_each hs.1) (star_none hs.2)
  exact run_fnS (us := .ref a :: us) (vs := .ref a :: vs) F' hr hb (passAt tk σ) I2 (.cons rfl r) q2
/-- o.m() -/
theorem se_umeth0 (F : MethM X c cf (c.G.clsA 1) ad f m) (tk : Takes X c.W) (hm : noFldB m = true) (ho : SE X c o fo) (hob : plainBase o = true) (hl : (apos.endLine == pos.line) = true) :
    SE X c (.Call (.Attribute o m apos) [] [] pos) (fun ρ S => ((fo ρ S).bind kObj).bind fun x S1 => kMeth cf f x [] S1) := by
  obtain ⟨k, fd, ps, F', hr, hb⟩ := F.ex
  refine ⟨fun pins s σ H Q I h => ?_⟩
  obtain ⟨g, al, ρ, S, xa, rl, er, out⟩ := h
  simp only [R.bind_assoc] at out
  have key : TQ c (relL c) fo σ H (fun x H1 => ∃ a dx fs0, x = .ref a ∧ H1 a = some (.ins (c.G.clsA 1) dx fs0) ∧ fs0.lookup m = none ∧ spF c.G c.K c.xo cf f [.ref a] H1 Q (WE c.W σ)) :=
    TQ.step (k := fun x S1 => (kObj x S1).bind fun x S2 => kMeth cf f x [] S2) xa rl er out fun x H1 g1 al1 v S1 e1 p1 xa1 rl1 er1 q1 out1 => by
      obtain ⟨n, a, dx, fs0, rfl, ha2, rfl, h1, h2, out2⟩ := um_obj (ρ := ρ) hm rl1 q1 out1
      exact ⟨a, dx, fs0, rfl, h1, h2, g1, al1, S1, [.r n], xa1.xa, rl1, ⟨_, _, rfl, ⟨a, ha2, rfl⟩, rfl⟩, Out.up out2⟩
  refine PySem.W.methodCall_KW (thn (ho.run pins s σ H _ I key) fun u s1 ⟨x, H1, I1, rx, a, dx, fs0, ex, ea, l, q⟩ => ?_) (um_he hl (base_ok hob) rfl)
  subst ex
  obtain rfl : u = Value.ref a := rx
  refine getmeth_ok I1 ea F.cls F.meth l ?_
  exact PySem.W.callWith_K0 (first := [.ref a]) I1.kIn F.meth.kp (run_fnS (us := [.ref a]) (vs := [.ref a]) F' hr hb (passAt tk σ) I1 (.cons rfl .nil) q)
end
end SW

-- SwQ
set_option Elab.async false
set_option linter.all false
set_option maxRecDepth 100000
set_option maxHeartbeats 4000000
set_option autoImplicit false
/-! SwQ: try -/
namespace SW
open PySem PySem.Spec PyProof.Rows L2

section
variable {G : Gd} {K : PySem.W.Frag} {g g' : Gh} {H H' : Hp} {al al' : List Addr} {S : Store} {ρ : Env} {σ : L2.St}
theorem RepX.ok : ∀ {k : Nat} {p : List D} {d : Option Addr}, RepX G K g H k p d → G.okX k
  | _, [], _, h => by unfold RepX at h; exact h.1
  | _, _ :: _, _, h => by unfold RepX at h; exact h.1
/-- the names, with other errors caught -/
theorem RepL.rexa {F : Addr → Prop} {T : Addr → Addr → Prop} {x : Addr → Nat → Option Addr → Prop} {v : Vl} {w : V} (h : RepL G K ⟨F, T, x⟩ H al v w) (y : Addr → Nat → Option Addr → Prop) (hv : ∀ c p, v ≠ .x c p) : RepL G K ⟨F, T, y⟩ H al v w := by
  cases v with
  | d z => exact Rep.mono0 (xa0 x y) _ _ h
  | r n => exact h
  | x c p => exact absurd rfl (hv c p)
theorem Er.rexa {F : Addr → Prop} {T : Addr → Addr → Prop} {x : Addr → Nat → Option Addr → Prop} (h : Er G K ⟨F, T, x⟩ H al ρ σ) (y : Addr → Nat → Option Addr → Prop) (hx : ∀ a k d, ¬ x a k d) : Er G K ⟨F, T, y⟩ H al ρ σ :=
  ⟨h.len, fun i v q => by
    obtain ⟨w, h1, h2⟩ := h.at_ i v q
    refine ⟨w, h1, h2.rexa y fun c p e => ?_⟩
    subst e
    obtain ⟨a, d, _, h3, _⟩ := h2
    exact hx a c d h3⟩
/-- .. the caught one forgotten -/
theorem Er.wipeX {F : Addr → Prop} {T : Addr → Addr → Prop} {x : Addr → Nat → Option Addr → Prop} (h : Er G K ⟨F, T, x⟩ H al ρ σ) (y : Addr → Nat → Option Addr → Prop) : Er G K ⟨F, T, y⟩ H al (SW.wipeX ρ) σ :=
  ⟨by unfold SW.wipeX; rw [List.length_map]; exact h.len, fun i v q => by
    unfold SW.wipeX at q
    rw [List.getElem?_map] at q
    obtain ⟨u, hu, hv⟩ := Option.map_eq_some_iff.mp q
    cases u with
    | none => cases hv
    | some u =>
      cases u with
      | x c p => cases hv
      | d z =>
        cases hv
        obtain ⟨w, h1, h2⟩ := h.at_ i _ hu
        exact ⟨w, h1, h2.rexa y fun _ _ e => by cases e⟩
      | r n =>
        cases hv
        obtain ⟨w, h1, h2⟩ := h.at_ i _ hu
        exact ⟨w, h1, h2.rexa y fun _ _ e => by cases e⟩⟩
theorem Er.none (h : Er G K g H al ρ σ) (i : Nat) : Er G K g H al (ρ.set i none) (σ.set i none) := by
  refine ⟨by simpa using h.len, fun j y z => ?_⟩
  by_cases hj : i = j
  · subst hj
    by_cases hi : i < ρ.length
    · rw [List.getElem?_set_self hi] at z
      cases z
    · rw [List.getElem?_eq_none (by simpa using hi)] at z
      cases z
  · rw [List.getElem?_set_ne hj] at z
    obtain ⟨w, h1, h2⟩ := h.at_ j y z
    exact ⟨w, by rw [List.getElem?_set_ne hj]; exact h1, h2⟩
theorem Ext.rexa2 {F F' : Addr → Prop} {T T' : Addr → Addr → Prop} {x y z : Addr → Nat → Option Addr → Prop} (e : Ext ⟨F, T, y⟩ H ⟨F', T', z⟩ H') : Ext ⟨F, T, x⟩ H ⟨F', T', x⟩ H' := ⟨e.tup, e.frz, e.sub, e.subC, rfl⟩
end
/-- the suite's knowledge -/
def Ct.sui (c : Ct) (a : Addr) (cls : Value) (d : Option Addr) : Ct := ⟨c.G, c.K, fun _ _ _ _ => False, fun a' k' d' => a' = a ∧ cls = .ref (c.G.clsA k') ∧ d' = d ∧ c.G.okX k', c.cd⟩
def Ct.wsh (c : Ct) (W : WX) : Ct := ⟨c.G, c.K, W, c.xo, c.cd⟩
section
variable {X : Cx} {c : Ct} {x n : Str} {cv : Value} {i k0 : Nat} {body suite : List Stmt} {b₀ : Stmt} {np pos pos' : Pos} {fb fh : Env → Store → RS}
/-- from a suite's end -/
theorem suite_end {D D' : Ends} {g g' g'' : Gh} {H H' : Hp} {al al' : List Addr} {r : RS} {f : Env → Env} {fs : L2.St → L2.St} {a : Addr} {cls : Value} {d : Option Addr} (hf : ∀ (G : Gd) (K : PySem.W.Frag) (g : Gh) (H : Hp) (al : List Addr) (ρ : Env) (σ : L2.St), Er G K g H al ρ σ → Er G K g H al (f ρ) (fs σ))
    (hn : ∀ σ H, D.nx (fs σ) H → D'.nx σ H) (hb : ∀ σ H, D.bk (fs σ) H → D'.bk σ H) (ht : ∀ v H, D.rt v H → D'.rt v H) (hg : g''.F = g'.F ∧ g''.cd = g'.cd) (e : Ext g H g' H') (p : al <+: al')
    (out : OutS c D g H al (suiteEnd f r)) : OutS (c.sui a cls d) D' g'' H' al' r := by
  obtain ⟨F, T, x0⟩ := g
  obtain ⟨F1, T1, x1⟩ := g'
  obtain ⟨F2, T2, x2⟩ := g''
  obtain ⟨h1, h2⟩ := hg
  have h1 : F2 = F1 := h1
  have h2 : T2 = T1 := h2
  subst h1 h2
  cases r with
  | nx ρ' S' =>
    intro g3 H3 al3 σ3 e3 r3 p3 er3
    obtain ⟨F3, T3, x3⟩ := g3
    exact hn _ _ (out ⟨F3, T3, x0⟩ H3 al3 (fs σ3) (e.rexa2.trans e3.rexa2) (r3.rexa x0) (p.trans p3) ((hf _ _ _ _ _ _ _ er3).wipeX x0))
  | bk ρ' S' =>
    intro g3 H3 al3 σ3 e3 r3 p3 er3
    obtain ⟨F3, T3, x3⟩ := g3
    exact hb _ _ (out ⟨F3, T3, x0⟩ H3 al3 (fs σ3) (e.rexa2.trans e3.rexa2) (r3.rexa x0) (p.trans p3) ((hf _ _ _ _ _ _ _ er3).wipeX x0))
  | rt v S' =>
    cases v with
    | x k q => exact out.elim
    | d z =>
      intro g3 H3 al3 w e3 r3 p3 q3
      obtain ⟨F3, T3, x3⟩ := g3
      exact ht _ _ (out ⟨F3, T3, x0⟩ H3 al3 w (e.rexa2.trans e3.rexa2) (r3.rexa x0) (p.trans p3) (RepL.rexa q3 x0 fun _ _ e => by cases e))
    | r z =>
      intro g3 H3 al3 w e3 r3 p3 q3
      obtain ⟨F3, T3, x3⟩ := g3
      exact ht _ _ (out ⟨F3, T3, x0⟩ H3 al3 w (e.rexa2.trans e3.rexa2) (r3.rexa x0) (p.trans p3) (RepL.rexa q3 x0 fun _ _ e => by cases e))
  | xc k q ρ' S' => exact out.elim
  | bad => exact out.elim
theorem ss_try_as (hK : X.K = c.K) (hs : X.stack = X.env :: X.outer) (hf : X.env.frame = some X.env.locals) (hN : X.N.Nodup) (hi : X.N[i]? = some n) (hln : X.env.kindOf n = some .local) (hc : Names X x cv) (tk : Takes X c.W) (hxo : ∀ a k d, ¬ c.xo a k d)
    (hex : ∀ k, c.G.okX k → PySem.W.exmOne X.K (.ref (c.G.clsA k)) cv = some (excSub k k0))
    (hb : ∀ (W : WX) (pn : List (Addr × Obj)) (xe : Value → Shared → Prop), Takes (X.tr pn xe) W → PassesOwn (model X.prog X.w) X.A X.env xe → SSs (X.tr pn xe) (c.wsh W) body fb)
    (hsu : ∀ (a : Addr) (oe : Obj) (cls : Value) (d : Option Addr) (pn : List (Addr × Obj)), Zc cls d oe → (∃ vs, oe.data = .fields vs) → SSs (X.suite a ((a, oe) :: pn)) (c.sui a cls d) (b₀ :: suite) fh) :
    SS X c (.Try body [.ExceptHandler (some (.Name x np)) (some n) (b₀ :: suite) pos'] [] [] pos) (fun ρ S => match fb ρ S with
      | .xc c' p ρ1 S1 => if excSub c' k0 then suiteEnd (fun ρ => ρ.set i none) (fh (ρ1.set i (some (.x c' p))) S1) else .xc c' p ρ1 S1
      | q => q) :=
  (ps_try_as (ts := fun a cls d => TSQ (c.sui a cls d) fh) (tb := fun W => TSQ (c.wsh W) fb) (Wout := c.W) hs hf hN hi hln hc tk hb hsu).imp fun D σ H h => by
    obtain ⟨g, al, ρ, S, xa, rl, er, out⟩ := h
    refine ⟨g, al, ρ, S, ⟨xa.xa, xa.cd⟩, rl, er, ?_⟩
    simp only at out
    cases e : fb ρ S with
    | nx ρ' S' => rw [e] at out; exact out
    | bk ρ' S' => rw [e] at out; exact out
    | rt v S' => rw [e] at out; exact out
    | bad => rw [e] at out; exact out
    | xc k p ρ1 S1 =>
      rw [e] at out
      simp only at out
      intro g' H' al' σ' d e' r' p' er' q'
      refine ⟨_, hex k q'.ok, fun hyes a ha => ?_, fun hno => ?_⟩
      · rw [if_pos hyes] at out
        have xa' := xa.ext e'
        obtain ⟨F1, T1, x1⟩ := g'
        have hx1 : x1 = c.xo := xa'.xa
        subst hx1
        have er2 : Er c.G c.K ⟨F1, T1, (c.sui a (.ref (c.G.clsA k)) d).xo⟩ H' al' ρ1 σ' := er'.rexa _ hxo
        refine ⟨⟨F1, T1, (c.sui a (.ref (c.G.clsA k)) d).xo⟩, al', ρ1.set i (some (.x k p)), S1, ⟨rfl, xa'.cd⟩, r'.rexa _, er2.set (x := .x k p) ⟨a, d, rfl, ⟨rfl, rfl, rfl, q'.ok⟩, RepX.mono0 (xa0 _ _) _ _ _ q'⟩, ?_⟩
        exact suite_end (f := fun ρ => ρ.set i none) (fs := fun σ => σ.set i none) (g' := ⟨F1, T1, c.xo⟩) (fun _ _ _ _ _ _ _ h => h.none i) (fun σ H h => h) (fun σ H h => h) (fun v H h => h) ⟨rfl, rfl⟩ e' p' out
      · have hno' : ¬ excSub k k0 = true := by rw [hno]; exact Bool.false_ne_true
        rw [if_neg hno'] at out
        exact out g' H' al' σ' d e' r' p' er' q'
theorem ss_try_only (hK : X.K = c.K) (hs : X.stack = X.env :: X.outer) (hf : X.env.frame = some X.env.locals) (hc : Names X x cv) (tk : Takes X c.W) (hxo : ∀ a k d, ¬ c.xo a k d)
    (hex : ∀ k, c.G.okX k → PySem.W.exmOne X.K (.ref (c.G.clsA k)) cv = some (excSub k k0))
    (hb : ∀ (W : WX) (pn : List (Addr × Obj)) (xe : Value → Shared → Prop), Takes (X.tr pn xe) W → PassesOwn (model X.prog X.w) X.A X.env xe → SSs (X.tr pn xe) (c.wsh W) body fb)
    (hsu : ∀ (a : Addr) (oe : Obj) (cls : Value) (d : Option Addr) (pn : List (Addr × Obj)), Zc cls d oe → (∃ vs, oe.data = .fields vs) → SSs (X.suite a ((a, oe) :: pn)) (c.sui a cls d) (b₀ :: suite) fh) :
    SS X c (.Try body [.ExceptHandler (some (.Name x np)) none (b₀ :: suite) pos'] [] [] pos) (fun ρ S => match fb ρ S with
      | .xc c' p ρ1 S1 => if excSub c' k0 then suiteEnd id (fh ρ1 S1) else .xc c' p ρ1 S1
      | q => q) :=
  (ps_try_only (ts := fun a cls d => TSQ (c.sui a cls d) fh) (tb := fun W => TSQ (c.wsh W) fb) (Wout := c.W) hs hf hc tk hb hsu).imp fun D σ H h => by
    obtain ⟨g, al, ρ, S, xa, rl, er, out⟩ := h
    refine ⟨g, al, ρ, S, ⟨xa.xa, xa.cd⟩, rl, er, ?_⟩
    simp only at out
    cases e : fb ρ S with
    | nx ρ' S' => rw [e] at out; exact out
    | bk ρ' S' => rw [e] at out; exact out
    | rt v S' => rw [e] at out; exact out
    | bad => rw [e] at out; exact out
    | xc k p ρ1 S1 =>
      rw [e] at out
      simp only at out
      intro g' H' al' σ' d e' r' p' er' q'
      refine ⟨_, hex k q'.ok, fun hyes a ha => ?_, fun hno => ?_⟩
      · rw [if_pos hyes] at out
        have xa' := xa.ext e'
        obtain ⟨F1, T1, x1⟩ := g'
        have hx1 : x1 = c.xo := xa'.xa
        subst hx1
        have er2 : Er c.G c.K ⟨F1, T1, (c.sui a (.ref (c.G.clsA k)) d).xo⟩ H' al' ρ1 σ' := er'.rexa _ hxo
        refine ⟨⟨F1, T1, (c.sui a (.ref (c.G.clsA k)) d).xo⟩, al', ρ1, S1, ⟨rfl, xa'.cd⟩, r'.rexa _, er2, ?_⟩
        exact suite_end (f := id) (fs := id) (g' := ⟨F1, T1, c.xo⟩) (fun _ _ _ _ _ _ _ h => h) (fun σ H h => h) (fun σ H h => h) (fun v H h => h) ⟨rfl, rfl⟩ e' p' out
      · have hno' : ¬ excSub k k0 = true := by rw [hno]; exact Bool.false_ne_true
        rw [if_neg hno'] at out
        exact out g' H' al' σ' d e' r' p' er' q'
end
end SW

-- SwR
set_option Elab.async false
set_option linter.all false
set_option maxRecDepth 100000
set_option maxHeartbeats 4000000
set_option autoImplicit false
/-! SwR: join, split, get, sorted -/
namespace SW
open PySem PySem.Spec PyProof.Rows L2

section
variable {X : Cx} {c : Ct} {o a b e : Expr} {fo fa fb : Env → Store → R Vl} {apos pos p : Pos}
/-- the receiver is a text -/
theorem kPre_str {m : Mth} (hm : m ≠ .get) {σ : L2.St} {α β : Type} {rel' : Rn α β} {Q : β → Hp → Prop} {g : Gh} {H : Hp} {al : List Addr} {v : Vl} {x : V} {S : Store} {k : Vl → Store → R α} (rl : Rl c.G c.K g H al S) (q : RepL c.G c.K g H al v x) (out : Out c rel' σ g H al ((kPre m v S).bind k) Q) :
    ∃ z, x = .str z ∧ Out c rel' σ g H al (k v S) Q := by
  have main : ∀ u, rd S v = some u → (∃ z, u = .str z) → kPre m v S = .ok v S → ∃ z, x = .str z ∧ Out c rel' σ g H al (k v S) Q := fun u hu hz hk => by
    obtain ⟨z, rfl⟩ := hz
    rw [hk] at out
    exact ⟨z, rep_str (view_of rl q hu), out⟩
  unfold kPre at out
  split at out
  · exact absurd rfl hm
  · rename_i z e
    exact main _ e ⟨z, rfl⟩ (by unfold kPre; rw [e])
  · rename_i z e
    exact main _ e ⟨z, rfl⟩ (by unfold kPre; rw [e])
  · rename_i z e
    exact main _ e ⟨z, rfl⟩ (by unfold kPre; rw [e])
  · exact out.elim
theorem rds_one {S : Store} {v : Vl} {xs : List D} (h : rds S [v] = some xs) : ∃ u, xs = [u] ∧ rd S v = some u := by
  unfold rds at h
  cases e : rd S v with
  | none => rw [e] at h; cases h
  | some u =>
    rw [e] at h
    cases h
    exact ⟨u, rfl, rfl⟩
theorem rds_two {S : Store} {v w : Vl} {xs : List D} (h : rds S [v, w] = some xs) : ∃ u t, xs = [u, t] ∧ rd S v = some u ∧ rd S w = some t := by
  unfold rds at h
  cases e : rd S v with
  | none => rw [e] at h; cases h
  | some u =>
    rw [e] at h
    cases e2 : rds S [w] with
    | none => rw [e2] at h; cases h
    | some ys =>
      rw [e2] at h
      cases h
      obtain ⟨t, rfl, e3⟩ := rds_one e2
      exact ⟨u, t, rfl, rfl, e3⟩
theorem rdd_one {v : Vl} {xs : List D} (h : rdd [v] = some xs) : ∃ u, xs = [u] ∧ v = .d u := by
  cases v with
  | d u => cases h; exact ⟨u, rfl, rfl⟩
  | r n => cases h
  | x k q => cases h
theorem rdd_two {v w : Vl} {xs : List D} (h : rdd [v, w] = some xs) : ∃ u t, xs = [u, t] ∧ v = .d u ∧ w = .d t := by
  cases v with
  | r n => cases h
  | x k q => cases h
  | d u =>
    cases w with
    | r n => cases h
    | x k q => cases h
    | d t => cases h; exact ⟨u, t, rfl, rfl, rfl⟩
theorem se_join (hK : X.K = c.K) (ho : SE X c o fo) (ha : SE X c a fa) (hb : plainBase o = true) (hs : notStar a = true) (hl : (apos.endLine == pos.line) = true) : SE X c (.Call (.Attribute o "join" apos) [a] [] pos)
    (fun ρ S => ((fo ρ S).bind (kPre .join)).bind fun x S1 => ((fa ρ S1).bind fun y S2 => (R.ok [] S2).bind fun ys S3 => R.ok (y :: ys) S3).bind (kMth .join x)) := (pe_join ho ha (star_each hs) (base_ok hb) hl).imp fun σ H Q h => by
  obtain ⟨g, al, ρ, S, xa, rl, er, out⟩ := h
  simp only [R.bind_assoc] at out
  refine TQ.step (k := fun x S1 => (kPre .join x S1).bind fun x S1 => (fa ρ S1).bind fun y S2 => (R.ok [] S2).bind fun ys S3 => (R.ok (y :: ys) S3).bind (kMth .join x)) xa rl er out fun x H1 g1 al1 v S1 e1 p1 xa1 rl1 er1 q1 out1 => ?_
  obtain ⟨z, rfl, out1⟩ := kPre_str (by intro z; cases z) rl1 q1 out1
  refine ⟨⟨z, rfl⟩, ?_⟩
  refine TQ.step (k := fun y S2 => kMth .join v [y] S2) xa1 rl1 er1 out1 fun y H2 g2 al2 w S2 e2 p2 xa2 rl2 er2 q2 out2 => ?_
  unfold kMth at out2
  split at out2
  · rename_i u us eu eus
    obtain ⟨k, ek, out2⟩ := give_some out2
    rw [if_neg (by intro z; cases z)] at eus
    obtain ⟨t, rfl, ew⟩ := rds_one eus
    have vz := view_of rl2 (q1.mono e2 p2) eu
    have vy := view_of rl2 q2 ew
    cases u <;> simp only [mthD] at ek <;> try (cases ek; done)
    rename_i sp
    cases t <;> simp only at ek <;> try (cases ek; done)
    rename_i xs
    obtain ⟨ys, h1, h2⟩ := Option.bind_eq_some_iff.mp ek
    have hz := rep_str vz
    cases hz
    obtain ⟨pa, ws, rfl, h3, h4⟩ := lst_sq vy
    have hw := reps_strs h4 h1
    subst hw
    by_cases hle : (ys.map (·.length)).sum + z.length * ys.length ≤ BIG
    · rw [if_pos hle] at h2
      cases h2
      refine ⟨z, pa, ys, rfl, rfl, .inl (hK ▸ h3), ?_, out2.str rl2⟩
      rw [Nat.mul_comm ys.length]
      exact Nat.le_trans hle (by decide)
    · rw [if_neg hle] at h2; cases h2
  · exact out2.elim
theorem reps_strs2 {G : Gd} {K : PySem.W.Frag} {g : Gh} {H : Hp} : ∀ ys : List Str, Reps G K g H (ys.map SW.D.str) (ys.map V.str)
  | [] => by unfold Reps; rfl
  | y :: ys => by
    show Reps _ _ _ _ (.str y :: ys.map SW.D.str) (.str y :: ys.map V.str)
    unfold Reps
    exact ⟨_, _, rfl, by unfold Rep; rfl, reps_strs2 ys⟩
theorem se_split (ho : SE X c o fo) (ha : SE X c a fa) (hb : plainBase o = true) (hs : notStar a = true) (hl : (apos.endLine == pos.line) = true) : SE X c (.Call (.Attribute o "split" apos) [a] [] pos)
    (fun ρ S => ((fo ρ S).bind (kPre .split)).bind fun x S1 => ((fa ρ S1).bind fun y S2 => (R.ok [] S2).bind fun ys S3 => R.ok (y :: ys) S3).bind (kMth .split x)) := (pe_split ho ha (by rw [star_each hs]; rfl) (base_ok hb) hl).imp fun σ H Q h => by
  obtain ⟨g, al, ρ, S, xa, rl, er, out⟩ := h
  simp only [R.bind_assoc] at out
  refine TQ.step (k := fun x S1 => (kPre .split x S1).bind fun x S1 => (fa ρ S1).bind fun y S2 => (R.ok [] S2).bind fun ys S3 => (R.ok (y :: ys) S3).bind (kMth .split x)) xa rl er out fun x H1 g1 al1 v S1 e1 p1 xa1 rl1 er1 q1 out1 => ?_
  obtain ⟨z, rfl, out1⟩ := kPre_str (by intro z; cases z) rl1 q1 out1
  refine ⟨⟨z, rfl⟩, ?_⟩
  refine TQ.step (k := fun y S2 => kMth .split v [y] S2) xa1 rl1 er1 out1 fun y H2 g2 al2 w S2 e2 p2 xa2 rl2 er2 q2 out2 => ?_
  unfold kMth at out2
  split at out2
  · rename_i u us eu eus
    obtain ⟨k, ek, out2⟩ := give_some out2
    rw [if_neg (by intro z; cases z)] at eus
    obtain ⟨t, rfl, ew⟩ := rds_one eus
    have vz := view_of rl2 (q1.mono e2 p2) eu
    have vy := view_of rl2 q2 ew
    cases u <;> simp only [mthD] at ek <;> try (cases ek; done)
    rename_i sp
    cases t <;> simp only at ek <;> try (cases ek; done)
    rename_i t2
    have hz := rep_str vz
    cases hz
    have hy := rep_str vy
    cases hy
    split at ek
    · rename_i cp hcp
      by_cases hle : z.length ≤ BIG
      · rw [if_pos hle] at ek
        cases ek
        have h0 : (t2.length == 0) = false := by
          have : t2.length = 1 := by
            have := congrArg List.length hcp
            simpa [Str.length] using this
          rw [this]
          rfl
        refine ⟨z, t2, rfl, rfl, h0, Nat.le_trans (Nat.add_le_add_right hle 2) (by decide), ?_⟩
        exact Out.lst out2 rl2 (reps_strs2 _)
      · rw [if_neg hle] at ek; cases ek
    · cases ek
  · exact out2.elim
/-- the receiver is a dict -/
theorem kPre_dct {σ : L2.St} {α β : Type} {rel' : Rn α β} {Q : β → Hp → Prop} {g : Gh} {H : Hp} {al : List Addr} {v : Vl} {x : V} {S : Store} {k : Vl → Store → R α} (rl : Rl c.G c.K g H al S) (q : RepL c.G c.K g H al v x) (out : Out c rel' σ g H al ((kPre .get v S).bind k) Q) :
    ∃ a, x = .ref a ∧ IsD H a ∧ Out c rel' σ g H al (k v S) Q := by
  unfold kPre at out
  split at out
  · rename_i kvs e
    obtain ⟨a, vs, rfl, h1, h2⟩ := view_of rl q e
    exact ⟨a, rfl, .inr ⟨vs, h1⟩, out⟩
  all_goals first
    | exact out.elim
    | (rename_i h _; cases h)
    | (rename_i h; cases h)
theorem m1_ok (hb : plainBase o = true) (hs : notStar a = true) {name : Str} (hl : (apos.endLine == pos.line) = true) : M1 X o name apos a pos := ⟨base_ok hb, by rw [star_each hs]; rfl, hl, by rw [star_each hs]; rfl⟩
theorem m2_ok (hb : plainBase o = true) (hs : notStar a = true) (hs2 : notStar b = true) {name : Str} (hl : (apos.endLine == pos.line) = true) : M2 X o name apos a b pos := ⟨base_ok hb, by rw [star_each hs, star_each hs2]; rfl, hl, by rw [star_each hs, star_each hs2]; rfl⟩
theorem se_get1 (hu : X.A.units + 1 < cLine) (ho : SE X c o fo) (ha : SE X c a fa) (hb : plainBase o = true) (hs : notStar a = true) (hl : (apos.endLine == pos.line) = true) : SE X c (.Call (.Attribute o "get" apos) [a] [] pos)
    (fun ρ S => ((fo ρ S).bind (kPre .get)).bind fun x S1 => ((fa ρ S1).bind fun y S2 => (R.ok [] S2).bind fun ys S3 => R.ok (y :: ys) S3).bind (kMth .get x)) := (pe_dget1 hu ho ha (m1_ok hb hs hl)).imp fun σ H Q h => by
  obtain ⟨g, al, ρ, S, xa, rl, er, out⟩ := h
  simp only [R.bind_assoc] at out
  refine TQ.step (k := fun x S1 => (kPre .get x S1).bind fun x S1 => (fa ρ S1).bind fun y S2 => (R.ok [] S2).bind fun ys S3 => (R.ok (y :: ys) S3).bind (kMth .get x)) xa rl er out fun x H1 g1 al1 v S1 e1 p1 xa1 rl1 er1 q1 out1 => ?_
  obtain ⟨ad, rfl, hd, out1⟩ := kPre_dct rl1 q1 out1
  refine ⟨ad, rfl, hd, ?_⟩
  refine TQ.step (k := fun y S2 => kMth .get v [y] S2) xa1 rl1 er1 out1 fun y H2 g2 al2 w S2 e2 p2 xa2 rl2 er2 q2 out2 => ?_
  unfold kMth at out2
  split at out2
  · rename_i u us eu eus
    obtain ⟨k, ek, out2⟩ := give_some out2
    rw [if_pos rfl] at eus
    obtain ⟨t, rfl, rfl⟩ := rdd_one eus
    have vz := view_of rl2 (q1.mono e2 p2) eu
    have vy := Rep.view (show Rep c.G c.K g2 H2 t y from q2)
    cases u <;> simp only [mthD] at ek <;> try (cases ek)
    rename_i kvs
    obtain ⟨cc, h1, rfl⟩ := Option.map_eq_some_iff.mp ek
    obtain ⟨a2, vs, h2, h3, h4⟩ := vz
    cases h2
    obtain ⟨bb, rfl, h5⟩ := cell_key (view_cell vy h1) h1
    refine ⟨valV vs (keyC cc), dget_rd h3 h5, ?_⟩
    cases hl : look kvs cc with
    | none =>
      rw [repK_none h4 hl]
      rw [hl] at out2
      exact out2.non rl2
    | some d =>
      obtain ⟨dv, h6, h7⟩ := repK_some h4 hl
      rw [h6]
      rw [hl] at out2
      exact out2.data rl2 h7
  · exact out2.elim
theorem se_get2 (hu : X.A.units + 1 < cLine) (ho : SE X c o fo) (ha : SE X c a fa) (hb2 : SE X c b fb) (hb : plainBase o = true) (hs : notStar a = true) (hs2 : notStar b = true) (hl : (apos.endLine == pos.line) = true) : SE X c (.Call (.Attribute o "get" apos) [a, b] [] pos)
    (fun ρ S => ((fo ρ S).bind (kPre .get)).bind fun x S1 => ((fa ρ S1).bind fun y S2 => ((fb ρ S2).bind fun z S3 => (R.ok [] S3).bind fun ys S4 => R.ok (z :: ys) S4).bind fun ys S3 => R.ok (y :: ys) S3).bind (kMth .get x)) := (pe_dget2 hu ho ha hb2 (m2_ok hb hs hs2 hl)).imp fun σ H Q h => by
  obtain ⟨g, al, ρ, S, xa, rl, er, out⟩ := h
  simp only [R.bind_assoc] at out
  refine TQ.step (k := fun x S1 => (kPre .get x S1).bind fun x S1 => (fa ρ S1).bind fun y S2 => (fb ρ S2).bind fun z S3 => (R.ok [] S3).bind fun ys S4 => (R.ok (z :: ys) S4).bind fun ys S3 => (R.ok (y :: ys) S3).bind (kMth .get x)) xa rl er out fun x H1 g1 al1 v S1 e1 p1 xa1 rl1 er1 q1 out1 => ?_
  obtain ⟨ad, rfl, hd, out1⟩ := kPre_dct rl1 q1 out1
  refine ⟨ad, rfl, hd, ?_⟩
  refine TQ.step (k := fun y S2 => (fb ρ S2).bind fun z S3 => kMth .get v [y, z] S3) xa1 rl1 er1 out1 fun y H2 g2 al2 w S2 e2 p2 xa2 rl2 er2 q2 out2 => ?_
  refine TQ.step (k := fun z S3 => kMth .get v [w, z] S3) xa2 rl2 er2 out2 fun z H3 g3 al3 w3 S3 e3 p3 xa3 rl3 er3 q3 out3 => ?_
  unfold kMth at out3
  split at out3
  · rename_i u us eu eus
    obtain ⟨k, ek, out3⟩ := give_some out3
    rw [if_pos rfl] at eus
    obtain ⟨t, t2, rfl, rfl, rfl⟩ := rdd_two eus
    have vz := view_of rl3 ((q1.mono e2 p2).mono e3 p3) eu
    have vy := Rep.view (show Rep c.G c.K g3 H3 t y from q2.mono e3 p3)
    have vw : Rep c.G c.K g3 H3 t2 z := q3
    cases u <;> simp only [mthD] at ek <;> try (cases ek)
    rename_i kvs
    obtain ⟨cc, h1, rfl⟩ := Option.map_eq_some_iff.mp ek
    obtain ⟨a2, vs, h2, h3, h4⟩ := vz
    cases h2
    obtain ⟨bb, rfl, h5⟩ := cell_key (view_cell vy h1) h1
    refine ⟨valV vs (keyC cc), dget_rd h3 h5, ?_⟩
    cases hl : look kvs cc with
    | none =>
      rw [repK_none h4 hl]
      rw [hl] at out3
      exact out3.data rl3 vw
    | some d =>
      obtain ⟨dv, h6, h7⟩ := repK_some h4 hl
      rw [h6]
      rw [hl] at out3
      exact out3.data rl3 h7
  · exact out3.elim
end
/-! ### sorted -/
theorem perm_eq {α : Type} {le : α → α → Prop} (anti : ∀ a b, le a b → le b a → a = b) : ∀ {l1 l2 : List α}, l1.Perm l2 → l1.Pairwise le → l2.Pairwise le → l1 = l2
  | [], l2, h, _, _ => (List.nil_perm.mp h).symm
  | a :: l1, [], h, _, _ => by have := h.length_eq; simp at this
  | a :: l1, b :: l2, h, h1, h2 => by
    have e : a = b := by
      have ha : a ∈ b :: l2 := h.mem_iff.mp List.mem_cons_self
      have hb : b ∈ a :: l1 := h.mem_iff.mpr List.mem_cons_self
      rcases List.mem_cons.mp ha with e | ha
      · exact e
      · rcases List.mem_cons.mp hb with e | hb
        · exact e.symm
        · exact anti a b ((List.pairwise_cons.mp h1).1 b hb) ((List.pairwise_cons.mp h2).1 a ha)
    subst e
    rw [perm_eq anti h.cons_inv (List.pairwise_cons.mp h1).2 (List.pairwise_cons.mp h2).2]
theorem insertBy_perm {α : Type} (le : α → α → Bool) (x : α) : ∀ l : List α, (insertBy le x l).Perm (x :: l)
  | [] => .refl _
  | y :: r => by
    unfold insertBy
    split
    · exact .refl _
    · exact ((insertBy_perm le x r).cons y).trans (.swap x y r)
theorem sortBy_perm {α : Type} (le : α → α → Bool) : ∀ l : List α, (sortBy le l).Perm l
  | [] => .refl _
  | x :: r => (insertBy_perm le x (sortBy le r)).trans ((sortBy_perm le r).cons x)
theorem insertBy_sorted {α : Type} (le : α → α → Bool) (tr : ∀ a b c, le a b = true → le b c = true → le a c = true) (tot : ∀ a b, le a b = true ∨ le b a = true) (x : α) : ∀ l : List α, l.Pairwise (fun a b => le a b = true) → (insertBy le x l).Pairwise (fun a b => le a b = true)
  | [], _ => by simp [insertBy]
  | y :: r, h => by
    obtain ⟨h1, h2⟩ := List.pairwise_cons.mp h
    unfold insertBy
    split
    · rename_i hxy
      refine List.pairwise_cons.mpr ⟨fun z hz => ?_, h⟩
      rcases List.mem_cons.mp hz with rfl | hz
      · exact hxy
      · exact tr _ _ _ hxy (h1 z hz)
    · rename_i hxy
      refine List.pairwise_cons.mpr ⟨fun z hz => ?_, insertBy_sorted le tr tot x r h2⟩
      rcases List.mem_cons.mp ((insertBy_perm le x r).mem_iff.mp hz) with rfl | hz
      · exact (tot z y).resolve_left hxy
      · exact h1 z hz
theorem sortBy_sorted {α : Type} (le : α → α → Bool) (tr : ∀ a b c, le a b = true → le b c = true → le a c = true) (tot : ∀ a b, le a b = true ∨ le b a = true) : ∀ l : List α, (sortBy le l).Pairwise (fun a b => le a b = true)
  | [] => .nil
  | x :: r => insertBy_sorted le tr tot x _ (sortBy_sorted le tr tot r)
end SW

-- SwS
set_option Elab.async false
set_option linter.all false
set_option maxRecDepth 100000
set_option maxHeartbeats 4000000
set_option autoImplicit false
/-! SwS: sorted(..) of a list of cells -/
namespace SW
open PySem PySem.Spec PyProof.Rows L2
theorem cellLe_iff (a b : Cell) : cellLe a b = true ↔ (a.1 < b.1 ∨ (a.1 = b.1 ∧ a.2 ≤ b.2)) := by
  unfold cellLe
  rw [Bool.or_eq_true, Bool.and_eq_true, decide_eq_true_eq, decide_eq_true_eq, decide_eq_true_eq]
theorem cellLe_tr (a b c : Cell) (h1 : cellLe a b = true) (h2 : cellLe b c = true) : cellLe a c = true := by
  rw [cellLe_iff] at *
  omega
theorem cellLe_tot (a b : Cell) : cellLe a b = true ∨ cellLe b a = true := by
  rw [cellLe_iff, cellLe_iff]
  omega
theorem cellLe_anti (a b : Cell) (h1 : cellLe a b = true) (h2 : cellLe b a = true) : a = b := by
  rw [cellLe_iff] at *
  have e1 : a.1 = b.1 := by omega
  have e2 : a.2 = b.2 := by omega
  exact Prod.ext e1 e2
def encC (k : Cell) : PyData := .tuple [.int k.1, .int k.2]
theorem dataLe_cell : PySem.W.dataLe false encC = cellLe := by
  have h := PySem.W.dataLe_ii (β := Cell) (fun b => b.1) (fun b => b.2)
  have e : PySem.W.dataLe false encC = fun p q => decide (p.1 < q.1 ∨ (p.1 = q.1 ∧ p.2 ≤ q.2)) := h
  rw [e]
  funext p q
  unfold cellLe
  rw [← Bool.decide_and, ← Bool.decide_or]
theorem mergeSort_cells (cs : List Cell) : cs.mergeSort (PySem.W.dataLe false encC) = sortBy cellLe cs := by
  rw [dataLe_cell]
  refine perm_eq (le := fun a b => cellLe a b = true) cellLe_anti ((List.mergeSort_perm cs cellLe).trans (sortBy_perm cellLe cs).symm) ?_ (sortBy_sorted cellLe cellLe_tr cellLe_tot cs)
  exact List.pairwise_mergeSort (le := cellLe) cellLe_tr (fun a b => by
    rcases cellLe_tot a b with h | h
    · rw [h]; rfl
    · rw [h, Bool.or_true]) cs
section
variable {G : Gd} {K : PySem.W.Frag} {g : Gh} {H : Hp}
theorem cells_each {R : Value → Cell → Prop} : ∀ {xs : List D} {ws : List V} {us : List Value} {cs : List Cell}, Reps G K g H xs ws → cellsOf xs = some cs → Vals ws us → (∀ k w u, Rep G K g H (cellD k) w → RelV w u → R u k) → PySem.W.EachIs R us cs
  | [], _, _, _, h, e, r, f => by
    unfold Reps at h
    subst h
    cases e
    cases r
    exact .nil
  | x :: xs, _, _, _, h, e, r, f => by
    unfold Reps at h
    obtain ⟨w, ws, rfl, h1, h2⟩ := h
    unfold cellsOf at e
    cases e1 : cellOf x with
    | none => rw [e1] at e; cases e
    | some k =>
      cases e2 : cellsOf xs with
      | none => rw [e1, e2] at e; cases e
      | some ks =>
        rw [e1, e2] at e
        cases e
        cases r with
        | cons ru rr =>
          have ex := cell_eq e1
          subst ex
          exact .cons (f k _ _ h1 ru) (cells_each h2 e2 rr f)
theorem each_cells : ∀ {us : List Value} {cs : List Cell}, PySem.W.EachIs (fun u k => ∃ w, RelV w u ∧ Rep G K g H (cellD k) w) us cs → ∃ ws, Vals ws us ∧ Reps G K g H (cs.map cellD) ws
  | _, _, .nil => ⟨[], .nil, by unfold Reps; rfl⟩
  | _, _, .cons h t => by
    obtain ⟨w, h1, h2⟩ := h
    obtain ⟨ws, h3, h4⟩ := each_cells t
    refine ⟨w :: ws, .cons h1 h3, ?_⟩
    rw [List.map_cons]
    unfold Reps
    exact ⟨w, ws, rfl, h2, h4⟩
theorem cellsOf_length : ∀ {xs : List D} {cs : List Cell}, cellsOf xs = some cs → cs.length = xs.length
  | [], _, e => by cases e; rfl
  | x :: xs, _, e => by
    unfold cellsOf at e
    cases e1 : cellOf x with
    | none => rw [e1] at e; cases e
    | some k =>
      cases e2 : cellsOf xs with
      | none => rw [e1, e2] at e; cases e
      | some ks =>
        rw [e1, e2] at e
        cases e
        rw [List.length_cons, List.length_cons, cellsOf_length e2]
end
section
variable {X : Cx} {c : Ct}
theorem cr_blt_sorted (hK : X.K = c.K) (hu : X.A.units + 10 < cLine) : CallR X (.builtin "sorted") (rBlt c (bltD .sorted)) := by
  intro pins s σ H xs us Q I r h
  obtain ⟨σ', g, al, S, ds, xa, rl, vs, out⟩ := h
  obtain ⟨k, e, out⟩ := give_some out
  match ds, e with
  | [.lst ys], e =>
    obtain ⟨x, rfl, vx⟩ := vs.one
    obtain ⟨a, ws, rfl, h1, h2⟩ := lst_sq vx
    obtain ⟨cs, e1, rfl⟩ := Option.map_eq_some_iff.mp e
    obtain ⟨its, rv, hl, hz⟩ := I.list (hK ▸ h1)
    rw [Vals.ref1 r]
    have hlen : cs.length = ws.length := (cellsOf_length e1).trans (reps_length h2)
    have rd : ∀ (k : Cell) (w : V) (u : Value), Rep c.G c.K g H (cellD k) w → RelV w u → ∃ as, Reads s.heap u (encC k) as := fun k w u q ru => by
      have d := dp_cell (k := k) (Rep.view q) (by unfold cellD cellOf; rfl)
      rw [← hK] at d
      exact Dp.reads I _ w u d ru
    refine PySem.W.sorted_data (bs := cs) (enc := encC) (R := fun u k => ∃ w, RelV w u ∧ Rep c.G c.K g H (cellD k) w) hl.isList (cells_each h2 e1 rv fun k w u q ru => ⟨w, ru, q⟩) (cells_each h2 e1 rv rd)
      (PySem.W.AllAlike.of fun b b' => alike_cells b b') (PySem.W.Sortable.tuples fun b => ⟨_, _, rfl⟩) (by rw [hlen]; exact hz) (fun b _ => by have : (encC b).depth ≤ 2 := depth_cell b; omega) fun out' ho eo => ?_
    rw [mergeSort_cells] at eo
    obtain ⟨ws', h3, h4⟩ := each_cells eo
    obtain ⟨ep, he'⟩ := PyProof.Rows.sortedAll_at s.heap its out'.toArray
    have hlen2 : ws'.length ≤ sizeLine := by rw [← reps_length h4, List.length_map, (sortBy_perm cellLe cs).length_eq, hlen]; exact hz
    have q := Out.lst out rl h4 (s.heap.objs.size + 1) (I.hok.fresh (Nat.le_succ _))
    exact ⟨.ref _, upd H (s.heap.objs.size + 1) (.lst ws'), I.laid (t' := s.toks) (fun _ _ => PyProof.Rows.sortedAll_old) (Nat.le_succ _) ⟨hlen2, out', ep, h3, by simpa using he'⟩, rfl, q⟩
end
end SW

-- SwTp
set_option Elab.async false
set_option linter.all false
set_option maxRecDepth 100000
set_option maxHeartbeats 4000000
set_option autoImplicit false
/-! SwTp: tuples that are known to have no dict of their own; dict(tuple of pairs) -/
namespace SW
open PySem PySem.Spec PyProof.Rows L2
section
variable {X : Cx}
/-- the items are pairs: a key (a tuple) and a value -/
inductive Prs (H : Hp) : List V → List (List Key × V) → Prop
  | nil : Prs H [] []
  | cons {T b : Addr} {ks : List Key} {v : V} {xs : List V} {kvs : List (List Key × V)} (h1 : H T = some (.tup [.ref b, v])) (h2 : H b = some (.tup (ks.map kV))) (t : Prs H xs kvs) : Prs H (.ref T :: xs) ((ks, v) :: kvs)
theorem prs_vals {pins : List (Addr × Obj)} {s : Shared} {σ : L2.St} {H : Hp} (I : Inv X pins σ H s) : ∀ {xs : List V} {kvs : List (List Key × V)} {its : List Value}, Prs H xs kvs → Vals xs its →
    ∃ (Ts : List Addr) (ps : List (List Key × Addr × Value)), its = Ts.map Value.ref ∧ Ts.length = ps.length ∧ KT H kvs ps ∧ ∀ (j : Nat) (T : Addr) (p : List Key × Addr × Value), Ts[j]? = some T → ps[j]? = some p → s.heap.IsTuple T #[.ref p.2.1, p.2.2] := by
  intro xs kvs its h r
  induction h generalizing its with
  | nil =>
    cases r
    exact ⟨[], [], rfl, rfl, .nil, fun j T p e => by simp at e⟩
  | @cons T b ks v xs kvs h1 h2 t ih =>
    cases r with
    | @cons x u xs us r1 r2 =>
      obtain ⟨Ts, ps, e1, e2, e3, e4⟩ := ih r2
      cases (show u = Value.ref T from r1)
      obtain ⟨_, its2, rv, tt⟩ := (show ObjOk X.prog X.w H s.heap T (.tup [.ref b, v]) from I.hok T _ h1)
      cases rv with
      | @cons _ u1 _ us1 q1 q2 =>
        cases q2 with
        | @cons _ u2 _ us2 q3 q4 =>
          cases q4
          cases (show u1 = Value.ref b from q1)
          refine ⟨T :: Ts, (ks, b, u2) :: ps, by rw [List.map_cons, e1], by rw [List.length_cons, List.length_cons, e2], .cons ⟨rfl, h2, q3⟩ e3, fun j T' p ej ep => ?_⟩
          cases j with
          | zero =>
            simp only [List.getElem?_cons_zero, Option.some.injEq] at ej ep
            subst ej ep
            exact tt
          | succ j =>
            simp only [List.getElem?_cons_succ] at ej ep
            exact e4 j T' p ej ep
theorem kt_keys {H : Hp} {kvs : List (List Key × V)} {ps : List (List Key × Addr × Value)} (r : KT H kvs ps) : ps.map (·.1) = kvs.map (·.1) := by
  induction r with
  | nil => rfl
  | @cons p q ps qs h t ih => rw [List.map_cons, List.map_cons, ih, h.1]
/-- dict(a tuple of pairs), the keys not alike -/
theorem call_dict_tup (hc : X.calm = true) (hu : X.A.units + 10 < cLine) : CallR X (.type "dict") (fun xs H Q => ∃ p o vs kvs, xs = [.ref p] ∧ H p = some (.frz o (.tup vs)) ∧ o.dict = none ∧ Prs H vs kvs ∧ (kvs.map (·.1)).Nodup ∧ ∀ l, H l = none → Q (.ref l) (upd H l (.dT kvs))) := by
  intro pins s σ H xs us Q I r h
  obtain ⟨p, o, vs, kvs, rfl, hp, hod, hpr, hn, q⟩ := h
  rw [Vals.ref1 r]
  obtain ⟨ho, hz, its, rv, o', ho', hcl, n, hdt⟩ := (show ObjOk X.prog X.w H s.heap p (.frz o (.tup vs)) from I.hok p _ hp)
  rw [ho] at ho'
  cases ho'
  obtain ⟨Ts, ps, rfl, hl, kt, hT⟩ := prs_vals I hpr rv
  have hk := kt_keys kt
  have hlen : vs.length = ps.length := by rw [rv.length, List.length_map, hl]
  have P := PairArg.tuple (prog := X.prog) (w := X.w) p (Ts.map Value.ref).toArray (fun j => Ts.getD j 0) (ps.map fun x => (Value.ref x.2.1, x.2.2))
  have isk : ∀ x ∈ ps, ∃ ks, x.1 = ks ∧ H x.2.1 = some (.tup (ks.map kV)) := by
    have : ∀ {l : List (List Key × V)} {m : List (List Key × Addr × Value)}, KT H l m → ∀ x ∈ m, ∃ ks, x.1 = ks ∧ H x.2.1 = some (.tup (ks.map kV)) := by
      intro l m k
      induction k with
      | nil => intro x hx; cases hx
      | @cons p q ps qs h t ih =>
        intro x hx
        rcases List.mem_cons.mp hx with rfl | hx
        · exact ⟨_, rfl, h.1 ▸ h.2.1⟩
        · exact ih x hx
    exact this kt
  refine call_dict_pairsH (knd := tupleKind (mixKind X.prog X.w)) (ps := ps) P (I.ok.hd hc) (show X.A.units + 1 + 1 < cLine by omega) ⟨⟨o, n, ho, hcl, hod, hdt⟩, by simp [hl], fun j k v e => ?_⟩ ⟨by simp, fun j key v e => ?_⟩ (fun h' kp x hx => ?_) (by simp; omega) fun h' tk hd kp => ?_
  · rw [List.getElem?_map] at e
    cases e2 : ps[j]? with
    | none => rw [e2] at e; cases e
    | some x =>
      rw [e2] at e
      cases e
      have hj : j < Ts.length := by
        have := (List.getElem?_eq_some_iff.mp e2).1
        omega
      have e3 : Ts[j]? = some (Ts.getD j 0) := by rw [List.getD_eq_getElem?_getD, List.getElem?_eq_getElem hj]; rfl
      refine ⟨?_, .inl (hT j _ x e3 e2)⟩
      rw [List.getElem?_toArray, List.getElem?_map, e3]
      rfl
  · have e : (ps.map fun x => (Value.ref x.2.1, x.2.2))[j]? = some (key, v) := e
    rw [List.getElem?_map] at e
    cases e2 : ps[j]? with
    | none => rw [e2] at e; cases e
    | some x =>
      rw [e2] at e
      cases e
      exact ⟨x.1, x.2.1, rfl, rfl⟩
  · obtain ⟨ks, e1, e2⟩ := isk x hx
    obtain ⟨ob, its, n, q1, q2, q3, q4⟩ := key_of I.hok e2
    subst e1
    have hne : x.2.1 ≠ s.heap.objs.size := Nat.ne_of_lt (Heap.lt_size q1)
    exact ⟨ob, its, n, kp _ _ hne (by simp) q1, q2, q3, q4⟩
  · have hnd : (ps.map (·.1)).Nodup := by rw [hk]; exact hn
    rw [storedAllH_nil_of_nodup ps hnd] at hd
    obtain ⟨ob, es, ep, q1, q2, q3, q4, q5, q6⟩ := hd
    have hf := I.hok.fresh (Nat.le_refl s.heap.objs.size)
    have hkl : kvs.length ≤ sizeLine := by
      have := congrArg List.length hk
      rw [List.length_map, List.length_map] at this
      omega
    refine ⟨.ref _, upd H s.heap.objs.size (.dT kvs), I.laid (t' := tk) (fun b o e => kp b o (by simp) e) (Nat.le_refl _) ⟨hkl, beq_eq_false_iff_ne.mpr (Nat.ne_of_gt I.big), ps, KT.keeps kt fun b ys hb => ?_, ob, es, ep, q1, q2, q3, q4, q6⟩, rfl, q _ hf⟩
    rw [upd_ne (fun z => by rw [z, hf] at hb; cases hb)]
    exact hb
/-- dict(a list of pairs), the keys not alike -/
theorem call_dict_lst (hc : X.calm = true) (hu : X.A.units + 10 < cLine) : CallR X (.type "dict") (fun xs H Q => ∃ p vs kvs, xs = [.ref p] ∧ SqL X.K H p vs ∧ Prs H vs kvs ∧ (kvs.map (·.1)).Nodup ∧ ∀ l, H l = none → Q (.ref l) (upd H l (.dT kvs))) := by
  intro pins s σ H xs us Q I r h
  obtain ⟨p, vs, kvs, rfl, hp, hpr, hn, q⟩ := h
  rw [Vals.ref1 r]
  obtain ⟨its, rv, pl, hz⟩ := I.list hp
  obtain ⟨Ts, ps, rfl, hl, kt, hT⟩ := prs_vals I hpr rv
  have hk := kt_keys kt
  have hlen : vs.length = ps.length := by rw [rv.length, List.length_map, hl]
  have P := PairArg.list (prog := X.prog) (w := X.w) p (Ts.map Value.ref).toArray (fun j => Ts.getD j 0) (ps.map fun x => (Value.ref x.2.1, x.2.2))
  have isk : ∀ x ∈ ps, ∃ ks, x.1 = ks ∧ H x.2.1 = some (.tup (ks.map kV)) := by
    have : ∀ {l : List (List Key × V)} {m : List (List Key × Addr × Value)}, KT H l m → ∀ x ∈ m, ∃ ks, x.1 = ks ∧ H x.2.1 = some (.tup (ks.map kV)) := by
      intro l m k
      induction k with
      | nil => intro x hx; cases hx
      | @cons p q ps qs h t ih =>
        intro x hx
        rcases List.mem_cons.mp hx with rfl | hx
        · exact ⟨_, rfl, h.1 ▸ h.2.1⟩
        · exact ih x hx
    exact this kt
  refine call_dict_pairsH (knd := tupleKind (mixKind X.prog X.w)) (ps := ps) P (I.ok.hd hc) (show X.A.units + 1 + 1 < cLine by omega) ⟨pl, by simp [hl], fun j k v e => ?_⟩ ⟨by simp, fun j key v e => ?_⟩ (fun h' kp x hx => ?_) (by simp; omega) fun h' tk hd kp => ?_
  · rw [List.getElem?_map] at e
    cases e2 : ps[j]? with
    | none => rw [e2] at e; cases e
    | some x =>
      rw [e2] at e
      cases e
      have hj : j < Ts.length := by
        have := (List.getElem?_eq_some_iff.mp e2).1
        omega
      have e3 : Ts[j]? = some (Ts.getD j 0) := by rw [List.getD_eq_getElem?_getD, List.getElem?_eq_getElem hj]; rfl
      refine ⟨?_, .inl (hT j _ x e3 e2)⟩
      rw [List.getElem?_toArray, List.getElem?_map, e3]
      rfl
  · have e : (ps.map fun x => (Value.ref x.2.1, x.2.2))[j]? = some (key, v) := e
    rw [List.getElem?_map] at e
    cases e2 : ps[j]? with
    | none => rw [e2] at e; cases e
    | some x =>
      rw [e2] at e
      cases e
      exact ⟨x.1, x.2.1, rfl, rfl⟩
  · obtain ⟨ks, e1, e2⟩ := isk x hx
    obtain ⟨ob, its, n, q1, q2, q3, q4⟩ := key_of I.hok e2
    subst e1
    have hne : x.2.1 ≠ s.heap.objs.size := Nat.ne_of_lt (Heap.lt_size q1)
    exact ⟨ob, its, n, kp _ _ hne (by simp) q1, q2, q3, q4⟩
  · have hnd : (ps.map (·.1)).Nodup := by rw [hk]; exact hn
    rw [storedAllH_nil_of_nodup ps hnd] at hd
    obtain ⟨ob, es, ep, q1, q2, q3, q4, q5, q6⟩ := hd
    have hf := I.hok.fresh (Nat.le_refl s.heap.objs.size)
    have hkl : kvs.length ≤ sizeLine := by
      have := congrArg List.length hk
      rw [List.length_map, List.length_map] at this
      omega
    refine ⟨.ref _, upd H s.heap.objs.size (.dT kvs), I.laid (t' := tk) (fun b o e => kp b o (by simp) e) (Nat.le_refl _) ⟨hkl, beq_eq_false_iff_ne.mpr (Nat.ne_of_gt I.big), ps, KT.keeps kt fun b ys hb => ?_, ob, es, ep, q1, q2, q3, q4, q6⟩, rfl, q _ hf⟩
    rw [upd_ne (fun z => by rw [z, hf] at hb; cases hb)]
    exact hb
end
section
variable {G : Gd} {K : PySem.W.Frag} {g : Gh} {H : Hp}
theorem cell_notPair {k : D} {c : Cell} (e : cellOf k = some c) : isPair k = false := by
  unfold cellOf at e
  split at e
  · rfl
  · cases e
theorem pairs_isP : ∀ {ys : List D} {kvs : List (Cell × D)}, pairsOf ys = some kvs → isP ys = true
  | [], _, _ => rfl
  | y :: r, kvs, e => by
    unfold pairsOf at e
    split at e
    · cases e; contradiction
    · rename_i k v r' hy
      injection hy with h1 h2
      subst h1 h2
      split at e
      · rename_i c kv' e1 e2
        unfold isP
        rw [List.all_cons]
        have : isPair (.tup [k, v]) = true := by
          show (cellOf k).isSome = true
          rw [e1]
          rfl
        rw [this, Bool.true_and]
        exact pairs_isP e2
      · cases e
    · cases e
theorem prs_reps : ∀ {ys : List D} {ws : List V} {kvs : List (Cell × D)}, Reps G K g H ys ws → pairsOf ys = some kvs → ∃ kvs', Prs H ws kvs' ∧ RepK G K g H kvs kvs' ∧ kvs'.map (·.1) = kvs.map fun kv => keyC kv.1
  | [], _, kvs, h, e => by
    unfold Reps at h
    subst h
    unfold pairsOf at e
    cases e
    exact ⟨[], .nil, by unfold RepK; rfl, rfl⟩
  | y :: r, _, kvs, h, e => by
    unfold pairsOf at e
    split at e
    · contradiction
    · rename_i k v r' hy
      injection hy with h1 h2
      subst h1 h2
      split at e
      · rename_i c kv' e1 e2
        cases e
        unfold Reps at h
        obtain ⟨w, ws, rfl, q1, q2⟩ := h
        obtain ⟨kvs', p1, p2, p3⟩ := prs_reps q2 e2
        unfold Rep at q1
        obtain ⟨T, us, rfl, t1, t2⟩ := q1
        have hf : isP [k, v] = false := by
          unfold isP
          rw [List.all_cons, cell_notPair e1, Bool.false_and]
        rw [hf] at t1
        unfold Reps at t2
        obtain ⟨wk, us, rfl, t3, t2⟩ := t2
        unfold Reps at t2
        obtain ⟨wv, us, rfl, t4, t2⟩ := t2
        unfold Reps at t2
        subst t2
        obtain ⟨b, rfl, hb⟩ := cell_key t3 e1
        refine ⟨(keyC c, wv) :: kvs', .cons t1 hb p1, ?_, by rw [List.map_cons, List.map_cons, p3]⟩
        unfold RepK
        exact ⟨wv, kvs', rfl, t4, p2⟩
      · cases e
    · cases e
end
end SW

-- SwSa
set_option Elab.async false
set_option linter.all false
set_option maxRecDepth 100000
set_option maxHeartbeats 4000000
set_option autoImplicit false
/-! SwSa: dicts: keys, copies, one pair -/
namespace SW
open PySem PySem.Spec PyProof.Rows L2
section
variable {G : Gd} {K : PySem.W.Frag} {g : Gh} {H : Hp}
theorem keys_reps : ∀ {kvs : List (Cell × D)} {vs : List (List Key × V)} {bs : List Addr}, RepK G K g H kvs vs → IsKeys H vs bs → Reps G K g H (kvs.map fun kv => cellD kv.1) (bs.map V.ref)
  | [], _, _, h, k => by
    unfold RepK at h
    subst h
    cases k
    unfold Reps
    rfl
  | (c, x) :: kvs, _, _, h, k => by
    unfold RepK at h
    obtain ⟨v, r, rfl, h1, h2⟩ := h
    cases k with
    | @cons p b ps bs hb t =>
      rw [List.map_cons, List.map_cons]
      unfold Reps
      refine ⟨.ref b, _, rfl, ?_, keys_reps h2 t⟩
      unfold cellD Rep
      refine ⟨b, [.int c.1, .int c.2], rfl, hb, ?_⟩
      unfold Reps
      refine ⟨_, _, rfl, by unfold Rep; rfl, ?_⟩
      unfold Reps
      refine ⟨_, _, rfl, by unfold Rep; rfl, ?_⟩
      unfold Reps
      rfl
end
section
variable {prog : Program} {w : World} {K : Type} [DecidableEq K] {knd : HeapKind prog w K} {A : Around} {E : Value → Shared → Prop} {s : Shared}
/-- dict(d): a copy, whose keys are objects -/
theorem call_dict_copy {src : Addr} {more : List (K × Addr × Value)} {Q : Value → Shared → Prop} (room : knd.room A.in1.in1) (notSys : (src == sysModules) = false) (hsrc : s.heap.DictOfH knd src more)
    (apart : (∀ x ∈ more, s.TypeIs (.ref x.2.1) "tuple") ∧ (more.map fun x => knd.hash x.1).Nodup) (fits : more.length ≤ sizeLine) (stays : ∀ h' : Heap, (∀ b o, s.heap.get? b = some o → h'.get? b = some o) → ∀ x ∈ more, knd.is h' x.1 x.2.1)
    (done : ∀ h', h'.DictOfH knd s.heap.objs.size more → (∀ b o, s.heap.get? b = some o → h'.get? b = some o) → Q (.ref s.heap.objs.size) { s with heap := h' }) : wpAny (model prog w) A (call (.type "dict") [.ref src]) Q E s := by
  have nodup : (more.map (·.1)).Nodup := hsrc.nodup
  refine callType_codes (Q₁ := fun made s1 => made = .ref s.heap.objs.size ∧ s1 = { s with heap := s.heap.push { cls := .type "dict", data := .dict #[] } }) PySem.F.kt_called_dict (PySem.F.kt_typeCall_dict_1 _) PySem.F.entry_dict_init (kt_code_dict_new _ ⟨rfl, rfl⟩) ?_
  rintro made s1 ⟨rfl, rfl⟩
  have ty : Shared.TypeIs { s with heap := s.heap.push { cls := .type "dict", data := .dict #[] } } (.ref s.heap.objs.size) "dict" := ⟨_, Heap.get?_push_size _ rfl, rfl⟩
  refine ⟨ty, PySem.F.args_dict_init_2 _ _, ?_⟩
  unfold Builtin.«dict.__init__»
  refine wpAny_bind ?_
  unfold Builtin.Dict.selfAndRest
  refine wpAny_bind (wpAny_notOrdered_dict ty ?_)
  show wpAny _ _ (pure (s.heap.objs.size, [Value.ref src])) _ _ _
  refine wpAny_pure ?_
  have kp : ∀ b o, s.heap.get? b = some o → (s.heap.push { cls := .type "dict", data := .dict #[] }).get? b = some o := fun b o e => Heap.get?_push_of_some _ e
  have ne : s.heap.objs.size ≠ src := (Nat.ne_of_lt hsrc.lt_size).symm
  refine updateFrom_dictH (A := A.in1) (knd := knd) (kvs := []) .none room ne notSys (Heap.DictOfH.new s.heap) (hsrc.at' (fun o e => kp _ o e) (stays _ kp)) (.inr ⟨fun x hx => ?_, apart.2⟩) (by simpa using fits) fun h' hd' ho' sb => ?_
  · obtain ⟨o, e1, e2⟩ := apart.1 x hx
    exact ⟨o, kp _ _ e1, e2⟩
  · rw [storedAllH_nil_of_nodup more nodup] at hd'
    exact ⟨rfl, done h' hd' fun b o e => (sb.2 b (Nat.ne_of_lt (Heap.lt_size e))).trans (kp b o e)⟩
end
/-! ### {k: v} -/
section
variable {prog : Program} {w : World} {K : Type} [DecidableEq K] {knd : HeapKind prog w K} {A : Around} {E : Value → Shared → Prop} {s : Shared}
theorem disp_heap {env : PySem.Env} {keys : List (Option Expr)} {values : List Expr} {pos : Pos} {pairs : List (Sem Value × Sem Value)} {Q : Value → Shared → Prop} (room : knd.room A)
    (shape : (evalEachOpt keys env).zip ((evalEach values env).map fun v => do let x ← v; standAt pos; pure x) = pairs.map fun p => (some p.1, p.2)) (some_ : pairs ≠ []) (few : pairs.length ≤ 15)
    (run : wpAny (model prog w) A (evalPairs pairs) (fun vs s1 => ∃ ps, CarriesH knd s1.heap vs ps ∧ s1.heap.DictOfH knd s.heap.objs.size [] ∧
      ∀ h' tk, h'.DictOfH knd s.heap.objs.size (storedAllH [] ps) → Heap.SameBut s.heap.objs.size s1.heap h' → Q (.ref s.heap.objs.size) { s1 with heap := h', toks := tk }) E
      { s with heap := s.heap.push { cls := .type "dict", data := .dict #[] } }) :
    wpAny (model prog w) A (eval (.Dict keys values pos) env) Q E s := by
  rw [arm_eval_Dict, shape, dictDisplay_pairs pairs some_ (by omega)]
  refine wpAny_bind (wpAny_standAt (wpAny_bind ?_))
  refine wpAny_subDictH (knd := knd) (Q := fun d s' => wpAny (model prog w) A (pure (Value.ref d)) Q E s') room few (wpAny_mono run (fun vs s1 z => ?_) fun _ _ e => e)
  obtain ⟨ps, z1, z2, z3⟩ := z
  exact ⟨ps, z1, z2, fun h' tk q1 q2 => wpAny_pure (z3 h' tk q1 q2)⟩
end
/-- a value that is found, and nothing else happens -/
abbrev SV (X : Cx) (e : Expr) (R : L2.St → Hp → V → Prop) : Prop := PE X e fun σ H Q => ∃ v, R σ H v ∧ Q v H
section
variable {X : Cx} {pos : Pos}
theorem sv_int {i : Int} {j : Nat} : SV X (.Constant (.int i) j pos) fun _ _ v => v = .int i := pe_int.imp fun σ H Q h => by
  obtain ⟨v, rfl, h⟩ := h
  exact h
theorem sv_var {i : Nat} {x : Str} (hN : X.N[i]? = some x) (hv : Vis X.env.scope x) (hd : (x == ("__debug__" : Str)) = false) (hcd : (x == ("__classdict__" : Str)) = false) : SV X (.Name x pos) fun σ _ v => σ[i]? = some (some v) := (pe_var hN hv hd hcd).imp fun σ H Q h => h
theorem sv_get {o i : Expr} {Ro Ri : L2.St → Hp → V → Prop} (hu : X.A.units + 1 < cLine) (ho : SV X o Ro) (hi : SV X i Ri) (hs : NoSl i) : SV X (.Subscript o i pos) fun σ H v => ∃ a y, Ro σ H (.ref a) ∧ Ri σ H y ∧ DGet H a y (some v) := (pe_dget hu ho hi hs).imp fun σ H Q h => by
  obtain ⟨v, ⟨a, y, h1, h2, h3⟩, h4⟩ := h
  exact ⟨.ref a, h1, y, h2, a, v, rfl, h3, h4⟩
theorem pe_pair {k v : Expr} {Rk Rv : L2.St → Hp → V → Prop} (hu : X.A.units + 1 < cLine) (hk : SV X k Rk) (hv : SV X v Rv) : PE X (.Dict [some k] [v] pos) fun σ H Q => ∀ p, H p = none → ∃ (b : Addr) (ks : List Key) (y : V), H b = some (.tup (ks.map kV)) ∧
    Rk σ (upd H p (.dT [])) (.ref b) ∧ Rv σ (upd H p (.dT [])) y ∧ Q (.ref p) (upd H p (.dT [(ks, y)])) := by
  refine ⟨fun pins s σ H Q I q => ?_⟩
  have hn := I.hok.fresh (Nat.le_refl s.heap.objs.size)
  obtain ⟨b, ks, y, hb, rk, rv, q⟩ := q _ hn
  have I1 := I.laid (a := s.heap.objs.size) (o := .dT []) (h' := s.heap.push { cls := .type "dict", data := .dict #[] }) (t' := s.toks) (fun _ _ q => Heap.get?_push_of_some _ q) (Nat.le_refl _) (dt_empty s.heap I.big)
  have hne : b ≠ s.heap.objs.size := fun z => by rw [z, hn] at hb; cases hb
  have hbp : upd H s.heap.objs.size (.dT []) b = some (.tup (ks.map kV)) := by
    rw [upd_ne hne]
    exact hb
  refine disp_heap (knd := tupleKind (mixKind X.prog X.w)) (pairs := pairTrees [some k] [v] X.env pos) (show X.A.units < cLine by omega) rfl (by intro z; cases z) (by show 1 ≤ 15; decide) ?_
  refine pairTrees_cons_walk (thn (hk.run pins _ σ _ (fun u H1 => u = .ref b ∧ H1 = upd H s.heap.objs.size (.dT [])) I1 ⟨_, rk, rfl, rfl⟩) fun u s1 ⟨x, H1, I2, rx, e1, e2⟩ => ?_)
  subst e1 e2
  refine thn (hv.run pins s1 σ _ (fun u H1 => u = y ∧ H1 = upd H s.heap.objs.size (.dT [])) I2 ⟨_, rv, rfl, rfl⟩) fun u2 s2 ⟨x2, H2, I3, rx2, e3, e4⟩ => ?_
  subst e3 e4
  cases (show u = Value.ref b from rx)
  refine pairTrees_nil_walk ⟨[(ks, b, u2)], ⟨rfl, rfl, key_of I3.hok hbp, trivial⟩, ?_, fun h' tk hd sb => ?_⟩
  · obtain ⟨_, _, xs, r, dd⟩ := dt_of I3.hok (upd_same (H := H))
    cases r
    exact dd
  · have e : storedAllH [] [(ks, b, u2)] = [(ks, b, u2)] := rfl
    rw [e] at hd
    obtain ⟨o, es, ep, h1, h2, h3, h4, h5, h6⟩ := hd
    have I4 : Inv X pins σ (upd (upd H s.heap.objs.size (.dT [])) s.heap.objs.size (.dT [(ks, x2)])) { s2 with heap := h', toks := tk } := d_write I3 (by rw [upd_same]; exact True.intro) sb ⟨o, h1⟩ ⟨by rw [sizeLine_eq]; simp, beq_eq_false_iff_ne.mpr (Nat.ne_of_gt I.big), [(ks, b, u2)], .cons ⟨rfl, (upd_ne hne).trans hbp, rx2⟩ .nil, o, es, ep, h1, h2, h3, h4, h6⟩
    rw [upd_upd] at I4
    exact ⟨.ref s.heap.objs.size, _, I4, rfl, q⟩
/-- an expression that finds its value and does nothing else -/
structure Stl (X : Cx) (c : Ct) (e : Expr) (f : Env → Store → R Vl) : Prop where
  ok : ∃ R : L2.St → Hp → V → Prop, SV X e R ∧ ∀ g H al ρ σ S, Rl c.G c.K g H al S → Er c.G c.K g H al ρ σ → f ρ S = .bad ∨ ∃ v x, f ρ S = .ok v S ∧ RepL c.G c.K g H al v x ∧ ∀ p, H p = none → R σ (upd H p (.dT [])) x
theorem stl_int {c : Ct} {i : Int} {j : Nat} : Stl X c (.Constant (.int i) j pos) (fun _ S => .ok (.d (.int i)) S) := ⟨_, sv_int, fun g H al ρ σ S rl er => .inr ⟨_, _, rfl, show Rep _ _ _ _ _ _ from by unfold Rep; rfl, fun _ _ => rfl⟩⟩
theorem stl_var {c : Ct} {cf : CF} {i : Nat} {x : Str} (hN : X.N[i]? = some x) (hv : Vis X.env.scope x) (hd : (x == ("__debug__" : Str)) = false) (hcd : (x == ("__classdict__" : Str)) = false) : Stl X c (.Name x pos) (evE cf (.var i)) := ⟨_, sv_var hN hv hd hcd, fun g H al ρ σ S rl er => by
  simp only [evE]
  cases e : ρ[i]? with
  | none => exact .inl rfl
  | some o =>
    cases o with
    | none => exact .inl rfl
    | some v =>
      obtain ⟨x, h1, h2⟩ := er.at_ i v e
      exact .inr ⟨v, x, rfl, h2, fun _ _ => h1⟩⟩
theorem se_dct1 {c : Ct} {k v : Expr} {fk fv : Env → Store → R Vl} (hu : X.A.units + 1 < cLine) (hk : Stl X c k fk) (hv : Stl X c v fv) : SE X c (.Dict [some k] [v] pos) (fun ρ S => (fk ρ S).bind fun x S1 => (fv ρ S1).bind (kDct x)) := by
  obtain ⟨Rk, sk, pk⟩ := hk
  obtain ⟨Rv, sv, pv⟩ := hv
  refine (pe_pair hu sk sv).imp fun σ H Q h => ?_
  obtain ⟨g, al, ρ, S, xa, rl, er, out⟩ := h
  intro p hp
  have out : Out c (relL c) σ g H al ((fk ρ S).bind fun x S1 => (fv ρ S1).bind (kDct x)) Q := out
  rcases pk g H al ρ σ S rl er with e1 | ⟨v1, x1, e1, q1, r1⟩
  · rw [e1] at out
    exact out.elim
  rcases pv g H al ρ σ S rl er with e2 | ⟨v2, x2, e2, q2, r2⟩
  · rw [e1] at out
    simp only [R.bind, e2] at out
    exact out.elim
  rw [e1] at out
  simp only [R.bind, e2] at out
  unfold kDct at out
  cases v1 with
  | r n => exact out.elim
  | x n ps => exact out.elim
  | d u =>
    cases v2 with
    | r n => exact out.elim
    | x n ps => exact out.elim
    | d w =>
      simp only at out
      cases e3 : cellOf u with
      | none => rw [e3] at out; exact out.elim
      | some cc =>
        rw [e3] at out
        obtain ⟨b, rfl, hb⟩ := cell_key q1 e3
        refine ⟨b, keyC cc, x2, hb, r1 p hp, r2 p hp, ?_⟩
        refine Out.dct out rl ?_ p hp
        unfold RepK
        refine ⟨x2, [], rfl, q2, ?_⟩
        unfold RepK
        rfl
/-! ### an item, found and nothing else -/
theorem sqT_ext {K : PySem.W.Frag} {H H' : Hp} {a : Addr} {xs : List V} (h : SqT K H a xs) (e : ∀ a o, H a = some o → H' a = some o) : SqT K H' a xs :=
  h.elim (fun h => .inl (h.elim (fun h => .inl (e _ _ h)) fun ⟨o, h⟩ => .inr ⟨o, e _ _ h⟩)) fun h => .inr h
theorem sqL_ext {K : PySem.W.Frag} {H H' : Hp} {a : Addr} {xs : List V} (h : SqL K H a xs) (e : ∀ a o, H a = some o → H' a = some o) : SqL K H' a xs :=
  h.elim (fun h => .inl (h.elim (fun h => .inl (e _ _ h)) fun ⟨o, h⟩ => .inr ⟨o, e _ _ h⟩)) fun h => .inr h
def Ixv (K : PySem.W.Frag) (H : Hp) (x y v : V) : Prop := rIxL K x y H (fun w _ => w = v) ∨ rIxT K x y H (fun w _ => w = v) ∨ rIxS x y H (fun w _ => w = v) ∨ ∃ a b, x = .ref a ∧ y = .ref b ∧ DGet H a (.ref b) (some v)
theorem ix_v (hu : X.A.units + 1 < cLine) : IxR X (fun x y H Q => ∃ v, Ixv X.K H x y v ∧ Q v H) := by
  intro value slice pins s σ H x y v u Q I rx ry h hs
  obtain ⟨z, h, q⟩ := h
  rcases h with ⟨p, xs, i, w, e1, e2, h1, h2, e3⟩ | ⟨p, xs, i, w, e1, e2, h1, h2, e3⟩ | ⟨t, i, w, e1, e2, h1, h2, e3⟩ | ⟨a, b, e1, e2, h1⟩
  · subst e3
    exact ix_list value slice pins s σ H x y v u Q I rx ry ⟨p, xs, i, w, e1, e2, h1, h2, q⟩ hs
  · subst e3
    exact ix_tup value slice pins s σ H x y v u Q I rx ry ⟨p, xs, i, w, e1, e2, h1, h2, q⟩ hs
  · subst e3
    exact ix_str value slice pins s σ H x y v u Q I rx ry ⟨t, i, w, e1, e2, h1, h2, q⟩ hs
  · subst e1 e2
    cases (show v = Value.ref a from rx)
    exact tail_any (ops := [.ref a, u]) (dict_typeIs I h1) PySem.F.slot_dict_getitem.lookup (d_getItem hu I h1 ry fun w' s' I' rw' => ⟨z, H, I', rw', q⟩) hs
theorem sv_idx {a b : Expr} {Ra Rb : L2.St → Hp → V → Prop} (hu : X.A.units + 1 < cLine) (ha : SV X a Ra) (hb : SV X b Rb) (hs : notSlice b = true) : SV X (.Subscript a b pos) (fun σ H v => ∃ x y, Ra σ H x ∧ Rb σ H y ∧ Ixv X.K H x y v) := (pe_ix (ix_v hu) ha hb (plainIx_ok hs)).imp fun σ H Q h => by
  obtain ⟨v, ⟨x, y, h1, h2, h3⟩, q⟩ := h
  exact ⟨x, h1, y, h2, v, h3, q⟩
theorem ix_of {c : Ct} {g : Gh} {H : Hp} {u w z : D} {x y : V} (hK : X.K = c.K) (vx : View c.G c.K g H u x) (ry : Rep c.G c.K g H w y) (e : idxD u w = some z) : ∃ t, Rep c.G c.K g H z t ∧ ∀ p o, H p = none → Ixv X.K (upd H p o) x y t := by
  have ex : ∀ (p : Addr) (o : HO), H p = none → ∀ a ob, H a = some ob → upd H p o a = some ob := fun p o hp a ob h => by
    rw [upd_ne (fun z => by rw [z, hp] at h; cases h)]
    exact h
  cases u <;> simp only [idxD] at e <;> try (cases e)
  case str t =>
    cases w <;> simp only at e <;> try (cases e)
    case int k =>
      cases rep_str vx
      cases rep_int (Rep.view ry)
      by_cases hl : t.length ≤ BIG
      · rw [if_pos hl] at e
        obtain ⟨cc, e1, rfl⟩ := Option.map_eq_some_iff.mp e
        exact ⟨_, by unfold Rep; rfl, fun p o hp => .inr (.inr (.inl ⟨t, k, cc, rfl, rfl, Nat.le_trans hl big_line, e1, rfl⟩))⟩
      · rw [if_neg hl] at e; cases e
  case tup ys =>
    cases w <;> simp only at e <;> try (cases e)
    case int k =>
      obtain ⟨a, ws, rfl, h1, h2⟩ := tup_sq vx
      cases rep_int (Rep.view ry)
      obtain ⟨t, e1, e2⟩ := atI_reps h2 e
      exact ⟨t, e2, fun p o hp => .inr (.inl ⟨a, ws, k, t, rfl, rfl, hK ▸ (sqT_ext h1 (ex p o hp)), e1, rfl⟩)⟩
  case lst ys =>
    cases w <;> simp only at e <;> try (cases e)
    case int k =>
      obtain ⟨a, ws, rfl, h1, h2⟩ := lst_sq vx
      cases rep_int (Rep.view ry)
      obtain ⟨t, e1, e2⟩ := atI_reps h2 e
      exact ⟨t, e2, fun p o hp => .inl ⟨a, ws, k, t, rfl, rfl, hK ▸ (sqL_ext h1 (ex p o hp)), e1, rfl⟩⟩
  case scr ns =>
    cases w <;> simp only at e <;> try (cases e)
    case int k =>
      obtain ⟨a, rfl, h1⟩ := scr_sq vx
      cases rep_int (Rep.view ry)
      obtain ⟨i, e1, rfl⟩ := Option.map_eq_some_iff.mp e
      refine ⟨.int i, by unfold Rep; rfl, fun p o hp => .inl ⟨a, ns.map V.int, k, .int i, rfl, rfl, hK ▸ (sqL_ext h1 (ex p o hp)), ?_, rfl⟩⟩
      unfold L2.atI at *
      rw [List.length_map]
      cases q : L2.ixN ns.length k with
      | none => rw [q] at e1; cases e1
      | some j =>
        rw [q] at e1
        show (ns.map V.int)[j]? = _
        have e1 : ns[j]? = some i := e1
        rw [List.getElem?_map, e1]
        rfl
  case dct kvs =>
    cases q : cellOf w with
    | none => rw [q] at e; cases e
    | some cc =>
      rw [q] at e
      obtain ⟨a, ws, rfl, h1, h2⟩ := vx
      obtain ⟨bb, rfl, h3⟩ := cell_key ry q
      obtain ⟨t, e1, e2⟩ := repK_some h2 e
      exact ⟨t, e2, fun p o hp => .inr (.inr (.inr ⟨a, bb, rfl, rfl, by rw [← e1]; exact dget_rd (h1.elim (fun z => .inl (ex p o hp _ _ z)) fun ⟨ob, z⟩ => .inr ⟨ob, ex p o hp _ _ z⟩) (ex p o hp _ _ h3)⟩))⟩
theorem stl_idx {c : Ct} {a b : Expr} {fa fb : Env → Store → R Vl} (hK : X.K = c.K) (hu : X.A.units + 1 < cLine) (ha : Stl X c a fa) (hb : Stl X c b fb) (hs : notSlice b = true) : Stl X c (.Subscript a b pos) (fun ρ S => (fa ρ S).bind fun x S1 => (fb ρ S1).bind (kIdx x)) := by
  obtain ⟨Ra, sa, pa⟩ := ha
  obtain ⟨Rb, sb, pb⟩ := hb
  refine ⟨_, sv_idx hu sa sb hs, fun g H al ρ σ S rl er => ?_⟩
  rcases pa g H al ρ σ S rl er with e1 | ⟨v1, x1, e1, q1, r1⟩
  · left
    simp only [e1, R.bind]
  rcases pb g H al ρ σ S rl er with e2 | ⟨v2, x2, e2, q2, r2⟩
  · left
    simp only [e1, R.bind, e2]
  simp only [e1, R.bind, e2]
  unfold kIdx
  cases e3 : rd S v1 with
  | none => exact .inl rfl
  | some u =>
    cases v2 with
    | r n => exact .inl rfl
    | x n ps => exact .inl rfl
    | d w =>
      simp only
      cases e4 : idxD u w with
      | none => exact .inl rfl
      | some z =>
        right
        obtain ⟨t, hrep, hix⟩ := ix_of (X := X) hK (view_of rl q1 e3) q2 e4
        exact ⟨.d z, t, rfl, hrep, fun p hp => ⟨x1, x2, r1 p hp, r2 p hp, hix p _ hp⟩⟩
end
section
variable {X : Cx} {c : Ct}
/-- list(d) -/
theorem cr_list_dct (hc : X.calm = true) {pins : List (Addr × Obj)} {s : Shared} {σ σ' : L2.St} {H : Hp} {us : List Value} {Q : VK} {g : Gh} {al : List Addr} {S : Store} {kvs : List (Cell × D)} {x : V} (I : Inv X pins σ H s) (r : Vals [x] us) (rl : Rl c.G c.K g H al S) (vx : View c.G c.K g H (.dct kvs) x)
    (out : Out c (relL c) σ' g H al (SW.alloc (.lst (kvs.map fun kv => cellD kv.1)) S) Q) : wpAny (model X.prog X.w) X.A (call (.type "list") us) (EP X pins σ Q) X.xe s := by
  obtain ⟨a, vs, rfl, h1, h2⟩ := vx
  exact call_list_dT hc pins s σ H _ us Q I r ⟨a, vs, rfl, h1, fun p bs hp hk => Out.lst out rl (keys_reps h2 hk) p hp⟩
theorem cr_blt_list (hK : X.K = c.K) (hc : X.calm = true) : CallR X (.type "list") (rBlt c (bltD .list)) := by
  intro pins s σ H xs us Q I r h
  obtain ⟨σ', g, al, S, ds, xa, rl, vs, out⟩ := h
  obtain ⟨k, e, out⟩ := give_some out
  match ds, e with
  | [.lst ys], e =>
    cases e
    obtain ⟨x, rfl, vx⟩ := vs.one
    obtain ⟨a, ws, rfl, h1, h2⟩ := lst_sq vx
    exact call_list_of pins s σ H _ us Q I r ⟨a, ws, rfl, .inl (hK ▸ h1), Out.lst out rl h2⟩
  | [.tup ys], e =>
    cases e
    obtain ⟨x, rfl, vx⟩ := vs.one
    obtain ⟨a, ws, rfl, h1, h2⟩ := tup_sq vx
    exact call_list_of pins s σ H _ us Q I r ⟨a, ws, rfl, .inr (hK ▸ h1), Out.lst out rl h2⟩
  | [.dct kvs], e =>
    cases e
    obtain ⟨x, rfl, vx⟩ := vs.one
    exact cr_list_dct hc I r rl vx out
theorem keys_hash {G : Gd} {K : PySem.W.Frag} {g : Gh} {H : Hp} {P : Program} {w : World} : ∀ {kvs : List (Cell × D)} {vs : List (List Key × V)} {xs : List (List Key × Addr × Value)}, RepK G K g H kvs vs → KT H vs xs → (xs.map fun x => (tupleKind (mixKind P w)).hash x.1) = kvs.map fun kv => hashC kv.1
  | [], _, _, h, k => by
    unfold RepK at h
    subst h
    cases k
    rfl
  | (cc, x) :: kvs, _, _, h, k => by
    unfold RepK at h
    obtain ⟨v, r, rfl, h1, h2⟩ := h
    cases k with
    | @cons p q ps qs hq t =>
      rw [List.map_cons, List.map_cons, keys_hash h2 t, ← hq.1]
      rfl
theorem cr_blt_dict (hK : X.K = c.K) (hcm : X.calm = true) (hu : X.A.units + 10 < cLine) : CallR X (.type "dict") (rBlt c (bltD .dict)) := by
  intro pins s σ H xs us Q I r h
  obtain ⟨σ', g, al, S, ds, xa, rl, vs, out⟩ := h
  obtain ⟨k, e, out⟩ := give_some out
  match ds, e with
  | [.dct kvs], e =>
    simp only [bltD] at e
    by_cases hn : (kvs.map fun kv => hashC kv.1).Nodup
    · rw [if_pos hn] at e
      cases e
      obtain ⟨x, rfl, vx⟩ := vs.one
      obtain ⟨a, ws, rfl, h1, h2⟩ := vx
      obtain ⟨z, hs, ks, rel, dd⟩ := dt_rd I.hok h1
      have l2 : ws.length = ks.length := Paired.length rel
      have isk : ∀ y ∈ ks, ∃ o its n, s.heap.get? y.2.1 = some o ∧ o.cls = .type "tuple" ∧ o.data = .seq its n ∧ ItemsAre (mixKind X.prog X.w) y.1 its.toList := fun y hy => by
        obtain ⟨_, _, _, _, _, _, _, q, _⟩ := dd
        exact q y hy
      rw [Vals.ref1 r]
      refine call_dict_copy (knd := tupleKind (mixKind X.prog X.w)) (show X.A.units + 1 + 1 < cLine by omega) hs dd ⟨fun y hy => ?_, ?_⟩ (by omega) (fun h' hk y hy => ?_) fun h' hd hk => ?_
      · obtain ⟨o, its, n, q1, q2, _⟩ := isk y hy
        exact ⟨o, q1, q2⟩
      · rw [keys_hash h2 rel]
        exact hn
      · obtain ⟨o, its, n, q1, q2, q3, q4⟩ := isk y hy
        exact ⟨o, its, n, hk _ _ q1, q2, q3, q4⟩
      · obtain ⟨o, es, ep, q1, q2, q3, q4, q5, q6⟩ := hd
        have hf := I.hok.fresh (Nat.le_refl s.heap.objs.size)
        refine ⟨.ref _, upd H s.heap.objs.size (.dT ws), I.laid (t' := s.toks) hk (Nat.le_refl _) ⟨z, beq_eq_false_iff_ne.mpr (Nat.ne_of_gt I.big), ks, KT.keeps rel fun b ys hb => ?_, o, es, ep, q1, q2, q3, q4, q6⟩, rfl, Out.dct out rl h2 _ hf⟩
        rw [upd_ne (fun q => by rw [q, hf] at hb; cases hb)]
        exact hb
    · rw [if_neg hn] at e; cases e
  | [.tup ys], e =>
    simp only [bltD] at e
    split at e
    · rename_i kvs ep
      by_cases hn : (kvs.map fun kv => kv.1).Nodup
      · rw [if_pos hn] at e
        cases e
        obtain ⟨x, rfl, vx⟩ := vs.one
        have vx : Rep c.G c.K g H (.tup ys) x := vx
        unfold Rep at vx
        obtain ⟨a, ws, rfl, h1, h2⟩ := vx
        rw [pairs_isP ep] at h1
        obtain ⟨hF, o, hp, hd⟩ := h1
        obtain ⟨kvs', p1, p2, p3⟩ := prs_reps h2 ep
        refine call_dict_tup hcm hu pins s σ H _ us Q I r ⟨a, o, ws, kvs', rfl, hp, hd, p1, ?_, Out.dct out rl p2⟩
        rw [p3]
        unfold List.Nodup at hn ⊢
        rw [List.pairwise_map] at hn ⊢
        exact hn.imp fun h z => h (keyC_inj z)
      · rw [if_neg hn] at e; cases e
    · cases e
  | [.lst ys], e =>
    simp only [bltD] at e
    split at e
    · rename_i kvs ep
      by_cases hn : (kvs.map fun kv => kv.1).Nodup
      · rw [if_pos hn] at e
        cases e
        obtain ⟨x, rfl, vx⟩ := vs.one
        obtain ⟨a, ws, rfl, h1, h2⟩ := lst_sq vx
        obtain ⟨kvs', p1, p2, p3⟩ := prs_reps h2 ep
        refine call_dict_lst hcm hu pins s σ H _ us Q I r ⟨a, ws, kvs', rfl, hK ▸ h1, p1, ?_, Out.dct out rl p2⟩
        rw [p3]
        unfold List.Nodup at hn ⊢
        rw [List.pairwise_map] at hn ⊢
        exact hn.imp fun h z => h (keyC_inj z)
      · rw [if_neg hn] at e; cases e
    · cases e
end
section
variable {X : Cx} {c : Ct} {o a : Expr} {apos pos : Pos} {fo fa : Env → Store → R Vl}
theorem se_index (hK : X.K = c.K) (ho : SE X c o fo) (ha : SE X c a fa) (hb : plainBase o = true) (hs : notStar a = true) (hl : (apos.endLine == pos.line) = true) : SE X c (.Call (.Attribute o "index" apos) [a] [] pos)
    (fun ρ S => ((fo ρ S).bind (kPre .index)).bind fun x S1 => ((fa ρ S1).bind fun y S2 => (R.ok [] S2).bind fun ys S3 => R.ok (y :: ys) S3).bind (kMth .index x)) := (pe_m1 PySem.F.slot_str_index PySem.F.type_str_index mt_sindex ho ha (star_each hs) (base_ok hb) hl).imp fun σ H Q h => by
  obtain ⟨g, al, ρ, S, xa, rl, er, out⟩ := h
  simp only [R.bind_assoc] at out
  refine TQ.step (k := fun x S1 => (kPre .index x S1).bind fun x S1 => (fa ρ S1).bind fun y S2 => (R.ok [] S2).bind fun ys S3 => (R.ok (y :: ys) S3).bind (kMth .index x)) xa rl er out fun x H1 g1 al1 v S1 e1 p1 xa1 rl1 er1 q1 out1 => ?_
  obtain ⟨z, rfl, out1⟩ := kPre_str (by intro z; cases z) rl1 q1 out1
  refine ⟨⟨z, rfl⟩, ?_⟩
  refine TQ.step (k := fun y S2 => kMth .index v [y] S2) xa1 rl1 er1 out1 fun y H2 g2 al2 w S2 e2 p2 xa2 rl2 er2 q2 out2 => ?_
  unfold kMth at out2
  split at out2
  · rename_i u us eu eus
    obtain ⟨k, ek, out2⟩ := give_some out2
    rw [if_neg (by intro z; cases z)] at eus
    obtain ⟨t, rfl, ew⟩ := rds_one eus
    have vz := view_of rl2 (q1.mono e2 p2) eu
    have vy := view_of rl2 q2 ew
    cases u <;> simp only [mthD] at ek <;> try (cases ek; done)
    rename_i sp
    cases t <;> simp only at ek <;> try (cases ek; done)
    rename_i nd
    have hz := rep_str vz
    cases hz
    have hy := rep_str vy
    cases hy
    split at ek
    · rename_i i rest eo
      cases ek
      exact ⟨_, _, i, rest, rfl, rfl, eo, out2.int rl2⟩
    · cases ek
  · exact out2.elim
end
end SW

-- SwSb
set_option Elab.async false
set_option linter.all false
set_option maxRecDepth 100000
set_option maxHeartbeats 4000000
set_option autoImplicit false
/-! SwSb: views of dicts whose keys are cells: sorted(d.items()), list(d.values()), max(d.values()) -/
namespace SW
open PySem PySem.Spec PyProof.Rows L2
section
variable {X : Cx} {pins : List (Addr × Obj)} {σ : L2.St} {H : Hp} {s : Shared}
/-- the dict as it is laid -/
theorem raw_of {d : Addr} {kvs : List (List Key × V)} (I : Inv X pins σ H s) (r : Rd H d (.dT kvs)) : (d == sysModules) = false ∧ kvs.length ≤ sizeLine ∧ ∃ (es : Array DictEntry) (ep : Nat), s.heap.DictRaw d es ep ∧ es.size = kvs.length ∧
    ∀ (i : Nat) (k : List Key) (v : V), kvs[i]? = some (k, v) → ∃ (en : DictEntry) (q : Addr), es[i]? = some en ∧ en.key = .ref q ∧ H q = some (.tup (k.map kV)) ∧ RelV v en.val := by
  obtain ⟨z, hs, xs, pr, o, es, ep, ho, hx, hdt, he, _⟩ := (show ObjOk X.prog X.w H s.heap d (.dT kvs) from r.ok I.hok)
  have l1 : es.size = xs.length := size_of_entries he
  have l2 : kvs.length = xs.length := Paired.length pr
  refine ⟨hs, z, es, ep, ⟨o, ho, hx, hdt⟩, by omega, fun i k v e => ?_⟩
  obtain ⟨b, hb, e1, e2, e3⟩ := L2.paired_get pr e
  have q := entry_at he i
  rw [hb] at q
  exact ⟨_, b.2.1, q, rfl, e2, e3⟩
end
section
variable {X : Cx} {e : Expr} {te : TE} {apos cpos : Pos}
def ivO (v d : Addr) : HO := .ext fun h => h.IsItemsView v d
def vvO (v d : Addr) : HO := .ext fun h => h.IsValuesView v d
theorem pe_ditems (he : PE X e te) (hbase : attributeBase e "items" X.env (eval e X.env) = eval e X.env) (hline : (apos.endLine == cpos.line) = true) :
    PE X (.Call (.Attribute e "items" apos) [] [] cpos) (fun σ H Q => te σ H fun x H1 => ∃ d kvs, x = .ref d ∧ Rd H1 d (.dT kvs) ∧ ∀ v, H1 v = none → Q (.ref v) (upd H1 v (ivO v d))) := by
  refine ⟨fun pins s σ H Q I hq => ?_⟩
  refine wpAny_Call_method (T := "dict") (id := "dict.items") hbase rfl hline F.plainAttrs_dict F.slot_dict_items F.type_dict_items (thn (he.run pins s σ H _ I hq) fun u s1 ⟨x, H1, I1, rx, d, kvs, ex, hd, q⟩ => ?_)
  subst ex
  obtain rfl : u = Value.ref d := rx
  obtain ⟨hs0, hz, es, ep, hm, hsz, hent⟩ := raw_of I1 hd
  have hn := I1.hok.fresh (Nat.le_refl s1.heap.objs.size)
  refine ⟨hm.typeIs, (isD_at I1 (.inr ⟨kvs, hd⟩)).2.1, ?_⟩
  show wpAny _ _ (callWith cpos (.builtin "dict.items") [.ref d] [] []) _ X.xe s1
  refine method_meetsIn F.slot_dict_items F.entry_dict_items rfl (PySem.evalArgs_none ⟨rfl, hm.typeIs, F.args_dict_items_1 _, _, meets_dict_items_raw d hs0, ⟨es, ep, hm⟩, ?_⟩)
  have hv : (s1.heap.push { cls := .type "dict_items", data := .fields #[.ref d] }).IsItemsView s1.heap.objs.size d := ⟨_, Heap.get?_push_size _ rfl, rfl, rfl⟩
  have new : ∀ H', ObjOk X.prog X.w H' (s1.heap.push { cls := .type "dict_items", data := .fields #[.ref d] }) s1.heap.objs.size (ivO s1.heap.objs.size d) := fun H' => ⟨hv, ⟨_, Heap.get?_push_size _ rfl⟩, fun h1 h2 z k => let ⟨o, ho, r⟩ := z; ⟨o, k o ho, r⟩⟩
  exact ⟨.ref s1.heap.objs.size, _, I1.laid (t' := s1.toks) (fun b o e => Heap.get?_push_of_some _ e) (Nat.le_refl _) (new _), rfl, q _ hn⟩
theorem pe_dvalues (he : PE X e te) (hbase : attributeBase e "values" X.env (eval e X.env) = eval e X.env) (hline : (apos.endLine == cpos.line) = true) :
    PE X (.Call (.Attribute e "values" apos) [] [] cpos) (fun σ H Q => te σ H fun x H1 => ∃ d kvs, x = .ref d ∧ Rd H1 d (.dT kvs) ∧ ∀ v, H1 v = none → Q (.ref v) (upd H1 v (vvO v d))) := by
  refine ⟨fun pins s σ H Q I hq => ?_⟩
  refine wpAny_Call_method (T := "dict") (id := "dict.values") hbase rfl hline F.plainAttrs_dict F.slot_dict_values F.type_dict_values (thn (he.run pins s σ H _ I hq) fun u s1 ⟨x, H1, I1, rx, d, kvs, ex, hd, q⟩ => ?_)
  subst ex
  obtain rfl : u = Value.ref d := rx
  obtain ⟨hs0, hz, es, ep, hm, hsz, hent⟩ := raw_of I1 hd
  have hn := I1.hok.fresh (Nat.le_refl s1.heap.objs.size)
  refine ⟨hm.typeIs, (isD_at I1 (.inr ⟨kvs, hd⟩)).2.1, ?_⟩
  show wpAny _ _ (callWith cpos (.builtin "dict.values") [.ref d] [] []) _ X.xe s1
  refine method_meetsIn F.slot_dict_values F.entry_dict_values rfl (PySem.evalArgs_none ⟨rfl, hm.typeIs, F.args_dict_values_1 _, _, meets_dict_values_raw d hs0, ⟨es, ep, hm⟩, ?_⟩)
  have hv : (s1.heap.push { cls := .type "dict_values", data := .fields #[.ref d] }).IsValuesView s1.heap.objs.size d := ⟨_, Heap.get?_push_size _ rfl, rfl, rfl⟩
  have new : ∀ H', ObjOk X.prog X.w H' (s1.heap.push { cls := .type "dict_values", data := .fields #[.ref d] }) s1.heap.objs.size (vvO s1.heap.objs.size d) := fun H' => ⟨hv, ⟨_, Heap.get?_push_size _ rfl⟩, fun h1 h2 z k => let ⟨o, ho, r⟩ := z; ⟨o, k o ho, r⟩⟩
  exact ⟨.ref s1.heap.objs.size, _, I1.laid (t' := s1.toks) (fun b o e => Heap.get?_push_of_some _ e) (Nat.le_refl _) (new _), rfl, q _ hn⟩
end
/-! ### the pairs, each a new tuple -/
def putP : Hp → List Addr → List (Addr × V) → Hp
  | H, a :: as, p :: kvs => putP (upd H a (.tup [.ref p.1, p.2])) as kvs
  | H, _, _ => H
theorem putP_off {b : Addr} : ∀ (as : List Addr) (kvs : List (Addr × V)) (H : Hp), b ∉ as → putP H as kvs b = H b
  | [], _, _, _ => rfl
  | _ :: _, [], _, _ => rfl
  | a :: as, p :: kvs, H, h => by
    show putP (upd H a (.tup [.ref p.1, p.2])) as kvs b = H b
    rw [putP_off as kvs _ (fun z => h (List.mem_cons_of_mem _ z)), upd_ne (fun z => h (by rw [z]; exact List.mem_cons_self))]
theorem putP_at : ∀ (as : List Addr) (kvs : List (Addr × V)) (H : Hp), as.length = kvs.length → as.Nodup → Paired (fun (t : Addr) (p : Addr × V) => putP H as kvs t = some (.tup [.ref p.1, p.2])) as kvs
  | [], [], _, _, _ => .nil
  | [], _ :: _, _, h, _ => by cases h
  | _ :: _, [], _, h, _ => by cases h
  | a :: as, p :: kvs, H, h, hn => by
    have hn' := List.nodup_cons.mp hn
    have ih := putP_at as kvs (upd H a (.tup [.ref p.1, p.2])) (Nat.succ.inj h) hn'.2
    refine .cons ?_ ih
    show putP (upd H a (.tup [.ref p.1, p.2])) as kvs a = some (.tup [.ref p.1, p.2])
    rw [putP_off as kvs _ hn'.1, upd_same]
theorem pairs_laid {X : Cx} {pins : List (Addr × Obj)} {σ : L2.St} {H : Hp} {s : Shared} {h' : Heap} {tk : Nat} {as : List Addr} {kvs : List (Addr × V)} (I : Inv X pins σ H s)
    (hk : ∀ b o, s.heap.get? b = some o → h'.get? b = some o) (hl : as.length = kvs.length) (rise : as.Pairwise (· < ·)) (above : ∀ a ∈ as, s.heap.objs.size ≤ a)
    (at_ : ∀ (j : Nat) (a : Addr) (p : Addr × V), as[j]? = some a → kvs[j]? = some p → ∃ u, RelV p.2 u ∧ h'.get? a = some { cls := .type "tuple", data := .seq #[.ref p.1, u] }) :
    ∃ H' : Hp, (∀ b o, H b = some o → H' b = some o) ∧ (∀ t ∈ as, H t = none) ∧ Paired (fun (t : Addr) (q : Addr × V) => H' t = some (.tup [.ref q.1, q.2])) as kvs ∧ Inv X pins σ H' { s with heap := h', toks := tk } := by
  have nd : as.Nodup := List.Pairwise.imp (fun {a b} (h : a < b) => Nat.ne_of_lt h) rise
  have new : ∀ t ∈ as, H t = none := fun t ht => I.hok.fresh (above t ht)
  have atP := putP_at as kvs H hl nd
  have low : ∀ b o, s.heap.get? b = some o → b ∉ as := fun b o e z => absurd (Heap.lt_size e) (Nat.not_lt.mpr (above b z))
  have kp : ∀ b u, H b = some u → (putP H as kvs) b = some u := fun b u e => by
    rw [putP_off as kvs _ (fun z => by rw [new b z] at e; cases e)]
    exact e
  refine ⟨putP H as kvs, kp, new, atP, ?_⟩
  refine I.call' (ch := []) rfl ⟨fun b o q _ _ _ => hk b o q, fun b o q _ _ _ => ⟨o.slots, hk b o q⟩, fun b o q n _ => ?_, fun b o q _ => ⟨o, hk b o q⟩, fun b xs q => kp b _ q, fun b o u q => kp b _ q, fun b ps q => ⟨#[], by rw [kp b _ q]; simp⟩⟩ (fun b u q => ?_) I.bare fun b z => by simp at z
  · rw [putP_off as kvs _ (low b o q)]
    exact n
  · by_cases hb : b ∈ as
    · obtain ⟨j, pk, e1, e2, e3⟩ := LiI.paired_ix atP hb
      rw [e3] at q
      cases q
      obtain ⟨x, f1, f2⟩ := at_ j b pk e1 e2
      exact ⟨by show 2 ≤ sizeLine; decide, [.ref pk.1, x], .cons rfl (.cons f1 .nil), ⟨_, f2, rfl, _, rfl⟩⟩
    · rw [putP_off as kvs _ hb] at q
      exact (I.hok b u q).stay (fun d v _ y => hk d v y) (fun d y => kp d _ y) fun d xs y => kp d _ y
/-! ### the order of the pairs -/
def encP (p : Cell × Int) : PyData := .tuple [encC p.1, .int p.2]
theorem eqv_cell (a b : Cell) : PyData.eqv (encC a) (encC b) = decide (a.1 = b.1 ∧ a.2 = b.2) := by
  unfold encC
  simp only [PyData.eqv, PyData.eqvAll, Bool.and_true]
  by_cases h1 : a.1 = b.1 <;> by_cases h2 : a.2 = b.2 <;> simp [h1, h2]
theorem alike_enc (a b : Cell) : PySem.W.alike (encC a) (encC b) = true := by
  unfold encC
  simp [PySem.W.alike, PySem.W.alikeAll]
theorem dataLe_pair : PySem.W.dataLe false encP = pairLe := by
  rw [PySem.W.dataLe_eq]
  funext p q
  show (!PySem.W.dataLt (encP q) (encP p)) = pairLe p q
  unfold encP
  rw [PySem.W.dataLt_pair (alike_enc q.1 p.1) (by simp [PySem.W.alike]), eqv_cell]
  have e1 : PySem.W.dataLt (encC q.1) (encC p.1) = decide (q.1.1 < p.1.1 ∨ (q.1.1 = p.1.1 ∧ q.1.2 < p.1.2)) := PySem.W.dataLt_ii _ _ _ _
  rw [e1, PySem.W.dataLt_int]
  unfold pairLe
  by_cases h1 : q.1.1 = p.1.1 ∧ q.1.2 = p.1.2
  · rw [if_pos (decide_eq_true h1)]
    by_cases h2 : q.2 = p.2
    · have : PyData.eqv (.int q.2) (.int p.2) = true := by simp [PyData.eqv, h2]
      rw [if_pos this]
      symm
      show decide _ = true
      exact decide_eq_true (by omega)
    · have : ¬ PyData.eqv (.int q.2) (.int p.2) = true := by simp [PyData.eqv, h2]
      rw [if_neg this]
      by_cases h3 : q.2 < p.2
      · rw [decide_eq_true h3]
        symm
        exact decide_eq_false (by omega)
      · rw [decide_eq_false h3]
        symm
        exact decide_eq_true (by omega)
  · rw [if_neg (by simp only [decide_eq_true_eq]; exact h1)]
    by_cases h3 : q.1.1 < p.1.1 ∨ (q.1.1 = p.1.1 ∧ q.1.2 < p.1.2)
    · rw [decide_eq_true h3]
      symm
      exact decide_eq_false (by omega)
    · rw [decide_eq_false h3]
      symm
      exact decide_eq_true (by omega)
theorem pairLe_iff (a b : Cell × Int) : pairLe a b = true ↔ (a.1.1 < b.1.1 ∨ (a.1.1 = b.1.1 ∧ (a.1.2 < b.1.2 ∨ (a.1.2 = b.1.2 ∧ a.2 ≤ b.2)))) := by
  unfold pairLe
  rw [decide_eq_true_eq]
theorem pairLe_tr (a b c : Cell × Int) (h1 : pairLe a b = true) (h2 : pairLe b c = true) : pairLe a c = true := by
  rw [pairLe_iff] at *
  omega
theorem pairLe_tot (a b : Cell × Int) : pairLe a b = true ∨ pairLe b a = true := by
  rw [pairLe_iff, pairLe_iff]
  omega
theorem pairLe_anti (a b : Cell × Int) (h1 : pairLe a b = true) (h2 : pairLe b a = true) : a = b := by
  rw [pairLe_iff] at *
  have e1 : a.1.1 = b.1.1 := by omega
  have e2 : a.1.2 = b.1.2 := by omega
  have e3 : a.2 = b.2 := by omega
  exact Prod.ext (Prod.ext e1 e2) e3
theorem mergeSort_pairs (ps : List (Cell × Int)) : ps.mergeSort (PySem.W.dataLe false encP) = sortBy pairLe ps := by
  rw [dataLe_pair]
  refine perm_eq (le := fun a b => pairLe a b = true) pairLe_anti ((List.mergeSort_perm ps pairLe).trans (sortBy_perm pairLe ps).symm) ?_ (sortBy_sorted pairLe pairLe_tr pairLe_tot ps)
  exact List.pairwise_mergeSort (le := pairLe) pairLe_tr (fun a b => by
    rcases pairLe_tot a b with h | h
    · rw [h]; rfl
    · rw [h, Bool.or_true]) ps
/-! ### rules -/
theorem choose_list {α : Type} {P : Nat → α → Prop} : ∀ n : Nat, (∀ i, i < n → ∃ x, P i x) → ∃ l : List α, l.length = n ∧ ∀ i x, l[i]? = some x → P i x
  | 0, _ => ⟨[], rfl, fun i x e => by simp at e⟩
  | n + 1, h => by
    obtain ⟨l, h1, h2⟩ := choose_list n fun i hi => h i (Nat.lt_succ_of_lt hi)
    obtain ⟨x, hx⟩ := h n (Nat.lt_succ_self n)
    refine ⟨l ++ [x], by simp [h1], fun i y e => ?_⟩
    by_cases hi : i < l.length
    · rw [List.getElem?_append_left hi] at e
      exact h2 i y e
    · have hi2 : i < (l ++ [x]).length := (List.getElem?_eq_some_iff.mp e).1
      rw [List.length_append, List.length_singleton] at hi2
      have : i = l.length := by omega
      subst this
      rw [List.getElem?_append_right (Nat.le_refl _), Nat.sub_self] at e
      have e : x = y := by simpa using e
      subst e
      rw [h1]
      exact hx
theorem each_refs {R : Value → Cell × Int → Prop} : ∀ {as : List Addr} {ps : List (Cell × Int)}, as.length = ps.length → (∀ (j : Nat) (a : Addr) (p : Cell × Int), as[j]? = some a → ps[j]? = some p → R (.ref a) p) → PySem.W.EachIs R (as.map Value.ref) ps
  | [], [], _, _ => .nil
  | [], _ :: _, h, _ => by cases h
  | _ :: _, [], h, _ => by cases h
  | a :: as, p :: ps, h, f => .cons (f 0 a p rfl rfl) (each_refs (Nat.succ.inj h) fun j b q e1 e2 => f (j + 1) b q (by simpa using e1) (by simpa using e2))
def itD (p : Cell × Int) : D := .tup [cellD p.1, .int p.2]
section
variable {G : Gd} {K : PySem.W.Frag} {g : Gh} {H H' : Hp} {al : List Addr} {S : Store}
theorem cints_at : ∀ {kvs : List (Cell × D)} {ps : List (Cell × Int)} {ws : List (List Key × V)}, RepK G K g H kvs ws → cintsOf kvs = some ps → ws = ps.map fun p => (keyC p.1, V.int p.2)
  | [], _, _, h, e => by
    unfold RepK at h
    cases e
    exact h
  | (k, x) :: r, ps, _, h, e => by
    unfold RepK at h
    obtain ⟨v, ws, rfl, h1, h2⟩ := h
    cases x <;> simp only [cintsOf] at e <;> try (cases e; done)
    rename_i i
    obtain ⟨qs, e1, rfl⟩ := Option.map_eq_some_iff.mp e
    unfold Rep at h1
    rw [List.map_cons, cints_at h2 e1, h1]
theorem rep_it {t q : Addr} {p : Cell × Int} (h1 : H t = some (.tup [.ref q, .int p.2])) (h2 : H q = some (.tup ((keyC p.1).map kV))) : Rep G K g H (itD p) (.ref t) := by
  unfold itD Rep
  have e : isP [cellD p.1, .int p.2] = false := rfl
  rw [e]
  refine ⟨t, _, rfl, h1, ?_⟩
  unfold Reps
  refine ⟨_, _, rfl, rep_key h2, ?_⟩
  unfold Reps
  refine ⟨_, _, rfl, by unfold Rep; rfl, ?_⟩
  unfold Reps
  rfl
theorem each_its : ∀ {us : List Value} {ps : List (Cell × Int)}, PySem.W.EachIs (fun u p => ∃ w, RelV w u ∧ Rep G K g H (itD p) w) us ps → ∃ ws, Vals ws us ∧ Reps G K g H (ps.map itD) ws
  | _, _, .nil => ⟨[], .nil, by unfold Reps; rfl⟩
  | _, _, .cons h t => by
    obtain ⟨w, h1, h2⟩ := h
    obtain ⟨ws, h3, h4⟩ := each_its t
    refine ⟨w :: ws, .cons h1 h3, ?_⟩
    rw [List.map_cons]
    unfold Reps
    exact ⟨w, ws, rfl, h2, h4⟩
/-- more is laid -/
theorem Rl.more (r : Rl G K g H al S) (k : ∀ b o, H b = some o → H' b = some o) : Ext g H g H' ∧ Rl G K g H' al S := by
  have e : Ext g H g H' := ⟨fun a xs h => k a _ h, fun a h => by
    obtain ⟨o, ho⟩ := r.fr a h
    exact .inl ((k a o ho).trans ho.symm), fun _ h => h, fun _ _ h => h, rfl⟩
  refine ⟨e, r.keep e (fun a ha => ?_) fun P ps h => k P _ h⟩
  obtain ⟨o, ho⟩ := r.there ha
  exact (k a o ho).trans ho.symm
theorem Rl.hold (r : Rl G K g H al S) {v : Addr} {o : HO} (hv : H v = none) : Ext g H g (upd H v o) ∧ Rl G K g (upd H v o) al S := ⟨Ext.new hv (r.nF hv), r.new hv⟩
end
section
variable {X : Cx} {c : Ct}
/-- what is known of a view of a dict of ours, and what is wanted -/
def rView (c : Ct) (b : Blt) (mk : Addr → Addr → HO) : List V → Hp → VK → Prop := fun xs H Q => ∃ σ g al S v d ws kvs k, xs = [V.ref v] ∧ H v = some (mk v d) ∧ Rd H d (.dT ws) ∧ Rl c.G c.K g H al S ∧ RepK c.G c.K g H kvs ws ∧ bltD b [.dct kvs] = some k ∧ Out c (relL c) σ g H al (k.give S) Q
theorem call_sortedItems (hK : X.K = c.K) (hc : X.calm = true) (hu : X.A.units + 10 < cLine) : CallR X (.builtin "sorted") (rView c .sortedItems ivO) := by
  intro pins s σ H xs us Q I r h
  obtain ⟨σ', g, al, S, v, d, ws, kvs, kk, rfl, hv, hd, rl, rk, ek, out⟩ := h
  obtain ⟨ps, ec, rfl⟩ := Option.map_eq_some_iff.mp ek
  have ew := cints_at rk ec
  rw [Vals.ref1 r]
  have hview : s.heap.IsItemsView v d := (show ObjOk X.prog X.w H s.heap v (ivO v d) from I.hok v _ hv).1
  obtain ⟨hs0, hz, es, ep, hm, hsz, hent⟩ := raw_of I hd
  have hlp : ws.length = ps.length := by rw [ew, List.length_map]
  have hen : ∀ (j : Nat) (p : Cell × Int), ps[j]? = some p → ∃ (en : DictEntry) (q : Addr), es[j]? = some en ∧ en.key = Value.ref q ∧ H q = some (.tup ((keyC p.1).map kV)) ∧ RelV (.int p.2) en.val := fun j p e => by
    refine hent j (keyC p.1) (.int p.2) ?_
    rw [ew, List.getElem?_map, e]
    rfl
  refine call_function_entry_kw PyProof.Rows.kind_sorted PyProof.Rows.plain_sorted PyProof.Rows.entry_sorted (PyProof.Rows.args_sorted1 _) ?_
  unfold Builtin.«sorted»
  refine wpAny_bind (m := checkCount "sorted" 1 1 _) (wpAny_pure ?_)
  refine wpAny_bind (PySem.W.dil_collect (I.ok.hd hc) hview hm (by omega) fun h' tk as hk' hl hG => ?_)
  have hla : as.length = ps.length := by omega
  obtain ⟨qs, hq1, hq2⟩ := choose_list (P := fun j (x : Addr × V) => ∃ (p : Cell × Int) (en : DictEntry), ps[j]? = some p ∧ es[j]? = some en ∧ en.key = Value.ref x.1 ∧ H x.1 = some (.tup ((keyC p.1).map kV)) ∧ x.2 = .int p.2 ∧ RelV x.2 en.val) ps.length fun j hj => by
    obtain ⟨en, q, a1, a2, a3, a4⟩ := hen j ps[j] (List.getElem?_eq_getElem hj)
    exact ⟨(q, .int ps[j].2), ps[j], en, List.getElem?_eq_getElem hj, a1, a2, a3, rfl, a4⟩
  obtain ⟨H1, k1, k2, k3, I1⟩ := pairs_laid (tk := tk) (kvs := qs) I hk' (by omega) hG.rise (fun a ha => Nat.le_of_lt (hG.above a ha)) fun j a p e1 e2 => by
    obtain ⟨p', en, a1, a2, a3, a4, a5, a6⟩ := hq2 j p e2
    obtain ⟨hj, hg⟩ := hG.pairs j a e1
    have e3 : es[j] = en := by
      rw [Array.getElem?_eq_getElem hj] at a2
      exact Option.some.inj a2
    rw [e3, a3] at hg
    exact ⟨en.val, a6, hg⟩
  obtain ⟨e1, rl1⟩ := rl.more k1
  have out1 := out.rebase e1 (List.prefix_refl al)
  have hrep : ∀ (j : Nat) (a : Addr) (p : Cell × Int), as[j]? = some a → ps[j]? = some p → Rep c.G c.K g H1 (itD p) (.ref a) := fun j a p ea ep => by
    have hj : j < qs.length := by rw [hq1]; exact (List.getElem?_eq_some_iff.mp ep).1
    obtain ⟨p', en, a1, a2, a3, a4, a5, a6⟩ := hq2 j qs[j] (List.getElem?_eq_getElem hj)
    rw [ep] at a1
    cases a1
    obtain ⟨x, f1, f2⟩ := LiI.paired_get k3 ea
    rw [List.getElem?_eq_getElem hj] at f1
    cases f1
    rw [a5] at f2
    exact rep_it f2 (k1 _ _ a4)
  have hE : PySem.W.EachIs (fun u p => ∃ w, RelV w u ∧ Rep c.G c.K g H1 (itD p) w) (as.map Value.ref) ps := each_refs hla fun j a p ea ep => ⟨.ref a, rfl, hrep j a p ea ep⟩
  have hR : PySem.W.EachIs (fun u p => ∃ as', Reads h' u (encP p) as') (as.map Value.ref) ps := each_refs hla fun j a p ea ep => by
    have d1 := dp_of _ _ (encP p) (Rep.view (hrep j a p ea ep)) rfl
    rw [← hK] at d1
    exact Dp.reads I1 _ (.ref a) (.ref a) d1 rfl
  refine wpAny_bind (wpAny_newList ?_ (by rw [List.length_map]; omega))
  have hlen : (as.map Value.ref).length ≤ sizeLine := by rw [List.length_map]; omega
  have hal : PySem.W.AllAlike (ps.map encP) := PySem.W.AllAlike.of fun b b' => by
    unfold encP encC
    simp [PySem.W.alike, PySem.W.alikeAll]
  have hk : PySem.W.Sortable (ps.map encP) := PySem.W.Sortable.tuples fun b => ⟨_, _, rfl⟩
  have hget : (h'.push (seqObj "list" (as.map Value.ref).toArray 0)).get? h'.objs.size = some (seqObj "list" (as.map Value.ref).toArray 0) := Heap.get?_push_size _ rfl
  have hkp : ∀ b o, h'.get? b = some o → (PySem.W.sortingHeap (h'.push (seqObj "list" (as.map Value.ref).toArray 0)) h'.objs.size (as.map Value.ref)).get? b = some o := fun b o e => PySem.W.sortingHeap_old (Nat.ne_of_lt (Heap.lt_size e)) (Heap.get?_push_of_some _ e)
  have hR2 : PySem.W.EachIs (fun u p => ∃ as', Reads (PySem.W.sortingHeap (h'.push (seqObj "list" (as.map Value.ref).toArray 0)) h'.objs.size (as.map Value.ref)) u (encP p) as') (as.map Value.ref) ps := hR.mono fun _ _ ⟨l, r⟩ => ⟨l, PyProof.Rows.Reads.keeps hkp r⟩
  refine wpAny_bind (wpAny_holding (wpAny_call_entry_kw PyProof.Rows.slot_list_sort ⟨_, hget, rfl⟩ PyProof.Rows.entry_list_sort ?body (PyProof.Rows.args_list_sort _)))
  case body =>
    show wpAny (model X.prog X.w) X.A.in1.in1 (Builtin.«list.sort» ⟨[.ref h'.objs.size], []⟩) _ _ _
    refine PySem.W.list_sort_vals (s := { s with heap := h'.push (seqObj "list" (as.map Value.ref).toArray 0), toks := tk }) hget (PySem.W.SortsAt.data (A := X.A.in1.in1) (PySem.W.each_map (R := fun v d => ∃ as', Reads (PySem.W.sortingHeap (h'.push (seqObj "list" (as.map Value.ref).toArray 0)) h'.objs.size (as.map Value.ref)) v d as') encP hR2) hal hk (PySem.W.bound_map fun b _ => ?_)) hlen ?_
    · have : (encP b).depth ≤ 3 := by
        unfold encP encC
        simp [PyData.depth, PyData.depthAll]
      show X.A.units + 1 + 1 + (encP b).depth < cLine
      omega
    · have hsv := PySem.W.sortVals_data false hE hR2 hal
      rw [mergeSort_pairs] at hsv
      obtain ⟨vs', h3, h4⟩ := each_its hsv
      obtain ⟨ep', hat⟩ := PyProof.Rows.sortedHeap_at (out := (PySem.W.sortVals (PySem.W.dataKind (PySem.W.sortingHeap (h'.push (seqObj "list" (as.map Value.ref).toArray 0)) h'.objs.size (as.map Value.ref)) (ps.map encP)) false (as.map Value.ref) (as.map Value.ref)).toArray) hget
      have hlen2 : vs'.length ≤ sizeLine := by rw [← reps_length h4, List.length_map, (sortBy_perm pairLe ps).length_eq]; omega
      have q := Out.lst out1 rl1 h4 h'.objs.size (I1.hok.fresh (Nat.le_refl _))
      refine ⟨_, rfl, wpAny_pure ⟨_, rfl, ?_⟩⟩
      exact ⟨.ref _, upd H1 h'.objs.size (.lst vs'), I1.laid (t' := tk) (fun b o e => by
        rw [PyProof.Rows.sortedHeap_old (Nat.ne_of_lt (Heap.lt_size e)) (by rw [size_push']; exact Nat.lt_succ_of_lt (Heap.lt_size e))]
        exact Heap.get?_push_of_some _ e) (Nat.le_refl _) ⟨hlen2, _, ep', h3, by simpa using hat⟩, rfl, q⟩
theorem vals_of : ∀ {vs : List V} {us : List Value}, vs.length = us.length → (∀ (j : Nat) (v : V) (u : Value), vs[j]? = some v → us[j]? = some u → RelV v u) → Vals vs us
  | [], [], _, _ => .nil
  | [], _ :: _, h, _ => by cases h
  | _ :: _, [], h, _ => by cases h
  | v :: vs, u :: us, h, f => .cons (f 0 v u rfl rfl) (vals_of (Nat.succ.inj h) fun j a b e1 e2 => f (j + 1) a b (by simpa using e1) (by simpa using e2))
theorem repK_vals {G : Gd} {K : PySem.W.Frag} {g : Gh} {H : Hp} : ∀ {kvs : List (Cell × D)} {ws : List (List Key × V)}, RepK G K g H kvs ws → Reps G K g H (kvs.map (·.2)) (ws.map (·.2))
  | [], _, h => by
    unfold RepK at h
    subst h
    show Reps G K g H [] []
    unfold Reps
    rfl
  | (k, x) :: r, _, h => by
    unfold RepK at h
    obtain ⟨v, ws, rfl, h1, h2⟩ := h
    rw [List.map_cons, List.map_cons]
    unfold Reps
    exact ⟨v, _, rfl, h1, repK_vals h2⟩
theorem call_listValues (hc : X.calm = true) : CallR X (.type "list") (rView c .listValues vvO) := by
  intro pins s σ H xs us Q I r h
  obtain ⟨σ', g, al, S, v, d, ws, kvs, kk, rfl, hv, hd, rl, rk, ek, out⟩ := h
  cases ek
  rw [Vals.ref1 r]
  have hview : s.heap.IsValuesView v d := (show ObjOk X.prog X.w H s.heap v (vvO v d) from I.hok v _ hv).1
  obtain ⟨hs0, hz, es, ep, hm, hsz, hent⟩ := raw_of I hd
  refine PySem.W.kdl_call (KdlSrc.rawValues (es := es) (ep := ep)) (I.ok.hd hc) ⟨hview, hm⟩ (by omega) fun h' tk acc c' hk hS hI => ?_
  obtain ⟨hI1, hI2⟩ := hI
  have hf := I.hok.fresh (Nat.le_refl s.heap.objs.size)
  have hva : Vals (ws.map (·.2)) acc.toList := vals_of (by have e1 : acc.toList.length = acc.size := Array.length_toList; rw [List.length_map, e1]; omega) fun j v u e1 e2 => by
    rw [List.getElem?_map] at e1
    obtain ⟨kv, e3, rfl⟩ := Option.map_eq_some_iff.mp e1
    obtain ⟨en, q, a1, a2, a3, a4⟩ := hent j kv.1 kv.2 e3
    obtain ⟨hj, e4⟩ := hI2 j u (by rw [← Array.getElem?_toList]; exact e2)
    rw [Array.getElem?_eq_getElem hj] at a1
    rw [e4, Option.some.inj a1]
    exact a4
  exact ⟨.ref _, upd H s.heap.objs.size (.lst (ws.map (·.2))), I.laid (t' := tk) hk (Nat.le_refl _) ⟨by rw [List.length_map]; omega, acc.toList, c', hva, by rw [Array.toArray_toList]; exact hS⟩, rfl, Out.lst out rl (repK_vals rk) _ hf⟩
theorem call_maxValues (hc : X.calm = true) : CallR X (.builtin "max") (rView c .maxValues vvO) := by
  intro pins s σ H xs us Q I r h
  obtain ⟨σ', g, al, S, v, d, ws, kvs, kk, rfl, hv, hd, rl, rk, ek, out⟩ := h
  obtain ⟨ns, e1, e2⟩ := Option.bind_eq_some_iff.mp ek
  obtain ⟨n, e3, rfl⟩ := Option.map_eq_some_iff.mp e2
  have hw := reps_ints (repK_vals rk) e1
  rw [Vals.ref1 r]
  have hview : s.heap.IsValuesView v d := (show ObjOk X.prog X.w H s.heap v (vvO v d) from I.hok v _ hv).1
  obtain ⟨hs0, hz, es, ep, hm, hsz, hent⟩ := raw_of I hd
  have hln : ns.length = es.size := by
    have := congrArg List.length hw
    rw [List.length_map, List.length_map] at this
    omega
  have hn0 : 0 < ns.length := by
    cases ns with
    | nil => cases e3
    | cons _ _ => exact Nat.succ_pos _
  have hdl : d < s.heap.objs.size := hm.lt_size
  have hval : ∀ (i : Nat) (u : Value), (∃ hi : i < es.size, u = es[i].val) → ∃ t, u = .int (ns.getD i 0) t := fun i u ⟨hi, e⟩ => by
    have hi2 : i < ws.length := by omega
    obtain ⟨en, q, a1, a2, a3, a4⟩ := hent i ws[i].1 ws[i].2 (List.getElem?_eq_getElem hi2)
    rw [Array.getElem?_eq_getElem hi] at a1
    rw [e, Option.some.inj a1]
    have e5 : ws[i].2 = V.int (ns.getD i 0) := by
      have := congrArg (fun l => l[i]?) hw
      simp only [List.getElem?_map, List.getElem?_eq_getElem hi2, List.getElem?_eq_getElem (show i < ns.length by omega), Option.map_some] at this
      rw [List.getD_eq_getElem?_getD, List.getElem?_eq_getElem (show i < ns.length by omega)]
      exact Option.some.inj this
    rw [e5] at a4
    exact a4
  refine call_max_walk (wpAny_pyIter_values_raw hview hm ?_)
  refine ⟨s.heap.objs.size, _, _, es.size, _, _, _, rfl, Walks.rawValues (A := X.A.in1) (I.ok.hd hc) s.heap.objs.size d (Nat.ne_of_lt hdl) es ep, ⟨⟨_, Heap.get?_push_size _ rfl, rfl, rfl⟩, hm.push _⟩, fun b hb => ?_, by omega, CmpOf.ints_gt (fun i => ns.getD i 0) hval, fun u h' tk hP hk => ?_⟩
  · show b < (s.heap.push _).objs.size
    rw [size_push']
    rcases List.mem_cons.mp hb with rfl | hb
    · exact Nat.lt_succ_self _
    · rw [List.mem_singleton.mp hb]
      exact Nat.lt_succ_of_lt hdl
  · obtain ⟨t, rfl⟩ := hval _ u hP
    obtain ⟨g1, g2⟩ := argBest_gt (fun i => ns.getD i 0) (es.size - 1)
    have hmem : ∀ i, i < ns.length → ns.getD i 0 ∈ ns := fun i hi => by
      rw [List.getD_eq_getElem?_getD, List.getElem?_eq_getElem hi]
      exact List.getElem_mem hi
    have hmax : ns.getD (argBest (fun i j => decide (ns.getD i 0 > ns.getD j 0)) (es.size - 1)) 0 = n := max_is e3 (hmem _ (by omega)) fun y hy => by
      obtain ⟨j, hj, rfl⟩ := List.getElem_of_mem hy
      have := g2 j (by omega)
      rw [List.getD_eq_getElem?_getD, List.getElem?_eq_getElem hj] at this
      exact this
    refine ⟨.int _, H, I.kept (t' := tk) fun b o e => hk b o (fun z => ?_) (Heap.get?_push_of_some _ e), ⟨t, rfl⟩, ?_⟩
    · rw [List.mem_singleton.mp z] at e
      exact Nat.lt_irrefl _ (Heap.lt_size e)
    · rw [hmax]
      exact out.int rl
/-! ### in the text -/
variable {a : Expr} {fa : Env → Store → R Vl} {p apos cpos pos : Pos}
theorem se_view {b : Blt} {mk : Addr → Addr → HO} {x : Str} {e : Expr} (hb : ∀ ds k, bltD b ds = some k → ∃ kvs, ds = [D.dct kvs]) (hv : PE X e (fun σ H Q => (TQ c (relL c) fa) σ H fun x H1 => ∃ d kvs, x = .ref d ∧ Rd H1 d (.dT kvs) ∧ ∀ v, H1 v = none → Q (.ref v) (upd H1 v (mk v d))))
    (key : ∀ {t : TA}, PA X [e] t → PE X (.Call (.Name x p) [e] [] pos) (tCB (rView c b mk) t)) (hs : notStar e = true) :
    SE X c (.Call (.Name x p) [e] [] pos) (fun ρ S => ((fa ρ S).bind fun x S1 => (R.ok [] S1).bind fun xs S2 => .ok (x :: xs) S2).bind (kBlt b)) := by
  refine (key (pa_cons hv pa_nil (star_each hs))).imp fun σ H Q h => ?_
  obtain ⟨g, al, ρ, S, xa, rl, er, out⟩ := h
  simp only [R.bind_assoc] at out
  refine TQ.step (k := fun x S1 => (R.ok [] S1).bind fun xs S2 => (R.ok (x :: xs) S2).bind (kBlt b)) xa rl er out fun x H1 g1 al1 v S1 e1 p1 xa1 rl1 er1 q1 out1 => ?_
  have out1 : Out c (relL c) σ g1 H1 al1 (kBlt b [v] S1) Q := out1
  unfold kBlt at out1
  split at out1
  · rename_i xs ex
    obtain ⟨k, ek, out2⟩ := give_some out1
    obtain ⟨kvs, rfl⟩ := hb _ _ ek
    obtain ⟨u, hu1, hu2⟩ := rds_one ex
    cases hu1
    obtain ⟨d, ws, rfl, hRd, hrk⟩ := view_of rl1 q1 hu2
    refine ⟨d, ws, rfl, hRd, fun vv hvv => ?_⟩
    have hh := rl1.hold (o := mk vv d) hvv
    exact ⟨σ, g1, al1, S1, vv, d, ws, kvs, k, rfl, upd_same, hRd.elim (fun z => .inl (by rw [upd_ne (ne_of_none z hvv)]; exact z)) (fun ⟨o, z⟩ => .inr ⟨o, by rw [upd_ne (ne_of_none z hvv)]; exact z⟩), hh.2, hrk.mono hh.1, ek, out2.rebase hh.1 (List.prefix_refl _)⟩
  · exact out1.elim
theorem bd_items {ds : List D} {k : An} (e : bltD .sortedItems ds = some k) : ∃ kvs, ds = [D.dct kvs] := by
  unfold bltD at e
  split at e <;> first | (cases e; done) | contradiction | exact ⟨_, rfl⟩
theorem bd_vals {ds : List D} {k : An} (e : bltD .listValues ds = some k) : ∃ kvs, ds = [D.dct kvs] := by
  unfold bltD at e
  split at e <;> first | (cases e; done) | contradiction | exact ⟨_, rfl⟩
theorem bd_max {ds : List D} {k : An} (e : bltD .maxValues ds = some k) : ∃ kvs, ds = [D.dct kvs] := by
  unfold bltD at e
  split at e <;> first | (cases e; done) | contradiction | exact ⟨_, rfl⟩
theorem se_sortedItems (hK : X.K = c.K) (hc : X.calm = true) (hu : X.A.units + 10 < cLine) (hg : Gl X "sorted") (hm : X.mg "sorted" = none) (ha : SE X c a fa) (hb : plainBase a = true) (hl : (apos.endLine == cpos.line) = true) :
    SE X c (.Call (.Name "sorted" p) [.Call (.Attribute a "items" apos) [] [] cpos] [] pos) (fun ρ S => ((fa ρ S).bind fun x S1 => (R.ok [] S1).bind fun xs S2 => .ok (x :: xs) S2).bind (kBlt .sortedItems)) :=
  se_view (fun _ _ e => bd_items e) (pe_ditems ha (base_ok hb) hl) (fun ht => pe_callB (call_sortedItems hK hc hu) hg hm (by decide +kernel) ht (by decide) (by decide)) rfl
theorem se_listValues (hc : X.calm = true) (hg : Gl X "list") (hm : X.mg "list" = none) (ha : SE X c a fa) (hb : plainBase a = true) (hl : (apos.endLine == cpos.line) = true) :
    SE X c (.Call (.Name "list" p) [.Call (.Attribute a "values" apos) [] [] cpos] [] pos) (fun ρ S => ((fa ρ S).bind fun x S1 => (R.ok [] S1).bind fun xs S2 => .ok (x :: xs) S2).bind (kBlt .listValues)) :=
  se_view (fun _ _ e => bd_vals e) (pe_dvalues ha (base_ok hb) hl) (fun ht => pe_callTy (call_listValues hc) hg hm (by decide +kernel) ht (by decide) (by decide)) rfl
theorem se_maxValues (hc : X.calm = true) (hg : Gl X "max") (hm : X.mg "max" = none) (ha : SE X c a fa) (hb : plainBase a = true) (hl : (apos.endLine == cpos.line) = true) :
    SE X c (.Call (.Name "max" p) [.Call (.Attribute a "values" apos) [] [] cpos] [] pos) (fun ρ S => ((fa ρ S).bind fun x S1 => (R.ok [] S1).bind fun xs S2 => .ok (x :: xs) S2).bind (kBlt .maxValues)) :=
  se_view (fun _ _ e => bd_max e) (pe_dvalues ha (base_ok hb) hl) (fun ht => pe_callB (call_maxValues hc) hg hm (by decide +kernel) ht (by decide) (by decide)) rfl
end
end SW

-- SwSc
set_option Elab.async false
set_option linter.all false
set_option maxRecDepth 100000
set_option maxHeartbeats 4000000
set_option autoImplicit false
/-! SwSc: len(set(xs)), xs a list of cells -/
namespace SW
open PySem PySem.Spec PyProof.Rows L2
section
variable {X : Cx}
theorem pe_lenSetT {a : Expr} {ta : TE} {p p2 q pos : Pos} (hc : X.calm = true) (hu : X.A.units + 64 < cLine) (hg : Gl X "len") (hm : X.mg "len" = none) (hg2 : Gl X "set") (hm2 : X.mg "set" = none) (ha : PE X a ta) (na : starEach [a] X.env = (false, eval a X.env) :: starEach [] X.env) :
    PE X (.Call (.Name "len" p) [.Call (.Name "set" p2) [a] [] q] [] pos) (fun σ H Q => ta σ H fun x H1 => ∃ (l : Addr) (ks : List (Addr × List Int)), x = V.ref l ∧ SqL X.K H1 l (ks.map fun p => V.ref p.1) ∧ (∀ p ∈ ks, SqT X.K H1 p.1 (p.2.map V.int)) ∧ ks.length < 64 ∧ ∀ n : Nat, (∃ L : List (Addr × List Int), L.length = n ∧ (L.map (·.2)).Nodup ∧ (∀ p ∈ L, p ∈ ks) ∧ (∀ p ∈ ks, p.2 ∈ L.map (·.2))) → Q (.int n) H1) := by
  refine ⟨fun pins s σ H Q I h => ?_⟩
  refine Call_ (ld_blt I hg hm PySem.boot_len ?_)
  refine PyProof.Rows.callWith_builtin1 (PyProof.Rows.args_cons ?_ rfl) rfl rfl
  refine Call_ (ld_blt I hg2 hm2 PyProof.Rows.boot_set ?_)
  refine PyProof.Rows.callWith_type1 (PyProof.Rows.args_cons (thn (ha.run pins s σ H _ I h) fun v s1 ⟨x, H1, I1, r1, q1⟩ => PyProof.Rows.args_nil ?_) na) na rfl
  obtain ⟨l, ks, rfl, hq, hk, hf, q1⟩ := q1
  cases r1
  obtain ⟨its, rv, pl, hz⟩ := I1.list hq
  refine call_set_tups (P := X.prog) (w := X.w) ks (I1.ok.hd hc) pl.isList (by simpa using refs_of_vals rv) (fun p hp => I1.isT (hk p hp)) hf (by omega) fun h' tk L es ep t R g k => ?_
  refine PyProof.Rows.args_nil ?_
  have I2 : Inv X pins σ H1 { s1 with heap := h', toks := tk } := I1.kept k
  obtain ⟨o, ho, hex, hd⟩ := R.ob
  have R2 : SetTR X.prog X.w ({ s1 with heap := h', toks := tk } : Shared).heap s1.heap.objs.size L es ep t := R
  have hsz := R2.size
  have hft := R2.fits
  have hfew := R.few
  exact call_len_set ho hex hd hft (by rw [hsz]; omega) ⟨.int L.length, H1, I2.tok _, ⟨_, by rw [hsz]⟩, q1 _ ⟨L, rfl, R.nd, fun p hp => List.mem_of_mem_take (g.sub p hp), fun p hp => g.all p (by rw [List.take_length]; exact hp)⟩⟩
end
section
variable {G : Gd} {K : PySem.W.Frag} {g : Gh} {H : Hp}
theorem cells_refs : ∀ {ys : List D} {ws : List V} {cs : List Cell}, Reps G K g H ys ws → cellsOf ys = some cs → ∃ ks : List (Addr × List Int), ws = ks.map (fun p => V.ref p.1) ∧ ks.map (·.2) = cs.map (fun c => [c.1, c.2]) ∧ ∀ p ∈ ks, SqT K H p.1 (p.2.map V.int)
  | [], ws, cs, r, e => by
    cases e
    unfold Reps at r
    subst r
    exact ⟨[], rfl, rfl, by simp⟩
  | y :: ys, ws, cs, r, e => by
    unfold Reps at r
    obtain ⟨w, wr, rfl, h1, h2⟩ := r
    unfold cellsOf at e
    cases e1 : cellOf y with
    | none => rw [e1] at e; cases e
    | some k =>
      cases e2 : cellsOf ys with
      | none => rw [e1, e2] at e; cases e
      | some kr =>
        rw [e1, e2] at e
        cases e
        have ey := cell_eq e1
        subst ey
        obtain ⟨ks, q1, q2, q3⟩ := cells_refs h2 e2
        obtain ⟨a, vs, rfl, h3, h4⟩ := tup_sq (Rep.view h1)
        have hvs : vs = [V.int k.1, V.int k.2] := by
          unfold Reps at h4
          obtain ⟨x1, r1, rfl, e3, h5⟩ := h4
          unfold Reps at h5
          obtain ⟨x2, r2, rfl, e4, h6⟩ := h5
          unfold Reps at h6
          subst h6
          unfold Rep at e3 e4
          rw [e3, e4]
        subst hvs
        refine ⟨(a, [k.1, k.2]) :: ks, by rw [q1]; rfl, by rw [List.map_cons, q2]; rfl, fun p hp => ?_⟩
        rcases List.mem_cons.mp hp with z | z
        · rw [z]; exact h3
        · exact q3 p z
end
theorem sub_lenC {α : Type} [DecidableEq α] : ∀ (l cs : List α), l.Nodup → (∀ a ∈ l, a ∈ cs) → l.length ≤ cs.length
  | [], _, _, _ => Nat.zero_le _
  | x :: r, cs, hn, hs => by
    have hx := hs x List.mem_cons_self
    have hn2 := List.nodup_cons.mp hn
    have := sub_lenC r (cs.erase x) hn2.2 fun a ha => by
      have hne : a ≠ x := fun e => hn2.1 (e ▸ ha)
      exact (List.mem_erase_of_ne hne).mpr (hs a (List.mem_cons_of_mem _ ha))
    rw [List.length_erase_of_mem hx] at this
    have h0 : 0 < cs.length := List.length_pos_of_mem hx
    rw [List.length_cons]
    omega
theorem memErase (c : Cell) : ∀ (n : Nat) (l : List Cell), l.length ≤ n → (c ∈ l.eraseDups ↔ c ∈ l)
  | _, [], _ => by rw [List.eraseDups_nil]
  | 0, _ :: _, h => by simp at h
  | n + 1, a :: l, h => by
    rw [List.eraseDups_cons, List.mem_cons, List.mem_cons, memErase c n _ (Nat.le_trans (List.length_filter_le _ _) (by simpa using h)), List.mem_filter]
    by_cases e : c = a
    · simp [e]
    · simp [e]
theorem nodErase : ∀ (n : Nat) (l : List Cell), l.length ≤ n → l.eraseDups.Nodup
  | _, [], _ => by rw [List.eraseDups_nil]; exact List.nodup_nil
  | 0, _ :: _, h => by simp at h
  | n + 1, a :: l, h => by
    have hl : (l.filter fun b => !b == a).length ≤ n := Nat.le_trans (List.length_filter_le _ _) (by simpa using h)
    rw [List.eraseDups_cons, List.nodup_cons]
    refine ⟨fun z => ?_, nodErase n _ hl⟩
    have := (List.mem_filter.mp ((memErase a n _ hl).mp z)).2
    simp at this
def encI (c : Cell) : List Int := [c.1, c.2]
theorem encI_inj {a b : Cell} (h : encI a = encI b) : a = b := by
  unfold encI at h
  injection h with h1 h2
  injection h2 with h2 _
  exact Prod.ext h1 h2
theorem map_nodI : ∀ {l : List Cell}, l.Nodup → (l.map encI).Nodup
  | [], _ => List.nodup_nil
  | a :: l, h => by
    have h2 := List.nodup_cons.mp h
    rw [List.map_cons, List.nodup_cons]
    refine ⟨fun z => ?_, map_nodI h2.2⟩
    obtain ⟨b, hb, e⟩ := List.mem_map.mp z
    exact h2.1 (encI_inj e ▸ hb)
theorem count_keys {L ks : List (Addr × List Int)} {cs : List Cell} (h1 : (L.map (·.2)).Nodup) (h2 : ∀ p ∈ L, p ∈ ks) (h3 : ∀ p ∈ ks, p.2 ∈ L.map (·.2)) (h4 : ks.map (·.2) = cs.map (fun c => [c.1, c.2])) : L.length = cs.eraseDups.length := by
  have h4 : ks.map (·.2) = cs.map encI := h4
  have a1 := sub_lenC (L.map (·.2)) (cs.eraseDups.map encI) h1 fun k hk => by
    obtain ⟨p, hp, rfl⟩ := List.mem_map.mp hk
    have : p.2 ∈ ks.map (·.2) := List.mem_map.mpr ⟨p, h2 p hp, rfl⟩
    rw [h4] at this
    obtain ⟨c, hc, e⟩ := List.mem_map.mp this
    exact List.mem_map.mpr ⟨c, (memErase c _ cs (Nat.le_refl _)).mpr hc, e⟩
  have a2 := sub_lenC (cs.eraseDups.map encI) (L.map (·.2)) (map_nodI (nodErase _ cs (Nat.le_refl _))) fun k hk => by
    obtain ⟨c, hc, rfl⟩ := List.mem_map.mp hk
    have : encI c ∈ ks.map (·.2) := by
      rw [h4]
      exact List.mem_map.mpr ⟨c, (memErase c _ cs (Nat.le_refl _)).mp hc, rfl⟩
    obtain ⟨p, hp, e⟩ := List.mem_map.mp this
    rw [← e]
    exact h3 p hp
  rw [List.length_map, List.length_map] at a1 a2
  omega
section
variable {X : Cx} {c : Ct} {a : Expr} {fa : Env → Store → R Vl} {p p2 q pos : Pos}
theorem bd_lenSet {ds : List D} {k : An} (e : bltD .lenSet ds = some k) : ∃ ys cs, ds = [D.lst ys] ∧ cellsOf ys = some cs ∧ cs.length < 64 ∧ k = .d (.int cs.eraseDups.length) := by
  unfold bltD at e
  split at e <;> first
    | (cases e; done)
    | contradiction
    | (obtain ⟨cs, e1, e2⟩ := Option.bind_eq_some_iff.mp e
       split at e2
       · rename_i hq
         exact ⟨_, cs, rfl, e1, hq, (Option.some.inj e2).symm⟩
       · cases e2)
theorem se_lenSet (hK : X.K = c.K) (hc : X.calm = true) (hu : X.A.units + 64 < cLine) (hg : Gl X "len") (hm : X.mg "len" = none) (hg2 : Gl X "set") (hm2 : X.mg "set" = none) (ha : SE X c a fa) (hs : notStar a = true) :
    SE X c (.Call (.Name "len" p) [.Call (.Name "set" p2) [a] [] q] [] pos) (fun ρ S => ((fa ρ S).bind fun x S1 => (R.ok [] S1).bind fun xs S2 => .ok (x :: xs) S2).bind (kBlt .lenSet)) := by
  refine (pe_lenSetT hc hu hg hm hg2 hm2 ha (star_each hs)).imp fun σ H Q h => ?_
  obtain ⟨g, al, ρ, S, xa, rl, er, out⟩ := h
  simp only [R.bind_assoc] at out
  refine TQ.step (k := fun x S1 => (R.ok [] S1).bind fun xs S2 => (R.ok (x :: xs) S2).bind (kBlt .lenSet)) xa rl er out fun x H1 g1 al1 v S1 e1 p1 xa1 rl1 er1 q1 out1 => ?_
  have out1 : Out c (relL c) σ g1 H1 al1 (kBlt .lenSet [v] S1) Q := out1
  unfold kBlt at out1
  split at out1
  · rename_i xs ex
    obtain ⟨k, ek, out2⟩ := give_some out1
    obtain ⟨ys, cs, rfl, hcs, h64, rfl⟩ := bd_lenSet ek
    obtain ⟨u, hu1, hu2⟩ := rds_one ex
    cases hu1
    obtain ⟨a', ws, rfl, h1, h2⟩ := lst_sq (view_of rl1 q1 hu2)
    obtain ⟨ks, rfl, h3, h4⟩ := cells_refs h2 hcs
    have hl := congrArg List.length h3
    rw [List.length_map, List.length_map] at hl
    refine ⟨a', ks, rfl, hK ▸ h1, fun p hp => hK ▸ h4 p hp, by omega, fun n ⟨L, l1, l2, l3, l4⟩ => ?_⟩
    have hn := count_keys l2 l3 l4 h3
    rw [l1] at hn
    rw [hn]
    exact out2.int rl1
  · exact out1.elim
end
end SW

-- SwT
set_option Elab.async false
set_option linter.all false
set_option maxRecDepth 100000
set_option maxHeartbeats 4000000
set_option autoImplicit false
/-! SwT: what is known of a context; the checker of expressions -/
namespace SW
open PySem PySem.Spec PyProof.Rows L2

/-- what the checker is told of the code that runs -/
structure Info where
  N : List Str
  sc : Scope
  nm : Nm
  hot : Bool
  top : Bool
/-- what a cold context offers -/
structure Cold (X : Cx) (c : Ct) (cf : CF) (lv gd : Nat) : Prop where
  calm : X.calm = true
  room : Room (lv + 3 * gd + 3) X.A
  own : PassesOwn (model X.prog X.w) X.A X.env X.xe
  xo : ∀ a k d, ¬ c.xo a k d
  fok : ∀ f, c.G.ok f → PySem.W.keepIn X.K (.ref (c.G.fnA f)) = true ∧ ∃ fd ps, FnOk X.prog X.w X.K X.mg X.base (L2.CX X.prog X.w) lv (c.G.fnA f) fd ps (spF c.G c.K c.xo cf f) ∧ Binds X.K fd ps []
  mok : ∀ k f, c.G.okM k f → c.G.okC k ∧ ∃ a, Mk X.K (c.G.clsA k) a ∧ ∃ fd ps, FnOk X.prog X.w X.K X.mg X.base (L2.CX X.prog X.w) lv a fd ps (spF c.G c.K c.xo cf f) ∧ Binds X.K fd ps []
  uok : ∀ m f, c.G.okU m f → ∃ a, Cls X.K (c.G.clsA 1) ∧ Meth X.K (c.G.clsA 1) m a ∧ ∃ fd ps, FnOk X.prog X.w X.K X.mg X.base (L2.CX X.prog X.w) lv a fd ps (spF c.G c.K c.xo cf f) ∧ Binds X.K fd ps []
structure Good (i : Info) (X : Cx) (c : Ct) (cf : CF) (lv gd : Nat) : Prop where
  K : X.K = c.K
  N : X.N = i.N
  nd : X.N.Nodup
  sc : X.env.scope = i.sc
  un : X.A.units + 100 < cLine
  tk : Takes X c.W
  top : i.top = true → (∀ x, X.fn x = true) ∧ X.stack = X.env :: X.outer ∧ X.env.frame = some X.env.locals
  fn : ∀ x f, i.nm.fn x = some f → X.mg x = some (.ref (c.G.fnA f)) ∧ c.G.ok f
  cls : ∀ x k, i.nm.cls x = some k → X.mg x = some (.ref (c.G.clsA k))
  con : ∀ x y, i.nm.con x = some y → ∃ v u, X.mg x = some u ∧ RelV v u ∧ ∀ g H, Rep c.G c.K g H y v
  blt : ∀ x, i.nm.blt x = true → X.mg x = none
  fld : ∀ f, i.nm.fld f = true → FldOk c f
  ini : ∀ k f, i.nm.ini k = some f → c.G.okM k f
  exn : ∀ x k, i.nm.exn x = some k → X.mg x = some (.ref (c.G.clsA k)) ∧ c.G.okX k
  exo : ∀ k, c.G.okX k → plainK k = true → (∃ bmB B newId initId, ExcBaseFacts B newId initId bmB ∧ PySem.W.excIn X.K (c.G.clsA k) bmB newId = true) ∧ PySem.W.keepIn X.K (.ref (c.G.clsA k)) = true ∧ Raises X (.ref (c.G.clsA k))
  exm : ∀ k k0, c.G.okX k → c.G.okX k0 → PySem.W.exmOne X.K (.ref (c.G.clsA k)) (.ref (c.G.clsA k0)) = some (excSub k k0)
  cold : i.hot = false → Cold X c cf lv gd
  code : i.nm.gen = true → i.hot = false → Coded X c
  exs : ∀ k, c.G.okX k → ExcC X.K (c.G.clsA k)
  exk : ∀ k k2, c.G.okX k → c.G.okX k2 → PySem.W.kitOne X.K (.ref (c.G.clsA k)) (.ref (c.G.clsA k2)) = some (excSub k k2)
  exv : ∀ k, c.G.okX k → PySem.W.kitOne X.K (.ref (c.G.clsA k)) (.type "ValueError") = some true
  pxo : ∀ k, c.G.okX k → plainK k = false → X.mg "super" = none ∧ ∃ fI fd x, PxC X.prog X.K (c.G.clsA k) fI fd x (excF k)
  exn0 : ∀ k, c.G.okX k → PySem.W.findIn X.K (.ref (c.G.clsA k)) (excF k) = some none
  mth : ∀ m f, i.nm.mth m = some f → c.G.okU m f
  xfl : i.hot = true → ExnFld X c
  isv : i.hot = true → ∀ a k d, c.xo a k d → PySem.W.kitOne X.K (.ref (c.G.clsA k)) (.type "ValueError") = some true
  isx : i.hot = true → ExnIs X c ∧ ∀ a k d, c.xo a k d → ∀ k2, c.G.okX k2 → PySem.W.kitOne X.K (.ref (c.G.clsA k)) (.ref (c.G.clsA k2)) = some (excSub k k2)
def Info.blk (i : Info) (scope : Scope) : Info := { i with sc := relS scope i.sc, top := false }
def Info.gen (i : Info) (scope : Scope) : Info := { i with sc := scope, top := false }
def Info.sui (i : Info) : Info := { i with hot := true, top := false }
theorem around_in1_units (A : Around) : A.in1.units = A.units + 1 := rfl
section
variable {i : Info} {X : Cx} {c : Ct} {cf : CF} {lv gd : Nat}
theorem Cold.noX (h : Cold X c cf lv gd) : Cold X c.noX cf lv gd := ⟨h.calm, h.room, h.own, h.xo, h.fok, h.mok, h.uok⟩
theorem good_blk (h : Good i X c cf lv gd) (scope : Scope) (hh : i.hot = false) (s : Shared) (H : Hp) (C : Addr) (cl : List (Str × Addr)) (fp : List Addr) : Good (i.blk scope) (X.blk s H scope (compEnvC scope cl C X.env) fp) c.noX cf lv gd where
  K := h.K
  N := h.N
  nd := h.nd
  sc := by
    show relS scope X.env.scope = relS scope i.sc
    rw [h.sc]
  un := h.un
  tk := takes0
  top := fun z => by cases (show false = true from z)
  fn := h.fn
  cls := h.cls
  con := h.con
  blt := h.blt
  fld := fun f z => ⟨(h.fld f z).cls⟩
  exn := h.exn
  ini := h.ini
  exo := h.exo
  pxo := h.pxo
  exn0 := h.exn0
  mth := h.mth
  exm := h.exm
  exs := h.exs
  exk := h.exk
  exv := h.exv
  cold := fun z => let k := h.cold z; ⟨k.calm, k.room, PassesOwn.never, k.xo, k.fok, k.mok, k.uok⟩
  code := fun z1 z2 => let k := h.code z1 z2; ⟨k.ex, k.bm⟩
  xfl := fun z => by rw [show i.hot = true from z] at hh; cases hh
  isv := fun z => by rw [show i.hot = true from z] at hh; cases hh
  isx := fun z => by rw [show i.hot = true from z] at hh; cases hh
theorem good_gen (h : Good i X c cf lv (gd + 1)) (scope : Scope) (hh : i.hot = false) (s : Shared) (H : Hp) (C : Addr) (cc P2 : Addr) (fp : List Addr) (pn : List (Addr × Obj)) : Good (i.gen scope) (gX X s H (X.A.in1.in1.deeper (gEnv X scope C (.ref cc))) (gEnv X scope C (.ref cc)) fp pn) (c.noX.code cc P2) cf lv gd where
  K := h.K
  N := h.N
  nd := h.nd
  sc := rfl
  un := by
    have r := (h.cold hh).room.un
    show X.A.units + 1 + 1 + 3 + 100 < cLine
    omega
  tk := takes0
  top := fun z => by cases (show false = true from z)
  fn := h.fn
  cls := h.cls
  con := h.con
  blt := h.blt
  fld := fun f z => ⟨(h.fld f z).cls⟩
  exn := h.exn
  ini := h.ini
  exo := h.exo
  pxo := h.pxo
  exn0 := h.exn0
  mth := h.mth
  exm := h.exm
  exs := h.exs
  exk := h.exk
  exv := h.exv
  cold := fun z => by
    have k := h.cold z
    refine ⟨rfl, ?_, PassesOwn.never, k.xo, k.fok, k.mok, k.uok⟩
    have r := k.room
    have e : lv + 3 * (gd + 1) + 3 = (lv + 3 * gd + 3) + 1 + 1 + 1 := by omega
    rw [e] at r
    exact (r.in1.in1).deeper _
  code := fun z1 z2 => by
    have k := h.code z1 z2
    exact ⟨⟨cc, P2, rfl, .inr (.inr ⟨rfl, rfl⟩)⟩, k.bm⟩
  xfl := fun z => by rw [show i.hot = true from z] at hh; cases hh
  isv := fun z => by rw [show i.hot = true from z] at hh; cases hh
  isx := fun z => by rw [show i.hot = true from z] at hh; cases hh
theorem good_tr (h : Good i X c cf lv gd) (hh : i.hot = false) {W : WX} {pn : List (Addr × Obj)} {xe : Value → Shared → Prop} (tk : Takes (X.tr pn xe) W) (po : PassesOwn (model X.prog X.w) X.A X.env xe) : Good i (X.tr pn xe) (c.wsh W) cf lv gd where
  K := h.K
  N := h.N
  nd := h.nd
  sc := h.sc
  un := h.un
  tk := tk
  top := h.top
  fn := h.fn
  cls := h.cls
  con := h.con
  blt := h.blt
  fld := fun f z => ⟨(h.fld f z).cls⟩
  exn := h.exn
  ini := h.ini
  exo := h.exo
  pxo := h.pxo
  exn0 := h.exn0
  mth := h.mth
  exm := h.exm
  exs := h.exs
  exk := h.exk
  exv := h.exv
  cold := fun z => let k := h.cold z; ⟨k.calm, k.room, po, k.xo, k.fok, k.mok, k.uok⟩
  code := fun z1 z2 => let k := h.code z1 z2; ⟨k.ex, k.bm⟩
  xfl := fun z => by rw [show i.hot = true from z] at hh; cases hh
  isv := fun z => by rw [show i.hot = true from z] at hh; cases hh
  isx := fun z => by rw [show i.hot = true from z] at hh; cases hh
theorem exn_is (h : Good i X c cf lv gd) {a : Addr} {oe : Obj} {cls : Value} {d : Option Addr} {pn : List (Addr × Obj)} (hz : Zc cls d oe) (hf : ∃ vs, oe.data = .fields vs) : ExnIs (X.suite a ((a, oe) :: pn)) (c.sui a cls d) where
  call := fun a' k d' h1 => by
    obtain ⟨h1, h2, h3, h4⟩ := h1
    subst h1 h2 h3
    exact call_isE2 (h.exs k h4) hz hf
theorem exn_fld (h : Good i X c cf lv gd) {a : Addr} {oe : Obj} {cls : Value} {d : Option Addr} {pn : List (Addr × Obj)} (hz : Zc cls d oe) (hf : ∃ vs, oe.data = .fields vs) : ExnFld (X.suite a ((a, oe) :: pn)) (c.sui a cls d) where
  get := fun a' k dd h1 pins σ H1 s1 fs v Q I1 ea l q => by
    obtain ⟨h1, h2, h3, h4⟩ := h1
    subst h1 h2
    rw [← h3] at hz
    exact get_xf (h.exs k h4) (h.exn0 k h4) hz hf I1 ea l q
theorem good_sui (h : Good i X c cf lv gd) {a : Addr} {oe : Obj} {cls : Value} {d : Option Addr} {pn : List (Addr × Obj)} (hz : Zc cls d oe) (hf : ∃ vs, oe.data = .fields vs) : Good i.sui (X.suite a ((a, oe) :: pn)) (c.sui a cls d) cf lv gd where
  K := h.K
  N := h.N
  nd := h.nd
  sc := h.sc
  un := h.un
  tk := takes0
  top := fun z => by cases (show false = true from z)
  fn := h.fn
  cls := h.cls
  con := h.con
  blt := h.blt
  fld := fun f z => ⟨(h.fld f z).cls⟩
  exn := h.exn
  ini := h.ini
  exo := h.exo
  pxo := h.pxo
  exn0 := h.exn0
  mth := h.mth
  exm := h.exm
  exs := h.exs
  exk := h.exk
  exv := h.exv
  cold := fun z => by cases (show true = false from z)
  code := fun z1 z2 => by cases (show true = false from z2)
  xfl := fun _ => exn_fld h hz hf
  isv := fun _ a' k d' z => h.exv k z.2.2.2
  isx := fun _ => ⟨exn_is h hz hf, fun a' k d' z k2 hk2 => h.exk k k2 z.2.2.2 hk2⟩
end

/-! ### the checker -/
def visB (i : Info) (x : Str) : Bool := match i.sc.names.lookup x with
  | some .local => true
  | some .cell => true
  | some .free => true
  | _ => false
def glB (i : Info) (x : Str) : Bool := i.sc.names.lookup x == some .globalImplicit
def dbg (x : Str) : Bool := x != ("__debug__" : Str) && x != ("__classdict__" : Str)
def slotB (i : Info) (n : Nat) (x : Str) : Bool := decide (i.N[n]? = some x) && visB i x && dbg x
/-- a name that is stored -/
def tgtB (i : Info) (n : Nat) (x : Str) : Bool := decide (i.N[n]? = some x) && (i.sc.names.lookup x == some .local || (i.top && i.sc.names.lookup x == some .cell))
def tgtsB (i : Info) : List Nat → List Expr → Bool
  | [], [] => true
  | n :: is, .Name x _ :: es => tgtB i n x && tgtsB i is es
  | _, _ => false
def tgB (i : Info) : Tg → Expr → Bool
  | .one n, .Name x _ => tgtB i n x
  | .tup is, .Tuple es _ _ => tgtsB i is es
  | _, _ => false
def bltB (i : Info) (x : Str) : Bool := glB i x && i.nm.blt x && dbg x
section
variable {i : Info} {X : Cx} {c : Ct} {cf : CF} {lv gd : Nat} {x : Str} {n : Nat}
theorem vis_ok (h : Good i X c cf lv gd) (z : visB i x = true) : Vis X.env.scope x := by
  unfold visB at z
  rw [h.sc]
  unfold Vis
  split at z
  · exact .inl (by assumption)
  · exact .inr (.inl (by assumption))
  · exact .inr (.inr (by assumption))
  · cases z
theorem gl_ok (h : Good i X c cf lv gd) (z : glB i x = true) : Gl X x := by
  unfold glB at z
  show X.env.scope.names.lookup x = _
  rw [h.sc]
  exact eq_of_beq z
theorem dbg_ok (z : dbg x = true) : (x == ("__debug__" : Str)) = false ∧ (x == ("__classdict__" : Str)) = false := by
  unfold dbg at z
  rw [Bool.and_eq_true] at z
  exact ⟨by simpa [bne] using z.1, by simpa [bne] using z.2⟩
theorem slot_ok (h : Good i X c cf lv gd) (z : slotB i n x = true) : X.N[n]? = some x ∧ Vis X.env.scope x ∧ (x == ("__debug__" : Str)) = false ∧ (x == ("__classdict__" : Str)) = false := by
  unfold slotB at z
  rw [Bool.and_eq_true, Bool.and_eq_true] at z
  exact ⟨by rw [h.N]; exact of_decide_eq_true z.1.1, vis_ok h z.1.2, dbg_ok z.2⟩
theorem tgt_ok (h : Good i X c cf lv gd) (z : tgtB i n x = true) : NmOk X n x := by
  unfold tgtB at z
  rw [Bool.and_eq_true, Bool.or_eq_true] at z
  obtain ⟨z1, z2⟩ := z
  have e1 : X.N[n]? = some x := by rw [h.N]; exact of_decide_eq_true z1
  rcases z2 with z2 | z2
  · have z2 := eq_of_beq z2
    rw [← h.sc] at z2
    exact ⟨e1, .inl z2, .inr z2⟩
  · rw [Bool.and_eq_true] at z2
    have z3 := eq_of_beq z2.2
    rw [← h.sc] at z3
    exact ⟨e1, .inr z3, .inl ((h.top z2.1).1 x)⟩
theorem tgts_ok (h : Good i X c cf lv gd) : ∀ {is : List Nat} {es : List Expr}, tgtsB i is es = true → NmsOk X is es
  | [], [], _ => .nil
  | [], _ :: _, z => by cases z
  | n :: is, [], z => by cases z
  | n :: is, e :: es, z => by
    cases e <;> try (cases z; done)
    rename_i x p
    have z : (tgtB i n x && tgtsB i is es) = true := z
    rw [Bool.and_eq_true] at z
    exact .cons (tgt_ok h z.1) (tgts_ok h z.2)
theorem tg_ok (h : Good i X c cf lv gd) (hh : i.hot = false) {t : Tg} {e : Expr} (z : tgB i t e = true) : PG X e (gQ c t) := by
  cases t with
  | one n =>
    cases e <;> try (cases z; done)
    exact sg_one h.nd (tgt_ok h z)
  | tup is =>
    cases e <;> try (cases z; done)
    exact sg_tup h.K (h.cold hh).calm h.nd (tgts_ok h z)
theorem blt_ok (h : Good i X c cf lv gd) (z : bltB i x = true) : Gl X x ∧ X.mg x = none ∧ (x == ("__debug__" : Str)) = false := by
  unfold bltB at z
  rw [Bool.and_eq_true, Bool.and_eq_true] at z
  exact ⟨gl_ok h z.1.1, h.blt x z.1.2, (dbg_ok z.2).1⟩
end
end SW

-- SwU
set_option Elab.async false
set_option linter.all false
set_option maxRecDepth 100000
set_option maxHeartbeats 8000000
set_option autoImplicit false
/-! SwU: the checker of expressions -/
namespace SW
open PySem PySem.Spec PyProof.Rows L2

def conB (i : Info) : D → Expr → Bool
  | .non, .Constant .none _ _ => true
  | .bl b, .Constant (.bool b') _ _ => b == b'
  | .int a, .Constant (.int b) _ _ => a == b
  | .str a, .Constant (.str b) _ _ => a == b
  | .int a, .Name y _ => glB i y && dbg y && (match i.nm.con y with
    | some (.int b) => a == b
    | _ => false)
  | .str a, .Name y _ => glB i y && dbg y && (match i.nm.con y with
    | some (.str b) => a == b
    | _ => false)
  | .fn f, .Name y _ => glB i y && dbg y && decide (i.nm.fn y = some f)
  | _, _ => false
def bltNm : Blt → Str → Bool
  | .len, x => x == ("len" : Str)
  | .int, x => x == ("int" : Str)
  | .str, x => x == ("str" : Str)
  | .tuple, x => x == ("tuple" : Str)
  | .list, x => x == ("list" : Str)
  | .dict, x => x == ("dict" : Str)
  | .sorted, x => x == ("sorted" : Str)
  | .min, x => x == ("min" : Str)
  | .max, x => x == ("max" : Str)
  | .all, x => x == ("all" : Str)
  | .any, x => x == ("any" : Str)
  | _, _ => false
def methB : Mth → Str → List Expr → Bool
  | .join, n, [_] => n == ("join" : Str)
  | .index, n, [_] => n == ("index" : Str)
  | .split, n, [_] => n == ("split" : Str)
  | .get, n, [_] => n == ("get" : Str)
  | .get, n, [_, _] => n == ("get" : Str)
  | _, _, _ => false
/-- tuple(reversed(x)): x -/
def revA (i : Info) : Blt → Str → Expr → List Expr → Option Expr
  | .tupleRev, y, .Call (.Name y2 _) [x2] [] _, [] => if (decide (y = ("tuple" : Str)) && decide (y2 = ("reversed" : Str)) && bltB i ("reversed" : Str)) = true then some x2 else none
  | _, _, _, _ => none
/-- sorted(d.items()), list(d.values()), max(d.values()): d -/
def viewA (i : Info) : Blt → Str → Expr → List Expr → Option Expr
  | .sortedItems, y, .Call (.Attribute x2 n apos) [] [] cpos, [] => if (decide (y = ("sorted" : Str)) && decide (n = ("items" : Str)) && (apos.endLine == cpos.line) && plainBase x2) = true then some x2 else none
  | .listValues, y, .Call (.Attribute x2 n apos) [] [] cpos, [] => if (decide (y = ("list" : Str)) && decide (n = ("values" : Str)) && (apos.endLine == cpos.line) && plainBase x2) = true then some x2 else none
  | .maxValues, y, .Call (.Attribute x2 n apos) [] [] cpos, [] => if (decide (y = ("max" : Str)) && decide (n = ("values" : Str)) && (apos.endLine == cpos.line) && plainBase x2) = true then some x2 else none
  | .lenSet, y, .Call (.Name y2 _) [x2] [] _, [] => if (decide (y = ("len" : Str)) && decide (y2 = ("set" : Str)) && bltB i ("set" : Str) && notStar x2) = true then some x2 else none
  | _, _, _, _ => none
def isCls : Ty → Option Nat
  | .cls k => some k
  | _ => none
def ownN (i : Info) (own : List Nat) : List (Str × Nat) := own.map fun n => ((i.N[n]?).getD "", n)
theorem ownN_snd (i : Info) (own : List Nat) : (ownN i own).map (·.2) = own := by
  unfold ownN
  rw [List.map_map]
  exact List.map_id own
def covers (t : Tg) (own : List Nat) : Bool := t.ix.all fun n => decide (n ∈ own)
def plainIter : Expr → Bool
  | .List _ _ => false
  | .Set _ _ _ => false
  | _ => true
/-- found, and nothing else happens -/
def stillB : E → Expr → Bool
  | .var _, .Name _ _ => true
  | .con (.int _), .Constant (.int _) _ _ => true
  | .idx (.var _) (.var _), .Subscript (.Name _ _) (.Name _ _) _ => true
  | _, _ => false
mutual
/-- e is t's text; m: as a test -/
def chkE : E → Bool → Info → Nat → Expr → Bool
  | .con x, _, i, _, e => conB i x e
  | .var n, _, i, _, e => match e with
    | .Name y _ => slotB i n y
    | _ => false
  | .bin o a b, _, i, gd, e => match e with
    | .BinOp x op y _ => decide (op = opP o) && chkE a false i gd x && chkE b false i gd y
    | _ => false
  | .neg a, _, i, gd, e => match e with
    | .UnaryOp .USub x _ => chkE a false i gd x
    | _ => false
  | .cmp o a b, _, i, gd, e => match e with
    | .Compare x [op] [y] _ => decide (op = copP o) && !behindInMarks op y && chkE a false i gd x && chkE b false i gd y
    | _ => false
  | .isN n a, _, i, gd, e => match e with
    | .Compare x [op] [.Constant .none _ _] _ => decide (op = isOp n) && chkE a false i gd x
    | _ => false
  | .le2 a b d, m, i, gd, e => match e with
    | .Compare x [.LtE, .LtE] [y, z] _ => !m && !lastMarks [.LtE, .LtE] [y, z] && chkE a false i gd x && chkE b false i gd y && chkE d false i gd z
    | _ => false
  | .and a r, m, i, gd, e => match e with
    | .BoolOp .And [x, y] _ => chkE a m i gd x && chkE r m i gd y
    | .BoolOp .And (x :: y :: z :: l) p => chkE a m i gd x && chkE r m i gd (.BoolOp .And (y :: z :: l) p)
    | _ => false
  | .or a r, m, i, gd, e => match e with
    | .BoolOp .Or [x, y] _ => chkE a m i gd x && chkE r m i gd y
    | .BoolOp .Or (x :: y :: z :: l) p => chkE a m i gd x && chkE r m i gd (.BoolOp .Or (y :: z :: l) p)
    | _ => false
  | .not a, m, i, gd, e => match e with
    | .UnaryOp .Not x _ => chkE a m i gd x
    | _ => false
  | .ite t a b, m, i, gd, e => match e with
    | .IfExp z x y _ => !m && chkE t true i gd z && chkE a false i gd x && chkE b false i gd y
    | _ => false
  | .call f as, _, i, gd, e => match e with
    | .Call (.Name y _) es [] _ => !i.hot && glB i y && dbg y && decide (i.nm.fn y = some f) && chkEs as i gd es
    | _ => false
  | .callv n as, _, i, gd, e => match e with
    | .Call (.Name y _) (x :: es) [] _ => !i.hot && slotB i n y && chkEs as i gd (x :: es)
    | _ => false
  | .mk k f as, _, i, gd, e => match e with
    | .Call (.Name y _) (x :: es) [] _ => !i.hot && glB i y && dbg y && decide (i.nm.cls y = some k) && decide (i.nm.ini k = some f) && chkEs as i gd (x :: es)
    | _ => false
  | .umeth f o as, _, i, gd, e => match e with
    | .Call (.Attribute ob nm apos) es [] cpos => !i.hot && plainBase ob && (apos.endLine == cpos.line) && decide (i.nm.mth nm = some f) && noFldB nm && decide (es.length < 30) && chkE o false i gd ob && chkEs as i gd es
    | _ => false
  | .blt b as, _, i, gd, e => match e with
    | .Call (.Name y _) (x :: es) [] _ => !i.hot && bltB i y && (match revA i b y x es with
      | some x2 => chkEs as i gd [x2]
      | none => (match viewA i b y x es with
        | some x2 => chkEs as i gd [x2]
        | none => bltNm b y && chkEs as i gd (x :: es)))
    | _ => false
  | .sortk _ _, _, _, _, _ => false
  | .isi a t, _, i, gd, e => match e with
    | .Call (.Name f _) [x, .Name y _] [] _ => decide (f = ("isinstance" : Str)) && bltB i ("isinstance" : Str) && notStar x && chkE a false i gd x && (match isCls t with
      | some k => (i.hot && glB i y && dbg y && decide (i.nm.exn y = some k)) || (i.hot && decide (k = 9) && decide (y = ("ValueError" : Str)) && bltB i ("ValueError" : Str))
      | none => decide (y = tyN t) && bltB i y)
    | _ => false
  | .meth k o as, _, i, gd, e => match e with
    | .Call (.Attribute ob nm apos) es [] cpos => plainBase ob && (apos.endLine == cpos.line) && methB k nm es && chkE o false i gd ob && chkEs as i gd es
    | _ => false
  | .fld o f, _, i, gd, e => match e with
    | .Attribute ob nm _ => ((decide (f < 5) && i.nm.fld f) || (i.hot && !decide (f < 5))) && decide (nm = fldN f) && plainBase ob && chkE o false i gd ob
    | _ => false
  | .idx o j, _, i, gd, e => match e with
    | .Subscript x y _ => notSlice y && chkE o false i gd x && chkE j false i gd y
    | _ => false
  | .slc o lo hi, _, i, gd, e => match e with
    | .Subscript x (.Slice l h none _) _ => chkE o false i gd x && chkO lo i gd l && chkO hi i gd h
    | _ => false
  | .rev o, _, i, gd, e => match e with
    | .Subscript x (.Slice none none (some (.UnaryOp .USub (.Constant (.int 1) _ _) _)) _) _ => chkE o false i gd x
    | _ => false
  | .tup as, _, i, gd, e => match e with
    | .Tuple es _ _ => chkEs as i gd es
    | _ => false
  | .lst as, _, i, gd, e => match e with
    | .List es _ => chkEs as i gd es
    | _ => false
  | .dct0, _, _, _, e => match e with
    | .Dict [] [] _ => true
    | _ => false
  | .dct1 k v, _, i, gd, e => match e with
    | .Dict [some x] [y] _ => stillB k x && stillB v y && chkE k false i gd x && chkE v false i gd y
    | _ => false
  | .lc t it f b own, _, i, gd, e => match e with
    | .ListComp elt [⟨tg, iter, ifs, 0⟩] scope _ => !i.hot && chkI it i gd iter && tgB (i.blk scope) t tg && chkC f (i.blk scope) gd ifs && chkE b false (i.blk scope) gd elt && blkC i.N i.sc scope (ownN i own) && covers t own && plainIter iter
    | _ => false
  | .lc2 t it t2 it2 b own own2, _, i, gd, e => match e with
    | .ListComp elt [⟨tg, iter, [], 0⟩, ⟨tg1, iter1, [], 0⟩] scope _ => !i.hot && chkI it i gd iter && tgB (i.blk scope) t tg && chkI it2 (i.blk scope) gd iter1 && tgB (i.blk scope) t2 tg1 && chkE b false (i.blk scope) gd elt && blkC i.N i.sc scope (ownN i own) && covers t own && covers t2 own2 && (own2.all fun n => decide (n ∈ own)) && plainIter iter && plainIter iter1
    | _ => false
  | .gen al t it b own, _, i, gd, e => match gd, e with
    | gd' + 1, .Call (.Name f _) [.GeneratorExp elt [⟨tg, iter, [], 0⟩] scope _] [] _ => !i.hot && decide (f = if al then ("all" : Str) else ("any" : Str)) && bltB i f && chkI it i (gd' + 1) iter && tgB (i.gen scope) t tg && chkE b false (i.gen scope) gd' elt && blkC i.N i.sc scope (ownN i own) &&
        (scope.names.all fun y => decide (y.2 ≠ .cell)) && decide (scope.names.lookup (".0" : Str) = some NameKind.local) && !scope.isCoroutine && covers t own && plainIter iter && i.nm.gen
    | _, _ => false
def chkEs : Es → Info → Nat → List Expr → Bool
  | .nil, _, _, l => match l with
    | [] => true
    | _ => false
  | .cons a r, i, gd, l => match l with
    | x :: l => notStar x && chkE a false i gd x && chkEs r i gd l
    | [] => false
def chkO : Op → Info → Nat → Option Expr → Bool
  | .none, _, _, o => match o with
    | none => true
    | _ => false
  | .some a, i, gd, o => match o with
    | some x => chkE a false i gd x
    | none => false
def chkC : Op → Info → Nat → List Expr → Bool
  | .none, _, _, l => match l with
    | [] => true
    | _ => false
  | .some a, i, gd, l => match l with
    | [x] => chkE a true i gd x
    | _ => false
def chkI : It → Info → Nat → Expr → Bool
  | .rng1 a, i, gd, e => match e with
    | .Call (.Name f _) [x] [] _ => decide (f = ("range" : Str)) && bltB i ("range" : Str) && notStar x && chkE a false i gd x
    | _ => false
  | .rng2 a b, i, gd, e => match e with
    | .Call (.Name f _) [x, y] [] _ => decide (f = ("range" : Str)) && bltB i ("range" : Str) && notStar x && notStar y && chkE a false i gd x && chkE b false i gd y
    | _ => false
  | .rng3 a b d, i, gd, e => match e with
    | .Call (.Name f _) [x, y, u] [] _ => decide (f = ("range" : Str)) && bltB i ("range" : Str) && notStar x && notStar y && notStar u && chkE a false i gd x && chkE b false i gd y && chkE d false i gd u
    | _ => false
  | .ov a, i, gd, e => chkE a false i gd e
end
end SW

-- SwV
set_option Elab.async false
set_option linter.all false
set_option maxRecDepth 100000
set_option maxHeartbeats 16000000
set_option autoImplicit false
/-! SwV: the checker of expressions is right -/
namespace SW
open PySem PySem.Spec PyProof.Rows L2

abbrev bq (c : Ct) (cf : CF) (t : E) : L2.TT := TQ c relB (fun ρ S => (evE cf t ρ S).bind kTru)
def Snd (X : Cx) (c : Ct) (cf : CF) (t : E) (m : Bool) (e : Expr) : Prop := if m = true then PT X e (bq c cf t) ∧ ((∃ op l p, e = .BoolOp op l p) → PW X e (bq c cf t)) else SE X c e (evE cf t)
def plainTest : Expr → Bool
  | .UnaryOp .Not _ _ => false
  | .BoolOp _ _ _ => false
  | .IfExp _ _ _ _ => false
  | .Compare _ _ _ _ => false
  | _ => true
theorem plain_is {e : Expr} {env : PySem.Env} (h : plainTest e = true) : ∀ whole, isTrue e env whole = (do let v ← whole; standAt e.pos; holding [v] (truthy v)) := fun whole => by
  cases e <;> first
    | rfl
    | (cases h; done)
    | (rename_i op x p; cases op <;> first | rfl | (cases h; done))
section
variable {i : Info} {X : Cx} {c : Ct} {cf : CF} {lv gd : Nat} {m : Bool} {e : Expr} {t : E}
theorem Snd.se (h : Snd X c cf t false e) : SE X c e (evE cf t) := h
theorem Snd.pt (h : Snd X c cf t true e) : PT X e (bq c cf t) := h.1
theorem snd_of (hK : X.K = c.K) (h : SE X c e (evE cf t)) (hp : plainTest e = true) : Snd X c cf t m e := by
  unfold Snd
  cases m with
  | false => exact h
  | true =>
    rw [if_pos rfl]
    refine ⟨st_val hK h (plain_is hp), fun ⟨op, l, p, z⟩ => ?_⟩
    subst z
    cases hp
theorem snd_cmp (h1 : SE X c e (evE cf t)) (h2 : PT X e (bq c cf t)) (hp : ∀ op l p, e ≠ .BoolOp op l p) : Snd X c cf t m e := by
  unfold Snd
  cases m with
  | false => exact h1
  | true => exact ⟨h2, fun ⟨op, l, p, z⟩ => absurd z (hp op l p)⟩
theorem con_ok {x : D} (h : Good i X c cf lv gd) (z : conB i x e = true) : SE X c e (evE cf (.con x)) := by
  unfold conB at z
  split at z
  · exact se_non
  · have z := eq_of_beq z
    subst z
    exact se_bl
  · have z := eq_of_beq z
    subst z
    exact se_int
  · have z := eq_of_beq z
    subst z
    exact se_str
  · rw [Bool.and_eq_true, Bool.and_eq_true] at z
    obtain ⟨⟨z1, z2⟩, z3⟩ := z
    split at z3
    · rename_i b hb
      have z3 := eq_of_beq z3
      subst z3
      obtain ⟨v, u, h1, h2, h3⟩ := h.con _ _ hb
      exact se_glob (gl_ok h z1) h1 h2 h3 (dbg_ok z2).1
    · cases z3
  · rw [Bool.and_eq_true, Bool.and_eq_true] at z
    obtain ⟨⟨z1, z2⟩, z3⟩ := z
    split at z3
    · rename_i b hb
      have z3 := eq_of_beq z3
      subst z3
      obtain ⟨v, u, h1, h2, h3⟩ := h.con _ _ hb
      exact se_glob (gl_ok h z1) h1 h2 h3 (dbg_ok z2).1
    · cases z3
  · rw [Bool.and_eq_true, Bool.and_eq_true] at z
    obtain ⟨⟨z1, z2⟩, z3⟩ := z
    obtain ⟨h1, h2⟩ := h.fn _ _ (of_decide_eq_true z3)
    refine se_glob (v := .ref (c.G.fnA _)) (gl_ok h z1) h1 rfl (fun g H => ?_) (dbg_ok z2).1
    unfold Rep
    exact ⟨rfl, h2⟩
  · cases z
theorem con_plain {x : D} (z : conB i x e = true) : plainTest e = true := by
  unfold conB at z
  split at z <;> first | rfl | cases z
theorem pe_tupRevA {e : Expr} {ta : TA} {p p2 pos pos2 : Pos} (hc : X.calm = true) (hg : Gl X "tuple") (hm : X.mg "tuple" = none) (hg2 : Gl X "reversed") (hm2 : X.mg "reversed" = none) (ha : PA X [e] ta)
    (hs : starEach [e] X.env = (false, eval e X.env) :: starEach [] X.env)
    (hs2 : starEach [.Call (.Name "reversed" p2) [e] [] pos2] X.env = (false, eval (.Call (.Name "reversed" p2) [e] [] pos2) X.env) :: starEach [] X.env := by rfl) :
    PE X (.Call (.Name "tuple" p) [.Call (.Name "reversed" p2) [e] [] pos2] [] pos) (fun σ H Q => ta σ H fun vs H1 => ∃ (a : Addr) (xs : List V), vs = [.ref a] ∧ SqL X.K H1 a xs ∧ TupQ xs.reverse Q H1) := by
  refine ⟨fun pins s σ H Q I h => ?_⟩
  refine Call_ (ld_blt I hg hm boot_tuple (PyProof.Rows.callWith_type1 (args_cons (Call_ (ld_blt I hg2 hm2 PyProof.Rows.boot_reversed (PyProof.Rows.callWith_type1 (thn (ha.run pos2 pins s σ H _ I h) fun us s1 ⟨vs, H1, I1, r1, q1⟩ => ?_) hs rfl))) hs2) hs2 rfl))
  obtain ⟨a, xs, ev, hq, q⟩ := q1
  subst ev
  rw [Vals.ref1 r1]
  obtain ⟨its, rv, p', hz⟩ := I1.list hq
  refine call_reversed_list p'.isList (args_nil ?_)
  have k0 : ∀ b o, s1.heap.get? b = some o → (s1.heap.push (revObj a ((its.toArray.size : Int) - 1))).get? b = some o := fun b o e => Heap.get?_push_of_some _ e
  have I2 : Inv X pins σ H1 { s1 with heap := s1.heap.push (revObj a ((its.toArray.size : Int) - 1)) } := I1.kept (t' := s1.toks) k0
  obtain ⟨f0, f1, f2, f3, f4, f5⟩ := I1.fpOk (H' := H1) (b := s1.heap.objs.size) (Nat.le_refl _) (I1.hok.fresh (Nat.le_refl _))
  have hl := p'.isList
  obtain ⟨ol, hol, _⟩ := id hl
  have hne : a ≠ s1.heap.objs.size := Nat.ne_of_lt (Heap.lt_size hol)
  have hn : its.toArray.size ≤ sizeLine := by rw [List.size_toArray, ← rv.length]; exact hz
  refine RT.call_tuple_rev (s := { s1 with heap := s1.heap.push (revObj a ((its.toArray.size : Int) - 1)) }) (I1.ok.hd hc) ⟨_, Heap.get?_push_size _ rfl, rfl, rfl⟩ (hl.push _) hne hn fun h' tk acc hk hi => ?_
  have I3 : Inv X pins σ H1 { s1 with heap := h', toks := tk } := I2.turned (t' := tk) (fun b o hb e => hk b o hb e) f0 f1 f3 f4 f5
  have z := tq_laid (t' := tk) I3 q (by rw [List.length_reverse]; exact hz) (RT.vals_rev rv hi)
  rw [Array.toArray_toList] at z
  exact z
theorem se_tupRev {e : Expr} {p p2 pos pos2 : Pos} {fs : Env → Store → R (List Vl)} (hK : X.K = c.K) (hc : X.calm = true) (hg : Gl X "tuple") (hm : X.mg "tuple" = none) (hg2 : Gl X "reversed") (hm2 : X.mg "reversed" = none) (ha : SA X c [e] fs) (hs : [e].all notStar = true) :
    SE X c (.Call (.Name "tuple" p) [.Call (.Name "reversed" p2) [e] [] pos2] [] pos) (fun ρ S => (fs ρ S).bind (kBlt .tupleRev)) := by
  rw [List.all_cons, Bool.and_eq_true] at hs
  refine (pe_tupRevA hc hg hm hg2 hm2 ha (star_each hs.1)).imp fun σ H Q h => ?_
  obtain ⟨g, al, ρ, S, xa, rl, er, out⟩ := h
  refine TQ.step (k := kBlt .tupleRev) xa rl er out fun x H1 g1 al1 v S1 e1 p1 xa1 rl1 er1 q1 out1 => ?_
  obtain ⟨σ', g2, al2, S2, ds, xa2, rl2, vs, out2⟩ := kBlt_ok xa1 rl1 q1 out1
  obtain ⟨k, e, out2⟩ := give_some out2
  match ds, e with
  | [.lst ys], e =>
    cases e
    obtain ⟨x, rfl, vx⟩ := vs.one
    obtain ⟨a, ws, rfl, h1, h2⟩ := lst_sq vx
    exact ⟨a, ws, rfl, hK ▸ h1, out2.tup rl2 (reps_reverse h2)⟩
/-- the built-in functions' names -/
theorem blt_call {b : Blt} {y : Str} {x : Expr} {es : List Expr} {as : Es} {p pos : Pos} (h : Good i X c cf lv gd) (hh : i.hot = false) (z1 : bltB i y = true) (z2 : bltNm b y = true) (ha : SA X c (x :: es) (evEs cf as)) (hs : (x :: es).all notStar = true) : SE X c (.Call (.Name y p) (x :: es) [] pos) (evE cf (.blt b as)) := by
  obtain ⟨hg, hm, hd⟩ := blt_ok h z1
  have hc := (h.cold hh).calm
  have hun := h.un
  cases b <;> first
    | (cases z2; done)
    | (have z3 := eq_of_beq (show (y == _) = true from z2); subst z3; first
        | exact se_bltB (cr_blt_len h.K) hg hm (by decide +kernel) (by decide) (by decide) ha hs
        | exact se_bltT cr_blt_int hg hm (by decide +kernel) (by decide) (by decide) ha hs
        | exact se_bltT cr_blt_str hg hm (by decide +kernel) (by decide) (by decide) ha hs
        | exact se_bltT (cr_blt_tuple h.K) hg hm (by decide +kernel) (by decide) (by decide) ha hs
        | exact se_bltT (cr_blt_list h.K hc) hg hm (by decide +kernel) (by decide) (by decide) ha hs
        | exact se_bltT (cr_blt_dict h.K hc (by omega)) hg hm (by decide +kernel) (by decide) (by decide) ha hs
        | exact se_bltB (cr_blt_sorted h.K (by omega)) hg hm (by decide +kernel) (by decide) (by decide) ha hs
        | exact se_bltB (cr_blt_min h.K hc) hg hm (by decide +kernel) (by decide) (by decide) ha hs
        | exact se_bltB (cr_blt_max h.K hc) hg hm (by decide +kernel) (by decide) (by decide) ha hs
        | exact se_bltB (cr_blt_all h.K hc) hg hm (by decide +kernel) (by decide) (by decide) ha hs
        | exact se_bltB (cr_blt_any h.K hc) hg hm (by decide +kernel) (by decide) (by decide) ha hs)
theorem out_tru {α : Type} {rel' : Rn α Bool} {σ : L2.St} {g : Gh} {H : Hp} {al : List Addr} {r : R Vl} {k : Bool → Store → R α} {Q : Bool → Hp → Prop} (o : Out c rel' σ g H al ((r.bind kBl).bind k) Q) : Out c rel' σ g H al ((r.bind kTru).bind k) Q := by
  cases r with
  | bad => exact o
  | exc k p S => exact o
  | ok v S =>
    cases v with
    | d x => cases x <;> first | exact o | exact o.elim
    | r n => exact o.elim
    | x k p => exact o.elim
/-- and, or as tests -/
theorem tq_and {a r : E} {σ : L2.St} {H : Hp} {Q : Bool → Hp → Prop} (h : bq c cf (.and a r) σ H Q) : TQ c relB (fun ρ S => ((evE cf a ρ S).bind kTru).bind fun k S1 => if k then (evE cf r ρ S1).bind kTru else .ok false S1) σ H Q := by
  obtain ⟨g, al, ρ, S, xa, rl, er, out⟩ := h
  refine ⟨g, al, ρ, S, xa, rl, er, ?_⟩
  have e : evE cf (.and a r) ρ S = ((evE cf a ρ S).bind kBl).bind fun k S1 => if k then evE cf r ρ S1 else .ok (.d (.bl false)) S1 := by simp only [evE]
  have out : Out c relB σ g H al ((evE cf (.and a r) ρ S).bind kTru) Q := out
  rw [e, R.bind_assoc] at out
  have e2 : (fun (k : Bool) (S1 : Store) => (if k = true then evE cf r ρ S1 else .ok (.d (.bl false)) S1).bind kTru) = fun k S1 => if k then (evE cf r ρ S1).bind kTru else .ok false S1 := by
    funext k S1
    cases k <;> rfl
  rw [e2] at out
  exact out_tru out
theorem tq_or {a r : E} {σ : L2.St} {H : Hp} {Q : Bool → Hp → Prop} (h : bq c cf (.or a r) σ H Q) : TQ c relB (fun ρ S => ((evE cf a ρ S).bind kTru).bind fun k S1 => if k then .ok true S1 else (evE cf r ρ S1).bind kTru) σ H Q := by
  obtain ⟨g, al, ρ, S, xa, rl, er, out⟩ := h
  refine ⟨g, al, ρ, S, xa, rl, er, ?_⟩
  have e : evE cf (.or a r) ρ S = ((evE cf a ρ S).bind kBl).bind fun k S1 => if k then .ok (.d (.bl true)) S1 else evE cf r ρ S1 := by simp only [evE]
  have out : Out c relB σ g H al ((evE cf (.or a r) ρ S).bind kTru) Q := out
  rw [e, R.bind_assoc] at out
  have e2 : (fun (k : Bool) (S1 : Store) => (if k = true then .ok (.d (.bl true)) S1 else evE cf r ρ S1).bind kTru) = fun k S1 => if k then .ok true S1 else (evE cf r ρ S1).bind kTru := by
    funext k S1
    cases k <;> rfl
  rw [e2] at out
  exact out_tru out
theorem tq_not {a : E} {σ : L2.St} {H : Hp} {Q : Bool → Hp → Prop} (h : bq c cf (.not a) σ H Q) : TQ c relB (fun ρ S => ((evE cf a ρ S).bind kTru).bind fun k S1 => .ok (!k) S1) σ H Q := by
  obtain ⟨g, al, ρ, S, xa, rl, er, out⟩ := h
  refine ⟨g, al, ρ, S, xa, rl, er, ?_⟩
  have e : evE cf (.not a) ρ S = (evE cf a ρ S).bind kNot := by simp only [evE]
  have out : Out c relB σ g H al ((evE cf (.not a) ρ S).bind kTru) Q := out
  rw [e, R.bind_assoc] at out
  have e2 : (fun (v : Vl) (S1 : Store) => (kNot v S1).bind kTru) = fun v S1 => (kTru v S1).bind fun k S1 => .ok (!k) S1 := by
    funext v S1
    unfold kNot kTru
    cases (rd S1 v).bind truth <;> rfl
  rw [e2] at out
  show Out c relB σ g H al (((evE cf a ρ S).bind kTru).bind fun k S1 => .ok (!k) S1) Q
  rw [R.bind_assoc]
  exact out
theorem PW.imp {e : Expr} {t t' : L2.TT} (h : PW X e t) (i : ∀ σ H Q, t' σ H Q → t σ H Q) : PW X e t' := ⟨fun w pins s σ H Q I q => h.run w pins s σ H Q I (i σ H Q q)⟩
theorem or_eq : True := trivial
end
end SW

-- SwW
set_option Elab.async false
set_option linter.all false
set_option maxRecDepth 100000
set_option maxHeartbeats 16000000
set_option autoImplicit false
/-! SwW: the checker of expressions is right, by induction on the small text -/
namespace SW
open PySem PySem.Spec PyProof.Rows L2

def fcOf (cf : CF) : Op → Env → Store → R Bool
  | .none, _, S => .ok true S
  | .some a, ρ, S => (evE cf a ρ S).bind kTru
theorem evC_eq (cf : CF) (o : Op) (ρ : Env) (S : Store) : evC cf o ρ S = (fcOf cf o ρ S).bind fun b S1 => .ok b (S1.take S.length) := by
  cases o with
  | none => simp only [evC, fcOf, R.bind, List.take_length]
  | some a =>
    simp only [evC, fcOf, R.bind_assoc]
    congr 1
    funext v S1
    unfold asTruth kTru
    cases (rd S1 v).bind truth <;> rfl
theorem lc_eq (cf : CF) (t : Tg) (it : It) (f : Op) (b : E) (own : List Nat) : evE cf (.lc t it f b own) = lcF (evIt cf it) (fcOf cf f) (evE cf b) t own := by
  funext ρ S
  unfold lcF bodyL kTurn
  simp only [evE, evC_eq, R.bind_assoc]
  rfl
theorem lc2_eq (cf : CF) (t : Tg) (it : It) (t2 : Tg) (it2 : It) (b : E) (own own2 : List Nat) : evE cf (.lc2 t it t2 it2 b own own2) = lc2F (evIt cf it) (evIt cf it2) (evE cf b) t t2 own own2 := by
  funext ρ S
  unfold lc2F body2 turn2
  simp only [evE]
  all_goals rfl
theorem gen_eq (cf : CF) (al : Bool) (t : Tg) (it : It) (b : E) (own : List Nat) : evE cf (.gen al t it b own) = genF (evIt cf it) (evE cf b) al t own := by
  funext ρ S
  unfold genF bodyG
  simp only [evE]
theorem iter_fold {iter : Expr} {env : PySem.Env} (h : plainIter iter = true) : (∀ x, foldedSetIterable iter env x = pure x) ∧ ∀ x, genFold iter env x = pure x := by
  refine ⟨fun x => ?_, fun x => ?_⟩ <;> cases iter <;> first | rfl | (cases h; done)
theorem covers_ok {t : Tg} {own : List Nat} (h : covers t own = true) (i : Info) : ∀ n ∈ t.ix, n ∈ (ownN i own).map (·.2) := fun n hn => by
  rw [ownN_snd]
  exact of_decide_eq_true (List.all_eq_true.mp h n hn)
theorem sA_nil {as : Es} {i : Info} {gd : Nat} (z : chkEs as i gd [] = true) : as = .nil := by
  cases as with
  | nil => rfl
  | cons a r =>
    unfold chkEs at z
    cases z
theorem sA1 {as : Es} {i : Info} {gd : Nat} {x : Expr} (z : chkEs as i gd [x] = true) : ∃ a, as = .cons a .nil ∧ chkE a false i gd x = true ∧ notStar x = true := by
  cases as with
  | nil =>
    unfold chkEs at z
    cases z
  | cons a r =>
    unfold chkEs at z
    simp only [Bool.and_eq_true] at z
    obtain rfl := sA_nil z.2
    exact ⟨a, rfl, z.1.2, z.1.1⟩
theorem sA2 {as : Es} {i : Info} {gd : Nat} {x y : Expr} (z : chkEs as i gd [x, y] = true) : ∃ a b, as = .cons a (.cons b .nil) ∧ chkE a false i gd x = true ∧ notStar x = true ∧ chkE b false i gd y = true ∧ notStar y = true := by
  cases as with
  | nil =>
    unfold chkEs at z
    cases z
  | cons a r =>
    unfold chkEs at z
    simp only [Bool.and_eq_true] at z
    obtain ⟨b, rfl, zb, zs⟩ := sA1 z.2
    exact ⟨a, b, rfl, z.1.2, z.1.1, zb, zs⟩
theorem still_ok {t : E} {i : Info} {X : Cx} {c : Ct} {cf : CF} {lv gd : Nat} {e : Expr} (h : Good i X c cf lv gd) (z : stillB t e = true) (z2 : chkE t false i gd e = true) : Stl X c e (evE cf t) := by
  unfold stillB at z
  split at z
  · unfold chkE at z2
    obtain ⟨h1, h2, h3, h4⟩ := slot_ok h z2
    exact stl_var h1 h2 h3 h4
  · unfold chkE conB at z2
    have z2 := eq_of_beq z2
    subst z2
    have e1 : ∀ i : Int, evE cf (.con (.int i)) = fun _ S => .ok (.d (.int i)) S := fun i => by
      funext ρ S
      simp only [evE]
    rw [e1]
    exact stl_int
  · unfold chkE at z2
    simp only [Bool.and_eq_true] at z2
    obtain ⟨⟨z3, z4⟩, z5⟩ := z2
    unfold chkE at z4 z5
    obtain ⟨h1, h2, h3, h4⟩ := slot_ok h z4
    obtain ⟨q1, q2, q3, q4⟩ := slot_ok h z5
    have un := h.un
    have e1 : ∀ a b : E, evE cf (.idx a b) = fun ρ S => (evE cf a ρ S).bind fun x S1 => (evE cf b ρ S1).bind (kIdx x) := fun a b => by
      funext ρ S
      simp only [evE]
    rw [e1]
    exact stl_idx h.K (by omega) (stl_var h1 h2 h3 h4) (stl_var q1 q2 q3 q4) z3
  · cases z
theorem blt1_eq (cf : CF) (b : Blt) (a : E) : evE cf (.blt b (.cons a .nil)) = fun ρ S => ((evE cf a ρ S).bind fun x S1 => (R.ok [] S1).bind fun xs S2 => .ok (x :: xs) S2).bind (kBlt b) := by
  funext ρ S
  simp only [evE, evEs]
section
variable {cf : CF}
mutual
theorem sE : ∀ (t : E) {m : Bool} {i : Info} {X : Cx} {c : Ct} {lv gd : Nat} {e : Expr}, Good i X c cf lv gd → chkE t m i gd e = true → Snd X c cf t m e
  | .con x, m, i, X, c, lv, gd, e, h, z => by
    unfold chkE at z
    exact snd_of h.K (con_ok h z) (con_plain z)
  | .var n, m, i, X, c, lv, gd, e, h, z => by
    unfold chkE at z
    split at z
    · obtain ⟨h1, h2, h3, h4⟩ := slot_ok h z
      exact snd_of h.K (se_var h1 h2 h3 h4) rfl
    · cases z
  | .bin o a b, m, i, X, c, lv, gd, e, h, z => by
    unfold chkE at z
    split at z
    · rw [Bool.and_eq_true, Bool.and_eq_true] at z
      have z0 := of_decide_eq_true z.1.1
      subst z0
      exact snd_of h.K (se_bin h.K o (sE a h z.1.2).se (sE b h z.2).se) rfl
    · cases z
  | .neg a, m, i, X, c, lv, gd, e, h, z => by
    unfold chkE at z
    split at z
    · exact snd_of h.K (se_neg (sE a h z).se) rfl
    · cases z
  | .cmp o a b, m, i, X, c, lv, gd, e, h, z => by
    unfold chkE at z
    split at z
    · rw [Bool.and_eq_true, Bool.and_eq_true, Bool.and_eq_true] at z
      have z0 := of_decide_eq_true z.1.1.1
      subst z0
      have z1 := z.1.1.2
      rw [Bool.not_eq_true'] at z1
      have un := h.un
      have ha := (sE a h z.1.2).se
      have hb := (sE b h z.2).se
      exact snd_cmp (se_cmp h.K (by omega) o ha hb z1) (st_cmp h.K (by omega) o ha hb z1) fun _ _ _ q => by cases q
    · cases z
  | .isN n a, m, i, X, c, lv, gd, e, h, z => by
    unfold chkE at z
    split at z
    · rw [Bool.and_eq_true] at z
      have z0 := of_decide_eq_true z.1
      subst z0
      have ha := (sE a h z.2).se
      exact snd_cmp (se_isN n ha) (st_isN n ha) fun _ _ _ q => by cases q
    · cases z
  | .le2 a b d, m, i, X, c, lv, gd, e, h, z => by
    unfold chkE at z
    split at z
    · rw [Bool.and_eq_true, Bool.and_eq_true, Bool.and_eq_true, Bool.and_eq_true, Bool.not_eq_true', Bool.not_eq_true'] at z
      obtain ⟨⟨⟨⟨z0, z1⟩, z2⟩, z3⟩, z4⟩ := z
      subst z0
      exact se_le2 (sE a h z2).se (sE b h z3).se (sE d h z4).se z1
    · cases z
  | .and a r, m, i, X, c, lv, gd, e, h, z => by
    unfold chkE at z
    split at z
    · rename_i pos
      rw [Bool.and_eq_true] at z
      cases m with
      | false => exact se_and (sE a h z.1).se (pe_one (sE r h z.2).se)
      | true =>
        have q := PW.imp (st_and (t2 := fun _ _ _ => True) (pos := pos) (sE a h z.1).pt (pw_and1 (pos := pos) (sE r h z.2).pt)) fun σ H Q k => tq_and k
        exact ⟨q.pt, fun _ => q⟩
    · rw [Bool.and_eq_true] at z
      cases m with
      | false => exact se_and (sE a h z.1).se (sE r h z.2).se
      | true =>
        have q := PW.imp (st_and (t2 := fun _ _ _ => True) (sE a h z.1).pt ((sE r h z.2).2 ⟨_, _, _, rfl⟩)) fun σ H Q k => tq_and k
        exact ⟨q.pt, fun _ => q⟩
    · cases z
  | .or a r, m, i, X, c, lv, gd, e, h, z => by
    unfold chkE at z
    split at z
    · rename_i pos
      rw [Bool.and_eq_true] at z
      cases m with
      | false => exact se_or (sE a h z.1).se (pe_one (sE r h z.2).se)
      | true =>
        have q := PW.imp (st_or (pos := pos) (sE a h z.1).pt (pw_or1 (pos := pos) (sE r h z.2).pt)) fun σ H Q k => tq_or k
        exact ⟨q.pt, fun _ => q⟩
    · rw [Bool.and_eq_true] at z
      cases m with
      | false => exact se_or (sE a h z.1).se (sE r h z.2).se
      | true =>
        have q := PW.imp (st_or (sE a h z.1).pt ((sE r h z.2).2 ⟨_, _, _, rfl⟩)) fun σ H Q k => tq_or k
        exact ⟨q.pt, fun _ => q⟩
    · cases z
  | .not a, m, i, X, c, lv, gd, e, h, z => by
    unfold chkE at z
    split at z
    · cases m with
      | false => exact se_not h.K (sE a h z).se
      | true =>
        refine ⟨(st_not (sE a h z).pt).imp fun σ H Q k => tq_not k, fun ⟨_, _, _, q⟩ => by cases q⟩
    · cases z
  | .ite t a b, m, i, X, c, lv, gd, e, h, z => by
    unfold chkE at z
    split at z
    · rw [Bool.and_eq_true, Bool.and_eq_true, Bool.and_eq_true, Bool.not_eq_true'] at z
      obtain ⟨⟨⟨z0, z1⟩, z2⟩, z3⟩ := z
      subst z0
      exact se_ite (sE t h z1).pt (sE a h z2).se (sE b h z3).se
    · cases z
  | .call f as, m, i, X, c, lv, gd, e, h, z => by
    unfold chkE at z
    split at z
    · rename_i y p es pos
      rw [Bool.and_eq_true, Bool.and_eq_true, Bool.and_eq_true, Bool.and_eq_true, Bool.not_eq_true'] at z
      obtain ⟨⟨⟨⟨z0, z1⟩, z2⟩, z3⟩, z4⟩ := z
      have k := h.cold z0
      obtain ⟨h1, h2⟩ := h.fn _ _ (of_decide_eq_true z3)
      obtain ⟨k1, fd, ps, k2, k3⟩ := k.fok f h2
      have C : Cal X c cf (c.G.fnA f) f := ⟨k1, lv, fd, ps, k2, k.room.mono (by omega), k3⟩
      obtain ⟨q1, q2⟩ := sA as h z4
      refine snd_of h.K ?_ rfl
      cases es with
      | nil =>
        obtain rfl := sA_nil z4
        exact se_call0 C h.tk (gl_ok h z1) h1 (dbg_ok z2).1
      | cons x es => exact se_call C h.tk (gl_ok h z1) h1 (dbg_ok z2).1 q1 q2
    · cases z
  | .callv n as, m, i, X, c, lv, gd, e, h, z => by
    unfold chkE at z
    split at z
    · rw [Bool.and_eq_true, Bool.and_eq_true, Bool.not_eq_true'] at z
      obtain ⟨⟨z0, z1⟩, z2⟩ := z
      have k := h.cold z0
      obtain ⟨h1, h2, h3, h4⟩ := slot_ok h z1
      obtain ⟨q1, q2⟩ := sA as h z2
      exact snd_of h.K (se_callv (fun f hf => let ⟨k1, fd, ps, k2, k3⟩ := k.fok f hf; ⟨k1, lv, fd, ps, k2, k.room.mono (by omega), k3⟩) h.tk h1 h2 h3 h4 q1 q2) rfl
    · cases z
  | .mk kk f as, m, i, X, c, lv, gd, e, h, z => by
    unfold chkE at z
    split at z
    · rw [Bool.and_eq_true, Bool.and_eq_true, Bool.and_eq_true, Bool.and_eq_true, Bool.and_eq_true, Bool.not_eq_true'] at z
      obtain ⟨⟨⟨⟨⟨z0, z1⟩, z2⟩, z3⟩, z4⟩, z5⟩ := z
      have k := h.cold z0
      have hm := h.cls _ _ (of_decide_eq_true z3)
      obtain ⟨k0, a, k1, fd, ps, k2, k3⟩ := k.mok kk f (h.ini _ _ (of_decide_eq_true z4))
      obtain ⟨q1, q2⟩ := sA as h z5
      exact snd_of h.K (se_mk ⟨k1, lv, fd, ps, k2, k.room.mono (by omega), k3⟩ k0 h.tk (gl_ok h z1) hm (dbg_ok z2).1 q1 q2) rfl
    · cases z
  | .umeth f o as, m, i, X, c, lv, gd, e, h, z => by
    unfold chkE at z
    split at z
    · rename_i ob nm apos es cpos
      simp only [Bool.and_eq_true, Bool.not_eq_true'] at z
      obtain ⟨⟨⟨⟨⟨⟨⟨z0, z1⟩, z2⟩, z3⟩, z4⟩, z5⟩, z6⟩, z7⟩ := z
      have k := h.cold z0
      obtain ⟨ad, k1, k2, fd, ps, k3, k4⟩ := k.uok nm f (h.mth _ _ (of_decide_eq_true z3))
      have ho := (sE o h z6).se
      have F : MethM X c cf (c.G.clsA 1) ad f nm := ⟨k1, k2, lv, fd, ps, k3, k.room.mono (by omega), k4⟩
      refine snd_of h.K ?_ rfl
      have e1 : evE cf (.umeth f o as) = fun ρ S => ((evE cf o ρ S).bind kObj).bind fun x S1 => (evEs cf as ρ S1).bind (kMeth cf f x) := by
        funext ρ S; simp only [evE]
      cases es with
      | nil =>
        cases as with
        | cons a r => unfold chkEs at z7; cases z7
        | nil =>
          have e2 : evE cf (.umeth f o .nil) = fun ρ S => ((evE cf o ρ S).bind kObj).bind fun x S1 => kMeth cf f x [] S1 := by
            rw [e1]
            funext ρ S
            simp only [evEs, R.bind]
          rw [e2]
          exact se_umeth0 F h.tk z4 ho z1 z2
      | cons y es =>
        obtain ⟨q1, q2⟩ := sA as h z7
        rw [e1]
        exact se_umeth F h.tk z4 ho z1 z2 q1 q2 (of_decide_eq_true z5)
    · cases z
  | .blt b as, m, i, X, c, lv, gd, e, h, z => by
    unfold chkE at z
    split at z
    · rw [Bool.and_eq_true, Bool.and_eq_true, Bool.not_eq_true'] at z
      obtain ⟨⟨z0, z1⟩, z2⟩ := z
      split at z2
      · rename_i er
        obtain ⟨q1, q2⟩ := sA as h z2
        unfold revA at er
        split at er
        · split at er
          · rename_i hq
            cases er
            rw [Bool.and_eq_true, Bool.and_eq_true] at hq
            obtain ⟨⟨w1, w2⟩, w3⟩ := hq
            have w1 := of_decide_eq_true w1
            have w2 := of_decide_eq_true w2
            subst w1 w2
            obtain ⟨hg, hm, _⟩ := blt_ok h z1
            obtain ⟨hg2, hm2, _⟩ := blt_ok h w3
            exact snd_of h.K (se_tupRev h.K (h.cold z0).calm hg hm hg2 hm2 q1 q2) rfl
          · cases er
        · cases er
      · split at z2
        · rename_i er
          obtain ⟨hg, hm, _⟩ := blt_ok h z1
          have hcm := (h.cold z0).calm
          have un := h.un
          obtain ⟨a0, rfl, za, _⟩ := sA1 z2
          have q3 := (sE a0 h za).se
          unfold viewA at er
          split at er
          · split at er
            · rename_i hq
              cases er
              simp only [Bool.and_eq_true, decide_eq_true_eq] at hq
              obtain ⟨⟨⟨w1, w2⟩, w3⟩, w4⟩ := hq
              subst w1 w2
              refine snd_of h.K ?_ rfl
              rw [blt1_eq]
              exact se_sortedItems h.K hcm (by omega) hg hm q3 w4 w3
            · cases er
          · split at er
            · rename_i hq
              cases er
              simp only [Bool.and_eq_true, decide_eq_true_eq] at hq
              obtain ⟨⟨⟨w1, w2⟩, w3⟩, w4⟩ := hq
              subst w1 w2
              refine snd_of h.K ?_ rfl
              rw [blt1_eq]
              exact se_listValues hcm hg hm q3 w4 w3
            · cases er
          · split at er
            · rename_i hq
              cases er
              simp only [Bool.and_eq_true, decide_eq_true_eq] at hq
              obtain ⟨⟨⟨w1, w2⟩, w3⟩, w4⟩ := hq
              subst w1 w2
              refine snd_of h.K ?_ rfl
              rw [blt1_eq]
              exact se_maxValues hcm hg hm q3 w4 w3
            · cases er
          · split at er
            · rename_i hq
              cases er
              simp only [Bool.and_eq_true, decide_eq_true_eq] at hq
              obtain ⟨⟨⟨w1, w2⟩, w3⟩, w4⟩ := hq
              subst w1 w2
              obtain ⟨hg2, hm2, _⟩ := blt_ok h w3
              refine snd_of h.K ?_ rfl
              rw [blt1_eq]
              exact se_lenSet h.K hcm (by omega) hg hm hg2 hm2 q3 w4
            · cases er
          · cases er
        · rw [Bool.and_eq_true] at z2
          obtain ⟨q1, q2⟩ := sA as h z2.2
          exact snd_of h.K (blt_call h z0 z1 z2.1 q1 q2) rfl
    · cases z
  | .sortk _ _, m, i, X, c, lv, gd, e, h, z => by unfold chkE at z; cases z
  | .isi a t, m, i, X, c, lv, gd, e, h, z => by
    unfold chkE at z
    split at z
    · rw [Bool.and_eq_true, Bool.and_eq_true, Bool.and_eq_true, Bool.and_eq_true] at z
      obtain ⟨⟨⟨⟨z0, z1⟩, z2⟩, z3⟩, z4⟩ := z
      have z0 := of_decide_eq_true z0
      subst z0
      obtain ⟨hg, hm, _⟩ := blt_ok h z1
      have ha := (sE a h z3).se
      split at z4
      · rename_i k hk
        have et : t = .cls k := by
          cases t <;> simp only [isCls] at hk <;> cases hk
          rfl
        subst et
        rw [Bool.or_eq_true] at z4
        rcases z4 with z4 | z4
        case inr =>
          rw [Bool.and_eq_true, Bool.and_eq_true, Bool.and_eq_true] at z4
          obtain ⟨⟨⟨y0, y1⟩, y2⟩, y3⟩ := z4
          have y1 := of_decide_eq_true y1
          have y2 := of_decide_eq_true y2
          subst y1
          subst y2
          obtain ⟨x1, _⟩ := h.isx y0
          obtain ⟨hg2, hm2, _⟩ := blt_ok h y3
          refine snd_of h.K (se_isx (t2 := fun _ _ _ => True) (cv := .ty "ValueError") (cu := .type "ValueError") x1 hg hm (pe_bltn (x := "ValueError") hg2 hm2 (u := .type "ValueError") (by decide +kernel) rfl (by decide) (by decide)) (fun u r => r) (fun a' k' d' hx => ?_) ha z2) rfl
          rw [h.isv y0 a' k' d' hx]
          unfold excSub
          simp
        rw [Bool.and_eq_true, Bool.and_eq_true, Bool.and_eq_true] at z4
        obtain ⟨⟨⟨y0, y1⟩, y2⟩, y3⟩ := z4
        obtain ⟨x1, x2⟩ := h.isx y0
        obtain ⟨e1, e2⟩ := h.exn _ _ (of_decide_eq_true y3)
        exact snd_of h.K (se_isx (t2 := fun _ _ _ => True) (cv := .ref (c.G.clsA k)) x1 hg hm (pe_glob (gl_ok h y1) e1 rfl (dbg_ok y2).1) (fun u r => r) (fun a' k' d' hx => x2 a' k' d' hx k e2) ha z2) rfl
      · rename_i hk
        rw [Bool.and_eq_true] at z4
        have y0 := of_decide_eq_true z4.1
        subst y0
        obtain ⟨hg2, hm2, _⟩ := blt_ok h z4.2
        exact snd_of h.K (se_isi h.K (fun k q => by subst q; cases hk) hg hm hg2 hm2 ha z2) rfl
    · cases z
  | .meth k o as, m, i, X, c, lv, gd, e, h, z => by
    unfold chkE at z
    split at z
    · rw [Bool.and_eq_true, Bool.and_eq_true, Bool.and_eq_true, Bool.and_eq_true] at z
      obtain ⟨⟨⟨⟨z0, z1⟩, z2⟩, z3⟩, z4⟩ := z
      have ho := (sE o h z3).se
      have un := h.un
      refine snd_of h.K ?_ rfl
      unfold methB at z2
      split at z2
      · have z2 := eq_of_beq z2
        subst z2
        obtain ⟨a, rfl, za, zs⟩ := sA1 z4
        exact se_join h.K ho (sE a h za).se z0 zs z1
      · have z2 := eq_of_beq z2
        subst z2
        obtain ⟨a, rfl, za, zs⟩ := sA1 z4
        exact se_index h.K ho (sE a h za).se z0 zs z1
      · have z2 := eq_of_beq z2
        subst z2
        obtain ⟨a, rfl, za, zs⟩ := sA1 z4
        exact se_split ho (sE a h za).se z0 zs z1
      · have z2 := eq_of_beq z2
        subst z2
        obtain ⟨a, rfl, za, zs⟩ := sA1 z4
        exact se_get1 (by omega) ho (sE a h za).se z0 zs z1
      · have z2 := eq_of_beq z2
        subst z2
        obtain ⟨a, b, rfl, za, zs, zb, zs2⟩ := sA2 z4
        exact se_get2 (by omega) ho (sE a h za).se (sE b h zb).se z0 zs zs2 z1
      · cases z2
    · cases z
  | .fld o f, m, i, X, c, lv, gd, e, h, z => by
    unfold chkE at z
    split at z
    · rw [Bool.and_eq_true, Bool.and_eq_true, Bool.and_eq_true, Bool.or_eq_true, Bool.and_eq_true, Bool.and_eq_true, Bool.not_eq_true'] at z
      obtain ⟨⟨⟨z0, z1⟩, z3⟩, z4⟩ := z
      have z1 := of_decide_eq_true z1
      subst z1
      rcases z0 with ⟨z0, z2⟩ | ⟨z0, z2⟩
      · exact snd_of h.K (se_fld (cf := cf) h.K (h.fld f z2) (sE o h z4).se z3 (of_decide_eq_true z0)) rfl
      · exact snd_of h.K (se_xfld (of_decide_eq_false z2) (h.xfl z0) (sE o h z4).se z3) rfl
    · cases z
  | .idx o j, m, i, X, c, lv, gd, e, h, z => by
    unfold chkE at z
    split at z
    · rw [Bool.and_eq_true, Bool.and_eq_true] at z
      have un := h.un
      exact snd_of h.K (se_idx h.K (by omega) (sE o h z.1.2).se (sE j h z.2).se z.1.1) rfl
    · cases z
  | .slc o lo hi, m, i, X, c, lv, gd, e, h, z => by
    unfold chkE at z
    split at z
    · rw [Bool.and_eq_true, Bool.and_eq_true] at z
      exact snd_of h.K (se_slc h.K (sE o h z.1.1).se (sO lo h z.1.2) (sO hi h z.2)) rfl
    · cases z
  | .rev o, m, i, X, c, lv, gd, e, h, z => by
    unfold chkE at z
    split at z
    · exact snd_of h.K (se_revL h.K (sE o h z).se) rfl
    · cases z
  | .tup as, m, i, X, c, lv, gd, e, h, z => by
    unfold chkE at z
    split at z
    · exact snd_of h.K (se_tup (sD as h z)) rfl
    · cases z
  | .lst as, m, i, X, c, lv, gd, e, h, z => by
    unfold chkE at z
    split at z
    · exact snd_of h.K (se_lst (sD as h z)) rfl
    · cases z
  | .dct0, m, i, X, c, lv, gd, e, h, z => by
    unfold chkE at z
    split at z
    · exact snd_of h.K se_dct0 rfl
    · cases z
  | .dct1 k v, m, i, X, c, lv, gd, e, h, z => by
    unfold chkE at z
    split at z
    · simp only [Bool.and_eq_true] at z
      obtain ⟨⟨⟨z0, z1⟩, z2⟩, z3⟩ := z
      have un := h.un
      refine snd_of h.K ?_ rfl
      have e1 : evE cf (.dct1 k v) = fun ρ S => (evE cf k ρ S).bind fun x S1 => (evE cf v ρ S1).bind (kDct x) := by
        funext ρ S
        simp only [evE]
      rw [e1]
      exact se_dct1 (by omega) (still_ok h z0 z2) (still_ok h z1 z3)
    · cases z
  | .lc t it f b own, m, i, X, c, lv, gd, e, h, z => by
    unfold chkE at z
    split at z
    · rename_i elt tg iter ifs scope p
      rw [Bool.and_eq_true, Bool.and_eq_true, Bool.and_eq_true, Bool.and_eq_true, Bool.and_eq_true, Bool.and_eq_true, Bool.and_eq_true, Bool.not_eq_true'] at z
      obtain ⟨⟨⟨⟨⟨⟨⟨z0, z1⟩, z2⟩, z3⟩, z4⟩, z5⟩, z6⟩, z7⟩ := z
      have k := h.cold z0
      refine snd_of h.K ?_ rfl
      rw [lc_eq]
      have q := se_lc (own := ownN i own) (t := t) (fc := fcOf cf f) k.calm h.nd (sI it h z1) (blkOk_by (by rw [h.N, h.sc]; exact z5))
        (fun s H C cl fp => tg_ok (good_blk h scope z0 s H C cl fp) z0 z2) (fun s H C cl fp => sC f (good_blk h scope z0 s H C cl fp) z3) (fun s H C cl fp => (sE b (good_blk h scope z0 s H C cl fp) z4).se) (iter_fold z7).1 (covers_ok z6 i)
        (pos := p)
      rw [ownN_snd] at q
      exact q
    · cases z
  | .lc2 t it t2 it2 b own own2, m, i, X, c, lv, gd, e, h, z => by
    unfold chkE at z
    split at z
    · rename_i elt tg iter tg1 iter1 scope p
      rw [Bool.and_eq_true, Bool.and_eq_true, Bool.and_eq_true, Bool.and_eq_true, Bool.and_eq_true, Bool.and_eq_true, Bool.and_eq_true, Bool.and_eq_true, Bool.and_eq_true, Bool.and_eq_true, Bool.and_eq_true, Bool.not_eq_true'] at z
      obtain ⟨⟨⟨⟨⟨⟨⟨⟨⟨⟨⟨z0, z1⟩, z2⟩, z3⟩, z4⟩, z5⟩, z6⟩, z7⟩, z8⟩, z9⟩, z10⟩, z11⟩ := z
      have k := h.cold z0
      refine snd_of h.K ?_ rfl
      rw [lc2_eq]
      have q := se_lc2 (own := ownN i own) (t := t) (t2 := t2) (vs2 := own2) k.calm h.nd (sI it h z1) (blkOk_by (by rw [h.N, h.sc]; exact z6)) (fun n hn => by rw [ownN_snd]; exact of_decide_eq_true (List.all_eq_true.mp z9 n hn))
        (fun s H C cl fp => tg_ok (good_blk h scope z0 s H C cl fp) z0 z2) (fun s H C cl fp => sI it2 (good_blk h scope z0 s H C cl fp) z3) (fun s H C cl fp => tg_ok (good_blk h scope z0 s H C cl fp) z0 z4)
        (fun s H C cl fp => ⟨fun pins s σ H Q I q => pts_nil.run pins s σ H Q I (by
          obtain ⟨g, al, ρ, S, xa, rl, er, out⟩ := q
          exact out.here rl rfl)⟩)
        (fun s H C cl fp => (sE b (good_blk h scope z0 s H C cl fp) z5).se) (iter_fold z10).1 (fun env x => by cases iter1 <;> first | rfl | (cases z11; done)) (covers_ok z7 i) (fun n hn => of_decide_eq_true (List.all_eq_true.mp z8 n hn))
        (pos := p)
      rw [ownN_snd] at q
      exact q
    · cases z
  | .gen al t it b own, m, i, X, c, lv, gd, e, h, z => by
    unfold chkE at z
    split at z
    · rename_i gd' fn pf elt tg iter scope gp p
      rw [Bool.and_eq_true, Bool.and_eq_true, Bool.and_eq_true, Bool.and_eq_true, Bool.and_eq_true, Bool.and_eq_true, Bool.and_eq_true, Bool.and_eq_true, Bool.and_eq_true, Bool.and_eq_true, Bool.and_eq_true, Bool.and_eq_true, Bool.not_eq_true', Bool.not_eq_true'] at z
      obtain ⟨⟨⟨⟨⟨⟨⟨⟨⟨⟨⟨⟨z0, z1⟩, z2⟩, z3⟩, z4⟩, z5⟩, z6⟩, z7⟩, z8⟩, z9⟩, z10⟩, z11⟩, z12⟩ := z
      have k := h.cold z0
      have z1 := of_decide_eq_true z1
      subst z1
      obtain ⟨hg, hm, _⟩ := blt_ok h z2
      refine snd_of h.K ?_ rfl
      rw [gen_eq]
      have hr : ∃ k, Room (k + 3) X.A := ⟨lv + 3 * gd', k.room.mono (by omega)⟩
      have ok : BlkOk X.N X.env.scope scope (ownN i own) := blkOk_by (by rw [h.N, h.sc]; exact z6)
      have nc : ∀ y ∈ scope.names, y.2 ≠ .cell := fun y hy => of_decide_eq_true (List.all_eq_true.mp z7 y hy)
      have pg : GBlk X scope fun Y cc P2 => PG Y tg (gQ (c.noX.code cc P2) t) := fun s H C cc P2 fp pn => tg_ok (good_gen h scope z0 s H C cc P2 fp pn) z0 z4
      have pe : GBlk X scope fun Y cc P2 => SE Y (c.noX.code cc P2) elt (evE cf b) := fun s H C cc P2 fp pn => (sE b (good_gen h scope z0 s H C cc P2 fp pn) z5).se
      have q := covers_ok z10 i
      cases al with
      | true =>
        have r := se_all (own := ownN i own) (t := t) (pos := p) (gpos := gp) (p := pf) hr h.nd (h.code z12 z0) (sI it h z3) ok nc (of_decide_eq_true z8) z9 pg pe q (iter_fold z11).2 hg hm
        rw [ownN_snd] at r
        exact r
      | false =>
        have r := se_any (own := ownN i own) (t := t) (pos := p) (gpos := gp) (p := pf) hr h.nd (h.code z12 z0) (sI it h z3) ok nc (of_decide_eq_true z8) z9 pg pe q (iter_fold z11).2 hg hm
        rw [ownN_snd] at r
        exact r
    · cases z
theorem sA : ∀ (as : Es) {i : Info} {X : Cx} {c : Ct} {lv gd : Nat} {es : List Expr}, Good i X c cf lv gd → chkEs as i gd es = true → SA X c es (evEs cf as) ∧ es.all notStar = true
  | .nil, i, X, c, lv, gd, es, h, z => by
    unfold chkEs at z
    split at z
    · exact ⟨sa_nil, rfl⟩
    · cases z
  | .cons a r, i, X, c, lv, gd, es, h, z => by
    unfold chkEs at z
    split at z
    · rw [Bool.and_eq_true, Bool.and_eq_true] at z
      obtain ⟨q1, q2⟩ := sA r h z.2
      exact ⟨sa_cons (sE a h z.1.2).se q1 z.1.1, by rw [List.all_cons, z.1.1, q2]; rfl⟩
    · cases z
theorem sD : ∀ (as : Es) {i : Info} {X : Cx} {c : Ct} {lv gd : Nat} {es : List Expr}, Good i X c cf lv gd → chkEs as i gd es = true → SD X c es (evDs cf as)
  | .nil, i, X, c, lv, gd, es, h, z => by
    unfold chkEs at z
    split at z
    · exact sd_nil
    · cases z
  | .cons a r, i, X, c, lv, gd, es, h, z => by
    unfold chkEs at z
    split at z
    · rw [Bool.and_eq_true, Bool.and_eq_true] at z
      exact sd_cons (sE a h z.1.2).se (sD r h z.2) z.1.1
    · cases z
theorem sO : ∀ (o : Op) {i : Info} {X : Cx} {c : Ct} {lv gd : Nat} {e : Option Expr}, Good i X c cf lv gd → chkO o i gd e = true → SO X c e (evOp cf o)
  | .none, i, X, c, lv, gd, e, h, z => by
    unfold chkO at z
    split at z
    · exact so_none
    · cases z
  | .some a, i, X, c, lv, gd, e, h, z => by
    unfold chkO at z
    split at z
    · exact so_some (sE a h z).se
    · cases z
theorem sC : ∀ (o : Op) {i : Info} {X : Cx} {c : Ct} {lv gd : Nat} {l : List Expr}, Good i X c cf lv gd → chkC o i gd l = true → PTs X l (TQ c relB (fcOf cf o))
  | .none, i, X, c, lv, gd, e, h, z => by
    unfold chkC at z
    split at z
    · refine ⟨fun pins s σ H Q I q => pts_nil.run pins s σ H Q I ?_⟩
      obtain ⟨g, al, ρ, S, xa, rl, er, out⟩ := q
      exact out.here rl rfl
    · cases z
  | .some a, i, X, c, lv, gd, e, h, z => by
    unfold chkC at z
    split at z
    · exact pts_one (sE a h z).pt
    · cases z
theorem sI : ∀ (it : It) {i : Info} {X : Cx} {c : Ct} {lv gd : Nat} {tg e : Expr}, Good i X c cf lv gd → chkI it i gd e = true → SI X c tg e (evIt cf it)
  | .rng1 a, i, X, c, lv, gd, tg, e, h, z => by
    unfold chkI at z
    split at z
    · rw [Bool.and_eq_true, Bool.and_eq_true, Bool.and_eq_true] at z
      obtain ⟨⟨⟨z0, z1⟩, z2⟩, z3⟩ := z
      have z0 := of_decide_eq_true z0
      subst z0
      obtain ⟨hg, hm, _⟩ := blt_ok h z1
      exact si_rng1 hg hm (sE a h z3).se z2
    · cases z
  | .rng2 a b, i, X, c, lv, gd, tg, e, h, z => by
    unfold chkI at z
    split at z
    · rw [Bool.and_eq_true, Bool.and_eq_true, Bool.and_eq_true, Bool.and_eq_true, Bool.and_eq_true] at z
      obtain ⟨⟨⟨⟨⟨z0, z1⟩, z2⟩, z2'⟩, z3⟩, z4⟩ := z
      have z0 := of_decide_eq_true z0
      subst z0
      obtain ⟨hg, hm, _⟩ := blt_ok h z1
      exact si_rng2 hg hm (sE a h z3).se (sE b h z4).se z2 z2'
    · cases z
  | .rng3 a b d, i, X, c, lv, gd, tg, e, h, z => by
    unfold chkI at z
    split at z
    · simp only [Bool.and_eq_true] at z
      obtain ⟨⟨⟨⟨⟨⟨⟨z0, z1⟩, z2⟩, z2'⟩, z2''⟩, z3⟩, z4⟩, z5⟩ := z
      have z0 := of_decide_eq_true z0
      subst z0
      obtain ⟨hg, hm, _⟩ := blt_ok h z1
      exact si_rng3 hg hm (sE a h z3).se (sE b h z4).se (sE d h z5).se z2 z2' z2''
    · cases z
  | .ov a, i, X, c, lv, gd, tg, e, h, z => by
    unfold chkI at z
    exact si_ov h.K (sE a h z).se
end
end
end SW

-- SwX
set_option Elab.async false
set_option linter.all false
set_option maxRecDepth 100000
set_option maxHeartbeats 16000000
set_option autoImplicit false
/-! SwX: the checker of statements, and that it is right -/
namespace SW
open PySem PySem.Spec PyProof.Rows L2

def noLC : Expr → Bool
  | .ListComp _ _ _ _ => false
  | .SetComp _ _ _ _ => false
  | .DictComp _ _ _ _ _ => false
  | _ => true
def noTup : Expr → Bool
  | .Tuple _ _ _ => false
  | _ => true
theorem sw_false {v : Expr} (h : noLC v = true) (t : Option Expr) (l : Nat) (env : PySem.Env) : swapsWith v t l env = pure false := by
  cases v <;> first | rfl | (cases h; done)
/-- a name that is a cell: the list is made first, then stored -/
theorem sw_cell {v : Expr} {x : Str} {xp : Pos} {l : Nat} {env : PySem.Env} (h : env.scope.names.lookup x = some .cell) : swapsWith v (some (.Name x xp)) l env = pure false := by
  have k2 : (env.kindOf x == some NameKind.local) = false := by
    show (env.scope.names.lookup x == some NameKind.local) = false
    rw [h]; rfl
  cases v <;> first | rfl | skip
  all_goals (unfold swapsWith; simp only [k2, Bool.and_false, Bool.false_and])
theorem sws_false {v t : Expr} (h : noLC v = true) (l : Nat) (env : PySem.Env) : swapsWithSole [t] v l env = pure false := sw_false h _ _ _
theorem sst_none {v t : Expr} (h : noTup v = true) (env : PySem.Env) : swappedStores [t] v env = pure none := by
  cases v <;> first | (cases h; done) | (cases t <;> rfl)
theorem sst_sub {v o i : Expr} {p : Pos} (env : PySem.Env) : swappedStores [.Subscript o i p] v env = pure none := by
  cases v <;> rfl
theorem sw_true {elt : Expr} {gens : List Comprehension} {scope : Scope} {vp xp : Pos} {x : Str} {env : PySem.Env} {line : Nat} (hb : env.blockKind = .function) (hy : env.scope.names.lookup x = some .local) (hl : xp.line = vp.line)
    (hn : (scope.names.any fun z => z.1 == x && (z.2 == .local || z.2 == .cell)) = false) : swapsWith (.ListComp elt gens scope vp) (some (.Name x xp)) line env = pure true := by
  have k1 : (env.blockKind == ScopeKind.function) = true := by rw [hb]; rfl
  have k2 : (env.kindOf x == some NameKind.local) = true := by
    show (env.scope.names.lookup x == some NameKind.local) = true
    rw [hy]; rfl
  have k3 : (xp.line == vp.line) = true := by rw [hl]; simp
  show (pure (env.blockKind == ScopeKind.function && env.kindOf x == some NameKind.local && xp.line == vp.line && !(scope.names.any fun z => z.1 == x && (z.2 == .local || z.2 == .cell))) : Sem Bool) = pure true
  rw [k1, k2, k3, hn]
  rfl
def funB (i : Info) : Bool := decide (i.sc.kind = .function)
/-- a name of the frame -/
def locB (i : Info) (n : Nat) (x : Str) : Bool := decide (i.N[n]? = some x) && (i.sc.names.lookup x == some .local)
mutual
def chkT : T → Info → Nat → Stmt → Bool
  | .set keep n e, i, gd, s => match s with
    | .Assign [.Name x xp] v p => ((noLC v || i.sc.names.lookup x == some .cell) && tgtB i n x && chkE e false i gd v) ||
      (match e, v with
      | .lc t it f b own, .ListComp elt [⟨tg, iter, ifs, 0⟩] scope vp => funB i && locB i n x && decide (xp.line = vp.line) && !(scope.names.any fun z => z.1 == x && (z.2 == .local || z.2 == .cell)) && !i.hot && chkE (.lc t it f b own) false i gd (.ListComp elt [⟨tg, iter, ifs, 0⟩] scope vp)
      | _, _ => false)
    | _ => false
  | .unp is e, i, gd, s => match s with
    | .Assign [.Tuple es k tp] v p => !i.hot && noLC v && noTup v && tgtsB i is es && chkE e false i gd v
    | _ => false
  | .seti o j e, i, gd, s => match s with
    | .Assign [.Subscript x y tp] v p => noLC v && notSlice y && chkE o false i gd x && chkE j false i gd y && chkE e false i gd v
    | _ => false
  | .seti2 _ _ _ _ _, _, _, _ => false
  | .setf o f e, i, gd, s => match s with
    | .Assign [.Attribute x nm tp] v p => noLC v && decide (nm = fldN f) && i.nm.fld f && chkE o false i gd x && chkE e false i gd v
    | _ => false
  | .app o e, i, gd, s => match s with
    | .Expr (.Call (.Attribute x nm apos) [y] [] cpos) p => decide (nm = ("append" : Str)) && notStar y && plainBase x && (apos.endLine == cpos.line) && chkE o false i gd x && chkE e false i gd y
    | _ => false
  | .ex e, i, gd, s => match s with
    | .Expr v p => noLC v && chkE e false i gd v
    | _ => false
  | .ife c a b, i, gd, s => match s with
    | .If t s1 s2 p => chkE c true i gd t && chkTs a i gd s1 && chkTs b i gd s2
    | _ => false
  | .forr t it b, i, gd, s => match s with
    | .For tg iter body [] p => !i.hot && plainIter iter && chkI it i gd iter && tgB i t tg && chkTs b i gd body
    | _ => false
  | .whl c b, i, gd, s => match s with
    | .While t body [] p => !i.hot && chkE c true i gd t && chkTs b i gd body
    | _ => false
  | .ret e, i, gd, s => match s with
    | .Return (some v) p => chkE e false i gd v
    | .Return none p => (match e with
      | .con .non => true
      | _ => false)
    | .Raise (some _) none p => (match e with
      | .blt .len .nil => true
      | _ => false)
    | _ => false
  | .rse k as, i, gd, s => match s with
    | .Raise (some (.Call (.Name x xp) es [] cp)) none p => !i.hot && glB i x && dbg x && decide (i.nm.exn x = some k) && (match as, es with
      | .nil, [] => plainK k
      | .cons a .nil, [y] => !plainK k && notStar y && chkE a false i gd y
      | _, _ => false)
    | _ => false
  | .tryy b k v h, i, gd, s => match s with
    | .Try body [.ExceptHandler (some (.Name x xp)) on (b0 :: suite) hp] [] [] p => !i.hot && i.top && glB i x && dbg x && decide (i.nm.exn x = some k) && chkTs b i gd body && chkTs h i.sui gd (b0 :: suite) && (match v, on with
      | none, none => true
      | some n, some y => locB i n y
      | _, _ => false)
    | _ => false
  | .brk, i, gd, s => match s with
    | .Break p => true
    | _ => false
  | .pas, i, gd, s => match s with
    | .Pass p => true
    | _ => false
def chkTs : Ts → Info → Nat → List Stmt → Bool
  | .nil, i, gd, l => match l with
    | [] => true
    | _ => false
  | .cons a r, i, gd, l => match l with
    | x :: l => chkT a i gd x && chkTs r i gd l
    | [] => false
end
theorem ss_retN {X : Cx} {c : Ct} {pos : Pos} : SS X c (.Return none pos) (fun ρ S => .rt (.d .non) S) := ps_retN.imp fun D σ H h => by
  obtain ⟨g, al, ρ, S, xa, rl, er, out⟩ := h
  exact out g H al .non (.refl _ _) rl (List.prefix_refl _) (by
    show Rep _ _ _ _ _ _
    unfold Rep
    rfl)
theorem ev_cond {cf : CF} {c : E} {ρ : Env} {S : Store} {k : Bool → Store → RS} : (evCond cf c ρ S).to ρ k = ((evE cf c ρ S).bind kTru).to ρ fun b S1 => k b (S1.take S.length) := by
  unfold evCond
  rw [R.bind_to, R.bind_to]
  congr 1
  funext v S1
  unfold asTruth kTru
  cases (rd S1 v).bind truth <;> rfl
theorem ev_cond2 {cf : CF} {c : E} : evCond cf c = fun ρ S => ((evE cf c ρ S).bind kTru).bind fun b S1 => .ok b (S1.take S.length) := by
  funext ρ S
  unfold evCond
  rw [R.bind_assoc]
  congr 1
  funext v S1
  unfold asTruth kTru
  cases (rd S1 v).bind truth <;> rfl
section
variable {cf : CF} {i : Info} {X : Cx} {c : Ct} {lv gd : Nat}
theorem kind_ok (h : Good i X c cf lv gd) {x : Str} {n : Nat} (z : locB i n x = true) : X.N[n]? = some x ∧ X.env.scope.names.lookup x = some .local := by
  unfold locB at z
  rw [Bool.and_eq_true] at z
  exact ⟨by rw [h.N]; exact of_decide_eq_true z.1, by rw [h.sc]; exact eq_of_beq z.2⟩
theorem fun_ok (h : Good i X c cf lv gd) (z : funB i = true) : X.env.blockKind = .function := by
  unfold funB at z
  unfold Env.blockKind
  rw [h.sc, of_decide_eq_true z]
  rfl
/-- name = [..] -/
theorem set_lc {keep : Bool} {n : Nat} {x : Str} {xp p vp : Pos} {t : Tg} {it : It} {f : Op} {b : E} {own : List Nat} {elt tg iter : Expr} {ifs : List Expr} {scope : Scope} (h : Good i X c cf lv gd) (hfun : funB i = true) (hl : locB i n x = true) (hp : xp.line = vp.line) (hn : (scope.names.any fun z => z.1 == x && (z.2 == .local || z.2 == .cell)) = false) (hh : i.hot = false)
    (z : chkE (.lc t it f b own) false i gd (.ListComp elt [⟨tg, iter, ifs, 0⟩] scope vp) = true) :
    SS X c (.Assign [.Name x xp] (.ListComp elt [⟨tg, iter, ifs, 0⟩] scope vp) p) (evT cf (.set keep n (.lc t it f b own))) := by
  unfold chkE at z
  simp only [Bool.and_eq_true, Bool.not_eq_true'] at z
  obtain ⟨⟨⟨⟨⟨⟨⟨z0, z1⟩, z2⟩, z3⟩, z4⟩, z5⟩, z6⟩, z7⟩ := z
  have k := h.cold hh
  obtain ⟨h1, h2⟩ := kind_ok h hl
  refine ss_setLc (i := n) (own := ownN i own) (t := t) (fc := fcOf cf f) (fi := evIt cf it) (fe := evE cf b) (keep := keep) ?_ k.calm h.nd h1 h2 (sw_true (fun_ok h hfun) h2 hp hn) (sI it h z1) (blkOk_by (by rw [h.N, h.sc]; exact z5))
    (fun s H C cl fp => tg_ok (good_blk h scope hh s H C cl fp) hh z2) (fun s H C cl fp => sC f (good_blk h scope hh s H C cl fp) z3) (fun s H C cl fp => (sE b (good_blk h scope hh s H C cl fp) z4).se) (iter_fold z7).1 (covers_ok z6 i)
  rw [ownN_snd]
  have e := lc_eq cf t it f b own
  cases keep with
  | true =>
    rw [if_pos rfl]
    funext ρ S
    simp only [evT]
    rw [e]
  | false =>
    rw [if_neg Bool.false_ne_true]
    funext ρ S
    simp only [evT, evData]
    rw [e]
end
end SW

-- SwY
set_option Elab.async false
set_option linter.all false
set_option maxRecDepth 100000
set_option maxHeartbeats 16000000
set_option autoImplicit false
/-! SwY: the checker of statements is right -/
namespace SW
open PySem PySem.Spec PyProof.Rows L2
section
variable {cf : CF}
mutual
theorem sT : ∀ (t : T) {i : Info} {X : Cx} {c : Ct} {lv gd : Nat} {s : Stmt}, Good i X c cf lv gd → chkT t i gd s = true → SS X c s (evT cf t)
  | .set keep n e, i, X, c, lv, gd, s, h, z => by
    unfold chkT at z
    split at z
    · rename_i x xp v p
      rw [Bool.or_eq_true] at z
      rcases z with z | z
      · simp only [Bool.and_eq_true] at z
        obtain ⟨⟨z0, z1⟩, z2⟩ := z
        have k := tgt_ok h z1
        have z0 : ∀ (q : Pos) (l : Nat), swapsWith v (some (.Name x q)) l X.env = pure false := fun q l => by
          rw [Bool.or_eq_true] at z0
          rcases z0 with z0 | z0
          · exact sw_false z0 _ _ _
          · exact sw_cell (by rw [h.sc]; exact eq_of_beq z0)
        cases keep with
        | true =>
          have e1 : evT cf (.set true n e) = fun ρ S => (evE cf e ρ S).to ρ fun v S1 => (gc S.length v S1).to ρ fun u S2 => .nx (ρ.set n (some u)) S2 := by
            funext ρ S; simp only [evT]
          rw [e1]
          exact ss_set h.nd k (sE e h z2).se (z0 _ _)
        | false =>
          have e1 : evT cf (.set false n e) = fun ρ S => ((evE cf e ρ S).bind fun v S1 => asData S.length v S1).to ρ fun x S1 => .nx (ρ.set n (some (.d x))) S1 := by
            funext ρ S; simp only [evT, evData]
          rw [e1]
          exact ss_setd h.nd k (sE e h z2).se (z0 _ _)
      · split at z
        · simp only [Bool.and_eq_true, Bool.not_eq_true'] at z
          obtain ⟨⟨⟨⟨⟨z0, z1⟩, z2⟩, z3⟩, z4⟩, z5⟩ := z
          exact set_lc h z0 z1 (of_decide_eq_true z2) z3 z4 z5
        · cases z
    · cases z
  | .unp is e, i, X, c, lv, gd, s, h, z => by
    unfold chkT at z
    split at z
    · simp only [Bool.and_eq_true, Bool.not_eq_true'] at z
      obtain ⟨⟨⟨⟨z0, z1⟩, z2⟩, z3⟩, z4⟩ := z
      have e1 : evT cf (.unp is e) = fun ρ S => ((evE cf e ρ S).bind fun v S1 => asData S.length v S1).to ρ fun x S1 => match asg (.tup is) x ρ with
          | some ρ1 => .nx ρ1 S1
          | none => .bad := by
        funext ρ S
        simp only [evT, evData]
        all_goals rfl
      rw [e1]
      exact ss_unp h.K (h.cold z0).calm h.nd (tgts_ok h z3) (sE e h z4).se (sws_false z1 _ _) (sst_none z2 _)
    · cases z
  | .seti o j e, i, X, c, lv, gd, s, h, z => by
    unfold chkT at z
    split at z
    · simp only [Bool.and_eq_true] at z
      obtain ⟨⟨⟨⟨z0, z1⟩, z2⟩, z3⟩, z4⟩ := z
      have un := h.un
      have e1 : evT cf (.seti o j e) = fun ρ S => ((evE cf e ρ S).bind kD).to ρ fun x S2 => (evE cf o ρ S2).to ρ fun u S3 => (evE cf j ρ S3).to ρ fun w S4 => (kSet u w x S4).to ρ fun _ S5 => .nx ρ (S5.take S.length) := by
        funext ρ S; simp only [evT]
      rw [e1]
      exact ss_seti (by omega) (sE o h z2).se (sE j h z3).se (sE e h z4).se (sws_false z0 _ _) (sst_sub _) (fun v => by
        rename_i yy _ _ _
        cases yy <;> first | rfl | (cases z1; done))
    · cases z
  | .seti2 _ _ _ _ _, i, X, c, lv, gd, s, h, z => by unfold chkT at z; cases z
  | .setf o f e, i, X, c, lv, gd, s, h, z => by
    unfold chkT at z
    split at z
    · simp only [Bool.and_eq_true] at z
      obtain ⟨⟨⟨⟨z0, z1⟩, z2⟩, z3⟩, z4⟩ := z
      have z1 := of_decide_eq_true z1
      subst z1
      have e1 : evT cf (.setf o f e) = fun ρ S => ((evE cf e ρ S).bind kD).to ρ fun x S2 => (evE cf o ρ S2).to ρ fun u S3 => (kSetf f u x S3).to ρ fun _ S4 => .nx ρ (S4.take S.length) := by
        funext ρ S; simp only [evT]
      rw [e1]
      exact ss_setf h.K (h.fld f z2) (sE o h z3).se (sE e h z4).se (sw_false z0 _ _ _)
    · cases z
  | .app o e, i, X, c, lv, gd, s, h, z => by
    unfold chkT at z
    split at z
    · simp only [Bool.and_eq_true] at z
      obtain ⟨⟨⟨⟨⟨z0, z1⟩, z2⟩, z3⟩, z4⟩, z5⟩ := z
      have z0 := of_decide_eq_true z0
      subst z0
      have e1 : evT cf (.app o e) = fun ρ S => ((evE cf o ρ S).bind kIsL).to ρ fun n S1 => ((evE cf e ρ S1).bind kD).to ρ fun x S3 => (push n x S3).to ρ fun _ S4 => .nx ρ (S4.take S.length) := by
        funext ρ S; simp only [evT]
      rw [e1]
      exact ss_app h.K (sE o h z4).se (sE e h z5).se z1 z2 z3
    · cases z
  | .ex e, i, X, c, lv, gd, s, h, z => by
    unfold chkT at z
    split at z
    · simp only [Bool.and_eq_true] at z
      have e1 : evT cf (.ex e) = fun ρ S => (evE cf e ρ S).to ρ fun _ S1 => .nx ρ (S1.take S.length) := by
        funext ρ S; simp only [evT]
      rw [e1]
      exact ss_ex (sE e h z.2).se (sw_false z.1 _ _ _)
    · cases z
  | .ife d a b, i, X, c, lv, gd, s, h, z => by
    unfold chkT at z
    split at z
    · simp only [Bool.and_eq_true] at z
      obtain ⟨⟨z0, z1⟩, z2⟩ := z
      have e1 : evT cf (.ife d a b) = fun ρ S => ((evE cf d ρ S).bind kTru).to ρ fun k S1 => if k then evTs cf a ρ (S1.take S.length) else evTs cf b ρ (S1.take S.length) := by
        funext ρ S
        simp only [evT]
        rw [ev_cond]
      rw [e1]
      exact ss_ife (sE d h z0).pt (sTs a h z1) (sTs b h z2)
    · cases z
  | .forr t it b, i, X, c, lv, gd, s, h, z => by
    unfold chkT at z
    split at z
    · simp only [Bool.and_eq_true, Bool.not_eq_true'] at z
      obtain ⟨⟨⟨⟨z0, z1⟩, z2⟩, z3⟩, z4⟩ := z
      have k := h.cold z0
      have e1 : evT cf (.forr t it b) = fun ρ S => (evIt cf it ρ S).to ρ fun xs S1 => forGo (evTs cf b) t xs ρ (S1.take S.length) := by
        funext ρ S; simp only [evT]
      rw [e1]
      exact ss_for k.own k.calm (sI it h z2) (tg_ok h z0 z3) (sTs b h z4) (iter_fold z1).1
    · cases z
  | .whl d b, i, X, c, lv, gd, s, h, z => by
    unfold chkT at z
    split at z
    · simp only [Bool.and_eq_true, Bool.not_eq_true'] at z
      obtain ⟨⟨z0, z1⟩, z2⟩ := z
      have k := h.cold z0
      have e1 : evT cf (.whl d b) = fun ρ S => whlGo (fun ρ S => ((evE cf d ρ S).bind kTru).bind fun b S1 => .ok b (S1.take S.length)) (evTs cf b) FUEL ρ S := by
        funext ρ S
        simp only [evT]
        rw [ev_cond2]
      rw [e1]
      exact ss_whl k.own (sE d h z1).pt (sTs b h z2)
    · cases z
  | .ret e, i, X, c, lv, gd, s, h, z => by
    unfold chkT at z
    have e1 : evT cf (.ret e) = fun ρ S => (evE cf e ρ S).to ρ fun v S1 => .rt v S1 := by
      funext ρ S; simp only [evT]
    split at z
    · rw [e1]
      exact ss_ret (sE e h z).se
    · split at z
      · have e2 : evT cf (.ret (.con .non)) = fun ρ S => .rt (.d .non) S := by
          rw [e1]
          funext ρ S
          simp only [evE, R.to]
        rw [e2]
        exact ss_retN
      · cases z
    · split at z
      · have e2 : evT cf (.ret (.blt .len .nil)) = fun ρ S => .bad := by
          rw [e1]
          funext ρ S
          simp only [evE, evEs, R.bind, kBlt, rds, bltD, give, R.to]
        rw [e2]
        exact ⟨fun pins s σ H D I q => by
          obtain ⟨g, al, ρ, S, _, _, _, out⟩ := q
          exact out.elim⟩
      · cases z
    · cases z
  | .rse k as, i, X, c, lv, gd, s, h, z => by
    unfold chkT at z
    split at z
    · simp only [Bool.and_eq_true, Bool.not_eq_true'] at z
      obtain ⟨⟨⟨⟨z0, z1⟩, z2⟩, z3⟩, z4⟩ := z
      split at z4
      · obtain ⟨h1, h2⟩ := h.exn _ _ (of_decide_eq_true z3)
        obtain ⟨⟨bmB, B, nw, ini, F, q⟩, hk, hr⟩ := h.exo k h2 z4
        have e1 : evT cf (.rse k .nil) = fun ρ S => .xc k [] ρ (S.take S.length) := by
          funext ρ S
          simp only [evT, evDs, R.to]
        rw [e1]
        exact ss_rse0 h2 (h.cold z0).calm h.tk (pmk_own0 F q h1 hk hr (gl_ok h z1) (dbg_ok z2).1)
      · rename_i a y
        simp only [Bool.and_eq_true, Bool.not_eq_true'] at z4
        obtain ⟨⟨y0, y1⟩, y2⟩ := z4
        obtain ⟨h1, h2⟩ := h.exn _ _ (of_decide_eq_true z3)
        obtain ⟨hs, fI, fd, xx, T⟩ := h.pxo k h2 y0
        have kc := h.cold z0
        have e1 : evT cf (.rse k (.cons a .nil)) = fun ρ S => ((evE cf a ρ S).bind kD).to ρ fun x S1 => .xc k [x] ρ (S1.take S.length) := by
          funext ρ S
          simp only [evT, evDs]
          rw [R.bind_to]
          congr 1
        rw [e1]
        exact ss_rse1 h2 kc.calm h.tk (sE a h y2).se y1 fun ta ha => pmk_px T hs (kc.room.mono (by omega)) (gl_ok h z1) h1 (dbg_ok z2).1 ha (star_each y1)
      · cases z4
    · cases z
  | .tryy b k v hd, i, X, c, lv, gd, s, h, z => by
    unfold chkT at z
    split at z
    · simp only [Bool.and_eq_true, Bool.not_eq_true'] at z
      obtain ⟨⟨⟨⟨⟨⟨⟨z0, z1⟩, z2⟩, z3⟩, z4⟩, z5⟩, z6⟩, z7⟩ := z
      obtain ⟨h1, h2⟩ := h.exn _ _ (of_decide_eq_true z4)
      obtain ⟨t1, t2, t3⟩ := h.top z1
      have kc := h.cold z0
      split at z7
      · have e1 : evT cf (.tryy b k none hd) = fun ρ S => match evTs cf b ρ S with
            | .xc c' p ρ1 S1 => if excSub c' k then suiteEnd id (evTs cf hd ρ1 S1) else .xc c' p ρ1 S1
            | q => q := by
          funext ρ S
          simp only [evT]
          all_goals rfl
        rw [e1]
        exact ss_try_only (k0 := k) h.K t2 t3 ⟨gl_ok h z2, (dbg_ok z3).1, .inl h1⟩ h.tk kc.xo (fun k' hk' => h.K ▸ h.exm k' k hk' h2)
          (fun W pn xe tk po => sTs b (good_tr h z0 tk po) z5) (fun a oe cls d pn hz hf => sTs hd (good_sui h hz hf) z6)
      · rename_i n y
        obtain ⟨q1, q2⟩ := kind_ok h z7
        have e1 : evT cf (.tryy b k (some n) hd) = fun ρ S => match evTs cf b ρ S with
            | .xc c' p ρ1 S1 => if excSub c' k then suiteEnd (fun ρ => ρ.set n none) (evTs cf hd (ρ1.set n (some (.x c' p))) S1) else .xc c' p ρ1 S1
            | q => q := by
          funext ρ S
          simp only [evT]
          all_goals rfl
        rw [e1]
        exact ss_try_as (k0 := k) h.K t2 t3 h.nd q1 q2 ⟨gl_ok h z2, (dbg_ok z3).1, .inl h1⟩ h.tk kc.xo (fun k' hk' => h.exm k' k hk' h2)
          (fun W pn xe tk po => sTs b (good_tr h z0 tk po) z5) (fun a oe cls d pn hz hf => sTs hd (good_sui h hz hf) z6)
      · cases z7
    · cases z
  | .brk, i, X, c, lv, gd, s, h, z => by
    unfold chkT at z
    split at z
    · have e1 : evT cf .brk = fun ρ S => .bk ρ S := by
        funext ρ S; simp only [evT]
      rw [e1]
      exact ss_brk
    · cases z
  | .pas, i, X, c, lv, gd, s, h, z => by
    unfold chkT at z
    split at z
    · have e1 : evT cf .pas = fun ρ S => .nx ρ S := by
        funext ρ S; simp only [evT]
      rw [e1]
      exact ss_pas
    · cases z
theorem sTs : ∀ (t : Ts) {i : Info} {X : Cx} {c : Ct} {lv gd : Nat} {l : List Stmt}, Good i X c cf lv gd → chkTs t i gd l = true → SSs X c l (evTs cf t)
  | .nil, i, X, c, lv, gd, l, h, z => by
    unfold chkTs at z
    split at z
    · have e1 : evTs cf .nil = fun ρ S => .nx ρ S := by
        funext ρ S; simp only [evTs]
      rw [e1]
      exact sss_nil
    · cases z
  | .cons a r, i, X, c, lv, gd, l, h, z => by
    unfold chkTs at z
    split at z
    · rw [Bool.and_eq_true] at z
      have e1 : evTs cf (.cons a r) = fun ρ S => (evT cf a ρ S).andThen (evTs cf r) := by
        funext ρ S; simp only [evTs]
      rw [e1]
      exact sss_cons (sT a h z.1) (sTs r h z.2)
    · cases z
end
end
end SW

-- SwZ
set_option Elab.async false
set_option linter.all false
set_option maxRecDepth 100000
set_option maxHeartbeats 8000000
set_option autoImplicit false
/-! SwZ: the defs of the text keep what the evaluator says -/
namespace SW
open PySem PySem.Spec PyProof.Rows L2

/-- the index f is the def at a -/
structure DefAt (K : PySem.W.Frag) (mg : Str → Option Value) (base : Heap) (G : Gd) (nm : Nm) (tbl : Nat → Option Fn) (gm : Nat) (f : Nat) (a : Addr) (fd : FuncData) (ps : List Str) : Prop where
  bind : Binds K fd ps []
  ex : ∃ (d : Fn) (N : List Str) (b : Bool) (name qual : Str) (params : Arguments) (body : List Stmt) (scope : Scope) (dV kV doc pm cdv ct oc : Value) (an od : Option Addr) (osl : Array (Option Value)),
    tbl f = some d ∧ fd = PySem.W.fnOf name qual params body scope dV kV doc pm an cdv ct ∧ K.lookup a = some ⟨oc, od, .func (PySem.W.fnOf name qual params body scope dV kV doc pm an cdv ct), osl⟩ ∧ PySem.W.codeIn K cdv qual = true ∧ FnScope N ps scope ∧
    d.np = ps.length ∧ d.nl = N.length ∧ chkTs d.body ⟨N, scope, { nm with gen := b }, false, true⟩ gm body = true ∧
    (b = true → (∃ cc P, cdv = .ref cc ∧ G.tab P ∧ PySem.W.CodeHd base cc P) ∧ ∃ (bm : Addr) (ob : Obj), mg "__builtins__" = some (.ref bm) ∧ bm ≠ builtinsNs ∧ base.get? bm = some ob ∧ ob.cls = .type "module" ∧ ob.dict = some builtinsNs ∧ ob.data = .plain)
/-- what is known of the text -/
structure Hd (P : Program) (K : PySem.W.Frag) (mg : Str → Option Value) (base : Heap) (G : Gd) (nm : Nm) (tbl : Nat → Option Fn) (gm : Nat) : Prop where
  fn : ∀ x f, nm.fn x = some f → mg x = some (.ref (G.fnA f)) ∧ G.ok f
  cls : ∀ x k, nm.cls x = some k → mg x = some (.ref (G.clsA k))
  con : ∀ x y, nm.con x = some y → ∃ v u, mg x = some u ∧ RelV v u ∧ ∀ g H, Rep G K g H y v
  blt : ∀ x, nm.blt x = true → mg x = none
  fld : ∀ f, nm.fld f = true → ∀ k, G.okC k → Cls K (G.clsA k) ∧ NoAttr K (G.clsA k) (fldN f)
  ini : ∀ k f, nm.ini k = some f → G.okM k f
  exn : ∀ x k, nm.exn x = some k → mg x = some (.ref (G.clsA k)) ∧ G.okX k
  exo : ∀ k, G.okX k → plainK k = true → (∃ bmB B newId initId, ExcBaseFacts B newId initId bmB ∧ PySem.W.excIn K (G.clsA k) bmB newId = true) ∧ PySem.W.keepIn K (.ref (G.clsA k)) = true ∧ PySem.W.subIn K (.ref (G.clsA k)) (.type "BaseException") = some true ∧ PySem.W.typeIn K (.ref (G.clsA k)) = some (.type "type")
  exm : ∀ k k0, G.okX k → G.okX k0 → PySem.W.exmOne K (.ref (G.clsA k)) (.ref (G.clsA k0)) = some (excSub k k0)
  exs : ∀ k, G.okX k → ExcC K (G.clsA k)
  exk : ∀ k k2, G.okX k → G.okX k2 → PySem.W.kitOne K (.ref (G.clsA k)) (.ref (G.clsA k2)) = some (excSub k k2)
  exv : ∀ k, G.okX k → PySem.W.kitOne K (.ref (G.clsA k)) (.type "ValueError") = some true
  pxo : ∀ k, G.okX k → plainK k = false → mg "super" = none ∧ ∃ fI fd x, PxC P K (G.clsA k) fI fd x (excF k)
  exn0 : ∀ k, G.okX k → PySem.W.findIn K (.ref (G.clsA k)) (excF k) = some none
  mth : ∀ m f, nm.mth m = some f → G.okU m f
  oku : ∀ m f, G.okU m f → ∃ a, Cls K (G.clsA 1) ∧ Meth K (G.clsA 1) m a ∧ ∃ fd ps, DefAt K mg base G nm tbl gm f a fd ps
  okf : ∀ f, G.ok f → PySem.W.keepIn K (.ref (G.fnA f)) = true ∧ ∃ fd ps, DefAt K mg base G nm tbl gm f (G.fnA f) fd ps
  okm : ∀ k f, G.okM k f → G.okC k ∧ ∃ a, Mk K (G.clsA k) a ∧ ∃ fd ps, DefAt K mg base G nm tbl gm f a fd ps

def noXo : Addr → Nat → Option Addr → Prop := fun _ _ _ => False
theorem repVs_length {G : Gd} {K : PySem.W.Frag} {g : Gh} {H : Hp} {al : List Addr} : ∀ {xs : List Vl} {vs : List V}, RepVs G K g H al xs vs → xs.length = vs.length
  | [], _, h => by
    unfold RepVs at h
    rw [h]
    rfl
  | x :: xs, _, h => by
    unfold RepVs at h
    obtain ⟨v, r, rfl, _, h2⟩ := h
    rw [List.length_cons, List.length_cons, repVs_length h2]
theorem repVs_get {G : Gd} {K : PySem.W.Frag} {g : Gh} {H : Hp} {al : List Addr} : ∀ {xs : List Vl} {vs : List V}, RepVs G K g H al xs vs → ∀ (i : Nat) (x : Vl), xs[i]? = some x → ∃ v, vs[i]? = some v ∧ RepL G K g H al x v
  | [], _, h, i, x, e => by cases e
  | y :: xs, _, h, i, x, e => by
    unfold RepVs at h
    obtain ⟨v, r, rfl, h1, h2⟩ := h
    cases i with
    | zero =>
      cases e
      exact ⟨v, rfl, h1⟩
    | succ i => exact repVs_get h2 i x e
theorem er_entry {G : Gd} {K : PySem.W.Frag} {g : Gh} {H : Hp} {al : List Addr} {xs : List Vl} {vs : List V} {d : Fn} {N : List Str} (h : RepVs G K g H al xs vs) (hl : d.nl = N.length) : Er G K g H al (entry d xs) (L2.start N vs) where
  len := by
    unfold entry L2.start
    rw [List.length_append, List.length_append, List.length_map, List.length_map, List.length_replicate, List.length_replicate, repVs_length h, hl]
  at_ := fun i x e => by
    have L := repVs_length h
    unfold entry at e
    unfold L2.start
    by_cases hi : i < xs.length
    · rw [List.getElem?_append_left (by simpa using hi), List.getElem?_map] at e
      rw [List.getElem?_append_left (by rw [List.length_map, ← L]; exact hi), List.getElem?_map]
      cases q : xs[i]? with
      | none => rw [q] at e; cases e
      | some y =>
        rw [q] at e
        cases e
        obtain ⟨v, h1, h2⟩ := repVs_get h i x q
        exact ⟨v, by rw [h1]; rfl, h2⟩
    · rw [List.getElem?_append_right (by simpa using hi), List.getElem?_replicate] at e
      split at e <;> cases e
/-- the body's end is the def's -/
theorem leave_ok {c : Ct} {g : Gh} {H : Hp} {al : List Addr} {n : Nat} {r : RS} {Q : VK} {E : XK} (hl : al.length = n) (out : Out ⟨c.G, c.K, fun cls d _ H => E cls d H, c.xo, fun _ _ => False⟩ (relL ⟨c.G, c.K, fun cls d _ H => E cls d H, c.xo, fun _ _ => False⟩) [] g H al (leave n r) Q) :
    OutS ⟨c.G, c.K, fun cls d _ H => E cls d H, c.xo, fun _ _ => False⟩ { nx := fun _ H' => Q .non H', rt := Q } g H al r := by
  cases r with
  | bad => exact out.elim
  | bk ρ S => exact out.elim
  | nx ρ S =>
    intro g' H' al' σ' e1 r1 p1 er1
    have out : Out _ (relL _) [] g H al (R.ok (Vl.d .non) (S.take n)) Q := out
    exact out g' H' al .non e1 (r1.back p1 hl) (List.prefix_refl _) (by
      show Rep _ _ _ _ _ _
      unfold Rep
      rfl)
  | rt v S =>
    intro g' H' al' x e1 r1 p1 q1
    have out : Out _ (relL _) [] g H al (gc n v S) Q := out
    cases hg : gc n v S with
    | bad => rw [hg] at out; exact out.elim
    | exc k p S2 => exact absurd hg (gc_noexc _ _ _)
    | ok u S2 =>
      rw [hg] at out
      obtain ⟨al2, rl2, p2, q2⟩ := gc_ok r1 p1 hl q1 hg
      exact out g' H' al2 x e1 rl2 p2 q2
  | xc k p ρ S =>
    intro g' H' al' σ' d e1 r1 p1 er1 q1
    have out : Out _ (relL _) [] g H al (R.exc (α := Vl) k p (S.take n)) Q := out
    exact out g' H' al d e1 (r1.back p1 hl) (List.prefix_refl _) q1
section
variable {P : Program} {w : World} {K : PySem.W.Frag} {mg : Str → Option Value} {base : Heap} {G : Gd} {nm : Nm} {tbl : Nat → Option Fn} {gm : Nat}
abbrev stp (gm : Nat) : Nat := 3 * gm + 4
/-- EVERY DEF, at every depth of calls -/
theorem all_ok (h : Hd P K mg base G nm tbl gm) : ∀ (n f : Nat) (a : Addr) (fd : FuncData) (ps : List Str), DefAt K mg base G nm tbl gm f a fd ps → FnOk P w K mg base (L2.CX P w) (n * stp gm) a fd ps (spF G K noXo (callF tbl n) f)
  | 0, f, a, fd, ps, _ => by
    have no : ∀ vs H Q E, spF G K noXo (callF tbl 0) f vs H Q E → False := fun vs H Q E z => by
      obtain ⟨g, al, S, xs, _, _, _, out⟩ := z
      exact out
    exact ⟨fun vs H Q E z => (no _ _ _ _ z).elim, fun A outer s H args us vs Q E _ _ _ _ z => (no _ _ _ _ z).elim⟩
  | n + 1, f, a, fd, ps, hd => by
    have ih := all_ok h n
    have hb := hd.bind
    obtain ⟨d, N, b, name, qual, params, body, scope, dV, kV, doc, pm, cdv, ct, oc, an, od, osl, h1, rfl, h3, h4, h5, h6, h7, h8, h9⟩ := hd.ex
    have len : ∀ vs H Q E, spF G K noXo (callF tbl (n + 1)) f vs H Q E → vs.length = ps.length := fun vs H Q E z => by
      obtain ⟨g, al, S, xs, _, _, r, out⟩ := z
      simp only [callF, h1] at out
      by_cases hl : xs.length = d.np
      · rw [← repVs_length r, hl, h6]
      · rw [if_neg hl] at out
        exact out.elim
    have e : (n + 1) * stp gm = (n * stp gm + 3 * gm + 3) + 1 := by
      rw [Nat.succ_mul]
      show _ + (3 * gm + 4) = _
      omega
    rw [e]
    refine fn_of h3 h4 h5 len fun A outer s H vs Q E hr hsp => ?_
    obtain ⟨g, al, S, xs, xa, rl, rp, out⟩ := hsp
    simp only [callF, h1] at out
    by_cases hl : xs.length = d.np
    case neg =>
      rw [if_neg hl] at out
      exact out.elim
    rw [if_pos hl] at out
    have good : Good ⟨N, scope, { nm with gen := b }, false, true⟩ (cxOf (L2.CX P w) P w K mg base N qual scope a cdv A outer s H E) ⟨G, K, fun cls d _ H => E cls d H, noXo, fun _ _ => False⟩ (callF tbl n) (n * stp gm) gm := {
      K := rfl
      N := rfl
      nd := h5.nd
      sc := rfl
      un := by
        have := hr.un
        show (A.deeper (envOfC qual scope s.heap.objs.size a cdv)).units + 100 < cLine
        omega
      tk := takes_of rfl rfl rfl rfl
      top := fun _ => ⟨fun _ => rfl, rfl, rfl⟩
      fn := h.fn
      cls := h.cls
      con := h.con
      blt := h.blt
      fld := fun f z => ⟨h.fld f z⟩
      ini := h.ini
      exn := h.exn
      exo := fun k hk hp => let ⟨h1, h2, h3, h4⟩ := h.exo k hk hp; ⟨h1, h2, raises_own h3 h4⟩
      pxo := h.pxo
      exn0 := h.exn0
      mth := h.mth
      xfl := fun z => by cases z
      exm := h.exm
      exs := h.exs
      exk := h.exk
      exv := h.exv
      cold := fun _ => {
        calm := rfl
        room := hr
        own := passes_of rfl
        xo := fun _ _ _ z => z
        fok := fun f hf => let ⟨k1, fd, ps, k2⟩ := h.okf f hf; ⟨k1, fd, ps, ih f _ fd ps k2, k2.bind⟩
        mok := fun k f hf => let ⟨k0, a, k1, fd, ps, k2⟩ := h.okm k f hf; ⟨k0, a, k1, fd, ps, ih f a fd ps k2, k2.bind⟩
        uok := fun m f hf => let ⟨a, k0, k1, fd, ps, k2⟩ := h.oku m f hf; ⟨a, k0, k1, fd, ps, ih f a fd ps k2, k2.bind⟩ }
      code := fun z _ => by
        obtain ⟨⟨cc, P2, q1, q2, q3⟩, q4⟩ := h9 z
        exact ⟨⟨cc, P2, q1, .inl ⟨q2, q3⟩⟩, q4⟩
      isv := fun z => by cases z
      isx := fun z => by cases z }
    refine ⟨_, sTs d.body good h8, g, al, entry d xs, S, ⟨xa, fun _ _ z => z.elim⟩, rl, er_entry rp h7, ?_⟩
    exact leave_ok (c := ⟨G, K, fun _ _ _ _ => False, noXo, fun _ _ => False⟩) rl.len out
end
end SW

-- SwZa
set_option Elab.async false
set_option linter.all false
set_option maxRecDepth 100000
set_option maxHeartbeats 8000000
set_option autoImplicit false
/-! SwZa: the head: what is looked at when the top has run -/
namespace SW
open PySem PySem.Spec PyProof.Rows L2 He
theorem look_skip {p : Str} {u : Value} {z : List (Str × Value)} : ∀ (l : List Str), p ∉ l → (l.filterMap fun n => (List.lookup n ((p, u) :: z)).map (n, ·)) = l.filterMap fun n => (z.lookup n).map (n, ·)
  | [], _ => rfl
  | n :: l, h => by
    have ne : (n == p) = false := by
      simp only [beq_eq_false_iff_ne]
      rintro rfl
      exact h List.mem_cons_self
    rw [List.filterMap_cons, List.filterMap_cons, List.lookup_cons, ne, look_skip l fun q => h (List.mem_cons_of_mem _ q)]
theorem zip_look : ∀ {ps : List Str} {us : List Value}, us.length = ps.length → ps.Nodup → (ps.filterMap fun n => ((ps.zip us).lookup n).map (n, ·)) = ps.zip us
  | [], us, _, _ => by simp
  | p :: ps, [], h, _ => by cases h
  | p :: ps, u :: us, h, nd => by
    rw [List.nodup_cons] at nd
    have ih := zip_look (ps := ps) (us := us) (by simpa using h) nd.2
    rw [List.zip_cons_cons, List.filterMap_cons]
    have e1 : List.lookup p ((p, u) :: ps.zip us) = some u := by simp [List.lookup]
    rw [e1]
    simp only [Option.map_some]
    rw [look_skip ps nd.1, ih]
theorem zip_some : ∀ {ps : List Str} {us : List Value}, us.length = ps.length → ∀ n ∈ ps, ((ps.zip us).lookup n).isSome = true
  | p :: ps, u :: us, h, n, hn => by
    rw [List.zip_cons_cons, List.lookup_cons]
    cases e : n == p with
    | true => rfl
    | false =>
      simp only
      have hn : n ∈ ps := by
        rcases List.mem_cons.mp hn with q | q
        · rw [q] at e; simp at e
        · exact q
      exact zip_some (by simpa using h) n hn
  | [], us, h, n, hn => by cases hn
  | p :: ps, [], h, n, hn => by cases h
theorem bind_plain {fd : FuncData} {as : List Arg} {ps : List Str} (h1 : fd.params = ⟨[], as, none, [], [], none, []⟩) (hp : as.map (·.arg) = ps) (hd : fd.defaults = .none) (nd : ps.Nodup) {us : List Value} (hl : us.length = ps.length) : bindArgs fd ⟨us, []⟩ = pure (ps.zip us) := by
  have hm : (List.filter (fun n => ((ps.zip us).lookup n).isNone) ps) = [] := by
    rw [List.filter_eq_nil_iff]
    intro n hn
    have := zip_some hl n hn
    cases q : (ps.zip us).lookup n with
    | none => rw [q] at this; cases this
    | some v => simp
  unfold bindArgs
  simp only [h1, hd, hp, List.map_nil, List.nil_append, List.append_nil]
  have e0 : seqItems? Value.none = pure none := rfl
  rw [e0]
  simp [hl, hm, zip_look hl nd]

/-! ### the text, as data -/
structure FnS where
  at_ : Str × Option Str
  d : Fn
  N : List Str
  gen : Bool
structure Spec where
  fns : List (Nat × FnS)
  ini : List (Nat × Nat)
  cls : List (Nat × Str)
  exn : List (Nat × Str)
  con : List (Str × D)
  blt : List Str
  fld : List Nat
  gm : Nat
  mth : List (Str × Nat)
  file : Str
theorem look_mem {α : Type} {k : Nat} {x : α} : ∀ {l : List (Nat × α)}, l.lookup k = some x → (k, x) ∈ l
  | [], e => by cases e
  | (a, b) :: r, e => by
    rw [List.lookup_cons] at e
    cases q : k == a with
    | true =>
      rw [q] at e
      cases e
      rw [eq_of_beq q]
      exact List.mem_cons_self
    | false =>
      rw [q] at e
      exact List.mem_cons_of_mem _ (look_mem e)
def ixOf (p : Str × Option Str) : List (Nat × FnS) → Option Nat
  | [] => none
  | f :: r => if f.2.at_ = p then some f.1 else ixOf p r
def keyOf (x : Str) : List (Nat × Str) → Option Nat
  | [] => none
  | p :: r => if p.2 = x then some p.1 else keyOf x r
def Spec.nm (S : Spec) : Nm := ⟨fun x => ixOf (x, none) S.fns, fun x => keyOf x S.cls, fun x => S.con.lookup x, fun x => keyOf x S.exn, fun k => S.ini.lookup k, fun x => S.blt.contains x, fun f => S.fld.contains f, false, fun m => S.mth.lookup m⟩
def Spec.tbl (S : Spec) : Nat → Option Fn := fun i => (S.fns.lookup i).map (·.d)
def Spec.tf (S : Spec) : List Defn := (S.fns.filter (·.2.gen)).map (·.2.at_)
theorem ixOf_some {p : Str × Option Str} : ∀ {l : List (Nat × FnS)} {i : Nat}, ixOf p l = some i → ∃ f, (i, f) ∈ l ∧ f.at_ = p
  | [], i, h => by cases h
  | f :: r, i, h => by
    unfold ixOf at h
    split at h
    · cases h
      exact ⟨f.2, List.mem_cons_self, by assumption⟩
    · obtain ⟨g, h1, h2⟩ := ixOf_some h
      exact ⟨g, List.mem_cons_of_mem _ h1, h2⟩
theorem keyOf_some {x : Str} : ∀ {l : List (Nat × Str)} {k : Nat}, keyOf x l = some k → (k, x) ∈ l
  | [], k, h => by cases h
  | p :: r, k, h => by
    unfold keyOf at h
    split at h
    · rename_i e
      cases h
      rw [← e]
      exact List.mem_cons_self
    · exact List.mem_cons_of_mem _ (keyOf_some h)
/-- the classes' names -/
def Spec.cn (S : Spec) (k : Nat) : Str := ((S.cls ++ S.exn).lookup k).getD ""
def Spec.G (S : Spec) (K : PySem.W.Frag) : Gd where
  fnA := fun i => match S.fns.lookup i with
    | some f => fAd K f.at_
    | none => 0
  ok := fun i => ∃ f, S.fns.lookup i = some f ∧ f.at_.2 = none
  okC := fun k => ∃ x, (k, x) ∈ S.cls
  okX := fun k => ∃ x, (k, x) ∈ S.exn
  okM := fun k f => (k, f) ∈ S.ini
  clsA := fun k => ga K (S.cn k)
  tab := fun P => ∃ p ∈ S.tf, P = (cT K p).2
  okU := fun m f => (m, f) ∈ S.mth
def argsB (a : Arguments) (ps : List Str) : Bool := match a with
  | ⟨[], as, none, [], [], none, []⟩ => decide (as.map (·.arg) = ps)
  | _ => false
def scopeB (N ps : List Str) (sc : Scope) : Bool := decide (sc.kind = .function) && !sc.isCoroutine && !sc.isGenerator && decide N.Nodup && decide (N.take ps.length = ps) && (ps.all fun x => decide (sc.names.lookup x = some .local) || decide (sc.names.lookup x = some .cell)) && sc.names.all fun y => decide (y.2 ≠ .free)
def fdB (K : PySem.W.Frag) (nm : Nm) (gm : Nat) (f : FnS) (fd : FuncData) : Bool := match fd with
  | ⟨_, qual, params, .stmts body, scope, gl, [], .none, _, _, _, _, code, _, bu⟩ => decide (gl = mainGlobals) && decide (bu = builtinsNs) && PySem.W.codeIn K code qual && argsB params (f.N.take f.d.np) && scopeB f.N (f.N.take f.d.np) scope && decide (f.d.np ≤ f.N.length) && decide (f.d.nl = f.N.length) && chkTs f.d.body ⟨f.N, scope, { nm with gen := f.gen }, false, true⟩ gm body
  | _ => false
def fnB (K : PySem.W.Frag) (nm : Nm) (gm : Nat) (f : FnS) : Bool := match K.lookup (fAd K f.at_) with
  | some ⟨_, _, .func fd, _⟩ => fdB K nm gm f fd
  | _ => false
def cstB (K : PySem.W.Frag) (x : Str) : D → Bool
  | .int i => (Fa.int x i).ok K
  | .str z => (Fa.str x z).ok K
  | _ => false
def excB (K : PySem.W.Frag) (C : Addr) : Bool := eqO (PySem.W.findIn K (.ref C) "__getattribute__") (some (some (.builtin "BaseException.__getattribute__"))) && eqO (PySem.W.findIn K (.ref C) "__getattr__") (some none) && PySem.W.hasDictIn K C &&
  eqO (PySem.W.findIn K (.ref C) "__class__") (some (some (.builtin "object.__class__"))) && eqO (PySem.W.specialIn K (.builtin "object.__class__") "__get__") (some (some (.builtin "getset_descriptor.__get__"))) && decide (PySem.W.takesIn K (.builtin "object.__class__") = some true) && decide (PySem.W.mroIn K C (.type "object") = some true)
/-! an own error whose __init__ says super().__init__(text); self.f = x -/
def oexB (K : PySem.W.Frag) (C : Addr) : Bool := (match K.lookup C with
  | some ⟨.type "type", _, .cls cd, sl⟩ => (match cd.mro, sl.toList with
    | .ref C' :: bm, [_, _, _, _, some (.builtin n), _] => C' == C && n == "ValueError.__new__" && !cd.hasDel && cd.hasDict && PySem.HandSPX.refsVE bm
    | _, _ => false)
  | _ => false) && eqO (PySem.W.findIn K (.ref C) "__setattr__") (some (some (.builtin "object.__setattr__"))) && decide (PySem.W.subIn K (.ref C) (.type "BaseException") = some true) && decide (PySem.W.typeIn K (.ref C) = some (.type "type")) && PySem.W.keepIn K (.ref C)
theorem oexB_ok {K : PySem.W.Frag} {C : Addr} (q : oexB K C = true) : OexC K C := by
  unfold oexB at q
  simp only [Bool.and_eq_true] at q
  obtain ⟨⟨⟨⟨q, q1⟩, q2⟩, q3⟩, q4⟩ := q
  refine ⟨?_, eqO_ok q1, of_decide_eq_true q2, of_decide_eq_true q3, q4⟩
  split at q
  · rename_i dd cd sl ho
    split at q
    · rename_i C' bm k0 k1 k2 k3 n k5 hm hs
      simp only [Bool.and_eq_true, beq_iff_eq, Bool.not_eq_true'] at q
      obtain ⟨⟨⟨⟨rfl, rfl⟩, hdel⟩, hdict⟩, hbm⟩ := q
      obtain ⟨nm, bs, mro, ns, qn, hd, sn, sub, ab, col, del⟩ := cd
      dsimp only at hm hdel hdict
      subst hm hdel hdict
      have hsl : sl = #[k0, k1, k2, k3, some (.builtin "ValueError.__new__"), k5] := by
        obtain ⟨l⟩ := sl
        simp only at hs
        rw [hs]
      subst hsl
      exact ⟨nm, qn, ns, bs, bm, sn, sub, ab, col, dd, k0, k1, k2, k3, k5, ho, hbm⟩
    · cases q
  · cases q
def pxfB (K : PySem.W.Frag) (C : Addr) (fn file : Str) (fI : Addr) : Bool := match K.lookup fI with
  | some ⟨_, _, .func ⟨_, qual, ⟨[], as, none, [], [], none, []⟩, .stmts [.Expr (.Call (.Attribute (.Call (.Name s0 p0) [] [] p1) i0 p2) [.Constant (.str ms) j p3] [] p4) p5, .Assign [.Attribute (.Name s1 p6) fn' p7] (.Name x p8) p9], scope, gl, [(c0, cc)], .none, _, _, _, _, .ref cda, _, bu⟩, _⟩ =>
    decide (s0 = ("super" : Str)) && decide (i0 = ("__init__" : Str)) && decide (s1 = ("self" : Str)) && decide (fn' = fn) && decide (c0 = ("__class__" : Str)) && decide (gl = mainGlobals) && decide (bu = builtinsNs) && PySem.W.codeIn K (.ref cda) qual && decide (as.map (·.arg) = ([("self" : Str), x] : List Str)) &&
    decide (scope.kind = .function) && !scope.isCoroutine && !scope.isGenerator && (scope.names.all fun y => decide (y.2 ≠ .cell)) && decide (scope.names.lookup ("super" : Str) = some .globalImplicit) && decide (scope.names.lookup ("__class__" : Str) = some .free) && decide (scope.names.lookup ("self" : Str) = some .local) && decide (scope.names.lookup x = some .local) &&
    (match K.lookup cda with
      | some ⟨_, _, .fields vs, _⟩ => (match (vs[2]? : Option Value) with
        | some (Value.str f _) => decide (f = file)
        | _ => false)
      | _ => false) &&
    (match K.lookup cc with
      | some ⟨_, _, .cell (some (.ref D)), _⟩ => decide (D = C)
      | _ => false) && decide (x ≠ ("self" : Str)) && decide (x ≠ ("__debug__" : Str)) && (p2.endLine == p4.line)
  | _ => false
def pxB (K : PySem.W.Frag) (C : Addr) (fn file : Str) : Bool := oexB K C && eqO (PySem.W.findIn K (.ref C) "__init__") (some (some (.ref (ma K C "__init__")))) && decide (PySem.W.typeIn K (.ref (ma K C "__init__")) = some (.type "function")) && eqO (PySem.W.ks_superIn K C C "__init__") (some (some (.builtin "ValueError.__init__"))) &&
  decide (PySem.W.mroIn K C (.ref C) = some true) && decide (PySem.W.subIn K (.ref C) (.type "ValueError") = some true) && eqO (PySem.W.nsIn K cStatics "thirdparty.any") (some none) && pxfB K C fn file (ma K C "__init__")
theorem pxB_ok {P : Program} {K : PySem.W.Frag} {C : Addr} {fn file : Str} (q : pxB K C fn file = true) (no : PySem.W.findIn K (.ref C) fn = some none) (hf : (P.main.file == file) = true) (ht : (P.main.scope.names.lookup ("super" : Str)).isSome = false) : ∃ fI fd x, PxC P K C fI fd x fn := by
  unfold pxB at q
  simp only [Bool.and_eq_true] at q
  obtain ⟨⟨⟨⟨⟨⟨⟨q1, q2⟩, q3⟩, q4⟩, q5⟩, q6⟩, q7⟩, q8⟩ := q
  unfold pxfB at q8
  split at q8
  case h_2 => cases q8
  rename_i oc od name qual as s0 p0 p1 i0 p2 ms j p3 p4 p5 s1 p6 fn' p7 x p8 p9 scope gl c0 cc kw doc pm an cda ct bu osl lk
  simp only [Bool.and_eq_true, Bool.not_eq_true', decide_eq_true_eq] at q8
  obtain ⟨⟨⟨⟨⟨⟨⟨⟨⟨⟨⟨⟨⟨⟨⟨⟨⟨⟨⟨⟨⟨a1, a2⟩, a3⟩, a4⟩, a5⟩, a6⟩, a7⟩, a8⟩, a9⟩, b1⟩, b2⟩, b3⟩, b4⟩, b5⟩, b6⟩, b7⟩, b8⟩, b9⟩, d1⟩, d2⟩, d3⟩, d4⟩ := q8
  subst a1 a2 a3 a4 a5 a6 a7
  split at b9
  case h_2 => cases b9
  rename_i ccl cdd vs ccs lcda
  split at b9
  case h_2 => cases b9
  rename_i f tf hvs
  have b9 := of_decide_eq_true b9
  subst b9
  split at d1
  case h_2 => cases d1
  rename_i cl cld D csl lcc
  have d1 := of_decide_eq_true d1
  subst d1
  have nd : ([("self" : Str), x] : List Str).Nodup := by simp [Ne.symm d2]
  refine ⟨_, _, x, oexB_ok q1, no, eqO_ok q2, of_decide_eq_true q3, eqO_ok q4, of_decide_eq_true q5, of_decide_eq_true q6, eqO_ok q7, ⟨f, hf, ht, name, qual, as, ms, j, p0, p1, p2, p3, p4, p5, p6, p7, p8, p9, scope, .none, kw, doc, pm, ct, oc, an, od, osl, cc, cda, ccl, cl, cdd, cld, ccs, csl, vs, tf, rfl, lk, a8, a9, b1, b2, b3, fun y hy => ?_, b5, b6, b7, b8, lcda, hvs, lcc, d2, d3, d4⟩, fun us hl => bind_plain rfl a9 rfl nd hl⟩
  exact of_decide_eq_true (List.all_eq_true.mp b4 y hy)
/-- an error class, made as it is -/
def madeB (S : Spec) (K : PySem.W.Frag) (k : Nat) (x : Str) : Bool := if plainK k = true then (Fa.exc x).ok K else pxB K (ga K x) (excF k) S.file && S.blt.contains "super"
def specB (S : Spec) (K : PySem.W.Frag) : Bool :=
  (S.fns.all fun f => decide ((S.fns.lookup f.1).map (·.at_) = some f.2.at_)) && (S.fns.all fun f => fnB K S.nm S.gm f.2) && (S.fns.all fun f => match f.2.at_.2 with
    | none => (Fa.glo f.2.at_.1).ok K && (Fa.keep f.2.at_.1).ok K
    | some m => true) &&
  (S.cls.all fun p => decide (S.cn p.1 = p.2) && (Fa.cls p.2).ok K && (Fa.glo p.2).ok K && S.fld.all fun f => (Fa.noat p.2 (fldN f)).ok K) &&
  (S.ini.all fun p => (S.cls.any fun q => q.1 == p.1) && (Fa.mkr (S.cn p.1)).ok K && (match S.fns.lookup p.2 with
    | some f => decide (f.at_ = (S.cn p.1, some ("__init__" : Str)))
    | none => false)) &&
  (S.exn.all fun p => decide (S.cn p.1 = p.2) && (madeB S K p.1 p.2 && decide (PySem.W.findIn K (.ref (ga K p.2)) (excF p.1) = some none)) && (Fa.glo p.2).ok K && excB K (ga K p.2) && decide (PySem.W.kitOne K (.ref (ga K p.2)) (.type "ValueError") = some true) && S.exn.all fun q => (Fa.exm p.2 q.2 (excSub p.1 q.1)).ok K && decide (PySem.W.kitOne K (.ref (ga K p.2)) (.ref (ga K q.2)) = some (excSub p.1 q.1))) &&
  (S.con.all fun p => cstB K p.1 p.2) && ((S.blt.all fun x => (Fa.free x).ok K) && (S.mth.all fun p => S.cls.any (fun q => q.1 == 1) && (Fa.meth (S.cn 1) p.1).ok K && (match S.fns.lookup p.2 with
    | some f => decide (f.at_ = (S.cn 1, some p.1))
    | none => false)))
theorem args_ok {a : Arguments} {ps : List Str} (h : argsB a ps = true) : ∃ as, a = ⟨[], as, none, [], [], none, []⟩ ∧ as.map (·.arg) = ps := by
  unfold argsB at h
  split at h
  · exact ⟨_, rfl, of_decide_eq_true h⟩
  · cases h
theorem scope_ok {N ps : List Str} {sc : Scope} (h : scopeB N ps sc = true) : FnScope N ps sc := by
  unfold scopeB at h
  simp only [Bool.and_eq_true, Bool.not_eq_true'] at h
  obtain ⟨⟨⟨⟨⟨⟨h1, h2⟩, h3⟩, h4⟩, h5⟩, h6⟩, h7⟩ := h
  refine ⟨of_decide_eq_true h1, h2, h3, of_decide_eq_true h4, of_decide_eq_true h5, fun x hx => ?_, fun y hy => of_decide_eq_true (List.all_eq_true.mp h7 y hy)⟩
  have q := List.all_eq_true.mp h6 x hx
  rw [Bool.or_eq_true] at q
  exact q.imp of_decide_eq_true of_decide_eq_true
def fdOf (K : PySem.W.Frag) (p : Str × Option Str) : FuncData := match K.lookup (fAd K p) with
  | some ⟨_, _, .func fd, _⟩ => fd
  | _ => default
section
variable {S : Spec} {K : PySem.W.Frag} {mg : Str → Option Value} {base h : Heap}
theorem fn_bind {f : FnS} {nm : Nm} {gm : Nat} (z : fnB K nm gm f = true) : ∀ us : List Value, us.length = (f.N.take f.d.np).length → bindArgs (fdOf K f.at_) ⟨us, []⟩ = pure ((f.N.take f.d.np).zip us) := by
  unfold fnB at z
  split at z
  case h_2 => cases z
  rename_i oc od fd osl lk
  have ef : fdOf K f.at_ = fd := by
    unfold fdOf
    rw [lk]
  rw [ef]
  unfold fdB at z
  split at z
  case h_2 => cases z
  simp only [Bool.and_eq_true] at z
  obtain ⟨⟨⟨⟨⟨⟨⟨z1, z2⟩, z3⟩, z4⟩, z5⟩, z6⟩, z7⟩, z8⟩ := z
  obtain ⟨as, rfl, ha⟩ := args_ok z4
  exact fun us hl => bind_plain rfl ha rfl ((scope_ok z5).nd.sublist (List.take_sublist _ _)) hl
theorem def_at {i : Nat} {f : FnS} (hi : S.fns.lookup i = some f) (z : fnB K S.nm S.gm f = true) (ht : ∀ p ∈ S.tf, LamX.TabB base mg (cT K p).1 (cT K p).2) :
    DefAt K mg base (S.G K) S.nm S.tbl S.gm i (fAd K f.at_) (fdOf K f.at_) (f.N.take f.d.np) := by
  unfold fnB at z
  split at z
  case h_2 => cases z
  rename_i oc od fd osl lk
  have ef : fdOf K f.at_ = fd := by
    unfold fdOf
    rw [lk]
  rw [ef]
  unfold fdB at z
  split at z
  case h_2 => cases z
  rename_i name qual params body scope gl kw doc pm an cdv ct bu
  simp only [Bool.and_eq_true] at z
  obtain ⟨⟨⟨⟨⟨⟨⟨z1, z2⟩, z3⟩, z4⟩, z5⟩, z6⟩, z7⟩, z8⟩ := z
  have z1 := of_decide_eq_true z1
  have z2 := of_decide_eq_true z2
  have z6 := of_decide_eq_true z6
  subst z1 z2
  obtain ⟨as, rfl, ha⟩ := args_ok z4
  have sc := scope_ok z5
  have nd : (f.N.take f.d.np).Nodup := sc.nd.sublist (List.take_sublist _ _)
  have hb : ∀ us : List Value, us.length = (f.N.take f.d.np).length → bindArgs (PySem.W.fnOf name qual ⟨[], as, none, [], [], none, []⟩ body scope .none kw doc pm an cdv ct) ⟨us, []⟩ = pure ((f.N.take f.d.np).zip us) := fun us hl => bind_plain rfl ha rfl nd hl
  refine ⟨Binds.all hb, f.d, f.N, f.gen, name, qual, _, body, scope, .none, kw, doc, pm, cdv, ct, oc, an, od, osl, ?_, rfl, lk, z3, sc, ?_, of_decide_eq_true z7, z8, fun hg => ?_⟩
  · unfold Spec.tbl
    rw [hi]
    rfl
  · rw [List.length_take]
    omega
  · have hm : f.at_ ∈ S.tf := List.mem_map.mpr ⟨(i, f), List.mem_filter.mpr ⟨look_mem hi, hg⟩, rfl⟩
    obtain ⟨c, rfl⟩ := codeIn_ref z3
    have ec := codeOf_eq lk rfl
    obtain ⟨t1, t2, t3⟩ := ht _ hm
    have e1 : (cT K f.at_).1 = c := ec
    rw [e1] at t1
    refine ⟨⟨c, (cT K f.at_).2, rfl, ⟨_, hm, rfl⟩, t1⟩, ?_⟩
    obtain ⟨bm, ob, b1, b2, _, _, b5, b6, b7, b8⟩ := t2
    exact ⟨bm, ob, b1, b2, b5, b6, b7, b8⟩
theorem cn_cls (z : specB S K = true) : (∀ k x, (k, x) ∈ S.cls → S.cn k = x ∧ (Fa.cls x).ok K = true ∧ (Fa.glo x).ok K = true ∧ ∀ f, S.fld.contains f = true → (Fa.noat x (fldN f)).ok K = true) := fun k x hm => by
  unfold specB at z
  simp only [Bool.and_eq_true] at z
  have q := List.all_eq_true.mp z.1.1.1.1.2 (k, x) hm
  simp only [Bool.and_eq_true] at q
  refine ⟨of_decide_eq_true q.1.1.1, q.1.1.2, q.1.2, fun f hf => ?_⟩
  exact List.all_eq_true.mp q.2 f (List.contains_iff_mem.mp hf)
theorem cn_exn (z : specB S K = true) : (∀ k x, (k, x) ∈ S.exn → S.cn k = x ∧ (madeB S K k x = true ∧ PySem.W.findIn K (.ref (ga K x)) (excF k) = some none) ∧ (Fa.glo x).ok K = true ∧ excB K (ga K x) = true ∧ ∀ k2 x2, (k2, x2) ∈ S.exn → (Fa.exm x x2 (excSub k k2)).ok K = true ∧ PySem.W.kitOne K (.ref (ga K x)) (.ref (ga K x2)) = some (excSub k k2)) := fun k x hm => by
  unfold specB at z
  simp only [Bool.and_eq_true] at z
  have q := List.all_eq_true.mp z.1.1.2 (k, x) hm
  simp only [Bool.and_eq_true] at q
  refine ⟨of_decide_eq_true q.1.1.1.1.1, ⟨q.1.1.1.1.2.1, of_decide_eq_true q.1.1.1.1.2.2⟩, q.1.1.1.2, q.1.1.2, fun k2 x2 h2 => ?_⟩
  have q2 := List.all_eq_true.mp q.2 (k2, x2) h2
  rw [Bool.and_eq_true] at q2
  exact ⟨q2.1, of_decide_eq_true q2.2⟩
theorem cn_exv (z : specB S K = true) : ∀ k x, (k, x) ∈ S.exn → PySem.W.kitOne K (.ref (ga K x)) (.type "ValueError") = some true := fun k x hm => by
  unfold specB at z
  simp only [Bool.and_eq_true] at z
  have q := List.all_eq_true.mp z.1.1.2 (k, x) hm
  simp only [Bool.and_eq_true] at q
  exact of_decide_eq_true q.1.2
theorem look_memS {α : Type} {k : Str} {x : α} : ∀ {l : List (Str × α)}, l.lookup k = some x → (k, x) ∈ l
  | [], e => by cases e
  | (a, b) :: r, e => by
    rw [List.lookup_cons] at e
    cases q : k == a with
    | true =>
      rw [q] at e
      cases e
      rw [eq_of_beq q]
      exact List.mem_cons_self
    | false =>
      rw [q] at e
      exact List.mem_cons_of_mem _ (look_memS e)
theorem exc_ok2 {C : Addr} (h : excB K C = true) (hs : PySem.W.subIn K (.ref C) (.type "BaseException") = some true) : ExcC K C := by
  unfold excB at h
  simp only [Bool.and_eq_true] at h
  obtain ⟨⟨⟨⟨⟨⟨h1, h2⟩, h3⟩, h4⟩, h5⟩, h6⟩, h7⟩ := h
  exact ⟨eqO_ok h1, eqO_ok h2, hs, h3, eqO_ok h4, eqO_ok h5, of_decide_eq_true h6, of_decide_eq_true h7⟩
theorem made_sub {k : Nat} {x : Str} (h : madeB S K k x = true) : PySem.W.subIn K (.ref (ga K x)) (.type "BaseException") = some true := by
  unfold madeB at h
  split at h
  · exact (exc_ok h).2.2.1
  · rw [Bool.and_eq_true] at h
    have h1 := h.1
    unfold pxB at h1
    simp only [Bool.and_eq_true] at h1
    exact (oexB_ok h1.1.1.1.1.1.1.1).exC
/-- ALL THAT IS KNOWN OF THE TEXT, by one Bool -/
theorem hd_of (z : specB S K = true) (X : K.In h) (N : h.Ns mainGlobals mg) (ht : ∀ p ∈ S.tf, LamX.TabB base mg (cT K p).1 (cT K p).2) {P : Program} (hpf : (P.main.file == S.file) = true) (hpt : (P.main.scope.names.lookup ("super" : Str)).isSome = false) : Hd P K mg base (S.G K) S.nm S.tbl S.gm := by
  have zc := cn_cls z
  have zv := cn_exv z
  have ze := cn_exn z
  have z0 := z
  unfold specB at z
  simp only [Bool.and_eq_true] at z
  obtain ⟨⟨⟨⟨⟨⟨⟨zu, z1⟩, z2⟩, z3⟩, z4⟩, z5⟩, z6⟩, z7, z8⟩ := z
  have fat : ∀ i f, S.fns.lookup i = some f → (S.G K).fnA i = fAd K f.at_ := fun i f hi => by
    show (match S.fns.lookup i with
      | some f => fAd K f.at_
      | none => 0) = _
    rw [hi]
  have dat : ∀ i f, S.fns.lookup i = some f → ∃ fd ps, DefAt K mg base (S.G K) S.nm S.tbl S.gm i (fAd K f.at_) fd ps := fun i f hi => by
    exact ⟨_, _, def_at hi (List.all_eq_true.mp z1 (i, f) (look_mem hi)) ht⟩
  have glo : ∀ i f, (i, f) ∈ S.fns → f.at_.2 = none → (Fa.glo f.at_.1).ok K = true ∧ (Fa.keep f.at_.1).ok K = true := fun i f hf e => by
    have q := List.all_eq_true.mp z2 (i, f) hf
    simp only at q
    rw [e] at q
    simpa only [Bool.and_eq_true] using q
  refine {
    fn := fun x i hx => ?_
    cls := fun x k hx => ?_
    con := fun x y hx => ?_
    blt := fun x hx => ?_
    fld := fun f hf k hk => ?_
    ini := fun k f hk => look_mem hk
    exn := fun x k hx => ?_
    exo := fun k hk hp => ?_
    pxo := fun k hk hp => ?_
    exn0 := fun k hk => ?_
    mth := fun m f hf => look_memS hf
    oku := fun m f hf => ?_
    exm := fun k k0 hk hk0 => ?_
    exs := fun k hk => ?_
    exk := fun k k2 hk hk2 => ?_
    exv := fun k hk => ?_
    okf := fun i hi => ?_
    okm := fun k i hk => ?_ }
  · obtain ⟨f0, hm, e0⟩ := ixOf_some (show ixOf (x, none) S.fns = some i from hx)
    have u := of_decide_eq_true (List.all_eq_true.mp zu (i, f0) hm)
    obtain ⟨f, hi, e⟩ : ∃ f, S.fns.lookup i = some f ∧ f.at_ = (x, none) := by
      simp only at u
      cases q : S.fns.lookup i with
      | none => rw [q] at u; cases u
      | some f =>
        rw [q] at u
        injection u with u
        exact ⟨f, rfl, u.trans e0⟩
    have e2 : f.at_.2 = none := by rw [e]
    have g := (glo i f (look_mem hi) e2).1
    rw [e] at g
    refine ⟨?_, f, hi, e2⟩
    rw [fat i f hi, e]
    exact glo_ok X N g
  · have hm := keyOf_some (show keyOf x S.cls = some k from hx)
    obtain ⟨q1, q2, q3, q4⟩ := zc k x hm
    show mg x = some (.ref (ga K (S.cn k)))
    rw [q1]
    exact glo_ok X N q3
  · have q := List.all_eq_true.mp z6 (x, y) (look_memS (show S.con.lookup x = some y from hx))
    have q : cstB K x y = true := q
    cases y <;> try (cases q; done)
    · obtain ⟨t, e⟩ := int_ok X N q
      exact ⟨.int _, _, e, ⟨t, rfl⟩, fun g H => by unfold Rep; rfl⟩
    · obtain ⟨t, e⟩ := str_ok X N q
      exact ⟨.str _, _, e, ⟨t, rfl⟩, fun g H => by unfold Rep; rfl⟩
  · exact free_ok X N (List.all_eq_true.mp z7 x (List.contains_iff_mem.mp hx))
  · obtain ⟨x, hm⟩ := hk
    obtain ⟨q1, q2, q3, q4⟩ := zc k x hm
    show Cls K (ga K (S.cn k)) ∧ NoAttr K (ga K (S.cn k)) _
    rw [q1]
    exact ⟨cls_ok q2, noat_ok (q4 f hf)⟩
  · have hm := keyOf_some (show keyOf x S.exn = some k from hx)
    obtain ⟨q1, q2, q3, q4⟩ := ze k x hm
    refine ⟨?_, x, hm⟩
    show mg x = some (.ref (ga K (S.cn k)))
    rw [q1]
    exact glo_ok X N q3
  · obtain ⟨x, hm⟩ := hk
    obtain ⟨q1, q2, q3, q4, q5⟩ := ze k x hm
    show (∃ bmB B newId initId, ExcBaseFacts B newId initId bmB ∧ PySem.W.excIn K (ga K (S.cn k)) bmB newId = true) ∧ PySem.W.keepIn K (.ref (ga K (S.cn k))) = true ∧ PySem.W.subIn K (.ref (ga K (S.cn k))) (.type "BaseException") = some true ∧ PySem.W.typeIn K (.ref (ga K (S.cn k))) = some (.type "type")
    rw [q1]
    have q2 := q2.1
    unfold madeB at q2
    rw [if_pos hp] at q2
    obtain ⟨e1, e2, e3, e4⟩ := exc_ok q2
    exact ⟨⟨_, _, _, _, PySem.F.excBase_ValueError, e1⟩, e2, e3, e4⟩
  · obtain ⟨x, hm⟩ := hk
    obtain ⟨x0, hm0⟩ := hk0
    obtain ⟨q1, q2, q3, q4, q5⟩ := ze k x hm
    obtain ⟨p1, _⟩ := ze k0 x0 hm0
    show PySem.W.exmOne K (.ref (ga K (S.cn k))) (.ref (ga K (S.cn k0))) = _
    rw [q1, p1]
    exact exm_ok (q5 k0 x0 hm0).1
  · obtain ⟨x, hm⟩ := hk
    obtain ⟨q1, q2, q3, q4, q5⟩ := ze k x hm
    show ExcC K (ga K (S.cn k))
    rw [q1]
    exact exc_ok2 q4 (made_sub q2.1)
  · obtain ⟨x, hm⟩ := hk
    obtain ⟨x0, hm0⟩ := hk2
    obtain ⟨q1, q2, q3, q4, q5⟩ := ze k x hm
    obtain ⟨p1, _⟩ := ze k2 x0 hm0
    show PySem.W.kitOne K (.ref (ga K (S.cn k))) (.ref (ga K (S.cn k2))) = _
    rw [q1, p1]
    exact (q5 k2 x0 hm0).2
  · obtain ⟨x, hm⟩ := hk
    obtain ⟨q1, q2, q3, q4, q5⟩ := ze k x hm
    show PySem.W.kitOne K (.ref (ga K (S.cn k))) (.type "ValueError") = _
    rw [q1]
    exact zv k x hm
  · obtain ⟨x, hm⟩ := hk
    obtain ⟨q1, q2, q3, q4, q5⟩ := ze k x hm
    have q3 := q2.1
    unfold madeB at q3
    rw [if_neg (by rw [hp]; decide), Bool.and_eq_true] at q3
    refine ⟨free_ok X N (List.all_eq_true.mp z7 _ (List.contains_iff_mem.mp q3.2)), ?_⟩
    show ∃ fI fd y, PxC P K (ga K (S.cn k)) fI fd y (excF k)
    rw [q1]
    exact pxB_ok q3.1 q2.2 hpf hpt
  · obtain ⟨x, hm⟩ := hk
    obtain ⟨q1, q2, q3, q4, q5⟩ := ze k x hm
    show PySem.W.findIn K (.ref (ga K (S.cn k))) (excF k) = some none
    rw [q1]
    exact q2.2
  · have q := List.all_eq_true.mp z8 (m, f) hf
    simp only [Bool.and_eq_true] at q
    obtain ⟨⟨a1, a2⟩, a3⟩ := q
    obtain ⟨r, hr, er⟩ := List.any_eq_true.mp a1
    obtain ⟨k', x⟩ := r
    have er : k' = 1 := eq_of_beq er
    subst er
    obtain ⟨c1, c2, c3, c4⟩ := zc 1 x hr
    have mt := meth_ok a2
    refine ⟨ma K (ga K (S.cn 1)) m, ?_, mt, ?_⟩
    · show Cls K (ga K (S.cn 1))
      rw [c1]
      exact cls_ok c2
    · cases hf2 : S.fns.lookup f with
      | none => rw [hf2] at a3; cases a3
      | some f2 =>
        rw [hf2] at a3
        have ea := of_decide_eq_true a3
        have e2 : fAd K f2.at_ = ma K (ga K (S.cn 1)) m := by
          rw [ea]
          rfl
        rw [← e2]
        exact dat f f2 hf2
  · obtain ⟨f, hf, e⟩ := hi
    have g := (glo i f (look_mem hf) e).2
    have ea : fAd K f.at_ = ga K f.at_.1 := by
      unfold fAd
      rw [e]
    rw [fat i f hf]
    refine ⟨?_, dat i f hf⟩
    rw [ea]
    exact keep_ok g
  · have hk : (k, i) ∈ S.ini := hk
    have q := List.all_eq_true.mp z4 (k, i) hk
    simp only [Bool.and_eq_true] at q
    obtain ⟨⟨a1, a2⟩, a3⟩ := q
    obtain ⟨r, hr, er⟩ := List.any_eq_true.mp a1
    obtain ⟨k', x⟩ := r
    have er : k' = k := eq_of_beq er
    subst er
    refine ⟨⟨x, hr⟩, ma K (ga K (S.cn k')) "__init__", mkr_ok a2, ?_⟩
    cases hf : S.fns.lookup i with
    | none => rw [hf] at a3; cases a3
    | some f =>
      rw [hf] at a3
      have ea := of_decide_eq_true a3
      have e2 : fAd K f.at_ = ma K (ga K (S.cn k')) "__init__" := by
        rw [ea]
        rfl
      rw [← e2]
      exact dat i f hf
end
end SW

-- SwZb
set_option Elab.async false
set_option linter.all false
set_option maxRecDepth 100000
set_option maxHeartbeats 8000000
set_option autoImplicit false
/-! SwZb: the end -/
namespace SW
open PySem PySem.Spec PyProof.Rows L2 He
/-! ### the hook: with the interpreter's own statics -/
def asC (g : Addr → Option Obj) (n : Nat) : List Addr := He.asD g n ++ [cStatics]
def obsXC (n : Nat) (fa : List Fa) (fn : List DefD) (ts : List Tab) (tf : List Defn) (ex : PySem.W.Frag → Bool) (g : Addr → Option Obj) : AlX := (obsT fa fn ts (frT g (asC g n)), ex (frT g (asC g n)) && tabsB g tf (frT g (asC g n)))
theorem saysXC_of {n : Nat} {fa : List Fa} {fn : List DefD} {ts : List Tab} {tf : List Defn} {ex : PySem.W.Frag → Bool} {w : World} {h : Heap} (e : obsXC n fa fn ts tf ex h.get? = valX fn ts w) : SaysX fa fn ts tf ex w h (frT h.get? (asC h.get? n)) := by
  have e1 : obsT fa fn ts (frT h.get? (asC h.get? n)) = valT fn ts w := congrArg (fun z : AlX => z.1) e
  have e2 : (ex (frT h.get? (asC h.get? n)) && tabsB h.get? tf (frT h.get? (asC h.get? n))) = true := congrArg (fun z : AlX => z.2) e
  obtain ⟨h1, h2⟩ := ba e2
  have key : ∀ p ∈ tf, PySem.W.codeHdIn (frT h.get? (asC h.get? n)) (cT (frT h.get? (asC h.get? n)) p).1 (cT (frT h.get? (asC h.get? n)) p).2 = true ∧ ∃ o, h.get? (cT (frT h.get? (asC h.get? n)) p).2 = some o ∧ emptyTab o = true := fun p hp => by
    obtain ⟨h3, h4⟩ := ba (List.all_eq_true.mp h2 p hp)
    refine ⟨h3, ?_⟩
    cases q : h.get? (cT (frT h.get? (asC h.get? n)) p).2 with
    | none =>
      rw [q] at h4
      cases h4
    | some o =>
      rw [q] at h4
      exact ⟨o, rfl, h4⟩
  exact ⟨e1, h1, fun p hp => (key p hp).1, fun p hp => by
    obtain ⟨_, o, q, z⟩ := key p hp
    exact frT_none q z, fun p hp => by
    obtain ⟨_, o, q, z⟩ := key p hp
    rw [q, emptyTab_eq z]⟩
def hookXC (n : Nat) (fa : List Fa) (fn : List DefD) (ts : List Tab) (tf : List Defn) (ex : PySem.W.Frag → Bool) : PySem.W.Hook where
  α := AlX
  obs := fun s => obsXC n fa fn ts tf ex s.heap.get?
  val := fun w => valX fn ts w
  says := fun w h => ∃ K : PySem.W.Frag, K.In h ∧ SaysX fa fn ts tf ex w h K
  of := fun _ _ e => ⟨_, frT_in, saysXC_of e⟩
  keeps := fun _ _ _ ⟨K, hK, c⟩ k => ⟨K, PySem.W.Frag.In.keeps hK k, ⟨c.t, c.more, c.hd, c.out, fun p hp => k _ _ (c.empty p hp)⟩⟩
theorem obsXC_eq {n : Nat} {fa : List Fa} {fn : List DefD} {ts : List Tab} {tf : List Defn} {ex : PySem.W.Frag → Bool} {g : Addr → Option Obj} {s : Shared} (h : ∀ a, g a = s.heap.get? a) : obsXC n fa fn ts tf ex g = (hookXC n fa fn ts tf ex).obs s := by
  have e : g = s.heap.get? := funext h
  rw [e] <;> rfl
/-- the evaluator says true of every script -/
def Spec.holds (S : Spec) (n i0 dep : Nat) : Prop := ∀ ns : List Int, ns.length ≤ n → (∀ z ∈ ns, Builtin.Int.intBits z ≤ 1048576) → ∃ St, callF S.tbl dep i0 [.d (.scr ns)] [] = .ok (.d (.bl true)) St
theorem law_at {l : PySem.W.OpenLaw} {w : World} {S : Spec} {K : PySem.W.Frag} {mg : Str → Option Value} {fa : Addr} {h : Heap} {n i0 dep : Nat} {f0 : FnS} {x : Str} (z : specB S K = true) (X : K.In h) (N : h.Ns mainGlobals mg)
    (hd : ∀ p ∈ S.tf, PySem.W.codeHdIn K (cT K p).1 (cT K p).2 = true) (out : ∀ p ∈ S.tf, K.lookup (cT K p).2 = none) (emp : ∀ p ∈ S.tf, h.get? (cT K p).2 = some { cls := .none, data := .fields #[] })
    (hi : S.fns.lookup i0 = some f0) (h0 : f0.at_ = (("law" : Str), none)) (hx : f0.N.take f0.d.np = [x]) (hm : mg "law" = some (.ref fa)) (hpf : (l.prog.main.file == S.file) = true) (hpt : (l.prog.main.scope.names.lookup ("super" : Str)).isSome = false) (H : S.holds n i0 dep) :
    LamX.LawAtS l w K (L2.CX l.prog w) (dep * stp S.gm) n x mg fa h := by
  have z0 := z
  unfold specB at z0
  simp only [Bool.and_eq_true] at z0
  have zf := List.all_eq_true.mp z0.1.1.1.1.1.1.2 (i0, f0) (look_mem hi)
  have zg := List.all_eq_true.mp z0.1.1.1.1.1.2 (i0, f0) (look_mem hi)
  simp only at zg
  rw [h0] at zg
  simp only [Bool.and_eq_true] at zg
  have e1 := glo_ok X N zg.1
  have efa : fa = fAd K f0.at_ := by
    rw [hm] at e1
    have e2 : fAd K f0.at_ = ga K "law" := by rw [h0]; rfl
    rw [e2]
    injection e1 with e1
    injection e1 with e1
  have mem : ∀ p ∈ S.tf.map (cT K), ∃ q ∈ S.tf, p = cT K q := fun p hp => by
    obtain ⟨q, hq, e⟩ := List.mem_map.mp hp
    exact ⟨q, hq, e.symm⟩
  have nd : ∀ p ∈ S.tf.map (cT K), h.get? p.2 = some { cls := .none, data := .fields #[] } := fun p hp => by
    obtain ⟨q, hq, rfl⟩ := mem p hp
    exact emp q hq
  have bnd := fn_bind zf
  rw [hx] at bnd
  refine ⟨fdOf K f0.at_, S.tf.map (cT K), spF (S.G K) K noXo (callF S.tbl dep) i0, nd, fun p hp => ?_, fun p hp => ?_, fun s u => BindsTo.of_eq (bnd [u] rfl), fun Hp a ns hl hb hT hS => ?_, fun base Xb Nb tb => ?_⟩
  · obtain ⟨q, hq, rfl⟩ := mem p hp
    exact out q hq
  · obtain ⟨q, hq, rfl⟩ := mem p hp
    exact PySem.W.codeHd_of_K X (hd q hq)
  · obtain ⟨St, eS⟩ := H ns hl hb
    have key : ∀ F : Addr → Prop, (∀ b, F b → ∃ o, Hp b = some o) → (∀ b ps, Hp b = some (.tbl ps) → ¬ F b) → ((F a ∧ Rd Hp a (.lst (ns.map V.int))) ∨ SqK K a (ns.map V.int)) → spF (S.G K) K noXo (callF S.tbl dep) i0 [.ref a] Hp (fun v _ => v = .bl true) fun _ _ _ => False := fun F h1 h2 h3 => by
      refine ⟨⟨F, fun _ _ => False, noXo⟩, [], [], [.d (.scr ns)], rfl, ⟨rfl, List.nodup_nil, fun n ob a h => (by cases h), h1, fun P hP => ?_, fun _ _ h => h.elim⟩, ⟨.ref a, [], rfl, ?_, by unfold RepVs; rfl⟩, ?_⟩
      · rcases hP with hP | ⟨_, hP⟩
        · obtain ⟨q, hq, rfl⟩ := hP
          have e := hT _ (List.mem_map.mpr ⟨q, hq, rfl⟩)
          exact ⟨⟨#[], e, trivial, trivial⟩, h2 _ _ e⟩
        · exact hP.elim
      · show Rep (S.G K) K ⟨F, fun _ _ => False, noXo⟩ Hp (.scr ns) (.ref a)
        unfold Rep
        exact ⟨a, rfl, h3⟩
      · rw [eS]
        intro g' H' al' v _ _ _ q
        have q : Rep (S.G K) K g' H' (.bl true) v := q
        unfold Rep at q
        exact q
    rcases hS with hS | hS
    · refine key (fun b => b = a) (fun b e => ?_) (fun b ps hb e => ?_) (.inl ⟨rfl, hS⟩)
      · rw [e]
        rcases hS with r | ⟨o, r⟩ <;> exact ⟨_, r⟩
      · rw [e] at hb
        rcases hS with r | ⟨o, r⟩ <;> (rw [r] at hb; cases hb)
    · exact key (fun _ => False) (fun _ e => e.elim) (fun _ _ _ e => e) (.inr hS)
  · have tb' : ∀ p ∈ S.tf, LamX.TabB base mg (cT K p).1 (cT K p).2 := fun p hp => tb _ (List.mem_map.mpr ⟨p, hp, rfl⟩)
    have q := all_ok (P := l.prog) (w := w) (hd_of z Xb Nb tb' hpf hpt) dep i0 (fAd K f0.at_) _ _ (def_at hi zf tb')
    rw [hx, ← efa] at q
    exact q
/-- THE END -/
theorem walk_sw {l : PySem.W.OpenLaw} {n k nn : Nat} {q : Program} {loose : List Str} {XP : (Str → Option Value) → Heap → Prop} {d : DefRec} {S : Spec} {i0 dep : Nat} {f0 : FnS} {x : Str} (hn : l.most = some n) (hn2 : n ≤ sizeLine) (hdf : d.params.defaults = [])
    (hr : Room (dep * stp S.gm) callerA) (hi : S.fns.lookup i0 = some f0) (h0 : f0.at_ = (("law" : Str), none)) (hx : f0.N.take f0.d.np = [x]) (hd : d.name = ("law" : Str)) (hpf : (l.prog.main.file == S.file) = true) (hpt : (l.prog.main.scope.names.lookup ("super" : Str)).isSome = false) (H : S.holds n i0 dep) :
    PySem.W.WalkO q loose XP (hookXC nn [] [] [] S.tf (specB S)).says l.row.toRowW d [] (fun f vs => PySem.call f vs) := by
  refine LamX.walk_ofTsE (l := l) (n := n) (k := dep * stp S.gm) (x := x) (CX := fun w => L2.CX l.prog w) hn hn2 hdf hr (fun w mg fa h Y N hm => ?_) fun w H s e s' z => ?_
  · obtain ⟨K, X, c⟩ := Y
    rw [hd] at hm
    exact ⟨K, X, law_at c.more X N c.hd c.out c.empty hi h0 hx hm hpf hpt H⟩
  · obtain ⟨_, _, _, _, _, _, _, _, _, _, _, _, z⟩ := z
    exact z
end SW

-- MA
set_option Elab.async false
set_option linter.all false
set_option maxRecDepth 100000
set_option maxHeartbeats 4000000
set_option autoImplicit false
/-! MA: what the evaluator's ends must be -/
namespace SW
open PySem
abbrev XP := Nat → List D → Store → Prop
def Wp {α : Type} (r : R α) (Q : α → Store → Prop) (X : XP) : Prop := match r with
  | .ok a S => Q a S
  | .exc c p S => X c p S
  | .bad => False
def Ws (r : RS) (N : Env → Store → Prop) (T : Vl → Store → Prop) (B : Env → Store → Prop) (X : Nat → List D → Env → Store → Prop) : Prop := match r with
  | .nx ρ S => N ρ S
  | .rt v S => T v S
  | .bk ρ S => B ρ S
  | .xc c p ρ S => X c p ρ S
  | .bad => False
def noX : XP := fun _ _ _ => False
section
variable {α β : Type} {Q Q' : α → Store → Prop} {X X' : XP} {N N' : Env → Store → Prop} {T T' : Vl → Store → Prop} {B B' : Env → Store → Prop} {Y Y' : Nat → List D → Env → Store → Prop} {S : Store} {ρ : Env}
theorem wp_ok (a : α) : Wp (.ok a S) Q X = Q a S := Eq.trans rfl rfl
theorem wp_exc (c : Nat) (p : List D) : Wp (.exc c p S) Q X = X c p S := Eq.trans rfl rfl
theorem wp_bind (m : R β) (f : β → Store → R α) : Wp (m.bind f) Q X = Wp m (fun a S => Wp (f a S) Q X) X := by
  cases m <;> rfl
theorem ws_to (m : R β) (k : β → Store → RS) : Ws (m.to ρ k) N T B Y = Wp m (fun a S => Ws (k a S) N T B Y) (fun c p S => Y c p ρ S) := by
  cases m <;> rfl
theorem ws_then (r : RS) (f : Env → Store → RS) : Ws (r.andThen f) N T B Y = Ws r (fun ρ S => Ws (f ρ S) N T B Y) T B Y := by
  cases r <;> rfl
theorem ws_nx : Ws (.nx ρ S) N T B Y = N ρ S := Eq.trans rfl rfl
theorem ws_rt (v : Vl) : Ws (.rt v S) N T B Y = T v S := Eq.trans rfl rfl
theorem ws_bk : Ws (.bk ρ S) N T B Y = B ρ S := Eq.trans rfl rfl
theorem ws_xc (c : Nat) (p : List D) : Ws (.xc c p ρ S) N T B Y = Y c p ρ S := Eq.trans rfl rfl
theorem ws_bad : Ws .bad N T B Y = False := Eq.trans rfl rfl
theorem wp_bad : Wp (.bad : R α) Q X = False := Eq.trans rfl rfl
theorem wp_leave (n : Nat) (r : RS) (Q : Vl → Store → Prop) : Wp (leave n r) Q X = Ws r (fun _ S => Q (.d .non) (S.take n)) (fun v S => Wp (gc n v S) Q X) (fun _ _ => False) (fun c p _ S => X c p (S.take n)) := by
  cases r <;> rfl
theorem wp_ite (c : Prop) [Decidable c] (a b : R α) : Wp (if c then a else b) Q X = if c then Wp a Q X else Wp b Q X := by
  split <;> rfl
theorem ws_ite (c : Prop) [Decidable c] (a b : RS) : Ws (if c then a else b) N T B Y = if c then Ws a N T B Y else Ws b N T B Y := by
  split <;> rfl
theorem Wp.mono {r : R α} (h : Wp r Q X) (hQ : ∀ a S, Q a S → Q' a S) (hX : ∀ c p S, X c p S → X' c p S) : Wp r Q' X' := by
  cases r with
  | ok a S => exact hQ _ _ h
  | exc c p S => exact hX _ _ _ h
  | bad => exact h
theorem Wp.of {r : R α} (h : Wp r Q noX) (hQ : ∀ a S, Q a S → Q' a S) : Wp r Q' X' := h.mono hQ fun _ _ _ z => z.elim
theorem Ws.mono {r : RS} (h : Ws r N T B Y) (hN : ∀ ρ S, N ρ S → N' ρ S) (hT : ∀ ρ S, T ρ S → T' ρ S) (hB : ∀ ρ S, B ρ S → B' ρ S) (hY : ∀ c p ρ S, Y c p ρ S → Y' c p ρ S) : Ws r N' T' B' Y' := by
  cases r with
  | nx ρ S => exact hN _ _ h
  | rt v S => exact hT _ _ h
  | bk ρ S => exact hB _ _ h
  | xc c p ρ S => exact hY _ _ _ _ h
  | bad => exact h
theorem wp_call {tbl : Nat → Option Fn} {f k : Nat} {d : Fn} {vs : List Vl} {Q : Vl → Store → Prop} (h : tbl f = some d) (hl : vs.length = d.np) : Wp (callF tbl (k + 1) f vs S) Q X = Ws (evTs (callF tbl k) d.body (entry d vs) S) (fun _ S' => Q (.d .non) (S'.take S.length)) (fun v S' => Wp (gc S.length v S') Q X) (fun _ _ => False) (fun c p _ S' => X c p (S'.take S.length)) := by
  rw [← wp_leave]
  simp only [callF, h, if_pos hl]
end
/-! ### values -/
theorem gc_d (n : Nat) (x : D) (S : Store) : gc n (.d x) S = .ok (.d x) (S.take n) := Eq.trans rfl rfl
theorem asData_d (n : Nat) (x : D) (S : Store) : asData n (.d x) S = .ok x (S.take n) := Eq.trans rfl rfl
theorem kD_d (x : D) (S : Store) : kD (.d x) S = .ok x S := Eq.trans rfl rfl
theorem rd_d (x : D) (S : Store) : rd S (.d x) = some x := Eq.trans rfl rfl
theorem gc_new (S : Store) (ob : Ob) : gc S.length (.r S.length) (S ++ [ob]) = .ok (.r S.length) (S ++ [ob]) := by
  unfold gc
  simp
theorem gc_old {n m : Nat} (S : Store) (h : m < n) : gc n (.r m) S = .ok (.r m) (S.take n) := by
  unfold gc
  simp [h]
theorem take_app (S : Store) (r : List Ob) : (S ++ r).take S.length = S := by simp
theorem get_app0 (S : Store) (a : Ob) (r : List Ob) : (S ++ a :: r)[S.length]? = some a := by simp
theorem get_app1 (S : Store) (a b : Ob) (r : List Ob) : (S ++ a :: b :: r)[S.length + 1]? = some b := by
  rw [List.getElem?_append_right (by omega)]
  simp
theorem set_app0 (S : Store) (a a' : Ob) (r : List Ob) : (S ++ a :: r).set S.length a' = S ++ a' :: r := by simp [List.set_append]
theorem push_new (S : Store) (xs : List D) (y : D) (h : xs.length < BIG) : push S.length y (S ++ [.lst xs]) = .ok () (S ++ [.lst (xs ++ [y])]) := by
  unfold push
  rw [get_app0]
  simp only [if_pos h]
  rw [set_app0]
/-! ### operators at known data -/
section
variable (S : Store) (i j : Int) (a b : Str) (xs ys : List D) (x y : D)
theorem give_ite (c : Prop) [Decidable c] (z : An) : give S (if c then some z else none) = if c then z.give S else .bad := by
  split <;> rfl
theorem map_ite {α β : Type} (c : Prop) [Decidable c] (z : α) (f : α → β) : Option.map f (if c then some z else none) = if c then some (f z) else none := by
  split <;> rfl
theorem kb_add : kBin .add (.d (.int i)) (.d (.int j)) S = .ok (.d (.int (i + j))) S := Eq.trans rfl rfl
theorem kb_sub : kBin .sub (.d (.int i)) (.d (.int j)) S = .ok (.d (.int (i - j))) S := Eq.trans rfl rfl
theorem kb_mul : kBin .mul (.d (.int i)) (.d (.int j)) S = if (small i || small j) = true then .ok (.d (.int (i * j))) S else .bad := by
  simp only [kBin, rd, binD, give_ite, An.give]
theorem kb_fdiv : kBin .fdiv (.d (.int i)) (.d (.int j)) S = if 0 < j ∧ j < 1073741824 then .ok (.d (.int (i / j))) S else .bad := by
  simp only [kBin, rd, binD, give_ite, An.give]
theorem kb_mod : kBin .mod (.d (.int i)) (.d (.int j)) S = if 0 < j then .ok (.d (.int (i % j))) S else .bad := by
  simp only [kBin, rd, binD, give_ite, An.give]
theorem kb_pow : kBin .pow (.d (.int i)) (.d (.int j)) S = if 0 ≤ j ∧ j ≤ 1000 ∧ i.natAbs < 2 ^ 64 then .ok (.d (.int (i ^ j.toNat))) S else .bad := by
  simp only [kBin, rd, binD, give_ite, An.give]
theorem kb_adds : kBin .add (.d (.str a)) (.d (.str b)) S = if a.length + b.length ≤ BIG then .ok (.d (.str (a ++ b))) S else .bad := by
  simp only [kBin, rd, binD, give_ite, An.give]
theorem kb_addt : kBin .add (.d (.tup xs)) (.d (.tup ys)) S = if xs.length + ys.length ≤ BIG then .ok (.d (.tup (xs ++ ys))) S else .bad := by
  simp only [kBin, rd, binD, give_ite, An.give]
theorem kb_addl : kBin .add (.d (.lst xs)) (.d (.lst ys)) S = if xs.length + ys.length ≤ BIG then alloc (.lst (xs ++ ys)) S else .bad := by
  simp only [kBin, rd, binD, give_ite, An.give]
theorem kb_mult : kBin .mul (.d (.tup xs)) (.d (.int j)) S = if xs ≠ [] ∧ 2 ≤ j ∧ j ≤ 1000 ∧ xs.length ≤ 1000 ∧ isP (List.replicate j.toNat xs).flatten = false then .ok (.d (.tup (List.replicate j.toNat xs).flatten)) S else .bad := by
  simp only [kBin, rd, binD, give_ite, An.give]
theorem kb_muls : kBin .mul (.d (.str a)) (.d (.int j)) S = if 0 ≤ j ∧ j ≤ 1000 ∧ a.length ≤ 16 then .ok (.d (.str (Txt.mul a j))) S else .bad := by
  simp only [kBin, rd, binD, give_ite, An.give]
theorem kc_lt : kCmp .lt (.d (.int i)) (.d (.int j)) S = .ok (.d (.bl (decide (i < j)))) S := Eq.trans rfl rfl
theorem kc_le : kCmp .le (.d (.int i)) (.d (.int j)) S = .ok (.d (.bl (decide (i ≤ j)))) S := Eq.trans rfl rfl
theorem kc_gt : kCmp .gt (.d (.int i)) (.d (.int j)) S = .ok (.d (.bl (decide (j < i)))) S := Eq.trans rfl rfl
theorem kc_ge : kCmp .ge (.d (.int i)) (.d (.int j)) S = .ok (.d (.bl (decide (j ≤ i)))) S := Eq.trans rfl rfl
theorem kc_eqi : kCmp .eq (.d (.int i)) (.d (.int j)) S = .ok (.d (.bl (i == j))) S := Eq.trans rfl rfl
theorem kc_nei : kCmp .ne (.d (.int i)) (.d (.int j)) S = .ok (.d (.bl (!(i == j)))) S := Eq.trans rfl rfl
theorem kc_eqs (ha : SeqAt.shaped (.str a) = true) (hb : SeqAt.shaped (.str b) = true) : kCmp .eq (.d (.str a)) (.d (.str b)) S = .ok (.d (.bl (a == b))) S := by
  simp only [kCmp, rd, cmpD, eqD, toPy, ha, hb, PyData.eqv, Bool.and_self, if_true]
theorem kn : kNeg (.d (.int i)) S = .ok (.d (.int (-i))) S := Eq.trans rfl rfl
theorem kt_bl (k : Bool) : kTru (.d (.bl k)) S = .ok k S := Eq.trans rfl rfl
theorem knot_bl (k : Bool) : kNot (.d (.bl k)) S = .ok (.d (.bl (!k))) S := Eq.trans rfl rfl
theorem kbl_bl (k : Bool) : kBl (.d (.bl k)) S = .ok k S := Eq.trans rfl rfl
theorem at_bl (n : Nat) (k : Bool) : asTruth n (.d (.bl k)) S = .ok k (S.take n) := Eq.trans rfl rfl
theorem ab_bl (n : Nat) (k : Bool) : asBl n (.d (.bl k)) S = .ok k (S.take n) := Eq.trans rfl rfl
theorem kl_scr (ns : List Int) : kBlt .len [.d (.scr ns)] S = .ok (.d (.int ns.length)) S := Eq.trans rfl rfl
theorem kl_tup : kBlt .len [.d (.tup xs)] S = .ok (.d (.int xs.length)) S := Eq.trans rfl rfl
theorem kl_lst : kBlt .len [.d (.lst xs)] S = .ok (.d (.int xs.length)) S := Eq.trans rfl rfl
theorem kl_str : kBlt .len [.d (.str a)] S = if a.length ≤ BIG then .ok (.d (.int a.length)) S else .bad := by
  simp only [kBlt, rds, rd, bltD, lenD, map_ite, give_ite, An.give]
theorem kl_r (n : Nat) (h : S[n]? = some (.lst xs)) : kBlt .len [.r n] S = .ok (.d (.int xs.length)) S := by
  simp only [kBlt, rds, rd, h, Option.map, Ob.data, bltD, lenD, give, An.give]
theorem ki_int : kBlt .int [.d (.int i)] S = .ok (.d (.int i)) S := Eq.trans rfl rfl
theorem kt_tup : kBlt .tuple [.d (.tup xs)] S = .ok (.d (.tup xs)) S := Eq.trans rfl rfl
theorem kt_lst : kBlt .tuple [.d (.lst xs)] S = .ok (.d (.tup xs)) S := Eq.trans rfl rfl
theorem kt_r (n : Nat) (h : S[n]? = some (.lst xs)) : kBlt .tuple [.r n] S = .ok (.d (.tup xs)) S := by
  simp only [kBlt, rds, rd, h, Option.map, Ob.data, bltD, give, An.give]
theorem kx_scr (ns : List Int) : kIdx (.d (.scr ns)) (.d (.int i)) S = match L2.atI ns i with
    | some z => .ok (.d (.int z)) S
    | none => .bad := by
  simp only [kIdx, rd, idxD]
  cases L2.atI ns i <;> rfl
theorem kx_tup : kIdx (.d (.tup xs)) (.d (.int i)) S = match L2.atI xs i with
    | some z => .ok (.d z) S
    | none => .bad := rfl
theorem kx_lst : kIdx (.d (.lst xs)) (.d (.int i)) S = match L2.atI xs i with
    | some z => .ok (.d z) S
    | none => .bad := rfl
theorem kx_r (n : Nat) (h : S[n]? = some (.lst xs)) : kIdx (.r n) (.d (.int i)) S = match L2.atI xs i with
    | some z => .ok (.d z) S
    | none => .bad := by
  simp only [kIdx, rd, h, Option.map, Ob.data, idxD]
  all_goals (cases L2.atI xs i <;> rfl)
theorem atI_nat {α : Type} (xs : List α) (k : Nat) : L2.atI xs (k : Int) = xs[k]? := by
  unfold L2.atI L2.ixN
  rw [if_pos (Int.natCast_nonneg k)]
  by_cases h : (k : Int) < xs.length
  · rw [if_pos h]
    simp
  · rw [if_neg h, List.getElem?_eq_none (by omega)]
    rfl
theorem atI_0 {α : Type} (a : α) (r : List α) : L2.atI (a :: r) 0 = some a := (atI_nat (a :: r) 0).trans rfl
theorem atI_1 {α : Type} (a b : α) (r : List α) : L2.atI (a :: b :: r) 1 = some b := (atI_nat (a :: b :: r) 1).trans rfl
theorem atI_2 {α : Type} (a b c : α) (r : List α) : L2.atI (a :: b :: c :: r) 2 = some c := (atI_nat (a :: b :: c :: r) 2).trans rfl
theorem rng1 : kRng1 (.d (.int i)) S = if okI i = true then .ok (rngL 0 i.toNat) S else .bad := Eq.trans rfl rfl
theorem rng2 : kRng2 (.d (.int i)) (.d (.int j)) S = if (okI i && okI j) = true then .ok (rngL i (j - i).toNat) S else .bad := Eq.trans rfl rfl
theorem kd_r (n : Nat) (ob : Ob) (h : S[n]? = some ob) : kD (.r n) S = .ok ob.data (S.set n (.frz ob.data)) := by
  simp only [kD, toD, h]
theorem tup_le (h : xs.length ≤ BIG) : kTup xs S = .ok (.d (.tup xs)) S := if_pos h
theorem lst_le (h : xs.length ≤ BIG) : kLst xs S = .ok (.r S.length) (S ++ [.lst xs]) := if_pos h
theorem alloc_eq (ob : Ob) : alloc ob S = .ok (.r S.length) (S ++ [ob]) := Eq.trans rfl rfl
theorem it_tup : kItems (.tup xs) S = .ok xs S := Eq.trans rfl rfl
theorem it_lst : kItems (.lst xs) S = .ok xs S := Eq.trans rfl rfl
theorem it_str : kItems (.str a) S = .ok (a.cps.toList.map fun c => .str ⟨#[c]⟩) S := Eq.trans rfl rfl
theorem op_int : kOp (.d (.int i)) S = .ok (some i) S := Eq.trans rfl rfl
theorem seti_lst (n : Nat) (k : Int) (m : Nat) (h : S[n]? = some (.lst xs)) : True := trivial
end
/-! ### lists of the store -/
theorem isl_new (S : Store) (xs : List D) (r : List Ob) : kIsL (.r S.length) (S ++ .lst xs :: r) = .ok S.length (S ++ .lst xs :: r) := by
  unfold kIsL
  simp only [get_app0]
theorem isl_r (S : Store) (n : Nat) (xs : List D) (h : S[n]? = some (.lst xs)) : kIsL (.r n) S = .ok n S := by
  unfold kIsL
  simp only [h]
theorem push_app (S : Store) (xs : List D) (y : D) (r : List Ob) : push S.length y (S ++ .lst xs :: r) = if xs.length < BIG then .ok () (S ++ .lst (xs ++ [y]) :: r) else .bad := by
  unfold push
  rw [get_app0]
  simp only [set_app0]
theorem push_r (S : Store) (n : Nat) (xs : List D) (y : D) (h : S[n]? = some (.lst xs)) : push n y S = if xs.length < BIG then .ok () (S.set n (.lst (xs ++ [y]))) else .bad := by
  unfold push
  rw [h]
theorem take_same (S : Store) (a b : Ob) : (S ++ [a]).take (S ++ [b]).length = S ++ [a] := by
  rw [List.take_of_length_le]
  simp
theorem take_set (S : Store) (n : Nat) (a : Ob) : (S.set n a).take S.length = S.set n a := by
  rw [List.take_of_length_le]
  simp
theorem kset_lst (S : Store) (n : Nat) (xs : List D) (k : Nat) (x : D) (h : S[n]? = some (.lst xs)) (hk : k < xs.length) : kSet (.r n) (.d (.int k)) x S = .ok () (S.set n (.lst (xs.set k x))) := by
  unfold kSet setItem
  simp only [h]
  have e : L2.ixN xs.length (k : Int) = some k := by
    unfold L2.ixN
    rw [if_pos (Int.natCast_nonneg k), if_pos (by omega)]
    simp
  rw [e]
  rfl
/-! ### one statement at a time -/
def Cont (cf : CF) (r : Ts) (N : Env → Store → Prop) (W : Vl → Store → Prop) (B : Env → Store → Prop) (Y : Nat → List D → Env → Store → Prop) (ρ : Env) (S : Store) : Prop := Ws (evTs cf r ρ S) N W B Y
section
variable {cf : CF} {ρ : Env} {S : Store} {N : Env → Store → Prop} {W : Vl → Store → Prop} {B : Env → Store → Prop} {Y : Nat → List D → Env → Store → Prop} {Q : Vl → Store → Prop} {X : XP}
theorem cont_cons (s : T) (r : Ts) : Cont cf (.cons s r) N W B Y ρ S = Ws (evT cf s ρ S) (Cont cf r N W B Y) W B Y := by
  unfold Cont
  simp only [evTs, ws_then]
theorem cont_seq {s : T} {r : Ts} (N' : Env → Store → Prop) (h : Ws (evT cf s ρ S) N' W B Y) (h2 : ∀ ρ S, N' ρ S → Cont cf r N W B Y ρ S) : Cont cf (.cons s r) N W B Y ρ S := by
  rw [cont_cons]
  exact h.mono h2 (fun _ _ z => z) (fun _ _ z => z) fun _ _ _ _ z => z
theorem ws_block {b : Ts} : Ws (evTs cf b ρ S) N W B Y = Cont cf b N W B Y ρ S := rfl
theorem cont_nil : Cont cf .nil N W B Y ρ S = N ρ S := by
  unfold Cont
  simp only [evTs, ws_nx]
theorem wp_def {tbl : Nat → Option Fn} {f k : Nat} {d : Fn} {vs : List Vl} (h : tbl f = some d) (hl : vs.length = d.np) : Wp (callF tbl (k + 1) f vs S) Q X = Cont (callF tbl k) d.body (fun _ S' => Q (.d .non) (S'.take S.length)) (fun v S' => Wp (gc S.length v S') Q X) (fun _ _ => False) (fun c p _ S' => X c p (S'.take S.length)) (entry d vs) S := wp_call h hl
theorem t_set1 (i : Nat) (e : E) : evT cf (.set true i e) ρ S = (evE cf e ρ S).to ρ fun v S1 => (gc S.length v S1).to ρ fun u S2 => .nx (ρ.set i (some u)) S2 := by simp only [evT]
theorem t_set0 (i : Nat) (e : E) : evT cf (.set false i e) ρ S = ((evE cf e ρ S).bind fun v S1 => asData S.length v S1).to ρ fun x S1 => .nx (ρ.set i (some (.d x))) S1 := by simp only [evT, evData]
theorem t_unp (is : List Nat) (e : E) : evT cf (.unp is e) ρ S = ((evE cf e ρ S).bind fun v S1 => asData S.length v S1).to ρ fun x S1 => match asg (.tup is) x ρ with
    | some ρ1 => .nx ρ1 S1
    | none => .bad := by
  simp only [evT, evData]
  all_goals rfl
theorem t_seti (o i e : E) : evT cf (.seti o i e) ρ S = ((evE cf e ρ S).bind kD).to ρ fun x S2 => (evE cf o ρ S2).to ρ fun u S3 => (evE cf i ρ S3).to ρ fun j S4 => (kSet u j x S4).to ρ fun _ S5 => .nx ρ (S5.take S.length) := by simp only [evT]
theorem t_setf (o : E) (f : Nat) (e : E) : evT cf (.setf o f e) ρ S = ((evE cf e ρ S).bind kD).to ρ fun x S2 => (evE cf o ρ S2).to ρ fun u S3 => (kSetf f u x S3).to ρ fun _ S4 => .nx ρ (S4.take S.length) := by simp only [evT]
theorem t_app (o e : E) : evT cf (.app o e) ρ S = ((evE cf o ρ S).bind kIsL).to ρ fun n S1 => ((evE cf e ρ S1).bind kD).to ρ fun x S3 => (push n x S3).to ρ fun _ S4 => .nx ρ (S4.take S.length) := by simp only [evT]
theorem t_ex (e : E) : evT cf (.ex e) ρ S = (evE cf e ρ S).to ρ fun _ S1 => .nx ρ (S1.take S.length) := by simp only [evT]
theorem t_ife (c : E) (a b : Ts) : Ws (evT cf (.ife c a b) ρ S) N W B Y = Wp (evE cf c ρ S) (fun v S1 => Wp (asTruth S.length v S1) (fun k S2 => if k = true then Cont cf a N W B Y ρ S2 else Cont cf b N W B Y ρ S2) fun c p S => Y c p ρ S) fun c p S => Y c p ρ S := by
  simp only [evT, evCond, ws_to, wp_bind]
  congr 1
  funext v S1
  congr 1
  funext k S2
  cases k <;> rfl
theorem t_for (t : Tg) (it : It) (b : Ts) : evT cf (.forr t it b) ρ S = (evIt cf it ρ S).to ρ fun xs S1 => forGo (evTs cf b) t xs ρ (S1.take S.length) := by simp only [evT]
theorem t_whl (c : E) (b : Ts) : evT cf (.whl c b) ρ S = whlGo (evCond cf c) (evTs cf b) FUEL ρ S := by simp only [evT]
theorem t_ret (e : E) : evT cf (.ret e) ρ S = (evE cf e ρ S).to ρ fun v S1 => .rt v S1 := by simp only [evT]
theorem t_rse0 (c : Nat) : evT cf (.rse c .nil) ρ S = .xc c [] ρ (S.take S.length) := by simp only [evT, evDs, R.to]
theorem t_brk : evT cf .brk ρ S = .bk ρ S := by simp only [evT]
theorem t_pas : evT cf .pas ρ S = .nx ρ S := by simp only [evT]
theorem e_con (x : D) : evE cf (.con x) ρ S = .ok (.d x) S := by simp only [evE]
theorem e_var (i : Nat) : evE cf (.var i) ρ S = match ρ[i]? with
    | some (some v) => .ok v S
    | _ => .bad := by
  simp only [evE]
  all_goals rfl
theorem e_bin (o : Bop) (a b : E) : evE cf (.bin o a b) ρ S = (evE cf a ρ S).bind fun x S1 => (evE cf b ρ S1).bind (kBin o x) := by simp only [evE]
theorem e_neg (a : E) : evE cf (.neg a) ρ S = (evE cf a ρ S).bind kNeg := by simp only [evE]
theorem e_cmp (o : Cop) (a b : E) : evE cf (.cmp o a b) ρ S = (evE cf a ρ S).bind fun x S1 => (evE cf b ρ S1).bind (kCmp o x) := by simp only [evE]
theorem e_isN (n : Bool) (a : E) : evE cf (.isN n a) ρ S = (evE cf a ρ S).bind (kIsN n) := by simp only [evE]
def Sec (cf : CF) (b : E) (ρ : Env) (S : Store) : R Vl := evE cf b ρ S
theorem e_and (a b : E) : evE cf (.and a b) ρ S = ((evE cf a ρ S).bind kBl).bind fun k S1 => if k = true then Sec cf b ρ S1 else .ok (.d (.bl false)) S1 := by simp only [evE, Sec]
theorem e_or (a b : E) : evE cf (.or a b) ρ S = ((evE cf a ρ S).bind kBl).bind fun k S1 => if k = true then .ok (.d (.bl true)) S1 else Sec cf b ρ S1 := by simp only [evE, Sec]
theorem e_not (a : E) : evE cf (.not a) ρ S = (evE cf a ρ S).bind kNot := by simp only [evE]
theorem e_ite (c a b : E) : evE cf (.ite c a b) ρ S = ((evE cf c ρ S).bind kTru).bind fun k S1 => if k = true then Sec cf a ρ S1 else Sec cf b ρ S1 := by simp only [evE, Sec]
theorem e_call (f : Nat) (as : Es) : evE cf (.call f as) ρ S = (evEs cf as ρ S).bind (cf f) := by simp only [evE]
theorem e_blt (b : Blt) (as : Es) : evE cf (.blt b as) ρ S = (evEs cf as ρ S).bind (kBlt b) := by simp only [evE]
theorem e_isi (a : E) (t : Ty) : evE cf (.isi a t) ρ S = (evE cf a ρ S).bind (kIsi t) := by simp only [evE]
theorem e_meth (m : Mth) (o : E) (as : Es) : evE cf (.meth m o as) ρ S = ((evE cf o ρ S).bind (kPre m)).bind fun x S1 => (evEs cf as ρ S1).bind (kMth m x) := by simp only [evE]
theorem e_fld (o : E) (f : Nat) : evE cf (.fld o f) ρ S = (evE cf o ρ S).bind (kFld f) := by simp only [evE]
theorem e_idx (o i : E) : evE cf (.idx o i) ρ S = (evE cf o ρ S).bind fun x S1 => (evE cf i ρ S1).bind (kIdx x) := by simp only [evE]
theorem e_slc (o : E) (lo hi : Op) : evE cf (.slc o lo hi) ρ S = (evE cf o ρ S).bind fun x S1 => (evOp cf lo ρ S1).bind fun l S2 => (evOp cf hi ρ S2).bind (kSlc x l) := by simp only [evE]
theorem e_rev (o : E) : evE cf (.rev o) ρ S = (evE cf o ρ S).bind kRev := by simp only [evE]
theorem e_tup (as : Es) : evE cf (.tup as) ρ S = (evDs cf as ρ S).bind kTup := by simp only [evE]
theorem e_lst (as : Es) : evE cf (.lst as) ρ S = (evDs cf as ρ S).bind kLst := by simp only [evE]
theorem e_dct0 : evE cf .dct0 ρ S = alloc (.dct []) S := by simp only [evE]
theorem es_nil : evEs cf .nil ρ S = .ok [] S := by simp only [evEs]
theorem es_cons (a : E) (r : Es) : evEs cf (.cons a r) ρ S = (evE cf a ρ S).bind fun x S1 => (evEs cf r ρ S1).bind fun xs S2 => .ok (x :: xs) S2 := by simp only [evEs]
theorem ds_nil : evDs cf .nil ρ S = .ok [] S := by simp only [evDs]
theorem ds_cons (a : E) (r : Es) : evDs cf (.cons a r) ρ S = ((evE cf a ρ S).bind kD).bind fun y S2 => (evDs cf r ρ S2).bind fun ys S3 => .ok (y :: ys) S3 := by simp only [evDs]
theorem op_none : evOp cf .none ρ S = .ok none S := by simp only [evOp]
theorem op_some (a : E) : evOp cf (.some a) ρ S = (evE cf a ρ S).bind kOp := by simp only [evOp]
theorem i_rng1 (a : E) : evIt cf (.rng1 a) ρ S = (evE cf a ρ S).bind kRng1 := by simp only [evIt]
theorem i_rng2 (a b : E) : evIt cf (.rng2 a b) ρ S = (evE cf a ρ S).bind fun x S1 => (evE cf b ρ S1).bind (kRng2 x) := by simp only [evIt]
theorem i_ov (a : E) : evIt cf (.ov a) ρ S = ((evE cf a ρ S).bind kD).bind kItems := by simp only [evIt]
end
theorem c_60 : okI 60 = true := Eq.trans rfl rfl
theorem c_48271 (z : Int) : (small z || small 48271) = true := by rw [show small 48271 = true from rfl, Bool.or_true]
theorem c_69621 (z : Int) : (small z || small 69621) = true := by rw [show small 69621 = true from rfl, Bool.or_true]
theorem c_16807 (z : Int) : (small z || small 16807) = true := by rw [show small 16807 = true from rfl, Bool.or_true]
theorem c_7 (z : Int) : (small 7 || small z) = true := Eq.trans rfl rfl
theorem c_2 (z : Int) : (small 2 || small z) = true := Eq.trans rfl rfl
theorem c_01000 : ((10 : Int).natAbs < 2 ^ 64) = True := by
  exact propext ⟨fun _ => trivial, fun _ => by decide⟩
theorem tup_0 (xs : List D) (S : Store) : kTup xs S = if xs.length ≤ BIG then .ok (.d (.tup xs)) S else .bad := Eq.trans rfl rfl
theorem lst_0 (xs : List D) (S : Store) : kLst xs S = if xs.length ≤ BIG then .ok (.r S.length) (S ++ [.lst xs]) else .bad := Eq.trans rfl rfl
theorem big_of {n i : Nat} (h : n ≤ i) (hi : i < 1000) : n < BIG := by
  unfold BIG
  omega
theorem map_snoc (ds : List Int) (y : Int) : ds.map D.int ++ [D.int y] = (ds ++ [y]).map D.int := by simp
theorem gc_mid (S : Store) (a b : Ob) : gc S.length (.r (S ++ [a]).length) (S ++ [a] ++ [b]) = .ok (.r S.length) (S ++ [b]) := by
  unfold gc
  simp
theorem kset_1 (S : Store) (n : Nat) (a b x : D) (r : List D) (h : S[n]? = some (.lst (a :: b :: r))) : kSet (.r n) (.d (.int 1)) x S = .ok () (S.set n (.lst (a :: x :: r))) :=
  kset_lst S n (a :: b :: r) 1 x h (by simp)
theorem get_set (S : Store) (n : Nat) (a b : Ob) (h : S[n]? = some a) : (S.set n b)[n]? = some b := by
  have := (List.getElem?_eq_some_iff.mp h).1
  simp [this]
theorem set_len (S : Store) (n : Nat) (b : Ob) : (S.set n b).length = S.length := by simp
theorem bg2 : (0 + 1 + 1 ≤ BIG) = True := propext ⟨fun _ => trivial, fun _ => by decide⟩
theorem bg1 : (0 + 1 ≤ BIG) = True := propext ⟨fun _ => trivial, fun _ => by decide⟩
theorem bg3 : (0 + 1 + 1 + 1 ≤ BIG) = True := propext ⟨fun _ => trivial, fun _ => by decide⟩
theorem kpre_str (S : Store) (a : Str) : kPre .join (.d (.str a)) S = .ok (.d (.str a)) S := Eq.trans rfl rfl
theorem kx_str (S : Store) (a : Str) (i : Int) : kIdx (.d (.str a)) (.d (.int i)) S = if a.length ≤ BIG then (match L2.atI a.cps.toList i with
    | some c => .ok (.d (.str ⟨#[c]⟩)) S
    | none => .bad) else .bad := by
  by_cases h : a.length ≤ BIG
  · simp only [kIdx, rd, idxD, if_pos h]
    cases L2.atI a.cps.toList i <;> rfl
  · simp only [kIdx, rd, idxD, if_neg h]
theorem strsOf_map : ∀ ys : List Str, strsOf (ys.map D.str) = some ys
  | [] => rfl
  | y :: ys => by
    rw [List.map_cons]
    unfold strsOf
    rw [strsOf_map ys]
    rfl
theorem kmth_join (S : Store) (n : Nat) (a : Str) (ys : List Str) (h : S[n]? = some (.lst (ys.map D.str))) (hl : (ys.map (·.length)).sum + a.length * ys.length ≤ BIG) : kMth .join (.d (.str a)) [.r n] S = .ok (.d (.str (Txt.join a ys))) S := by
  simp only [kMth, reduceCtorEq, if_false, rds, rd, h, Option.map, Ob.data, mthD, strsOf_map, Option.bind, if_pos hl, give, An.give]
theorem get_left {S r : Store} {n : Nat} {b : Ob} (h : S[n]? = some b) : (S ++ r)[n]? = some b := by
  have := (List.getElem?_eq_some_iff.mp h).1
  rw [List.getElem?_append_left this]
  exact h
theorem set_left {S r : Store} {n : Nat} {a b : Ob} (h : S[n]? = some a) : (S ++ r).set n b = S.set n b ++ r := by
  have := (List.getElem?_eq_some_iff.mp h).1
  rw [List.set_append_left _ _ this]
theorem push_set (S : Store) (n : Nat) (b : Ob) (xs : List D) (y : D) : push S.length y (S.set n b ++ [.lst xs]) = if xs.length < BIG then .ok () (S.set n b ++ [.lst (xs ++ [y])]) else .bad := by
  have := push_app (S.set n b) xs y []
  rwa [set_len] at this
theorem get_setapp (S : Store) (n : Nat) (b a : Ob) : (S.set n b ++ [a])[S.length]? = some a := by
  have := get_app0 (S.set n b) a []
  rwa [set_len] at this
theorem take_setapp (S : Store) (n : Nat) (b a : Ob) : (S.set n b ++ [a]).take S.length = S.set n b := by
  have := take_app (S.set n b) [a]
  rwa [set_len] at this
theorem map_snocS (ys : List Str) (y : Str) : ys.map D.str ++ [D.str y] = (ys ++ [y]).map D.str := by simp
theorem okI_nat {w : Nat} (h : w < 1000000) : okI (w : Int) = true := by
  unfold okI
  exact decide_eq_true (by omega)
theorem set_self {S : Store} {n : Nat} {b : Ob} (h : S[n]? = some b) : S.set n b = S := by
  obtain ⟨h1, h2⟩ := List.getElem?_eq_some_iff.mp h
  rw [← h2]
  exact List.set_getElem_self h1
theorem kx_strlit (S : Store) (a : Str) {z : Int} (h0 : 0 ≤ z) (h1 : z < a.length) (hl : a.length ≤ BIG) : ∃ c, c ∈ a.cps.toList ∧ kIdx (.d (.str a)) (.d (.int z)) S = .ok (.d (.str ⟨#[c]⟩)) S := by
  obtain ⟨m, rfl⟩ := Int.eq_ofNat_of_zero_le h0
  have hm : m < a.cps.toList.length := by
    have e : a.cps.toList.length = a.length := by simp [Str.length]
    omega
  refine ⟨a.cps.toList[m], List.getElem_mem hm, ?_⟩
  rw [kx_str, if_pos hl, atI_nat, List.getElem?_eq_getElem hm]
theorem take_set2 (S : Store) (n : Nat) (b b' a a' : Ob) : (S.set n b ++ [a]).take (S.set n b' ++ [a']).length = S.set n b ++ [a] := by
  rw [List.take_of_length_le]
  simp
def IsBox (ob : Ob) : Prop := ∃ (ds : List Int) (at_ : Nat), ob = .lst [.lst (ds.map .int), .int at_]
/-! ### loops -/
theorem ws_for {body : Env → Store → RS} {t : Tg} {N : Env → Store → Prop} {T : Vl → Store → Prop} {Y : Nat → List D → Env → Store → Prop} {B : Env → Store → Prop} (P : Nat → Env → Store → Prop) : ∀ (xs : List D) (j : Nat) (ρ : Env) (S : Store), P j ρ S →
    (∀ i x ρ S, xs[i]? = some x → P (j + i) ρ S → ∃ ρ1, asg t x ρ = some ρ1 ∧ Ws (body ρ1 S) (P (j + i + 1)) T N Y) → (∀ ρ S, P (j + xs.length) ρ S → N ρ S) → Ws (forGo body t xs ρ S) N T B Y
  | [], j, ρ, S, h, _, hN => hN ρ S h
  | x :: xs, j, ρ, S, h, hb, hN => by
    obtain ⟨ρ1, e1, h1⟩ := hb 0 x ρ S rfl h
    unfold forGo
    rw [e1]
    simp only
    cases e : body ρ1 S with
    | nx ρ2 S2 =>
      rw [e] at h1
      have hb2 : ∀ i x ρ S, xs[i]? = some x → P (j + 1 + i) ρ S → ∃ ρ1, asg t x ρ = some ρ1 ∧ Ws (body ρ1 S) (P (j + 1 + i + 1)) T N Y := fun i y ρ S hi hP => by
        have e2 : j + 1 + i = j + (i + 1) := by omega
        rw [e2] at hP ⊢
        exact hb (i + 1) y ρ S hi hP
      have hN2 : ∀ ρ S, P (j + 1 + xs.length) ρ S → N ρ S := fun ρ S hP => by
        have e2 : j + 1 + xs.length = j + (x :: xs).length := by
          rw [List.length_cons]
          omega
        rw [e2] at hP
        exact hN ρ S hP
      exact ws_for P xs (j + 1) ρ2 S2 h1 hb2 hN2
    | bk ρ2 S2 => rw [e] at h1; exact h1
    | rt v S2 => rw [e] at h1; exact h1
    | xc c p ρ2 S2 => rw [e] at h1; exact h1
    | bad => rw [e] at h1; exact h1
theorem rngL_get {lo : Int} {n i : Nat} {x : D} (h : (rngL lo n)[i]? = some x) : i < n ∧ x = .int (lo + (i : Int)) := by
  unfold rngL at h
  rw [List.getElem?_map] at h
  by_cases hi : i < n
  · rw [List.getElem?_range hi] at h
    simp at h
    exact ⟨hi, h.symm⟩
  · rw [List.getElem?_eq_none (by simpa using hi)] at h
    cases h
theorem rngL_length (lo : Int) (n : Nat) : (rngL lo n).length = n := by simp [rngL]
/-! ### comprehensions -/
def lcB (cf : CF) (f : Op) (e : E) (n : Nat) (ρ1 : Env) (S2 : Store) : R Unit := ((evC cf f ρ1 S2).bind fun b S3 => if b then (evE cf e ρ1 S3).bind fun v S4 => (asData S3.length v S4).bind fun y S5 => push n y S5 else .ok () S3).calm
def gnB (cf : CF) (e : E) (ρ1 : Env) (S1 : Store) : R Bool := ((evE cf e ρ1 S1).bind fun v S2 => asBl S1.length v S2).calm
section
variable {cf : CF} {ρ : Env} {S : Store}
theorem e_lc (t : Tg) (it : It) (f : Op) (e : E) (own : List Nat) : evE cf (.lc t it f e own) ρ S = (evIt cf it ρ S).bind fun xs S1 => (loopC (lcB cf f e S1.length) t xs (wipeE ρ own) (S1 ++ [.lst []])).bind fun _ S2 => .ok (.r S1.length) S2 := by
  simp only [evE, lcB]
  rfl
theorem e_gen (al : Bool) (t : Tg) (it : It) (e : E) (own : List Nat) : evE cf (.gen al t it e own) ρ S = (evIt cf it ρ S).bind fun xs S1 => (genGo al (gnB cf e) t xs (wipeE ρ own) S1).bind fun b S2 => .ok (.d (.bl b)) S2 := by
  simp only [evE, gnB]
  rfl
theorem wp_calm {α : Type} {r : R α} {Q : α → Store → Prop} {X : XP} (h : Wp r Q noX) : Wp r.calm Q X := by
  cases r with
  | ok a S => exact h
  | exc c p S => exact h.elim
  | bad => exact h.elim
theorem wp_lcB0 {e : E} {n : Nat} {Q : Unit → Store → Prop} {X : XP} (h : Wp (evE cf e ρ S) (fun v S4 => Wp (asData S.length v S4) (fun y S5 => Wp (push n y S5) Q noX) noX) noX) : Wp (lcB cf .none e n ρ S) Q X := by
  unfold lcB
  refine wp_calm ?_
  simp only [evC, wp_bind, wp_ok, if_true]
  exact h
theorem wp_lcB1 {f e : E} {n : Nat} {Q : Unit → Store → Prop} {X : XP} (h : Wp (evE cf f ρ S) (fun v S1 => Wp (asTruth S.length v S1) (fun b S3 => if b = true then Wp (evE cf e ρ S3) (fun v S4 => Wp (asData S3.length v S4) (fun y S5 => Wp (push n y S5) Q noX) noX) noX else Q () S3) noX) noX) : Wp (lcB cf (.some f) e n ρ S) Q X := by
  unfold lcB
  refine wp_calm ?_
  simp only [evC, wp_bind, wp_ite, wp_ok]
  exact h
theorem wp_gnB {e : E} {Q : Bool → Store → Prop} {X : XP} (h : Wp (evE cf e ρ S) (fun v S2 => Wp (asBl S.length v S2) Q noX) noX) : Wp (gnB cf e ρ S) Q X := by
  unfold gnB
  refine wp_calm ?_
  rw [wp_bind]
  exact h
theorem wp_loop {body : Env → Store → R Unit} {t : Tg} {ρ : Env} {Q : Unit → Store → Prop} {X : XP} (P : Nat → Store → Prop) : ∀ (xs : List D) (j : Nat) (S : Store), P j S →
    (∀ i x S, xs[i]? = some x → P (j + i) S → ∃ ρ1, asg t x ρ = some ρ1 ∧ Wp (body ρ1 S) (fun _ S' => P (j + i + 1) S') X) → (∀ S, P (j + xs.length) S → Q () S) → Wp (loopC body t xs ρ S) Q X
  | [], j, S, h, _, hN => hN S h
  | x :: xs, j, S, h, hb, hN => by
    obtain ⟨ρ1, e1, h1⟩ := hb 0 x S rfl h
    unfold loopC
    rw [e1]
    simp only
    rw [wp_bind]
    refine h1.mono (fun _ S2 h2 => ?_) fun _ _ _ z => z
    have hb2 : ∀ i x S, xs[i]? = some x → P (j + 1 + i) S → ∃ ρ1, asg t x ρ = some ρ1 ∧ Wp (body ρ1 S) (fun _ S' => P (j + 1 + i + 1) S') X := fun i y S hi hP => by
      have e2 : j + 1 + i = j + (i + 1) := by omega
      rw [e2] at hP ⊢
      exact hb (i + 1) y S hi hP
    have hN2 : ∀ S, P (j + 1 + xs.length) S → Q () S := fun S hP => by
      have e2 : j + 1 + xs.length = j + (x :: xs).length := by
        rw [List.length_cons]
        omega
      rw [e2] at hP
      exact hN S hP
    exact wp_loop P xs (j + 1) S2 h2 hb2 hN2
theorem wp_genGo {al : Bool} {e : Env → Store → R Bool} {t : Tg} {ρ : Env} {S : Store} {X : XP} (p : D → Bool) : ∀ (xs : List D), (∀ x ∈ xs, ∃ ρ1, asg t x ρ = some ρ1 ∧ Wp (e ρ1 S) (fun b S' => b = p x ∧ S' = S) X) → Wp (genGo al e t xs ρ S) (fun b S' => b = (if al = true then xs.all p else xs.any p) ∧ S' = S) X
  | [], _ => by cases al <;> exact ⟨rfl, rfl⟩
  | x :: xs, h => by
    obtain ⟨ρ1, e1, h1⟩ := h x List.mem_cons_self
    unfold genGo
    rw [e1]
    simp only
    rw [wp_bind]
    refine h1.mono (fun b S2 h2 => ?_) fun _ _ _ z => z
    obtain ⟨rfl, rfl⟩ := h2
    by_cases hb : p x = al
    · rw [if_pos hb]
      refine (wp_genGo p xs fun y hy => h y (List.mem_cons_of_mem _ hy)).mono (fun b S h => ?_) fun _ _ _ z => z
      refine ⟨?_, h.2⟩
      rw [h.1]
      cases al <;> simp [hb]
    · rw [if_neg hb]
      refine ⟨?_, rfl⟩
      cases al <;> simp at hb <;> simp [hb]
end
/-! ### shapes -/
/-- v reads as a sequence of texts, whatever is laid behind S -/
def IsRows (v : Vl) (rows : List Str) (S : Store) : Prop := ∀ r : List Ob, kBlt .len [v] (S ++ r) = .ok (.d (.int rows.length)) (S ++ r) ∧ ∀ (i : Nat) (h : i < rows.length), kIdx v (.d (.int i)) (S ++ r) = .ok (.d (.str rows[i])) (S ++ r)
theorem isRows_tup (rows : List Str) (S : Store) : IsRows (.d (.tup (rows.map .str))) rows S := fun r => ⟨by rw [kl_tup, List.length_map], fun i h => by
  rw [kx_tup, atI_nat, List.getElem?_map, List.getElem?_eq_getElem h]
  rfl⟩
theorem isRows_r {rows : List Str} {S : Store} {n : Nat} (h : S[n]? = some (.lst (rows.map .str))) : IsRows (.r n) rows S := fun r => ⟨by rw [kl_r _ _ _ (get_left h), List.length_map], fun i hi => by
  rw [kx_r _ _ _ _ (get_left h), atI_nat, List.getElem?_map, List.getElem?_eq_getElem hi]
  rfl⟩
theorem kc_in1 (S : Store) (c : Nat) (a : Str) : kCmp .inn (.d (.str ⟨#[c]⟩)) (.d (.str a)) S = .ok (.d (.bl (decide (c ∈ a.cps.toList)))) S := Eq.trans rfl rfl
theorem kc_nin1 (S : Store) (c : Nat) (a : Str) : kCmp .nin (.d (.str ⟨#[c]⟩)) (.d (.str a)) S = .ok (.d (.bl (!decide (c ∈ a.cps.toList)))) S := Eq.trans rfl rfl
theorem map_snocC (cs : List Cell) (a b : Int) : cs.map cellD ++ [D.tup [.int a, .int b]] = (cs ++ [(a, b)]).map cellD := by
  simp [cellD]
theorem kx_strnat (S : Store) (a : Str) (m : Nat) (h : m < a.length) (hl : a.length ≤ BIG) : kIdx (.d (.str a)) (.d (.int m)) S = .ok (.d (.str ⟨#[a.cps.toList[m]'(by simpa [Str.length] using h)]⟩)) S := by
  rw [kx_str, if_pos hl, atI_nat, List.getElem?_eq_getElem (by simpa [Str.length] using h)]
theorem len_big {n : Nat} (h : n < 1000000) : n ≤ BIG := by
  unfold BIG
  omega
theorem len_big2 {n : Nat} (h : n < 1000000) : n < BIG := by
  unfold BIG
  omega
theorem isi_0int (S : Store) (i : Int) : kIsi .int (.d (.int i)) S = .ok (.d (.bl true)) S := Eq.trans rfl rfl
theorem isi_0bool (S : Store) (i : Int) : kIsi .bool (.d (.int i)) S = .ok (.d (.bl false)) S := Eq.trans rfl rfl
theorem isi_0str (S : Store) (i : Int) : kIsi .str (.d (.int i)) S = .ok (.d (.bl false)) S := Eq.trans rfl rfl
theorem isi_0tuple (S : Store) (i : Int) : kIsi .tuple (.d (.int i)) S = .ok (.d (.bl false)) S := Eq.trans rfl rfl
theorem isi_1int (S : Store) (b : Bool) : kIsi .int (.d (.bl b)) S = .ok (.d (.bl true)) S := Eq.trans rfl rfl
theorem isi_1bool (S : Store) (b : Bool) : kIsi .bool (.d (.bl b)) S = .ok (.d (.bl true)) S := Eq.trans rfl rfl
theorem isi_1str (S : Store) (b : Bool) : kIsi .str (.d (.bl b)) S = .ok (.d (.bl false)) S := Eq.trans rfl rfl
theorem isi_1tuple (S : Store) (b : Bool) : kIsi .tuple (.d (.bl b)) S = .ok (.d (.bl false)) S := Eq.trans rfl rfl
theorem isi_2int (S : Store) (a : Str) : kIsi .int (.d (.str a)) S = .ok (.d (.bl false)) S := Eq.trans rfl rfl
theorem isi_2bool (S : Store) (a : Str) : kIsi .bool (.d (.str a)) S = .ok (.d (.bl false)) S := Eq.trans rfl rfl
theorem isi_2str (S : Store) (a : Str) : kIsi .str (.d (.str a)) S = .ok (.d (.bl true)) S := Eq.trans rfl rfl
theorem isi_2tuple (S : Store) (a : Str) : kIsi .tuple (.d (.str a)) S = .ok (.d (.bl false)) S := Eq.trans rfl rfl
theorem isi_3int (S : Store) (xs : List D) : kIsi .int (.d (.tup xs)) S = .ok (.d (.bl false)) S := Eq.trans rfl rfl
theorem isi_3bool (S : Store) (xs : List D) : kIsi .bool (.d (.tup xs)) S = .ok (.d (.bl false)) S := Eq.trans rfl rfl
theorem isi_3str (S : Store) (xs : List D) : kIsi .str (.d (.tup xs)) S = .ok (.d (.bl false)) S := Eq.trans rfl rfl
theorem isi_3tuple (S : Store) (xs : List D) : kIsi .tuple (.d (.tup xs)) S = .ok (.d (.bl true)) S := Eq.trans rfl rfl
theorem isi_4int (S : Store) : kIsi .int (.d (.non)) S = .ok (.d (.bl false)) S := Eq.trans rfl rfl
theorem isi_4bool (S : Store) : kIsi .bool (.d (.non)) S = .ok (.d (.bl false)) S := Eq.trans rfl rfl
theorem isi_4str (S : Store) : kIsi .str (.d (.non)) S = .ok (.d (.bl false)) S := Eq.trans rfl rfl
theorem isi_4tuple (S : Store) : kIsi .tuple (.d (.non)) S = .ok (.d (.bl false)) S := Eq.trans rfl rfl
theorem kl_all (S : Store) (n : Nat) (bs : List Bool) (h : S[n]? = some (.lst (bs.map .bl))) : kBlt .all [.r n] S = .ok (.d (.bl (bs.all id))) S := by
  have e : ∀ bs : List Bool, blsOf (bs.map D.bl) = some bs := fun bs => by
    induction bs with
    | nil => rfl
    | cons b r ih =>
      rw [List.map_cons]
      unfold blsOf
      rw [ih]
      rfl
  simp only [kBlt, rds, rd, h, Option.map, Ob.data, bltD, e, give, An.give]
def plD : Nat → D → Bool
  | _, .int _ => true
  | _, .bl _ => true
  | _, .non => true
  | _, .str a => SeqAt.shaped (.str a)
  | n + 1, .tup xs => decide (xs.length < 1000) && xs.all (plD n)
  | _, _ => false
theorem kc_eqb (S : Store) (a b : Bool) : kCmp .eq (.d (.bl a)) (.d (.bl b)) S = .ok (.d (.bl (a == b))) S := Eq.trans rfl rfl
theorem kisn_non (S : Store) (n : Bool) : kIsN n (.d .non) S = .ok (.d (.bl (!n))) S := Eq.trans rfl rfl
theorem map_snocB (ys : List Bool) (y : Bool) : ys.map D.bl ++ [D.bl y] = (ys ++ [y]).map D.bl := by simp
/-- v reads as a chart -/
structure IsChart (v : Vl) (rows : List Str) (src : List Cell) (S : Store) : Prop where
  f0 : kFld 0 v S = .ok (.d (.tup (rows.map .str))) S
  f1 : kFld 1 v S = .ok (.d (.tup (src.map cellD))) S
theorem isChart_d (rows : List Str) (src : List Cell) (S : Store) : IsChart (.d (.obj 0 [(0, .tup (rows.map .str)), (1, .tup (src.map cellD))])) rows src S := ⟨rfl, rfl⟩
theorem isChart_r {rows : List Str} {src : List Cell} {S : Store} {n : Nat} (h : S[n]? = some (.ins 0 [(0, .tup (rows.map .str)), (1, .tup (src.map cellD))])) : IsChart (.r n) rows src S := by
  constructor <;> (simp only [kFld, rd, h]; rfl)
theorem kc_ltc (S : Store) (a b : Cell) : kCmp .lt (.d (cellD a)) (.d (cellD b)) S = .ok (.d (.bl (cellLt a b))) S := Eq.trans rfl rfl
end SW

-- NB
set_option Elab.async false
set_option linter.all false
set_option maxRecDepth 100000
set_option maxHeartbeats 4000000
set_option autoImplicit false
/-! NB: equations for whole constructs -/
namespace SW
open PySem
theorem eq_of_wp {α : Type} {r : R α} {v : α} {S0 : Store} (h : Wp r (fun a S' => a = v ∧ S' = S0) noX) : r = .ok v S0 := by
  cases r with
  | ok a S =>
    obtain ⟨rfl, rfl⟩ := h
    rfl
  | exc c p S => exact h.elim
  | bad => exact h.elim
theorem eq_of_wpx {α : Type} {r : R α} {c : Nat} {p : List D} {S0 : Store} (h : Wp r (fun _ _ => False) (fun c' p' S' => c' = c ∧ p' = p ∧ S' = S0)) : r = .exc c p S0 := by
  cases r with
  | ok a S => exact h.elim
  | exc c p S =>
    obtain ⟨rfl, rfl, rfl⟩ := h
    rfl
  | bad => exact h.elim
theorem bind_ok {α β : Type} (a : α) (S : Store) (f : α → Store → R β) : (R.ok a S).bind f = f a S := Eq.trans rfl rfl
theorem bind_exc {α β : Type} (c : Nat) (p : List D) (S : Store) (f : α → Store → R β) : (R.exc c p S).bind f = .exc c p S := Eq.trans rfl rfl
theorem to_okR {α : Type} (a : α) (ρ : Env) (S : Store) (f : α → Store → RS) : (R.ok a S).to ρ f = f a S := Eq.trans rfl rfl
theorem to_excR {α : Type} (c : Nat) (p : List D) (ρ : Env) (S : Store) (f : α → Store → RS) : (R.exc c p S).to ρ f = .xc c p ρ S := Eq.trans rfl rfl
theorem nx_then (ρ : Env) (S : Store) (f : Env → Store → RS) : (RS.nx ρ S).andThen f = f ρ S := Eq.trans rfl rfl
theorem Wp.eq {α : Type} {r r' : R α} {Q : α → Store → Prop} {X : XP} (h : Wp r' Q X) (e : r = r') : Wp r Q X := e ▸ h
theorem wp_imp {α : Type} {r : R α} {Q Q' : α → Store → Prop} {X : XP} (h : Wp r Q X) (hQ : ∀ a S, Q a S → Q' a S) : Wp r Q' X := h.mono hQ fun _ _ _ z => z
/-! ### the store: a base and a few objects behind it -/
section
variable (S l : List Ob) (k n : Nat) (x b : Ob)
theorem get_ap0 : (S ++ l)[S.length]? = l[0]? := by
  rw [List.getElem?_append_right (by omega), Nat.sub_self]
theorem get_ap : (S ++ l)[S.length + k]? = l[k]? := by
  rw [List.getElem?_append_right (by omega)]
  congr 1
  omega
theorem set_ap0 : (S ++ l).set S.length x = S ++ l.set 0 x := by simp [List.set_append]
theorem set_ap : (S ++ l).set (S.length + k) x = S ++ l.set k x := by
  rw [List.set_append_right _ _ (by omega)]
  congr 2
  omega
theorem take_ap0 : (S ++ l).take S.length = S := by simp
theorem take_ap : (S ++ l).take (S.length + k) = S ++ l.take k := by
  rw [List.take_append, List.take_of_length_le (by omega)]
  congr 2
  omega
theorem len_ap : (S ++ l).length = S.length + l.length := List.length_append
theorem get_sp0 : (S.set n b ++ l)[S.length]? = l[0]? := by
  have := get_ap0 (S.set n b) l
  rwa [set_len] at this
theorem get_sp : (S.set n b ++ l)[S.length + k]? = l[k]? := by
  have := get_ap (S.set n b) l k
  rwa [set_len] at this
theorem set_sp0 : (S.set n b ++ l).set S.length x = S.set n b ++ l.set 0 x := by
  have := set_ap0 (S.set n b) l x
  rwa [set_len] at this
theorem set_sp : (S.set n b ++ l).set (S.length + k) x = S.set n b ++ l.set k x := by
  have := set_ap (S.set n b) l k x
  rwa [set_len] at this
theorem take_sp0 : (S.set n b ++ l).take S.length = S.set n b := by
  have := take_ap0 (S.set n b) l
  rwa [set_len] at this
theorem take_sp : (S.set n b ++ l).take (S.length + k) = S.set n b ++ l.take k := by
  have := take_ap (S.set n b) l k
  rwa [set_len] at this
theorem get_bx (h : n < S.length) : (S.set n b ++ l)[n]? = some b := by
  rw [List.getElem?_append_left (by simpa using h)]
  simp [h]
theorem get_b1 (h : n < S.length) : (S.set n b)[n]? = some b := by simp [h]
theorem set_bx (h : n < S.length) : (S.set n b ++ l).set n x = S.set n x ++ l := by
  rw [List.set_append_left _ _ (by simpa using h), List.set_set]
theorem set_app_in (h : n < S.length) : S.set n b ++ l = (S ++ l).set n b := by rw [List.set_append_left _ _ h]
theorem take_sl : (S.set n b).take S.length = S.set n b := take_set S n b
end
theorem gc_r (n m : Nat) (S : Store) : gc n (.r m) S = if m < n then .ok (.r m) (S.take n) else match S[m]? with
    | some ob => .ok (.r n) (S.take n ++ [ob])
    | none => .bad := Eq.trans rfl rfl
theorem asData_r (n m : Nat) (S : Store) (ob : Ob) (h : S[m]? = some ob) : asData n (.r m) S = .ok ob.data ((S.set m (.frz ob.data)).take n) := by
  simp only [asData, toD, h]
theorem not_lt_self (n k : Nat) : (n + k < n) = False := by
  apply propext
  constructor
  · intro h; omega
  · exact False.elim
theorem lt_irr (n : Nat) : (n < n) = False := by simp
/-! ### range -/
theorem rng0 (n : Nat) : rngL 0 n = (List.range n).map fun (i : Nat) => D.int (i : Int) := by
  unfold rngL
  congr 1
  funext i
  simp
theorem range_split {n a : Nat} {done rest : List Nat} (h : List.range n = done ++ a :: rest) : done = List.range a ∧ a < n ∧ done.length = a := by
  have hl : done.length < n := by
    have := congrArg List.length h
    simp at this
    omega
  have ha : (List.range n)[done.length]? = some a := by rw [h]; simp
  rw [List.getElem?_range hl] at ha
  injection ha with ha
  subst ha
  refine ⟨?_, hl, rfl⟩
  have := congrArg (List.take done.length) h
  rw [List.take_left] at this
  rw [List.take_range, Nat.min_eq_left (by omega)] at this
  exact this.symm
/-! ### comprehensions -/
section
variable {cf : CF} {ρ : Env} {S : Store} {α : Type}
theorem loopC_L {t : Tg} {f : Op} {e : E} (enc : α → D) (p : α → Bool) (g : α → D) : ∀ (as : List α) (ys : List D), ys.length + as.length < BIG →
    (∀ a ∈ as, ∃ ρ1, asg t (enc a) ρ = some ρ1 ∧ ∀ ys, evC cf f ρ1 (S ++ [Ob.lst ys]) = .ok (p a) (S ++ [Ob.lst ys]) ∧ (p a = true → ((evE cf e ρ1 (S ++ [Ob.lst ys])).bind fun v S4 => asData (S ++ [Ob.lst ys]).length v S4) = .ok (g a) (S ++ [Ob.lst ys]))) →
    loopC (lcB cf f e S.length) t (as.map enc) ρ (S ++ [Ob.lst ys]) = .ok () (S ++ [Ob.lst (ys ++ (as.filter p).map g)])
  | [], ys, _, _ => by
    rw [List.map_nil, loopC, List.filter_nil, List.map_nil, List.append_nil]
  | a :: as, ys, hl, h => by
    obtain ⟨ρ1, e1, h1⟩ := h a List.mem_cons_self
    have hr := fun b hb => h b (List.mem_cons_of_mem _ hb)
    rw [List.length_cons] at hl
    rw [List.map_cons, loopC, e1]
    simp only
    obtain ⟨h2, h3⟩ := h1 ys
    cases hp : p a with
    | false =>
      have hb : lcB cf f e S.length ρ1 (S ++ [Ob.lst ys]) = .ok () (S ++ [Ob.lst ys]) := by
        unfold lcB
        rw [h2, bind_ok, hp]
        rfl
      rw [hb, bind_ok, loopC_L enc p g as ys (by omega) hr, List.filter_cons_of_neg (by simp [hp])]
    | true =>
      have hb : lcB cf f e S.length ρ1 (S ++ [Ob.lst ys]) = .ok () (S ++ [Ob.lst (ys ++ [g a])]) := by
        unfold lcB
        rw [h2, bind_ok, hp, if_pos rfl]
        have h3 := h3 hp
        have h4 := congrArg (fun r : R D => r.bind fun y S5 => push S.length y S5) h3
        simp only [R.bind_assoc, bind_ok] at h4
        rw [h4, push_new _ _ _ (by omega)]
        rfl
      rw [hb, bind_ok, loopC_L enc p g as (ys ++ [g a]) (by simp; omega) hr, List.filter_cons_of_pos (by simp [hp])]
      simp
theorem e_lcF {t : Tg} {it : It} {f : Op} {e : E} {own : List Nat} (enc : α → D) (as : List α) (p : α → Bool) (g : α → D) (hit : evIt cf it ρ S = .ok (as.map enc) S) (hl : as.length < BIG)
    (h : ∀ a ∈ as, ∃ ρ1, asg t (enc a) (wipeE ρ own) = some ρ1 ∧ ∀ ys, evC cf f ρ1 (S ++ [Ob.lst ys]) = .ok (p a) (S ++ [Ob.lst ys]) ∧ (p a = true → ((evE cf e ρ1 (S ++ [Ob.lst ys])).bind fun v S4 => asData (S ++ [Ob.lst ys]).length v S4) = .ok (g a) (S ++ [Ob.lst ys]))) :
    evE cf (.lc t it f e own) ρ S = .ok (.r S.length) (S ++ [Ob.lst ((as.filter p).map g)]) := by
  rw [e_lc, hit, bind_ok, loopC_L enc p g as [] (by simpa using hl) h, bind_ok, List.nil_append]
theorem e_lcM {t : Tg} {it : It} {e : E} {own : List Nat} (enc : α → D) (as : List α) (g : α → D) (hit : evIt cf it ρ S = .ok (as.map enc) S) (hl : as.length < BIG)
    (h : ∀ a ∈ as, ∃ ρ1, asg t (enc a) (wipeE ρ own) = some ρ1 ∧ ∀ ys, ((evE cf e ρ1 (S ++ [Ob.lst ys])).bind fun v S4 => asData (S ++ [Ob.lst ys]).length v S4) = .ok (g a) (S ++ [Ob.lst ys])) :
    evE cf (.lc t it .none e own) ρ S = .ok (.r S.length) (S ++ [Ob.lst (as.map g)]) := by
  rw [e_lcF enc as (fun _ => true) g hit hl fun a ha => ?_, List.filter_eq_self.mpr fun _ _ => rfl]
  obtain ⟨ρ1, e1, h1⟩ := h a ha
  exact ⟨ρ1, e1, fun ys => ⟨by rw [evC], fun _ => h1 ys⟩⟩
theorem genGo_L {al : Bool} {t : Tg} {e : E} (enc : α → D) (p : α → Bool) : ∀ (as : List α), (∀ a ∈ as, ∃ ρ1, asg t (enc a) ρ = some ρ1 ∧ evE cf e ρ1 S = .ok (.d (.bl (p a))) S) → genGo al (gnB cf e) t (as.map enc) ρ S = .ok (if al = true then as.all p else as.any p) S
  | [], _ => by cases al <;> rfl
  | a :: as, h => by
    obtain ⟨ρ1, e1, h1⟩ := h a List.mem_cons_self
    rw [List.map_cons, genGo, e1]
    simp only
    have hb : gnB cf e ρ1 S = .ok (p a) S := by
      unfold gnB
      rw [h1, bind_ok, ab_bl, List.take_length]
      rfl
    rw [hb, bind_ok]
    by_cases hp : p a = al
    · rw [if_pos hp, genGo_L enc p as fun b hb => h b (List.mem_cons_of_mem _ hb)]
      cases al <;> simp [hp]
    · rw [if_neg hp]
      cases al <;> simp at hp <;> simp [hp]
theorem e_genA {t : Tg} {it : It} {e : E} {own : List Nat} (enc : α → D) (as : List α) (p : α → Bool) (hit : evIt cf it ρ S = .ok (as.map enc) S)
    (h : ∀ a ∈ as, ∃ ρ1, asg t (enc a) (wipeE ρ own) = some ρ1 ∧ evE cf e ρ1 S = .ok (.d (.bl (p a))) S) : evE cf (.gen true t it e own) ρ S = .ok (.d (.bl (as.all p))) S := by
  rw [e_gen, hit, bind_ok, genGo_L enc p as h, bind_ok]
  rfl
theorem e_genO {t : Tg} {it : It} {e : E} {own : List Nat} (enc : α → D) (as : List α) (p : α → Bool) (hit : evIt cf it ρ S = .ok (as.map enc) S)
    (h : ∀ a ∈ as, ∃ ρ1, asg t (enc a) (wipeE ρ own) = some ρ1 ∧ evE cf e ρ1 S = .ok (.d (.bl (p a))) S) : evE cf (.gen false t it e own) ρ S = .ok (.d (.bl (as.any p))) S := by
  rw [e_gen, hit, bind_ok, genGo_L enc p as h, bind_ok]
  rfl
/-! marked ends: never looked into by unification -/
@[irreducible] def WpLc (cf : CF) (t : Tg) (it : It) (f : Op) (e : E) (own : List Nat) (ρ : Env) (S : Store) (Q : Vl → Store → Prop) (X : XP) : Prop := Wp (evE cf (.lc t it f e own) ρ S) Q X
@[irreducible] def WpGen (cf : CF) (al : Bool) (t : Tg) (it : It) (e : E) (own : List Nat) (ρ : Env) (S : Store) (Q : Vl → Store → Prop) (X : XP) : Prop := Wp (evE cf (.gen al t it e own) ρ S) Q X
@[irreducible] def WsFor (body : Env → Store → RS) (t : Tg) (xs : List D) (ρ : Env) (S : Store) (N : Env → Store → Prop) (W : Vl → Store → Prop) (B : Env → Store → Prop) (Y : Nat → List D → Env → Store → Prop) : Prop := Ws (forGo body t xs ρ S) N W B Y
@[irreducible] def WsWhl (c : Env → Store → R Bool) (body : Env → Store → RS) (ρ : Env) (S : Store) (N : Env → Store → Prop) (W : Vl → Store → Prop) (B : Env → Store → Prop) (Y : Nat → List D → Env → Store → Prop) : Prop := Ws (whlGo c body FUEL ρ S) N W B Y
theorem wp_lcE {t : Tg} {it : It} {f : Op} {e : E} {own : List Nat} {Q : Vl → Store → Prop} {X : XP} : Wp (evE cf (.lc t it f e own) ρ S) Q X = WpLc cf t it f e own ρ S Q X := by
  unfold WpLc
  rfl
theorem wp_genE {al : Bool} {t : Tg} {it : It} {e : E} {own : List Nat} {Q : Vl → Store → Prop} {X : XP} : Wp (evE cf (.gen al t it e own) ρ S) Q X = WpGen cf al t it e own ρ S Q X := by
  unfold WpGen
  rfl
theorem ws_forE {body : Env → Store → RS} {t : Tg} {xs : List D} {N : Env → Store → Prop} {W : Vl → Store → Prop} {B : Env → Store → Prop} {Y : Nat → List D → Env → Store → Prop} : Ws (forGo body t xs ρ S) N W B Y = WsFor body t xs ρ S N W B Y := by
  unfold WsFor
  rfl
theorem ws_whlE {c : Env → Store → R Bool} {body : Env → Store → RS} {N : Env → Store → Prop} {W : Vl → Store → Prop} {B : Env → Store → Prop} {Y : Nat → List D → Env → Store → Prop} : Ws (whlGo c body FUEL ρ S) N W B Y = WsWhl c body ρ S N W B Y := by
  unfold WsWhl
  rfl
theorem wl_map {t : Tg} {it : It} {e : E} {own : List Nat} {Q : Vl → Store → Prop} {X : XP} (enc : α → D) (as : List α) (g : α → D) (hit : evIt cf it ρ S = .ok (as.map enc) S) (hl : as.length < BIG)
    (h : ∀ a ∈ as, ∃ ρ1, asg t (enc a) (wipeE ρ own) = some ρ1 ∧ ∀ ys, ((evE cf e ρ1 (S ++ [Ob.lst ys])).bind fun v S4 => asData (S ++ [Ob.lst ys]).length v S4) = .ok (g a) (S ++ [Ob.lst ys]))
    (hQ : Q (.r S.length) (S ++ [.lst (as.map g)])) : WpLc cf t it .none e own ρ S Q X := by
  rw [← wp_lcE, e_lcM enc as g hit hl h, wp_ok]
  exact hQ
theorem wl_filter {t : Tg} {it : It} {f e : E} {own : List Nat} {Q : Vl → Store → Prop} {X : XP} (enc : α → D) (as : List α) (p : α → Bool) (g : α → D) (hit : evIt cf it ρ S = .ok (as.map enc) S) (hl : as.length < BIG)
    (h : ∀ a ∈ as, ∃ ρ1, asg t (enc a) (wipeE ρ own) = some ρ1 ∧ ∀ ys, ((evE cf f ρ1 (S ++ [Ob.lst ys])).bind fun v S1 => asTruth (S ++ [Ob.lst ys]).length v S1) = .ok (p a) (S ++ [Ob.lst ys]) ∧ (p a = true → ((evE cf e ρ1 (S ++ [Ob.lst ys])).bind fun v S4 => asData (S ++ [Ob.lst ys]).length v S4) = .ok (g a) (S ++ [Ob.lst ys])))
    (hQ : Q (.r S.length) (S ++ [.lst ((as.filter p).map g)])) : WpLc cf t it (.some f) e own ρ S Q X := by
  rw [← wp_lcE, e_lcF enc as p g hit hl ?_, wp_ok]
  · exact hQ
  · intro a ha
    obtain ⟨ρ1, e1, h1⟩ := h a ha
    refine ⟨ρ1, e1, fun ys => ⟨?_, (h1 ys).2⟩⟩
    rw [evC]
    exact (h1 ys).1
theorem wg_all {t : Tg} {it : It} {e : E} {own : List Nat} {Q : Vl → Store → Prop} {X : XP} (enc : α → D) (as : List α) (p : α → Bool) (hit : evIt cf it ρ S = .ok (as.map enc) S)
    (h : ∀ a ∈ as, ∃ ρ1, asg t (enc a) (wipeE ρ own) = some ρ1 ∧ evE cf e ρ1 S = .ok (.d (.bl (p a))) S) (hQ : Q (.d (.bl (as.all p))) S) : WpGen cf true t it e own ρ S Q X := by
  rw [← wp_genE, e_genA enc as p hit h, wp_ok]
  exact hQ
theorem wg_any {t : Tg} {it : It} {e : E} {own : List Nat} {Q : Vl → Store → Prop} {X : XP} (enc : α → D) (as : List α) (p : α → Bool) (hit : evIt cf it ρ S = .ok (as.map enc) S)
    (h : ∀ a ∈ as, ∃ ρ1, asg t (enc a) (wipeE ρ own) = some ρ1 ∧ evE cf e ρ1 S = .ok (.d (.bl (p a))) S) (hQ : Q (.d (.bl (as.any p))) S) : WpGen cf false t it e own ρ S Q X := by
  rw [← wp_genE, e_genO enc as p hit h, wp_ok]
  exact hQ
@[irreducible] def WpLc2 (cf : CF) (t : Tg) (it : It) (t2 : Tg) (it2 : It) (e : E) (own own2 : List Nat) (ρ : Env) (S : Store) (Q : Vl → Store → Prop) (X : XP) : Prop := Wp (evE cf (.lc2 t it t2 it2 e own own2) ρ S) Q X
theorem wp_lc2E {t : Tg} {it : It} {t2 : Tg} {it2 : It} {e : E} {own own2 : List Nat} {Q : Vl → Store → Prop} {X : XP} : Wp (evE cf (.lc2 t it t2 it2 e own own2) ρ S) Q X = WpLc2 cf t it t2 it2 e own own2 ρ S Q X := by
  unfold WpLc2
  rfl
def trnB (cf : CF) (e : E) (n : Nat) (ρ2 : Env) (S4 : Store) : R Unit := ((evE cf e ρ2 S4).bind fun v S5 => (asData S4.length v S5).bind fun y S6 => push n y S6).calm
theorem loopT_L {t : Tg} {e : E} {β : Type} (enc : β → D) (g : β → D) : ∀ (as : List β) (ys : List D), ys.length + as.length < BIG →
    (∀ a ∈ as, ∃ ρ1, asg t (enc a) ρ = some ρ1 ∧ ∀ ys, ((evE cf e ρ1 (S ++ [Ob.lst ys])).bind fun v S4 => asData (S ++ [Ob.lst ys]).length v S4) = .ok (g a) (S ++ [Ob.lst ys])) →
    loopC (trnB cf e S.length) t (as.map enc) ρ (S ++ [Ob.lst ys]) = .ok () (S ++ [Ob.lst (ys ++ as.map g)])
  | [], ys, _, _ => by
    rw [List.map_nil, loopC, List.map_nil, List.append_nil]
  | a :: as, ys, hl, h => by
    obtain ⟨ρ1, e1, h1⟩ := h a List.mem_cons_self
    have hr := fun b hb => h b (List.mem_cons_of_mem _ hb)
    rw [List.length_cons] at hl
    rw [List.map_cons, loopC, e1]
    simp only
    have hb : trnB cf e S.length ρ1 (S ++ [Ob.lst ys]) = .ok () (S ++ [Ob.lst (ys ++ [g a])]) := by
      unfold trnB
      have h4 := congrArg (fun r : R D => r.bind fun y S5 => push S.length y S5) (h1 ys)
      simp only [R.bind_assoc, bind_ok] at h4
      rw [h4, push_new _ _ _ (by omega)]
      rfl
    rw [hb, bind_ok, loopT_L enc g as (ys ++ [g a]) (by simp; omega) hr]
    simp
theorem e_lc2M {t : Tg} {it : It} {t2 : Tg} {it2 : It} {e : E} {own own2 : List Nat} {β : Type} (enc : α → D) (as : List α) (enc2 : β → D) (bs : α → List β) (g : α → β → D) (hit : evIt cf it ρ S = .ok (as.map enc) S) (hl : (as.flatMap fun a => (bs a).map (g a)).length < BIG)
    (h : ∀ a ∈ as, ∃ ρ1, asg t (enc a) (wipeE ρ own) = some ρ1 ∧ (∀ ys, evIt cf it2 ρ1 (S ++ [Ob.lst ys]) = .ok ((bs a).map enc2) (S ++ [Ob.lst ys])) ∧ ∀ b ∈ bs a, ∃ ρ2, asg t2 (enc2 b) (wipeE ρ1 own2) = some ρ2 ∧ ∀ ys, ((evE cf e ρ2 (S ++ [Ob.lst ys])).bind fun v S4 => asData (S ++ [Ob.lst ys]).length v S4) = .ok (g a b) (S ++ [Ob.lst ys])) :
    evE cf (.lc2 t it t2 it2 e own own2) ρ S = .ok (.r S.length) (S ++ [Ob.lst (as.flatMap fun a => (bs a).map (g a))]) := by
  have key : ∀ (cs : List α) (ys : List D), (∀ a ∈ cs, a ∈ as) → ys.length + (cs.flatMap fun a => (bs a).map (g a)).length < BIG → loopC (fun ρ1 S2 => ((evIt cf it2 ρ1 S2).bind fun ys S3 => loopC (trnB cf e S.length) t2 ys (wipeE ρ1 own2) (S3.take S2.length)).calm) t (cs.map enc) (wipeE ρ own) (S ++ [Ob.lst ys]) = .ok () (S ++ [Ob.lst (ys ++ cs.flatMap fun a => (bs a).map (g a))]) := by
    intro cs
    induction cs with
    | nil =>
      intro ys _ _
      rw [List.map_nil, loopC, List.flatMap_nil, List.append_nil]
    | cons a cs ih =>
      intro ys hc hz
      obtain ⟨ρ1, e1, h1, h2⟩ := h a (hc a List.mem_cons_self)
      rw [List.flatMap_cons, List.length_append] at hz
      rw [List.map_cons, loopC, e1]
      simp only
      rw [h1, bind_ok, List.take_length, loopT_L enc2 (g a) (bs a) ys (by rw [List.length_map] at hz; omega) h2]
      show loopC _ t (cs.map enc) (wipeE ρ own) (S ++ [Ob.lst (ys ++ (bs a).map (g a))]) = _
      rw [ih _ (fun b hb => hc b (List.mem_cons_of_mem _ hb)) (by simp only [List.length_append]; omega), List.flatMap_cons, List.append_assoc]
  have e0 : evE cf (.lc2 t it t2 it2 e own own2) ρ S = (evIt cf it ρ S).bind fun xs S1 => (loopC (fun ρ1 S2 => ((evIt cf it2 ρ1 S2).bind fun ys S3 => loopC (trnB cf e S1.length) t2 ys (wipeE ρ1 own2) (S3.take S2.length)).calm) t xs (wipeE ρ own) (S1 ++ [Ob.lst []])).bind fun _ S2 => .ok (.r S1.length) S2 := by
    simp only [evE]
    rfl
  rw [e0, hit, bind_ok, key as [] (fun _ h => h) (by simpa using hl), bind_ok, List.nil_append]
theorem wl_two {t : Tg} {it : It} {t2 : Tg} {it2 : It} {e : E} {own own2 : List Nat} {β : Type} {Q : Vl → Store → Prop} {X : XP} (enc : α → D) (as : List α) (enc2 : β → D) (bs : α → List β) (g : α → β → D) (hit : evIt cf it ρ S = .ok (as.map enc) S) (hl : (as.flatMap fun a => (bs a).map (g a)).length < BIG)
    (h : ∀ a ∈ as, ∃ ρ1, asg t (enc a) (wipeE ρ own) = some ρ1 ∧ (∀ ys, evIt cf it2 ρ1 (S ++ [Ob.lst ys]) = .ok ((bs a).map enc2) (S ++ [Ob.lst ys])) ∧ ∀ b ∈ bs a, ∃ ρ2, asg t2 (enc2 b) (wipeE ρ1 own2) = some ρ2 ∧ ∀ ys, ((evE cf e ρ2 (S ++ [Ob.lst ys])).bind fun v S4 => asData (S ++ [Ob.lst ys]).length v S4) = .ok (g a b) (S ++ [Ob.lst ys]))
    (hQ : Q (.r S.length) (S ++ [.lst (as.flatMap fun a => (bs a).map (g a))])) : WpLc2 cf t it t2 it2 e own own2 ρ S Q X := by
  rw [← wp_lc2E, e_lc2M enc as enc2 bs g hit hl h, wp_ok]
  exact hQ
/-- a comprehension whose turns change a part of the store (a box): an invariant -/
theorem wp_lcI {t : Tg} {it : It} {e : E} {own : List Nat} {Q : Vl → Store → Prop} {X : XP} (enc : α → D) (as : List α) (P : List α → Store → Prop) (hit : evIt cf it ρ S = .ok (as.map enc) S) (h0 : P [] (S ++ [Ob.lst []]))
    (h : ∀ done a rest, as = done ++ a :: rest → ∀ S', P done S' → ∃ ρ1, asg t (enc a) (wipeE ρ own) = some ρ1 ∧ Wp (evE cf e ρ1 S') (fun v S4 => Wp (asData S'.length v S4) (fun y S5 => Wp (push S.length y S5) (fun _ S6 => P (done ++ [a]) S6) noX) noX) noX)
    (hQ : ∀ S', P as S' → Q (.r S.length) S') : WpLc cf t it .none e own ρ S Q X := by
  rw [← wp_lcE]
  have key : ∀ (bs done : List α), as = done ++ bs → ∀ S', P done S' → Wp (loopC (lcB cf .none e S.length) t (bs.map enc) (wipeE ρ own) S') (fun _ S6 => P as S6) X := by
    intro bs
    induction bs with
    | nil =>
      intro done hd S' hP
      rw [List.append_nil] at hd
      subst hd
      exact hP
    | cons b bs ih =>
      intro done hd S' hP
      obtain ⟨ρ1, e1, h1⟩ := h done b bs hd S' hP
      rw [List.map_cons, loopC, e1]
      simp only
      rw [wp_bind]
      refine wp_imp (wp_lcB0 h1) fun _ S6 h6 => ih (done ++ [b]) (by simp [hd]) S6 h6
  rw [e_lc, hit, bind_ok, wp_bind]
  exact wp_imp (key as [] rfl _ h0) fun _ S6 h6 => hQ S6 h6
theorem wp_lcIF {t : Tg} {it : It} {f e : E} {own : List Nat} {Q : Vl → Store → Prop} {X : XP} (enc : α → D) (as : List α) (P : List α → Store → Prop) (hit : evIt cf it ρ S = .ok (as.map enc) S) (h0 : P [] (S ++ [Ob.lst []]))
    (h : ∀ done a rest, as = done ++ a :: rest → ∀ S', P done S' → ∃ ρ1, asg t (enc a) (wipeE ρ own) = some ρ1 ∧ Wp (evE cf f ρ1 S') (fun v S1 => Wp (asTruth S'.length v S1) (fun b S3 => if b = true then Wp (evE cf e ρ1 S3) (fun v S4 => Wp (asData S3.length v S4) (fun y S5 => Wp (push S.length y S5) (fun _ S6 => P (done ++ [a]) S6) noX) noX) noX else P (done ++ [a]) S3) noX) noX)
    (hQ : ∀ S', P as S' → Q (.r S.length) S') : WpLc cf t it (.some f) e own ρ S Q X := by
  rw [← wp_lcE]
  have key : ∀ (bs done : List α), as = done ++ bs → ∀ S', P done S' → Wp (loopC (lcB cf (.some f) e S.length) t (bs.map enc) (wipeE ρ own) S') (fun _ S6 => P as S6) X := by
    intro bs
    induction bs with
    | nil =>
      intro done hd S' hP
      rw [List.append_nil] at hd
      subst hd
      exact hP
    | cons b bs ih =>
      intro done hd S' hP
      obtain ⟨ρ1, e1, h1⟩ := h done b bs hd S' hP
      rw [List.map_cons, loopC, e1]
      simp only
      rw [wp_bind]
      refine wp_imp (wp_lcB1 h1) fun _ S6 h6 => ih (done ++ [b]) (by simp [hd]) S6 h6
  rw [e_lc, hit, bind_ok, wp_bind]
  exact wp_imp (key as [] rfl _ h0) fun _ S6 h6 => hQ S6 h6
theorem e_lcFS (Sx : Store) {t : Tg} {it : It} {f : Op} {e : E} {own : List Nat} (enc : α → D) (as : List α) (p : α → Bool) (g : α → D) (hit : evIt cf it ρ S = .ok (as.map enc) Sx) (hl : as.length < BIG)
    (h : ∀ a ∈ as, ∃ ρ1, asg t (enc a) (wipeE ρ own) = some ρ1 ∧ ∀ ys, evC cf f ρ1 (Sx ++ [Ob.lst ys]) = .ok (p a) (Sx ++ [Ob.lst ys]) ∧ (p a = true → ((evE cf e ρ1 (Sx ++ [Ob.lst ys])).bind fun v S4 => asData (Sx ++ [Ob.lst ys]).length v S4) = .ok (g a) (Sx ++ [Ob.lst ys]))) :
    evE cf (.lc t it f e own) ρ S = .ok (.r Sx.length) (Sx ++ [Ob.lst ((as.filter p).map g)]) := by
  rw [e_lc, hit, bind_ok, loopC_L enc p g as [] (by simpa using hl) h, bind_ok, List.nil_append]
theorem e_lcMS (Sx : Store) {t : Tg} {it : It} {e : E} {own : List Nat} (enc : α → D) (as : List α) (g : α → D) (hit : evIt cf it ρ S = .ok (as.map enc) Sx) (hl : as.length < BIG)
    (h : ∀ a ∈ as, ∃ ρ1, asg t (enc a) (wipeE ρ own) = some ρ1 ∧ ∀ ys, ((evE cf e ρ1 (Sx ++ [Ob.lst ys])).bind fun v S4 => asData (Sx ++ [Ob.lst ys]).length v S4) = .ok (g a) (Sx ++ [Ob.lst ys])) :
    evE cf (.lc t it .none e own) ρ S = .ok (.r Sx.length) (Sx ++ [Ob.lst (as.map g)]) := by
  rw [e_lcFS Sx enc as (fun _ => true) g hit hl fun a ha => ?_, List.filter_eq_self.mpr fun _ _ => rfl]
  obtain ⟨ρ1, e1, h1⟩ := h a ha
  exact ⟨ρ1, e1, fun ys => ⟨by rw [evC], fun _ => h1 ys⟩⟩
theorem wl_mapS (Sx : Store) {t : Tg} {it : It} {e : E} {own : List Nat} {Q : Vl → Store → Prop} {X : XP} (enc : α → D) (as : List α) (g : α → D) (hit : evIt cf it ρ S = .ok (as.map enc) Sx) (hl : as.length < BIG)
    (h : ∀ a ∈ as, ∃ ρ1, asg t (enc a) (wipeE ρ own) = some ρ1 ∧ ∀ ys, ((evE cf e ρ1 (Sx ++ [Ob.lst ys])).bind fun v S4 => asData (Sx ++ [Ob.lst ys]).length v S4) = .ok (g a) (Sx ++ [Ob.lst ys]))
    (hQ : Q (.r Sx.length) (Sx ++ [.lst (as.map g)])) : WpLc cf t it .none e own ρ S Q X := by
  rw [← wp_lcE, e_lcMS Sx enc as g hit hl h, wp_ok]
  exact hQ
theorem wl_filterS (Sx : Store) {t : Tg} {it : It} {f e : E} {own : List Nat} {Q : Vl → Store → Prop} {X : XP} (enc : α → D) (as : List α) (p : α → Bool) (g : α → D) (hit : evIt cf it ρ S = .ok (as.map enc) Sx) (hl : as.length < BIG)
    (h : ∀ a ∈ as, ∃ ρ1, asg t (enc a) (wipeE ρ own) = some ρ1 ∧ ∀ ys, ((evE cf f ρ1 (Sx ++ [Ob.lst ys])).bind fun v S1 => asTruth (Sx ++ [Ob.lst ys]).length v S1) = .ok (p a) (Sx ++ [Ob.lst ys]) ∧ (p a = true → ((evE cf e ρ1 (Sx ++ [Ob.lst ys])).bind fun v S4 => asData (Sx ++ [Ob.lst ys]).length v S4) = .ok (g a) (Sx ++ [Ob.lst ys])))
    (hQ : Q (.r Sx.length) (Sx ++ [.lst ((as.filter p).map g)])) : WpLc cf t it (.some f) e own ρ S Q X := by
  rw [← wp_lcE, e_lcFS Sx enc as p g hit hl ?_, wp_ok]
  · exact hQ
  · intro a ha
    obtain ⟨ρ1, e1, h1⟩ := h a ha
    refine ⟨ρ1, e1, fun ys => ⟨?_, (h1 ys).2⟩⟩
    rw [evC]
    exact (h1 ys).1
theorem wp_lcIS (Sx : Store) {t : Tg} {it : It} {e : E} {own : List Nat} {Q : Vl → Store → Prop} {X : XP} (enc : α → D) (as : List α) (P : List α → Store → Prop) (hit : evIt cf it ρ S = .ok (as.map enc) Sx) (h0 : P [] (Sx ++ [Ob.lst []]))
    (h : ∀ done a rest, as = done ++ a :: rest → ∀ S', P done S' → ∃ ρ1, asg t (enc a) (wipeE ρ own) = some ρ1 ∧ Wp (evE cf e ρ1 S') (fun v S4 => Wp (asData S'.length v S4) (fun y S5 => Wp (push Sx.length y S5) (fun _ S6 => P (done ++ [a]) S6) noX) noX) noX)
    (hQ : ∀ S', P as S' → Q (.r Sx.length) S') : WpLc cf t it .none e own ρ S Q X := by
  rw [← wp_lcE]
  have key : ∀ (bs done : List α), as = done ++ bs → ∀ S', P done S' → Wp (loopC (lcB cf .none e Sx.length) t (bs.map enc) (wipeE ρ own) S') (fun _ S6 => P as S6) X := by
    intro bs
    induction bs with
    | nil =>
      intro done hd S' hP
      rw [List.append_nil] at hd
      subst hd
      exact hP
    | cons b bs ih =>
      intro done hd S' hP
      obtain ⟨ρ1, e1, h1⟩ := h done b bs hd S' hP
      rw [List.map_cons, loopC, e1]
      simp only
      rw [wp_bind]
      refine wp_imp (wp_lcB0 h1) fun _ S6 h6 => ih (done ++ [b]) (by simp [hd]) S6 h6
  rw [e_lc, hit, bind_ok, wp_bind]
  exact wp_imp (key as [] rfl _ h0) fun _ S6 h6 => hQ S6 h6
theorem wp_lcIFS (Sx : Store) {t : Tg} {it : It} {f e : E} {own : List Nat} {Q : Vl → Store → Prop} {X : XP} (enc : α → D) (as : List α) (P : List α → Store → Prop) (hit : evIt cf it ρ S = .ok (as.map enc) Sx) (h0 : P [] (Sx ++ [Ob.lst []]))
    (h : ∀ done a rest, as = done ++ a :: rest → ∀ S', P done S' → ∃ ρ1, asg t (enc a) (wipeE ρ own) = some ρ1 ∧ Wp (evE cf f ρ1 S') (fun v S1 => Wp (asTruth S'.length v S1) (fun b S3 => if b = true then Wp (evE cf e ρ1 S3) (fun v S4 => Wp (asData S3.length v S4) (fun y S5 => Wp (push Sx.length y S5) (fun _ S6 => P (done ++ [a]) S6) noX) noX) noX else P (done ++ [a]) S3) noX) noX)
    (hQ : ∀ S', P as S' → Q (.r Sx.length) S') : WpLc cf t it (.some f) e own ρ S Q X := by
  rw [← wp_lcE]
  have key : ∀ (bs done : List α), as = done ++ bs → ∀ S', P done S' → Wp (loopC (lcB cf (.some f) e Sx.length) t (bs.map enc) (wipeE ρ own) S') (fun _ S6 => P as S6) X := by
    intro bs
    induction bs with
    | nil =>
      intro done hd S' hP
      rw [List.append_nil] at hd
      subst hd
      exact hP
    | cons b bs ih =>
      intro done hd S' hP
      obtain ⟨ρ1, e1, h1⟩ := h done b bs hd S' hP
      rw [List.map_cons, loopC, e1]
      simp only
      rw [wp_bind]
      refine wp_imp (wp_lcB1 h1) fun _ S6 h6 => ih (done ++ [b]) (by simp [hd]) S6 h6
  rw [e_lc, hit, bind_ok, wp_bind]
  exact wp_imp (key as [] rfl _ h0) fun _ S6 h6 => hQ S6 h6
/-! ### loops -/
theorem ws_forL {body : Env → Store → RS} {t : Tg} {N : Env → Store → Prop} {T : Vl → Store → Prop} {Y : Nat → List D → Env → Store → Prop} {B : Env → Store → Prop} (enc : α → D) (as : List α) (P : List α → Env → Store → Prop) (h0 : P [] ρ S)
    (h : ∀ done a rest, as = done ++ a :: rest → ∀ ρ S, P done ρ S → ∃ ρ1, asg t (enc a) ρ = some ρ1 ∧ Ws (body ρ1 S) (P (done ++ [a])) T N Y) (hN : ∀ ρ S, P as ρ S → N ρ S) : WsFor body t (as.map enc) ρ S N T B Y := by
  rw [← ws_forE]
  have key : ∀ (bs done : List α), as = done ++ bs → ∀ ρ S, P done ρ S → Ws (forGo body t (bs.map enc) ρ S) N T B Y := by
    intro bs
    induction bs with
    | nil =>
      intro done hd ρ S hP
      rw [List.append_nil] at hd
      subst hd
      exact hN ρ S hP
    | cons b bs ih =>
      intro done hd ρ S hP
      obtain ⟨ρ1, e1, h1⟩ := h done b bs hd ρ S hP
      rw [List.map_cons, forGo, e1]
      simp only
      have ih := ih (done ++ [b]) (by simp [hd])
      cases e : body ρ1 S with
      | nx ρ2 S2 =>
        rw [e] at h1
        exact ih ρ2 S2 h1
      | bk ρ2 S2 => rw [e] at h1; exact h1
      | rt v S2 => rw [e] at h1; exact h1
      | xc c p ρ2 S2 => rw [e] at h1; exact h1
      | bad => rw [e] at h1; exact h1
  exact key as [] rfl ρ S h0
theorem ws_whl {c : Env → Store → R Bool} {body : Env → Store → RS} {N : Env → Store → Prop} {T : Vl → Store → Prop} {Y : Nat → List D → Env → Store → Prop} {B : Env → Store → Prop} (P : Nat → Env → Store → Prop)
    (h : ∀ n ρ S, P n ρ S → Wp (c ρ S) (fun b S1 => if b = true then Ws (body ρ S1) (fun ρ' S' => ∃ m, m < n ∧ P m ρ' S') T N Y else N ρ S1) fun k p S => Y k p ρ S) : ∀ (fuel n : Nat) (ρ : Env) (S : Store), n < fuel → P n ρ S → Ws (whlGo c body fuel ρ S) N T B Y
  | 0, n, ρ, S, hf, _ => by omega
  | fuel + 1, n, ρ, S, hf, hP => by
    have h1 := h n ρ S hP
    rw [whlGo, ws_to]
    refine wp_imp h1 fun b S1 h2 => ?_
    cases b with
    | false => exact h2
    | true =>
      rw [if_pos rfl] at h2 ⊢
      cases e : body ρ S1 with
      | nx ρ2 S2 =>
        rw [e] at h2
        obtain ⟨m, hm, hP2⟩ := h2
        exact ws_whl P h fuel m ρ2 S2 (by omega) hP2
      | bk ρ2 S2 => rw [e] at h2; exact h2
      | rt v S2 => rw [e] at h2; exact h2
      | xc c p ρ2 S2 => rw [e] at h2; exact h2
      | bad => rw [e] at h2; exact h2
theorem ww_inv {c : Env → Store → R Bool} {body : Env → Store → RS} {N : Env → Store → Prop} {T : Vl → Store → Prop} {Y : Nat → List D → Env → Store → Prop} {B : Env → Store → Prop} (P : Nat → Env → Store → Prop) (n : Nat) (hn : n < FUEL) (h0 : P n ρ S)
    (h : ∀ n ρ S, P n ρ S → Wp (c ρ S) (fun b S1 => if b = true then Ws (body ρ S1) (fun ρ' S' => ∃ m, m < n ∧ P m ρ' S') T N Y else N ρ S1) fun k p S => Y k p ρ S) : WsWhl c body ρ S N T B Y := by
  rw [← ws_whlE]
  exact ws_whl P h FUEL n ρ S hn h0
end
/-! ### conditions -/
theorem ok_and (a b : Bool) (S : Store) : (if a = true then (R.ok (.d (.bl b)) S : R Vl) else .ok (.d (.bl false)) S) = .ok (.d (.bl (a && b))) S := by cases a <;> rfl
theorem ok_or (a b : Bool) (S : Store) : (if a = true then (R.ok (.d (.bl true)) S : R Vl) else .ok (.d (.bl b)) S) = .ok (.d (.bl (a || b))) S := by cases a <;> rfl
theorem ok_ite (a : Bool) (x y : D) (S : Store) : (if a = true then (R.ok (.d x) S : R Vl) else .ok (.d y) S) = .ok (.d (if a = true then x else y)) S := by cases a <;> rfl
end SW

-- NC
set_option Elab.async false
set_option linter.all false
set_option maxRecDepth 100000
set_option maxHeartbeats 4000000
set_option autoImplicit false
/-! NC: texts as lists of signs; dicts; more operators -/
namespace SW
open PySem
def sL (cs : List Nat) : Str := ⟨cs.toArray⟩
theorem mk_sL (cs : List Nat) : (⟨cs.toArray⟩ : Str) = sL cs := Eq.trans rfl rfl
theorem sL_len (cs : List Nat) : (sL cs).length = cs.length := by simp [sL, Str.length]
theorem sL_list (cs : List Nat) : (sL cs).cps.toList = cs := by simp [sL]
theorem sL_add (a b : List Nat) : sL a ++ sL b = sL (a ++ b) := by
  show (⟨(sL a).cps ++ (sL b).cps⟩ : Str) = _
  simp [sL]
theorem sL_inj {a b : List Nat} : sL a = sL b ↔ a = b := by
  constructor
  · intro h
    have := congrArg (fun s : Str => s.cps.toList) h
    simpa [sL_list] using this
  · rintro rfl
    rfl
theorem of_sL (s : Str) : ∃ cs, s = sL cs := ⟨s.cps.toList, by simp [sL]⟩
theorem sL_cut (a : List Nat) (lo hi : Option Int) : L2.cutS (sL a) lo hi = sL ((a.drop (HT.sIx a.length 0 lo)).take (HT.sIx a.length a.length hi - HT.sIx a.length 0 lo)) := by
  unfold L2.cutS
  rw [sL_len, sL_list]
  rfl
theorem sL_join : ∀ cs : List (List Nat), Txt.join (sL []) (cs.map sL) = sL cs.flatten := fun cs => by
  show Builtin.Str.glued (sL []) (cs.map sL) = _
  rw [StrLaws.glued_eq_join]
  induction cs with
  | nil => rfl
  | cons a r ih =>
    cases r with
    | nil =>
      show sL a = _
      simp
    | cons b r =>
      show sL a ++ sL [] ++ Str.join (sL []) ((b :: r).map sL) = _
      rw [ih, sL_add, sL_add]
      simp
theorem eqv_str (a b : List Nat) : PyData.eqv (.str (sL a)) (.str (sL b)) = (a == b) := by
  simp only [PyData.eqv]
  by_cases h : a = b
  · subst h; simp
  · have : ¬ sL a = sL b := fun e => h (sL_inj.mp e)
    rw [beq_eq_false_iff_ne.mpr this, beq_eq_false_iff_ne.mpr h]
/-- eight times -/
def rep8 {α : Type} (l : List α) : List α := (List.replicate 8 l).flatten
theorem rep8_len {α : Type} (l : List α) : (rep8 l).length = 8 * l.length := by
  unfold rep8
  simp
  omega
theorem rep8_map {α β : Type} (f : α → β) (l : List α) : rep8 (l.map f) = (rep8 l).map f := by
  unfold rep8
  rw [List.map_flatten, List.map_replicate]
theorem mem_rep8 {α : Type} {l : List α} {a : α} (h : a ∈ rep8 l) : a ∈ l := by
  unfold rep8 at h
  rw [List.mem_flatten] at h
  obtain ⟨m, hm, ha⟩ := h
  rw [(List.mem_replicate.mp hm).2] at ha
  exact ha
section
variable (S : Store) (a b : List Nat) (i j : Int) (xs ys : List D) (x y : D)
theorem isP_rep8 {x : D} {r : List D} (h : isPair x = false) : isP (rep8 (x :: r)) = false := by
  show (isPair x && _) = false
  rw [h]
  rfl
theorem nb_mult8 (h : xs ≠ []) (hl : xs.length ≤ 1000) (hp : isP (rep8 xs) = false) : kBin .mul (.d (.tup xs)) (.d (.int 8)) S = .ok (.d (.tup (rep8 xs))) S := by
  rw [kb_mult, if_pos ⟨h, by decide, by decide, hl, hp⟩]
  rfl
theorem nx_str : kIdx (.d (.str (sL a))) (.d (.int i)) S = if a.length ≤ BIG then (match L2.atI a i with
    | some c => .ok (.d (.str (sL [c]))) S
    | none => .bad) else .bad := by
  rw [kx_str, sL_len, sL_list]
  rfl
theorem nl_str : kBlt .len [.d (.str (sL a))] S = if a.length ≤ BIG then .ok (.d (.int a.length)) S else .bad := by
  rw [kl_str, sL_len]
theorem nb_adds : kBin .add (.d (.str (sL a))) (.d (.str (sL b))) S = if a.length + b.length ≤ BIG then .ok (.d (.str (sL (a ++ b)))) S else .bad := by
  rw [kb_adds, sL_len, sL_len, sL_add]
theorem ns_str (l h : Option Int) : kSlc (.d (.str (sL a))) l h S = if a.length ≤ BIG then .ok (.d (.str (sL ((a.drop (HT.sIx a.length 0 l)).take (HT.sIx a.length a.length h - HT.sIx a.length 0 l))))) S else .bad := by
  simp only [kSlc, rd, slcD, give_ite, An.give, sL_len, sL_cut]
theorem ns_tup (l h : Option Int) : kSlc (.d (.tup xs)) l h S = .ok (.d (.tup (cutL xs l h))) S := Eq.trans rfl rfl
theorem ns_lst (l h : Option Int) : kSlc (.d (.lst xs)) l h S = alloc (.lst (cutL xs l h)) S := Eq.trans rfl rfl
theorem ns_r (l h : Option Int) (n : Nat) (e : S[n]? = some (.lst xs)) : kSlc (.r n) l h S = alloc (.lst (cutL xs l h)) S := by
  simp only [kSlc, rd, e, Option.map, Ob.data, slcD, give, An.give]
theorem nt_str : kItems (.str (sL a)) S = .ok (a.map fun c => .str (sL [c])) S := by
  rw [it_str, sL_list]
  rfl
theorem nc_in1 (c : Nat) : kCmp .inn (.d (.str (sL [c]))) (.d (.str (sL a))) S = .ok (.d (.bl (decide (c ∈ a)))) S := by
  have := kc_in1 S c (sL a)
  rwa [sL_list] at this
theorem nc_nin1 (c : Nat) : kCmp .nin (.d (.str (sL [c]))) (.d (.str (sL a))) S = .ok (.d (.bl (!decide (c ∈ a)))) S := by
  have := kc_nin1 S c (sL a)
  rwa [sL_list] at this
theorem nb_muls : kBin .mul (.d (.str (sL a))) (.d (.int 8)) S = if a.length ≤ 16 then .ok (.d (.str (sL (rep8 a)))) S else .bad := by
  rw [kb_muls, sL_len]
  by_cases h : a.length ≤ 16
  · rw [if_pos h, if_pos ⟨by decide, by decide, h⟩]
    congr 3
    unfold Txt.mul sL rep8
    simp
    intro h0
    exact List.eq_nil_of_length_eq_zero (by simpa [Str.length] using h0)
  · rw [if_neg h, if_neg fun q => h q.2.2]
theorem get_nat {α : Type} (l : List α) (k : Nat) : L2.atI l (k : Int) = l[k]? := atI_nat l k
theorem get_m1 {α : Type} (l : List α) : L2.atI l (-1) = l.getLast? := by
  unfold L2.atI L2.ixN
  rw [if_neg (by decide)]
  cases l with
  | nil => rfl
  | cons a r =>
    have h1 : -((a :: r).length : Int) ≤ -1 := by simp; omega
    rw [if_pos h1]
    have h2 : (-1 + ((a :: r).length : Int)).toNat = r.length := by simp; omega
    rw [h2, List.getLast?_eq_getElem?]
    simp
end
theorem nj_join {α : Type} (S : Store) (n : Nat) (g : α → List Nat) (as : List α) (h : S[n]? = some (.lst (as.map fun a => .str (sL (g a))))) (hl : (as.map fun a => (g a).length).sum ≤ BIG) : kMth .join (.d (.str (sL []))) [.r n] S = .ok (.d (.str (sL (as.map g).flatten))) S := by
  have e : (as.map fun a => D.str (sL (g a))) = (as.map fun a => sL (g a)).map D.str := by
    rw [List.map_map]
    rfl
  rw [e] at h
  rw [kmth_join _ _ _ _ h]
  · have := sL_join (as.map g)
    rw [List.map_map] at this
    congr 3
  · have e2 : ((as.map fun a => sL (g a)).map (·.length)) = as.map fun a => (g a).length := by
      rw [List.map_map]
      refine List.map_congr_left fun a _ => ?_
      exact sL_len (g a)
    rw [e2, sL_len, List.length_nil, Nat.zero_mul]
    exact hl
theorem sum_ones {α : Type} (as : List α) : (as.map fun _ => 1).sum = as.length := by
  induction as with
  | nil => rfl
  | cons a r ih => simp [ih]; omega
theorem flat_ones (as : List Nat) : (as.map fun a => [a]).flatten = as := by
  induction as with
  | nil => rfl
  | cons a r ih => simp [ih]
theorem map_setR {α β : Type} (f : α → β) (l : List α) (i : Nat) (a : α) : (l.map f).set i (f a) = (l.set i a).map f := by
  rw [List.map_set]
theorem cutL_map {α : Type} (f : α → D) (l : List α) (lo hi : Option Int) : cutL (l.map f) lo hi = ((l.drop (HT.sIx l.length 0 lo)).take (HT.sIx l.length l.length hi - HT.sIx l.length 0 lo)).map f := by
  unfold cutL
  rw [List.length_map, List.map_take, List.map_drop]
theorem filt1_t {α : Type} {p : α → Bool} {a : α} (h : p a = true) : [a].filter p = [a] := by
  rw [List.filter_cons_of_pos h]
  rfl
theorem filt1_f {α : Type} {p : α → Bool} {a : α} (h : p a = false) : [a].filter p = [] := by
  rw [List.filter_cons_of_neg (by rw [h]; decide)]
  rfl
/-! ### what is read through a reference -/
section
variable (S : Store) (n m : Nat) (y : Vl) (w : D)
theorem rr_kD : kD (.r n) S = match S[n]? with
    | some ob => .ok ob.data (S.set n (.frz ob.data))
    | none => .bad := by
  simp only [kD, toD]
  cases S[n]? <;> rfl
theorem rr_asData : asData m (.r n) S = match S[n]? with
    | some ob => .ok ob.data ((S.set n (.frz ob.data)).take m)
    | none => .bad := by
  simp only [asData, toD]
  cases S[n]? <;> rfl
theorem rr_blt (b : Blt) : kBlt b [.r n] S = match S[n]? with
    | some ob => kBlt b [.d ob.data] S
    | none => .bad := by
  simp only [kBlt, rds, rd]
  cases S[n]? <;> rfl
theorem rr_idx : kIdx (.r n) y S = match S[n]? with
    | some ob => kIdx (.d ob.data) y S
    | none => .bad := by
  simp only [kIdx, rd]
  cases S[n]? <;> rfl
theorem rr_slc (l h : Option Int) : kSlc (.r n) l h S = match S[n]? with
    | some ob => kSlc (.d ob.data) l h S
    | none => .bad := by
  simp only [kSlc, rd]
  cases S[n]? <;> rfl
theorem rr_rev : kRev (.r n) S = match S[n]? with
    | some ob => kRev (.d ob.data) S
    | none => .bad := by
  simp only [kRev, rd]
  cases S[n]? <;> rfl
theorem rr_cmp (o : Cop) : kCmp o (.d w) (.r n) S = match S[n]? with
    | some ob => kCmp o (.d w) (.d ob.data) S
    | none => .bad := by
  simp only [kCmp, rd]
  cases S[n]? <;> rfl
theorem rr_bin1 (o : Bop) : kBin o (.r n) y S = match S[n]? with
    | some ob => kBin o (.d ob.data) y S
    | none => .bad := by
  simp only [kBin, rd]
  cases S[n]? <;> rfl
theorem rr_bin2 (o : Bop) : kBin o (.d w) (.r n) S = match S[n]? with
    | some ob => kBin o (.d w) (.d ob.data) S
    | none => .bad := by
  simp only [kBin, rd]
  cases S[n]? <;> rfl
theorem rr_isL : kIsL (.r n) S = match S[n]? with
    | some (.lst _) => .ok n S
    | _ => .bad := Eq.trans rfl rfl
theorem rr_push (x : D) : push n x S = match S[n]? with
    | some (.lst ys) => if ys.length < BIG then .ok () (S.set n (.lst (ys ++ [x]))) else .bad
    | _ => .bad := Eq.trans rfl rfl
theorem rr_joinA (a : Str) : kMth .join (.d (.str a)) [.r n] S = match S[n]? with
    | some ob => kMth .join (.d (.str a)) [.d ob.data] S
    | none => .bad := by
  simp only [kMth, reduceCtorEq, if_false, rds, rd]
  cases S[n]? <;> rfl
theorem rr_getP : kPre .get (.r n) S = match S[n]? with
    | some ob => match ob.data with
      | .dct _ => .ok (.r n) S
      | _ => .bad
    | none => .bad := by
  simp only [kPre, rd]
  cases e : S[n]? with
  | none => rfl
  | some ob => cases q : ob.data <;> simp [q]
theorem rr_get (vs : List Vl) : kMth .get (.r n) vs S = match S[n]? with
    | some ob => kMth .get (.d ob.data) vs S
    | none => .bad := by
  simp only [kMth, if_true, rd]
  cases S[n]? <;> rfl
theorem cellsOf_map : ∀ cs : List Cell, cellsOf (cs.map cellD) = some cs
  | [] => rfl
  | c :: cs => by
    rw [List.map_cons, cellsOf, cellsOf_map cs]
    rfl
theorem nsort_d (cs : List Cell) : kBlt .sorted [.d (.lst (cs.map cellD))] S = alloc (.lst ((sortBy cellLe cs).map cellD)) S := by
  simp only [kBlt, rds, rd, bltD, cellsOf_map, Option.map, give, An.give]
theorem rev_lst (xs : List D) : kRev (.d (.lst xs)) S = alloc (.lst xs.reverse) S := Eq.trans rfl rfl
end
/-! ### shapes of data -/
def intD (z : Int) : D := .int z
def optD : Option Int → D
  | none => .non
  | some z => .int z
def rowD (cs : List Nat) : D := .str (sL cs)
abbrev Rows := List (List Nat)
/-- a chart, as data -/
def chD (rows : Rows) (src : List Cell) : D := .obj 0 [(0, .tup (rows.map rowD)), (1, .tup (src.map cellD))]
section
variable (S : Store) (rows : Rows) (src : List Cell)
theorem f0_ch : kFld 0 (.d (chD rows src)) S = .ok (.d (.tup (rows.map rowD))) S := Eq.trans rfl rfl
theorem f1_ch : kFld 1 (.d (chD rows src)) S = .ok (.d (.tup (src.map cellD))) S := Eq.trans rfl rfl
end
/-! ### equality of data -/
theorem sh_int (i : Int) : SeqAt.shaped (.int i) = true := Eq.trans rfl rfl
theorem sh_cell (c : Cell) : SeqAt.shaped (.tuple [.int c.1, .int c.2]) = true := Eq.trans rfl rfl
theorem sh_str (cs : List Nat) (h : ∀ c ∈ cs, c < 1114112) : SeqAt.shaped (.str (sL cs)) = true := by
  have e : PyData.strOk (sL cs) = true := by
    unfold PyData.strOk sL
    simp
    exact h
  simp [SeqAt.shaped, PyData.canLay0, PyData.depth, e]
theorem nc_eqs (S : Store) (a b : List Nat) (ha : ∀ c ∈ a, c < 1114112) (hb : ∀ c ∈ b, c < 1114112) : kCmp .eq (.d (.str (sL a))) (.d (.str (sL b))) S = .ok (.d (.bl (a == b))) S := by
  simp only [kCmp, rd, cmpD, eqD, toPy, sh_str a ha, sh_str b hb, Bool.and_self, if_true, eqv_str]
theorem nc_nes (S : Store) (a b : List Nat) (ha : ∀ c ∈ a, c < 1114112) (hb : ∀ c ∈ b, c < 1114112) : kCmp .ne (.d (.str (sL a))) (.d (.str (sL b))) S = .ok (.d (.bl (!(a == b)))) S := by
  simp only [kCmp, rd, cmpD, eqD, toPy, sh_str a ha, sh_str b hb, Bool.and_self, if_true, eqv_str, Option.map]
theorem eq_cell (a b : Cell) : PyData.eqv (.tuple [.int a.1, .int a.2]) (.tuple [.int b.1, .int b.2]) = decide (a = b) := by
  simp only [PyData.eqv, PyData.eqvAll, Bool.and_true]
  by_cases h : a = b
  · subst h; simp
  · rw [decide_eq_false h]
    by_cases h1 : a.1 = b.1
    · have h2 : ¬ a.2 = b.2 := fun e => h (Prod.ext h1 e)
      simp [h2]
    · simp [h1]
theorem py_cell (c : Cell) : toPy (cellD c) = some (.tuple [.int c.1, .int c.2]) := Eq.trans rfl rfl
theorem py_cells : ∀ cs : List Cell, toPys (cs.map cellD) = some (cs.map fun c => .tuple [.int c.1, .int c.2])
  | [] => rfl
  | c :: cs => by
    rw [List.map_cons, toPys, py_cell, py_cells cs]
    rfl
theorem eqD_cell (a b : Cell) : eqD (cellD a) (cellD b) = some (decide (a = b)) := by
  unfold eqD
  simp only [py_cell, sh_cell, Bool.and_self, if_true, eq_cell]
theorem eqD_int (a b : Int) : eqD (.int a) (.int b) = some (a == b) := rfl
theorem eqD_opt (a b : Option Int) : eqD (optD a) (optD b) = some (decide (a = b)) := by
  cases a <;> cases b <;> simp [eqD, optD, toPy, PyData.eqv, SeqAt.shaped, PyData.canLay0, PyData.depth]
  rename_i x y
  by_cases h : x = y <;> simp [h]
theorem lay_cells : ∀ cs : List Cell, PyData.canLayAll0 (cs.map fun c => .tuple [.int c.1, .int c.2]) = true
  | [] => rfl
  | c :: cs => by
    rw [List.map_cons, PyData.canLayAll0, lay_cells cs]
    rfl
theorem dep_cells (cs : List Cell) : PyData.depth (.tuple (cs.map fun c => .tuple [.int c.1, .int c.2])) ≤ 64 ∧ PyData.depth (.list (cs.map fun c => .tuple [.int c.1, .int c.2])) ≤ 64 := by
  have h : ∀ cs : List Cell, PyData.depthAll (cs.map fun c => .tuple [.int c.1, .int c.2]) ≤ 2 := fun cs => by
    induction cs with
    | nil => exact Nat.zero_le _
    | cons c r ih =>
      rw [List.map_cons]
      simp only [PyData.depthAll, PyData.depth] at ih ⊢
      omega
  have := h cs
  simp only [PyData.depth]
  omega
theorem inD_cell (c : Cell) (cs : List Cell) : inD (cellD c) (cs.map cellD) = some (decide (c ∈ cs)) := by
  unfold inD
  simp only [py_cell, py_cells, sh_cell]
  have h1 : SeqAt.shaped (.list (cs.map fun c => .tuple [.int c.1, .int c.2])) = true := by
    simp only [SeqAt.shaped, PyData.canLay0, lay_cells, Bool.true_and, decide_eq_true_eq]
    exact (dep_cells cs).2
  have h2 : SeqAt.shaped (.tuple (cs.map fun c => .tuple [.int c.1, .int c.2])) = true := by
    simp only [SeqAt.shaped, PyData.canLay0, lay_cells, Bool.true_and, decide_eq_true_eq]
    exact (dep_cells cs).1
  rw [h1, h2]
  simp only [Bool.and_self, if_true]
  rw [List.any_map]
  congr 1
  have e : ((fun z => PyData.eqv z (.tuple [.int c.1, .int c.2])) ∘ fun c : Cell => PyData.tuple [.int c.1, .int c.2]) = fun z => decide (z = c) := by
    funext z
    exact eq_cell z c
  rw [e]
  by_cases h : c ∈ cs
  · rw [decide_eq_true h, List.any_eq_true]
    exact ⟨c, h, by simp⟩
  · rw [decide_eq_false h, List.any_eq_false]
    intro z hz
    simp only [decide_eq_true_eq]
    rintro rfl
    exact h hz
section
variable (S : Store) (a b c d : Int) (cs : List Cell)
theorem nc_eqc : kCmp .eq (.d (.tup [.int a, .int b])) (.d (.tup [.int c, .int d])) S = .ok (.d (.bl (decide ((a, b) = (c, d))))) S := by
  show (match eqD (cellD (a, b)) (cellD (c, d)) with
    | some k => R.ok (Vl.d (.bl k)) S
    | none => .bad) = _
  rw [eqD_cell]
theorem nc_nec : kCmp .ne (.d (.tup [.int a, .int b])) (.d (.tup [.int c, .int d])) S = .ok (.d (.bl (!decide ((a, b) = (c, d))))) S := by
  show (match (eqD (cellD (a, b)) (cellD (c, d))).map (!·) with
    | some k => R.ok (Vl.d (.bl k)) S
    | none => .bad) = _
  rw [eqD_cell]
  rfl
theorem nc_inct : kCmp .inn (.d (.tup [.int a, .int b])) (.d (.tup (cs.map cellD))) S = .ok (.d (.bl (decide ((a, b) ∈ cs)))) S := by
  show (match inD (cellD (a, b)) (cs.map cellD) with
    | some k => R.ok (Vl.d (.bl k)) S
    | none => .bad) = _
  rw [inD_cell]
theorem nc_nict : kCmp .nin (.d (.tup [.int a, .int b])) (.d (.tup (cs.map cellD))) S = .ok (.d (.bl (!decide ((a, b) ∈ cs)))) S := by
  show (match (inD (cellD (a, b)) (cs.map cellD)).map (!·) with
    | some k => R.ok (Vl.d (.bl k)) S
    | none => .bad) = _
  rw [inD_cell]
  rfl
theorem nc_ltc : kCmp .lt (.d (.tup [.int a, .int b])) (.d (.tup [.int c, .int d])) S = .ok (.d (.bl (cellLt (a, b) (c, d)))) S := Eq.trans rfl rfl
theorem nc_gec : kCmp .ge (.d (.tup [.int a, .int b])) (.d (.tup [.int c, .int d])) S = .ok (.d (.bl (!cellLt (a, b) (c, d)))) S := Eq.trans rfl rfl
theorem nc_incl : kCmp .inn (.d (.tup [.int a, .int b])) (.d (.lst (cs.map cellD))) S = .ok (.d (.bl (decide ((a, b) ∈ cs)))) S := by
  show (match inD (cellD (a, b)) (cs.map cellD) with
    | some k => R.ok (Vl.d (.bl k)) S
    | none => .bad) = _
  rw [inD_cell]
theorem nc_inr (n : Nat) (h : S[n]? = some (.lst (cs.map cellD))) : kCmp .inn (.d (.tup [.int a, .int b])) (.r n) S = .ok (.d (.bl (decide ((a, b) ∈ cs)))) S := by
  simp only [kCmp, rd, h, Option.map, Ob.data, cmpD, isInD]
  have := inD_cell (a, b) cs
  simp only [cellD] at this
  rw [this]
end
/-! ### dicts with cells as keys -/
def gook {β : Type} (m : List (Cell × β)) (k : Cell) : Option β := (m.find? fun kv => decide (kv.1 = k)).map (·.2)
def gput {β : Type} (m : List (Cell × β)) (k : Cell) (v : β) : List (Cell × β) :=
  if (m.any fun kv => decide (kv.1 = k)) = true then m.map (fun kv => if kv.1 = k then (kv.1, v) else kv) else m ++ [(k, v)]
def encM {β : Type} (f : β → D) (m : List (Cell × β)) : List (Cell × D) := m.map fun kv => (kv.1, f kv.2)
section
variable {β : Type} (f : β → D) (m : List (Cell × β)) (k : Cell) (v : β)
theorem look_enc : look (encM f m) k = (gook m k).map f := by
  unfold look gook encM
  induction m with
  | nil => rfl
  | cons a r ih =>
    rw [List.map_cons]
    by_cases h : a.1 = k
    · rw [List.find?_cons_of_pos (by simp [h]), List.find?_cons_of_pos (by simp [h])]
      rfl
    · rw [List.find?_cons_of_neg (by simp [h]), List.find?_cons_of_neg (by simp [h])]
      exact ih
theorem put_enc : put (encM f m) k (f v) = encM f (gput m k v) := by
  have e : ((encM f m).any fun kv => decide (kv.1 = k)) = (m.any fun kv => decide (kv.1 = k)) := by
    unfold encM
    rw [List.any_map]
    rfl
  unfold put gput
  rw [e]
  by_cases h : (m.any fun kv => decide (kv.1 = k)) = true
  · rw [if_pos h, if_pos h]
    unfold encM
    rw [List.map_map, List.map_map]
    refine List.map_congr_left fun a _ => ?_
    by_cases q : a.1 = k <;> simp [q]
  · rw [if_neg h, if_neg h]
    unfold encM
    simp
theorem gook_put (m : List (Cell × β)) (k j : Cell) (v : β) : gook (gput m k v) j = if j = k then some v else gook m j := by
  unfold gook gput
  by_cases h : (m.any fun kv => decide (kv.1 = k)) = true
  · rw [if_pos h]
    have hk : ∃ a ∈ m, a.1 = k := by simpa using List.any_eq_true.mp h
    clear h
    induction m with
    | nil => obtain ⟨a, ha, _⟩ := hk; cases ha
    | cons a r ih =>
      rw [List.map_cons]
      by_cases ha : a.1 = k
      · rw [if_pos ha]
        by_cases hj : j = k
        · rw [if_pos hj, List.find?_cons_of_pos (by simp [ha, hj])]
          rfl
        · rw [if_neg hj, List.find?_cons_of_neg (by simp only [ha, decide_eq_true_eq]; exact fun e => hj e.symm), List.find?_cons_of_neg (by simp only [ha, decide_eq_true_eq]; exact fun e => hj e.symm)]
          congr 1
          clear ih hk
          induction r with
          | nil => rfl
          | cons b r ih =>
            rw [List.map_cons]
            by_cases hb : b.1 = j
            · have hb2 : ¬ b.1 = k := fun e => hj (hb.symm.trans e)
              rw [if_neg hb2, List.find?_cons_of_pos (by simp [hb]), List.find?_cons_of_pos (by simp [hb])]
            · by_cases hb2 : b.1 = k
              · rw [if_pos hb2, List.find?_cons_of_neg (by simp [hb]), List.find?_cons_of_neg (by simp [hb])]
                exact ih
              · rw [if_neg hb2, List.find?_cons_of_neg (by simp [hb]), List.find?_cons_of_neg (by simp [hb])]
                exact ih
      · rw [if_neg ha]
        have hk2 : ∃ b ∈ r, b.1 = k := by
          obtain ⟨b, hb, e⟩ := hk
          rcases List.mem_cons.mp hb with q | q
          · exact absurd (q ▸ e) ha
          · exact ⟨b, q, e⟩
        by_cases hj : a.1 = j
        · have : ¬ j = k := fun e => ha (hj.trans e)
          rw [if_neg this, List.find?_cons_of_pos (by simp [hj]), List.find?_cons_of_pos (by simp [hj])]
        · rw [List.find?_cons_of_neg (by simp [hj]), List.find?_cons_of_neg (by simp [hj])]
          exact ih hk2
  · rw [if_neg h, List.find?_append]
    by_cases hj : j = k
    · subst hj
      have : (m.find? fun kv => decide (kv.1 = j)) = none := by
        rw [List.find?_eq_none]
        intro a ha e
        exact h (List.any_eq_true.mpr ⟨a, ha, e⟩)
      rw [this, if_pos rfl]
      simp
    · rw [if_neg hj]
      have : ([(k, v)].find? fun kv => decide (kv.1 = j)) = none := by
        rw [List.find?_cons_of_neg (by simp only [decide_eq_true_eq]; exact fun e => hj e.symm)]
        rfl
      rw [this]
      simp
theorem gput_keys (m : List (Cell × β)) (k : Cell) (v : β) : (gput m k v).map (·.1) = if k ∈ m.map (·.1) then m.map (·.1) else m.map (·.1) ++ [k] := by
  unfold gput
  have e : (m.any fun kv => decide (kv.1 = k)) = true ↔ k ∈ m.map (·.1) := by
    rw [List.any_eq_true, List.mem_map]
    simp
  by_cases h : (m.any fun kv => decide (kv.1 = k)) = true
  · rw [if_pos h, if_pos (e.mp h), List.map_map]
    refine List.map_congr_left fun a _ => ?_
    by_cases q : a.1 = k <;> simp [q]
  · rw [if_neg h, if_neg (fun q => h (e.mpr q))]
    simp
theorem gput_nodup {m : List (Cell × β)} (h : (m.map (·.1)).Nodup) (k : Cell) (v : β) : ((gput m k v).map (·.1)).Nodup := by
  rw [gput_keys]
  by_cases q : k ∈ m.map (·.1)
  · rw [if_pos q]; exact h
  · rw [if_neg q, List.nodup_append]
    refine ⟨h, by simp, ?_⟩
    intro a ha b hb e
    rw [List.mem_singleton] at hb
    subst hb
    subst e
    exact q ha
theorem gook_isSome (m : List (Cell × β)) (k : Cell) : (gook m k).isSome = true ↔ k ∈ m.map (·.1) := by
  unfold gook
  rw [Option.isSome_map, List.find?_isSome, List.mem_map]
  simp
theorem gook_mem {m : List (Cell × β)} {k : Cell} {v : β} (h : gook m k = some v) : (k, v) ∈ m := by
  unfold gook at h
  cases e : m.find? fun kv => decide (kv.1 = k) with
  | none => rw [e] at h; cases h
  | some a =>
    rw [e] at h
    have h1 := List.mem_of_find?_eq_some e
    have h2 := List.find?_some e
    simp only [decide_eq_true_eq] at h2
    have h3 : a.2 = v := by simpa using h
    have : a = (k, v) := Prod.ext h2 h3
    exact this ▸ h1
theorem gook_of_mem {m : List (Cell × β)} (hn : (m.map (·.1)).Nodup) {k : Cell} {v : β} (h : (k, v) ∈ m) : gook m k = some v := by
  unfold gook
  induction m with
  | nil => cases h
  | cons a r ih =>
    rw [List.map_cons, List.nodup_cons] at hn
    rcases List.mem_cons.mp h with q | q
    · subst q
      rw [List.find?_cons_of_pos (by simp)]
      rfl
    · have : ¬ a.1 = k := fun e => hn.1 (List.mem_map.mpr ⟨(k, v), q, e.symm⟩)
      rw [List.find?_cons_of_neg (by simp [this])]
      exact ih hn.2 q
end
section
variable {β : Type} (f : β → D) (m : List (Cell × β)) (S : Store) (n : Nat) (a b : Int) (v : β)
theorem dx_r (h : S[n]? = some (.dct (encM f m))) : kIdx (.r n) (.d (.tup [.int a, .int b])) S = match gook m (a, b) with
    | some z => .ok (.d (f z)) S
    | none => .bad := by
  simp only [kIdx, rd, h, Option.map, Ob.data, idxD, cellOf, look_enc]
  cases gook m (a, b) <;> rfl
theorem dx_d : kIdx (.d (.dct (encM f m))) (.d (.tup [.int a, .int b])) S = match gook m (a, b) with
    | some z => .ok (.d (f z)) S
    | none => .bad := by
  simp only [kIdx, rd, idxD, cellOf, look_enc]
  cases gook m (a, b) <;> rfl
theorem dn_r (h : S[n]? = some (.dct (encM f m))) : kCmp .inn (.d (.tup [.int a, .int b])) (.r n) S = .ok (.d (.bl (gook m (a, b)).isSome)) S := by
  simp only [kCmp, rd, h, Option.map, Ob.data, cmpD, isInD, cellOf, look_enc, Option.isSome_map]
  cases gook m (a, b) <;> rfl
theorem dn_d : kCmp .inn (.d (.tup [.int a, .int b])) (.d (.dct (encM f m))) S = .ok (.d (.bl (gook m (a, b)).isSome)) S := by
  simp only [kCmp, rd, cmpD, isInD, cellOf, look_enc]
  cases gook m (a, b) <;> rfl
theorem dnn_r (h : S[n]? = some (.dct (encM f m))) : kCmp .nin (.d (.tup [.int a, .int b])) (.r n) S = .ok (.d (.bl (!(gook m (a, b)).isSome))) S := by
  simp only [kCmp, rd, h, Option.map, Ob.data, cmpD, isInD, cellOf, look_enc]
  cases gook m (a, b) <;> rfl
theorem dnn_d : kCmp .nin (.d (.tup [.int a, .int b])) (.d (.dct (encM f m))) S = .ok (.d (.bl (!(gook m (a, b)).isSome))) S := by
  simp only [kCmp, rd, cmpD, isInD, cellOf, look_enc]
  cases gook m (a, b) <;> rfl
theorem ds_r (h : S[n]? = some (.dct (encM f m))) (hl : m.length < BIG) : kSet (.r n) (.d (.tup [.int a, .int b])) (f v) S = .ok () (S.set n (.dct (encM f (gput m (a, b) v)))) := by
  have e : (encM f m).length < BIG := by simpa [encM] using hl
  simp only [kSet, setItem, h, cellOf, if_pos e, put_enc]
theorem dg_pre_r (h : S[n]? = some (.dct (encM f m))) : kPre .get (.r n) S = .ok (.r n) S := by
  simp only [kPre, rd, h, Option.map, Ob.data]
theorem dg_pre_d : kPre .get (.d (.dct (encM f m))) S = .ok (.d (.dct (encM f m))) S := Eq.trans rfl rfl
theorem dg1_r (h : S[n]? = some (.dct (encM f m))) : kMth .get (.r n) [.d (.tup [.int a, .int b])] S = .ok (.d (((gook m (a, b)).map f).getD .non)) S := by
  simp only [kMth, rd, h, Option.map, Ob.data, if_true, rdd, mthD, cellOf, look_enc]
  cases gook m (a, b) <;> rfl
theorem dg1_d : kMth .get (.d (.dct (encM f m))) [.d (.tup [.int a, .int b])] S = .ok (.d (((gook m (a, b)).map f).getD .non)) S := by
  simp only [kMth, rd, if_true, rdd, Option.map, mthD, cellOf, look_enc]
  cases gook m (a, b) <;> rfl
theorem dg2_r (x : D) (h : S[n]? = some (.dct (encM f m))) : kMth .get (.r n) [.d (.tup [.int a, .int b]), .d x] S = .ok (.d (((gook m (a, b)).map f).getD x)) S := by
  simp only [kMth, rd, h, Option.map, Ob.data, if_true, rdd, mthD, cellOf, look_enc]
  cases gook m (a, b) <;> rfl
theorem dg2_d (x : D) : kMth .get (.d (.dct (encM f m))) [.d (.tup [.int a, .int b]), .d x] S = .ok (.d (((gook m (a, b)).map f).getD x)) S := by
  simp only [kMth, rd, if_true, rdd, Option.map, mthD, cellOf, look_enc]
  cases gook m (a, b) <;> rfl
end
/-! ### objects, errors -/
section
variable {cf : CF} {ρ : Env} {S : Store} {N : Env → Store → Prop} {W : Vl → Store → Prop} {B : Env → Store → Prop} {Y : Nat → List D → Env → Store → Prop}
theorem e_mk (c f : Nat) (as : Es) : evE cf (.mk c f as) ρ S = (evEs cf as ρ S).bind fun vs S1 => (cf f (.r S1.length :: vs) (S1 ++ [.ins c []])).bind (kMk c S1.length) := by simp only [evE]
theorem e_callv (i : Nat) (as : Es) : evE cf (.callv i as) ρ S = match ρ[i]? with
    | some (some (.d (.fn f))) => (evEs cf as ρ S).bind (cf f)
    | _ => .bad := by
  simp only [evE]
  all_goals rfl
theorem e_dct1 (a b : E) : evE cf (.dct1 a b) ρ S = (evE cf a ρ S).bind fun x S1 => (evE cf b ρ S1).bind (kDct x) := by simp only [evE]
theorem kmk_0 {n : Nat} {fs : List (Nat × D)} (h : S[n]? = some (.ins 0 fs)) : kMk 0 n (.d .non) S = .ok (.d (.obj 0 fs)) (S.set n (.frz (.obj 0 fs))) := by
  simp only [kMk, h]
  rfl
theorem ws_suite (f : Env → Env) (r : RS) : Ws (suiteEnd f r) N W B Y = Ws r (fun ρ S => N (wipeX (f ρ)) S) (fun v S => match v with
    | .x _ _ => False
    | v => W v S) (fun ρ S => B (wipeX (f ρ)) S) (fun _ _ _ _ => False) := by
  cases r with
  | nx ρ S => rfl
  | bk ρ S => rfl
  | rt v S => cases v <;> rfl
  | xc c p ρ S => rfl
  | bad => rfl
theorem t_try1 (b : Ts) (c i : Nat) (h : Ts) : Ws (evT cf (.tryy b c (some i) h) ρ S) N W B Y = Cont cf b N W B (fun c' p ρ1 S1 => if excSub c' c = true then Cont cf h (fun ρ S => N (wipeX (ρ.set i none)) S) (fun v S => match v with
    | .x _ _ => False
    | v => W v S) (fun ρ S => B (wipeX (ρ.set i none)) S) (fun _ _ _ _ => False) (ρ1.set i (some (.x c' p))) S1 else Y c' p ρ1 S1) ρ S := by
  unfold Cont
  simp only [evT]
  cases e : evTs cf b ρ S with
  | nx ρ S => rfl
  | bk ρ S => rfl
  | rt v S => rfl
  | bad => rfl
  | xc c' p ρ1 S1 =>
    simp only [ws_xc]
    by_cases q : excSub c' c = true
    · rw [if_pos q, if_pos q]
      exact ws_suite (fun ρ => ρ.set i none) _
    · rw [if_neg q, if_neg q]
      rfl
theorem t_try0 (b : Ts) (c : Nat) (h : Ts) : Ws (evT cf (.tryy b c none h) ρ S) N W B Y = Cont cf b N W B (fun c' p ρ1 S1 => if excSub c' c = true then Cont cf h (fun ρ S => N (wipeX ρ) S) (fun v S => match v with
    | .x _ _ => False
    | v => W v S) (fun ρ S => B (wipeX ρ) S) (fun _ _ _ _ => False) ρ1 S1 else Y c' p ρ1 S1) ρ S := by
  unfold Cont
  simp only [evT]
  cases e : evTs cf b ρ S with
  | nx ρ S => rfl
  | bk ρ S => rfl
  | rt v S => rfl
  | bad => rfl
  | xc c' p ρ1 S1 =>
    simp only [ws_xc]
    by_cases q : excSub c' c = true
    · rw [if_pos q, if_pos q]
      exact ws_suite id _
    · rw [if_neg q, if_neg q]
      rfl
theorem isi_x (c k : Nat) : kIsi (.cls k) (.x c []) S = .ok (.d (.bl (excSub c k))) S := Eq.trans rfl rfl
end
/-! ### what is equal to itself by the laws' measure -/
theorem pl_rows (rows : Rows) (hl : rows.length < 1000) (h : ∀ r ∈ rows, ∀ c ∈ r, c < 1114112) : plD 2 (.tup (rows.map rowD)) = true := by
  show (decide ((rows.map rowD).length < 1000) && (rows.map rowD).all (plD 1)) = true
  rw [decide_eq_true (by rw [List.length_map]; exact hl), List.all_map, Bool.true_and, List.all_eq_true]
  intro r hr
  exact sh_str r (h r hr)
theorem pl_cells (cs : List Cell) (hl : cs.length < 1000) : plD 2 (.tup (cs.map cellD)) = true := by
  show (decide ((cs.map cellD).length < 1000) && (cs.map cellD).all (plD 1)) = true
  rw [decide_eq_true (by rw [List.length_map]; exact hl), List.all_map, Bool.true_and, List.all_eq_true]
  intro c hc
  rfl
theorem holds_wp {tbl : Nat → Option Fn} {dep f : Nat} {ns : List Int} (h : Wp (callF tbl dep f [.d (.scr ns)] []) (fun v _ => v = .d (.bl true)) noX) : ∃ St, callF tbl dep f [.d (.scr ns)] [] = .ok (.d (.bl true)) St := by
  cases e : callF tbl dep f [.d (.scr ns)] [] with
  | ok v S =>
    rw [e] at h
    have h : v = .d (.bl true) := h
    exact ⟨S, by rw [h]⟩
  | exc c p S => rw [e] at h; exact h.elim
  | bad => rw [e] at h; exact h.elim
theorem n_dct1 (S : Store) (a b z : Int) : kDct (.d (.tup [.int a, .int b])) (.d (.int z)) S = .ok (.r S.length) (S ++ [.dct (encM D.int [((a, b), z)])]) := Eq.trans rfl rfl
theorem nlist_d {β : Type} (f : β → D) (m : List (Cell × β)) (S : Store) : kBlt .list [.d (.dct (encM f m))] S = .ok (.r S.length) (S ++ [.lst ((m.map (·.1)).map cellD)]) := by
  simp only [kBlt, rds, rd, bltD, give, An.give, SW.alloc]
  congr 4
  unfold encM
  rw [List.map_map, List.map_map]
  rfl
theorem opt_int (o : Option Int) : (o.map D.int).getD .non = optD o := by cases o <;> rfl
theorem opt_opt (o : Option (Option Int)) : (o.map optD).getD .non = optD (o.bind id) := by
  cases o with
  | none => rfl
  | some o => cases o <;> rfl
/-! ### dict(tuple of pairs) -/
theorem pairsOf_map {β : Type} (f : β → D) : ∀ m : List (Cell × β), pairsOf (m.map fun kv => .tup [cellD kv.1, f kv.2]) = some (encM f m)
  | [] => rfl
  | (c, b) :: m => by
    rw [List.map_cons]
    unfold pairsOf
    rw [pairsOf_map f m]
    rfl
theorem ndict_t {β : Type} (f : β → D) (m : List (Cell × β)) (hn : (m.map (·.1)).Nodup) (S : Store) : kBlt .dict [.d (.tup (m.map fun kv => .tup [cellD kv.1, f kv.2]))] S = .ok (.r S.length) (S ++ [.dct (encM f m)]) := by
  have e : ((encM f m).map fun kv => kv.1).Nodup := by
    unfold encM
    rw [List.map_map]
    exact hn
  simp only [kBlt, rds, rd, bltD, pairsOf_map, if_pos e, give, An.give, SW.alloc]
end SW

-- NE
set_option Elab.async false
set_option linter.all false
set_option maxRecDepth 100000
set_option maxHeartbeats 4000000
set_option autoImplicit false
/-! NE: the equations of the evaluator, all in one -/
namespace SW
open PySem
theorem EV0 : (type_of% @Option.isSome_some.{0}) ∧ (type_of% @Option.isSome_none.{0}) ∧ (type_of% @beq_self_eq_true.{0}) ∧ (type_of% @e_dct1) ∧ (type_of% @n_dct1) ∧ (type_of% @nlist_d) ∧ (type_of% @dx_d) ∧ (type_of% @dn_d) ∧ (type_of% @dnn_d) ∧ (type_of% @dg1_d) ∧ (type_of% @dg2_d) ∧ (type_of% @dg_pre_d) ∧ (type_of% @wp_lc2E) ∧ (type_of% @e_callv) ∧ (type_of% @Nat.add_lt_add_iff_left) ∧ (type_of% @Nat.lt_add_right_iff_pos) ∧ (type_of% @rr_kD) ∧ (type_of% @rr_asData) ∧ (type_of% @rr_blt) ∧ (type_of% @rr_idx) ∧ (type_of% @rr_slc) ∧ (type_of% @rr_rev) ∧ (type_of% @rr_cmp) ∧ (type_of% @rr_bin1) ∧ (type_of% @rr_bin2) ∧ (type_of% @rr_isL) ∧ (type_of% @rr_push) ∧ (type_of% @rr_joinA) ∧ (type_of% @rr_getP) ∧ (type_of% @rr_get) ∧ (type_of% @rev_lst) ∧ (type_of% @nsort_d) ∧ (type_of% @t_try1) ∧ (type_of% @t_try0) ∧ (type_of% @e_mk) ∧ (type_of% @isi_x) ∧ (type_of% @Nat.add_assoc) ∧ (type_of% @HT.sIx_none) ∧ (type_of% @HT.sIx_nat) ∧ (type_of% @List.drop_zero.{0}) := ⟨@Option.isSome_some.{0}, @Option.isSome_none.{0}, @beq_self_eq_true.{0}, @e_dct1, @n_dct1, @nlist_d, @dx_d, @dn_d, @dnn_d, @dg1_d, @dg2_d, @dg_pre_d, @wp_lc2E, @e_callv, @Nat.add_lt_add_iff_left, @Nat.lt_add_right_iff_pos, @rr_kD, @rr_asData, @rr_blt, @rr_idx, @rr_slc, @rr_rev, @rr_cmp, @rr_bin1, @rr_bin2, @rr_isL, @rr_push, @rr_joinA, @rr_getP, @rr_get, @rev_lst, @nsort_d, @t_try1, @t_try0, @e_mk, @isi_x, @Nat.add_assoc, @HT.sIx_none, @HT.sIx_nat, @List.drop_zero.{0}⟩
theorem EV1 : (type_of% @Nat.sub_zero) ∧ (type_of% @wp_lcE) ∧ (type_of% @wp_genE) ∧ (type_of% @ws_forE) ∧ (type_of% @ws_whlE) ∧ (type_of% @t_set1) ∧ (type_of% @t_set0) ∧ (type_of% @t_unp) ∧ (type_of% @t_seti) ∧ (type_of% @t_setf) ∧ (type_of% @t_app) ∧ (type_of% @t_ex) ∧ (type_of% @t_ife) ∧ (type_of% @t_for) ∧ (type_of% @t_whl) ∧ (type_of% @t_ret) ∧ (type_of% @t_rse0) ∧ (type_of% @t_brk) ∧ (type_of% @t_pas) ∧ (type_of% @e_con) ∧ (type_of% @e_var) ∧ (type_of% @e_bin) ∧ (type_of% @e_neg) ∧ (type_of% @e_cmp) ∧ (type_of% @e_isN) ∧ (type_of% @e_and) ∧ (type_of% @e_or) ∧ (type_of% @e_not) ∧ (type_of% @e_ite) ∧ (type_of% @e_call) ∧ (type_of% @e_blt) ∧ (type_of% @e_isi) ∧ (type_of% @e_meth) ∧ (type_of% @e_fld) ∧ (type_of% @e_idx) ∧ (type_of% @e_slc) ∧ (type_of% @e_rev) ∧ (type_of% @e_tup) ∧ (type_of% @e_lst) ∧ (type_of% @e_dct0) := ⟨@Nat.sub_zero, @wp_lcE, @wp_genE, @ws_forE, @ws_whlE, @t_set1, @t_set0, @t_unp, @t_seti, @t_setf, @t_app, @t_ex, @t_ife, @t_for, @t_whl, @t_ret, @t_rse0, @t_brk, @t_pas, @e_con, @e_var, @e_bin, @e_neg, @e_cmp, @e_isN, @e_and, @e_or, @e_not, @e_ite, @e_call, @e_blt, @e_isi, @e_meth, @e_fld, @e_idx, @e_slc, @e_rev, @e_tup, @e_lst, @e_dct0⟩
theorem EV2 : (type_of% @es_nil) ∧ (type_of% @es_cons) ∧ (type_of% @ds_nil) ∧ (type_of% @ds_cons) ∧ (type_of% @op_none) ∧ (type_of% @op_some) ∧ (type_of% @i_rng1) ∧ (type_of% @i_rng2) ∧ (type_of% @i_ov) ∧ (type_of% @bind_ok) ∧ (type_of% @bind_exc) ∧ (type_of% @to_okR) ∧ (type_of% @to_excR) ∧ (type_of% @nx_then) ∧ (type_of% @ws_to) ∧ (type_of% @ws_then) ∧ (type_of% @ws_nx) ∧ (type_of% @ws_rt) ∧ (type_of% @ws_bk) ∧ (type_of% @ws_xc) ∧ (type_of% @ws_bad) ∧ (type_of% @wp_ok) ∧ (type_of% @wp_exc) ∧ (type_of% @wp_bad) ∧ (type_of% @wp_bind) ∧ (type_of% @ws_ite) ∧ (type_of% @wp_ite) ∧ (type_of% @gc_d) ∧ (type_of% @gc_r) ∧ (type_of% @not_lt_self) ∧ (type_of% @lt_irr) ∧ (type_of% @asData_d) ∧ (type_of% @kD_d) ∧ (type_of% @rd_d) ∧ (type_of% @List.map_cons.{0,0}) ∧ (type_of% @List.map_nil.{0,0}) ∧ (type_of% @List.length_cons.{0}) ∧ (type_of% @List.length_nil.{0}) ∧ (type_of% @List.cons_append.{0}) ∧ (type_of% @List.nil_append.{0}) := ⟨@es_nil, @es_cons, @ds_nil, @ds_cons, @op_none, @op_some, @i_rng1, @i_rng2, @i_ov, @bind_ok, @bind_exc, @to_okR, @to_excR, @nx_then, @ws_to, @ws_then, @ws_nx, @ws_rt, @ws_bk, @ws_xc, @ws_bad, @wp_ok, @wp_exc, @wp_bad, @wp_bind, @ws_ite, @wp_ite, @gc_d, @gc_r, @not_lt_self, @lt_irr, @asData_d, @kD_d, @rd_d, @List.map_cons.{0,0}, @List.map_nil.{0,0}, @List.length_cons.{0}, @List.length_nil.{0}, @List.cons_append.{0}, @List.nil_append.{0}⟩
theorem EV3 : (type_of% @List.append_nil.{0}) ∧ (type_of% @List.append_assoc.{0}) ∧ (type_of% @List.getElem?_cons_zero.{0}) ∧ (type_of% @List.getElem?_cons_succ.{0}) ∧ (type_of% @List.set_cons_zero.{0}) ∧ (type_of% @List.set_cons_succ.{0}) ∧ (type_of% @List.set_nil.{0}) ∧ (type_of% @List.take_succ_cons.{0}) ∧ (type_of% @List.take_zero.{0}) ∧ (type_of% @List.take_length.{0}) ∧ (type_of% @get_ap0) ∧ (type_of% @get_ap) ∧ (type_of% @set_ap0) ∧ (type_of% @set_ap) ∧ (type_of% @take_ap0) ∧ (type_of% @take_ap) ∧ (type_of% @len_ap) ∧ (type_of% @get_sp0) ∧ (type_of% @get_sp) ∧ (type_of% @set_sp0) ∧ (type_of% @set_sp) ∧ (type_of% @take_sp0) ∧ (type_of% @take_sp) ∧ (type_of% @take_sl) ∧ (type_of% @set_len) ∧ (type_of% @List.set_set.{0}) ∧ (type_of% @kb_add) ∧ (type_of% @kb_sub) ∧ (type_of% @kb_mul) ∧ (type_of% @kb_fdiv) ∧ (type_of% @kb_mod) ∧ (type_of% @kb_pow) ∧ (type_of% @nb_adds) ∧ (type_of% @kb_addt) ∧ (type_of% @kb_addl) ∧ (type_of% @nb_muls) ∧ (type_of% @kc_lt) ∧ (type_of% @kc_le) ∧ (type_of% @kc_gt) ∧ (type_of% @kc_ge) := ⟨@List.append_nil.{0}, @List.append_assoc.{0}, @List.getElem?_cons_zero.{0}, @List.getElem?_cons_succ.{0}, @List.set_cons_zero.{0}, @List.set_cons_succ.{0}, @List.set_nil.{0}, @List.take_succ_cons.{0}, @List.take_zero.{0}, @List.take_length.{0}, @get_ap0, @get_ap, @set_ap0, @set_ap, @take_ap0, @take_ap, @len_ap, @get_sp0, @get_sp, @set_sp0, @set_sp, @take_sp0, @take_sp, @take_sl, @set_len, @List.set_set.{0}, @kb_add, @kb_sub, @kb_mul, @kb_fdiv, @kb_mod, @kb_pow, @nb_adds, @kb_addt, @kb_addl, @nb_muls, @kc_lt, @kc_le, @kc_gt, @kc_ge⟩
theorem EV4 : (type_of% @kc_eqi) ∧ (type_of% @kc_nei) ∧ (type_of% @kn) ∧ (type_of% @kt_bl) ∧ (type_of% @knot_bl) ∧ (type_of% @kbl_bl) ∧ (type_of% @at_bl) ∧ (type_of% @ab_bl) ∧ (type_of% @kl_scr) ∧ (type_of% @kl_tup) ∧ (type_of% @kl_lst) ∧ (type_of% @nl_str) ∧ (type_of% @ki_int) ∧ (type_of% @kt_tup) ∧ (type_of% @kt_lst) ∧ (type_of% @kx_scr) ∧ (type_of% @kx_tup) ∧ (type_of% @kx_lst) ∧ (type_of% @atI_0) ∧ (type_of% @atI_1) ∧ (type_of% @atI_2) ∧ (type_of% @atI_nat) ∧ (type_of% @get_m1) ∧ (type_of% @rng1) ∧ (type_of% @rng2) ∧ (type_of% @rng0) ∧ (type_of% @alloc_eq) ∧ (type_of% @it_tup) ∧ (type_of% @it_lst) ∧ (type_of% @nt_str) ∧ (type_of% @op_int) ∧ (type_of% @decide_eq_true_eq) ∧ (type_of% @Nat.sub_self) ∧ (type_of% @Nat.add_zero) ∧ (type_of% @Nat.zero_add) ∧ (type_of% @Bool.not_true) ∧ (type_of% @Bool.not_false) ∧ (type_of% @Bool.false_eq_true) ∧ (type_of% @and_self) ∧ (type_of% @and_true) := ⟨@kc_eqi, @kc_nei, @kn, @kt_bl, @knot_bl, @kbl_bl, @at_bl, @ab_bl, @kl_scr, @kl_tup, @kl_lst, @nl_str, @ki_int, @kt_tup, @kt_lst, @kx_scr, @kx_tup, @kx_lst, @atI_0, @atI_1, @atI_2, @atI_nat, @get_m1, @rng1, @rng2, @rng0, @alloc_eq, @it_tup, @it_lst, @nt_str, @op_int, @decide_eq_true_eq, @Nat.sub_self, @Nat.add_zero, @Nat.zero_add, @Bool.not_true, @Bool.not_false, @Bool.false_eq_true, @and_self, @and_true⟩
theorem EV5 : (type_of% @true_and) ∧ (type_of% @c_7) ∧ (type_of% @c_2) ∧ (type_of% @tup_0) ∧ (type_of% @lst_0) ∧ (type_of% @Nat.zero_le) ∧ (type_of% @List.length_map.{0,0}) ∧ (type_of% @kc_eqb) ∧ (type_of% @kisn_non) ∧ (type_of% @isi_0int) ∧ (type_of% @isi_0bool) ∧ (type_of% @isi_0str) ∧ (type_of% @isi_0tuple) ∧ (type_of% @isi_1int) ∧ (type_of% @isi_1bool) ∧ (type_of% @isi_1str) ∧ (type_of% @isi_1tuple) ∧ (type_of% @isi_2int) ∧ (type_of% @isi_2bool) ∧ (type_of% @isi_2str) ∧ (type_of% @isi_2tuple) ∧ (type_of% @isi_3int) ∧ (type_of% @isi_3bool) ∧ (type_of% @isi_3str) ∧ (type_of% @isi_3tuple) ∧ (type_of% @isi_4int) ∧ (type_of% @isi_4bool) ∧ (type_of% @isi_4str) ∧ (type_of% @isi_4tuple) ∧ (type_of% @nc_in1) ∧ (type_of% @nc_nin1) ∧ (type_of% @nx_str) ∧ (type_of% @ns_str) ∧ (type_of% @ns_tup) ∧ (type_of% @ns_lst) ∧ (type_of% @mk_sL) ∧ (type_of% @kpre_str) ∧ (type_of% @nc_eqc) ∧ (type_of% @nc_nec) ∧ (type_of% @nc_inct) := ⟨@true_and, @c_7, @c_2, @tup_0, @lst_0, @Nat.zero_le, @List.length_map.{0,0}, @kc_eqb, @kisn_non, @isi_0int, @isi_0bool, @isi_0str, @isi_0tuple, @isi_1int, @isi_1bool, @isi_1str, @isi_1tuple, @isi_2int, @isi_2bool, @isi_2str, @isi_2tuple, @isi_3int, @isi_3bool, @isi_3str, @isi_3tuple, @isi_4int, @isi_4bool, @isi_4str, @isi_4tuple, @nc_in1, @nc_nin1, @nx_str, @ns_str, @ns_tup, @ns_lst, @mk_sL, @kpre_str, @nc_eqc, @nc_nec, @nc_inct⟩
theorem EV6 : (type_of% @nc_nict) ∧ (type_of% @nc_ltc) ∧ (type_of% @nc_gec) ∧ (type_of% @nc_incl) ∧ (type_of% @f0_ch) ∧ (type_of% @f1_ch) ∧ (type_of% @ok_and) ∧ (type_of% @ok_or) ∧ (type_of% @ok_ite) ∧ (type_of% @Int.toNat_natCast) ∧ (type_of% @if_true.{1}) ∧ (type_of% @if_false.{1}) ∧ (type_of% @ite_true.{1}) ∧ (type_of% @ite_false.{1}) ∧ (type_of% @decide_true) ∧ (type_of% @decide_false) ∧ (type_of% @Bool.true_and) ∧ (type_of% @Bool.and_true) ∧ (type_of% @Bool.false_and) ∧ (type_of% @Bool.and_false) ∧ (type_of% @Bool.true_or) ∧ (type_of% @Bool.or_true) ∧ (type_of% @Bool.false_or) ∧ (type_of% @Bool.or_false) ∧ (type_of% @not_true_eq_false) ∧ (type_of% @not_false_eq_true) ∧ (type_of% @false_and) ∧ (type_of% @and_false) ∧ (type_of% @true_or) ∧ (type_of% @or_true) ∧ (type_of% @false_or) ∧ (type_of% @or_false) ∧ (type_of% @List.head_cons.{0}) ∧ (type_of% @List.headD_cons.{0}) := ⟨@nc_nict, @nc_ltc, @nc_gec, @nc_incl, @f0_ch, @f1_ch, @ok_and, @ok_or, @ok_ite, @Int.toNat_natCast, @if_true.{1}, @if_false.{1}, @ite_true.{1}, @ite_false.{1}, @decide_true, @decide_false, @Bool.true_and, @Bool.and_true, @Bool.false_and, @Bool.and_false, @Bool.true_or, @Bool.or_true, @Bool.false_or, @Bool.or_false, @not_true_eq_false, @not_false_eq_true, @false_and, @and_false, @true_or, @or_true, @false_or, @or_false, @List.head_cons.{0}, @List.headD_cons.{0}⟩
end SW

set_option linter.all false
set_option maxRecDepth 100000
/-! the defs in the small language -/
namespace M
open PySem SW
def d_is_ascending : Fn := { np := 1, nl := 2, body := (.cons (.ret (.gen true (.one 1) (.rng1 (.bin .sub (.blt .len (.cons (.var 0) .nil)) (.con (.int 1)))) (.cmp .lt (.idx (.var 0) (.var 1)) (.idx (.var 0) (.bin .add (.var 1) (.con (.int 1))))) [1])) .nil) }
def d_are_rows : Fn := { np := 1, nl := 4, body := (.cons (.ife (.or (.cmp .lt (.blt .len (.cons (.var 0) .nil)) (.con (.int 1))) (.or (.cmp .gt (.blt .len (.cons (.var 0) .nil)) (.con (.int 7))) (.or (.cmp .lt (.blt .len (.cons (.idx (.var 0) (.con (.int 0))) .nil)) (.con (.int 1))) (.cmp .gt (.blt .len (.cons (.idx (.var 0) (.con (.int 0))) .nil)) (.con (.int 7)))))) (.cons (.ret (.con (.bl false))) .nil) .nil) (.cons (.set false 1 (.bin .add (.bin .add (.bin .add (.con (.str ⟨#[49, 50, 51, 52, 53, 54, 55, 56, 57]⟩)) (.con (.str ⟨#[97, 98, 99, 100, 101, 102, 103, 104, 105]⟩))) (.con (.str ⟨#[94]⟩))) (.con (.str ⟨#[35]⟩)))) (.cons (.ret (.gen true (.one 3) (.ov (.var 0)) (.and (.cmp .eq (.blt .len (.cons (.var 3) .nil)) (.blt .len (.cons (.idx (.var 0) (.con (.int 0))) .nil))) (.gen true (.one 2) (.ov (.var 3)) (.cmp .inn (.var 2) (.var 1)) [2])) [3])) .nil))) }
def d_Chart_init : Fn := { np := 3, nl := 4, body := (.cons (.ife (.not (.call 1 (.cons (.var 1) .nil))) (.cons (.rse 11 .nil) .nil) .nil) (.cons (.setf (.var 0) 0 (.var 1)) (.cons (.setf (.var 0) 1 (.var 2)) (.cons (.ife (.or (.cmp .lt (.blt .len (.cons (.var 2) .nil)) (.con (.int 1))) (.or (.cmp .gt (.blt .len (.cons (.var 2) .nil)) (.con (.int 6))) (.not (.call 0 (.cons (.var 2) .nil))))) (.cons (.rse 11 .nil) .nil) .nil) (.cons (.ife (.not (.gen true (.one 3) (.ov (.var 2)) (.and (.call 3 (.cons (.var 0) (.cons (.var 3) .nil))) (.call 5 (.cons (.var 0) (.cons (.var 3) .nil)))) [3])) (.cons (.rse 11 .nil) .nil) .nil) .nil))))) }
def d_is_cell : Fn := { np := 2, nl := 2, body := (.cons (.ret (.and (.cmp .le (.con (.int 0)) (.idx (.var 1) (.con (.int 0)))) (.and (.cmp .lt (.idx (.var 1) (.con (.int 0))) (.blt .len (.cons (.fld (.var 0) 0) .nil))) (.and (.cmp .le (.con (.int 0)) (.idx (.var 1) (.con (.int 1)))) (.cmp .lt (.idx (.var 1) (.con (.int 1))) (.blt .len (.cons (.idx (.fld (.var 0) 0) (.con (.int 0))) .nil))))))) .nil) }
def d_sign_at : Fn := { np := 2, nl := 2, body := (.cons (.ret (.idx (.idx (.fld (.var 0) 0) (.idx (.var 1) (.con (.int 0)))) (.idx (.var 1) (.con (.int 1))))) .nil) }
def d_is_water : Fn := { np := 2, nl := 2, body := (.cons (.ret (.cmp .inn (.call 4 (.cons (.var 0) (.cons (.var 1) .nil))) (.con (.str ⟨#[49, 50, 51, 52, 53, 54, 55, 56, 57]⟩)))) .nil) }
def d_l_cell : Fn := { np := 2, nl := 2, body := (.cons (.ife (.cmp .lt (.var 1) (.blt .len (.cons (.var 0) .nil))) (.cons (.ret (.blt .int (.cons (.idx (.var 0) (.var 1)) .nil))) .nil) .nil) (.cons (.ret (.con (.int 0))) .nil)) }
def d_l_digits : Fn := { np := 2, nl := 5, body := (.cons (.set true 2 (.lst .nil)) (.cons (.ife (.cmp .lt (.var 0) (.con (.int 0))) (.cons (.set false 0 (.bin .sub (.con (.int 1)) (.bin .mul (.con (.int 2)) (.var 0)))) .nil) .nil) (.cons (.ife (.cmp .ge (.var 0) (.bin .pow (.con (.int 10)) (.con (.int 18)))) (.cons (.forr (.one 3) (.rng1 (.con (.int 60))) (.cons (.ife (.cmp .gt (.var 0) (.con (.int 0))) (.cons (.app (.var 2) (.bin .mod (.blt .int (.cons (.var 0) .nil)) (.con (.int 1000)))) (.cons (.set false 0 (.bin .fdiv (.var 0) (.con (.int 1000)))) .nil)) .nil) .nil)) .nil) (.cons (.set false 4 (.bin .mod (.blt .int (.cons (.bin .add (.bin .add (.bin .mul (.var 0) (.con (.int 48271))) (.bin .mul (.var 1) (.con (.int 69621)))) (.con (.int 11))) .nil)) (.con (.int 2147483647)))) (.cons (.forr (.one 3) (.rng1 (.con (.int 60))) (.cons (.set false 4 (.bin .mod (.blt .int (.cons (.bin .add (.bin .add (.bin .mul (.var 4) (.con (.int 16807))) (.bin .mul (.con (.int 7)) (.var 3))) (.con (.int 1))) .nil)) (.con (.int 2147483647)))) (.cons (.app (.var 2) (.bin .mod (.blt .int (.cons (.bin .fdiv (.var 4) (.con (.int 997))) .nil)) (.con (.int 1000)))) .nil))) .nil))) (.cons (.ret (.var 2)) .nil)))) }
def d_l_box : Fn := { np := 2, nl := 2, body := (.cons (.ret (.lst (.cons (.call 7 (.cons (.call 6 (.cons (.var 0) (.cons (.var 1) .nil))) (.cons (.var 1) .nil))) (.cons (.con (.int 0)) .nil)))) .nil) }
def d_l_draw : Fn := { np := 2, nl := 3, body := (.cons (.set false 2 (.idx (.var 0) (.con (.int 1)))) (.cons (.seti (.var 0) (.con (.int 1)) (.bin .add (.var 2) (.con (.int 1)))) (.cons (.ife (.cmp .lt (.var 2) (.blt .len (.cons (.idx (.var 0) (.con (.int 0))) .nil))) (.cons (.ret (.bin .mod (.blt .int (.cons (.idx (.idx (.var 0) (.con (.int 0))) (.var 2)) .nil)) (.var 1))) .nil) .nil) (.cons (.ret (.con (.int 0))) .nil)))) }
def d_l_is_integer : Fn := { np := 1, nl := 1, body := (.cons (.ret (.and (.isi (.var 0) .int) (.not (.isi (.var 0) .bool)))) .nil) }
def d_l_same : Fn := { np := 2, nl := 3, body := (.cons (.ife (.isi (.var 1) .tuple) (.cons (.ife (.or (.not (.isi (.var 0) .tuple)) (.cmp .ne (.blt .len (.cons (.var 0) .nil)) (.blt .len (.cons (.var 1) .nil)))) (.cons (.ret (.con (.bl false))) .nil) .nil) (.cons (.ret (.blt .all (.cons (.lc (.one 2) (.rng1 (.blt .len (.cons (.var 1) .nil))) .none (.call 11 (.cons (.idx (.var 0) (.var 2)) (.cons (.idx (.var 1) (.var 2)) .nil))) [2]) .nil))) .nil)) .nil) (.cons (.ife (.isi (.var 1) .bool) (.cons (.ret (.and (.isi (.var 0) .bool) (.cmp .eq (.var 0) (.var 1)))) .nil) .nil) (.cons (.ife (.isi (.var 1) .int) (.cons (.ret (.and (.call 10 (.cons (.var 0) .nil)) (.cmp .eq (.var 0) (.var 1)))) .nil) .nil) (.cons (.ife (.isi (.var 1) .str) (.cons (.ret (.and (.isi (.var 0) .str) (.cmp .eq (.var 0) (.var 1)))) .nil) .nil) (.cons (.ret (.and (.isN false (.var 0)) (.isN false (.var 1)))) .nil))))) }
def d_l_line : Fn := { np := 2, nl := 4, body := (.cons (.set false 2 (.con (.str ⟨#[49, 49, 49, 50, 51, 53, 57, 97, 97, 98, 99, 105, 94, 35, 49, 97]⟩))) (.cons (.ret (.meth .join (.con (.str ⟨#[]⟩)) (.cons (.lc (.one 3) (.rng1 (.var 1)) .none (.idx (.var 2) (.call 9 (.cons (.var 0) (.cons (.con (.int 16)) .nil)))) [3]) .nil))) .nil)) }
def d_l_waters : Fn := { np := 1, nl := 4, body := (.cons (.set true 1 (.lst .nil)) (.cons (.forr (.one 2) (.rng1 (.blt .len (.cons (.var 0) .nil))) (.cons (.forr (.one 3) (.rng1 (.blt .len (.cons (.idx (.var 0) (.var 2)) .nil))) (.cons (.ife (.cmp .inn (.idx (.idx (.var 0) (.var 2)) (.var 3)) (.con (.str ⟨#[49, 50, 51, 52, 53, 54, 55, 56, 57]⟩))) (.cons (.app (.var 1) (.tup (.cons (.var 2) (.cons (.var 3) .nil)))) .nil) .nil) .nil)) .nil)) (.cons (.ret (.var 1)) .nil))) }
def d_l_parts : Fn := { np := 4, nl := 13, body := (.cons (.set true 4 (.call 8 (.cons (.var 0) (.cons (.var 1) .nil)))) (.cons (.set false 5 (.bin .add (.con (.int 1)) (.call 9 (.cons (.var 4) (.cons (.var 2) .nil))))) (.cons (.set false 6 (.bin .add (.con (.int 1)) (.call 9 (.cons (.var 4) (.cons (.var 3) .nil))))) (.cons (.set true 7 (.lc (.one 8) (.rng1 (.var 5)) .none (.call 12 (.cons (.call 8 (.cons (.var 0) (.cons (.bin .add (.bin .add (.var 1) (.con (.int 1))) (.var 8)) .nil))) (.cons (.var 6) .nil))) [8])) (.cons (.set false 9 (.call 9 (.cons (.var 4) (.cons (.var 5) .nil)))) (.cons (.set false 10 (.call 9 (.cons (.var 4) (.cons (.var 6) .nil)))) (.cons (.seti (.var 7) (.var 9) (.bin .add (.bin .add (.slc (.idx (.var 7) (.var 9)) .none (.some (.var 10))) (.idx (.con (.str ⟨#[49, 50, 51, 52, 53]⟩)) (.call 9 (.cons (.var 4) (.cons (.con (.int 5)) .nil))))) (.slc (.idx (.var 7) (.var 9)) (.some (.bin .add (.var 10) (.con (.int 1)))) .none))) (.cons (.set true 11 (.lst (.cons (.tup (.cons (.var 9) (.cons (.var 10) .nil))) .nil))) (.cons (.forr (.one 12) (.ov (.call 13 (.cons (.var 7) .nil))) (.cons (.ife (.and (.cmp .ne (.var 12) (.tup (.cons (.var 9) (.cons (.var 10) .nil)))) (.and (.cmp .lt (.blt .len (.cons (.var 11) .nil)) (.con (.int 6))) (.cmp .eq (.call 9 (.cons (.var 4) (.cons (.con (.int 4)) .nil))) (.con (.int 0))))) (.cons (.app (.var 11) (.var 12)) .nil) .nil) .nil)) (.cons (.ret (.tup (.cons (.blt .tuple (.cons (.var 7) .nil)) (.cons (.blt .tuple (.cons (.blt .sorted (.cons (.var 11) .nil)) .nil)) .nil)))) .nil)))))))))) }
def d_l_sign : Fn := { np := 2, nl := 2, body := (.cons (.ret (.idx (.idx (.idx (.var 0) (.con (.int 0))) (.idx (.var 1) (.con (.int 0)))) (.idx (.var 1) (.con (.int 1))))) .nil) }
def d_l_is_place : Fn := { np := 2, nl := 2, body := (.cons (.ret (.and (.cmp .le (.con (.int 0)) (.idx (.var 1) (.con (.int 0)))) (.and (.cmp .lt (.idx (.var 1) (.con (.int 0))) (.blt .len (.cons (.idx (.var 0) (.con (.int 0))) .nil))) (.and (.cmp .le (.con (.int 0)) (.idx (.var 1) (.con (.int 1)))) (.cmp .lt (.idx (.var 1) (.con (.int 1))) (.blt .len (.cons (.idx (.idx (.var 0) (.con (.int 0))) (.con (.int 0))) .nil))))))) .nil) }
def d_check_readings : Fn := { np := 3, nl := 6, body := (.cons (.ife (.or (.cmp .lt (.var 2) (.con (.int 0))) (.cmp .gt (.var 2) (.con (.int 90000)))) (.cons (.rse 14 .nil) .nil) .nil) (.cons (.set false 3 (.lc (.tup [4, 5]) (.ov (.var 1)) .none (.var 4) [4, 5])) (.cons (.ife (.or (.not (.call 0 (.cons (.var 3) .nil))) (.not (.gen true (.one 4) (.ov (.var 3)) (.and (.call 3 (.cons (.var 0) (.cons (.var 4) .nil))) (.call 5 (.cons (.var 0) (.cons (.var 4) .nil)))) [4]))) (.cons (.rse 14 .nil) .nil) .nil) (.cons (.ife (.not (.gen true (.tup [4, 5]) (.ov (.var 1)) (.or (.isN false (.var 5)) (.and (.cmp .le (.con (.int 0)) (.var 5)) (.cmp .le (.var 5) (.var 2)))) [4, 5])) (.cons (.rse 14 .nil) .nil) .nil) .nil)))) }
def d_l_are_readings2 : Fn := { np := 3, nl := 6, body := (.cons (.ife (.or (.cmp .lt (.var 2) (.con (.int 0))) (.cmp .gt (.var 2) (.con (.int 90000)))) (.cons (.ret (.con (.bl false))) .nil) .nil) (.cons (.forr (.one 3) (.rng1 (.blt .len (.cons (.var 1) .nil))) (.cons (.unp [4, 5] (.idx (.var 1) (.var 3))) (.cons (.ife (.or (.not (.call 16 (.cons (.var 0) (.cons (.var 4) .nil)))) (.cmp .nin (.call 15 (.cons (.var 0) (.cons (.var 4) .nil))) (.con (.str ⟨#[49, 50, 51, 52, 53, 54, 55, 56, 57]⟩)))) (.cons (.ret (.con (.bl false))) .nil) .nil) (.cons (.ife (.and (.cmp .gt (.var 3) (.con (.int 0))) (.cmp .ge (.idx (.idx (.var 1) (.bin .sub (.var 3) (.con (.int 1)))) (.con (.int 0))) (.var 4))) (.cons (.ret (.con (.bl false))) .nil) .nil) (.cons (.ife (.and (.isN true (.var 5)) (.or (.cmp .lt (.var 5) (.con (.int 0))) (.cmp .gt (.var 5) (.var 2)))) (.cons (.ret (.con (.bl false))) .nil) .nil) .nil))))) (.cons (.ret (.con (.bl true))) .nil))) }
def d_wall : Fn := { np := 1, nl := 1, body := (.cons (.whl (.con (.bl true)) (.cons (.pas) .nil)) .nil) }
def d_Watch_init : Fn := { np := 3, nl := 5, body := (.cons (.set false 3 (.blt .tuple (.cons (.lc (.one 4) (.ov (.var 2)) .none (.tup (.cons (.var 4) (.cons (.con .non) .nil))) [4]) .nil))) (.cons (.ex (.call 38 (.cons (.var 1) (.cons (.var 3) (.cons (.con (.int 0)) .nil))))) (.cons (.setf (.var 0) 2 (.var 1)) (.cons (.setf (.var 0) 3 (.tup (.cons (.var 3) (.cons (.con (.int 0)) .nil)))) (.cons (.setf (.var 0) 4 (.tup .nil)) .nil))))) }
def d_Watch_readings : Fn := { np := 1, nl := 1, body := (.cons (.ret (.idx (.fld (.var 0) 3) (.con (.int 0)))) .nil) }
def d_Watch_clock : Fn := { np := 1, nl := 1, body := (.cons (.ret (.idx (.fld (.var 0) 3) (.con (.int 1)))) .nil) }
def d_Watch_log : Fn := { np := 1, nl := 3, body := (.cons (.ret (.blt .tuple (.cons (.lc (.tup [1, 2]) (.ov (.fld (.var 0) 4)) .none (.var 2) [1, 2]) .nil))) .nil) }
def d_Watch_check_reports : Fn := { np := 3, nl := 3, body := (.cons (.ex (.call 186 (.cons (.con (.int 0)) .nil))) .nil) }
def d_Watch_observe : Fn := { np := 3, nl := 3, body := (.cons (.ex (.call 186 (.cons (.con (.int 1)) .nil))) .nil) }
def d_Watch_undo : Fn := { np := 1, nl := 1, body := (.cons (.ex (.call 186 (.cons (.con (.int 2)) .nil))) .nil) }
def d_Watch_fork : Fn := { np := 1, nl := 1, body := (.cons (.ex (.call 186 (.cons (.con (.int 3)) .nil))) .nil) }
def d_Watch_earliest : Fn := { np := 1, nl := 1, body := (.cons (.ex (.call 186 (.cons (.con (.int 4)) .nil))) .nil) }
def d_Watch_latest : Fn := { np := 1, nl := 1, body := (.cons (.ex (.call 186 (.cons (.con (.int 5)) .nil))) .nil) }
def d_Watch_escape : Fn := { np := 2, nl := 2, body := (.cons (.ex (.call 186 (.cons (.con (.int 6)) .nil))) .nil) }
def d_Watch_last_minute : Fn := { np := 2, nl := 2, body := (.cons (.ex (.call 186 (.cons (.con (.int 7)) .nil))) .nil) }
def d_l_some_gauges : Fn := { np := 2, nl := 4, body := (.cons (.set true 2 (.lst .nil)) (.cons (.forr (.one 3) (.ov (.call 13 (.cons (.idx (.var 1) (.con (.int 0))) .nil))) (.cons (.ife (.and (.cmp .lt (.blt .len (.cons (.var 2) .nil)) (.con (.int 5))) (.cmp .eq (.call 9 (.cons (.var 0) (.cons (.con (.int 3)) .nil))) (.con (.int 0)))) (.cons (.app (.var 2) (.var 3)) .nil) .nil) .nil)) (.cons (.ret (.blt .tuple (.cons (.var 2) .nil))) .nil))) }
def d_l_stands : Fn := { np := 2, nl := 3, body := (.cons (.ife (.or (.not (.call 11 (.cons (.umeth 188 (.var 0) .nil) (.cons (.idx (.var 1) (.con (.int 0))) .nil)))) (.not (.call 11 (.cons (.umeth 189 (.var 0) .nil) (.cons (.idx (.var 1) (.con (.int 1))) .nil))))) (.cons (.ret (.con (.bl false))) .nil) .nil) (.cons (.ret (.call 11 (.cons (.umeth 190 (.var 0) .nil) (.cons (.blt .tuple (.cons (.lc (.one 2) (.ov (.idx (.var 1) (.con (.int 2)))) .none (.idx (.var 2) (.con (.int 1))) [2]) .nil)) .nil)))) .nil)) }
def d_law27 : Fn := { np := 1, nl := 11, body := (.cons (.set false 1 (.call 14 (.cons (.var 0) (.cons (.con (.int 0)) (.cons (.con (.int 5)) (.cons (.con (.int 5)) .nil)))))) (.cons (.set false 2 (.mk 0 2 (.cons (.idx (.var 1) (.con (.int 0))) (.cons (.idx (.var 1) (.con (.int 1))) .nil)))) (.cons (.set true 3 (.call 8 (.cons (.var 0) (.cons (.con (.int 9)) .nil)))) (.cons (.set false 4 (.call 199 (.cons (.var 3) (.cons (.var 1) .nil)))) (.cons (.set false 5 (.call 9 (.cons (.var 3) (.cons (.con (.int 6)) .nil)))) (.cons (.ife (.cmp .eq (.var 5) (.con (.int 0))) (.cons (.set false 4 (.rev (.var 4))) .nil) (.cons (.ife (.cmp .eq (.var 5) (.con (.int 1))) (.cons (.set false 4 (.bin .add (.var 4) (.slc (.var 4) (.some (.neg (.con (.int 1)))) .none))) .nil) (.cons (.ife (.cmp .eq (.var 5) (.con (.int 2))) (.cons (.set false 4 (.bin .add (.var 4) (.tup (.cons (.tup (.cons (.call 9 (.cons (.var 3) (.cons (.con (.int 6)) .nil))) (.cons (.call 9 (.cons (.var 3) (.cons (.con (.int 6)) .nil))) .nil))) .nil)))) .nil) .nil) .nil)) .nil)) (.cons (.set false 6 (.blt .tuple (.cons (.lc (.one 7) (.ov (.var 4)) .none (.tup (.cons (.var 7) (.cons (.con .non) .nil))) [7]) .nil))) (.cons (.set false 8 (.call 63 (.cons (.var 1) (.cons (.var 6) (.cons (.con (.int 0)) .nil))))) (.cons (.tryy (.cons (.set true 9 (.mk 1 187 (.cons (.var 2) (.cons (.var 4) .nil)))) .nil) 10 (some 10) (.cons (.ret (.and (.not (.var 8)) (.and (.isi (.var 10) (.cls 14)) (.not (.isi (.var 10) (.cls 11)))))) .nil)) (.cons (.ret (.and (.var 8) (.call 200 (.cons (.var 9) (.cons (.lst (.cons (.var 6) (.cons (.con (.int 0)) (.cons (.lst .nil) .nil)))) .nil))))) .nil)))))))))) }
structure Tb (tbl : Nat → Option Fn) : Prop where
  t_is_ascending : tbl 0 = some d_is_ascending
  t_are_rows : tbl 1 = some d_are_rows
  t_Chart_init : tbl 2 = some d_Chart_init
  t_is_cell : tbl 3 = some d_is_cell
  t_sign_at : tbl 4 = some d_sign_at
  t_is_water : tbl 5 = some d_is_water
  t_l_cell : tbl 6 = some d_l_cell
  t_l_digits : tbl 7 = some d_l_digits
  t_l_box : tbl 8 = some d_l_box
  t_l_draw : tbl 9 = some d_l_draw
  t_l_is_integer : tbl 10 = some d_l_is_integer
  t_l_same : tbl 11 = some d_l_same
  t_l_line : tbl 12 = some d_l_line
  t_l_waters : tbl 13 = some d_l_waters
  t_l_parts : tbl 14 = some d_l_parts
  t_l_sign : tbl 15 = some d_l_sign
  t_l_is_place : tbl 16 = some d_l_is_place
  t_check_readings : tbl 38 = some d_check_readings
  t_l_are_readings2 : tbl 63 = some d_l_are_readings2
  t_wall : tbl 186 = some d_wall
  t_Watch_init : tbl 187 = some d_Watch_init
  t_Watch_readings : tbl 188 = some d_Watch_readings
  t_Watch_clock : tbl 189 = some d_Watch_clock
  t_Watch_log : tbl 190 = some d_Watch_log
  t_Watch_check_reports : tbl 191 = some d_Watch_check_reports
  t_Watch_observe : tbl 192 = some d_Watch_observe
  t_Watch_undo : tbl 193 = some d_Watch_undo
  t_Watch_fork : tbl 194 = some d_Watch_fork
  t_Watch_earliest : tbl 195 = some d_Watch_earliest
  t_Watch_latest : tbl 196 = some d_Watch_latest
  t_Watch_escape : tbl 197 = some d_Watch_escape
  t_Watch_last_minute : tbl 198 = some d_Watch_last_minute
  t_l_some_gauges : tbl 199 = some d_l_some_gauges
  t_l_stands : tbl 200 = some d_l_stands
  t_law27 : tbl 201 = some d_law27
end M

-- MBM.lean
set_option Elab.async false
set_option linter.all false
set_option maxRecDepth 100000
set_option maxHeartbeats 4000000
set_option autoImplicit false
/-! MB: the laws' own small defs -/
namespace M
open PySem SW
section
variable {tbl : Nat → Option Fn} (H : Tb tbl)
include H
theorem l_cell_ok (k : Nat) (ns : List Int) (j : Nat) (S : Store) : Wp (callF tbl (k + 1) 6 [.d (.scr ns), .d (.int j)] S) (fun v S' => S' = S ∧ ∃ z : Int, v = .d (.int z)) noX := by
  rw [wp_def H.t_l_cell rfl]
  unfold d_l_cell
  rw [cont_cons]
  simp only [t_set1, t_set0, t_unp, t_seti, t_setf, t_app, t_ex, t_ife, t_for, t_whl, t_ret, t_rse0, t_brk, t_pas, e_con, e_var, e_bin, e_neg, e_cmp, e_isN, e_and, e_or, e_not, e_ite, e_call, e_blt, e_isi, e_meth, e_fld, e_idx, e_slc, e_rev, e_tup, e_lst, e_dct0, e_lc, e_gen, es_nil, es_cons, ds_nil, ds_cons, op_none, op_some, i_rng1, i_rng2, i_ov, ws_to, ws_then, ws_nx, ws_rt, ws_bk, ws_xc, ws_bad, wp_ok, wp_exc, wp_bad, wp_bind, ws_ite, wp_ite, gc_d, asData_d, kD_d, rd_d, entry, List.map, List.length, List.replicate, List.cons_append, List.nil_append, List.append_nil, List.getElem?_cons_zero, List.getElem?_cons_succ, List.set_cons_zero, List.set_cons_succ, List.take_length, take_app, take_same, take_set, gc_new, kb_add, kb_sub, kb_mul, kb_fdiv, kb_mod, kb_pow, kb_adds, kb_addt, kb_addl, kb_mult, kb_muls, kc_lt, kc_le, kc_gt, kc_ge, kc_eqi, kc_nei, kn, kt_bl, knot_bl, kbl_bl, at_bl, ab_bl, kl_scr, kl_tup, kl_lst, kl_str, ki_int, kt_tup, kt_lst, kx_scr, kx_tup, kx_lst, atI_0, atI_1, atI_2, atI_nat, rng1, rng2, alloc_eq, it_tup, it_lst, it_str, op_int, isl_new, push_app, asg, setAll, decide_eq_true_eq, reduceIte, Nat.sub_self, Nat.reduceSub, Bool.not_true, Bool.not_false, Bool.false_eq_true, Int.reduceMul, Int.reduceAdd, Int.reduceLT, and_self, and_true, true_and, c_60, c_48271, c_69621, c_16807, c_7, c_2, c_01000, Nat.reduceLeDiff, tup_0, lst_0, Nat.zero_le, map_snoc, List.length_map, List.map_nil, kc_ltc, kc_eqb, kisn_non, map_snocB, isi_0int, isi_0bool, isi_0str, isi_0tuple, isi_1int, isi_1bool, isi_1str, isi_1tuple, isi_2int, isi_2bool, isi_2str, isi_2tuple, isi_3int, isi_3bool, isi_3str, isi_3tuple, isi_4int, isi_4bool, isi_4str, isi_4tuple, kc_in1, kc_nin1, map_snocC, wipeE, take_set2, kpre_str, kx_str, push_set, get_setapp, take_setapp, map_snocS, set_len, bg1, bg2, bg3, gc_mid, Ob.data, set_app0]
  split
  · rename_i h
    have h : j < ns.length := by omega
    rw [cont_cons]
    simp only [t_set1, t_set0, t_unp, t_seti, t_setf, t_app, t_ex, t_ife, t_for, t_whl, t_ret, t_rse0, t_brk, t_pas, e_con, e_var, e_bin, e_neg, e_cmp, e_isN, e_and, e_or, e_not, e_ite, e_call, e_blt, e_isi, e_meth, e_fld, e_idx, e_slc, e_rev, e_tup, e_lst, e_dct0, e_lc, e_gen, es_nil, es_cons, ds_nil, ds_cons, op_none, op_some, i_rng1, i_rng2, i_ov, ws_to, ws_then, ws_nx, ws_rt, ws_bk, ws_xc, ws_bad, wp_ok, wp_exc, wp_bad, wp_bind, ws_ite, wp_ite, gc_d, asData_d, kD_d, rd_d, entry, List.map, List.length, List.replicate, List.cons_append, List.nil_append, List.append_nil, List.getElem?_cons_zero, List.getElem?_cons_succ, List.set_cons_zero, List.set_cons_succ, List.take_length, take_app, take_same, take_set, gc_new, kb_add, kb_sub, kb_mul, kb_fdiv, kb_mod, kb_pow, kb_adds, kb_addt, kb_addl, kb_mult, kb_muls, kc_lt, kc_le, kc_gt, kc_ge, kc_eqi, kc_nei, kn, kt_bl, knot_bl, kbl_bl, at_bl, ab_bl, kl_scr, kl_tup, kl_lst, kl_str, ki_int, kt_tup, kt_lst, kx_scr, kx_tup, kx_lst, atI_0, atI_1, atI_2, atI_nat, rng1, rng2, alloc_eq, it_tup, it_lst, it_str, op_int, isl_new, push_app, asg, setAll, decide_eq_true_eq, reduceIte, Nat.sub_self, Nat.reduceSub, Bool.not_true, Bool.not_false, Bool.false_eq_true, Int.reduceMul, Int.reduceAdd, Int.reduceLT, and_self, and_true, true_and, c_60, c_48271, c_69621, c_16807, c_7, c_2, c_01000, Nat.reduceLeDiff, tup_0, lst_0, Nat.zero_le, map_snoc, List.length_map, List.map_nil, kc_ltc, kc_eqb, kisn_non, map_snocB, isi_0int, isi_0bool, isi_0str, isi_0tuple, isi_1int, isi_1bool, isi_1str, isi_1tuple, isi_2int, isi_2bool, isi_2str, isi_2tuple, isi_3int, isi_3bool, isi_3str, isi_3tuple, isi_4int, isi_4bool, isi_4str, isi_4tuple, kc_in1, kc_nin1, map_snocC, wipeE, take_set2, kpre_str, kx_str, push_set, get_setapp, take_setapp, map_snocS, set_len, bg1, bg2, bg3, gc_mid, Ob.data, set_app0]
    rw [List.getElem?_eq_getElem h]
    simp only [t_set1, t_set0, t_unp, t_seti, t_setf, t_app, t_ex, t_ife, t_for, t_whl, t_ret, t_rse0, t_brk, t_pas, e_con, e_var, e_bin, e_neg, e_cmp, e_isN, e_and, e_or, e_not, e_ite, e_call, e_blt, e_isi, e_meth, e_fld, e_idx, e_slc, e_rev, e_tup, e_lst, e_dct0, e_lc, e_gen, es_nil, es_cons, ds_nil, ds_cons, op_none, op_some, i_rng1, i_rng2, i_ov, ws_to, ws_then, ws_nx, ws_rt, ws_bk, ws_xc, ws_bad, wp_ok, wp_exc, wp_bad, wp_bind, ws_ite, wp_ite, gc_d, asData_d, kD_d, rd_d, entry, List.map, List.length, List.replicate, List.cons_append, List.nil_append, List.append_nil, List.getElem?_cons_zero, List.getElem?_cons_succ, List.set_cons_zero, List.set_cons_succ, List.take_length, take_app, take_same, take_set, gc_new, kb_add, kb_sub, kb_mul, kb_fdiv, kb_mod, kb_pow, kb_adds, kb_addt, kb_addl, kb_mult, kb_muls, kc_lt, kc_le, kc_gt, kc_ge, kc_eqi, kc_nei, kn, kt_bl, knot_bl, kbl_bl, at_bl, ab_bl, kl_scr, kl_tup, kl_lst, kl_str, ki_int, kt_tup, kt_lst, kx_scr, kx_tup, kx_lst, atI_0, atI_1, atI_2, atI_nat, rng1, rng2, alloc_eq, it_tup, it_lst, it_str, op_int, isl_new, push_app, asg, setAll, decide_eq_true_eq, reduceIte, Nat.sub_self, Nat.reduceSub, Bool.not_true, Bool.not_false, Bool.false_eq_true, Int.reduceMul, Int.reduceAdd, Int.reduceLT, and_self, and_true, true_and, c_60, c_48271, c_69621, c_16807, c_7, c_2, c_01000, Nat.reduceLeDiff, tup_0, lst_0, Nat.zero_le, map_snoc, List.length_map, List.map_nil, kc_ltc, kc_eqb, kisn_non, map_snocB, isi_0int, isi_0bool, isi_0str, isi_0tuple, isi_1int, isi_1bool, isi_1str, isi_1tuple, isi_2int, isi_2bool, isi_2str, isi_2tuple, isi_3int, isi_3bool, isi_3str, isi_3tuple, isi_4int, isi_4bool, isi_4str, isi_4tuple, kc_in1, kc_nin1, map_snocC, wipeE, take_set2, kpre_str, kx_str, push_set, get_setapp, take_setapp, map_snocS, set_len, bg1, bg2, bg3, gc_mid, Ob.data, set_app0]
    exact ⟨_, rfl⟩
  · rw [cont_nil, cont_cons]
    simp only [t_set1, t_set0, t_unp, t_seti, t_setf, t_app, t_ex, t_ife, t_for, t_whl, t_ret, t_rse0, t_brk, t_pas, e_con, e_var, e_bin, e_neg, e_cmp, e_isN, e_and, e_or, e_not, e_ite, e_call, e_blt, e_isi, e_meth, e_fld, e_idx, e_slc, e_rev, e_tup, e_lst, e_dct0, e_lc, e_gen, es_nil, es_cons, ds_nil, ds_cons, op_none, op_some, i_rng1, i_rng2, i_ov, ws_to, ws_then, ws_nx, ws_rt, ws_bk, ws_xc, ws_bad, wp_ok, wp_exc, wp_bad, wp_bind, ws_ite, wp_ite, gc_d, asData_d, kD_d, rd_d, entry, List.map, List.length, List.replicate, List.cons_append, List.nil_append, List.append_nil, List.getElem?_cons_zero, List.getElem?_cons_succ, List.set_cons_zero, List.set_cons_succ, List.take_length, take_app, take_same, take_set, gc_new, kb_add, kb_sub, kb_mul, kb_fdiv, kb_mod, kb_pow, kb_adds, kb_addt, kb_addl, kb_mult, kb_muls, kc_lt, kc_le, kc_gt, kc_ge, kc_eqi, kc_nei, kn, kt_bl, knot_bl, kbl_bl, at_bl, ab_bl, kl_scr, kl_tup, kl_lst, kl_str, ki_int, kt_tup, kt_lst, kx_scr, kx_tup, kx_lst, atI_0, atI_1, atI_2, atI_nat, rng1, rng2, alloc_eq, it_tup, it_lst, it_str, op_int, isl_new, push_app, asg, setAll, decide_eq_true_eq, reduceIte, Nat.sub_self, Nat.reduceSub, Bool.not_true, Bool.not_false, Bool.false_eq_true, Int.reduceMul, Int.reduceAdd, Int.reduceLT, and_self, and_true, true_and, c_60, c_48271, c_69621, c_16807, c_7, c_2, c_01000, Nat.reduceLeDiff, tup_0, lst_0, Nat.zero_le, map_snoc, List.length_map, List.map_nil, kc_ltc, kc_eqb, kisn_non, map_snocB, isi_0int, isi_0bool, isi_0str, isi_0tuple, isi_1int, isi_1bool, isi_1str, isi_1tuple, isi_2int, isi_2bool, isi_2str, isi_2tuple, isi_3int, isi_3bool, isi_3str, isi_3tuple, isi_4int, isi_4bool, isi_4str, isi_4tuple, kc_in1, kc_nin1, map_snocC, wipeE, take_set2, kpre_str, kx_str, push_set, get_setapp, take_setapp, map_snocS, set_len, bg1, bg2, bg3, gc_mid, Ob.data, set_app0]
    exact ⟨0, rfl⟩
theorem l_digits_ok (k : Nat) (z : Int) (j : Nat) (S : Store) : Wp (callF tbl (k + 1) 7 [.d (.int z), .d (.int j)] S) (fun v S' => v = .r S.length ∧ ∃ ds : List Int, S' = S ++ [.lst (ds.map .int)]) noX := by
  rw [wp_def H.t_l_digits rfl]
  unfold d_l_digits
  rw [cont_cons]
  simp only [t_set1, t_set0, t_unp, t_seti, t_setf, t_app, t_ex, t_ife, t_for, t_whl, t_ret, t_rse0, t_brk, t_pas, e_con, e_var, e_bin, e_neg, e_cmp, e_isN, e_and, e_or, e_not, e_ite, e_call, e_blt, e_isi, e_meth, e_fld, e_idx, e_slc, e_rev, e_tup, e_lst, e_dct0, e_lc, e_gen, es_nil, es_cons, ds_nil, ds_cons, op_none, op_some, i_rng1, i_rng2, i_ov, ws_to, ws_then, ws_nx, ws_rt, ws_bk, ws_xc, ws_bad, wp_ok, wp_exc, wp_bad, wp_bind, ws_ite, wp_ite, gc_d, asData_d, kD_d, rd_d, entry, List.map, List.length, List.replicate, List.cons_append, List.nil_append, List.append_nil, List.getElem?_cons_zero, List.getElem?_cons_succ, List.set_cons_zero, List.set_cons_succ, List.take_length, take_app, take_same, take_set, gc_new, kb_add, kb_sub, kb_mul, kb_fdiv, kb_mod, kb_pow, kb_adds, kb_addt, kb_addl, kb_mult, kb_muls, kc_lt, kc_le, kc_gt, kc_ge, kc_eqi, kc_nei, kn, kt_bl, knot_bl, kbl_bl, at_bl, ab_bl, kl_scr, kl_tup, kl_lst, kl_str, ki_int, kt_tup, kt_lst, kx_scr, kx_tup, kx_lst, atI_0, atI_1, atI_2, atI_nat, rng1, rng2, alloc_eq, it_tup, it_lst, it_str, op_int, isl_new, push_app, asg, setAll, decide_eq_true_eq, reduceIte, Nat.sub_self, Nat.reduceSub, Bool.not_true, Bool.not_false, Bool.false_eq_true, Int.reduceMul, Int.reduceAdd, Int.reduceLT, and_self, and_true, true_and, c_60, c_48271, c_69621, c_16807, c_7, c_2, c_01000, Nat.reduceLeDiff, tup_0, lst_0, Nat.zero_le, map_snoc, List.length_map, List.map_nil, kc_ltc, kc_eqb, kisn_non, map_snocB, isi_0int, isi_0bool, isi_0str, isi_0tuple, isi_1int, isi_1bool, isi_1str, isi_1tuple, isi_2int, isi_2bool, isi_2str, isi_2tuple, isi_3int, isi_3bool, isi_3str, isi_3tuple, isi_4int, isi_4bool, isi_4str, isi_4tuple, kc_in1, kc_nin1, map_snocC, wipeE, take_set2, kpre_str, kx_str, push_set, get_setapp, take_setapp, map_snocS, set_len, bg1, bg2, bg3, gc_mid, Ob.data, set_app0]
  refine cont_seq (fun ρ S' => ∃ c : Int, ρ = [some (.d (.int c)), some (.d (.int j)), some (.r S.length), none, none] ∧ S' = S ++ [.lst []]) ?_ ?_
  · simp only [t_set1, t_set0, t_unp, t_seti, t_setf, t_app, t_ex, t_ife, t_for, t_whl, t_ret, t_rse0, t_brk, t_pas, e_con, e_var, e_bin, e_neg, e_cmp, e_isN, e_and, e_or, e_not, e_ite, e_call, e_blt, e_isi, e_meth, e_fld, e_idx, e_slc, e_rev, e_tup, e_lst, e_dct0, e_lc, e_gen, es_nil, es_cons, ds_nil, ds_cons, op_none, op_some, i_rng1, i_rng2, i_ov, ws_to, ws_then, ws_nx, ws_rt, ws_bk, ws_xc, ws_bad, wp_ok, wp_exc, wp_bad, wp_bind, ws_ite, wp_ite, gc_d, asData_d, kD_d, rd_d, entry, List.map, List.length, List.replicate, List.cons_append, List.nil_append, List.append_nil, List.getElem?_cons_zero, List.getElem?_cons_succ, List.set_cons_zero, List.set_cons_succ, List.take_length, take_app, take_same, take_set, gc_new, kb_add, kb_sub, kb_mul, kb_fdiv, kb_mod, kb_pow, kb_adds, kb_addt, kb_addl, kb_mult, kb_muls, kc_lt, kc_le, kc_gt, kc_ge, kc_eqi, kc_nei, kn, kt_bl, knot_bl, kbl_bl, at_bl, ab_bl, kl_scr, kl_tup, kl_lst, kl_str, ki_int, kt_tup, kt_lst, kx_scr, kx_tup, kx_lst, atI_0, atI_1, atI_2, atI_nat, rng1, rng2, alloc_eq, it_tup, it_lst, it_str, op_int, isl_new, push_app, asg, setAll, decide_eq_true_eq, reduceIte, Nat.sub_self, Nat.reduceSub, Bool.not_true, Bool.not_false, Bool.false_eq_true, Int.reduceMul, Int.reduceAdd, Int.reduceLT, and_self, and_true, true_and, c_60, c_48271, c_69621, c_16807, c_7, c_2, c_01000, Nat.reduceLeDiff, tup_0, lst_0, Nat.zero_le, map_snoc, List.length_map, List.map_nil, kc_ltc, kc_eqb, kisn_non, map_snocB, isi_0int, isi_0bool, isi_0str, isi_0tuple, isi_1int, isi_1bool, isi_1str, isi_1tuple, isi_2int, isi_2bool, isi_2str, isi_2tuple, isi_3int, isi_3bool, isi_3str, isi_3tuple, isi_4int, isi_4bool, isi_4str, isi_4tuple, kc_in1, kc_nin1, map_snocC, wipeE, take_set2, kpre_str, kx_str, push_set, get_setapp, take_setapp, map_snocS, set_len, bg1, bg2, bg3, gc_mid, Ob.data, set_app0]
    split
    · rw [cont_cons]
      simp only [t_set1, t_set0, t_unp, t_seti, t_setf, t_app, t_ex, t_ife, t_for, t_whl, t_ret, t_rse0, t_brk, t_pas, e_con, e_var, e_bin, e_neg, e_cmp, e_isN, e_and, e_or, e_not, e_ite, e_call, e_blt, e_isi, e_meth, e_fld, e_idx, e_slc, e_rev, e_tup, e_lst, e_dct0, e_lc, e_gen, es_nil, es_cons, ds_nil, ds_cons, op_none, op_some, i_rng1, i_rng2, i_ov, ws_to, ws_then, ws_nx, ws_rt, ws_bk, ws_xc, ws_bad, wp_ok, wp_exc, wp_bad, wp_bind, ws_ite, wp_ite, gc_d, asData_d, kD_d, rd_d, entry, List.map, List.length, List.replicate, List.cons_append, List.nil_append, List.append_nil, List.getElem?_cons_zero, List.getElem?_cons_succ, List.set_cons_zero, List.set_cons_succ, List.take_length, take_app, take_same, take_set, gc_new, kb_add, kb_sub, kb_mul, kb_fdiv, kb_mod, kb_pow, kb_adds, kb_addt, kb_addl, kb_mult, kb_muls, kc_lt, kc_le, kc_gt, kc_ge, kc_eqi, kc_nei, kn, kt_bl, knot_bl, kbl_bl, at_bl, ab_bl, kl_scr, kl_tup, kl_lst, kl_str, ki_int, kt_tup, kt_lst, kx_scr, kx_tup, kx_lst, atI_0, atI_1, atI_2, atI_nat, rng1, rng2, alloc_eq, it_tup, it_lst, it_str, op_int, isl_new, push_app, asg, setAll, decide_eq_true_eq, reduceIte, Nat.sub_self, Nat.reduceSub, Bool.not_true, Bool.not_false, Bool.false_eq_true, Int.reduceMul, Int.reduceAdd, Int.reduceLT, and_self, and_true, true_and, c_60, c_48271, c_69621, c_16807, c_7, c_2, c_01000, Nat.reduceLeDiff, tup_0, lst_0, Nat.zero_le, map_snoc, List.length_map, List.map_nil, kc_ltc, kc_eqb, kisn_non, map_snocB, isi_0int, isi_0bool, isi_0str, isi_0tuple, isi_1int, isi_1bool, isi_1str, isi_1tuple, isi_2int, isi_2bool, isi_2str, isi_2tuple, isi_3int, isi_3bool, isi_3str, isi_3tuple, isi_4int, isi_4bool, isi_4str, isi_4tuple, kc_in1, kc_nin1, map_snocC, wipeE, take_set2, kpre_str, kx_str, push_set, get_setapp, take_setapp, map_snocS, set_len, bg1, bg2, bg3, gc_mid, Ob.data, set_app0]
      rw [cont_nil]
      exact ⟨_, rfl, rfl⟩
    · rw [cont_nil]
      exact ⟨_, rfl, rfl⟩
  rintro ρ S' ⟨c, rfl, rfl⟩
  refine cont_seq (fun ρ S' => ρ[2]? = some (some (.r S.length)) ∧ ∃ ds : List Int, S' = S ++ [.lst (ds.map .int)]) ?_ ?_
  · simp only [t_set1, t_set0, t_unp, t_seti, t_setf, t_app, t_ex, t_ife, t_for, t_whl, t_ret, t_rse0, t_brk, t_pas, e_con, e_var, e_bin, e_neg, e_cmp, e_isN, e_and, e_or, e_not, e_ite, e_call, e_blt, e_isi, e_meth, e_fld, e_idx, e_slc, e_rev, e_tup, e_lst, e_dct0, e_lc, e_gen, es_nil, es_cons, ds_nil, ds_cons, op_none, op_some, i_rng1, i_rng2, i_ov, ws_to, ws_then, ws_nx, ws_rt, ws_bk, ws_xc, ws_bad, wp_ok, wp_exc, wp_bad, wp_bind, ws_ite, wp_ite, gc_d, asData_d, kD_d, rd_d, entry, List.map, List.length, List.replicate, List.cons_append, List.nil_append, List.append_nil, List.getElem?_cons_zero, List.getElem?_cons_succ, List.set_cons_zero, List.set_cons_succ, List.take_length, take_app, take_same, take_set, gc_new, kb_add, kb_sub, kb_mul, kb_fdiv, kb_mod, kb_pow, kb_adds, kb_addt, kb_addl, kb_mult, kb_muls, kc_lt, kc_le, kc_gt, kc_ge, kc_eqi, kc_nei, kn, kt_bl, knot_bl, kbl_bl, at_bl, ab_bl, kl_scr, kl_tup, kl_lst, kl_str, ki_int, kt_tup, kt_lst, kx_scr, kx_tup, kx_lst, atI_0, atI_1, atI_2, atI_nat, rng1, rng2, alloc_eq, it_tup, it_lst, it_str, op_int, isl_new, push_app, asg, setAll, decide_eq_true_eq, reduceIte, Nat.sub_self, Nat.reduceSub, Bool.not_true, Bool.not_false, Bool.false_eq_true, Int.reduceMul, Int.reduceAdd, Int.reduceLT, and_self, and_true, true_and, c_60, c_48271, c_69621, c_16807, c_7, c_2, c_01000, Nat.reduceLeDiff, tup_0, lst_0, Nat.zero_le, map_snoc, List.length_map, List.map_nil, kc_ltc, kc_eqb, kisn_non, map_snocB, isi_0int, isi_0bool, isi_0str, isi_0tuple, isi_1int, isi_1bool, isi_1str, isi_1tuple, isi_2int, isi_2bool, isi_2str, isi_2tuple, isi_3int, isi_3bool, isi_3str, isi_3tuple, isi_4int, isi_4bool, isi_4str, isi_4tuple, kc_in1, kc_nin1, map_snocC, wipeE, take_set2, kpre_str, kx_str, push_set, get_setapp, take_setapp, map_snocS, set_len, bg1, bg2, bg3, gc_mid, Ob.data, set_app0]
    simp only [Int.reduceLE, Nat.reducePow, Int.reduceToNat, Int.reducePow, c_01000, and_self, reduceIte]
    split
    · rw [cont_cons]
      simp only [t_set1, t_set0, t_unp, t_seti, t_setf, t_app, t_ex, t_ife, t_for, t_whl, t_ret, t_rse0, t_brk, t_pas, e_con, e_var, e_bin, e_neg, e_cmp, e_isN, e_and, e_or, e_not, e_ite, e_call, e_blt, e_isi, e_meth, e_fld, e_idx, e_slc, e_rev, e_tup, e_lst, e_dct0, e_lc, e_gen, es_nil, es_cons, ds_nil, ds_cons, op_none, op_some, i_rng1, i_rng2, i_ov, ws_to, ws_then, ws_nx, ws_rt, ws_bk, ws_xc, ws_bad, wp_ok, wp_exc, wp_bad, wp_bind, ws_ite, wp_ite, gc_d, asData_d, kD_d, rd_d, entry, List.map, List.length, List.replicate, List.cons_append, List.nil_append, List.append_nil, List.getElem?_cons_zero, List.getElem?_cons_succ, List.set_cons_zero, List.set_cons_succ, List.take_length, take_app, take_same, take_set, gc_new, kb_add, kb_sub, kb_mul, kb_fdiv, kb_mod, kb_pow, kb_adds, kb_addt, kb_addl, kb_mult, kb_muls, kc_lt, kc_le, kc_gt, kc_ge, kc_eqi, kc_nei, kn, kt_bl, knot_bl, kbl_bl, at_bl, ab_bl, kl_scr, kl_tup, kl_lst, kl_str, ki_int, kt_tup, kt_lst, kx_scr, kx_tup, kx_lst, atI_0, atI_1, atI_2, atI_nat, rng1, rng2, alloc_eq, it_tup, it_lst, it_str, op_int, isl_new, push_app, asg, setAll, decide_eq_true_eq, reduceIte, Nat.sub_self, Nat.reduceSub, Bool.not_true, Bool.not_false, Bool.false_eq_true, Int.reduceMul, Int.reduceAdd, Int.reduceLT, and_self, and_true, true_and, c_60, c_48271, c_69621, c_16807, c_7, c_2, c_01000, Nat.reduceLeDiff, tup_0, lst_0, Nat.zero_le, map_snoc, List.length_map, List.map_nil, kc_ltc, kc_eqb, kisn_non, map_snocB, isi_0int, isi_0bool, isi_0str, isi_0tuple, isi_1int, isi_1bool, isi_1str, isi_1tuple, isi_2int, isi_2bool, isi_2str, isi_2tuple, isi_3int, isi_3bool, isi_3str, isi_3tuple, isi_4int, isi_4bool, isi_4str, isi_4tuple, kc_in1, kc_nin1, map_snocC, wipeE, take_set2, kpre_str, kx_str, push_set, get_setapp, take_setapp, map_snocS, set_len, bg1, bg2, bg3, gc_mid, Ob.data, set_app0]
      refine ws_for (fun i ρ S' => ∃ (c : Int) (x3 : Option Vl) (ds : List Int), ρ = [some (.d (.int c)), some (.d (.int j)), some (.r S.length), x3, none] ∧ S' = S ++ [.lst (ds.map .int)] ∧ ds.length ≤ i) _ 0 _ _ ⟨_, _, [], rfl, rfl, Nat.le_refl _⟩ ?_ ?_
      · rintro i x ρ S' hx ⟨c, x3, ds, rfl, rfl, hl⟩
        obtain ⟨hi, rfl⟩ := rngL_get hx
        refine ⟨_, rfl, ?_⟩
        rw [ws_block, cont_cons]
        simp only [t_set1, t_set0, t_unp, t_seti, t_setf, t_app, t_ex, t_ife, t_for, t_whl, t_ret, t_rse0, t_brk, t_pas, e_con, e_var, e_bin, e_neg, e_cmp, e_isN, e_and, e_or, e_not, e_ite, e_call, e_blt, e_isi, e_meth, e_fld, e_idx, e_slc, e_rev, e_tup, e_lst, e_dct0, e_lc, e_gen, es_nil, es_cons, ds_nil, ds_cons, op_none, op_some, i_rng1, i_rng2, i_ov, ws_to, ws_then, ws_nx, ws_rt, ws_bk, ws_xc, ws_bad, wp_ok, wp_exc, wp_bad, wp_bind, ws_ite, wp_ite, gc_d, asData_d, kD_d, rd_d, entry, List.map, List.length, List.replicate, List.cons_append, List.nil_append, List.append_nil, List.getElem?_cons_zero, List.getElem?_cons_succ, List.set_cons_zero, List.set_cons_succ, List.take_length, take_app, take_same, take_set, gc_new, kb_add, kb_sub, kb_mul, kb_fdiv, kb_mod, kb_pow, kb_adds, kb_addt, kb_addl, kb_mult, kb_muls, kc_lt, kc_le, kc_gt, kc_ge, kc_eqi, kc_nei, kn, kt_bl, knot_bl, kbl_bl, at_bl, ab_bl, kl_scr, kl_tup, kl_lst, kl_str, ki_int, kt_tup, kt_lst, kx_scr, kx_tup, kx_lst, atI_0, atI_1, atI_2, atI_nat, rng1, rng2, alloc_eq, it_tup, it_lst, it_str, op_int, isl_new, push_app, asg, setAll, decide_eq_true_eq, reduceIte, Nat.sub_self, Nat.reduceSub, Bool.not_true, Bool.not_false, Bool.false_eq_true, Int.reduceMul, Int.reduceAdd, Int.reduceLT, and_self, and_true, true_and, c_60, c_48271, c_69621, c_16807, c_7, c_2, c_01000, Nat.reduceLeDiff, tup_0, lst_0, Nat.zero_le, map_snoc, List.length_map, List.map_nil, kc_ltc, kc_eqb, kisn_non, map_snocB, isi_0int, isi_0bool, isi_0str, isi_0tuple, isi_1int, isi_1bool, isi_1str, isi_1tuple, isi_2int, isi_2bool, isi_2str, isi_2tuple, isi_3int, isi_3bool, isi_3str, isi_3tuple, isi_4int, isi_4bool, isi_4str, isi_4tuple, kc_in1, kc_nin1, map_snocC, wipeE, take_set2, kpre_str, kx_str, push_set, get_setapp, take_setapp, map_snocS, set_len, bg1, bg2, bg3, gc_mid, Ob.data, set_app0]
        have hB : ds.length < BIG := big_of hl (by have : (60 : Int).toNat = 60 := rfl
                                                   omega)
        split
        · rw [cont_cons]
          simp only [t_set1, t_set0, t_unp, t_seti, t_setf, t_app, t_ex, t_ife, t_for, t_whl, t_ret, t_rse0, t_brk, t_pas, e_con, e_var, e_bin, e_neg, e_cmp, e_isN, e_and, e_or, e_not, e_ite, e_call, e_blt, e_isi, e_meth, e_fld, e_idx, e_slc, e_rev, e_tup, e_lst, e_dct0, e_lc, e_gen, es_nil, es_cons, ds_nil, ds_cons, op_none, op_some, i_rng1, i_rng2, i_ov, ws_to, ws_then, ws_nx, ws_rt, ws_bk, ws_xc, ws_bad, wp_ok, wp_exc, wp_bad, wp_bind, ws_ite, wp_ite, gc_d, asData_d, kD_d, rd_d, entry, List.map, List.length, List.replicate, List.cons_append, List.nil_append, List.append_nil, List.getElem?_cons_zero, List.getElem?_cons_succ, List.set_cons_zero, List.set_cons_succ, List.take_length, take_app, take_same, take_set, gc_new, kb_add, kb_sub, kb_mul, kb_fdiv, kb_mod, kb_pow, kb_adds, kb_addt, kb_addl, kb_mult, kb_muls, kc_lt, kc_le, kc_gt, kc_ge, kc_eqi, kc_nei, kn, kt_bl, knot_bl, kbl_bl, at_bl, ab_bl, kl_scr, kl_tup, kl_lst, kl_str, ki_int, kt_tup, kt_lst, kx_scr, kx_tup, kx_lst, atI_0, atI_1, atI_2, atI_nat, rng1, rng2, alloc_eq, it_tup, it_lst, it_str, op_int, isl_new, push_app, asg, setAll, decide_eq_true_eq, reduceIte, Nat.sub_self, Nat.reduceSub, Bool.not_true, Bool.not_false, Bool.false_eq_true, Int.reduceMul, Int.reduceAdd, Int.reduceLT, and_self, and_true, true_and, c_60, c_48271, c_69621, c_16807, c_7, c_2, c_01000, Nat.reduceLeDiff, tup_0, lst_0, Nat.zero_le, map_snoc, List.length_map, List.map_nil, kc_ltc, kc_eqb, kisn_non, map_snocB, isi_0int, isi_0bool, isi_0str, isi_0tuple, isi_1int, isi_1bool, isi_1str, isi_1tuple, isi_2int, isi_2bool, isi_2str, isi_2tuple, isi_3int, isi_3bool, isi_3str, isi_3tuple, isi_4int, isi_4bool, isi_4str, isi_4tuple, kc_in1, kc_nin1, map_snocC, wipeE, take_set2, kpre_str, kx_str, push_set, get_setapp, take_setapp, map_snocS, set_len, bg1, bg2, bg3, gc_mid, Ob.data, set_app0]
          rw [cont_cons]
          simp only [t_set1, t_set0, t_unp, t_seti, t_setf, t_app, t_ex, t_ife, t_for, t_whl, t_ret, t_rse0, t_brk, t_pas, e_con, e_var, e_bin, e_neg, e_cmp, e_isN, e_and, e_or, e_not, e_ite, e_call, e_blt, e_isi, e_meth, e_fld, e_idx, e_slc, e_rev, e_tup, e_lst, e_dct0, e_lc, e_gen, es_nil, es_cons, ds_nil, ds_cons, op_none, op_some, i_rng1, i_rng2, i_ov, ws_to, ws_then, ws_nx, ws_rt, ws_bk, ws_xc, ws_bad, wp_ok, wp_exc, wp_bad, wp_bind, ws_ite, wp_ite, gc_d, asData_d, kD_d, rd_d, entry, List.map, List.length, List.replicate, List.cons_append, List.nil_append, List.append_nil, List.getElem?_cons_zero, List.getElem?_cons_succ, List.set_cons_zero, List.set_cons_succ, List.take_length, take_app, take_same, take_set, gc_new, kb_add, kb_sub, kb_mul, kb_fdiv, kb_mod, kb_pow, kb_adds, kb_addt, kb_addl, kb_mult, kb_muls, kc_lt, kc_le, kc_gt, kc_ge, kc_eqi, kc_nei, kn, kt_bl, knot_bl, kbl_bl, at_bl, ab_bl, kl_scr, kl_tup, kl_lst, kl_str, ki_int, kt_tup, kt_lst, kx_scr, kx_tup, kx_lst, atI_0, atI_1, atI_2, atI_nat, rng1, rng2, alloc_eq, it_tup, it_lst, it_str, op_int, isl_new, push_app, asg, setAll, decide_eq_true_eq, reduceIte, Nat.sub_self, Nat.reduceSub, Bool.not_true, Bool.not_false, Bool.false_eq_true, Int.reduceMul, Int.reduceAdd, Int.reduceLT, and_self, and_true, true_and, c_60, c_48271, c_69621, c_16807, c_7, c_2, c_01000, Nat.reduceLeDiff, tup_0, lst_0, Nat.zero_le, map_snoc, List.length_map, List.map_nil, kc_ltc, kc_eqb, kisn_non, map_snocB, isi_0int, isi_0bool, isi_0str, isi_0tuple, isi_1int, isi_1bool, isi_1str, isi_1tuple, isi_2int, isi_2bool, isi_2str, isi_2tuple, isi_3int, isi_3bool, isi_3str, isi_3tuple, isi_4int, isi_4bool, isi_4str, isi_4tuple, kc_in1, kc_nin1, map_snocC, wipeE, take_set2, kpre_str, kx_str, push_set, get_setapp, take_setapp, map_snocS, set_len, bg1, bg2, bg3, gc_mid, Ob.data, set_app0, hB]
          rw [cont_nil, cont_nil]
          exact ⟨_, _, _, rfl, rfl, by simp; omega⟩
        · rw [cont_nil, cont_nil]
          exact ⟨_, _, ds, rfl, rfl, by omega⟩
      · rintro ρ S' ⟨c, x3, ds, rfl, rfl, hl⟩
        rw [cont_nil]
        exact ⟨rfl, ds, rfl⟩
    · rw [cont_cons]
      simp only [t_set1, t_set0, t_unp, t_seti, t_setf, t_app, t_ex, t_ife, t_for, t_whl, t_ret, t_rse0, t_brk, t_pas, e_con, e_var, e_bin, e_neg, e_cmp, e_isN, e_and, e_or, e_not, e_ite, e_call, e_blt, e_isi, e_meth, e_fld, e_idx, e_slc, e_rev, e_tup, e_lst, e_dct0, e_lc, e_gen, es_nil, es_cons, ds_nil, ds_cons, op_none, op_some, i_rng1, i_rng2, i_ov, ws_to, ws_then, ws_nx, ws_rt, ws_bk, ws_xc, ws_bad, wp_ok, wp_exc, wp_bad, wp_bind, ws_ite, wp_ite, gc_d, asData_d, kD_d, rd_d, entry, List.map, List.length, List.replicate, List.cons_append, List.nil_append, List.append_nil, List.getElem?_cons_zero, List.getElem?_cons_succ, List.set_cons_zero, List.set_cons_succ, List.take_length, take_app, take_same, take_set, gc_new, kb_add, kb_sub, kb_mul, kb_fdiv, kb_mod, kb_pow, kb_adds, kb_addt, kb_addl, kb_mult, kb_muls, kc_lt, kc_le, kc_gt, kc_ge, kc_eqi, kc_nei, kn, kt_bl, knot_bl, kbl_bl, at_bl, ab_bl, kl_scr, kl_tup, kl_lst, kl_str, ki_int, kt_tup, kt_lst, kx_scr, kx_tup, kx_lst, atI_0, atI_1, atI_2, atI_nat, rng1, rng2, alloc_eq, it_tup, it_lst, it_str, op_int, isl_new, push_app, asg, setAll, decide_eq_true_eq, reduceIte, Nat.sub_self, Nat.reduceSub, Bool.not_true, Bool.not_false, Bool.false_eq_true, Int.reduceMul, Int.reduceAdd, Int.reduceLT, and_self, and_true, true_and, c_60, c_48271, c_69621, c_16807, c_7, c_2, c_01000, Nat.reduceLeDiff, tup_0, lst_0, Nat.zero_le, map_snoc, List.length_map, List.map_nil, kc_ltc, kc_eqb, kisn_non, map_snocB, isi_0int, isi_0bool, isi_0str, isi_0tuple, isi_1int, isi_1bool, isi_1str, isi_1tuple, isi_2int, isi_2bool, isi_2str, isi_2tuple, isi_3int, isi_3bool, isi_3str, isi_3tuple, isi_4int, isi_4bool, isi_4str, isi_4tuple, kc_in1, kc_nin1, map_snocC, wipeE, take_set2, kpre_str, kx_str, push_set, get_setapp, take_setapp, map_snocS, set_len, bg1, bg2, bg3, gc_mid, Ob.data, set_app0]
      generalize (c * 48271 + ↑j * 69621 + 11) % 2147483647 = e0
      rw [cont_cons]
      simp only [t_set1, t_set0, t_unp, t_seti, t_setf, t_app, t_ex, t_ife, t_for, t_whl, t_ret, t_rse0, t_brk, t_pas, e_con, e_var, e_bin, e_neg, e_cmp, e_isN, e_and, e_or, e_not, e_ite, e_call, e_blt, e_isi, e_meth, e_fld, e_idx, e_slc, e_rev, e_tup, e_lst, e_dct0, e_lc, e_gen, es_nil, es_cons, ds_nil, ds_cons, op_none, op_some, i_rng1, i_rng2, i_ov, ws_to, ws_then, ws_nx, ws_rt, ws_bk, ws_xc, ws_bad, wp_ok, wp_exc, wp_bad, wp_bind, ws_ite, wp_ite, gc_d, asData_d, kD_d, rd_d, entry, List.map, List.length, List.replicate, List.cons_append, List.nil_append, List.append_nil, List.getElem?_cons_zero, List.getElem?_cons_succ, List.set_cons_zero, List.set_cons_succ, List.take_length, take_app, take_same, take_set, gc_new, kb_add, kb_sub, kb_mul, kb_fdiv, kb_mod, kb_pow, kb_adds, kb_addt, kb_addl, kb_mult, kb_muls, kc_lt, kc_le, kc_gt, kc_ge, kc_eqi, kc_nei, kn, kt_bl, knot_bl, kbl_bl, at_bl, ab_bl, kl_scr, kl_tup, kl_lst, kl_str, ki_int, kt_tup, kt_lst, kx_scr, kx_tup, kx_lst, atI_0, atI_1, atI_2, atI_nat, rng1, rng2, alloc_eq, it_tup, it_lst, it_str, op_int, isl_new, push_app, asg, setAll, decide_eq_true_eq, reduceIte, Nat.sub_self, Nat.reduceSub, Bool.not_true, Bool.not_false, Bool.false_eq_true, Int.reduceMul, Int.reduceAdd, Int.reduceLT, and_self, and_true, true_and, c_60, c_48271, c_69621, c_16807, c_7, c_2, c_01000, Nat.reduceLeDiff, tup_0, lst_0, Nat.zero_le, map_snoc, List.length_map, List.map_nil, kc_ltc, kc_eqb, kisn_non, map_snocB, isi_0int, isi_0bool, isi_0str, isi_0tuple, isi_1int, isi_1bool, isi_1str, isi_1tuple, isi_2int, isi_2bool, isi_2str, isi_2tuple, isi_3int, isi_3bool, isi_3str, isi_3tuple, isi_4int, isi_4bool, isi_4str, isi_4tuple, kc_in1, kc_nin1, map_snocC, wipeE, take_set2, kpre_str, kx_str, push_set, get_setapp, take_setapp, map_snocS, set_len, bg1, bg2, bg3, gc_mid, Ob.data, set_app0]
      refine ws_for (fun i ρ S' => ∃ (e : Int) (x3 : Option Vl) (ds : List Int), ρ = [some (.d (.int c)), some (.d (.int j)), some (.r S.length), x3, some (.d (.int e))] ∧ S' = S ++ [.lst (ds.map .int)] ∧ ds.length ≤ i) _ 0 _ _ ⟨_, _, [], rfl, rfl, Nat.le_refl _⟩ ?_ ?_
      · rintro i x ρ S' hx ⟨c, x3, ds, rfl, rfl, hl⟩
        obtain ⟨hi, rfl⟩ := rngL_get hx
        refine ⟨_, rfl, ?_⟩
        rw [ws_block, cont_cons]
        simp only [t_set1, t_set0, t_unp, t_seti, t_setf, t_app, t_ex, t_ife, t_for, t_whl, t_ret, t_rse0, t_brk, t_pas, e_con, e_var, e_bin, e_neg, e_cmp, e_isN, e_and, e_or, e_not, e_ite, e_call, e_blt, e_isi, e_meth, e_fld, e_idx, e_slc, e_rev, e_tup, e_lst, e_dct0, e_lc, e_gen, es_nil, es_cons, ds_nil, ds_cons, op_none, op_some, i_rng1, i_rng2, i_ov, ws_to, ws_then, ws_nx, ws_rt, ws_bk, ws_xc, ws_bad, wp_ok, wp_exc, wp_bad, wp_bind, ws_ite, wp_ite, gc_d, asData_d, kD_d, rd_d, entry, List.map, List.length, List.replicate, List.cons_append, List.nil_append, List.append_nil, List.getElem?_cons_zero, List.getElem?_cons_succ, List.set_cons_zero, List.set_cons_succ, List.take_length, take_app, take_same, take_set, gc_new, kb_add, kb_sub, kb_mul, kb_fdiv, kb_mod, kb_pow, kb_adds, kb_addt, kb_addl, kb_mult, kb_muls, kc_lt, kc_le, kc_gt, kc_ge, kc_eqi, kc_nei, kn, kt_bl, knot_bl, kbl_bl, at_bl, ab_bl, kl_scr, kl_tup, kl_lst, kl_str, ki_int, kt_tup, kt_lst, kx_scr, kx_tup, kx_lst, atI_0, atI_1, atI_2, atI_nat, rng1, rng2, alloc_eq, it_tup, it_lst, it_str, op_int, isl_new, push_app, asg, setAll, decide_eq_true_eq, reduceIte, Nat.sub_self, Nat.reduceSub, Bool.not_true, Bool.not_false, Bool.false_eq_true, Int.reduceMul, Int.reduceAdd, Int.reduceLT, and_self, and_true, true_and, c_60, c_48271, c_69621, c_16807, c_7, c_2, c_01000, Nat.reduceLeDiff, tup_0, lst_0, Nat.zero_le, map_snoc, List.length_map, List.map_nil, kc_ltc, kc_eqb, kisn_non, map_snocB, isi_0int, isi_0bool, isi_0str, isi_0tuple, isi_1int, isi_1bool, isi_1str, isi_1tuple, isi_2int, isi_2bool, isi_2str, isi_2tuple, isi_3int, isi_3bool, isi_3str, isi_3tuple, isi_4int, isi_4bool, isi_4str, isi_4tuple, kc_in1, kc_nin1, map_snocC, wipeE, take_set2, kpre_str, kx_str, push_set, get_setapp, take_setapp, map_snocS, set_len, bg1, bg2, bg3, gc_mid, Ob.data, set_app0]
        generalize (c * 16807 + 7 * (0 + (i : Int)) + 1) % 2147483647 = e1
        have hB : ds.length < BIG := big_of hl (by have : (60 : Int).toNat = 60 := rfl
                                                   omega)
        rw [cont_cons]
        simp only [t_set1, t_set0, t_unp, t_seti, t_setf, t_app, t_ex, t_ife, t_for, t_whl, t_ret, t_rse0, t_brk, t_pas, e_con, e_var, e_bin, e_neg, e_cmp, e_isN, e_and, e_or, e_not, e_ite, e_call, e_blt, e_isi, e_meth, e_fld, e_idx, e_slc, e_rev, e_tup, e_lst, e_dct0, e_lc, e_gen, es_nil, es_cons, ds_nil, ds_cons, op_none, op_some, i_rng1, i_rng2, i_ov, ws_to, ws_then, ws_nx, ws_rt, ws_bk, ws_xc, ws_bad, wp_ok, wp_exc, wp_bad, wp_bind, ws_ite, wp_ite, gc_d, asData_d, kD_d, rd_d, entry, List.map, List.length, List.replicate, List.cons_append, List.nil_append, List.append_nil, List.getElem?_cons_zero, List.getElem?_cons_succ, List.set_cons_zero, List.set_cons_succ, List.take_length, take_app, take_same, take_set, gc_new, kb_add, kb_sub, kb_mul, kb_fdiv, kb_mod, kb_pow, kb_adds, kb_addt, kb_addl, kb_mult, kb_muls, kc_lt, kc_le, kc_gt, kc_ge, kc_eqi, kc_nei, kn, kt_bl, knot_bl, kbl_bl, at_bl, ab_bl, kl_scr, kl_tup, kl_lst, kl_str, ki_int, kt_tup, kt_lst, kx_scr, kx_tup, kx_lst, atI_0, atI_1, atI_2, atI_nat, rng1, rng2, alloc_eq, it_tup, it_lst, it_str, op_int, isl_new, push_app, asg, setAll, decide_eq_true_eq, reduceIte, Nat.sub_self, Nat.reduceSub, Bool.not_true, Bool.not_false, Bool.false_eq_true, Int.reduceMul, Int.reduceAdd, Int.reduceLT, and_self, and_true, true_and, c_60, c_48271, c_69621, c_16807, c_7, c_2, c_01000, Nat.reduceLeDiff, tup_0, lst_0, Nat.zero_le, map_snoc, List.length_map, List.map_nil, kc_ltc, kc_eqb, kisn_non, map_snocB, isi_0int, isi_0bool, isi_0str, isi_0tuple, isi_1int, isi_1bool, isi_1str, isi_1tuple, isi_2int, isi_2bool, isi_2str, isi_2tuple, isi_3int, isi_3bool, isi_3str, isi_3tuple, isi_4int, isi_4bool, isi_4str, isi_4tuple, kc_in1, kc_nin1, map_snocC, wipeE, take_set2, kpre_str, kx_str, push_set, get_setapp, take_setapp, map_snocS, set_len, bg1, bg2, bg3, gc_mid, Ob.data, set_app0, hB]
        rw [cont_nil]
        exact ⟨_, _, _, rfl, rfl, by simp; omega⟩
      · rintro ρ S' ⟨c, x3, ds, rfl, rfl, hl⟩
        rw [cont_nil]
        exact ⟨rfl, ds, rfl⟩
  · rintro ρ S' ⟨h2, ds, rfl⟩
    rw [cont_cons]
    simp only [t_set1, t_set0, t_unp, t_seti, t_setf, t_app, t_ex, t_ife, t_for, t_whl, t_ret, t_rse0, t_brk, t_pas, e_con, e_var, e_bin, e_neg, e_cmp, e_isN, e_and, e_or, e_not, e_ite, e_call, e_blt, e_isi, e_meth, e_fld, e_idx, e_slc, e_rev, e_tup, e_lst, e_dct0, e_lc, e_gen, es_nil, es_cons, ds_nil, ds_cons, op_none, op_some, i_rng1, i_rng2, i_ov, ws_to, ws_then, ws_nx, ws_rt, ws_bk, ws_xc, ws_bad, wp_ok, wp_exc, wp_bad, wp_bind, ws_ite, wp_ite, gc_d, asData_d, kD_d, rd_d, entry, List.map, List.length, List.replicate, List.cons_append, List.nil_append, List.append_nil, List.getElem?_cons_zero, List.getElem?_cons_succ, List.set_cons_zero, List.set_cons_succ, List.take_length, take_app, take_same, take_set, gc_new, kb_add, kb_sub, kb_mul, kb_fdiv, kb_mod, kb_pow, kb_adds, kb_addt, kb_addl, kb_mult, kb_muls, kc_lt, kc_le, kc_gt, kc_ge, kc_eqi, kc_nei, kn, kt_bl, knot_bl, kbl_bl, at_bl, ab_bl, kl_scr, kl_tup, kl_lst, kl_str, ki_int, kt_tup, kt_lst, kx_scr, kx_tup, kx_lst, atI_0, atI_1, atI_2, atI_nat, rng1, rng2, alloc_eq, it_tup, it_lst, it_str, op_int, isl_new, push_app, asg, setAll, decide_eq_true_eq, reduceIte, Nat.sub_self, Nat.reduceSub, Bool.not_true, Bool.not_false, Bool.false_eq_true, Int.reduceMul, Int.reduceAdd, Int.reduceLT, and_self, and_true, true_and, c_60, c_48271, c_69621, c_16807, c_7, c_2, c_01000, Nat.reduceLeDiff, tup_0, lst_0, Nat.zero_le, map_snoc, List.length_map, List.map_nil, kc_ltc, kc_eqb, kisn_non, map_snocB, isi_0int, isi_0bool, isi_0str, isi_0tuple, isi_1int, isi_1bool, isi_1str, isi_1tuple, isi_2int, isi_2bool, isi_2str, isi_2tuple, isi_3int, isi_3bool, isi_3str, isi_3tuple, isi_4int, isi_4bool, isi_4str, isi_4tuple, kc_in1, kc_nin1, map_snocC, wipeE, take_set2, kpre_str, kx_str, push_set, get_setapp, take_setapp, map_snocS, set_len, bg1, bg2, bg3, gc_mid, Ob.data, set_app0, h2]
    exact ⟨ds, rfl⟩
theorem l_box_ok (k : Nat) (ns : List Int) (j : Nat) (S : Store) : Wp (callF tbl (k + 2) 8 [.d (.scr ns), .d (.int j)] S) (fun v S' => v = .r S.length ∧ ∃ b, IsBox b ∧ S' = S ++ [b]) noX := by
  rw [wp_def H.t_l_box rfl]
  unfold d_l_box
  rw [cont_cons]
  simp only [t_set1, t_set0, t_unp, t_seti, t_setf, t_app, t_ex, t_ife, t_for, t_whl, t_ret, t_rse0, t_brk, t_pas, e_con, e_var, e_bin, e_neg, e_cmp, e_isN, e_and, e_or, e_not, e_ite, e_call, e_blt, e_isi, e_meth, e_fld, e_idx, e_slc, e_rev, e_tup, e_lst, e_dct0, e_lc, e_gen, es_nil, es_cons, ds_nil, ds_cons, op_none, op_some, i_rng1, i_rng2, i_ov, ws_to, ws_then, ws_nx, ws_rt, ws_bk, ws_xc, ws_bad, wp_ok, wp_exc, wp_bad, wp_bind, ws_ite, wp_ite, gc_d, asData_d, kD_d, rd_d, entry, List.map, List.length, List.replicate, List.cons_append, List.nil_append, List.append_nil, List.getElem?_cons_zero, List.getElem?_cons_succ, List.set_cons_zero, List.set_cons_succ, List.take_length, take_app, take_same, take_set, gc_new, kb_add, kb_sub, kb_mul, kb_fdiv, kb_mod, kb_pow, kb_adds, kb_addt, kb_addl, kb_mult, kb_muls, kc_lt, kc_le, kc_gt, kc_ge, kc_eqi, kc_nei, kn, kt_bl, knot_bl, kbl_bl, at_bl, ab_bl, kl_scr, kl_tup, kl_lst, kl_str, ki_int, kt_tup, kt_lst, kx_scr, kx_tup, kx_lst, atI_0, atI_1, atI_2, atI_nat, rng1, rng2, alloc_eq, it_tup, it_lst, it_str, op_int, isl_new, push_app, asg, setAll, decide_eq_true_eq, reduceIte, Nat.sub_self, Nat.reduceSub, Bool.not_true, Bool.not_false, Bool.false_eq_true, Int.reduceMul, Int.reduceAdd, Int.reduceLT, and_self, and_true, true_and, c_60, c_48271, c_69621, c_16807, c_7, c_2, c_01000, Nat.reduceLeDiff, tup_0, lst_0, Nat.zero_le, map_snoc, List.length_map, List.map_nil, kc_ltc, kc_eqb, kisn_non, map_snocB, isi_0int, isi_0bool, isi_0str, isi_0tuple, isi_1int, isi_1bool, isi_1str, isi_1tuple, isi_2int, isi_2bool, isi_2str, isi_2tuple, isi_3int, isi_3bool, isi_3str, isi_3tuple, isi_4int, isi_4bool, isi_4str, isi_4tuple, kc_in1, kc_nin1, map_snocC, wipeE, take_set2, kpre_str, kx_str, push_set, get_setapp, take_setapp, map_snocS, set_len, bg1, bg2, bg3, gc_mid, Ob.data, set_app0]
  refine (l_cell_ok H k ns j S).mono ?_ ?_
  · rintro v S' ⟨rfl, z, rfl⟩
    refine (l_digits_ok H k z j S').mono ?_ ?_
    · rintro v S2 ⟨rfl, ds, rfl⟩
      rw [kd_r _ _ _ (get_app0 S' _ [])]
      simp only [t_set1, t_set0, t_unp, t_seti, t_setf, t_app, t_ex, t_ife, t_for, t_whl, t_ret, t_rse0, t_brk, t_pas, e_con, e_var, e_bin, e_neg, e_cmp, e_isN, e_and, e_or, e_not, e_ite, e_call, e_blt, e_isi, e_meth, e_fld, e_idx, e_slc, e_rev, e_tup, e_lst, e_dct0, e_lc, e_gen, es_nil, es_cons, ds_nil, ds_cons, op_none, op_some, i_rng1, i_rng2, i_ov, ws_to, ws_then, ws_nx, ws_rt, ws_bk, ws_xc, ws_bad, wp_ok, wp_exc, wp_bad, wp_bind, ws_ite, wp_ite, gc_d, asData_d, kD_d, rd_d, entry, List.map, List.length, List.replicate, List.cons_append, List.nil_append, List.append_nil, List.getElem?_cons_zero, List.getElem?_cons_succ, List.set_cons_zero, List.set_cons_succ, List.take_length, take_app, take_same, take_set, gc_new, kb_add, kb_sub, kb_mul, kb_fdiv, kb_mod, kb_pow, kb_adds, kb_addt, kb_addl, kb_mult, kb_muls, kc_lt, kc_le, kc_gt, kc_ge, kc_eqi, kc_nei, kn, kt_bl, knot_bl, kbl_bl, at_bl, ab_bl, kl_scr, kl_tup, kl_lst, kl_str, ki_int, kt_tup, kt_lst, kx_scr, kx_tup, kx_lst, atI_0, atI_1, atI_2, atI_nat, rng1, rng2, alloc_eq, it_tup, it_lst, it_str, op_int, isl_new, push_app, asg, setAll, decide_eq_true_eq, reduceIte, Nat.sub_self, Nat.reduceSub, Bool.not_true, Bool.not_false, Bool.false_eq_true, Int.reduceMul, Int.reduceAdd, Int.reduceLT, and_self, and_true, true_and, c_60, c_48271, c_69621, c_16807, c_7, c_2, c_01000, Nat.reduceLeDiff, tup_0, lst_0, Nat.zero_le, map_snoc, List.length_map, List.map_nil, kc_ltc, kc_eqb, kisn_non, map_snocB, isi_0int, isi_0bool, isi_0str, isi_0tuple, isi_1int, isi_1bool, isi_1str, isi_1tuple, isi_2int, isi_2bool, isi_2str, isi_2tuple, isi_3int, isi_3bool, isi_3str, isi_3tuple, isi_4int, isi_4bool, isi_4str, isi_4tuple, kc_in1, kc_nin1, map_snocC, wipeE, take_set2, kpre_str, kx_str, push_set, get_setapp, take_setapp, map_snocS, set_len, bg1, bg2, bg3, gc_mid, Ob.data, set_app0]
      exact ⟨_, ⟨ds, 0, rfl⟩, rfl⟩
    · intro _ _ _ z
      exact z
  · intro _ _ _ z
    exact z
theorem l_draw_ok (k : Nat) (n : Nat) (b : Ob) (m : Int) (S : Store) (hb : S[n]? = some b) (hB : IsBox b) (hm : 0 < m) : Wp (callF tbl (k + 1) 9 [.r n, .d (.int m)] S) (fun v S' => ∃ z : Int, v = .d (.int z) ∧ 0 ≤ z ∧ z < m ∧ ∃ b', IsBox b' ∧ S' = S.set n b') noX := by
  obtain ⟨ds, at_, rfl⟩ := hB
  rw [wp_def H.t_l_draw rfl]
  unfold d_l_draw
  rw [cont_cons]
  simp only [t_set1, t_set0, t_unp, t_seti, t_setf, t_app, t_ex, t_ife, t_for, t_whl, t_ret, t_rse0, t_brk, t_pas, e_con, e_var, e_bin, e_neg, e_cmp, e_isN, e_and, e_or, e_not, e_ite, e_call, e_blt, e_isi, e_meth, e_fld, e_idx, e_slc, e_rev, e_tup, e_lst, e_dct0, e_lc, e_gen, es_nil, es_cons, ds_nil, ds_cons, op_none, op_some, i_rng1, i_rng2, i_ov, ws_to, ws_then, ws_nx, ws_rt, ws_bk, ws_xc, ws_bad, wp_ok, wp_exc, wp_bad, wp_bind, ws_ite, wp_ite, gc_d, asData_d, kD_d, rd_d, entry, List.map, List.length, List.replicate, List.cons_append, List.nil_append, List.append_nil, List.getElem?_cons_zero, List.getElem?_cons_succ, List.set_cons_zero, List.set_cons_succ, List.take_length, take_app, take_same, take_set, gc_new, kb_add, kb_sub, kb_mul, kb_fdiv, kb_mod, kb_pow, kb_adds, kb_addt, kb_addl, kb_mult, kb_muls, kc_lt, kc_le, kc_gt, kc_ge, kc_eqi, kc_nei, kn, kt_bl, knot_bl, kbl_bl, at_bl, ab_bl, kl_scr, kl_tup, kl_lst, kl_str, ki_int, kt_tup, kt_lst, kx_scr, kx_tup, kx_lst, atI_0, atI_1, atI_2, atI_nat, rng1, rng2, alloc_eq, it_tup, it_lst, it_str, op_int, isl_new, push_app, asg, setAll, decide_eq_true_eq, reduceIte, Nat.sub_self, Nat.reduceSub, Bool.not_true, Bool.not_false, Bool.false_eq_true, Int.reduceMul, Int.reduceAdd, Int.reduceLT, and_self, and_true, true_and, c_60, c_48271, c_69621, c_16807, c_7, c_2, c_01000, Nat.reduceLeDiff, tup_0, lst_0, Nat.zero_le, map_snoc, List.length_map, List.map_nil, kc_ltc, kc_eqb, kisn_non, map_snocB, isi_0int, isi_0bool, isi_0str, isi_0tuple, isi_1int, isi_1bool, isi_1str, isi_1tuple, isi_2int, isi_2bool, isi_2str, isi_2tuple, isi_3int, isi_3bool, isi_3str, isi_3tuple, isi_4int, isi_4bool, isi_4str, isi_4tuple, kc_in1, kc_nin1, map_snocC, wipeE, take_set2, kpre_str, kx_str, push_set, get_setapp, take_setapp, map_snocS, set_len, bg1, bg2, bg3, gc_mid, Ob.data, set_app0, kx_r _ _ _ _ hb]
  rw [cont_cons]
  simp only [t_set1, t_set0, t_unp, t_seti, t_setf, t_app, t_ex, t_ife, t_for, t_whl, t_ret, t_rse0, t_brk, t_pas, e_con, e_var, e_bin, e_neg, e_cmp, e_isN, e_and, e_or, e_not, e_ite, e_call, e_blt, e_isi, e_meth, e_fld, e_idx, e_slc, e_rev, e_tup, e_lst, e_dct0, e_lc, e_gen, es_nil, es_cons, ds_nil, ds_cons, op_none, op_some, i_rng1, i_rng2, i_ov, ws_to, ws_then, ws_nx, ws_rt, ws_bk, ws_xc, ws_bad, wp_ok, wp_exc, wp_bad, wp_bind, ws_ite, wp_ite, gc_d, asData_d, kD_d, rd_d, entry, List.map, List.length, List.replicate, List.cons_append, List.nil_append, List.append_nil, List.getElem?_cons_zero, List.getElem?_cons_succ, List.set_cons_zero, List.set_cons_succ, List.take_length, take_app, take_same, take_set, gc_new, kb_add, kb_sub, kb_mul, kb_fdiv, kb_mod, kb_pow, kb_adds, kb_addt, kb_addl, kb_mult, kb_muls, kc_lt, kc_le, kc_gt, kc_ge, kc_eqi, kc_nei, kn, kt_bl, knot_bl, kbl_bl, at_bl, ab_bl, kl_scr, kl_tup, kl_lst, kl_str, ki_int, kt_tup, kt_lst, kx_scr, kx_tup, kx_lst, atI_0, atI_1, atI_2, atI_nat, rng1, rng2, alloc_eq, it_tup, it_lst, it_str, op_int, isl_new, push_app, asg, setAll, decide_eq_true_eq, reduceIte, Nat.sub_self, Nat.reduceSub, Bool.not_true, Bool.not_false, Bool.false_eq_true, Int.reduceMul, Int.reduceAdd, Int.reduceLT, and_self, and_true, true_and, c_60, c_48271, c_69621, c_16807, c_7, c_2, c_01000, Nat.reduceLeDiff, tup_0, lst_0, Nat.zero_le, map_snoc, List.length_map, List.map_nil, kc_ltc, kc_eqb, kisn_non, map_snocB, isi_0int, isi_0bool, isi_0str, isi_0tuple, isi_1int, isi_1bool, isi_1str, isi_1tuple, isi_2int, isi_2bool, isi_2str, isi_2tuple, isi_3int, isi_3bool, isi_3str, isi_3tuple, isi_4int, isi_4bool, isi_4str, isi_4tuple, kc_in1, kc_nin1, map_snocC, wipeE, take_set2, kpre_str, kx_str, push_set, get_setapp, take_setapp, map_snocS, set_len, bg1, bg2, bg3, gc_mid, Ob.data, set_app0]
  rw [kset_1 _ _ _ _ _ _ hb]
  simp only [t_set1, t_set0, t_unp, t_seti, t_setf, t_app, t_ex, t_ife, t_for, t_whl, t_ret, t_rse0, t_brk, t_pas, e_con, e_var, e_bin, e_neg, e_cmp, e_isN, e_and, e_or, e_not, e_ite, e_call, e_blt, e_isi, e_meth, e_fld, e_idx, e_slc, e_rev, e_tup, e_lst, e_dct0, e_lc, e_gen, es_nil, es_cons, ds_nil, ds_cons, op_none, op_some, i_rng1, i_rng2, i_ov, ws_to, ws_then, ws_nx, ws_rt, ws_bk, ws_xc, ws_bad, wp_ok, wp_exc, wp_bad, wp_bind, ws_ite, wp_ite, gc_d, asData_d, kD_d, rd_d, entry, List.map, List.length, List.replicate, List.cons_append, List.nil_append, List.append_nil, List.getElem?_cons_zero, List.getElem?_cons_succ, List.set_cons_zero, List.set_cons_succ, List.take_length, take_app, take_same, take_set, gc_new, kb_add, kb_sub, kb_mul, kb_fdiv, kb_mod, kb_pow, kb_adds, kb_addt, kb_addl, kb_mult, kb_muls, kc_lt, kc_le, kc_gt, kc_ge, kc_eqi, kc_nei, kn, kt_bl, knot_bl, kbl_bl, at_bl, ab_bl, kl_scr, kl_tup, kl_lst, kl_str, ki_int, kt_tup, kt_lst, kx_scr, kx_tup, kx_lst, atI_0, atI_1, atI_2, atI_nat, rng1, rng2, alloc_eq, it_tup, it_lst, it_str, op_int, isl_new, push_app, asg, setAll, decide_eq_true_eq, reduceIte, Nat.sub_self, Nat.reduceSub, Bool.not_true, Bool.not_false, Bool.false_eq_true, Int.reduceMul, Int.reduceAdd, Int.reduceLT, and_self, and_true, true_and, c_60, c_48271, c_69621, c_16807, c_7, c_2, c_01000, Nat.reduceLeDiff, tup_0, lst_0, Nat.zero_le, map_snoc, List.length_map, List.map_nil, kc_ltc, kc_eqb, kisn_non, map_snocB, isi_0int, isi_0bool, isi_0str, isi_0tuple, isi_1int, isi_1bool, isi_1str, isi_1tuple, isi_2int, isi_2bool, isi_2str, isi_2tuple, isi_3int, isi_3bool, isi_3str, isi_3tuple, isi_4int, isi_4bool, isi_4str, isi_4tuple, kc_in1, kc_nin1, map_snocC, wipeE, take_set2, kpre_str, kx_str, push_set, get_setapp, take_setapp, map_snocS, set_len, bg1, bg2, bg3, gc_mid, Ob.data, set_app0]
  have h2 := get_set S n _ (Ob.lst [D.lst (List.map D.int ds), D.int (at_ + 1)]) hb
  have hbx : IsBox (Ob.lst [D.lst (List.map D.int ds), D.int ((at_ : Int) + 1)]) := ⟨ds, at_ + 1, by simp⟩
  rw [cont_cons]
  simp only [t_set1, t_set0, t_unp, t_seti, t_setf, t_app, t_ex, t_ife, t_for, t_whl, t_ret, t_rse0, t_brk, t_pas, e_con, e_var, e_bin, e_neg, e_cmp, e_isN, e_and, e_or, e_not, e_ite, e_call, e_blt, e_isi, e_meth, e_fld, e_idx, e_slc, e_rev, e_tup, e_lst, e_dct0, e_lc, e_gen, es_nil, es_cons, ds_nil, ds_cons, op_none, op_some, i_rng1, i_rng2, i_ov, ws_to, ws_then, ws_nx, ws_rt, ws_bk, ws_xc, ws_bad, wp_ok, wp_exc, wp_bad, wp_bind, ws_ite, wp_ite, gc_d, asData_d, kD_d, rd_d, entry, List.map, List.length, List.replicate, List.cons_append, List.nil_append, List.append_nil, List.getElem?_cons_zero, List.getElem?_cons_succ, List.set_cons_zero, List.set_cons_succ, List.take_length, take_app, take_same, take_set, gc_new, kb_add, kb_sub, kb_mul, kb_fdiv, kb_mod, kb_pow, kb_adds, kb_addt, kb_addl, kb_mult, kb_muls, kc_lt, kc_le, kc_gt, kc_ge, kc_eqi, kc_nei, kn, kt_bl, knot_bl, kbl_bl, at_bl, ab_bl, kl_scr, kl_tup, kl_lst, kl_str, ki_int, kt_tup, kt_lst, kx_scr, kx_tup, kx_lst, atI_0, atI_1, atI_2, atI_nat, rng1, rng2, alloc_eq, it_tup, it_lst, it_str, op_int, isl_new, push_app, asg, setAll, decide_eq_true_eq, reduceIte, Nat.sub_self, Nat.reduceSub, Bool.not_true, Bool.not_false, Bool.false_eq_true, Int.reduceMul, Int.reduceAdd, Int.reduceLT, and_self, and_true, true_and, c_60, c_48271, c_69621, c_16807, c_7, c_2, c_01000, Nat.reduceLeDiff, tup_0, lst_0, Nat.zero_le, map_snoc, List.length_map, List.map_nil, kc_ltc, kc_eqb, kisn_non, map_snocB, isi_0int, isi_0bool, isi_0str, isi_0tuple, isi_1int, isi_1bool, isi_1str, isi_1tuple, isi_2int, isi_2bool, isi_2str, isi_2tuple, isi_3int, isi_3bool, isi_3str, isi_3tuple, isi_4int, isi_4bool, isi_4str, isi_4tuple, kc_in1, kc_nin1, map_snocC, wipeE, take_set2, kpre_str, kx_str, push_set, get_setapp, take_setapp, map_snocS, set_len, bg1, bg2, bg3, gc_mid, Ob.data, set_app0, kx_r _ _ _ _ h2]
  split
  · rename_i hlt
    have hlt : at_ < ds.length := by omega
    rw [cont_cons]
    simp only [t_set1, t_set0, t_unp, t_seti, t_setf, t_app, t_ex, t_ife, t_for, t_whl, t_ret, t_rse0, t_brk, t_pas, e_con, e_var, e_bin, e_neg, e_cmp, e_isN, e_and, e_or, e_not, e_ite, e_call, e_blt, e_isi, e_meth, e_fld, e_idx, e_slc, e_rev, e_tup, e_lst, e_dct0, e_lc, e_gen, es_nil, es_cons, ds_nil, ds_cons, op_none, op_some, i_rng1, i_rng2, i_ov, ws_to, ws_then, ws_nx, ws_rt, ws_bk, ws_xc, ws_bad, wp_ok, wp_exc, wp_bad, wp_bind, ws_ite, wp_ite, gc_d, asData_d, kD_d, rd_d, entry, List.map, List.length, List.replicate, List.cons_append, List.nil_append, List.append_nil, List.getElem?_cons_zero, List.getElem?_cons_succ, List.set_cons_zero, List.set_cons_succ, List.take_length, take_app, take_same, take_set, gc_new, kb_add, kb_sub, kb_mul, kb_fdiv, kb_mod, kb_pow, kb_adds, kb_addt, kb_addl, kb_mult, kb_muls, kc_lt, kc_le, kc_gt, kc_ge, kc_eqi, kc_nei, kn, kt_bl, knot_bl, kbl_bl, at_bl, ab_bl, kl_scr, kl_tup, kl_lst, kl_str, ki_int, kt_tup, kt_lst, kx_scr, kx_tup, kx_lst, atI_0, atI_1, atI_2, atI_nat, rng1, rng2, alloc_eq, it_tup, it_lst, it_str, op_int, isl_new, push_app, asg, setAll, decide_eq_true_eq, reduceIte, Nat.sub_self, Nat.reduceSub, Bool.not_true, Bool.not_false, Bool.false_eq_true, Int.reduceMul, Int.reduceAdd, Int.reduceLT, and_self, and_true, true_and, c_60, c_48271, c_69621, c_16807, c_7, c_2, c_01000, Nat.reduceLeDiff, tup_0, lst_0, Nat.zero_le, map_snoc, List.length_map, List.map_nil, kc_ltc, kc_eqb, kisn_non, map_snocB, isi_0int, isi_0bool, isi_0str, isi_0tuple, isi_1int, isi_1bool, isi_1str, isi_1tuple, isi_2int, isi_2bool, isi_2str, isi_2tuple, isi_3int, isi_3bool, isi_3str, isi_3tuple, isi_4int, isi_4bool, isi_4str, isi_4tuple, kc_in1, kc_nin1, map_snocC, wipeE, take_set2, kpre_str, kx_str, push_set, get_setapp, take_setapp, map_snocS, set_len, bg1, bg2, bg3, gc_mid, Ob.data, set_app0, kx_r _ _ _ _ h2, hm, set_len, List.getElem?_map, List.getElem?_eq_getElem hlt, Option.map_some]
    exact ⟨_, rfl, Int.emod_nonneg _ (by omega), Int.emod_lt_of_pos _ hm, _, hbx, rfl⟩
  · rw [cont_nil, cont_cons]
    simp only [t_set1, t_set0, t_unp, t_seti, t_setf, t_app, t_ex, t_ife, t_for, t_whl, t_ret, t_rse0, t_brk, t_pas, e_con, e_var, e_bin, e_neg, e_cmp, e_isN, e_and, e_or, e_not, e_ite, e_call, e_blt, e_isi, e_meth, e_fld, e_idx, e_slc, e_rev, e_tup, e_lst, e_dct0, e_lc, e_gen, es_nil, es_cons, ds_nil, ds_cons, op_none, op_some, i_rng1, i_rng2, i_ov, ws_to, ws_then, ws_nx, ws_rt, ws_bk, ws_xc, ws_bad, wp_ok, wp_exc, wp_bad, wp_bind, ws_ite, wp_ite, gc_d, asData_d, kD_d, rd_d, entry, List.map, List.length, List.replicate, List.cons_append, List.nil_append, List.append_nil, List.getElem?_cons_zero, List.getElem?_cons_succ, List.set_cons_zero, List.set_cons_succ, List.take_length, take_app, take_same, take_set, gc_new, kb_add, kb_sub, kb_mul, kb_fdiv, kb_mod, kb_pow, kb_adds, kb_addt, kb_addl, kb_mult, kb_muls, kc_lt, kc_le, kc_gt, kc_ge, kc_eqi, kc_nei, kn, kt_bl, knot_bl, kbl_bl, at_bl, ab_bl, kl_scr, kl_tup, kl_lst, kl_str, ki_int, kt_tup, kt_lst, kx_scr, kx_tup, kx_lst, atI_0, atI_1, atI_2, atI_nat, rng1, rng2, alloc_eq, it_tup, it_lst, it_str, op_int, isl_new, push_app, asg, setAll, decide_eq_true_eq, reduceIte, Nat.sub_self, Nat.reduceSub, Bool.not_true, Bool.not_false, Bool.false_eq_true, Int.reduceMul, Int.reduceAdd, Int.reduceLT, and_self, and_true, true_and, c_60, c_48271, c_69621, c_16807, c_7, c_2, c_01000, Nat.reduceLeDiff, tup_0, lst_0, Nat.zero_le, map_snoc, List.length_map, List.map_nil, kc_ltc, kc_eqb, kisn_non, map_snocB, isi_0int, isi_0bool, isi_0str, isi_0tuple, isi_1int, isi_1bool, isi_1str, isi_1tuple, isi_2int, isi_2bool, isi_2str, isi_2tuple, isi_3int, isi_3bool, isi_3str, isi_3tuple, isi_4int, isi_4bool, isi_4str, isi_4tuple, kc_in1, kc_nin1, map_snocC, wipeE, take_set2, kpre_str, kx_str, push_set, get_setapp, take_setapp, map_snocS, set_len, bg1, bg2, bg3, gc_mid, Ob.data, set_app0]
    exact ⟨0, rfl, Int.le_refl _, hm, _, hbx, rfl⟩
theorem l_is_integer_ok (k : Nat) (i : Int) (S : Store) : Wp (callF tbl (k + 1) 10 [.d (.int i)] S) (fun u S' => u = .d (.bl true) ∧ S' = S) noX := by
  rw [wp_def H.t_l_is_integer rfl]
  unfold d_l_is_integer
  rw [cont_cons]
  simp only [t_set1, t_set0, t_unp, t_seti, t_setf, t_app, t_ex, t_ife, t_for, t_whl, t_ret, t_rse0, t_brk, t_pas, e_con, e_var, e_bin, e_neg, e_cmp, e_isN, e_and, e_or, e_not, e_ite, e_call, e_blt, e_isi, e_meth, e_fld, e_idx, e_slc, e_rev, e_tup, e_lst, e_dct0, e_lc, e_gen, es_nil, es_cons, ds_nil, ds_cons, op_none, op_some, i_rng1, i_rng2, i_ov, ws_to, ws_then, ws_nx, ws_rt, ws_bk, ws_xc, ws_bad, wp_ok, wp_exc, wp_bad, wp_bind, ws_ite, wp_ite, gc_d, asData_d, kD_d, rd_d, entry, List.map, List.length, List.replicate, List.cons_append, List.nil_append, List.append_nil, List.getElem?_cons_zero, List.getElem?_cons_succ, List.set_cons_zero, List.set_cons_succ, List.take_length, take_app, take_same, take_set, gc_new, kb_add, kb_sub, kb_mul, kb_fdiv, kb_mod, kb_pow, kb_adds, kb_addt, kb_addl, kb_mult, kb_muls, kc_lt, kc_le, kc_gt, kc_ge, kc_eqi, kc_nei, kn, kt_bl, knot_bl, kbl_bl, at_bl, ab_bl, kl_scr, kl_tup, kl_lst, kl_str, ki_int, kt_tup, kt_lst, kx_scr, kx_tup, kx_lst, atI_0, atI_1, atI_2, atI_nat, rng1, rng2, alloc_eq, it_tup, it_lst, it_str, op_int, isl_new, push_app, asg, setAll, decide_eq_true_eq, reduceIte, Nat.sub_self, Nat.reduceSub, Bool.not_true, Bool.not_false, Bool.false_eq_true, Int.reduceMul, Int.reduceAdd, Int.reduceLT, and_self, and_true, true_and, c_60, c_48271, c_69621, c_16807, c_7, c_2, c_01000, Nat.reduceLeDiff, tup_0, lst_0, Nat.zero_le, map_snoc, List.length_map, List.map_nil, kc_ltc, kc_eqb, kisn_non, map_snocB, isi_0int, isi_0bool, isi_0str, isi_0tuple, isi_1int, isi_1bool, isi_1str, isi_1tuple, isi_2int, isi_2bool, isi_2str, isi_2tuple, isi_3int, isi_3bool, isi_3str, isi_3tuple, isi_4int, isi_4bool, isi_4str, isi_4tuple, kc_in1, kc_nin1, map_snocC, wipeE, take_set2, kpre_str, kx_str, push_set, get_setapp, take_setapp, map_snocS, set_len, bg1, bg2, bg3, gc_mid, Ob.data, set_app0, Sec]
theorem l_same_refl : ∀ (n : Nat) (x : D), plD n x = true → ∀ (k : Nat) (S : Store), Wp (callF tbl (k + n + 2) 11 [.d x, .d x] S) (fun u S' => u = .d (.bl true) ∧ S' = S) noX
  | n, .int i, _, k, S => by
    rw [wp_def H.t_l_same rfl]
    unfold d_l_same
    rw [cont_cons]
    simp only [t_set1, t_set0, t_unp, t_seti, t_setf, t_app, t_ex, t_ife, t_for, t_whl, t_ret, t_rse0, t_brk, t_pas, e_con, e_var, e_bin, e_neg, e_cmp, e_isN, e_and, e_or, e_not, e_ite, e_call, e_blt, e_isi, e_meth, e_fld, e_idx, e_slc, e_rev, e_tup, e_lst, e_dct0, e_lc, e_gen, es_nil, es_cons, ds_nil, ds_cons, op_none, op_some, i_rng1, i_rng2, i_ov, ws_to, ws_then, ws_nx, ws_rt, ws_bk, ws_xc, ws_bad, wp_ok, wp_exc, wp_bad, wp_bind, ws_ite, wp_ite, gc_d, asData_d, kD_d, rd_d, entry, List.map, List.length, List.replicate, List.cons_append, List.nil_append, List.append_nil, List.getElem?_cons_zero, List.getElem?_cons_succ, List.set_cons_zero, List.set_cons_succ, List.take_length, take_app, take_same, take_set, gc_new, kb_add, kb_sub, kb_mul, kb_fdiv, kb_mod, kb_pow, kb_adds, kb_addt, kb_addl, kb_mult, kb_muls, kc_lt, kc_le, kc_gt, kc_ge, kc_eqi, kc_nei, kn, kt_bl, knot_bl, kbl_bl, at_bl, ab_bl, kl_scr, kl_tup, kl_lst, kl_str, ki_int, kt_tup, kt_lst, kx_scr, kx_tup, kx_lst, atI_0, atI_1, atI_2, atI_nat, rng1, rng2, alloc_eq, it_tup, it_lst, it_str, op_int, isl_new, push_app, asg, setAll, decide_eq_true_eq, reduceIte, Nat.sub_self, Nat.reduceSub, Bool.not_true, Bool.not_false, Bool.false_eq_true, Int.reduceMul, Int.reduceAdd, Int.reduceLT, and_self, and_true, true_and, c_60, c_48271, c_69621, c_16807, c_7, c_2, c_01000, Nat.reduceLeDiff, tup_0, lst_0, Nat.zero_le, map_snoc, List.length_map, List.map_nil, kc_ltc, kc_eqb, kisn_non, map_snocB, isi_0int, isi_0bool, isi_0str, isi_0tuple, isi_1int, isi_1bool, isi_1str, isi_1tuple, isi_2int, isi_2bool, isi_2str, isi_2tuple, isi_3int, isi_3bool, isi_3str, isi_3tuple, isi_4int, isi_4bool, isi_4str, isi_4tuple, kc_in1, kc_nin1, map_snocC, wipeE, take_set2, kpre_str, kx_str, push_set, get_setapp, take_setapp, map_snocS, set_len, bg1, bg2, bg3, gc_mid, Ob.data, set_app0]
    rw [cont_nil, cont_cons]
    simp only [t_set1, t_set0, t_unp, t_seti, t_setf, t_app, t_ex, t_ife, t_for, t_whl, t_ret, t_rse0, t_brk, t_pas, e_con, e_var, e_bin, e_neg, e_cmp, e_isN, e_and, e_or, e_not, e_ite, e_call, e_blt, e_isi, e_meth, e_fld, e_idx, e_slc, e_rev, e_tup, e_lst, e_dct0, e_lc, e_gen, es_nil, es_cons, ds_nil, ds_cons, op_none, op_some, i_rng1, i_rng2, i_ov, ws_to, ws_then, ws_nx, ws_rt, ws_bk, ws_xc, ws_bad, wp_ok, wp_exc, wp_bad, wp_bind, ws_ite, wp_ite, gc_d, asData_d, kD_d, rd_d, entry, List.map, List.length, List.replicate, List.cons_append, List.nil_append, List.append_nil, List.getElem?_cons_zero, List.getElem?_cons_succ, List.set_cons_zero, List.set_cons_succ, List.take_length, take_app, take_same, take_set, gc_new, kb_add, kb_sub, kb_mul, kb_fdiv, kb_mod, kb_pow, kb_adds, kb_addt, kb_addl, kb_mult, kb_muls, kc_lt, kc_le, kc_gt, kc_ge, kc_eqi, kc_nei, kn, kt_bl, knot_bl, kbl_bl, at_bl, ab_bl, kl_scr, kl_tup, kl_lst, kl_str, ki_int, kt_tup, kt_lst, kx_scr, kx_tup, kx_lst, atI_0, atI_1, atI_2, atI_nat, rng1, rng2, alloc_eq, it_tup, it_lst, it_str, op_int, isl_new, push_app, asg, setAll, decide_eq_true_eq, reduceIte, Nat.sub_self, Nat.reduceSub, Bool.not_true, Bool.not_false, Bool.false_eq_true, Int.reduceMul, Int.reduceAdd, Int.reduceLT, and_self, and_true, true_and, c_60, c_48271, c_69621, c_16807, c_7, c_2, c_01000, Nat.reduceLeDiff, tup_0, lst_0, Nat.zero_le, map_snoc, List.length_map, List.map_nil, kc_ltc, kc_eqb, kisn_non, map_snocB, isi_0int, isi_0bool, isi_0str, isi_0tuple, isi_1int, isi_1bool, isi_1str, isi_1tuple, isi_2int, isi_2bool, isi_2str, isi_2tuple, isi_3int, isi_3bool, isi_3str, isi_3tuple, isi_4int, isi_4bool, isi_4str, isi_4tuple, kc_in1, kc_nin1, map_snocC, wipeE, take_set2, kpre_str, kx_str, push_set, get_setapp, take_setapp, map_snocS, set_len, bg1, bg2, bg3, gc_mid, Ob.data, set_app0]
    rw [cont_nil, cont_cons]
    simp only [t_set1, t_set0, t_unp, t_seti, t_setf, t_app, t_ex, t_ife, t_for, t_whl, t_ret, t_rse0, t_brk, t_pas, e_con, e_var, e_bin, e_neg, e_cmp, e_isN, e_and, e_or, e_not, e_ite, e_call, e_blt, e_isi, e_meth, e_fld, e_idx, e_slc, e_rev, e_tup, e_lst, e_dct0, e_lc, e_gen, es_nil, es_cons, ds_nil, ds_cons, op_none, op_some, i_rng1, i_rng2, i_ov, ws_to, ws_then, ws_nx, ws_rt, ws_bk, ws_xc, ws_bad, wp_ok, wp_exc, wp_bad, wp_bind, ws_ite, wp_ite, gc_d, asData_d, kD_d, rd_d, entry, List.map, List.length, List.replicate, List.cons_append, List.nil_append, List.append_nil, List.getElem?_cons_zero, List.getElem?_cons_succ, List.set_cons_zero, List.set_cons_succ, List.take_length, take_app, take_same, take_set, gc_new, kb_add, kb_sub, kb_mul, kb_fdiv, kb_mod, kb_pow, kb_adds, kb_addt, kb_addl, kb_mult, kb_muls, kc_lt, kc_le, kc_gt, kc_ge, kc_eqi, kc_nei, kn, kt_bl, knot_bl, kbl_bl, at_bl, ab_bl, kl_scr, kl_tup, kl_lst, kl_str, ki_int, kt_tup, kt_lst, kx_scr, kx_tup, kx_lst, atI_0, atI_1, atI_2, atI_nat, rng1, rng2, alloc_eq, it_tup, it_lst, it_str, op_int, isl_new, push_app, asg, setAll, decide_eq_true_eq, reduceIte, Nat.sub_self, Nat.reduceSub, Bool.not_true, Bool.not_false, Bool.false_eq_true, Int.reduceMul, Int.reduceAdd, Int.reduceLT, and_self, and_true, true_and, c_60, c_48271, c_69621, c_16807, c_7, c_2, c_01000, Nat.reduceLeDiff, tup_0, lst_0, Nat.zero_le, map_snoc, List.length_map, List.map_nil, kc_ltc, kc_eqb, kisn_non, map_snocB, isi_0int, isi_0bool, isi_0str, isi_0tuple, isi_1int, isi_1bool, isi_1str, isi_1tuple, isi_2int, isi_2bool, isi_2str, isi_2tuple, isi_3int, isi_3bool, isi_3str, isi_3tuple, isi_4int, isi_4bool, isi_4str, isi_4tuple, kc_in1, kc_nin1, map_snocC, wipeE, take_set2, kpre_str, kx_str, push_set, get_setapp, take_setapp, map_snocS, set_len, bg1, bg2, bg3, gc_mid, Ob.data, set_app0]
    rw [cont_cons]
    simp only [t_set1, t_set0, t_unp, t_seti, t_setf, t_app, t_ex, t_ife, t_for, t_whl, t_ret, t_rse0, t_brk, t_pas, e_con, e_var, e_bin, e_neg, e_cmp, e_isN, e_and, e_or, e_not, e_ite, e_call, e_blt, e_isi, e_meth, e_fld, e_idx, e_slc, e_rev, e_tup, e_lst, e_dct0, e_lc, e_gen, es_nil, es_cons, ds_nil, ds_cons, op_none, op_some, i_rng1, i_rng2, i_ov, ws_to, ws_then, ws_nx, ws_rt, ws_bk, ws_xc, ws_bad, wp_ok, wp_exc, wp_bad, wp_bind, ws_ite, wp_ite, gc_d, asData_d, kD_d, rd_d, entry, List.map, List.length, List.replicate, List.cons_append, List.nil_append, List.append_nil, List.getElem?_cons_zero, List.getElem?_cons_succ, List.set_cons_zero, List.set_cons_succ, List.take_length, take_app, take_same, take_set, gc_new, kb_add, kb_sub, kb_mul, kb_fdiv, kb_mod, kb_pow, kb_adds, kb_addt, kb_addl, kb_mult, kb_muls, kc_lt, kc_le, kc_gt, kc_ge, kc_eqi, kc_nei, kn, kt_bl, knot_bl, kbl_bl, at_bl, ab_bl, kl_scr, kl_tup, kl_lst, kl_str, ki_int, kt_tup, kt_lst, kx_scr, kx_tup, kx_lst, atI_0, atI_1, atI_2, atI_nat, rng1, rng2, alloc_eq, it_tup, it_lst, it_str, op_int, isl_new, push_app, asg, setAll, decide_eq_true_eq, reduceIte, Nat.sub_self, Nat.reduceSub, Bool.not_true, Bool.not_false, Bool.false_eq_true, Int.reduceMul, Int.reduceAdd, Int.reduceLT, and_self, and_true, true_and, c_60, c_48271, c_69621, c_16807, c_7, c_2, c_01000, Nat.reduceLeDiff, tup_0, lst_0, Nat.zero_le, map_snoc, List.length_map, List.map_nil, kc_ltc, kc_eqb, kisn_non, map_snocB, isi_0int, isi_0bool, isi_0str, isi_0tuple, isi_1int, isi_1bool, isi_1str, isi_1tuple, isi_2int, isi_2bool, isi_2str, isi_2tuple, isi_3int, isi_3bool, isi_3str, isi_3tuple, isi_4int, isi_4bool, isi_4str, isi_4tuple, kc_in1, kc_nin1, map_snocC, wipeE, take_set2, kpre_str, kx_str, push_set, get_setapp, take_setapp, map_snocS, set_len, bg1, bg2, bg3, gc_mid, Ob.data, set_app0]
    refine (l_is_integer_ok H (k + n) i S).mono ?_ fun _ _ _ z => z
    rintro v S' ⟨rfl, rfl⟩
    simp only [t_set1, t_set0, t_unp, t_seti, t_setf, t_app, t_ex, t_ife, t_for, t_whl, t_ret, t_rse0, t_brk, t_pas, e_con, e_var, e_bin, e_neg, e_cmp, e_isN, e_and, e_or, e_not, e_ite, e_call, e_blt, e_isi, e_meth, e_fld, e_idx, e_slc, e_rev, e_tup, e_lst, e_dct0, e_lc, e_gen, es_nil, es_cons, ds_nil, ds_cons, op_none, op_some, i_rng1, i_rng2, i_ov, ws_to, ws_then, ws_nx, ws_rt, ws_bk, ws_xc, ws_bad, wp_ok, wp_exc, wp_bad, wp_bind, ws_ite, wp_ite, gc_d, asData_d, kD_d, rd_d, entry, List.map, List.length, List.replicate, List.cons_append, List.nil_append, List.append_nil, List.getElem?_cons_zero, List.getElem?_cons_succ, List.set_cons_zero, List.set_cons_succ, List.take_length, take_app, take_same, take_set, gc_new, kb_add, kb_sub, kb_mul, kb_fdiv, kb_mod, kb_pow, kb_adds, kb_addt, kb_addl, kb_mult, kb_muls, kc_lt, kc_le, kc_gt, kc_ge, kc_eqi, kc_nei, kn, kt_bl, knot_bl, kbl_bl, at_bl, ab_bl, kl_scr, kl_tup, kl_lst, kl_str, ki_int, kt_tup, kt_lst, kx_scr, kx_tup, kx_lst, atI_0, atI_1, atI_2, atI_nat, rng1, rng2, alloc_eq, it_tup, it_lst, it_str, op_int, isl_new, push_app, asg, setAll, decide_eq_true_eq, reduceIte, Nat.sub_self, Nat.reduceSub, Bool.not_true, Bool.not_false, Bool.false_eq_true, Int.reduceMul, Int.reduceAdd, Int.reduceLT, and_self, and_true, true_and, c_60, c_48271, c_69621, c_16807, c_7, c_2, c_01000, Nat.reduceLeDiff, tup_0, lst_0, Nat.zero_le, map_snoc, List.length_map, List.map_nil, kc_ltc, kc_eqb, kisn_non, map_snocB, isi_0int, isi_0bool, isi_0str, isi_0tuple, isi_1int, isi_1bool, isi_1str, isi_1tuple, isi_2int, isi_2bool, isi_2str, isi_2tuple, isi_3int, isi_3bool, isi_3str, isi_3tuple, isi_4int, isi_4bool, isi_4str, isi_4tuple, kc_in1, kc_nin1, map_snocC, wipeE, take_set2, kpre_str, kx_str, push_set, get_setapp, take_setapp, map_snocS, set_len, bg1, bg2, bg3, gc_mid, Ob.data, set_app0, Sec]
    simp
  | n, .bl b, _, k, S => by
    rw [wp_def H.t_l_same rfl]
    unfold d_l_same
    rw [cont_cons]
    simp only [t_set1, t_set0, t_unp, t_seti, t_setf, t_app, t_ex, t_ife, t_for, t_whl, t_ret, t_rse0, t_brk, t_pas, e_con, e_var, e_bin, e_neg, e_cmp, e_isN, e_and, e_or, e_not, e_ite, e_call, e_blt, e_isi, e_meth, e_fld, e_idx, e_slc, e_rev, e_tup, e_lst, e_dct0, e_lc, e_gen, es_nil, es_cons, ds_nil, ds_cons, op_none, op_some, i_rng1, i_rng2, i_ov, ws_to, ws_then, ws_nx, ws_rt, ws_bk, ws_xc, ws_bad, wp_ok, wp_exc, wp_bad, wp_bind, ws_ite, wp_ite, gc_d, asData_d, kD_d, rd_d, entry, List.map, List.length, List.replicate, List.cons_append, List.nil_append, List.append_nil, List.getElem?_cons_zero, List.getElem?_cons_succ, List.set_cons_zero, List.set_cons_succ, List.take_length, take_app, take_same, take_set, gc_new, kb_add, kb_sub, kb_mul, kb_fdiv, kb_mod, kb_pow, kb_adds, kb_addt, kb_addl, kb_mult, kb_muls, kc_lt, kc_le, kc_gt, kc_ge, kc_eqi, kc_nei, kn, kt_bl, knot_bl, kbl_bl, at_bl, ab_bl, kl_scr, kl_tup, kl_lst, kl_str, ki_int, kt_tup, kt_lst, kx_scr, kx_tup, kx_lst, atI_0, atI_1, atI_2, atI_nat, rng1, rng2, alloc_eq, it_tup, it_lst, it_str, op_int, isl_new, push_app, asg, setAll, decide_eq_true_eq, reduceIte, Nat.sub_self, Nat.reduceSub, Bool.not_true, Bool.not_false, Bool.false_eq_true, Int.reduceMul, Int.reduceAdd, Int.reduceLT, and_self, and_true, true_and, c_60, c_48271, c_69621, c_16807, c_7, c_2, c_01000, Nat.reduceLeDiff, tup_0, lst_0, Nat.zero_le, map_snoc, List.length_map, List.map_nil, kc_ltc, kc_eqb, kisn_non, map_snocB, isi_0int, isi_0bool, isi_0str, isi_0tuple, isi_1int, isi_1bool, isi_1str, isi_1tuple, isi_2int, isi_2bool, isi_2str, isi_2tuple, isi_3int, isi_3bool, isi_3str, isi_3tuple, isi_4int, isi_4bool, isi_4str, isi_4tuple, kc_in1, kc_nin1, map_snocC, wipeE, take_set2, kpre_str, kx_str, push_set, get_setapp, take_setapp, map_snocS, set_len, bg1, bg2, bg3, gc_mid, Ob.data, set_app0]
    rw [cont_nil, cont_cons]
    simp only [t_set1, t_set0, t_unp, t_seti, t_setf, t_app, t_ex, t_ife, t_for, t_whl, t_ret, t_rse0, t_brk, t_pas, e_con, e_var, e_bin, e_neg, e_cmp, e_isN, e_and, e_or, e_not, e_ite, e_call, e_blt, e_isi, e_meth, e_fld, e_idx, e_slc, e_rev, e_tup, e_lst, e_dct0, e_lc, e_gen, es_nil, es_cons, ds_nil, ds_cons, op_none, op_some, i_rng1, i_rng2, i_ov, ws_to, ws_then, ws_nx, ws_rt, ws_bk, ws_xc, ws_bad, wp_ok, wp_exc, wp_bad, wp_bind, ws_ite, wp_ite, gc_d, asData_d, kD_d, rd_d, entry, List.map, List.length, List.replicate, List.cons_append, List.nil_append, List.append_nil, List.getElem?_cons_zero, List.getElem?_cons_succ, List.set_cons_zero, List.set_cons_succ, List.take_length, take_app, take_same, take_set, gc_new, kb_add, kb_sub, kb_mul, kb_fdiv, kb_mod, kb_pow, kb_adds, kb_addt, kb_addl, kb_mult, kb_muls, kc_lt, kc_le, kc_gt, kc_ge, kc_eqi, kc_nei, kn, kt_bl, knot_bl, kbl_bl, at_bl, ab_bl, kl_scr, kl_tup, kl_lst, kl_str, ki_int, kt_tup, kt_lst, kx_scr, kx_tup, kx_lst, atI_0, atI_1, atI_2, atI_nat, rng1, rng2, alloc_eq, it_tup, it_lst, it_str, op_int, isl_new, push_app, asg, setAll, decide_eq_true_eq, reduceIte, Nat.sub_self, Nat.reduceSub, Bool.not_true, Bool.not_false, Bool.false_eq_true, Int.reduceMul, Int.reduceAdd, Int.reduceLT, and_self, and_true, true_and, c_60, c_48271, c_69621, c_16807, c_7, c_2, c_01000, Nat.reduceLeDiff, tup_0, lst_0, Nat.zero_le, map_snoc, List.length_map, List.map_nil, kc_ltc, kc_eqb, kisn_non, map_snocB, isi_0int, isi_0bool, isi_0str, isi_0tuple, isi_1int, isi_1bool, isi_1str, isi_1tuple, isi_2int, isi_2bool, isi_2str, isi_2tuple, isi_3int, isi_3bool, isi_3str, isi_3tuple, isi_4int, isi_4bool, isi_4str, isi_4tuple, kc_in1, kc_nin1, map_snocC, wipeE, take_set2, kpre_str, kx_str, push_set, get_setapp, take_setapp, map_snocS, set_len, bg1, bg2, bg3, gc_mid, Ob.data, set_app0]
    rw [cont_cons]
    simp only [t_set1, t_set0, t_unp, t_seti, t_setf, t_app, t_ex, t_ife, t_for, t_whl, t_ret, t_rse0, t_brk, t_pas, e_con, e_var, e_bin, e_neg, e_cmp, e_isN, e_and, e_or, e_not, e_ite, e_call, e_blt, e_isi, e_meth, e_fld, e_idx, e_slc, e_rev, e_tup, e_lst, e_dct0, e_lc, e_gen, es_nil, es_cons, ds_nil, ds_cons, op_none, op_some, i_rng1, i_rng2, i_ov, ws_to, ws_then, ws_nx, ws_rt, ws_bk, ws_xc, ws_bad, wp_ok, wp_exc, wp_bad, wp_bind, ws_ite, wp_ite, gc_d, asData_d, kD_d, rd_d, entry, List.map, List.length, List.replicate, List.cons_append, List.nil_append, List.append_nil, List.getElem?_cons_zero, List.getElem?_cons_succ, List.set_cons_zero, List.set_cons_succ, List.take_length, take_app, take_same, take_set, gc_new, kb_add, kb_sub, kb_mul, kb_fdiv, kb_mod, kb_pow, kb_adds, kb_addt, kb_addl, kb_mult, kb_muls, kc_lt, kc_le, kc_gt, kc_ge, kc_eqi, kc_nei, kn, kt_bl, knot_bl, kbl_bl, at_bl, ab_bl, kl_scr, kl_tup, kl_lst, kl_str, ki_int, kt_tup, kt_lst, kx_scr, kx_tup, kx_lst, atI_0, atI_1, atI_2, atI_nat, rng1, rng2, alloc_eq, it_tup, it_lst, it_str, op_int, isl_new, push_app, asg, setAll, decide_eq_true_eq, reduceIte, Nat.sub_self, Nat.reduceSub, Bool.not_true, Bool.not_false, Bool.false_eq_true, Int.reduceMul, Int.reduceAdd, Int.reduceLT, and_self, and_true, true_and, c_60, c_48271, c_69621, c_16807, c_7, c_2, c_01000, Nat.reduceLeDiff, tup_0, lst_0, Nat.zero_le, map_snoc, List.length_map, List.map_nil, kc_ltc, kc_eqb, kisn_non, map_snocB, isi_0int, isi_0bool, isi_0str, isi_0tuple, isi_1int, isi_1bool, isi_1str, isi_1tuple, isi_2int, isi_2bool, isi_2str, isi_2tuple, isi_3int, isi_3bool, isi_3str, isi_3tuple, isi_4int, isi_4bool, isi_4str, isi_4tuple, kc_in1, kc_nin1, map_snocC, wipeE, take_set2, kpre_str, kx_str, push_set, get_setapp, take_setapp, map_snocS, set_len, bg1, bg2, bg3, gc_mid, Ob.data, set_app0, Sec]
    simp
  | n, .non, _, k, S => by
    rw [wp_def H.t_l_same rfl]
    unfold d_l_same
    rw [cont_cons]
    simp only [t_set1, t_set0, t_unp, t_seti, t_setf, t_app, t_ex, t_ife, t_for, t_whl, t_ret, t_rse0, t_brk, t_pas, e_con, e_var, e_bin, e_neg, e_cmp, e_isN, e_and, e_or, e_not, e_ite, e_call, e_blt, e_isi, e_meth, e_fld, e_idx, e_slc, e_rev, e_tup, e_lst, e_dct0, e_lc, e_gen, es_nil, es_cons, ds_nil, ds_cons, op_none, op_some, i_rng1, i_rng2, i_ov, ws_to, ws_then, ws_nx, ws_rt, ws_bk, ws_xc, ws_bad, wp_ok, wp_exc, wp_bad, wp_bind, ws_ite, wp_ite, gc_d, asData_d, kD_d, rd_d, entry, List.map, List.length, List.replicate, List.cons_append, List.nil_append, List.append_nil, List.getElem?_cons_zero, List.getElem?_cons_succ, List.set_cons_zero, List.set_cons_succ, List.take_length, take_app, take_same, take_set, gc_new, kb_add, kb_sub, kb_mul, kb_fdiv, kb_mod, kb_pow, kb_adds, kb_addt, kb_addl, kb_mult, kb_muls, kc_lt, kc_le, kc_gt, kc_ge, kc_eqi, kc_nei, kn, kt_bl, knot_bl, kbl_bl, at_bl, ab_bl, kl_scr, kl_tup, kl_lst, kl_str, ki_int, kt_tup, kt_lst, kx_scr, kx_tup, kx_lst, atI_0, atI_1, atI_2, atI_nat, rng1, rng2, alloc_eq, it_tup, it_lst, it_str, op_int, isl_new, push_app, asg, setAll, decide_eq_true_eq, reduceIte, Nat.sub_self, Nat.reduceSub, Bool.not_true, Bool.not_false, Bool.false_eq_true, Int.reduceMul, Int.reduceAdd, Int.reduceLT, and_self, and_true, true_and, c_60, c_48271, c_69621, c_16807, c_7, c_2, c_01000, Nat.reduceLeDiff, tup_0, lst_0, Nat.zero_le, map_snoc, List.length_map, List.map_nil, kc_ltc, kc_eqb, kisn_non, map_snocB, isi_0int, isi_0bool, isi_0str, isi_0tuple, isi_1int, isi_1bool, isi_1str, isi_1tuple, isi_2int, isi_2bool, isi_2str, isi_2tuple, isi_3int, isi_3bool, isi_3str, isi_3tuple, isi_4int, isi_4bool, isi_4str, isi_4tuple, kc_in1, kc_nin1, map_snocC, wipeE, take_set2, kpre_str, kx_str, push_set, get_setapp, take_setapp, map_snocS, set_len, bg1, bg2, bg3, gc_mid, Ob.data, set_app0]
    rw [cont_nil, cont_cons]
    simp only [t_set1, t_set0, t_unp, t_seti, t_setf, t_app, t_ex, t_ife, t_for, t_whl, t_ret, t_rse0, t_brk, t_pas, e_con, e_var, e_bin, e_neg, e_cmp, e_isN, e_and, e_or, e_not, e_ite, e_call, e_blt, e_isi, e_meth, e_fld, e_idx, e_slc, e_rev, e_tup, e_lst, e_dct0, e_lc, e_gen, es_nil, es_cons, ds_nil, ds_cons, op_none, op_some, i_rng1, i_rng2, i_ov, ws_to, ws_then, ws_nx, ws_rt, ws_bk, ws_xc, ws_bad, wp_ok, wp_exc, wp_bad, wp_bind, ws_ite, wp_ite, gc_d, asData_d, kD_d, rd_d, entry, List.map, List.length, List.replicate, List.cons_append, List.nil_append, List.append_nil, List.getElem?_cons_zero, List.getElem?_cons_succ, List.set_cons_zero, List.set_cons_succ, List.take_length, take_app, take_same, take_set, gc_new, kb_add, kb_sub, kb_mul, kb_fdiv, kb_mod, kb_pow, kb_adds, kb_addt, kb_addl, kb_mult, kb_muls, kc_lt, kc_le, kc_gt, kc_ge, kc_eqi, kc_nei, kn, kt_bl, knot_bl, kbl_bl, at_bl, ab_bl, kl_scr, kl_tup, kl_lst, kl_str, ki_int, kt_tup, kt_lst, kx_scr, kx_tup, kx_lst, atI_0, atI_1, atI_2, atI_nat, rng1, rng2, alloc_eq, it_tup, it_lst, it_str, op_int, isl_new, push_app, asg, setAll, decide_eq_true_eq, reduceIte, Nat.sub_self, Nat.reduceSub, Bool.not_true, Bool.not_false, Bool.false_eq_true, Int.reduceMul, Int.reduceAdd, Int.reduceLT, and_self, and_true, true_and, c_60, c_48271, c_69621, c_16807, c_7, c_2, c_01000, Nat.reduceLeDiff, tup_0, lst_0, Nat.zero_le, map_snoc, List.length_map, List.map_nil, kc_ltc, kc_eqb, kisn_non, map_snocB, isi_0int, isi_0bool, isi_0str, isi_0tuple, isi_1int, isi_1bool, isi_1str, isi_1tuple, isi_2int, isi_2bool, isi_2str, isi_2tuple, isi_3int, isi_3bool, isi_3str, isi_3tuple, isi_4int, isi_4bool, isi_4str, isi_4tuple, kc_in1, kc_nin1, map_snocC, wipeE, take_set2, kpre_str, kx_str, push_set, get_setapp, take_setapp, map_snocS, set_len, bg1, bg2, bg3, gc_mid, Ob.data, set_app0]
    rw [cont_nil, cont_cons]
    simp only [t_set1, t_set0, t_unp, t_seti, t_setf, t_app, t_ex, t_ife, t_for, t_whl, t_ret, t_rse0, t_brk, t_pas, e_con, e_var, e_bin, e_neg, e_cmp, e_isN, e_and, e_or, e_not, e_ite, e_call, e_blt, e_isi, e_meth, e_fld, e_idx, e_slc, e_rev, e_tup, e_lst, e_dct0, e_lc, e_gen, es_nil, es_cons, ds_nil, ds_cons, op_none, op_some, i_rng1, i_rng2, i_ov, ws_to, ws_then, ws_nx, ws_rt, ws_bk, ws_xc, ws_bad, wp_ok, wp_exc, wp_bad, wp_bind, ws_ite, wp_ite, gc_d, asData_d, kD_d, rd_d, entry, List.map, List.length, List.replicate, List.cons_append, List.nil_append, List.append_nil, List.getElem?_cons_zero, List.getElem?_cons_succ, List.set_cons_zero, List.set_cons_succ, List.take_length, take_app, take_same, take_set, gc_new, kb_add, kb_sub, kb_mul, kb_fdiv, kb_mod, kb_pow, kb_adds, kb_addt, kb_addl, kb_mult, kb_muls, kc_lt, kc_le, kc_gt, kc_ge, kc_eqi, kc_nei, kn, kt_bl, knot_bl, kbl_bl, at_bl, ab_bl, kl_scr, kl_tup, kl_lst, kl_str, ki_int, kt_tup, kt_lst, kx_scr, kx_tup, kx_lst, atI_0, atI_1, atI_2, atI_nat, rng1, rng2, alloc_eq, it_tup, it_lst, it_str, op_int, isl_new, push_app, asg, setAll, decide_eq_true_eq, reduceIte, Nat.sub_self, Nat.reduceSub, Bool.not_true, Bool.not_false, Bool.false_eq_true, Int.reduceMul, Int.reduceAdd, Int.reduceLT, and_self, and_true, true_and, c_60, c_48271, c_69621, c_16807, c_7, c_2, c_01000, Nat.reduceLeDiff, tup_0, lst_0, Nat.zero_le, map_snoc, List.length_map, List.map_nil, kc_ltc, kc_eqb, kisn_non, map_snocB, isi_0int, isi_0bool, isi_0str, isi_0tuple, isi_1int, isi_1bool, isi_1str, isi_1tuple, isi_2int, isi_2bool, isi_2str, isi_2tuple, isi_3int, isi_3bool, isi_3str, isi_3tuple, isi_4int, isi_4bool, isi_4str, isi_4tuple, kc_in1, kc_nin1, map_snocC, wipeE, take_set2, kpre_str, kx_str, push_set, get_setapp, take_setapp, map_snocS, set_len, bg1, bg2, bg3, gc_mid, Ob.data, set_app0]
    rw [cont_nil, cont_cons]
    simp only [t_set1, t_set0, t_unp, t_seti, t_setf, t_app, t_ex, t_ife, t_for, t_whl, t_ret, t_rse0, t_brk, t_pas, e_con, e_var, e_bin, e_neg, e_cmp, e_isN, e_and, e_or, e_not, e_ite, e_call, e_blt, e_isi, e_meth, e_fld, e_idx, e_slc, e_rev, e_tup, e_lst, e_dct0, e_lc, e_gen, es_nil, es_cons, ds_nil, ds_cons, op_none, op_some, i_rng1, i_rng2, i_ov, ws_to, ws_then, ws_nx, ws_rt, ws_bk, ws_xc, ws_bad, wp_ok, wp_exc, wp_bad, wp_bind, ws_ite, wp_ite, gc_d, asData_d, kD_d, rd_d, entry, List.map, List.length, List.replicate, List.cons_append, List.nil_append, List.append_nil, List.getElem?_cons_zero, List.getElem?_cons_succ, List.set_cons_zero, List.set_cons_succ, List.take_length, take_app, take_same, take_set, gc_new, kb_add, kb_sub, kb_mul, kb_fdiv, kb_mod, kb_pow, kb_adds, kb_addt, kb_addl, kb_mult, kb_muls, kc_lt, kc_le, kc_gt, kc_ge, kc_eqi, kc_nei, kn, kt_bl, knot_bl, kbl_bl, at_bl, ab_bl, kl_scr, kl_tup, kl_lst, kl_str, ki_int, kt_tup, kt_lst, kx_scr, kx_tup, kx_lst, atI_0, atI_1, atI_2, atI_nat, rng1, rng2, alloc_eq, it_tup, it_lst, it_str, op_int, isl_new, push_app, asg, setAll, decide_eq_true_eq, reduceIte, Nat.sub_self, Nat.reduceSub, Bool.not_true, Bool.not_false, Bool.false_eq_true, Int.reduceMul, Int.reduceAdd, Int.reduceLT, and_self, and_true, true_and, c_60, c_48271, c_69621, c_16807, c_7, c_2, c_01000, Nat.reduceLeDiff, tup_0, lst_0, Nat.zero_le, map_snoc, List.length_map, List.map_nil, kc_ltc, kc_eqb, kisn_non, map_snocB, isi_0int, isi_0bool, isi_0str, isi_0tuple, isi_1int, isi_1bool, isi_1str, isi_1tuple, isi_2int, isi_2bool, isi_2str, isi_2tuple, isi_3int, isi_3bool, isi_3str, isi_3tuple, isi_4int, isi_4bool, isi_4str, isi_4tuple, kc_in1, kc_nin1, map_snocC, wipeE, take_set2, kpre_str, kx_str, push_set, get_setapp, take_setapp, map_snocS, set_len, bg1, bg2, bg3, gc_mid, Ob.data, set_app0]
    rw [cont_nil, cont_cons]
    simp only [t_set1, t_set0, t_unp, t_seti, t_setf, t_app, t_ex, t_ife, t_for, t_whl, t_ret, t_rse0, t_brk, t_pas, e_con, e_var, e_bin, e_neg, e_cmp, e_isN, e_and, e_or, e_not, e_ite, e_call, e_blt, e_isi, e_meth, e_fld, e_idx, e_slc, e_rev, e_tup, e_lst, e_dct0, e_lc, e_gen, es_nil, es_cons, ds_nil, ds_cons, op_none, op_some, i_rng1, i_rng2, i_ov, ws_to, ws_then, ws_nx, ws_rt, ws_bk, ws_xc, ws_bad, wp_ok, wp_exc, wp_bad, wp_bind, ws_ite, wp_ite, gc_d, asData_d, kD_d, rd_d, entry, List.map, List.length, List.replicate, List.cons_append, List.nil_append, List.append_nil, List.getElem?_cons_zero, List.getElem?_cons_succ, List.set_cons_zero, List.set_cons_succ, List.take_length, take_app, take_same, take_set, gc_new, kb_add, kb_sub, kb_mul, kb_fdiv, kb_mod, kb_pow, kb_adds, kb_addt, kb_addl, kb_mult, kb_muls, kc_lt, kc_le, kc_gt, kc_ge, kc_eqi, kc_nei, kn, kt_bl, knot_bl, kbl_bl, at_bl, ab_bl, kl_scr, kl_tup, kl_lst, kl_str, ki_int, kt_tup, kt_lst, kx_scr, kx_tup, kx_lst, atI_0, atI_1, atI_2, atI_nat, rng1, rng2, alloc_eq, it_tup, it_lst, it_str, op_int, isl_new, push_app, asg, setAll, decide_eq_true_eq, reduceIte, Nat.sub_self, Nat.reduceSub, Bool.not_true, Bool.not_false, Bool.false_eq_true, Int.reduceMul, Int.reduceAdd, Int.reduceLT, and_self, and_true, true_and, c_60, c_48271, c_69621, c_16807, c_7, c_2, c_01000, Nat.reduceLeDiff, tup_0, lst_0, Nat.zero_le, map_snoc, List.length_map, List.map_nil, kc_ltc, kc_eqb, kisn_non, map_snocB, isi_0int, isi_0bool, isi_0str, isi_0tuple, isi_1int, isi_1bool, isi_1str, isi_1tuple, isi_2int, isi_2bool, isi_2str, isi_2tuple, isi_3int, isi_3bool, isi_3str, isi_3tuple, isi_4int, isi_4bool, isi_4str, isi_4tuple, kc_in1, kc_nin1, map_snocC, wipeE, take_set2, kpre_str, kx_str, push_set, get_setapp, take_setapp, map_snocS, set_len, bg1, bg2, bg3, gc_mid, Ob.data, set_app0, Sec]
  | n, .str a, h, k, S => by
    have h : SeqAt.shaped (.str a) = true := by cases n <;> exact h
    rw [wp_def H.t_l_same rfl]
    unfold d_l_same
    rw [cont_cons]
    simp only [t_set1, t_set0, t_unp, t_seti, t_setf, t_app, t_ex, t_ife, t_for, t_whl, t_ret, t_rse0, t_brk, t_pas, e_con, e_var, e_bin, e_neg, e_cmp, e_isN, e_and, e_or, e_not, e_ite, e_call, e_blt, e_isi, e_meth, e_fld, e_idx, e_slc, e_rev, e_tup, e_lst, e_dct0, e_lc, e_gen, es_nil, es_cons, ds_nil, ds_cons, op_none, op_some, i_rng1, i_rng2, i_ov, ws_to, ws_then, ws_nx, ws_rt, ws_bk, ws_xc, ws_bad, wp_ok, wp_exc, wp_bad, wp_bind, ws_ite, wp_ite, gc_d, asData_d, kD_d, rd_d, entry, List.map, List.length, List.replicate, List.cons_append, List.nil_append, List.append_nil, List.getElem?_cons_zero, List.getElem?_cons_succ, List.set_cons_zero, List.set_cons_succ, List.take_length, take_app, take_same, take_set, gc_new, kb_add, kb_sub, kb_mul, kb_fdiv, kb_mod, kb_pow, kb_adds, kb_addt, kb_addl, kb_mult, kb_muls, kc_lt, kc_le, kc_gt, kc_ge, kc_eqi, kc_nei, kn, kt_bl, knot_bl, kbl_bl, at_bl, ab_bl, kl_scr, kl_tup, kl_lst, kl_str, ki_int, kt_tup, kt_lst, kx_scr, kx_tup, kx_lst, atI_0, atI_1, atI_2, atI_nat, rng1, rng2, alloc_eq, it_tup, it_lst, it_str, op_int, isl_new, push_app, asg, setAll, decide_eq_true_eq, reduceIte, Nat.sub_self, Nat.reduceSub, Bool.not_true, Bool.not_false, Bool.false_eq_true, Int.reduceMul, Int.reduceAdd, Int.reduceLT, and_self, and_true, true_and, c_60, c_48271, c_69621, c_16807, c_7, c_2, c_01000, Nat.reduceLeDiff, tup_0, lst_0, Nat.zero_le, map_snoc, List.length_map, List.map_nil, kc_ltc, kc_eqb, kisn_non, map_snocB, isi_0int, isi_0bool, isi_0str, isi_0tuple, isi_1int, isi_1bool, isi_1str, isi_1tuple, isi_2int, isi_2bool, isi_2str, isi_2tuple, isi_3int, isi_3bool, isi_3str, isi_3tuple, isi_4int, isi_4bool, isi_4str, isi_4tuple, kc_in1, kc_nin1, map_snocC, wipeE, take_set2, kpre_str, kx_str, push_set, get_setapp, take_setapp, map_snocS, set_len, bg1, bg2, bg3, gc_mid, Ob.data, set_app0]
    rw [cont_nil, cont_cons]
    simp only [t_set1, t_set0, t_unp, t_seti, t_setf, t_app, t_ex, t_ife, t_for, t_whl, t_ret, t_rse0, t_brk, t_pas, e_con, e_var, e_bin, e_neg, e_cmp, e_isN, e_and, e_or, e_not, e_ite, e_call, e_blt, e_isi, e_meth, e_fld, e_idx, e_slc, e_rev, e_tup, e_lst, e_dct0, e_lc, e_gen, es_nil, es_cons, ds_nil, ds_cons, op_none, op_some, i_rng1, i_rng2, i_ov, ws_to, ws_then, ws_nx, ws_rt, ws_bk, ws_xc, ws_bad, wp_ok, wp_exc, wp_bad, wp_bind, ws_ite, wp_ite, gc_d, asData_d, kD_d, rd_d, entry, List.map, List.length, List.replicate, List.cons_append, List.nil_append, List.append_nil, List.getElem?_cons_zero, List.getElem?_cons_succ, List.set_cons_zero, List.set_cons_succ, List.take_length, take_app, take_same, take_set, gc_new, kb_add, kb_sub, kb_mul, kb_fdiv, kb_mod, kb_pow, kb_adds, kb_addt, kb_addl, kb_mult, kb_muls, kc_lt, kc_le, kc_gt, kc_ge, kc_eqi, kc_nei, kn, kt_bl, knot_bl, kbl_bl, at_bl, ab_bl, kl_scr, kl_tup, kl_lst, kl_str, ki_int, kt_tup, kt_lst, kx_scr, kx_tup, kx_lst, atI_0, atI_1, atI_2, atI_nat, rng1, rng2, alloc_eq, it_tup, it_lst, it_str, op_int, isl_new, push_app, asg, setAll, decide_eq_true_eq, reduceIte, Nat.sub_self, Nat.reduceSub, Bool.not_true, Bool.not_false, Bool.false_eq_true, Int.reduceMul, Int.reduceAdd, Int.reduceLT, and_self, and_true, true_and, c_60, c_48271, c_69621, c_16807, c_7, c_2, c_01000, Nat.reduceLeDiff, tup_0, lst_0, Nat.zero_le, map_snoc, List.length_map, List.map_nil, kc_ltc, kc_eqb, kisn_non, map_snocB, isi_0int, isi_0bool, isi_0str, isi_0tuple, isi_1int, isi_1bool, isi_1str, isi_1tuple, isi_2int, isi_2bool, isi_2str, isi_2tuple, isi_3int, isi_3bool, isi_3str, isi_3tuple, isi_4int, isi_4bool, isi_4str, isi_4tuple, kc_in1, kc_nin1, map_snocC, wipeE, take_set2, kpre_str, kx_str, push_set, get_setapp, take_setapp, map_snocS, set_len, bg1, bg2, bg3, gc_mid, Ob.data, set_app0]
    rw [cont_nil, cont_cons]
    simp only [t_set1, t_set0, t_unp, t_seti, t_setf, t_app, t_ex, t_ife, t_for, t_whl, t_ret, t_rse0, t_brk, t_pas, e_con, e_var, e_bin, e_neg, e_cmp, e_isN, e_and, e_or, e_not, e_ite, e_call, e_blt, e_isi, e_meth, e_fld, e_idx, e_slc, e_rev, e_tup, e_lst, e_dct0, e_lc, e_gen, es_nil, es_cons, ds_nil, ds_cons, op_none, op_some, i_rng1, i_rng2, i_ov, ws_to, ws_then, ws_nx, ws_rt, ws_bk, ws_xc, ws_bad, wp_ok, wp_exc, wp_bad, wp_bind, ws_ite, wp_ite, gc_d, asData_d, kD_d, rd_d, entry, List.map, List.length, List.replicate, List.cons_append, List.nil_append, List.append_nil, List.getElem?_cons_zero, List.getElem?_cons_succ, List.set_cons_zero, List.set_cons_succ, List.take_length, take_app, take_same, take_set, gc_new, kb_add, kb_sub, kb_mul, kb_fdiv, kb_mod, kb_pow, kb_adds, kb_addt, kb_addl, kb_mult, kb_muls, kc_lt, kc_le, kc_gt, kc_ge, kc_eqi, kc_nei, kn, kt_bl, knot_bl, kbl_bl, at_bl, ab_bl, kl_scr, kl_tup, kl_lst, kl_str, ki_int, kt_tup, kt_lst, kx_scr, kx_tup, kx_lst, atI_0, atI_1, atI_2, atI_nat, rng1, rng2, alloc_eq, it_tup, it_lst, it_str, op_int, isl_new, push_app, asg, setAll, decide_eq_true_eq, reduceIte, Nat.sub_self, Nat.reduceSub, Bool.not_true, Bool.not_false, Bool.false_eq_true, Int.reduceMul, Int.reduceAdd, Int.reduceLT, and_self, and_true, true_and, c_60, c_48271, c_69621, c_16807, c_7, c_2, c_01000, Nat.reduceLeDiff, tup_0, lst_0, Nat.zero_le, map_snoc, List.length_map, List.map_nil, kc_ltc, kc_eqb, kisn_non, map_snocB, isi_0int, isi_0bool, isi_0str, isi_0tuple, isi_1int, isi_1bool, isi_1str, isi_1tuple, isi_2int, isi_2bool, isi_2str, isi_2tuple, isi_3int, isi_3bool, isi_3str, isi_3tuple, isi_4int, isi_4bool, isi_4str, isi_4tuple, kc_in1, kc_nin1, map_snocC, wipeE, take_set2, kpre_str, kx_str, push_set, get_setapp, take_setapp, map_snocS, set_len, bg1, bg2, bg3, gc_mid, Ob.data, set_app0]
    rw [cont_nil, cont_cons]
    simp only [t_set1, t_set0, t_unp, t_seti, t_setf, t_app, t_ex, t_ife, t_for, t_whl, t_ret, t_rse0, t_brk, t_pas, e_con, e_var, e_bin, e_neg, e_cmp, e_isN, e_and, e_or, e_not, e_ite, e_call, e_blt, e_isi, e_meth, e_fld, e_idx, e_slc, e_rev, e_tup, e_lst, e_dct0, e_lc, e_gen, es_nil, es_cons, ds_nil, ds_cons, op_none, op_some, i_rng1, i_rng2, i_ov, ws_to, ws_then, ws_nx, ws_rt, ws_bk, ws_xc, ws_bad, wp_ok, wp_exc, wp_bad, wp_bind, ws_ite, wp_ite, gc_d, asData_d, kD_d, rd_d, entry, List.map, List.length, List.replicate, List.cons_append, List.nil_append, List.append_nil, List.getElem?_cons_zero, List.getElem?_cons_succ, List.set_cons_zero, List.set_cons_succ, List.take_length, take_app, take_same, take_set, gc_new, kb_add, kb_sub, kb_mul, kb_fdiv, kb_mod, kb_pow, kb_adds, kb_addt, kb_addl, kb_mult, kb_muls, kc_lt, kc_le, kc_gt, kc_ge, kc_eqi, kc_nei, kn, kt_bl, knot_bl, kbl_bl, at_bl, ab_bl, kl_scr, kl_tup, kl_lst, kl_str, ki_int, kt_tup, kt_lst, kx_scr, kx_tup, kx_lst, atI_0, atI_1, atI_2, atI_nat, rng1, rng2, alloc_eq, it_tup, it_lst, it_str, op_int, isl_new, push_app, asg, setAll, decide_eq_true_eq, reduceIte, Nat.sub_self, Nat.reduceSub, Bool.not_true, Bool.not_false, Bool.false_eq_true, Int.reduceMul, Int.reduceAdd, Int.reduceLT, and_self, and_true, true_and, c_60, c_48271, c_69621, c_16807, c_7, c_2, c_01000, Nat.reduceLeDiff, tup_0, lst_0, Nat.zero_le, map_snoc, List.length_map, List.map_nil, kc_ltc, kc_eqb, kisn_non, map_snocB, isi_0int, isi_0bool, isi_0str, isi_0tuple, isi_1int, isi_1bool, isi_1str, isi_1tuple, isi_2int, isi_2bool, isi_2str, isi_2tuple, isi_3int, isi_3bool, isi_3str, isi_3tuple, isi_4int, isi_4bool, isi_4str, isi_4tuple, kc_in1, kc_nin1, map_snocC, wipeE, take_set2, kpre_str, kx_str, push_set, get_setapp, take_setapp, map_snocS, set_len, bg1, bg2, bg3, gc_mid, Ob.data, set_app0]
    rw [cont_cons]
    simp only [t_set1, t_set0, t_unp, t_seti, t_setf, t_app, t_ex, t_ife, t_for, t_whl, t_ret, t_rse0, t_brk, t_pas, e_con, e_var, e_bin, e_neg, e_cmp, e_isN, e_and, e_or, e_not, e_ite, e_call, e_blt, e_isi, e_meth, e_fld, e_idx, e_slc, e_rev, e_tup, e_lst, e_dct0, e_lc, e_gen, es_nil, es_cons, ds_nil, ds_cons, op_none, op_some, i_rng1, i_rng2, i_ov, ws_to, ws_then, ws_nx, ws_rt, ws_bk, ws_xc, ws_bad, wp_ok, wp_exc, wp_bad, wp_bind, ws_ite, wp_ite, gc_d, asData_d, kD_d, rd_d, entry, List.map, List.length, List.replicate, List.cons_append, List.nil_append, List.append_nil, List.getElem?_cons_zero, List.getElem?_cons_succ, List.set_cons_zero, List.set_cons_succ, List.take_length, take_app, take_same, take_set, gc_new, kb_add, kb_sub, kb_mul, kb_fdiv, kb_mod, kb_pow, kb_adds, kb_addt, kb_addl, kb_mult, kb_muls, kc_lt, kc_le, kc_gt, kc_ge, kc_eqi, kc_nei, kn, kt_bl, knot_bl, kbl_bl, at_bl, ab_bl, kl_scr, kl_tup, kl_lst, kl_str, ki_int, kt_tup, kt_lst, kx_scr, kx_tup, kx_lst, atI_0, atI_1, atI_2, atI_nat, rng1, rng2, alloc_eq, it_tup, it_lst, it_str, op_int, isl_new, push_app, asg, setAll, decide_eq_true_eq, reduceIte, Nat.sub_self, Nat.reduceSub, Bool.not_true, Bool.not_false, Bool.false_eq_true, Int.reduceMul, Int.reduceAdd, Int.reduceLT, and_self, and_true, true_and, c_60, c_48271, c_69621, c_16807, c_7, c_2, c_01000, Nat.reduceLeDiff, tup_0, lst_0, Nat.zero_le, map_snoc, List.length_map, List.map_nil, kc_ltc, kc_eqb, kisn_non, map_snocB, isi_0int, isi_0bool, isi_0str, isi_0tuple, isi_1int, isi_1bool, isi_1str, isi_1tuple, isi_2int, isi_2bool, isi_2str, isi_2tuple, isi_3int, isi_3bool, isi_3str, isi_3tuple, isi_4int, isi_4bool, isi_4str, isi_4tuple, kc_in1, kc_nin1, map_snocC, wipeE, take_set2, kpre_str, kx_str, push_set, get_setapp, take_setapp, map_snocS, set_len, bg1, bg2, bg3, gc_mid, Ob.data, set_app0, Sec, kc_eqs _ _ _ h h]
    simp
  | n + 1, .tup xs, h, k, S => by
    have h : (decide (xs.length < 1000) && xs.all (plD n)) = true := h
    rw [Bool.and_eq_true] at h
    have hl := of_decide_eq_true h.1
    have e : k + (n + 1) + 2 = k + n + 2 + 1 := by omega
    rw [e, wp_def H.t_l_same rfl]
    unfold d_l_same
    rw [cont_cons]
    simp only [t_set1, t_set0, t_unp, t_seti, t_setf, t_app, t_ex, t_ife, t_for, t_whl, t_ret, t_rse0, t_brk, t_pas, e_con, e_var, e_bin, e_neg, e_cmp, e_isN, e_and, e_or, e_not, e_ite, e_call, e_blt, e_isi, e_meth, e_fld, e_idx, e_slc, e_rev, e_tup, e_lst, e_dct0, e_lc, e_gen, es_nil, es_cons, ds_nil, ds_cons, op_none, op_some, i_rng1, i_rng2, i_ov, ws_to, ws_then, ws_nx, ws_rt, ws_bk, ws_xc, ws_bad, wp_ok, wp_exc, wp_bad, wp_bind, ws_ite, wp_ite, gc_d, asData_d, kD_d, rd_d, entry, List.map, List.length, List.replicate, List.cons_append, List.nil_append, List.append_nil, List.getElem?_cons_zero, List.getElem?_cons_succ, List.set_cons_zero, List.set_cons_succ, List.take_length, take_app, take_same, take_set, gc_new, kb_add, kb_sub, kb_mul, kb_fdiv, kb_mod, kb_pow, kb_adds, kb_addt, kb_addl, kb_mult, kb_muls, kc_lt, kc_le, kc_gt, kc_ge, kc_eqi, kc_nei, kn, kt_bl, knot_bl, kbl_bl, at_bl, ab_bl, kl_scr, kl_tup, kl_lst, kl_str, ki_int, kt_tup, kt_lst, kx_scr, kx_tup, kx_lst, atI_0, atI_1, atI_2, atI_nat, rng1, rng2, alloc_eq, it_tup, it_lst, it_str, op_int, isl_new, push_app, asg, setAll, decide_eq_true_eq, reduceIte, Nat.sub_self, Nat.reduceSub, Bool.not_true, Bool.not_false, Bool.false_eq_true, Int.reduceMul, Int.reduceAdd, Int.reduceLT, and_self, and_true, true_and, c_60, c_48271, c_69621, c_16807, c_7, c_2, c_01000, Nat.reduceLeDiff, tup_0, lst_0, Nat.zero_le, map_snoc, List.length_map, List.map_nil, kc_ltc, kc_eqb, kisn_non, map_snocB, isi_0int, isi_0bool, isi_0str, isi_0tuple, isi_1int, isi_1bool, isi_1str, isi_1tuple, isi_2int, isi_2bool, isi_2str, isi_2tuple, isi_3int, isi_3bool, isi_3str, isi_3tuple, isi_4int, isi_4bool, isi_4str, isi_4tuple, kc_in1, kc_nin1, map_snocC, wipeE, take_set2, kpre_str, kx_str, push_set, get_setapp, take_setapp, map_snocS, set_len, bg1, bg2, bg3, gc_mid, Ob.data, set_app0]
    rw [cont_cons]
    simp only [t_set1, t_set0, t_unp, t_seti, t_setf, t_app, t_ex, t_ife, t_for, t_whl, t_ret, t_rse0, t_brk, t_pas, e_con, e_var, e_bin, e_neg, e_cmp, e_isN, e_and, e_or, e_not, e_ite, e_call, e_blt, e_isi, e_meth, e_fld, e_idx, e_slc, e_rev, e_tup, e_lst, e_dct0, e_lc, e_gen, es_nil, es_cons, ds_nil, ds_cons, op_none, op_some, i_rng1, i_rng2, i_ov, ws_to, ws_then, ws_nx, ws_rt, ws_bk, ws_xc, ws_bad, wp_ok, wp_exc, wp_bad, wp_bind, ws_ite, wp_ite, gc_d, asData_d, kD_d, rd_d, entry, List.map, List.length, List.replicate, List.cons_append, List.nil_append, List.append_nil, List.getElem?_cons_zero, List.getElem?_cons_succ, List.set_cons_zero, List.set_cons_succ, List.take_length, take_app, take_same, take_set, gc_new, kb_add, kb_sub, kb_mul, kb_fdiv, kb_mod, kb_pow, kb_adds, kb_addt, kb_addl, kb_mult, kb_muls, kc_lt, kc_le, kc_gt, kc_ge, kc_eqi, kc_nei, kn, kt_bl, knot_bl, kbl_bl, at_bl, ab_bl, kl_scr, kl_tup, kl_lst, kl_str, ki_int, kt_tup, kt_lst, kx_scr, kx_tup, kx_lst, atI_0, atI_1, atI_2, atI_nat, rng1, rng2, alloc_eq, it_tup, it_lst, it_str, op_int, isl_new, push_app, asg, setAll, decide_eq_true_eq, reduceIte, Nat.sub_self, Nat.reduceSub, Bool.not_true, Bool.not_false, Bool.false_eq_true, Int.reduceMul, Int.reduceAdd, Int.reduceLT, and_self, and_true, true_and, c_60, c_48271, c_69621, c_16807, c_7, c_2, c_01000, Nat.reduceLeDiff, tup_0, lst_0, Nat.zero_le, map_snoc, List.length_map, List.map_nil, kc_ltc, kc_eqb, kisn_non, map_snocB, isi_0int, isi_0bool, isi_0str, isi_0tuple, isi_1int, isi_1bool, isi_1str, isi_1tuple, isi_2int, isi_2bool, isi_2str, isi_2tuple, isi_3int, isi_3bool, isi_3str, isi_3tuple, isi_4int, isi_4bool, isi_4str, isi_4tuple, kc_in1, kc_nin1, map_snocC, wipeE, take_set2, kpre_str, kx_str, push_set, get_setapp, take_setapp, map_snocS, set_len, bg1, bg2, bg3, gc_mid, Ob.data, set_app0, Sec]
    simp only [beq_self_eq_true, Bool.not_true, Bool.false_eq_true, if_false]
    rw [cont_nil, cont_cons]
    simp only [t_set1, t_set0, t_unp, t_seti, t_setf, t_app, t_ex, t_ife, t_for, t_whl, t_ret, t_rse0, t_brk, t_pas, e_con, e_var, e_bin, e_neg, e_cmp, e_isN, e_and, e_or, e_not, e_ite, e_call, e_blt, e_isi, e_meth, e_fld, e_idx, e_slc, e_rev, e_tup, e_lst, e_dct0, e_lc, e_gen, es_nil, es_cons, ds_nil, ds_cons, op_none, op_some, i_rng1, i_rng2, i_ov, ws_to, ws_then, ws_nx, ws_rt, ws_bk, ws_xc, ws_bad, wp_ok, wp_exc, wp_bad, wp_bind, ws_ite, wp_ite, gc_d, asData_d, kD_d, rd_d, entry, List.map, List.length, List.replicate, List.cons_append, List.nil_append, List.append_nil, List.getElem?_cons_zero, List.getElem?_cons_succ, List.set_cons_zero, List.set_cons_succ, List.take_length, take_app, take_same, take_set, gc_new, kb_add, kb_sub, kb_mul, kb_fdiv, kb_mod, kb_pow, kb_adds, kb_addt, kb_addl, kb_mult, kb_muls, kc_lt, kc_le, kc_gt, kc_ge, kc_eqi, kc_nei, kn, kt_bl, knot_bl, kbl_bl, at_bl, ab_bl, kl_scr, kl_tup, kl_lst, kl_str, ki_int, kt_tup, kt_lst, kx_scr, kx_tup, kx_lst, atI_0, atI_1, atI_2, atI_nat, rng1, rng2, alloc_eq, it_tup, it_lst, it_str, op_int, isl_new, push_app, asg, setAll, decide_eq_true_eq, reduceIte, Nat.sub_self, Nat.reduceSub, Bool.not_true, Bool.not_false, Bool.false_eq_true, Int.reduceMul, Int.reduceAdd, Int.reduceLT, and_self, and_true, true_and, c_60, c_48271, c_69621, c_16807, c_7, c_2, c_01000, Nat.reduceLeDiff, tup_0, lst_0, Nat.zero_le, map_snoc, List.length_map, List.map_nil, kc_ltc, kc_eqb, kisn_non, map_snocB, isi_0int, isi_0bool, isi_0str, isi_0tuple, isi_1int, isi_1bool, isi_1str, isi_1tuple, isi_2int, isi_2bool, isi_2str, isi_2tuple, isi_3int, isi_3bool, isi_3str, isi_3tuple, isi_4int, isi_4bool, isi_4str, isi_4tuple, kc_in1, kc_nin1, map_snocC, wipeE, take_set2, kpre_str, kx_str, push_set, get_setapp, take_setapp, map_snocS, set_len, bg1, bg2, bg3, gc_mid, Ob.data, set_app0]
    rw [if_pos (okI_nat (by omega)), Int.toNat_natCast]
    refine wp_loop (fun i S' => ∃ bs : List Bool, S' = S ++ [.lst (bs.map .bl)] ∧ bs.length = i ∧ ∀ b ∈ bs, b = true) _ 0 _ ⟨[], rfl, rfl, by simp⟩ ?_ ?_
    · rintro i x S' hx ⟨bs, rfl, hb, ht⟩
      obtain ⟨hi, rfl⟩ := rngL_get hx
      refine ⟨_, rfl, wp_lcB0 ?_⟩
      simp only [t_set1, t_set0, t_unp, t_seti, t_setf, t_app, t_ex, t_ife, t_for, t_whl, t_ret, t_rse0, t_brk, t_pas, e_con, e_var, e_bin, e_neg, e_cmp, e_isN, e_and, e_or, e_not, e_ite, e_call, e_blt, e_isi, e_meth, e_fld, e_idx, e_slc, e_rev, e_tup, e_lst, e_dct0, e_lc, e_gen, es_nil, es_cons, ds_nil, ds_cons, op_none, op_some, i_rng1, i_rng2, i_ov, ws_to, ws_then, ws_nx, ws_rt, ws_bk, ws_xc, ws_bad, wp_ok, wp_exc, wp_bad, wp_bind, ws_ite, wp_ite, gc_d, asData_d, kD_d, rd_d, entry, List.map, List.length, List.replicate, List.cons_append, List.nil_append, List.append_nil, List.getElem?_cons_zero, List.getElem?_cons_succ, List.set_cons_zero, List.set_cons_succ, List.take_length, take_app, take_same, take_set, gc_new, kb_add, kb_sub, kb_mul, kb_fdiv, kb_mod, kb_pow, kb_adds, kb_addt, kb_addl, kb_mult, kb_muls, kc_lt, kc_le, kc_gt, kc_ge, kc_eqi, kc_nei, kn, kt_bl, knot_bl, kbl_bl, at_bl, ab_bl, kl_scr, kl_tup, kl_lst, kl_str, ki_int, kt_tup, kt_lst, kx_scr, kx_tup, kx_lst, atI_0, atI_1, atI_2, atI_nat, rng1, rng2, alloc_eq, it_tup, it_lst, it_str, op_int, isl_new, push_app, asg, setAll, decide_eq_true_eq, reduceIte, Nat.sub_self, Nat.reduceSub, Bool.not_true, Bool.not_false, Bool.false_eq_true, Int.reduceMul, Int.reduceAdd, Int.reduceLT, and_self, and_true, true_and, c_60, c_48271, c_69621, c_16807, c_7, c_2, c_01000, Nat.reduceLeDiff, tup_0, lst_0, Nat.zero_le, map_snoc, List.length_map, List.map_nil, kc_ltc, kc_eqb, kisn_non, map_snocB, isi_0int, isi_0bool, isi_0str, isi_0tuple, isi_1int, isi_1bool, isi_1str, isi_1tuple, isi_2int, isi_2bool, isi_2str, isi_2tuple, isi_3int, isi_3bool, isi_3str, isi_3tuple, isi_4int, isi_4bool, isi_4str, isi_4tuple, kc_in1, kc_nin1, map_snocC, wipeE, take_set2, kpre_str, kx_str, push_set, get_setapp, take_setapp, map_snocS, set_len, bg1, bg2, bg3, gc_mid, Ob.data, set_app0]
      simp only [Int.zero_add, atI_nat, List.getElem?_eq_getElem hi]
      simp only [t_set1, t_set0, t_unp, t_seti, t_setf, t_app, t_ex, t_ife, t_for, t_whl, t_ret, t_rse0, t_brk, t_pas, e_con, e_var, e_bin, e_neg, e_cmp, e_isN, e_and, e_or, e_not, e_ite, e_call, e_blt, e_isi, e_meth, e_fld, e_idx, e_slc, e_rev, e_tup, e_lst, e_dct0, e_lc, e_gen, es_nil, es_cons, ds_nil, ds_cons, op_none, op_some, i_rng1, i_rng2, i_ov, ws_to, ws_then, ws_nx, ws_rt, ws_bk, ws_xc, ws_bad, wp_ok, wp_exc, wp_bad, wp_bind, ws_ite, wp_ite, gc_d, asData_d, kD_d, rd_d, entry, List.map, List.length, List.replicate, List.cons_append, List.nil_append, List.append_nil, List.getElem?_cons_zero, List.getElem?_cons_succ, List.set_cons_zero, List.set_cons_succ, List.take_length, take_app, take_same, take_set, gc_new, kb_add, kb_sub, kb_mul, kb_fdiv, kb_mod, kb_pow, kb_adds, kb_addt, kb_addl, kb_mult, kb_muls, kc_lt, kc_le, kc_gt, kc_ge, kc_eqi, kc_nei, kn, kt_bl, knot_bl, kbl_bl, at_bl, ab_bl, kl_scr, kl_tup, kl_lst, kl_str, ki_int, kt_tup, kt_lst, kx_scr, kx_tup, kx_lst, atI_0, atI_1, atI_2, atI_nat, rng1, rng2, alloc_eq, it_tup, it_lst, it_str, op_int, isl_new, push_app, asg, setAll, decide_eq_true_eq, reduceIte, Nat.sub_self, Nat.reduceSub, Bool.not_true, Bool.not_false, Bool.false_eq_true, Int.reduceMul, Int.reduceAdd, Int.reduceLT, and_self, and_true, true_and, c_60, c_48271, c_69621, c_16807, c_7, c_2, c_01000, Nat.reduceLeDiff, tup_0, lst_0, Nat.zero_le, map_snoc, List.length_map, List.map_nil, kc_ltc, kc_eqb, kisn_non, map_snocB, isi_0int, isi_0bool, isi_0str, isi_0tuple, isi_1int, isi_1bool, isi_1str, isi_1tuple, isi_2int, isi_2bool, isi_2str, isi_2tuple, isi_3int, isi_3bool, isi_3str, isi_3tuple, isi_4int, isi_4bool, isi_4str, isi_4tuple, kc_in1, kc_nin1, map_snocC, wipeE, take_set2, kpre_str, kx_str, push_set, get_setapp, take_setapp, map_snocS, set_len, bg1, bg2, bg3, gc_mid, Ob.data, set_app0]
      refine (l_same_refl n xs[i] (List.all_eq_true.mp h.2 _ (List.getElem_mem hi)) k _).mono ?_ fun _ _ _ z => z
      rintro v S2 ⟨rfl, rfl⟩
      have hB : bs.length < BIG := len_big2 (by omega)
      simp only [t_set1, t_set0, t_unp, t_seti, t_setf, t_app, t_ex, t_ife, t_for, t_whl, t_ret, t_rse0, t_brk, t_pas, e_con, e_var, e_bin, e_neg, e_cmp, e_isN, e_and, e_or, e_not, e_ite, e_call, e_blt, e_isi, e_meth, e_fld, e_idx, e_slc, e_rev, e_tup, e_lst, e_dct0, e_lc, e_gen, es_nil, es_cons, ds_nil, ds_cons, op_none, op_some, i_rng1, i_rng2, i_ov, ws_to, ws_then, ws_nx, ws_rt, ws_bk, ws_xc, ws_bad, wp_ok, wp_exc, wp_bad, wp_bind, ws_ite, wp_ite, gc_d, asData_d, kD_d, rd_d, entry, List.map, List.length, List.replicate, List.cons_append, List.nil_append, List.append_nil, List.getElem?_cons_zero, List.getElem?_cons_succ, List.set_cons_zero, List.set_cons_succ, List.take_length, take_app, take_same, take_set, gc_new, kb_add, kb_sub, kb_mul, kb_fdiv, kb_mod, kb_pow, kb_adds, kb_addt, kb_addl, kb_mult, kb_muls, kc_lt, kc_le, kc_gt, kc_ge, kc_eqi, kc_nei, kn, kt_bl, knot_bl, kbl_bl, at_bl, ab_bl, kl_scr, kl_tup, kl_lst, kl_str, ki_int, kt_tup, kt_lst, kx_scr, kx_tup, kx_lst, atI_0, atI_1, atI_2, atI_nat, rng1, rng2, alloc_eq, it_tup, it_lst, it_str, op_int, isl_new, push_app, asg, setAll, decide_eq_true_eq, reduceIte, Nat.sub_self, Nat.reduceSub, Bool.not_true, Bool.not_false, Bool.false_eq_true, Int.reduceMul, Int.reduceAdd, Int.reduceLT, and_self, and_true, true_and, c_60, c_48271, c_69621, c_16807, c_7, c_2, c_01000, Nat.reduceLeDiff, tup_0, lst_0, Nat.zero_le, map_snoc, List.length_map, List.map_nil, kc_ltc, kc_eqb, kisn_non, map_snocB, isi_0int, isi_0bool, isi_0str, isi_0tuple, isi_1int, isi_1bool, isi_1str, isi_1tuple, isi_2int, isi_2bool, isi_2str, isi_2tuple, isi_3int, isi_3bool, isi_3str, isi_3tuple, isi_4int, isi_4bool, isi_4str, isi_4tuple, kc_in1, kc_nin1, map_snocC, wipeE, take_set2, kpre_str, kx_str, push_set, get_setapp, take_setapp, map_snocS, set_len, bg1, bg2, bg3, gc_mid, Ob.data, set_app0, hB]
      refine ⟨_, rfl, by simp; omega, fun b hb => ?_⟩
      rcases List.mem_append.mp hb with q | q
      · exact ht b q
      · exact List.mem_singleton.mp q
    · rintro S' ⟨bs, rfl, hb, ht⟩
      rw [kl_all _ _ bs (get_app0 _ _ _)]
      simp only [t_set1, t_set0, t_unp, t_seti, t_setf, t_app, t_ex, t_ife, t_for, t_whl, t_ret, t_rse0, t_brk, t_pas, e_con, e_var, e_bin, e_neg, e_cmp, e_isN, e_and, e_or, e_not, e_ite, e_call, e_blt, e_isi, e_meth, e_fld, e_idx, e_slc, e_rev, e_tup, e_lst, e_dct0, e_lc, e_gen, es_nil, es_cons, ds_nil, ds_cons, op_none, op_some, i_rng1, i_rng2, i_ov, ws_to, ws_then, ws_nx, ws_rt, ws_bk, ws_xc, ws_bad, wp_ok, wp_exc, wp_bad, wp_bind, ws_ite, wp_ite, gc_d, asData_d, kD_d, rd_d, entry, List.map, List.length, List.replicate, List.cons_append, List.nil_append, List.append_nil, List.getElem?_cons_zero, List.getElem?_cons_succ, List.set_cons_zero, List.set_cons_succ, List.take_length, take_app, take_same, take_set, gc_new, kb_add, kb_sub, kb_mul, kb_fdiv, kb_mod, kb_pow, kb_adds, kb_addt, kb_addl, kb_mult, kb_muls, kc_lt, kc_le, kc_gt, kc_ge, kc_eqi, kc_nei, kn, kt_bl, knot_bl, kbl_bl, at_bl, ab_bl, kl_scr, kl_tup, kl_lst, kl_str, ki_int, kt_tup, kt_lst, kx_scr, kx_tup, kx_lst, atI_0, atI_1, atI_2, atI_nat, rng1, rng2, alloc_eq, it_tup, it_lst, it_str, op_int, isl_new, push_app, asg, setAll, decide_eq_true_eq, reduceIte, Nat.sub_self, Nat.reduceSub, Bool.not_true, Bool.not_false, Bool.false_eq_true, Int.reduceMul, Int.reduceAdd, Int.reduceLT, and_self, and_true, true_and, c_60, c_48271, c_69621, c_16807, c_7, c_2, c_01000, Nat.reduceLeDiff, tup_0, lst_0, Nat.zero_le, map_snoc, List.length_map, List.map_nil, kc_ltc, kc_eqb, kisn_non, map_snocB, isi_0int, isi_0bool, isi_0str, isi_0tuple, isi_1int, isi_1bool, isi_1str, isi_1tuple, isi_2int, isi_2bool, isi_2str, isi_2tuple, isi_3int, isi_3bool, isi_3str, isi_3tuple, isi_4int, isi_4bool, isi_4str, isi_4tuple, kc_in1, kc_nin1, map_snocC, wipeE, take_set2, kpre_str, kx_str, push_set, get_setapp, take_setapp, map_snocS, set_len, bg1, bg2, bg3, gc_mid, Ob.data, set_app0]
      simpa using ht
  | 0, .tup xs, h, k, S => by cases h
  | n, .lst _, h, k, S => by cases n <;> cases h
  | n, .dct _, h, k, S => by cases n <;> cases h
  | n, .obj _ _, h, k, S => by cases n <;> cases h
  | n, .scr _, h, k, S => by cases n <;> cases h
  | n, .fn _, h, k, S => by cases n <;> cases h
theorem is_ascending_ok (k : Nat) (cs : List Cell) (S : Store) (hl : cs.length < 1000) : Wp (callF tbl (k + 1) 0 [.d (.tup (cs.map cellD))] S) (fun u S' => u = .d (.bl ((List.range (cs.length - 1)).all fun i => cellLt (cs.getD i (0, 0)) (cs.getD (i + 1) (0, 0)))) ∧ S' = S) noX := by
  rw [wp_def H.t_is_ascending rfl]
  unfold d_is_ascending
  rw [cont_cons]
  simp only [t_set1, t_set0, t_unp, t_seti, t_setf, t_app, t_ex, t_ife, t_for, t_whl, t_ret, t_rse0, t_brk, t_pas, e_con, e_var, e_bin, e_neg, e_cmp, e_isN, e_and, e_or, e_not, e_ite, e_call, e_blt, e_isi, e_meth, e_fld, e_idx, e_slc, e_rev, e_tup, e_lst, e_dct0, e_lc, e_gen, es_nil, es_cons, ds_nil, ds_cons, op_none, op_some, i_rng1, i_rng2, i_ov, ws_to, ws_then, ws_nx, ws_rt, ws_bk, ws_xc, ws_bad, wp_ok, wp_exc, wp_bad, wp_bind, ws_ite, wp_ite, gc_d, asData_d, kD_d, rd_d, entry, List.map, List.length, List.replicate, List.cons_append, List.nil_append, List.append_nil, List.getElem?_cons_zero, List.getElem?_cons_succ, List.set_cons_zero, List.set_cons_succ, List.take_length, take_app, take_same, take_set, gc_new, kb_add, kb_sub, kb_mul, kb_fdiv, kb_mod, kb_pow, kb_adds, kb_addt, kb_addl, kb_mult, kb_muls, kc_lt, kc_le, kc_gt, kc_ge, kc_eqi, kc_nei, kn, kt_bl, knot_bl, kbl_bl, at_bl, ab_bl, kl_scr, kl_tup, kl_lst, kl_str, ki_int, kt_tup, kt_lst, kx_scr, kx_tup, kx_lst, atI_0, atI_1, atI_2, atI_nat, rng1, rng2, alloc_eq, it_tup, it_lst, it_str, op_int, isl_new, push_app, asg, setAll, decide_eq_true_eq, reduceIte, Nat.sub_self, Nat.reduceSub, Bool.not_true, Bool.not_false, Bool.false_eq_true, Int.reduceMul, Int.reduceAdd, Int.reduceLT, and_self, and_true, true_and, c_60, c_48271, c_69621, c_16807, c_7, c_2, c_01000, Nat.reduceLeDiff, tup_0, lst_0, Nat.zero_le, map_snoc, List.length_map, List.map_nil, kc_ltc, kc_eqb, kisn_non, map_snocB, isi_0int, isi_0bool, isi_0str, isi_0tuple, isi_1int, isi_1bool, isi_1str, isi_1tuple, isi_2int, isi_2bool, isi_2str, isi_2tuple, isi_3int, isi_3bool, isi_3str, isi_3tuple, isi_4int, isi_4bool, isi_4str, isi_4tuple, kc_in1, kc_nin1, map_snocC, wipeE, take_set2, kpre_str, kx_str, push_set, get_setapp, take_setapp, map_snocS, set_len, bg1, bg2, bg3, gc_mid, Ob.data, set_app0]
  have e0 : okI ((cs.length : Int) - 1) = true := by
    unfold okI
    exact decide_eq_true (by omega)
  have e1 : ((cs.length : Int) - 1).toNat = cs.length - 1 := by omega
  rw [if_pos e0, e1]
  refine (wp_genGo (fun x => match x with
    | .int z => cellLt (cs.getD z.toNat (0, 0)) (cs.getD (z.toNat + 1) (0, 0))
    | _ => false) _ fun x hx => ?_).mono ?_ fun _ _ _ z => z
  · obtain ⟨i, hi⟩ := List.getElem?_of_mem hx
    obtain ⟨hi, rfl⟩ := rngL_get hi
    refine ⟨_, rfl, wp_gnB ?_⟩
    have h1 : i < cs.length := by omega
    have h2 : i + 1 < cs.length := by omega
    have e2 : ((0 : Int) + (i : Int) + 1) = ((i + 1 : Nat) : Int) := by omega
    simp only [t_set1, t_set0, t_unp, t_seti, t_setf, t_app, t_ex, t_ife, t_for, t_whl, t_ret, t_rse0, t_brk, t_pas, e_con, e_var, e_bin, e_neg, e_cmp, e_isN, e_and, e_or, e_not, e_ite, e_call, e_blt, e_isi, e_meth, e_fld, e_idx, e_slc, e_rev, e_tup, e_lst, e_dct0, e_lc, e_gen, es_nil, es_cons, ds_nil, ds_cons, op_none, op_some, i_rng1, i_rng2, i_ov, ws_to, ws_then, ws_nx, ws_rt, ws_bk, ws_xc, ws_bad, wp_ok, wp_exc, wp_bad, wp_bind, ws_ite, wp_ite, gc_d, asData_d, kD_d, rd_d, entry, List.map, List.length, List.replicate, List.cons_append, List.nil_append, List.append_nil, List.getElem?_cons_zero, List.getElem?_cons_succ, List.set_cons_zero, List.set_cons_succ, List.take_length, take_app, take_same, take_set, gc_new, kb_add, kb_sub, kb_mul, kb_fdiv, kb_mod, kb_pow, kb_adds, kb_addt, kb_addl, kb_mult, kb_muls, kc_lt, kc_le, kc_gt, kc_ge, kc_eqi, kc_nei, kn, kt_bl, knot_bl, kbl_bl, at_bl, ab_bl, kl_scr, kl_tup, kl_lst, kl_str, ki_int, kt_tup, kt_lst, kx_scr, kx_tup, kx_lst, atI_0, atI_1, atI_2, atI_nat, rng1, rng2, alloc_eq, it_tup, it_lst, it_str, op_int, isl_new, push_app, asg, setAll, decide_eq_true_eq, reduceIte, Nat.sub_self, Nat.reduceSub, Bool.not_true, Bool.not_false, Bool.false_eq_true, Int.reduceMul, Int.reduceAdd, Int.reduceLT, and_self, and_true, true_and, c_60, c_48271, c_69621, c_16807, c_7, c_2, c_01000, Nat.reduceLeDiff, tup_0, lst_0, Nat.zero_le, map_snoc, List.length_map, List.map_nil, kc_ltc, kc_eqb, kisn_non, map_snocB, isi_0int, isi_0bool, isi_0str, isi_0tuple, isi_1int, isi_1bool, isi_1str, isi_1tuple, isi_2int, isi_2bool, isi_2str, isi_2tuple, isi_3int, isi_3bool, isi_3str, isi_3tuple, isi_4int, isi_4bool, isi_4str, isi_4tuple, kc_in1, kc_nin1, map_snocC, wipeE, take_set2, kpre_str, kx_str, push_set, get_setapp, take_setapp, map_snocS, set_len, bg1, bg2, bg3, gc_mid, Ob.data, set_app0]
    rw [e2]
    simp only [Int.zero_add, atI_nat, List.getElem?_map, List.getElem?_eq_getElem h1, List.getElem?_eq_getElem h2, Option.map_some]
    simp only [t_set1, t_set0, t_unp, t_seti, t_setf, t_app, t_ex, t_ife, t_for, t_whl, t_ret, t_rse0, t_brk, t_pas, e_con, e_var, e_bin, e_neg, e_cmp, e_isN, e_and, e_or, e_not, e_ite, e_call, e_blt, e_isi, e_meth, e_fld, e_idx, e_slc, e_rev, e_tup, e_lst, e_dct0, e_lc, e_gen, es_nil, es_cons, ds_nil, ds_cons, op_none, op_some, i_rng1, i_rng2, i_ov, ws_to, ws_then, ws_nx, ws_rt, ws_bk, ws_xc, ws_bad, wp_ok, wp_exc, wp_bad, wp_bind, ws_ite, wp_ite, gc_d, asData_d, kD_d, rd_d, entry, List.map, List.length, List.replicate, List.cons_append, List.nil_append, List.append_nil, List.getElem?_cons_zero, List.getElem?_cons_succ, List.set_cons_zero, List.set_cons_succ, List.take_length, take_app, take_same, take_set, gc_new, kb_add, kb_sub, kb_mul, kb_fdiv, kb_mod, kb_pow, kb_adds, kb_addt, kb_addl, kb_mult, kb_muls, kc_lt, kc_le, kc_gt, kc_ge, kc_eqi, kc_nei, kn, kt_bl, knot_bl, kbl_bl, at_bl, ab_bl, kl_scr, kl_tup, kl_lst, kl_str, ki_int, kt_tup, kt_lst, kx_scr, kx_tup, kx_lst, atI_0, atI_1, atI_2, atI_nat, rng1, rng2, alloc_eq, it_tup, it_lst, it_str, op_int, isl_new, push_app, asg, setAll, decide_eq_true_eq, reduceIte, Nat.sub_self, Nat.reduceSub, Bool.not_true, Bool.not_false, Bool.false_eq_true, Int.reduceMul, Int.reduceAdd, Int.reduceLT, and_self, and_true, true_and, c_60, c_48271, c_69621, c_16807, c_7, c_2, c_01000, Nat.reduceLeDiff, tup_0, lst_0, Nat.zero_le, map_snoc, List.length_map, List.map_nil, kc_ltc, kc_eqb, kisn_non, map_snocB, isi_0int, isi_0bool, isi_0str, isi_0tuple, isi_1int, isi_1bool, isi_1str, isi_1tuple, isi_2int, isi_2bool, isi_2str, isi_2tuple, isi_3int, isi_3bool, isi_3str, isi_3tuple, isi_4int, isi_4bool, isi_4str, isi_4tuple, kc_in1, kc_nin1, map_snocC, wipeE, take_set2, kpre_str, kx_str, push_set, get_setapp, take_setapp, map_snocS, set_len, bg1, bg2, bg3, gc_mid, Ob.data, set_app0]
    simp [List.getD, h1, h2]
  · rintro b S' ⟨rfl, rfl⟩
    simp only [t_set1, t_set0, t_unp, t_seti, t_setf, t_app, t_ex, t_ife, t_for, t_whl, t_ret, t_rse0, t_brk, t_pas, e_con, e_var, e_bin, e_neg, e_cmp, e_isN, e_and, e_or, e_not, e_ite, e_call, e_blt, e_isi, e_meth, e_fld, e_idx, e_slc, e_rev, e_tup, e_lst, e_dct0, e_lc, e_gen, es_nil, es_cons, ds_nil, ds_cons, op_none, op_some, i_rng1, i_rng2, i_ov, ws_to, ws_then, ws_nx, ws_rt, ws_bk, ws_xc, ws_bad, wp_ok, wp_exc, wp_bad, wp_bind, ws_ite, wp_ite, gc_d, asData_d, kD_d, rd_d, entry, List.map, List.length, List.replicate, List.cons_append, List.nil_append, List.append_nil, List.getElem?_cons_zero, List.getElem?_cons_succ, List.set_cons_zero, List.set_cons_succ, List.take_length, take_app, take_same, take_set, gc_new, kb_add, kb_sub, kb_mul, kb_fdiv, kb_mod, kb_pow, kb_adds, kb_addt, kb_addl, kb_mult, kb_muls, kc_lt, kc_le, kc_gt, kc_ge, kc_eqi, kc_nei, kn, kt_bl, knot_bl, kbl_bl, at_bl, ab_bl, kl_scr, kl_tup, kl_lst, kl_str, ki_int, kt_tup, kt_lst, kx_scr, kx_tup, kx_lst, atI_0, atI_1, atI_2, atI_nat, rng1, rng2, alloc_eq, it_tup, it_lst, it_str, op_int, isl_new, push_app, asg, setAll, decide_eq_true_eq, reduceIte, Nat.sub_self, Nat.reduceSub, Bool.not_true, Bool.not_false, Bool.false_eq_true, Int.reduceMul, Int.reduceAdd, Int.reduceLT, and_self, and_true, true_and, c_60, c_48271, c_69621, c_16807, c_7, c_2, c_01000, Nat.reduceLeDiff, tup_0, lst_0, Nat.zero_le, map_snoc, List.length_map, List.map_nil, kc_ltc, kc_eqb, kisn_non, map_snocB, isi_0int, isi_0bool, isi_0str, isi_0tuple, isi_1int, isi_1bool, isi_1str, isi_1tuple, isi_2int, isi_2bool, isi_2str, isi_2tuple, isi_3int, isi_3bool, isi_3str, isi_3tuple, isi_4int, isi_4bool, isi_4str, isi_4tuple, kc_in1, kc_nin1, map_snocC, wipeE, take_set2, kpre_str, kx_str, push_set, get_setapp, take_setapp, map_snocS, set_len, bg1, bg2, bg3, gc_mid, Ob.data, set_app0]
    rw [rngL, List.all_map]
    congr 2
    refine List.all_congr rfl fun i => ?_
    simp
theorem are_rows_nil (k : Nat) (S : Store) : Wp (callF tbl (k + 1) 1 [.d (.tup [])] S) (fun u S' => u = .d (.bl false) ∧ S' = S) noX := by
  rw [wp_def H.t_are_rows rfl]
  unfold d_are_rows
  rw [cont_cons]
  simp only [t_set1, t_set0, t_unp, t_seti, t_setf, t_app, t_ex, t_ife, t_for, t_whl, t_ret, t_rse0, t_brk, t_pas, e_con, e_var, e_bin, e_neg, e_cmp, e_isN, e_and, e_or, e_not, e_ite, e_call, e_blt, e_isi, e_meth, e_fld, e_idx, e_slc, e_rev, e_tup, e_lst, e_dct0, e_lc, e_gen, es_nil, es_cons, ds_nil, ds_cons, op_none, op_some, i_rng1, i_rng2, i_ov, ws_to, ws_then, ws_nx, ws_rt, ws_bk, ws_xc, ws_bad, wp_ok, wp_exc, wp_bad, wp_bind, ws_ite, wp_ite, gc_d, asData_d, kD_d, rd_d, entry, List.map, List.length, List.replicate, List.cons_append, List.nil_append, List.append_nil, List.getElem?_cons_zero, List.getElem?_cons_succ, List.set_cons_zero, List.set_cons_succ, List.take_length, take_app, take_same, take_set, gc_new, kb_add, kb_sub, kb_mul, kb_fdiv, kb_mod, kb_pow, kb_adds, kb_addt, kb_addl, kb_mult, kb_muls, kc_lt, kc_le, kc_gt, kc_ge, kc_eqi, kc_nei, kn, kt_bl, knot_bl, kbl_bl, at_bl, ab_bl, kl_scr, kl_tup, kl_lst, kl_str, ki_int, kt_tup, kt_lst, kx_scr, kx_tup, kx_lst, atI_0, atI_1, atI_2, atI_nat, rng1, rng2, alloc_eq, it_tup, it_lst, it_str, op_int, isl_new, push_app, asg, setAll, decide_eq_true_eq, reduceIte, Nat.sub_self, Nat.reduceSub, Bool.not_true, Bool.not_false, Bool.false_eq_true, Int.reduceMul, Int.reduceAdd, Int.reduceLT, and_self, and_true, true_and, c_60, c_48271, c_69621, c_16807, c_7, c_2, c_01000, Nat.reduceLeDiff, tup_0, lst_0, Nat.zero_le, map_snoc, List.length_map, List.map_nil, kc_ltc, kc_eqb, kisn_non, map_snocB, isi_0int, isi_0bool, isi_0str, isi_0tuple, isi_1int, isi_1bool, isi_1str, isi_1tuple, isi_2int, isi_2bool, isi_2str, isi_2tuple, isi_3int, isi_3bool, isi_3str, isi_3tuple, isi_4int, isi_4bool, isi_4str, isi_4tuple, kc_in1, kc_nin1, map_snocC, wipeE, take_set2, kpre_str, kx_str, push_set, get_setapp, take_setapp, map_snocS, set_len, bg1, bg2, bg3, gc_mid, Ob.data, set_app0, Sec]
  have e0 : ((0 : Nat) : Int) < 1 := by decide
  rw [if_pos e0, cont_cons]
  simp only [t_set1, t_set0, t_unp, t_seti, t_setf, t_app, t_ex, t_ife, t_for, t_whl, t_ret, t_rse0, t_brk, t_pas, e_con, e_var, e_bin, e_neg, e_cmp, e_isN, e_and, e_or, e_not, e_ite, e_call, e_blt, e_isi, e_meth, e_fld, e_idx, e_slc, e_rev, e_tup, e_lst, e_dct0, e_lc, e_gen, es_nil, es_cons, ds_nil, ds_cons, op_none, op_some, i_rng1, i_rng2, i_ov, ws_to, ws_then, ws_nx, ws_rt, ws_bk, ws_xc, ws_bad, wp_ok, wp_exc, wp_bad, wp_bind, ws_ite, wp_ite, gc_d, asData_d, kD_d, rd_d, entry, List.map, List.length, List.replicate, List.cons_append, List.nil_append, List.append_nil, List.getElem?_cons_zero, List.getElem?_cons_succ, List.set_cons_zero, List.set_cons_succ, List.take_length, take_app, take_same, take_set, gc_new, kb_add, kb_sub, kb_mul, kb_fdiv, kb_mod, kb_pow, kb_adds, kb_addt, kb_addl, kb_mult, kb_muls, kc_lt, kc_le, kc_gt, kc_ge, kc_eqi, kc_nei, kn, kt_bl, knot_bl, kbl_bl, at_bl, ab_bl, kl_scr, kl_tup, kl_lst, kl_str, ki_int, kt_tup, kt_lst, kx_scr, kx_tup, kx_lst, atI_0, atI_1, atI_2, atI_nat, rng1, rng2, alloc_eq, it_tup, it_lst, it_str, op_int, isl_new, push_app, asg, setAll, decide_eq_true_eq, reduceIte, Nat.sub_self, Nat.reduceSub, Bool.not_true, Bool.not_false, Bool.false_eq_true, Int.reduceMul, Int.reduceAdd, Int.reduceLT, and_self, and_true, true_and, c_60, c_48271, c_69621, c_16807, c_7, c_2, c_01000, Nat.reduceLeDiff, tup_0, lst_0, Nat.zero_le, map_snoc, List.length_map, List.map_nil, kc_ltc, kc_eqb, kisn_non, map_snocB, isi_0int, isi_0bool, isi_0str, isi_0tuple, isi_1int, isi_1bool, isi_1str, isi_1tuple, isi_2int, isi_2bool, isi_2str, isi_2tuple, isi_3int, isi_3bool, isi_3str, isi_3tuple, isi_4int, isi_4bool, isi_4str, isi_4tuple, kc_in1, kc_nin1, map_snocC, wipeE, take_set2, kpre_str, kx_str, push_set, get_setapp, take_setapp, map_snocS, set_len, bg1, bg2, bg3, gc_mid, Ob.data, set_app0]
def SIGNS : List Nat := [49, 50, 51, 52, 53, 54, 55, 56, 57, 97, 98, 99, 100, 101, 102, 103, 104, 105, 94, 35]
def okRow (w : Nat) (x : Str) : Bool := x.length == w && x.cps.toList.all fun c => decide (c ∈ SIGNS)
omit H in
theorem signs_eq : ((((⟨#[49, 50, 51, 52, 53, 54, 55, 56, 57]⟩ : Str) ++ (⟨#[97, 98, 99, 100, 101, 102, 103, 104, 105]⟩ : Str)) ++ (⟨#[94]⟩ : Str)) ++ (⟨#[35]⟩ : Str)) = (⟨SIGNS.toArray⟩ : Str) := by decide +kernel
theorem are_rows_ok (k : Nat) (r0 : Str) (r : List Str) (S : Store) (hl : r.length < 1000) (h0 : r0.length < 1000) (hw : ∀ x ∈ r, x.length < 1000) : Wp (callF tbl (k + 1) 1 [.d (.tup ((r0 :: r).map .str))] S) (fun u S' => u = .d (.bl (decide (r.length < 7 ∧ 1 ≤ r0.length ∧ r0.length ≤ 7) && (r0 :: r).all (okRow r0.length))) ∧ S' = S) noX := by
  rw [wp_def H.t_are_rows rfl]
  unfold d_are_rows
  have hb : r0.length ≤ BIG := len_big (by omega)
  rw [cont_cons]
  simp only [t_set1, t_set0, t_unp, t_seti, t_setf, t_app, t_ex, t_ife, t_for, t_whl, t_ret, t_rse0, t_brk, t_pas, e_con, e_var, e_bin, e_neg, e_cmp, e_isN, e_and, e_or, e_not, e_ite, e_call, e_blt, e_isi, e_meth, e_fld, e_idx, e_slc, e_rev, e_tup, e_lst, e_dct0, e_lc, e_gen, es_nil, es_cons, ds_nil, ds_cons, op_none, op_some, i_rng1, i_rng2, i_ov, ws_to, ws_then, ws_nx, ws_rt, ws_bk, ws_xc, ws_bad, wp_ok, wp_exc, wp_bad, wp_bind, ws_ite, wp_ite, gc_d, asData_d, kD_d, rd_d, entry, List.map, List.length, List.replicate, List.cons_append, List.nil_append, List.append_nil, List.getElem?_cons_zero, List.getElem?_cons_succ, List.set_cons_zero, List.set_cons_succ, List.take_length, take_app, take_same, take_set, gc_new, kb_add, kb_sub, kb_mul, kb_fdiv, kb_mod, kb_pow, kb_adds, kb_addt, kb_addl, kb_mult, kb_muls, kc_lt, kc_le, kc_gt, kc_ge, kc_eqi, kc_nei, kn, kt_bl, knot_bl, kbl_bl, at_bl, ab_bl, kl_scr, kl_tup, kl_lst, kl_str, ki_int, kt_tup, kt_lst, kx_scr, kx_tup, kx_lst, atI_0, atI_1, atI_2, atI_nat, rng1, rng2, alloc_eq, it_tup, it_lst, it_str, op_int, isl_new, push_app, asg, setAll, decide_eq_true_eq, reduceIte, Nat.sub_self, Nat.reduceSub, Bool.not_true, Bool.not_false, Bool.false_eq_true, Int.reduceMul, Int.reduceAdd, Int.reduceLT, and_self, and_true, true_and, c_60, c_48271, c_69621, c_16807, c_7, c_2, c_01000, Nat.reduceLeDiff, tup_0, lst_0, Nat.zero_le, map_snoc, List.length_map, List.map_nil, kc_ltc, kc_eqb, kisn_non, map_snocB, isi_0int, isi_0bool, isi_0str, isi_0tuple, isi_1int, isi_1bool, isi_1str, isi_1tuple, isi_2int, isi_2bool, isi_2str, isi_2tuple, isi_3int, isi_3bool, isi_3str, isi_3tuple, isi_4int, isi_4bool, isi_4str, isi_4tuple, kc_in1, kc_nin1, map_snocC, wipeE, take_set2, kpre_str, kx_str, push_set, get_setapp, take_setapp, map_snocS, set_len, bg1, bg2, bg3, gc_mid, Ob.data, set_app0, Sec, hb]
  rw [if_neg (by omega)]
  by_cases c2 : 7 < ((r.length + 1 : Nat) : Int)
  · rw [if_pos c2, cont_cons]
    simp only [t_set1, t_set0, t_unp, t_seti, t_setf, t_app, t_ex, t_ife, t_for, t_whl, t_ret, t_rse0, t_brk, t_pas, e_con, e_var, e_bin, e_neg, e_cmp, e_isN, e_and, e_or, e_not, e_ite, e_call, e_blt, e_isi, e_meth, e_fld, e_idx, e_slc, e_rev, e_tup, e_lst, e_dct0, e_lc, e_gen, es_nil, es_cons, ds_nil, ds_cons, op_none, op_some, i_rng1, i_rng2, i_ov, ws_to, ws_then, ws_nx, ws_rt, ws_bk, ws_xc, ws_bad, wp_ok, wp_exc, wp_bad, wp_bind, ws_ite, wp_ite, gc_d, asData_d, kD_d, rd_d, entry, List.map, List.length, List.replicate, List.cons_append, List.nil_append, List.append_nil, List.getElem?_cons_zero, List.getElem?_cons_succ, List.set_cons_zero, List.set_cons_succ, List.take_length, take_app, take_same, take_set, gc_new, kb_add, kb_sub, kb_mul, kb_fdiv, kb_mod, kb_pow, kb_adds, kb_addt, kb_addl, kb_mult, kb_muls, kc_lt, kc_le, kc_gt, kc_ge, kc_eqi, kc_nei, kn, kt_bl, knot_bl, kbl_bl, at_bl, ab_bl, kl_scr, kl_tup, kl_lst, kl_str, ki_int, kt_tup, kt_lst, kx_scr, kx_tup, kx_lst, atI_0, atI_1, atI_2, atI_nat, rng1, rng2, alloc_eq, it_tup, it_lst, it_str, op_int, isl_new, push_app, asg, setAll, decide_eq_true_eq, reduceIte, Nat.sub_self, Nat.reduceSub, Bool.not_true, Bool.not_false, Bool.false_eq_true, Int.reduceMul, Int.reduceAdd, Int.reduceLT, and_self, and_true, true_and, c_60, c_48271, c_69621, c_16807, c_7, c_2, c_01000, Nat.reduceLeDiff, tup_0, lst_0, Nat.zero_le, map_snoc, List.length_map, List.map_nil, kc_ltc, kc_eqb, kisn_non, map_snocB, isi_0int, isi_0bool, isi_0str, isi_0tuple, isi_1int, isi_1bool, isi_1str, isi_1tuple, isi_2int, isi_2bool, isi_2str, isi_2tuple, isi_3int, isi_3bool, isi_3str, isi_3tuple, isi_4int, isi_4bool, isi_4str, isi_4tuple, kc_in1, kc_nin1, map_snocC, wipeE, take_set2, kpre_str, kx_str, push_set, get_setapp, take_setapp, map_snocS, set_len, bg1, bg2, bg3, gc_mid, Ob.data, set_app0]
    have e : decide (r.length < 7 ∧ 1 ≤ r0.length ∧ r0.length ≤ 7) = false := decide_eq_false (by omega)
    rw [e, Bool.false_and]
  rw [if_neg c2]
  by_cases c3 : (r0.length : Int) < 1
  · rw [if_pos c3, cont_cons]
    simp only [t_set1, t_set0, t_unp, t_seti, t_setf, t_app, t_ex, t_ife, t_for, t_whl, t_ret, t_rse0, t_brk, t_pas, e_con, e_var, e_bin, e_neg, e_cmp, e_isN, e_and, e_or, e_not, e_ite, e_call, e_blt, e_isi, e_meth, e_fld, e_idx, e_slc, e_rev, e_tup, e_lst, e_dct0, e_lc, e_gen, es_nil, es_cons, ds_nil, ds_cons, op_none, op_some, i_rng1, i_rng2, i_ov, ws_to, ws_then, ws_nx, ws_rt, ws_bk, ws_xc, ws_bad, wp_ok, wp_exc, wp_bad, wp_bind, ws_ite, wp_ite, gc_d, asData_d, kD_d, rd_d, entry, List.map, List.length, List.replicate, List.cons_append, List.nil_append, List.append_nil, List.getElem?_cons_zero, List.getElem?_cons_succ, List.set_cons_zero, List.set_cons_succ, List.take_length, take_app, take_same, take_set, gc_new, kb_add, kb_sub, kb_mul, kb_fdiv, kb_mod, kb_pow, kb_adds, kb_addt, kb_addl, kb_mult, kb_muls, kc_lt, kc_le, kc_gt, kc_ge, kc_eqi, kc_nei, kn, kt_bl, knot_bl, kbl_bl, at_bl, ab_bl, kl_scr, kl_tup, kl_lst, kl_str, ki_int, kt_tup, kt_lst, kx_scr, kx_tup, kx_lst, atI_0, atI_1, atI_2, atI_nat, rng1, rng2, alloc_eq, it_tup, it_lst, it_str, op_int, isl_new, push_app, asg, setAll, decide_eq_true_eq, reduceIte, Nat.sub_self, Nat.reduceSub, Bool.not_true, Bool.not_false, Bool.false_eq_true, Int.reduceMul, Int.reduceAdd, Int.reduceLT, and_self, and_true, true_and, c_60, c_48271, c_69621, c_16807, c_7, c_2, c_01000, Nat.reduceLeDiff, tup_0, lst_0, Nat.zero_le, map_snoc, List.length_map, List.map_nil, kc_ltc, kc_eqb, kisn_non, map_snocB, isi_0int, isi_0bool, isi_0str, isi_0tuple, isi_1int, isi_1bool, isi_1str, isi_1tuple, isi_2int, isi_2bool, isi_2str, isi_2tuple, isi_3int, isi_3bool, isi_3str, isi_3tuple, isi_4int, isi_4bool, isi_4str, isi_4tuple, kc_in1, kc_nin1, map_snocC, wipeE, take_set2, kpre_str, kx_str, push_set, get_setapp, take_setapp, map_snocS, set_len, bg1, bg2, bg3, gc_mid, Ob.data, set_app0]
    have e : decide (r.length < 7 ∧ 1 ≤ r0.length ∧ r0.length ≤ 7) = false := decide_eq_false (by omega)
    rw [e, Bool.false_and]
  rw [if_neg c3]
  by_cases c4 : 7 < (r0.length : Int)
  · rw [if_pos c4, cont_cons]
    simp only [t_set1, t_set0, t_unp, t_seti, t_setf, t_app, t_ex, t_ife, t_for, t_whl, t_ret, t_rse0, t_brk, t_pas, e_con, e_var, e_bin, e_neg, e_cmp, e_isN, e_and, e_or, e_not, e_ite, e_call, e_blt, e_isi, e_meth, e_fld, e_idx, e_slc, e_rev, e_tup, e_lst, e_dct0, e_lc, e_gen, es_nil, es_cons, ds_nil, ds_cons, op_none, op_some, i_rng1, i_rng2, i_ov, ws_to, ws_then, ws_nx, ws_rt, ws_bk, ws_xc, ws_bad, wp_ok, wp_exc, wp_bad, wp_bind, ws_ite, wp_ite, gc_d, asData_d, kD_d, rd_d, entry, List.map, List.length, List.replicate, List.cons_append, List.nil_append, List.append_nil, List.getElem?_cons_zero, List.getElem?_cons_succ, List.set_cons_zero, List.set_cons_succ, List.take_length, take_app, take_same, take_set, gc_new, kb_add, kb_sub, kb_mul, kb_fdiv, kb_mod, kb_pow, kb_adds, kb_addt, kb_addl, kb_mult, kb_muls, kc_lt, kc_le, kc_gt, kc_ge, kc_eqi, kc_nei, kn, kt_bl, knot_bl, kbl_bl, at_bl, ab_bl, kl_scr, kl_tup, kl_lst, kl_str, ki_int, kt_tup, kt_lst, kx_scr, kx_tup, kx_lst, atI_0, atI_1, atI_2, atI_nat, rng1, rng2, alloc_eq, it_tup, it_lst, it_str, op_int, isl_new, push_app, asg, setAll, decide_eq_true_eq, reduceIte, Nat.sub_self, Nat.reduceSub, Bool.not_true, Bool.not_false, Bool.false_eq_true, Int.reduceMul, Int.reduceAdd, Int.reduceLT, and_self, and_true, true_and, c_60, c_48271, c_69621, c_16807, c_7, c_2, c_01000, Nat.reduceLeDiff, tup_0, lst_0, Nat.zero_le, map_snoc, List.length_map, List.map_nil, kc_ltc, kc_eqb, kisn_non, map_snocB, isi_0int, isi_0bool, isi_0str, isi_0tuple, isi_1int, isi_1bool, isi_1str, isi_1tuple, isi_2int, isi_2bool, isi_2str, isi_2tuple, isi_3int, isi_3bool, isi_3str, isi_3tuple, isi_4int, isi_4bool, isi_4str, isi_4tuple, kc_in1, kc_nin1, map_snocC, wipeE, take_set2, kpre_str, kx_str, push_set, get_setapp, take_setapp, map_snocS, set_len, bg1, bg2, bg3, gc_mid, Ob.data, set_app0]
    have e : decide (r.length < 7 ∧ 1 ≤ r0.length ∧ r0.length ≤ 7) = false := decide_eq_false (by omega)
    rw [e, Bool.false_and]
  rw [if_neg c4, cont_nil, cont_cons]
  have e : decide (r.length < 7 ∧ 1 ≤ r0.length ∧ r0.length ≤ 7) = true := decide_eq_true (by omega)
  rw [e, Bool.true_and]
  simp only [t_set1, t_set0, t_unp, t_seti, t_setf, t_app, t_ex, t_ife, t_for, t_whl, t_ret, t_rse0, t_brk, t_pas, e_con, e_var, e_bin, e_neg, e_cmp, e_isN, e_and, e_or, e_not, e_ite, e_call, e_blt, e_isi, e_meth, e_fld, e_idx, e_slc, e_rev, e_tup, e_lst, e_dct0, e_lc, e_gen, es_nil, es_cons, ds_nil, ds_cons, op_none, op_some, i_rng1, i_rng2, i_ov, ws_to, ws_then, ws_nx, ws_rt, ws_bk, ws_xc, ws_bad, wp_ok, wp_exc, wp_bad, wp_bind, ws_ite, wp_ite, gc_d, asData_d, kD_d, rd_d, entry, List.map, List.length, List.replicate, List.cons_append, List.nil_append, List.append_nil, List.getElem?_cons_zero, List.getElem?_cons_succ, List.set_cons_zero, List.set_cons_succ, List.take_length, take_app, take_same, take_set, gc_new, kb_add, kb_sub, kb_mul, kb_fdiv, kb_mod, kb_pow, kb_adds, kb_addt, kb_addl, kb_mult, kb_muls, kc_lt, kc_le, kc_gt, kc_ge, kc_eqi, kc_nei, kn, kt_bl, knot_bl, kbl_bl, at_bl, ab_bl, kl_scr, kl_tup, kl_lst, kl_str, ki_int, kt_tup, kt_lst, kx_scr, kx_tup, kx_lst, atI_0, atI_1, atI_2, atI_nat, rng1, rng2, alloc_eq, it_tup, it_lst, it_str, op_int, isl_new, push_app, asg, setAll, decide_eq_true_eq, reduceIte, Nat.sub_self, Nat.reduceSub, Bool.not_true, Bool.not_false, Bool.false_eq_true, Int.reduceMul, Int.reduceAdd, Int.reduceLT, and_self, and_true, true_and, c_60, c_48271, c_69621, c_16807, c_7, c_2, c_01000, Nat.reduceLeDiff, tup_0, lst_0, Nat.zero_le, map_snoc, List.length_map, List.map_nil, kc_ltc, kc_eqb, kisn_non, map_snocB, isi_0int, isi_0bool, isi_0str, isi_0tuple, isi_1int, isi_1bool, isi_1str, isi_1tuple, isi_2int, isi_2bool, isi_2str, isi_2tuple, isi_3int, isi_3bool, isi_3str, isi_3tuple, isi_4int, isi_4bool, isi_4str, isi_4tuple, kc_in1, kc_nin1, map_snocC, wipeE, take_set2, kpre_str, kx_str, push_set, get_setapp, take_setapp, map_snocS, set_len, bg1, bg2, bg3, gc_mid, Ob.data, set_app0]
  rw [if_pos (by decide), if_pos (by decide +kernel), if_pos (by decide +kernel), signs_eq, cont_cons]
  simp only [t_set1, t_set0, t_unp, t_seti, t_setf, t_app, t_ex, t_ife, t_for, t_whl, t_ret, t_rse0, t_brk, t_pas, e_con, e_var, e_bin, e_neg, e_cmp, e_isN, e_and, e_or, e_not, e_ite, e_call, e_blt, e_isi, e_meth, e_fld, e_idx, e_slc, e_rev, e_tup, e_lst, e_dct0, e_lc, e_gen, es_nil, es_cons, ds_nil, ds_cons, op_none, op_some, i_rng1, i_rng2, i_ov, ws_to, ws_then, ws_nx, ws_rt, ws_bk, ws_xc, ws_bad, wp_ok, wp_exc, wp_bad, wp_bind, ws_ite, wp_ite, gc_d, asData_d, kD_d, rd_d, entry, List.map, List.length, List.replicate, List.cons_append, List.nil_append, List.append_nil, List.getElem?_cons_zero, List.getElem?_cons_succ, List.set_cons_zero, List.set_cons_succ, List.take_length, take_app, take_same, take_set, gc_new, kb_add, kb_sub, kb_mul, kb_fdiv, kb_mod, kb_pow, kb_adds, kb_addt, kb_addl, kb_mult, kb_muls, kc_lt, kc_le, kc_gt, kc_ge, kc_eqi, kc_nei, kn, kt_bl, knot_bl, kbl_bl, at_bl, ab_bl, kl_scr, kl_tup, kl_lst, kl_str, ki_int, kt_tup, kt_lst, kx_scr, kx_tup, kx_lst, atI_0, atI_1, atI_2, atI_nat, rng1, rng2, alloc_eq, it_tup, it_lst, it_str, op_int, isl_new, push_app, asg, setAll, decide_eq_true_eq, reduceIte, Nat.sub_self, Nat.reduceSub, Bool.not_true, Bool.not_false, Bool.false_eq_true, Int.reduceMul, Int.reduceAdd, Int.reduceLT, and_self, and_true, true_and, c_60, c_48271, c_69621, c_16807, c_7, c_2, c_01000, Nat.reduceLeDiff, tup_0, lst_0, Nat.zero_le, map_snoc, List.length_map, List.map_nil, kc_ltc, kc_eqb, kisn_non, map_snocB, isi_0int, isi_0bool, isi_0str, isi_0tuple, isi_1int, isi_1bool, isi_1str, isi_1tuple, isi_2int, isi_2bool, isi_2str, isi_2tuple, isi_3int, isi_3bool, isi_3str, isi_3tuple, isi_4int, isi_4bool, isi_4str, isi_4tuple, kc_in1, kc_nin1, map_snocC, wipeE, take_set2, kpre_str, kx_str, push_set, get_setapp, take_setapp, map_snocS, set_len, bg1, bg2, bg3, gc_mid, Ob.data, set_app0]
  refine (wp_genGo (fun x => match x with
    | .str a => okRow r0.length a
    | _ => false) _ fun x hx => ?_).mono ?_ fun _ _ _ z => z
  · have hx2 : x ∈ (r0 :: r).map D.str := hx
    obtain ⟨a, ha, rfl⟩ := List.mem_map.mp hx2
    have hla : a.length ≤ BIG := by
      rcases List.mem_cons.mp ha with q | q
      · rw [q]; exact hb
      · exact len_big (by have := hw a q; omega)
    refine ⟨_, rfl, wp_gnB ?_⟩
    simp only [t_set1, t_set0, t_unp, t_seti, t_setf, t_app, t_ex, t_ife, t_for, t_whl, t_ret, t_rse0, t_brk, t_pas, e_con, e_var, e_bin, e_neg, e_cmp, e_isN, e_and, e_or, e_not, e_ite, e_call, e_blt, e_isi, e_meth, e_fld, e_idx, e_slc, e_rev, e_tup, e_lst, e_dct0, e_lc, e_gen, es_nil, es_cons, ds_nil, ds_cons, op_none, op_some, i_rng1, i_rng2, i_ov, ws_to, ws_then, ws_nx, ws_rt, ws_bk, ws_xc, ws_bad, wp_ok, wp_exc, wp_bad, wp_bind, ws_ite, wp_ite, gc_d, asData_d, kD_d, rd_d, entry, List.map, List.length, List.replicate, List.cons_append, List.nil_append, List.append_nil, List.getElem?_cons_zero, List.getElem?_cons_succ, List.set_cons_zero, List.set_cons_succ, List.take_length, take_app, take_same, take_set, gc_new, kb_add, kb_sub, kb_mul, kb_fdiv, kb_mod, kb_pow, kb_adds, kb_addt, kb_addl, kb_mult, kb_muls, kc_lt, kc_le, kc_gt, kc_ge, kc_eqi, kc_nei, kn, kt_bl, knot_bl, kbl_bl, at_bl, ab_bl, kl_scr, kl_tup, kl_lst, kl_str, ki_int, kt_tup, kt_lst, kx_scr, kx_tup, kx_lst, atI_0, atI_1, atI_2, atI_nat, rng1, rng2, alloc_eq, it_tup, it_lst, it_str, op_int, isl_new, push_app, asg, setAll, decide_eq_true_eq, reduceIte, Nat.sub_self, Nat.reduceSub, Bool.not_true, Bool.not_false, Bool.false_eq_true, Int.reduceMul, Int.reduceAdd, Int.reduceLT, and_self, and_true, true_and, c_60, c_48271, c_69621, c_16807, c_7, c_2, c_01000, Nat.reduceLeDiff, tup_0, lst_0, Nat.zero_le, map_snoc, List.length_map, List.map_nil, kc_ltc, kc_eqb, kisn_non, map_snocB, isi_0int, isi_0bool, isi_0str, isi_0tuple, isi_1int, isi_1bool, isi_1str, isi_1tuple, isi_2int, isi_2bool, isi_2str, isi_2tuple, isi_3int, isi_3bool, isi_3str, isi_3tuple, isi_4int, isi_4bool, isi_4str, isi_4tuple, kc_in1, kc_nin1, map_snocC, wipeE, take_set2, kpre_str, kx_str, push_set, get_setapp, take_setapp, map_snocS, set_len, bg1, bg2, bg3, gc_mid, Ob.data, set_app0, Sec, hb, hla]
    have el : ((a.length : Int) == (r0.length : Int)) = (a.length == r0.length) := by
      by_cases q : a.length = r0.length
      · simp [q]
      · have q2 : ¬ (a.length : Int) = (r0.length : Int) := by omega
        rw [beq_eq_false_iff_ne.mpr q2, beq_eq_false_iff_ne.mpr q]
    rw [el]
    unfold okRow
    cases q : a.length == r0.length with
    | false => simp
    | true =>
      rw [if_pos rfl, Bool.true_and]
      refine (wp_genGo (fun x => match x with
        | .str a => a.cps.toList.all fun c => decide (c ∈ SIGNS)
        | _ => false) _ fun x hx => ?_).mono ?_ fun _ _ _ z => z
      · obtain ⟨c, hc, rfl⟩ := List.mem_map.mp hx
        refine ⟨_, rfl, wp_gnB ?_⟩
        simp only [t_set1, t_set0, t_unp, t_seti, t_setf, t_app, t_ex, t_ife, t_for, t_whl, t_ret, t_rse0, t_brk, t_pas, e_con, e_var, e_bin, e_neg, e_cmp, e_isN, e_and, e_or, e_not, e_ite, e_call, e_blt, e_isi, e_meth, e_fld, e_idx, e_slc, e_rev, e_tup, e_lst, e_dct0, e_lc, e_gen, es_nil, es_cons, ds_nil, ds_cons, op_none, op_some, i_rng1, i_rng2, i_ov, ws_to, ws_then, ws_nx, ws_rt, ws_bk, ws_xc, ws_bad, wp_ok, wp_exc, wp_bad, wp_bind, ws_ite, wp_ite, gc_d, asData_d, kD_d, rd_d, entry, List.map, List.length, List.replicate, List.cons_append, List.nil_append, List.append_nil, List.getElem?_cons_zero, List.getElem?_cons_succ, List.set_cons_zero, List.set_cons_succ, List.take_length, take_app, take_same, take_set, gc_new, kb_add, kb_sub, kb_mul, kb_fdiv, kb_mod, kb_pow, kb_adds, kb_addt, kb_addl, kb_mult, kb_muls, kc_lt, kc_le, kc_gt, kc_ge, kc_eqi, kc_nei, kn, kt_bl, knot_bl, kbl_bl, at_bl, ab_bl, kl_scr, kl_tup, kl_lst, kl_str, ki_int, kt_tup, kt_lst, kx_scr, kx_tup, kx_lst, atI_0, atI_1, atI_2, atI_nat, rng1, rng2, alloc_eq, it_tup, it_lst, it_str, op_int, isl_new, push_app, asg, setAll, decide_eq_true_eq, reduceIte, Nat.sub_self, Nat.reduceSub, Bool.not_true, Bool.not_false, Bool.false_eq_true, Int.reduceMul, Int.reduceAdd, Int.reduceLT, and_self, and_true, true_and, c_60, c_48271, c_69621, c_16807, c_7, c_2, c_01000, Nat.reduceLeDiff, tup_0, lst_0, Nat.zero_le, map_snoc, List.length_map, List.map_nil, kc_ltc, kc_eqb, kisn_non, map_snocB, isi_0int, isi_0bool, isi_0str, isi_0tuple, isi_1int, isi_1bool, isi_1str, isi_1tuple, isi_2int, isi_2bool, isi_2str, isi_2tuple, isi_3int, isi_3bool, isi_3str, isi_3tuple, isi_4int, isi_4bool, isi_4str, isi_4tuple, kc_in1, kc_nin1, map_snocC, wipeE, take_set2, kpre_str, kx_str, push_set, get_setapp, take_setapp, map_snocS, set_len, bg1, bg2, bg3, gc_mid, Ob.data, set_app0]
        simp
      · rintro b S' ⟨rfl, rfl⟩
        refine ⟨?_, by simp⟩
        rw [if_pos rfl, List.all_map]
        refine List.all_congr rfl fun c => ?_
        simp
  · rintro b S' ⟨rfl, rfl⟩
    simp only [t_set1, t_set0, t_unp, t_seti, t_setf, t_app, t_ex, t_ife, t_for, t_whl, t_ret, t_rse0, t_brk, t_pas, e_con, e_var, e_bin, e_neg, e_cmp, e_isN, e_and, e_or, e_not, e_ite, e_call, e_blt, e_isi, e_meth, e_fld, e_idx, e_slc, e_rev, e_tup, e_lst, e_dct0, e_lc, e_gen, es_nil, es_cons, ds_nil, ds_cons, op_none, op_some, i_rng1, i_rng2, i_ov, ws_to, ws_then, ws_nx, ws_rt, ws_bk, ws_xc, ws_bad, wp_ok, wp_exc, wp_bad, wp_bind, ws_ite, wp_ite, gc_d, asData_d, kD_d, rd_d, entry, List.map, List.length, List.replicate, List.cons_append, List.nil_append, List.append_nil, List.getElem?_cons_zero, List.getElem?_cons_succ, List.set_cons_zero, List.set_cons_succ, List.take_length, take_app, take_same, take_set, gc_new, kb_add, kb_sub, kb_mul, kb_fdiv, kb_mod, kb_pow, kb_adds, kb_addt, kb_addl, kb_mult, kb_muls, kc_lt, kc_le, kc_gt, kc_ge, kc_eqi, kc_nei, kn, kt_bl, knot_bl, kbl_bl, at_bl, ab_bl, kl_scr, kl_tup, kl_lst, kl_str, ki_int, kt_tup, kt_lst, kx_scr, kx_tup, kx_lst, atI_0, atI_1, atI_2, atI_nat, rng1, rng2, alloc_eq, it_tup, it_lst, it_str, op_int, isl_new, push_app, asg, setAll, decide_eq_true_eq, reduceIte, Nat.sub_self, Nat.reduceSub, Bool.not_true, Bool.not_false, Bool.false_eq_true, Int.reduceMul, Int.reduceAdd, Int.reduceLT, and_self, and_true, true_and, c_60, c_48271, c_69621, c_16807, c_7, c_2, c_01000, Nat.reduceLeDiff, tup_0, lst_0, Nat.zero_le, map_snoc, List.length_map, List.map_nil, kc_ltc, kc_eqb, kisn_non, map_snocB, isi_0int, isi_0bool, isi_0str, isi_0tuple, isi_1int, isi_1bool, isi_1str, isi_1tuple, isi_2int, isi_2bool, isi_2str, isi_2tuple, isi_3int, isi_3bool, isi_3str, isi_3tuple, isi_4int, isi_4bool, isi_4str, isi_4tuple, kc_in1, kc_nin1, map_snocC, wipeE, take_set2, kpre_str, kx_str, push_set, get_setapp, take_setapp, map_snocS, set_len, bg1, bg2, bg3, gc_mid, Ob.data, set_app0]
    congr 2
    exact List.all_map (f := D.str) (l := r0 :: r)
end
end M
-- MC0.lean
set_option Elab.async false
set_option linter.all false
set_option maxRecDepth 100000
set_option maxHeartbeats 4000000
set_option autoImplicit false
namespace M
open PySem SW
section
variable {tbl : Nat → Option Fn} (H : Tb tbl)
include H
/-- the signs that a law draws -/
def LS : List Nat := [49, 49, 49, 50, 51, 53, 57, 97, 97, 98, 99, 105, 94, 35, 49, 97]
theorem l_line2 (k : Nat) (n : Nat) (b : Ob) (w : Nat) (S : Store) (hb : S[n]? = some b) (hB : IsBox b) (hw : w < 1000) : Wp (callF tbl (k + 2) 12 [.r n, .d (.int w)] S) (fun v S' => ∃ cs : List Nat, v = .d (.str (sL cs)) ∧ cs.length = w ∧ (∀ c ∈ cs, c ∈ LS) ∧ ∃ b', IsBox b' ∧ S' = S.set n b') noX := by
  have hn : n < S.length := (List.getElem?_eq_some_iff.mp hb).1
  rw [wp_def H.t_l_line rfl]
  unfold d_l_line
  simp only [cont_cons, cont_nil, EV0, EV1, EV2, EV3, EV4, EV5, EV6, Nat.reduceLT, entry, List.replicate, asg, setAll, reduceIte, Nat.reduceSub, Nat.reduceAdd, Int.reduceMul, Int.reduceAdd, Int.reduceLT, Int.reduceNeg, Nat.reduceLeDiff, wipeE, BIG, Ob.data, cellD, rowD]
  refine wp_lcI (fun (i : Nat) => D.int (i : Int)) (List.range w) (fun done S' => ∃ (ys : List Nat) (b' : Ob), IsBox b' ∧ S' = S.set n b' ++ [.lst (ys.map fun c => .str (sL [c]))] ∧ ys.length = done.length ∧ ∀ c ∈ ys, c ∈ LS) ?_ ?_ ?_ ?_
  · simp only [EV0, EV1, EV2, EV3, EV4, EV5, EV6, Nat.reduceLT, entry, List.replicate, asg, setAll, reduceIte, Nat.reduceSub, Nat.reduceAdd, Int.reduceMul, Int.reduceAdd, Int.reduceLT, Int.reduceNeg, Nat.reduceLeDiff, wipeE, BIG, Ob.data, cellD, rowD, if_pos (okI_nat (show w < 1000000 by omega))]
  · exact ⟨[], b, hB, by rw [set_self hb]; rfl, rfl, by simp⟩
  · rintro done a rest hd S' ⟨ys, b', hB', rfl, hl, h1⟩
    obtain ⟨-, ha, hla⟩ := range_split hd
    refine ⟨_, rfl, ?_⟩
    simp only [EV0, EV1, EV2, EV3, EV4, EV5, EV6, Nat.reduceLT, entry, List.replicate, asg, setAll, reduceIte, Nat.reduceSub, Nat.reduceAdd, Int.reduceMul, Int.reduceAdd, Int.reduceLT, Int.reduceNeg, Nat.reduceLeDiff, wipeE, BIG, Ob.data, cellD, rowD]
    refine wp_imp (l_draw_ok H k n b' 16 _ (get_bx _ _ _ _ hn) hB' (by decide)) ?_
    rintro v S2 ⟨z, rfl, h0, h16, b2, hB2, rfl⟩
    rw [set_bx _ _ _ _ _ hn]
    obtain ⟨m, rfl⟩ := Int.eq_ofNat_of_zero_le h0
    have hm : m < LS.length := by show m < 16; omega
    have hB3 : ys.length < 1000000 := by omega
    have e : ([49, 49, 49, 50, 51, 53, 57, 97, 97, 98, 99, 105, 94, 35, 49, 97] : List Nat)[m]? = some LS[m] := List.getElem?_eq_getElem hm
    simp only [EV0, EV1, EV2, EV3, EV4, EV5, EV6, Nat.reduceLT, entry, List.replicate, asg, setAll, reduceIte, Nat.reduceSub, Nat.reduceAdd, Int.reduceMul, Int.reduceAdd, Int.reduceLT, Int.reduceNeg, Nat.reduceLeDiff, wipeE, BIG, Ob.data, cellD, rowD, e, push, hB3]
    refine ⟨ys ++ [LS[m]], b2, hB2, by simp, by simp; omega, fun c hc => ?_⟩
    rcases List.mem_append.mp hc with q | q
    · exact h1 c q
    · rw [List.mem_singleton.mp q]
      exact List.getElem_mem hm
  · rintro S' ⟨ys, b', hB', rfl, hl, h1⟩
    rw [nj_join _ _ (fun c => [c]) ys (by simp only [EV0, EV1, EV2, EV3, EV4, EV5, EV6, Nat.reduceLT, entry, List.replicate, asg, setAll, reduceIte, Nat.reduceSub, Nat.reduceAdd, Int.reduceMul, Int.reduceAdd, Int.reduceLT, Int.reduceNeg, Nat.reduceLeDiff, wipeE, BIG, Ob.data, cellD, rowD])]
    · simp only [EV0, EV1, EV2, EV3, EV4, EV5, EV6, Nat.reduceLT, entry, List.replicate, asg, setAll, reduceIte, Nat.reduceSub, Nat.reduceAdd, Int.reduceMul, Int.reduceAdd, Int.reduceLT, Int.reduceNeg, Nat.reduceLeDiff, wipeE, BIG, Ob.data, cellD, rowD]
      rw [flat_ones]
      exact ⟨ys, rfl, by simpa [hl] using hl, h1, b', hB', rfl⟩
    · show (ys.map fun _ => 1).sum ≤ BIG
      rw [sum_ones, hl, List.length_range]
      exact len_big (by omega)
end
end M
-- MC1.lean
set_option Elab.async false
set_option linter.all false
set_option maxRecDepth 100000
set_option maxHeartbeats 4000000
set_option autoImplicit false
/-! MC1: charts -/
namespace SW
open PySem
def WS : List Nat := [49, 50, 51, 52, 53, 54, 55, 56, 57]
def LDS : List Nat := [97, 98, 99, 100, 101, 102, 103, 104, 105]
def isW (c : Nat) : Bool := decide (c ∈ WS)
def isL (c : Nat) : Bool := decide (c ∈ LDS)
def wid (rows : Rows) : Nat := (rows.headD []).length
def inb (rows : Rows) (c : Cell) : Bool := decide (0 ≤ c.1) && (decide (c.1 < rows.length) && (decide (0 ≤ c.2) && decide (c.2 < wid rows)))
def sgn (rows : Rows) (c : Cell) : Nat := (rows.getD c.1.toNat []).getD c.2.toNat 35
/-- rows of one length -/
structure Rc (rows : Rows) : Prop where
  rc : ∀ r ∈ rows, r.length = wid rows
  le : wid rows ≤ 1000
def SGS : List Nat := [49, 50, 51, 52, 53, 54, 55, 56, 57, 97, 98, 99, 100, 101, 102, 103, 104, 105, 94, 35]
def Asc (cs : List Cell) : Prop := cs.Pairwise fun a b => cellLt a b = true
/-- rows and sources of a chart -/
structure Ok (rows : Rows) (src : List Cell) : Prop where
  h1 : 1 ≤ rows.length
  h7 : rows.length ≤ 7
  w1 : 1 ≤ wid rows
  w7 : wid rows ≤ 7
  rc : ∀ r ∈ rows, r.length = wid rows
  sg : ∀ r ∈ rows, ∀ c ∈ r, c ∈ SGS
  s1 : 1 ≤ src.length
  s6 : src.length ≤ 6
  asc : Asc src
  wat : ∀ c ∈ src, inb rows c = true ∧ isW (sgn rows c) = true
theorem Ok.Rc {rows : Rows} {src : List Cell} (h : Ok rows src) : Rc rows := ⟨h.rc, by have := h.w7; omega⟩
theorem inb_iff {rows : Rows} {c : Cell} : inb rows c = true ↔ ∃ i j : Nat, c = ((i : Int), (j : Int)) ∧ i < rows.length ∧ j < wid rows := by
  unfold inb
  simp only [Bool.and_eq_true, decide_eq_true_eq]
  constructor
  · rintro ⟨h1, h2, h3, h4⟩
    exact ⟨c.1.toNat, c.2.toNat, Prod.ext (by simp; omega) (by simp; omega), by omega, by omega⟩
  · rintro ⟨i, j, rfl, h1, h2⟩
    simp only
    omega
theorem getD_lt {α : Type} {l : List α} {i : Nat} (d : α) (h : i < l.length) : l.getD i d = l[i] := by
  simp [List.getD, h]
theorem getD_mem {rows : Rows} {i : Nat} (h : i < rows.length) : rows.getD i [] ∈ rows := by
  rw [getD_lt _ h]
  exact List.getElem_mem h
theorem rows_get {rows : Rows} {a b : Int} (h : inb rows (a, b) = true) : L2.atI (rows.map rowD) a = some (rowD (rows.getD a.toNat [])) := by
  obtain ⟨i, j, e, hi, hj⟩ := inb_iff.mp h
  injection e with e1 e2
  subst e1
  rw [atI_nat, List.getElem?_map, List.getElem?_eq_getElem hi, Int.toNat_natCast, getD_lt _ hi]
  rfl
theorem row_len {rows : Rows} (R : Rc rows) {a b : Int} (h : inb rows (a, b) = true) : (rows.getD a.toNat []).length = wid rows := by
  obtain ⟨i, j, e, hi, hj⟩ := inb_iff.mp h
  injection e with e1 e2
  subst e1
  rw [Int.toNat_natCast]
  exact R.rc _ (getD_mem hi)
theorem row_get {rows : Rows} (R : Rc rows) {a b : Int} (h : inb rows (a, b) = true) : L2.atI (rows.getD a.toNat []) b = some (sgn rows (a, b)) := by
  have hl := row_len R h
  obtain ⟨i, j, e, hi, hj⟩ := inb_iff.mp h
  injection e with e1 e2
  subst e1
  subst e2
  rw [atI_nat]
  unfold sgn
  simp only [Int.toNat_natCast] at hl ⊢
  rw [List.getElem?_eq_getElem (by omega), getD_lt (l := rows.getD i []) (i := j) _ (by omega)]
/-- v reads as a chart in S -/
structure IsCh (v : Vl) (rows : Rows) (src : List Cell) (S : Store) : Prop where
  f0 : kFld 0 v S = .ok (.d (.tup (rows.map rowD))) S
  f1 : kFld 1 v S = .ok (.d (.tup (src.map cellD))) S
theorem isCh_d (rows : Rows) (src : List Cell) (S : Store) : IsCh (.d (chD rows src)) rows src S := ⟨rfl, rfl⟩
theorem isCh_r {rows : Rows} {src : List Cell} {S : Store} {n : Nat} (h : S[n]? = some (.ins 0 [(0, .tup (rows.map rowD)), (1, .tup (src.map cellD))])) : IsCh (.r n) rows src S := by
  constructor <;> (simp only [kFld, rd, h]; rfl)
end SW
namespace M
open PySem SW
section
variable {tbl : Nat → Option Fn} (H : Tb tbl)
include H
theorem is_cell_v (k : Nat) {v : Vl} {rows : Rows} {src : List Cell} {S : Store} (hc : IsCh v rows src S) (hw : wid rows ≤ 1000) (a b : Int) : callF tbl (k + 1) 3 [v, .d (.tup [.int a, .int b])] S = .ok (.d (.bl (inb rows (a, b)))) S := by
  apply eq_of_wp
  rw [wp_def H.t_is_cell rfl]
  unfold d_is_cell
  simp only [cont_cons, cont_nil, EV0, EV1, EV2, EV3, EV4, EV5, EV6, Nat.reduceLT, entry, List.replicate, asg, setAll, reduceIte, Nat.reduceSub, Nat.reduceAdd, Int.reduceMul, Int.reduceAdd, Int.reduceLT, Int.reduceNeg, Nat.reduceLeDiff, wipeE, BIG, Ob.data, cellD, rowD, Sec, hc.f0]
  unfold inb
  cases rows with
  | nil =>
    by_cases h : 0 ≤ a
    · have h2 : ¬ a < ((0 : Nat) : Int) := by omega
      simp only [if_true, if_false, ite_true, ite_false, reduceIte, decide_true, decide_false, decide_eq_true_eq, Bool.true_and, Bool.and_true, Bool.false_and, Bool.and_false, Bool.true_or, Bool.or_true, Bool.false_or, Bool.or_false, Bool.not_true, Bool.not_false, Bool.false_eq_true, not_true_eq_false, not_false_eq_true, true_and, and_true, false_and, and_false, true_or, or_true, false_or, or_false, and_self, List.head_cons, List.headD_cons, List.length_cons, List.length_nil, wp_ok, wp_bad, wp_exc, h, h2]
    · simp only [if_true, if_false, ite_true, ite_false, reduceIte, decide_true, decide_false, decide_eq_true_eq, Bool.true_and, Bool.and_true, Bool.false_and, Bool.and_false, Bool.true_or, Bool.or_true, Bool.false_or, Bool.or_false, Bool.not_true, Bool.not_false, Bool.false_eq_true, not_true_eq_false, not_false_eq_true, true_and, and_true, false_and, and_false, true_or, or_true, false_or, or_false, and_self, List.head_cons, List.headD_cons, List.length_cons, List.length_nil, wp_ok, wp_bad, wp_exc, h]
  | cons r0 rest =>
    have hb : r0.length ≤ 1000000 := by have : r0.length ≤ 1000 := hw; omega
    simp only [EV0, EV1, EV2, EV3, EV4, EV5, EV6, Nat.reduceLT, entry, List.replicate, asg, setAll, reduceIte, Nat.reduceSub, Nat.reduceAdd, Int.reduceMul, Int.reduceAdd, Int.reduceLT, Int.reduceNeg, Nat.reduceLeDiff, wipeE, BIG, Ob.data, cellD, rowD, hb]
    by_cases h1 : 0 ≤ a
    · by_cases h2 : a < ↑(rest.length + 1)
      · simp only [if_true, if_false, ite_true, ite_false, reduceIte, decide_true, decide_false, decide_eq_true_eq, Bool.true_and, Bool.and_true, Bool.false_and, Bool.and_false, Bool.true_or, Bool.or_true, Bool.false_or, Bool.or_false, Bool.not_true, Bool.not_false, Bool.false_eq_true, not_true_eq_false, not_false_eq_true, true_and, and_true, false_and, and_false, true_or, or_true, false_or, or_false, and_self, List.head_cons, List.headD_cons, List.length_cons, List.length_nil, wp_ok, wp_bad, wp_exc, h1, h2, wid]
        by_cases h3 : 0 ≤ b
        · simp only [if_true, if_false, ite_true, ite_false, reduceIte, decide_true, decide_false, decide_eq_true_eq, Bool.true_and, Bool.and_true, Bool.false_and, Bool.and_false, Bool.true_or, Bool.or_true, Bool.false_or, Bool.or_false, Bool.not_true, Bool.not_false, Bool.false_eq_true, not_true_eq_false, not_false_eq_true, true_and, and_true, false_and, and_false, true_or, or_true, false_or, or_false, and_self, List.head_cons, List.headD_cons, List.length_cons, List.length_nil, wp_ok, wp_bad, wp_exc, h3, and_self]
          try rfl
        · simp only [if_true, if_false, ite_true, ite_false, reduceIte, decide_true, decide_false, decide_eq_true_eq, Bool.true_and, Bool.and_true, Bool.false_and, Bool.and_false, Bool.true_or, Bool.or_true, Bool.false_or, Bool.or_false, Bool.not_true, Bool.not_false, Bool.false_eq_true, not_true_eq_false, not_false_eq_true, true_and, and_true, false_and, and_false, true_or, or_true, false_or, or_false, and_self, List.head_cons, List.headD_cons, List.length_cons, List.length_nil, wp_ok, wp_bad, wp_exc, h3, and_self]
      · simp only [if_true, if_false, ite_true, ite_false, reduceIte, decide_true, decide_false, decide_eq_true_eq, Bool.true_and, Bool.and_true, Bool.false_and, Bool.and_false, Bool.true_or, Bool.or_true, Bool.false_or, Bool.or_false, Bool.not_true, Bool.not_false, Bool.false_eq_true, not_true_eq_false, not_false_eq_true, true_and, and_true, false_and, and_false, true_or, or_true, false_or, or_false, and_self, List.head_cons, List.headD_cons, List.length_cons, List.length_nil, wp_ok, wp_bad, wp_exc, h1, h2]
    · simp only [if_true, if_false, ite_true, ite_false, reduceIte, decide_true, decide_false, decide_eq_true_eq, Bool.true_and, Bool.and_true, Bool.false_and, Bool.and_false, Bool.true_or, Bool.or_true, Bool.false_or, Bool.or_false, Bool.not_true, Bool.not_false, Bool.false_eq_true, not_true_eq_false, not_false_eq_true, true_and, and_true, false_and, and_false, true_or, or_true, false_or, or_false, and_self, List.head_cons, List.headD_cons, List.length_cons, List.length_nil, wp_ok, wp_bad, wp_exc, h1]
theorem is_cell_eq (k : Nat) {rows : Rows} (src : List Cell) (S : Store) (hw : wid rows ≤ 1000) (a b : Int) : callF tbl (k + 1) 3 [.d (chD rows src), .d (.tup [.int a, .int b])] S = .ok (.d (.bl (inb rows (a, b)))) S := is_cell_v H k (isCh_d rows src S) hw a b
theorem sign_at_v (k : Nat) {v : Vl} {rows : Rows} {src : List Cell} {S : Store} (hc : IsCh v rows src S) (R : Rc rows) {a b : Int} (h : inb rows (a, b) = true) : callF tbl (k + 1) 4 [v, .d (.tup [.int a, .int b])] S = .ok (.d (.str (sL [sgn rows (a, b)]))) S := by
  apply eq_of_wp
  rw [wp_def H.t_sign_at rfl]
  unfold d_sign_at
  have hb : (rows.getD a.toNat []).length ≤ 1000000 := by
    rw [row_len R h]
    have := R.le
    omega
  simp only [cont_cons, cont_nil, EV0, EV1, EV2, EV3, EV4, EV5, EV6, Nat.reduceLT, entry, List.replicate, asg, setAll, reduceIte, Nat.reduceSub, Nat.reduceAdd, Int.reduceMul, Int.reduceAdd, Int.reduceLT, Int.reduceNeg, Nat.reduceLeDiff, wipeE, BIG, Ob.data, cellD, rowD, hc.f0, rows_get h, row_get R h, hb]
theorem is_water_v (k : Nat) {v : Vl} {rows : Rows} {src : List Cell} {S : Store} (hc : IsCh v rows src S) (R : Rc rows) {a b : Int} (h : inb rows (a, b) = true) : callF tbl (k + 2) 5 [v, .d (.tup [.int a, .int b])] S = .ok (.d (.bl (isW (sgn rows (a, b))))) S := by
  apply eq_of_wp
  rw [wp_def H.t_is_water rfl]
  unfold d_is_water
  simp only [cont_cons, cont_nil, EV0, EV1, EV2, EV3, EV4, EV5, EV6, Nat.reduceLT, entry, List.replicate, asg, setAll, reduceIte, Nat.reduceSub, Nat.reduceAdd, Int.reduceMul, Int.reduceAdd, Int.reduceLT, Int.reduceNeg, Nat.reduceLeDiff, wipeE, BIG, Ob.data, cellD, rowD, sign_at_v H k hc R h]
  rfl
theorem is_water_eq (k : Nat) {rows : Rows} (src : List Cell) (S : Store) (R : Rc rows) {a b : Int} (h : inb rows (a, b) = true) : callF tbl (k + 2) 5 [.d (chD rows src), .d (.tup [.int a, .int b])] S = .ok (.d (.bl (isW (sgn rows (a, b))))) S := is_water_v H k (isCh_d rows src S) R h
/-- are_rows of texts -/
theorem are_rows_eq (k : Nat) (rows : Rows) (S : Store) (hl : rows.length ≤ 1000) (hw : ∀ r ∈ rows, r.length ≤ 900) : callF tbl (k + 1) 1 [.d (.tup (rows.map rowD))] S = .ok (.d (.bl (decide (1 ≤ rows.length ∧ rows.length ≤ 7 ∧ 1 ≤ wid rows ∧ wid rows ≤ 7) && rows.all fun r => r.length == wid rows && r.all fun c => decide (c ∈ SGS)))) S := by
  cases rows with
  | nil => exact eq_of_wp (are_rows_nil H k S)
  | cons r0 r =>
    have hh : ∀ x ∈ r.map sL, x.length < 1000 := fun x hx => by
      obtain ⟨y, hy, rfl⟩ := List.mem_map.mp hx
      rw [sL_len]
      have := hw y (List.mem_cons_of_mem _ hy)
      omega
    have q := eq_of_wp (are_rows_ok H k (sL r0) (r.map sL) S (by rw [List.length_map]; rw [List.length_cons] at hl; omega) (by rw [sL_len]; have := hw r0 List.mem_cons_self; omega) hh)
    have e : (r0 :: r).map rowD = (sL r0 :: r.map sL).map D.str := by
      simp [rowD]
    rw [e, q]
    have e1 : decide ((r.map sL).length < 7 ∧ 1 ≤ (sL r0).length ∧ (sL r0).length ≤ 7) = decide (1 ≤ (r0 :: r).length ∧ (r0 :: r).length ≤ 7 ∧ 1 ≤ wid (r0 :: r) ∧ wid (r0 :: r) ≤ 7) := by
      apply decide_eq_decide.mpr
      simp only [List.length_map, sL_len, wid, List.headD_cons, List.length_cons]
      omega
    have e2 : (sL r0 :: r.map sL).all (okRow (sL r0).length) = (r0 :: r).all fun r' => r'.length == wid (r0 :: r) && r'.all fun c => decide (c ∈ SGS) := by
      show ((r0 :: r).map sL).all _ = _
      rw [List.all_map]
      refine List.all_congr rfl fun x => ?_
      simp only [Function.comp, okRow, sL_len, sL_list]
      rfl
    rw [e1, e2]
end
end M
-- MC2.lean
set_option Elab.async false
set_option linter.all false
set_option maxRecDepth 100000
set_option maxHeartbeats 4000000
set_option autoImplicit false
/-! MC2: a chart is made -/
namespace SW
open PySem
def ascB (cs : List Cell) : Bool := (List.range (cs.length - 1)).all fun i => cellLt (cs.getD i (0, 0)) (cs.getD (i + 1) (0, 0))
theorem cellLt_trans {a b c : Cell} (h1 : cellLt a b = true) (h2 : cellLt b c = true) : cellLt a c = true := by
  unfold cellLt at *
  simp only [decide_eq_true_eq] at *
  omega
theorem ascB_iff (cs : List Cell) : ascB cs = true ↔ Asc cs := by
  unfold ascB Asc
  rw [List.all_eq_true]
  constructor
  · intro h
    induction cs with
    | nil => exact List.Pairwise.nil
    | cons a r ih =>
      have hr : r.Pairwise fun a b => cellLt a b = true := ih fun i hi => by
        rw [List.mem_range] at hi
        have := h (i + 1) (by rw [List.mem_range, List.length_cons]; omega)
        simpa using this
      refine List.Pairwise.cons ?_ hr
      cases r with
      | nil => intro b hb; cases hb
      | cons b r =>
        have h0 : cellLt a b = true := by
          have := h 0 (by rw [List.mem_range]; simp)
          simpa using this
        intro c hc
        rcases List.mem_cons.mp hc with q | q
        · rw [q]; exact h0
        · exact cellLt_trans h0 ((List.pairwise_cons.mp hr).1 c q)
  · intro h i hi
    rw [List.mem_range] at hi
    rw [getD_lt _ (by omega), getD_lt _ (by omega)]
    exact List.pairwise_iff_getElem.mp h i (i + 1) (by omega) (by omega) (by omega)
/-- are these a chart's? -/
def rowsB (rows : Rows) : Bool := decide (1 ≤ rows.length ∧ rows.length ≤ 7 ∧ 1 ≤ wid rows ∧ wid rows ≤ 7) && rows.all fun r => r.length == wid rows && r.all fun c => decide (c ∈ SGS)
def goodB (rows : Rows) (src : List Cell) : Bool := rowsB rows && (decide (1 ≤ src.length ∧ src.length ≤ 6) && (ascB src && src.all fun c => inb rows c && isW (sgn rows c)))
theorem goodB_iff (rows : Rows) (src : List Cell) : goodB rows src = true ↔ Ok rows src := by
  unfold goodB rowsB
  simp only [Bool.and_eq_true, decide_eq_true_eq, List.all_eq_true, beq_iff_eq, ascB_iff]
  constructor
  · rintro ⟨⟨⟨a, b, c, d⟩, e⟩, ⟨f, g⟩, h, i⟩
    exact ⟨a, b, c, d, fun r hr => (e r hr).1, fun r hr x hx => (e r hr).2 x hx, f, g, h, fun x hx => i x hx⟩
  · rintro ⟨a, b, c, d, e, e2, f, g, h, i⟩
    exact ⟨⟨⟨a, b, c, d⟩, fun r hr => ⟨e r hr, fun x hx => e2 r hr x hx⟩⟩, ⟨f, g⟩, h, fun x hx => i x hx⟩
theorem rowsB_rc {rows : Rows} (h : rowsB rows = true) : Rc rows := by
  unfold rowsB at h
  simp only [Bool.and_eq_true, decide_eq_true_eq, List.all_eq_true, beq_iff_eq] at h
  exact ⟨fun r hr => (h.2 r hr).1, by omega⟩
theorem ksetf_r {S : Store} {n c : Nat} {fs : List (Nat × D)} (f : Nat) (x : D) (h : S[n]? = some (.ins c fs)) (hl : fs.length < 900) : kSetf f (.r n) x S = .ok () (S.set n (.ins c (fput fs f x))) := by
  simp only [kSetf, h, if_pos hl]
theorem ksetf_0 (S : Store) (x : D) : kSetf 0 (.r S.length) x (S ++ [.ins 0 []]) = .ok () (S ++ [.ins 0 [(0, x)]]) := by
  rw [ksetf_r 0 x (get_ap0 _ _) (by simp), set_ap0]
  rfl
theorem ksetf_1 (S : Store) (x y : D) : kSetf 1 (.r S.length) x (S ++ [.ins 0 [(0, y)]]) = .ok () (S ++ [.ins 0 [(0, y), (1, x)]]) := by
  rw [ksetf_r 1 x (get_ap0 _ _) (by simp), set_ap0]
  rfl
end SW
namespace M
open PySem SW
section
variable {tbl : Nat → Option Fn} (H : Tb tbl)
include H
theorem is_ascending_eq (k : Nat) (cs : List Cell) (S : Store) (hl : cs.length < 1000) : callF tbl (k + 1) 0 [.d (.tup (cs.map cellD))] S = .ok (.d (.bl (ascB cs))) S := eq_of_wp (is_ascending_ok H k cs S hl)
theorem chart_init_ok (k : Nat) (rows : Rows) (src : List Cell) (S : Store) (hl : rows.length ≤ 900) (hw : ∀ r ∈ rows, r.length ≤ 900) (hs : src.length ≤ 900) : Wp (callF tbl (k + 3) 2 [.r S.length, .d (.tup (rows.map rowD)), .d (.tup (src.map cellD))] (S ++ [.ins 0 []])) (fun v S' => goodB rows src = true ∧ v = .d .non ∧ S' = S ++ [.ins 0 [(0, .tup (rows.map rowD)), (1, .tup (src.map cellD))]]) (fun c p S' => goodB rows src = false ∧ c = 11 ∧ p = [] ∧ ∃ ob, S' = S ++ [ob]) := by
  rw [wp_def H.t_Chart_init rfl]
  unfold d_Chart_init
  have ea := are_rows_eq H (k + 1) rows (S ++ [Ob.ins 0 []]) (by omega) hw
  have eb : (decide (1 ≤ rows.length ∧ rows.length ≤ 7 ∧ 1 ≤ wid rows ∧ wid rows ≤ 7) && rows.all fun r => r.length == wid rows && r.all fun c => decide (c ∈ SGS)) = rowsB rows := rfl
  rw [eb] at ea
  simp only [cont_cons, cont_nil, EV0, EV1, EV2, EV3, EV4, EV5, EV6, Nat.reduceLT, entry, List.replicate, asg, setAll, reduceIte, Nat.reduceSub, Nat.reduceAdd, Int.reduceMul, Int.reduceAdd, Int.reduceLT, Int.reduceNeg, Nat.reduceLeDiff, wipeE, BIG, Ob.data, cellD, rowD, ea]
  cases e1 : rowsB rows with
  | false =>
    have eg : goodB rows src = false := by unfold goodB; rw [e1]; rfl
    simp only [if_true, if_false, ite_true, ite_false, reduceIte, decide_true, decide_false, decide_eq_true_eq, Bool.true_and, Bool.and_true, Bool.false_and, Bool.and_false, Bool.true_or, Bool.or_true, Bool.false_or, Bool.or_false, Bool.not_true, Bool.not_false, Bool.false_eq_true, not_true_eq_false, not_false_eq_true, true_and, and_true, false_and, and_false, true_or, or_true, false_or, or_false, and_self, List.head_cons, List.headD_cons, List.length_cons, List.length_nil, wp_ok, wp_bad, wp_exc, eg]
    exact ⟨_, rfl⟩
  | true =>
    simp only [if_true, if_false, ite_true, ite_false, reduceIte, decide_true, decide_false, decide_eq_true_eq, Bool.true_and, Bool.and_true, Bool.false_and, Bool.and_false, Bool.true_or, Bool.or_true, Bool.false_or, Bool.or_false, Bool.not_true, Bool.not_false, Bool.false_eq_true, not_true_eq_false, not_false_eq_true, true_and, and_true, false_and, and_false, true_or, or_true, false_or, or_false, and_self, List.head_cons, List.headD_cons, List.length_cons, List.length_nil, wp_ok, wp_bad, wp_exc, ]
    simp only [cont_cons, cont_nil, EV0, EV1, EV2, EV3, EV4, EV5, EV6, Nat.reduceLT, entry, List.replicate, asg, setAll, reduceIte, Nat.reduceSub, Nat.reduceAdd, Int.reduceMul, Int.reduceAdd, Int.reduceLT, Int.reduceNeg, Nat.reduceLeDiff, wipeE, BIG, Ob.data, cellD, rowD, ksetf_0, ksetf_1, Sec, is_ascending_eq H _ src _ (show src.length < 1000 by omega)]
    by_cases c1 : (src.length : Int) < 1
    · have eg : goodB rows src = false := by
        unfold goodB
        rw [decide_eq_false (show ¬ (1 ≤ src.length ∧ src.length ≤ 6) by omega)]
        simp
      simp only [if_true, if_false, ite_true, ite_false, reduceIte, decide_true, decide_false, decide_eq_true_eq, Bool.true_and, Bool.and_true, Bool.false_and, Bool.and_false, Bool.true_or, Bool.or_true, Bool.false_or, Bool.or_false, Bool.not_true, Bool.not_false, Bool.false_eq_true, not_true_eq_false, not_false_eq_true, true_and, and_true, false_and, and_false, true_or, or_true, false_or, or_false, and_self, List.head_cons, List.headD_cons, List.length_cons, List.length_nil, wp_ok, wp_bad, wp_exc, eg, c1]
      exact ⟨_, rfl⟩
    by_cases c2 : 6 < (src.length : Int)
    · have eg : goodB rows src = false := by
        unfold goodB
        rw [decide_eq_false (show ¬ (1 ≤ src.length ∧ src.length ≤ 6) by omega)]
        simp
      simp only [if_true, if_false, ite_true, ite_false, reduceIte, decide_true, decide_false, decide_eq_true_eq, Bool.true_and, Bool.and_true, Bool.false_and, Bool.and_false, Bool.true_or, Bool.or_true, Bool.false_or, Bool.or_false, Bool.not_true, Bool.not_false, Bool.false_eq_true, not_true_eq_false, not_false_eq_true, true_and, and_true, false_and, and_false, true_or, or_true, false_or, or_false, and_self, List.head_cons, List.headD_cons, List.length_cons, List.length_nil, wp_ok, wp_bad, wp_exc, eg, c1, c2]
      simp only [EV0, EV1, EV2, EV3, EV4, EV5, EV6, Nat.reduceLT, entry, List.replicate, asg, setAll, reduceIte, Nat.reduceSub, Nat.reduceAdd, Int.reduceMul, Int.reduceAdd, Int.reduceLT, Int.reduceNeg, Nat.reduceLeDiff, wipeE, BIG, Ob.data, cellD, rowD]
      exact ⟨_, rfl⟩
    simp only [if_true, if_false, ite_true, ite_false, reduceIte, decide_true, decide_false, decide_eq_true_eq, Bool.true_and, Bool.and_true, Bool.false_and, Bool.and_false, Bool.true_or, Bool.or_true, Bool.false_or, Bool.or_false, Bool.not_true, Bool.not_false, Bool.false_eq_true, not_true_eq_false, not_false_eq_true, true_and, and_true, false_and, and_false, true_or, or_true, false_or, or_false, and_self, List.head_cons, List.headD_cons, List.length_cons, List.length_nil, wp_ok, wp_bad, wp_exc, c1, c2]
    have c3 : decide (1 ≤ src.length ∧ src.length ≤ 6) = true := decide_eq_true (by omega)
    cases e2 : ascB src with
    | false =>
      have eg : goodB rows src = false := by
        unfold goodB
        rw [e2]
        simp
      simp only [if_true, if_false, ite_true, ite_false, reduceIte, decide_true, decide_false, decide_eq_true_eq, Bool.true_and, Bool.and_true, Bool.false_and, Bool.and_false, Bool.true_or, Bool.or_true, Bool.false_or, Bool.or_false, Bool.not_true, Bool.not_false, Bool.false_eq_true, not_true_eq_false, not_false_eq_true, true_and, and_true, false_and, and_false, true_or, or_true, false_or, or_false, and_self, List.head_cons, List.headD_cons, List.length_cons, List.length_nil, wp_ok, wp_bad, wp_exc, eg]
      simp only [EV0, EV1, EV2, EV3, EV4, EV5, EV6, Nat.reduceLT, entry, List.replicate, asg, setAll, reduceIte, Nat.reduceSub, Nat.reduceAdd, Int.reduceMul, Int.reduceAdd, Int.reduceLT, Int.reduceNeg, Nat.reduceLeDiff, wipeE, BIG, Ob.data, cellD, rowD]
      exact ⟨_, rfl⟩
    | true =>
      have eg : goodB rows src = src.all fun c => inb rows c && isW (sgn rows c) := by
        unfold goodB
        rw [e1, e2, c3]
        simp
      have R := rowsB_rc e1
      simp only [if_true, if_false, ite_true, ite_false, reduceIte, decide_true, decide_false, decide_eq_true_eq, Bool.true_and, Bool.and_true, Bool.false_and, Bool.and_false, Bool.true_or, Bool.or_true, Bool.false_or, Bool.or_false, Bool.not_true, Bool.not_false, Bool.false_eq_true, not_true_eq_false, not_false_eq_true, true_and, and_true, false_and, and_false, true_or, or_true, false_or, or_false, and_self, List.head_cons, List.headD_cons, List.length_cons, List.length_nil, wp_ok, wp_bad, wp_exc, ]
      refine wg_all cellD src (fun c => inb rows c && isW (sgn rows c)) (by simp only [EV0, EV1, EV2, EV3, EV4, EV5, EV6, Nat.reduceLT, entry, List.replicate, asg, setAll, reduceIte, Nat.reduceSub, Nat.reduceAdd, Int.reduceMul, Int.reduceAdd, Int.reduceLT, Int.reduceNeg, Nat.reduceLeDiff, wipeE, BIG, Ob.data, cellD, rowD]) ?_ ?_
      · intro c hc
        refine ⟨_, rfl, ?_⟩
        have hC : IsCh (.r S.length) rows src (S ++ [Ob.ins 0 [(0, D.tup (List.map rowD rows)), (1, D.tup (List.map cellD src))]]) := isCh_r (get_ap0 _ _)
        simp only [EV0, EV1, EV2, EV3, EV4, EV5, EV6, Nat.reduceLT, entry, List.replicate, asg, setAll, reduceIte, Nat.reduceSub, Nat.reduceAdd, Int.reduceMul, Int.reduceAdd, Int.reduceLT, Int.reduceNeg, Nat.reduceLeDiff, wipeE, BIG, Ob.data, cellD, rowD, is_cell_v H _ hC R.le, Sec]
        cases e3 : inb rows c with
        | false => simp only [if_true, if_false, ite_true, ite_false, reduceIte, decide_true, decide_false, decide_eq_true_eq, Bool.true_and, Bool.and_true, Bool.false_and, Bool.and_false, Bool.true_or, Bool.or_true, Bool.false_or, Bool.or_false, Bool.not_true, Bool.not_false, Bool.false_eq_true, not_true_eq_false, not_false_eq_true, true_and, and_true, false_and, and_false, true_or, or_true, false_or, or_false, and_self, List.head_cons, List.headD_cons, List.length_cons, List.length_nil, wp_ok, wp_bad, wp_exc, ]
        | true => simp only [if_true, if_false, ite_true, ite_false, reduceIte, decide_true, decide_false, decide_eq_true_eq, Bool.true_and, Bool.and_true, Bool.false_and, Bool.and_false, Bool.true_or, Bool.or_true, Bool.false_or, Bool.or_false, Bool.not_true, Bool.not_false, Bool.false_eq_true, not_true_eq_false, not_false_eq_true, true_and, and_true, false_and, and_false, true_or, or_true, false_or, or_false, and_self, List.head_cons, List.headD_cons, List.length_cons, List.length_nil, wp_ok, wp_bad, wp_exc, is_water_v H _ hC R e3]
      · rw [eg]
        cases src.all fun c => inb rows c && isW (sgn rows c) with
        | false => simp only [EV0, EV1, EV2, EV3, EV4, EV5, EV6, Nat.reduceLT, entry, List.replicate, asg, setAll, reduceIte, Nat.reduceSub, Nat.reduceAdd, Int.reduceMul, Int.reduceAdd, Int.reduceLT, Int.reduceNeg, Nat.reduceLeDiff, wipeE, BIG, Ob.data, cellD, rowD]; exact ⟨_, rfl⟩
        | true => simp only [EV0, EV1, EV2, EV3, EV4, EV5, EV6, Nat.reduceLT, entry, List.replicate, asg, setAll, reduceIte, Nat.reduceSub, Nat.reduceAdd, Int.reduceMul, Int.reduceAdd, Int.reduceLT, Int.reduceNeg, Nat.reduceLeDiff, wipeE, BIG, Ob.data, cellD, rowD]
end
end M
-- MC3.lean
set_option Elab.async false
set_option linter.all false
set_option maxRecDepth 100000
set_option maxHeartbeats 4000000
set_option autoImplicit false
/-! MC3: the law's own view of a chart -/
namespace SW
open PySem
end SW
namespace M
open PySem SW
section
variable {tbl : Nat → Option Fn} (H : Tb tbl)
include H
theorem l_is_place_eq (k : Nat) (rows : Rows) (ps : List D) (S : Store) (hw : wid rows ≤ 1000) (a b : Int) : callF tbl (k + 1) 16 [.d (.tup (.tup (rows.map rowD) :: ps)), .d (.tup [.int a, .int b])] S = .ok (.d (.bl (inb rows (a, b)))) S := by
  apply eq_of_wp
  rw [wp_def H.t_l_is_place rfl]
  unfold d_l_is_place
  simp only [cont_cons, cont_nil, EV0, EV1, EV2, EV3, EV4, EV5, EV6, Nat.reduceLT, entry, List.replicate, asg, setAll, reduceIte, Nat.reduceSub, Nat.reduceAdd, Int.reduceMul, Int.reduceAdd, Int.reduceLT, Int.reduceNeg, Nat.reduceLeDiff, wipeE, BIG, Ob.data, cellD, rowD, Sec]
  unfold inb
  cases rows with
  | nil =>
    by_cases h : 0 ≤ a
    · have h2 : ¬ a < ((0 : Nat) : Int) := by omega
      simp only [if_true, if_false, ite_true, ite_false, reduceIte, decide_true, decide_false, decide_eq_true_eq, Bool.true_and, Bool.and_true, Bool.false_and, Bool.and_false, Bool.true_or, Bool.or_true, Bool.false_or, Bool.or_false, Bool.not_true, Bool.not_false, Bool.false_eq_true, not_true_eq_false, not_false_eq_true, true_and, and_true, false_and, and_false, true_or, or_true, false_or, or_false, and_self, List.head_cons, List.headD_cons, List.length_cons, List.length_nil, wp_ok, wp_bad, wp_exc, h, h2]
    · simp only [if_true, if_false, ite_true, ite_false, reduceIte, decide_true, decide_false, decide_eq_true_eq, Bool.true_and, Bool.and_true, Bool.false_and, Bool.and_false, Bool.true_or, Bool.or_true, Bool.false_or, Bool.or_false, Bool.not_true, Bool.not_false, Bool.false_eq_true, not_true_eq_false, not_false_eq_true, true_and, and_true, false_and, and_false, true_or, or_true, false_or, or_false, and_self, List.head_cons, List.headD_cons, List.length_cons, List.length_nil, wp_ok, wp_bad, wp_exc, h]
  | cons r0 rest =>
    have hb : r0.length ≤ 1000000 := by have : r0.length ≤ 1000 := hw; omega
    simp only [EV0, EV1, EV2, EV3, EV4, EV5, EV6, Nat.reduceLT, entry, List.replicate, asg, setAll, reduceIte, Nat.reduceSub, Nat.reduceAdd, Int.reduceMul, Int.reduceAdd, Int.reduceLT, Int.reduceNeg, Nat.reduceLeDiff, wipeE, BIG, Ob.data, cellD, rowD, hb]
    by_cases h1 : 0 ≤ a
    · by_cases h2 : a < ↑(rest.length + 1)
      · simp only [if_true, if_false, ite_true, ite_false, reduceIte, decide_true, decide_false, decide_eq_true_eq, Bool.true_and, Bool.and_true, Bool.false_and, Bool.and_false, Bool.true_or, Bool.or_true, Bool.false_or, Bool.or_false, Bool.not_true, Bool.not_false, Bool.false_eq_true, not_true_eq_false, not_false_eq_true, true_and, and_true, false_and, and_false, true_or, or_true, false_or, or_false, and_self, List.head_cons, List.headD_cons, List.length_cons, List.length_nil, wp_ok, wp_bad, wp_exc, h1, h2, wid]
        by_cases h3 : 0 ≤ b
        · simp only [if_true, if_false, ite_true, ite_false, reduceIte, decide_true, decide_false, decide_eq_true_eq, Bool.true_and, Bool.and_true, Bool.false_and, Bool.and_false, Bool.true_or, Bool.or_true, Bool.false_or, Bool.or_false, Bool.not_true, Bool.not_false, Bool.false_eq_true, not_true_eq_false, not_false_eq_true, true_and, and_true, false_and, and_false, true_or, or_true, false_or, or_false, and_self, List.head_cons, List.headD_cons, List.length_cons, List.length_nil, wp_ok, wp_bad, wp_exc, h3, and_self]
          try rfl
        · simp only [if_true, if_false, ite_true, ite_false, reduceIte, decide_true, decide_false, decide_eq_true_eq, Bool.true_and, Bool.and_true, Bool.false_and, Bool.and_false, Bool.true_or, Bool.or_true, Bool.false_or, Bool.or_false, Bool.not_true, Bool.not_false, Bool.false_eq_true, not_true_eq_false, not_false_eq_true, true_and, and_true, false_and, and_false, true_or, or_true, false_or, or_false, and_self, List.head_cons, List.headD_cons, List.length_cons, List.length_nil, wp_ok, wp_bad, wp_exc, h3, and_self]
      · simp only [if_true, if_false, ite_true, ite_false, reduceIte, decide_true, decide_false, decide_eq_true_eq, Bool.true_and, Bool.and_true, Bool.false_and, Bool.and_false, Bool.true_or, Bool.or_true, Bool.false_or, Bool.or_false, Bool.not_true, Bool.not_false, Bool.false_eq_true, not_true_eq_false, not_false_eq_true, true_and, and_true, false_and, and_false, true_or, or_true, false_or, or_false, and_self, List.head_cons, List.headD_cons, List.length_cons, List.length_nil, wp_ok, wp_bad, wp_exc, h1, h2]
    · simp only [if_true, if_false, ite_true, ite_false, reduceIte, decide_true, decide_false, decide_eq_true_eq, Bool.true_and, Bool.and_true, Bool.false_and, Bool.and_false, Bool.true_or, Bool.or_true, Bool.false_or, Bool.or_false, Bool.not_true, Bool.not_false, Bool.false_eq_true, not_true_eq_false, not_false_eq_true, true_and, and_true, false_and, and_false, true_or, or_true, false_or, or_false, and_self, List.head_cons, List.headD_cons, List.length_cons, List.length_nil, wp_ok, wp_bad, wp_exc, h1]
theorem l_sign_eq (k : Nat) {rows : Rows} (ps : List D) (S : Store) (R : Rc rows) {a b : Int} (h : inb rows (a, b) = true) : callF tbl (k + 1) 15 [.d (.tup (.tup (rows.map rowD) :: ps)), .d (.tup [.int a, .int b])] S = .ok (.d (.str (sL [sgn rows (a, b)]))) S := by
  apply eq_of_wp
  rw [wp_def H.t_l_sign rfl]
  unfold d_l_sign
  have hb : (rows.getD a.toNat []).length ≤ 1000000 := by
    rw [row_len R h]
    have := R.le
    omega
  simp only [cont_cons, cont_nil, EV0, EV1, EV2, EV3, EV4, EV5, EV6, Nat.reduceLT, entry, List.replicate, asg, setAll, reduceIte, Nat.reduceSub, Nat.reduceAdd, Int.reduceMul, Int.reduceAdd, Int.reduceLT, Int.reduceNeg, Nat.reduceLeDiff, wipeE, BIG, Ob.data, cellD, rowD, rows_get h, row_get R h, hb]
end
end M
-- MC4.lean
set_option Elab.async false
set_option linter.all false
set_option maxRecDepth 100000
set_option maxHeartbeats 4000000
set_option autoImplicit false
/-! MC4: parts of a chart are drawn -/
namespace SW
open PySem
def rowW (rows : Rows) (i : Nat) : List Cell := ((List.range (rows.getD i []).length).filter fun j => isW ((rows.getD i []).getD j 0)).map fun (j : Nat) => ((i : Int), (j : Int))
def watersL (rows : Rows) : List Cell := (List.range rows.length).flatMap (rowW rows)
theorem flat_len {α β : Type} (f : α → List β) (m : Nat) : ∀ l : List α, (∀ a ∈ l, (f a).length ≤ m) → (l.flatMap f).length ≤ l.length * m
  | [], _ => by simp
  | a :: l, h => by
    have h1 := h a List.mem_cons_self
    have h2 := flat_len f m l fun b hb => h b (List.mem_cons_of_mem _ hb)
    rw [List.flatMap_cons, List.length_append, List.length_cons, Nat.add_mul]
    omega
theorem rowW_len (rows : Rows) (i m : Nat) (h : (rows.getD i []).length ≤ m) : (rowW rows i).length ≤ m := by
  unfold rowW
  rw [List.length_map]
  refine Nat.le_trans (List.length_filter_le _ _) ?_
  rw [List.length_range]
  exact h
theorem mem_waters {rows : Rows} (R : Rc rows) {c : Cell} : c ∈ watersL rows ↔ inb rows c = true ∧ isW (sgn rows c) = true := by
  unfold watersL rowW
  simp only [List.mem_flatMap, List.mem_map, List.mem_filter, List.mem_range]
  constructor
  · rintro ⟨i, hi, j, ⟨hj, hw⟩, rfl⟩
    have hj2 : j < wid rows := by rw [← R.rc _ (getD_mem hi)]; exact hj
    refine ⟨inb_iff.mpr ⟨i, j, rfl, hi, hj2⟩, ?_⟩
    unfold sgn
    simp only [Int.toNat_natCast]
    rw [getD_lt _ hj] at hw ⊢
    exact hw
  · rintro ⟨h1, h2⟩
    obtain ⟨i, j, rfl, hi, hj⟩ := inb_iff.mp h1
    have hj2 : j < (rows.getD i []).length := by rw [R.rc _ (getD_mem hi)]; exact hj
    refine ⟨i, hi, j, ⟨hj2, ?_⟩, rfl⟩
    unfold sgn at h2
    simp only [Int.toNat_natCast] at h2
    rw [getD_lt _ hj2] at h2 ⊢
    exact h2
theorem waters_asc (rows : Rows) : Asc (watersL rows) := by
  unfold Asc watersL
  rw [List.pairwise_flatMap]
  constructor
  · intro i _
    unfold rowW
    rw [List.pairwise_map]
    refine List.Pairwise.filter _ ?_
    refine List.Pairwise.imp ?_ List.pairwise_lt_range
    intro a b h
    exact decide_eq_true (.inr ⟨rfl, Int.ofNat_lt.mpr h⟩)
  · refine List.Pairwise.imp ?_ List.pairwise_lt_range
    intro a b h x hx y hy
    unfold rowW at hx hy
    obtain ⟨_, _, rfl⟩ := List.mem_map.mp hx
    obtain ⟨_, _, rfl⟩ := List.mem_map.mp hy
    unfold cellLt
    simp only [decide_eq_true_eq]
    omega
theorem cellLt_irr (a : Cell) : cellLt a a = false := by
  unfold cellLt
  simp
theorem Asc.nodup {cs : List Cell} (h : Asc cs) : cs.Nodup := by
  unfold Asc at h
  refine List.Pairwise.imp ?_ h
  intro a b h e
  subst e
  rw [cellLt_irr] at h
  cases h
theorem cellLt_tri {a b : Cell} (h : a ≠ b) (h2 : cellLt a b = false) : cellLt b a = true := by
  unfold cellLt at *
  simp only [decide_eq_true_eq, decide_eq_false_iff_not] at *
  have : ¬ (a.1 = b.1 ∧ a.2 = b.2) := fun q => h (Prod.ext q.1 q.2)
  omega
/-! ### sorted -/
section
variable {α : Type} (le : α → α → Bool)
theorem insBy_perm (x : α) : ∀ l : List α, (insertBy le x l).Perm (x :: l)
  | [] => List.Perm.refl _
  | y :: r => by
    unfold insertBy
    split
    · exact List.Perm.refl _
    · exact ((insBy_perm x r).cons y).trans (List.Perm.swap x y r)
theorem srtBy_perm : ∀ l : List α, (sortBy le l).Perm l
  | [] => List.Perm.refl _
  | x :: r => (insBy_perm le x (sortBy le r)).trans ((srtBy_perm r).cons x)
theorem insBy_sorted (R : α → α → Prop) (htr : ∀ a b c, R a b → R b c → R a c) (x : α) : ∀ l : List α, (∀ y ∈ l, (le x y = true → R x y) ∧ (le x y = false → R y x)) → l.Pairwise R → (insertBy le x l).Pairwise R
  | [], _, _ => by
    unfold insertBy
    exact List.pairwise_singleton _ _
  | y :: r, h, hp => by
    unfold insertBy
    have hp2 := List.pairwise_cons.mp hp
    by_cases q : le x y = true
    · rw [if_pos q]
      have h0 := (h y List.mem_cons_self).1 q
      refine List.Pairwise.cons ?_ hp
      intro z hz
      rcases List.mem_cons.mp hz with e | e
      · rw [e]; exact h0
      · exact htr _ _ _ h0 (hp2.1 z e)
    · rw [if_neg q]
      have h0 := (h y List.mem_cons_self).2 (by simpa using q)
      refine List.Pairwise.cons ?_ (insBy_sorted R htr x r (fun z hz => h z (List.mem_cons_of_mem _ hz)) hp2.2)
      intro z hz
      rcases List.mem_cons.mp ((insBy_perm le x r).mem_iff.mp hz) with e | e
      · rw [e]; exact h0
      · exact hp2.1 z e
end
theorem cellLe_lt {a b : Cell} (h : a ≠ b) : cellLe a b = cellLt a b := by
  unfold cellLe cellLt
  have : ¬ (a.1 = b.1 ∧ a.2 = b.2) := fun q => h (Prod.ext q.1 q.2)
  by_cases h1 : a.1 < b.1
  · simp [h1]
  · by_cases h2 : a.1 = b.1
    · have h3 : a.2 ≤ b.2 ↔ a.2 < b.2 := by
        constructor
        · intro q
          have : a.2 ≠ b.2 := fun e => this ⟨h2, e⟩
          omega
        · intro q; omega
      simp [h1, h2, h3]
    · simp [h1, h2]
theorem sort_asc : ∀ {cs : List Cell}, cs.Nodup → Asc (sortBy cellLe cs)
  | [], _ => List.Pairwise.nil
  | x :: r, h => by
    have hn := List.nodup_cons.mp h
    unfold Asc sortBy
    refine insBy_sorted cellLe (fun a b => cellLt a b = true) (fun a b c => cellLt_trans) x _ ?_ (sort_asc hn.2)
    intro y hy
    have hy2 := (srtBy_perm cellLe r).mem_iff.mp hy
    have hne : x ≠ y := fun e => hn.1 (e ▸ hy2)
    rw [cellLe_lt hne]
    exact ⟨fun q => q, fun q => cellLt_tri hne q⟩
/-- v reads as rows -/
def IsR (v : Vl) (rows : Rows) (S : Store) : Prop := ∀ l : List Ob, kBlt .len [v] (S ++ l) = .ok (.d (.int rows.length)) (S ++ l) ∧ ∀ (i : Nat), i < rows.length → kIdx v (.d (.int i)) (S ++ l) = .ok (.d (.str (sL (rows.getD i [])))) (S ++ l)
theorem isR_d (rows : Rows) (S : Store) : IsR (.d (.tup (rows.map rowD))) rows S := fun l => ⟨by rw [kl_tup, List.length_map], fun i h => by
  rw [kx_tup, atI_nat, List.getElem?_map, List.getElem?_eq_getElem h, getD_lt _ h]
  rfl⟩
theorem isR_r {rows : Rows} {S : Store} {n : Nat} (h : S[n]? = some (.lst (rows.map rowD))) : IsR (.r n) rows S := fun l => ⟨by rw [kl_r _ _ _ (get_left h), List.length_map], fun i hi => by
  rw [kx_r _ _ _ _ (get_left h), atI_nat, List.getElem?_map, List.getElem?_eq_getElem hi, getD_lt _ hi]
  rfl⟩
end SW
namespace M
open PySem SW
section
variable {tbl : Nat → Option Fn} (H : Tb tbl)
include H
theorem l_waters_eq (k : Nat) (v : Vl) (rows : Rows) (S : Store) (hv : IsR v rows S) (hr : rows.length ≤ 100) (hw : ∀ r ∈ rows, r.length ≤ 100) : callF tbl (k + 1) 13 [v] S = .ok (.r S.length) (S ++ [.lst ((watersL rows).map cellD)]) := by
  apply eq_of_wp
  rw [wp_def H.t_l_waters rfl]
  unfold d_l_waters
  simp only [cont_cons, cont_nil, EV0, EV1, EV2, EV3, EV4, EV5, EV6, Nat.reduceLT, entry, List.replicate, asg, setAll, reduceIte, Nat.reduceSub, Nat.reduceAdd, Int.reduceMul, Int.reduceAdd, Int.reduceLT, Int.reduceNeg, Nat.reduceLeDiff, wipeE, BIG, Ob.data, cellD, rowD, (hv [Ob.lst []]).1, okI_nat (show rows.length < 1000000 by omega)]
  refine ws_forL (fun (i : Nat) => D.int (i : Int)) (List.range rows.length) (fun done ρ S' => (∃ x2 x3, ρ = [some v, some (.r S.length), x2, x3]) ∧ S' = S ++ [.lst ((done.flatMap (rowW rows)).map cellD)]) ⟨⟨_, _, rfl⟩, rfl⟩ ?_ ?_
  · rintro done i tl hd ρ S' ⟨⟨x2, x3, rfl⟩, rfl⟩
    obtain ⟨hdr, hi, hdl⟩ := range_split hd
    refine ⟨_, rfl, ?_⟩
    have hri := hw _ (getD_mem hi)
    have hfl : (done.flatMap (rowW rows)).length ≤ done.length * 100 := flat_len _ _ _ fun a ha => rowW_len rows a 100 (hw _ (getD_mem (by rw [hdr, List.mem_range] at ha; omega)))
    rw [ws_block]
    simp only [cont_cons, cont_nil, EV0, EV1, EV2, EV3, EV4, EV5, EV6, Nat.reduceLT, entry, List.replicate, asg, setAll, reduceIte, Nat.reduceSub, Nat.reduceAdd, Int.reduceMul, Int.reduceAdd, Int.reduceLT, Int.reduceNeg, Nat.reduceLeDiff, wipeE, BIG, Ob.data, cellD, rowD, ((hv _).2 i hi), show (rows.getD i []).length ≤ 1000000 by omega, okI_nat (show (rows.getD i []).length < 1000000 by omega)]
    refine ws_forL (fun (i : Nat) => D.int (i : Int)) (List.range (rows.getD i []).length) (fun done2 ρ S' => (∃ x3, ρ = [some v, some (.r S.length), some (.d (.int i)), x3]) ∧ S' = S ++ [.lst ((done.flatMap (rowW rows) ++ (done2.filter fun j => isW ((rows.getD i []).getD j 0)).map fun (j : Nat) => ((i : Int), (j : Int))).map cellD)]) ⟨⟨_, rfl⟩, by simp⟩ ?_ ?_
    · rintro done2 j tl2 hd2 ρ S' ⟨⟨x3, rfl⟩, rfl⟩
      obtain ⟨-, hj, hdl2⟩ := range_split hd2
      refine ⟨_, rfl, ?_⟩
      have e1 : (rows.getD i [])[j]? = some ((rows.getD i []).getD j 0) := by rw [List.getElem?_eq_getElem hj, getD_lt _ hj]
      have hf2 := List.length_filter_le (fun j => isW ((rows.getD i []).getD j 0)) done2
      rw [ws_block]
      simp only [cont_cons, cont_nil, EV0, EV1, EV2, EV3, EV4, EV5, EV6, Nat.reduceLT, entry, List.replicate, asg, setAll, reduceIte, Nat.reduceSub, Nat.reduceAdd, Int.reduceMul, Int.reduceAdd, Int.reduceLT, Int.reduceNeg, Nat.reduceLeDiff, wipeE, BIG, Ob.data, cellD, rowD, ((hv _).2 i hi), show (rows.getD i []).length ≤ 1000000 by omega, e1]
      cases e2 : isW ((rows.getD i []).getD j 0) with
      | false =>
        have e3 : ¬ (rows.getD i []).getD j 0 ∈ [49, 50, 51, 52, 53, 54, 55, 56, 57] := fun q => by
          have : isW ((rows.getD i []).getD j 0) = true := decide_eq_true q
          rw [e2] at this
          cases this
        simp only [EV0, EV1, EV2, EV3, EV4, EV5, EV6, Nat.reduceLT, entry, List.replicate, asg, setAll, reduceIte, Nat.reduceSub, Nat.reduceAdd, Int.reduceMul, Int.reduceAdd, Int.reduceLT, Int.reduceNeg, Nat.reduceLeDiff, wipeE, BIG, Ob.data, cellD, rowD, e3]
        refine ⟨⟨_, rfl⟩, ?_⟩
        rw [List.filter_append, filt1_f (p := fun j => isW ((rows.getD i []).getD j 0)) e2]
        simp
      | true =>
        have e3 : (rows.getD i []).getD j 0 ∈ [49, 50, 51, 52, 53, 54, 55, 56, 57] := of_decide_eq_true e2
        simp only [EV0, EV1, EV2, EV3, EV4, EV5, EV6, Nat.reduceLT, entry, List.replicate, asg, setAll, reduceIte, Nat.reduceSub, Nat.reduceAdd, Int.reduceMul, Int.reduceAdd, Int.reduceLT, Int.reduceNeg, Nat.reduceLeDiff, wipeE, BIG, Ob.data, cellD, rowD, e3, isl_new, push_app]
        rw [if_pos (by simp only [List.length_map, List.length_append, BIG]; omega)]
        refine ⟨⟨_, rfl⟩, ?_⟩
        rw [List.filter_append, filt1_t (p := fun j => isW ((rows.getD i []).getD j 0)) e2]
        simp [cellD]
    · rintro ρ S' ⟨⟨x3', rfl⟩, rfl⟩
      simp only [cont_cons, cont_nil, EV0, EV1, EV2, EV3, EV4, EV5, EV6, Nat.reduceLT, entry, List.replicate, asg, setAll, reduceIte, Nat.reduceSub, Nat.reduceAdd, Int.reduceMul, Int.reduceAdd, Int.reduceLT, Int.reduceNeg, Nat.reduceLeDiff, wipeE, BIG, Ob.data, cellD, rowD]
      refine ⟨⟨_, _, rfl⟩, ?_⟩
      rw [List.flatMap_append]
      simp [rowW]
  · rintro ρ S' ⟨⟨x2, x3, rfl⟩, rfl⟩
    simp only [cont_cons, cont_nil, EV0, EV1, EV2, EV3, EV4, EV5, EV6, Nat.reduceLT, entry, List.replicate, asg, setAll, reduceIte, Nat.reduceSub, Nat.reduceAdd, Int.reduceMul, Int.reduceAdd, Int.reduceLT, Int.reduceNeg, Nat.reduceLeDiff, wipeE, BIG, Ob.data, cellD, rowD]
    rfl
end
end M
-- MC5.lean
set_option Elab.async false
set_option linter.all false
set_option maxRecDepth 100000
set_option maxHeartbeats 4000000
set_option autoImplicit false
/-! MC5: a chart's parts -/
namespace M
open PySem SW
section
variable {tbl : Nat → Option Fn} (H : Tb tbl)
include H
theorem draw2 (k : Nat) (n : Nat) (b : Ob) (m : Int) (S : Store) (hb : S[n]? = some b) (hB : IsBox b) (hm : 0 < m) : Wp (callF tbl (k + 1) 9 [.r n, .d (.int m)] S) (fun v S' => ∃ z : Nat, v = .d (.int z) ∧ (z : Int) < m ∧ ∃ b', IsBox b' ∧ S' = S.set n b') noX := by
  refine wp_imp (l_draw_ok H k n b m S hb hB hm) ?_
  rintro v S' ⟨z, rfl, h0, h1, h2⟩
  obtain ⟨z, rfl⟩ := Int.eq_ofNat_of_zero_le h0
  exact ⟨z, rfl, h1, h2⟩
theorem draw0 (k : Nat) (b : Ob) (m : Int) (S l : Store) (hB : IsBox b) (hm : 0 < m) : Wp (callF tbl (k + 1) 9 [.r S.length, .d (.int m)] (S ++ b :: l)) (fun v S' => ∃ z : Nat, v = .d (.int z) ∧ (z : Int) < m ∧ ∃ b', IsBox b' ∧ S' = S ++ b' :: l) noX := by
  refine wp_imp (draw2 H k S.length b m _ (by rw [get_ap0]; rfl) hB hm) ?_
  rintro v S' ⟨z, rfl, h1, b', h2, rfl⟩
  exact ⟨z, rfl, h1, b', h2, by rw [set_ap0]; rfl⟩
theorem l_parts_ok (k : Nat) (ns : List Int) (j mr mc : Nat) (S : Store) (hr : 1 ≤ mr) (hr7 : mr ≤ 7) (hc : 1 ≤ mc) (hc7 : mc ≤ 7) : Wp (callF tbl (k + 4) 14 [.d (.scr ns), .d (.int j), .d (.int mr), .d (.int mc)] S) (fun v S' => ∃ rows src, Ok rows src ∧ rows.length ≤ mr ∧ wid rows ≤ mc ∧ v = .d (.tup [.tup (rows.map rowD), .tup (src.map cellD)]) ∧ S' = S) noX := by
  rw [wp_def H.t_l_parts rfl]
  unfold d_l_parts
  simp only [cont_cons, cont_nil, EV0, EV1, EV2, EV3, EV4, EV5, EV6, Nat.reduceLT, entry, List.replicate, asg, setAll, reduceIte, Nat.reduceSub, Nat.reduceAdd, Int.reduceMul, Int.reduceAdd, Int.reduceLT, Int.reduceNeg, Nat.reduceLeDiff, wipeE, BIG, Ob.data, cellD, rowD]
  refine wp_imp (l_box_ok H _ ns j S) ?_
  rintro v S' ⟨rfl, b, hB, rfl⟩
  simp only [cont_cons, cont_nil, EV0, EV1, EV2, EV3, EV4, EV5, EV6, Nat.reduceLT, entry, List.replicate, asg, setAll, reduceIte, Nat.reduceSub, Nat.reduceAdd, Int.reduceMul, Int.reduceAdd, Int.reduceLT, Int.reduceNeg, Nat.reduceLeDiff, wipeE, BIG, Ob.data, cellD, rowD]
  refine wp_imp (draw0 H _ b mr S [] hB (by omega)) ?_
  rintro v S' ⟨hi, rfl, hhi, b, hB, rfl⟩
  simp only [cont_cons, cont_nil, EV0, EV1, EV2, EV3, EV4, EV5, EV6, Nat.reduceLT, entry, List.replicate, asg, setAll, reduceIte, Nat.reduceSub, Nat.reduceAdd, Int.reduceMul, Int.reduceAdd, Int.reduceLT, Int.reduceNeg, Nat.reduceLeDiff, wipeE, BIG, Ob.data, cellD, rowD]
  refine wp_imp (draw0 H _ b mc S [] hB (by omega)) ?_
  rintro v S' ⟨wd, rfl, hwd, b, hB, rfl⟩
  have e1 : (1 : Int) + (hi : Int) = ((hi + 1 : Nat) : Int) := by omega
  have e2 : (1 : Int) + (wd : Int) = ((wd + 1 : Nat) : Int) := by omega
  simp only [cont_cons, cont_nil, EV0, EV1, EV2, EV3, EV4, EV5, EV6, Nat.reduceLT, entry, List.replicate, asg, setAll, reduceIte, Nat.reduceSub, Nat.reduceAdd, Int.reduceMul, Int.reduceAdd, Int.reduceLT, Int.reduceNeg, Nat.reduceLeDiff, wipeE, BIG, Ob.data, cellD, rowD, e1, e2]
  refine wp_lcI (fun (i : Nat) => D.int (i : Int)) (List.range (hi + 1)) (fun done S' => ∃ (ys : Rows), S' = S ++ [b, .lst (ys.map rowD)] ∧ ys.length = done.length ∧ ∀ y ∈ ys, y.length = wd + 1 ∧ ∀ c ∈ y, c ∈ LS) ?_ ?_ ?_ ?_
  · simp only [EV0, EV1, EV2, EV3, EV4, EV5, EV6, Nat.reduceLT, entry, List.replicate, asg, setAll, reduceIte, Nat.reduceSub, Nat.reduceAdd, Int.reduceMul, Int.reduceAdd, Int.reduceLT, Int.reduceNeg, Nat.reduceLeDiff, wipeE, BIG, Ob.data, cellD, rowD, okI_nat (show hi + 1 < 1000000 by omega)]
  · exact ⟨[], by simp, rfl, by simp⟩
  · rintro done i tl hd S' ⟨ys, rfl, hyl, hys⟩
    obtain ⟨-, hi2, hdl⟩ := range_split hd
    refine ⟨_, rfl, ?_⟩
    have e3 : (j : Int) + 1 + (i : Int) = ((j + (1 + i) : Nat) : Int) := by omega
    simp only [cont_cons, cont_nil, EV0, EV1, EV2, EV3, EV4, EV5, EV6, Nat.reduceLT, entry, List.replicate, asg, setAll, reduceIte, Nat.reduceSub, Nat.reduceAdd, Int.reduceMul, Int.reduceAdd, Int.reduceLT, Int.reduceNeg, Nat.reduceLeDiff, wipeE, BIG, Ob.data, cellD, rowD, e3]
    refine wp_imp (l_box_ok H _ ns (j + (1 + i)) _) ?_
    rintro v S' ⟨rfl, b2, hB2, rfl⟩
    simp only [cont_cons, cont_nil, EV0, EV1, EV2, EV3, EV4, EV5, EV6, Nat.reduceLT, entry, List.replicate, asg, setAll, reduceIte, Nat.reduceSub, Nat.reduceAdd, Int.reduceMul, Int.reduceAdd, Int.reduceLT, Int.reduceNeg, Nat.reduceLeDiff, wipeE, BIG, Ob.data, cellD, rowD]
    refine wp_imp (l_line2 H _ (S.length + 2) b2 (wd + 1) _ (by simp only [EV0, EV1, EV2, EV3, EV4, EV5, EV6, Nat.reduceLT, entry, List.replicate, asg, setAll, reduceIte, Nat.reduceSub, Nat.reduceAdd, Int.reduceMul, Int.reduceAdd, Int.reduceLT, Int.reduceNeg, Nat.reduceLeDiff, wipeE, BIG, Ob.data, cellD, rowD]) hB2 (by omega)) ?_
    rintro v S' ⟨cs, rfl, hcl, hcs, b3, hB3, rfl⟩
    simp only [cont_cons, cont_nil, EV0, EV1, EV2, EV3, EV4, EV5, EV6, Nat.reduceLT, entry, List.replicate, asg, setAll, reduceIte, Nat.reduceSub, Nat.reduceAdd, Int.reduceMul, Int.reduceAdd, Int.reduceLT, Int.reduceNeg, Nat.reduceLeDiff, wipeE, BIG, Ob.data, cellD, rowD, push]
    rw [if_pos (by omega)]
    refine ⟨ys ++ [cs], by simp [rowD], by simp; omega, fun y hy => ?_⟩
    rcases List.mem_append.mp hy with q | q
    · exact hys y q
    · rw [List.mem_singleton.mp q]
      exact ⟨hcl, hcs⟩
  · rintro S' ⟨ys, rfl, hyl, hys⟩
    rw [List.length_range] at hyl
    simp only [cont_cons, cont_nil, EV0, EV1, EV2, EV3, EV4, EV5, EV6, Nat.reduceLT, entry, List.replicate, asg, setAll, reduceIte, Nat.reduceSub, Nat.reduceAdd, Int.reduceMul, Int.reduceAdd, Int.reduceLT, Int.reduceNeg, Nat.reduceLeDiff, wipeE, BIG, Ob.data, cellD, rowD]
    refine wp_imp (draw0 H _ b ((hi + 1 : Nat) : Int) S [.lst (ys.map rowD)] hB (by omega)) ?_
    rintro v S' ⟨row, rfl, hrow, b, hB, rfl⟩
    simp only [cont_cons, cont_nil, EV0, EV1, EV2, EV3, EV4, EV5, EV6, Nat.reduceLT, entry, List.replicate, asg, setAll, reduceIte, Nat.reduceSub, Nat.reduceAdd, Int.reduceMul, Int.reduceAdd, Int.reduceLT, Int.reduceNeg, Nat.reduceLeDiff, wipeE, BIG, Ob.data, cellD, rowD]
    refine wp_imp (draw0 H _ b ((wd + 1 : Nat) : Int) S [.lst (ys.map rowD)] hB (by omega)) ?_
    rintro v S' ⟨col, rfl, hcol, b, hB, rfl⟩
    have hrow2 : row < ys.length := by omega
    have er : (ys.map rowD)[row]? = some (.str (sL ys[row])) := by
      rw [List.getElem?_map, List.getElem?_eq_getElem hrow2]
      rfl
    have hyr := hys _ (List.getElem_mem hrow2)
    simp only [cont_cons, cont_nil, EV0, EV1, EV2, EV3, EV4, EV5, EV6, Nat.reduceLT, entry, List.replicate, asg, setAll, reduceIte, Nat.reduceSub, Nat.reduceAdd, Int.reduceMul, Int.reduceAdd, Int.reduceLT, Int.reduceNeg, Nat.reduceLeDiff, wipeE, BIG, Ob.data, cellD, rowD, kx_r _ _ _ _ (show (S ++ [b, Ob.lst (ys.map rowD)])[S.length + 1]? = some (Ob.lst (ys.map rowD)) by simp only [EV0, EV1, EV2, EV3, EV4, EV5, EV6, Nat.reduceLT, entry, List.replicate, asg, setAll, reduceIte, Nat.reduceSub, Nat.reduceAdd, Int.reduceMul, Int.reduceAdd, Int.reduceLT, Int.reduceNeg, Nat.reduceLeDiff, wipeE, BIG, Ob.data, cellD, rowD]), er, show ys[row].length ≤ 1000000 by omega]
    refine wp_imp (draw0 H _ b 5 S [.lst (ys.map rowD)] hB (by omega)) ?_
    rintro v S' ⟨d, rfl, hd5, b, hB, rfl⟩
    have ed : ([49, 50, 51, 52, 53] : List Nat)[d]? = some (49 + d) := by
      have : d = 0 ∨ d = 1 ∨ d = 2 ∨ d = 3 ∨ d = 4 := by omega
      rcases this with rfl | rfl | rfl | rfl | rfl <;> rfl
    have e4 : (col : Int) + 1 = ((col + 1 : Nat) : Int) := by omega
    simp only [cont_cons, cont_nil, EV0, EV1, EV2, EV3, EV4, EV5, EV6, Nat.reduceLT, entry, List.replicate, asg, setAll, reduceIte, Nat.reduceSub, Nat.reduceAdd, Int.reduceMul, Int.reduceAdd, Int.reduceLT, Int.reduceNeg, Nat.reduceLeDiff, wipeE, BIG, Ob.data, cellD, rowD, kx_r _ _ _ _ (show (S ++ [b, Ob.lst (ys.map rowD)])[S.length + 1]? = some (Ob.lst (ys.map rowD)) by simp only [EV0, EV1, EV2, EV3, EV4, EV5, EV6, Nat.reduceLT, entry, List.replicate, asg, setAll, reduceIte, Nat.reduceSub, Nat.reduceAdd, Int.reduceMul, Int.reduceAdd, Int.reduceLT, Int.reduceNeg, Nat.reduceLeDiff, wipeE, BIG, Ob.data, cellD, rowD]), er, show ys[row].length ≤ 1000000 by omega, ed, e4]
    rw [if_pos (by simp only [List.length_take]; omega), if_pos (by simp only [List.length_take, List.length_drop, List.length_append, List.length_cons, List.length_nil]; omega)]
    generalize hnew : (List.take (min col ys[row].length) ys[row] ++ (49 + d) :: List.take (ys[row].length - min (col + 1) ys[row].length) (List.drop (min (col + 1) ys[row].length) ys[row])) = new
    have hnl : new.length = wd + 1 := by
      rw [← hnew]
      simp only [List.length_take, List.length_drop, List.length_append, List.length_cons]
      omega
    have hns : ∀ c ∈ new, c ∈ LS ∨ c = 49 + d := by
      intro c hc
      rw [← hnew] at hc
      rcases List.mem_append.mp hc with q | q
      · exact .inl (hyr.2 c (List.mem_of_mem_take q))
      · rcases List.mem_cons.mp q with q | q
        · exact .inr q
        · exact .inl (hyr.2 c (List.mem_of_mem_drop (List.mem_of_mem_take q)))
    have hnc : new.getD col 0 = 49 + d := by
      rw [← hnew]
      have h1 : (List.take (min col ys[row].length) ys[row]).length = col := by simp only [List.length_take]; omega
      rw [List.getD, List.getElem?_append_right (by omega), h1]
      simp
    rw [kset_lst _ _ (ys.map rowD) row _ (by simp only [EV0, EV1, EV2, EV3, EV4, EV5, EV6, Nat.reduceLT, entry, List.replicate, asg, setAll, reduceIte, Nat.reduceSub, Nat.reduceAdd, Int.reduceMul, Int.reduceAdd, Int.reduceLT, Int.reduceNeg, Nat.reduceLeDiff, wipeE, BIG, Ob.data, cellD, rowD]) (by rw [List.length_map]; omega)]
    have hset : (ys.map rowD).set row (D.str (sL new)) = (ys.set row new).map rowD := by rw [List.map_set]; rfl
    generalize hrs : ys.set row new = rows at hset
    have hrl : rows.length = hi + 1 := by rw [← hrs, List.length_set]; exact hyl
    have hmem : ∀ r ∈ rows, r.length = wd + 1 ∧ ∀ c ∈ r, c ∈ SGS := by
      intro r hr
      rw [← hrs] at hr
      have hLS : ∀ c ∈ LS, c ∈ SGS := by decide
      have h9 : 49 + d ∈ SGS := by
        have : d = 0 ∨ d = 1 ∨ d = 2 ∨ d = 3 ∨ d = 4 := by omega
        rcases this with rfl | rfl | rfl | rfl | rfl <;> decide
      rcases List.mem_or_eq_of_mem_set hr with q | q
      · exact ⟨(hys r q).1, fun c hc => hLS c ((hys r q).2 c hc)⟩
      · subst q
        refine ⟨hnl, fun c hc => ?_⟩
        rcases hns c hc with q | q
        · exact hLS c q
        · rw [q]; exact h9
    have hwid : wid rows = wd + 1 := by
      unfold wid
      cases rows with
      | nil => simp at hrl
      | cons r0 rest => exact (hmem r0 List.mem_cons_self).1
    have R : Rc rows := ⟨fun r hr => by rw [hwid]; exact (hmem r hr).1, by omega⟩
    have hw0 : inb rows ((row : Int), (col : Int)) = true ∧ isW (sgn rows ((row : Int), (col : Int))) = true := by
      refine ⟨inb_iff.mpr ⟨row, col, rfl, by omega, by omega⟩, ?_⟩
      unfold sgn
      simp only [Int.toNat_natCast]
      have : rows.getD row [] = new := by
        rw [← hrs, List.getD, List.getElem?_set_self (by omega)]
        rfl
      rw [this, getD_lt _ (by omega)]
      rw [getD_lt _ (by omega)] at hnc
      rw [hnc]
      have : d = 0 ∨ d = 1 ∨ d = 2 ∨ d = 3 ∨ d = 4 := by omega
      rcases this with rfl | rfl | rfl | rfl | rfl <;> decide
    simp only [cont_cons, cont_nil, EV0, EV1, EV2, EV3, EV4, EV5, EV6, Nat.reduceLT, entry, List.replicate, asg, setAll, reduceIte, Nat.reduceSub, Nat.reduceAdd, Int.reduceMul, Int.reduceAdd, Int.reduceLT, Int.reduceNeg, Nat.reduceLeDiff, wipeE, BIG, Ob.data, cellD, rowD, hset]
    rw [l_waters_eq H _ (.r (S.length + 1)) rows _ (isR_r (by simp only [EV0, EV1, EV2, EV3, EV4, EV5, EV6, Nat.reduceLT, entry, List.replicate, asg, setAll, reduceIte, Nat.reduceSub, Nat.reduceAdd, Int.reduceMul, Int.reduceAdd, Int.reduceLT, Int.reduceNeg, Nat.reduceLeDiff, wipeE, BIG, Ob.data, cellD, rowD])) (by omega) (fun r hr => by have := (hmem r hr).1; omega)]
    simp only [cont_cons, cont_nil, EV0, EV1, EV2, EV3, EV4, EV5, EV6, Nat.reduceLT, entry, List.replicate, asg, setAll, reduceIte, Nat.reduceSub, Nat.reduceAdd, Int.reduceMul, Int.reduceAdd, Int.reduceLT, Int.reduceNeg, Nat.reduceLeDiff, wipeE, BIG, Ob.data, cellD, rowD, kd_r (S ++ [b, Ob.lst (rows.map rowD), Ob.lst [D.tup [D.int row, D.int col]], Ob.lst ((watersL rows).map cellD)]) (S.length + 3) (Ob.lst ((watersL rows).map cellD)) (by simp only [EV0, EV1, EV2, EV3, EV4, EV5, EV6, Nat.reduceLT, entry, List.replicate, asg, setAll, reduceIte, Nat.reduceSub, Nat.reduceAdd, Int.reduceMul, Int.reduceAdd, Int.reduceLT, Int.reduceNeg, Nat.reduceLeDiff, wipeE, BIG, Ob.data, cellD, rowD])]
    refine ws_forL cellD (watersL rows) (fun done ρ S' => ∃ x12 b src, IsBox b ∧ S' = S ++ [b, Ob.lst (rows.map rowD), Ob.lst (src.map cellD)] ∧ ρ = [some (Vl.d (D.scr ns)), some (Vl.d (D.int ↑j)), some (Vl.d (D.int ↑mr)), some (Vl.d (D.int ↑mc)), some (Vl.r (List.length S)), some (Vl.d (D.int ↑(hi + 1))), some (Vl.d (D.int ↑(wd + 1))), some (Vl.r (List.length S + 1)), none, some (Vl.d (D.int ↑row)), some (Vl.d (D.int ↑col)), some (Vl.r (List.length S + 2)), x12] ∧ src.Nodup ∧ 1 ≤ src.length ∧ src.length ≤ 6 ∧ ∀ c ∈ src, c = ((row : Int), (col : Int)) ∨ c ∈ done) ⟨_, b, [((row : Int), (col : Int))], hB, rfl, rfl, by simp, by simp, by simp, by simp⟩ ?_ ?_
    · rintro done c tl hd ρ S' ⟨x12, b, src, hB, rfl, rfl, hsn, hs1, hs6, hsd⟩
      refine ⟨_, rfl, ?_⟩
      rw [ws_block]
      simp only [cont_cons, cont_nil, EV0, EV1, EV2, EV3, EV4, EV5, EV6, Nat.reduceLT, entry, List.replicate, asg, setAll, reduceIte, Nat.reduceSub, Nat.reduceAdd, Int.reduceMul, Int.reduceAdd, Int.reduceLT, Int.reduceNeg, Nat.reduceLeDiff, wipeE, BIG, Ob.data, cellD, rowD, Sec]
      have hcd : c ∉ done := by
        have := (waters_asc rows).nodup
        rw [hd] at this
        intro q
        exact (List.nodup_append.mp this).2.2 c q c List.mem_cons_self rfl
      by_cases c1 : (c.1, c.2) = ((row : Int), (col : Int))
      · simp only [EV0, EV1, EV2, EV3, EV4, EV5, EV6, Nat.reduceLT, entry, List.replicate, asg, setAll, reduceIte, Nat.reduceSub, Nat.reduceAdd, Int.reduceMul, Int.reduceAdd, Int.reduceLT, Int.reduceNeg, Nat.reduceLeDiff, wipeE, BIG, Ob.data, cellD, rowD, c1]
        exact ⟨_, b, src, hB, rfl, rfl, hsn, hs1, hs6, fun x hx => (hsd x hx).imp id fun q => List.mem_append_left _ q⟩
      · simp only [EV0, EV1, EV2, EV3, EV4, EV5, EV6, Nat.reduceLT, entry, List.replicate, asg, setAll, reduceIte, Nat.reduceSub, Nat.reduceAdd, Int.reduceMul, Int.reduceAdd, Int.reduceLT, Int.reduceNeg, Nat.reduceLeDiff, wipeE, BIG, Ob.data, cellD, rowD, c1, kl_r _ _ _ (show (S ++ [b, Ob.lst (rows.map rowD), Ob.lst (src.map cellD)])[S.length + 2]? = some (Ob.lst (src.map cellD)) by simp only [EV0, EV1, EV2, EV3, EV4, EV5, EV6, Nat.reduceLT, entry, List.replicate, asg, setAll, reduceIte, Nat.reduceSub, Nat.reduceAdd, Int.reduceMul, Int.reduceAdd, Int.reduceLT, Int.reduceNeg, Nat.reduceLeDiff, wipeE, BIG, Ob.data, cellD, rowD])]
        by_cases c2 : (src.length : Int) < 6
        · simp only [EV0, EV1, EV2, EV3, EV4, EV5, EV6, Nat.reduceLT, entry, List.replicate, asg, setAll, reduceIte, Nat.reduceSub, Nat.reduceAdd, Int.reduceMul, Int.reduceAdd, Int.reduceLT, Int.reduceNeg, Nat.reduceLeDiff, wipeE, BIG, Ob.data, cellD, rowD, c2]
          refine wp_imp (draw0 H _ b 4 S _ hB (by omega)) ?_
          rintro v S' ⟨z, rfl, hz, b, hB, rfl⟩
          simp only [EV0, EV1, EV2, EV3, EV4, EV5, EV6, Nat.reduceLT, entry, List.replicate, asg, setAll, reduceIte, Nat.reduceSub, Nat.reduceAdd, Int.reduceMul, Int.reduceAdd, Int.reduceLT, Int.reduceNeg, Nat.reduceLeDiff, wipeE, BIG, Ob.data, cellD, rowD]
          cases c3 : ((z : Int) == 0) with
          | false =>
            simp only [cont_cons, cont_nil, EV0, EV1, EV2, EV3, EV4, EV5, EV6, Nat.reduceLT, entry, List.replicate, asg, setAll, reduceIte, Nat.reduceSub, Nat.reduceAdd, Int.reduceMul, Int.reduceAdd, Int.reduceLT, Int.reduceNeg, Nat.reduceLeDiff, wipeE, BIG, Ob.data, cellD, rowD]
            exact ⟨_, b, src, hB, rfl, rfl, hsn, hs1, hs6, fun x hx => (hsd x hx).imp id fun q => List.mem_append_left _ q⟩
          | true =>
            simp only [cont_cons, cont_nil, EV0, EV1, EV2, EV3, EV4, EV5, EV6, Nat.reduceLT, entry, List.replicate, asg, setAll, reduceIte, Nat.reduceSub, Nat.reduceAdd, Int.reduceMul, Int.reduceAdd, Int.reduceLT, Int.reduceNeg, Nat.reduceLeDiff, wipeE, BIG, Ob.data, cellD, rowD, isl_r _ _ _ (show (S ++ [b, Ob.lst (rows.map rowD), Ob.lst (src.map cellD)])[S.length + 2]? = some (Ob.lst (src.map cellD)) by simp only [EV0, EV1, EV2, EV3, EV4, EV5, EV6, Nat.reduceLT, entry, List.replicate, asg, setAll, reduceIte, Nat.reduceSub, Nat.reduceAdd, Int.reduceMul, Int.reduceAdd, Int.reduceLT, Int.reduceNeg, Nat.reduceLeDiff, wipeE, BIG, Ob.data, cellD, rowD]), push_r _ _ _ (D.tup [D.int c.1, D.int c.2]) (show (S ++ [b, Ob.lst (rows.map rowD), Ob.lst (src.map cellD)])[S.length + 2]? = some (Ob.lst (src.map cellD)) by simp only [EV0, EV1, EV2, EV3, EV4, EV5, EV6, Nat.reduceLT, entry, List.replicate, asg, setAll, reduceIte, Nat.reduceSub, Nat.reduceAdd, Int.reduceMul, Int.reduceAdd, Int.reduceLT, Int.reduceNeg, Nat.reduceLeDiff, wipeE, BIG, Ob.data, cellD, rowD]), show src.length < 1000000 by omega]
            refine ⟨_, b, src ++ [c], hB, by simp [cellD], rfl, ?_, by simp, by simp; omega, fun x hx => ?_⟩
            · rw [List.nodup_append]
              refine ⟨hsn, by simp, ?_⟩
              intro x hx y hy e
              rw [List.mem_singleton] at hy
              subst hy
              subst e
              rcases hsd x hx with q | q
              · exact c1 q
              · exact hcd q
            · rcases List.mem_append.mp hx with q | q
              · exact (hsd x q).imp id fun q => List.mem_append_left _ q
              · exact .inr (List.mem_append_right _ q)
        · simp only [EV0, EV1, EV2, EV3, EV4, EV5, EV6, Nat.reduceLT, entry, List.replicate, asg, setAll, reduceIte, Nat.reduceSub, Nat.reduceAdd, Int.reduceMul, Int.reduceAdd, Int.reduceLT, Int.reduceNeg, Nat.reduceLeDiff, wipeE, BIG, Ob.data, cellD, rowD, c2]
          exact ⟨_, b, src, hB, rfl, rfl, hsn, hs1, hs6, fun x hx => (hsd x hx).imp id fun q => List.mem_append_left _ q⟩
    · rintro ρ S' ⟨x12, b, src, hB, rfl, rfl, hsn, hs1, hs6, hsd⟩
      have hp := srtBy_perm cellLe src
      simp only [cont_cons, cont_nil, EV0, EV1, EV2, EV3, EV4, EV5, EV6, Nat.reduceLT, entry, List.replicate, asg, setAll, reduceIte, Nat.reduceSub, Nat.reduceAdd, Int.reduceMul, Int.reduceAdd, Int.reduceLT, Int.reduceNeg, Nat.reduceLeDiff, wipeE, BIG, Ob.data, cellD, rowD]
      refine ⟨rows, sortBy cellLe src, ⟨by omega, by omega, by omega, by omega, R.rc, fun r hr => (hmem r hr).2, by rw [hp.length_eq]; exact hs1, by rw [hp.length_eq]; exact hs6, sort_asc hsn, fun c hc => ?_⟩, by omega, by omega, rfl⟩
      rcases hsd c (hp.mem_iff.mp hc) with q | q
      · rw [q]; exact hw0
      · exact (mem_waters R).mp q
end
end M
-- MC6.lean
set_option Elab.async false
set_option linter.all false
set_option maxRecDepth 100000
set_option maxHeartbeats 4000000
set_option autoImplicit false
/-! MC6: a chart's parts are changed -/
namespace M
open PySem SW
section
variable {tbl : Nat → Option Fn} (H : Tb tbl)
include H
end
end M
-- LK00.lean
set_option Elab.async false
set_option linter.all false
set_option maxRecDepth 100000
set_option maxHeartbeats 4000000
set_option autoImplicit false
/-! the law k00 -/
namespace M
open PySem SW
section
variable {tbl : Nat → Option Fn} (H : Tb tbl)
include H
theorem same_refl (n : Nat) (x : D) (h : plD n x = true) (k : Nat) (S : Store) : callF tbl (k + n + 2) 11 [.d x, .d x] S = .ok (.d (.bl true)) S := eq_of_wp (l_same_refl H n x h k S)
/-- a chart is made, or refused -/
theorem mk_chart (k : Nat) (rows : Rows) (src : List Cell) (S : Store) (hl : rows.length ≤ 900) (hw : ∀ r ∈ rows, r.length ≤ 900) (hs : src.length ≤ 900) : Wp ((callF tbl (k + 3) 2 [.r S.length, .d (.tup (rows.map rowD)), .d (.tup (src.map cellD))] (S ++ [.ins 0 []])).bind (kMk 0 S.length)) (fun v S' => goodB rows src = true ∧ v = .d (chD rows src) ∧ ∃ ob, S' = S ++ [ob]) (fun c p S' => goodB rows src = false ∧ c = 11 ∧ p = [] ∧ ∃ ob, S' = S ++ [ob]) := by
  rw [wp_bind]
  refine (chart_init_ok H k rows src S hl hw hs).mono ?_ fun _ _ _ z => z
  rintro v S' ⟨hg, rfl, rfl⟩
  rw [kmk_0 (get_ap0 _ _), wp_ok]
  exact ⟨hg, rfl, _, by rw [set_ap0]; rfl⟩
end
end M
-- MC7.lean
set_option Elab.async false
set_option linter.all false
set_option maxRecDepth 100000
set_option maxHeartbeats 4000000
set_option autoImplicit false
/-! MC7: events -/
namespace SW
open PySem
end SW
namespace M
open PySem SW
section
variable {tbl : Nat → Option Fn} (H : Tb tbl)
include H
theorem is_asc_lst (k : Nat) (cs : List Cell) (S : Store) (hl : cs.length < 1000) : callF tbl (k + 1) 0 [.d (.lst (cs.map cellD))] S = .ok (.d (.bl (ascB cs))) S := by
  apply eq_of_wp
  rw [wp_def H.t_is_ascending rfl]
  unfold d_is_ascending
  simp only [cont_cons, cont_nil, EV0, EV1, EV2, EV3, EV4, EV5, EV6, Nat.reduceLT, entry, List.replicate, asg, setAll, reduceIte, Nat.reduceSub, Nat.reduceAdd, Int.reduceMul, Int.reduceAdd, Int.reduceLT, Int.reduceNeg, Nat.reduceLeDiff, wipeE, BIG, Ob.data, cellD, rowD]
  refine wg_all (fun (i : Nat) => D.int (i : Int)) (List.range (cs.length - 1)) (fun i => cellLt (cs.getD i (0, 0)) (cs.getD (i + 1) (0, 0))) ?_ ?_ ?_
  · have e1 : ((cs.length : Int) - 1).toNat = cs.length - 1 := by omega
    simp only [EV0, EV1, EV2, EV3, EV4, EV5, EV6, Nat.reduceLT, entry, List.replicate, asg, setAll, reduceIte, Nat.reduceSub, Nat.reduceAdd, Int.reduceMul, Int.reduceAdd, Int.reduceLT, Int.reduceNeg, Nat.reduceLeDiff, wipeE, BIG, Ob.data, cellD, rowD, e1]
    rw [if_pos]
    unfold okI
    exact decide_eq_true (by omega)
  · intro i hi
    rw [List.mem_range] at hi
    have e2 : ((i : Int) + 1) = ((i + 1 : Nat) : Int) := by omega
    have h1 : (cs.map cellD)[i]? = some (cellD (cs.getD i (0, 0))) := by rw [List.getElem?_map, List.getElem?_eq_getElem (by omega), getD_lt _ (by omega)]; rfl
    have h2 : (cs.map cellD)[i + 1]? = some (cellD (cs.getD (i + 1) (0, 0))) := by rw [List.getElem?_map, List.getElem?_eq_getElem (by omega), getD_lt _ (by omega)]; rfl
    refine ⟨_, rfl, ?_⟩
    simp only [EV0, EV1, EV2, EV3, EV4, EV5, EV6, Nat.reduceLT, entry, List.replicate, asg, setAll, reduceIte, Nat.reduceSub, Nat.reduceAdd, Int.reduceMul, Int.reduceAdd, Int.reduceLT, Int.reduceNeg, Nat.reduceLeDiff, wipeE, BIG, Ob.data, cellD, rowD, e2, h1, h2]
  · simp only [EV0, EV1, EV2, EV3, EV4, EV5, EV6, Nat.reduceLT, entry, List.replicate, asg, setAll, reduceIte, Nat.reduceSub, Nat.reduceAdd, Int.reduceMul, Int.reduceAdd, Int.reduceLT, Int.reduceNeg, Nat.reduceLeDiff, wipeE, BIG, Ob.data, cellD, rowD]
    rfl
end
end M
-- LK03.lean
set_option Elab.async false
set_option linter.all false
set_option maxRecDepth 100000
set_option maxHeartbeats 4000000
set_option autoImplicit false
/-! the law k03 -/
namespace M
open PySem SW
section
variable {tbl : Nat → Option Fn} (H : Tb tbl)
include H
/-- a chart of right parts is made -/
theorem mk_good (k : Nat) {rows : Rows} {src : List Cell} (S : Store) (O : Ok rows src) : Wp ((callF tbl (k + 3) 2 [.r S.length, .d (.tup (rows.map rowD)), .d (.tup (src.map cellD))] (S ++ [.ins 0 []])).bind (kMk 0 S.length)) (fun v S' => v = .d (chD rows src) ∧ ∃ ob, S' = S ++ [ob]) noX := by
  have hg := (goodB_iff rows src).mpr O
  refine (mk_chart H k rows src S (by have := O.h7; omega) (fun r hr => by have := O.rc r hr; have := O.w7; omega) (by have := O.s6; omega)).mono ?_ ?_
  · rintro v S' ⟨-, h⟩
    exact h
  · rintro c p S' ⟨h, -⟩
    rw [hg] at h
    cases h
end
end M
-- LK02.lean
set_option Elab.async false
set_option linter.all false
set_option maxRecDepth 100000
set_option maxHeartbeats 4000000
set_option autoImplicit false
/-! the law k02 -/
namespace SW
open PySem
end SW
namespace M
open PySem SW
section
variable {tbl : Nat → Option Fn} (H : Tb tbl)
include H
end
end M
-- MC8.lean
set_option Elab.async false
set_option linter.all false
set_option maxRecDepth 100000
set_option maxHeartbeats 4000000
set_option autoImplicit false
/-! MC8: cells, neighbours, high ground -/
namespace SW
open PySem
def cellsL (rows : Rows) : List Cell := (List.range rows.length).flatMap fun (i : Nat) => (List.range (wid rows)).map fun (j : Nat) => ((i : Int), (j : Int))
def near4 (a b : Int) : List Cell := [(a - 1, b), (a, b - 1), (a, b + 1), (a + 1, b)]
def nearL (rows : Rows) (c : Cell) : List Cell := (near4 c.1 c.2).filter (inb rows)
theorem mem_cells {rows : Rows} {c : Cell} : c ∈ cellsL rows ↔ inb rows c = true := by
  unfold cellsL
  rw [inb_iff]
  simp only [List.mem_flatMap, List.mem_map, List.mem_range]
  constructor
  · rintro ⟨i, hi, j, hj, rfl⟩
    exact ⟨i, j, rfl, hi, hj⟩
  · rintro ⟨i, j, rfl, hi, hj⟩
    exact ⟨i, hi, j, hj, rfl⟩
theorem cells_len {rows : Rows} (h : rows.length ≤ 7) (w : wid rows ≤ 7) : (cellsL rows).length ≤ 49 := by
  have := flat_len (fun i : Nat => (List.range (wid rows)).map fun j : Nat => ((i : Int), (j : Int))) 7 (List.range rows.length) fun i _ => by rw [List.length_map, List.length_range]; exact w
  rw [List.length_range] at this
  unfold cellsL
  omega
end SW
namespace M
open PySem SW
section
variable {tbl : Nat → Option Fn} (H : Tb tbl)
include H
end
end M
-- LK01.lean
set_option Elab.async false
set_option linter.all false
set_option maxRecDepth 100000
set_option maxHeartbeats 4000000
set_option autoImplicit false
/-! the law k01 -/
namespace SW
open PySem
end SW
namespace M
open PySem SW
section
variable {tbl : Nat → Option Fn} (H : Tb tbl)
include H
end
end M
-- MW.lean
set_option Elab.async false
set_option linter.all false
set_option maxRecDepth 100000
set_option maxHeartbeats 4000000
set_option autoImplicit false
/-! MW: least values that are reached by steps (plain) -/
namespace SW
open PySem
section
variable (step : Cell → Int → Cell → Int → Prop) (st : Cell → Int → Prop)
inductive Rch : Cell → Int → Prop
  | base {c : Cell} {a : Int} (h : st c a) : Rch c a
  | next {u v : Cell} {a b : Int} (h : Rch u a) (s : step u a v b) : Rch v b
open Classical in
end
section
variable {step : Cell → Int → Cell → Int → Prop} {st : Cell → Int → Prop} {L : Int}
def Sound (step : Cell → Int → Cell → Int → Prop) (st : Cell → Int → Prop) (f : Cell → Option Int) : Prop := ∀ c a, f c = some a → Rch step st c a
def Below (f f' : Cell → Option Int) : Prop := ∀ c a, f c = some a → ∃ b, f' c = some b ∧ b ≤ a
theorem Below.refl (f : Cell → Option Int) : Below f f := fun _ a h => ⟨a, h, Int.le_refl _⟩
theorem Below.trans {f g h : Cell → Option Int} (p : Below f g) (q : Below g h) : Below f h := fun c a e => by
  obtain ⟨b, e1, l1⟩ := p c a e
  obtain ⟨d, e2, l2⟩ := q c b e1
  exact ⟨d, e2, Int.le_trans l2 l1⟩
end
end SW
-- MC9.lean
set_option Elab.async false
set_option linter.all false
set_option maxRecDepth 100000
set_option maxHeartbeats 4000000
set_option autoImplicit false
/-! MC9: waves -/
namespace SW
open PySem
def minsI (s : Nat) : Int := if isW s = true then (s : Int) - 48 else if isL s = true then (s : Int) - 96 else 1
theorem memW2 (c : Nat) : (c ∈ [49, 50, 51, 52, 53, 54, 55, 56, 57]) = (isW c = true) := propext ⟨fun h => decide_eq_true h, fun h => of_decide_eq_true h⟩
end SW
namespace M
open PySem SW
section
variable {tbl : Nat → Option Fn} (H : Tb tbl)
include H
end
end M
-- MV.lean
set_option Elab.async false
set_option linter.all false
set_option maxRecDepth 100000
set_option maxHeartbeats 4000000
set_option autoImplicit false
/-! MV: waves (plain) -/
namespace SW
open PySem
def stepW (rows : Rows) (u : Cell) (a : Int) (v : Cell) (b : Int) : Prop := v ∈ nearL rows u ∧ isW (sgn rows v) = true ∧ b = a + (minsI (sgn rows u) + minsI (sgn rows v))
def stM (m : List (Cell × Int)) (c : Cell) (a : Int) : Prop := gook m c = some a
theorem sub_len {α : Type} [DecidableEq α] : ∀ (l cs : List α), l.Nodup → (∀ a ∈ l, a ∈ cs) → l.length ≤ cs.length
  | [], _, _, _ => Nat.zero_le _
  | x :: r, cs, hn, hs => by
    have hx := hs x List.mem_cons_self
    have hn2 := List.nodup_cons.mp hn
    have := sub_len r (cs.erase x) hn2.2 fun a ha => by
      have hne : a ≠ x := fun e => hn2.1 (e ▸ ha)
      exact (List.mem_erase_of_ne hne).mpr (hs a (List.mem_cons_of_mem _ ha))
    rw [List.length_erase_of_mem hx] at this
    have h0 : 0 < cs.length := List.length_pos_of_mem hx
    rw [List.length_cons]
    omega
/-- what holds of the times that are found -/
structure WInv (rows : Rows) (m0 m : List (Cell × Int)) : Prop where
  nd : (m.map (·.1)).Nodup
  ib : ∀ kv ∈ m, inb rows kv.1 = true
  sd : Sound (stepW rows) (stM m0) (gook m)
  bl : Below (gook m0) (gook m)
  bd : ∀ kv ∈ m, 0 ≤ kv.2 ∧ kv.2 ≤ 10000 + 18 * (m.length : Int)
theorem WInv.len {rows : Rows} {src : List Cell} {m0 m : List (Cell × Int)} (O : Ok rows src) (h : WInv rows m0 m) : m.length ≤ 49 := by
  have h1 := sub_len (m.map (·.1)) (cellsL rows) h.nd fun a ha => by
    obtain ⟨kv, q, rfl⟩ := List.mem_map.mp ha
    exact mem_cells.mpr (h.ib kv q)
  rw [List.length_map] at h1
  exact Nat.le_trans h1 (cells_len O.h7 O.w7)
/-! ### hashes -/
end SW
-- MVa.lean
set_option Elab.async false
set_option linter.all false
set_option maxRecDepth 100000
set_option maxHeartbeats 4000000
set_option autoImplicit false
/-! MVa: spread -/
namespace M
open PySem SW
section
variable {tbl : Nat → Option Fn} (H : Tb tbl)
include H
end
end M
-- MVb.lean
set_option Elab.async false
set_option linter.all false
set_option maxRecDepth 100000
set_option maxHeartbeats 4000000
set_option autoImplicit false
/-! MVb: wave times; the law's own waves -/
namespace SW
open PySem
end SW
namespace M
open PySem SW
section
variable {tbl : Nat → Option Fn} (H : Tb tbl)
include H
end
end M
-- MVc.lean
set_option Elab.async false
set_option linter.all false
set_option maxRecDepth 100000
set_option maxHeartbeats 4000000
set_option autoImplicit false
/-! MVc: the law's own waves -/
namespace SW
open PySem
end SW
namespace M
open PySem SW
section
variable {tbl : Nat → Option Fn} (H : Tb tbl)
include H
end
end M
-- MVd.lean
set_option Elab.async false
set_option linter.all false
set_option maxRecDepth 100000
set_option maxHeartbeats 4000000
set_option autoImplicit false
/-! MVd: the law's own waves, by rounds -/
namespace SW
open PySem
end SW
namespace M
open PySem SW
section
variable {tbl : Nat → Option Fn} (H : Tb tbl)
include H
end
end M
-- MVe.lean
set_option Elab.async false
set_option linter.all false
set_option maxRecDepth 100000
set_option maxHeartbeats 4000000
set_option autoImplicit false
/-! MVe: the later laws' charts -/
namespace SW
open PySem
end SW
namespace M
open PySem SW
section
variable {tbl : Nat → Option Fn} (H : Tb tbl)
include H
end
end M
-- MC10.lean
set_option Elab.async false
set_option linter.all false
set_option maxRecDepth 100000
set_option maxHeartbeats 4000000
set_option autoImplicit false
/-! MC10: readings -/
namespace SW
open PySem
def rdD (p : Cell × Option Int) : D := .tup [cellD p.1, optD p.2]
def timeB (clock : Int) : Option Int → Bool
  | none => true
  | some t => decide (0 ≤ t) && decide (t ≤ clock)
def rdB (rows : Rows) (rs : List (Cell × Option Int)) (clock : Int) : Bool := decide (0 ≤ clock) && (decide (clock ≤ 90000) && (ascB (rs.map (·.1)) && (rs.all (fun p => inb rows p.1 && isW (sgn rows p.1)) && rs.all fun p => timeB clock p.2)))
theorem kisn_int (n : Bool) (t : Int) (S : Store) : kIsN n (.d (.int t)) S = .ok (.d (.bl n)) S := by cases n <;> exact Eq.trans rfl rfl
section
variable {rows : Rows} {rs : List (Cell × Option Int)} {clock : Int}
theorem rdB_c1 (h : clock < 0) : rdB rows rs clock = false := by
  unfold rdB
  rw [decide_eq_false (by omega)]
  rfl
theorem rdB_c2 (h : 90000 < clock) : rdB rows rs clock = false := by
  unfold rdB
  rw [decide_eq_false (p := clock ≤ 90000) (by omega)]
  simp
theorem rdB_f1 {p : Cell × Option Int} (hp : p ∈ rs) (h : (inb rows p.1 && isW (sgn rows p.1)) = false) : rdB rows rs clock = false := by
  have : rs.all (fun p => inb rows p.1 && isW (sgn rows p.1)) = false := by
    rw [List.all_eq_false]
    exact ⟨p, hp, by rw [h]; decide⟩
  unfold rdB
  rw [this]
  simp
theorem rdB_f3 {p : Cell × Option Int} (hp : p ∈ rs) (h : timeB clock p.2 = false) : rdB rows rs clock = false := by
  have : rs.all (fun p => timeB clock p.2) = false := by
    rw [List.all_eq_false]
    exact ⟨p, hp, by rw [h]; decide⟩
  unfold rdB
  rw [this]
  simp
theorem rdB_f2 {i : Nat} (hi : i + 1 < rs.length) (h : cellLt (rs[i]'(by omega)).1 rs[i + 1].1 = false) : rdB rows rs clock = false := by
  have : ascB (rs.map (·.1)) = false := by
    unfold ascB
    rw [List.all_eq_false]
    refine ⟨i, by rw [List.mem_range, List.length_map]; omega, ?_⟩
    rw [getD_lt _ (by rw [List.length_map]; omega), getD_lt _ (by rw [List.length_map]; exact hi), List.getElem_map, List.getElem_map, h]
    simp
  unfold rdB
  rw [this]
  simp
theorem rdB_t (h1 : ¬ clock < 0) (h2 : ¬ 90000 < clock) (h3 : ∀ i (h : i + 1 < rs.length), cellLt (rs[i]'(by omega)).1 rs[i + 1].1 = true) (h4 : ∀ p ∈ rs, inb rows p.1 = true ∧ isW (sgn rows p.1) = true ∧ timeB clock p.2 = true) : rdB rows rs clock = true := by
  unfold rdB
  rw [decide_eq_true (show 0 ≤ clock by omega), decide_eq_true (show clock ≤ 90000 by omega), Bool.true_and, Bool.true_and, Bool.and_eq_true, Bool.and_eq_true]
  refine ⟨?_, ?_, ?_⟩
  · unfold ascB
    rw [List.all_eq_true]
    intro m hm
    rw [List.mem_range, List.length_map] at hm
    rw [getD_lt _ (by rw [List.length_map]; omega), getD_lt _ (by rw [List.length_map]; omega), List.getElem_map, List.getElem_map]
    exact h3 m (by omega)
  · rw [List.all_eq_true]
    intro p hp
    rw [(h4 p hp).1, (h4 p hp).2.1]
    rfl
  · rw [List.all_eq_true]
    intro p hp
    exact (h4 p hp).2.2
end
end SW
namespace M
open PySem SW
section
variable {tbl : Nat → Option Fn} (H : Tb tbl)
include H
theorem check_readings_ok (k : Nat) {rows : Rows} {src : List Cell} (R : Rc rows) (rs : List (Cell × Option Int)) (clock : Int) (S : Store) (hl : rs.length ≤ 900) : Wp (callF tbl (k + 3) 38 [.d (chD rows src), .d (.tup (rs.map rdD)), .d (.int clock)] S) (fun v S' => rdB rows rs clock = true ∧ v = .d .non ∧ S' = S) (fun c p S' => rdB rows rs clock = false ∧ c = 14 ∧ p = [] ∧ S' = S) := by
  rw [wp_def H.t_check_readings rfl]
  unfold d_check_readings
  rw [cont_cons]
  simp only [EV0, EV1, EV2, EV3, EV4, EV5, EV6, Nat.reduceLT, entry, List.replicate, asg, setAll, reduceIte, Nat.reduceSub, Nat.reduceAdd, Int.reduceMul, Int.reduceAdd, Int.reduceLT, Int.reduceNeg, Nat.reduceLeDiff, wipeE, BIG, Ob.data, cellD, rowD, Sec]
  by_cases c1 : clock < 0
  · simp only [cont_cons, cont_nil, EV0, EV1, EV2, EV3, EV4, EV5, EV6, Nat.reduceLT, entry, List.replicate, asg, setAll, reduceIte, Nat.reduceSub, Nat.reduceAdd, Int.reduceMul, Int.reduceAdd, Int.reduceLT, Int.reduceNeg, Nat.reduceLeDiff, wipeE, BIG, Ob.data, cellD, rowD, c1]
    exact rdB_c1 c1
  by_cases c2 : (90000 : Int) < clock
  · simp only [cont_cons, cont_nil, EV0, EV1, EV2, EV3, EV4, EV5, EV6, Nat.reduceLT, entry, List.replicate, asg, setAll, reduceIte, Nat.reduceSub, Nat.reduceAdd, Int.reduceMul, Int.reduceAdd, Int.reduceLT, Int.reduceNeg, Nat.reduceLeDiff, wipeE, BIG, Ob.data, cellD, rowD, c1, c2]
    exact rdB_c2 c2
  simp only [cont_cons, cont_nil, EV0, EV1, EV2, EV3, EV4, EV5, EV6, Nat.reduceLT, entry, List.replicate, asg, setAll, reduceIte, Nat.reduceSub, Nat.reduceAdd, Int.reduceMul, Int.reduceAdd, Int.reduceLT, Int.reduceNeg, Nat.reduceLeDiff, wipeE, BIG, Ob.data, cellD, rowD, c1, c2]
  refine wl_map rdD rs (fun p => cellD p.1) (by simp only [EV0, EV1, EV2, EV3, EV4, EV5, EV6, Nat.reduceLT, entry, List.replicate, asg, setAll, reduceIte, Nat.reduceSub, Nat.reduceAdd, Int.reduceMul, Int.reduceAdd, Int.reduceLT, Int.reduceNeg, Nat.reduceLeDiff, wipeE, BIG, Ob.data, cellD, rowD]) (by show rs.length < 1000000; omega) ?_ ?_
  · intro p hp
    refine ⟨_, rfl, fun ys => ?_⟩
    simp only [EV0, EV1, EV2, EV3, EV4, EV5, EV6, Nat.reduceLT, entry, List.replicate, asg, setAll, reduceIte, Nat.reduceSub, Nat.reduceAdd, Int.reduceMul, Int.reduceAdd, Int.reduceLT, Int.reduceNeg, Nat.reduceLeDiff, wipeE, BIG, Ob.data, cellD, rowD]
  · have em : (rs.map fun p => cellD p.1) = (rs.map (·.1)).map cellD := by rw [List.map_map]; rfl
    rw [em]
    simp only [cont_cons, cont_nil, EV0, EV1, EV2, EV3, EV4, EV5, EV6, Nat.reduceLT, entry, List.replicate, asg, setAll, reduceIte, Nat.reduceSub, Nat.reduceAdd, Int.reduceMul, Int.reduceAdd, Int.reduceLT, Int.reduceNeg, Nat.reduceLeDiff, wipeE, BIG, Ob.data, cellD, rowD, Sec, is_asc_lst H (k + 1) (rs.map (·.1)) S (by rw [List.length_map]; omega)]
    have e0 : rdB rows rs clock = (ascB (rs.map (·.1)) && (rs.all (fun p => inb rows p.1 && isW (sgn rows p.1)) && rs.all fun p => timeB clock p.2)) := by
      unfold rdB
      rw [decide_eq_true (show 0 ≤ clock by omega), decide_eq_true (show clock ≤ 90000 by omega), Bool.true_and, Bool.true_and]
    rw [e0]
    cases e2 : ascB (rs.map (·.1)) with
    | false => simp only [EV0, EV1, EV2, EV3, EV4, EV5, EV6, Nat.reduceLT, entry, List.replicate, asg, setAll, reduceIte, Nat.reduceSub, Nat.reduceAdd, Int.reduceMul, Int.reduceAdd, Int.reduceLT, Int.reduceNeg, Nat.reduceLeDiff, wipeE, BIG, Ob.data, cellD, rowD]
    | true =>
      simp only [EV0, EV1, EV2, EV3, EV4, EV5, EV6, Nat.reduceLT, entry, List.replicate, asg, setAll, reduceIte, Nat.reduceSub, Nat.reduceAdd, Int.reduceMul, Int.reduceAdd, Int.reduceLT, Int.reduceNeg, Nat.reduceLeDiff, wipeE, BIG, Ob.data, cellD, rowD]
      refine wg_all cellD (rs.map (·.1)) (fun c => inb rows c && isW (sgn rows c)) (by simp only [EV0, EV1, EV2, EV3, EV4, EV5, EV6, Nat.reduceLT, entry, List.replicate, asg, setAll, reduceIte, Nat.reduceSub, Nat.reduceAdd, Int.reduceMul, Int.reduceAdd, Int.reduceLT, Int.reduceNeg, Nat.reduceLeDiff, wipeE, BIG, Ob.data, cellD, rowD]) ?_ ?_
      · intro c hc
        refine ⟨_, rfl, ?_⟩
        simp only [EV0, EV1, EV2, EV3, EV4, EV5, EV6, Nat.reduceLT, entry, List.replicate, asg, setAll, reduceIte, Nat.reduceSub, Nat.reduceAdd, Int.reduceMul, Int.reduceAdd, Int.reduceLT, Int.reduceNeg, Nat.reduceLeDiff, wipeE, BIG, Ob.data, cellD, rowD, Sec, is_cell_eq H _ src _ R.le]
        cases e3 : inb rows (c.1, c.2) with
        | false =>
          have : inb rows c = false := e3
          simp only [EV0, EV1, EV2, EV3, EV4, EV5, EV6, Nat.reduceLT, entry, List.replicate, asg, setAll, reduceIte, Nat.reduceSub, Nat.reduceAdd, Int.reduceMul, Int.reduceAdd, Int.reduceLT, Int.reduceNeg, Nat.reduceLeDiff, wipeE, BIG, Ob.data, cellD, rowD, this]
        | true =>
          have : inb rows c = true := e3
          simp only [EV0, EV1, EV2, EV3, EV4, EV5, EV6, Nat.reduceLT, entry, List.replicate, asg, setAll, reduceIte, Nat.reduceSub, Nat.reduceAdd, Int.reduceMul, Int.reduceAdd, Int.reduceLT, Int.reduceNeg, Nat.reduceLeDiff, wipeE, BIG, Ob.data, cellD, rowD, this, is_water_eq H _ src _ R e3]
          try rfl
      · rw [List.all_map]
        simp only [EV0, EV1, EV2, EV3, EV4, EV5, EV6, Nat.reduceLT, entry, List.replicate, asg, setAll, reduceIte, Nat.reduceSub, Nat.reduceAdd, Int.reduceMul, Int.reduceAdd, Int.reduceLT, Int.reduceNeg, Nat.reduceLeDiff, wipeE, BIG, Ob.data, cellD, rowD]
        cases e3 : rs.all ((fun c => inb rows c && isW (sgn rows c)) ∘ (·.1)) with
        | false =>
          have e3' : rs.all (fun p => inb rows p.1 && isW (sgn rows p.1)) = false := e3
          simp only [EV0, EV1, EV2, EV3, EV4, EV5, EV6, Nat.reduceLT, entry, List.replicate, asg, setAll, reduceIte, Nat.reduceSub, Nat.reduceAdd, Int.reduceMul, Int.reduceAdd, Int.reduceLT, Int.reduceNeg, Nat.reduceLeDiff, wipeE, BIG, Ob.data, cellD, rowD, e3']
        | true =>
          have e3' : rs.all (fun p => inb rows p.1 && isW (sgn rows p.1)) = true := e3
          simp only [EV0, EV1, EV2, EV3, EV4, EV5, EV6, Nat.reduceLT, entry, List.replicate, asg, setAll, reduceIte, Nat.reduceSub, Nat.reduceAdd, Int.reduceMul, Int.reduceAdd, Int.reduceLT, Int.reduceNeg, Nat.reduceLeDiff, wipeE, BIG, Ob.data, cellD, rowD, e3']
          refine wg_all rdD rs (fun p => timeB clock p.2) (by simp only [EV0, EV1, EV2, EV3, EV4, EV5, EV6, Nat.reduceLT, entry, List.replicate, asg, setAll, reduceIte, Nat.reduceSub, Nat.reduceAdd, Int.reduceMul, Int.reduceAdd, Int.reduceLT, Int.reduceNeg, Nat.reduceLeDiff, wipeE, BIG, Ob.data, cellD, rowD]) ?_ ?_
          · intro p hp
            refine ⟨_, rfl, ?_⟩
            obtain ⟨c, o⟩ := p
            cases o with
            | none =>
              simp only [EV0, EV1, EV2, EV3, EV4, EV5, EV6, Nat.reduceLT, entry, List.replicate, asg, setAll, reduceIte, Nat.reduceSub, Nat.reduceAdd, Int.reduceMul, Int.reduceAdd, Int.reduceLT, Int.reduceNeg, Nat.reduceLeDiff, wipeE, BIG, Ob.data, cellD, rowD, Sec, optD, timeB]
            | some t =>
              simp only [EV0, EV1, EV2, EV3, EV4, EV5, EV6, Nat.reduceLT, entry, List.replicate, asg, setAll, reduceIte, Nat.reduceSub, Nat.reduceAdd, Int.reduceMul, Int.reduceAdd, Int.reduceLT, Int.reduceNeg, Nat.reduceLeDiff, wipeE, BIG, Ob.data, cellD, rowD, Sec, optD, timeB, kisn_int]
              by_cases h : 0 ≤ t <;> simp [h]
          · simp only [EV0, EV1, EV2, EV3, EV4, EV5, EV6, Nat.reduceLT, entry, List.replicate, asg, setAll, reduceIte, Nat.reduceSub, Nat.reduceAdd, Int.reduceMul, Int.reduceAdd, Int.reduceLT, Int.reduceNeg, Nat.reduceLeDiff, wipeE, BIG, Ob.data, cellD, rowD]
            cases e4 : rs.all fun p => timeB clock p.2 with
            | false => simp only [EV0, EV1, EV2, EV3, EV4, EV5, EV6, Nat.reduceLT, entry, List.replicate, asg, setAll, reduceIte, Nat.reduceSub, Nat.reduceAdd, Int.reduceMul, Int.reduceAdd, Int.reduceLT, Int.reduceNeg, Nat.reduceLeDiff, wipeE, BIG, Ob.data, cellD, rowD]
            | true => simp only [EV0, EV1, EV2, EV3, EV4, EV5, EV6, Nat.reduceLT, entry, List.replicate, asg, setAll, reduceIte, Nat.reduceSub, Nat.reduceAdd, Int.reduceMul, Int.reduceAdd, Int.reduceLT, Int.reduceNeg, Nat.reduceLeDiff, wipeE, BIG, Ob.data, cellD, rowD]
theorem l_are_readings2_eq (k : Nat) {rows : Rows} {src : List Cell} (R : Rc rows) (rs : List (Cell × Option Int)) (clock : Int) (S : Store) (hl : rs.length ≤ 900) : callF tbl (k + 2) 63 [.d (.tup [.tup (rows.map rowD), .tup (src.map cellD)]), .d (.tup (rs.map rdD)), .d (.int clock)] S = .ok (.d (.bl (rdB rows rs clock))) S := by
  apply eq_of_wp
  rw [wp_def H.t_l_are_readings2 rfl]
  unfold d_l_are_readings2
  rw [cont_cons]
  simp only [EV0, EV1, EV2, EV3, EV4, EV5, EV6, Nat.reduceLT, entry, List.replicate, asg, setAll, reduceIte, Nat.reduceSub, Nat.reduceAdd, Int.reduceMul, Int.reduceAdd, Int.reduceLT, Int.reduceNeg, Nat.reduceLeDiff, wipeE, BIG, Ob.data, cellD, rowD, Sec]
  by_cases c1 : clock < 0
  · simp only [cont_cons, cont_nil, EV0, EV1, EV2, EV3, EV4, EV5, EV6, Nat.reduceLT, entry, List.replicate, asg, setAll, reduceIte, Nat.reduceSub, Nat.reduceAdd, Int.reduceMul, Int.reduceAdd, Int.reduceLT, Int.reduceNeg, Nat.reduceLeDiff, wipeE, BIG, Ob.data, cellD, rowD, c1, rdB_c1 (rows := rows) (rs := rs) c1]
  by_cases c2 : (90000 : Int) < clock
  · simp only [cont_cons, cont_nil, EV0, EV1, EV2, EV3, EV4, EV5, EV6, Nat.reduceLT, entry, List.replicate, asg, setAll, reduceIte, Nat.reduceSub, Nat.reduceAdd, Int.reduceMul, Int.reduceAdd, Int.reduceLT, Int.reduceNeg, Nat.reduceLeDiff, wipeE, BIG, Ob.data, cellD, rowD, c1, c2, rdB_c2 (rows := rows) (rs := rs) c2]
  simp only [EV0, EV1, EV2, EV3, EV4, EV5, EV6, Nat.reduceLT, entry, List.replicate, asg, setAll, reduceIte, Nat.reduceSub, Nat.reduceAdd, Int.reduceMul, Int.reduceAdd, Int.reduceLT, Int.reduceNeg, Nat.reduceLeDiff, wipeE, BIG, Ob.data, cellD, rowD, c1, c2]
  rw [cont_nil, cont_cons]
  simp only [EV0, EV1, EV2, EV3, EV4, EV5, EV6, Nat.reduceLT, entry, List.replicate, asg, setAll, reduceIte, Nat.reduceSub, Nat.reduceAdd, Int.reduceMul, Int.reduceAdd, Int.reduceLT, Int.reduceNeg, Nat.reduceLeDiff, wipeE, BIG, Ob.data, cellD, rowD, okI_nat (show rs.length < 1000000 by omega)]
  refine ws_forL (fun (i : Nat) => D.int (i : Int)) (List.range rs.length) (fun done ρ S' => S' = S ∧ (∃ x3 x4 x5, ρ = [some (.d (.tup [.tup (rows.map rowD), .tup (src.map cellD)])), some (.d (.tup (rs.map rdD))), some (.d (.int clock)), x3, x4, x5]) ∧ (∀ i (h : i < rs.length), i < done.length → inb rows rs[i].1 = true ∧ isW (sgn rows rs[i].1) = true ∧ timeB clock rs[i].2 = true) ∧ ∀ i (h : i + 1 < rs.length), i + 1 < done.length → cellLt rs[i].1 rs[i + 1].1 = true) ⟨rfl, ⟨_, _, _, rfl⟩, by simp, by simp⟩ ?_ ?_
  · rintro done i tl hd ρ S' ⟨rfl, ⟨x3, x4, x5, rfl⟩, hd1, hd2⟩
    obtain ⟨-, hi, hdl⟩ := range_split hd
    refine ⟨_, rfl, ?_⟩
    have hmem := List.getElem_mem hi
    have ei : (rs.map rdD)[i]? = some (.tup [.tup [.int rs[i].1.1, .int rs[i].1.2], optD rs[i].2]) := by
      rw [List.getElem?_map, List.getElem?_eq_getElem hi]
      rfl
    rw [ws_block, cont_cons]
    simp only [EV0, EV1, EV2, EV3, EV4, EV5, EV6, Nat.reduceLT, entry, List.replicate, asg, setAll, reduceIte, Nat.reduceSub, Nat.reduceAdd, Int.reduceMul, Int.reduceAdd, Int.reduceLT, Int.reduceNeg, Nat.reduceLeDiff, wipeE, BIG, Ob.data, cellD, rowD, ei]
    rw [cont_cons]
    simp only [EV0, EV1, EV2, EV3, EV4, EV5, EV6, Nat.reduceLT, entry, List.replicate, asg, setAll, reduceIte, Nat.reduceSub, Nat.reduceAdd, Int.reduceMul, Int.reduceAdd, Int.reduceLT, Int.reduceNeg, Nat.reduceLeDiff, wipeE, BIG, Ob.data, cellD, rowD, Sec, l_is_place_eq H _ rows [.tup (src.map cellD)] _ R.le]
    cases e1 : inb rows (rs[i].1.1, rs[i].1.2) with
    | false =>
      have e1' : inb rows rs[i].1 = false := e1
      simp only [cont_cons, cont_nil, EV0, EV1, EV2, EV3, EV4, EV5, EV6, Nat.reduceLT, entry, List.replicate, asg, setAll, reduceIte, Nat.reduceSub, Nat.reduceAdd, Int.reduceMul, Int.reduceAdd, Int.reduceLT, Int.reduceNeg, Nat.reduceLeDiff, wipeE, BIG, Ob.data, cellD, rowD, rdB_f1 (clock := clock) hmem (by rw [e1']; rfl)]
    | true =>
      have e1' : inb rows rs[i].1 = true := e1
      simp only [EV0, EV1, EV2, EV3, EV4, EV5, EV6, Nat.reduceLT, entry, List.replicate, asg, setAll, reduceIte, Nat.reduceSub, Nat.reduceAdd, Int.reduceMul, Int.reduceAdd, Int.reduceLT, Int.reduceNeg, Nat.reduceLeDiff, wipeE, BIG, Ob.data, cellD, rowD, l_sign_eq H _ (rows := rows) [.tup (src.map cellD)] _ R e1, memW2]
      cases e2 : isW (sgn rows (rs[i].1.1, rs[i].1.2)) with
      | false =>
        have e2' : isW (sgn rows rs[i].1) = false := e2
        simp only [cont_cons, cont_nil, EV0, EV1, EV2, EV3, EV4, EV5, EV6, Nat.reduceLT, entry, List.replicate, asg, setAll, reduceIte, Nat.reduceSub, Nat.reduceAdd, Int.reduceMul, Int.reduceAdd, Int.reduceLT, Int.reduceNeg, Nat.reduceLeDiff, wipeE, BIG, Ob.data, cellD, rowD, rdB_f1 (clock := clock) hmem (by rw [e1', e2']; rfl)]
      | true =>
        have e2' : isW (sgn rows rs[i].1) = true := e2
        simp only [EV0, EV1, EV2, EV3, EV4, EV5, EV6, Nat.reduceLT, entry, List.replicate, asg, setAll, reduceIte, Nat.reduceSub, Nat.reduceAdd, Int.reduceMul, Int.reduceAdd, Int.reduceLT, Int.reduceNeg, Nat.reduceLeDiff, wipeE, BIG, Ob.data, cellD, rowD]
        rw [cont_nil, cont_cons]
        simp only [EV0, EV1, EV2, EV3, EV4, EV5, EV6, Nat.reduceLT, entry, List.replicate, asg, setAll, reduceIte, Nat.reduceSub, Nat.reduceAdd, Int.reduceMul, Int.reduceAdd, Int.reduceLT, Int.reduceNeg, Nat.reduceLeDiff, wipeE, BIG, Ob.data, cellD, rowD, Sec]
        have hord : ∀ (i2 : Nat) (h : i2 + 1 < rs.length), i2 + 1 < (done ++ [i]).length → (0 < i → cellLt (rs[i - 1]'(by omega)).1 rs[i].1 = true) → cellLt (rs[i2]'(by omega)).1 rs[i2 + 1].1 = true := fun m hm hm2 hc => by
          rw [List.length_append] at hm2
          by_cases q : m + 1 < done.length
          · exact hd2 m hm q
          · have : i = m + 1 := by simp at hm2; omega
            subst this
            exact hc (by omega)
        have hnew : timeB clock rs[i].2 = true → ∀ (j : Nat) (h : j < rs.length), j < (done ++ [i]).length → inb rows rs[j].1 = true ∧ isW (sgn rows rs[j].1) = true ∧ timeB clock rs[j].2 = true := fun ht m hm hm2 => by
          rw [List.length_append] at hm2
          by_cases q : m < done.length
          · exact hd1 m hm q
          · have : m = i := by simp at hm2; omega
            subst this
            exact ⟨e1', e2', ht⟩
        by_cases c8 : (0 : Int) < i
        · have e4 : (i : Int) - 1 = ((i - 1 : Nat) : Int) := by omega
          have e5 : (rs.map rdD)[i - 1]? = some (.tup [.tup [.int (rs[i - 1]'(by omega)).1.1, .int (rs[i - 1]'(by omega)).1.2], optD (rs[i - 1]'(by omega)).2]) := by
            rw [List.getElem?_map, List.getElem?_eq_getElem (by omega)]
            rfl
          simp only [EV0, EV1, EV2, EV3, EV4, EV5, EV6, Nat.reduceLT, entry, List.replicate, asg, setAll, reduceIte, Nat.reduceSub, Nat.reduceAdd, Int.reduceMul, Int.reduceAdd, Int.reduceLT, Int.reduceNeg, Nat.reduceLeDiff, wipeE, BIG, Ob.data, cellD, rowD, c8, e4, e5]
          have e7 : i - 1 + 1 = i := by omega
          cases e6 : cellLt (rs[i - 1]'(by omega)).1 rs[i].1 with
          | false =>
            have hz : rdB rows rs clock = false := rdB_f2 (i := i - 1) (by omega) (by simp only [e7]; exact e6)
            simp only [cont_cons, cont_nil, EV0, EV1, EV2, EV3, EV4, EV5, EV6, Nat.reduceLT, entry, List.replicate, asg, setAll, reduceIte, Nat.reduceSub, Nat.reduceAdd, Int.reduceMul, Int.reduceAdd, Int.reduceLT, Int.reduceNeg, Nat.reduceLeDiff, wipeE, BIG, Ob.data, cellD, rowD, hz]
          | true =>
            simp only [EV0, EV1, EV2, EV3, EV4, EV5, EV6, Nat.reduceLT, entry, List.replicate, asg, setAll, reduceIte, Nat.reduceSub, Nat.reduceAdd, Int.reduceMul, Int.reduceAdd, Int.reduceLT, Int.reduceNeg, Nat.reduceLeDiff, wipeE, BIG, Ob.data, cellD, rowD]
            rw [cont_nil, cont_cons]
            cases eo : rs[i].2 with
            | none =>
              simp only [cont_cons, cont_nil, EV0, EV1, EV2, EV3, EV4, EV5, EV6, Nat.reduceLT, entry, List.replicate, asg, setAll, reduceIte, Nat.reduceSub, Nat.reduceAdd, Int.reduceMul, Int.reduceAdd, Int.reduceLT, Int.reduceNeg, Nat.reduceLeDiff, wipeE, BIG, Ob.data, cellD, rowD, Sec, optD]
              exact ⟨⟨_, _, _, rfl⟩, hnew (by rw [eo]; rfl), fun m hm hm2 => hord m hm hm2 (fun _ => e6)⟩
            | some t =>
              simp only [cont_cons, cont_nil, EV0, EV1, EV2, EV3, EV4, EV5, EV6, Nat.reduceLT, entry, List.replicate, asg, setAll, reduceIte, Nat.reduceSub, Nat.reduceAdd, Int.reduceMul, Int.reduceAdd, Int.reduceLT, Int.reduceNeg, Nat.reduceLeDiff, wipeE, BIG, Ob.data, cellD, rowD, Sec, optD, kisn_int]
              by_cases c3 : t < 0
              · simp only [cont_cons, cont_nil, EV0, EV1, EV2, EV3, EV4, EV5, EV6, Nat.reduceLT, entry, List.replicate, asg, setAll, reduceIte, Nat.reduceSub, Nat.reduceAdd, Int.reduceMul, Int.reduceAdd, Int.reduceLT, Int.reduceNeg, Nat.reduceLeDiff, wipeE, BIG, Ob.data, cellD, rowD, c3, rdB_f3 (rows := rows) (clock := clock) hmem (by rw [eo]; show (decide (0 ≤ t) && decide (t ≤ clock)) = false; rw [decide_eq_false (show ¬ 0 ≤ t by omega)]; rfl)]
              by_cases c4 : clock < t
              · simp only [cont_cons, cont_nil, EV0, EV1, EV2, EV3, EV4, EV5, EV6, Nat.reduceLT, entry, List.replicate, asg, setAll, reduceIte, Nat.reduceSub, Nat.reduceAdd, Int.reduceMul, Int.reduceAdd, Int.reduceLT, Int.reduceNeg, Nat.reduceLeDiff, wipeE, BIG, Ob.data, cellD, rowD, c3, c4, rdB_f3 (rows := rows) (clock := clock) hmem (by rw [eo]; show (decide (0 ≤ t) && decide (t ≤ clock)) = false; rw [decide_eq_false (show ¬ t ≤ clock by omega)]; simp)]
              · simp only [cont_cons, cont_nil, EV0, EV1, EV2, EV3, EV4, EV5, EV6, Nat.reduceLT, entry, List.replicate, asg, setAll, reduceIte, Nat.reduceSub, Nat.reduceAdd, Int.reduceMul, Int.reduceAdd, Int.reduceLT, Int.reduceNeg, Nat.reduceLeDiff, wipeE, BIG, Ob.data, cellD, rowD, c3, c4]
                exact ⟨⟨_, _, _, rfl⟩, hnew (by rw [eo]; show (decide (0 ≤ t) && decide (t ≤ clock)) = true; rw [decide_eq_true (show 0 ≤ t by omega), decide_eq_true (show t ≤ clock by omega)]; rfl), fun m hm hm2 => hord m hm hm2 (fun _ => e6)⟩
        · simp only [EV0, EV1, EV2, EV3, EV4, EV5, EV6, Nat.reduceLT, entry, List.replicate, asg, setAll, reduceIte, Nat.reduceSub, Nat.reduceAdd, Int.reduceMul, Int.reduceAdd, Int.reduceLT, Int.reduceNeg, Nat.reduceLeDiff, wipeE, BIG, Ob.data, cellD, rowD, c8]
          rw [cont_nil, cont_cons]
          cases eo : rs[i].2 with
          | none =>
            simp only [cont_cons, cont_nil, EV0, EV1, EV2, EV3, EV4, EV5, EV6, Nat.reduceLT, entry, List.replicate, asg, setAll, reduceIte, Nat.reduceSub, Nat.reduceAdd, Int.reduceMul, Int.reduceAdd, Int.reduceLT, Int.reduceNeg, Nat.reduceLeDiff, wipeE, BIG, Ob.data, cellD, rowD, Sec, optD]
            exact ⟨⟨_, _, _, rfl⟩, hnew (by rw [eo]; rfl), fun m hm hm2 => hord m hm hm2 (fun z => absurd (Int.ofNat_lt.mpr z) c8)⟩
          | some t =>
            simp only [cont_cons, cont_nil, EV0, EV1, EV2, EV3, EV4, EV5, EV6, Nat.reduceLT, entry, List.replicate, asg, setAll, reduceIte, Nat.reduceSub, Nat.reduceAdd, Int.reduceMul, Int.reduceAdd, Int.reduceLT, Int.reduceNeg, Nat.reduceLeDiff, wipeE, BIG, Ob.data, cellD, rowD, Sec, optD, kisn_int]
            by_cases c3 : t < 0
            · simp only [cont_cons, cont_nil, EV0, EV1, EV2, EV3, EV4, EV5, EV6, Nat.reduceLT, entry, List.replicate, asg, setAll, reduceIte, Nat.reduceSub, Nat.reduceAdd, Int.reduceMul, Int.reduceAdd, Int.reduceLT, Int.reduceNeg, Nat.reduceLeDiff, wipeE, BIG, Ob.data, cellD, rowD, c3, rdB_f3 (rows := rows) (clock := clock) hmem (by rw [eo]; show (decide (0 ≤ t) && decide (t ≤ clock)) = false; rw [decide_eq_false (show ¬ 0 ≤ t by omega)]; rfl)]
            by_cases c4 : clock < t
            · simp only [cont_cons, cont_nil, EV0, EV1, EV2, EV3, EV4, EV5, EV6, Nat.reduceLT, entry, List.replicate, asg, setAll, reduceIte, Nat.reduceSub, Nat.reduceAdd, Int.reduceMul, Int.reduceAdd, Int.reduceLT, Int.reduceNeg, Nat.reduceLeDiff, wipeE, BIG, Ob.data, cellD, rowD, c3, c4, rdB_f3 (rows := rows) (clock := clock) hmem (by rw [eo]; show (decide (0 ≤ t) && decide (t ≤ clock)) = false; rw [decide_eq_false (show ¬ t ≤ clock by omega)]; simp)]
            · simp only [cont_cons, cont_nil, EV0, EV1, EV2, EV3, EV4, EV5, EV6, Nat.reduceLT, entry, List.replicate, asg, setAll, reduceIte, Nat.reduceSub, Nat.reduceAdd, Int.reduceMul, Int.reduceAdd, Int.reduceLT, Int.reduceNeg, Nat.reduceLeDiff, wipeE, BIG, Ob.data, cellD, rowD, c3, c4]
              exact ⟨⟨_, _, _, rfl⟩, hnew (by rw [eo]; show (decide (0 ≤ t) && decide (t ≤ clock)) = true; rw [decide_eq_true (show 0 ≤ t by omega), decide_eq_true (show t ≤ clock by omega)]; rfl), fun m hm hm2 => hord m hm hm2 (fun z => absurd (Int.ofNat_lt.mpr z) c8)⟩
  · rintro ρ S' ⟨rfl, ⟨x3, x4, x5, rfl⟩, hd1, hd2⟩
    rw [List.length_range] at hd1 hd2
    have : rdB rows rs clock = true := rdB_t c1 c2 (fun m h => hd2 m h h) fun p hp => by
      obtain ⟨m, hm, rfl⟩ := List.getElem_of_mem hp
      exact hd1 m hm hm
    simp only [cont_cons, cont_nil, EV0, EV1, EV2, EV3, EV4, EV5, EV6, Nat.reduceLT, entry, List.replicate, asg, setAll, reduceIte, Nat.reduceSub, Nat.reduceAdd, Int.reduceMul, Int.reduceAdd, Int.reduceLT, Int.reduceNeg, Nat.reduceLeDiff, wipeE, BIG, Ob.data, cellD, rowD, this]
end
end M
-- LK04.lean
set_option Elab.async false
set_option linter.all false
set_option maxRecDepth 100000
set_option maxHeartbeats 4000000
set_option autoImplicit false
/-! the law k04 -/
namespace SW
open PySem
theorem rev_tup (xs : List D) (S : Store) : kRev (.d (.tup xs)) S = .ok (.d (.tup xs.reverse)) S := Eq.trans rfl rfl
end SW
namespace M
open PySem SW
section
variable {tbl : Nat → Option Fn} (H : Tb tbl)
include H
end
end M
-- LK60.lean
set_option Elab.async false
set_option linter.all false
set_option maxRecDepth 100000
set_option maxHeartbeats 4000000
set_option autoImplicit false
/-! the law k60 -/
namespace SW
open PySem
theorem e_umeth {cf : CF} {ρ : Env} {S : Store} (f : Nat) (o : E) (as : Es) : evE cf (.umeth f o as) ρ S = ((evE cf o ρ S).bind kObj).bind fun x S1 => (evEs cf as ρ S1).bind (kMeth cf f x) := by simp only [evE]
/-- a watch's fields -/
def wtF (ch nw ps : D) : List (Nat × D) := [(2, ch), (3, nw), (4, ps)]
structure IsW (n : Nat) (ch nw ps : D) (S : Store) : Prop where
  h : S[n]? = some (.ins 1 (wtF ch nw ps))
section
variable {n : Nat} {ch nw ps : D} {S : Store} (W : IsW n ch nw ps S)
include W
theorem IsW.obj : kObj (.r n) S = .ok (.r n) S := by
  simp only [kObj, W.h]
theorem IsW.f3 : kFld 3 (.r n) S = .ok (.d nw) S := by
  simp only [kFld, rd, W.h]
  rfl
theorem IsW.f4 : kFld 4 (.r n) S = .ok (.d ps) S := by
  simp only [kFld, rd, W.h]
  rfl
end
theorem kmeth_r (cf : CF) (f n : Nat) (vs : List Vl) (S : Store) : kMeth cf f (.r n) vs S = cf f (.r n :: vs) S := rfl
theorem setf_w (S : Store) (fs : List (Nat × D)) (f : Nat) (x : D) (h : fs.length < 900) : kSetf f (.r S.length) x (S ++ [.ins 1 fs]) = .ok () (S ++ [.ins 1 (fput fs f x)]) := by
  simp only [kSetf, get_app0, if_pos h, set_app0]
theorem setf_2 (S : Store) (x : D) : kSetf 2 (.r S.length) x (S ++ [.ins 1 []]) = .ok () (S ++ [.ins 1 [(2, x)]]) := setf_w S [] 2 x (by decide)
theorem setf_3 (S : Store) (a x : D) : kSetf 3 (.r S.length) x (S ++ [.ins 1 [(2, a)]]) = .ok () (S ++ [.ins 1 [(2, a), (3, x)]]) := setf_w S [(2, a)] 3 x (by show 1 < 900; omega)
theorem setf_4 (S : Store) (a b x : D) : kSetf 4 (.r S.length) x (S ++ [.ins 1 [(2, a), (3, b)]]) = .ok () (S ++ [.ins 1 (wtF a b x)]) := setf_w S [(2, a), (3, b)] 4 x (by show 2 < 900; omega)
theorem pl_opt {n : Nat} (o : Option Int) : plD n (optD o) = true := by cases o <;> cases n <;> rfl
theorem pl_rdD (p : Cell × Option Int) : plD 3 (rdD p) = true := by
  obtain ⟨c, o⟩ := p
  show (decide (2 < 1000) && (plD 2 (cellD c) && (plD 2 (optD o) && true))) = true
  rw [pl_opt]
  rfl
theorem pl_rds {rs : List (Cell × Option Int)} (h : rs.length < 1000) : plD 4 (.tup (rs.map rdD)) = true := by
  show (decide ((rs.map rdD).length < 1000) && (rs.map rdD).all (plD 3)) = true
  rw [decide_eq_true (by rw [List.length_map]; exact h), List.all_map, Bool.true_and, List.all_eq_true]
  intro c hc
  exact pl_rdD c
end SW
namespace M
open PySem SW
section
variable {tbl : Nat → Option Fn} (H : Tb tbl)
include H
theorem l_some_gauges_ok (k : Nat) {rows : Rows} {src : List Cell} (O : Ok rows src) (n : Nat) (b : Ob) (S : Store) (hb : S[n]? = some b) (hB : IsBox b) : Wp (callF tbl (k + 2) 199 [.r n, .d (.tup [.tup (rows.map rowD), .tup (src.map cellD)])] S) (fun v S' => ∃ gs : List Cell, gs.length ≤ 5 ∧ v = .d (.tup (gs.map cellD)) ∧ ∃ b', IsBox b' ∧ S' = S.set n b') noX := by
  have hn : n < S.length := (List.getElem?_eq_some_iff.mp hb).1
  have h7 := O.h7
  have w7 := O.w7
  have hwr : ∀ r ∈ rows, r.length ≤ 100 := fun r hr => by rw [O.rc r hr]; omega
  rw [wp_def H.t_l_some_gauges rfl]
  unfold d_l_some_gauges
  rw [cont_cons]
  simp only [EV0, EV1, EV2, EV3, EV4, EV5, EV6, Nat.reduceLT, entry, List.replicate, asg, setAll, reduceIte, Nat.reduceSub, Nat.reduceAdd, Int.reduceMul, Int.reduceAdd, Int.reduceLT, Int.reduceNeg, Nat.reduceLeDiff, wipeE, BIG, Ob.data, cellD, rowD]
  rw [cont_cons]
  simp only [EV0, EV1, EV2, EV3, EV4, EV5, EV6, Nat.reduceLT, entry, List.replicate, asg, setAll, reduceIte, Nat.reduceSub, Nat.reduceAdd, Int.reduceMul, Int.reduceAdd, Int.reduceLT, Int.reduceNeg, Nat.reduceLeDiff, wipeE, BIG, Ob.data, cellD, rowD]
  rw [l_waters_eq H _ _ rows _ (isR_d rows _) (by omega) hwr]
  simp only [EV0, EV1, EV2, EV3, EV4, EV5, EV6, Nat.reduceLT, entry, List.replicate, asg, setAll, reduceIte, Nat.reduceSub, Nat.reduceAdd, Int.reduceMul, Int.reduceAdd, Int.reduceLT, Int.reduceNeg, Nat.reduceLeDiff, wipeE, BIG, Ob.data, cellD, rowD]
  refine ws_forL cellD (watersL rows) (fun done ρ S' => ∃ (b : Ob) (gs : List Cell) (x4 : Option Vl), IsBox b ∧ gs.length ≤ 5 ∧ S' = S.set n b ++ [.lst (gs.map cellD)] ∧ ρ = [some (.r n), some (.d (.tup [.tup (rows.map rowD), .tup (src.map cellD)])), some (.r S.length), x4]) ⟨b, [], _, hB, by simp, by rw [set_self hb]; rfl, rfl⟩ ?_ ?_
  · rintro done c tl hd ρ S' ⟨b, gs, x4, hB, h6, rfl, rfl⟩
    refine ⟨_, rfl, ?_⟩
    rw [ws_block, cont_cons]
    simp only [EV0, EV1, EV2, EV3, EV4, EV5, EV6, Nat.reduceLT, entry, List.replicate, asg, setAll, reduceIte, Nat.reduceSub, Nat.reduceAdd, Int.reduceMul, Int.reduceAdd, Int.reduceLT, Int.reduceNeg, Nat.reduceLeDiff, wipeE, BIG, Ob.data, cellD, rowD, Sec]
    by_cases c2 : (gs.length : Int) < 5
    · simp only [EV0, EV1, EV2, EV3, EV4, EV5, EV6, Nat.reduceLT, entry, List.replicate, asg, setAll, reduceIte, Nat.reduceSub, Nat.reduceAdd, Int.reduceMul, Int.reduceAdd, Int.reduceLT, Int.reduceNeg, Nat.reduceLeDiff, wipeE, BIG, Ob.data, cellD, rowD, c2]
      refine wp_imp (draw2 H _ n b 3 _ (get_bx _ _ _ _ hn) hB (by decide)) ?_
      rintro v S' ⟨y1, rfl, hy1, b, hB, rfl⟩
      rw [set_bx _ _ _ _ _ hn]
      simp only [EV0, EV1, EV2, EV3, EV4, EV5, EV6, Nat.reduceLT, entry, List.replicate, asg, setAll, reduceIte, Nat.reduceSub, Nat.reduceAdd, Int.reduceMul, Int.reduceAdd, Int.reduceLT, Int.reduceNeg, Nat.reduceLeDiff, wipeE, BIG, Ob.data, cellD, rowD]
      cases c3 : ((y1 : Int) == 0) with
      | false =>
        simp only [cont_cons, cont_nil, EV0, EV1, EV2, EV3, EV4, EV5, EV6, Nat.reduceLT, entry, List.replicate, asg, setAll, reduceIte, Nat.reduceSub, Nat.reduceAdd, Int.reduceMul, Int.reduceAdd, Int.reduceLT, Int.reduceNeg, Nat.reduceLeDiff, wipeE, BIG, Ob.data, cellD, rowD]
        exact ⟨b, gs, _, hB, h6, rfl, rfl⟩
      | true =>
        simp only [cont_cons, cont_nil, EV0, EV1, EV2, EV3, EV4, EV5, EV6, Nat.reduceLT, entry, List.replicate, asg, setAll, reduceIte, Nat.reduceSub, Nat.reduceAdd, Int.reduceMul, Int.reduceAdd, Int.reduceLT, Int.reduceNeg, Nat.reduceLeDiff, wipeE, BIG, Ob.data, cellD, rowD, show gs.length < 1000000 by omega]
        exact ⟨b, gs ++ [c], _, hB, by ((try simp only [List.length_append, List.length_take, List.length_drop, List.length_cons, List.length_nil, List.length_map, List.length_range, List.length_set]); omega), by rw [List.map_append]; rfl, rfl⟩
    · simp only [cont_cons, cont_nil, EV0, EV1, EV2, EV3, EV4, EV5, EV6, Nat.reduceLT, entry, List.replicate, asg, setAll, reduceIte, Nat.reduceSub, Nat.reduceAdd, Int.reduceMul, Int.reduceAdd, Int.reduceLT, Int.reduceNeg, Nat.reduceLeDiff, wipeE, BIG, Ob.data, cellD, rowD, c2]
      exact ⟨b, gs, _, hB, h6, rfl, rfl⟩
  · rintro ρ S' ⟨b, gs, x4, hB, h6, rfl, rfl⟩
    simp only [cont_cons, cont_nil, EV0, EV1, EV2, EV3, EV4, EV5, EV6, Nat.reduceLT, entry, List.replicate, asg, setAll, reduceIte, Nat.reduceSub, Nat.reduceAdd, Int.reduceMul, Int.reduceAdd, Int.reduceLT, Int.reduceNeg, Nat.reduceLeDiff, wipeE, BIG, Ob.data, cellD, rowD]
    refine ⟨gs, h6, ?_, b, hB, ?_⟩
    · rfl
    · first | rfl | simp
/-- readings of a new watch -/
theorem nonD_eq (gs : List Cell) : (gs.map fun g => (g, (none : Option Int))).map rdD = gs.map fun g => D.tup [.tup [.int g.1, .int g.2], .non] := by
  rw [List.map_map]
  rfl
theorem watch_init_ok (k : Nat) {rows : Rows} {src : List Cell} (O : Ok rows src) (gs : List Cell) (S : Store) (hl : gs.length ≤ 900) : Wp (callF tbl (k + 4) 187 [.r S.length, .d (chD rows src), .d (.tup (gs.map cellD))] (S ++ [.ins 1 []])) (fun v S' => rdB rows (gs.map fun g => (g, none)) 0 = true ∧ v = .d .non ∧ S' = S ++ [.ins 1 (wtF (chD rows src) (.tup [.tup ((gs.map fun g => (g, (none : Option Int))).map rdD), .int 0]) (.tup []))]) (fun c p S' => rdB rows (gs.map fun g => (g, none)) 0 = false ∧ c = 14 ∧ p = [] ∧ ∃ ob, S' = S ++ [ob]) := by
  rw [wp_def H.t_Watch_init rfl]
  unfold d_Watch_init
  rw [cont_cons]
  simp only [EV0, EV1, EV2, EV3, EV4, EV5, EV6, Nat.reduceLT, entry, List.replicate, asg, setAll, reduceIte, Nat.reduceSub, Nat.reduceAdd, Int.reduceMul, Int.reduceAdd, Int.reduceLT, Int.reduceNeg, Nat.reduceLeDiff, wipeE, BIG, Ob.data, cellD, rowD]
  refine wl_map cellD gs (fun g => D.tup [cellD g, .non]) (by simp only [EV0, EV1, EV2, EV3, EV4, EV5, EV6, Nat.reduceLT, entry, List.replicate, asg, setAll, reduceIte, Nat.reduceSub, Nat.reduceAdd, Int.reduceMul, Int.reduceAdd, Int.reduceLT, Int.reduceNeg, Nat.reduceLeDiff, wipeE, BIG, Ob.data, cellD, rowD]) (by show gs.length < 1000000; omega) ?_ ?_
  · intro g hg
    refine ⟨_, rfl, fun ys => ?_⟩
    simp only [EV0, EV1, EV2, EV3, EV4, EV5, EV6, Nat.reduceLT, entry, List.replicate, asg, setAll, reduceIte, Nat.reduceSub, Nat.reduceAdd, Int.reduceMul, Int.reduceAdd, Int.reduceLT, Int.reduceNeg, Nat.reduceLeDiff, wipeE, BIG, Ob.data, cellD, rowD, cellD]
  · simp only [EV0, EV1, EV2, EV3, EV4, EV5, EV6, Nat.reduceLT, entry, List.replicate, asg, setAll, reduceIte, Nat.reduceSub, Nat.reduceAdd, Int.reduceMul, Int.reduceAdd, Int.reduceLT, Int.reduceNeg, Nat.reduceLeDiff, wipeE, BIG, Ob.data, cellD, rowD]
    rw [← nonD_eq H gs]
    try simp only [EV0, EV1, EV2, EV3, EV4, EV5, EV6, Nat.reduceLT, entry, List.replicate, asg, setAll, reduceIte, Nat.reduceSub, Nat.reduceAdd, Int.reduceMul, Int.reduceAdd, Int.reduceLT, Int.reduceNeg, Nat.reduceLeDiff, wipeE, BIG, Ob.data, cellD, rowD]
    rw [cont_cons]
    simp only [EV0, EV1, EV2, EV3, EV4, EV5, EV6, Nat.reduceLT, entry, List.replicate, asg, setAll, reduceIte, Nat.reduceSub, Nat.reduceAdd, Int.reduceMul, Int.reduceAdd, Int.reduceLT, Int.reduceNeg, Nat.reduceLeDiff, wipeE, BIG, Ob.data, cellD, rowD]
    refine (check_readings_ok H k O.Rc (gs.map fun g => (g, none)) 0 _ (by ((try simp only [List.length_append, List.length_take, List.length_drop, List.length_cons, List.length_nil, List.length_map, List.length_range, List.length_set]); omega))).mono ?_ ?_
    · rintro v S' ⟨he, rfl, rfl⟩
      simp only [cont_cons, cont_nil, EV0, EV1, EV2, EV3, EV4, EV5, EV6, Nat.reduceLT, entry, List.replicate, asg, setAll, reduceIte, Nat.reduceSub, Nat.reduceAdd, Int.reduceMul, Int.reduceAdd, Int.reduceLT, Int.reduceNeg, Nat.reduceLeDiff, wipeE, BIG, Ob.data, cellD, rowD, setf_2, setf_3, setf_4]
      exact he
    · rintro c p S' ⟨he, rfl, rfl, rfl⟩
      simp only [cont_cons, cont_nil, EV0, EV1, EV2, EV3, EV4, EV5, EV6, Nat.reduceLT, entry, List.replicate, asg, setAll, reduceIte, Nat.reduceSub, Nat.reduceAdd, Int.reduceMul, Int.reduceAdd, Int.reduceLT, Int.reduceNeg, Nat.reduceLeDiff, wipeE, BIG, Ob.data, cellD, rowD]
      exact ⟨he, _, rfl⟩
end
end M
namespace SW
open PySem
theorem kmk_1 {S : Store} {n : Nat} {fs : List (Nat × D)} (h : S[n]? = some (.ins 1 fs)) (u : Vl) (hu : u = .d .non) : kMk 1 n u S = .ok (.r n) S := by
  subst hu
  unfold kMk
  rw [h]
  rfl
end SW
namespace M
open PySem SW
section
variable {tbl : Nat → Option Fn} (H : Tb tbl)
include H
theorem watch_readings_eq (k : Nat) {n : Nat} {ch a b ps : D} {S : Store} (W : IsW n ch (.tup [a, b]) ps S) : callF tbl (k + 1) 188 [.r n] S = .ok (.d a) S := by
  apply eq_of_wp
  rw [wp_def H.t_Watch_readings rfl]
  unfold d_Watch_readings
  simp only [cont_cons, cont_nil, EV0, EV1, EV2, EV3, EV4, EV5, EV6, Nat.reduceLT, entry, List.replicate, asg, setAll, reduceIte, Nat.reduceSub, Nat.reduceAdd, Int.reduceMul, Int.reduceAdd, Int.reduceLT, Int.reduceNeg, Nat.reduceLeDiff, wipeE, BIG, Ob.data, cellD, rowD, W.f3]
theorem watch_clock_eq (k : Nat) {n : Nat} {ch a b ps : D} {S : Store} (W : IsW n ch (.tup [a, b]) ps S) : callF tbl (k + 1) 189 [.r n] S = .ok (.d b) S := by
  apply eq_of_wp
  rw [wp_def H.t_Watch_clock rfl]
  unfold d_Watch_clock
  simp only [cont_cons, cont_nil, EV0, EV1, EV2, EV3, EV4, EV5, EV6, Nat.reduceLT, entry, List.replicate, asg, setAll, reduceIte, Nat.reduceSub, Nat.reduceAdd, Int.reduceMul, Int.reduceAdd, Int.reduceLT, Int.reduceNeg, Nat.reduceLeDiff, wipeE, BIG, Ob.data, cellD, rowD, W.f3]
def pastD (p : D × D) : D := .tup [p.1, p.2]
theorem watch_log_eq (k : Nat) {n : Nat} {ch nw : D} {L : List (D × D)} (hL : L.length ≤ 900) {S : Store} (W : IsW n ch nw (.tup (L.map pastD)) S) : callF tbl (k + 1) 190 [.r n] S = .ok (.d (.tup (L.map (·.2)))) S := by
  apply eq_of_wp
  rw [wp_def H.t_Watch_log rfl]
  unfold d_Watch_log
  rw [cont_cons]
  simp only [EV0, EV1, EV2, EV3, EV4, EV5, EV6, Nat.reduceLT, entry, List.replicate, asg, setAll, reduceIte, Nat.reduceSub, Nat.reduceAdd, Int.reduceMul, Int.reduceAdd, Int.reduceLT, Int.reduceNeg, Nat.reduceLeDiff, wipeE, BIG, Ob.data, cellD, rowD]
  refine wl_map pastD L (·.2) (by simp only [EV0, EV1, EV2, EV3, EV4, EV5, EV6, Nat.reduceLT, entry, List.replicate, asg, setAll, reduceIte, Nat.reduceSub, Nat.reduceAdd, Int.reduceMul, Int.reduceAdd, Int.reduceLT, Int.reduceNeg, Nat.reduceLeDiff, wipeE, BIG, Ob.data, cellD, rowD, W.f4]) (by show L.length < 1000000; omega) ?_ ?_
  · intro g hg
    refine ⟨_, rfl, fun ys => ?_⟩
    simp only [EV0, EV1, EV2, EV3, EV4, EV5, EV6, Nat.reduceLT, entry, List.replicate, asg, setAll, reduceIte, Nat.reduceSub, Nat.reduceAdd, Int.reduceMul, Int.reduceAdd, Int.reduceLT, Int.reduceNeg, Nat.reduceLeDiff, wipeE, BIG, Ob.data, cellD, rowD, pastD]
  · simp only [EV0, EV1, EV2, EV3, EV4, EV5, EV6, Nat.reduceLT, entry, List.replicate, asg, setAll, reduceIte, Nat.reduceSub, Nat.reduceAdd, Int.reduceMul, Int.reduceAdd, Int.reduceLT, Int.reduceNeg, Nat.reduceLeDiff, wipeE, BIG, Ob.data, cellD, rowD]
theorem l_stands_ok (k : Nat) {n m : Nat} {ch : D} {rs : List (Cell × Option Int)} {clock : Int} {L : List (D × D)} (hL : L.length ≤ 900) (hr : rs.length < 1000) (hp : ∃ j, j ≤ 6 ∧ plD j (.tup (L.map (·.2))) = true) {S : Store} (W : IsW n ch (.tup [.tup (rs.map rdD), .int clock]) (.tup (L.map pastD)) S) (hm : S[m]? = some (.lst [.tup (rs.map rdD), .int clock, .lst (L.map pastD)])) : callF tbl (k + 9) 200 [.r n, .r m] S = .ok (.d (.bl true)) S := by
  obtain ⟨j, hj, hp⟩ := hp
  apply eq_of_wp
  rw [wp_def H.t_l_stands rfl]
  unfold d_l_stands
  rw [cont_cons]
  simp only [EV0, EV1, EV2, EV3, EV4, EV5, EV6, Nat.reduceLT, entry, List.replicate, asg, setAll, reduceIte, Nat.reduceSub, Nat.reduceAdd, Int.reduceMul, Int.reduceAdd, Int.reduceLT, Int.reduceNeg, Nat.reduceLeDiff, wipeE, BIG, Ob.data, cellD, rowD, Sec, e_umeth, kmeth_r, W.obj, watch_readings_eq H (k + 7) W, watch_clock_eq H (k + 7) W, hm, show callF tbl (k + 8) 11 [.d (.tup (rs.map rdD)), .d (.tup (rs.map rdD))] S = .ok (.d (.bl true)) S from same_refl H 4 _ (pl_rds hr) (k + 2) S, show callF tbl (k + 8) 11 [.d (.int clock), .d (.int clock)] S = .ok (.d (.bl true)) S from same_refl H 0 (.int clock) rfl (k + 6) S]
  rw [cont_nil, cont_cons]
  simp only [EV0, EV1, EV2, EV3, EV4, EV5, EV6, Nat.reduceLT, entry, List.replicate, asg, setAll, reduceIte, Nat.reduceSub, Nat.reduceAdd, Int.reduceMul, Int.reduceAdd, Int.reduceLT, Int.reduceNeg, Nat.reduceLeDiff, wipeE, BIG, Ob.data, cellD, rowD, e_umeth, kmeth_r, W.obj, watch_log_eq H (k + 7) hL W]
  refine wl_map pastD L (·.2) (by simp only [EV0, EV1, EV2, EV3, EV4, EV5, EV6, Nat.reduceLT, entry, List.replicate, asg, setAll, reduceIte, Nat.reduceSub, Nat.reduceAdd, Int.reduceMul, Int.reduceAdd, Int.reduceLT, Int.reduceNeg, Nat.reduceLeDiff, wipeE, BIG, Ob.data, cellD, rowD, hm]) (by show L.length < 1000000; omega) ?_ ?_
  · intro g hg
    refine ⟨_, rfl, fun ys => ?_⟩
    simp only [EV0, EV1, EV2, EV3, EV4, EV5, EV6, Nat.reduceLT, entry, List.replicate, asg, setAll, reduceIte, Nat.reduceSub, Nat.reduceAdd, Int.reduceMul, Int.reduceAdd, Int.reduceLT, Int.reduceNeg, Nat.reduceLeDiff, wipeE, BIG, Ob.data, cellD, rowD, pastD]
  · have e : k + 8 = (k + (6 - j)) + j + 2 := by omega
    simp only [EV0, EV1, EV2, EV3, EV4, EV5, EV6, Nat.reduceLT, entry, List.replicate, asg, setAll, reduceIte, Nat.reduceSub, Nat.reduceAdd, Int.reduceMul, Int.reduceAdd, Int.reduceLT, Int.reduceNeg, Nat.reduceLeDiff, wipeE, BIG, Ob.data, cellD, rowD]
    rw [e, same_refl H j _ hp (k + (6 - j))]
    simp only [EV0, EV1, EV2, EV3, EV4, EV5, EV6, Nat.reduceLT, entry, List.replicate, asg, setAll, reduceIte, Nat.reduceSub, Nat.reduceAdd, Int.reduceMul, Int.reduceAdd, Int.reduceLT, Int.reduceNeg, Nat.reduceLeDiff, wipeE, BIG, Ob.data, cellD, rowD]
theorem k60_wp (ns : List Int) (S : Store) : Wp (callF tbl 14 201 [.d (.scr ns)] S) (fun v _ => v = .d (.bl true)) noX := by
  rw [wp_def (k := 13) H.t_law27 rfl]
  unfold d_law27
  rw [cont_cons]
  simp only [EV0, EV1, EV2, EV3, EV4, EV5, EV6, Nat.reduceLT, entry, List.replicate, asg, setAll, reduceIte, Nat.reduceSub, Nat.reduceAdd, Int.reduceMul, Int.reduceAdd, Int.reduceLT, Int.reduceNeg, Nat.reduceLeDiff, wipeE, BIG, Ob.data, cellD, rowD]
  refine wp_imp (l_parts_ok H 9 ns 0 5 5 S (by decide) (by decide) (by decide) (by decide)) ?_
  rintro v S' ⟨rows, src, O, -, -, rfl, rfl⟩
  simp only [EV0, EV1, EV2, EV3, EV4, EV5, EV6, Nat.reduceLT, entry, List.replicate, asg, setAll, reduceIte, Nat.reduceSub, Nat.reduceAdd, Int.reduceMul, Int.reduceAdd, Int.reduceLT, Int.reduceNeg, Nat.reduceLeDiff, wipeE, BIG, Ob.data, cellD, rowD]
  rw [cont_cons]
  simp only [EV0, EV1, EV2, EV3, EV4, EV5, EV6, Nat.reduceLT, entry, List.replicate, asg, setAll, reduceIte, Nat.reduceSub, Nat.reduceAdd, Int.reduceMul, Int.reduceAdd, Int.reduceLT, Int.reduceNeg, Nat.reduceLeDiff, wipeE, BIG, Ob.data, cellD, rowD]
  have hm := mk_good H 10 S' O
  simp only [EV0, EV1, EV2, EV3, EV4, EV5, EV6, Nat.reduceLT, entry, List.replicate, asg, setAll, reduceIte, Nat.reduceSub, Nat.reduceAdd, Int.reduceMul, Int.reduceAdd, Int.reduceLT, Int.reduceNeg, Nat.reduceLeDiff, wipeE, BIG, Ob.data, cellD, rowD] at hm
  rw [← wp_bind] at hm ⊢
  refine hm.mono ?_ fun _ _ _ z => z.elim
  rintro v S ⟨rfl, ob, rfl⟩
  simp only [EV0, EV1, EV2, EV3, EV4, EV5, EV6, Nat.reduceLT, entry, List.replicate, asg, setAll, reduceIte, Nat.reduceSub, Nat.reduceAdd, Int.reduceMul, Int.reduceAdd, Int.reduceLT, Int.reduceNeg, Nat.reduceLeDiff, wipeE, BIG, Ob.data, cellD, rowD]
  rw [cont_cons]
  simp only [EV0, EV1, EV2, EV3, EV4, EV5, EV6, Nat.reduceLT, entry, List.replicate, asg, setAll, reduceIte, Nat.reduceSub, Nat.reduceAdd, Int.reduceMul, Int.reduceAdd, Int.reduceLT, Int.reduceNeg, Nat.reduceLeDiff, wipeE, BIG, Ob.data, cellD, rowD]
  refine wp_imp (l_box_ok H _ ns 9 S') ?_
  rintro v S1 ⟨rfl, b, hB, rfl⟩
  simp only [EV0, EV1, EV2, EV3, EV4, EV5, EV6, Nat.reduceLT, entry, List.replicate, asg, setAll, reduceIte, Nat.reduceSub, Nat.reduceAdd, Int.reduceMul, Int.reduceAdd, Int.reduceLT, Int.reduceNeg, Nat.reduceLeDiff, wipeE, BIG, Ob.data, cellD, rowD]
  rw [cont_cons]
  simp only [EV0, EV1, EV2, EV3, EV4, EV5, EV6, Nat.reduceLT, entry, List.replicate, asg, setAll, reduceIte, Nat.reduceSub, Nat.reduceAdd, Int.reduceMul, Int.reduceAdd, Int.reduceLT, Int.reduceNeg, Nat.reduceLeDiff, wipeE, BIG, Ob.data, cellD, rowD]
  refine wp_imp (l_some_gauges_ok H 11 O S'.length b (S' ++ [b]) (by simp) hB) ?_
  rintro v S1 ⟨gs, h5, rfl, b, hB, rfl⟩
  simp only [EV0, EV1, EV2, EV3, EV4, EV5, EV6, Nat.reduceLT, entry, List.replicate, asg, setAll, reduceIte, Nat.reduceSub, Nat.reduceAdd, Int.reduceMul, Int.reduceAdd, Int.reduceLT, Int.reduceNeg, Nat.reduceLeDiff, wipeE, BIG, Ob.data, cellD, rowD]
  rw [cont_cons]
  simp only [EV0, EV1, EV2, EV3, EV4, EV5, EV6, Nat.reduceLT, entry, List.replicate, asg, setAll, reduceIte, Nat.reduceSub, Nat.reduceAdd, Int.reduceMul, Int.reduceAdd, Int.reduceLT, Int.reduceNeg, Nat.reduceLeDiff, wipeE, BIG, Ob.data, cellD, rowD]
  refine wp_imp (draw0 H _ b 6 S' [] hB (by decide)) ?_
  rintro v S1 ⟨kind, rfl, hk, b, hB, rfl⟩
  simp only [EV0, EV1, EV2, EV3, EV4, EV5, EV6, Nat.reduceLT, entry, List.replicate, asg, setAll, reduceIte, Nat.reduceSub, Nat.reduceAdd, Int.reduceMul, Int.reduceAdd, Int.reduceLT, Int.reduceNeg, Nat.reduceLeDiff, wipeE, BIG, Ob.data, cellD, rowD]
  refine cont_seq (fun ρ S => ∃ (b : Ob) (gs : List Cell), IsBox b ∧ S = S' ++ [b] ∧ gs.length ≤ 20 ∧ ρ = [some (.d (.scr ns)), some (.d (.tup [.tup (rows.map rowD), .tup (src.map cellD)])), some (.d (chD rows src)), some (.r S'.length), some (.d (.tup (gs.map cellD))), some (.d (.int kind)), none, none, none, none, none]) ?_ ?_
  · simp only [EV0, EV1, EV2, EV3, EV4, EV5, EV6, Nat.reduceLT, entry, List.replicate, asg, setAll, reduceIte, Nat.reduceSub, Nat.reduceAdd, Int.reduceMul, Int.reduceAdd, Int.reduceLT, Int.reduceNeg, Nat.reduceLeDiff, wipeE, BIG, Ob.data, cellD, rowD]
    have h8 : kind = 0 ∨ kind = 1 ∨ kind = 2 ∨ kind = 3 ∨ kind = 4 ∨ kind = 5 := by omega
    rcases h8 with rfl | rfl | rfl | rfl | rfl | rfl
    · simp only [cont_cons, cont_nil, EV0, EV1, EV2, EV3, EV4, EV5, EV6, Nat.reduceLT, entry, List.replicate, asg, setAll, reduceIte, Nat.reduceSub, Nat.reduceAdd, Int.reduceMul, Int.reduceAdd, Int.reduceLT, Int.reduceNeg, Nat.reduceLeDiff, wipeE, BIG, Ob.data, cellD, rowD, show (((0 : Nat) : Int) == 0) = true from rfl, rev_tup]
      exact ⟨b, gs.reverse, hB, rfl, by rw [List.length_reverse]; omega, by rw [List.map_reverse]⟩
    · simp only [cont_cons, cont_nil, EV0, EV1, EV2, EV3, EV4, EV5, EV6, Nat.reduceLT, entry, List.replicate, asg, setAll, reduceIte, Nat.reduceSub, Nat.reduceAdd, Int.reduceMul, Int.reduceAdd, Int.reduceLT, Int.reduceNeg, Nat.reduceLeDiff, wipeE, BIG, Ob.data, cellD, rowD, show (((1 : Nat) : Int) == 0) = false from rfl, show (((1 : Nat) : Int) == 1) = true from rfl, cutL_map]
      rw [if_pos (by ((try simp only [List.length_append, List.length_take, List.length_drop, List.length_cons, List.length_nil, List.length_map, List.length_range, List.length_set]); omega))]
      try simp only [EV0, EV1, EV2, EV3, EV4, EV5, EV6, Nat.reduceLT, entry, List.replicate, asg, setAll, reduceIte, Nat.reduceSub, Nat.reduceAdd, Int.reduceMul, Int.reduceAdd, Int.reduceLT, Int.reduceNeg, Nat.reduceLeDiff, wipeE, BIG, Ob.data, cellD, rowD]
      refine ⟨b, _, hB, rfl, ?_, by rw [← List.map_append]⟩
      ((try simp only [List.length_append, List.length_take, List.length_drop, List.length_cons, List.length_nil, List.length_map, List.length_range, List.length_set]); omega)
    · simp only [cont_cons, cont_nil, EV0, EV1, EV2, EV3, EV4, EV5, EV6, Nat.reduceLT, entry, List.replicate, asg, setAll, reduceIte, Nat.reduceSub, Nat.reduceAdd, Int.reduceMul, Int.reduceAdd, Int.reduceLT, Int.reduceNeg, Nat.reduceLeDiff, wipeE, BIG, Ob.data, cellD, rowD, show (((2 : Nat) : Int) == 0) = false from rfl, show (((2 : Nat) : Int) == 1) = false from rfl, show (((2 : Nat) : Int) == 2) = true from rfl]
      refine wp_imp (draw0 H _ b 6 S' [] hB (by decide)) ?_
      rintro v S1 ⟨z1, rfl, hz1, b, hB, rfl⟩
      simp only [cont_cons, cont_nil, EV0, EV1, EV2, EV3, EV4, EV5, EV6, Nat.reduceLT, entry, List.replicate, asg, setAll, reduceIte, Nat.reduceSub, Nat.reduceAdd, Int.reduceMul, Int.reduceAdd, Int.reduceLT, Int.reduceNeg, Nat.reduceLeDiff, wipeE, BIG, Ob.data, cellD, rowD]
      refine wp_imp (draw0 H _ b 6 S' [] hB (by decide)) ?_
      rintro v S1 ⟨z2, rfl, hz2, b, hB, rfl⟩
      simp only [cont_cons, cont_nil, EV0, EV1, EV2, EV3, EV4, EV5, EV6, Nat.reduceLT, entry, List.replicate, asg, setAll, reduceIte, Nat.reduceSub, Nat.reduceAdd, Int.reduceMul, Int.reduceAdd, Int.reduceLT, Int.reduceNeg, Nat.reduceLeDiff, wipeE, BIG, Ob.data, cellD, rowD]
      rw [if_pos (by ((try simp only [List.length_append, List.length_take, List.length_drop, List.length_cons, List.length_nil, List.length_map, List.length_range, List.length_set]); omega))]
      try simp only [EV0, EV1, EV2, EV3, EV4, EV5, EV6, Nat.reduceLT, entry, List.replicate, asg, setAll, reduceIte, Nat.reduceSub, Nat.reduceAdd, Int.reduceMul, Int.reduceAdd, Int.reduceLT, Int.reduceNeg, Nat.reduceLeDiff, wipeE, BIG, Ob.data, cellD, rowD]
      exact ⟨b, gs ++ [((z1 : Int), (z2 : Int))], hB, rfl, by ((try simp only [List.length_append, List.length_take, List.length_drop, List.length_cons, List.length_nil, List.length_map, List.length_range, List.length_set]); omega), by rw [List.map_append]; rfl⟩
    · simp only [cont_cons, cont_nil, EV0, EV1, EV2, EV3, EV4, EV5, EV6, Nat.reduceLT, entry, List.replicate, asg, setAll, reduceIte, Nat.reduceSub, Nat.reduceAdd, Int.reduceMul, Int.reduceAdd, Int.reduceLT, Int.reduceNeg, Nat.reduceLeDiff, wipeE, BIG, Ob.data, cellD, rowD, show (((3 : Nat) : Int) == 0) = false from rfl, show (((3 : Nat) : Int) == 1) = false from rfl, show (((3 : Nat) : Int) == 2) = false from rfl]
      exact ⟨b, gs, hB, rfl, by omega, rfl⟩
    · simp only [cont_cons, cont_nil, EV0, EV1, EV2, EV3, EV4, EV5, EV6, Nat.reduceLT, entry, List.replicate, asg, setAll, reduceIte, Nat.reduceSub, Nat.reduceAdd, Int.reduceMul, Int.reduceAdd, Int.reduceLT, Int.reduceNeg, Nat.reduceLeDiff, wipeE, BIG, Ob.data, cellD, rowD, show (((4 : Nat) : Int) == 0) = false from rfl, show (((4 : Nat) : Int) == 1) = false from rfl, show (((4 : Nat) : Int) == 2) = false from rfl]
      exact ⟨b, gs, hB, rfl, by omega, rfl⟩
    · simp only [cont_cons, cont_nil, EV0, EV1, EV2, EV3, EV4, EV5, EV6, Nat.reduceLT, entry, List.replicate, asg, setAll, reduceIte, Nat.reduceSub, Nat.reduceAdd, Int.reduceMul, Int.reduceAdd, Int.reduceLT, Int.reduceNeg, Nat.reduceLeDiff, wipeE, BIG, Ob.data, cellD, rowD, show (((5 : Nat) : Int) == 0) = false from rfl, show (((5 : Nat) : Int) == 1) = false from rfl, show (((5 : Nat) : Int) == 2) = false from rfl]
      exact ⟨b, gs, hB, rfl, by omega, rfl⟩
  · rintro ρ S ⟨b, gs, hB, rfl, h20, rfl⟩
    generalize S' ++ [b] = S2
    generalize S'.length = n1
    rw [cont_cons]
    simp only [EV0, EV1, EV2, EV3, EV4, EV5, EV6, Nat.reduceLT, entry, List.replicate, asg, setAll, reduceIte, Nat.reduceSub, Nat.reduceAdd, Int.reduceMul, Int.reduceAdd, Int.reduceLT, Int.reduceNeg, Nat.reduceLeDiff, wipeE, BIG, Ob.data, cellD, rowD]
    refine wl_map cellD gs (fun g => D.tup [cellD g, .non]) (by simp only [EV0, EV1, EV2, EV3, EV4, EV5, EV6, Nat.reduceLT, entry, List.replicate, asg, setAll, reduceIte, Nat.reduceSub, Nat.reduceAdd, Int.reduceMul, Int.reduceAdd, Int.reduceLT, Int.reduceNeg, Nat.reduceLeDiff, wipeE, BIG, Ob.data, cellD, rowD]) (by show gs.length < 1000000; omega) ?_ ?_
    · intro g hg
      refine ⟨_, rfl, fun ys => ?_⟩
      simp only [EV0, EV1, EV2, EV3, EV4, EV5, EV6, Nat.reduceLT, entry, List.replicate, asg, setAll, reduceIte, Nat.reduceSub, Nat.reduceAdd, Int.reduceMul, Int.reduceAdd, Int.reduceLT, Int.reduceNeg, Nat.reduceLeDiff, wipeE, BIG, Ob.data, cellD, rowD, cellD]
    · simp only [EV0, EV1, EV2, EV3, EV4, EV5, EV6, Nat.reduceLT, entry, List.replicate, asg, setAll, reduceIte, Nat.reduceSub, Nat.reduceAdd, Int.reduceMul, Int.reduceAdd, Int.reduceLT, Int.reduceNeg, Nat.reduceLeDiff, wipeE, BIG, Ob.data, cellD, rowD]
      rw [← nonD_eq H gs]
      try simp only [EV0, EV1, EV2, EV3, EV4, EV5, EV6, Nat.reduceLT, entry, List.replicate, asg, setAll, reduceIte, Nat.reduceSub, Nat.reduceAdd, Int.reduceMul, Int.reduceAdd, Int.reduceLT, Int.reduceNeg, Nat.reduceLeDiff, wipeE, BIG, Ob.data, cellD, rowD]
      have hrl : (gs.map fun g => (g, (none : Option Int))).length ≤ 20 := by ((try simp only [List.length_append, List.length_take, List.length_drop, List.length_cons, List.length_nil, List.length_map, List.length_range, List.length_set]); omega)
      have hi := watch_init_ok H 9 O gs S2 (by omega)
      generalize (gs.map fun g => (g, (none : Option Int))) = rs at hi hrl
      rw [cont_cons]
      simp only [EV0, EV1, EV2, EV3, EV4, EV5, EV6, Nat.reduceLT, entry, List.replicate, asg, setAll, reduceIte, Nat.reduceSub, Nat.reduceAdd, Int.reduceMul, Int.reduceAdd, Int.reduceLT, Int.reduceNeg, Nat.reduceLeDiff, wipeE, BIG, Ob.data, cellD, rowD, l_are_readings2_eq H 11 O.Rc rs 0 _ (show rs.length ≤ 900 by omega)]
      rw [cont_cons]
      simp only [EV0, EV1, EV2, EV3, EV4, EV5, EV6, Nat.reduceLT, entry, List.replicate, asg, setAll, reduceIte, Nat.reduceSub, Nat.reduceAdd, Int.reduceMul, Int.reduceAdd, Int.reduceLT, Int.reduceNeg, Nat.reduceLeDiff, wipeE, BIG, Ob.data, cellD, rowD]
      rw [cont_cons]
      simp only [EV0, EV1, EV2, EV3, EV4, EV5, EV6, Nat.reduceLT, entry, List.replicate, asg, setAll, reduceIte, Nat.reduceSub, Nat.reduceAdd, Int.reduceMul, Int.reduceAdd, Int.reduceLT, Int.reduceNeg, Nat.reduceLeDiff, wipeE, BIG, Ob.data, cellD, rowD]
      have hm : Wp ((callF tbl 13 187 [.r S2.length, .d (chD rows src), .d (.tup (gs.map cellD))] (S2 ++ [.ins 1 []])).bind (kMk 1 S2.length)) (fun v SX => rdB rows rs 0 = true ∧ v = .r S2.length ∧ SX = S2 ++ [.ins 1 (wtF (chD rows src) (.tup [.tup (rs.map rdD), .int 0]) (.tup []))]) (fun c p SX => rdB rows rs 0 = false ∧ c = 14 ∧ p = [] ∧ ∃ ob, SX = S2 ++ [ob]) := by
        rw [wp_bind]
        refine hi.mono ?_ fun _ _ _ z => z
        rintro v SX ⟨hg, rfl, rfl⟩
        rw [kmk_1 (get_app0 _ _ _) _ rfl, wp_ok]
        exact ⟨hg, rfl, rfl⟩
      rw [← wp_bind]
      refine hm.mono ?_ ?_
      · rintro v S3 ⟨he, rfl, rfl⟩
        simp only [cont_cons, cont_nil, EV0, EV1, EV2, EV3, EV4, EV5, EV6, Nat.reduceLT, entry, List.replicate, asg, setAll, reduceIte, Nat.reduceSub, Nat.reduceAdd, Int.reduceMul, Int.reduceAdd, Int.reduceLT, Int.reduceNeg, Nat.reduceLeDiff, wipeE, BIG, Ob.data, cellD, rowD, he, Sec]
        have hW : IsW S2.length (chD rows src) (.tup [.tup (rs.map rdD), .int 0]) (.tup (([] : List (D × D)).map pastD)) (S2 ++ [Ob.ins 1 (wtF (chD rows src) (.tup [.tup (rs.map rdD), .int 0]) (.tup [])), Ob.frz (.lst []), Ob.lst [.tup (rs.map rdD), .int 0, .lst []]]) := ⟨by simp⟩
        have hms : (S2 ++ [Ob.ins 1 (wtF (chD rows src) (.tup [.tup (rs.map rdD), .int 0]) (.tup [])), Ob.frz (.lst []), Ob.lst [.tup (rs.map rdD), .int 0, .lst []]])[S2.length + 2]? = some (.lst [.tup (rs.map rdD), .int 0, .lst (([] : List (D × D)).map pastD)]) := by
          rw [List.getElem?_append_right (by omega)]
          simp
        simp only [EV0, EV1, EV2, EV3, EV4, EV5, EV6, Nat.reduceLT, entry, List.replicate, asg, setAll, reduceIte, Nat.reduceSub, Nat.reduceAdd, Int.reduceMul, Int.reduceAdd, Int.reduceLT, Int.reduceNeg, Nat.reduceLeDiff, wipeE, BIG, Ob.data, cellD, rowD, l_stands_ok H 4 (L := []) (by simp) (show rs.length < 1000 by omega) ⟨2, by decide, rfl⟩ hW hms]
      · rintro c p S3 ⟨he, rfl, rfl, ob, rfl⟩
        simp only [cont_cons, cont_nil, EV0, EV1, EV2, EV3, EV4, EV5, EV6, Nat.reduceLT, entry, List.replicate, asg, setAll, reduceIte, Nat.reduceSub, Nat.reduceAdd, Int.reduceMul, Int.reduceAdd, Int.reduceLT, Int.reduceNeg, Nat.reduceLeDiff, wipeE, BIG, Ob.data, cellD, rowD, he, Sec, show excSub 14 10 = true from rfl, show excSub 14 14 = true from rfl, show excSub 14 11 = false from rfl]
end
end M
set_option Elab.async false
set_option linter.all false
set_option maxRecDepth 100000
set_option maxHeartbeats 0
/-! the law's text as data, its head -/
namespace K60
open PySem SW M
def N_wall : List Str := ["k"]
def f_wall : FnS := ⟨("_wall", none), d_wall, N_wall, false⟩
def N_is_ascending : List Str := ["row", "at"]
def f_is_ascending : FnS := ⟨("is_ascending", none), d_is_ascending, N_is_ascending, true⟩
def N_are_rows : List Str := ["rows", "signs", "sign", "row"]
def f_are_rows : FnS := ⟨("are_rows", none), d_are_rows, N_are_rows, true⟩
def N_Chart_init : List Str := ["self", "rows", "sources", "source"]
def f_Chart_init : FnS := ⟨("Chart", some "__init__"), d_Chart_init, N_Chart_init, true⟩
def N_is_cell : List Str := ["chart", "cell"]
def f_is_cell : FnS := ⟨("is_cell", none), d_is_cell, N_is_cell, false⟩
def N_sign_at : List Str := ["chart", "cell"]
def f_sign_at : FnS := ⟨("sign_at", none), d_sign_at, N_sign_at, false⟩
def N_is_water : List Str := ["chart", "cell"]
def f_is_water : FnS := ⟨("is_water", none), d_is_water, N_is_water, false⟩
def N_check_readings : List Str := ["chart", "readings", "clock", "places", "gauge", "time"]
def f_check_readings : FnS := ⟨("check_readings", none), d_check_readings, N_check_readings, true⟩
def N_Watch_init : List Str := ["self", "chart", "gauges", "readings", "gauge"]
def f_Watch_init : FnS := ⟨("Watch", some "__init__"), d_Watch_init, N_Watch_init, false⟩
def N_Watch_readings : List Str := ["self"]
def f_Watch_readings : FnS := ⟨("Watch", some "readings"), d_Watch_readings, N_Watch_readings, false⟩
def N_Watch_clock : List Str := ["self"]
def f_Watch_clock : FnS := ⟨("Watch", some "clock"), d_Watch_clock, N_Watch_clock, false⟩
def N_Watch_log : List Str := ["self", "state", "observed"]
def f_Watch_log : FnS := ⟨("Watch", some "log"), d_Watch_log, N_Watch_log, false⟩
def N_Watch_check_reports : List Str := ["self", "clock", "reports"]
def f_Watch_check_reports : FnS := ⟨("Watch", some "check_reports"), d_Watch_check_reports, N_Watch_check_reports, false⟩
def N_Watch_observe : List Str := ["self", "clock", "reports"]
def f_Watch_observe : FnS := ⟨("Watch", some "observe"), d_Watch_observe, N_Watch_observe, false⟩
def N_Watch_undo : List Str := ["self"]
def f_Watch_undo : FnS := ⟨("Watch", some "undo"), d_Watch_undo, N_Watch_undo, false⟩
def N_Watch_fork : List Str := ["self"]
def f_Watch_fork : FnS := ⟨("Watch", some "fork"), d_Watch_fork, N_Watch_fork, false⟩
def N_Watch_earliest : List Str := ["self"]
def f_Watch_earliest : FnS := ⟨("Watch", some "earliest"), d_Watch_earliest, N_Watch_earliest, false⟩
def N_Watch_latest : List Str := ["self"]
def f_Watch_latest : FnS := ⟨("Watch", some "latest"), d_Watch_latest, N_Watch_latest, false⟩
def N_Watch_escape : List Str := ["self", "start"]
def f_Watch_escape : FnS := ⟨("Watch", some "escape"), d_Watch_escape, N_Watch_escape, false⟩
def N_Watch_last_minute : List Str := ["self", "start"]
def f_Watch_last_minute : FnS := ⟨("Watch", some "last_minute"), d_Watch_last_minute, N_Watch_last_minute, false⟩
def N_l_cell : List Str := ["_law_script", "_law_k"]
def f_l_cell : FnS := ⟨("_law_cell", none), d_l_cell, N_l_cell, false⟩
def N_l_digits : List Str := ["_law_cell_here", "_law_at", "_law_digits_here", "_law_turn", "_law_seed"]
def f_l_digits : FnS := ⟨("_law_digits", none), d_l_digits, N_l_digits, false⟩
def N_l_box : List Str := ["_law_script", "_law_at"]
def f_l_box : FnS := ⟨("_law_box", none), d_l_box, N_l_box, false⟩
def N_l_draw : List Str := ["_law_box_here", "_law_many", "_law_at"]
def f_l_draw : FnS := ⟨("_law_draw", none), d_l_draw, N_l_draw, false⟩
def N_l_is_integer : List Str := ["_law_actual"]
def f_l_is_integer : FnS := ⟨("_law_is_integer", none), d_l_is_integer, N_l_is_integer, false⟩
def N_l_same : List Str := ["_law_actual", "_law_due", "_law_at"]
def f_l_same : FnS := ⟨("_law_same", none), d_l_same, N_l_same, false⟩
def N_l_line : List Str := ["_law_box_here", "_law_wide", "_law_signs", "_law_k"]
def f_l_line : FnS := ⟨("_law_line", none), d_l_line, N_l_line, false⟩
def N_l_waters : List Str := ["_law_rows", "_law_found", "_law_row", "_law_column"]
def f_l_waters : FnS := ⟨("_law_waters", none), d_l_waters, N_l_waters, false⟩
def N_l_parts : List Str := ["_law_script", "_law_first", "_law_most_rows", "_law_most_columns", "_law_box_here", "_law_high", "_law_wide", "_law_rows", "_law_k", "_law_row", "_law_column", "_law_sources", "_law_place"]
def f_l_parts : FnS := ⟨("_law_parts", none), d_l_parts, N_l_parts, false⟩
def N_l_sign : List Str := ["_law_parts_here", "_law_place"]
def f_l_sign : FnS := ⟨("_law_sign", none), d_l_sign, N_l_sign, false⟩
def N_l_is_place : List Str := ["_law_parts_here", "_law_place"]
def f_l_is_place : FnS := ⟨("_law_is_place", none), d_l_is_place, N_l_is_place, false⟩
def N_l_are_readings2 : List Str := ["_law_parts_here", "_law_readings", "_law_clock", "_law_k", "_law_gauge", "_law_time"]
def f_l_are_readings2 : FnS := ⟨("_law_are_readings", none), d_l_are_readings2, N_l_are_readings2, false⟩
def N_l_some_gauges : List Str := ["_law_box_here", "_law_parts_here", "_law_found", "_law_place"]
def f_l_some_gauges : FnS := ⟨("_law_some_gauges", none), d_l_some_gauges, N_l_some_gauges, false⟩
def N_l_stands : List Str := ["_law_watch", "_law_model", "_law_row"]
def f_l_stands : FnS := ⟨("_law_stands", none), d_l_stands, N_l_stands, false⟩
def N_law27 : List Str := ["_law_script", "_law_parts_here", "_law_chart", "_law_box_here", "_law_gauges", "_law_kind", "_law_readings", "_law_gauge", "_law_good", "_law_watch", "e"]
def f_law27 : FnS := ⟨("law", none), d_law27, N_law27, false⟩
def spec : SW.Spec := ⟨[(186, f_wall), (0, f_is_ascending), (1, f_are_rows), (2, f_Chart_init), (3, f_is_cell), (4, f_sign_at), (5, f_is_water), (38, f_check_readings), (187, f_Watch_init), (188, f_Watch_readings), (189, f_Watch_clock), (190, f_Watch_log), (191, f_Watch_check_reports), (192, f_Watch_observe), (193, f_Watch_undo), (194, f_Watch_fork), (195, f_Watch_earliest), (196, f_Watch_latest), (197, f_Watch_escape), (198, f_Watch_last_minute), (6, f_l_cell), (7, f_l_digits), (8, f_l_box), (9, f_l_draw), (10, f_l_is_integer), (11, f_l_same), (12, f_l_line), (13, f_l_waters), (14, f_l_parts), (15, f_l_sign), (16, f_l_is_place), (63, f_l_are_readings2), (199, f_l_some_gauges), (200, f_l_stands), (201, f_law27)], [(0, 2), (1, 187)], [(0, "Chart"), (1, "Watch")], [(10, "ShoreError"), (11, "BadChart"), (14, "BadReadings")], [("WATER", .str ⟨#[49, 50, 51, 52, 53, 54, 55, 56, 57]⟩), ("LAND", .str ⟨#[97, 98, 99, 100, 101, 102, 103, 104, 105]⟩), ("HIGH", .str ⟨#[94]⟩), ("ROCK", .str ⟨#[35]⟩), ("MOST_SIDE", .int 7), ("MOST_SOURCES", .int 6), ("MOST_CLOCK", .int 90000)], ["len", "int", "str", "tuple", "sorted", "all", "isinstance", "range", "bool", "ValueError"], [0, 1, 2, 3, 4], 2, [("readings", 188), ("clock", 189), ("log", 190), ("check_reports", 191), ("observe", 192), ("undo", 193), ("fork", 194), ("earliest", 195), ("latest", 196), ("escape", 197), ("last_minute", 198)], "/claim/cut.py"⟩
def names0 : List Str := ["_wall", "__name__", "ShoreError", "BadChart", "BadReadings", "WATER", "LAND", "HIGH", "ROCK", "MOST_SIDE", "MOST_SOURCES", "MOST_CLOCK", "is_ascending", "are_rows", "Chart", "is_cell", "sign_at", "is_water", "check_readings", "Watch", "_law_cell", "_law_digits", "_law_box", "_law_draw", "_law_is_integer", "_law_same", "_law_line", "_law_waters", "_law_parts", "_law_sign"]
def names1 : List Str := ["_law_is_place", "_law_are_readings", "_law_some_gauges", "_law_stands"]
def names : List Str := names0 ++ names1
end K60
namespace K60
open PySem PySem.Spec PyProof.Rows L2 SW
abbrev R : PySem.W.OpenRow := PySem.W.OpenLaw.row PySem.Challenge.rw_shorewarn_k60_new_watches
abbrev hk : PySem.W.Hook := SW.hookXC 6 [] [] [] spec.tf (specB spec)
def ob (s : PySem.W.SharedT) : He.AlX := SW.obsXC 6 [] [] [] spec.tf (specB spec) (HandSHeadRun.getT s)
theorem ob_eq (s : PySem.W.SharedT) : ob s = hk.obs s.abs := SW.obsXC_eq (HandSHeadRun.getT_eq s)
theorem run (w : World) : HandSHeadRun.RunEq R (PySem.W.view R.prog [37]) hk ob 9000 names w := by
  intro os
  kernel_rfl
end K60
open PySem PySem.W PySem.Calls PyProof.Rows SW in
theorem K60.holds_of (dep : Nat) (hr : L2.Room (dep * stp K60.spec.gm) callerA) (H : K60.spec.holds 63 201 dep) : PySem.Challenge.rw_shorewarn_k60_new_watches.Holds := by
  w_on; o_law
  refine HandSHeadRun.head_any (r := OpenLaw.row PySem.Challenge.rw_shorewarn_k60_new_watches) (q := view (OpenLaw.row PySem.Challenge.rw_shorewarn_k60_new_watches).prog [37]) (H := K60.hk) (ob := K60.ob) (M := 9000) (loose := K60.names) (d := HandSHeadRun.topDef (OpenLaw.row PySem.Challenge.rw_shorewarn_k60_new_watches).prog 37) (kwd := []) K60.ob_eq
    (by kernel_rfl) (fun s => by kernel_rfl) K60.run (by kernel_rfl) (by kernel_rfl) (by kernel_rfl) (by rfl) (by first | assumption | decide +kernel) (by decide +kernel) ⟨rfl, rfl, rfl, rfl, rfl, by decide +kernel⟩ ?hw ?hc
  case hw => w_witness2
  case hc => exact walk_sw (S := K60.spec) (l := PySem.Challenge.rw_shorewarn_k60_new_watches) (n := 63) (k := 0) (i0 := 201) (dep := dep) (f0 := K60.f_law27) (x := "_law_script") rfl (by decide) (by kernel_rfl) hr rfl rfl rfl (by kernel_rfl) (by kernel_rfl) (by kernel_rfl) H

theorem K60.tb : M.Tb K60.spec.tbl := by
  constructor <;> rfl
set_option maxHeartbeats 8000000
theorem PySem.Challenge.cw_shorewarn_k60_new_watches_holds : PySem.Challenge.rw_shorewarn_k60_new_watches.Holds := by
  exact K60.holds_of 14 (by constructor <;> decide +kernel) fun ns h1 h2 => SW.holds_wp (M.k60_wp K60.tb ns [])
